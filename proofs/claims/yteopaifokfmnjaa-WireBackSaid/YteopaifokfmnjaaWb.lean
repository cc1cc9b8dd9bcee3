/- A field that is written is taken again, with nothing but what its kind has. -/
import Derived.Test.YteopaifokfmnjaaWj
namespace Go.Proofs.Yteopaifokfmnjaa.Wb
open Go.RowKit Go.Proofs.YteopaifokfmnjaaW.PrintWords Go.Proofs.YteopaifokfmnjaaW.PrintLast Go.Proofs.YteopaifokfmnjaaW.PrintMore Go.Proofs.Yteopaifokfmnjaa.Vb Go.Proofs.Yteopaifokfmnjaa.Fx Go.Proofs.Yteopaifokfmnjaa.Wr Go.Proofs.Yteopaifokfmnjaa.Wt Go.Proofs.Yteopaifokfmnjaa.Wj

theorem un_fx4 (n : Int) : un (fx n 4) 0 = n % 4294967296 := by
  have e : fx n 4 = [n / 2 ^ 0 % 256, n / 2 ^ 8 % 256, n / 2 ^ 16 % 256, n / 2 ^ 24 % 256] := rfl
  rw [e]
  simp only [un, Nat.reduceAdd, Nat.reduceLeDiff, if_false, Int.reducePow]
  omega
theorem and32 (x : Int) (h0 : 0 ≤ x) (h1 : x < 18446744073709551616) : Go.bits .and .u64 x 4294967295 = x % 4294967296 := by
  rw [Go.u64_and x 4294967295 h0 (by omega) (by omega) (by omega)]
  have h := Nat.and_two_pow_sub_one_eq_mod x.toNat 32
  show ((x.toNat &&& (2 ^ 32 - 1) : Nat) : Int) = _
  rw [h]
  omega
/-- The number, and the bytes, of a field of a kind. -/
def pn (kind n : Int) : Int := if kind = 2 then 0 else if kind = 5 then n % 4294967296 else n
def pb (kind : Int) (b : List Int) : List Int := if kind = 2 then b else []
theorem tk_field (num kind n : Int) (b more : List Int) (h : okField num kind) (n0 : 0 ≤ n) (n1 : n < 18446744073709551616) (hb : b.length < 9223372036854775808) :
    tk (field num kind n b ++ more) = (num, kind, pn kind n, pb kind b, ((field num kind n b).length : Int), 0) := by
  obtain ⟨h1, h2, hk⟩ := h
  have hk7 : 0 ≤ kind ∧ kind < 8 := by unfold okKind at hk; omega
  have hm : (((8 * num + kind).toNat : Nat) : Int) = 8 * num + kind := by omega
  have ht := tr_vb (worth kind n b ++ more) (8 * num + kind).toNat 0 (by omega) (by omega)
  have hf : field num kind n b ++ more = vb (8 * num + kind).toNat ++ (worth kind n b ++ more) := by unfold field; rw [List.append_assoc]
  have hfl : (field num kind n b).length = (vb (8 * num + kind).toNat).length + (worth kind n b).length := by unfold field; rw [List.length_append]
  rw [Int.pow_zero, Int.mul_one, hm, Nat.zero_add] at ht
  have e8 : (8 * num + kind) % 8 = kind := by omega
  have e9 : (8 * num + kind) / 8 = num := by omega
  rw [hf]
  unfold tk
  rw [ht]
  dsimp only
  rw [e8, e9, if_neg (fun h => h.elim (fun h => by omega) (fun h => h.elim (fun h => by omega) (fun h => h hk))), List.drop_left, hfl]
  generalize (vb (8 * num + kind).toNat).length = u
  unfold tkRest
  by_cases k1 : kind = 1
  · subst k1
    rw [if_pos rfl]
    have hw : worth 1 n b = fx n 8 := by unfold worth; rw [if_neg (by decide), if_pos rfl]
    have hl : (fx n 8).length = 8 := fx_length n 8
    rw [hw, if_neg (by rw [List.length_append, hl]; omega), List.take_left' hl, un_fx n n0 n1, hl]
    rfl
  rw [if_neg k1]
  by_cases k5 : kind = 5
  · subst k5
    rw [if_pos rfl]
    have hw : worth 5 n b = fx n 4 := by unfold worth; rw [if_neg (by decide), if_neg (by decide), if_pos rfl]
    have hl : (fx n 4).length = 4 := fx_length n 4
    rw [hw, if_neg (by rw [List.length_append, hl]; omega), List.take_left' hl, un_fx4 n, hl]
    rfl
  rw [if_neg k5]
  by_cases k0 : kind = 0
  · subst k0
    have hw : worth 0 n b = vb n.toNat := by unfold worth; rw [if_pos rfl]
    have ht := tr_vb more n.toNat 0 (by omega) (by omega)
    rw [Int.pow_zero, Int.mul_one, Nat.zero_add, Int.toNat_of_nonneg n0] at ht
    rw [hw, ht]
    dsimp only
    rw [if_pos rfl, Int.natCast_add]
    rfl
  · have k2 : kind = 2 := by unfold okKind at hk; omega
    subst k2
    have hw : worth 2 n b = vb b.length ++ b := by unfold worth; rw [if_neg (by decide), if_neg (by decide), if_neg (by decide)]
    have ht := tr_vb (b ++ more) b.length 0 (by omega) (by omega)
    rw [Int.pow_zero, Int.mul_one, Nat.zero_add] at ht
    rw [hw, List.append_assoc, ht]
    dsimp only
    rw [if_neg (by decide), if_neg (by rw [List.length_append, List.length_append]; omega), List.drop_left, Int.toNat_natCast, List.take_left, List.length_append, Int.natCast_add, Int.natCast_add, ← Int.add_assoc]
    rfl
theorem field_pos (num kind n : Int) (b : List Int) : 1 ≤ (field num kind n b).length := by
  unfold field
  rw [List.length_append]
  have := vb_pos (8 * num + kind).toNat
  omega
end Go.Proofs.Yteopaifokfmnjaa.Wb
