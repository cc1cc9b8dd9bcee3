/- Numbers in so many bytes, the lowest ahead. -/
import Derived.Test.YticnihfjnjliiaaVb
namespace Go.Proofs.Yticnihfjnjliiaa.Fx
open Go.RowKit Go.Proofs.YticnihfjnjliiaaW.PrintWords Go.Proofs.YticnihfjnjliiaaW.PrintLast Go.Proofs.YticnihfjnjliiaaW.PrintMore Go.Proofs.Yticnihfjnjliiaa.Vb

def fxb (n : Int) (i : Nat) : Int := n / 2 ^ (8 * i) % 256
/-- The lowest m bytes of n. -/
def fx (n : Int) (m : Nat) : List Int := (List.range m).map (fxb n)
theorem fx_length (n : Int) (m : Nat) : (fx n m).length = m := by simp [fx]
theorem fx_succ (n : Int) (i : Nat) : fx n (i + 1) = fx n i ++ [fxb n i] := by simp [fx, List.range_succ]
theorem fx_bytes (n : Int) (m : Nat) : Bytes (fx n m) := by
  intro x hx
  obtain ⟨i, _, rfl⟩ := List.mem_map.1 hx
  unfold fxb
  omega
theorem fx_set (n : Int) (m i : Nat) (h : i < m) : (fx n i ++ List.replicate (m - i) 0).set i (fxb n i) = fx n (i + 1) ++ List.replicate (m - (i + 1)) 0 := by
  rw [fx_succ, List.set_append_right _ _ (by rw [fx_length]; exact Nat.le_refl _), fx_length, Nat.sub_self]
  obtain ⟨q, hq⟩ : ∃ q, m - i = q + 1 := ⟨m - i - 1, by omega⟩
  rw [hq, List.replicate_succ, List.set_cons_zero, show m - (i + 1) = q from by omega]
  simp
/-- The number of a list's first eight bytes, from place i on. -/
def un : List Int → Nat → Int
  | [], _ => 0
  | c :: r, i => if 8 ≤ i then 0 else c * 256 ^ i + un r (i + 1)
theorem or_fix (x c : Int) (i : Nat) (hx0 : 0 ≤ x) (hx : x < 256 ^ i) (h0 : 0 ≤ c) (h1 : c < 256) (hi : i ≤ 7) :
    Go.bits .or .u64 x (IntKind.u64.wrap (IntKind.u64.wrap c * 2 ^ (8 * i))) = x + c * 256 ^ i ∧ x + c * 256 ^ i < 256 ^ (i + 1) ∧ 0 ≤ x + c * 256 ^ i := by
  have e7 : (2 : Int) ^ (8 * i) = 256 ^ i := by rw [Int.pow_mul]; rfl
  have hp : (0 : Int) < 256 ^ i := Int.pow_pos (by decide)
  have hs : (256 : Int) ^ (i + 1) = 256 ^ i * 256 := Int.pow_succ ..
  have hle : c * 256 ^ i ≤ 255 * 256 ^ i := Int.mul_le_mul_of_nonneg_right (by omega) (by omega)
  have hge : 0 ≤ c * 256 ^ i := Int.mul_nonneg h0 (by omega)
  have hpow : (256 : Int) ^ i ≤ 256 ^ 7 := by
    have h := Int.ofNat_le.2 (Nat.pow_le_pow_right (n := 256) (by omega) hi)
    rw [Int.natCast_pow, Int.natCast_pow] at h
    exact h
  have e8 : (256 : Int) ^ 7 = 72057594037927936 := by decide
  rw [wrap_u64_in c h0 (by omega), e7]
  refine ⟨?_, by rw [hs]; omega, by omega⟩
  rw [wrap_u64_in _ hge (by omega), Go.u64_or x _ hx0 (by omega) hge (by omega)]
  have h2 : ((2 ^ (8 * i) : Nat) : Int) = 256 ^ i := by rw [← e7]; exact Int.natCast_pow ..
  have k1 : x.toNat < 2 ^ (8 * i) := by omega
  have k2 : (c * 256 ^ i).toNat = 2 ^ (8 * i) * c.toNat := by
    have h3 : ((2 ^ (8 * i) * c.toNat : Nat) : Int) = c * 256 ^ i := by
      rw [Int.natCast_mul, h2, Int.mul_comm, Int.toNat_of_nonneg h0]
    omega
  rw [k2, Nat.or_comm, ← Nat.two_pow_add_eq_or_of_lt k1, ← k2]
  omega
theorem un_nine (l : List Int) (i : Nat) (h : 8 ≤ i) : un l i = 0 := by
  cases l with
  | nil => rfl
  | cons c r => simp only [un]; rw [if_pos h]
theorem un_fx (n : Int) (h0 : 0 ≤ n) (h1 : n < 18446744073709551616) : un (fx n 8) 0 = n := by
  have e : fx n 8 = [n / 2 ^ 0 % 256, n / 2 ^ 8 % 256, n / 2 ^ 16 % 256, n / 2 ^ 24 % 256, n / 2 ^ 32 % 256, n / 2 ^ 40 % 256, n / 2 ^ 48 % 256, n / 2 ^ 56 % 256] := rfl
  rw [e]
  simp only [un, Nat.reduceAdd, Nat.reduceLeDiff, if_false, Int.reducePow]
  omega
end Go.Proofs.Yticnihfjnjliiaa.Fx
