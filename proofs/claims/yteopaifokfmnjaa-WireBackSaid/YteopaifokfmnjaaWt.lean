/- The field that bytes begin with: what both programs answer. -/
import Derived.Test.YteopaifokfmnjaaWr
namespace Go.Proofs.Yteopaifokfmnjaa.Wt
open Go.RowKit Go.Proofs.YteopaifokfmnjaaW.PrintWords Go.Proofs.YteopaifokfmnjaaW.PrintLast Go.Proofs.YteopaifokfmnjaaW.PrintMore Go.Proofs.Yteopaifokfmnjaa.Vb Go.Proofs.Yteopaifokfmnjaa.Fx Go.Proofs.Yteopaifokfmnjaa.Wr

theorem wrap64_in (x : Int) (h0 : -9223372036854775808 ≤ x) (h1 : x < 9223372036854775808) : wrap64 x = x := by unfold wrap64; omega
theorem tr_bound (l : List Int) : ∀ i v, Bytes l → i ≤ 9 → tr l i = some v → 0 ≤ v.1 ∧ v.1 + 128 ^ i ≤ 18446744073709551616 := by
  induction l with
  | nil => intro i v _ _ h; simp [tr] at h
  | cons c r ih =>
    intro i v hb hi h
    have hc := hb c (List.mem_cons_self ..)
    have hr : Bytes r := fun x hx => hb x (List.mem_cons_of_mem _ hx)
    have hp : (0 : Int) < 128 ^ i := Int.pow_pos (by decide)
    have hs : (128 : Int) ^ (i + 1) = 128 ^ i * 128 := Int.pow_succ ..
    have e8 : (128 : Int) ^ 8 = 72057594037927936 := by decide
    have e9 : (128 : Int) ^ 9 = 9223372036854775808 := by decide
    simp only [tr] at h
    rw [if_neg (by omega)] at h
    by_cases h9 : i = 9 ∧ 1 < c
    · rw [if_pos h9] at h; cases h
    rw [if_neg h9] at h
    by_cases h1 : c < 128
    · rw [if_pos h1] at h
      cases h
      show 0 ≤ c * 128 ^ i ∧ c * 128 ^ i + 128 ^ i ≤ _
      have hge : 0 ≤ c * 128 ^ i := Int.mul_nonneg hc.1 (by omega)
      refine ⟨hge, ?_⟩
      rcases Nat.lt_or_ge i 9 with h | h
      · have : (128 : Int) ^ i ≤ 128 ^ 8 := by
          have := Int.ofNat_le.2 (Nat.pow_le_pow_right (n := 128) (by omega) (show i ≤ 8 by omega))
          rw [Int.natCast_pow, Int.natCast_pow] at this
          exact this
        have hle : c * 128 ^ i ≤ 127 * 128 ^ i := Int.mul_le_mul_of_nonneg_right (by omega) (by omega)
        omega
      · have h : i = 9 := by omega
        subst h
        have : c ≤ 1 := by
          rcases Int.lt_or_le 1 c with h | h
          · exact absurd ⟨rfl, h⟩ h9
          · exact h
        rw [e9]
        omega
    · rw [if_neg h1] at h
      obtain ⟨u, hu, rfl⟩ := Option.map_eq_some_iff.1 h
      have hi8 : i ≤ 8 := by
        rcases Nat.lt_or_ge i 9 with h | h
        · omega
        · exact absurd ⟨by omega, by omega⟩ h9
      have ⟨k0, k1⟩ := ih (i + 1) u hr (by omega) hu
      have hle : c % 128 * 128 ^ i ≤ 127 * 128 ^ i := Int.mul_le_mul_of_nonneg_right (by omega) (by omega)
      have hge : 0 ≤ c % 128 * 128 ^ i := Int.mul_nonneg (by omega) (by omega)
      show 0 ≤ c % 128 * 128 ^ i + u.1 ∧ c % 128 * 128 ^ i + u.1 + 128 ^ i ≤ _
      rw [hs] at k1
      omega
theorem tr_64 {l : List Int} {v : Int × Nat} (hb : Bytes l) (h : tr l 0 = some v) : 0 ≤ v.1 ∧ v.1 < 18446744073709551616 ∧ 0 < v.2 ∧ v.2 ≤ l.length ∧ v.2 ≤ 10 := by
  have h1 := tr_bound l 0 v hb (by omega) h
  have h2 := tr_le l 0 v h
  simp only [Int.pow_zero] at h1
  omega
theorem and7 (x : Int) (h0 : 0 ≤ x) (h1 : x < 18446744073709551616) : Go.bits .and .u64 x 7 = x % 8 := by
  rw [Go.u64_and x 7 h0 (by omega) (by omega) (by omega)]
  have h := Nat.and_two_pow_sub_one_eq_mod x.toNat 3
  show ((x.toNat &&& (2 ^ 3 - 1) : Nat) : Int) = _
  rw [h]
  omega
/-- Nothing, and why. -/
def no (e : Int) : Int × Int × Int × List Int × Int × Int := (0, 0, 0, [], 0, e)
/-- A field whose number and kind are read. -/
def tkRest (num kind used : Int) (rest : List Int) : Int × Int × Int × List Int × Int × Int :=
  if kind = 1 then (if (rest.length : Int) < 8 then no 21 else (num, kind, un (rest.take 8) 0, [], used + 8, 0))
  else if kind = 5 then (if (rest.length : Int) < 4 then no 21 else (num, kind, un (rest.take 4) 0, [], used + 4, 0))
  else match tr rest 0 with
    | none => no 10
    | some v => if kind = 0 then (num, kind, v.1, [], used + (v.2 : Int), 0) else if (rest.length : Int) - (v.2 : Int) < v.1 then no 21
      else (num, kind, 0, (rest.drop v.2).take v.1.toNat, used + (v.2 : Int) + v.1, 0)
/-- The field that bytes begin with: number, kind, number, bytes; how many bytes it has; why not. -/
def tk (l : List Int) : Int × Int × Int × List Int × Int × Int :=
  match tr l 0 with
  | none => no 10
  | some v => if 4294967296 ≤ v.1 ∨ v.1 < 8 ∨ ¬ okKind (v.1 % 8) then no 20 else tkRest (v.1 / 8) (v.1 % 8) (v.2 : Int) (l.drop v.2)
theorem bytes_drop {l : List Int} (h : Bytes l) (n : Nat) : Bytes (l.drop n) := fun x hx => h x (List.mem_of_mem_drop hx)
theorem bytes_take {l : List Int} (h : Bytes l) (n : Nat) : Bytes (l.take n) := fun x hx => h x (List.mem_of_mem_take hx)
theorem tkRest_ok {num kind : Int} {used : Nat} {rest : List Int} (hb : Bytes rest) (h : (tkRest num kind (used : Int) rest).2.2.2.2.2 = 0) : (used : Int) < (tkRest num kind (used : Int) rest).2.2.2.2.1 ∧ (tkRest num kind (used : Int) rest).2.2.2.2.1 ≤ (used : Int) + (rest.length : Int) := by
  unfold tkRest at h ⊢
  by_cases h1 : kind = 1
  · rw [if_pos h1] at h ⊢
    by_cases h8 : (rest.length : Int) < 8
    · rw [if_pos h8] at h; exact absurd h (by decide)
    · rw [if_neg h8]
      show (used : Int) < used + 8 ∧ (used : Int) + 8 ≤ _
      omega
  rw [if_neg h1] at h ⊢
  by_cases h5 : kind = 5
  · rw [if_pos h5] at h ⊢
    by_cases h8 : (rest.length : Int) < 4
    · rw [if_pos h8] at h; exact absurd h (by decide)
    · rw [if_neg h8]
      show (used : Int) < used + 4 ∧ (used : Int) + 4 ≤ _
      omega
  rw [if_neg h5] at h ⊢
  cases e : tr rest 0 with
  | none => rw [e] at h; exact absurd (show (10 : Int) = 0 from h) (by decide)
  | some v =>
    obtain ⟨v0, v1, v2, v3, v4⟩ := tr_64 hb e
    rw [e] at h
    dsimp only at h ⊢
    by_cases h0 : kind = 0
    · rw [if_pos h0]
      show (used : Int) < used + (v.2 : Int) ∧ (used : Int) + (v.2 : Int) ≤ _
      omega
    rw [if_neg h0] at h ⊢
    by_cases h3 : (rest.length : Int) - (v.2 : Int) < v.1
    · rw [if_pos h3] at h; exact absurd h (by decide)
    · rw [if_neg h3]
      show (used : Int) < used + (v.2 : Int) + v.1 ∧ (used : Int) + (v.2 : Int) + v.1 ≤ _
      omega
theorem tk_ok {l : List Int} (hb : Bytes l) (h : (tk l).2.2.2.2.2 = 0) : 0 < (tk l).2.2.2.2.1 ∧ (tk l).2.2.2.2.1 ≤ (l.length : Int) := by
  unfold tk at h ⊢
  cases e : tr l 0 with
  | none => rw [e] at h; exact absurd (show (10 : Int) = 0 from h) (by decide)
  | some v =>
    obtain ⟨v0, v1, v2, v3, v4⟩ := tr_64 hb e
    rw [e] at h
    dsimp only at h ⊢
    by_cases hc : 4294967296 ≤ v.1 ∨ v.1 < 8 ∨ ¬ okKind (v.1 % 8)
    · rw [if_pos hc] at h; exact absurd h (by decide)
    · rw [if_neg hc] at h ⊢
      have := tkRest_ok (bytes_drop hb v.2) h
      rw [List.length_drop] at this
      omega
/-- All fields that bytes are, from a place on; or which one is refused. -/
def rr {β : Type} (mk : Int → Int → Int → List Int → β) (l : List Int) : Nat → Nat → List β → List β × Int × Int
  | 0, _, acc => (acc, 0, 0)
  | d + 1, i, acc => if i < l.length then (if (tk (l.drop i)).2.2.2.2.2 = 0 then rr mk l d (i + (tk (l.drop i)).2.2.2.2.1.toNat) (acc ++ [mk (tk (l.drop i)).1 (tk (l.drop i)).2.1 (tk (l.drop i)).2.2.1 (tk (l.drop i)).2.2.2.1]) else ([], (i : Int), (tk (l.drop i)).2.2.2.2.2)) else (acc, 0, 0)
end Go.Proofs.Yteopaifokfmnjaa.Wt
