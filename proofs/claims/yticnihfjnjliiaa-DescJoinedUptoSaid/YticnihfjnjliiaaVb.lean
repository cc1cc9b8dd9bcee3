/- Numbers as bytes, seven bits a byte: what the two programs' loops come to. -/
import Derived.Laws.BitsAllLaws
import Derived.Laws.Bits128
import Derived.Test.YticnihfjnjliiaaWMore
import Derived.Test.YticnihfjnjliiaaWLast
namespace Go.Proofs.Yticnihfjnjliiaa.Vb
open Go.RowKit Go.Proofs.YticnihfjnjliiaaW.PrintWords Go.Proofs.YticnihfjnjliiaaW.PrintLast Go.Proofs.YticnihfjnjliiaaW.PrintMore

/-- n as bytes. -/
def vb (n : Nat) : List Int := if n < 128 then [(n : Int)] else ((n % 128 + 128 : Nat) : Int) :: vb (n / 128)
termination_by n
decreasing_by omega

theorem vb_small {n : Nat} (h : n < 128) : vb n = [(n : Int)] := by rw [vb, if_pos h]
theorem vb_large {n : Nat} (h : ¬ n < 128) : vb n = ((n % 128 + 128 : Nat) : Int) :: vb (n / 128) := by rw [vb, if_neg h]

theorem vb_pos (n : Nat) : 1 ≤ (vb n).length := by
  by_cases h : n < 128
  · rw [vb_small h]; simp
  · rw [vb_large h]; simp

theorem vb_le (k : Nat) : ∀ n : Nat, n < 128 ^ (k + 1) → (vb n).length ≤ k + 1 := by
  induction k with
  | zero => intro n h; rw [vb_small (by simpa using h)]; simp
  | succ k ih =>
    intro n h
    by_cases h1 : n < 128
    · rw [vb_small h1]; simp
    · rw [vb_large h1]
      have := ih (n / 128) (by rw [Nat.pow_succ] at h; omega)
      simp only [List.length_cons]; omega

theorem vb_ten (n : Nat) (h : n < 18446744073709551616) : (vb n).length ≤ 10 := vb_le 9 n (by omega)

theorem or128 (x : Int) (h : 0 ≤ x) : Go.bits .or .u8 (x % 256) 128 = ((x.toNat % 128 + 128 : Nat) : Int) := by
  rw [Go.u8_or (x % 256) 128 (by omega) (by omega) (by omega) (by omega)]
  have key : ∀ y : Nat, y < 256 → y ||| 128 = y % 128 + 128 := by decide +kernel
  have e : (x % 256).toNat = x.toNat % 256 := by omega
  rw [e]
  show ((x.toNat % 256 ||| 128 : Nat) : Int) = _
  rw [key _ (by omega)]
  congr 1
  omega

theorem wf_u64 {a : Int} (h : (Lit.int .u64 a).wf = true) : 0 ≤ a ∧ a < 18446744073709551616 := by
  simp [Lit.wf, IntKind.min, IntKind.max, IntKind.signed, IntKind.bits] at h
  omega

/-! ### the number that bytes begin with -/
theorem wrap_u64 (x : Int) : IntKind.u64.wrap x = x % 18446744073709551616 := by
  simp only [IntKind.wrap, IntKind.bits, IntKind.signed, Bool.false_and, Bool.false_eq_true, if_false]
  rfl
theorem wrap_u64_in (x : Int) (h0 : 0 ≤ x) (h1 : x < 18446744073709551616) : IntKind.u64.wrap x = x := by
  rw [wrap_u64]; exact Int.emod_eq_of_lt h0 h1
theorem wf_u8 {a : Int} (h : (Lit.int .u8 a).wf = true) : 0 ≤ a ∧ a < 256 := by
  simp [Lit.wf, IntKind.min, IntKind.max, IntKind.signed, IntKind.bits] at h
  omega
theorem wf_i64 {a : Int} (h : (Lit.int .i64 a).wf = true) : -9223372036854775808 ≤ a ∧ a < 9223372036854775808 := by
  simp [Lit.wf, IntKind.min, IntKind.max, IntKind.signed, IntKind.bits] at h
  omega
/-- Bytes: numbers from 0 to 255. -/
def Bytes (l : List Int) : Prop := ∀ x ∈ l, 0 ≤ x ∧ x < 256
theorem bytes_of_wf {l : List Int} (h : ∀ x ∈ l, (Lit.int .u8 x).wf = true) : Bytes l := fun x hx => wf_u8 (h x hx)
theorem Bytes.rd {l : List Int} (h : Bytes l) (i : Int) : 0 ≤ rd l i ∧ rd l i < 256 := by
  unfold Go.Proofs.YticnihfjnjliiaaW.PrintWords.rd
  rw [List.getD_eq_getElem?_getD]
  cases e : l[i.toNat]? with
  | none => simp
  | some x => simpa using h x (List.mem_of_getElem? e)
theorem rd_drop {l : List Int} {i : Nat} (h : i < l.length) : l.drop i = rd l (i : Int) :: l.drop (i + 1) := by
  rw [List.drop_eq_getElem_cons h]
  congr 1
  simp [rd, h]
theorem vb_bytes (n : Nat) : Bytes (vb n) := by
  induction n using Nat.strongRecOn with
  | _ n ih =>
    intro x hx
    by_cases h : n < 128
    · rw [vb_small h] at hx
      simp only [List.mem_singleton] at hx
      omega
    · rw [vb_large h] at hx
      rcases List.mem_cons.1 hx with rfl | hx
      · omega
      · exact ih (n / 128) (by omega) x hx
theorem and127 (c : Int) (h0 : 0 ≤ c) (h1 : c < 256) : Go.bits .and .u8 c 127 = c % 128 := by
  rw [Go.u8_and c 127 h0 h1 (by omega) (by omega)]
  have key : ∀ y : Nat, y < 256 → y &&& 127 = y % 128 := by decide +kernel
  show ((c.toNat &&& 127 : Nat) : Int) = _
  rw [key _ (by omega)]
  omega
theorem and128 (c : Int) (h0 : 0 ≤ c) (h1 : c < 256) : (Go.bits .and .u8 c 128 = 0) = (c < 128) := by
  rw [Go.u8_and c 128 h0 h1 (by omega) (by omega)]
  have key : ∀ y : Nat, y < 256 → (y &&& 128 = 0 ↔ y < 128) := by decide +kernel
  have := key c.toNat (by omega)
  show (((c.toNat &&& 128 : Nat) : Int) = 0) = _
  apply propext
  omega
/-- What the two programs add up: bits that lie apart. -/
theorem or_add (x c : Int) (i : Nat) (hx0 : 0 ≤ x) (hx : x < 128 ^ i) (h0 : 0 ≤ c) (h1 : c < 256) (hi : i ≤ 9) (h9 : i = 9 → c ≤ 1) :
    Go.bits .or .u64 x (IntKind.u64.wrap (IntKind.u64.wrap (Go.bits .and .u8 c 127) * 2 ^ (7 * i))) = x + c % 128 * 128 ^ i ∧ x + c % 128 * 128 ^ i < 128 ^ (i + 1) ∧ x + c % 128 * 128 ^ i < 18446744073709551616 := by
  rw [and127 c h0 h1, wrap_u64_in (c % 128) (by omega) (by omega)]
  have e7 : (2 : Int) ^ (7 * i) = 128 ^ i := by rw [Int.pow_mul]; rfl
  have hm : 0 ≤ c % 128 ∧ c % 128 ≤ 127 := by omega
  have hp : (0 : Int) < 128 ^ i := Int.pow_pos (by decide)
  have hs : (128 : Int) ^ (i + 1) = 128 ^ i * 128 := Int.pow_succ ..
  have hle : c % 128 * 128 ^ i ≤ 127 * 128 ^ i := Int.mul_le_mul_of_nonneg_right hm.2 (by omega)
  have hge : 0 ≤ c % 128 * 128 ^ i := Int.mul_nonneg hm.1 (by omega)
  have hbig : x + c % 128 * 128 ^ i < 18446744073709551616 := by
    rcases Nat.lt_or_ge i 9 with h | h
    · have : (128 : Int) ^ i ≤ 128 ^ 8 := by
        have := Nat.pow_le_pow_right (n := 128) (by omega) (show i ≤ 8 by omega)
        exact_mod_cast this
      have e8 : (128 : Int) ^ 8 = 72057594037927936 := by decide
      omega
    · obtain rfl : i = 9 := by omega
      have := h9 rfl
      have e9 : (128 : Int) ^ 9 = 9223372036854775808 := by decide
      rw [e9] at hx ⊢
      omega
  rw [e7]
  refine ⟨?_, by rw [hs]; omega, hbig⟩
  rw [wrap_u64_in _ hge (by omega), Go.u64_or x _ hx0 (by omega) hge (by omega)]
  have k1 : x.toNat < 2 ^ (7 * i) := by
    have h2 : ((2 ^ (7 * i) : Nat) : Int) = 128 ^ i := by rw [← e7]; exact Int.natCast_pow ..
    omega
  have k2 : (c % 128 * 128 ^ i).toNat = 2 ^ (7 * i) * (c % 128).toNat := by
    have h2 : ((2 ^ (7 * i) : Nat) : Int) = 128 ^ i := by rw [← e7]; exact Int.natCast_pow ..
    have h3 : ((2 ^ (7 * i) * (c % 128).toNat : Nat) : Int) = c % 128 * 128 ^ i := by
      rw [Int.natCast_mul, h2, Int.mul_comm, Int.toNat_of_nonneg hm.1]
    omega
  rw [k2, Nat.or_comm, ← Nat.two_pow_add_eq_or_of_lt k1, ← k2]
  omega
/-- The number that bytes begin with, from place i on, and how many bytes were taken in all. -/
def tr : List Int → Nat → Option (Int × Nat)
  | [], _ => none
  | c :: r, i => if 10 ≤ i then none else if i = 9 ∧ 1 < c then none else if c < 128 then some (c * 128 ^ i, i + 1) else (tr r (i + 1)).map fun v => (c % 128 * 128 ^ i + v.1, v.2)
/-- As both programs answer it. -/
def told (x : Int) : Option (Int × Nat) → Int × Int × Int
  | none => (0, 0, 10)
  | some v => (x + v.1, (v.2 : Int), 0)
theorem tr_vb (more : List Int) (n : Nat) : ∀ i : Nat, n * 128 ^ i < 18446744073709551616 → i ≤ 9 → tr (vb n ++ more) i = some ((n : Int) * 128 ^ i, i + (vb n).length) := by
  induction n using Nat.strongRecOn with
  | _ n ih =>
    intro i hn hi
    have h9 : i = 9 → n ≤ 1 := fun h => by
      subst h
      have e9 : 128 ^ 9 = 9223372036854775808 := by decide
      rw [e9] at hn
      omega
    by_cases h : n < 128
    · rw [vb_small h]
      simp only [List.cons_append, List.nil_append, tr]
      rw [if_neg (by omega), if_neg (by rintro ⟨h1, h2⟩; have := h9 h1; omega), if_pos (by omega)]
      simp
    · rw [vb_large h]
      simp only [List.cons_append, tr]
      have hlt : i < 9 := by
        rcases Nat.lt_or_ge i 9 with h1 | h1
        · exact h1
        · have := h9 (by omega); omega
      rw [if_neg (by omega), if_neg (by rintro ⟨h1, h2⟩; omega), if_neg (by omega)]
      have hd : n / 128 * 128 ^ (i + 1) ≤ n * 128 ^ i := by
        rw [Nat.pow_succ, Nat.mul_comm (128 ^ i) 128, ← Nat.mul_assoc]
        exact Nat.mul_le_mul_right _ (Nat.div_mul_le_self n 128)
      rw [ih (n / 128) (by omega) (i + 1) (by omega) (by omega)]
      simp only [Option.map_some, List.length_cons, Option.some.injEq, Prod.mk.injEq]
      refine ⟨?_, by omega⟩
      have e1 : ((n % 128 + 128 : Nat) : Int) % 128 = (n : Int) % 128 := by omega
      rw [e1, Int.pow_succ, Int.mul_comm (128 ^ i) 128, ← Int.mul_assoc, ← Int.add_mul]
      congr 1
      omega
theorem tr_cut (n : Nat) : ∀ i cut : Nat, cut < (vb n).length → tr ((vb n).take cut) i = none := by
  induction n using Nat.strongRecOn with
  | _ n ih =>
    intro i cut hc
    cases cut with
    | zero => simp [tr]
    | succ cut =>
      by_cases h : n < 128
      · rw [vb_small h] at hc; simp at hc
      · rw [vb_large h] at hc ⊢
        simp only [List.take_succ_cons, tr]
        simp only [List.length_cons] at hc
        rw [ih (n / 128) (by omega) (i + 1) cut (by omega)]
        split
        · rfl
        · split
          · rfl
          · rw [if_neg (by omega)]; rfl
theorem tr_le (l : List Int) : ∀ i v, tr l i = some v → i < v.2 ∧ v.2 ≤ i + l.length ∧ v.2 ≤ 10 := by
  induction l with
  | nil => intro i v h; simp [tr] at h
  | cons c r ih =>
    intro i v h
    simp only [tr] at h
    split at h
    · cases h
    · split at h
      · cases h
      · split at h
        · cases h; simp only [List.length_cons]; omega
        · obtain ⟨u, hu, rfl⟩ := Option.map_eq_some_iff.1 h
          have := ih _ _ hu
          simp only [List.length_cons]; omega
end Go.Proofs.Yticnihfjnjliiaa.Vb
