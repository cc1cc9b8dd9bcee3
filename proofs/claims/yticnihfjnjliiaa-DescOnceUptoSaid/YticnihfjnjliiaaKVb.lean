/- Numbers as bytes, seven bits a byte: what the two programs' loops come to. -/
import Derived.Laws.BitsAllLaws
import Derived.Laws.Bits128
import Derived.Test.YticnihfjnjliiaaKWMore
import Derived.Test.YticnihfjnjliiaaKWLast
namespace Go.Proofs.Yticnihfjnjliiaa.Vb
open Go.RowKit Go.Proofs.YticnihfjnjliiaaW.PrintWords Go.Proofs.YticnihfjnjliiaaW.PrintLast Go.Proofs.YticnihfjnjliiaaW.PrintMore

/-- n as bytes. -/
def vb (n : Nat) : List Int := if n < 128 then [(n : Int)] else ((n % 128 + 128 : Nat) : Int) :: vb (n / 128)
termination_by n
decreasing_by omega

theorem vb_small {n : Nat} (h : n < 128) : vb n = [(n : Int)] := by rw [vb, if_pos h]
theorem vb_large {n : Nat} (h : ¬ n < 128) : vb n = ((n % 128 + 128 : Nat) : Int) :: vb (n / 128) := by rw [vb, if_neg h]

theorem vb_pos (n : Nat) : 1 ≤ (vb n).length := by
  by_cases h : n < 128
  · rw [vb_small h]; simp
  · rw [vb_large h]; simp

theorem vb_le (k : Nat) : ∀ n : Nat, n < 128 ^ (k + 1) → (vb n).length ≤ k + 1 := by
  induction k with
  | zero => intro n h; rw [vb_small (by simpa using h)]; simp
  | succ k ih =>
    intro n h
    by_cases h1 : n < 128
    · rw [vb_small h1]; simp
    · rw [vb_large h1]
      have := ih (n / 128) (by rw [Nat.pow_succ] at h; omega)
      simp only [List.length_cons]; omega

theorem vb_ten (n : Nat) (h : n < 18446744073709551616) : (vb n).length ≤ 10 := vb_le 9 n (by omega)

theorem or128 (x : Int) (h : 0 ≤ x) : Go.bits .or .u8 (x % 256) 128 = ((x.toNat % 128 + 128 : Nat) : Int) := by
  rw [Go.u8_or (x % 256) 128 (by omega) (by omega) (by omega) (by omega)]
  have key : ∀ y : Nat, y < 256 → y ||| 128 = y % 128 + 128 := by decide +kernel
  have e : (x % 256).toNat = x.toNat % 256 := by omega
  rw [e]
  show ((x.toNat % 256 ||| 128 : Nat) : Int) = _
  rw [key _ (by omega)]
  congr 1
  omega

/-! ### the number that bytes begin with -/
theorem wrap_u64 (x : Int) : IntKind.u64.wrap x = x % 18446744073709551616 := by
  simp only [IntKind.wrap, IntKind.bits, IntKind.signed, Bool.false_and, Bool.false_eq_true, if_false]
  rfl
theorem wrap_u64_in (x : Int) (h0 : 0 ≤ x) (h1 : x < 18446744073709551616) : IntKind.u64.wrap x = x := by
  rw [wrap_u64]; exact Int.emod_eq_of_lt h0 h1
theorem wf_u8 {a : Int} (h : (Lit.int .u8 a).wf = true) : 0 ≤ a ∧ a < 256 := by
  simp [Lit.wf, IntKind.min, IntKind.max, IntKind.signed, IntKind.bits] at h
  omega
/-- Bytes: numbers from 0 to 255. -/
def Bytes (l : List Int) : Prop := ∀ x ∈ l, 0 ≤ x ∧ x < 256
theorem bytes_of_wf {l : List Int} (h : ∀ x ∈ l, (Lit.int .u8 x).wf = true) : Bytes l := fun x hx => wf_u8 (h x hx)
theorem Bytes.rd {l : List Int} (h : Bytes l) (i : Int) : 0 ≤ rd l i ∧ rd l i < 256 := by
  unfold Go.Proofs.YticnihfjnjliiaaW.PrintWords.rd
  rw [List.getD_eq_getElem?_getD]
  cases e : l[i.toNat]? with
  | none => simp
  | some x => simpa using h x (List.mem_of_getElem? e)
/-- The number that bytes begin with, from place i on, and how many bytes were taken in all. -/
def tr : List Int → Nat → Option (Int × Nat)
  | [], _ => none
  | c :: r, i => if 10 ≤ i then none else if i = 9 ∧ 1 < c then none else if c < 128 then some (c * 128 ^ i, i + 1) else (tr r (i + 1)).map fun v => (c % 128 * 128 ^ i + v.1, v.2)
/-- As both programs answer it. -/
def told (x : Int) : Option (Int × Nat) → Int × Int × Int
  | none => (0, 0, 10)
  | some v => (x + v.1, (v.2 : Int), 0)
end Go.Proofs.Yticnihfjnjliiaa.Vb
