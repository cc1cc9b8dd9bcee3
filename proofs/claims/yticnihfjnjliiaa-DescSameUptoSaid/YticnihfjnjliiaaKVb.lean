/- Numbers as bytes, seven bits a byte: what the two programs' loops come to. -/
import Derived.Laws.BitsAllLaws
import Derived.Laws.Bits128
import Derived.Test.YticnihfjnjliiaaKW
namespace Go.Proofs.Yticnihfjnjliiaa.Vb
open Go.RowKit Go.Proofs.YticnihfjnjliiaaW.PrintWords Go.Proofs.YticnihfjnjliiaaW.PrintLast Go.Proofs.YticnihfjnjliiaaW.PrintMore
def vb (n : Nat) : List Int := if n < 128 then [(n : Int)] else ((n % 128 + 128 : Nat) : Int) :: vb (n / 128)
termination_by n
decreasing_by omega
theorem vb_small {n : Nat} (h : n < 128) : vb n = [(n : Int)] := by rw [vb, if_pos h]
theorem vb_large {n : Nat} (h : ¬ n < 128) : vb n = ((n % 128 + 128 : Nat) : Int) :: vb (n / 128) := by rw [vb, if_neg h]
theorem vb_pos (n : Nat) : 1 ≤ (vb n).length := by
 by_cases h : n < 128
 · rw [vb_small h]; simp
 · rw [vb_large h]; simp
theorem vb_le (k : Nat) : ∀ n : Nat, n < 128 ^ (k + 1) → (vb n).length ≤ k + 1 := by
 induction k with
 | zero => intro n h; rw [vb_small (by simpa using h)]; simp
 | succ k ih =>
  intro n h
  by_cases h1 : n < 128
  · rw [vb_small h1]; simp
  · rw [vb_large h1]
    have := ih (n / 128) (by rw [Nat.pow_succ] at h; omega)
    simp only [List.length_cons]; omega
theorem vb_ten (n : Nat) (h : n < 18446744073709551616) : (vb n).length ≤ 10 := vb_le 9 n (by omega)
theorem wrap_u64 (x : Int) : IntKind.u64.wrap x = x % 18446744073709551616 := by
 simp only [IntKind.wrap, IntKind.bits, IntKind.signed, Bool.false_and, Bool.false_eq_true, if_false]
 rfl
theorem wf_u8 {a : Int} (h : (Lit.int .u8 a).wf = true) : 0 ≤ a ∧ a < 256 := by
 simp [Lit.wf, IntKind.min, IntKind.max, IntKind.signed, IntKind.bits] at h
 omega
theorem wf_i64 {a : Int} (h : (Lit.int .i64 a).wf = true) : -9223372036854775808 ≤ a ∧ a < 9223372036854775808 := by
 simp [Lit.wf, IntKind.min, IntKind.max, IntKind.signed, IntKind.bits] at h
 omega
def Bytes (l : List Int) : Prop := ∀ x ∈ l, 0 ≤ x ∧ x < 256
theorem bytes_of_wf {l : List Int} (h : ∀ x ∈ l, (Lit.int .u8 x).wf = true) : Bytes l := fun x hx => wf_u8 (h x hx)
theorem Bytes.rd {l : List Int} (h : Bytes l) (i : Int) : 0 ≤ rd l i ∧ rd l i < 256 := by
 unfold Go.Proofs.YticnihfjnjliiaaW.PrintWords.rd
 rw [List.getD_eq_getElem?_getD]
 cases e : l[i.toNat]? with
 | none => simp
 | some x => simpa using h x (List.mem_of_getElem? e)
theorem vb_bytes (n : Nat) : Bytes (vb n) := by
 induction n using Nat.strongRecOn with
 | _ n ih =>
  intro x hx
  by_cases h : n < 128
  · rw [vb_small h] at hx
    simp only [List.mem_singleton] at hx
    omega
  · rw [vb_large h] at hx
    rcases List.mem_cons.1 hx with rfl | hx
    · omega
    · exact ih (n / 128) (by omega) x hx
def tr : List Int → Nat → Option (Int × Nat)
 | [], _ => none
 | c :: r, i => if 10 ≤ i then none else if i = 9 ∧ 1 < c then none else if c < 128 then some (c * 128 ^ i, i + 1) else (tr r (i + 1)).map fun v => (c % 128 * 128 ^ i + v.1, v.2)
def told (x : Int) : Option (Int × Nat) → Int × Int × Int
 | none => (0, 0, 10)
 | some v => (x + v.1, (v.2 : Int), 0)
theorem tr_vb (more : List Int) (n : Nat) : ∀ i : Nat, n * 128 ^ i < 18446744073709551616 → i ≤ 9 → tr (vb n ++ more) i = some ((n : Int) * 128 ^ i, i + (vb n).length) := by
 induction n using Nat.strongRecOn with
 | _ n ih =>
  intro i hn hi
  have h9 : i = 9 → n ≤ 1 := fun h => by
   subst h
   have e9 : 128 ^ 9 = 9223372036854775808 := by decide
   rw [e9] at hn
   omega
  by_cases h : n < 128
  · rw [vb_small h]
    simp only [List.cons_append, List.nil_append, tr]
    rw [if_neg (by omega), if_neg (by rintro ⟨h1, h2⟩; have := h9 h1; omega), if_pos (by omega)]
    simp
  · rw [vb_large h]
    simp only [List.cons_append, tr]
    have hlt : i < 9 := by
     rcases Nat.lt_or_ge i 9 with h1 | h1
     · exact h1
     · have := h9 (by omega); omega
    rw [if_neg (by omega), if_neg (by rintro ⟨h1, h2⟩; omega), if_neg (by omega)]
    have hd : n / 128 * 128 ^ (i + 1) ≤ n * 128 ^ i := by
     rw [Nat.pow_succ, Nat.mul_comm (128 ^ i) 128, ← Nat.mul_assoc]
     exact Nat.mul_le_mul_right _ (Nat.div_mul_le_self n 128)
    rw [ih (n / 128) (by omega) (i + 1) (by omega) (by omega)]
    simp only [Option.map_some, List.length_cons, Option.some.injEq, Prod.mk.injEq]
    refine ⟨?_, by omega⟩
    have e1 : ((n % 128 + 128 : Nat) : Int) % 128 = (n : Int) % 128 := by omega
    rw [e1, Int.pow_succ, Int.mul_comm (128 ^ i) 128, ← Int.mul_assoc, ← Int.add_mul]
    congr 1
    omega
end Go.Proofs.Yticnihfjnjliiaa.Vb
