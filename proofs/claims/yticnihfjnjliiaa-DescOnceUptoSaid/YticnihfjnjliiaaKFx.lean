/- Numbers in so many bytes, the lowest ahead. -/
import Derived.Test.YticnihfjnjliiaaKVb
namespace Go.Proofs.Yticnihfjnjliiaa.Fx
open Go.RowKit Go.Proofs.YticnihfjnjliiaaW.PrintWords Go.Proofs.YticnihfjnjliiaaW.PrintLast Go.Proofs.YticnihfjnjliiaaW.PrintMore Go.Proofs.Yticnihfjnjliiaa.Vb

def fxb (n : Int) (i : Nat) : Int := n / 2 ^ (8 * i) % 256
/-- The lowest m bytes of n. -/
def fx (n : Int) (m : Nat) : List Int := (List.range m).map (fxb n)
theorem fx_length (n : Int) (m : Nat) : (fx n m).length = m := by simp [fx]
theorem fx_succ (n : Int) (i : Nat) : fx n (i + 1) = fx n i ++ [fxb n i] := by simp [fx, List.range_succ]
theorem fx_set (n : Int) (m i : Nat) (h : i < m) : (fx n i ++ List.replicate (m - i) 0).set i (fxb n i) = fx n (i + 1) ++ List.replicate (m - (i + 1)) 0 := by
  rw [fx_succ, List.set_append_right _ _ (by rw [fx_length]; exact Nat.le_refl _), fx_length, Nat.sub_self]
  obtain ⟨q, hq⟩ : ∃ q, m - i = q + 1 := ⟨m - i - 1, by omega⟩
  rw [hq, List.replicate_succ, List.set_cons_zero, show m - (i + 1) = q from by omega]
  simp
/-- The number of a list's first eight bytes, from place i on. -/
def un : List Int → Nat → Int
  | [], _ => 0
  | c :: r, i => if 8 ≤ i then 0 else c * 256 ^ i + un r (i + 1)
end Go.Proofs.Yticnihfjnjliiaa.Fx
