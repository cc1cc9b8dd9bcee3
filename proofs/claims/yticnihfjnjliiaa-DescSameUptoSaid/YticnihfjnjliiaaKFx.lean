/- Numbers in so many bytes, the lowest ahead. -/
import Derived.Test.YticnihfjnjliiaaKVb
namespace Go.Proofs.Yticnihfjnjliiaa.Fx
open Go.RowKit Go.Proofs.YticnihfjnjliiaaW.PrintWords Go.Proofs.YticnihfjnjliiaaW.PrintLast Go.Proofs.YticnihfjnjliiaaW.PrintMore Go.Proofs.Yticnihfjnjliiaa.Vb
def fxb (n : Int) (i : Nat) : Int := n / 2 ^ (8 * i) % 256
def fx (n : Int) (m : Nat) : List Int := (List.range m).map (fxb n)
theorem fx_length (n : Int) (m : Nat) : (fx n m).length = m := by simp [fx]
theorem fx_bytes (n : Int) (m : Nat) : Bytes (fx n m) := by
 intro x hx
 obtain ⟨i, _, rfl⟩ := List.mem_map.1 hx
 unfold fxb
 omega
def un : List Int → Nat → Int
 | [], _ => 0
 | c :: r, i => if 8 ≤ i then 0 else c * 256 ^ i + un r (i + 1)
end Go.Proofs.Yticnihfjnjliiaa.Fx
