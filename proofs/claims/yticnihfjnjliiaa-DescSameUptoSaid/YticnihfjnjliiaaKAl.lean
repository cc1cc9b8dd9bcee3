/- glossarylaw11.All answers. -/
import Derived.Test.YticnihfjnjliiaaKDp
import Derived.Test.YticnihfjnjliiaaKSw
namespace Go.Proofs.Yticnihfjnjliiaa.Al
open Go.RowKit Go.Proofs.Yticnihfjnjliiaa.GDescGrows Go.Proofs.YticnihfjnjliiaaW.PrintWords Go.Proofs.YticnihfjnjliiaaW.PrintLast Go.Proofs.YticnihfjnjliiaaW.PrintMore Go.Proofs.Yticnihfjnjliiaa.Rk Go.Proofs.Yticnihfjnjliiaa.Dp
set_option linter.unusedVariables false
set_option linter.unusedSimpArgs false
open Classical in
noncomputable def fewB (x : S30) : Bool := if h : ∃ b, ∀ (w : World) (cs : List Value), k30.K w x cs → Calls Try.prog 8 #[.agg cs.toArray] w fun e w' => e = .returned (.bool b) ∧ Below w.heap.size w w' then Classical.choose h else false
theorem few_b (x : S30) (g : good30 x) (w : World) (cs : List Value) (hK : k30.K w x cs) : Calls Try.prog 8 #[.agg cs.toArray] w fun e w' => e = .returned (.bool (fewB x)) ∧ Below w.heap.size w w' := by
 have h := few_e x g
 unfold fewB
 rw [dif_pos h]
 exact Classical.choose_spec h w cs hK
noncomputable def allB (l : List S30) : Bool := decide (l.length ≤ 10) && l.all fewB
def All_ (l : List S30) (w : World) (e : Ending) (w' : World) : Prop := e = .returned (.bool (allB l)) ∧ Below w.heap.size w w'
end Go.Proofs.Yticnihfjnjliiaa.Al
