/- Words for chains of tests. -/
import Derived.Test.YticnihfjnjliiaaKE2
import Derived.Deep.QuietTactic
import Derived.BigQuiet
namespace Go.Proofs.Yticnihfjnjliiaa.E1
open Go.RowKit Go.Proofs.Yticnihfjnjliiaa.GDescGrows Go.Proofs.YticnihfjnjliiaaW.PrintWords Go.Proofs.YticnihfjnjliiaaW.PrintLast Go.Proofs.YticnihfjnjliiaaW.PrintMore Go.Proofs.Yticnihfjnjliiaa.Vb Go.Proofs.Yticnihfjnjliiaa.Rk
set_option linter.unusedVariables false
set_option linter.unusedSimpArgs false
theorem int_eqB (s t : Int) : (s == t) = eqB s t := by
 by_cases h : s = t
 · rw [eqB_t h, h]; simp
 · rw [eqB_f h]; exact beq_eq_false_iff_ne.mpr h
theorem bool_eqB (s t : Bool) : (s == t) = eqB s t := by
 by_cases h : s = t
 · rw [eqB_t h, h]; simp
 · rw [eqB_f h]; exact beq_eq_false_iff_ne.mpr h
theorem eqB_field {α β : Type} (f : α → β) {x y : α} (h : eqB (f x) (f y) = false) : eqB x y = false := eqB_f (fun e => by rw [e, eqB_t rfl] at h; cases h)
theorem len62 {n : Nat} (h : n ≤ maxLen) : n ≤ 9223372036854775807 := by unfold maxLen at h; omega
theorem new1 (w : World) (o : Obj) : (w.alloc o).heap[w.heap.size]? = some o := by simp [World.alloc, -World.alloc_eq]
theorem new2 (w : World) (o o2 : Obj) : ((w.alloc o).alloc o2).heap[w.heap.size + 1]? = some o2 := by
 have := new1 (w.alloc o) o2
 rwa [show (w.alloc o).heap.size = w.heap.size + 1 from by simp [World.alloc, -World.alloc_eq]] at this
end Go.Proofs.Yticnihfjnjliiaa.E1
