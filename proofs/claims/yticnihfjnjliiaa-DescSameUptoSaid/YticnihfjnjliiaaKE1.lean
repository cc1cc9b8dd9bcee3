/- Bytes, and lists of texts, numbers, ranges, that are alike. -/
import Derived.Test.YticnihfjnjliiaaKSp
import Derived.Deep.QuietTactic
import Derived.BigQuiet
namespace Go.Proofs.Yticnihfjnjliiaa.E1
open Go.RowKit Go.Proofs.Yticnihfjnjliiaa.GDescGrows Go.Proofs.YticnihfjnjliiaaW.PrintWords Go.Proofs.YticnihfjnjliiaaW.PrintLast Go.Proofs.YticnihfjnjliiaaW.PrintMore Go.Proofs.Yticnihfjnjliiaa.Vb Go.Proofs.Yticnihfjnjliiaa.Rk Go.Proofs.Yticnihfjnjliiaa.Sp
set_option linter.unusedVariables false
set_option linter.unusedSimpArgs false
noncomputable def eqB {α : Type} (a b : α) : Bool := @decide (a = b) (Classical.propDecidable _)
theorem eqB_t {α : Type} {a b : α} (h : a = b) : eqB a b = true := by unfold eqB; exact @decide_eq_true _ (Classical.propDecidable _) h
theorem eqB_f {α : Type} {a b : α} (h : ¬ a = b) : eqB a b = false := by unfold eqB; exact @decide_eq_false _ (Classical.propDecidable _) h
theorem eqB_of {α : Type} {a b : α} (h : eqB a b = true) : a = b := by unfold eqB at h; exact @of_decide_eq_true _ (Classical.propDecidable _) h
def Eq_ (b : Bool) (w : World) (e : Ending) (w' : World) : Prop := e = .returned (.bool b) ∧ Below w.heap.size w w'
theorem str_eqB (s t : ByteArray) : (s.toList == t.toList) = eqB s t := by
 rw [Go.ByteArray.toList_eq, Go.ByteArray.toList_eq]
 by_cases h : s = t
 · rw [eqB_t h, h]; exact beq_self_eq_true _
 · rw [eqB_f h]
   refine beq_eq_false_iff_ne.2 fun h2 => h ?_
   cases s; cases t
   exact congrArg ByteArray.mk (Array.toList_inj.1 h2)
theorem strOf_eqB {a b : List Int} (ha : Bytes a) (hb : Bytes b) : ((strOfNums a).toList == (strOfNums b).toList) = eqB a b := by
 rw [str_eqB]
 by_cases h : a = b
 · rw [eqB_t h, eqB_t (by rw [h])]
 · rw [eqB_f h]
   refine eqB_f fun h2 => h ?_
   rw [← bytesOf_strOf ha, ← bytesOf_strOf hb, h2]
set_option maxHeartbeats 8000000 in
set_option maxRecDepth 100000 in
theorem eq20 (a b : List Int) (ha : Bytes a) (hb : Bytes b) (A B : Option Addr) (ca cb : Nat) (w : World) (CA : Kd.C (Kd.int .u8) w A a.length a) (CB : Kd.C (Kd.int .u8) w B b.length b) :
 Calls Try.prog 20 #[.slice A a.length ca, .slice B b.length cb] w fun e w' => e = .returned (.bool (eqB a b)) ∧ w = w' := by
 have h1 := Kd.C_string (P := Try.prog) (c := ca) Try.underlying28 Try.underlying5 Try.underlying9 CA
 have h2 := Kd.C_string (P := Try.prog) (c := cb) Try.underlying28 Try.underlying5 Try.underlying9 CB
 have H3 := mk0 (strOf_eqB ha hb)
 clear ha hb
 go_enter Try.func20, Try.ntmps20
 go_wp2
 go_ret
 exact ⟨by rw [H3.out]; rfl, rfl⟩
end Go.Proofs.Yticnihfjnjliiaa.E1
