/- glossarylaw11.DescSame. -/
import Derived.Test.YticnihfjnjliiaaKL1
import Derived.Test.YticnihfjnjliiaaKS5
import Derived.Test.YticnihfjnjliiaaKE8
import Derived.Test.YticnihfjnjliiaaKAl
import Derived.LoopN
import Derived.RegionTactic
namespace Go.Proofs.Yticnihfjnjliiaa.R1
open Go.RowKit Go.Proofs.Yticnihfjnjliiaa.GDescGrows Go.Proofs.YticnihfjnjliiaaW.PrintWords Go.Proofs.YticnihfjnjliiaaW.PrintLast Go.Proofs.YticnihfjnjliiaaW.PrintMore Go.Proofs.Yticnihfjnjliiaa.Vb Go.Proofs.Yticnihfjnjliiaa.Wr Go.Proofs.Yticnihfjnjliiaa.Wp Go.Proofs.Yticnihfjnjliiaa.Rk Go.Proofs.Yticnihfjnjliiaa.Sp Go.Proofs.Yticnihfjnjliiaa.E1 Go.Proofs.Yticnihfjnjliiaa.Dp Go.Proofs.Yticnihfjnjliiaa.Dr Go.Proofs.Yticnihfjnjliiaa.Al
set_option linter.unusedVariables false
set_option linter.unusedSimpArgs false
theorem dp64 (x : S30) : decide (dp x.f4 ≤ 64) = decide (hL x.f4 ≤ 64) := by
 have h := dp_le x.f4
 by_cases k : hL x.f4 ≤ 64
 · rw [decide_eq_true k, decide_eq_true (Decidable.byContradiction fun q => absurd k (h.1 (by omega)))]
 · rw [decide_eq_false k, decide_eq_false (by have := h.2 k; omega)]
theorem sameB_rsB (x y : S30) : sameB x y = rsB x y := by unfold sameB rsB; rw [dp64, dp64]
theorem sameB_self (x : S30) : decide (dp x.f4 ≤ 64) = sameB x x := by unfold sameB; rw [eqB_t rfl]; cases decide (dp x.f4 ≤ 64) <;> rfl
theorem law_c (x y : S30) (gx : good30 x) (gy : good30 y) (hs : bk30 x + bk30 y ≤ 1048576) (w : World) (cs ds : List Value) (hx : k30.K w x cs) (hy : k30.K w y ds) : Calls Try.prog 5 #[.agg cs.toArray, .agg ds.toArray] w fun e w' => e = .returned (.bool true) ∧ Below w.heap.size w w' := by
 have fx := fun (W : World) (cs : List Value) (h : k30.K W x cs) => few_b x gx W cs h
 have fy := fun (W : World) (cs : List Value) (h : k30.K W y cs) => few_b y gy W cs h
 by_cases hno : (fewB x && fewB y) = false
 · exact early x y w cs ds hx hy (fewB x) (fewB y) fx fy hno
 · rw [Bool.not_eq_false, Bool.and_eq_true] at hno
   rw [hno.1] at fx
   rw [hno.2] at fy
   refine rest x y w cs ds hx hy (rsB x y) (sameB x x) (dp x.f4) (sameB_self x) fx fy (fun W cs ds h h2 => ?_) (fun W cs ds h h2 => ?_) (fun W cs h => ?_) (fun W cs h => ?_) (fun W cs ds h h2 => ?_)
   · rw [← sameB_rsB]; exact sameFile x y gx gy W cs ds h h2
   · exact rsame_c x y gx gy (by omega) (by omega) W cs ds h h2
   · exact deep_c x gx W cs h
   · exact refdeep_c x gx W cs h
   · exact sameFile x x gx gx W cs ds h h2
end Go.Proofs.Yticnihfjnjliiaa.R1
