/- glossary/glossarylaw11.DescGrows: the row out of the walk and the plain statement. -/
import Derived.Test.YticnihfjnjliiaaRows
import Derived.Test.YticnihfjnjliiaaRdDescGrows
import Derived.Test.YticnihfjnjliiaaPureDescGrows
import Derived.Test.YticnihfjnjliiaaWSized
import Derived.WalkKit
import Derived.ProofKit
import Derived.OpenShut
import Derived.ShutString
import Derived.ChangeOld
import Derived.Below
import Derived.SizedLaws
import Derived.JoinedCond
import Derived.Deep.CondSized
namespace Go.Proofs.Yticnihfjnjliiaa.descGrows
open Go.ChangeShapes Go.WideShapes Go.ChangeAt Go.RowKit
open Go.ChangeMaps (open_string shut_string)
open Go.Proofs.YticnihfjnjliiaaW.PrintWords Go.Proofs.Yticnihfjnjliiaa.GDescGrows
set_option linter.unusedVariables false
theorem own : ownKnob Try.prog.godebug = none := by kernel_rfl
theorem laidOut : laidOutB Try.prog = true := by kernel_rfl
set_option maxHeartbeats 4000000 in
set_option maxRecDepth 100000 in
theorem contract (H : Type) (enc : TypeId × Value → H) (W : World) (base : Nat) (args : Array Value) (ds gs : List (DataW H)) (before : List MemPlace)
    (hval : ∀ (j : Nat) t v, Try.f3.params[j]? = some t → args[j]? = some v → Value.okWide Try.prog W .any base t v)
    (hW : DataW.Whole enc Try.prog Try.f3.params.toList Rows.descGrowsSpec.vars false W args.toList ds gs before)
    (hsz : (DataW.weightsEach Try.prog (Try.f3.params.toList ++ Rows.descGrowsSpec.plain.varTypes Try.prog) (ds ++ gs)).all (· ≤ reachBytes) = true) :
    Calls Try.prog 3 args W fun e W' => ∃ v, e = .returned v ∧ Rows.descGrowsSpec.post enc Try.prog Try.f3 false true false false W args v W' := by
  have hW' := hW
  obtain ⟨p, q, hA0, hV, rfl, hfz, hnd⟩ := hW
  have hA : DataW.TrodAll enc Try.prog W 0 (fun _ => true) true Try.f3.params.toList args.toList ds p := hA0
  rw [Try.params3] at hA hval hsz
  obtain ⟨v0, vs0, d0, ds0, p0, q0, hargs, rfl, rfl, h0, r0⟩ := trodAll_cons hA
  obtain ⟨v1, vs1, d1, ds1, p1, q1, rfl, rfl, rfl, h1, r1⟩ := trodAll_cons r0
  obtain ⟨rfl, rfl, rfl⟩ := trodAll_nil r1
  obtain rfl : args = #[v0, v1] := by cases args; simp_all
  obtain ⟨rfl, rfl⟩ := trodVars_none hV
  have hw : (DataW.weightsEach Try.prog [30, 9] [d0, d1]).all (fun q => decide (q ≤ reachBytes)) = true := hsz
  simp only [DataW.weightsEach, List.all_append, Bool.and_eq_true, List.all_nil] at hw
  have k0 := h0
  have lt0 : ∀ x ∈ p0, x.block < W.heap.size := by obtain ⟨m, hm⟩ := k0; exact DataW.trod_lt m _ _ _ hm
  obtain ⟨fu0, hf0⟩ := h0
  obtain ⟨x0, K0, g0, l0, b0⟩ := (opens30 _) H enc W _ _ hf0
  replace l0 := l0 hw.1
  replace b0 : bk30 x0 ≤ Rows.uptoBulk d0 := b0
  obtain ⟨cs0, rfl, -, -⟩ : ∃ cs, v0 = .agg cs ∧ cs.size = Try.prog.cellsOf 30 ∧ Row.okWide Try.prog W .any base 30 cs := by have h_ := (hval 0 30 v0 rfl rfl); unfold Value.okWide at h_; rw [Try.underlying30] at h_; exact h_
  obtain ⟨A0_2, c0_2, A0_3, c0_3, A0_4, c0_4, A0_5, c0_5, A0_6, c0_6, A0_7, c0_7, A0_9, c0_9, A0_10, c0_10, e0, lc0_2, C0_2, lc0_3, C0_3, lc0_4, C0_4, lc0_5, C0_5, lc0_6, C0_6, lc0_7, C0_7, lc0_9, C0_9, lc0_10, C0_10⟩ := k30_open K0
  have e0' : cs0 = #[.string x0.f0, .string x0.f1, .slice A0_2 x0.f2.length c0_2, .slice A0_3 x0.f3.length c0_3, .slice A0_4 x0.f4.length c0_4, .slice A0_5 x0.f5.length c0_5, .slice A0_6 x0.f6.length c0_6, .slice A0_7 x0.f7.length c0_7, .string x0.f8, .slice A0_9 x0.f9.length c0_9, .slice A0_10 x0.f10.length c0_10] := by cases cs0; simpa [Value.cells] using e0
  subst e0'
  have k1 := h1
  have lt1 : ∀ x ∈ p1, x.block < W.heap.size := by obtain ⟨m, hm⟩ := k1; exact DataW.trod_lt m _ _ _ hm
  obtain ⟨fu1, hf1⟩ := h1
  obtain ⟨x1, K1, g1, l1, b1⟩ := (Rdz.opens_string Try.underlying9) H enc W _ _ hf1
  replace l1 := l1 hw.2.1
  replace b1 : x1.size + 1 ≤ Rows.uptoBulk d1 := b1
  have e1 := okWide_string Try.underlying9 (hval 1 9 v1 rfl rfl)
  obtain ⟨y1, rfl⟩ := e1
  have q1_ : y1 = x1 := by simpa [Kd.int, Kd.bool, Kd.string, Kd.scalar, Value.cells] using K1
  obtain rfl := q1_.symm
  obtain ⟨k, hk_⟩ := Pure.DescGrows x0 x1 g0 g1 l0 l1
  refine (glossarylaw11_DescGrows.calls k x0.f0 x0.f1 A0_2 c0_2 x0.f2 A0_3 c0_3 x0.f3 (fun k_ => k_ < W.heap.size) A0_4 c0_4 x0.f4 A0_5 c0_5 x0.f5 A0_6 c0_6 x0.f6 A0_7 c0_7 x0.f7 x0.f8 A0_9 c0_9 x0.f9 A0_10 c0_10 x0.f10 x1 true W C0_2 lc0_2 C0_3 lc0_3 (Kd.V_mk lc0_4 (fun W2 hW2 => Kd.Heap.C hp37 (fun k_ hk_ => hW2 k_ hk_ hk_) C0_4)) C0_5 lc0_5 C0_6 lc0_6 C0_7 lc0_7 C0_9 lc0_9 C0_10 lc0_10 hk_).mono fun e W' he_ => ?_
  obtain ⟨he, bel_⟩ := he_
  have bel : Below W.heap.size W W' := bel_
  subst he
  exact ⟨_, rfl, _, _, _, [], _, [], hW', trodAll_mk1 (shut_bool Try.underlying4 _), (trodAll_cons_mk (Below.trod laidOut (by kernel_rfl) (of_decide_eq_true (by kernel_rfl)) k0 bel lt0) (trodAll_cons_mk (Below.trod laidOut (by kernel_rfl) (of_decide_eq_true (by kernel_rfl)) k1 bel lt1) trodAll_mk0)), rfl, bel.frame _, fun h => by cases h⟩
set_option maxRecDepth 100000 in
theorem lifted (os : Os) (started : os.Started) (H : Type) (enc : TypeId × Value → H) :
    ReturnsInHanded {} Try.checked os 3 .any (Rows.descGrowsSpec.pre6 enc Try.prog Try.f3 Rows.descGrowsRow.domain false) (Rows.descGrowsSpec.post enc Try.prog Try.f3 false true false false) := by
  refine returnsInHanded_of_change_sized (C := Try.checked) own started (by kernel_rfl) Try.func3
    (ChangeSpec.witness6 (enc := enc) (C := Try.checked) false ⟨#[], #[(.agg #[(.string ByteArray.empty), (.string ByteArray.empty), (.slice none 0 0), (.slice none 0 0), (.slice none 0 0), (.slice none 0 0), (.slice none 0 0), (.slice none 0 0), (.string ByteArray.empty), (.slice none 0 0), (.slice none 0 0)]), (.string ByteArray.empty)], []⟩ 8 (by kernel_rfl) (by kernel_rfl) (by kernel_rfl) (by kernel_rfl)) ?_
  intro W base args ds gs before hval0 hW hcnd hsz0 _
  exact contract H enc W base args ds gs before hval0 hW hsz0
theorem over : Rows.descGrowsRow.holds Try.pinned (OpenSpec.ofChange Rows.descGrowsSpec) :=
  OpenClaim.holds_of_wide 3 Try.f3 rfl rfl rfl rfl rfl rfl rfl ⟨rfl, rfl, rfl, rfl, rfl⟩ rfl rfl rfl rfl rfl (by kernel_rfl) Try.func3 (by kernel_rfl)
    (of_decide_eq_true (by kernel_rfl)) (by unfold Func.isWrapper; first | (rw [if_pos (by decide +kernel)]; kernel_rfl) | (rw [if_neg (by decide +kernel)]; exact ⟨rfl, rfl⟩))
    (fun os started H enc _ => lifted os started H enc)
theorem proved : Rows.DescGrowsSaid := over
#print axioms proved
end Go.Proofs.Yticnihfjnjliiaa.descGrows
namespace Go.Proofs.Yticnihfjnjliiaa
/-- The row, under a short name, for the claim. -/
theorem descGrows_holds : Rows.DescGrowsSaid := descGrows.proved
end Go.Proofs.Yticnihfjnjliiaa
