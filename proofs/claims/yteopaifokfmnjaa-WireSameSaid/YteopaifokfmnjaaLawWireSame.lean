/- glossary/glossarylaw02.WireSame: the row out of the walk and the plain statement. -/
import Derived.Test.YteopaifokfmnjaaRows
import Derived.Test.YteopaifokfmnjaaRdWireSame
import Derived.Test.YteopaifokfmnjaaPureWireSame
import Derived.Test.YteopaifokfmnjaaWSized
import Derived.WalkKit
import Derived.ProofKit
import Derived.OpenShut
import Derived.ShutString
import Derived.ChangeOld
import Derived.Below
import Derived.SizedLaws
import Derived.JoinedCond
import Derived.Deep.CondSized
namespace Go.Proofs.Yteopaifokfmnjaa.wireSame
open Go.ChangeShapes Go.WideShapes Go.ChangeAt Go.RowKit
open Go.ChangeMaps (open_string shut_string)
open Go.Proofs.YteopaifokfmnjaaW.PrintWords Go.Proofs.Yteopaifokfmnjaa.GWireSame
set_option linter.unusedVariables false
theorem own : ownKnob Try.prog.godebug = none := by kernel_rfl
theorem laidOut : laidOutB Try.prog = true := by kernel_rfl
set_option maxRecDepth 100000 in
theorem contract (H : Type) (enc : TypeId × Value → H) (W : World) (base : Nat) (args : Array Value) (ds gs : List (DataW H)) (before : List MemPlace)
    (hval : ∀ (j : Nat) t v, Try.f4.params[j]? = some t → args[j]? = some v → Value.okWide Try.prog W .any base t v)
    (hW : DataW.Whole enc Try.prog Try.f4.params.toList Rows.wireSameSpec.vars false W args.toList ds gs before)
    (hsz : (DataW.weightsEach Try.prog (Try.f4.params.toList ++ Rows.wireSameSpec.plain.varTypes Try.prog) (ds ++ gs)).all (· ≤ reachBytes) = true) :
    Calls Try.prog 4 args W fun e W' => ∃ v, e = .returned v ∧ Rows.wireSameSpec.post enc Try.prog Try.f4 false true false false W args v W' := by
  have hW' := hW
  obtain ⟨p, q, hA0, hV, rfl, hfz, hnd⟩ := hW
  have hA : DataW.TrodAll enc Try.prog W 0 (fun _ => true) true Try.f4.params.toList args.toList ds p := hA0
  rw [Try.params4] at hA hval hsz
  obtain ⟨v0, vs0, d0, ds0, p0, q0, hargs, rfl, rfl, h0, r0⟩ := trodAll_cons hA
  obtain ⟨v1, vs1, d1, ds1, p1, q1, rfl, rfl, rfl, h1, r1⟩ := trodAll_cons r0
  obtain ⟨rfl, rfl, rfl⟩ := trodAll_nil r1
  obtain rfl : args = #[v0, v1] := by cases args; simp_all
  obtain ⟨rfl, rfl⟩ := trodVars_none hV
  have hw : (DataW.weightsEach Try.prog [25, 25] [d0, d1]).all (fun q => decide (q ≤ reachBytes)) = true := hsz
  simp only [DataW.weightsEach, List.all_append, Bool.and_eq_true, List.all_nil] at hw
  have k0 := h0
  have lt0 : ∀ x ∈ p0, x.block < W.heap.size := by obtain ⟨m, hm⟩ := k0; exact DataW.trod_lt m _ _ _ hm
  obtain ⟨fu0, hf0⟩ := h0
  obtain ⟨x0, K0, g0, l0, b0⟩ := (opens25 _) H enc W _ _ hf0
  replace l0 := l0 hw.1
  replace b0 : sz25 x0 ≤ Rows.uptoBulk d0 := b0
  obtain ⟨cs0, rfl, -, -⟩ : ∃ cs, v0 = .agg cs ∧ cs.size = Try.prog.cellsOf 25 ∧ Row.okWide Try.prog W .any base 25 cs := by have h_ := (hval 0 25 v0 rfl rfl); unfold Value.okWide at h_; rw [Try.underlying25] at h_; exact h_
  obtain ⟨A0_3, c0_3, e0, lc0_3, C0_3⟩ := k25_open K0
  have e0' : cs0 = #[.int .i64 x0.f0, .int .i64 x0.f1, .int .u64 x0.f2, .slice A0_3 x0.f3.length c0_3] := by cases cs0; simpa [Value.cells] using e0
  subst e0'
  have k1 := h1
  have lt1 : ∀ x ∈ p1, x.block < W.heap.size := by obtain ⟨m, hm⟩ := k1; exact DataW.trod_lt m _ _ _ hm
  obtain ⟨fu1, hf1⟩ := h1
  obtain ⟨x1, K1, g1, l1, b1⟩ := (opens25 _) H enc W _ _ hf1
  replace l1 := l1 hw.2.1
  replace b1 : sz25 x1 ≤ Rows.uptoBulk d1 := b1
  obtain ⟨cs1, rfl, -, -⟩ : ∃ cs, v1 = .agg cs ∧ cs.size = Try.prog.cellsOf 25 ∧ Row.okWide Try.prog W .any base 25 cs := by have h_ := (hval 1 25 v1 rfl rfl); unfold Value.okWide at h_; rw [Try.underlying25] at h_; exact h_
  obtain ⟨A1_3, c1_3, e1, lc1_3, C1_3⟩ := k25_open K1
  have e1' : cs1 = #[.int .i64 x1.f0, .int .i64 x1.f1, .int .u64 x1.f2, .slice A1_3 x1.f3.length c1_3] := by cases cs1; simpa [Value.cells] using e1
  subst e1'
  obtain ⟨k, hk_⟩ := Pure.WireSame x0 x1 g0 g1 l0 l1
  refine (glossarylaw02_WireSame.calls k x0.f0 x0.f1 x0.f2 (fun k_ => k_ < W.heap.size) A0_3 c0_3 x0.f3 x1.f0 x1.f1 x1.f2 (fun k_ => k_ < W.heap.size) A1_3 c1_3 x1.f3 true W (Kd.V_mk lc0_3 (fun W2 hW2 => Kd.Heap.C (Kd.heap_int .u8) (fun k_ hk_ => hW2 k_ hk_ hk_) C0_3)) (Kd.V_mk lc1_3 (fun W2 hW2 => Kd.Heap.C (Kd.heap_int .u8) (fun k_ hk_ => hW2 k_ hk_ hk_) C1_3)) hk_).mono fun e W' he_ => ?_
  obtain ⟨he, bel_⟩ := he_
  have bel : Below W.heap.size W W' := bel_
  subst he
  exact ⟨_, rfl, _, _, _, [], _, [], hW', trodAll_mk1 (shut_bool Try.underlying4 _), (trodAll_cons_mk (Below.trod laidOut (by kernel_rfl) (of_decide_eq_true (by kernel_rfl)) k0 bel lt0) (trodAll_cons_mk (Below.trod laidOut (by kernel_rfl) (of_decide_eq_true (by kernel_rfl)) k1 bel lt1) trodAll_mk0)), rfl, bel.frame _, fun h => by cases h⟩
set_option maxRecDepth 100000 in
theorem lifted (os : Os) (started : os.Started) (H : Type) (enc : TypeId × Value → H) :
    ReturnsInHanded {} Try.checked os 4 .any (Rows.wireSameSpec.pre6 enc Try.prog Try.f4 Rows.wireSameRow.domain false) (Rows.wireSameSpec.post enc Try.prog Try.f4 false true false false) := by
  refine returnsInHanded_of_change_sized (C := Try.checked) own started (by kernel_rfl) Try.func4
    (ChangeSpec.witness6 (enc := enc) (C := Try.checked) false ⟨#[], #[(.agg #[(.int .i64 0), (.int .i64 0), (.int .u64 0), (.slice none 0 0)]), (.agg #[(.int .i64 0), (.int .i64 0), (.int .u64 0), (.slice none 0 0)])], []⟩ 8 (by kernel_rfl) (by kernel_rfl) (by kernel_rfl) (by kernel_rfl)) ?_
  intro W base args ds gs before hval0 hW hcnd hsz0 _
  exact contract H enc W base args ds gs before hval0 hW hsz0
theorem over : Rows.wireSameRow.holds Try.pinned (OpenSpec.ofChange Rows.wireSameSpec) :=
  OpenClaim.holds_of_wide 4 Try.f4 rfl rfl rfl rfl rfl rfl rfl ⟨rfl, rfl, rfl, rfl, rfl⟩ rfl rfl rfl rfl rfl (by kernel_rfl) Try.func4 (by kernel_rfl)
    (of_decide_eq_true (by kernel_rfl)) (by unfold Func.isWrapper; first | (rw [if_pos (by decide +kernel)]; kernel_rfl) | (rw [if_neg (by decide +kernel)]; exact ⟨rfl, rfl⟩))
    (fun os started H enc _ => lifted os started H enc)
theorem proved : Rows.WireSameSaid := over
#print axioms proved
end Go.Proofs.Yteopaifokfmnjaa.wireSame
namespace Go.Proofs.Yteopaifokfmnjaa
/-- The row, under a short name, for the claim. -/
theorem wireSame_holds : Rows.WireSameSaid := wireSame.proved
end Go.Proofs.Yteopaifokfmnjaa
