/- glossary/glossarylaw12.UndescKeeps: the row out of the walk. -/
import Derived.Test.YtheoafenehckbaaRows
import Derived.Test.YtheoafenehckbaaKRk
import Derived.Test.YtheoafenehckbaaKUk
import Derived.Test.YtheoafenehckbaaKWSized
import Derived.WalkKit
import Derived.ProofKit
import Derived.OpenShut
import Derived.ShutString
import Derived.ChangeOld
import Derived.Below
import Derived.SizedLaws
import Derived.JoinedCond
import Derived.Deep.CondSized
set_option maxHeartbeats 4000000
set_option maxRecDepth 100000
namespace Go.Proofs.Ytheoafenehckbaa.undescKeeps
open Go.ChangeShapes Go.WideShapes Go.ChangeAt Go.RowKit
open Go.ChangeMaps (open_string shut_string)
open YtheoafenehckbaaW.PrintWords GUndescBack Rk
set_option linter.unusedVariables false
theorem own:ownKnob Try.prog.godebug=none:=by kernel_rfl
theorem laidOut:laidOutB Try.prog=true:=by kernel_rfl
theorem contract (H:Type) (enc:TypeId × Value→H) (W:World) (base:Nat) (args:Array Value) (ds gs:List (DataW H)) (before:List MemPlace)
 (hval:∀ (j:Nat) t v,Try.f4.params[j]?=some t→args[j]?=some v→Value.okWide Try.prog W .any base t v)
 (hW:DataW.Whole enc Try.prog Try.f4.params.toList Rows.undescKeepsSpec.vars false W args.toList ds gs before)
 (hsz:(DataW.weightsEach Try.prog (Try.f4.params.toList++Rows.undescKeepsSpec.plain.varTypes Try.prog) (ds++gs)).all (·≤reachBytes)=true) :
 Calls Try.prog 4 args W fun e W'=>∃ v,e = .returned v∧Rows.undescKeepsSpec.post enc Try.prog Try.f4 false true false false W args v W':=by
 have hW':=hW
 obtain ⟨p,q,hA0,hV,rfl,hfz,hnd⟩:=hW
 have hA:DataW.TrodAll enc Try.prog W 0 (fun _=>true) true Try.f4.params.toList args.toList ds p:=hA0
 rw [Try.params4] at hA hval hsz
 obtain ⟨v0,vs0,d0,ds0,p0,q0,hargs,rfl,rfl,h0,r0⟩:=trodAll_cons hA
 obtain ⟨rfl,rfl,rfl⟩:=trodAll_nil r0
 obtain rfl:args=#[v0]:=by cases args;simp_all
 obtain ⟨rfl,rfl⟩:=trodVars_none hV
 have k0:=h0
 have lt0:∀ x∈p0,x.block < W.heap.size:=by obtain ⟨m,hm⟩:=k0;exact DataW.trod_lt m _ _ _ hm
 obtain ⟨fu0,hf0⟩:=h0
 obtain ⟨x0,K0,g0,l0,b0⟩:=(Rdz.opens_slice 5 1 Try.underlying28 (by kernel_rfl) (by kernel_rfl) (fun _ _=>(Rdz.opens_int Try.underlying5))) H enc W _ _ hf0
 replace b0:(x0.map fun y_=>1).sum+1≤Rows.uptoBulk d0:=b0
 obtain ⟨A0,n0,c0,rfl⟩:=okWide_slice Try.underlying28 (hval 0 28 v0 rfl rfl)
 obtain ⟨A0_,c0_,e0,lc0,C0⟩:=K0
 obtain ⟨rfl,rfl,rfl⟩:A0=A0_∧n0=x0.length∧c0=c0_:=by simpa [Value.cells] using e0
 refine (Ur.keeps_c x0 g0.2 A0 c0 lc0 W C0).mono fun e W' he_=>?_
 obtain ⟨he,bel⟩:=he_
 subst he
 exact ⟨_,rfl,_,_,_,[],_,[],hW',trodAll_mk1 (shut_bool Try.underlying4 _),(trodAll_cons_mk (Below.trod laidOut (by kernel_rfl) (of_decide_eq_true (by kernel_rfl)) k0 bel lt0) trodAll_mk0),rfl,bel.frame _,fun h=>by cases h⟩
theorem lifted (os:Os) (started:os.Started) (H:Type) (enc:TypeId × Value→H) :
 ReturnsInHanded {} Try.checked os 4 .any (Rows.undescKeepsSpec.pre6 enc Try.prog Try.f4 Rows.undescKeepsRow.domain false) (Rows.undescKeepsSpec.post enc Try.prog Try.f4 false true false false):=by
 refine returnsInHanded_of_change_sized (C:=Try.checked) own started (by kernel_rfl) Try.func4
  (ChangeSpec.witness6 (enc:=enc) (C:=Try.checked) false ⟨#[],#[(.slice none 0 0)],[]⟩ 8 (by kernel_rfl) (by kernel_rfl) (by kernel_rfl) (by kernel_rfl)) ?_
 intro W base args ds gs before hval0 hW hcnd hsz0 _
 exact contract H enc W base args ds gs before hval0 hW hsz0
theorem over:Rows.undescKeepsRow.holds Try.pinned (OpenSpec.ofChange Rows.undescKeepsSpec):=
 OpenClaim.holds_of_wide 4 Try.f4 rfl rfl rfl rfl rfl rfl rfl ⟨rfl,rfl,rfl,rfl,rfl⟩ rfl rfl rfl rfl rfl (by kernel_rfl) Try.func4 (by kernel_rfl)
  (of_decide_eq_true (by kernel_rfl)) (by unfold Func.isWrapper;first|(rw [if_pos (by decide +kernel)];kernel_rfl)|(rw [if_neg (by decide +kernel)];exact ⟨rfl,rfl⟩))
  (fun os started H enc _=>lifted os started H enc)
theorem proved:Rows.UndescKeepsSaid:=over
#print axioms proved
end Go.Proofs.Ytheoafenehckbaa.undescKeeps
namespace Go.Proofs.Ytheoafenehckbaa
theorem undescKeeps_holds:Rows.UndescKeepsSaid:=undescKeeps.proved
end Go.Proofs.Ytheoafenehckbaa
