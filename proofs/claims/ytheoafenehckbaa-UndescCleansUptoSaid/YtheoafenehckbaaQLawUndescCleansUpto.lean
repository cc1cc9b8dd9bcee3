/- glossary/glossarylaw12.UndescCleans: the row out of the walk. -/
import Derived.Test.YtheoafenehckbaaRows
import Derived.Test.YtheoafenehckbaaQRk
import Derived.Test.YtheoafenehckbaaQUl
import Derived.Test.YtheoafenehckbaaQWSized
import Derived.WalkKit
import Derived.ProofKit
import Derived.OpenShut
import Derived.ShutString
import Derived.ChangeOld
import Derived.Below
import Derived.SizedLaws
import Derived.JoinedCond
import Derived.Deep.CondSized
set_option maxHeartbeats 4000000
set_option maxRecDepth 100000
namespace Go.Proofs.Ytheoafenehckbaa.undescCleansUpto
open Go.ChangeShapes Go.WideShapes Go.ChangeAt Go.RowKit
open Go.ChangeMaps (open_string shut_string)
open YtheoafenehckbaaW.PrintWords GUndescBack Rk
set_option linter.unusedVariables false
theorem own:ownKnob Try.prog.godebug=none:=by kernel_rfl
theorem laidOut:laidOutB Try.prog=true:=by kernel_rfl
theorem contract (H:Type) (enc:TypeId × Value→H) (W:World) (base:Nat) (args:Array Value) (ds gs:List (DataW H)) (before:List MemPlace)
 (hval:∀ (j:Nat) t v,Try.f5.params[j]?=some t→args[j]?=some v→Value.okWide Try.prog W .any base t v)
 (hW:DataW.Whole enc Try.prog Try.f5.params.toList Rows.undescCleansSpec.vars false W args.toList ds gs before)
 (hk:Rows.uptoSmall H (ds++gs)=true)
 (hsz:(DataW.weightsEach Try.prog (Try.f5.params.toList++Rows.undescCleansSpec.plain.varTypes Try.prog) (ds++gs)).all (·≤reachBytes)=true) :
 Calls Try.prog 5 args W fun e W'=>∃ v,e = .returned v∧Rows.undescCleansSpec.post enc Try.prog Try.f5 false true false false W args v W':=by
 have hW':=hW
 obtain ⟨p,q,hA0,hV,rfl,hfz,hnd⟩:=hW
 have hA:DataW.TrodAll enc Try.prog W 0 (fun _=>true) true Try.f5.params.toList args.toList ds p:=hA0
 rw [Try.params5] at hA hval hsz
 obtain ⟨v0,vs0,d0,ds0,p0,q0,hargs,rfl,rfl,h0,r0⟩:=trodAll_cons hA
 obtain ⟨rfl,rfl,rfl⟩:=trodAll_nil r0
 obtain rfl:args=#[v0]:=by cases args;simp_all
 obtain ⟨rfl,rfl⟩:=trodVars_none hV
 have hb:Rows.uptoBulkAll [d0]≤1048576:=of_decide_eq_true hk
 simp only [Rows.uptoBulkAll] at hb
 have k0:=h0
 have lt0:∀ x∈p0,x.block < W.heap.size:=by obtain ⟨m,hm⟩:=k0;exact DataW.trod_lt m _ _ _ hm
 obtain ⟨fu0,hf0⟩:=h0
 obtain ⟨x0,K0,g0,l0,b0⟩:=(opens30 _) H enc W _ _ hf0
 replace b0:bk30 x0≤Rows.uptoBulk d0:=b0
 obtain ⟨cs0,rfl,-,-⟩:∃ cs,v0 = .agg cs∧cs.size=Try.prog.cellsOf 30∧Row.okWide Try.prog W .any base 30 cs:=by have h_:=(hval 0 30 v0 rfl rfl);unfold Value.okWide at h_;rw [Try.underlying30] at h_;exact h_
 replace K0:k30.K W x0 cs0.toList:=by simpa [Value.cells] using K0
 refine (Ur.cleans_c x0 g0 (by have:=b0;omega) W cs0.toList K0).mono fun e W' he_=>?_
 obtain ⟨he,bel⟩:=he_
 subst he
 exact ⟨_,rfl,_,_,_,[],_,[],hW',trodAll_mk1 (shut_bool Try.underlying4 _),(trodAll_cons_mk (Below.trod laidOut (by kernel_rfl) (of_decide_eq_true (by kernel_rfl)) k0 bel lt0) trodAll_mk0),rfl,bel.frame _,fun h=>by cases h⟩
theorem lifted (os:Os) (started:os.Started) (H:Type) (enc:TypeId × Value→H) (F:Stop.Interp) :
 ReturnsInHanded {} Try.checked os 5 .any ((Rows.OpenSpec.upto Rows.undescCleansSpec).pre6 enc Try.prog Try.f5 Rows.undescCleansUptoRow.domain false) (((Rows.OpenSpec.upto Rows.undescCleansSpec).at F).post enc Try.prog Try.f5 false true false false):=by
 refine returnsInHanded_of_cond_sized (C:=Try.checked) (s:=Rows.OpenSpec.upto Rows.undescCleansSpec) (k:=Rows.uptoSmall) rfl own started (by kernel_rfl) Try.func5
  (OpenSpec.witness (enc:=enc) (C:=Try.checked) (s:=Rows.OpenSpec.upto Rows.undescCleansSpec) (k:=Rows.uptoSmall) rfl false ⟨#[],#[(.agg #[(.string ByteArray.empty),(.string ByteArray.empty),(.slice none 0 0),(.slice none 0 0),(.slice none 0 0),(.slice none 0 0),(.slice none 0 0),(.slice none 0 0),(.string ByteArray.empty),(.slice none 0 0),(.slice none 0 0)])],[]⟩ 8 (by kernel_rfl) (by kernel_rfl) (by kernel_rfl)
   (x:=([(.agg [(.lit (.string [])),(.lit (.string [])),(.nil),(.nil),(.nil),(.nil),(.nil),(.nil),(.lit (.string [])),(.nil),(.nil)])],[],[])) (by kernel_rfl) rfl (by kernel_rfl)) ?_
 intro W base args ds gs before hval0 hW hcnd hk hsz0 _
 exact contract H enc W base args ds gs before hval0 hW hk hsz0
theorem proved:Rows.UndescCleansUptoSaid:=
 OpenClaim.holds_of_cond 5 Try.f5 rfl rfl rfl rfl rfl rfl rfl ⟨rfl,rfl,rfl,rfl,rfl⟩ rfl rfl rfl rfl rfl (by kernel_rfl) Try.func5 (by kernel_rfl)
  (of_decide_eq_true (by kernel_rfl)) (by unfold Func.isWrapper;first|(rw [if_pos (by decide +kernel)];kernel_rfl)|(rw [if_neg (by decide +kernel)];exact ⟨rfl,rfl⟩))
  (fun os started H enc _ F=>lifted os started H enc F)
#print axioms proved
end Go.Proofs.Ytheoafenehckbaa.undescCleansUpto
namespace Go.Proofs.Ytheoafenehckbaa
theorem undescCleansUpto_holds:Rows.UndescCleansUptoSaid:=undescCleansUpto.proved
end Go.Proofs.Ytheoafenehckbaa
