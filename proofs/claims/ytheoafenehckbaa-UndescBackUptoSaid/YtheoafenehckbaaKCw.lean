/- What cleaning makes is well formed, of a bounded file (plain). -/
import Derived.Test.YtheoafenehckbaaKUy
import Derived.Test.YtheoafenehckbaaKCg
import Derived.Test.YtheoafenehckbaaKBd
import Derived.WalkLawsBesides
namespace Go.Proofs.Ytheoafenehckbaa.Ur
open Wb Dp Rk Sp Go.RowKit GUndescBack YtheoafenehckbaaW.PrintWords YtheoafenehckbaaW.PrintLast YtheoafenehckbaaW.PrintMore Vb Fx Wr Wt Wj Wp Uq
set_option linter.unusedVariables false
set_option linter.unusedSimpArgs false
theorem i64_of {n:Int} (h : -9223372036854775808≤n∧n < 9223372036854775808):I64 n:=h
theorem str_nil {s:ByteArray} (h:s.toList.isEmpty=true):s=⟨#[]⟩:=by
 rw [Go.ByteArray.toList_eq,List.isEmpty_iff] at h
 cases s with
 | mk d=>
  congr 1
  exact Array.toList_eq_nil_iff.1 h
theorem fOk_out (y:S88) (h:fOk y=true):0≤y.f2∧y.f2 < 2147483648∧0≤y.f3∧y.f3 < 2147483648∧0≤y.f8∧y.f8≤2147483648∧(y.f7=false→y.f6=⟨#[]⟩):=by
 unfold fOk at h
 rw [Bool.not_eq_true'] at h
 simp only [Bool.or_eq_false_iff,decide_eq_false_iff_not,Bool.and_eq_false_iff,Bool.not_eq_false'] at h
 obtain ⟨⟨⟨⟨⟨⟨a0,a1⟩,a2⟩,a3⟩,a4⟩,a5⟩,a6⟩:=h
 refine ⟨by omega,by omega,by omega,by omega,by omega,by omega,fun h7=>?_⟩
 rcases a6 with a6|a6
 · rw [h7] at a6;cases a6
 · exact str_nil a6
theorem pOk_out (n:Int) (h:pOk n=true):0≤n∧n < 2147483648:=by
 unfold pOk at h
 rw [Bool.not_eq_true'] at h
 simp only [Bool.or_eq_false_iff,decide_eq_false_iff_not] at h
 omega
theorem wf_Range (y:S115) (g:good115 y):WfRange y:=⟨i64_of (wf_i64 g.1),i64_of (wf_i64 g.2)⟩
theorem wf_clOneof (x:S91) (g:good91 x):WfOneof (clOneof x):=by
 exact ⟨bytes_of_wf g.2.1.2,Unk.nil _⟩
theorem wf_clValue (x:S93) (g:good93 x):WfValue (clValue x):=by
 exact ⟨i64_of (wf_i64 g.2.1),bytes_of_wf g.2.2.1.2,Unk.nil _⟩
theorem wf_clMethod (x:S53) (g:good53 x):WfMethod (clMethod x):=by
 exact ⟨bytes_of_wf g.2.2.2.2.2.1.2,Unk.nil _⟩
theorem wf_clField (x:S88) (g:good88 x) (ok:fOk x=true):WfField (clField x):=by
 have o:=fOk_out x ok
 exact ⟨i64_of (wf_i64 g.2.1),⟨o.1,o.2.1⟩,⟨o.2.2.1,o.2.2.2.1⟩,o.2.2.2.2.2.2,bytes_of_wf g.2.2.2.2.2.2.2.2.2.2.2.1.2,⟨o.2.2.2.2.1,o.2.2.2.2.2.1⟩,Unk.nil _⟩
theorem wf_clEnum (x:S82) (g:good82 x):WfEnum (clEnum x):=by
 exact ⟨fun y hy=>by obtain ⟨y_,hy_,rfl⟩:=List.mem_map.1 hy;exact wf_clValue y_ (g.2.1.2 y_ hy_),bytes_of_wf g.2.2.1.2,Unk.nil _⟩
theorem wf_clService (x:S51) (g:good51 x):WfService (clService x):=by
 exact ⟨fun y hy=>by obtain ⟨y_,hy_,rfl⟩:=List.mem_map.1 hy;exact wf_clMethod y_ (g.2.1.2 y_ hy_),bytes_of_wf g.2.2.1.2,Unk.nil _⟩
theorem wf_clMs (n:Nat):∀ l,(∀ y∈l,good76 y∧mOk y=true)→∀ y∈clMs n l,WfMessage y:=by
 induction n with
 | zero=>intro l _ y hy;cases hy
 | succ n ih=>
  intro l hl y hy
  rw [clMs_succ] at hy
  obtain ⟨x,hx,rfl⟩:=List.mem_map.1 hy
  obtain ⟨g,ok⟩:=hl x hx
  rw [good76] at g
  rw [mOk_eq] at ok
  simp only [Bool.and_eq_true,List.all_eq_true] at ok
  exact WfMessage.mk _ (fun y hy=>by obtain ⟨y_,hy_,rfl⟩:=List.mem_map.1 hy;exact wf_clField y_ (g.2.1.2 y_ hy_) (ok.1 y_ hy_)) (fun y hy=>ih x.f2 (fun z hz=>⟨g.2.2.1.2 z hz,ok.2.2 z hz⟩) y hy) (fun y hy=>by obtain ⟨y_,hy_,rfl⟩:=List.mem_map.1 hy;exact wf_clEnum y_ (g.2.2.2.1.2 y_ hy_)) (fun y hy=>wf_Range y (g.2.2.2.2.1.2 y hy)) (fun y hy=>by obtain ⟨y_,hy_,rfl⟩:=List.mem_map.1 hy;exact wf_clField y_ (g.2.2.2.2.2.1.2 y_ hy_) (ok.2.1 y_ hy_)) (bytes_of_wf g.2.2.2.2.2.2.2.2.2.1.2) (fun y hy=>by obtain ⟨y_,hy_,rfl⟩:=List.mem_map.1 hy;exact wf_clOneof y_ (g.2.2.2.2.2.2.1.2 y_ hy_)) (fun y hy=>wf_Range y (g.2.2.2.2.2.2.2.1.2 y hy)) (fun u=>Unk.nil _)
theorem wf_clFile (x:S30) (g:good30 x) (ok:bdB x=true):WfFile (clFile x):=by
 unfold bdB at ok
 simp only [Bool.and_eq_true,List.all_eq_true] at ok
 exact ⟨wf_clMs 64 x.f4 (fun y hy=>⟨g.2.2.2.2.1.2 y hy,ok.2.2 y hy⟩),fun y hy=>by obtain ⟨y_,hy_,rfl⟩:=List.mem_map.1 hy;exact wf_clEnum y_ (g.2.2.2.2.2.1.2 y_ hy_),fun y hy=>by obtain ⟨y_,hy_,rfl⟩:=List.mem_map.1 hy;exact wf_clService y_ (g.2.2.2.2.2.2.1.2 y_ hy_),fun y hy=>by obtain ⟨y_,hy_,rfl⟩:=List.mem_map.1 hy;exact wf_clField y_ (g.2.2.2.2.2.2.2.1.2 y_ hy_) (ok.2.1 y_ hy_),bytes_of_wf g.2.2.2.2.2.2.2.2.2.1.2,fun y hy=>pOk_out y (ok.1 y hy),fun u=>Unk.nil _⟩
end Go.Proofs.Ytheoafenehckbaa.Ur
