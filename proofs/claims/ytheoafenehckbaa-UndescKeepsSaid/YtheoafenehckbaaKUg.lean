/- What is well formed is good. -/
import Derived.Test.YtheoafenehckbaaKUf
import Derived.Test.YtheoafenehckbaaKA4
import Derived.WalkLawsBesides
namespace Go.Proofs.Ytheoafenehckbaa.Ur
open Wb Dp Rk Sp Go.RowKit GUndescBack YtheoafenehckbaaW.PrintWords YtheoafenehckbaaW.PrintLast YtheoafenehckbaaW.PrintMore Vb Fx Wr Wt Wj Wp Uq
set_option linter.unusedVariables false
set_option linter.unusedSimpArgs false
theorem lit64 {n:Int} (h:I64 n):(Lit.int .i64 n).wf=true:=by
 unfold I64 at h
 exact Go.WalkArith.wf_i64 ⟨h.1,by omega⟩
theorem lit8 {b:List Int} (h:Bytes b):∀ y∈b,(Lit.int .u8 y).wf=true:=fun y hy=>by
 have:=h y hy
 exact Go.WalkArith.wf_u8 ⟨this.1,by omega⟩
theorem mxl {n:Nat} (h:n≤4294967296):n≤maxLen:=Nat.le_trans h (by unfold maxLen;decide)
theorem good_Oneof:∀ (x:S91),WfOneof x→bk91 x≤4294967296→good91 x:=by
 intro x h hk
 have h0:=h.out
 obtain ⟨h0_,h1_⟩:=h0
 unfold bk91 at hk
 (try simp only [jk4] at hk)
 unfold good91
 exact ⟨(mxl (by omega)),⟨mxl (by omega),lit8 h0_⟩,⟨mxl (by omega),lit8 (h1_).bytes⟩⟩
theorem good_Value:∀ (x:S93),WfValue x→bk93 x≤4294967296→good93 x:=by
 intro x h hk
 have h0:=h.out
 obtain ⟨h0_,h1_,h2_⟩:=h0
 unfold bk93 at hk
 (try simp only [jk4] at hk)
 unfold good93
 exact ⟨(mxl (by omega)),(lit64 h0_),⟨mxl (by omega),lit8 h1_⟩,⟨mxl (by omega),lit8 (h2_).bytes⟩⟩
theorem good_Range:∀ (x:S115),WfRange x→bk115 x≤4294967296→good115 x:=by
 intro x h hk
 have h0:=h.out
 obtain ⟨h0_,h1_⟩:=h0
 unfold bk115 at hk
 (try simp only [jk4] at hk)
 unfold good115
 exact ⟨(lit64 h0_),(lit64 h1_)⟩
theorem good_Method:∀ (x:S53),WfMethod x→bk53 x≤4294967296→good53 x:=by
 intro x h hk
 have h0:=h.out
 obtain ⟨h0_,h1_⟩:=h0
 unfold bk53 at hk
 (try simp only [jk4] at hk)
 unfold good53
 exact ⟨(mxl (by omega)),(mxl (by omega)),(mxl (by omega)),trivial,trivial,⟨mxl (by omega),lit8 h0_⟩,⟨mxl (by omega),lit8 (h1_).bytes⟩⟩
theorem good_Field:∀ (x:S88),WfField x→bk88 x≤4294967296→good88 x:=by
 intro x h hk
 have h0:=h.out
 obtain ⟨h0_,h1_,h2_,h3_,h4_,h5_,h6_⟩:=h0
 unfold bk88 at hk
 (try simp only [jk4] at hk)
 unfold good88
 exact ⟨(mxl (by omega)),(lit64 h0_),(lit64 (by unfold I64;omega)),(lit64 (by unfold I64;omega)),(mxl (by omega)),(mxl (by omega)),(mxl (by omega)),trivial,(lit64 (by unfold I64;omega)),(mxl (by omega)),trivial,⟨mxl (by omega),lit8 h4_⟩,⟨mxl (by omega),lit8 (h6_).bytes⟩⟩
theorem good_Enum:∀ (x:S82),WfEnum x→bk82 x≤4294967296→good82 x:=by
 intro x h hk
 have h0:=h.out
 obtain ⟨h0_,h1_,h2_⟩:=h0
 unfold bk82 at hk
 (try simp only [jk4] at hk)
 unfold good82
 exact ⟨(mxl (by omega)),⟨mxl (by have:=R1.len_sum bk93 (fun z=>by unfold bk93;omega) x.f1;omega),fun y hy=>good_Value y (h0_ y hy) (by have h_:=sum_le bk93 x.f1 y hy;omega)⟩,⟨mxl (by omega),lit8 h1_⟩,⟨mxl (by omega),lit8 (h2_).bytes⟩⟩
theorem good_Service:∀ (x:S51),WfService x→bk51 x≤4294967296→good51 x:=by
 intro x h hk
 have h0:=h.out
 obtain ⟨h0_,h1_,h2_⟩:=h0
 unfold bk51 at hk
 (try simp only [jk4] at hk)
 unfold good51
 exact ⟨(mxl (by omega)),⟨mxl (by have:=R1.len_sum bk53 (fun z=>by unfold bk53;omega) x.f1;omega),fun y hy=>good_Method y (h0_ y hy) (by have h_:=sum_le bk53 x.f1 y hy;omega)⟩,⟨mxl (by omega),lit8 h1_⟩,⟨mxl (by omega),lit8 (h2_).bytes⟩⟩
theorem good_Message:∀ (x:S76),WfMessage x→bk76 x≤4294967296→good76 x:=by
 refine S76.ind fun x ih h hk=>?_
 have h0:=h.out
 obtain ⟨h0_,h1_,h2_,h3_,h4_,h5_,h6_,h7_,h8_⟩:=h0
 rw [bk76_eq] at hk
 (try simp only [jk4] at hk)
 rw [good76]
 exact ⟨(mxl (by omega)),⟨mxl (by have:=R1.len_sum bk88 (fun z=>by unfold bk88;omega) x.f1;omega),fun y hy=>good_Field y (h0_ y hy) (by have h_:=sum_le bk88 x.f1 y hy;omega)⟩,⟨mxl (by have:=R1.len_sum bk76 (fun z=>by rw [bk76_eq];omega) x.f2;omega),fun y hy=>ih y hy (h1_ y hy) (by have h_:=sum_le bk76 x.f2 y hy;omega)⟩,⟨mxl (by have:=R1.len_sum bk82 (fun z=>by unfold bk82;omega) x.f3;omega),fun y hy=>good_Enum y (h2_ y hy) (by have h_:=sum_le bk82 x.f3 y hy;omega)⟩,⟨mxl (by have:=R1.len_sum bk115 (fun z=>by unfold bk115;omega) x.f4;omega),fun y hy=>good_Range y (h3_ y hy) (by have h_:=sum_le bk115 x.f4 y hy;omega)⟩,⟨mxl (by have:=R1.len_sum bk88 (fun z=>by unfold bk88;omega) x.f5;omega),fun y hy=>good_Field y (h4_ y hy) (by have h_:=sum_le bk88 x.f5 y hy;omega)⟩,⟨mxl (by have:=R1.len_sum bk91 (fun z=>by unfold bk91;omega) x.f6;omega),fun y hy=>good_Oneof y (h6_ y hy) (by have h_:=sum_le bk91 x.f6 y hy;omega)⟩,⟨mxl (by have:=R1.len_sum bk115 (fun z=>by unfold bk115;omega) x.f7;omega),fun y hy=>good_Range y (h7_ y hy) (by have h_:=sum_le bk115 x.f7 y hy;omega)⟩,⟨mxl (by have:=R1.len_sum (fun z:ByteArray=>z.size+1) (fun z=>by omega) x.f8;omega),fun y hy=>mxl (by have h_:=sum_le (fun z:ByteArray=>z.size+1) x.f8 y hy;omega)⟩,⟨mxl (by omega),lit8 h5_⟩,⟨mxl (by omega),lit8 (h8_ (fun _=>.error 0)).bytes⟩⟩
theorem good_File:∀ (x:S30),WfFile x→bk30 x≤4294967296→good30 x:=by
 intro x h hk
 have h0:=h.out
 obtain ⟨h0_,h1_,h2_,h3_,h4_,h5_,h6_⟩:=h0
 unfold bk30 at hk
 (try simp only [jk4] at hk)
 unfold good30
 exact ⟨(mxl (by omega)),(mxl (by omega)),⟨mxl (by have:=R1.len_sum (fun z:ByteArray=>z.size+1) (fun z=>by omega) x.f2;omega),fun y hy=>mxl (by have h_:=sum_le (fun z:ByteArray=>z.size+1) x.f2 y hy;omega)⟩,⟨mxl (by omega),fun y hy=>lit64 (by have h_:=h5_ y hy;unfold I64;omega)⟩,⟨mxl (by have:=R1.len_sum bk76 (fun z=>by rw [bk76_eq];omega) x.f4;omega),fun y hy=>good_Message y (h0_ y hy) (by have h_:=sum_le bk76 x.f4 y hy;omega)⟩,⟨mxl (by have:=R1.len_sum bk82 (fun z=>by unfold bk82;omega) x.f5;omega),fun y hy=>good_Enum y (h1_ y hy) (by have h_:=sum_le bk82 x.f5 y hy;omega)⟩,⟨mxl (by have:=R1.len_sum bk51 (fun z=>by unfold bk51;omega) x.f6;omega),fun y hy=>good_Service y (h2_ y hy) (by have h_:=sum_le bk51 x.f6 y hy;omega)⟩,⟨mxl (by have:=R1.len_sum bk88 (fun z=>by unfold bk88;omega) x.f7;omega),fun y hy=>good_Field y (h3_ y hy) (by have h_:=sum_le bk88 x.f7 y hy;omega)⟩,(mxl (by omega)),⟨mxl (by omega),lit8 h4_⟩,⟨mxl (by omega),lit8 (h6_ (fun _=>.error 0)).bytes⟩⟩
end Go.Proofs.Ytheoafenehckbaa.Ur
