/- What was written of a well formed struct is read again. -/
import Derived.Test.YtheoafenehckbaaKUp
import Derived.Test.YtheoafenehckbaaKVFile
import Derived.Test.YtheoafenehckbaaKDp
import Derived.WalkLawsBesides
namespace Go.Proofs.Ytheoafenehckbaa.Ur
open Wb Dp Rk Sp Go.RowKit GUndescBack YtheoafenehckbaaW.PrintWords YtheoafenehckbaaW.PrintLast YtheoafenehckbaaW.PrintMore Vb Fx Wr Wt Wj Wp Uq
set_option linter.unusedVariables false
set_option linter.unusedSimpArgs false
def I64 (n:Int):Prop:=-9223372036854775808≤n∧n < 9223372036854775808
theorem w64 {n:Int} (h:I64 n):wrap64 (IntKind.u64.wrap n)=n:=by
 unfold I64 at h
 rw [wrap_u64]
 unfold wrap64
 omega
theorem w64r {n:Int} (h:I64 n):wrap64 (IntKind.u64.wrap (IntKind.u64.wrap (wrap64 (IntKind.u64.wrap (IntKind.u64.wrap n+1))) - 1))=n:=by
 unfold I64 at h
 simp only [wrap_u64]
 unfold wrap64
 omega
theorem wone:IntKind.u64.wrap 1=1:=by rw [wrap_u64];rfl
theorem pl {n:Int} (h:0≤n∧n < 2147483648):placeU (IntKind.u64.wrap n) = .ok n:=by
 have e:IntKind.u64.wrap n=n:=by rw [wrap_u64];omega
 rw [e]
 unfold placeU
 exact if_neg (by omega)
theorem plp {n:Int} (h:0≤n∧n≤2147483648) (hz:n≠0):placeU (IntKind.u64.wrap (wrap64 (n - 1))) = .ok (n - 1):=by
 have e:wrap64 (n - 1)=n - 1:=by unfold wrap64;omega
 rw [e]
 exact pl (by omega)
theorem wrp {n:Int} (h:0≤n∧n≤2147483648):wrap64 n=n:=by unfold wrap64;omega
section
variable {σ:Type} {step:σ→S97→Except Int (σ × Bool)}
theorem seg_t (mk:ByteArray→σ) (num:Int) (s:ByteArray) (k:List Int) (h:step (mk ⟨#[]⟩) (B2 num (bytesOf s)) = .ok (mk s,true)):foldU step (tR num s) (mk ⟨#[]⟩) k = .ok (mk s,k):=by
 unfold tR
 by_cases h0:s.size=0
 · rw [if_pos h0]
   obtain rfl:s=⟨#[]⟩:=by cases s;congr;exact Array.eq_empty_of_size_eq_zero h0
   rfl
 · rw [if_neg h0]
   exact fold_one k h
theorem seg_o (mk:List Int→σ) (num:Int) (b:List Int) (k:List Int) (h:step (mk []) (B2 num b) = .ok (mk b,true)):foldU step (oR num b) (mk []) k = .ok (mk b,k):=by
 unfold oR
 by_cases h0:b=[]
 · rw [if_pos h0,h0];rfl
 · rw [if_neg h0]
   exact fold_one k h
theorem seg_s (mk:Int→σ) (num n:Int) (k:List Int) (h:step (mk 0) (N0 num n) = .ok (mk n,true)):foldU step (sR num n) (mk 0) k = .ok (mk n,k):=by
 unfold sR
 by_cases h0:n=0
 · rw [if_pos h0,h0];rfl
 · rw [if_neg h0]
   exact fold_one k h
theorem seg_p (mk:Int→σ) (n:Int) (k:List Int) (h:n≠0→step (mk 0) (N0 9 (wrap64 (n - 1))) = .ok (mk n,true)):foldU step (pR n) (mk 0) k = .ok (mk n,k):=by
 unfold pR
 by_cases h0:n=0
 · rw [if_pos h0,h0];rfl
 · rw [if_neg h0]
   exact fold_one k (h h0)
theorem seg_B (mk:Bool→σ) (num:Int) (is:Bool) (k:List Int) (h:step (mk false) (N0 num 1) = .ok (mk true,true)):foldU step (tBR num is) (mk false) k = .ok (mk is,k):=by
 unfold tBR
 cases is with
 | false=>rfl
 | true=>exact fold_one k h
theorem seg_d (mk:ByteArray→Bool→σ) (has:Bool) (s:ByteArray) (k:List Int) (hd:has=false→s=⟨#[]⟩) (h:step (mk ⟨#[]⟩ false) (B2 7 (bytesOf s)) = .ok (mk s true,true)):foldU step (dR has s) (mk ⟨#[]⟩ false) k = .ok (mk s has,k):=by
 unfold dR
 cases has with
 | false=>rw [hd rfl];rfl
 | true=>exact fold_one k h
end
theorem tR_fit {num:Int} {s:ByteArray} (hn:1≤num∧num≤536870911) (hl:s.size < 4294967296):∀ r∈tR num s,Fit r:=by
 intro r hr
 unfold tR at hr
 by_cases h0:s.size=0
 · rw [if_pos h0] at hr;cases hr
 · rw [if_neg h0] at hr
   rw [List.mem_singleton.1 hr]
   exact B2_fit hn (bytes_of_str s) (by rw [bytesOf_length];exact hl)
theorem oR_fit {num:Int} {b:List Int} (hn:1≤num∧num≤536870911) (hb:Bytes b) (hl:b.length < 4294967296):∀ r∈oR num b,Fit r:=by
 intro r hr
 unfold oR at hr
 by_cases h0:b=[]
 · rw [if_pos h0] at hr;cases hr
 · rw [if_neg h0] at hr
   rw [List.mem_singleton.1 hr]
   exact B2_fit hn hb hl
theorem sR_fit {num n:Int} (hn:1≤num∧num≤536870911):∀ r∈sR num n,Fit r:=by
 intro r hr
 unfold sR at hr
 by_cases h0:n=0
 · rw [if_pos h0] at hr;cases hr
 · rw [if_neg h0] at hr
   rw [List.mem_singleton.1 hr]
   exact N0_fit _ hn
theorem pR_fit {n:Int}:∀ r∈pR n,Fit r:=by
 intro r hr
 unfold pR at hr
 by_cases h0:n=0
 · rw [if_pos h0] at hr;cases hr
 · rw [if_neg h0] at hr
   rw [List.mem_singleton.1 hr]
   exact N0_fit _ (by decide)
theorem tBR_fit {num:Int} {is:Bool} (hn:1≤num∧num≤536870911):∀ r∈tBR num is,Fit r:=by
 intro r hr
 unfold tBR at hr
 cases is with
 | false=>cases hr
 | true=>rw [List.mem_singleton.1 hr];exact N0_fit _ hn
theorem dR_fit {has:Bool} {s:ByteArray} (hl:s.size < 4294967296):∀ r∈dR has s,Fit r:=by
 intro r hr
 unfold dR at hr
 cases has with
 | false=>cases hr
 | true=>rw [List.mem_singleton.1 hr];exact B2_fit (by decide) (bytes_of_str s) (by rw [bytesOf_length];exact hl)
theorem fB_bytes (num:Int) {b:List Int} (h:Bytes b):Bytes (fB num b):=field_bytes _ _ _ _ h
theorem fN_bytes (num n:Int):Bytes (fN num n):=field_bytes _ _ _ _ (fun x hx=>by cases hx)
theorem nil_bytes:Bytes []:=fun x hx=>by cases hx
theorem tS_bytes (num:Int) (s:ByteArray):Bytes (tS num s):=by unfold tS;split;exact nil_bytes;exact fB_bytes _ (bytes_of_str s)
theorem oB_bytes (num:Int) {b:List Int} (h:Bytes b):Bytes (oB num b):=by unfold oB;split;exact nil_bytes;exact fB_bytes _ h
theorem sN_bytes (num n:Int):Bytes (sN num n):=by unfold sN;split;exact nil_bytes;exact fN_bytes _ _
theorem tB_bytes (num:Int) (is:Bool):Bytes (tB num is):=by unfold tB;split;exact fN_bytes _ _;exact nil_bytes
theorem dB_bytes (has:Bool) (s:ByteArray):Bytes (dB has s):=by unfold dB;split;exact fB_bytes _ (bytes_of_str s);exact nil_bytes
theorem pN_bytes (n:Int):Bytes (pN n):=by unfold pN;split;exact nil_bytes;exact fN_bytes _ _
theorem flatM_bytes {α:Type} {g:α→List Int} (l:List α) (h:∀ y∈l,Bytes (g y)):Bytes (l.flatMap g):=by
 intro x hx
 obtain ⟨y,hy,hx⟩:=List.mem_flatMap.1 hx
 exact h y hy x hx
def WfOneof (x:S91):Prop:=Bytes x.f1∧(Unk stOneof x.f2)
theorem WfOneof.out {x:S91} (h:WfOneof x):Bytes x.f1∧(Unk stOneof x.f2):=h
def rOneof (x:S91):List S97:=tR 1 x.f0++(oR 2 x.f1)
theorem bOneof_flat (x:S91) (l:List S97) (h:x.f2=flat l):bOneof x=flat (rOneof x++l):=by
 unfold rOneof
 rw [bOneof]
 simp only [flat_append,oR_flat,tR_flat,List.append_assoc,h]
theorem bOneof_bytes (x:S91) (h:WfOneof x):Bytes (bOneof x):=by
 have h0:=h.out
 obtain ⟨h0_,h1_⟩:=h0
 unfold bOneof
 refine bytes_append (tS_bytes _ _) ?_
 refine bytes_append (oB_bytes _ h0_) ?_
 exact (h1_).bytes
theorem rOneof_fit (x:S91) (h:WfOneof x) (hk:bk91 x≤4194304):∀ r∈rOneof x,Fit r:=by
 have h0:=h.out
 unfold bk91 at hk
 (try simp only [sum_one] at hk)
 obtain ⟨h0_,h1_⟩:=h0
 unfold rOneof
 intro r hr
 rcases List.mem_append.1 hr with hr|hr
 · exact tR_fit (by decide) (by omega) r hr
 exact oR_fit (by decide) h0_ (by omega) r hr
theorem fOneof (x:S91) (h:WfOneof x) (k:List Int):foldU stOneof (rOneof x) (⟨(⟨#[]⟩:ByteArray),([]:List Int),([]:List Int)⟩:S91) k = .ok ((⟨x.f0,x.f1,([]:List Int)⟩:S91),k):=by
 have h0:=h.out
 obtain ⟨h0_,h1_⟩:=h0
 unfold rOneof
 refine (fold_ok (s1:=(⟨x.f0,([]:List Int),([]:List Int)⟩:S91)) (k1:=k) (seg_t (fun z_=>(⟨z_,([]:List Int),([]:List Int)⟩:S91)) 1 x.f0 k (by unfold stOneof;simp [ofL,ofV,B2,N0,strOf_bytesOf]))).trans ?_
 exact seg_o (fun z_=>(⟨x.f0,z_,([]:List Int)⟩:S91)) 2 x.f1 k (by unfold stOneof;simp [ofL,ofV,B2,N0])
theorem uOneof_b (x:S91) (h:WfOneof x) (hk:bk91 x≤4194304):uOneof (bOneof x) = .ok x:=by
 have hf:=rOneof_fit x h hk
 have hF:=fOneof x h []
 have h0:=h.out
 obtain ⟨h0_,h1_⟩:=h0
 obtain ⟨l,hl,hx⟩:=h1_
 have hall:∀ r∈rOneof x++l,Fit r:=fun r hr=>(List.mem_append.1 hr).elim (hf r) (fun h=>(hl r h).1)
 have hS:=fold_skip (step:=stOneof) l (fun r hr=>⟨(hl r hr).1.1,(hl r hr).2⟩) (⟨x.f0,x.f1,([]:List Int)⟩:S91) []
 have hR:readU stOneof (bOneof x) (⟨(⟨#[]⟩:ByteArray),([]:List Int),([]:List Int)⟩:S91) = .ok ((⟨x.f0,x.f1,([]:List Int)⟩:S91),flat l):=by
  rw [bOneof_flat x l hx,readU_flat _ _ hall,fold_ok hF,hS,List.nil_append]
 unfold uOneof
 rw [show (z91:S91)=(⟨(⟨#[]⟩:ByteArray),([]:List Int),([]:List Int)⟩:S91) from rfl,hR]
 rw [← hx]
def WfValue (x:S93):Prop:=I64 x.f1∧Bytes x.f2∧(Unk stValue x.f3)
theorem WfValue.out {x:S93} (h:WfValue x):I64 x.f1∧Bytes x.f2∧(Unk stValue x.f3):=h
def rValue (x:S93):List S97:=tR 1 x.f0++([N0 2 x.f1]++(oR 3 x.f2))
theorem bValue_flat (x:S93) (l:List S97) (h:x.f3=flat l):bValue x=flat (rValue x++l):=by
 unfold rValue
 rw [bValue]
 simp only [flat_append,flat_one,oR_flat,tR_flat,List.append_assoc,h]
 rfl
theorem bValue_bytes (x:S93) (h:WfValue x):Bytes (bValue x):=by
 have h0:=h.out
 obtain ⟨h0_,h1_,h2_⟩:=h0
 unfold bValue
 refine bytes_append (tS_bytes _ _) ?_
 refine bytes_append (fN_bytes _ _) ?_
 refine bytes_append (oB_bytes _ h1_) ?_
 exact (h2_).bytes
theorem rValue_fit (x:S93) (h:WfValue x) (hk:bk93 x≤4194304):∀ r∈rValue x,Fit r:=by
 have h0:=h.out
 unfold bk93 at hk
 (try simp only [sum_one] at hk)
 obtain ⟨h0_,h1_,h2_⟩:=h0
 unfold rValue
 intro r hr
 rcases List.mem_append.1 hr with hr|hr
 · exact tR_fit (by decide) (by omega) r hr
 rcases List.mem_append.1 hr with hr|hr
 · rw [List.mem_singleton.1 hr];exact N0_fit _ (by decide)
 exact oR_fit (by decide) h1_ (by omega) r hr
theorem fValue (x:S93) (h:WfValue x) (k:List Int):foldU stValue (rValue x) (⟨(⟨#[]⟩:ByteArray),(0:Int),([]:List Int),([]:List Int)⟩:S93) k = .ok ((⟨x.f0,x.f1,x.f2,([]:List Int)⟩:S93),k):=by
 have h0:=h.out
 obtain ⟨h0_,h1_,h2_⟩:=h0
 unfold rValue
 refine (fold_ok (s1:=(⟨x.f0,(0:Int),([]:List Int),([]:List Int)⟩:S93)) (k1:=k) (seg_t (fun z_=>(⟨z_,(0:Int),([]:List Int),([]:List Int)⟩:S93)) 1 x.f0 k (by unfold stValue;simp [ofL,ofV,B2,N0,strOf_bytesOf]))).trans ?_
 refine (fold_ok (s1:=(⟨x.f0,x.f1,([]:List Int),([]:List Int)⟩:S93)) (k1:=k) (fold_one k (by unfold stValue;simp [ofL,ofV,B2,N0,w64 h0_]))).trans ?_
 exact seg_o (fun z_=>(⟨x.f0,x.f1,z_,([]:List Int)⟩:S93)) 3 x.f2 k (by unfold stValue;simp [ofL,ofV,B2,N0])
theorem uValue_b (x:S93) (h:WfValue x) (hk:bk93 x≤4194304):uValue (bValue x) = .ok x:=by
 have hf:=rValue_fit x h hk
 have hF:=fValue x h []
 have h0:=h.out
 obtain ⟨h0_,h1_,h2_⟩:=h0
 obtain ⟨l,hl,hx⟩:=h2_
 have hall:∀ r∈rValue x++l,Fit r:=fun r hr=>(List.mem_append.1 hr).elim (hf r) (fun h=>(hl r h).1)
 have hS:=fold_skip (step:=stValue) l (fun r hr=>⟨(hl r hr).1.1,(hl r hr).2⟩) (⟨x.f0,x.f1,x.f2,([]:List Int)⟩:S93) []
 have hR:readU stValue (bValue x) (⟨(⟨#[]⟩:ByteArray),(0:Int),([]:List Int),([]:List Int)⟩:S93) = .ok ((⟨x.f0,x.f1,x.f2,([]:List Int)⟩:S93),flat l):=by
  rw [bValue_flat x l hx,readU_flat _ _ hall,fold_ok hF,hS,List.nil_append]
 unfold uValue
 rw [show (z93:S93)=(⟨(⟨#[]⟩:ByteArray),(0:Int),([]:List Int),([]:List Int)⟩:S93) from rfl,hR]
 rw [← hx]
def WfRange (x:S115):Prop:=I64 x.f0∧I64 x.f1
theorem WfRange.out {x:S115} (h:WfRange x):I64 x.f0∧I64 x.f1:=h
def rRange (x:S115):List S97:=[N0 1 x.f0]++([N0 2 (wrap64 (IntKind.u64.wrap (IntKind.u64.wrap x.f1+1)))])
theorem bRange_flat (x:S115):bRange x=flat (rRange x):=by
 unfold rRange
 rw [bRange]
 simp only [flat_append,flat_one,List.append_assoc]
 rfl
theorem bRange_bytes (x:S115) (h:WfRange x):Bytes (bRange x):=by
 have h0:=h.out
 obtain ⟨h0_,h1_⟩:=h0
 unfold bRange
 refine bytes_append (fN_bytes _ _) ?_
 exact fN_bytes _ _
theorem rRange_fit (x:S115) (h:WfRange x) (hk:bk115 x≤4194304):∀ r∈rRange x,Fit r:=by
 have h0:=h.out
 unfold bk115 at hk
 (try simp only [sum_one] at hk)
 obtain ⟨h0_,h1_⟩:=h0
 unfold rRange
 intro r hr
 rcases List.mem_append.1 hr with hr|hr
 · rw [List.mem_singleton.1 hr];exact N0_fit _ (by decide)
 rw [List.mem_singleton.1 hr];exact N0_fit _ (by decide)
theorem fRange (x:S115) (h:WfRange x) (k:List Int):foldU stRange (rRange x) (⟨(0:Int),(-1:Int)⟩:S115) k = .ok ((⟨x.f0,x.f1⟩:S115),k):=by
 have h0:=h.out
 obtain ⟨h0_,h1_⟩:=h0
 unfold rRange
 refine (fold_ok (s1:=(⟨x.f0,(-1:Int)⟩:S115)) (k1:=k) (fold_one k (by unfold stRange;simp [ofL,ofV,B2,N0,w64 h0_]))).trans ?_
 exact fold_one k (by unfold stRange;simp [ofL,ofV,B2,N0,w64r h1_])
theorem uRange_b (x:S115) (h:WfRange x) (hk:bk115 x≤4194304):uRange (bRange x) = .ok x:=by
 have hf:=rRange_fit x h hk
 have hF:=fRange x h []
 have hR:readU stRange (bRange x) (⟨(0:Int),(-1:Int)⟩:S115) = .ok (x,[]):=by
  rw [bRange_flat x,readU_flat _ _ hf,hF]
 unfold uRange
 rw [show ((⟨0,-1⟩:S115):S115)=(⟨(0:Int),(-1:Int)⟩:S115) from rfl,hR]
def WfMethod (x:S53):Prop:=Bytes x.f5∧(Unk stMethod x.f6)
theorem WfMethod.out {x:S53} (h:WfMethod x):Bytes x.f5∧(Unk stMethod x.f6):=h
def rMethod (x:S53):List S97:=tR 1 x.f0++(tR 2 x.f1++(tR 3 x.f2++(oR 4 x.f5++(tBR 5 x.f3++(tBR 6 x.f4)))))
theorem bMethod_flat (x:S53) (l:List S97) (h:x.f6=flat l):bMethod x=flat (rMethod x++l):=by
 unfold rMethod
 rw [bMethod]
 simp only [flat_append,oR_flat,tBR_flat,tR_flat,List.append_assoc,h]
theorem bMethod_bytes (x:S53) (h:WfMethod x):Bytes (bMethod x):=by
 have h0:=h.out
 obtain ⟨h0_,h1_⟩:=h0
 unfold bMethod
 refine bytes_append (tS_bytes _ _) ?_
 refine bytes_append (tS_bytes _ _) ?_
 refine bytes_append (tS_bytes _ _) ?_
 refine bytes_append (oB_bytes _ h0_) ?_
 refine bytes_append (tB_bytes _ _) ?_
 refine bytes_append (tB_bytes _ _) ?_
 exact (h1_).bytes
theorem rMethod_fit (x:S53) (h:WfMethod x) (hk:bk53 x≤4194304):∀ r∈rMethod x,Fit r:=by
 have h0:=h.out
 unfold bk53 at hk
 (try simp only [sum_one] at hk)
 obtain ⟨h0_,h1_⟩:=h0
 unfold rMethod
 intro r hr
 rcases List.mem_append.1 hr with hr|hr
 · exact tR_fit (by decide) (by omega) r hr
 rcases List.mem_append.1 hr with hr|hr
 · exact tR_fit (by decide) (by omega) r hr
 rcases List.mem_append.1 hr with hr|hr
 · exact tR_fit (by decide) (by omega) r hr
 rcases List.mem_append.1 hr with hr|hr
 · exact oR_fit (by decide) h0_ (by omega) r hr
 rcases List.mem_append.1 hr with hr|hr
 · exact tBR_fit (by decide) r hr
 exact tBR_fit (by decide) r hr
theorem fMethod (x:S53) (h:WfMethod x) (k:List Int):foldU stMethod (rMethod x) (⟨(⟨#[]⟩:ByteArray),(⟨#[]⟩:ByteArray),(⟨#[]⟩:ByteArray),false,false,([]:List Int),([]:List Int)⟩:S53) k = .ok ((⟨x.f0,x.f1,x.f2,x.f3,x.f4,x.f5,([]:List Int)⟩:S53),k):=by
 have h0:=h.out
 obtain ⟨h0_,h1_⟩:=h0
 unfold rMethod
 refine (fold_ok (s1:=(⟨x.f0,(⟨#[]⟩:ByteArray),(⟨#[]⟩:ByteArray),false,false,([]:List Int),([]:List Int)⟩:S53)) (k1:=k) (seg_t (fun z_=>(⟨z_,(⟨#[]⟩:ByteArray),(⟨#[]⟩:ByteArray),false,false,([]:List Int),([]:List Int)⟩:S53)) 1 x.f0 k (by unfold stMethod;simp [ofL,ofV,B2,N0,strOf_bytesOf]))).trans ?_
 refine (fold_ok (s1:=(⟨x.f0,x.f1,(⟨#[]⟩:ByteArray),false,false,([]:List Int),([]:List Int)⟩:S53)) (k1:=k) (seg_t (fun z_=>(⟨x.f0,z_,(⟨#[]⟩:ByteArray),false,false,([]:List Int),([]:List Int)⟩:S53)) 2 x.f1 k (by unfold stMethod;simp [ofL,ofV,B2,N0,strOf_bytesOf]))).trans ?_
 refine (fold_ok (s1:=(⟨x.f0,x.f1,x.f2,false,false,([]:List Int),([]:List Int)⟩:S53)) (k1:=k) (seg_t (fun z_=>(⟨x.f0,x.f1,z_,false,false,([]:List Int),([]:List Int)⟩:S53)) 3 x.f2 k (by unfold stMethod;simp [ofL,ofV,B2,N0,strOf_bytesOf]))).trans ?_
 refine (fold_ok (s1:=(⟨x.f0,x.f1,x.f2,false,false,x.f5,([]:List Int)⟩:S53)) (k1:=k) (seg_o (fun z_=>(⟨x.f0,x.f1,x.f2,false,false,z_,([]:List Int)⟩:S53)) 4 x.f5 k (by unfold stMethod;simp [ofL,ofV,B2,N0]))).trans ?_
 refine (fold_ok (s1:=(⟨x.f0,x.f1,x.f2,x.f3,false,x.f5,([]:List Int)⟩:S53)) (k1:=k) (seg_B (fun z_=>(⟨x.f0,x.f1,x.f2,z_,false,x.f5,([]:List Int)⟩:S53)) 5 x.f3 k (by unfold stMethod;simp [ofL,ofV,B2,N0,wone]))).trans ?_
 exact seg_B (fun z_=>(⟨x.f0,x.f1,x.f2,x.f3,z_,x.f5,([]:List Int)⟩:S53)) 6 x.f4 k (by unfold stMethod;simp [ofL,ofV,B2,N0,wone])
theorem uMethod_b (x:S53) (h:WfMethod x) (hk:bk53 x≤4194304):uMethod (bMethod x) = .ok x:=by
 have hf:=rMethod_fit x h hk
 have hF:=fMethod x h []
 have h0:=h.out
 obtain ⟨h0_,h1_⟩:=h0
 obtain ⟨l,hl,hx⟩:=h1_
 have hall:∀ r∈rMethod x++l,Fit r:=fun r hr=>(List.mem_append.1 hr).elim (hf r) (fun h=>(hl r h).1)
 have hS:=fold_skip (step:=stMethod) l (fun r hr=>⟨(hl r hr).1.1,(hl r hr).2⟩) (⟨x.f0,x.f1,x.f2,x.f3,x.f4,x.f5,([]:List Int)⟩:S53) []
 have hR:readU stMethod (bMethod x) (⟨(⟨#[]⟩:ByteArray),(⟨#[]⟩:ByteArray),(⟨#[]⟩:ByteArray),false,false,([]:List Int),([]:List Int)⟩:S53) = .ok ((⟨x.f0,x.f1,x.f2,x.f3,x.f4,x.f5,([]:List Int)⟩:S53),flat l):=by
  rw [bMethod_flat x l hx,readU_flat _ _ hall,fold_ok hF,hS,List.nil_append]
 unfold uMethod
 rw [show (z53:S53)=(⟨(⟨#[]⟩:ByteArray),(⟨#[]⟩:ByteArray),(⟨#[]⟩:ByteArray),false,false,([]:List Int),([]:List Int)⟩:S53) from rfl,hR]
 rw [← hx]
def WfField (x:S88):Prop:=I64 x.f1∧(0≤x.f2∧x.f2 < 2147483648)∧(0≤x.f3∧x.f3 < 2147483648)∧(x.f7=false→x.f6=⟨#[]⟩)∧Bytes x.f11∧(0≤x.f8∧x.f8≤2147483648)∧(Unk stField x.f12)
theorem WfField.out {x:S88} (h:WfField x):I64 x.f1∧(0≤x.f2∧x.f2 < 2147483648)∧(0≤x.f3∧x.f3 < 2147483648)∧(x.f7=false→x.f6=⟨#[]⟩)∧Bytes x.f11∧(0≤x.f8∧x.f8≤2147483648)∧(Unk stField x.f12):=h
def rField (x:S88):List S97:=tR 1 x.f0++(tR 2 x.f5++(sR 3 x.f1++(sR 4 x.f2++(sR 5 x.f3++(tR 6 x.f4++(dR x.f7 x.f6++(oR 8 x.f11++(pR x.f8++(tR 10 x.f9++(tBR 17 x.f10))))))))))
theorem bField_flat (x:S88) (l:List S97) (h:x.f12=flat l):bField x=flat (rField x++l):=by
 unfold rField
 rw [bField]
 simp only [flat_append,dR_flat,oR_flat,pR_flat,sR_flat,tBR_flat,tR_flat,List.append_assoc,h]
theorem bField_bytes (x:S88) (h:WfField x):Bytes (bField x):=by
 have h0:=h.out
 obtain ⟨h0_,h1_,h2_,h3_,h4_,h5_,h6_⟩:=h0
 unfold bField
 refine bytes_append (tS_bytes _ _) ?_
 refine bytes_append (tS_bytes _ _) ?_
 refine bytes_append (sN_bytes _ _) ?_
 refine bytes_append (sN_bytes _ _) ?_
 refine bytes_append (sN_bytes _ _) ?_
 refine bytes_append (tS_bytes _ _) ?_
 refine bytes_append (dB_bytes _ _) ?_
 refine bytes_append (oB_bytes _ h4_) ?_
 refine bytes_append (pN_bytes _) ?_
 refine bytes_append (tS_bytes _ _) ?_
 refine bytes_append (tB_bytes _ _) ?_
 exact (h6_).bytes
theorem rField_fit (x:S88) (h:WfField x) (hk:bk88 x≤4194304):∀ r∈rField x,Fit r:=by
 have h0:=h.out
 unfold bk88 at hk
 (try simp only [sum_one] at hk)
 obtain ⟨h0_,h1_,h2_,h3_,h4_,h5_,h6_⟩:=h0
 unfold rField
 intro r hr
 rcases List.mem_append.1 hr with hr|hr
 · exact tR_fit (by decide) (by omega) r hr
 rcases List.mem_append.1 hr with hr|hr
 · exact tR_fit (by decide) (by omega) r hr
 rcases List.mem_append.1 hr with hr|hr
 · exact sR_fit (by decide) r hr
 rcases List.mem_append.1 hr with hr|hr
 · exact sR_fit (by decide) r hr
 rcases List.mem_append.1 hr with hr|hr
 · exact sR_fit (by decide) r hr
 rcases List.mem_append.1 hr with hr|hr
 · exact tR_fit (by decide) (by omega) r hr
 rcases List.mem_append.1 hr with hr|hr
 · exact dR_fit (by omega) r hr
 rcases List.mem_append.1 hr with hr|hr
 · exact oR_fit (by decide) h4_ (by omega) r hr
 rcases List.mem_append.1 hr with hr|hr
 · exact pR_fit r hr
 rcases List.mem_append.1 hr with hr|hr
 · exact tR_fit (by decide) (by omega) r hr
 exact tBR_fit (by decide) r hr
theorem fField (x:S88) (h:WfField x) (k:List Int):foldU stField (rField x) (⟨(⟨#[]⟩:ByteArray),(0:Int),(0:Int),(0:Int),(⟨#[]⟩:ByteArray),(⟨#[]⟩:ByteArray),(⟨#[]⟩:ByteArray),false,(0:Int),(⟨#[]⟩:ByteArray),false,([]:List Int),([]:List Int)⟩:S88) k = .ok ((⟨x.f0,x.f1,x.f2,x.f3,x.f4,x.f5,x.f6,x.f7,x.f8,x.f9,x.f10,x.f11,([]:List Int)⟩:S88),k):=by
 have h0:=h.out
 obtain ⟨h0_,h1_,h2_,h3_,h4_,h5_,h6_⟩:=h0
 unfold rField
 refine (fold_ok (s1:=(⟨x.f0,(0:Int),(0:Int),(0:Int),(⟨#[]⟩:ByteArray),(⟨#[]⟩:ByteArray),(⟨#[]⟩:ByteArray),false,(0:Int),(⟨#[]⟩:ByteArray),false,([]:List Int),([]:List Int)⟩:S88)) (k1:=k) (seg_t (fun z_=>(⟨z_,(0:Int),(0:Int),(0:Int),(⟨#[]⟩:ByteArray),(⟨#[]⟩:ByteArray),(⟨#[]⟩:ByteArray),false,(0:Int),(⟨#[]⟩:ByteArray),false,([]:List Int),([]:List Int)⟩:S88)) 1 x.f0 k (by unfold stField;simp [ofL,ofV,B2,N0,strOf_bytesOf]))).trans ?_
 refine (fold_ok (s1:=(⟨x.f0,(0:Int),(0:Int),(0:Int),(⟨#[]⟩:ByteArray),x.f5,(⟨#[]⟩:ByteArray),false,(0:Int),(⟨#[]⟩:ByteArray),false,([]:List Int),([]:List Int)⟩:S88)) (k1:=k) (seg_t (fun z_=>(⟨x.f0,(0:Int),(0:Int),(0:Int),(⟨#[]⟩:ByteArray),z_,(⟨#[]⟩:ByteArray),false,(0:Int),(⟨#[]⟩:ByteArray),false,([]:List Int),([]:List Int)⟩:S88)) 2 x.f5 k (by unfold stField;simp [ofL,ofV,B2,N0,strOf_bytesOf]))).trans ?_
 refine (fold_ok (s1:=(⟨x.f0,x.f1,(0:Int),(0:Int),(⟨#[]⟩:ByteArray),x.f5,(⟨#[]⟩:ByteArray),false,(0:Int),(⟨#[]⟩:ByteArray),false,([]:List Int),([]:List Int)⟩:S88)) (k1:=k) (seg_s (fun z_=>(⟨x.f0,z_,(0:Int),(0:Int),(⟨#[]⟩:ByteArray),x.f5,(⟨#[]⟩:ByteArray),false,(0:Int),(⟨#[]⟩:ByteArray),false,([]:List Int),([]:List Int)⟩:S88)) 3 x.f1 k (by unfold stField;simp [ofL,ofV,B2,N0,w64 h0_]))).trans ?_
 refine (fold_ok (s1:=(⟨x.f0,x.f1,x.f2,(0:Int),(⟨#[]⟩:ByteArray),x.f5,(⟨#[]⟩:ByteArray),false,(0:Int),(⟨#[]⟩:ByteArray),false,([]:List Int),([]:List Int)⟩:S88)) (k1:=k) (seg_s (fun z_=>(⟨x.f0,x.f1,z_,(0:Int),(⟨#[]⟩:ByteArray),x.f5,(⟨#[]⟩:ByteArray),false,(0:Int),(⟨#[]⟩:ByteArray),false,([]:List Int),([]:List Int)⟩:S88)) 4 x.f2 k (by unfold stField;simp [ofL,ofV,B2,N0,pl h1_]))).trans ?_
 refine (fold_ok (s1:=(⟨x.f0,x.f1,x.f2,x.f3,(⟨#[]⟩:ByteArray),x.f5,(⟨#[]⟩:ByteArray),false,(0:Int),(⟨#[]⟩:ByteArray),false,([]:List Int),([]:List Int)⟩:S88)) (k1:=k) (seg_s (fun z_=>(⟨x.f0,x.f1,x.f2,z_,(⟨#[]⟩:ByteArray),x.f5,(⟨#[]⟩:ByteArray),false,(0:Int),(⟨#[]⟩:ByteArray),false,([]:List Int),([]:List Int)⟩:S88)) 5 x.f3 k (by unfold stField;simp [ofL,ofV,B2,N0,pl h2_]))).trans ?_
 refine (fold_ok (s1:=(⟨x.f0,x.f1,x.f2,x.f3,x.f4,x.f5,(⟨#[]⟩:ByteArray),false,(0:Int),(⟨#[]⟩:ByteArray),false,([]:List Int),([]:List Int)⟩:S88)) (k1:=k) (seg_t (fun z_=>(⟨x.f0,x.f1,x.f2,x.f3,z_,x.f5,(⟨#[]⟩:ByteArray),false,(0:Int),(⟨#[]⟩:ByteArray),false,([]:List Int),([]:List Int)⟩:S88)) 6 x.f4 k (by unfold stField;simp [ofL,ofV,B2,N0,strOf_bytesOf]))).trans ?_
 refine (fold_ok (s1:=(⟨x.f0,x.f1,x.f2,x.f3,x.f4,x.f5,x.f6,x.f7,(0:Int),(⟨#[]⟩:ByteArray),false,([]:List Int),([]:List Int)⟩:S88)) (k1:=k) (seg_d (fun z_ y_=>(⟨x.f0,x.f1,x.f2,x.f3,x.f4,x.f5,z_,y_,(0:Int),(⟨#[]⟩:ByteArray),false,([]:List Int),([]:List Int)⟩:S88)) x.f7 x.f6 k h3_ (by unfold stField;simp [ofL,ofV,B2,N0,strOf_bytesOf]))).trans ?_
 refine (fold_ok (s1:=(⟨x.f0,x.f1,x.f2,x.f3,x.f4,x.f5,x.f6,x.f7,(0:Int),(⟨#[]⟩:ByteArray),false,x.f11,([]:List Int)⟩:S88)) (k1:=k) (seg_o (fun z_=>(⟨x.f0,x.f1,x.f2,x.f3,x.f4,x.f5,x.f6,x.f7,(0:Int),(⟨#[]⟩:ByteArray),false,z_,([]:List Int)⟩:S88)) 8 x.f11 k (by unfold stField;simp [ofL,ofV,B2,N0]))).trans ?_
 refine (fold_ok (s1:=(⟨x.f0,x.f1,x.f2,x.f3,x.f4,x.f5,x.f6,x.f7,x.f8,(⟨#[]⟩:ByteArray),false,x.f11,([]:List Int)⟩:S88)) (k1:=k) (seg_p (fun z_=>(⟨x.f0,x.f1,x.f2,x.f3,x.f4,x.f5,x.f6,x.f7,z_,(⟨#[]⟩:ByteArray),false,x.f11,([]:List Int)⟩:S88)) x.f8 k (fun hz=>(by unfold stField;simp [ofL,ofV,B2,N0,plp h5_ hz,wrp h5_])))).trans ?_
 refine (fold_ok (s1:=(⟨x.f0,x.f1,x.f2,x.f3,x.f4,x.f5,x.f6,x.f7,x.f8,x.f9,false,x.f11,([]:List Int)⟩:S88)) (k1:=k) (seg_t (fun z_=>(⟨x.f0,x.f1,x.f2,x.f3,x.f4,x.f5,x.f6,x.f7,x.f8,z_,false,x.f11,([]:List Int)⟩:S88)) 10 x.f9 k (by unfold stField;simp [ofL,ofV,B2,N0,strOf_bytesOf]))).trans ?_
 exact seg_B (fun z_=>(⟨x.f0,x.f1,x.f2,x.f3,x.f4,x.f5,x.f6,x.f7,x.f8,x.f9,z_,x.f11,([]:List Int)⟩:S88)) 17 x.f10 k (by unfold stField;simp [ofL,ofV,B2,N0,wone])
theorem uField_b (x:S88) (h:WfField x) (hk:bk88 x≤4194304):uField (bField x) = .ok x:=by
 have hf:=rField_fit x h hk
 have hF:=fField x h []
 have h0:=h.out
 obtain ⟨h0_,h1_,h2_,h3_,h4_,h5_,h6_⟩:=h0
 obtain ⟨l,hl,hx⟩:=h6_
 have hall:∀ r∈rField x++l,Fit r:=fun r hr=>(List.mem_append.1 hr).elim (hf r) (fun h=>(hl r h).1)
 have hS:=fold_skip (step:=stField) l (fun r hr=>⟨(hl r hr).1.1,(hl r hr).2⟩) (⟨x.f0,x.f1,x.f2,x.f3,x.f4,x.f5,x.f6,x.f7,x.f8,x.f9,x.f10,x.f11,([]:List Int)⟩:S88) []
 have hR:readU stField (bField x) (⟨(⟨#[]⟩:ByteArray),(0:Int),(0:Int),(0:Int),(⟨#[]⟩:ByteArray),(⟨#[]⟩:ByteArray),(⟨#[]⟩:ByteArray),false,(0:Int),(⟨#[]⟩:ByteArray),false,([]:List Int),([]:List Int)⟩:S88) = .ok ((⟨x.f0,x.f1,x.f2,x.f3,x.f4,x.f5,x.f6,x.f7,x.f8,x.f9,x.f10,x.f11,([]:List Int)⟩:S88),flat l):=by
  rw [bField_flat x l hx,readU_flat _ _ hall,fold_ok hF,hS,List.nil_append]
 unfold uField
 rw [show (z88:S88)=(⟨(⟨#[]⟩:ByteArray),(0:Int),(0:Int),(0:Int),(⟨#[]⟩:ByteArray),(⟨#[]⟩:ByteArray),(⟨#[]⟩:ByteArray),false,(0:Int),(⟨#[]⟩:ByteArray),false,([]:List Int),([]:List Int)⟩:S88) from rfl,hR]
 rw [← hx]
def WfEnum (x:S82):Prop:=(∀ y∈x.f1,WfValue y)∧Bytes x.f2∧(Unk stEnum x.f3)
theorem WfEnum.out {x:S82} (h:WfEnum x):(∀ y∈x.f1,WfValue y)∧Bytes x.f2∧(Unk stEnum x.f3):=h
def rEnum (x:S82):List S97:=tR 1 x.f0++((x.f1.map fun y=>B2 2 (bValue y))++(oR 3 x.f2))
theorem bEnum_flat (x:S82) (l:List S97) (h:x.f3=flat l):bEnum x=flat (rEnum x++l):=by
 unfold rEnum
 rw [bEnum]
 simp only [flat_append,map_flat,oR_flat,tR_flat,List.append_assoc,h]
theorem bEnum_bytes (x:S82) (h:WfEnum x):Bytes (bEnum x):=by
 have h0:=h.out
 obtain ⟨h0_,h1_,h2_⟩:=h0
 unfold bEnum
 refine bytes_append (tS_bytes _ _) ?_
 refine bytes_append (flatM_bytes _ (fun y hy=>fB_bytes _ (bValue_bytes y (h0_ y hy)))) ?_
 refine bytes_append (oB_bytes _ h1_) ?_
 exact (h2_).bytes
theorem rEnum_fit (x:S82) (h:WfEnum x) (hk:bk82 x≤4194304):∀ r∈rEnum x,Fit r:=by
 have h0:=h.out
 unfold bk82 at hk
 (try simp only [sum_one] at hk)
 obtain ⟨h0_,h1_,h2_⟩:=h0
 unfold rEnum
 intro r hr
 rcases List.mem_append.1 hr with hr|hr
 · exact tR_fit (by decide) (by omega) r hr
 rcases List.mem_append.1 hr with hr|hr
 · obtain ⟨y,hy,rfl⟩:=List.mem_map.1 hr;have h_:=sum_le bk93 x.f1 y hy;exact B2_fit (by decide) (bValue_bytes y (h0_ y hy)) (by have l_:=len93_ y (by omega);omega)
 exact oR_fit (by decide) h1_ (by omega) r hr
theorem fEnum (x:S82) (h:WfEnum x) (hk:bk82 x≤4194304) (k:List Int):foldU stEnum (rEnum x) (⟨(⟨#[]⟩:ByteArray),([]:List S93),([]:List Int),([]:List Int)⟩:S82) k = .ok ((⟨x.f0,x.f1,x.f2,([]:List Int)⟩:S82),k):=by
 unfold bk82 at hk
 (try simp only [sum_one] at hk)
 have h0:=h.out
 obtain ⟨h0_,h1_,h2_⟩:=h0
 unfold rEnum
 refine (fold_ok (s1:=(⟨x.f0,([]:List S93),([]:List Int),([]:List Int)⟩:S82)) (k1:=k) (seg_t (fun z_=>(⟨z_,([]:List S93),([]:List Int),([]:List Int)⟩:S82)) 1 x.f0 k (by unfold stEnum;simp [ofL,ofV,B2,N0,strOf_bytesOf]))).trans ?_
 refine (fold_ok (s1:=(⟨x.f0,x.f1,([]:List Int),([]:List Int)⟩:S82)) (k1:=k) (fold_list (fun y=>B2 2 (bValue y)) (fun z_=>(⟨x.f0,z_,([]:List Int),([]:List Int)⟩:S82)) k x.f1 [] (fun y hy q=>by have e_:=uValue_b y (h0_ y hy) (by have h_:=sum_le bk93 x.f1 y hy;omega);unfold stEnum;simp [ofL,ofV,B2,e_]))).trans ?_
 exact seg_o (fun z_=>(⟨x.f0,x.f1,z_,([]:List Int)⟩:S82)) 3 x.f2 k (by unfold stEnum;simp [ofL,ofV,B2,N0])
theorem uEnum_b (x:S82) (h:WfEnum x) (hk:bk82 x≤4194304):uEnum (bEnum x) = .ok x:=by
 have hf:=rEnum_fit x h hk
 have hF:=fEnum x h hk []
 have h0:=h.out
 obtain ⟨h0_,h1_,h2_⟩:=h0
 obtain ⟨l,hl,hx⟩:=h2_
 have hall:∀ r∈rEnum x++l,Fit r:=fun r hr=>(List.mem_append.1 hr).elim (hf r) (fun h=>(hl r h).1)
 have hS:=fold_skip (step:=stEnum) l (fun r hr=>⟨(hl r hr).1.1,(hl r hr).2⟩) (⟨x.f0,x.f1,x.f2,([]:List Int)⟩:S82) []
 have hR:readU stEnum (bEnum x) (⟨(⟨#[]⟩:ByteArray),([]:List S93),([]:List Int),([]:List Int)⟩:S82) = .ok ((⟨x.f0,x.f1,x.f2,([]:List Int)⟩:S82),flat l):=by
  rw [bEnum_flat x l hx,readU_flat _ _ hall,fold_ok hF,hS,List.nil_append]
 unfold uEnum
 rw [show (z82:S82)=(⟨(⟨#[]⟩:ByteArray),([]:List S93),([]:List Int),([]:List Int)⟩:S82) from rfl,hR]
 rw [← hx]
def WfService (x:S51):Prop:=(∀ y∈x.f1,WfMethod y)∧Bytes x.f2∧(Unk stService x.f3)
theorem WfService.out {x:S51} (h:WfService x):(∀ y∈x.f1,WfMethod y)∧Bytes x.f2∧(Unk stService x.f3):=h
def rService (x:S51):List S97:=tR 1 x.f0++((x.f1.map fun y=>B2 2 (bMethod y))++(oR 3 x.f2))
theorem bService_flat (x:S51) (l:List S97) (h:x.f3=flat l):bService x=flat (rService x++l):=by
 unfold rService
 rw [bService]
 simp only [flat_append,map_flat,oR_flat,tR_flat,List.append_assoc,h]
theorem bService_bytes (x:S51) (h:WfService x):Bytes (bService x):=by
 have h0:=h.out
 obtain ⟨h0_,h1_,h2_⟩:=h0
 unfold bService
 refine bytes_append (tS_bytes _ _) ?_
 refine bytes_append (flatM_bytes _ (fun y hy=>fB_bytes _ (bMethod_bytes y (h0_ y hy)))) ?_
 refine bytes_append (oB_bytes _ h1_) ?_
 exact (h2_).bytes
theorem rService_fit (x:S51) (h:WfService x) (hk:bk51 x≤4194304):∀ r∈rService x,Fit r:=by
 have h0:=h.out
 unfold bk51 at hk
 (try simp only [sum_one] at hk)
 obtain ⟨h0_,h1_,h2_⟩:=h0
 unfold rService
 intro r hr
 rcases List.mem_append.1 hr with hr|hr
 · exact tR_fit (by decide) (by omega) r hr
 rcases List.mem_append.1 hr with hr|hr
 · obtain ⟨y,hy,rfl⟩:=List.mem_map.1 hr;have h_:=sum_le bk53 x.f1 y hy;exact B2_fit (by decide) (bMethod_bytes y (h0_ y hy)) (by have l_:=len53_ y (by omega);omega)
 exact oR_fit (by decide) h1_ (by omega) r hr
theorem fService (x:S51) (h:WfService x) (hk:bk51 x≤4194304) (k:List Int):foldU stService (rService x) (⟨(⟨#[]⟩:ByteArray),([]:List S53),([]:List Int),([]:List Int)⟩:S51) k = .ok ((⟨x.f0,x.f1,x.f2,([]:List Int)⟩:S51),k):=by
 unfold bk51 at hk
 (try simp only [sum_one] at hk)
 have h0:=h.out
 obtain ⟨h0_,h1_,h2_⟩:=h0
 unfold rService
 refine (fold_ok (s1:=(⟨x.f0,([]:List S53),([]:List Int),([]:List Int)⟩:S51)) (k1:=k) (seg_t (fun z_=>(⟨z_,([]:List S53),([]:List Int),([]:List Int)⟩:S51)) 1 x.f0 k (by unfold stService;simp [ofL,ofV,B2,N0,strOf_bytesOf]))).trans ?_
 refine (fold_ok (s1:=(⟨x.f0,x.f1,([]:List Int),([]:List Int)⟩:S51)) (k1:=k) (fold_list (fun y=>B2 2 (bMethod y)) (fun z_=>(⟨x.f0,z_,([]:List Int),([]:List Int)⟩:S51)) k x.f1 [] (fun y hy q=>by have e_:=uMethod_b y (h0_ y hy) (by have h_:=sum_le bk53 x.f1 y hy;omega);unfold stService;simp [ofL,ofV,B2,e_]))).trans ?_
 exact seg_o (fun z_=>(⟨x.f0,x.f1,z_,([]:List Int)⟩:S51)) 3 x.f2 k (by unfold stService;simp [ofL,ofV,B2,N0])
theorem uService_b (x:S51) (h:WfService x) (hk:bk51 x≤4194304):uService (bService x) = .ok x:=by
 have hf:=rService_fit x h hk
 have hF:=fService x h hk []
 have h0:=h.out
 obtain ⟨h0_,h1_,h2_⟩:=h0
 obtain ⟨l,hl,hx⟩:=h2_
 have hall:∀ r∈rService x++l,Fit r:=fun r hr=>(List.mem_append.1 hr).elim (hf r) (fun h=>(hl r h).1)
 have hS:=fold_skip (step:=stService) l (fun r hr=>⟨(hl r hr).1.1,(hl r hr).2⟩) (⟨x.f0,x.f1,x.f2,([]:List Int)⟩:S51) []
 have hR:readU stService (bService x) (⟨(⟨#[]⟩:ByteArray),([]:List S53),([]:List Int),([]:List Int)⟩:S51) = .ok ((⟨x.f0,x.f1,x.f2,([]:List Int)⟩:S51),flat l):=by
  rw [bService_flat x l hx,readU_flat _ _ hall,fold_ok hF,hS,List.nil_append]
 unfold uService
 rw [show (z51:S51)=(⟨(⟨#[]⟩:ByteArray),([]:List S53),([]:List Int),([]:List Int)⟩:S51) from rfl,hR]
 rw [← hx]
inductive WfMessage:S76→Prop where
 | mk (x:S76) (h0:(∀ y∈x.f1,WfField y)) (h1:(∀ y∈x.f2,WfMessage y)) (h2:(∀ y∈x.f3,WfEnum y)) (h3:(∀ y∈x.f4,WfRange y)) (h4:(∀ y∈x.f5,WfField y)) (h5:Bytes x.f9) (h6:(∀ y∈x.f6,WfOneof y)) (h7:(∀ y∈x.f7,WfRange y)) (h8:(∀ u,Unk (jk7 u) x.f10)):WfMessage x
theorem WfMessage.out {x:S76} (h:WfMessage x):(∀ y∈x.f1,WfField y)∧(∀ y∈x.f2,WfMessage y)∧(∀ y∈x.f3,WfEnum y)∧(∀ y∈x.f4,WfRange y)∧(∀ y∈x.f5,WfField y)∧Bytes x.f9∧(∀ y∈x.f6,WfOneof y)∧(∀ y∈x.f7,WfRange y)∧(∀ u,Unk (jk7 u) x.f10):=by
 cases h with
 | mk _ h0 h1 h2 h3 h4 h5 h6 h7 h8=>exact ⟨h0,h1,h2,h3,h4,h5,h6,h7,h8⟩
def rMessage (x:S76):List S97:=tR 1 x.f0++((x.f1.map fun y=>B2 2 (bField y))++((x.f2.map fun y=>B2 3 (bMessage y))++((x.f3.map fun y=>B2 4 (bEnum y))++((x.f4.map fun y=>B2 5 (bRange y))++((x.f5.map fun y=>B2 6 (bField y))++(oR 7 x.f9++((x.f6.map fun y=>B2 8 (bOneof y))++((x.f7.map fun y=>B2 9 (bRange y))++((x.f8.map fun y=>B2 10 (bytesOf y)))))))))))
theorem bMessage_flat (x:S76) (l:List S97) (h:x.f10=flat l):bMessage x=flat (rMessage x++l):=by
 unfold rMessage
 rw [bMessage_eq]
 simp only [flat_append,map_flat,oR_flat,tR_flat,List.append_assoc,h]
theorem bMessage_bytes:∀ (x:S76),WfMessage x→Bytes (bMessage x):=by
 refine S76.ind fun x ih h=>?_
 have h0:=h.out
 obtain ⟨h0_,h1_,h2_,h3_,h4_,h5_,h6_,h7_,h8_⟩:=h0
 rw [bMessage_eq]
 refine bytes_append (tS_bytes _ _) ?_
 refine bytes_append (flatM_bytes _ (fun y hy=>fB_bytes _ (bField_bytes y (h0_ y hy)))) ?_
 refine bytes_append (flatM_bytes _ (fun y hy=>fB_bytes _ (ih y hy (h1_ y hy)))) ?_
 refine bytes_append (flatM_bytes _ (fun y hy=>fB_bytes _ (bEnum_bytes y (h2_ y hy)))) ?_
 refine bytes_append (flatM_bytes _ (fun y hy=>fB_bytes _ (bRange_bytes y (h3_ y hy)))) ?_
 refine bytes_append (flatM_bytes _ (fun y hy=>fB_bytes _ (bField_bytes y (h4_ y hy)))) ?_
 refine bytes_append (oB_bytes _ h5_) ?_
 refine bytes_append (flatM_bytes _ (fun y hy=>fB_bytes _ (bOneof_bytes y (h6_ y hy)))) ?_
 refine bytes_append (flatM_bytes _ (fun y hy=>fB_bytes _ (bRange_bytes y (h7_ y hy)))) ?_
 refine bytes_append (flatM_bytes _ (fun y hy=>fB_bytes _ (bytes_of_str y))) ?_
 exact (h8_ (fun _=>.error 0)).bytes
theorem rMessage_fit (x:S76) (h:WfMessage x) (hk:bk76 x≤4194304):∀ r∈rMessage x,Fit r:=by
 have h0:=h.out
 rw [bk76_eq] at hk
 (try simp only [sum_one] at hk)
 obtain ⟨h0_,h1_,h2_,h3_,h4_,h5_,h6_,h7_,h8_⟩:=h0
 unfold rMessage
 intro r hr
 rcases List.mem_append.1 hr with hr|hr
 · exact tR_fit (by decide) (by omega) r hr
 rcases List.mem_append.1 hr with hr|hr
 · obtain ⟨y,hy,rfl⟩:=List.mem_map.1 hr;have h_:=sum_le bk88 x.f1 y hy;exact B2_fit (by decide) (bField_bytes y (h0_ y hy)) (by have l_:=len88_ y (by omega);omega)
 rcases List.mem_append.1 hr with hr|hr
 · obtain ⟨y,hy,rfl⟩:=List.mem_map.1 hr;have h_:=sum_le bk76 x.f2 y hy;exact B2_fit (by decide) (bMessage_bytes y (h1_ y hy)) (by have l_:=len76_ y (by omega);omega)
 rcases List.mem_append.1 hr with hr|hr
 · obtain ⟨y,hy,rfl⟩:=List.mem_map.1 hr;have h_:=sum_le bk82 x.f3 y hy;exact B2_fit (by decide) (bEnum_bytes y (h2_ y hy)) (by have l_:=len82_ y (by omega);omega)
 rcases List.mem_append.1 hr with hr|hr
 · obtain ⟨y,hy,rfl⟩:=List.mem_map.1 hr;have h_:=sum_le bk115 x.f4 y hy;exact B2_fit (by decide) (bRange_bytes y (h3_ y hy)) (by have l_:=len115_ y;omega)
 rcases List.mem_append.1 hr with hr|hr
 · obtain ⟨y,hy,rfl⟩:=List.mem_map.1 hr;have h_:=sum_le bk88 x.f5 y hy;exact B2_fit (by decide) (bField_bytes y (h4_ y hy)) (by have l_:=len88_ y (by omega);omega)
 rcases List.mem_append.1 hr with hr|hr
 · exact oR_fit (by decide) h5_ (by omega) r hr
 rcases List.mem_append.1 hr with hr|hr
 · obtain ⟨y,hy,rfl⟩:=List.mem_map.1 hr;have h_:=sum_le bk91 x.f6 y hy;exact B2_fit (by decide) (bOneof_bytes y (h6_ y hy)) (by have l_:=len91_ y (by omega);omega)
 rcases List.mem_append.1 hr with hr|hr
 · obtain ⟨y,hy,rfl⟩:=List.mem_map.1 hr;have h_:=sum_le bk115 x.f7 y hy;exact B2_fit (by decide) (bRange_bytes y (h7_ y hy)) (by have l_:=len115_ y;omega)
 obtain ⟨y,hy,rfl⟩:=List.mem_map.1 hr;exact B2_fit (by decide) (bytes_of_str y) (by rw [bytesOf_length];have h_:=sum_le (fun z:ByteArray=>z.size+1) x.f8 y hy;omega)
theorem fMessage (x:S76) (u:List Int→Except Int S76) (hu:∀ y∈x.f2,u (bMessage y) = .ok y) (h:WfMessage x) (hk:bk76 x≤4194304) (k:List Int):foldU (jk7 u) (rMessage x) (⟨(⟨#[]⟩:ByteArray),([]:List S88),([]:List S76),([]:List S82),([]:List S115),([]:List S88),([]:List S91),([]:List S115),([]:List ByteArray),([]:List Int),([]:List Int)⟩:S76) k = .ok ((⟨x.f0,x.f1,x.f2,x.f3,x.f4,x.f5,x.f6,x.f7,x.f8,x.f9,([]:List Int)⟩:S76),k):=by
 rw [bk76_eq] at hk
 (try simp only [sum_one] at hk)
 have h0:=h.out
 obtain ⟨h0_,h1_,h2_,h3_,h4_,h5_,h6_,h7_,h8_⟩:=h0
 unfold rMessage
 refine (fold_ok (s1:=(⟨x.f0,([]:List S88),([]:List S76),([]:List S82),([]:List S115),([]:List S88),([]:List S91),([]:List S115),([]:List ByteArray),([]:List Int),([]:List Int)⟩:S76)) (k1:=k) (seg_t (fun z_=>(⟨z_,([]:List S88),([]:List S76),([]:List S82),([]:List S115),([]:List S88),([]:List S91),([]:List S115),([]:List ByteArray),([]:List Int),([]:List Int)⟩:S76)) 1 x.f0 k (by unfold jk7;simp [ofL,ofV,B2,N0,strOf_bytesOf]))).trans ?_
 refine (fold_ok (s1:=(⟨x.f0,x.f1,([]:List S76),([]:List S82),([]:List S115),([]:List S88),([]:List S91),([]:List S115),([]:List ByteArray),([]:List Int),([]:List Int)⟩:S76)) (k1:=k) (fold_list (fun y=>B2 2 (bField y)) (fun z_=>(⟨x.f0,z_,([]:List S76),([]:List S82),([]:List S115),([]:List S88),([]:List S91),([]:List S115),([]:List ByteArray),([]:List Int),([]:List Int)⟩:S76)) k x.f1 [] (fun y hy q=>by have e_:=uField_b y (h0_ y hy) (by have h_:=sum_le bk88 x.f1 y hy;omega);unfold jk7;simp [ofL,ofV,B2,e_]))).trans ?_
 refine (fold_ok (s1:=(⟨x.f0,x.f1,x.f2,([]:List S82),([]:List S115),([]:List S88),([]:List S91),([]:List S115),([]:List ByteArray),([]:List Int),([]:List Int)⟩:S76)) (k1:=k) (fold_list (fun y=>B2 3 (bMessage y)) (fun z_=>(⟨x.f0,x.f1,z_,([]:List S82),([]:List S115),([]:List S88),([]:List S91),([]:List S115),([]:List ByteArray),([]:List Int),([]:List Int)⟩:S76)) k x.f2 [] (fun y hy q=>by have e_:=hu y hy;unfold jk7;simp [ofL,ofV,B2,e_]))).trans ?_
 refine (fold_ok (s1:=(⟨x.f0,x.f1,x.f2,x.f3,([]:List S115),([]:List S88),([]:List S91),([]:List S115),([]:List ByteArray),([]:List Int),([]:List Int)⟩:S76)) (k1:=k) (fold_list (fun y=>B2 4 (bEnum y)) (fun z_=>(⟨x.f0,x.f1,x.f2,z_,([]:List S115),([]:List S88),([]:List S91),([]:List S115),([]:List ByteArray),([]:List Int),([]:List Int)⟩:S76)) k x.f3 [] (fun y hy q=>by have e_:=uEnum_b y (h2_ y hy) (by have h_:=sum_le bk82 x.f3 y hy;omega);unfold jk7;simp [ofL,ofV,B2,e_]))).trans ?_
 refine (fold_ok (s1:=(⟨x.f0,x.f1,x.f2,x.f3,x.f4,([]:List S88),([]:List S91),([]:List S115),([]:List ByteArray),([]:List Int),([]:List Int)⟩:S76)) (k1:=k) (fold_list (fun y=>B2 5 (bRange y)) (fun z_=>(⟨x.f0,x.f1,x.f2,x.f3,z_,([]:List S88),([]:List S91),([]:List S115),([]:List ByteArray),([]:List Int),([]:List Int)⟩:S76)) k x.f4 [] (fun y hy q=>by have e_:=uRange_b y (h3_ y hy) (by have h_:=sum_le bk115 x.f4 y hy;omega);unfold jk7;simp [ofL,ofV,B2,e_]))).trans ?_
 refine (fold_ok (s1:=(⟨x.f0,x.f1,x.f2,x.f3,x.f4,x.f5,([]:List S91),([]:List S115),([]:List ByteArray),([]:List Int),([]:List Int)⟩:S76)) (k1:=k) (fold_list (fun y=>B2 6 (bField y)) (fun z_=>(⟨x.f0,x.f1,x.f2,x.f3,x.f4,z_,([]:List S91),([]:List S115),([]:List ByteArray),([]:List Int),([]:List Int)⟩:S76)) k x.f5 [] (fun y hy q=>by have e_:=uField_b y (h4_ y hy) (by have h_:=sum_le bk88 x.f5 y hy;omega);unfold jk7;simp [ofL,ofV,B2,e_]))).trans ?_
 refine (fold_ok (s1:=(⟨x.f0,x.f1,x.f2,x.f3,x.f4,x.f5,([]:List S91),([]:List S115),([]:List ByteArray),x.f9,([]:List Int)⟩:S76)) (k1:=k) (seg_o (fun z_=>(⟨x.f0,x.f1,x.f2,x.f3,x.f4,x.f5,([]:List S91),([]:List S115),([]:List ByteArray),z_,([]:List Int)⟩:S76)) 7 x.f9 k (by unfold jk7;simp [ofL,ofV,B2,N0]))).trans ?_
 refine (fold_ok (s1:=(⟨x.f0,x.f1,x.f2,x.f3,x.f4,x.f5,x.f6,([]:List S115),([]:List ByteArray),x.f9,([]:List Int)⟩:S76)) (k1:=k) (fold_list (fun y=>B2 8 (bOneof y)) (fun z_=>(⟨x.f0,x.f1,x.f2,x.f3,x.f4,x.f5,z_,([]:List S115),([]:List ByteArray),x.f9,([]:List Int)⟩:S76)) k x.f6 [] (fun y hy q=>by have e_:=uOneof_b y (h6_ y hy) (by have h_:=sum_le bk91 x.f6 y hy;omega);unfold jk7;simp [ofL,ofV,B2,e_]))).trans ?_
 refine (fold_ok (s1:=(⟨x.f0,x.f1,x.f2,x.f3,x.f4,x.f5,x.f6,x.f7,([]:List ByteArray),x.f9,([]:List Int)⟩:S76)) (k1:=k) (fold_list (fun y=>B2 9 (bRange y)) (fun z_=>(⟨x.f0,x.f1,x.f2,x.f3,x.f4,x.f5,x.f6,z_,([]:List ByteArray),x.f9,([]:List Int)⟩:S76)) k x.f7 [] (fun y hy q=>by have e_:=uRange_b y (h7_ y hy) (by have h_:=sum_le bk115 x.f7 y hy;omega);unfold jk7;simp [ofL,ofV,B2,e_]))).trans ?_
 exact fold_list (fun y=>B2 10 (bytesOf y)) (fun z_=>(⟨x.f0,x.f1,x.f2,x.f3,x.f4,x.f5,x.f6,x.f7,z_,x.f9,([]:List Int)⟩:S76)) k x.f8 [] (fun y hy q=>(by unfold jk7;simp [ofL,ofV,B2,N0,strOf_bytesOf]))
theorem hL_mem {l:List S76} {y:S76} (h:y∈l):1+hL y.f2≤hL l:=by
 induction l with
 | nil=>cases h
 | cons a l ih=>
  rw [hL_cons]
  rcases List.mem_cons.1 h with rfl|h
  · omega
  · have:=ih h;omega
theorem uMessage_b:∀ (n:Nat) (x:S76),WfMessage x→1+hL x.f2≤n→bk76 x≤4194304→uMessage n (bMessage x) = .ok x:=by
 intro n
 induction n with
 | zero=>intro x _ h;omega
 | succ n ih=>
  intro x h hd hk
  have h0:=h.out
  obtain ⟨h0_,h1_,h2_,h3_,h4_,h5_,h6_,h7_,h8_⟩:=h0
  have hu:∀ y∈x.f2,uMessage n (bMessage y) = .ok y:=fun y hy=>ih y (h1_ y hy) (by have:=hL_mem hy;omega) (by have h_:=sum_le bk76 x.f2 y hy;rw [bk76_eq] at hk;omega)
  have hf:=rMessage_fit x h hk
  have hF:=fMessage x (uMessage n) hu h hk []
  obtain ⟨l,hl,hx⟩:=h8_ (uMessage n)
  have hall:∀ r∈rMessage x++l,Fit r:=fun r hr=>(List.mem_append.1 hr).elim (hf r) (fun h=>(hl r h).1)
  have hS:=fold_skip (step:=jk7 (uMessage n)) l (fun r hr=>⟨(hl r hr).1.1,(hl r hr).2⟩) (⟨x.f0,x.f1,x.f2,x.f3,x.f4,x.f5,x.f6,x.f7,x.f8,x.f9,([]:List Int)⟩:S76) []
  have hR:readU (jk7 (uMessage n)) (bMessage x) (⟨(⟨#[]⟩:ByteArray),([]:List S88),([]:List S76),([]:List S82),([]:List S115),([]:List S88),([]:List S91),([]:List S115),([]:List ByteArray),([]:List Int),([]:List Int)⟩:S76) = .ok ((⟨x.f0,x.f1,x.f2,x.f3,x.f4,x.f5,x.f6,x.f7,x.f8,x.f9,([]:List Int)⟩:S76),flat l):=by
   rw [bMessage_flat x l hx,readU_flat _ _ hall,fold_ok hF,hS,List.nil_append]
  unfold uMessage
  rw [show z76=(⟨(⟨#[]⟩:ByteArray),([]:List S88),([]:List S76),([]:List S82),([]:List S115),([]:List S88),([]:List S91),([]:List S115),([]:List ByteArray),([]:List Int),([]:List Int)⟩:S76) from rfl,hR]
  rw [← hx]
  dsimp only
  cases x
  rfl
def WfFile (x:S30):Prop:=(∀ y∈x.f4,WfMessage y)∧(∀ y∈x.f5,WfEnum y)∧(∀ y∈x.f6,WfService y)∧(∀ y∈x.f7,WfField y)∧Bytes x.f9∧(∀ y∈x.f3,0≤y∧y < 2147483648)∧(∀ u,Unk (stFile u) x.f10)
theorem WfFile.out {x:S30} (h:WfFile x):(∀ y∈x.f4,WfMessage y)∧(∀ y∈x.f5,WfEnum y)∧(∀ y∈x.f6,WfService y)∧(∀ y∈x.f7,WfField y)∧Bytes x.f9∧(∀ y∈x.f3,0≤y∧y < 2147483648)∧(∀ u,Unk (stFile u) x.f10):=h
def rFile (x:S30):List S97:=tR 1 x.f0++(tR 2 x.f1++((x.f2.map fun y=>B2 3 (bytesOf y))++((x.f4.map fun y=>B2 4 (bMessage y))++((x.f5.map fun y=>B2 5 (bEnum y))++((x.f6.map fun y=>B2 6 (bService y))++((x.f7.map fun y=>B2 7 (bField y))++(oR 8 x.f9++((x.f3.map fun y=>N0 10 y)++(tR 12 x.f8)))))))))
theorem bFile_flat (x:S30) (l:List S97) (h:x.f10=flat l):bFile x=flat (rFile x++l):=by
 unfold rFile
 rw [bFile]
 simp only [flat_append,map_flat,nums_flat,oR_flat,tR_flat,List.append_assoc,h]
theorem bFile_bytes (x:S30) (h:WfFile x):Bytes (bFile x):=by
 have h0:=h.out
 obtain ⟨h0_,h1_,h2_,h3_,h4_,h5_,h6_⟩:=h0
 unfold bFile
 refine bytes_append (tS_bytes _ _) ?_
 refine bytes_append (tS_bytes _ _) ?_
 refine bytes_append (flatM_bytes _ (fun y hy=>fB_bytes _ (bytes_of_str y))) ?_
 refine bytes_append (flatM_bytes _ (fun y hy=>fB_bytes _ (bMessage_bytes y (h0_ y hy)))) ?_
 refine bytes_append (flatM_bytes _ (fun y hy=>fB_bytes _ (bEnum_bytes y (h1_ y hy)))) ?_
 refine bytes_append (flatM_bytes _ (fun y hy=>fB_bytes _ (bService_bytes y (h2_ y hy)))) ?_
 refine bytes_append (flatM_bytes _ (fun y hy=>fB_bytes _ (bField_bytes y (h3_ y hy)))) ?_
 refine bytes_append (oB_bytes _ h4_) ?_
 refine bytes_append (flatM_bytes _ (fun y hy=>fN_bytes _ _)) ?_
 refine bytes_append (tS_bytes _ _) ?_
 exact (h6_ (fun _=>.error 0)).bytes
theorem rFile_fit (x:S30) (h:WfFile x) (hk:bk30 x≤4194304):∀ r∈rFile x,Fit r:=by
 have h0:=h.out
 unfold bk30 at hk
 (try simp only [sum_one] at hk)
 obtain ⟨h0_,h1_,h2_,h3_,h4_,h5_,h6_⟩:=h0
 unfold rFile
 intro r hr
 rcases List.mem_append.1 hr with hr|hr
 · exact tR_fit (by decide) (by omega) r hr
 rcases List.mem_append.1 hr with hr|hr
 · exact tR_fit (by decide) (by omega) r hr
 rcases List.mem_append.1 hr with hr|hr
 · obtain ⟨y,hy,rfl⟩:=List.mem_map.1 hr;exact B2_fit (by decide) (bytes_of_str y) (by rw [bytesOf_length];have h_:=sum_le (fun z:ByteArray=>z.size+1) x.f2 y hy;omega)
 rcases List.mem_append.1 hr with hr|hr
 · obtain ⟨y,hy,rfl⟩:=List.mem_map.1 hr;have h_:=sum_le bk76 x.f4 y hy;exact B2_fit (by decide) (bMessage_bytes y (h0_ y hy)) (by have l_:=len76_ y (by omega);omega)
 rcases List.mem_append.1 hr with hr|hr
 · obtain ⟨y,hy,rfl⟩:=List.mem_map.1 hr;have h_:=sum_le bk82 x.f5 y hy;exact B2_fit (by decide) (bEnum_bytes y (h1_ y hy)) (by have l_:=len82_ y (by omega);omega)
 rcases List.mem_append.1 hr with hr|hr
 · obtain ⟨y,hy,rfl⟩:=List.mem_map.1 hr;have h_:=sum_le bk51 x.f6 y hy;exact B2_fit (by decide) (bService_bytes y (h2_ y hy)) (by have l_:=len51_ y (by omega);omega)
 rcases List.mem_append.1 hr with hr|hr
 · obtain ⟨y,hy,rfl⟩:=List.mem_map.1 hr;have h_:=sum_le bk88 x.f7 y hy;exact B2_fit (by decide) (bField_bytes y (h3_ y hy)) (by have l_:=len88_ y (by omega);omega)
 rcases List.mem_append.1 hr with hr|hr
 · exact oR_fit (by decide) h4_ (by omega) r hr
 rcases List.mem_append.1 hr with hr|hr
 · obtain ⟨y,hy,rfl⟩:=List.mem_map.1 hr;exact N0_fit _ (by decide)
 exact tR_fit (by decide) (by omega) r hr
theorem fFile (x:S30) (u:List Int→Except Int S76) (hu:∀ y∈x.f4,u (bMessage y) = .ok y) (h:WfFile x) (hk:bk30 x≤4194304) (k:List Int):foldU (stFile u) (rFile x) (⟨(⟨#[]⟩:ByteArray),(⟨#[]⟩:ByteArray),([]:List ByteArray),([]:List Int),([]:List S76),([]:List S82),([]:List S51),([]:List S88),(⟨#[]⟩:ByteArray),([]:List Int),([]:List Int)⟩:S30) k = .ok ((⟨x.f0,x.f1,x.f2,x.f3,x.f4,x.f5,x.f6,x.f7,x.f8,x.f9,([]:List Int)⟩:S30),k):=by
 unfold bk30 at hk
 (try simp only [sum_one] at hk)
 have h0:=h.out
 obtain ⟨h0_,h1_,h2_,h3_,h4_,h5_,h6_⟩:=h0
 unfold rFile
 refine (fold_ok (s1:=(⟨x.f0,(⟨#[]⟩:ByteArray),([]:List ByteArray),([]:List Int),([]:List S76),([]:List S82),([]:List S51),([]:List S88),(⟨#[]⟩:ByteArray),([]:List Int),([]:List Int)⟩:S30)) (k1:=k) (seg_t (fun z_=>(⟨z_,(⟨#[]⟩:ByteArray),([]:List ByteArray),([]:List Int),([]:List S76),([]:List S82),([]:List S51),([]:List S88),(⟨#[]⟩:ByteArray),([]:List Int),([]:List Int)⟩:S30)) 1 x.f0 k (by unfold stFile;simp [ofL,ofV,B2,N0,strOf_bytesOf]))).trans ?_
 refine (fold_ok (s1:=(⟨x.f0,x.f1,([]:List ByteArray),([]:List Int),([]:List S76),([]:List S82),([]:List S51),([]:List S88),(⟨#[]⟩:ByteArray),([]:List Int),([]:List Int)⟩:S30)) (k1:=k) (seg_t (fun z_=>(⟨x.f0,z_,([]:List ByteArray),([]:List Int),([]:List S76),([]:List S82),([]:List S51),([]:List S88),(⟨#[]⟩:ByteArray),([]:List Int),([]:List Int)⟩:S30)) 2 x.f1 k (by unfold stFile;simp [ofL,ofV,B2,N0,strOf_bytesOf]))).trans ?_
 refine (fold_ok (s1:=(⟨x.f0,x.f1,x.f2,([]:List Int),([]:List S76),([]:List S82),([]:List S51),([]:List S88),(⟨#[]⟩:ByteArray),([]:List Int),([]:List Int)⟩:S30)) (k1:=k) (fold_list (fun y=>B2 3 (bytesOf y)) (fun z_=>(⟨x.f0,x.f1,z_,([]:List Int),([]:List S76),([]:List S82),([]:List S51),([]:List S88),(⟨#[]⟩:ByteArray),([]:List Int),([]:List Int)⟩:S30)) k x.f2 [] (fun y hy q=>(by unfold stFile;simp [ofL,ofV,B2,N0,strOf_bytesOf])))).trans ?_
 refine (fold_ok (s1:=(⟨x.f0,x.f1,x.f2,([]:List Int),x.f4,([]:List S82),([]:List S51),([]:List S88),(⟨#[]⟩:ByteArray),([]:List Int),([]:List Int)⟩:S30)) (k1:=k) (fold_list (fun y=>B2 4 (bMessage y)) (fun z_=>(⟨x.f0,x.f1,x.f2,([]:List Int),z_,([]:List S82),([]:List S51),([]:List S88),(⟨#[]⟩:ByteArray),([]:List Int),([]:List Int)⟩:S30)) k x.f4 [] (fun y hy q=>by have e_:=hu y hy;unfold stFile;simp [ofL,ofV,B2,e_]))).trans ?_
 refine (fold_ok (s1:=(⟨x.f0,x.f1,x.f2,([]:List Int),x.f4,x.f5,([]:List S51),([]:List S88),(⟨#[]⟩:ByteArray),([]:List Int),([]:List Int)⟩:S30)) (k1:=k) (fold_list (fun y=>B2 5 (bEnum y)) (fun z_=>(⟨x.f0,x.f1,x.f2,([]:List Int),x.f4,z_,([]:List S51),([]:List S88),(⟨#[]⟩:ByteArray),([]:List Int),([]:List Int)⟩:S30)) k x.f5 [] (fun y hy q=>by have e_:=uEnum_b y (h1_ y hy) (by have h_:=sum_le bk82 x.f5 y hy;omega);unfold stFile;simp [ofL,ofV,B2,e_]))).trans ?_
 refine (fold_ok (s1:=(⟨x.f0,x.f1,x.f2,([]:List Int),x.f4,x.f5,x.f6,([]:List S88),(⟨#[]⟩:ByteArray),([]:List Int),([]:List Int)⟩:S30)) (k1:=k) (fold_list (fun y=>B2 6 (bService y)) (fun z_=>(⟨x.f0,x.f1,x.f2,([]:List Int),x.f4,x.f5,z_,([]:List S88),(⟨#[]⟩:ByteArray),([]:List Int),([]:List Int)⟩:S30)) k x.f6 [] (fun y hy q=>by have e_:=uService_b y (h2_ y hy) (by have h_:=sum_le bk51 x.f6 y hy;omega);unfold stFile;simp [ofL,ofV,B2,e_]))).trans ?_
 refine (fold_ok (s1:=(⟨x.f0,x.f1,x.f2,([]:List Int),x.f4,x.f5,x.f6,x.f7,(⟨#[]⟩:ByteArray),([]:List Int),([]:List Int)⟩:S30)) (k1:=k) (fold_list (fun y=>B2 7 (bField y)) (fun z_=>(⟨x.f0,x.f1,x.f2,([]:List Int),x.f4,x.f5,x.f6,z_,(⟨#[]⟩:ByteArray),([]:List Int),([]:List Int)⟩:S30)) k x.f7 [] (fun y hy q=>by have e_:=uField_b y (h3_ y hy) (by have h_:=sum_le bk88 x.f7 y hy;omega);unfold stFile;simp [ofL,ofV,B2,e_]))).trans ?_
 refine (fold_ok (s1:=(⟨x.f0,x.f1,x.f2,([]:List Int),x.f4,x.f5,x.f6,x.f7,(⟨#[]⟩:ByteArray),x.f9,([]:List Int)⟩:S30)) (k1:=k) (seg_o (fun z_=>(⟨x.f0,x.f1,x.f2,([]:List Int),x.f4,x.f5,x.f6,x.f7,(⟨#[]⟩:ByteArray),z_,([]:List Int)⟩:S30)) 8 x.f9 k (by unfold stFile;simp [ofL,ofV,B2,N0]))).trans ?_
 refine (fold_ok (s1:=(⟨x.f0,x.f1,x.f2,x.f3,x.f4,x.f5,x.f6,x.f7,(⟨#[]⟩:ByteArray),x.f9,([]:List Int)⟩:S30)) (k1:=k) (fold_list (fun y=>N0 10 y) (fun z_=>(⟨x.f0,x.f1,x.f2,z_,x.f4,x.f5,x.f6,x.f7,(⟨#[]⟩:ByteArray),x.f9,([]:List Int)⟩:S30)) k x.f3 [] (fun y hy q=>(by unfold stFile;simp [ofL,ofV,B2,N0,pl (h5_ y hy)])))).trans ?_
 exact seg_t (fun z_=>(⟨x.f0,x.f1,x.f2,x.f3,x.f4,x.f5,x.f6,x.f7,z_,x.f9,([]:List Int)⟩:S30)) 12 x.f8 k (by unfold stFile;simp [ofL,ofV,B2,N0,strOf_bytesOf])
theorem uFile_b (x:S30) (u:List Int→Except Int S76) (hu:∀ y∈x.f4,u (bMessage y) = .ok y) (h:WfFile x) (hk:bk30 x≤4194304):uFile u (bFile x) = .ok x:=by
 have hf:=rFile_fit x h hk
 have hF:=fFile x u hu h hk []
 have h0:=h.out
 obtain ⟨h0_,h1_,h2_,h3_,h4_,h5_,h6_⟩:=h0
 obtain ⟨l,hl,hx⟩:=h6_ u
 have hall:∀ r∈rFile x++l,Fit r:=fun r hr=>(List.mem_append.1 hr).elim (hf r) (fun h=>(hl r h).1)
 have hS:=fold_skip (step:=(stFile u)) l (fun r hr=>⟨(hl r hr).1.1,(hl r hr).2⟩) (⟨x.f0,x.f1,x.f2,x.f3,x.f4,x.f5,x.f6,x.f7,x.f8,x.f9,([]:List Int)⟩:S30) []
 have hR:readU (stFile u) (bFile x) (⟨(⟨#[]⟩:ByteArray),(⟨#[]⟩:ByteArray),([]:List ByteArray),([]:List Int),([]:List S76),([]:List S82),([]:List S51),([]:List S88),(⟨#[]⟩:ByteArray),([]:List Int),([]:List Int)⟩:S30) = .ok ((⟨x.f0,x.f1,x.f2,x.f3,x.f4,x.f5,x.f6,x.f7,x.f8,x.f9,([]:List Int)⟩:S30),flat l):=by
  rw [bFile_flat x l hx,readU_flat _ _ hall,fold_ok hF,hS,List.nil_append]
 unfold uFile
 rw [show (z30:S30)=(⟨(⟨#[]⟩:ByteArray),(⟨#[]⟩:ByteArray),([]:List ByteArray),([]:List Int),([]:List S76),([]:List S82),([]:List S51),([]:List S88),(⟨#[]⟩:ByteArray),([]:List Int),([]:List Int)⟩:S30) from rfl,hR]
 rw [← hx]
end Go.Proofs.Ytheoafenehckbaa.Ur
