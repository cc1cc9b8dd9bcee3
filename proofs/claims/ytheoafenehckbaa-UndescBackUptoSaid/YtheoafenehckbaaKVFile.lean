/- undesc's reader of a File. -/
import Derived.Test.YtheoafenehckbaaKA3
import Derived.Test.YtheoafenehckbaaKSh
import Derived.Test.YtheoafenehckbaaKSw
import Derived.Test.YtheoafenehckbaaKVEnum
import Derived.Test.YtheoafenehckbaaKVField
import Derived.Test.YtheoafenehckbaaKVMessage
import Derived.Test.YtheoafenehckbaaKVService
import Derived.WalkLawsBesides
set_option maxHeartbeats 8000000
set_option maxRecDepth 100000
namespace Go.Proofs.Ytheoafenehckbaa.Ur
open Go.RowKit GUndescBack YtheoafenehckbaaW.PrintWords YtheoafenehckbaaW.PrintLast YtheoafenehckbaaW.PrintMore Vb Fx Wr Wt Wj Wp Uq
set_option linter.unusedVariables false
set_option linter.unusedSimpArgs false
def stFile (u:List Int→Except Int S76) (s:S30) (r:S97):Except Int (S30 × Bool):=
 if ofL r=1 then .ok (⟨(strOfNums r.f3),s.f1,s.f2,s.f3,s.f4,s.f5,s.f6,s.f7,s.f8,s.f9,s.f10⟩,true) else
 if ofL r=2 then .ok (⟨s.f0,(strOfNums r.f3),s.f2,s.f3,s.f4,s.f5,s.f6,s.f7,s.f8,s.f9,s.f10⟩,true) else
 if ofL r=3 then .ok (⟨s.f0,s.f1,(s.f2++[strOfNums r.f3]),s.f3,s.f4,s.f5,s.f6,s.f7,s.f8,s.f9,s.f10⟩,true) else
 if ofL r=4 then match u r.f3 with | .error n=>.error n | .ok x=>.ok (⟨s.f0,s.f1,s.f2,s.f3,(s.f4++[x]),s.f5,s.f6,s.f7,s.f8,s.f9,s.f10⟩,true) else
 if ofL r=5 then match uEnum r.f3 with | .error n=>.error n | .ok x=>.ok (⟨s.f0,s.f1,s.f2,s.f3,s.f4,(s.f5++[x]),s.f6,s.f7,s.f8,s.f9,s.f10⟩,true) else
 if ofL r=6 then match uService r.f3 with | .error n=>.error n | .ok x=>.ok (⟨s.f0,s.f1,s.f2,s.f3,s.f4,s.f5,(s.f6++[x]),s.f7,s.f8,s.f9,s.f10⟩,true) else
 if ofL r=7 then match uField r.f3 with | .error n=>.error n | .ok x=>.ok (⟨s.f0,s.f1,s.f2,s.f3,s.f4,s.f5,s.f6,(s.f7++[x]),s.f8,s.f9,s.f10⟩,true) else
 if ofL r=8 then .ok (⟨s.f0,s.f1,s.f2,s.f3,s.f4,s.f5,s.f6,s.f7,s.f8,(r.f3),s.f10⟩,true) else
 if ofL r=12 then .ok (⟨s.f0,s.f1,s.f2,s.f3,s.f4,s.f5,s.f6,s.f7,(strOfNums r.f3),s.f9,s.f10⟩,true) else
 if ofV r=10 then match placeU r.f2 with | .error n=>.error n | .ok x=>.ok (⟨s.f0,s.f1,s.f2,(s.f3++[x]),s.f4,s.f5,s.f6,s.f7,s.f8,s.f9,s.f10⟩,true) else
 .ok (s,false)
def uFile (u:List Int→Except Int S76) (b:List Int):Except Int S30:=match readU (stFile u) b z30 with | .error n=>.error n | .ok p=>.ok ⟨p.1.f0,p.1.f1,p.1.f2,p.1.f3,p.1.f4,p.1.f5,p.1.f6,p.1.f7,p.1.f8,p.1.f9,p.2⟩
def cntFile (s:S30):Nat:=s.f2.length+s.f3.length+s.f4.length+s.f5.length+s.f6.length+s.f7.length
theorem cntFile_up (u:List Int→Except Int S76) (s:S30) (r:S97) (p:S30 × Bool) (h:stFile u s r = .ok p):cntFile p.1≤cntFile s+1:=by
 unfold stFile at h
 unfold cntFile
 by_cases eL1:ofL r=1
 · rw [if_pos eL1] at h
   cases h
   (try dsimp only)
   (try simp only [List.length_append,List.length_singleton])
   omega
 rw [if_neg eL1] at h
 by_cases eL2:ofL r=2
 · rw [if_pos eL2] at h
   cases h
   (try dsimp only)
   (try simp only [List.length_append,List.length_singleton])
   omega
 rw [if_neg eL2] at h
 by_cases eL3:ofL r=3
 · rw [if_pos eL3] at h
   cases h
   (try dsimp only)
   (try simp only [List.length_append,List.length_singleton])
   omega
 rw [if_neg eL3] at h
 by_cases eL4:ofL r=4
 · rw [if_pos eL4] at h
   cases hx:u r.f3 with
   | error n=>rw [hx] at h;cases h
   | ok x=>
    rw [hx] at h
    cases h
    (try dsimp only)
    (try simp only [List.length_append,List.length_singleton])
    omega
 rw [if_neg eL4] at h
 by_cases eL5:ofL r=5
 · rw [if_pos eL5] at h
   cases hx:uEnum r.f3 with
   | error n=>rw [hx] at h;cases h
   | ok x=>
    rw [hx] at h
    cases h
    (try dsimp only)
    (try simp only [List.length_append,List.length_singleton])
    omega
 rw [if_neg eL5] at h
 by_cases eL6:ofL r=6
 · rw [if_pos eL6] at h
   cases hx:uService r.f3 with
   | error n=>rw [hx] at h;cases h
   | ok x=>
    rw [hx] at h
    cases h
    (try dsimp only)
    (try simp only [List.length_append,List.length_singleton])
    omega
 rw [if_neg eL6] at h
 by_cases eL7:ofL r=7
 · rw [if_pos eL7] at h
   cases hx:uField r.f3 with
   | error n=>rw [hx] at h;cases h
   | ok x=>
    rw [hx] at h
    cases h
    (try dsimp only)
    (try simp only [List.length_append,List.length_singleton])
    omega
 rw [if_neg eL7] at h
 by_cases eL8:ofL r=8
 · rw [if_pos eL8] at h
   cases h
   (try dsimp only)
   (try simp only [List.length_append,List.length_singleton])
   omega
 rw [if_neg eL8] at h
 by_cases eL12:ofL r=12
 · rw [if_pos eL12] at h
   cases h
   (try dsimp only)
   (try simp only [List.length_append,List.length_singleton])
   omega
 rw [if_neg eL12] at h
 by_cases eV10:ofV r=10
 · rw [if_pos eV10] at h
   cases hx:placeU r.f2 with
   | error n=>rw [hx] at h;cases h
   | ok x=>
    rw [hx] at h
    cases h
    (try dsimp only)
    (try simp only [List.length_append,List.length_singleton])
    omega
 rw [if_neg eV10] at h
 cases h
 exact Nat.le_succ _
def CFile (B:Nat) (f:Nat→Nat) (s:S30) (W:World) (cs:Array Value):Prop:=∃ v2 v3 v4 v5 v6 v7 v9 v10:Value,cs=#[.string s.f0,.string s.f1,v2,v3,v4,v5,v6,v7,.string s.f8,v9,v10]∧L_ Kd.string 9 B 3 f W v2 s.f2∧L_ (Kd.int .i64) 3 B 4 f W v3 s.f3∧L_ k76 76 B 5 f W v4 s.f4∧L_ k82 82 B 6 f W v5 s.f5∧L_ k51 51 B 7 f W v6 s.f6∧L_ k88 88 B 8 f W v7 s.f7∧V_ f W v9 s.f9∧V_ f W v10 s.f10
theorem CFile_slots (B:Nat):Slots (CFile B):=by
 rintro f f' s W W' cs ⟨v2,v3,v4,v5,v6,v7,v9,v10,rfl,g2,g3,g4,g5,g6,g7,g9,g10⟩ h1 h2
 exact ⟨v2,v3,v4,v5,v6,v7,v9,v10,rfl,jk1 g2 h1 (fun k hk h0=>h2 k hk (by omega)),jk1 g3 h1 (fun k hk h0=>h2 k hk (by omega)),jk1 g4 h1 (fun k hk h0=>h2 k hk (by omega)),jk1 g5 h1 (fun k hk h0=>h2 k hk (by omega)),jk1 g6 h1 (fun k hk h0=>h2 k hk (by omega)),jk1 g7 h1 (fun k hk h0=>h2 k hk (by omega)),jk8 g9 h1 (fun k hk h0=>h2 k hk (by omega)),jk8 g10 h1 (fun k hk h0=>h2 k hk (by omega))⟩
theorem iFiletext:(Try.prog.info? 9).map (fun i=>(i.zero,i.size,i.bytes))=some (some (.string (⟨#[]⟩:ByteArray)),1,16):=by kernel_rfl
theorem iFileInt:(Try.prog.info? 3).map (fun i=>(i.zero,i.size,i.bytes))=some (some (.int .i64 0),1,8):=by kernel_rfl
theorem iFileEnum:(Try.prog.info? 82).map (fun i=>(i.zero,i.size,i.bytes))=some (some (.agg #[.string (⟨#[]⟩:ByteArray),.slice none 0 0,.slice none 0 0,.slice none 0 0]),4,88):=by kernel_rfl
theorem iFileField:(Try.prog.info? 88).map (fun i=>(i.zero,i.size,i.bytes))=some (some (.agg #[.string (⟨#[]⟩:ByteArray),.int .i64 0,.int .i64 0,.int .i64 0,.string (⟨#[]⟩:ByteArray),.string (⟨#[]⟩:ByteArray),.string (⟨#[]⟩:ByteArray),.bool false,.int .i64 0,.string (⟨#[]⟩:ByteArray),.bool false,.slice none 0 0,.slice none 0 0]),13,176):=by kernel_rfl
theorem iFileMessage:(Try.prog.info? 76).map (fun i=>(i.zero,i.size,i.bytes))=some (some (.agg #[.string (⟨#[]⟩:ByteArray),.slice none 0 0,.slice none 0 0,.slice none 0 0,.slice none 0 0,.slice none 0 0,.slice none 0 0,.slice none 0 0,.slice none 0 0,.slice none 0 0,.slice none 0 0]),11,256):=by kernel_rfl
theorem iFileService:(Try.prog.info? 51).map (fun i=>(i.zero,i.size,i.bytes))=some (some (.agg #[.string (⟨#[]⟩:ByteArray),.slice none 0 0,.slice none 0 0,.slice none 0 0]),4,88):=by kernel_rfl
theorem zKFile:∀ W':World,k76.K W' z76 #[.string (⟨#[]⟩:ByteArray),.slice none 0 0,.slice none 0 0,.slice none 0 0,.slice none 0 0,.slice none 0 0,.slice none 0 0,.slice none 0 0,.slice none 0 0,.slice none 0 0,.slice none 0 0].toList:=fun W'=>k76_mk W' z76 (Nat.le_refl 0) (Kd.C_nil _ _) (Nat.le_refl 0) (Kd.C_nil _ _) (Nat.le_refl 0) (Kd.C_nil _ _) (Nat.le_refl 0) (Kd.C_nil _ _) (Nat.le_refl 0) (Kd.C_nil _ _) (Nat.le_refl 0) (Kd.C_nil _ _) (Nat.le_refl 0) (Kd.C_nil _ _) (Nat.le_refl 0) (Kd.C_nil _ _) (Nat.le_refl 0) (Kd.C_nil _ _) (Nat.le_refl 0) (Kd.C_nil _ _)
def tFile4.T4:Bool × List (List Nat × List Nat):=(true,[([],[]),([0],[0]),([],[]),([2],[2]),([3],[3]),([4],[4]),([1,5,4],[1,5]),([0,1,2,3,4,5,6],[]),([7,6,6,0,1,2,3,4,5,6],[6,7])])
def tFile4.B4:List Nat:=[0,1,0,4,12,28,63,127,255]
theorem tFile4.tab4:rtab .any (opsOf Try.f57 4)=tFile4.T4:=by kernel_rfl
theorem tFile4.bits4:waitsOk tFile4.T4.2 tFile4.B4=true:=by kernel_rfl
def tFile12.T12:Bool × List (List Nat × List Nat):=(true,[([],[]),([0],[0]),([],[]),([2],[2]),([3],[3]),([1],[1]),([],[]),([1,6,4,0,1,2,3,4,5,6],[1,6]),([7,5,0,1,2,3,4,5,6,7],[5,7]),([8,4,7,0,1,2,3,4,5,6,7],[4,8]),([0,1,2,3,4,5,6,7],[]),([10,7,7,0,1,2,3,4,5,6,7],[7,10])])
def tFile12.B12:List Nat:=[0,1,0,4,12,3,0,127,255,511,255,1279]
theorem tFile12.tab12:rtab .any (opsOf Try.f57 12)=tFile12.T12:=by kernel_rfl
theorem tFile12.bits12:waitsOk tFile12.T12.2 tFile12.B12=true:=by kernel_rfl
def tFile14.T14:Bool × List (List Nat × List Nat):=(true,[([],[]),([0],[0]),([],[]),([2],[2]),([3],[3]),([4],[4]),([1,5,4],[1,5]),([0,1,2,3,4,5,6],[]),([7,6,6,0,1,2,3,4,5,6],[6,7])])
def tFile14.B14:List Nat:=[0,1,0,4,12,28,63,127,255]
theorem tFile14.tab14:rtab .any (opsOf Try.f57 14)=tFile14.T14:=by kernel_rfl
theorem tFile14.bits14:waitsOk tFile14.T14.2 tFile14.B14=true:=by kernel_rfl
def tFile16.T16:Bool × List (List Nat × List Nat):=(true,[([],[]),([0],[0]),([],[]),([2],[2]),([3],[3]),([4],[4]),([1,5,4],[1,5]),([0,1,2,3,4,5,6],[]),([7,6,6,0,1,2,3,4,5,6],[6,7])])
def tFile16.B16:List Nat:=[0,1,0,4,12,28,63,127,255]
theorem tFile16.tab16:rtab .any (opsOf Try.f57 16)=tFile16.T16:=by kernel_rfl
theorem tFile16.bits16:waitsOk tFile16.T16.2 tFile16.B16=true:=by kernel_rfl
def tFile18.T18:Bool × List (List Nat × List Nat):=(true,[([],[]),([0],[0]),([],[]),([2],[2]),([3],[3]),([4],[4]),([1,5,4],[1,5]),([0,1,2,3,4,5,6],[]),([7,6,6,0,1,2,3,4,5,6],[6,7])])
def tFile18.B18:List Nat:=[0,1,0,4,12,28,63,127,255]
theorem tFile18.tab18:rtab .any (opsOf Try.f57 18)=tFile18.T18:=by kernel_rfl
theorem tFile18.bits18:waitsOk tFile18.T18.2 tFile18.B18=true:=by kernel_rfl
theorem cloFile_call (u:List Int→Except Int S76) (hu0:∀ (b:List Int) (A:Option Addr) (c:Nat) (w:World),Bytes b→b.length < 4294967296→Kd.C (Kd.int .u8) w A b.length b→b.length≤c→Calls Try.prog 59 #[.slice A b.length c,.int .i64 0] w fun e w'=>Ans k76 w e w' (u b)) (q:Nat) (W0:World) (hq0:W0.heap.size≤q) (f:Nat→Nat) (s:S30) (W:World) (r:S97) (A:Option Addr) (c:Nat) (hT:St (CFile W0.heap.size) 30 q f s W) (hB:Below W0.heap.size W0 W) (hr:RawOk r) (hlen:r.f3.length < 4294967296) (hcnt:cntFile s < 4294967296) (hc:r.f3.length≤c) (hF:Kd.F (Kd.int .u8) W (fun k=>f k=0) A r.f3.length r.f3) :
 Calls Try.prog 57 #[.agg #[.int .i64 r.f0,.int .i64 r.f1,.int .u64 r.f2,.slice A r.f3.length c],.pointer (some ⟨q,0,none⟩)] W fun e W'=>Took (St (CFile W0.heap.size) 30 q) W0 f W e W' (stFile u s r):=by
 have HT:=mk0 hT
 obtain ⟨hq,cs,hb,v2,v3,v4,v5,v6,v7,v9,v10,rfl,g2_,g3_,g4_,g5_,g6_,g7_,g9_,g10_⟩:=hT
 have HU0:=mk0 hu0
 clear hu0
 have G2:=mk0 g2_
 have G3:=mk0 g3_
 have G4:=mk0 g4_
 have G5:=mk0 g5_
 have G6:=mk0 g6_
 have G7:=mk0 g7_
 have G9:=mk0 g9_
 have G10:=mk0 g10_
 have HF:=mk0 hF
 have HC:=mk0 (Kd.F_now hF)
 have HR:=mk0 hr
 have HB0:=mk0 hB
 have BQ0:=mk0 hb
 have HQ:=mk0 hq
 have HQ0:=mk0 hq0
 have HQL:=mk0 (jk4 hb)
 clear g2_ g3_ g4_ g5_ g6_ g7_ g9_ g10_ hF hr hB hb hq hq0
 obtain ⟨Ln,hL_⟩:∃ z,ofL r=z:=⟨_,rfl⟩
 obtain ⟨Vn,hV_⟩:∃ z,ofV r=z:=⟨_,rfl⟩
 have hL:=mk0 hL_
 have hV:=mk0 hV_
 clear hL_ hV_
 by_cases eL1:Ln=1
 · subst eL1
   have hst:Aside0 (stFile u s r = .ok (⟨(strOfNums r.f3),s.f1,s.f2,s.f3,s.f4,s.f5,s.f6,s.f7,s.f8,s.f9,s.f10⟩,true)):=⟨by unfold stFile;simp only [hL.out,hV.out,if_true,if_false,reduceIte,Int.reduceEq]⟩
   go_enter Try.func57,Try.ntmps57
   go_wp2_with (first|((with_reducible refine jjq (N:=2) rfl ?_);(try (refine jj6 (by rfl) ?_;dsimp only));refine bxR 2 c BQ0 HC ?_;intro gb w1 HB BK BQ hcv HGB s0_ s1_ s2_ s3_;have x0_:_=some ((.string s.f0):Value):=bzC BQ 0;have y0_:=jj2 BQ.out 0)|(go_at_call 58;(with_reducible refine ofR (ozL hL) HC HB BK BQ ?_);clear HB BK BQ hcv s0_ s1_ s2_ s3_ x0_ y0_;intro w2 HB BK BQ hcv s0_ s1_ s2_ s3_;have x0_:_=some ((.string s.f0):Value):=bzC BQ 0;have y0_:=jj2 BQ.out 0)|(go_at_call 63;(with_reducible refine ofR (ozV hV) HC HB BK BQ ?_);clear HB BK BQ hcv s0_ s1_ s2_ s3_ x0_ y0_;intro w2 HB BK BQ hcv s0_ s1_ s2_ s3_;have x0_:_=some ((.string s.f0):Value):=bzC BQ 0;have y0_:=jj2 BQ.out 0)|((with_reducible refine jjz (t:=9) (p:=22) rfl ?_);refine czE q 0 30 (.string (strOfNums r.f3)) BQ.out ?_;intro w9 h1_ h2_ h3_ h4_;have BQ9:=mk0 h1_;have HB9:=mk0 h2_;have HK9:=mk0 h3_;have HS9:=mk0 h4_;clear h1_ h2_ h3_ h4_))
   go_ret
   rw [hst.out]
   have hs_:=hszL HK9 HQ HB
   exact jq (CFile_slots _) HQ.out HQL.out (HB9.out _ _ HQ0.out (jj1 HB0.out HB0.out.size HB.out)) (Nat.le_trans HB.out.size HS9.out) (mix f W.heap.size) (fun k hk=>jk hk) (fun k hk h0=>hs_ k hk (fun e=>h0 (.inr e))) BQ9.out (⟨_,_,_,_,_,_,_,_,rfl,jk1 G2.out (fun k hk=>jk hk) (fun k hk h0=>hs_ k hk (by omega)),jk1 G3.out (fun k hk=>jk hk) (fun k hk h0=>hs_ k hk (by omega)),jk1 G4.out (fun k hk=>jk hk) (fun k hk h0=>hs_ k hk (by omega)),jk1 G5.out (fun k hk=>jk hk) (fun k hk h0=>hs_ k hk (by omega)),jk1 G6.out (fun k hk=>jk hk) (fun k hk h0=>hs_ k hk (by omega)),jk1 G7.out (fun k hk=>jk hk) (fun k hk h0=>hs_ k hk (by omega)),jk8 G9.out (fun k hk=>jk hk) (fun k hk h0=>hs_ k hk (by omega)),jk8 G10.out (fun k hk=>jk hk) (fun k hk h0=>hs_ k hk (by omega))⟩)
 have fL1:(Ln==1)=false:=beq_eq_false_iff_ne.2 eL1
 by_cases eL2:Ln=2
 · subst eL2
   have hst:Aside0 (stFile u s r = .ok (⟨s.f0,(strOfNums r.f3),s.f2,s.f3,s.f4,s.f5,s.f6,s.f7,s.f8,s.f9,s.f10⟩,true)):=⟨by unfold stFile;simp only [hL.out,hV.out,eL1,if_true,if_false,reduceIte,Int.reduceEq]⟩
   go_enter Try.func57,Try.ntmps57
   go_wp2_with (first|((with_reducible refine jjq (N:=2) rfl ?_);(try (refine jj6 (by rfl) ?_;dsimp only));refine bxR 2 c BQ0 HC ?_;intro gb w1 HB BK BQ hcv HGB s0_ s1_ s2_ s3_;have x1_:_=some ((.string s.f1):Value):=bzC BQ 1;have y1_:=jj2 BQ.out 1)|(go_at_call 58;(with_reducible refine ofR (ozL hL) HC HB BK BQ ?_);clear HB BK BQ hcv s0_ s1_ s2_ s3_ x1_ y1_;intro w2 HB BK BQ hcv s0_ s1_ s2_ s3_;have x1_:_=some ((.string s.f1):Value):=bzC BQ 1;have y1_:=jj2 BQ.out 1)|(go_at_call 63;(with_reducible refine ofR (ozV hV) HC HB BK BQ ?_);clear HB BK BQ hcv s0_ s1_ s2_ s3_ x1_ y1_;intro w2 HB BK BQ hcv s0_ s1_ s2_ s3_;have x1_:_=some ((.string s.f1):Value):=bzC BQ 1;have y1_:=jj2 BQ.out 1)|((with_reducible refine jjz (t:=9) (p:=28) rfl ?_);refine czE q 1 30 (.string (strOfNums r.f3)) BQ.out ?_;intro w9 h1_ h2_ h3_ h4_;have BQ9:=mk0 h1_;have HB9:=mk0 h2_;have HK9:=mk0 h3_;have HS9:=mk0 h4_;clear h1_ h2_ h3_ h4_))
   go_ret
   rw [hst.out]
   have hs_:=hszL HK9 HQ HB
   exact jq (CFile_slots _) HQ.out HQL.out (HB9.out _ _ HQ0.out (jj1 HB0.out HB0.out.size HB.out)) (Nat.le_trans HB.out.size HS9.out) (mix f W.heap.size) (fun k hk=>jk hk) (fun k hk h0=>hs_ k hk (fun e=>h0 (.inr e))) BQ9.out (⟨_,_,_,_,_,_,_,_,rfl,jk1 G2.out (fun k hk=>jk hk) (fun k hk h0=>hs_ k hk (by omega)),jk1 G3.out (fun k hk=>jk hk) (fun k hk h0=>hs_ k hk (by omega)),jk1 G4.out (fun k hk=>jk hk) (fun k hk h0=>hs_ k hk (by omega)),jk1 G5.out (fun k hk=>jk hk) (fun k hk h0=>hs_ k hk (by omega)),jk1 G6.out (fun k hk=>jk hk) (fun k hk h0=>hs_ k hk (by omega)),jk1 G7.out (fun k hk=>jk hk) (fun k hk h0=>hs_ k hk (by omega)),jk8 G9.out (fun k hk=>jk hk) (fun k hk h0=>hs_ k hk (by omega)),jk8 G10.out (fun k hk=>jk hk) (fun k hk h0=>hs_ k hk (by omega))⟩)
 have fL2:(Ln==2)=false:=beq_eq_false_iff_ne.2 eL2
 by_cases eL3:Ln=3
 · subst eL3
   have HCN:=mk0 hcnt
   have hst:Aside0 (stFile u s r = .ok (⟨s.f0,s.f1,(s.f2++[strOfNums r.f3]),s.f3,s.f4,s.f5,s.f6,s.f7,s.f8,s.f9,s.f10⟩,true)):=⟨by unfold stFile;simp only [hL.out,hV.out,eL1,eL2,if_true,if_false,reduceIte,Int.reduceEq]⟩
   go_enter Try.func57,Try.ntmps57
   go_wp2_with (first|((with_reducible refine jjq (N:=2) rfl ?_);(try (refine jj6 (by rfl) ?_;dsimp only));refine bxR 2 c BQ0 HC ?_;intro gb w1 HB BK BQ hcv HGB s0_ s1_ s2_ s3_;have x2_:_=some ((v2):Value):=bzC BQ 2;have y2_:=jj2 BQ.out 2)|(go_at_call 58;(with_reducible refine ofR (ozL hL) HC HB BK BQ ?_);clear HB BK BQ hcv s0_ s1_ s2_ s3_ x2_ y2_;intro w2 HB BK BQ hcv s0_ s1_ s2_ s3_;have x2_:_=some ((v2):Value):=bzC BQ 2;have y2_:=jj2 BQ.out 2)|(go_at_call 63;(with_reducible refine ofR (ozV hV) HC HB BK BQ ?_);clear HB BK BQ hcv s0_ s1_ s2_ s3_ x2_ y2_;intro w2 HB BK BQ hcv s0_ s1_ s2_ s3_;have x2_:_=some ((v2):Value):=bzC BQ 2;have y2_:=jj2 BQ.out 2)|((with_reducible refine gate_builtin (b:=.append) (xs:=#[.tmp 32,.tmp 36]) rfl ?_);(try (refine jj6 (by rfl) ?_;dsimp only));at_builtin;have HLj:=mk0 (jk1 G2.out (fun k hk=>jk hk) (fun k hk _=>HB.out.block k hk));refine Kd.N_append Kd.string (w0:=W0) (W:=w2) W0.heap.size rfl (.tmp 32) (.tmp 36) 22 9 _ _ rfl Try.underlying22 iFiletext (by rfl) (by decide) (by decide) v2 s.f2 (strOfNums r.f3) [.string (strOfNums r.f3)] (fun k=>lab (mix f W.heap.size) w2 3 k=0∨lab (mix f W.heap.size) w2 3 k=3) (fun k=>False) rfl rfl ?hp ?ha (fun k hk=>L_fresh k hk) (L_before HLj.out) (jj1 HB0.out HB0.out.size HB.out) (jj1 HB0.out HB0.out.size HB.out).size ?hl ?_;(case hp=>exact fun _ _=>rfl);(case ha=>exact fun k hk=>hk.elim);(case hl=>have h_:=HCN.out;unfold cntFile at h_;omega);intro vn w4 hn hb4 hg hat;obtain ⟨ln,hln⟩:∃ z_,s.f2++[strOfNums r.f3]=z_:=⟨_,rfl⟩;rw [hln] at hn;obtain ⟨An,cn,evn⟩:=Kd.N_slice hn;subst evn;have HLE:=mk0 hln;clear hln;have HLn:=mk0 (L_after HLj.out hn hat);have HB4:=mk0 hb4;have hoth:=fun k hk hne=>grown_other HLj.out hg k hk hne;have BQ4:=mk0 ((hoth q (jk4 BQ.out) (by rw [jk HQL.out,HQ.out];decide)).trans BQ.out);have HOT:=mk0 (fun k (hk:k < W.heap.size) (hne:f k≠3)=>(hoth k (Nat.lt_of_lt_of_le hk HB.out.size) (by rw [jk hk];exact hne)).trans (HB.out.block k hk));have HS4:=mk0 (Nat.le_trans HB.out.size hg.size);clear hoth hn hb4 hg hat x2_ y2_ hcv s0_ s1_ s2_ s3_;have x2_:_=some (v2:Value):=bzC BQ4 2;have y2_:=jj2 BQ4.out 2)|((with_reducible refine jjz (t:=22) (p:=38) rfl ?_);refine czE q 2 30 (.slice An ln.length cn) BQ4.out ?_;intro w9 h1_ h2_ h3_ h4_;have BQ9:=mk0 h1_;have HB9:=mk0 (h2_ _ _ HQ0.out HB4.out);have HK9:=mk0 h3_;have HS9:=mk0 h4_;clear h1_ h2_ h3_ h4_))
   go_ret
   rw [hst.out]
   have hs_:∀ k,k < W.heap.size→f k≠999→f k≠3→w9.heap[k]?=W.heap[k]?:=fun k hk h9 hj=>(HK9.out k (fun e=>h9 (e ▸ HQ.out))).trans (HOT.out k hk hj)
   have hf_:∀ k,k < W.heap.size→lab (mix f W.heap.size) w2 3 k=f k:=fun k hk=>(lab_lt (Nat.lt_of_lt_of_le hk HB.out.size)).trans (jk hk)
   have hq_:lab (mix f W.heap.size) w2 3 q=999:=(hf_ q HQL.out).trans HQ.out
   exact jq (CFile_slots _) HQ.out HQL.out HB9.out (Nat.le_trans HS4.out HS9.out) (lab (mix f W.heap.size) w2 3) hf_ (fun k hk h0=>hs_ k hk (fun e=>h0 (.inr e)) (fun e=>h0 (.inl (by omega)))) BQ9.out (⟨_,_,_,_,_,_,_,_,rfl,jk1 (by rw [HLE.out];exact HLn.out) (fun _ _=>rfl) (fun k hk h0=>HK9.out k (fun e=>by rw [e,hq_] at h0;omega)),jk1 G3.out hf_ (fun k hk h0=>hs_ k hk (by omega) (by omega)),jk1 G4.out hf_ (fun k hk h0=>hs_ k hk (by omega) (by omega)),jk1 G5.out hf_ (fun k hk h0=>hs_ k hk (by omega) (by omega)),jk1 G6.out hf_ (fun k hk h0=>hs_ k hk (by omega) (by omega)),jk1 G7.out hf_ (fun k hk h0=>hs_ k hk (by omega) (by omega)),jk8 G9.out hf_ (fun k hk h0=>hs_ k hk (by omega) (by omega)),jk8 G10.out hf_ (fun k hk h0=>hs_ k hk (by omega) (by omega))⟩)
 have fL3:(Ln==3)=false:=beq_eq_false_iff_ne.2 eL3
 by_cases eL4:Ln=4
 · subst eL4
   have HRb:=mk0 HR.out.b
   have HRl:=mk0 hlen
   have HCN:=mk0 hcnt
   have HCc:=mk0 hc
   obtain ⟨Aj,cj,ej⟩:=Kd.N_slice G4.out.1
   subst ej
   cases hu_:u r.f3 with
   | error n=>
    have hu:=mk0 hu_
    clear hu_
    have hst:Aside0 (stFile u s r = .error n):=⟨by unfold stFile;simp only [hL.out,hV.out,eL1,eL2,eL3,hu.out,if_true,if_false,reduceIte,Int.reduceEq]⟩
    go_enter Try.func57,Try.ntmps57
    go_wp2_with (first|((with_reducible refine jjq (N:=2) rfl ?_);(try (refine jj6 (by rfl) ?_;dsimp only));refine bxR 2 c BQ0 HC ?_;intro gb w1 HB BK BQ hcv HGB s0_ s1_ s2_ s3_)|(go_at_call 58;(with_reducible refine ofR (ozL hL) HC HB BK BQ ?_);clear HB BK BQ hcv s0_ s1_ s2_ s3_;intro w2 HB BK BQ hcv s0_ s1_ s2_ s3_)|(go_at_call 63;(with_reducible refine ofR (ozV hV) HC HB BK BQ ?_);clear HB BK BQ hcv s0_ s1_ s2_ s3_;intro w2 HB BK BQ hcv s0_ s1_ s2_ s3_))
    clear hcv s0_ s1_ s2_ s3_
    replace HB:=mk0 (jj5 HB.out)
    replace BK:=mk0 (jjj BK.out)
    replace BQ:=mk0 (jjj BQ.out)
    refine start_ (n:=12) (S:=(fun w'=>w'.cell? ⟨q,4,none⟩=some (.slice Aj s.f4.length cj)∧w'.cell? ⟨gb,3,none⟩=some (.slice A r.f3.length c))) (ds:=[9,11]) (bzs 12 0) (by kernel_rfl) rfl rfl ⟨bzC BQ 4,bzC BK 3⟩ (fun hHeld=>?_)
    refine with_tabW tFile12.tab12 tFile12.bits12 (fun HT_ HW_=>?_)
    generalize World.drew _=wq at HB BK BQ hHeld ⊢
    refine pzS 0 (some 41) (bzs 12 1) HT_ ?_
    refine pzS 2 (some 43) (bzs 12 5) HT_ ?_
    refine tzS 1 (some 42) (bzs 12 7) HT_ HW_ hHeld ?_
    refine pzS 5 (some 46) (bzs 12 39) HT_ ?_
    refine tzS 3 (some 44) (bzs 12 47) HT_ HW_ hHeld ?_
    refine two_ (i:=4) (j:=6) (Ni:=some 45) (Nj:=some 47) (bzs 12 63) (bzs 12 111) rfl rfl rfl rfl (two_of HT_.out (by kernel_rfl)) (by decide) (by decide) (fun K hK=>?_) (fun K hK=>?_)
    · refine gzP Try.func59 #[.slice A r.f3.length c,.int .i64 0] ?_
      refine (HU0.out r.f3 A c _ HRb.out HRl.out (Kd.jj0 HC.out HB.out) HCc.out).mono ?_
      rintro e w3 hA
      rw [hu.out] at hA
      obtain ⟨rfl,hbz⟩:=hA
      refine .inl ⟨_,rfl,?_⟩
      have hbw:=jj1 HB0.out HB0.out.size (jj1 HB.out HB.out.size hbz)
      refine show ([]:List Deferred)=[]∧Took (St (CFile W0.heap.size) 30 q) W0 f W (thrown n) w3 (stFile u s r) from ⟨rfl,?_⟩
      rw [hst.out]
      exact ⟨rfl,hbw⟩
    · refine event_step (w1:=wq.alloc (.cells #[.string (⟨#[]⟩:ByteArray),.slice none 0 0,.slice none 0 0,.slice none 0 0,.slice none 0 0,.slice none 0 0,.slice none 0 0,.slice none 0 0,.slice none 0 0,.slice none 0 0,.slice none 0 0] 76)) (v:=.slice (some ⟨wq.heap.size,0,none⟩) 1 1) (by rfl) (by first|exact Sw.jq0 (cells:=#[.string (⟨#[]⟩:ByteArray),.slice none 0 0,.slice none 0 0,.slice none 0 0,.slice none 0 0,.slice none 0 0,.slice none 0 0,.slice none 0 0,.slice none 0 0,.slice none 0 0,.slice none 0 0]) rfl rfl Try.underlying24 iFileMessage (by decide) (by decide)|(go_simp;done)|(go_simp;rfl)) ?_
      have HGZ:=mk0 HB.out.size
      have hbz:=jj7 (Below.refl wq.heap.size wq) (.cells #[.string (⟨#[]⟩:ByteArray),.slice none 0 0,.slice none 0 0,.slice none 0 0,.slice none 0 0,.slice none 0 0,.slice none 0 0,.slice none 0 0,.slice none 0 0,.slice none 0 0,.slice none 0 0] 76)
      have BZ:=mk0 (blk_new wq (.cells #[.string (⟨#[]⟩:ByteArray),.slice none 0 0,.slice none 0 0,.slice none 0 0,.slice none 0 0,.slice none 0 0,.slice none 0 0,.slice none 0 0,.slice none 0 0,.slice none 0 0,.slice none 0 0] 76))
      replace HB:=mk0 (jj1 HB.out HB.out.size hbz)
      replace BK:=mk0 (jj3 BK.out hbz)
      replace BQ:=mk0 (jj3 BQ.out hbz)
      obtain ⟨gz,hgz⟩:∃ z_,z_=wq.heap.size:=⟨_,rfl⟩
      rw [← hgz] at BZ ⊢
      have HGz:=mk0 (show W.heap.size≤gz from hgz ▸ HGZ.out)
      clear hgz HGZ hbz hHeld
      generalize wq.alloc (.cells #[.string (⟨#[]⟩:ByteArray),.slice none 0 0,.slice none 0 0,.slice none 0 0,.slice none 0 0,.slice none 0 0,.slice none 0 0,.slice none 0 0,.slice none 0 0,.slice none 0 0,.slice none 0 0] 76)=wq at HB BK BQ BZ ⊢
      refine hK.out _ _ ⟨bzC BQ 4,bzC BK 3⟩ (fun hHeld=>?_)
      clear hK K
      refine nzS (some 47) ?_
      refine one_ (i:=4) (N:=some 45) (bzs 12 127) rfl rfl (jk2 HT_.out (by kernel_rfl)) (by decide) (fun K hK=>?_)
      refine gzP Try.func59 #[.slice A r.f3.length c,.int .i64 0] ?_
      refine (HU0.out r.f3 A c _ HRb.out HRl.out (Kd.jj0 HC.out HB.out) HCc.out).mono ?_
      rintro e w3 hA
      rw [hu.out] at hA
      obtain ⟨rfl,hbz⟩:=hA
      refine .inl ⟨_,rfl,?_⟩
      have hbw:=jj1 HB0.out HB0.out.size (jj1 HB.out HB.out.size hbz)
      refine show ([]:List Deferred)=[]∧Took (St (CFile W0.heap.size) 30 q) W0 f W (thrown n) w3 (stFile u s r) from ⟨rfl,?_⟩
      rw [hst.out]
      exact ⟨rfl,hbw⟩
   | ok x=>
    have hu:=mk0 hu_
    clear hu_
    have hst:Aside0 (stFile u s r = .ok (⟨s.f0,s.f1,s.f2,s.f3,(s.f4++[x]),s.f5,s.f6,s.f7,s.f8,s.f9,s.f10⟩,true)):=⟨by unfold stFile;simp only [hL.out,hV.out,eL1,eL2,eL3,hu.out,if_true,if_false,reduceIte,Int.reduceEq]⟩
    go_enter Try.func57,Try.ntmps57
    go_wp2_with (first|((with_reducible refine jjq (N:=2) rfl ?_);(try (refine jj6 (by rfl) ?_;dsimp only));refine bxR 2 c BQ0 HC ?_;intro gb w1 HB BK BQ hcv HGB s0_ s1_ s2_ s3_)|(go_at_call 58;(with_reducible refine ofR (ozL hL) HC HB BK BQ ?_);clear HB BK BQ hcv s0_ s1_ s2_ s3_;intro w2 HB BK BQ hcv s0_ s1_ s2_ s3_)|(go_at_call 63;(with_reducible refine ofR (ozV hV) HC HB BK BQ ?_);clear HB BK BQ hcv s0_ s1_ s2_ s3_;intro w2 HB BK BQ hcv s0_ s1_ s2_ s3_))
    clear hcv s0_ s1_ s2_ s3_
    replace HB:=mk0 (jj5 HB.out)
    replace BK:=mk0 (jjj BK.out)
    replace BQ:=mk0 (jjj BQ.out)
    refine start_ (n:=12) (S:=(fun w'=>w'.cell? ⟨q,4,none⟩=some (.slice Aj s.f4.length cj)∧w'.cell? ⟨gb,3,none⟩=some (.slice A r.f3.length c))) (ds:=[9,11]) (bzs 12 0) (by kernel_rfl) rfl rfl ⟨bzC BQ 4,bzC BK 3⟩ (fun hHeld=>?_)
    refine with_tabW tFile12.tab12 tFile12.bits12 (fun HT_ HW_=>?_)
    generalize World.drew _=wq at HB BK BQ hHeld ⊢
    refine pzS 0 (some 41) (bzs 12 1) HT_ ?_
    refine pzS 2 (some 43) (bzs 12 5) HT_ ?_
    refine tzS 1 (some 42) (bzs 12 7) HT_ HW_ hHeld ?_
    refine pzS 5 (some 46) (bzs 12 39) HT_ ?_
    refine tzS 3 (some 44) (bzs 12 47) HT_ HW_ hHeld ?_
    refine join_ (σ:=List Value × Nat) 5 (bzs 12 127) (fun s_=>[(45,.agg s_.1.toArray),(47,.slice (some ⟨s_.2,0,none⟩) 1 1)]) (fun s_ w'=>Kd.FK k76 w' (fun k=>W.heap.size≤k∧k < w'.heap.size) x s_.1∧w'.heap[s_.2]?=some (.cells #[.string (⟨#[]⟩:ByteArray),.slice none 0 0,.slice none 0 0,.slice none 0 0,.slice none 0 0,.slice none 0 0,.slice none 0 0,.slice none 0 0,.slice none 0 0,.slice none 0 0,.slice none 0 0] 76 (0,0))∧W.heap.size≤s_.2∧Below W.heap.size W w'∧w'.heap[gb]?=some (.cells #[.int .i64 r.f0,.int .i64 r.f1,.int .u64 r.f2,.slice A r.f3.length c] 97 (0,0))∧w'.heap[q]?=some (.cells #[.string s.f0,.string s.f1,v2,v3,.slice Aj s.f4.length cj,v5,v6,v7,.string s.f8,v9,v10] 30 (0,0))) ?_ ?_
    rotate_left
    · intro hCont
      refine two_ (i:=4) (j:=6) (Ni:=some 45) (Nj:=some 47) (bzs 12 63) (bzs 12 111) rfl rfl rfl rfl (two_of HT_.out (by kernel_rfl)) (by decide) (by decide) (fun K hK=>?_) (fun K hK=>?_)
      · refine gzP Try.func59 #[.slice A r.f3.length c,.int .i64 0] ?_
        refine (HU0.out r.f3 A c _ HRb.out HRl.out (Kd.jj0 HC.out HB.out) HCc.out).mono ?_
        rintro e w3 hA
        rw [hu.out] at hA
        obtain ⟨csx,rfl,hFKx,hbz⟩:=hA
        refine .inr ⟨_,rfl,?_⟩
        have hszq:=HB.out.size
        have HX:=mk0 (Kd.FK_mono (Foot.bound hFKx) (ok':=fun k=>W.heap.size≤k∧k < w3.heap.size) (fun k hk=>⟨Nat.le_trans hszq hk.1,hk.2⟩))
        replace HB:=mk0 (jj1 HB.out HB.out.size hbz)
        replace BK:=mk0 (jj3 BK.out hbz)
        replace BQ:=mk0 (jj3 BQ.out hbz)
        clear hFKx hbz hszq
        refine hK.out _ _ ⟨bzC BQ 4,bzC BK 3⟩ (fun hHeld=>?_)
        clear hK K
        refine nzS (some 45) ?_
        refine one_ (i:=6) (N:=some 47) (bzs 12 127) rfl rfl (jk2 HT_.out (by kernel_rfl)) (by decide) (fun K hK=>?_)
        refine event_step (w1:=w3.alloc (.cells #[.string (⟨#[]⟩:ByteArray),.slice none 0 0,.slice none 0 0,.slice none 0 0,.slice none 0 0,.slice none 0 0,.slice none 0 0,.slice none 0 0,.slice none 0 0,.slice none 0 0,.slice none 0 0] 76)) (v:=.slice (some ⟨w3.heap.size,0,none⟩) 1 1) (by rfl) (by first|exact Sw.jq0 (cells:=#[.string (⟨#[]⟩:ByteArray),.slice none 0 0,.slice none 0 0,.slice none 0 0,.slice none 0 0,.slice none 0 0,.slice none 0 0,.slice none 0 0,.slice none 0 0,.slice none 0 0,.slice none 0 0]) rfl rfl Try.underlying24 iFileMessage (by decide) (by decide)|(go_simp;done)|(go_simp;rfl)) ?_
        have n9_:=mk0 (Kd.FK_mono (Foot.step HX.out (fun k hk hlt=>(jj7 (Below.refl w3.heap.size w3) (.cells #[.string (⟨#[]⟩:ByteArray),.slice none 0 0,.slice none 0 0,.slice none 0 0,.slice none 0 0,.slice none 0 0,.slice none 0 0,.slice none 0 0,.slice none 0 0,.slice none 0 0,.slice none 0 0] 76)).block k hlt)) (ok':=fun k=>W.heap.size≤k∧k < (w3.alloc (.cells #[.string (⟨#[]⟩:ByteArray),.slice none 0 0,.slice none 0 0,.slice none 0 0,.slice none 0 0,.slice none 0 0,.slice none 0 0,.slice none 0 0,.slice none 0 0,.slice none 0 0,.slice none 0 0] 76)).heap.size) (fun k hk=>⟨hk.1,Nat.lt_of_lt_of_le hk.2 (jj7 (Below.refl w3.heap.size w3) (.cells #[.string (⟨#[]⟩:ByteArray),.slice none 0 0,.slice none 0 0,.slice none 0 0,.slice none 0 0,.slice none 0 0,.slice none 0 0,.slice none 0 0,.slice none 0 0,.slice none 0 0,.slice none 0 0] 76)).size⟩))
        clear HX
        have HX:=n9_
        clear n9_
        have HGZ:=mk0 HB.out.size
        have hbz:=jj7 (Below.refl w3.heap.size w3) (.cells #[.string (⟨#[]⟩:ByteArray),.slice none 0 0,.slice none 0 0,.slice none 0 0,.slice none 0 0,.slice none 0 0,.slice none 0 0,.slice none 0 0,.slice none 0 0,.slice none 0 0,.slice none 0 0] 76)
        have BZ:=mk0 (blk_new w3 (.cells #[.string (⟨#[]⟩:ByteArray),.slice none 0 0,.slice none 0 0,.slice none 0 0,.slice none 0 0,.slice none 0 0,.slice none 0 0,.slice none 0 0,.slice none 0 0,.slice none 0 0,.slice none 0 0] 76))
        replace HB:=mk0 (jj1 HB.out HB.out.size hbz)
        replace BK:=mk0 (jj3 BK.out hbz)
        replace BQ:=mk0 (jj3 BQ.out hbz)
        obtain ⟨gz,hgz⟩:∃ z_,z_=w3.heap.size:=⟨_,rfl⟩
        rw [← hgz] at BZ ⊢
        have HGz:=mk0 (show W.heap.size≤gz from hgz ▸ HGZ.out)
        clear hgz HGZ hbz hHeld
        generalize w3.alloc (.cells #[.string (⟨#[]⟩:ByteArray),.slice none 0 0,.slice none 0 0,.slice none 0 0,.slice none 0 0,.slice none 0 0,.slice none 0 0,.slice none 0 0,.slice none 0 0,.slice none 0 0,.slice none 0 0] 76)=w3 at HX HB BK BQ BZ ⊢
        refine hK.out _ _ ⟨bzC BQ 4,bzC BK 3⟩ (fun hHeld=>?_)
        clear hK K
        refine nzS (some 47) ?_
        exact norm_ (by simp only [putAll,Act.put,List.setIfInBounds_toArray,List.set_cons_zero,List.set_cons_succ]) (hCont (csx,gz) _ ⟨HX.out,BZ.out,HGz.out,HB.out,BK.out,BQ.out⟩)
      · refine event_step (w1:=wq.alloc (.cells #[.string (⟨#[]⟩:ByteArray),.slice none 0 0,.slice none 0 0,.slice none 0 0,.slice none 0 0,.slice none 0 0,.slice none 0 0,.slice none 0 0,.slice none 0 0,.slice none 0 0,.slice none 0 0] 76)) (v:=.slice (some ⟨wq.heap.size,0,none⟩) 1 1) (by rfl) (by first|exact Sw.jq0 (cells:=#[.string (⟨#[]⟩:ByteArray),.slice none 0 0,.slice none 0 0,.slice none 0 0,.slice none 0 0,.slice none 0 0,.slice none 0 0,.slice none 0 0,.slice none 0 0,.slice none 0 0,.slice none 0 0]) rfl rfl Try.underlying24 iFileMessage (by decide) (by decide)|(go_simp;done)|(go_simp;rfl)) ?_
        have HGZ:=mk0 HB.out.size
        have hbz:=jj7 (Below.refl wq.heap.size wq) (.cells #[.string (⟨#[]⟩:ByteArray),.slice none 0 0,.slice none 0 0,.slice none 0 0,.slice none 0 0,.slice none 0 0,.slice none 0 0,.slice none 0 0,.slice none 0 0,.slice none 0 0,.slice none 0 0] 76)
        have BZ:=mk0 (blk_new wq (.cells #[.string (⟨#[]⟩:ByteArray),.slice none 0 0,.slice none 0 0,.slice none 0 0,.slice none 0 0,.slice none 0 0,.slice none 0 0,.slice none 0 0,.slice none 0 0,.slice none 0 0,.slice none 0 0] 76))
        replace HB:=mk0 (jj1 HB.out HB.out.size hbz)
        replace BK:=mk0 (jj3 BK.out hbz)
        replace BQ:=mk0 (jj3 BQ.out hbz)
        obtain ⟨gz,hgz⟩:∃ z_,z_=wq.heap.size:=⟨_,rfl⟩
        rw [← hgz] at BZ ⊢
        have HGz:=mk0 (show W.heap.size≤gz from hgz ▸ HGZ.out)
        clear hgz HGZ hbz hHeld
        generalize wq.alloc (.cells #[.string (⟨#[]⟩:ByteArray),.slice none 0 0,.slice none 0 0,.slice none 0 0,.slice none 0 0,.slice none 0 0,.slice none 0 0,.slice none 0 0,.slice none 0 0,.slice none 0 0,.slice none 0 0] 76)=wq at HB BK BQ BZ ⊢
        refine hK.out _ _ ⟨bzC BQ 4,bzC BK 3⟩ (fun hHeld=>?_)
        clear hK K
        refine nzS (some 47) ?_
        refine one_ (i:=4) (N:=some 45) (bzs 12 127) rfl rfl (jk2 HT_.out (by kernel_rfl)) (by decide) (fun K hK=>?_)
        refine gzP Try.func59 #[.slice A r.f3.length c,.int .i64 0] ?_
        refine (HU0.out r.f3 A c _ HRb.out HRl.out (Kd.jj0 HC.out HB.out) HCc.out).mono ?_
        rintro e w3 hA
        rw [hu.out] at hA
        obtain ⟨csx,rfl,hFKx,hbz⟩:=hA
        refine .inr ⟨_,rfl,?_⟩
        have hszq:=HB.out.size
        have HX:=mk0 (Kd.FK_mono (Foot.bound hFKx) (ok':=fun k=>W.heap.size≤k∧k < w3.heap.size) (fun k hk=>⟨Nat.le_trans hszq hk.1,hk.2⟩))
        have BZ3:=mk0 (jj3 BZ.out hbz)
        replace HB:=mk0 (jj1 HB.out HB.out.size hbz)
        replace BK:=mk0 (jj3 BK.out hbz)
        replace BQ:=mk0 (jj3 BQ.out hbz)
        clear hFKx hbz hszq
        refine hK.out _ _ ⟨bzC BQ 4,bzC BK 3⟩ (fun hHeld=>?_)
        clear hK K
        refine nzS (some 45) ?_
        exact norm_ (by simp only [putAll,Act.put,List.setIfInBounds_toArray,List.set_cons_zero,List.set_cons_succ]) (hCont (csx,gz) _ ⟨HX.out,BZ3.out,HGz.out,HB.out,BK.out,BQ.out⟩)
    clear HB BK BQ hHeld
    rintro ⟨csx,gz⟩ w3 ⟨hX_,hZ_,hGz_,hB_,hK_,hQ_⟩
    have HX:=mk0 hX_
    have BZ:=mk0 hZ_
    have HGz:=mk0 hGz_
    have HB:=mk0 hB_
    have BK:=mk0 hK_
    have BQ:=mk0 hQ_
    clear hX_ hZ_ hGz_ hB_ hK_ hQ_
    refine norm_ (a':=?_) ?_ ?_
    rotate_left
    · simp only [putAll,Act.put,List.setIfInBounds_toArray,List.set_cons_zero,List.set_cons_succ]
      rfl
    have HLj:=mk0 (jk1 G4.out (fun k hk=>jk hk) (fun k hk _=>HB.out.block k hk))
    refine one_ (i:=7) (N:=some 48) (bzs 12 255) rfl rfl (jk2 HT_.out (by kernel_rfl)) (by decide) (fun K hK=>?_)
    refine Kd.N_append_rows_step k76 (w0:=W0) W0.heap.size (by rfl) (.tmp 42) (.tmp 47) 24 76 _ _ rfl Try.underlying24 iFileMessage (by rfl) (by decide) (by decide) (.slice Aj s.f4.length cj) s.f4 [z76] (some ⟨gz,0,none⟩) 1 1 (fun k=>lab (mix f W.heap.size) w3 5 k=0∨lab (mix f W.heap.size) w3 5 k=5) (fun k=>W.heap.size≤k∧k < w3.heap.size) rfl rfl (L_before HLj.out) ?hz ?ha (fun k hk=>L_fresh k hk) (jj1 HB0.out HB0.out.size HB.out) (jj1 HB0.out HB0.out.size HB.out).size ?hl ?_
    case hz=>exact F_single BZ.out zKFile ⟨HGz.out,jk4 BZ.out⟩
    case ha=>exact L_apart HLj.out (by decide) (fun k hk _=>mix_ge hk)
    case hl=>have h_:=HCN.out;unfold cntFile at h_;omega
    intro vn w4 hn hb4 hg hat
    obtain ⟨ln,hln⟩:∃ z_,s.f4++[z76]=z_:=⟨_,rfl⟩
    rw [hln] at hn
    have hlen_:ln.length=s.f4.length+1:=by rw [← hln];simp
    have hset_:ln.set s.f4.length x=s.f4++[x]:=by rw [← hln];simp
    have HLn:=L_after HLj.out hn hat
    obtain ⟨gn,cn,evn,hgb_,hgl_,hgt_⟩:=Kd.N_form hn (by omega)
    subst evn
    have hgn:lab (mix f W.heap.size) w3 5 gn=5:=HLn.2 gn (by simp [Value.ownBlock])
    have HB4:=mk0 hb4
    have hoth:=fun k hk hne=>grown_other HLj.out hg k hk hne
    have HX4:=mk0 (Foot.step HX.out (fun k hk hlt=>hoth k hlt (by rw [mix_ge hk.1];decide)))
    have BQ4:=mk0 ((hoth q (jk4 BQ.out) (by rw [jk HQL.out,HQ.out];decide)).trans BQ.out)
    have BK4:=mk0 ((hoth gb (jk4 BK.out) (by rw [mix_ge HGB.out];decide)).trans BK.out)
    have HOT:=mk0 (fun k (hk:k < W.heap.size) (hne:f k≠5)=>(hoth k (Nat.lt_of_lt_of_le hk HB.out.size) (by rw [jk hk];exact hne)).trans (HB.out.block k hk))
    have HS4:=mk0 (Nat.le_trans HB.out.size hg.size)
    have HGN:=mk0 hgn
    have HN4:=mk0 hn
    have HSET:=mk0 hset_
    have HLEN:=mk0 hlen_
    have p0:(0≤(s.f4.length:Int))=True:=eq_true (Int.natCast_nonneg _)
    have q0:((s.f4.length:Int) < (ln.length:Int))=True:=eq_true (by omega)
    have hHX:=HX.out.now
    have HLc:=mk0 (k76.K_len hHX)
    clear hoth hn hb4 hg hat hln hset_ hlen_ HLn hgb_ hgl_ hgt_ hgn hHX
    refine hK.out _ _ ⟨bzC BQ4 4,bzC BK4 3⟩ (fun hHeld=>?_)
    clear hK K
    refine nzS (some 48) ?_
    refine pzS 8 (some 49) (bzs 12 511) HT_ ?_
    refine pzS 10 (some 50) (bzs 12 1535) HT_ ?_
    clear hHeld
    have hne_:∀ k,lab (mix f W.heap.size) w3 5 k≠5→some k≠some gn:=fun k h_ e=>h_ (by injection e with e;rw [e];exact HGN.out)
    have hqf_:lab (mix f W.heap.size) w3 5 q=999:=(lab_lt (jk4 BQ.out)).trans ((jk HQL.out).trans HQ.out)
    have HNE:=mk0 hne_
    have HQF:=mk0 hqf_
    clear hne_ hqf_
    refine join_ (σ:=Unit) 0 (bzs 12 4095) (fun _=>[]) (fun _ w'=>w'.heap[q]?=some (.cells #[.string s.f0,.string s.f1,v2,v3,(.slice (some ⟨gn,0,none⟩) ln.length cn),v5,v6,v7,.string s.f8,v9,v10] 30 (0,0))∧Kd.N k76 76 w' W0.heap.size (fun k=>lab (mix f W.heap.size) w3 5 k=0∨lab (mix f W.heap.size) w3 5 k=5) (.slice (some ⟨gn,0,none⟩) ln.length cn) (ln.set s.f4.length x)∧Below W0.heap.size W0 w'∧W.heap.size≤w'.heap.size∧∀ k,k < W.heap.size→f k≠999→f k≠5→w'.heap[k]?=W.heap[k]?) ?_ ?_
    rotate_left
    · intro hCont
      refine twoLL_ (i:=9) (j:=11) (Ni:=none) (Nj:=none) (bzs 12 2047) (bzs 12 3583) rfl rfl rfl rfl (two_of HT_.out (by kernel_rfl)) (by decide) (by decide) (fun K hK=>?_) (fun K hK=>?_)
      · refine N_put_step k76 (w0:=W0) W0.heap.size (by rfl) rfl 76 (.tmp 49) (.tmp 45) rfl 76 s.f4.length ln x (.agg csx.toArray) csx (fun k=>lab (mix f W.heap.size) w3 5 k=0∨lab (mix f W.heap.size) w3 5 k=5) (fun k=>W.heap.size≤k∧k < w3.heap.size) ?had rfl rfl ?hcs ?hinf HLc.out HN4.out ?hlt HX4.out ?hap HB4.out ?_
        case had=>first|rfl|simp [Act.eval,Addr.add]
        case hcs=>exact List.toList_toArray
        case hinf=>rw [HLc.out];kernel_rfl
        case hlt=>rw [HLEN.out];exact Nat.lt_succ_self _
        case hap=>exact fun k hk=>⟨.inl ((lab_lt hk.2).trans (mix_ge hk.1)),fun e=>by have h_:=HGN.out;rw [← e,lab_lt hk.2,mix_ge hk.1] at h_;exact absurd h_ (by decide)⟩
        intro w5 hn5 hb5 hg5
        have BQ5:=mk0 ((hg5.block q (jk4 BQ4.out) (HNE.out q (by rw [HQF.out];decide))).trans BQ4.out)
        have HOT5:=mk0 (fun k (hk:k < W.heap.size) (hne:f k≠5)=>(hg5.block k (Nat.lt_of_lt_of_le hk HS4.out) (HNE.out k (by rw [lab_lt (Nat.lt_of_lt_of_le hk HB.out.size),jk hk];exact hne))).trans (HOT.out k hk hne))
        have HS5:=mk0 (Nat.le_trans HS4.out hg5.size)
        have HN5:=mk0 hn5
        have HB5:=mk0 hb5
        clear hn5 hb5 hg5
        refine hK.out _ _ ?_
        clear hK K
        refine last_ (i:=11) (N:=none) (bzs 12 4095) rfl rfl (jk2 HT_.out (by kernel_rfl)) (by decide) (fun K hK=>?_)
        have x4_:_=some (.slice Aj s.f4.length cj:Value):=bzC BQ5 4
        have y4_:=jj2 BQ5.out 4
        refine cell_step (by rfl) rfl q 4 30 _ _ (.slice (some ⟨gn,0,none⟩) ln.length cn) ?hr BQ5.out rfl ?_
        case hr=>first|(go_simp;done)|(go_simp;rfl)
        intro w9 h1_ h2_ h3_ h4_
        refine hK.out _ _ ?_
        clear hK K
        exact hCont () _ ⟨h1_,Kd.N_step HN5.out (fun k hk hlt=>h3_ k (fun e=>by rw [e,HQF.out] at hk;omega)),h2_ _ _ HQ0.out HB5.out,Nat.le_trans HS5.out h4_,fun k hk h9 hj=>(h3_ k (fun e=>h9 (e ▸ HQ.out))).trans (HOT5.out k hk hj)⟩
      · have x4_:_=some (.slice Aj s.f4.length cj:Value):=bzC BQ4 4
        have y4_:=jj2 BQ4.out 4
        refine cell_step (by rfl) rfl q 4 30 _ _ (.slice (some ⟨gn,0,none⟩) ln.length cn) ?hr BQ4.out rfl ?_
        case hr=>first|(go_simp;done)|(go_simp;rfl)
        intro w5 h1_ h2_ h3_ h4_
        refine hK.out _ _ ?_
        clear hK K
        refine last_ (i:=9) (N:=none) (bzs 12 4095) rfl rfl (jk2 HT_.out (by kernel_rfl)) (by decide) (fun K hK=>?_)
        have HN5:=mk0 (Kd.N_step HN4.out (fun k hk hlt=>h3_ k (fun e=>by rw [e,HQF.out] at hk;omega)))
        have HX5:=mk0 (Foot.step HX4.out (fun k hk hlt=>h3_ k (fun e=>by have h_:=HQF.out;rw [← e,lab_lt hk.2,mix_ge hk.1] at h_;exact absurd h_ (by decide))))
        refine N_put_step k76 (w0:=W0) W0.heap.size (by rfl) rfl 76 (.tmp 49) (.tmp 45) rfl 76 s.f4.length ln x (.agg csx.toArray) csx (fun k=>lab (mix f W.heap.size) w3 5 k=0∨lab (mix f W.heap.size) w3 5 k=5) (fun k=>W.heap.size≤k∧k < w3.heap.size) ?had rfl rfl ?hcs ?hinf HLc.out HN5.out ?hlt HX5.out ?hap (h2_ _ _ HQ0.out HB4.out) ?_
        case had=>first|rfl|simp [Act.eval,Addr.add]
        case hcs=>exact List.toList_toArray
        case hinf=>rw [HLc.out];kernel_rfl
        case hlt=>rw [HLEN.out];exact Nat.lt_succ_self _
        case hap=>exact fun k hk=>⟨.inl ((lab_lt hk.2).trans (mix_ge hk.1)),fun e=>by have h_:=HGN.out;rw [← e,lab_lt hk.2,mix_ge hk.1] at h_;exact absurd h_ (by decide)⟩
        intro w9 hn5 hb5 hg5
        refine hK.out _ _ ?_
        clear hK K
        exact hCont () _ ⟨(hg5.block q (jk4 h1_) (HNE.out q (by rw [HQF.out];decide))).trans h1_,hn5,hb5,Nat.le_trans HS4.out (Nat.le_trans h4_ hg5.size),fun k hk h9 hj=>(hg5.block k (Nat.lt_of_lt_of_le hk (Nat.le_trans HS4.out h4_)) (HNE.out k (by rw [lab_lt (Nat.lt_of_lt_of_le hk HB.out.size),jk hk];exact hj))).trans ((h3_ k (fun e=>h9 (e ▸ HQ.out))).trans (HOT.out k hk hj))⟩
    rintro ⟨⟩ w9 ⟨hQ9_,hN9_,hB9_,hS9_,hO9_⟩
    have BQ9:=mk0 hQ9_
    have HN9:=mk0 hN9_
    have HB9:=mk0 hB9_
    have HS9:=mk0 hS9_
    have HO9:=mk0 hO9_
    clear hQ9_ hN9_ hB9_ hS9_ hO9_
    refine norm_ (a':=?_) ?_ ?_
    rotate_left
    · unfold putAll
      rfl
    refine done_ (done_of HT_.out (by kernel_rfl)) ?_
    go_wp2
    go_ret
    rw [hst.out]
    have hs_:=HO9.out
    have hf_:∀ k,k < W.heap.size→lab (mix f W.heap.size) w3 5 k=f k:=fun k hk=>(lab_lt (Nat.lt_of_lt_of_le hk HB.out.size)).trans (jk hk)
    have hL9:L_ k76 76 W0.heap.size 5 (lab (mix f W.heap.size) w3 5) w9 (.slice (some ⟨gn,0,none⟩) ln.length cn) (s.f4++[x]):=⟨by rw [← HSET.out];exact HN9.out,fun k hk=>(by rw [← (show gn=k from by simpa [Value.ownBlock] using hk)];exact HGN.out)⟩
    exact jq (CFile_slots _) HQ.out HQL.out HB9.out HS9.out (lab (mix f W.heap.size) w3 5) hf_ (fun k hk h0=>hs_ k hk (fun e=>h0 (.inr e)) (fun e=>h0 (.inl (by omega)))) BQ9.out (⟨_,_,_,_,_,_,_,_,rfl,jk1 G2.out hf_ (fun k hk h0=>hs_ k hk (by omega) (by omega)),jk1 G3.out hf_ (fun k hk h0=>hs_ k hk (by omega) (by omega)),hL9,jk1 G5.out hf_ (fun k hk h0=>hs_ k hk (by omega) (by omega)),jk1 G6.out hf_ (fun k hk h0=>hs_ k hk (by omega) (by omega)),jk1 G7.out hf_ (fun k hk h0=>hs_ k hk (by omega) (by omega)),jk8 G9.out hf_ (fun k hk h0=>hs_ k hk (by omega) (by omega)),jk8 G10.out hf_ (fun k hk h0=>hs_ k hk (by omega) (by omega))⟩)
 have fL4:(Ln==4)=false:=beq_eq_false_iff_ne.2 eL4
 by_cases eL5:Ln=5
 · subst eL5
   have HRb:=mk0 HR.out.b
   have HRl:=mk0 hlen
   have HCN:=mk0 hcnt
   have HCc:=mk0 hc
   have HCH:=mk0 (uEnum_c r.f3 A c)
   go_enter Try.func57,Try.ntmps57
   go_wp2_with (first|((with_reducible refine jjq (N:=2) rfl ?_);(try (refine jj6 (by rfl) ?_;dsimp only));refine bxR 2 c BQ0 HC ?_;intro gb w1 HB BK BQ hcv HGB s0_ s1_ s2_ s3_)|(go_at_call 58;(with_reducible refine ofR (ozL hL) HC HB BK BQ ?_);clear HB BK BQ hcv s0_ s1_ s2_ s3_;intro w2 HB BK BQ hcv s0_ s1_ s2_ s3_)|(go_at_call 63;(with_reducible refine ofR (ozV hV) HC HB BK BQ ?_);clear HB BK BQ hcv s0_ s1_ s2_ s3_;intro w2 HB BK BQ hcv s0_ s1_ s2_ s3_))
   clear hcv s0_ s1_ s2_ s3_
   replace HB:=mk0 (jj5 HB.out)
   replace BK:=mk0 (jjj BK.out)
   replace BQ:=mk0 (jjj BQ.out)
   refine start_ (n:=9) (S:=(fun w'=>w'.cell? ⟨q,5,none⟩=some v5∧w'.cell? ⟨gb,3,none⟩=some (.slice A r.f3.length c))) (ds:=[8]) (bzs 9 0) (by kernel_rfl) rfl rfl ⟨bzC BQ 5,bzC BK 3⟩ (fun hHeld=>?_)
   refine with_tabW tFile14.tab14 tFile14.bits14 (fun HT_ HW_=>?_)
   generalize World.drew _=wq at HB BK BQ hHeld ⊢
   refine pzS 0 (some 53) (bzs 9 1) HT_ ?_
   refine pzS 2 (some 55) (bzs 9 5) HT_ ?_
   refine tzS 1 (some 54) (bzs 9 7) HT_ HW_ hHeld ?_
   refine tzS 3 (some 56) (bzs 9 15) HT_ HW_ hHeld ?_
   refine one_ (i:=4) (N:=some 57) (bzs 9 31) rfl rfl (jk2 HT_.out (by kernel_rfl)) (by decide) (fun K hK=>?_)
   refine gzP Try.func60 #[.slice A r.f3.length c] ?_
   refine (HCH.out _ HRb.out HRl.out (Kd.jj0 HC.out HB.out) HCc.out).mono ?_
   rintro e w3 hA
   cases hu_:uEnum r.f3 with
   | error n=>
    have hst:Aside0 (stFile u s r = .error n):=⟨by unfold stFile;simp only [hL.out,hV.out,eL1,eL2,eL3,eL4,hu_,if_true,if_false,reduceIte,Int.reduceEq]⟩
    rw [hu_] at hA
    clear hu_
    obtain ⟨rfl,hbz⟩:=hA
    refine .inl ⟨_,rfl,?_⟩
    have hbw:=jj1 HB0.out HB0.out.size (jj1 HB.out HB.out.size hbz)
    refine show ([]:List Deferred)=[]∧Took (St (CFile W0.heap.size) 30 q) W0 f W (thrown n) w3 (stFile u s r) from ⟨rfl,?_⟩
    rw [hst.out]
    exact ⟨rfl,hbw⟩
   | ok x=>
    have hst:Aside0 (stFile u s r = .ok (⟨s.f0,s.f1,s.f2,s.f3,s.f4,(s.f5++[x]),s.f6,s.f7,s.f8,s.f9,s.f10⟩,true)):=⟨by unfold stFile;simp only [hL.out,hV.out,eL1,eL2,eL3,eL4,hu_,if_true,if_false,reduceIte,Int.reduceEq]⟩
    rw [hu_] at hA
    clear hu_
    obtain ⟨csx,rfl,hFKx,hbz⟩:=hA
    refine .inr ⟨_,rfl,?_⟩
    have HX:=mk0 (Foot.bound hFKx)
    have HSq:=mk0 HB.out.size
    have HLc:=mk0 (k82.K_len (Kd.FK_now hFKx))
    have n0_:=mk0 (jj1 HB.out HB.out.size hbz)
    have n1_:=mk0 (jj3 BK.out hbz)
    have n2_:=mk0 (jj3 BQ.out hbz)
    clear HB BK BQ hFKx hbz
    have HB:=n0_
    have BK:=n1_
    have BQ:=n2_
    clear n0_ n1_ n2_
    refine hK.out _ _ ⟨bzC BQ 5,bzC BK 3⟩ (fun hHeld=>?_)
    clear hK K
    refine nzS (some 57) ?_
    refine one_ (i:=5) (N:=some 58) (bzs 9 63) rfl rfl (jk2 HT_.out (by kernel_rfl)) (by decide) (fun K hK=>?_)
    refine event_step (by rfl) (Sw.jq0 (cells:=csx.toArray) rfl rfl Try.underlying25 (by rw [List.size_toArray,HLc.out];exact iFileEnum) (by rw [List.size_toArray,HLc.out];decide) (by rw [List.size_toArray,HLc.out];decide)) ?_
    refine hK.out _ _ ⟨(blk_cell (jj9 BQ.out _) 5).trans rfl,(blk_cell (jj9 BK.out _) 3).trans rfl⟩ (fun hHeld=>?_)
    clear hK K
    refine nzS (some 58) ?_
    have HLj:=mk0 (jk1 G5.out (fun k hk=>jk hk) (fun k hk _=>HB.out.block k hk))
    have HNj:=mk0 (jk4 BQ.out)
    refine one_ (i:=6) (N:=some 59) (bzs 9 127) rfl rfl (jk2 HT_.out (by kernel_rfl)) (by decide) (fun K hK=>?_)
    refine Kd.N_append_step k82 (w0:=W0) W0.heap.size (by rfl) (.tmp 54) (.tmp 58) 25 82 _ _ rfl Try.underlying25 iFileEnum (by rfl) (by decide) (by decide) v5 s.f5 x csx (fun k=>lab (mix f W.heap.size) w3 6 k=0∨lab (mix f W.heap.size) w3 6 k=6) (fun k=>W.heap.size≤k∧k < w3.heap.size) rfl rfl ?hp ?ha (fun k hk=>L_fresh k hk) (L_before HLj.out) (jj1 HB0.out HB0.out.size HB.out) (jj1 HB0.out HB0.out.size HB.out).size ?hl ?_
    case hp=>exact Kd.FK_mono HX.out (fun k hk=>⟨Nat.le_trans HSq.out hk.1,hk.2⟩)
    case ha=>exact L_apart HLj.out (by decide) (fun k hk _=>mix_ge hk)
    case hl=>have h_:=HCN.out;unfold cntFile at h_;omega
    intro vn w4 hn hb4 hg hat
    obtain ⟨ln,hln⟩:∃ z_,s.f5++[x]=z_:=⟨_,rfl⟩
    rw [hln] at hn
    obtain ⟨An,cn,evn⟩:=Kd.N_slice hn
    subst evn
    have HLE:=mk0 hln
    clear hln
    have HLn:=mk0 (L_after HLj.out hn hat)
    have HB4:=mk0 hb4
    have hoth:=fun k hk hne=>grown_other HLj.out hg k hk hne
    have BQ4:=mk0 ((hoth q (jk4 BQ.out) (by rw [jk HQL.out,HQ.out];decide)).trans BQ.out)
    have HOT:=mk0 (fun k (hk:k < W.heap.size) (hne:f k≠6)=>(hoth k (Nat.lt_of_lt_of_le hk HB.out.size) (by rw [jk hk];exact hne)).trans (HB.out.block k hk))
    have HS4:=mk0 (Nat.le_trans HB.out.size hg.size)
    have BK4:=mk0 ((hoth gb (jk4 BK.out) (by rw [mix_ge HGB.out];decide)).trans BK.out)
    clear hoth hn hb4 hg hat
    refine hK.out _ _ ⟨bzC BQ4 5,bzC BK4 3⟩ (fun hHeld=>?_)
    clear hK K
    refine nzS (some 59) ?_
    refine pzS 7 (some 60) (bzs 9 255) HT_ ?_
    refine last_ (i:=8) (N:=none) (bzs 9 511) rfl rfl (jk2 HT_.out (by kernel_rfl)) (by decide) (fun K hK=>?_)
    have x5_:_=some (v5:Value):=bzC BQ4 5
    have y5_:=jj2 BQ4.out 5
    refine cell_step (by rfl) rfl q 5 30 _ _ (.slice An ln.length cn) ?hr BQ4.out rfl ?_
    case hr=>first|(go_simp;done)|(go_simp;rfl)
    intro w9 h1_ h2_ h3_ h4_
    have BQ9:=mk0 h1_
    have HB9:=mk0 (h2_ _ _ HQ0.out HB4.out)
    have HK9:=mk0 h3_
    have HS9:=mk0 h4_
    clear h1_ h2_ h3_ h4_ x5_ y5_
    refine hK.out _ _ ?_
    clear hK K
    refine done_ (done_of HT_.out (by kernel_rfl)) ?_
    go_wp2
    go_ret
    rw [hst.out]
    have hs_:∀ k,k < W.heap.size→f k≠999→f k≠6→w9.heap[k]?=W.heap[k]?:=fun k hk h9 hj=>(HK9.out k (fun e=>h9 (e ▸ HQ.out))).trans (HOT.out k hk hj)
    have hf_:∀ k,k < W.heap.size→lab (mix f W.heap.size) w3 6 k=f k:=fun k hk=>(lab_lt (Nat.lt_of_lt_of_le hk HB.out.size)).trans (jk hk)
    have hq_:lab (mix f W.heap.size) w3 6 q=999:=(hf_ q HQL.out).trans HQ.out
    exact jq (CFile_slots _) HQ.out HQL.out HB9.out (Nat.le_trans HS4.out HS9.out) (lab (mix f W.heap.size) w3 6) hf_ (fun k hk h0=>hs_ k hk (fun e=>h0 (.inr e)) (fun e=>h0 (.inl (by omega)))) BQ9.out (⟨_,_,_,_,_,_,_,_,rfl,jk1 G2.out hf_ (fun k hk h0=>hs_ k hk (by omega) (by omega)),jk1 G3.out hf_ (fun k hk h0=>hs_ k hk (by omega) (by omega)),jk1 G4.out hf_ (fun k hk h0=>hs_ k hk (by omega) (by omega)),jk1 (by rw [HLE.out];exact HLn.out) (fun _ _=>rfl) (fun k hk h0=>HK9.out k (fun e=>by rw [e,hq_] at h0;omega)),jk1 G6.out hf_ (fun k hk h0=>hs_ k hk (by omega) (by omega)),jk1 G7.out hf_ (fun k hk h0=>hs_ k hk (by omega) (by omega)),jk8 G9.out hf_ (fun k hk h0=>hs_ k hk (by omega) (by omega)),jk8 G10.out hf_ (fun k hk h0=>hs_ k hk (by omega) (by omega))⟩)
 have fL5:(Ln==5)=false:=beq_eq_false_iff_ne.2 eL5
 by_cases eL6:Ln=6
 · subst eL6
   have HRb:=mk0 HR.out.b
   have HRl:=mk0 hlen
   have HCN:=mk0 hcnt
   have HCc:=mk0 hc
   have HCH:=mk0 (uService_c r.f3 A c)
   go_enter Try.func57,Try.ntmps57
   go_wp2_with (first|((with_reducible refine jjq (N:=2) rfl ?_);(try (refine jj6 (by rfl) ?_;dsimp only));refine bxR 2 c BQ0 HC ?_;intro gb w1 HB BK BQ hcv HGB s0_ s1_ s2_ s3_)|(go_at_call 58;(with_reducible refine ofR (ozL hL) HC HB BK BQ ?_);clear HB BK BQ hcv s0_ s1_ s2_ s3_;intro w2 HB BK BQ hcv s0_ s1_ s2_ s3_)|(go_at_call 63;(with_reducible refine ofR (ozV hV) HC HB BK BQ ?_);clear HB BK BQ hcv s0_ s1_ s2_ s3_;intro w2 HB BK BQ hcv s0_ s1_ s2_ s3_))
   clear hcv s0_ s1_ s2_ s3_
   replace HB:=mk0 (jj5 HB.out)
   replace BK:=mk0 (jjj BK.out)
   replace BQ:=mk0 (jjj BQ.out)
   refine start_ (n:=9) (S:=(fun w'=>w'.cell? ⟨q,6,none⟩=some v6∧w'.cell? ⟨gb,3,none⟩=some (.slice A r.f3.length c))) (ds:=[8]) (bzs 9 0) (by kernel_rfl) rfl rfl ⟨bzC BQ 6,bzC BK 3⟩ (fun hHeld=>?_)
   refine with_tabW tFile16.tab16 tFile16.bits16 (fun HT_ HW_=>?_)
   generalize World.drew _=wq at HB BK BQ hHeld ⊢
   refine pzS 0 (some 63) (bzs 9 1) HT_ ?_
   refine pzS 2 (some 65) (bzs 9 5) HT_ ?_
   refine tzS 1 (some 64) (bzs 9 7) HT_ HW_ hHeld ?_
   refine tzS 3 (some 66) (bzs 9 15) HT_ HW_ hHeld ?_
   refine one_ (i:=4) (N:=some 67) (bzs 9 31) rfl rfl (jk2 HT_.out (by kernel_rfl)) (by decide) (fun K hK=>?_)
   refine gzP Try.func61 #[.slice A r.f3.length c] ?_
   refine (HCH.out _ HRb.out HRl.out (Kd.jj0 HC.out HB.out) HCc.out).mono ?_
   rintro e w3 hA
   cases hu_:uService r.f3 with
   | error n=>
    have hst:Aside0 (stFile u s r = .error n):=⟨by unfold stFile;simp only [hL.out,hV.out,eL1,eL2,eL3,eL4,eL5,hu_,if_true,if_false,reduceIte,Int.reduceEq]⟩
    rw [hu_] at hA
    clear hu_
    obtain ⟨rfl,hbz⟩:=hA
    refine .inl ⟨_,rfl,?_⟩
    have hbw:=jj1 HB0.out HB0.out.size (jj1 HB.out HB.out.size hbz)
    refine show ([]:List Deferred)=[]∧Took (St (CFile W0.heap.size) 30 q) W0 f W (thrown n) w3 (stFile u s r) from ⟨rfl,?_⟩
    rw [hst.out]
    exact ⟨rfl,hbw⟩
   | ok x=>
    have hst:Aside0 (stFile u s r = .ok (⟨s.f0,s.f1,s.f2,s.f3,s.f4,s.f5,(s.f6++[x]),s.f7,s.f8,s.f9,s.f10⟩,true)):=⟨by unfold stFile;simp only [hL.out,hV.out,eL1,eL2,eL3,eL4,eL5,hu_,if_true,if_false,reduceIte,Int.reduceEq]⟩
    rw [hu_] at hA
    clear hu_
    obtain ⟨csx,rfl,hFKx,hbz⟩:=hA
    refine .inr ⟨_,rfl,?_⟩
    have HX:=mk0 (Foot.bound hFKx)
    have HSq:=mk0 HB.out.size
    have HLc:=mk0 (k51.K_len (Kd.FK_now hFKx))
    have n0_:=mk0 (jj1 HB.out HB.out.size hbz)
    have n1_:=mk0 (jj3 BK.out hbz)
    have n2_:=mk0 (jj3 BQ.out hbz)
    clear HB BK BQ hFKx hbz
    have HB:=n0_
    have BK:=n1_
    have BQ:=n2_
    clear n0_ n1_ n2_
    refine hK.out _ _ ⟨bzC BQ 6,bzC BK 3⟩ (fun hHeld=>?_)
    clear hK K
    refine nzS (some 67) ?_
    refine one_ (i:=5) (N:=some 68) (bzs 9 63) rfl rfl (jk2 HT_.out (by kernel_rfl)) (by decide) (fun K hK=>?_)
    refine event_step (by rfl) (Sw.jq0 (cells:=csx.toArray) rfl rfl Try.underlying26 (by rw [List.size_toArray,HLc.out];exact iFileService) (by rw [List.size_toArray,HLc.out];decide) (by rw [List.size_toArray,HLc.out];decide)) ?_
    refine hK.out _ _ ⟨(blk_cell (jj9 BQ.out _) 6).trans rfl,(blk_cell (jj9 BK.out _) 3).trans rfl⟩ (fun hHeld=>?_)
    clear hK K
    refine nzS (some 68) ?_
    have HLj:=mk0 (jk1 G6.out (fun k hk=>jk hk) (fun k hk _=>HB.out.block k hk))
    have HNj:=mk0 (jk4 BQ.out)
    refine one_ (i:=6) (N:=some 69) (bzs 9 127) rfl rfl (jk2 HT_.out (by kernel_rfl)) (by decide) (fun K hK=>?_)
    refine Kd.N_append_step k51 (w0:=W0) W0.heap.size (by rfl) (.tmp 64) (.tmp 68) 26 51 _ _ rfl Try.underlying26 iFileService (by rfl) (by decide) (by decide) v6 s.f6 x csx (fun k=>lab (mix f W.heap.size) w3 7 k=0∨lab (mix f W.heap.size) w3 7 k=7) (fun k=>W.heap.size≤k∧k < w3.heap.size) rfl rfl ?hp ?ha (fun k hk=>L_fresh k hk) (L_before HLj.out) (jj1 HB0.out HB0.out.size HB.out) (jj1 HB0.out HB0.out.size HB.out).size ?hl ?_
    case hp=>exact Kd.FK_mono HX.out (fun k hk=>⟨Nat.le_trans HSq.out hk.1,hk.2⟩)
    case ha=>exact L_apart HLj.out (by decide) (fun k hk _=>mix_ge hk)
    case hl=>have h_:=HCN.out;unfold cntFile at h_;omega
    intro vn w4 hn hb4 hg hat
    obtain ⟨ln,hln⟩:∃ z_,s.f6++[x]=z_:=⟨_,rfl⟩
    rw [hln] at hn
    obtain ⟨An,cn,evn⟩:=Kd.N_slice hn
    subst evn
    have HLE:=mk0 hln
    clear hln
    have HLn:=mk0 (L_after HLj.out hn hat)
    have HB4:=mk0 hb4
    have hoth:=fun k hk hne=>grown_other HLj.out hg k hk hne
    have BQ4:=mk0 ((hoth q (jk4 BQ.out) (by rw [jk HQL.out,HQ.out];decide)).trans BQ.out)
    have HOT:=mk0 (fun k (hk:k < W.heap.size) (hne:f k≠7)=>(hoth k (Nat.lt_of_lt_of_le hk HB.out.size) (by rw [jk hk];exact hne)).trans (HB.out.block k hk))
    have HS4:=mk0 (Nat.le_trans HB.out.size hg.size)
    have BK4:=mk0 ((hoth gb (jk4 BK.out) (by rw [mix_ge HGB.out];decide)).trans BK.out)
    clear hoth hn hb4 hg hat
    refine hK.out _ _ ⟨bzC BQ4 6,bzC BK4 3⟩ (fun hHeld=>?_)
    clear hK K
    refine nzS (some 69) ?_
    refine pzS 7 (some 70) (bzs 9 255) HT_ ?_
    refine last_ (i:=8) (N:=none) (bzs 9 511) rfl rfl (jk2 HT_.out (by kernel_rfl)) (by decide) (fun K hK=>?_)
    have x6_:_=some (v6:Value):=bzC BQ4 6
    have y6_:=jj2 BQ4.out 6
    refine cell_step (by rfl) rfl q 6 30 _ _ (.slice An ln.length cn) ?hr BQ4.out rfl ?_
    case hr=>first|(go_simp;done)|(go_simp;rfl)
    intro w9 h1_ h2_ h3_ h4_
    have BQ9:=mk0 h1_
    have HB9:=mk0 (h2_ _ _ HQ0.out HB4.out)
    have HK9:=mk0 h3_
    have HS9:=mk0 h4_
    clear h1_ h2_ h3_ h4_ x6_ y6_
    refine hK.out _ _ ?_
    clear hK K
    refine done_ (done_of HT_.out (by kernel_rfl)) ?_
    go_wp2
    go_ret
    rw [hst.out]
    have hs_:∀ k,k < W.heap.size→f k≠999→f k≠7→w9.heap[k]?=W.heap[k]?:=fun k hk h9 hj=>(HK9.out k (fun e=>h9 (e ▸ HQ.out))).trans (HOT.out k hk hj)
    have hf_:∀ k,k < W.heap.size→lab (mix f W.heap.size) w3 7 k=f k:=fun k hk=>(lab_lt (Nat.lt_of_lt_of_le hk HB.out.size)).trans (jk hk)
    have hq_:lab (mix f W.heap.size) w3 7 q=999:=(hf_ q HQL.out).trans HQ.out
    exact jq (CFile_slots _) HQ.out HQL.out HB9.out (Nat.le_trans HS4.out HS9.out) (lab (mix f W.heap.size) w3 7) hf_ (fun k hk h0=>hs_ k hk (fun e=>h0 (.inr e)) (fun e=>h0 (.inl (by omega)))) BQ9.out (⟨_,_,_,_,_,_,_,_,rfl,jk1 G2.out hf_ (fun k hk h0=>hs_ k hk (by omega) (by omega)),jk1 G3.out hf_ (fun k hk h0=>hs_ k hk (by omega) (by omega)),jk1 G4.out hf_ (fun k hk h0=>hs_ k hk (by omega) (by omega)),jk1 G5.out hf_ (fun k hk h0=>hs_ k hk (by omega) (by omega)),jk1 (by rw [HLE.out];exact HLn.out) (fun _ _=>rfl) (fun k hk h0=>HK9.out k (fun e=>by rw [e,hq_] at h0;omega)),jk1 G7.out hf_ (fun k hk h0=>hs_ k hk (by omega) (by omega)),jk8 G9.out hf_ (fun k hk h0=>hs_ k hk (by omega) (by omega)),jk8 G10.out hf_ (fun k hk h0=>hs_ k hk (by omega) (by omega))⟩)
 have fL6:(Ln==6)=false:=beq_eq_false_iff_ne.2 eL6
 by_cases eL7:Ln=7
 · subst eL7
   have HRb:=mk0 HR.out.b
   have HRl:=mk0 hlen
   have HCN:=mk0 hcnt
   have HCc:=mk0 hc
   have HCH:=mk0 (uField_c r.f3 A c)
   go_enter Try.func57,Try.ntmps57
   go_wp2_with (first|((with_reducible refine jjq (N:=2) rfl ?_);(try (refine jj6 (by rfl) ?_;dsimp only));refine bxR 2 c BQ0 HC ?_;intro gb w1 HB BK BQ hcv HGB s0_ s1_ s2_ s3_)|(go_at_call 58;(with_reducible refine ofR (ozL hL) HC HB BK BQ ?_);clear HB BK BQ hcv s0_ s1_ s2_ s3_;intro w2 HB BK BQ hcv s0_ s1_ s2_ s3_)|(go_at_call 63;(with_reducible refine ofR (ozV hV) HC HB BK BQ ?_);clear HB BK BQ hcv s0_ s1_ s2_ s3_;intro w2 HB BK BQ hcv s0_ s1_ s2_ s3_))
   clear hcv s0_ s1_ s2_ s3_
   replace HB:=mk0 (jj5 HB.out)
   replace BK:=mk0 (jjj BK.out)
   replace BQ:=mk0 (jjj BQ.out)
   refine start_ (n:=9) (S:=(fun w'=>w'.cell? ⟨q,7,none⟩=some v7∧w'.cell? ⟨gb,3,none⟩=some (.slice A r.f3.length c))) (ds:=[8]) (bzs 9 0) (by kernel_rfl) rfl rfl ⟨bzC BQ 7,bzC BK 3⟩ (fun hHeld=>?_)
   refine with_tabW tFile18.tab18 tFile18.bits18 (fun HT_ HW_=>?_)
   generalize World.drew _=wq at HB BK BQ hHeld ⊢
   refine pzS 0 (some 73) (bzs 9 1) HT_ ?_
   refine pzS 2 (some 75) (bzs 9 5) HT_ ?_
   refine tzS 1 (some 74) (bzs 9 7) HT_ HW_ hHeld ?_
   refine tzS 3 (some 76) (bzs 9 15) HT_ HW_ hHeld ?_
   refine one_ (i:=4) (N:=some 77) (bzs 9 31) rfl rfl (jk2 HT_.out (by kernel_rfl)) (by decide) (fun K hK=>?_)
   refine gzP Try.func62 #[.slice A r.f3.length c] ?_
   refine (HCH.out _ HRb.out HRl.out (Kd.jj0 HC.out HB.out) HCc.out).mono ?_
   rintro e w3 hA
   cases hu_:uField r.f3 with
   | error n=>
    have hst:Aside0 (stFile u s r = .error n):=⟨by unfold stFile;simp only [hL.out,hV.out,eL1,eL2,eL3,eL4,eL5,eL6,hu_,if_true,if_false,reduceIte,Int.reduceEq]⟩
    rw [hu_] at hA
    clear hu_
    obtain ⟨rfl,hbz⟩:=hA
    refine .inl ⟨_,rfl,?_⟩
    have hbw:=jj1 HB0.out HB0.out.size (jj1 HB.out HB.out.size hbz)
    refine show ([]:List Deferred)=[]∧Took (St (CFile W0.heap.size) 30 q) W0 f W (thrown n) w3 (stFile u s r) from ⟨rfl,?_⟩
    rw [hst.out]
    exact ⟨rfl,hbw⟩
   | ok x=>
    have hst:Aside0 (stFile u s r = .ok (⟨s.f0,s.f1,s.f2,s.f3,s.f4,s.f5,s.f6,(s.f7++[x]),s.f8,s.f9,s.f10⟩,true)):=⟨by unfold stFile;simp only [hL.out,hV.out,eL1,eL2,eL3,eL4,eL5,eL6,hu_,if_true,if_false,reduceIte,Int.reduceEq]⟩
    rw [hu_] at hA
    clear hu_
    obtain ⟨csx,rfl,hFKx,hbz⟩:=hA
    refine .inr ⟨_,rfl,?_⟩
    have HX:=mk0 (Foot.bound hFKx)
    have HSq:=mk0 HB.out.size
    have HLc:=mk0 (k88.K_len (Kd.FK_now hFKx))
    have n0_:=mk0 (jj1 HB.out HB.out.size hbz)
    have n1_:=mk0 (jj3 BK.out hbz)
    have n2_:=mk0 (jj3 BQ.out hbz)
    clear HB BK BQ hFKx hbz
    have HB:=n0_
    have BK:=n1_
    have BQ:=n2_
    clear n0_ n1_ n2_
    refine hK.out _ _ ⟨bzC BQ 7,bzC BK 3⟩ (fun hHeld=>?_)
    clear hK K
    refine nzS (some 77) ?_
    refine one_ (i:=5) (N:=some 78) (bzs 9 63) rfl rfl (jk2 HT_.out (by kernel_rfl)) (by decide) (fun K hK=>?_)
    refine event_step (by rfl) (Sw.jq0 (cells:=csx.toArray) rfl rfl Try.underlying27 (by rw [List.size_toArray,HLc.out];exact iFileField) (by rw [List.size_toArray,HLc.out];decide) (by rw [List.size_toArray,HLc.out];decide)) ?_
    refine hK.out _ _ ⟨(blk_cell (jj9 BQ.out _) 7).trans rfl,(blk_cell (jj9 BK.out _) 3).trans rfl⟩ (fun hHeld=>?_)
    clear hK K
    refine nzS (some 78) ?_
    have HLj:=mk0 (jk1 G7.out (fun k hk=>jk hk) (fun k hk _=>HB.out.block k hk))
    have HNj:=mk0 (jk4 BQ.out)
    refine one_ (i:=6) (N:=some 79) (bzs 9 127) rfl rfl (jk2 HT_.out (by kernel_rfl)) (by decide) (fun K hK=>?_)
    refine Kd.N_append_step k88 (w0:=W0) W0.heap.size (by rfl) (.tmp 74) (.tmp 78) 27 88 _ _ rfl Try.underlying27 iFileField (by rfl) (by decide) (by decide) v7 s.f7 x csx (fun k=>lab (mix f W.heap.size) w3 8 k=0∨lab (mix f W.heap.size) w3 8 k=8) (fun k=>W.heap.size≤k∧k < w3.heap.size) rfl rfl ?hp ?ha (fun k hk=>L_fresh k hk) (L_before HLj.out) (jj1 HB0.out HB0.out.size HB.out) (jj1 HB0.out HB0.out.size HB.out).size ?hl ?_
    case hp=>exact Kd.FK_mono HX.out (fun k hk=>⟨Nat.le_trans HSq.out hk.1,hk.2⟩)
    case ha=>exact L_apart HLj.out (by decide) (fun k hk _=>mix_ge hk)
    case hl=>have h_:=HCN.out;unfold cntFile at h_;omega
    intro vn w4 hn hb4 hg hat
    obtain ⟨ln,hln⟩:∃ z_,s.f7++[x]=z_:=⟨_,rfl⟩
    rw [hln] at hn
    obtain ⟨An,cn,evn⟩:=Kd.N_slice hn
    subst evn
    have HLE:=mk0 hln
    clear hln
    have HLn:=mk0 (L_after HLj.out hn hat)
    have HB4:=mk0 hb4
    have hoth:=fun k hk hne=>grown_other HLj.out hg k hk hne
    have BQ4:=mk0 ((hoth q (jk4 BQ.out) (by rw [jk HQL.out,HQ.out];decide)).trans BQ.out)
    have HOT:=mk0 (fun k (hk:k < W.heap.size) (hne:f k≠8)=>(hoth k (Nat.lt_of_lt_of_le hk HB.out.size) (by rw [jk hk];exact hne)).trans (HB.out.block k hk))
    have HS4:=mk0 (Nat.le_trans HB.out.size hg.size)
    have BK4:=mk0 ((hoth gb (jk4 BK.out) (by rw [mix_ge HGB.out];decide)).trans BK.out)
    clear hoth hn hb4 hg hat
    refine hK.out _ _ ⟨bzC BQ4 7,bzC BK4 3⟩ (fun hHeld=>?_)
    clear hK K
    refine nzS (some 79) ?_
    refine pzS 7 (some 80) (bzs 9 255) HT_ ?_
    refine last_ (i:=8) (N:=none) (bzs 9 511) rfl rfl (jk2 HT_.out (by kernel_rfl)) (by decide) (fun K hK=>?_)
    have x7_:_=some (v7:Value):=bzC BQ4 7
    have y7_:=jj2 BQ4.out 7
    refine cell_step (by rfl) rfl q 7 30 _ _ (.slice An ln.length cn) ?hr BQ4.out rfl ?_
    case hr=>first|(go_simp;done)|(go_simp;rfl)
    intro w9 h1_ h2_ h3_ h4_
    have BQ9:=mk0 h1_
    have HB9:=mk0 (h2_ _ _ HQ0.out HB4.out)
    have HK9:=mk0 h3_
    have HS9:=mk0 h4_
    clear h1_ h2_ h3_ h4_ x7_ y7_
    refine hK.out _ _ ?_
    clear hK K
    refine done_ (done_of HT_.out (by kernel_rfl)) ?_
    go_wp2
    go_ret
    rw [hst.out]
    have hs_:∀ k,k < W.heap.size→f k≠999→f k≠8→w9.heap[k]?=W.heap[k]?:=fun k hk h9 hj=>(HK9.out k (fun e=>h9 (e ▸ HQ.out))).trans (HOT.out k hk hj)
    have hf_:∀ k,k < W.heap.size→lab (mix f W.heap.size) w3 8 k=f k:=fun k hk=>(lab_lt (Nat.lt_of_lt_of_le hk HB.out.size)).trans (jk hk)
    have hq_:lab (mix f W.heap.size) w3 8 q=999:=(hf_ q HQL.out).trans HQ.out
    exact jq (CFile_slots _) HQ.out HQL.out HB9.out (Nat.le_trans HS4.out HS9.out) (lab (mix f W.heap.size) w3 8) hf_ (fun k hk h0=>hs_ k hk (fun e=>h0 (.inr e)) (fun e=>h0 (.inl (by omega)))) BQ9.out (⟨_,_,_,_,_,_,_,_,rfl,jk1 G2.out hf_ (fun k hk h0=>hs_ k hk (by omega) (by omega)),jk1 G3.out hf_ (fun k hk h0=>hs_ k hk (by omega) (by omega)),jk1 G4.out hf_ (fun k hk h0=>hs_ k hk (by omega) (by omega)),jk1 G5.out hf_ (fun k hk h0=>hs_ k hk (by omega) (by omega)),jk1 G6.out hf_ (fun k hk h0=>hs_ k hk (by omega) (by omega)),jk1 (by rw [HLE.out];exact HLn.out) (fun _ _=>rfl) (fun k hk h0=>HK9.out k (fun e=>by rw [e,hq_] at h0;omega)),jk8 G9.out hf_ (fun k hk h0=>hs_ k hk (by omega) (by omega)),jk8 G10.out hf_ (fun k hk h0=>hs_ k hk (by omega) (by omega))⟩)
 have fL7:(Ln==7)=false:=beq_eq_false_iff_ne.2 eL7
 by_cases eL8:Ln=8
 · subst eL8
   have hst:Aside0 (stFile u s r = .ok (⟨s.f0,s.f1,s.f2,s.f3,s.f4,s.f5,s.f6,s.f7,s.f8,(r.f3),s.f10⟩,true)):=⟨by unfold stFile;simp only [hL.out,hV.out,eL1,eL2,eL3,eL4,eL5,eL6,eL7,if_true,if_false,reduceIte,Int.reduceEq]⟩
   go_enter Try.func57,Try.ntmps57
   go_wp2_with (first|((with_reducible refine jjq (N:=2) rfl ?_);(try (refine jj6 (by rfl) ?_;dsimp only));refine bxR 2 c BQ0 HC ?_;intro gb w1 HB BK BQ hcv HGB s0_ s1_ s2_ s3_;have x9_:_=some ((v9):Value):=bzC BQ 9;have y9_:=jj2 BQ.out 9)|(go_at_call 58;(with_reducible refine ofR (ozL hL) HC HB BK BQ ?_);clear HB BK BQ hcv s0_ s1_ s2_ s3_ x9_ y9_;intro w2 HB BK BQ hcv s0_ s1_ s2_ s3_;have x9_:_=some ((v9):Value):=bzC BQ 9;have y9_:=jj2 BQ.out 9)|(go_at_call 63;(with_reducible refine ofR (ozV hV) HC HB BK BQ ?_);clear HB BK BQ hcv s0_ s1_ s2_ s3_ x9_ y9_;intro w2 HB BK BQ hcv s0_ s1_ s2_ s3_;have x9_:_=some ((v9):Value):=bzC BQ 9;have y9_:=jj2 BQ.out 9)|((with_reducible refine jjz (t:=28) (p:=85) rfl ?_);refine czE q 9 30 (.slice A r.f3.length c) BQ.out ?_;intro w9 h1_ h2_ h3_ h4_;have BQ9:=mk0 h1_;have HB9:=mk0 h2_;have HK9:=mk0 h3_;have HS9:=mk0 h4_;clear h1_ h2_ h3_ h4_))
   go_ret
   rw [hst.out]
   have hs_:=hszL HK9 HQ HB
   exact jq (CFile_slots _) HQ.out HQL.out (HB9.out _ _ HQ0.out (jj1 HB0.out HB0.out.size HB.out)) (Nat.le_trans HB.out.size HS9.out) (mix f W.heap.size) (fun k hk=>jk hk) (fun k hk h0=>hs_ k hk (fun e=>h0 (.inr e))) BQ9.out (⟨_,_,_,_,_,_,_,_,rfl,jk1 G2.out (fun k hk=>jk hk) (fun k hk h0=>hs_ k hk (by omega)),jk1 G3.out (fun k hk=>jk hk) (fun k hk h0=>hs_ k hk (by omega)),jk1 G4.out (fun k hk=>jk hk) (fun k hk h0=>hs_ k hk (by omega)),jk1 G5.out (fun k hk=>jk hk) (fun k hk h0=>hs_ k hk (by omega)),jk1 G6.out (fun k hk=>jk hk) (fun k hk h0=>hs_ k hk (by omega)),jk1 G7.out (fun k hk=>jk hk) (fun k hk h0=>hs_ k hk (by omega)),jk8 (V_F hc HF.out) (fun k hk=>jk hk) (fun k hk h0=>hs_ k hk (by omega)),jk8 G10.out (fun k hk=>jk hk) (fun k hk h0=>hs_ k hk (by omega))⟩)
 have fL8:(Ln==8)=false:=beq_eq_false_iff_ne.2 eL8
 by_cases eL12:Ln=12
 · subst eL12
   have hst:Aside0 (stFile u s r = .ok (⟨s.f0,s.f1,s.f2,s.f3,s.f4,s.f5,s.f6,s.f7,(strOfNums r.f3),s.f9,s.f10⟩,true)):=⟨by unfold stFile;simp only [hL.out,hV.out,eL1,eL2,eL3,eL4,eL5,eL6,eL7,eL8,if_true,if_false,reduceIte,Int.reduceEq]⟩
   go_enter Try.func57,Try.ntmps57
   go_wp2_with (first|((with_reducible refine jjq (N:=2) rfl ?_);(try (refine jj6 (by rfl) ?_;dsimp only));refine bxR 2 c BQ0 HC ?_;intro gb w1 HB BK BQ hcv HGB s0_ s1_ s2_ s3_;have x8_:_=some ((.string s.f8):Value):=bzC BQ 8;have y8_:=jj2 BQ.out 8)|(go_at_call 58;(with_reducible refine ofR (ozL hL) HC HB BK BQ ?_);clear HB BK BQ hcv s0_ s1_ s2_ s3_ x8_ y8_;intro w2 HB BK BQ hcv s0_ s1_ s2_ s3_;have x8_:_=some ((.string s.f8):Value):=bzC BQ 8;have y8_:=jj2 BQ.out 8)|(go_at_call 63;(with_reducible refine ofR (ozV hV) HC HB BK BQ ?_);clear HB BK BQ hcv s0_ s1_ s2_ s3_ x8_ y8_;intro w2 HB BK BQ hcv s0_ s1_ s2_ s3_;have x8_:_=some ((.string s.f8):Value):=bzC BQ 8;have y8_:=jj2 BQ.out 8)|((with_reducible refine jjz (t:=9) (p:=91) rfl ?_);refine czE q 8 30 (.string (strOfNums r.f3)) BQ.out ?_;intro w9 h1_ h2_ h3_ h4_;have BQ9:=mk0 h1_;have HB9:=mk0 h2_;have HK9:=mk0 h3_;have HS9:=mk0 h4_;clear h1_ h2_ h3_ h4_))
   go_ret
   rw [hst.out]
   have hs_:=hszL HK9 HQ HB
   exact jq (CFile_slots _) HQ.out HQL.out (HB9.out _ _ HQ0.out (jj1 HB0.out HB0.out.size HB.out)) (Nat.le_trans HB.out.size HS9.out) (mix f W.heap.size) (fun k hk=>jk hk) (fun k hk h0=>hs_ k hk (fun e=>h0 (.inr e))) BQ9.out (⟨_,_,_,_,_,_,_,_,rfl,jk1 G2.out (fun k hk=>jk hk) (fun k hk h0=>hs_ k hk (by omega)),jk1 G3.out (fun k hk=>jk hk) (fun k hk h0=>hs_ k hk (by omega)),jk1 G4.out (fun k hk=>jk hk) (fun k hk h0=>hs_ k hk (by omega)),jk1 G5.out (fun k hk=>jk hk) (fun k hk h0=>hs_ k hk (by omega)),jk1 G6.out (fun k hk=>jk hk) (fun k hk h0=>hs_ k hk (by omega)),jk1 G7.out (fun k hk=>jk hk) (fun k hk h0=>hs_ k hk (by omega)),jk8 G9.out (fun k hk=>jk hk) (fun k hk h0=>hs_ k hk (by omega)),jk8 G10.out (fun k hk=>jk hk) (fun k hk h0=>hs_ k hk (by omega))⟩)
 have fL12:(Ln==12)=false:=beq_eq_false_iff_ne.2 eL12
 by_cases eV10:Vn=10
 · subst eV10
   have HRb:=mk0 HR.out.b
   have HRl:=mk0 hlen
   have HCN:=mk0 hcnt
   have HCc:=mk0 hc
   go_enter Try.func57,Try.ntmps57
   go_wp2_with (first|((with_reducible refine jjq (N:=2) rfl ?_);(try (refine jj6 (by rfl) ?_;dsimp only));refine bxR 2 c BQ0 HC ?_;intro gb w1 HB BK BQ hcv HGB s0_ s1_ s2_ s3_)|(go_at_call 58;(with_reducible refine ofR (ozL hL) HC HB BK BQ ?_);clear HB BK BQ hcv s0_ s1_ s2_ s3_;intro w2 HB BK BQ hcv s0_ s1_ s2_ s3_)|(go_at_call 63;(with_reducible refine ofR (ozV hV) HC HB BK BQ ?_);clear HB BK BQ hcv s0_ s1_ s2_ s3_;intro w2 HB BK BQ hcv s0_ s1_ s2_ s3_))
   clear hcv s0_ s1_ s2_ s3_
   replace HB:=mk0 (jj5 HB.out)
   replace BK:=mk0 (jjj BK.out)
   replace BQ:=mk0 (jjj BQ.out)
   refine start_ (n:=9) (S:=(fun w'=>w'.cell? ⟨q,3,none⟩=some v3∧w'.cell? ⟨gb,2,none⟩=some (.int .u64 r.f2))) (ds:=[8]) (bzs 9 0) (by kernel_rfl) rfl rfl ⟨bzC BQ 3,bzC BK 2⟩ (fun hHeld=>?_)
   refine with_tabW tFile4.tab4 tFile4.bits4 (fun HT_ HW_=>?_)
   generalize World.drew _=wq at HB BK BQ hHeld ⊢
   refine pzS 0 (some 9) (bzs 9 1) HT_ ?_
   refine pzS 2 (some 11) (bzs 9 5) HT_ ?_
   refine tzS 1 (some 10) (bzs 9 7) HT_ HW_ hHeld ?_
   refine tzS 3 (some 12) (bzs 9 15) HT_ HW_ hHeld ?_
   refine one_ (i:=4) (N:=some 13) (bzs 9 31) rfl rfl (jk2 HT_.out (by kernel_rfl)) (by decide) (fun K hK=>?_)
   refine gzP Try.func64 #[.int .u64 r.f2] ?_
   refine (place_c r.f2 HR.out.n.1 _).mono ?_
   rintro e w3 ⟨hw_,hA⟩
   have hbz:=Below.refl wq.heap.size wq
   subst hw_
   cases hu_:placeU r.f2 with
   | error n=>
    have hst:Aside0 (stFile u s r = .error n):=⟨by unfold stFile;simp only [hL.out,hV.out,eL1,eL2,eL3,eL4,eL5,eL6,eL7,eL8,eL12,hu_,if_true,if_false,reduceIte,Int.reduceEq]⟩
    rw [hu_] at hA
    clear hu_
    obtain rfl:=hA
    refine .inl ⟨_,rfl,?_⟩
    have hbw:=jj1 HB0.out HB0.out.size (jj1 HB.out HB.out.size hbz)
    refine show ([]:List Deferred)=[]∧Took (St (CFile W0.heap.size) 30 q) W0 f W (thrown n) w3 (stFile u s r) from ⟨rfl,?_⟩
    rw [hst.out]
    exact ⟨rfl,hbw⟩
   | ok x=>
    have hst:Aside0 (stFile u s r = .ok (⟨s.f0,s.f1,s.f2,(s.f3++[x]),s.f4,s.f5,s.f6,s.f7,s.f8,s.f9,s.f10⟩,true)):=⟨by unfold stFile;simp only [hL.out,hV.out,eL1,eL2,eL3,eL4,eL5,eL6,eL7,eL8,eL12,hu_,if_true,if_false,reduceIte,Int.reduceEq]⟩
    rw [hu_] at hA
    clear hu_
    obtain rfl:=hA
    have hFKx:Kd.FK (Kd.int .i64) w3 (fun k=>w3.heap.size≤k) x [.int .i64 x]:=fun _ _=>rfl
    refine .inr ⟨_,rfl,?_⟩
    have HX:=mk0 (Foot.bound hFKx)
    have HSq:=mk0 HB.out.size
    have HLc:=mk0 ((Kd.int .i64).K_len (Kd.FK_now hFKx))
    have n0_:=mk0 (jj1 HB.out HB.out.size hbz)
    have n1_:=mk0 (jj3 BK.out hbz)
    have n2_:=mk0 (jj3 BQ.out hbz)
    clear HB BK BQ hFKx hbz
    have HB:=n0_
    have BK:=n1_
    have BQ:=n2_
    clear n0_ n1_ n2_
    refine hK.out _ _ ⟨bzC BQ 3,bzC BK 2⟩ (fun hHeld=>?_)
    clear hK K
    refine nzS (some 13) ?_
    refine one_ (i:=5) (N:=some 14) (bzs 9 63) rfl rfl (jk2 HT_.out (by kernel_rfl)) (by decide) (fun K hK=>?_)
    refine event_step (w1:=w3.alloc (.cells #[.int .i64 x] 3)) (v:=.slice (some ⟨w3.heap.size,0,none⟩) 1 1) (by rfl) (by first|(go_simp;done)|(go_simp;rfl)) ?_
    refine hK.out _ _ ⟨(blk_cell (jj9 BQ.out _) 3).trans rfl,(blk_cell (jj9 BK.out _) 2).trans rfl⟩ (fun hHeld=>?_)
    clear hK K
    refine nzS (some 14) ?_
    have HLj:=mk0 (jk1 G3.out (fun k hk=>jk hk) (fun k hk _=>HB.out.block k hk))
    have HNj:=mk0 (jk4 BQ.out)
    refine one_ (i:=6) (N:=some 15) (bzs 9 127) rfl rfl (jk2 HT_.out (by kernel_rfl)) (by decide) (fun K hK=>?_)
    refine Kd.N_append_step (Kd.int .i64) (w0:=W0) W0.heap.size (by rfl) (.tmp 10) (.tmp 14) 23 3 _ _ rfl Try.underlying23 iFileInt (by rfl) (by decide) (by decide) v3 s.f3 x [.int .i64 x] (fun k=>lab (mix f W.heap.size) w3 4 k=0∨lab (mix f W.heap.size) w3 4 k=4) (fun k=>W.heap.size≤k∧k < w3.heap.size) rfl rfl ?hp ?ha (fun k hk=>L_fresh k hk) (L_before HLj.out) (jj1 HB0.out HB0.out.size HB.out) (jj1 HB0.out HB0.out.size HB.out).size ?hl ?_
    case hp=>exact Kd.FK_mono HX.out (fun k hk=>⟨Nat.le_trans HSq.out hk.1,hk.2⟩)
    case ha=>exact L_apart HLj.out (by decide) (fun k hk _=>mix_ge hk)
    case hl=>have h_:=HCN.out;unfold cntFile at h_;omega
    intro vn w4 hn hb4 hg hat
    obtain ⟨ln,hln⟩:∃ z_,s.f3++[x]=z_:=⟨_,rfl⟩
    rw [hln] at hn
    obtain ⟨An,cn,evn⟩:=Kd.N_slice hn
    subst evn
    have HLE:=mk0 hln
    clear hln
    have HLn:=mk0 (L_after HLj.out hn hat)
    have HB4:=mk0 hb4
    have hoth:=fun k hk hne=>grown_other HLj.out hg k hk hne
    have BQ4:=mk0 ((hoth q (jk4 BQ.out) (by rw [jk HQL.out,HQ.out];decide)).trans BQ.out)
    have HOT:=mk0 (fun k (hk:k < W.heap.size) (hne:f k≠4)=>(hoth k (Nat.lt_of_lt_of_le hk HB.out.size) (by rw [jk hk];exact hne)).trans (HB.out.block k hk))
    have HS4:=mk0 (Nat.le_trans HB.out.size hg.size)
    have BK4:=mk0 ((hoth gb (jk4 BK.out) (by rw [mix_ge HGB.out];decide)).trans BK.out)
    clear hoth hn hb4 hg hat
    refine hK.out _ _ ⟨bzC BQ4 3,bzC BK4 2⟩ (fun hHeld=>?_)
    clear hK K
    refine nzS (some 15) ?_
    refine pzS 7 (some 16) (bzs 9 255) HT_ ?_
    refine last_ (i:=8) (N:=none) (bzs 9 511) rfl rfl (jk2 HT_.out (by kernel_rfl)) (by decide) (fun K hK=>?_)
    have x3_:_=some (v3:Value):=bzC BQ4 3
    have y3_:=jj2 BQ4.out 3
    refine cell_step (by rfl) rfl q 3 30 _ _ (.slice An ln.length cn) ?hr BQ4.out rfl ?_
    case hr=>first|(go_simp;done)|(go_simp;rfl)
    intro w9 h1_ h2_ h3_ h4_
    have BQ9:=mk0 h1_
    have HB9:=mk0 (h2_ _ _ HQ0.out HB4.out)
    have HK9:=mk0 h3_
    have HS9:=mk0 h4_
    clear h1_ h2_ h3_ h4_ x3_ y3_
    refine hK.out _ _ ?_
    clear hK K
    refine done_ (done_of HT_.out (by kernel_rfl)) ?_
    go_wp2
    go_ret
    rw [hst.out]
    have hs_:∀ k,k < W.heap.size→f k≠999→f k≠4→w9.heap[k]?=W.heap[k]?:=fun k hk h9 hj=>(HK9.out k (fun e=>h9 (e ▸ HQ.out))).trans (HOT.out k hk hj)
    have hf_:∀ k,k < W.heap.size→lab (mix f W.heap.size) w3 4 k=f k:=fun k hk=>(lab_lt (Nat.lt_of_lt_of_le hk HB.out.size)).trans (jk hk)
    have hq_:lab (mix f W.heap.size) w3 4 q=999:=(hf_ q HQL.out).trans HQ.out
    exact jq (CFile_slots _) HQ.out HQL.out HB9.out (Nat.le_trans HS4.out HS9.out) (lab (mix f W.heap.size) w3 4) hf_ (fun k hk h0=>hs_ k hk (fun e=>h0 (.inr e)) (fun e=>h0 (.inl (by omega)))) BQ9.out (⟨_,_,_,_,_,_,_,_,rfl,jk1 G2.out hf_ (fun k hk h0=>hs_ k hk (by omega) (by omega)),jk1 (by rw [HLE.out];exact HLn.out) (fun _ _=>rfl) (fun k hk h0=>HK9.out k (fun e=>by rw [e,hq_] at h0;omega)),jk1 G4.out hf_ (fun k hk h0=>hs_ k hk (by omega) (by omega)),jk1 G5.out hf_ (fun k hk h0=>hs_ k hk (by omega) (by omega)),jk1 G6.out hf_ (fun k hk h0=>hs_ k hk (by omega) (by omega)),jk1 G7.out hf_ (fun k hk h0=>hs_ k hk (by omega) (by omega)),jk8 G9.out hf_ (fun k hk h0=>hs_ k hk (by omega) (by omega)),jk8 G10.out hf_ (fun k hk h0=>hs_ k hk (by omega) (by omega))⟩)
 have fV10:(Vn==10)=false:=beq_eq_false_iff_ne.2 eV10
 have hst:Aside0 (stFile u s r = .ok (s,false)):=⟨by unfold stFile;simp only [hL.out,hV.out,eL1,eL2,eL3,eL4,eL5,eL6,eL7,eL8,eL12,eV10,if_false,reduceIte]⟩
 go_enter Try.func57,Try.ntmps57
 go_wp2_with (first|((with_reducible refine jjq (N:=2) rfl ?_);(try (refine jj6 (by rfl) ?_;dsimp only));refine bxR 2 c BQ0 HC ?_;intro gb w1 HB BK BQ hcv HGB s0_ s1_ s2_ s3_)|(go_at_call 58;(with_reducible refine ofR (ozL hL) HC HB BK BQ ?_);clear HB BK BQ hcv s0_ s1_ s2_ s3_;intro w2 HB BK BQ hcv s0_ s1_ s2_ s3_)|(go_at_call 63;(with_reducible refine ofR (ozV hV) HC HB BK BQ ?_);clear HB BK BQ hcv s0_ s1_ s2_ s3_;intro w2 HB BK BQ hcv s0_ s1_ s2_ s3_))
 go_ret
 rw [hst.out]
 exact leaf_keep (CFile_slots _) HQ0.out HT.out HB0.out HB.out _
theorem cloFile (u:List Int→Except Int S76) (hu0:∀ (b:List Int) (A:Option Addr) (c:Nat) (w:World),Bytes b→b.length < 4294967296→Kd.C (Kd.int .u8) w A b.length b→b.length≤c→Calls Try.prog 59 #[.slice A b.length c,.int .i64 0] w fun e w'=>Ans k76 w e w' (u b)) (q:Nat) (W0:World) (hq0:W0.heap.size≤q):Taker (stFile u) cntFile (St (CFile W0.heap.size) 30 q) W0 57 #[] #[.pointer (some ⟨q,0,none⟩)] where
 enters:=fun args w=>enters_ Try.func57 (by kernel_rfl) (by kernel_rfl) args w
 move:=fun f f' s W W' h h1 h2 h3=>St.move (CFile_slots _) h h1 h2
 up:=fun s r p h=>cntFile_up u s r p h
 call:=fun f s W r A c hT hB hr hlen hcnt hc hF=>cloFile_call u hu0 q W0 hq0 f s W r A c hT hB hr hlen hcnt hc hF
theorem uFile_c (u:List Int→Except Int S76) (hu0:∀ (b:List Int) (A:Option Addr) (c:Nat) (w:World),Bytes b→b.length < 4294967296→Kd.C (Kd.int .u8) w A b.length b→b.length≤c→Calls Try.prog 59 #[.slice A b.length c,.int .i64 0] w fun e w'=>Ans k76 w e w' (u b)) (b:List Int) (A:Option Addr) (c:Nat) (w:World) (hb:Bytes b) (hl:b.length < 4294967296) (hC:Kd.C (Kd.int .u8) w A b.length b) (hc:b.length≤c) :
 Calls Try.prog 33 #[.slice A b.length c] w fun e w'=>Ans k30 w e w' (uFile u b):=by
 have HC:=mk0 hC
 have HI:=mk0 (Below.refl w.heap.size w)
 clear hC
 cases hres_:readU (stFile u) b z30 with
 | error m=>
  have hu:Aside0 (uFile u b = .error m):=⟨by unfold uFile;rw [hres_]⟩
  have hres:=mk0 hres_
  clear hres_
  go_enter Try.func33,Try.ntmps33
  go_wp2_with (first|((with_reducible refine jjq (N:=2) rfl ?_);(try (refine jj6 (by rfl) ?_;dsimp only));refine bzX 2 #[.string (⟨#[]⟩:ByteArray),.string (⟨#[]⟩:ByteArray),.slice none 0 0,.slice none 0 0,.slice none 0 0,.slice none 0 0,.slice none 0 0,.slice none 0 0,.string (⟨#[]⟩:ByteArray),.slice none 0 0,.slice none 0 0] 30 ?_;intro g2 hg2 w1 hbox hb1;have HG2:=mk0 hg2;have BX:=mk0 hbox;have HB:=mk0 hb1;clear hg2 hbox hb1)|((with_reducible refine jjq (N:=3) rfl ?_);(try (refine jj6 (by rfl) ?_;dsimp only));refine bzX 3 #[.string (⟨#[]⟩:ByteArray),.string (⟨#[]⟩:ByteArray),.slice none 0 0,.slice none 0 0,.slice none 0 0,.slice none 0 0,.slice none 0 0,.slice none 0 0,.string (⟨#[]⟩:ByteArray),.slice none 0 0,.slice none 0 0] 30 ?_;intro q hgq w2 hbox hb2;have n0_:=mk0 (jj1 HB.out HB.out.size hb2);have n1_:=mk0 (jj3 BX.out hb2);have HNQ:=mk0 (show w.heap.size≤q from hgq ▸ HB.out.size);have HNE:=mk0 (show g2≠q from hgq ▸ Nat.ne_of_lt (jk4 BX.out));have BQ:=mk0 hbox;clear HB BX;have HB:=n0_;have BX:=n1_;clear n0_ n1_ hgq hbox hb2)|(go_at_call 56;refine (read_c (cloFile u hu0 q w HNQ.out) (f0:=ini w.heap.size g2 q) (fun _=>ini_lt) z30 rfl _ HB.out ⟨ini_q,_,BQ.out,⟨_,_,_,_,_,_,_,_,rfl,L_nil _ _ _ _ _ _,L_nil _ _ _ _ _ _,L_nil _ _ _ _ _ _,L_nil _ _ _ _ _ _,L_nil _ _ _ _ _ _,L_nil _ _ _ _ _ _,V_nil _ _,V_nil _ _⟩⟩ b A c hb hl (Kd.jj0 HC.out HB.out) hc).mono ?_;rintro e w4 h4;rw [hres.out] at h4;obtain ⟨rfl,hbz⟩:=h4;unfold thrown))
  rw [hu.out]
  exact ⟨rfl,rfl,hbz⟩
 | ok p=>
  obtain ⟨s,kept⟩:=p
  have hu:Aside0 (uFile u b = .ok ⟨s.f0,s.f1,s.f2,s.f3,s.f4,s.f5,s.f6,s.f7,s.f8,s.f9,kept⟩):=⟨by unfold uFile;rw [hres_]⟩
  have hres:=mk0 hres_
  clear hres_
  go_enter Try.func33,Try.ntmps33
  go_wp2_with (first|((with_reducible refine jjq (N:=2) rfl ?_);(try (refine jj6 (by rfl) ?_;dsimp only));refine bzX 2 #[.string (⟨#[]⟩:ByteArray),.string (⟨#[]⟩:ByteArray),.slice none 0 0,.slice none 0 0,.slice none 0 0,.slice none 0 0,.slice none 0 0,.slice none 0 0,.string (⟨#[]⟩:ByteArray),.slice none 0 0,.slice none 0 0] 30 ?_;intro g2 hg2 w1 hbox hb1;have HG2:=mk0 hg2;have BX:=mk0 hbox;have HB:=mk0 hb1;clear hg2 hbox hb1)|((with_reducible refine jjq (N:=3) rfl ?_);(try (refine jj6 (by rfl) ?_;dsimp only));refine bzX 3 #[.string (⟨#[]⟩:ByteArray),.string (⟨#[]⟩:ByteArray),.slice none 0 0,.slice none 0 0,.slice none 0 0,.slice none 0 0,.slice none 0 0,.slice none 0 0,.string (⟨#[]⟩:ByteArray),.slice none 0 0,.slice none 0 0] 30 ?_;intro q hgq w2 hbox hb2;have n0_:=mk0 (jj1 HB.out HB.out.size hb2);have n1_:=mk0 (jj3 BX.out hb2);have HNQ:=mk0 (show w.heap.size≤q from hgq ▸ HB.out.size);have HNE:=mk0 (show g2≠q from hgq ▸ Nat.ne_of_lt (jk4 BX.out));have BQ:=mk0 hbox;clear HB BX;have HB:=n0_;have BX:=n1_;clear n0_ n1_ hgq hbox hb2)|(go_at_call 56;refine (read_c (cloFile u hu0 q w HNQ.out) (f0:=ini w.heap.size g2 q) (fun _=>ini_lt) z30 rfl _ HB.out ⟨ini_q,_,BQ.out,⟨_,_,_,_,_,_,_,_,rfl,L_nil _ _ _ _ _ _,L_nil _ _ _ _ _ _,L_nil _ _ _ _ _ _,L_nil _ _ _ _ _ _,L_nil _ _ _ _ _ _,L_nil _ _ _ _ _ _,V_nil _ _,V_nil _ _⟩⟩ b A c hb hl (Kd.jj0 HC.out HB.out) hc).mono ?_;rintro e w4 h4;rw [hres.out] at h4;obtain ⟨h1,h2,h3,f',v,rfl,h5,h6,h7⟩:=h4;obtain ⟨Av,cv,ev⟩:=Kd.jk5 h7;subst ev;obtain ⟨hq',cs,hbq,v2,v3,v4,v5,v6,v7,v9,v10,rfl,g2_,g3_,g4_,g5_,g6_,g7_,g9_,g10_⟩:=h6;obtain ⟨A2,c2,ev2⟩:=Kd.N_slice g2_.1;subst ev2;have l2:=(Kd.N_reads' g2_.1).2.1;have F2:=Kd.N_F g2_.1;obtain ⟨A3,c3,ev3⟩:=Kd.N_slice g3_.1;subst ev3;have l3:=(Kd.N_reads' g3_.1).2.1;have F3:=Kd.N_F g3_.1;obtain ⟨A4,c4,ev4⟩:=Kd.N_slice g4_.1;subst ev4;have l4:=(Kd.N_reads' g4_.1).2.1;have F4:=Kd.N_F g4_.1;obtain ⟨A5,c5,ev5⟩:=Kd.N_slice g5_.1;subst ev5;have l5:=(Kd.N_reads' g5_.1).2.1;have F5:=Kd.N_F g5_.1;obtain ⟨A6,c6,ev6⟩:=Kd.N_slice g6_.1;subst ev6;have l6:=(Kd.N_reads' g6_.1).2.1;have F6:=Kd.N_F g6_.1;obtain ⟨A7,c7,ev7⟩:=Kd.N_slice g7_.1;subst ev7;have l7:=(Kd.N_reads' g7_.1).2.1;have F7:=Kd.N_F g7_.1;obtain ⟨A9,c9,rfl,l9,F9⟩:=g9_;obtain ⟨A10,c10,rfl,l10,F10⟩:=g10_;have HNG:=mk0 (Nat.le_of_eq HG2.out.symm);have HFIN:=mk0 (ini_fin h5 (jk4 BX.out) (jk4 BQ.out) (Nat.le_of_eq HG2.out.symm) HNQ.out HNE.out);have BX4:=mk0 ((h3 g2 (jk4 BX.out) (ini_g HNE.out)).trans BX.out);have BQ4:=mk0 hbq;have HB4:=mk0 h2;have HV:=mk0 (Kd.R_F h7);have HVl:=mk0 (Kd.jj8 h7).2.1;have HVb:=mk0 (Kd.R_bound h7);have E2:=mk0 F2;have M2:=mk0 l2;have E3:=mk0 F3;have M3:=mk0 l3;have E4:=mk0 F4;have M4:=mk0 l4;have E5:=mk0 F5;have M5:=mk0 l5;have E6:=mk0 F6;have M6:=mk0 l6;have E7:=mk0 F7;have M7:=mk0 l7;have E9:=mk0 F9;have M9:=mk0 l9;have E10:=mk0 F10;have M10:=mk0 l10;clear h1 h2 h3 h5 h7 hbq hq' BX BQ HB HG2 F2 l2 g2_ F3 l3 g3_ F4 l4 g4_ F5 l5 g5_ F6 l6 g6_ F7 l7 g7_ F9 l9 F10 l10;have x10_:_=some (.slice A10 s.f10.length c10:Value):=bzC BQ4 10;have y10_:=jj2 BQ4.out 10)|((with_reducible refine jjz (t:=28) (p:=7) rfl ?_);refine czE q 10 30 (.slice Av kept.length cv) BQ4.out ?_;intro w5 h1_ h2_ h3_ h4_;have BQ5:=mk0 h1_;have HK5:=mk0 h3_;have HB5:=mk0 (h2_ _ _ HNQ.out HB4.out);have BX5:=mk0 ((h3_ g2 HNE.out).trans BX4.out);clear h1_ h2_ h3_ h4_ x10_ y10_;obtain ⟨x0_,x1_,x2_,x3_,x4_,x5_,x6_,x7_,x8_,x9_,x10_⟩:=cz11 BQ5.out)|((with_reducible refine jjz (t:=30) (p:=2) rfl ?_);refine Sw.store_whole rfl rfl rfl g2 30 _ _ rfl rfl BX5.out (by kernel_rfl) rfl rfl ?_;intro w6 h1_ h2_ h3_;have BX6:=mk0 h1_;have HB6:=mk0 (h2_ _ _ HNG.out HB5.out);have HK6:=mk0 h3_;clear h1_ h2_ h3_ x0_ x1_ x2_ x3_ x4_ x5_ x6_ x7_ x8_ x9_ x10_))
  refine bodyPost_ret (results_c1 rfl _ _ g2 30 #[.string s.f0,.string s.f1,.slice A2 s.f2.length c2,.slice A3 s.f3.length c3,.slice A4 s.f4.length c4,.slice A5 s.f5.length c5,.slice A6 s.f6.length c6,.slice A7 s.f7.length c7,.string s.f8,.slice A9 s.f9.length c9,.slice Av kept.length cv] (0,0) _ rfl BX6.out Try.underlying30 rfl (by kernel_rfl)) rfl ?_
  rw [hu.out]
  have hst_:∀ k,f' k≠997→f' k≠998→f' k≠999→w6.heap[k]?=w4.heap[k]?∧w.heap.size≤k:=fun k a7 a8 a9=>by obtain ⟨h1_,h2_,h3_⟩:=HFIN.out k a7 a8 a9;exact ⟨(HK6.out k h3_).trans (HK5.out k h2_),h1_⟩
  exact ⟨_,rfl,k30_mkF w6 _ (⟨s.f0,s.f1,s.f2,s.f3,s.f4,s.f5,s.f6,s.f7,s.f8,s.f9,kept⟩:S30) M2.out (Kd.F_mono (Kd.F_step (Kd.F_bound E2.out) (fun k hk hlt=>(hst_ k (by omega) (by omega) (by omega)).1)) (fun k hk=>(hst_ k (by omega) (by omega) (by omega)).2)) M3.out (Kd.F_mono (Kd.F_step (Kd.F_bound E3.out) (fun k hk hlt=>(hst_ k (by omega) (by omega) (by omega)).1)) (fun k hk=>(hst_ k (by omega) (by omega) (by omega)).2)) M4.out (Kd.F_mono (Kd.F_step (Kd.F_bound E4.out) (fun k hk hlt=>(hst_ k (by omega) (by omega) (by omega)).1)) (fun k hk=>(hst_ k (by omega) (by omega) (by omega)).2)) M5.out (Kd.F_mono (Kd.F_step (Kd.F_bound E5.out) (fun k hk hlt=>(hst_ k (by omega) (by omega) (by omega)).1)) (fun k hk=>(hst_ k (by omega) (by omega) (by omega)).2)) M6.out (Kd.F_mono (Kd.F_step (Kd.F_bound E6.out) (fun k hk hlt=>(hst_ k (by omega) (by omega) (by omega)).1)) (fun k hk=>(hst_ k (by omega) (by omega) (by omega)).2)) M7.out (Kd.F_mono (Kd.F_step (Kd.F_bound E7.out) (fun k hk hlt=>(hst_ k (by omega) (by omega) (by omega)).1)) (fun k hk=>(hst_ k (by omega) (by omega) (by omega)).2)) M9.out (Kd.F_mono (Kd.F_step (Kd.F_bound E9.out) (fun k hk hlt=>(hst_ k (by omega) (by omega) (by omega)).1)) (fun k hk=>(hst_ k (by omega) (by omega) (by omega)).2)) HVl.out (Kd.F_mono (Kd.F_step (Kd.F_bound HV.out) (fun k hk hlt=>(hst_ k (by omega) (by omega) (by omega)).1)) (fun k hk=>(hst_ k (by omega) (by omega) (by omega)).2)),HB6.out⟩
end Go.Proofs.Ytheoafenehckbaa.Ur
