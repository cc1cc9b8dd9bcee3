/- undesc's reader of a Method. -/
import Derived.Test.YtheoafenehckbaaKA3
import Derived.Test.YtheoafenehckbaaKSh
import Derived.Test.YtheoafenehckbaaKSw
import Derived.WalkLawsBesides
set_option maxHeartbeats 8000000
set_option maxRecDepth 100000
namespace Go.Proofs.Ytheoafenehckbaa.Ur
open Go.RowKit GUndescBack YtheoafenehckbaaW.PrintWords YtheoafenehckbaaW.PrintLast YtheoafenehckbaaW.PrintMore Vb Fx Wr Wt Wj Wp Uq
set_option linter.unusedVariables false
set_option linter.unusedSimpArgs false
def stMethod (s:S53) (r:S97):Except Int (S53 × Bool):=
 if ofL r=1 then .ok (⟨(strOfNums r.f3),s.f1,s.f2,s.f3,s.f4,s.f5,s.f6⟩,true) else
 if ofL r=2 then .ok (⟨s.f0,(strOfNums r.f3),s.f2,s.f3,s.f4,s.f5,s.f6⟩,true) else
 if ofL r=3 then .ok (⟨s.f0,s.f1,(strOfNums r.f3),s.f3,s.f4,s.f5,s.f6⟩,true) else
 if ofL r=4 then .ok (⟨s.f0,s.f1,s.f2,s.f3,s.f4,(r.f3),s.f6⟩,true) else
 if ofV r=5 then .ok (⟨s.f0,s.f1,s.f2,((r.f2 != 0)),s.f4,s.f5,s.f6⟩,true) else
 if ofV r=6 then .ok (⟨s.f0,s.f1,s.f2,s.f3,((r.f2 != 0)),s.f5,s.f6⟩,true) else
 .ok (s,false)
def uMethod (b:List Int):Except Int S53:=match readU (stMethod) b z53 with | .error n=>.error n | .ok p=>.ok ⟨p.1.f0,p.1.f1,p.1.f2,p.1.f3,p.1.f4,p.1.f5,p.2⟩
def cntMethod (s:S53):Nat:=0
theorem cntMethod_up (s:S53) (r:S97) (p:S53 × Bool) (h:stMethod s r = .ok p):cntMethod p.1≤cntMethod s+1:=by
 exact Nat.zero_le _
def CMethod (B:Nat) (f:Nat→Nat) (s:S53) (W:World) (cs:Array Value):Prop:=∃ v5 v6:Value,cs=#[.string s.f0,.string s.f1,.string s.f2,.bool s.f3,.bool s.f4,v5,v6]∧V_ f W v5 s.f5∧V_ f W v6 s.f6
theorem CMethod_slots (B:Nat):Slots (CMethod B):=by
 rintro f f' s W W' cs ⟨v5,v6,rfl,g5,g6⟩ h1 h2
 exact ⟨v5,v6,rfl,jk8 g5 h1 (fun k hk h0=>h2 k hk (by omega)),jk8 g6 h1 (fun k hk h0=>h2 k hk (by omega))⟩
theorem cloMethod_call (q:Nat) (W0:World) (hq0:W0.heap.size≤q) (f:Nat→Nat) (s:S53) (W:World) (r:S97) (A:Option Addr) (c:Nat) (hT:St (CMethod W0.heap.size) 53 q f s W) (hB:Below W0.heap.size W0 W) (hr:RawOk r) (hlen:r.f3.length < 4294967296) (hcnt:cntMethod s < 4294967296) (hc:r.f3.length≤c) (hF:Kd.F (Kd.int .u8) W (fun k=>f k=0) A r.f3.length r.f3) :
 Calls Try.prog 94 #[.agg #[.int .i64 r.f0,.int .i64 r.f1,.int .u64 r.f2,.slice A r.f3.length c],.pointer (some ⟨q,0,none⟩)] W fun e W'=>Took (St (CMethod W0.heap.size) 53 q) W0 f W e W' (stMethod s r):=by
 have HT:=mk0 hT
 obtain ⟨hq,cs,hb,v5,v6,rfl,g5_,g6_⟩:=hT
 have G5:=mk0 g5_
 have G6:=mk0 g6_
 have HF:=mk0 hF
 have HC:=mk0 (Kd.F_now hF)
 have HR:=mk0 hr
 have HB0:=mk0 hB
 have BQ0:=mk0 hb
 have HQ:=mk0 hq
 have HQ0:=mk0 hq0
 have HQL:=mk0 (jk4 hb)
 clear g5_ g6_ hF hr hB hb hq hq0
 obtain ⟨Ln,hL_⟩:∃ z,ofL r=z:=⟨_,rfl⟩
 obtain ⟨Vn,hV_⟩:∃ z,ofV r=z:=⟨_,rfl⟩
 have hL:=mk0 hL_
 have hV:=mk0 hV_
 clear hL_ hV_
 by_cases eL1:Ln=1
 · subst eL1
   have hst:Aside0 (stMethod s r = .ok (⟨(strOfNums r.f3),s.f1,s.f2,s.f3,s.f4,s.f5,s.f6⟩,true)):=⟨by unfold stMethod;simp only [hL.out,hV.out,if_true,if_false,reduceIte,Int.reduceEq]⟩
   go_enter Try.func94,Try.ntmps94
   go_wp2_with (first|((with_reducible refine jjq (N:=2) rfl ?_);(try (refine jj6 (by rfl) ?_;dsimp only));refine bxR 2 c BQ0 HC ?_;intro gb w1 HB BK BQ hcv HGB s0_ s1_ s2_ s3_;have x0_:_=some ((.string s.f0):Value):=bzC BQ 0;have y0_:=jj2 BQ.out 0)|(go_at_call 58;(with_reducible refine ofR (ozL hL) HC HB BK BQ ?_);clear HB BK BQ hcv s0_ s1_ s2_ s3_ x0_ y0_;intro w2 HB BK BQ hcv s0_ s1_ s2_ s3_;have x0_:_=some ((.string s.f0):Value):=bzC BQ 0;have y0_:=jj2 BQ.out 0)|(go_at_call 63;(with_reducible refine ofR (ozV hV) HC HB BK BQ ?_);clear HB BK BQ hcv s0_ s1_ s2_ s3_ x0_ y0_;intro w2 HB BK BQ hcv s0_ s1_ s2_ s3_;have x0_:_=some ((.string s.f0):Value):=bzC BQ 0;have y0_:=jj2 BQ.out 0)|((with_reducible refine jjz (t:=9) (p:=11) rfl ?_);refine czE q 0 53 (.string (strOfNums r.f3)) BQ.out ?_;intro w9 h1_ h2_ h3_ h4_;have BQ9:=mk0 h1_;have HB9:=mk0 h2_;have HK9:=mk0 h3_;have HS9:=mk0 h4_;clear h1_ h2_ h3_ h4_))
   go_ret
   rw [hst.out]
   have hs_:=hszL HK9 HQ HB
   exact jq (CMethod_slots _) HQ.out HQL.out (HB9.out _ _ HQ0.out (jj1 HB0.out HB0.out.size HB.out)) (Nat.le_trans HB.out.size HS9.out) (mix f W.heap.size) (fun k hk=>jk hk) (fun k hk h0=>hs_ k hk (fun e=>h0 (.inr e))) BQ9.out (⟨_,_,rfl,jk8 G5.out (fun k hk=>jk hk) (fun k hk h0=>hs_ k hk (by omega)),jk8 G6.out (fun k hk=>jk hk) (fun k hk h0=>hs_ k hk (by omega))⟩)
 have fL1:(Ln==1)=false:=beq_eq_false_iff_ne.2 eL1
 by_cases eL2:Ln=2
 · subst eL2
   have hst:Aside0 (stMethod s r = .ok (⟨s.f0,(strOfNums r.f3),s.f2,s.f3,s.f4,s.f5,s.f6⟩,true)):=⟨by unfold stMethod;simp only [hL.out,hV.out,eL1,if_true,if_false,reduceIte,Int.reduceEq]⟩
   go_enter Try.func94,Try.ntmps94
   go_wp2_with (first|((with_reducible refine jjq (N:=2) rfl ?_);(try (refine jj6 (by rfl) ?_;dsimp only));refine bxR 2 c BQ0 HC ?_;intro gb w1 HB BK BQ hcv HGB s0_ s1_ s2_ s3_;have x1_:_=some ((.string s.f1):Value):=bzC BQ 1;have y1_:=jj2 BQ.out 1)|(go_at_call 58;(with_reducible refine ofR (ozL hL) HC HB BK BQ ?_);clear HB BK BQ hcv s0_ s1_ s2_ s3_ x1_ y1_;intro w2 HB BK BQ hcv s0_ s1_ s2_ s3_;have x1_:_=some ((.string s.f1):Value):=bzC BQ 1;have y1_:=jj2 BQ.out 1)|(go_at_call 63;(with_reducible refine ofR (ozV hV) HC HB BK BQ ?_);clear HB BK BQ hcv s0_ s1_ s2_ s3_ x1_ y1_;intro w2 HB BK BQ hcv s0_ s1_ s2_ s3_;have x1_:_=some ((.string s.f1):Value):=bzC BQ 1;have y1_:=jj2 BQ.out 1)|((with_reducible refine jjz (t:=9) (p:=19) rfl ?_);refine czE q 1 53 (.string (strOfNums r.f3)) BQ.out ?_;intro w9 h1_ h2_ h3_ h4_;have BQ9:=mk0 h1_;have HB9:=mk0 h2_;have HK9:=mk0 h3_;have HS9:=mk0 h4_;clear h1_ h2_ h3_ h4_))
   go_ret
   rw [hst.out]
   have hs_:=hszL HK9 HQ HB
   exact jq (CMethod_slots _) HQ.out HQL.out (HB9.out _ _ HQ0.out (jj1 HB0.out HB0.out.size HB.out)) (Nat.le_trans HB.out.size HS9.out) (mix f W.heap.size) (fun k hk=>jk hk) (fun k hk h0=>hs_ k hk (fun e=>h0 (.inr e))) BQ9.out (⟨_,_,rfl,jk8 G5.out (fun k hk=>jk hk) (fun k hk h0=>hs_ k hk (by omega)),jk8 G6.out (fun k hk=>jk hk) (fun k hk h0=>hs_ k hk (by omega))⟩)
 have fL2:(Ln==2)=false:=beq_eq_false_iff_ne.2 eL2
 by_cases eL3:Ln=3
 · subst eL3
   have hst:Aside0 (stMethod s r = .ok (⟨s.f0,s.f1,(strOfNums r.f3),s.f3,s.f4,s.f5,s.f6⟩,true)):=⟨by unfold stMethod;simp only [hL.out,hV.out,eL1,eL2,if_true,if_false,reduceIte,Int.reduceEq]⟩
   go_enter Try.func94,Try.ntmps94
   go_wp2_with (first|((with_reducible refine jjq (N:=2) rfl ?_);(try (refine jj6 (by rfl) ?_;dsimp only));refine bxR 2 c BQ0 HC ?_;intro gb w1 HB BK BQ hcv HGB s0_ s1_ s2_ s3_;have x2_:_=some ((.string s.f2):Value):=bzC BQ 2;have y2_:=jj2 BQ.out 2)|(go_at_call 58;(with_reducible refine ofR (ozL hL) HC HB BK BQ ?_);clear HB BK BQ hcv s0_ s1_ s2_ s3_ x2_ y2_;intro w2 HB BK BQ hcv s0_ s1_ s2_ s3_;have x2_:_=some ((.string s.f2):Value):=bzC BQ 2;have y2_:=jj2 BQ.out 2)|(go_at_call 63;(with_reducible refine ofR (ozV hV) HC HB BK BQ ?_);clear HB BK BQ hcv s0_ s1_ s2_ s3_ x2_ y2_;intro w2 HB BK BQ hcv s0_ s1_ s2_ s3_;have x2_:_=some ((.string s.f2):Value):=bzC BQ 2;have y2_:=jj2 BQ.out 2)|((with_reducible refine jjz (t:=9) (p:=27) rfl ?_);refine czE q 2 53 (.string (strOfNums r.f3)) BQ.out ?_;intro w9 h1_ h2_ h3_ h4_;have BQ9:=mk0 h1_;have HB9:=mk0 h2_;have HK9:=mk0 h3_;have HS9:=mk0 h4_;clear h1_ h2_ h3_ h4_))
   go_ret
   rw [hst.out]
   have hs_:=hszL HK9 HQ HB
   exact jq (CMethod_slots _) HQ.out HQL.out (HB9.out _ _ HQ0.out (jj1 HB0.out HB0.out.size HB.out)) (Nat.le_trans HB.out.size HS9.out) (mix f W.heap.size) (fun k hk=>jk hk) (fun k hk h0=>hs_ k hk (fun e=>h0 (.inr e))) BQ9.out (⟨_,_,rfl,jk8 G5.out (fun k hk=>jk hk) (fun k hk h0=>hs_ k hk (by omega)),jk8 G6.out (fun k hk=>jk hk) (fun k hk h0=>hs_ k hk (by omega))⟩)
 have fL3:(Ln==3)=false:=beq_eq_false_iff_ne.2 eL3
 by_cases eL4:Ln=4
 · subst eL4
   have hst:Aside0 (stMethod s r = .ok (⟨s.f0,s.f1,s.f2,s.f3,s.f4,(r.f3),s.f6⟩,true)):=⟨by unfold stMethod;simp only [hL.out,hV.out,eL1,eL2,eL3,if_true,if_false,reduceIte,Int.reduceEq]⟩
   go_enter Try.func94,Try.ntmps94
   go_wp2_with (first|((with_reducible refine jjq (N:=2) rfl ?_);(try (refine jj6 (by rfl) ?_;dsimp only));refine bxR 2 c BQ0 HC ?_;intro gb w1 HB BK BQ hcv HGB s0_ s1_ s2_ s3_;have x5_:_=some ((v5):Value):=bzC BQ 5;have y5_:=jj2 BQ.out 5)|(go_at_call 58;(with_reducible refine ofR (ozL hL) HC HB BK BQ ?_);clear HB BK BQ hcv s0_ s1_ s2_ s3_ x5_ y5_;intro w2 HB BK BQ hcv s0_ s1_ s2_ s3_;have x5_:_=some ((v5):Value):=bzC BQ 5;have y5_:=jj2 BQ.out 5)|(go_at_call 63;(with_reducible refine ofR (ozV hV) HC HB BK BQ ?_);clear HB BK BQ hcv s0_ s1_ s2_ s3_ x5_ y5_;intro w2 HB BK BQ hcv s0_ s1_ s2_ s3_;have x5_:_=some ((v5):Value):=bzC BQ 5;have y5_:=jj2 BQ.out 5)|((with_reducible refine jjz (t:=28) (p:=34) rfl ?_);refine czE q 5 53 (.slice A r.f3.length c) BQ.out ?_;intro w9 h1_ h2_ h3_ h4_;have BQ9:=mk0 h1_;have HB9:=mk0 h2_;have HK9:=mk0 h3_;have HS9:=mk0 h4_;clear h1_ h2_ h3_ h4_))
   go_ret
   rw [hst.out]
   have hs_:=hszL HK9 HQ HB
   exact jq (CMethod_slots _) HQ.out HQL.out (HB9.out _ _ HQ0.out (jj1 HB0.out HB0.out.size HB.out)) (Nat.le_trans HB.out.size HS9.out) (mix f W.heap.size) (fun k hk=>jk hk) (fun k hk h0=>hs_ k hk (fun e=>h0 (.inr e))) BQ9.out (⟨_,_,rfl,jk8 (V_F hc HF.out) (fun k hk=>jk hk) (fun k hk h0=>hs_ k hk (by omega)),jk8 G6.out (fun k hk=>jk hk) (fun k hk h0=>hs_ k hk (by omega))⟩)
 have fL4:(Ln==4)=false:=beq_eq_false_iff_ne.2 eL4
 by_cases eV5:Vn=5
 · subst eV5
   have hst:Aside0 (stMethod s r = .ok (⟨s.f0,s.f1,s.f2,((r.f2 != 0)),s.f4,s.f5,s.f6⟩,true)):=⟨by unfold stMethod;simp only [hL.out,hV.out,eL1,eL2,eL3,eL4,if_true,if_false,reduceIte,Int.reduceEq]⟩
   go_enter Try.func94,Try.ntmps94
   go_wp2_with (first|((with_reducible refine jjq (N:=2) rfl ?_);(try (refine jj6 (by rfl) ?_;dsimp only));refine bxR 2 c BQ0 HC ?_;intro gb w1 HB BK BQ hcv HGB s0_ s1_ s2_ s3_;have x3_:_=some ((.bool s.f3):Value):=bzC BQ 3;have y3_:=jj2 BQ.out 3)|(go_at_call 58;(with_reducible refine ofR (ozL hL) HC HB BK BQ ?_);clear HB BK BQ hcv s0_ s1_ s2_ s3_ x3_ y3_;intro w2 HB BK BQ hcv s0_ s1_ s2_ s3_;have x3_:_=some ((.bool s.f3):Value):=bzC BQ 3;have y3_:=jj2 BQ.out 3)|(go_at_call 63;(with_reducible refine ofR (ozV hV) HC HB BK BQ ?_);clear HB BK BQ hcv s0_ s1_ s2_ s3_ x3_ y3_;intro w2 HB BK BQ hcv s0_ s1_ s2_ s3_;have x3_:_=some ((.bool s.f3):Value):=bzC BQ 3;have y3_:=jj2 BQ.out 3)|((with_reducible refine jjz (t:=4) (p:=42) rfl ?_);refine czE q 3 53 (.bool (r.f2 != 0)) BQ.out ?_;intro w9 h1_ h2_ h3_ h4_;have BQ9:=mk0 h1_;have HB9:=mk0 h2_;have HK9:=mk0 h3_;have HS9:=mk0 h4_;clear h1_ h2_ h3_ h4_))
   go_ret
   rw [hst.out]
   have hs_:=hszL HK9 HQ HB
   exact jq (CMethod_slots _) HQ.out HQL.out (HB9.out _ _ HQ0.out (jj1 HB0.out HB0.out.size HB.out)) (Nat.le_trans HB.out.size HS9.out) (mix f W.heap.size) (fun k hk=>jk hk) (fun k hk h0=>hs_ k hk (fun e=>h0 (.inr e))) BQ9.out (⟨_,_,rfl,jk8 G5.out (fun k hk=>jk hk) (fun k hk h0=>hs_ k hk (by omega)),jk8 G6.out (fun k hk=>jk hk) (fun k hk h0=>hs_ k hk (by omega))⟩)
 have fV5:(Vn==5)=false:=beq_eq_false_iff_ne.2 eV5
 by_cases eV6:Vn=6
 · subst eV6
   have hst:Aside0 (stMethod s r = .ok (⟨s.f0,s.f1,s.f2,s.f3,((r.f2 != 0)),s.f5,s.f6⟩,true)):=⟨by unfold stMethod;simp only [hL.out,hV.out,eL1,eL2,eL3,eL4,eV5,if_true,if_false,reduceIte,Int.reduceEq]⟩
   go_enter Try.func94,Try.ntmps94
   go_wp2_with (first|((with_reducible refine jjq (N:=2) rfl ?_);(try (refine jj6 (by rfl) ?_;dsimp only));refine bxR 2 c BQ0 HC ?_;intro gb w1 HB BK BQ hcv HGB s0_ s1_ s2_ s3_;have x4_:_=some ((.bool s.f4):Value):=bzC BQ 4;have y4_:=jj2 BQ.out 4)|(go_at_call 58;(with_reducible refine ofR (ozL hL) HC HB BK BQ ?_);clear HB BK BQ hcv s0_ s1_ s2_ s3_ x4_ y4_;intro w2 HB BK BQ hcv s0_ s1_ s2_ s3_;have x4_:_=some ((.bool s.f4):Value):=bzC BQ 4;have y4_:=jj2 BQ.out 4)|(go_at_call 63;(with_reducible refine ofR (ozV hV) HC HB BK BQ ?_);clear HB BK BQ hcv s0_ s1_ s2_ s3_ x4_ y4_;intro w2 HB BK BQ hcv s0_ s1_ s2_ s3_;have x4_:_=some ((.bool s.f4):Value):=bzC BQ 4;have y4_:=jj2 BQ.out 4)|((with_reducible refine jjz (t:=4) (p:=50) rfl ?_);refine czE q 4 53 (.bool (r.f2 != 0)) BQ.out ?_;intro w9 h1_ h2_ h3_ h4_;have BQ9:=mk0 h1_;have HB9:=mk0 h2_;have HK9:=mk0 h3_;have HS9:=mk0 h4_;clear h1_ h2_ h3_ h4_))
   go_ret
   rw [hst.out]
   have hs_:=hszL HK9 HQ HB
   exact jq (CMethod_slots _) HQ.out HQL.out (HB9.out _ _ HQ0.out (jj1 HB0.out HB0.out.size HB.out)) (Nat.le_trans HB.out.size HS9.out) (mix f W.heap.size) (fun k hk=>jk hk) (fun k hk h0=>hs_ k hk (fun e=>h0 (.inr e))) BQ9.out (⟨_,_,rfl,jk8 G5.out (fun k hk=>jk hk) (fun k hk h0=>hs_ k hk (by omega)),jk8 G6.out (fun k hk=>jk hk) (fun k hk h0=>hs_ k hk (by omega))⟩)
 have fV6:(Vn==6)=false:=beq_eq_false_iff_ne.2 eV6
 have hst:Aside0 (stMethod s r = .ok (s,false)):=⟨by unfold stMethod;simp only [hL.out,hV.out,eL1,eL2,eL3,eL4,eV5,eV6,if_false,reduceIte]⟩
 go_enter Try.func94,Try.ntmps94
 go_wp2_with (first|((with_reducible refine jjq (N:=2) rfl ?_);(try (refine jj6 (by rfl) ?_;dsimp only));refine bxR 2 c BQ0 HC ?_;intro gb w1 HB BK BQ hcv HGB s0_ s1_ s2_ s3_)|(go_at_call 58;(with_reducible refine ofR (ozL hL) HC HB BK BQ ?_);clear HB BK BQ hcv s0_ s1_ s2_ s3_;intro w2 HB BK BQ hcv s0_ s1_ s2_ s3_)|(go_at_call 63;(with_reducible refine ofR (ozV hV) HC HB BK BQ ?_);clear HB BK BQ hcv s0_ s1_ s2_ s3_;intro w2 HB BK BQ hcv s0_ s1_ s2_ s3_))
 go_ret
 rw [hst.out]
 exact leaf_keep (CMethod_slots _) HQ0.out HT.out HB0.out HB.out _
theorem cloMethod (q:Nat) (W0:World) (hq0:W0.heap.size≤q):Taker (stMethod) cntMethod (St (CMethod W0.heap.size) 53 q) W0 94 #[] #[.pointer (some ⟨q,0,none⟩)] where
 enters:=fun args w=>enters_ Try.func94 (by kernel_rfl) (by kernel_rfl) args w
 move:=fun f f' s W W' h h1 h2 h3=>St.move (CMethod_slots _) h h1 h2
 up:=fun s r p h=>cntMethod_up s r p h
 call:=fun f s W r A c hT hB hr hlen hcnt hc hF=>cloMethod_call q W0 hq0 f s W r A c hT hB hr hlen hcnt hc hF
theorem uMethod_c (b:List Int) (A:Option Addr) (c:Nat) (w:World) (hb:Bytes b) (hl:b.length < 4294967296) (hC:Kd.C (Kd.int .u8) w A b.length b) (hc:b.length≤c) :
 Calls Try.prog 85 #[.slice A b.length c] w fun e w'=>Ans k53 w e w' (uMethod b):=by
 have HC:=mk0 hC
 have HI:=mk0 (Below.refl w.heap.size w)
 clear hC
 cases hres_:readU stMethod b z53 with
 | error m=>
  have hu:Aside0 (uMethod b = .error m):=⟨by unfold uMethod;rw [hres_]⟩
  have hres:=mk0 hres_
  clear hres_
  go_enter Try.func85,Try.ntmps85
  go_wp2_with (first|((with_reducible refine jjq (N:=2) rfl ?_);(try (refine jj6 (by rfl) ?_;dsimp only));refine bzX 2 #[.string (⟨#[]⟩:ByteArray),.string (⟨#[]⟩:ByteArray),.string (⟨#[]⟩:ByteArray),.bool false,.bool false,.slice none 0 0,.slice none 0 0] 53 ?_;intro g2 hg2 w1 hbox hb1;have HG2:=mk0 hg2;have BX:=mk0 hbox;have HB:=mk0 hb1;clear hg2 hbox hb1)|((with_reducible refine jjq (N:=3) rfl ?_);(try (refine jj6 (by rfl) ?_;dsimp only));refine bzX 3 #[.string (⟨#[]⟩:ByteArray),.string (⟨#[]⟩:ByteArray),.string (⟨#[]⟩:ByteArray),.bool false,.bool false,.slice none 0 0,.slice none 0 0] 53 ?_;intro q hgq w2 hbox hb2;have n0_:=mk0 (jj1 HB.out HB.out.size hb2);have n1_:=mk0 (jj3 BX.out hb2);have HNQ:=mk0 (show w.heap.size≤q from hgq ▸ HB.out.size);have HNE:=mk0 (show g2≠q from hgq ▸ Nat.ne_of_lt (jk4 BX.out));have BQ:=mk0 hbox;clear HB BX;have HB:=n0_;have BX:=n1_;clear n0_ n1_ hgq hbox hb2)|(go_at_call 56;refine (read_c (cloMethod q w HNQ.out) (f0:=ini w.heap.size g2 q) (fun _=>ini_lt) z53 rfl _ HB.out ⟨ini_q,_,BQ.out,⟨_,_,rfl,V_nil _ _,V_nil _ _⟩⟩ b A c hb hl (Kd.jj0 HC.out HB.out) hc).mono ?_;rintro e w4 h4;rw [hres.out] at h4;obtain ⟨rfl,hbz⟩:=h4;unfold thrown))
  rw [hu.out]
  exact ⟨rfl,rfl,hbz⟩
 | ok p=>
  obtain ⟨s,kept⟩:=p
  have hu:Aside0 (uMethod b = .ok ⟨s.f0,s.f1,s.f2,s.f3,s.f4,s.f5,kept⟩):=⟨by unfold uMethod;rw [hres_]⟩
  have hres:=mk0 hres_
  clear hres_
  go_enter Try.func85,Try.ntmps85
  go_wp2_with (first|((with_reducible refine jjq (N:=2) rfl ?_);(try (refine jj6 (by rfl) ?_;dsimp only));refine bzX 2 #[.string (⟨#[]⟩:ByteArray),.string (⟨#[]⟩:ByteArray),.string (⟨#[]⟩:ByteArray),.bool false,.bool false,.slice none 0 0,.slice none 0 0] 53 ?_;intro g2 hg2 w1 hbox hb1;have HG2:=mk0 hg2;have BX:=mk0 hbox;have HB:=mk0 hb1;clear hg2 hbox hb1)|((with_reducible refine jjq (N:=3) rfl ?_);(try (refine jj6 (by rfl) ?_;dsimp only));refine bzX 3 #[.string (⟨#[]⟩:ByteArray),.string (⟨#[]⟩:ByteArray),.string (⟨#[]⟩:ByteArray),.bool false,.bool false,.slice none 0 0,.slice none 0 0] 53 ?_;intro q hgq w2 hbox hb2;have n0_:=mk0 (jj1 HB.out HB.out.size hb2);have n1_:=mk0 (jj3 BX.out hb2);have HNQ:=mk0 (show w.heap.size≤q from hgq ▸ HB.out.size);have HNE:=mk0 (show g2≠q from hgq ▸ Nat.ne_of_lt (jk4 BX.out));have BQ:=mk0 hbox;clear HB BX;have HB:=n0_;have BX:=n1_;clear n0_ n1_ hgq hbox hb2)|(go_at_call 56;refine (read_c (cloMethod q w HNQ.out) (f0:=ini w.heap.size g2 q) (fun _=>ini_lt) z53 rfl _ HB.out ⟨ini_q,_,BQ.out,⟨_,_,rfl,V_nil _ _,V_nil _ _⟩⟩ b A c hb hl (Kd.jj0 HC.out HB.out) hc).mono ?_;rintro e w4 h4;rw [hres.out] at h4;obtain ⟨h1,h2,h3,f',v,rfl,h5,h6,h7⟩:=h4;obtain ⟨Av,cv,ev⟩:=Kd.jk5 h7;subst ev;obtain ⟨hq',cs,hbq,v5,v6,rfl,g5_,g6_⟩:=h6;obtain ⟨A5,c5,rfl,l5,F5⟩:=g5_;obtain ⟨A6,c6,rfl,l6,F6⟩:=g6_;have HNG:=mk0 (Nat.le_of_eq HG2.out.symm);have HFIN:=mk0 (ini_fin h5 (jk4 BX.out) (jk4 BQ.out) (Nat.le_of_eq HG2.out.symm) HNQ.out HNE.out);have BX4:=mk0 ((h3 g2 (jk4 BX.out) (ini_g HNE.out)).trans BX.out);have BQ4:=mk0 hbq;have HB4:=mk0 h2;have HV:=mk0 (Kd.R_F h7);have HVl:=mk0 (Kd.jj8 h7).2.1;have HVb:=mk0 (Kd.R_bound h7);have E5:=mk0 F5;have M5:=mk0 l5;have E6:=mk0 F6;have M6:=mk0 l6;clear h1 h2 h3 h5 h7 hbq hq' BX BQ HB HG2 F5 l5 F6 l6;have x6_:_=some (.slice A6 s.f6.length c6:Value):=bzC BQ4 6;have y6_:=jj2 BQ4.out 6)|((with_reducible refine jjz (t:=28) (p:=7) rfl ?_);refine czE q 6 53 (.slice Av kept.length cv) BQ4.out ?_;intro w5 h1_ h2_ h3_ h4_;have BQ5:=mk0 h1_;have HK5:=mk0 h3_;have HB5:=mk0 (h2_ _ _ HNQ.out HB4.out);have BX5:=mk0 ((h3_ g2 HNE.out).trans BX4.out);clear h1_ h2_ h3_ h4_ x6_ y6_;obtain ⟨x0_,x1_,x2_,x3_,x4_,x5_,x6_⟩:=cz7 BQ5.out)|((with_reducible refine jjz (t:=53) (p:=2) rfl ?_);refine Sw.store_whole rfl rfl rfl g2 53 _ _ rfl rfl BX5.out (by kernel_rfl) rfl rfl ?_;intro w6 h1_ h2_ h3_;have BX6:=mk0 h1_;have HB6:=mk0 (h2_ _ _ HNG.out HB5.out);have HK6:=mk0 h3_;clear h1_ h2_ h3_ x0_ x1_ x2_ x3_ x4_ x5_ x6_))
  refine bodyPost_ret (results_c1 rfl _ _ g2 53 #[.string s.f0,.string s.f1,.string s.f2,.bool s.f3,.bool s.f4,.slice A5 s.f5.length c5,.slice Av kept.length cv] (0,0) _ rfl BX6.out Try.underlying53 rfl (by kernel_rfl)) rfl ?_
  rw [hu.out]
  have hst_:∀ k,f' k≠997→f' k≠998→f' k≠999→w6.heap[k]?=w4.heap[k]?∧w.heap.size≤k:=fun k a7 a8 a9=>by obtain ⟨h1_,h2_,h3_⟩:=HFIN.out k a7 a8 a9;exact ⟨(HK6.out k h3_).trans (HK5.out k h2_),h1_⟩
  exact ⟨_,rfl,k53_mkF w6 _ (⟨s.f0,s.f1,s.f2,s.f3,s.f4,s.f5,kept⟩:S53) M5.out (Kd.F_mono (Kd.F_step (Kd.F_bound E5.out) (fun k hk hlt=>(hst_ k (by omega) (by omega) (by omega)).1)) (fun k hk=>(hst_ k (by omega) (by omega) (by omega)).2)) HVl.out (Kd.F_mono (Kd.F_step (Kd.F_bound HV.out) (fun k hk hlt=>(hst_ k (by omega) (by omega) (by omega)).1)) (fun k hk=>(hst_ k (by omega) (by omega) (by omega)).2)),HB6.out⟩
end Go.Proofs.Ytheoafenehckbaa.Ur
