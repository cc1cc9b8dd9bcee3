/- undesc's reader of a Oneof. -/
import Derived.Test.YtheoafenehckbaaKA3
import Derived.Test.YtheoafenehckbaaKSh
import Derived.Test.YtheoafenehckbaaKSw
import Derived.WalkLawsBesides
set_option maxHeartbeats 8000000
set_option maxRecDepth 100000
namespace Go.Proofs.Ytheoafenehckbaa.Ur
open Go.RowKit GUndescBack YtheoafenehckbaaW.PrintWords YtheoafenehckbaaW.PrintLast YtheoafenehckbaaW.PrintMore Vb Fx Wr Wt Wj Wp Uq
set_option linter.unusedVariables false
set_option linter.unusedSimpArgs false
def stOneof (s:S91) (r:S97):Except Int (S91 × Bool):=
 if ofL r=1 then .ok (⟨(strOfNums r.f3),s.f1,s.f2⟩,true) else
 if ofL r=2 then .ok (⟨s.f0,(r.f3),s.f2⟩,true) else
 .ok (s,false)
def uOneof (b:List Int):Except Int S91:=match readU (stOneof) b z91 with | .error n=>.error n | .ok p=>.ok ⟨p.1.f0,p.1.f1,p.2⟩
def cntOneof (s:S91):Nat:=0
theorem cntOneof_up (s:S91) (r:S97) (p:S91 × Bool) (h:stOneof s r = .ok p):cntOneof p.1≤cntOneof s+1:=by
 exact Nat.zero_le _
def COneof (B:Nat) (f:Nat→Nat) (s:S91) (W:World) (cs:Array Value):Prop:=∃ v1 v2:Value,cs=#[.string s.f0,v1,v2]∧V_ f W v1 s.f1∧V_ f W v2 s.f2
theorem COneof_slots (B:Nat):Slots (COneof B):=by
 rintro f f' s W W' cs ⟨v1,v2,rfl,g1,g2⟩ h1 h2
 exact ⟨v1,v2,rfl,jk8 g1 h1 (fun k hk h0=>h2 k hk (by omega)),jk8 g2 h1 (fun k hk h0=>h2 k hk (by omega))⟩
theorem cloOneof_call (q:Nat) (W0:World) (hq0:W0.heap.size≤q) (f:Nat→Nat) (s:S91) (W:World) (r:S97) (A:Option Addr) (c:Nat) (hT:St (COneof W0.heap.size) 91 q f s W) (hB:Below W0.heap.size W0 W) (hr:RawOk r) (hlen:r.f3.length < 4294967296) (hcnt:cntOneof s < 4294967296) (hc:r.f3.length≤c) (hF:Kd.F (Kd.int .u8) W (fun k=>f k=0) A r.f3.length r.f3) :
 Calls Try.prog 92 #[.agg #[.int .i64 r.f0,.int .i64 r.f1,.int .u64 r.f2,.slice A r.f3.length c],.pointer (some ⟨q,0,none⟩)] W fun e W'=>Took (St (COneof W0.heap.size) 91 q) W0 f W e W' (stOneof s r):=by
 have HT:=mk0 hT
 obtain ⟨hq,cs,hb,v1,v2,rfl,g1_,g2_⟩:=hT
 have G1:=mk0 g1_
 have G2:=mk0 g2_
 have HF:=mk0 hF
 have HC:=mk0 (Kd.F_now hF)
 have HR:=mk0 hr
 have HB0:=mk0 hB
 have BQ0:=mk0 hb
 have HQ:=mk0 hq
 have HQ0:=mk0 hq0
 have HQL:=mk0 (jk4 hb)
 clear g1_ g2_ hF hr hB hb hq hq0
 obtain ⟨Ln,hL_⟩:∃ z,ofL r=z:=⟨_,rfl⟩
 obtain ⟨Vn,hV_⟩:∃ z,ofV r=z:=⟨_,rfl⟩
 have hL:=mk0 hL_
 have hV:=mk0 hV_
 clear hL_ hV_
 by_cases eL1:Ln=1
 · subst eL1
   have hst:Aside0 (stOneof s r = .ok (⟨(strOfNums r.f3),s.f1,s.f2⟩,true)):=⟨by unfold stOneof;simp only [hL.out,hV.out,if_true,if_false,reduceIte,Int.reduceEq]⟩
   go_enter Try.func92,Try.ntmps92
   go_wp2_with (first|((with_reducible refine jjq (N:=2) rfl ?_);(try (refine jj6 (by rfl) ?_;dsimp only));refine bxR 2 c BQ0 HC ?_;intro gb w1 HB BK BQ hcv HGB s0_ s1_ s2_ s3_;have x0_:_=some ((.string s.f0):Value):=bzC BQ 0;have y0_:=jj2 BQ.out 0)|(go_at_call 58;(with_reducible refine ofR (ozL hL) HC HB BK BQ ?_);clear HB BK BQ hcv s0_ s1_ s2_ s3_ x0_ y0_;intro w2 HB BK BQ hcv s0_ s1_ s2_ s3_;have x0_:_=some ((.string s.f0):Value):=bzC BQ 0;have y0_:=jj2 BQ.out 0)|((with_reducible refine jjz (t:=9) (p:=11) rfl ?_);refine czE q 0 91 (.string (strOfNums r.f3)) BQ.out ?_;intro w9 h1_ h2_ h3_ h4_;have BQ9:=mk0 h1_;have HB9:=mk0 h2_;have HK9:=mk0 h3_;have HS9:=mk0 h4_;clear h1_ h2_ h3_ h4_))
   go_ret
   rw [hst.out]
   have hs_:=hszL HK9 HQ HB
   exact jq (COneof_slots _) HQ.out HQL.out (HB9.out _ _ HQ0.out (jj1 HB0.out HB0.out.size HB.out)) (Nat.le_trans HB.out.size HS9.out) (mix f W.heap.size) (fun k hk=>jk hk) (fun k hk h0=>hs_ k hk (fun e=>h0 (.inr e))) BQ9.out (⟨_,_,rfl,jk8 G1.out (fun k hk=>jk hk) (fun k hk h0=>hs_ k hk (by omega)),jk8 G2.out (fun k hk=>jk hk) (fun k hk h0=>hs_ k hk (by omega))⟩)
 have fL1:(Ln==1)=false:=beq_eq_false_iff_ne.2 eL1
 by_cases eL2:Ln=2
 · subst eL2
   have hst:Aside0 (stOneof s r = .ok (⟨s.f0,(r.f3),s.f2⟩,true)):=⟨by unfold stOneof;simp only [hL.out,hV.out,eL1,if_true,if_false,reduceIte,Int.reduceEq]⟩
   go_enter Try.func92,Try.ntmps92
   go_wp2_with (first|((with_reducible refine jjq (N:=2) rfl ?_);(try (refine jj6 (by rfl) ?_;dsimp only));refine bxR 2 c BQ0 HC ?_;intro gb w1 HB BK BQ hcv HGB s0_ s1_ s2_ s3_;have x1_:_=some ((v1):Value):=bzC BQ 1;have y1_:=jj2 BQ.out 1)|(go_at_call 58;(with_reducible refine ofR (ozL hL) HC HB BK BQ ?_);clear HB BK BQ hcv s0_ s1_ s2_ s3_ x1_ y1_;intro w2 HB BK BQ hcv s0_ s1_ s2_ s3_;have x1_:_=some ((v1):Value):=bzC BQ 1;have y1_:=jj2 BQ.out 1)|((with_reducible refine jjz (t:=28) (p:=16) rfl ?_);refine czE q 1 91 (.slice A r.f3.length c) BQ.out ?_;intro w9 h1_ h2_ h3_ h4_;have BQ9:=mk0 h1_;have HB9:=mk0 h2_;have HK9:=mk0 h3_;have HS9:=mk0 h4_;clear h1_ h2_ h3_ h4_))
   go_ret
   rw [hst.out]
   have hs_:=hszL HK9 HQ HB
   exact jq (COneof_slots _) HQ.out HQL.out (HB9.out _ _ HQ0.out (jj1 HB0.out HB0.out.size HB.out)) (Nat.le_trans HB.out.size HS9.out) (mix f W.heap.size) (fun k hk=>jk hk) (fun k hk h0=>hs_ k hk (fun e=>h0 (.inr e))) BQ9.out (⟨_,_,rfl,jk8 (V_F hc HF.out) (fun k hk=>jk hk) (fun k hk h0=>hs_ k hk (by omega)),jk8 G2.out (fun k hk=>jk hk) (fun k hk h0=>hs_ k hk (by omega))⟩)
 have fL2:(Ln==2)=false:=beq_eq_false_iff_ne.2 eL2
 have hst:Aside0 (stOneof s r = .ok (s,false)):=⟨by unfold stOneof;simp only [hL.out,hV.out,eL1,eL2,if_false,reduceIte]⟩
 go_enter Try.func92,Try.ntmps92
 go_wp2_with (first|((with_reducible refine jjq (N:=2) rfl ?_);(try (refine jj6 (by rfl) ?_;dsimp only));refine bxR 2 c BQ0 HC ?_;intro gb w1 HB BK BQ hcv HGB s0_ s1_ s2_ s3_)|(go_at_call 58;(with_reducible refine ofR (ozL hL) HC HB BK BQ ?_);clear HB BK BQ hcv s0_ s1_ s2_ s3_;intro w2 HB BK BQ hcv s0_ s1_ s2_ s3_))
 go_ret
 rw [hst.out]
 exact leaf_keep (COneof_slots _) HQ0.out HT.out HB0.out HB.out _
theorem cloOneof (q:Nat) (W0:World) (hq0:W0.heap.size≤q):Taker (stOneof) cntOneof (St (COneof W0.heap.size) 91 q) W0 92 #[] #[.pointer (some ⟨q,0,none⟩)] where
 enters:=fun args w=>enters_ Try.func92 (by kernel_rfl) (by kernel_rfl) args w
 move:=fun f f' s W W' h h1 h2 h3=>St.move (COneof_slots _) h h1 h2
 up:=fun s r p h=>cntOneof_up s r p h
 call:=fun f s W r A c hT hB hr hlen hcnt hc hF=>cloOneof_call q W0 hq0 f s W r A c hT hB hr hlen hcnt hc hF
theorem uOneof_c (b:List Int) (A:Option Addr) (c:Nat) (w:World) (hb:Bytes b) (hl:b.length < 4294967296) (hC:Kd.C (Kd.int .u8) w A b.length b) (hc:b.length≤c) :
 Calls Try.prog 81 #[.slice A b.length c] w fun e w'=>Ans k91 w e w' (uOneof b):=by
 have HC:=mk0 hC
 have HI:=mk0 (Below.refl w.heap.size w)
 clear hC
 cases hres_:readU stOneof b z91 with
 | error m=>
  have hu:Aside0 (uOneof b = .error m):=⟨by unfold uOneof;rw [hres_]⟩
  have hres:=mk0 hres_
  clear hres_
  go_enter Try.func81,Try.ntmps81
  go_wp2_with (first|((with_reducible refine jjq (N:=2) rfl ?_);(try (refine jj6 (by rfl) ?_;dsimp only));refine bzX 2 #[.string (⟨#[]⟩:ByteArray),.slice none 0 0,.slice none 0 0] 91 ?_;intro g2 hg2 w1 hbox hb1;have HG2:=mk0 hg2;have BX:=mk0 hbox;have HB:=mk0 hb1;clear hg2 hbox hb1)|((with_reducible refine jjq (N:=3) rfl ?_);(try (refine jj6 (by rfl) ?_;dsimp only));refine bzX 3 #[.string (⟨#[]⟩:ByteArray),.slice none 0 0,.slice none 0 0] 91 ?_;intro q hgq w2 hbox hb2;have n0_:=mk0 (jj1 HB.out HB.out.size hb2);have n1_:=mk0 (jj3 BX.out hb2);have HNQ:=mk0 (show w.heap.size≤q from hgq ▸ HB.out.size);have HNE:=mk0 (show g2≠q from hgq ▸ Nat.ne_of_lt (jk4 BX.out));have BQ:=mk0 hbox;clear HB BX;have HB:=n0_;have BX:=n1_;clear n0_ n1_ hgq hbox hb2)|(go_at_call 56;refine (read_c (cloOneof q w HNQ.out) (f0:=ini w.heap.size g2 q) (fun _=>ini_lt) z91 rfl _ HB.out ⟨ini_q,_,BQ.out,⟨_,_,rfl,V_nil _ _,V_nil _ _⟩⟩ b A c hb hl (Kd.jj0 HC.out HB.out) hc).mono ?_;rintro e w4 h4;rw [hres.out] at h4;obtain ⟨rfl,hbz⟩:=h4;unfold thrown))
  rw [hu.out]
  exact ⟨rfl,rfl,hbz⟩
 | ok p=>
  obtain ⟨s,kept⟩:=p
  have hu:Aside0 (uOneof b = .ok ⟨s.f0,s.f1,kept⟩):=⟨by unfold uOneof;rw [hres_]⟩
  have hres:=mk0 hres_
  clear hres_
  go_enter Try.func81,Try.ntmps81
  go_wp2_with (first|((with_reducible refine jjq (N:=2) rfl ?_);(try (refine jj6 (by rfl) ?_;dsimp only));refine bzX 2 #[.string (⟨#[]⟩:ByteArray),.slice none 0 0,.slice none 0 0] 91 ?_;intro g2 hg2 w1 hbox hb1;have HG2:=mk0 hg2;have BX:=mk0 hbox;have HB:=mk0 hb1;clear hg2 hbox hb1)|((with_reducible refine jjq (N:=3) rfl ?_);(try (refine jj6 (by rfl) ?_;dsimp only));refine bzX 3 #[.string (⟨#[]⟩:ByteArray),.slice none 0 0,.slice none 0 0] 91 ?_;intro q hgq w2 hbox hb2;have n0_:=mk0 (jj1 HB.out HB.out.size hb2);have n1_:=mk0 (jj3 BX.out hb2);have HNQ:=mk0 (show w.heap.size≤q from hgq ▸ HB.out.size);have HNE:=mk0 (show g2≠q from hgq ▸ Nat.ne_of_lt (jk4 BX.out));have BQ:=mk0 hbox;clear HB BX;have HB:=n0_;have BX:=n1_;clear n0_ n1_ hgq hbox hb2)|(go_at_call 56;refine (read_c (cloOneof q w HNQ.out) (f0:=ini w.heap.size g2 q) (fun _=>ini_lt) z91 rfl _ HB.out ⟨ini_q,_,BQ.out,⟨_,_,rfl,V_nil _ _,V_nil _ _⟩⟩ b A c hb hl (Kd.jj0 HC.out HB.out) hc).mono ?_;rintro e w4 h4;rw [hres.out] at h4;obtain ⟨h1,h2,h3,f',v,rfl,h5,h6,h7⟩:=h4;obtain ⟨Av,cv,ev⟩:=Kd.jk5 h7;subst ev;obtain ⟨hq',cs,hbq,v1,v2,rfl,g1_,g2_⟩:=h6;obtain ⟨A1,c1,rfl,l1,F1⟩:=g1_;obtain ⟨A2,c2,rfl,l2,F2⟩:=g2_;have HNG:=mk0 (Nat.le_of_eq HG2.out.symm);have HFIN:=mk0 (ini_fin h5 (jk4 BX.out) (jk4 BQ.out) (Nat.le_of_eq HG2.out.symm) HNQ.out HNE.out);have BX4:=mk0 ((h3 g2 (jk4 BX.out) (ini_g HNE.out)).trans BX.out);have BQ4:=mk0 hbq;have HB4:=mk0 h2;have HV:=mk0 (Kd.R_F h7);have HVl:=mk0 (Kd.jj8 h7).2.1;have HVb:=mk0 (Kd.R_bound h7);have E1:=mk0 F1;have M1:=mk0 l1;have E2:=mk0 F2;have M2:=mk0 l2;clear h1 h2 h3 h5 h7 hbq hq' BX BQ HB HG2 F1 l1 F2 l2;have x2_:_=some (.slice A2 s.f2.length c2:Value):=bzC BQ4 2;have y2_:=jj2 BQ4.out 2)|((with_reducible refine jjz (t:=28) (p:=7) rfl ?_);refine czE q 2 91 (.slice Av kept.length cv) BQ4.out ?_;intro w5 h1_ h2_ h3_ h4_;have BQ5:=mk0 h1_;have HK5:=mk0 h3_;have HB5:=mk0 (h2_ _ _ HNQ.out HB4.out);have BX5:=mk0 ((h3_ g2 HNE.out).trans BX4.out);clear h1_ h2_ h3_ h4_ x2_ y2_;obtain ⟨x0_,x1_,x2_⟩:=cz3 BQ5.out)|((with_reducible refine jjz (t:=91) (p:=2) rfl ?_);refine Sw.store_whole rfl rfl rfl g2 91 _ _ rfl rfl BX5.out (by kernel_rfl) rfl rfl ?_;intro w6 h1_ h2_ h3_;have BX6:=mk0 h1_;have HB6:=mk0 (h2_ _ _ HNG.out HB5.out);have HK6:=mk0 h3_;clear h1_ h2_ h3_ x0_ x1_ x2_))
  refine bodyPost_ret (results_c1 rfl _ _ g2 91 #[.string s.f0,.slice A1 s.f1.length c1,.slice Av kept.length cv] (0,0) _ rfl BX6.out Try.underlying91 rfl (by kernel_rfl)) rfl ?_
  rw [hu.out]
  have hst_:∀ k,f' k≠997→f' k≠998→f' k≠999→w6.heap[k]?=w4.heap[k]?∧w.heap.size≤k:=fun k a7 a8 a9=>by obtain ⟨h1_,h2_,h3_⟩:=HFIN.out k a7 a8 a9;exact ⟨(HK6.out k h3_).trans (HK5.out k h2_),h1_⟩
  exact ⟨_,rfl,k91_mkF w6 _ (⟨s.f0,s.f1,kept⟩:S91) M1.out (Kd.F_mono (Kd.F_step (Kd.F_bound E1.out) (fun k hk hlt=>(hst_ k (by omega) (by omega) (by omega)).1)) (fun k hk=>(hst_ k (by omega) (by omega) (by omega)).2)) HVl.out (Kd.F_mono (Kd.F_step (Kd.F_bound HV.out) (fun k hk hlt=>(hst_ k (by omega) (by omega) (by omega)).1)) (fun k hk=>(hst_ k (by omega) (by omega) (by omega)).2)),HB6.out⟩
end Go.Proofs.Ytheoafenehckbaa.Ur
