/- undesc's reader of a Range. -/
import Derived.Test.YtheoafenehckbaaKA3
import Derived.Test.YtheoafenehckbaaKSh
import Derived.Test.YtheoafenehckbaaKSw
import Derived.WalkLawsBesides
set_option maxHeartbeats 8000000
set_option maxRecDepth 100000
namespace Go.Proofs.Ytheoafenehckbaa.Ur
open Go.RowKit GUndescBack YtheoafenehckbaaW.PrintWords YtheoafenehckbaaW.PrintLast YtheoafenehckbaaW.PrintMore Vb Fx Wr Wt Wj Wp Uq
set_option linter.unusedVariables false
set_option linter.unusedSimpArgs false
def stRange (s:S115) (r:S97):Except Int (S115 × Bool):=
 if ofV r=1 then .ok (⟨(wrap64 r.f2),s.f1⟩,true) else
 if ofV r=2 then .ok (⟨s.f0,(wrap64 (IntKind.u64.wrap (r.f2 - 1)))⟩,true) else
 .ok (s,true)
def uRange (b:List Int):Except Int S115:=match readU (stRange) b (⟨0,-1⟩:S115) with | .error n=>.error n | .ok p=>.ok p.1
def cntRange (s:S115):Nat:=0
theorem cntRange_up (s:S115) (r:S97) (p:S115 × Bool) (h:stRange s r = .ok p):cntRange p.1≤cntRange s+1:=by
 exact Nat.zero_le _
def CRange (B:Nat) (f:Nat→Nat) (s:S115) (W:World) (cs:Array Value):Prop:=cs=#[.int .i64 s.f0,.int .i64 s.f1]
theorem CRange_slots (B:Nat):Slots (CRange B):=fun _ _ _ _ _ _ h _ _=>h
theorem cloRange_call (q:Nat) (W0:World) (hq0:W0.heap.size≤q) (f:Nat→Nat) (s:S115) (W:World) (r:S97) (A:Option Addr) (c:Nat) (hT:St (CRange W0.heap.size) 115 q f s W) (hB:Below W0.heap.size W0 W) (hr:RawOk r) (hlen:r.f3.length < 4294967296) (hcnt:cntRange s < 4294967296) (hc:r.f3.length≤c) (hF:Kd.F (Kd.int .u8) W (fun k=>f k=0) A r.f3.length r.f3) :
 Calls Try.prog 91 #[.agg #[.int .i64 r.f0,.int .i64 r.f1,.int .u64 r.f2,.slice A r.f3.length c],.pointer (some ⟨q,0,none⟩)] W fun e W'=>Took (St (CRange W0.heap.size) 115 q) W0 f W e W' (stRange s r):=by
 have HT:=mk0 hT
 obtain ⟨hq,cs,hb,rfl⟩:=hT
 have HF:=mk0 hF
 have HC:=mk0 (Kd.F_now hF)
 have HR:=mk0 hr
 have HB0:=mk0 hB
 have BQ0:=mk0 hb
 have HQ:=mk0 hq
 have HQ0:=mk0 hq0
 have HQL:=mk0 (jk4 hb)
 clear  hF hr hB hb hq hq0
 obtain ⟨Ln,hL_⟩:∃ z,ofL r=z:=⟨_,rfl⟩
 obtain ⟨Vn,hV_⟩:∃ z,ofV r=z:=⟨_,rfl⟩
 have hL:=mk0 hL_
 have hV:=mk0 hV_
 clear hL_ hV_
 by_cases eV1:Vn=1
 · subst eV1
   have hst:Aside0 (stRange s r = .ok (⟨(wrap64 r.f2),s.f1⟩,true)):=⟨by unfold stRange;simp only [hL.out,hV.out,if_true,if_false,reduceIte,Int.reduceEq]⟩
   go_enter Try.func91,Try.ntmps91
   go_wp2_with (first|((with_reducible refine jjq (N:=2) rfl ?_);(try (refine jj6 (by rfl) ?_;dsimp only));refine bxR 2 c BQ0 HC ?_;intro gb w1 HB BK BQ hcv HGB s0_ s1_ s2_ s3_;have x0_:_=some ((.int .i64 s.f0):Value):=bzC BQ 0;have y0_:=jj2 BQ.out 0)|(go_at_call 63;(with_reducible refine ofR (ozV hV) HC HB BK BQ ?_);clear HB BK BQ hcv s0_ s1_ s2_ s3_ x0_ y0_;intro w2 HB BK BQ hcv s0_ s1_ s2_ s3_;have x0_:_=some ((.int .i64 s.f0):Value):=bzC BQ 0;have y0_:=jj2 BQ.out 0)|((with_reducible refine jjz (t:=2) (p:=11) rfl ?_);refine czE q 0 115 (.int .i64 (wrap64 r.f2)) BQ.out ?_;intro w9 h1_ h2_ h3_ h4_;have BQ9:=mk0 h1_;have HB9:=mk0 h2_;have HK9:=mk0 h3_;have HS9:=mk0 h4_;clear h1_ h2_ h3_ h4_))
   go_ret
   rw [hst.out]
   have hs_:=hszL HK9 HQ HB
   exact jq (CRange_slots _) HQ.out HQL.out (HB9.out _ _ HQ0.out (jj1 HB0.out HB0.out.size HB.out)) (Nat.le_trans HB.out.size HS9.out) (mix f W.heap.size) (fun k hk=>jk hk) (fun k hk h0=>hs_ k hk (fun e=>h0 (.inr e))) BQ9.out (rfl)
 have fV1:(Vn==1)=false:=beq_eq_false_iff_ne.2 eV1
 by_cases eV2:Vn=2
 · subst eV2
   have hst:Aside0 (stRange s r = .ok (⟨s.f0,(wrap64 (IntKind.u64.wrap (r.f2 - 1)))⟩,true)):=⟨by unfold stRange;simp only [hL.out,hV.out,eV1,if_true,if_false,reduceIte,Int.reduceEq]⟩
   go_enter Try.func91,Try.ntmps91
   go_wp2_with (first|((with_reducible refine jjq (N:=2) rfl ?_);(try (refine jj6 (by rfl) ?_;dsimp only));refine bxR 2 c BQ0 HC ?_;intro gb w1 HB BK BQ hcv HGB s0_ s1_ s2_ s3_;have x1_:_=some ((.int .i64 s.f1):Value):=bzC BQ 1;have y1_:=jj2 BQ.out 1)|(go_at_call 63;(with_reducible refine ofR (ozV hV) HC HB BK BQ ?_);clear HB BK BQ hcv s0_ s1_ s2_ s3_ x1_ y1_;intro w2 HB BK BQ hcv s0_ s1_ s2_ s3_;have x1_:_=some ((.int .i64 s.f1):Value):=bzC BQ 1;have y1_:=jj2 BQ.out 1)|((with_reducible refine jjz (t:=2) (p:=18) rfl ?_);refine czE q 1 115 (.int .i64 (wrap64 (IntKind.u64.wrap (r.f2 - 1)))) BQ.out ?_;intro w9 h1_ h2_ h3_ h4_;have BQ9:=mk0 h1_;have HB9:=mk0 h2_;have HK9:=mk0 h3_;have HS9:=mk0 h4_;clear h1_ h2_ h3_ h4_))
   go_ret
   rw [hst.out]
   have hs_:=hszL HK9 HQ HB
   exact jq (CRange_slots _) HQ.out HQL.out (HB9.out _ _ HQ0.out (jj1 HB0.out HB0.out.size HB.out)) (Nat.le_trans HB.out.size HS9.out) (mix f W.heap.size) (fun k hk=>jk hk) (fun k hk h0=>hs_ k hk (fun e=>h0 (.inr e))) BQ9.out (rfl)
 have fV2:(Vn==2)=false:=beq_eq_false_iff_ne.2 eV2
 have hst:Aside0 (stRange s r = .ok (s,true)):=⟨by unfold stRange;simp only [hL.out,hV.out,eV1,eV2,if_false,reduceIte]⟩
 go_enter Try.func91,Try.ntmps91
 go_wp2_with (first|((with_reducible refine jjq (N:=2) rfl ?_);(try (refine jj6 (by rfl) ?_;dsimp only));refine bxR 2 c BQ0 HC ?_;intro gb w1 HB BK BQ hcv HGB s0_ s1_ s2_ s3_)|(go_at_call 63;(with_reducible refine ofR (ozV hV) HC HB BK BQ ?_);clear HB BK BQ hcv s0_ s1_ s2_ s3_;intro w2 HB BK BQ hcv s0_ s1_ s2_ s3_))
 go_ret
 rw [hst.out]
 exact leaf_keep (CRange_slots _) HQ0.out HT.out HB0.out HB.out _
theorem cloRange (q:Nat) (W0:World) (hq0:W0.heap.size≤q):Taker (stRange) cntRange (St (CRange W0.heap.size) 115 q) W0 91 #[] #[.pointer (some ⟨q,0,none⟩)] where
 enters:=fun args w=>enters_ Try.func91 (by kernel_rfl) (by kernel_rfl) args w
 move:=fun f f' s W W' h h1 h2 h3=>St.move (CRange_slots _) h h1 h2
 up:=fun s r p h=>cntRange_up s r p h
 call:=fun f s W r A c hT hB hr hlen hcnt hc hF=>cloRange_call q W0 hq0 f s W r A c hT hB hr hlen hcnt hc hF
theorem uRange_c (b:List Int) (A:Option Addr) (c:Nat) (w:World) (hb:Bytes b) (hl:b.length < 4294967296) (hC:Kd.C (Kd.int .u8) w A b.length b) (hc:b.length≤c) :
 Calls Try.prog 80 #[.slice A b.length c] w fun e w'=>Ans k115 w e w' (uRange b):=by
 have HC:=mk0 hC
 have HI:=mk0 (Below.refl w.heap.size w)
 clear hC
 cases hres_:readU stRange b (⟨0,-1⟩:S115) with
 | error m=>
  have hu:Aside0 (uRange b = .error m):=⟨by unfold uRange;rw [hres_]⟩
  have hres:=mk0 hres_
  clear hres_
  go_enter Try.func80,Try.ntmps80
  go_wp2_with (first|((with_reducible refine jjq (N:=2) rfl ?_);(try (refine jj6 (by rfl) ?_;dsimp only));refine bzX 2 #[.int .i64 0,.int .i64 0] 115 ?_;intro g2 hg2 w1 hbox hb1;have HG2:=mk0 hg2;have BX:=mk0 hbox;have HB:=mk0 hb1;clear hg2 hbox hb1)|((with_reducible refine jjq (N:=3) rfl ?_);(try (refine jj6 (by rfl) ?_;dsimp only));refine bzX 3 #[.int .i64 0,.int .i64 0] 115 ?_;intro q hgq w2 hbox hb2;have n0_:=mk0 (jj1 HB.out HB.out.size hb2);have n1_:=mk0 (jj3 BX.out hb2);have HNQ:=mk0 (show w.heap.size≤q from hgq ▸ HB.out.size);have HNE:=mk0 (show g2≠q from hgq ▸ Nat.ne_of_lt (jk4 BX.out));have BQ:=mk0 hbox;clear HB BX;have HB:=n0_;have BX:=n1_;clear n0_ n1_ hgq hbox hb2)|((with_reducible refine jjz (t:=115) (p:=3) rfl ?_);refine Sw.store_whole rfl rfl rfl q 115 _ _ rfl rfl BQ.out (by kernel_rfl) rfl rfl ?_;intro w3 h1_ h2_ h3_;have n0_:=mk0 (h2_ _ _ HNQ.out HB.out);have n1_:=mk0 ((h3_ g2 HNE.out).trans BX.out);have n2_:=mk0 h1_;clear HB BX BQ h1_ h2_ h3_;have HB:=n0_;have BX:=n1_;have BQ:=n2_;clear n0_ n1_ n2_)|(go_at_call 56;refine (read_c (cloRange q w HNQ.out) (f0:=ini w.heap.size g2 q) (fun _=>ini_lt) (⟨0,-1⟩:S115) rfl _ HB.out ⟨ini_q,_,BQ.out,rfl⟩ b A c hb hl (Kd.jj0 HC.out HB.out) hc).mono ?_;rintro e w4 h4;rw [hres.out] at h4;obtain ⟨rfl,hbz⟩:=h4;unfold thrown))
  rw [hu.out]
  exact ⟨rfl,rfl,hbz⟩
 | ok p=>
  obtain ⟨s,kept⟩:=p
  have hu:Aside0 (uRange b = .ok s):=⟨by unfold uRange;rw [hres_]⟩
  have hres:=mk0 hres_
  clear hres_
  go_enter Try.func80,Try.ntmps80
  go_wp2_with (first|((with_reducible refine jjq (N:=2) rfl ?_);(try (refine jj6 (by rfl) ?_;dsimp only));refine bzX 2 #[.int .i64 0,.int .i64 0] 115 ?_;intro g2 hg2 w1 hbox hb1;have HG2:=mk0 hg2;have BX:=mk0 hbox;have HB:=mk0 hb1;clear hg2 hbox hb1)|((with_reducible refine jjq (N:=3) rfl ?_);(try (refine jj6 (by rfl) ?_;dsimp only));refine bzX 3 #[.int .i64 0,.int .i64 0] 115 ?_;intro q hgq w2 hbox hb2;have n0_:=mk0 (jj1 HB.out HB.out.size hb2);have n1_:=mk0 (jj3 BX.out hb2);have HNQ:=mk0 (show w.heap.size≤q from hgq ▸ HB.out.size);have HNE:=mk0 (show g2≠q from hgq ▸ Nat.ne_of_lt (jk4 BX.out));have BQ:=mk0 hbox;clear HB BX;have HB:=n0_;have BX:=n1_;clear n0_ n1_ hgq hbox hb2)|((with_reducible refine jjz (t:=115) (p:=3) rfl ?_);refine Sw.store_whole rfl rfl rfl q 115 _ _ rfl rfl BQ.out (by kernel_rfl) rfl rfl ?_;intro w3 h1_ h2_ h3_;have n0_:=mk0 (h2_ _ _ HNQ.out HB.out);have n1_:=mk0 ((h3_ g2 HNE.out).trans BX.out);have n2_:=mk0 h1_;clear HB BX BQ h1_ h2_ h3_;have HB:=n0_;have BX:=n1_;have BQ:=n2_;clear n0_ n1_ n2_)|(go_at_call 56;refine (read_c (cloRange q w HNQ.out) (f0:=ini w.heap.size g2 q) (fun _=>ini_lt) (⟨0,-1⟩:S115) rfl _ HB.out ⟨ini_q,_,BQ.out,rfl⟩ b A c hb hl (Kd.jj0 HC.out HB.out) hc).mono ?_;rintro e w4 h4;rw [hres.out] at h4;obtain ⟨h1,h2,h3,f',v,rfl,h5,h6,h7⟩:=h4;obtain ⟨Av,cv,ev⟩:=Kd.jk5 h7;subst ev;obtain ⟨hq',cs,hbq,rfl⟩:=h6;have HNG:=mk0 (Nat.le_of_eq HG2.out.symm);have HFIN:=mk0 (ini_fin h5 (jk4 BX.out) (jk4 BQ.out) (Nat.le_of_eq HG2.out.symm) HNQ.out HNE.out);have BX4:=mk0 ((h3 g2 (jk4 BX.out) (ini_g HNE.out)).trans BX.out);have BQ4:=mk0 hbq;have HB4:=mk0 h2;have HV:=mk0 (Kd.R_F h7);have HVl:=mk0 (Kd.jj8 h7).2.1;have HVb:=mk0 (Kd.R_bound h7);clear h1 h2 h3 h5 h7 hbq hq' BX BQ HB HG2 ;obtain ⟨x0_,x1_⟩:=cz2 BQ4.out)|((with_reducible refine jjz (t:=115) (p:=2) rfl ?_);refine Sw.store_whole rfl rfl rfl g2 115 _ _ rfl rfl BX4.out (by kernel_rfl) rfl rfl ?_;intro w6 h1_ h2_ h3_;have BX6:=mk0 h1_;have HB6:=mk0 (h2_ _ _ HNG.out HB4.out);have HK6:=mk0 h3_;clear h1_ h2_ h3_ x0_ x1_))
  refine bodyPost_ret (results_c1 rfl _ _ g2 115 #[.int .i64 s.f0,.int .i64 s.f1] (0,0) _ rfl BX6.out Try.underlying115 rfl (by kernel_rfl)) rfl ?_
  rw [hu.out]
  have hst_:∀ k,f' k≠997→f' k≠998→f' k≠999→w6.heap[k]?=w4.heap[k]?∧w.heap.size≤k:=fun k a7 a8 a9=>by obtain ⟨h1_,h2_,h3_⟩:=HFIN.out k a7 a8 a9;exact ⟨HK6.out k h3_,h1_⟩
  exact ⟨_,rfl,k115_mkF w6 _ (s:S115) ,HB6.out⟩
end Go.Proofs.Ytheoafenehckbaa.Ur
