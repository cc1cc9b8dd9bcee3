/- undesc's reader of a Enum. -/
import Derived.Test.YtheoafenehckbaaKA3
import Derived.Test.YtheoafenehckbaaKSh
import Derived.Test.YtheoafenehckbaaKSw
import Derived.Test.YtheoafenehckbaaKVValue
import Derived.WalkLawsBesides
set_option maxHeartbeats 8000000
set_option maxRecDepth 100000
namespace Go.Proofs.Ytheoafenehckbaa.Ur
open Go.RowKit GUndescBack YtheoafenehckbaaW.PrintWords YtheoafenehckbaaW.PrintLast YtheoafenehckbaaW.PrintMore Vb Fx Wr Wt Wj Wp Uq
set_option linter.unusedVariables false
set_option linter.unusedSimpArgs false
def stEnum (s:S82) (r:S97):Except Int (S82 × Bool):=
 if ofL r=1 then .ok (⟨(strOfNums r.f3),s.f1,s.f2,s.f3⟩,true) else
 if ofL r=2 then match uValue r.f3 with | .error n=>.error n | .ok x=>.ok (⟨s.f0,(s.f1++[x]),s.f2,s.f3⟩,true) else
 if ofL r=3 then .ok (⟨s.f0,s.f1,(r.f3),s.f3⟩,true) else
 .ok (s,false)
def uEnum (b:List Int):Except Int S82:=match readU (stEnum) b z82 with | .error n=>.error n | .ok p=>.ok ⟨p.1.f0,p.1.f1,p.1.f2,p.2⟩
def cntEnum (s:S82):Nat:=s.f1.length
theorem cntEnum_up (s:S82) (r:S97) (p:S82 × Bool) (h:stEnum s r = .ok p):cntEnum p.1≤cntEnum s+1:=by
 unfold stEnum at h
 unfold cntEnum
 by_cases eL1:ofL r=1
 · rw [if_pos eL1] at h
   cases h
   (try dsimp only)
   (try simp only [List.length_append,List.length_singleton])
   omega
 rw [if_neg eL1] at h
 by_cases eL2:ofL r=2
 · rw [if_pos eL2] at h
   cases hx:uValue r.f3 with
   | error n=>rw [hx] at h;cases h
   | ok x=>
    rw [hx] at h
    cases h
    (try dsimp only)
    (try simp only [List.length_append,List.length_singleton])
    omega
 rw [if_neg eL2] at h
 by_cases eL3:ofL r=3
 · rw [if_pos eL3] at h
   cases h
   (try dsimp only)
   (try simp only [List.length_append,List.length_singleton])
   omega
 rw [if_neg eL3] at h
 cases h
 exact Nat.le_succ _
def CEnum (B:Nat) (f:Nat→Nat) (s:S82) (W:World) (cs:Array Value):Prop:=∃ v1 v2 v3:Value,cs=#[.string s.f0,v1,v2,v3]∧L_ k93 93 B 2 f W v1 s.f1∧V_ f W v2 s.f2∧V_ f W v3 s.f3
theorem CEnum_slots (B:Nat):Slots (CEnum B):=by
 rintro f f' s W W' cs ⟨v1,v2,v3,rfl,g1,g2,g3⟩ h1 h2
 exact ⟨v1,v2,v3,rfl,jk1 g1 h1 (fun k hk h0=>h2 k hk (by omega)),jk8 g2 h1 (fun k hk h0=>h2 k hk (by omega)),jk8 g3 h1 (fun k hk h0=>h2 k hk (by omega))⟩
theorem iEnumValue:(Try.prog.info? 93).map (fun i=>(i.zero,i.size,i.bytes))=some (some (.agg #[.string (⟨#[]⟩:ByteArray),.int .i64 0,.slice none 0 0,.slice none 0 0]),4,72):=by kernel_rfl
def tEnum6.T6:Bool × List (List Nat × List Nat):=(true,[([],[]),([0],[0]),([],[]),([2],[2]),([3],[3]),([4],[4]),([1,5,4],[1,5]),([0,1,2,3,4,5,6],[]),([7,6,6,0,1,2,3,4,5,6],[6,7])])
def tEnum6.B6:List Nat:=[0,1,0,4,12,28,63,127,255]
theorem tEnum6.tab6:rtab .any (opsOf Try.f82 6)=tEnum6.T6:=by kernel_rfl
theorem tEnum6.bits6:waitsOk tEnum6.T6.2 tEnum6.B6=true:=by kernel_rfl
theorem cloEnum_call (q:Nat) (W0:World) (hq0:W0.heap.size≤q) (f:Nat→Nat) (s:S82) (W:World) (r:S97) (A:Option Addr) (c:Nat) (hT:St (CEnum W0.heap.size) 82 q f s W) (hB:Below W0.heap.size W0 W) (hr:RawOk r) (hlen:r.f3.length < 4294967296) (hcnt:cntEnum s < 4294967296) (hc:r.f3.length≤c) (hF:Kd.F (Kd.int .u8) W (fun k=>f k=0) A r.f3.length r.f3) :
 Calls Try.prog 82 #[.agg #[.int .i64 r.f0,.int .i64 r.f1,.int .u64 r.f2,.slice A r.f3.length c],.pointer (some ⟨q,0,none⟩)] W fun e W'=>Took (St (CEnum W0.heap.size) 82 q) W0 f W e W' (stEnum s r):=by
 have HT:=mk0 hT
 obtain ⟨hq,cs,hb,v1,v2,v3,rfl,g1_,g2_,g3_⟩:=hT
 have G1:=mk0 g1_
 have G2:=mk0 g2_
 have G3:=mk0 g3_
 have HF:=mk0 hF
 have HC:=mk0 (Kd.F_now hF)
 have HR:=mk0 hr
 have HB0:=mk0 hB
 have BQ0:=mk0 hb
 have HQ:=mk0 hq
 have HQ0:=mk0 hq0
 have HQL:=mk0 (jk4 hb)
 clear g1_ g2_ g3_ hF hr hB hb hq hq0
 obtain ⟨Ln,hL_⟩:∃ z,ofL r=z:=⟨_,rfl⟩
 obtain ⟨Vn,hV_⟩:∃ z,ofV r=z:=⟨_,rfl⟩
 have hL:=mk0 hL_
 have hV:=mk0 hV_
 clear hL_ hV_
 by_cases eL1:Ln=1
 · subst eL1
   have hst:Aside0 (stEnum s r = .ok (⟨(strOfNums r.f3),s.f1,s.f2,s.f3⟩,true)):=⟨by unfold stEnum;simp only [hL.out,hV.out,if_true,if_false,reduceIte,Int.reduceEq]⟩
   go_enter Try.func82,Try.ntmps82
   go_wp2_with (first|((with_reducible refine jjq (N:=2) rfl ?_);(try (refine jj6 (by rfl) ?_;dsimp only));refine bxR 2 c BQ0 HC ?_;intro gb w1 HB BK BQ hcv HGB s0_ s1_ s2_ s3_;have x0_:_=some ((.string s.f0):Value):=bzC BQ 0;have y0_:=jj2 BQ.out 0)|(go_at_call 58;(with_reducible refine ofR (ozL hL) HC HB BK BQ ?_);clear HB BK BQ hcv s0_ s1_ s2_ s3_ x0_ y0_;intro w2 HB BK BQ hcv s0_ s1_ s2_ s3_;have x0_:_=some ((.string s.f0):Value):=bzC BQ 0;have y0_:=jj2 BQ.out 0)|((with_reducible refine jjz (t:=9) (p:=11) rfl ?_);refine czE q 0 82 (.string (strOfNums r.f3)) BQ.out ?_;intro w9 h1_ h2_ h3_ h4_;have BQ9:=mk0 h1_;have HB9:=mk0 h2_;have HK9:=mk0 h3_;have HS9:=mk0 h4_;clear h1_ h2_ h3_ h4_))
   go_ret
   rw [hst.out]
   have hs_:=hszL HK9 HQ HB
   exact jq (CEnum_slots _) HQ.out HQL.out (HB9.out _ _ HQ0.out (jj1 HB0.out HB0.out.size HB.out)) (Nat.le_trans HB.out.size HS9.out) (mix f W.heap.size) (fun k hk=>jk hk) (fun k hk h0=>hs_ k hk (fun e=>h0 (.inr e))) BQ9.out (⟨_,_,_,rfl,jk1 G1.out (fun k hk=>jk hk) (fun k hk h0=>hs_ k hk (by omega)),jk8 G2.out (fun k hk=>jk hk) (fun k hk h0=>hs_ k hk (by omega)),jk8 G3.out (fun k hk=>jk hk) (fun k hk h0=>hs_ k hk (by omega))⟩)
 have fL1:(Ln==1)=false:=beq_eq_false_iff_ne.2 eL1
 by_cases eL2:Ln=2
 · subst eL2
   have HRb:=mk0 HR.out.b
   have HRl:=mk0 hlen
   have HCN:=mk0 hcnt
   have HCc:=mk0 hc
   have HCH:=mk0 (uValue_c r.f3 A c)
   go_enter Try.func82,Try.ntmps82
   go_wp2_with (first|((with_reducible refine jjq (N:=2) rfl ?_);(try (refine jj6 (by rfl) ?_;dsimp only));refine bxR 2 c BQ0 HC ?_;intro gb w1 HB BK BQ hcv HGB s0_ s1_ s2_ s3_)|(go_at_call 58;(with_reducible refine ofR (ozL hL) HC HB BK BQ ?_);clear HB BK BQ hcv s0_ s1_ s2_ s3_;intro w2 HB BK BQ hcv s0_ s1_ s2_ s3_))
   clear hcv s0_ s1_ s2_ s3_
   replace HB:=mk0 (jj5 HB.out)
   replace BK:=mk0 (jjj BK.out)
   replace BQ:=mk0 (jjj BQ.out)
   refine start_ (n:=9) (S:=(fun w'=>w'.cell? ⟨q,1,none⟩=some v1∧w'.cell? ⟨gb,3,none⟩=some (.slice A r.f3.length c))) (ds:=[8]) (bzs 9 0) (by kernel_rfl) rfl rfl ⟨bzC BQ 1,bzC BK 3⟩ (fun hHeld=>?_)
   refine with_tabW tEnum6.tab6 tEnum6.bits6 (fun HT_ HW_=>?_)
   generalize World.drew _=wq at HB BK BQ hHeld ⊢
   refine pzS 0 (some 14) (bzs 9 1) HT_ ?_
   refine pzS 2 (some 16) (bzs 9 5) HT_ ?_
   refine tzS 1 (some 15) (bzs 9 7) HT_ HW_ hHeld ?_
   refine tzS 3 (some 17) (bzs 9 15) HT_ HW_ hHeld ?_
   refine one_ (i:=4) (N:=some 18) (bzs 9 31) rfl rfl (jk2 HT_.out (by kernel_rfl)) (by decide) (fun K hK=>?_)
   refine gzP Try.func83 #[.slice A r.f3.length c] ?_
   refine (HCH.out _ HRb.out HRl.out (Kd.jj0 HC.out HB.out) HCc.out).mono ?_
   rintro e w3 hA
   cases hu_:uValue r.f3 with
   | error n=>
    have hst:Aside0 (stEnum s r = .error n):=⟨by unfold stEnum;simp only [hL.out,hV.out,eL1,hu_,if_true,if_false,reduceIte,Int.reduceEq]⟩
    rw [hu_] at hA
    clear hu_
    obtain ⟨rfl,hbz⟩:=hA
    refine .inl ⟨_,rfl,?_⟩
    have hbw:=jj1 HB0.out HB0.out.size (jj1 HB.out HB.out.size hbz)
    refine show ([]:List Deferred)=[]∧Took (St (CEnum W0.heap.size) 82 q) W0 f W (thrown n) w3 (stEnum s r) from ⟨rfl,?_⟩
    rw [hst.out]
    exact ⟨rfl,hbw⟩
   | ok x=>
    have hst:Aside0 (stEnum s r = .ok (⟨s.f0,(s.f1++[x]),s.f2,s.f3⟩,true)):=⟨by unfold stEnum;simp only [hL.out,hV.out,eL1,hu_,if_true,if_false,reduceIte,Int.reduceEq]⟩
    rw [hu_] at hA
    clear hu_
    obtain ⟨csx,rfl,hFKx,hbz⟩:=hA
    refine .inr ⟨_,rfl,?_⟩
    have HX:=mk0 (Foot.bound hFKx)
    have HSq:=mk0 HB.out.size
    have HLc:=mk0 (k93.K_len (Kd.FK_now hFKx))
    have n0_:=mk0 (jj1 HB.out HB.out.size hbz)
    have n1_:=mk0 (jj3 BK.out hbz)
    have n2_:=mk0 (jj3 BQ.out hbz)
    clear HB BK BQ hFKx hbz
    have HB:=n0_
    have BK:=n1_
    have BQ:=n2_
    clear n0_ n1_ n2_
    refine hK.out _ _ ⟨bzC BQ 1,bzC BK 3⟩ (fun hHeld=>?_)
    clear hK K
    refine nzS (some 18) ?_
    refine one_ (i:=5) (N:=some 19) (bzs 9 63) rfl rfl (jk2 HT_.out (by kernel_rfl)) (by decide) (fun K hK=>?_)
    refine event_step (by rfl) (Sw.jq0 (cells:=csx.toArray) rfl rfl Try.underlying80 (by rw [List.size_toArray,HLc.out];exact iEnumValue) (by rw [List.size_toArray,HLc.out];decide) (by rw [List.size_toArray,HLc.out];decide)) ?_
    refine hK.out _ _ ⟨(blk_cell (jj9 BQ.out _) 1).trans rfl,(blk_cell (jj9 BK.out _) 3).trans rfl⟩ (fun hHeld=>?_)
    clear hK K
    refine nzS (some 19) ?_
    have HLj:=mk0 (jk1 G1.out (fun k hk=>jk hk) (fun k hk _=>HB.out.block k hk))
    have HNj:=mk0 (jk4 BQ.out)
    refine one_ (i:=6) (N:=some 20) (bzs 9 127) rfl rfl (jk2 HT_.out (by kernel_rfl)) (by decide) (fun K hK=>?_)
    refine Kd.N_append_step k93 (w0:=W0) W0.heap.size (by rfl) (.tmp 15) (.tmp 19) 80 93 _ _ rfl Try.underlying80 iEnumValue (by rfl) (by decide) (by decide) v1 s.f1 x csx (fun k=>lab (mix f W.heap.size) w3 2 k=0∨lab (mix f W.heap.size) w3 2 k=2) (fun k=>W.heap.size≤k∧k < w3.heap.size) rfl rfl ?hp ?ha (fun k hk=>L_fresh k hk) (L_before HLj.out) (jj1 HB0.out HB0.out.size HB.out) (jj1 HB0.out HB0.out.size HB.out).size ?hl ?_
    case hp=>exact Kd.FK_mono HX.out (fun k hk=>⟨Nat.le_trans HSq.out hk.1,hk.2⟩)
    case ha=>exact L_apart HLj.out (by decide) (fun k hk _=>mix_ge hk)
    case hl=>have h_:=HCN.out;unfold cntEnum at h_;omega
    intro vn w4 hn hb4 hg hat
    obtain ⟨ln,hln⟩:∃ z_,s.f1++[x]=z_:=⟨_,rfl⟩
    rw [hln] at hn
    obtain ⟨An,cn,evn⟩:=Kd.N_slice hn
    subst evn
    have HLE:=mk0 hln
    clear hln
    have HLn:=mk0 (L_after HLj.out hn hat)
    have HB4:=mk0 hb4
    have hoth:=fun k hk hne=>grown_other HLj.out hg k hk hne
    have BQ4:=mk0 ((hoth q (jk4 BQ.out) (by rw [jk HQL.out,HQ.out];decide)).trans BQ.out)
    have HOT:=mk0 (fun k (hk:k < W.heap.size) (hne:f k≠2)=>(hoth k (Nat.lt_of_lt_of_le hk HB.out.size) (by rw [jk hk];exact hne)).trans (HB.out.block k hk))
    have HS4:=mk0 (Nat.le_trans HB.out.size hg.size)
    have BK4:=mk0 ((hoth gb (jk4 BK.out) (by rw [mix_ge HGB.out];decide)).trans BK.out)
    clear hoth hn hb4 hg hat
    refine hK.out _ _ ⟨bzC BQ4 1,bzC BK4 3⟩ (fun hHeld=>?_)
    clear hK K
    refine nzS (some 20) ?_
    refine pzS 7 (some 21) (bzs 9 255) HT_ ?_
    refine last_ (i:=8) (N:=none) (bzs 9 511) rfl rfl (jk2 HT_.out (by kernel_rfl)) (by decide) (fun K hK=>?_)
    have x1_:_=some (v1:Value):=bzC BQ4 1
    have y1_:=jj2 BQ4.out 1
    refine cell_step (by rfl) rfl q 1 82 _ _ (.slice An ln.length cn) ?hr BQ4.out rfl ?_
    case hr=>first|(go_simp;done)|(go_simp;rfl)
    intro w9 h1_ h2_ h3_ h4_
    have BQ9:=mk0 h1_
    have HB9:=mk0 (h2_ _ _ HQ0.out HB4.out)
    have HK9:=mk0 h3_
    have HS9:=mk0 h4_
    clear h1_ h2_ h3_ h4_ x1_ y1_
    refine hK.out _ _ ?_
    clear hK K
    refine done_ (done_of HT_.out (by kernel_rfl)) ?_
    go_wp2
    go_ret
    rw [hst.out]
    have hs_:∀ k,k < W.heap.size→f k≠999→f k≠2→w9.heap[k]?=W.heap[k]?:=fun k hk h9 hj=>(HK9.out k (fun e=>h9 (e ▸ HQ.out))).trans (HOT.out k hk hj)
    have hf_:∀ k,k < W.heap.size→lab (mix f W.heap.size) w3 2 k=f k:=fun k hk=>(lab_lt (Nat.lt_of_lt_of_le hk HB.out.size)).trans (jk hk)
    have hq_:lab (mix f W.heap.size) w3 2 q=999:=(hf_ q HQL.out).trans HQ.out
    exact jq (CEnum_slots _) HQ.out HQL.out HB9.out (Nat.le_trans HS4.out HS9.out) (lab (mix f W.heap.size) w3 2) hf_ (fun k hk h0=>hs_ k hk (fun e=>h0 (.inr e)) (fun e=>h0 (.inl (by omega)))) BQ9.out (⟨_,_,_,rfl,jk1 (by rw [HLE.out];exact HLn.out) (fun _ _=>rfl) (fun k hk h0=>HK9.out k (fun e=>by rw [e,hq_] at h0;omega)),jk8 G2.out hf_ (fun k hk h0=>hs_ k hk (by omega) (by omega)),jk8 G3.out hf_ (fun k hk h0=>hs_ k hk (by omega) (by omega))⟩)
 have fL2:(Ln==2)=false:=beq_eq_false_iff_ne.2 eL2
 by_cases eL3:Ln=3
 · subst eL3
   have hst:Aside0 (stEnum s r = .ok (⟨s.f0,s.f1,(r.f3),s.f3⟩,true)):=⟨by unfold stEnum;simp only [hL.out,hV.out,eL1,eL2,if_true,if_false,reduceIte,Int.reduceEq]⟩
   go_enter Try.func82,Try.ntmps82
   go_wp2_with (first|((with_reducible refine jjq (N:=2) rfl ?_);(try (refine jj6 (by rfl) ?_;dsimp only));refine bxR 2 c BQ0 HC ?_;intro gb w1 HB BK BQ hcv HGB s0_ s1_ s2_ s3_;have x2_:_=some ((v2):Value):=bzC BQ 2;have y2_:=jj2 BQ.out 2)|(go_at_call 58;(with_reducible refine ofR (ozL hL) HC HB BK BQ ?_);clear HB BK BQ hcv s0_ s1_ s2_ s3_ x2_ y2_;intro w2 HB BK BQ hcv s0_ s1_ s2_ s3_;have x2_:_=some ((v2):Value):=bzC BQ 2;have y2_:=jj2 BQ.out 2)|((with_reducible refine jjz (t:=28) (p:=26) rfl ?_);refine czE q 2 82 (.slice A r.f3.length c) BQ.out ?_;intro w9 h1_ h2_ h3_ h4_;have BQ9:=mk0 h1_;have HB9:=mk0 h2_;have HK9:=mk0 h3_;have HS9:=mk0 h4_;clear h1_ h2_ h3_ h4_))
   go_ret
   rw [hst.out]
   have hs_:=hszL HK9 HQ HB
   exact jq (CEnum_slots _) HQ.out HQL.out (HB9.out _ _ HQ0.out (jj1 HB0.out HB0.out.size HB.out)) (Nat.le_trans HB.out.size HS9.out) (mix f W.heap.size) (fun k hk=>jk hk) (fun k hk h0=>hs_ k hk (fun e=>h0 (.inr e))) BQ9.out (⟨_,_,_,rfl,jk1 G1.out (fun k hk=>jk hk) (fun k hk h0=>hs_ k hk (by omega)),jk8 (V_F hc HF.out) (fun k hk=>jk hk) (fun k hk h0=>hs_ k hk (by omega)),jk8 G3.out (fun k hk=>jk hk) (fun k hk h0=>hs_ k hk (by omega))⟩)
 have fL3:(Ln==3)=false:=beq_eq_false_iff_ne.2 eL3
 have hst:Aside0 (stEnum s r = .ok (s,false)):=⟨by unfold stEnum;simp only [hL.out,hV.out,eL1,eL2,eL3,if_false,reduceIte]⟩
 go_enter Try.func82,Try.ntmps82
 go_wp2_with (first|((with_reducible refine jjq (N:=2) rfl ?_);(try (refine jj6 (by rfl) ?_;dsimp only));refine bxR 2 c BQ0 HC ?_;intro gb w1 HB BK BQ hcv HGB s0_ s1_ s2_ s3_)|(go_at_call 58;(with_reducible refine ofR (ozL hL) HC HB BK BQ ?_);clear HB BK BQ hcv s0_ s1_ s2_ s3_;intro w2 HB BK BQ hcv s0_ s1_ s2_ s3_))
 go_ret
 rw [hst.out]
 exact leaf_keep (CEnum_slots _) HQ0.out HT.out HB0.out HB.out _
theorem cloEnum (q:Nat) (W0:World) (hq0:W0.heap.size≤q):Taker (stEnum) cntEnum (St (CEnum W0.heap.size) 82 q) W0 82 #[] #[.pointer (some ⟨q,0,none⟩)] where
 enters:=fun args w=>enters_ Try.func82 (by kernel_rfl) (by kernel_rfl) args w
 move:=fun f f' s W W' h h1 h2 h3=>St.move (CEnum_slots _) h h1 h2
 up:=fun s r p h=>cntEnum_up s r p h
 call:=fun f s W r A c hT hB hr hlen hcnt hc hF=>cloEnum_call q W0 hq0 f s W r A c hT hB hr hlen hcnt hc hF
theorem uEnum_c (b:List Int) (A:Option Addr) (c:Nat) (w:World) (hb:Bytes b) (hl:b.length < 4294967296) (hC:Kd.C (Kd.int .u8) w A b.length b) (hc:b.length≤c) :
 Calls Try.prog 60 #[.slice A b.length c] w fun e w'=>Ans k82 w e w' (uEnum b):=by
 have HC:=mk0 hC
 have HI:=mk0 (Below.refl w.heap.size w)
 clear hC
 cases hres_:readU stEnum b z82 with
 | error m=>
  have hu:Aside0 (uEnum b = .error m):=⟨by unfold uEnum;rw [hres_]⟩
  have hres:=mk0 hres_
  clear hres_
  go_enter Try.func60,Try.ntmps60
  go_wp2_with (first|((with_reducible refine jjq (N:=2) rfl ?_);(try (refine jj6 (by rfl) ?_;dsimp only));refine bzX 2 #[.string (⟨#[]⟩:ByteArray),.slice none 0 0,.slice none 0 0,.slice none 0 0] 82 ?_;intro g2 hg2 w1 hbox hb1;have HG2:=mk0 hg2;have BX:=mk0 hbox;have HB:=mk0 hb1;clear hg2 hbox hb1)|((with_reducible refine jjq (N:=3) rfl ?_);(try (refine jj6 (by rfl) ?_;dsimp only));refine bzX 3 #[.string (⟨#[]⟩:ByteArray),.slice none 0 0,.slice none 0 0,.slice none 0 0] 82 ?_;intro q hgq w2 hbox hb2;have n0_:=mk0 (jj1 HB.out HB.out.size hb2);have n1_:=mk0 (jj3 BX.out hb2);have HNQ:=mk0 (show w.heap.size≤q from hgq ▸ HB.out.size);have HNE:=mk0 (show g2≠q from hgq ▸ Nat.ne_of_lt (jk4 BX.out));have BQ:=mk0 hbox;clear HB BX;have HB:=n0_;have BX:=n1_;clear n0_ n1_ hgq hbox hb2)|(go_at_call 56;refine (read_c (cloEnum q w HNQ.out) (f0:=ini w.heap.size g2 q) (fun _=>ini_lt) z82 rfl _ HB.out ⟨ini_q,_,BQ.out,⟨_,_,_,rfl,L_nil _ _ _ _ _ _,V_nil _ _,V_nil _ _⟩⟩ b A c hb hl (Kd.jj0 HC.out HB.out) hc).mono ?_;rintro e w4 h4;rw [hres.out] at h4;obtain ⟨rfl,hbz⟩:=h4;unfold thrown))
  rw [hu.out]
  exact ⟨rfl,rfl,hbz⟩
 | ok p=>
  obtain ⟨s,kept⟩:=p
  have hu:Aside0 (uEnum b = .ok ⟨s.f0,s.f1,s.f2,kept⟩):=⟨by unfold uEnum;rw [hres_]⟩
  have hres:=mk0 hres_
  clear hres_
  go_enter Try.func60,Try.ntmps60
  go_wp2_with (first|((with_reducible refine jjq (N:=2) rfl ?_);(try (refine jj6 (by rfl) ?_;dsimp only));refine bzX 2 #[.string (⟨#[]⟩:ByteArray),.slice none 0 0,.slice none 0 0,.slice none 0 0] 82 ?_;intro g2 hg2 w1 hbox hb1;have HG2:=mk0 hg2;have BX:=mk0 hbox;have HB:=mk0 hb1;clear hg2 hbox hb1)|((with_reducible refine jjq (N:=3) rfl ?_);(try (refine jj6 (by rfl) ?_;dsimp only));refine bzX 3 #[.string (⟨#[]⟩:ByteArray),.slice none 0 0,.slice none 0 0,.slice none 0 0] 82 ?_;intro q hgq w2 hbox hb2;have n0_:=mk0 (jj1 HB.out HB.out.size hb2);have n1_:=mk0 (jj3 BX.out hb2);have HNQ:=mk0 (show w.heap.size≤q from hgq ▸ HB.out.size);have HNE:=mk0 (show g2≠q from hgq ▸ Nat.ne_of_lt (jk4 BX.out));have BQ:=mk0 hbox;clear HB BX;have HB:=n0_;have BX:=n1_;clear n0_ n1_ hgq hbox hb2)|(go_at_call 56;refine (read_c (cloEnum q w HNQ.out) (f0:=ini w.heap.size g2 q) (fun _=>ini_lt) z82 rfl _ HB.out ⟨ini_q,_,BQ.out,⟨_,_,_,rfl,L_nil _ _ _ _ _ _,V_nil _ _,V_nil _ _⟩⟩ b A c hb hl (Kd.jj0 HC.out HB.out) hc).mono ?_;rintro e w4 h4;rw [hres.out] at h4;obtain ⟨h1,h2,h3,f',v,rfl,h5,h6,h7⟩:=h4;obtain ⟨Av,cv,ev⟩:=Kd.jk5 h7;subst ev;obtain ⟨hq',cs,hbq,v1,v2,v3,rfl,g1_,g2_,g3_⟩:=h6;obtain ⟨A1,c1,ev1⟩:=Kd.N_slice g1_.1;subst ev1;have l1:=(Kd.N_reads' g1_.1).2.1;have F1:=Kd.N_F g1_.1;obtain ⟨A2,c2,rfl,l2,F2⟩:=g2_;obtain ⟨A3,c3,rfl,l3,F3⟩:=g3_;have HNG:=mk0 (Nat.le_of_eq HG2.out.symm);have HFIN:=mk0 (ini_fin h5 (jk4 BX.out) (jk4 BQ.out) (Nat.le_of_eq HG2.out.symm) HNQ.out HNE.out);have BX4:=mk0 ((h3 g2 (jk4 BX.out) (ini_g HNE.out)).trans BX.out);have BQ4:=mk0 hbq;have HB4:=mk0 h2;have HV:=mk0 (Kd.R_F h7);have HVl:=mk0 (Kd.jj8 h7).2.1;have HVb:=mk0 (Kd.R_bound h7);have E1:=mk0 F1;have M1:=mk0 l1;have E2:=mk0 F2;have M2:=mk0 l2;have E3:=mk0 F3;have M3:=mk0 l3;clear h1 h2 h3 h5 h7 hbq hq' BX BQ HB HG2 F1 l1 g1_ F2 l2 F3 l3;have x3_:_=some (.slice A3 s.f3.length c3:Value):=bzC BQ4 3;have y3_:=jj2 BQ4.out 3)|((with_reducible refine jjz (t:=28) (p:=7) rfl ?_);refine czE q 3 82 (.slice Av kept.length cv) BQ4.out ?_;intro w5 h1_ h2_ h3_ h4_;have BQ5:=mk0 h1_;have HK5:=mk0 h3_;have HB5:=mk0 (h2_ _ _ HNQ.out HB4.out);have BX5:=mk0 ((h3_ g2 HNE.out).trans BX4.out);clear h1_ h2_ h3_ h4_ x3_ y3_;obtain ⟨x0_,x1_,x2_,x3_⟩:=cz4 BQ5.out)|((with_reducible refine jjz (t:=82) (p:=2) rfl ?_);refine Sw.store_whole rfl rfl rfl g2 82 _ _ rfl rfl BX5.out (by kernel_rfl) rfl rfl ?_;intro w6 h1_ h2_ h3_;have BX6:=mk0 h1_;have HB6:=mk0 (h2_ _ _ HNG.out HB5.out);have HK6:=mk0 h3_;clear h1_ h2_ h3_ x0_ x1_ x2_ x3_))
  refine bodyPost_ret (results_c1 rfl _ _ g2 82 #[.string s.f0,.slice A1 s.f1.length c1,.slice A2 s.f2.length c2,.slice Av kept.length cv] (0,0) _ rfl BX6.out Try.underlying82 rfl (by kernel_rfl)) rfl ?_
  rw [hu.out]
  have hst_:∀ k,f' k≠997→f' k≠998→f' k≠999→w6.heap[k]?=w4.heap[k]?∧w.heap.size≤k:=fun k a7 a8 a9=>by obtain ⟨h1_,h2_,h3_⟩:=HFIN.out k a7 a8 a9;exact ⟨(HK6.out k h3_).trans (HK5.out k h2_),h1_⟩
  exact ⟨_,rfl,k82_mkF w6 _ (⟨s.f0,s.f1,s.f2,kept⟩:S82) M1.out (Kd.F_mono (Kd.F_step (Kd.F_bound E1.out) (fun k hk hlt=>(hst_ k (by omega) (by omega) (by omega)).1)) (fun k hk=>(hst_ k (by omega) (by omega) (by omega)).2)) M2.out (Kd.F_mono (Kd.F_step (Kd.F_bound E2.out) (fun k hk hlt=>(hst_ k (by omega) (by omega) (by omega)).1)) (fun k hk=>(hst_ k (by omega) (by omega) (by omega)).2)) HVl.out (Kd.F_mono (Kd.F_step (Kd.F_bound HV.out) (fun k hk hlt=>(hst_ k (by omega) (by omega) (by omega)).1)) (fun k hk=>(hst_ k (by omega) (by omega) (by omega)).2)),HB6.out⟩
end Go.Proofs.Ytheoafenehckbaa.Ur
