/- undesc's reader of a Field. -/
import Derived.Test.YtheoafenehckbaaKA3
import Derived.Test.YtheoafenehckbaaKSh
import Derived.Test.YtheoafenehckbaaKSw
import Derived.WalkLawsBesides
set_option maxHeartbeats 8000000
set_option maxRecDepth 100000
namespace Go.Proofs.Ytheoafenehckbaa.Ur
open Go.RowKit GUndescBack YtheoafenehckbaaW.PrintWords YtheoafenehckbaaW.PrintLast YtheoafenehckbaaW.PrintMore Vb Fx Wr Wt Wj Wp Uq
set_option linter.unusedVariables false
set_option linter.unusedSimpArgs false
def stField (s:S88) (r:S97):Except Int (S88 × Bool):=
 if ofL r=1 then .ok (⟨(strOfNums r.f3),s.f1,s.f2,s.f3,s.f4,s.f5,s.f6,s.f7,s.f8,s.f9,s.f10,s.f11,s.f12⟩,true) else
 if ofL r=2 then .ok (⟨s.f0,s.f1,s.f2,s.f3,s.f4,(strOfNums r.f3),s.f6,s.f7,s.f8,s.f9,s.f10,s.f11,s.f12⟩,true) else
 if ofL r=6 then .ok (⟨s.f0,s.f1,s.f2,s.f3,(strOfNums r.f3),s.f5,s.f6,s.f7,s.f8,s.f9,s.f10,s.f11,s.f12⟩,true) else
 if ofL r=7 then .ok (⟨s.f0,s.f1,s.f2,s.f3,s.f4,s.f5,(strOfNums r.f3),(true),s.f8,s.f9,s.f10,s.f11,s.f12⟩,true) else
 if ofL r=8 then .ok (⟨s.f0,s.f1,s.f2,s.f3,s.f4,s.f5,s.f6,s.f7,s.f8,s.f9,s.f10,(r.f3),s.f12⟩,true) else
 if ofL r=10 then .ok (⟨s.f0,s.f1,s.f2,s.f3,s.f4,s.f5,s.f6,s.f7,s.f8,(strOfNums r.f3),s.f10,s.f11,s.f12⟩,true) else
 if ofV r=3 then .ok (⟨s.f0,(wrap64 r.f2),s.f2,s.f3,s.f4,s.f5,s.f6,s.f7,s.f8,s.f9,s.f10,s.f11,s.f12⟩,true) else
 if ofV r=4 then match placeU r.f2 with | .error n=>.error n | .ok x=>.ok (⟨s.f0,s.f1,(x),s.f3,s.f4,s.f5,s.f6,s.f7,s.f8,s.f9,s.f10,s.f11,s.f12⟩,true) else
 if ofV r=5 then match placeU r.f2 with | .error n=>.error n | .ok x=>.ok (⟨s.f0,s.f1,s.f2,(x),s.f4,s.f5,s.f6,s.f7,s.f8,s.f9,s.f10,s.f11,s.f12⟩,true) else
 if ofV r=9 then match placeU r.f2 with | .error n=>.error n | .ok x=>.ok (⟨s.f0,s.f1,s.f2,s.f3,s.f4,s.f5,s.f6,s.f7,(wrap64 (x+1)),s.f9,s.f10,s.f11,s.f12⟩,true) else
 if ofV r=17 then .ok (⟨s.f0,s.f1,s.f2,s.f3,s.f4,s.f5,s.f6,s.f7,s.f8,s.f9,((r.f2 != 0)),s.f11,s.f12⟩,true) else
 .ok (s,false)
def uField (b:List Int):Except Int S88:=match readU (stField) b z88 with | .error n=>.error n | .ok p=>.ok ⟨p.1.f0,p.1.f1,p.1.f2,p.1.f3,p.1.f4,p.1.f5,p.1.f6,p.1.f7,p.1.f8,p.1.f9,p.1.f10,p.1.f11,p.2⟩
def cntField (s:S88):Nat:=0
theorem cntField_up (s:S88) (r:S97) (p:S88 × Bool) (h:stField s r = .ok p):cntField p.1≤cntField s+1:=by
 exact Nat.zero_le _
def CField (B:Nat) (f:Nat→Nat) (s:S88) (W:World) (cs:Array Value):Prop:=∃ v11 v12:Value,cs=#[.string s.f0,.int .i64 s.f1,.int .i64 s.f2,.int .i64 s.f3,.string s.f4,.string s.f5,.string s.f6,.bool s.f7,.int .i64 s.f8,.string s.f9,.bool s.f10,v11,v12]∧V_ f W v11 s.f11∧V_ f W v12 s.f12
theorem CField_slots (B:Nat):Slots (CField B):=by
 rintro f f' s W W' cs ⟨v11,v12,rfl,g11,g12⟩ h1 h2
 exact ⟨v11,v12,rfl,jk8 g11 h1 (fun k hk h0=>h2 k hk (by omega)),jk8 g12 h1 (fun k hk h0=>h2 k hk (by omega))⟩
def stNum (s:S88) (r:S97):Except Int (S88 × Bool):=
 if ofV r=3 then .ok (⟨s.f0,(wrap64 r.f2),s.f2,s.f3,s.f4,s.f5,s.f6,s.f7,s.f8,s.f9,s.f10,s.f11,s.f12⟩,true) else
 if ofV r=4 then match placeU r.f2 with | .error n=>.error n | .ok x=>.ok (⟨s.f0,s.f1,(x),s.f3,s.f4,s.f5,s.f6,s.f7,s.f8,s.f9,s.f10,s.f11,s.f12⟩,true) else
 if ofV r=5 then match placeU r.f2 with | .error n=>.error n | .ok x=>.ok (⟨s.f0,s.f1,s.f2,(x),s.f4,s.f5,s.f6,s.f7,s.f8,s.f9,s.f10,s.f11,s.f12⟩,true) else
 if ofV r=9 then match placeU r.f2 with | .error n=>.error n | .ok x=>.ok (⟨s.f0,s.f1,s.f2,s.f3,s.f4,s.f5,s.f6,s.f7,(wrap64 (x+1)),s.f9,s.f10,s.f11,s.f12⟩,true) else
 if ofV r=17 then .ok (⟨s.f0,s.f1,s.f2,s.f3,s.f4,s.f5,s.f6,s.f7,s.f8,s.f9,((r.f2 != 0)),s.f11,s.f12⟩,true) else
 .ok (s,false)
theorem stField_num (s:S88) (r:S97) (h1:¬ ofL r=1) (h2:¬ ofL r=2) (h6:¬ ofL r=6) (h7:¬ ofL r=7) (h8:¬ ofL r=8) (h10:¬ ofL r=10):stField s r=stNum s r:=by
 unfold stField stNum
 rw [if_neg h1,if_neg h2,if_neg h6,if_neg h7,if_neg h8,if_neg h10]
theorem num_c (q:Nat) (W0:World) (hq0:W0.heap.size≤q) (f:Nat→Nat) (s:S88) (W:World) (r:S97) (A:Option Addr) (c:Nat) (hT:St (CField W0.heap.size) 135 q f s W) (hB:Below W0.heap.size W0 W) (hr:RawOk r) (hlen:r.f3.length < 4294967296) (hc:r.f3.length≤c) (hF:Kd.F (Kd.int .u8) W (fun k=>f k=0) A r.f3.length r.f3) :
 Calls Try.prog 95 #[.pointer (some ⟨q,0,none⟩),.agg #[.int .i64 r.f0,.int .i64 r.f1,.int .u64 r.f2,.slice A r.f3.length c]] W fun e W'=>Took (St (CField W0.heap.size) 135 q) W0 f W e W' (stNum s r):=by
 have HT:=mk0 hT
 obtain ⟨hq,cs,hb,v11,v12,rfl,g11_,g12_⟩:=hT
 have G11:=mk0 g11_
 have G12:=mk0 g12_
 have HF:=mk0 hF
 have HC:=mk0 (Kd.F_now hF)
 have HR:=mk0 hr
 have HB0:=mk0 hB
 have BQ0:=mk0 hb
 have HQ:=mk0 hq
 have HQ0:=mk0 hq0
 have HQL:=mk0 (jk4 hb)
 have HRL:=mk0 hlen
 clear g11_ g12_ hF hr hB hb hq hq0 hlen
 obtain ⟨Ln,hL_⟩:∃ z,ofL r=z:=⟨_,rfl⟩
 obtain ⟨Vn,hV_⟩:∃ z,ofV r=z:=⟨_,rfl⟩
 have hL:=mk0 hL_
 have hV:=mk0 hV_
 clear hL_ hV_
 by_cases eV3:Vn=3
 · subst eV3
   have hst:Aside0 (stNum s r = .ok (⟨s.f0,(wrap64 r.f2),s.f2,s.f3,s.f4,s.f5,s.f6,s.f7,s.f8,s.f9,s.f10,s.f11,s.f12⟩,true)):=⟨by unfold stNum;simp only [hV.out,if_true,if_false,reduceIte,Int.reduceEq]⟩
   go_enter Try.func95,Try.ntmps95
   go_wp2_with (first|((with_reducible refine jjq (N:=3) rfl ?_);(try (refine jj6 (by rfl) ?_;dsimp only));refine bxR 3 c BQ0 HC ?_;intro gb w1 HB BK BQ hcv HGB s0_ s1_ s2_ s3_;have x1_:_=some ((.int .i64 s.f1):Value):=bzC BQ 1;have y1_:=jj2 BQ.out 1)|(go_at_call 63;(with_reducible refine ofR (ozV hV) HC HB BK BQ ?_);clear HB BK BQ hcv s0_ s1_ s2_ s3_ x1_ y1_;intro w2 HB BK BQ hcv s0_ s1_ s2_ s3_;have x1_:_=some ((.int .i64 s.f1):Value):=bzC BQ 1;have y1_:=jj2 BQ.out 1)|((with_reducible refine jjz (t:=2) (p:=15) rfl ?_);refine czE q 1 135 (.int .i64 (wrap64 r.f2)) BQ.out ?_;intro w9 h1_ h2_ h3_ h4_;have BQ9:=mk0 h1_;have HB9:=mk0 h2_;have HK9:=mk0 h3_;have HS9:=mk0 h4_;clear h1_ h2_ h3_ h4_))
   go_ret
   rw [hst.out]
   have hs_:=hszL HK9 HQ HB
   exact jq (CField_slots _) HQ.out HQL.out (HB9.out _ _ HQ0.out (jj1 HB0.out HB0.out.size HB.out)) (Nat.le_trans HB.out.size HS9.out) (mix f W.heap.size) (fun k hk=>jk hk) (fun k hk h0=>hs_ k hk (fun e=>h0 (.inr e))) BQ9.out (⟨_,_,rfl,jk8 G11.out (fun k hk=>jk hk) (fun k hk h0=>hs_ k hk (by omega)),jk8 G12.out (fun k hk=>jk hk) (fun k hk h0=>hs_ k hk (by omega))⟩)
 have fV3:(Vn==3)=false:=beq_eq_false_iff_ne.2 eV3
 by_cases eV4:Vn=4
 · subst eV4
   cases hp_:placeU r.f2 with
   | error n=>
    have hp:=mk0 hp_
    clear hp_
    have hst:Aside0 (stNum s r = .error n):=⟨by unfold stNum;simp only [hV.out,eV3,if_true,if_false,reduceIte,Int.reduceEq,hp.out]⟩
    go_enter Try.func95,Try.ntmps95
    go_wp2_with (first|((with_reducible refine jjq (N:=3) rfl ?_);(try (refine jj6 (by rfl) ?_;dsimp only));refine bxR 3 c BQ0 HC ?_;intro gb w1 HB BK BQ hcv HGB s0_ s1_ s2_ s3_;have x2_:_=some ((.int .i64 s.f2):Value):=bzC BQ 2;have y2_:=jj2 BQ.out 2)|(go_at_call 63;(with_reducible refine ofR (ozV hV) HC HB BK BQ ?_);clear HB BK BQ hcv s0_ s1_ s2_ s3_ x2_ y2_;intro w2 HB BK BQ hcv s0_ s1_ s2_ s3_;have x2_:_=some ((.int .i64 s.f2):Value):=bzC BQ 2;have y2_:=jj2 BQ.out 2)|(go_at_call 64;(with_reducible refine (place_c r.f2 HR.out.n.1 _).mono ?_);rintro e w3 ⟨hw_,he⟩;subst hw_;rw [hp.out] at he;obtain rfl:=he;unfold thrown))
    rw [hst.out]
    exact ⟨rfl,rfl,jj1 HB0.out HB0.out.size HB.out⟩
   | ok x=>
    have hp:=mk0 hp_
    clear hp_
    have hst:Aside0 (stNum s r = .ok (⟨s.f0,s.f1,(x),s.f3,s.f4,s.f5,s.f6,s.f7,s.f8,s.f9,s.f10,s.f11,s.f12⟩,true)):=⟨by unfold stNum;simp only [hV.out,eV3,if_true,if_false,reduceIte,Int.reduceEq,hp.out]⟩
    go_enter Try.func95,Try.ntmps95
    go_wp2_with (first|((with_reducible refine jjq (N:=3) rfl ?_);(try (refine jj6 (by rfl) ?_;dsimp only));refine bxR 3 c BQ0 HC ?_;intro gb w1 HB BK BQ hcv HGB s0_ s1_ s2_ s3_;have x2_:_=some ((.int .i64 s.f2):Value):=bzC BQ 2;have y2_:=jj2 BQ.out 2)|(go_at_call 63;(with_reducible refine ofR (ozV hV) HC HB BK BQ ?_);clear HB BK BQ hcv s0_ s1_ s2_ s3_ x2_ y2_;intro w2 HB BK BQ hcv s0_ s1_ s2_ s3_;have x2_:_=some ((.int .i64 s.f2):Value):=bzC BQ 2;have y2_:=jj2 BQ.out 2)|(go_at_call 64;(with_reducible refine (place_c r.f2 HR.out.n.1 _).mono ?_);rintro e w3 ⟨hw_,he⟩;subst hw_;rw [hp.out] at he;obtain rfl:=he)|((with_reducible refine jjz (t:=3) (p:=24) rfl ?_);refine czE q 2 135 (.int .i64 (x)) BQ.out ?_;intro w9 h1_ h2_ h3_ h4_;have BQ9:=mk0 h1_;have HB9:=mk0 h2_;have HK9:=mk0 h3_;have HS9:=mk0 h4_;clear h1_ h2_ h3_ h4_))
    go_ret
    rw [hst.out]
    have hs_:=hszL HK9 HQ HB
    exact jq (CField_slots _) HQ.out HQL.out (HB9.out _ _ HQ0.out (jj1 HB0.out HB0.out.size HB.out)) (Nat.le_trans HB.out.size HS9.out) (mix f W.heap.size) (fun k hk=>jk hk) (fun k hk h0=>hs_ k hk (fun e=>h0 (.inr e))) BQ9.out (⟨_,_,rfl,jk8 G11.out (fun k hk=>jk hk) (fun k hk h0=>hs_ k hk (by omega)),jk8 G12.out (fun k hk=>jk hk) (fun k hk h0=>hs_ k hk (by omega))⟩)
 have fV4:(Vn==4)=false:=beq_eq_false_iff_ne.2 eV4
 by_cases eV5:Vn=5
 · subst eV5
   cases hp_:placeU r.f2 with
   | error n=>
    have hp:=mk0 hp_
    clear hp_
    have hst:Aside0 (stNum s r = .error n):=⟨by unfold stNum;simp only [hV.out,eV3,eV4,if_true,if_false,reduceIte,Int.reduceEq,hp.out]⟩
    go_enter Try.func95,Try.ntmps95
    go_wp2_with (first|((with_reducible refine jjq (N:=3) rfl ?_);(try (refine jj6 (by rfl) ?_;dsimp only));refine bxR 3 c BQ0 HC ?_;intro gb w1 HB BK BQ hcv HGB s0_ s1_ s2_ s3_;have x3_:_=some ((.int .i64 s.f3):Value):=bzC BQ 3;have y3_:=jj2 BQ.out 3)|(go_at_call 63;(with_reducible refine ofR (ozV hV) HC HB BK BQ ?_);clear HB BK BQ hcv s0_ s1_ s2_ s3_ x3_ y3_;intro w2 HB BK BQ hcv s0_ s1_ s2_ s3_;have x3_:_=some ((.int .i64 s.f3):Value):=bzC BQ 3;have y3_:=jj2 BQ.out 3)|(go_at_call 64;(with_reducible refine (place_c r.f2 HR.out.n.1 _).mono ?_);rintro e w3 ⟨hw_,he⟩;subst hw_;rw [hp.out] at he;obtain rfl:=he;unfold thrown))
    rw [hst.out]
    exact ⟨rfl,rfl,jj1 HB0.out HB0.out.size HB.out⟩
   | ok x=>
    have hp:=mk0 hp_
    clear hp_
    have hst:Aside0 (stNum s r = .ok (⟨s.f0,s.f1,s.f2,(x),s.f4,s.f5,s.f6,s.f7,s.f8,s.f9,s.f10,s.f11,s.f12⟩,true)):=⟨by unfold stNum;simp only [hV.out,eV3,eV4,if_true,if_false,reduceIte,Int.reduceEq,hp.out]⟩
    go_enter Try.func95,Try.ntmps95
    go_wp2_with (first|((with_reducible refine jjq (N:=3) rfl ?_);(try (refine jj6 (by rfl) ?_;dsimp only));refine bxR 3 c BQ0 HC ?_;intro gb w1 HB BK BQ hcv HGB s0_ s1_ s2_ s3_;have x3_:_=some ((.int .i64 s.f3):Value):=bzC BQ 3;have y3_:=jj2 BQ.out 3)|(go_at_call 63;(with_reducible refine ofR (ozV hV) HC HB BK BQ ?_);clear HB BK BQ hcv s0_ s1_ s2_ s3_ x3_ y3_;intro w2 HB BK BQ hcv s0_ s1_ s2_ s3_;have x3_:_=some ((.int .i64 s.f3):Value):=bzC BQ 3;have y3_:=jj2 BQ.out 3)|(go_at_call 64;(with_reducible refine (place_c r.f2 HR.out.n.1 _).mono ?_);rintro e w3 ⟨hw_,he⟩;subst hw_;rw [hp.out] at he;obtain rfl:=he)|((with_reducible refine jjz (t:=3) (p:=33) rfl ?_);refine czE q 3 135 (.int .i64 (x)) BQ.out ?_;intro w9 h1_ h2_ h3_ h4_;have BQ9:=mk0 h1_;have HB9:=mk0 h2_;have HK9:=mk0 h3_;have HS9:=mk0 h4_;clear h1_ h2_ h3_ h4_))
    go_ret
    rw [hst.out]
    have hs_:=hszL HK9 HQ HB
    exact jq (CField_slots _) HQ.out HQL.out (HB9.out _ _ HQ0.out (jj1 HB0.out HB0.out.size HB.out)) (Nat.le_trans HB.out.size HS9.out) (mix f W.heap.size) (fun k hk=>jk hk) (fun k hk h0=>hs_ k hk (fun e=>h0 (.inr e))) BQ9.out (⟨_,_,rfl,jk8 G11.out (fun k hk=>jk hk) (fun k hk h0=>hs_ k hk (by omega)),jk8 G12.out (fun k hk=>jk hk) (fun k hk h0=>hs_ k hk (by omega))⟩)
 have fV5:(Vn==5)=false:=beq_eq_false_iff_ne.2 eV5
 by_cases eV9:Vn=9
 · subst eV9
   cases hp_:placeU r.f2 with
   | error n=>
    have hp:=mk0 hp_
    clear hp_
    have hst:Aside0 (stNum s r = .error n):=⟨by unfold stNum;simp only [hV.out,eV3,eV4,eV5,if_true,if_false,reduceIte,Int.reduceEq,hp.out]⟩
    go_enter Try.func95,Try.ntmps95
    go_wp2_with (first|((with_reducible refine jjq (N:=3) rfl ?_);(try (refine jj6 (by rfl) ?_;dsimp only));refine bxR 3 c BQ0 HC ?_;intro gb w1 HB BK BQ hcv HGB s0_ s1_ s2_ s3_;have x8_:_=some ((.int .i64 s.f8):Value):=bzC BQ 8;have y8_:=jj2 BQ.out 8)|(go_at_call 63;(with_reducible refine ofR (ozV hV) HC HB BK BQ ?_);clear HB BK BQ hcv s0_ s1_ s2_ s3_ x8_ y8_;intro w2 HB BK BQ hcv s0_ s1_ s2_ s3_;have x8_:_=some ((.int .i64 s.f8):Value):=bzC BQ 8;have y8_:=jj2 BQ.out 8)|(go_at_call 64;(with_reducible refine (place_c r.f2 HR.out.n.1 _).mono ?_);rintro e w3 ⟨hw_,he⟩;subst hw_;rw [hp.out] at he;obtain rfl:=he;unfold thrown))
    rw [hst.out]
    exact ⟨rfl,rfl,jj1 HB0.out HB0.out.size HB.out⟩
   | ok x=>
    have hp:=mk0 hp_
    clear hp_
    have hst:Aside0 (stNum s r = .ok (⟨s.f0,s.f1,s.f2,s.f3,s.f4,s.f5,s.f6,s.f7,(wrap64 (x+1)),s.f9,s.f10,s.f11,s.f12⟩,true)):=⟨by unfold stNum;simp only [hV.out,eV3,eV4,eV5,if_true,if_false,reduceIte,Int.reduceEq,hp.out]⟩
    go_enter Try.func95,Try.ntmps95
    go_wp2_with (first|((with_reducible refine jjq (N:=3) rfl ?_);(try (refine jj6 (by rfl) ?_;dsimp only));refine bxR 3 c BQ0 HC ?_;intro gb w1 HB BK BQ hcv HGB s0_ s1_ s2_ s3_;have x8_:_=some ((.int .i64 s.f8):Value):=bzC BQ 8;have y8_:=jj2 BQ.out 8)|(go_at_call 63;(with_reducible refine ofR (ozV hV) HC HB BK BQ ?_);clear HB BK BQ hcv s0_ s1_ s2_ s3_ x8_ y8_;intro w2 HB BK BQ hcv s0_ s1_ s2_ s3_;have x8_:_=some ((.int .i64 s.f8):Value):=bzC BQ 8;have y8_:=jj2 BQ.out 8)|(go_at_call 64;(with_reducible refine (place_c r.f2 HR.out.n.1 _).mono ?_);rintro e w3 ⟨hw_,he⟩;subst hw_;rw [hp.out] at he;obtain rfl:=he)|((with_reducible refine jjz (t:=3) (p:=43) rfl ?_);refine czE q 8 135 (.int .i64 (wrap64 (x+1))) BQ.out ?_;intro w9 h1_ h2_ h3_ h4_;have BQ9:=mk0 h1_;have HB9:=mk0 h2_;have HK9:=mk0 h3_;have HS9:=mk0 h4_;clear h1_ h2_ h3_ h4_))
    go_ret
    rw [hst.out]
    have hs_:=hszL HK9 HQ HB
    exact jq (CField_slots _) HQ.out HQL.out (HB9.out _ _ HQ0.out (jj1 HB0.out HB0.out.size HB.out)) (Nat.le_trans HB.out.size HS9.out) (mix f W.heap.size) (fun k hk=>jk hk) (fun k hk h0=>hs_ k hk (fun e=>h0 (.inr e))) BQ9.out (⟨_,_,rfl,jk8 G11.out (fun k hk=>jk hk) (fun k hk h0=>hs_ k hk (by omega)),jk8 G12.out (fun k hk=>jk hk) (fun k hk h0=>hs_ k hk (by omega))⟩)
 have fV9:(Vn==9)=false:=beq_eq_false_iff_ne.2 eV9
 by_cases eV17:Vn=17
 · subst eV17
   have hst:Aside0 (stNum s r = .ok (⟨s.f0,s.f1,s.f2,s.f3,s.f4,s.f5,s.f6,s.f7,s.f8,s.f9,((r.f2 != 0)),s.f11,s.f12⟩,true)):=⟨by unfold stNum;simp only [hV.out,eV3,eV4,eV5,eV9,if_true,if_false,reduceIte,Int.reduceEq]⟩
   go_enter Try.func95,Try.ntmps95
   go_wp2_with (first|((with_reducible refine jjq (N:=3) rfl ?_);(try (refine jj6 (by rfl) ?_;dsimp only));refine bxR 3 c BQ0 HC ?_;intro gb w1 HB BK BQ hcv HGB s0_ s1_ s2_ s3_;have x10_:_=some ((.bool s.f10):Value):=bzC BQ 10;have y10_:=jj2 BQ.out 10)|(go_at_call 63;(with_reducible refine ofR (ozV hV) HC HB BK BQ ?_);clear HB BK BQ hcv s0_ s1_ s2_ s3_ x10_ y10_;intro w2 HB BK BQ hcv s0_ s1_ s2_ s3_;have x10_:_=some ((.bool s.f10):Value):=bzC BQ 10;have y10_:=jj2 BQ.out 10)|((with_reducible refine jjz (t:=4) (p:=52) rfl ?_);refine czE q 10 135 (.bool (r.f2 != 0)) BQ.out ?_;intro w9 h1_ h2_ h3_ h4_;have BQ9:=mk0 h1_;have HB9:=mk0 h2_;have HK9:=mk0 h3_;have HS9:=mk0 h4_;clear h1_ h2_ h3_ h4_))
   go_ret
   rw [hst.out]
   have hs_:=hszL HK9 HQ HB
   exact jq (CField_slots _) HQ.out HQL.out (HB9.out _ _ HQ0.out (jj1 HB0.out HB0.out.size HB.out)) (Nat.le_trans HB.out.size HS9.out) (mix f W.heap.size) (fun k hk=>jk hk) (fun k hk h0=>hs_ k hk (fun e=>h0 (.inr e))) BQ9.out (⟨_,_,rfl,jk8 G11.out (fun k hk=>jk hk) (fun k hk h0=>hs_ k hk (by omega)),jk8 G12.out (fun k hk=>jk hk) (fun k hk h0=>hs_ k hk (by omega))⟩)
 have fV17:(Vn==17)=false:=beq_eq_false_iff_ne.2 eV17
 have hst:Aside0 (stNum s r = .ok (s,false)):=⟨by unfold stNum;simp only [hV.out,eV3,eV4,eV5,eV9,eV17,if_false,reduceIte]⟩
 go_enter Try.func95,Try.ntmps95
 go_wp2_with (first|((with_reducible refine jjq (N:=3) rfl ?_);(try (refine jj6 (by rfl) ?_;dsimp only));refine bxR 3 c BQ0 HC ?_;intro gb w1 HB BK BQ hcv HGB s0_ s1_ s2_ s3_)|(go_at_call 63;(with_reducible refine ofR (ozV hV) HC HB BK BQ ?_);clear HB BK BQ hcv s0_ s1_ s2_ s3_;intro w2 HB BK BQ hcv s0_ s1_ s2_ s3_))
 go_ret
 rw [hst.out]
 exact leaf_keep (CField_slots _) HQ0.out HT.out HB0.out HB.out _
theorem take_c (q:Nat) (W0:World) (hq0:W0.heap.size≤q) (f:Nat→Nat) (s:S88) (W:World) (r:S97) (A:Option Addr) (c:Nat) (hT:St (CField W0.heap.size) 135 q f s W) (hB:Below W0.heap.size W0 W) (hr:RawOk r) (hlen:r.f3.length < 4294967296) (hc:r.f3.length≤c) (hF:Kd.F (Kd.int .u8) W (fun k=>f k=0) A r.f3.length r.f3) :
 Calls Try.prog 86 #[.pointer (some ⟨q,0,none⟩),.agg #[.int .i64 r.f0,.int .i64 r.f1,.int .u64 r.f2,.slice A r.f3.length c]] W fun e W'=>Took (St (CField W0.heap.size) 135 q) W0 f W e W' (stField s r):=by
 have HT:=mk0 hT
 obtain ⟨hq,cs,hb,v11,v12,rfl,g11_,g12_⟩:=hT
 have G11:=mk0 g11_
 have G12:=mk0 g12_
 have HF:=mk0 hF
 have HC:=mk0 (Kd.F_now hF)
 have HR:=mk0 hr
 have HB0:=mk0 hB
 have BQ0:=mk0 hb
 have HQ:=mk0 hq
 have HQ0:=mk0 hq0
 have HQL:=mk0 (jk4 hb)
 have HRL:=mk0 hlen
 clear g11_ g12_ hF hr hB hb hq hq0 hlen
 obtain ⟨Ln,hL_⟩:∃ z,ofL r=z:=⟨_,rfl⟩
 obtain ⟨Vn,hV_⟩:∃ z,ofV r=z:=⟨_,rfl⟩
 have hL:=mk0 hL_
 have hV:=mk0 hV_
 clear hL_ hV_
 by_cases eL1:Ln=1
 · subst eL1
   have hst:Aside0 (stField s r = .ok (⟨(strOfNums r.f3),s.f1,s.f2,s.f3,s.f4,s.f5,s.f6,s.f7,s.f8,s.f9,s.f10,s.f11,s.f12⟩,true)):=⟨by unfold stField;simp only [hL.out,if_true,if_false,reduceIte,Int.reduceEq]⟩
   go_enter Try.func86,Try.ntmps86
   go_wp2_with (first|((with_reducible refine jjq (N:=3) rfl ?_);(try (refine jj6 (by rfl) ?_;dsimp only));refine bxR 3 c BQ0 HC ?_;intro gb w1 HB BK BQ hcv HGB s0_ s1_ s2_ s3_;have x0_:_=some ((.string s.f0):Value):=bzC BQ 0;have y0_:=jj2 BQ.out 0)|(go_at_call 58;(with_reducible refine ofR (ozL hL) HC HB BK BQ ?_);clear HB BK BQ hcv s0_ s1_ s2_ s3_ x0_ y0_;intro w2 HB BK BQ hcv s0_ s1_ s2_ s3_;have x0_:_=some ((.string s.f0):Value):=bzC BQ 0;have y0_:=jj2 BQ.out 0)|((with_reducible refine jjz (t:=9) (p:=18) rfl ?_);refine czE q 0 135 (.string (strOfNums r.f3)) BQ.out ?_;intro w9 h1_ h2_ h3_ h4_;have BQ9:=mk0 h1_;have HB9:=mk0 h2_;have HK9:=mk0 h3_;have HS9:=mk0 h4_;clear h1_ h2_ h3_ h4_))
   go_ret
   rw [hst.out]
   have hs_:=hszL HK9 HQ HB
   exact jq (CField_slots _) HQ.out HQL.out (HB9.out _ _ HQ0.out (jj1 HB0.out HB0.out.size HB.out)) (Nat.le_trans HB.out.size HS9.out) (mix f W.heap.size) (fun k hk=>jk hk) (fun k hk h0=>hs_ k hk (fun e=>h0 (.inr e))) BQ9.out (⟨_,_,rfl,jk8 G11.out (fun k hk=>jk hk) (fun k hk h0=>hs_ k hk (by omega)),jk8 G12.out (fun k hk=>jk hk) (fun k hk h0=>hs_ k hk (by omega))⟩)
 have fL1:(Ln==1)=false:=beq_eq_false_iff_ne.2 eL1
 by_cases eL2:Ln=2
 · subst eL2
   have hst:Aside0 (stField s r = .ok (⟨s.f0,s.f1,s.f2,s.f3,s.f4,(strOfNums r.f3),s.f6,s.f7,s.f8,s.f9,s.f10,s.f11,s.f12⟩,true)):=⟨by unfold stField;simp only [hL.out,eL1,if_true,if_false,reduceIte,Int.reduceEq]⟩
   go_enter Try.func86,Try.ntmps86
   go_wp2_with (first|((with_reducible refine jjq (N:=3) rfl ?_);(try (refine jj6 (by rfl) ?_;dsimp only));refine bxR 3 c BQ0 HC ?_;intro gb w1 HB BK BQ hcv HGB s0_ s1_ s2_ s3_;have x5_:_=some ((.string s.f5):Value):=bzC BQ 5;have y5_:=jj2 BQ.out 5)|(go_at_call 58;(with_reducible refine ofR (ozL hL) HC HB BK BQ ?_);clear HB BK BQ hcv s0_ s1_ s2_ s3_ x5_ y5_;intro w2 HB BK BQ hcv s0_ s1_ s2_ s3_;have x5_:_=some ((.string s.f5):Value):=bzC BQ 5;have y5_:=jj2 BQ.out 5)|((with_reducible refine jjz (t:=9) (p:=27) rfl ?_);refine czE q 5 135 (.string (strOfNums r.f3)) BQ.out ?_;intro w9 h1_ h2_ h3_ h4_;have BQ9:=mk0 h1_;have HB9:=mk0 h2_;have HK9:=mk0 h3_;have HS9:=mk0 h4_;clear h1_ h2_ h3_ h4_))
   go_ret
   rw [hst.out]
   have hs_:=hszL HK9 HQ HB
   exact jq (CField_slots _) HQ.out HQL.out (HB9.out _ _ HQ0.out (jj1 HB0.out HB0.out.size HB.out)) (Nat.le_trans HB.out.size HS9.out) (mix f W.heap.size) (fun k hk=>jk hk) (fun k hk h0=>hs_ k hk (fun e=>h0 (.inr e))) BQ9.out (⟨_,_,rfl,jk8 G11.out (fun k hk=>jk hk) (fun k hk h0=>hs_ k hk (by omega)),jk8 G12.out (fun k hk=>jk hk) (fun k hk h0=>hs_ k hk (by omega))⟩)
 have fL2:(Ln==2)=false:=beq_eq_false_iff_ne.2 eL2
 by_cases eL6:Ln=6
 · subst eL6
   have hst:Aside0 (stField s r = .ok (⟨s.f0,s.f1,s.f2,s.f3,(strOfNums r.f3),s.f5,s.f6,s.f7,s.f8,s.f9,s.f10,s.f11,s.f12⟩,true)):=⟨by unfold stField;simp only [hL.out,eL1,eL2,if_true,if_false,reduceIte,Int.reduceEq]⟩
   go_enter Try.func86,Try.ntmps86
   go_wp2_with (first|((with_reducible refine jjq (N:=3) rfl ?_);(try (refine jj6 (by rfl) ?_;dsimp only));refine bxR 3 c BQ0 HC ?_;intro gb w1 HB BK BQ hcv HGB s0_ s1_ s2_ s3_;have x4_:_=some ((.string s.f4):Value):=bzC BQ 4;have y4_:=jj2 BQ.out 4)|(go_at_call 58;(with_reducible refine ofR (ozL hL) HC HB BK BQ ?_);clear HB BK BQ hcv s0_ s1_ s2_ s3_ x4_ y4_;intro w2 HB BK BQ hcv s0_ s1_ s2_ s3_;have x4_:_=some ((.string s.f4):Value):=bzC BQ 4;have y4_:=jj2 BQ.out 4)|((with_reducible refine jjz (t:=9) (p:=36) rfl ?_);refine czE q 4 135 (.string (strOfNums r.f3)) BQ.out ?_;intro w9 h1_ h2_ h3_ h4_;have BQ9:=mk0 h1_;have HB9:=mk0 h2_;have HK9:=mk0 h3_;have HS9:=mk0 h4_;clear h1_ h2_ h3_ h4_))
   go_ret
   rw [hst.out]
   have hs_:=hszL HK9 HQ HB
   exact jq (CField_slots _) HQ.out HQL.out (HB9.out _ _ HQ0.out (jj1 HB0.out HB0.out.size HB.out)) (Nat.le_trans HB.out.size HS9.out) (mix f W.heap.size) (fun k hk=>jk hk) (fun k hk h0=>hs_ k hk (fun e=>h0 (.inr e))) BQ9.out (⟨_,_,rfl,jk8 G11.out (fun k hk=>jk hk) (fun k hk h0=>hs_ k hk (by omega)),jk8 G12.out (fun k hk=>jk hk) (fun k hk h0=>hs_ k hk (by omega))⟩)
 have fL6:(Ln==6)=false:=beq_eq_false_iff_ne.2 eL6
 by_cases eL7:Ln=7
 · subst eL7
   have hst:Aside0 (stField s r = .ok (⟨s.f0,s.f1,s.f2,s.f3,s.f4,s.f5,(strOfNums r.f3),(true),s.f8,s.f9,s.f10,s.f11,s.f12⟩,true)):=⟨by unfold stField;simp only [hL.out,eL1,eL2,eL6,if_true,if_false,reduceIte,Int.reduceEq]⟩
   go_enter Try.func86,Try.ntmps86
   go_wp2_with (first|((with_reducible refine jjq (N:=3) rfl ?_);(try (refine jj6 (by rfl) ?_;dsimp only));refine bxR 3 c BQ0 HC ?_;intro gb w1 HB BK BQ hcv HGB s0_ s1_ s2_ s3_;have x6_:_=some ((.string s.f6):Value):=bzC BQ 6;have y6_:=jj2 BQ.out 6)|(go_at_call 58;(with_reducible refine ofR (ozL hL) HC HB BK BQ ?_);clear HB BK BQ hcv s0_ s1_ s2_ s3_ x6_ y6_;intro w2 HB BK BQ hcv s0_ s1_ s2_ s3_;have x6_:_=some ((.string s.f6):Value):=bzC BQ 6;have y6_:=jj2 BQ.out 6)|((with_reducible refine jjz (t:=9) (p:=46) rfl ?_);refine czE q 6 135 (.string (strOfNums r.f3)) BQ.out ?_;intro w8 h1_ h2_ h3_ h4_;have BQ8:=mk0 h1_;have HB8:=mk0 h2_;have HK8:=mk0 h3_;have HS8:=mk0 h4_;clear h1_ h2_ h3_ h4_;have x7_:_=some (.bool s.f7:Value):=bzC BQ8 7;have y7_:=jj2 BQ8.out 7)|((with_reducible refine jjz (t:=4) (p:=49) rfl ?_);refine czE q 7 135 (.bool true) BQ8.out ?_;intro w9 h1_ h2_ h3_ h4_;have BQ9:=mk0 h1_;have HB9:=mk0 (fun B w0 hB hbel=>h2_ B w0 hB (HB8.out B w0 hB hbel));have HK9:=mk0 (fun k hk=>(h3_ k hk).trans (HK8.out k hk));have HS9:=mk0 (Nat.le_trans HS8.out h4_);clear h1_ h2_ h3_ h4_))
   go_ret
   rw [hst.out]
   have hs_:=hszL HK9 HQ HB
   exact jq (CField_slots _) HQ.out HQL.out (HB9.out _ _ HQ0.out (jj1 HB0.out HB0.out.size HB.out)) (Nat.le_trans HB.out.size HS9.out) (mix f W.heap.size) (fun k hk=>jk hk) (fun k hk h0=>hs_ k hk (fun e=>h0 (.inr e))) BQ9.out (⟨_,_,rfl,jk8 G11.out (fun k hk=>jk hk) (fun k hk h0=>hs_ k hk (by omega)),jk8 G12.out (fun k hk=>jk hk) (fun k hk h0=>hs_ k hk (by omega))⟩)
 have fL7:(Ln==7)=false:=beq_eq_false_iff_ne.2 eL7
 by_cases eL8:Ln=8
 · subst eL8
   have hst:Aside0 (stField s r = .ok (⟨s.f0,s.f1,s.f2,s.f3,s.f4,s.f5,s.f6,s.f7,s.f8,s.f9,s.f10,(r.f3),s.f12⟩,true)):=⟨by unfold stField;simp only [hL.out,eL1,eL2,eL6,eL7,if_true,if_false,reduceIte,Int.reduceEq]⟩
   go_enter Try.func86,Try.ntmps86
   go_wp2_with (first|((with_reducible refine jjq (N:=3) rfl ?_);(try (refine jj6 (by rfl) ?_;dsimp only));refine bxR 3 c BQ0 HC ?_;intro gb w1 HB BK BQ hcv HGB s0_ s1_ s2_ s3_;have x11_:_=some ((v11):Value):=bzC BQ 11;have y11_:=jj2 BQ.out 11)|(go_at_call 58;(with_reducible refine ofR (ozL hL) HC HB BK BQ ?_);clear HB BK BQ hcv s0_ s1_ s2_ s3_ x11_ y11_;intro w2 HB BK BQ hcv s0_ s1_ s2_ s3_;have x11_:_=some ((v11):Value):=bzC BQ 11;have y11_:=jj2 BQ.out 11)|((with_reducible refine jjz (t:=28) (p:=57) rfl ?_);refine czE q 11 135 (.slice A r.f3.length c) BQ.out ?_;intro w9 h1_ h2_ h3_ h4_;have BQ9:=mk0 h1_;have HB9:=mk0 h2_;have HK9:=mk0 h3_;have HS9:=mk0 h4_;clear h1_ h2_ h3_ h4_))
   go_ret
   rw [hst.out]
   have hs_:=hszL HK9 HQ HB
   exact jq (CField_slots _) HQ.out HQL.out (HB9.out _ _ HQ0.out (jj1 HB0.out HB0.out.size HB.out)) (Nat.le_trans HB.out.size HS9.out) (mix f W.heap.size) (fun k hk=>jk hk) (fun k hk h0=>hs_ k hk (fun e=>h0 (.inr e))) BQ9.out (⟨_,_,rfl,jk8 (V_F hc HF.out) (fun k hk=>jk hk) (fun k hk h0=>hs_ k hk (by omega)),jk8 G12.out (fun k hk=>jk hk) (fun k hk h0=>hs_ k hk (by omega))⟩)
 have fL8:(Ln==8)=false:=beq_eq_false_iff_ne.2 eL8
 by_cases eL10:Ln=10
 · subst eL10
   have hst:Aside0 (stField s r = .ok (⟨s.f0,s.f1,s.f2,s.f3,s.f4,s.f5,s.f6,s.f7,s.f8,(strOfNums r.f3),s.f10,s.f11,s.f12⟩,true)):=⟨by unfold stField;simp only [hL.out,eL1,eL2,eL6,eL7,eL8,if_true,if_false,reduceIte,Int.reduceEq]⟩
   go_enter Try.func86,Try.ntmps86
   go_wp2_with (first|((with_reducible refine jjq (N:=3) rfl ?_);(try (refine jj6 (by rfl) ?_;dsimp only));refine bxR 3 c BQ0 HC ?_;intro gb w1 HB BK BQ hcv HGB s0_ s1_ s2_ s3_;have x9_:_=some ((.string s.f9):Value):=bzC BQ 9;have y9_:=jj2 BQ.out 9)|(go_at_call 58;(with_reducible refine ofR (ozL hL) HC HB BK BQ ?_);clear HB BK BQ hcv s0_ s1_ s2_ s3_ x9_ y9_;intro w2 HB BK BQ hcv s0_ s1_ s2_ s3_;have x9_:_=some ((.string s.f9):Value):=bzC BQ 9;have y9_:=jj2 BQ.out 9)|((with_reducible refine jjz (t:=9) (p:=66) rfl ?_);refine czE q 9 135 (.string (strOfNums r.f3)) BQ.out ?_;intro w9 h1_ h2_ h3_ h4_;have BQ9:=mk0 h1_;have HB9:=mk0 h2_;have HK9:=mk0 h3_;have HS9:=mk0 h4_;clear h1_ h2_ h3_ h4_))
   go_ret
   rw [hst.out]
   have hs_:=hszL HK9 HQ HB
   exact jq (CField_slots _) HQ.out HQL.out (HB9.out _ _ HQ0.out (jj1 HB0.out HB0.out.size HB.out)) (Nat.le_trans HB.out.size HS9.out) (mix f W.heap.size) (fun k hk=>jk hk) (fun k hk h0=>hs_ k hk (fun e=>h0 (.inr e))) BQ9.out (⟨_,_,rfl,jk8 G11.out (fun k hk=>jk hk) (fun k hk h0=>hs_ k hk (by omega)),jk8 G12.out (fun k hk=>jk hk) (fun k hk h0=>hs_ k hk (by omega))⟩)
 have fL10:(Ln==10)=false:=beq_eq_false_iff_ne.2 eL10
 have hst:Aside0 (stField s r=stNum s r):=⟨stField_num s r (by rw [hL.out];exact eL1) (by rw [hL.out];exact eL2) (by rw [hL.out];exact eL6) (by rw [hL.out];exact eL7) (by rw [hL.out];exact eL8) (by rw [hL.out];exact eL10)⟩
 have HN:=mk0 (fun (W2:World) (hb2:Below W.heap.size W W2)=>(num_c q W0 HQ0.out (mix f W.heap.size) s W2 r A c (HT.out.move (CField_slots _) (fun k hk=>jk hk) (fun k hk _=>hb2.block k hk)) (jj1 HB0.out HB0.out.size hb2) HR.out HRL.out hc (Kd.F_mono (Kd.F_below (Kd.F_bound HF.out) hb2) (fun k hk=>(jk hk.2).trans hk.1))).mono (fun e w' h_=>Took.behind hb2 h_))
 cases hn_:stNum s r with
 | error n=>
  have hn:=mk0 hn_
  clear hn_
  go_enter Try.func86,Try.ntmps86
  go_wp2_with (first|((with_reducible refine jjq (N:=3) rfl ?_);(try (refine jj6 (by rfl) ?_;dsimp only));refine bxR 3 c BQ0 HC ?_;intro gb w1 HB BK BQ hcv HGB s0_ s1_ s2_ s3_)|(go_at_call 58;(with_reducible refine ofR (ozL hL) HC HB BK BQ ?_);clear HB BK BQ hcv s0_ s1_ s2_ s3_;intro w2 HB BK BQ hcv s0_ s1_ s2_ s3_)|(go_at_call 95;refine (HN.out _ HB.out).mono ?_;rintro e w3 h_;rw [hn.out] at h_;obtain ⟨rfl,hbz⟩:=h_;unfold thrown))
  rw [hst.out,hn.out]
  exact ⟨rfl,rfl,hbz⟩
 | ok p=>
  have hn:=mk0 hn_
  clear hn_
  go_enter Try.func86,Try.ntmps86
  go_wp2_with (first|((with_reducible refine jjq (N:=3) rfl ?_);(try (refine jj6 (by rfl) ?_;dsimp only));refine bxR 3 c BQ0 HC ?_;intro gb w1 HB BK BQ hcv HGB s0_ s1_ s2_ s3_)|(go_at_call 58;(with_reducible refine ofR (ozL hL) HC HB BK BQ ?_);clear HB BK BQ hcv s0_ s1_ s2_ s3_;intro w2 HB BK BQ hcv s0_ s1_ s2_ s3_)|(go_at_call 95;refine (HN.out _ HB.out).mono ?_;rintro e w3 h_;rw [hn.out] at h_;have HTK:=mk0 h_;obtain rfl:=h_.1;clear h_))
  go_ret
  rw [hst.out,hn.out]
  exact HTK.out
theorem cloField (q:Nat) (W0:World) (hq0:W0.heap.size≤q):Taker stField cntField (St (CField W0.heap.size) 135 q) W0 86 #[.pointer (some ⟨q,0,none⟩)] #[] where
 enters:=fun args w=>enters_ Try.func86 (by kernel_rfl) (by kernel_rfl) args w
 move:=fun f f' s W W' h h1 h2 h3=>St.move (CField_slots _) h h1 h2
 up:=fun s r p h=>cntField_up s r p h
 call:=fun f s W r A c hT hB hr hlen hcnt hc hF=>take_c q W0 hq0 f s W r A c hT hB hr hlen hc hF
theorem uField_c (b:List Int) (A:Option Addr) (c:Nat) (w:World) (hb:Bytes b) (hl:b.length < 4294967296) (hC:Kd.C (Kd.int .u8) w A b.length b) (hc:b.length≤c) :
 Calls Try.prog 62 #[.slice A b.length c] w fun e w'=>Ans k88 w e w' (uField b):=by
 have HC:=mk0 hC
 have HI:=mk0 (Below.refl w.heap.size w)
 clear hC
 cases hres_:readU stField b z88 with
 | error m=>
  have hu:Aside0 (uField b = .error m):=⟨by unfold uField;rw [hres_]⟩
  have hres:=mk0 hres_
  clear hres_
  go_enter Try.func62,Try.ntmps62
  go_wp2_with (first|((with_reducible refine jjq (N:=2) rfl ?_);(try (refine jj6 (by rfl) ?_;dsimp only));refine bzX 2 #[.string (⟨#[]⟩:ByteArray),.int .i64 0,.int .i64 0,.int .i64 0,.string (⟨#[]⟩:ByteArray),.string (⟨#[]⟩:ByteArray),.string (⟨#[]⟩:ByteArray),.bool false,.int .i64 0,.string (⟨#[]⟩:ByteArray),.bool false,.slice none 0 0,.slice none 0 0] 88 ?_;intro g2 hg2 w1 hbox hb1;have HG2:=mk0 hg2;have BX:=mk0 hbox;have HB:=mk0 hb1;clear hg2 hbox hb1)|((with_reducible refine jjq (N:=3) rfl ?_);(try (refine jj6 (by rfl) ?_;dsimp only));refine bzX 3 #[.string (⟨#[]⟩:ByteArray),.int .i64 0,.int .i64 0,.int .i64 0,.string (⟨#[]⟩:ByteArray),.string (⟨#[]⟩:ByteArray),.string (⟨#[]⟩:ByteArray),.bool false,.int .i64 0,.string (⟨#[]⟩:ByteArray),.bool false,.slice none 0 0,.slice none 0 0] 135 ?_;intro q hgq w2 hbox hb2;have n0_:=mk0 (jj1 HB.out HB.out.size hb2);have n1_:=mk0 (jj3 BX.out hb2);have HNQ:=mk0 (show w.heap.size≤q from hgq ▸ HB.out.size);have HNE:=mk0 (show g2≠q from hgq ▸ Nat.ne_of_lt (jk4 BX.out));have BQ:=mk0 hbox;clear HB BX;have HB:=n0_;have BX:=n1_;clear n0_ n1_ hgq hbox hb2)|(go_at_call 56;refine (read_c (cloField q w HNQ.out) (f0:=ini w.heap.size g2 q) (fun _=>ini_lt) z88 rfl _ HB.out ⟨ini_q,_,BQ.out,⟨_,_,rfl,V_nil _ _,V_nil _ _⟩⟩ b A c hb hl (Kd.jj0 HC.out HB.out) hc).mono ?_;rintro e w4 h4;rw [hres.out] at h4;obtain ⟨rfl,hbz⟩:=h4;unfold thrown))
  rw [hu.out]
  exact ⟨rfl,rfl,hbz⟩
 | ok p=>
  obtain ⟨s,kept⟩:=p
  have hu:Aside0 (uField b = .ok ⟨s.f0,s.f1,s.f2,s.f3,s.f4,s.f5,s.f6,s.f7,s.f8,s.f9,s.f10,s.f11,kept⟩):=⟨by unfold uField;rw [hres_]⟩
  have hres:=mk0 hres_
  clear hres_
  go_enter Try.func62,Try.ntmps62
  go_wp2_with (first|((with_reducible refine jjq (N:=2) rfl ?_);(try (refine jj6 (by rfl) ?_;dsimp only));refine bzX 2 #[.string (⟨#[]⟩:ByteArray),.int .i64 0,.int .i64 0,.int .i64 0,.string (⟨#[]⟩:ByteArray),.string (⟨#[]⟩:ByteArray),.string (⟨#[]⟩:ByteArray),.bool false,.int .i64 0,.string (⟨#[]⟩:ByteArray),.bool false,.slice none 0 0,.slice none 0 0] 88 ?_;intro g2 hg2 w1 hbox hb1;have HG2:=mk0 hg2;have BX:=mk0 hbox;have HB:=mk0 hb1;clear hg2 hbox hb1)|((with_reducible refine jjq (N:=3) rfl ?_);(try (refine jj6 (by rfl) ?_;dsimp only));refine bzX 3 #[.string (⟨#[]⟩:ByteArray),.int .i64 0,.int .i64 0,.int .i64 0,.string (⟨#[]⟩:ByteArray),.string (⟨#[]⟩:ByteArray),.string (⟨#[]⟩:ByteArray),.bool false,.int .i64 0,.string (⟨#[]⟩:ByteArray),.bool false,.slice none 0 0,.slice none 0 0] 135 ?_;intro q hgq w2 hbox hb2;have n0_:=mk0 (jj1 HB.out HB.out.size hb2);have n1_:=mk0 (jj3 BX.out hb2);have HNQ:=mk0 (show w.heap.size≤q from hgq ▸ HB.out.size);have HNE:=mk0 (show g2≠q from hgq ▸ Nat.ne_of_lt (jk4 BX.out));have BQ:=mk0 hbox;clear HB BX;have HB:=n0_;have BX:=n1_;clear n0_ n1_ hgq hbox hb2)|(go_at_call 56;refine (read_c (cloField q w HNQ.out) (f0:=ini w.heap.size g2 q) (fun _=>ini_lt) z88 rfl _ HB.out ⟨ini_q,_,BQ.out,⟨_,_,rfl,V_nil _ _,V_nil _ _⟩⟩ b A c hb hl (Kd.jj0 HC.out HB.out) hc).mono ?_;rintro e w4 h4;rw [hres.out] at h4;obtain ⟨h1,h2,h3,f',v,rfl,h5,h6,h7⟩:=h4;obtain ⟨Av,cv,ev⟩:=Kd.jk5 h7;subst ev;obtain ⟨hq',cs,hbq,v11,v12,rfl,g11_,g12_⟩:=h6;obtain ⟨A11,c11,rfl,l11,F11⟩:=g11_;obtain ⟨A12,c12,rfl,l12,F12⟩:=g12_;have HNG:=mk0 (Nat.le_of_eq HG2.out.symm);have HFIN:=mk0 (ini_fin h5 (jk4 BX.out) (jk4 BQ.out) (Nat.le_of_eq HG2.out.symm) HNQ.out HNE.out);have BX4:=mk0 ((h3 g2 (jk4 BX.out) (ini_g HNE.out)).trans BX.out);have BQ4:=mk0 hbq;have HB4:=mk0 h2;have HV:=mk0 (Kd.R_F h7);have HVl:=mk0 (Kd.jj8 h7).2.1;have HVb:=mk0 (Kd.R_bound h7);have E11:=mk0 F11;have M11:=mk0 l11;have E12:=mk0 F12;have M12:=mk0 l12;clear h1 h2 h3 h5 h7 hbq hq' BX BQ HB HG2 F11 l11 F12 l12;have x12_:_=some (.slice A12 s.f12.length c12:Value):=bzC BQ4 12;have y12_:=jj2 BQ4.out 12)|((with_reducible refine jjz (t:=28) (p:=10) rfl ?_);refine czE q 12 135 (.slice Av kept.length cv) BQ4.out ?_;intro w5 h1_ h2_ h3_ h4_;have BQ5:=mk0 h1_;have HK5:=mk0 h3_;have HB5:=mk0 (h2_ _ _ HNQ.out HB4.out);have BX5:=mk0 ((h3_ g2 HNE.out).trans BX4.out);clear h1_ h2_ h3_ h4_ x12_ y12_;obtain ⟨x0_,x1_,x2_,x3_,x4_,x5_,x6_,x7_,x8_,x9_,x10_,x11_,x12_⟩:=cz13 BQ5.out)|((with_reducible refine jjz (t:=88) (p:=2) rfl ?_);refine Sw.store_whole rfl rfl rfl g2 88 _ _ rfl rfl BX5.out (by kernel_rfl) rfl rfl ?_;intro w6 h1_ h2_ h3_;have BX6:=mk0 h1_;have HB6:=mk0 (h2_ _ _ HNG.out HB5.out);have HK6:=mk0 h3_;clear h1_ h2_ h3_ x0_ x1_ x2_ x3_ x4_ x5_ x6_ x7_ x8_ x9_ x10_ x11_ x12_))
  refine bodyPost_ret (results_c1 rfl _ _ g2 88 #[.string s.f0,.int .i64 s.f1,.int .i64 s.f2,.int .i64 s.f3,.string s.f4,.string s.f5,.string s.f6,.bool s.f7,.int .i64 s.f8,.string s.f9,.bool s.f10,.slice A11 s.f11.length c11,.slice Av kept.length cv] (0,0) _ rfl BX6.out Try.underlying88 rfl (by kernel_rfl)) rfl ?_
  rw [hu.out]
  have hst_:∀ k,f' k≠997→f' k≠998→f' k≠999→w6.heap[k]?=w4.heap[k]?∧w.heap.size≤k:=fun k a7 a8 a9=>by obtain ⟨h1_,h2_,h3_⟩:=HFIN.out k a7 a8 a9;exact ⟨(HK6.out k h3_).trans (HK5.out k h2_),h1_⟩
  exact ⟨_,rfl,k88_mkF w6 _ (⟨s.f0,s.f1,s.f2,s.f3,s.f4,s.f5,s.f6,s.f7,s.f8,s.f9,s.f10,s.f11,kept⟩:S88) M11.out (Kd.F_mono (Kd.F_step (Kd.F_bound E11.out) (fun k hk hlt=>(hst_ k (by omega) (by omega) (by omega)).1)) (fun k hk=>(hst_ k (by omega) (by omega) (by omega)).2)) HVl.out (Kd.F_mono (Kd.F_step (Kd.F_bound HV.out) (fun k hk hlt=>(hst_ k (by omega) (by omega) (by omega)).1)) (fun k hk=>(hst_ k (by omega) (by omega) (by omega)).2)),HB6.out⟩
end Go.Proofs.Ytheoafenehckbaa.Ur
