/- Written by gprint.py of this session: the kit's printer, with functions that are proved by hand put in. -/
import Derived.Test.YtheoafenehckbaaQGUndescBackx0
import Derived.Test.YtheoafenehckbaaQSh
import Derived.Test.YtheoafenehckbaaQGUndescBackx1
set_option maxHeartbeats 8000000
set_option maxRecDepth 100000
namespace Go.Proofs.Ytheoafenehckbaa.GUndescBack
open Tk Cl Fl Pt
open Go.RowKit YtheoafenehckbaaW.PrintWords YtheoafenehckbaaW.PrintLast YtheoafenehckbaaW.PrintMore
attribute [local go_sem] max2_int min2_int max_two min_two max_three min_three max_four min_four
set_option linter.unusedVariables false
set_option linter.unusedSimpArgs false
def varint_Fixed.l0:Nat→Int→List Int→Int→Int→Option (List Int)
 | 0,_,_,_,_=>none
 | k+1,x0,x5,x12,x13=>if x13 < x12 then (if 0≤(wrap64 (8*x13)) then (if 0≤x13 then (if x13 < (x5.length:Int) then (varint_Fixed.l0 k x0 (x5.set (x13:Int).toNat ((shr .u64 x0 (wrap64 (8*x13))) % 256)) x12 (wrap64 (x13+1))) else (none)) else (none)) else (none)) else (some x5)
def varint_Fixed.f (k:Nat) (a0:Int) (a1:Int):Option (List Int):=if 0≤(mn (mx a1 0) 8) then (if (mn (mx a1 0) 8:Int).toNat≤281474976710656 then ((some (List.replicate (mn (mx a1 0) 8:Int).toNat 0:List Int)).bind fun y128=>(varint_Fixed.l0 k a0 y128 (y128.length:Int) 0)) else (none)) else (none)
theorem varint_Fixed.calls (k:Nat) (a0:Int) (a1:Int) (r:List Int) (w:World) (h:varint_Fixed.f k a0 a1=some r) :
 Calls Try.prog 90 #[.int .u64 a0,.int .i64 a1] w fun e w'=>∃ v0_:Value,e = .returned (v0_)∧Kd.R (Kd.int .u8) 5 w' w.heap.size (fun _=>True) v0_ r∧Below w.heap.size w w':=by
 have HB:=mk0 (Below.refl w.heap.size w)
 have H:(if 0≤(mn (mx a1 0) 8) then (if (mn (mx a1 0) 8:Int).toNat≤281474976710656 then ((some (List.replicate (mn (mx a1 0) 8:Int).toNat 0:List Int)).bind fun y128=>(varint_Fixed.l0 k a0 y128 (y128.length:Int) 0)) else (none)) else (none))=some r:=h
 clear h
 obtain ⟨ji3,hji3⟩:∃ j_:Int,(mx a1 0)=j_:=⟨_,rfl⟩
 replace H:(if 0≤(mn (ji3) 8) then (if (mn (ji3) 8:Int).toNat≤281474976710656 then ((some (List.replicate (mn (ji3) 8:Int).toNat 0:List Int)).bind fun y128=>(varint_Fixed.l0 k a0 y128 (y128.length:Int) 0)) else (none)) else (none))=some r:=by first|(rw [hji3] at H;exact H)|(simp only [hji3] at H ⊢;exact H)
 (try (have hji3l:0≤ji3:=by (rw [← hji3];unfold mx;(repeat' split) <;> omega)))
 (try (have hji3m:0≤ji3:=by omega))
 have hji3_:(if a1 < 0 then 0 else a1)=ji3:=hji3
 obtain ⟨ji4,hji4⟩:∃ j_:Int,(mn (ji3) 8)=j_:=⟨_,rfl⟩
 replace H:(if 0≤(ji4) then (if (ji4:Int).toNat≤281474976710656 then ((some (List.replicate (ji4:Int).toNat 0:List Int)).bind fun y128=>(varint_Fixed.l0 k a0 y128 (y128.length:Int) 0)) else (none)) else (none))=some r:=by first|(rw [hji4] at H;exact H)|(simp only [hji4] at H ⊢;exact H)
 have hji4_:(if 8 < (ji3) then 8 else (ji3))=ji4:=hji4
 by_cases c5:0≤(ji4)
 · as_aux_lemma=>
    rw [if_pos c5] at H
    have c5b0:=eq_true c5
    have c5b1:decide (0≤(ji4))=true:=decide_eq_true c5
    clear c5
    by_cases c6:(ji4:Int).toNat≤281474976710656
    · as_aux_lemma=>
       rw [if_pos c6] at H
       have c6b0:=eq_true c6
       have c6b1:decide ((ji4:Int).toNat≤281474976710656)=true:=decide_eq_true c6
       clear c6
       obtain ⟨y128,hy128⟩:∃ y_:List Int,y_=(List.replicate (ji4:Int).toNat 0):=⟨_,rfl⟩
       replace H:(varint_Fixed.l0 k a0 y128 (y128.length:Int) 0)=some r:=by first|(rw [hy128];with_reducible exact H)|(have H2_:=(Option.bind_some _ _).symm.trans H;rw [hy128];with_reducible exact H2_)|(have H2_:=(Option.bind_some _ _).symm.trans H;with_reducible exact H2_)|with_reducible exact H|(rw [hy128];exact H)|exact H
       have Ny128:=mk0 hy128
       clear hy128
       have H':=mk0 H
       clear H
       go_enter Try.func90,Try.ntmps90
       go_wp2_with (first|((with_reducible refine jk0 (N:=10) rfl ?_);refine Kd.R_make (Kd.int .u8) _ 5 rfl (N:=10) rfl 28 _ _ rfl ji4 rfl rfl Try.underlying28 (.int .u8 0) 1 info5 rfl (by decide) (by omega) 0 (ok:=fun _=>True) (okp:=fun _=>True) rfl (fun _ hk=>hk) trivial (of_decide_eq_true (by first|(with_reducible assumption)|assumption)) (Nat.le_trans (Nat.mul_le_mul_right _ (of_decide_eq_true (by first|(with_reducible assumption)|assumption):ji4.toNat≤281474976710656)) (by omega)) (Below.refl _ _) (Nat.le_refl _) ?_;intro v129 w7 ho8 hb hg_ hnew_;clear hg_ hnew_;(first|rw [← Ny128.out] at ho8|(simp only [Int.reduceToNat] at ho8;rw [← Ny128.out] at ho8));have n0_:=mk0 (Kd.R_lower ho8 (below_size (by repeat (first|(with_reducible first|exact HB.out|apply jj6|apply jj4|apply jj2)|exact HB.out))));have n1_:=mk0 (below_step (by repeat (first|(with_reducible first|exact HB.out|apply jj6|apply jj4|apply jj2)|exact HB.out)) hb);clear HB;have HO130:=n0_;have HB:=n1_;clear n0_ n1_;clear hb ho8;obtain ⟨Ao9,co9,eo9⟩:=Kd.jk4 HO130.out;subst eo9))
       go_loopg [13] k (fun kq v13 w'=>∃ (x5_1:List Int) (x13_1:Int),v13 = .int .i64 x13_1∧Aside0 (varint_Fixed.l0 kq a0 x5_1 (y128.length:Int) x13_1=some r)∧Aside0 (kq≤k)∧Aside0 (Kd.R (Kd.int .u8) 5 w' w.heap.size (fun _=>True) (.slice Ao9 y128.length co9) x5_1)∧Aside0 (Below w.heap.size w w'))
       case atStart=>exact ⟨(y128),(0),(by first|rfl|(simp;done)|(simp [*];done)),H',⟨Nat.le_refl _⟩,⟨by (with_reducible repeat (first|apply Kd.R_alloc|apply Kd.R_drewN|apply Kd.R_drew));exact HO130.out⟩,⟨by repeat (first|(with_reducible first|exact HB.out|apply jj6|apply jj4|apply jj2)|exact HB.out)⟩⟩
       case round=>
        clear H'
        try clear p2
        try clear c5
        try clear c5b0
        try clear c5b1
        try clear c6
        try clear c6b0
        try clear c6b1
        try clear c9
        obtain ⟨x5_1,x13_1,rfl,HA,HK1,HO_5,HB⟩:=hrel
        have hl5_1:=(Kd.jj7 HO_5.out).1
        rw [hl5_1] at HO_5
        (try simp only [hl5_1])
        cases gk with
        | zero=>exact absurd HA.out (by simp [varint_Fixed.l0])
        | succ k1=>
         have H:=HA.out
         clear HA
         simp only [varint_Fixed.l0] at H
         by_cases c10:x13_1 < (y128.length:Int)
         · as_aux_lemma=>
            rw [if_pos c10] at H
            have c10b0:decide (x13_1 < (y128.length:Int))=true:=decide_eq_true c10
            (try simp only [hl5_1] at c10b0)
            clear c10
            obtain ⟨ji11,hji11⟩:∃ j_:Int,(wrap64 (8*x13_1))=j_:=⟨_,rfl⟩
            replace H:(if 0≤(ji11) then (if 0≤x13_1 then (if x13_1 < (x5_1.length:Int) then (varint_Fixed.l0 k1 a0 (x5_1.set (x13_1:Int).toNat ((shr .u64 a0 (ji11)) % 256)) (y128.length:Int) (wrap64 (x13_1+1))) else (none)) else (none)) else (none))=some r:=by first|(rw [hji11] at H;exact H)|(simp only [hji11] at H ⊢;exact H)
            have hji11w:(IntKind.i64.wrap (8*x13_1))=ji11:=(i64_w _).trans hji11
            by_cases c12:0≤(ji11)
            · as_aux_lemma=>
               rw [if_pos c12] at H
               have c12b0:=eq_true c12
               have c12b1:decide (0≤(ji11))=true:=decide_eq_true c12
               clear c12
               obtain ⟨ji13,hji13⟩:∃ j_:Int,(shr .u64 a0 (ji11))=j_:=⟨_,rfl⟩
               replace H:(if 0≤x13_1 then (if x13_1 < (x5_1.length:Int) then (varint_Fixed.l0 k1 a0 (x5_1.set (x13_1:Int).toNat ((ji13) % 256)) (y128.length:Int) (wrap64 (x13_1+1))) else (none)) else (none))=some r:=by first|(rw [hji13] at H;exact H)|(simp only [hji13] at H ⊢;exact H)
               have hji13_:(a0 / 2 ^ min (ji11).toNat 64)=ji13:=hji13
               have hji13z:(ji11)≤64→(a0 / 2 ^ (ji11).toNat)=ji13:=shr_small hji13
               by_cases c14:0≤x13_1
               · as_aux_lemma=>
                  rw [if_pos c14] at H
                  have c14b0:decide (0≤x13_1)=true:=decide_eq_true c14
                  clear c14
                  by_cases c15:x13_1 < (x5_1.length:Int)
                  · as_aux_lemma=>
                     rw [if_pos c15] at H
                     have c15b0:decide (x13_1 < (x5_1.length:Int))=true:=decide_eq_true c15
                     (try simp only [hl5_1] at c15b0)
                     clear c15
                     obtain ⟨y131,hy131⟩:∃ y_:List Int,y_=(x5_1.set (x13_1:Int).toNat ((ji13) % 256)):=⟨_,rfl⟩
                     replace H:(varint_Fixed.l0 k1 a0 y131 (y128.length:Int) (wrap64 (x13_1+1)))=some r:=by first|(rw [hy131];with_reducible exact H)|(have H2_:=(Option.bind_some _ _).symm.trans H;rw [hy131];with_reducible exact H2_)|(have H2_:=(Option.bind_some _ _).symm.trans H;with_reducible exact H2_)|with_reducible exact H|(rw [hy131];exact H)|exact H
                     have Ny131:=mk0 hy131
                     clear hy131
                     as_aux_lemma=>
                      have H':=mk0 H
                      clear H
                      have p16:0≤(x13_1:Int):=of_decide_eq_true (by first|(with_reducible assumption)|assumption)
                      have q16:(x13_1:Int) < ((x5_1.length:Int):Int):=of_decide_eq_true (by first|(with_reducible assumption)|assumption)
                      obtain ⟨go16,co16,eo16,gb16,gl16,cl16,HG16⟩:=Kd.R_form HO_5.out (by omega)
                      (first|cases eo16|(injection eo16 with ea_ en_ ec_;(first|subst ea_|(injection ea_ with ea_;subst ea_));subst ec_;clear en_))
                      have GB16:=mk0 gb16
                      have GG16:=mk0 HG16
                      clear gb16 gl16 HG16
                      obtain ⟨hx16_0,hf16_0⟩:=Kd.R_celln 0 HO_5.out (x13_1:Int) p16 q16
                      replace p16:=eq_true p16
                      replace q16:=eq_true q16
                      have HP17:=Kd.R_putg HO_5.out (x13_1:Int) ((ji13) % 256)
                      go_wp2_with (first|((with_reducible refine jjz (t:=5) (p:=23) rfl ?_);refine store_event (t:=5) (p:=23) (v:=?vo_w18) (w1:=(wr.setCell ⟨go16,(x13_1:Int).toNat,none⟩ (.int .u8 ((ji13) % 256)))) ?hg ?ho ?hn ?hr ?_;(case ho=>rfl);(case hg=>rfl);(case hn=>rfl);(case hr=>first|(go_simp;done)|(go_simp;rfl));intro w18 hw;have hg:wr.grownBy w18 (some go16):=(by rw [hw];exact HP17.2);have hp_:Kd.R (Kd.int .u8) 5 w18 w.heap.size (fun _=>True) (.slice (some ⟨go16,0,none⟩) x5_1.length co9) y131:=(by rw [hw,Ny131.out];exact HP17.1);clear HP17;have n0_:=mk0 (hp_);have n1_:=mk0 ((by rw [hw];exact jk1 (HB.out) GB16.out:Below w.heap.size w w18));clear HO_5;clear HB;have HO_5:=n0_;have HB:=n1_;clear n0_ n1_;clear hg hw hp_))
                      (try simp only [← hl5_1])
                      go_roundg k1
                      case measure=>have:=HK1.out;omega
                      case rel=>exact ⟨(y131),(wrap64 (x13_1+1)),(by first|rfl|(simp;done)|(simp [*];done)),H',⟨by have:=HK1.out;omega⟩,⟨by (try simp only [hl5_1]);(with_reducible repeat (first|apply Kd.R_alloc|apply Kd.R_drewN|apply Kd.R_drew));exact HO_5.out⟩,⟨by repeat (first|(with_reducible first|exact HB.out|apply jj6|apply jj4|apply jj2)|exact HB.out)⟩⟩
                  · rw [if_neg c15] at H
                    exact absurd H (by simp)
               · rw [if_neg c14] at H
                 exact absurd H (by simp)
            · rw [if_neg c12] at H
              exact absurd H (by simp)
         · as_aux_lemma=>
            rw [if_neg c10] at H
            have c10b0:decide (x13_1 < (y128.length:Int))=false:=decide_eq_false c10
            (try simp only [hl5_1] at c10b0)
            clear c10
            as_aux_lemma=>
             obtain rfl:=Option.some.inj H
             go_wp2
             go_ret
             exact ⟨_,by first|rfl|(simp [errW_none,errW_some] <;> rfl)|(simp only [← hji3,← hji4];first|rfl|(simp [errW_none,errW_some] <;> rfl))|(simp [*,errW_none,errW_some] <;> rfl),by (with_reducible repeat (first|apply Kd.R_alloc|apply Kd.R_drewN|apply Kd.R_drew));exact HO_5.out,by repeat (first|(with_reducible first|exact HB.out|apply jj6|apply jj4|apply jj2)|exact HB.out)⟩
    · rw [if_neg c6] at H
      exact absurd H (by simp)
 · rw [if_neg c5] at H
   exact absurd H (by simp)
def wire_Put.j0:Nat→Int→Bool→Int→Int→Int→List Int→Option (List Int × Int)
 | 0,_,_,_,_,_,_=>none
 | k+1,x4,x24,x133000,x133001,x133002,x133003=>if x24=true then (some (([]:List Int),20)) else ((varint_Put.f k (Go.bits .or .u64 (IntKind.u64.wrap ((IntKind.u64.wrap (x133000))*8)) (IntKind.u64.wrap (x133001)))).bind fun t135=>(if x4 > 0 then ((varint_Fixed.f k x133002 x4).bind fun t138=>(if t135.length+t138.length < 140737488355328 then (some ((t135++t138),0)) else (none))) else (if x133001=0 then ((varint_Put.f k x133002).bind fun t144=>(if t135.length+t144.length < 140737488355328 then (some ((t135++t144),0)) else (none))) else ((varint_Put.f k (IntKind.u64.wrap ((x133003.length:Int)))).bind fun t150=>(if t135.length+t150.length < 140737488355328 then ((some (t135++t150:List Int)).bind fun y153=>(if y153.length+x133003.length < 140737488355328 then (some ((y153++x133003),0)) else (none))) else (none))))))
def wire_Put.f (k:Nat) (a0_0:Int) (a0_1:Int) (a0_2:Int) (l0_3:List Int):Option (List Int × Int):=(wire_kind.f a0_1).bind fun bt133=>(if bt133.2=true then (if a0_0 < 1 then (wire_Put.j0 k bt133.1 true a0_0 a0_1 a0_2 l0_3) else (wire_Put.j0 k bt133.1 (decide (a0_0 > 536870911)) a0_0 a0_1 a0_2 l0_3)) else (wire_Put.j0 k bt133.1 true a0_0 a0_1 a0_2 l0_3))
theorem wire_Put.calls (k:Nat) (a0_0:Int) (a0_1:Int) (a0_2:Int) (A0_3:Option Addr) (c0_3:Nat) (l0_3:List Int) (r1:List Int) (r2:Int) (w:World) (hr0_3:Kd.C (Kd.int .u8) w A0_3 l0_3.length l0_3) (hc0_3:l0_3.length≤c0_3) (h:wire_Put.f k a0_0 a0_1 a0_2 l0_3=some (r1,r2)) :
 Calls Try.prog 78 #[.agg #[.int .i64 a0_0,.int .i64 a0_1,.int .u64 a0_2,.slice A0_3 l0_3.length c0_3]] w fun e w'=>∃ v0_:Value,e = .returned (.tuple #[v0_,.int .i64 r2])∧Kd.R (Kd.int .u8) 5 w' w.heap.size (fun _=>True) v0_ r1∧Below w.heap.size w w':=by
 have hu97:=Try.underlying97
 have HR0_3:=mk0 hr0_3
 have HC0_3:=mk0 hc0_3
 clear hr0_3 hc0_3
 have HB:=mk0 (Below.refl w.heap.size w)
 have H:((wire_kind.f a0_1).bind fun bt133=>(if bt133.2=true then (if a0_0 < 1 then (wire_Put.j0 k bt133.1 true a0_0 a0_1 a0_2 l0_3) else (wire_Put.j0 k bt133.1 (decide (a0_0 > 536870911)) a0_0 a0_1 a0_2 l0_3)) else (wire_Put.j0 k bt133.1 true a0_0 a0_1 a0_2 l0_3)))=some (r1,r2):=h
 clear h
 replace H:=Option.bind_eq_some_iff.mp H
 obtain ⟨⟨t133,t134⟩,A20,H⟩:=H
 replace H:(if t134=true then (if a0_0 < 1 then (wire_Put.j0 k t133 true a0_0 a0_1 a0_2 l0_3) else (wire_Put.j0 k t133 (decide (a0_0 > 536870911)) a0_0 a0_1 a0_2 l0_3)) else (wire_Put.j0 k t133 true a0_0 a0_1 a0_2 l0_3))=some (r1,r2):=H
 have A2:=mk0 A20
 clear A20
 have HC3:=mk0 H
 clear H
 go_enter Try.func78,Try.ntmps78
 go_upto_region 2 with (first|((with_reducible refine jk0 (N:=1) rfl ?_);refine bzX 1 #[.int .i64 a0_0,.int .i64 a0_1,.int .u64 a0_2,.slice A0_3 l0_3.length c0_3] 97 ?_;intro gb132 hg w4 hbox hb;have n0_:=mk0 (below_step (by repeat (first|(with_reducible first|exact HB.out|apply jj6|apply jj4|apply jj2)|exact HB.out)) hb);have n1_:=mk0 (hbox);have n2_:=mk0 ((by rw [hg];exact (below_size (by repeat (first|(with_reducible first|exact HB.out|apply jj6|apply jj4|apply jj2)|exact HB.out))):w.heap.size≤gb132));have n3_:=mk0 ((by rw [hg];exact (below_size (by repeat (first|(with_reducible first|exact HB.out|apply jj6|apply jj4|apply jj2)|exact HB.out))):w.heap.size≤gb132));clear HB;have HB:=n0_;have BK132:=n1_;have GW132:=n2_;have GE132:=n3_;clear n0_ n1_ n2_ n3_;clear hb hbox hg;have hcz5_0:w4.cell? ⟨gb132,0,none⟩=some (.int .i64 a0_0):=bzC BK132 0;have hcz5_1:w4.cell? ⟨gb132,1,none⟩=some (.int .i64 a0_1):=bzC BK132 1;have hcz5_2:w4.cell? ⟨gb132,2,none⟩=some (.int .u64 a0_2):=bzC BK132 2;have hcz5_3:w4.cell? ⟨gb132,3,none⟩=some (.slice A0_3 l0_3.length c0_3):=bzC BK132 3;have hfz5_0:=jj5 BK132.out 0;have hfz5_1:=jj5 BK132.out 1;have hfz5_2:=jj5 BK132.out 2;have hfz5_3:=jj5 BK132.out 3)|((with_reducible refine gate_callee (f:=88) rfl ?_);refine goesL_ (some 10) rfl rfl Try.func88 (by kernel_rfl) rfl #[.int .i64 a0_1] rfl (by (try simp only [List.map_toArray,List.map_cons,List.map_nil]);first|done|rfl|(simp only [List.length_drop,List.length_take];rfl)) ?_;(with_reducible refine (wire_kind.calls a0_1 t133 t134 _ A2.out).mono ?_);rintro e w' ⟨rfl,⟨nd,rfl⟩⟩;refine ⟨_,rfl,?_⟩))
 (try simp only [Act.put,List.setIfInBounds_toArray,List.set_cons_zero,List.set_cons_succ])
 go_cut [24] (fun v24 wc=>∃ (kq:Nat) (x24_2:Bool),v24 = .bool x24_2∧Aside0 (wire_Put.j0 kq t133 x24_2 a0_0 a0_1 a0_2 l0_3=some (r1,r2))∧Aside0 (kq≤k)∧Aside0 (wc.heap[gb132]?=some (.cells #[.int .i64 a0_0,.int .i64 a0_1,.int .u64 a0_2,(.slice A0_3 l0_3.length c0_3)] 97 (0,0)))∧Aside0 (Below w.heap.size w wc))
 case first=>
  have H:=HC3.out
  clear HC3
  by_cases c6:t134=true
  · subst c6
    have H1:(if a0_0 < 1 then (wire_Put.j0 k t133 true a0_0 a0_1 a0_2 l0_3) else (wire_Put.j0 k t133 (decide (a0_0 > 536870911)) a0_0 a0_1 a0_2 l0_3))=some (r1,r2):=by rw [if_pos rfl] at H;exact H
    clear H
    have H:=H1
    clear H1
    by_cases c7:a0_0 < 1
    · as_aux_lemma=>
       rw [if_pos c7] at H
       have c7b0:decide (a0_0 < 1)=true:=decide_eq_true c7
       clear c7
       (first|rw [c7b0]|(simp only [i64_w,i32_w];rw [c7b0])|rw [c7b1]|skip)
       as_aux_lemma=>
        have H':=mk0 H
        clear H
        have hcz8_0:w4.cell? ⟨gb132,0,none⟩=some (.int .i64 a0_0):=bzC BK132 0
        have hcz8_1:w4.cell? ⟨gb132,1,none⟩=some (.int .i64 a0_1):=bzC BK132 1
        have hcz8_2:w4.cell? ⟨gb132,2,none⟩=some (.int .u64 a0_2):=bzC BK132 2
        have hcz8_3:w4.cell? ⟨gb132,3,none⟩=some (.slice A0_3 l0_3.length c0_3):=bzC BK132 3
        have hfz8_0:=jj5 BK132.out 0
        have hfz8_1:=jj5 BK132.out 1
        have hfz8_2:=jj5 BK132.out 2
        have hfz8_3:=jj5 BK132.out 3
        go_wp2
        go_meet
        case rel=>exact ⟨_,(true),(by first|rfl|(simp;done)|(simp [*];done)),H',⟨by first|omega|exact Nat.le_refl _⟩,⟨by (with_reducible repeat (first|refine jj9 ?_ _|refine jjq ?_|refine jjj ?_ _));exact BK132.out⟩,⟨by repeat (first|(with_reducible first|exact HB.out|apply jj6|apply jj4|apply jj2|refine jk1 ?_ GE132.out)|exact HB.out)⟩⟩
    · as_aux_lemma=>
       rw [if_neg c7] at H
       have c7b0:decide (a0_0 < 1)=false:=decide_eq_false c7
       clear c7
       (first|rw [c7b0]|(simp only [i64_w,i32_w];rw [c7b0])|rw [c7b1]|skip)
       as_aux_lemma=>
        have H':=mk0 H
        clear H
        have hcz9_0:w4.cell? ⟨gb132,0,none⟩=some (.int .i64 a0_0):=bzC BK132 0
        have hcz9_1:w4.cell? ⟨gb132,1,none⟩=some (.int .i64 a0_1):=bzC BK132 1
        have hcz9_2:w4.cell? ⟨gb132,2,none⟩=some (.int .u64 a0_2):=bzC BK132 2
        have hcz9_3:w4.cell? ⟨gb132,3,none⟩=some (.slice A0_3 l0_3.length c0_3):=bzC BK132 3
        have hfz9_0:=jj5 BK132.out 0
        have hfz9_1:=jj5 BK132.out 1
        have hfz9_2:=jj5 BK132.out 2
        have hfz9_3:=jj5 BK132.out 3
        go_wp2
        go_meet
        case rel=>exact ⟨_,(decide (a0_0 > 536870911)),(by first|rfl|(simp;done)|(simp [*];done)),H',⟨by first|omega|exact Nat.le_refl _⟩,⟨by (with_reducible repeat (first|refine jj9 ?_ _|refine jjq ?_|refine jjj ?_ _));exact BK132.out⟩,⟨by repeat (first|(with_reducible first|exact HB.out|apply jj6|apply jj4|apply jj2|refine jk1 ?_ GE132.out)|exact HB.out)⟩⟩
  · replace c6:=Bool.eq_false_iff.mpr c6
    subst c6
    have H1:(wire_Put.j0 k t133 true a0_0 a0_1 a0_2 l0_3)=some (r1,r2):=by rw [if_neg (show ¬ (false=true) by decide)] at H;exact H
    clear H
    have H:=H1
    clear H1
    as_aux_lemma=>
     have H':=mk0 H
     clear H
     go_wp2
     go_meet
     case rel=>exact ⟨_,(true),(by first|rfl|(simp;done)|(simp [*];done)),H',⟨by first|omega|exact Nat.le_refl _⟩,⟨by (with_reducible repeat (first|refine jj9 ?_ _|refine jjq ?_|refine jjj ?_ _));exact BK132.out⟩,⟨by repeat (first|(with_reducible first|exact HB.out|apply jj6|apply jj4|apply jj2|refine jk1 ?_ GE132.out)|exact HB.out)⟩⟩
 case rest=>
  clear HC3
  try clear p2
  try clear c6
  try clear c7
  try clear c7b0
  try clear c8
  try clear hcz5_0
  try clear hcz5_1
  try clear hcz5_2
  try clear hcz5_3
  try clear hcz8_0
  try clear hcz8_1
  try clear hcz8_2
  try clear hcz8_3
  try clear hcz9_0
  try clear hcz9_1
  try clear hcz9_2
  try clear hcz9_3
  try clear hfz5_0
  try clear hfz5_1
  try clear hfz5_2
  try clear hfz5_3
  try clear hfz8_0
  try clear hfz8_1
  try clear hfz8_2
  try clear hfz8_3
  try clear hfz9_0
  try clear hfz9_1
  try clear hfz9_2
  try clear hfz9_3
  obtain ⟨kq,x24_2,rfl,HA,HJ2,BK132,HB⟩:=hcut
  cases kq with
  | zero=>exact absurd HA.out (by simp [wire_Put.j0])
  | succ kj2=>
   have H:=HA.out
   clear HA
   simp only [wire_Put.j0] at H
   by_cases c10:x24_2=true
   · subst c10
     have H1:(some (([]:List Int),20))=some (r1,r2):=by rw [if_pos rfl] at H;exact H
     clear H
     have H:=H1
     clear H1
     as_aux_lemma=>
      simp only [Option.some.injEq,Prod.mk.injEq] at H
      obtain ⟨rfl,rfl⟩:=H
      go_wp2
      go_ret2
      exact ⟨_,by first|rfl|(simp [errW_none,errW_some] <;> rfl)|(simp [*,errW_none,errW_some] <;> rfl),by first|exact Kd.R_nil _ _ _ _ _|exact Kd.N_nil _ _ _ _ _|exact Kd.V_nil _ _ _ _ _|exact Kd.Q_nil _ _ _ _ _|exact Kd.S_nil _ _ _ _ _,by repeat (first|(with_reducible first|exact HB.out|apply jj6|apply jj4|apply jj2|refine jk1 ?_ GE132.out)|exact HB.out)⟩
   · replace c10:=Bool.eq_false_iff.mpr c10
     subst c10
     have H1:((varint_Put.f kj2 (Go.bits .or .u64 (IntKind.u64.wrap ((IntKind.u64.wrap (a0_0))*8)) (IntKind.u64.wrap (a0_1)))).bind fun t135=>(if t133 > 0 then ((varint_Fixed.f kj2 a0_2 t133).bind fun t138=>(if t135.length+t138.length < 140737488355328 then (some ((t135++t138),0)) else (none))) else (if a0_1=0 then ((varint_Put.f kj2 a0_2).bind fun t144=>(if t135.length+t144.length < 140737488355328 then (some ((t135++t144),0)) else (none))) else ((varint_Put.f kj2 (IntKind.u64.wrap ((l0_3.length:Int)))).bind fun t150=>(if t135.length+t150.length < 140737488355328 then ((some (t135++t150:List Int)).bind fun y153=>(if y153.length+l0_3.length < 140737488355328 then (some ((y153++l0_3),0)) else (none))) else (none))))))=some (r1,r2):=by rw [if_neg (show ¬ (false=true) by decide)] at H;exact H
     clear H
     have H:=H1
     clear H1
     replace H:=Option.bind_eq_some_iff.mp H
     obtain ⟨t135,A110,H⟩:=H
     replace H:(if t133 > 0 then ((varint_Fixed.f kj2 a0_2 t133).bind fun t138=>(if t135.length+t138.length < 140737488355328 then (some ((t135++t138),0)) else (none))) else (if a0_1=0 then ((varint_Put.f kj2 a0_2).bind fun t144=>(if t135.length+t144.length < 140737488355328 then (some ((t135++t144),0)) else (none))) else ((varint_Put.f kj2 (IntKind.u64.wrap ((l0_3.length:Int)))).bind fun t150=>(if t135.length+t150.length < 140737488355328 then ((some (t135++t150:List Int)).bind fun y153=>(if y153.length+l0_3.length < 140737488355328 then (some ((y153++l0_3),0)) else (none))) else (none)))))=some (r1,r2):=H
     have A11:=mk0 A110
     clear A110
     by_cases c12:t133 > 0
     · as_aux_lemma=>
        rw [if_pos c12] at H
        have c12b0:decide (0 < t133)=true:=decide_eq_true c12
        clear c12
        replace H:=Option.bind_eq_some_iff.mp H
        obtain ⟨t138,A130,H⟩:=H
        replace H:(if t135.length+t138.length < 140737488355328 then (some ((t135++t138),0)) else (none))=some (r1,r2):=H
        have A13:=mk0 A130
        clear A130
        by_cases c14:t135.length+t138.length < 140737488355328
        · as_aux_lemma=>
           rw [if_pos c14] at H
           have LMc14:=mk0 c14
           clear c14
           obtain ⟨y141,hy141⟩:∃ y_:List Int,y_=(t135++t138):=⟨_,rfl⟩
           replace H:(some (y141,0))=some (r1,r2):=by first|(rw [hy141];with_reducible exact H)|(have H2_:=(Option.bind_some _ _).symm.trans H;rw [hy141];with_reducible exact H2_)|(have H2_:=(Option.bind_some _ _).symm.trans H;with_reducible exact H2_)|with_reducible exact H|(rw [hy141];exact H)|exact H
           have Ny141:=mk0 hy141
           clear hy141
           as_aux_lemma=>
            simp only [Option.some.injEq,Prod.mk.injEq] at H
            obtain ⟨rfl,rfl⟩:=H
            have hcz15_0:wc.cell? ⟨gb132,0,none⟩=some (.int .i64 a0_0):=bzC BK132 0
            have hcz15_1:wc.cell? ⟨gb132,1,none⟩=some (.int .i64 a0_1):=bzC BK132 1
            have hcz15_2:wc.cell? ⟨gb132,2,none⟩=some (.int .u64 a0_2):=bzC BK132 2
            have hcz15_3:wc.cell? ⟨gb132,3,none⟩=some (.slice A0_3 l0_3.length c0_3):=bzC BK132 3
            have hfz15_0:=jj5 BK132.out 0
            have hfz15_1:=jj5 BK132.out 1
            have hfz15_2:=jj5 BK132.out 2
            have hfz15_3:=jj5 BK132.out 3
            go_wp2_with (first|((with_reducible refine gate_callee (f:=89) rfl ?_);refine goesL_ (some 33) rfl rfl Try.func89 (by kernel_rfl) rfl #[.int .u64 (Go.bits .or .u64 (IntKind.u64.wrap ((IntKind.u64.wrap (a0_0))*8)) (IntKind.u64.wrap (a0_1)))] rfl (by (try simp only [List.map_toArray,List.map_cons,List.map_nil]);first|done|rfl|(simp only [List.length_drop,List.length_take];rfl)) ?_;(with_reducible refine (varint_Put.calls kj2 (Go.bits .or .u64 (IntKind.u64.wrap ((IntKind.u64.wrap (a0_0))*8)) (IntKind.u64.wrap (a0_1))) t135 _ A11.out).mono ?_);rintro e w16 ⟨v136,rfl,ho0,hb⟩;refine ⟨_,rfl,?_⟩;have n0_:=mk0 (Kd.R_lower ho0 (below_size (by repeat (first|(with_reducible first|exact HB.out|apply jj6|apply jj4|apply jj2|refine jk1 ?_ GE132.out)|exact HB.out))));have n1_:=mk0 (jj3 (g:=gb132) (o:=.cells #[.int .i64 a0_0,.int .i64 a0_1,.int .u64 a0_2,.slice A0_3 l0_3.length c0_3] 97 (0,0)) (by (with_reducible repeat (first|refine jj9 ?_ _|refine jjq ?_|refine jjj ?_ _));exact BK132.out) hb);have n2_:=mk0 (below_step (by repeat (first|(with_reducible first|exact HB.out|apply jj6|apply jj4|apply jj2|refine jk1 ?_ GE132.out)|exact HB.out)) hb);clear BK132;clear HB;have HO137:=n0_;have BK132:=n1_;have HB:=n2_;clear n0_ n1_ n2_;(try clear hb);(try clear hb2);(try clear hk);(try clear hi);(try clear ho0);have hcz17_0:w16.cell? ⟨gb132,0,none⟩=some (.int .i64 a0_0):=bzC BK132 0;have hcz17_1:w16.cell? ⟨gb132,1,none⟩=some (.int .i64 a0_1):=bzC BK132 1;have hcz17_2:w16.cell? ⟨gb132,2,none⟩=some (.int .u64 a0_2):=bzC BK132 2;have hcz17_3:w16.cell? ⟨gb132,3,none⟩=some (.slice A0_3 l0_3.length c0_3):=bzC BK132 3;have hfz17_0:=jj5 BK132.out 0;have hfz17_1:=jj5 BK132.out 1;have hfz17_2:=jj5 BK132.out 2;have hfz17_3:=jj5 BK132.out 3)|((with_reducible refine gate_callee (f:=90) rfl ?_);refine goesL_ (some 52) rfl rfl Try.func90 (by kernel_rfl) rfl #[.int .u64 a0_2,.int .i64 t133] rfl (by (try simp only [List.map_toArray,List.map_cons,List.map_nil]);first|done|rfl|(simp only [List.length_drop,List.length_take];rfl)) ?_;(with_reducible refine (varint_Fixed.calls kj2 a0_2 t133 t138 _ A13.out).mono ?_);rintro e w18 ⟨v139,rfl,ho0,hb⟩;refine ⟨_,rfl,?_⟩;have n0_:=mk0 (Kd.R_elder' (by (with_reducible repeat (first|apply Kd.R_alloc|apply Kd.R_drewN|apply Kd.R_drew));exact HO137.out) (Kd.R_base ho0) hb);have n1_:=mk0 (Kd.R_lower (Kd.R_new' ho0 (Kd.R_lt (by (with_reducible repeat (first|apply Kd.R_alloc|apply Kd.R_drewN|apply Kd.R_drew));exact HO137.out))) (below_size (by repeat (first|(with_reducible first|exact HB.out|apply jj6|apply jj4|apply jj2|refine jk1 ?_ GE132.out)|exact HB.out))));have n2_:=mk0 (jj3 (g:=gb132) (o:=.cells #[.int .i64 a0_0,.int .i64 a0_1,.int .u64 a0_2,.slice A0_3 l0_3.length c0_3] 97 (0,0)) (by (with_reducible repeat (first|refine jj9 ?_ _|refine jjq ?_|refine jjj ?_ _));exact BK132.out) hb);have n3_:=mk0 (below_step (by repeat (first|(with_reducible first|exact HB.out|apply jj6|apply jj4|apply jj2|refine jk1 ?_ GE132.out)|exact HB.out)) hb);clear HO137;clear BK132;clear HB;have HO137:=n0_;have HO140:=n1_;have BK132:=n2_;have HB:=n3_;clear n0_ n1_ n2_ n3_;(try clear hb);(try clear hb2);(try clear hk);(try clear hi);(try clear ho0);obtain ⟨Ao20,co20,eo20⟩:=Kd.jk4 HO140.out;subst eo20)|((with_reducible refine jk9 (b:=.append) (xs:=#[.tmp 48,.tmp 52]) rfl ?_);at_builtin;refine Kd.R_append_rows (Kd.int .u8) (w0:=w) w.heap.size rfl (.tmp 48) (.tmp 52) 28 5 (.int .u8 0) 1 rfl Try.underlying28 info5 rfl (by decide) (by omega) v136 t135 t138 _ _ _ (fun k_=>some k_≠(.slice Ao20 t138.length co20:Value).ownBlock) (fun _=>False) rfl rfl ?aO ?aR (fun _ _ h=>h) (fun _ h=>h.elim) ?aF ?aB ?aS ?aL ?_;(case aR=>repeat (first|exact (Kd.jj7 HO140.out).2.2|(with_reducible refine Kd.C_alloc ?_ _)|(with_reducible refine Kd.C_drewN ?_ _)|(with_reducible refine Kd.C_drew ?_)));(case aB=>exact (by repeat (first|(with_reducible first|exact HB.out|apply jj6|apply jj4|apply jj2|refine jk1 ?_ GE132.out)|exact HB.out)));(case aF=>exact (fun k_ hk=>Kd.fresh' (Kd.R_lt (by (with_reducible repeat (first|apply Kd.R_alloc|apply Kd.R_drewN|apply Kd.R_drew));exact HO140.out)) k_ hk));(case aO=>exact (by (with_reducible repeat (first|apply Kd.R_alloc|apply Kd.R_drewN|apply Kd.R_drew));exact Kd.R_mono HO137.out (fun _ hk=>hk.2)));(case aS=>exact (below_size (by repeat (first|(with_reducible first|exact HB.out|apply jj6|apply jj4|apply jj2|refine jk1 ?_ GE132.out)|exact HB.out))));(case aL=>have:=LMc14.out;omega);intro v142 w19 ho hb hg hat;rw [← Ny141.out] at ho;have n0_:=mk0 (blk_grown (g:=gb132) (o:=.cells #[.int .i64 a0_0,.int .i64 a0_1,.int .u64 a0_2,.slice A0_3 l0_3.length c0_3] 97 (0,0)) (by (with_reducible repeat (first|refine jj9 ?_ _|refine jjq ?_|refine jjj ?_ _));exact BK132.out) hg (Kd.R_ne HO137.out BK132.out (by decide)));have n1_:=mk0 (Kd.R_after (ok:=(fun _=>True)) (by (with_reducible repeat (first|apply Kd.R_alloc|apply Kd.R_drewN|apply Kd.R_drew));exact HO140.out) hg hat);have n2_:=mk0 (hb);have n3_:=mk0 (ho);clear BK132;clear HO140;clear HB;clear HO137;have BK132:=n0_;have HO140:=n1_;have HB:=n2_;have HO143:=n3_;clear n0_ n1_ n2_ n3_;clear ho hb hg hat))
            go_ret2
            exact ⟨_,by first|rfl|(simp [errW_none,errW_some] <;> rfl)|(simp [*,errW_none,errW_some] <;> rfl),by (with_reducible repeat (first|apply Kd.R_alloc|apply Kd.R_drewN|apply Kd.R_drew));exact Kd.R_mono HO143.out (fun _ hk=>trivial),by repeat (first|(with_reducible first|exact HB.out|apply jj6|apply jj4|apply jj2|refine jk1 ?_ GE132.out)|exact HB.out)⟩
        · rw [if_neg c14] at H
          exact absurd H (by simp)
     · as_aux_lemma=>
        rw [if_neg c12] at H
        have c12b0:decide (0 < t133)=false:=decide_eq_false c12
        clear c12
        by_cases c21:a0_1=0
        · as_aux_lemma=>
           rw [if_pos c21] at H
           have c21b0:(a0_1==0)=true:=beq_iff_eq.mpr c21
           have c21b1:(a0_1 != 0)=false:=bne_eq_false_iff_eq.mpr c21
           clear c21
           replace H:=Option.bind_eq_some_iff.mp H
           obtain ⟨t144,A220,H⟩:=H
           replace H:(if t135.length+t144.length < 140737488355328 then (some ((t135++t144),0)) else (none))=some (r1,r2):=H
           have A22:=mk0 A220
           clear A220
           by_cases c23:t135.length+t144.length < 140737488355328
           · as_aux_lemma=>
              rw [if_pos c23] at H
              have LMc23:=mk0 c23
              clear c23
              obtain ⟨y147,hy147⟩:∃ y_:List Int,y_=(t135++t144):=⟨_,rfl⟩
              replace H:(some (y147,0))=some (r1,r2):=by first|(rw [hy147];with_reducible exact H)|(have H2_:=(Option.bind_some _ _).symm.trans H;rw [hy147];with_reducible exact H2_)|(have H2_:=(Option.bind_some _ _).symm.trans H;with_reducible exact H2_)|with_reducible exact H|(rw [hy147];exact H)|exact H
              have Ny147:=mk0 hy147
              clear hy147
              as_aux_lemma=>
               simp only [Option.some.injEq,Prod.mk.injEq] at H
               obtain ⟨rfl,rfl⟩:=H
               have hcz24_0:wc.cell? ⟨gb132,0,none⟩=some (.int .i64 a0_0):=bzC BK132 0
               have hcz24_1:wc.cell? ⟨gb132,1,none⟩=some (.int .i64 a0_1):=bzC BK132 1
               have hcz24_2:wc.cell? ⟨gb132,2,none⟩=some (.int .u64 a0_2):=bzC BK132 2
               have hcz24_3:wc.cell? ⟨gb132,3,none⟩=some (.slice A0_3 l0_3.length c0_3):=bzC BK132 3
               have hfz24_0:=jj5 BK132.out 0
               have hfz24_1:=jj5 BK132.out 1
               have hfz24_2:=jj5 BK132.out 2
               have hfz24_3:=jj5 BK132.out 3
               go_wp2_with (first|((with_reducible refine gate_callee (f:=89) rfl ?_);refine goesL_ (some 33) rfl rfl Try.func89 (by kernel_rfl) rfl #[.int .u64 (Go.bits .or .u64 (IntKind.u64.wrap ((IntKind.u64.wrap (a0_0))*8)) (IntKind.u64.wrap (a0_1)))] rfl (by (try simp only [List.map_toArray,List.map_cons,List.map_nil]);first|done|rfl|(simp only [List.length_drop,List.length_take];rfl)) ?_;(with_reducible refine (varint_Put.calls kj2 (Go.bits .or .u64 (IntKind.u64.wrap ((IntKind.u64.wrap (a0_0))*8)) (IntKind.u64.wrap (a0_1))) t135 _ A11.out).mono ?_);rintro e w25 ⟨v136,rfl,ho0,hb⟩;refine ⟨_,rfl,?_⟩;have n0_:=mk0 (Kd.R_lower ho0 (below_size (by repeat (first|(with_reducible first|exact HB.out|apply jj6|apply jj4|apply jj2|refine jk1 ?_ GE132.out)|exact HB.out))));have n1_:=mk0 (jj3 (g:=gb132) (o:=.cells #[.int .i64 a0_0,.int .i64 a0_1,.int .u64 a0_2,.slice A0_3 l0_3.length c0_3] 97 (0,0)) (by (with_reducible repeat (first|refine jj9 ?_ _|refine jjq ?_|refine jjj ?_ _));exact BK132.out) hb);have n2_:=mk0 (below_step (by repeat (first|(with_reducible first|exact HB.out|apply jj6|apply jj4|apply jj2|refine jk1 ?_ GE132.out)|exact HB.out)) hb);clear BK132;clear HB;have HO137:=n0_;have BK132:=n1_;have HB:=n2_;clear n0_ n1_ n2_;(try clear hb);(try clear hb2);(try clear hk);(try clear hi);(try clear ho0);have hcz26_0:w25.cell? ⟨gb132,0,none⟩=some (.int .i64 a0_0):=bzC BK132 0;have hcz26_1:w25.cell? ⟨gb132,1,none⟩=some (.int .i64 a0_1):=bzC BK132 1;have hcz26_2:w25.cell? ⟨gb132,2,none⟩=some (.int .u64 a0_2):=bzC BK132 2;have hcz26_3:w25.cell? ⟨gb132,3,none⟩=some (.slice A0_3 l0_3.length c0_3):=bzC BK132 3;have hfz26_0:=jj5 BK132.out 0;have hfz26_1:=jj5 BK132.out 1;have hfz26_2:=jj5 BK132.out 2;have hfz26_3:=jj5 BK132.out 3)|((with_reducible refine gate_callee (f:=89) rfl ?_);refine goesL_ (some 61) rfl rfl Try.func89 (by kernel_rfl) rfl #[.int .u64 a0_2] rfl (by (try simp only [List.map_toArray,List.map_cons,List.map_nil]);first|done|rfl|(simp only [List.length_drop,List.length_take];rfl)) ?_;(with_reducible refine (varint_Put.calls kj2 a0_2 t144 _ A22.out).mono ?_);rintro e w27 ⟨v145,rfl,ho0,hb⟩;refine ⟨_,rfl,?_⟩;have n0_:=mk0 (Kd.R_elder' (by (with_reducible repeat (first|apply Kd.R_alloc|apply Kd.R_drewN|apply Kd.R_drew));exact HO137.out) (Kd.R_base ho0) hb);have n1_:=mk0 (Kd.R_lower (Kd.R_new' ho0 (Kd.R_lt (by (with_reducible repeat (first|apply Kd.R_alloc|apply Kd.R_drewN|apply Kd.R_drew));exact HO137.out))) (below_size (by repeat (first|(with_reducible first|exact HB.out|apply jj6|apply jj4|apply jj2|refine jk1 ?_ GE132.out)|exact HB.out))));have n2_:=mk0 (jj3 (g:=gb132) (o:=.cells #[.int .i64 a0_0,.int .i64 a0_1,.int .u64 a0_2,.slice A0_3 l0_3.length c0_3] 97 (0,0)) (by (with_reducible repeat (first|refine jj9 ?_ _|refine jjq ?_|refine jjj ?_ _));exact BK132.out) hb);have n3_:=mk0 (below_step (by repeat (first|(with_reducible first|exact HB.out|apply jj6|apply jj4|apply jj2|refine jk1 ?_ GE132.out)|exact HB.out)) hb);clear HO137;clear BK132;clear HB;have HO137:=n0_;have HO146:=n1_;have BK132:=n2_;have HB:=n3_;clear n0_ n1_ n2_ n3_;(try clear hb);(try clear hb2);(try clear hk);(try clear hi);(try clear ho0);obtain ⟨Ao29,co29,eo29⟩:=Kd.jk4 HO146.out;subst eo29)|((with_reducible refine jk9 (b:=.append) (xs:=#[.tmp 58,.tmp 61]) rfl ?_);at_builtin;refine Kd.R_append_rows (Kd.int .u8) (w0:=w) w.heap.size rfl (.tmp 58) (.tmp 61) 28 5 (.int .u8 0) 1 rfl Try.underlying28 info5 rfl (by decide) (by omega) v136 t135 t144 _ _ _ (fun k_=>some k_≠(.slice Ao29 t144.length co29:Value).ownBlock) (fun _=>False) rfl rfl ?aO ?aR (fun _ _ h=>h) (fun _ h=>h.elim) ?aF ?aB ?aS ?aL ?_;(case aR=>repeat (first|exact (Kd.jj7 HO146.out).2.2|(with_reducible refine Kd.C_alloc ?_ _)|(with_reducible refine Kd.C_drewN ?_ _)|(with_reducible refine Kd.C_drew ?_)));(case aB=>exact (by repeat (first|(with_reducible first|exact HB.out|apply jj6|apply jj4|apply jj2|refine jk1 ?_ GE132.out)|exact HB.out)));(case aF=>exact (fun k_ hk=>Kd.fresh' (Kd.R_lt (by (with_reducible repeat (first|apply Kd.R_alloc|apply Kd.R_drewN|apply Kd.R_drew));exact HO146.out)) k_ hk));(case aO=>exact (by (with_reducible repeat (first|apply Kd.R_alloc|apply Kd.R_drewN|apply Kd.R_drew));exact Kd.R_mono HO137.out (fun _ hk=>hk.2)));(case aS=>exact (below_size (by repeat (first|(with_reducible first|exact HB.out|apply jj6|apply jj4|apply jj2|refine jk1 ?_ GE132.out)|exact HB.out))));(case aL=>have:=LMc23.out;omega);intro v148 w28 ho hb hg hat;rw [← Ny147.out] at ho;have n0_:=mk0 (blk_grown (g:=gb132) (o:=.cells #[.int .i64 a0_0,.int .i64 a0_1,.int .u64 a0_2,.slice A0_3 l0_3.length c0_3] 97 (0,0)) (by (with_reducible repeat (first|refine jj9 ?_ _|refine jjq ?_|refine jjj ?_ _));exact BK132.out) hg (Kd.R_ne HO137.out BK132.out (by decide)));have n1_:=mk0 (Kd.R_after (ok:=(fun _=>True)) (by (with_reducible repeat (first|apply Kd.R_alloc|apply Kd.R_drewN|apply Kd.R_drew));exact HO146.out) hg hat);have n2_:=mk0 (hb);have n3_:=mk0 (ho);clear BK132;clear HO146;clear HB;clear HO137;have BK132:=n0_;have HO146:=n1_;have HB:=n2_;have HO149:=n3_;clear n0_ n1_ n2_ n3_;clear ho hb hg hat))
               go_ret2
               exact ⟨_,by first|rfl|(simp [errW_none,errW_some] <;> rfl)|(simp [*,errW_none,errW_some] <;> rfl),by (with_reducible repeat (first|apply Kd.R_alloc|apply Kd.R_drewN|apply Kd.R_drew));exact Kd.R_mono HO149.out (fun _ hk=>trivial),by repeat (first|(with_reducible first|exact HB.out|apply jj6|apply jj4|apply jj2|refine jk1 ?_ GE132.out)|exact HB.out)⟩
           · rw [if_neg c23] at H
             exact absurd H (by simp)
        · as_aux_lemma=>
           rw [if_neg c21] at H
           have c21b0:(a0_1==0)=false:=beq_eq_false_iff_ne.mpr c21
           have c21b1:(a0_1 != 0)=true:=bne_iff_ne.mpr c21
           replace H:=Option.bind_eq_some_iff.mp H
           obtain ⟨t150,A300,H⟩:=H
           replace H:(if t135.length+t150.length < 140737488355328 then ((some (t135++t150:List Int)).bind fun y153=>(if y153.length+l0_3.length < 140737488355328 then (some ((y153++l0_3),0)) else (none))) else (none))=some (r1,r2):=H
           have A30:=mk0 A300
           clear A300
           by_cases c31:t135.length+t150.length < 140737488355328
           · as_aux_lemma=>
              rw [if_pos c31] at H
              have LMc31:=mk0 c31
              clear c31
              obtain ⟨y153,hy153⟩:∃ y_:List Int,y_=(t135++t150):=⟨_,rfl⟩
              replace H:(if y153.length+l0_3.length < 140737488355328 then (some ((y153++l0_3),0)) else (none))=some (r1,r2):=by first|(rw [hy153];with_reducible exact H)|(have H2_:=(Option.bind_some _ _).symm.trans H;rw [hy153];with_reducible exact H2_)|(have H2_:=(Option.bind_some _ _).symm.trans H;with_reducible exact H2_)|with_reducible exact H|(rw [hy153];exact H)|exact H
              have Ny153:=mk0 hy153
              clear hy153
              by_cases c32:y153.length+l0_3.length < 140737488355328
              · as_aux_lemma=>
                 rw [if_pos c32] at H
                 have LMc32:=mk0 c32
                 clear c32
                 obtain ⟨y156,hy156⟩:∃ y_:List Int,y_=(y153++l0_3):=⟨_,rfl⟩
                 replace H:(some (y156,0))=some (r1,r2):=by first|(rw [hy156];with_reducible exact H)|(have H2_:=(Option.bind_some _ _).symm.trans H;rw [hy156];with_reducible exact H2_)|(have H2_:=(Option.bind_some _ _).symm.trans H;with_reducible exact H2_)|with_reducible exact H|(rw [hy156];exact H)|exact H
                 have Ny156:=mk0 hy156
                 clear hy156
                 as_aux_lemma=>
                  simp only [Option.some.injEq,Prod.mk.injEq] at H
                  obtain ⟨rfl,rfl⟩:=H
                  have hcz33_0:wc.cell? ⟨gb132,0,none⟩=some (.int .i64 a0_0):=bzC BK132 0
                  have hcz33_1:wc.cell? ⟨gb132,1,none⟩=some (.int .i64 a0_1):=bzC BK132 1
                  have hcz33_2:wc.cell? ⟨gb132,2,none⟩=some (.int .u64 a0_2):=bzC BK132 2
                  have hcz33_3:wc.cell? ⟨gb132,3,none⟩=some (.slice A0_3 l0_3.length c0_3):=bzC BK132 3
                  have hfz33_0:=jj5 BK132.out 0
                  have hfz33_1:=jj5 BK132.out 1
                  have hfz33_2:=jj5 BK132.out 2
                  have hfz33_3:=jj5 BK132.out 3
                  go_wp2_with (first|((with_reducible refine gate_callee (f:=89) rfl ?_);refine goesL_ (some 33) rfl rfl Try.func89 (by kernel_rfl) rfl #[.int .u64 (Go.bits .or .u64 (IntKind.u64.wrap ((IntKind.u64.wrap (a0_0))*8)) (IntKind.u64.wrap (a0_1)))] rfl (by (try simp only [List.map_toArray,List.map_cons,List.map_nil]);first|done|rfl|(simp only [List.length_drop,List.length_take];rfl)) ?_;(with_reducible refine (varint_Put.calls kj2 (Go.bits .or .u64 (IntKind.u64.wrap ((IntKind.u64.wrap (a0_0))*8)) (IntKind.u64.wrap (a0_1))) t135 _ A11.out).mono ?_);rintro e w34 ⟨v136,rfl,ho0,hb⟩;refine ⟨_,rfl,?_⟩;have n0_:=mk0 (Kd.R_lower ho0 (below_size (by repeat (first|(with_reducible first|exact HB.out|apply jj6|apply jj4|apply jj2|refine jk1 ?_ GE132.out)|exact HB.out))));have n1_:=mk0 (jj3 (g:=gb132) (o:=.cells #[.int .i64 a0_0,.int .i64 a0_1,.int .u64 a0_2,.slice A0_3 l0_3.length c0_3] 97 (0,0)) (by (with_reducible repeat (first|refine jj9 ?_ _|refine jjq ?_|refine jjj ?_ _));exact BK132.out) hb);have n2_:=mk0 (below_step (by repeat (first|(with_reducible first|exact HB.out|apply jj6|apply jj4|apply jj2|refine jk1 ?_ GE132.out)|exact HB.out)) hb);clear BK132;clear HB;have HO137:=n0_;have BK132:=n1_;have HB:=n2_;clear n0_ n1_ n2_;(try clear hb);(try clear hb2);(try clear hk);(try clear hi);(try clear ho0);have hcz35_0:w34.cell? ⟨gb132,0,none⟩=some (.int .i64 a0_0):=bzC BK132 0;have hcz35_1:w34.cell? ⟨gb132,1,none⟩=some (.int .i64 a0_1):=bzC BK132 1;have hcz35_2:w34.cell? ⟨gb132,2,none⟩=some (.int .u64 a0_2):=bzC BK132 2;have hcz35_3:w34.cell? ⟨gb132,3,none⟩=some (.slice A0_3 l0_3.length c0_3):=bzC BK132 3;have hfz35_0:=jj5 BK132.out 0;have hfz35_1:=jj5 BK132.out 1;have hfz35_2:=jj5 BK132.out 2;have hfz35_3:=jj5 BK132.out 3)|((with_reducible refine gate_callee (f:=89) rfl ?_);refine goesL_ (some 39) rfl rfl Try.func89 (by kernel_rfl) rfl #[.int .u64 (IntKind.u64.wrap ((l0_3.length:Int)))] rfl (by (try simp only [List.map_toArray,List.map_cons,List.map_nil]);first|done|rfl|(simp only [List.length_drop,List.length_take];rfl)) ?_;(with_reducible refine (varint_Put.calls kj2 (IntKind.u64.wrap ((l0_3.length:Int))) t150 _ A30.out).mono ?_);rintro e w36 ⟨v151,rfl,ho0,hb⟩;refine ⟨_,rfl,?_⟩;have n0_:=mk0 (Kd.R_elder' (by (with_reducible repeat (first|apply Kd.R_alloc|apply Kd.R_drewN|apply Kd.R_drew));exact HO137.out) (Kd.R_base ho0) hb);have n1_:=mk0 (Kd.R_lower (Kd.R_new' ho0 (Kd.R_lt (by (with_reducible repeat (first|apply Kd.R_alloc|apply Kd.R_drewN|apply Kd.R_drew));exact HO137.out))) (below_size (by repeat (first|(with_reducible first|exact HB.out|apply jj6|apply jj4|apply jj2|refine jk1 ?_ GE132.out)|exact HB.out))));have n2_:=mk0 (jj3 (g:=gb132) (o:=.cells #[.int .i64 a0_0,.int .i64 a0_1,.int .u64 a0_2,.slice A0_3 l0_3.length c0_3] 97 (0,0)) (by (with_reducible repeat (first|refine jj9 ?_ _|refine jjq ?_|refine jjj ?_ _));exact BK132.out) hb);have n3_:=mk0 (below_step (by repeat (first|(with_reducible first|exact HB.out|apply jj6|apply jj4|apply jj2|refine jk1 ?_ GE132.out)|exact HB.out)) hb);clear HO137;clear BK132;clear HB;have HO137:=n0_;have HO152:=n1_;have BK132:=n2_;have HB:=n3_;clear n0_ n1_ n2_ n3_;(try clear hb);(try clear hb2);(try clear hk);(try clear hi);(try clear ho0);obtain ⟨Ao38,co38,eo38⟩:=Kd.jk4 HO152.out;subst eo38)|((with_reducible refine jk9 (b:=.append) (xs:=#[.tmp 34,.tmp 39]) rfl ?_);at_builtin;refine Kd.R_append_rows (Kd.int .u8) (w0:=w) w.heap.size rfl (.tmp 34) (.tmp 39) 28 5 (.int .u8 0) 1 rfl Try.underlying28 info5 rfl (by decide) (by omega) v136 t135 t150 _ _ _ (fun k_=>some k_≠(.slice Ao38 t150.length co38:Value).ownBlock) (fun _=>False) rfl rfl ?aO ?aR (fun _ _ h=>h) (fun _ h=>h.elim) ?aF ?aB ?aS ?aL ?_;(case aR=>repeat (first|exact (Kd.jj7 HO152.out).2.2|(with_reducible refine Kd.C_alloc ?_ _)|(with_reducible refine Kd.C_drewN ?_ _)|(with_reducible refine Kd.C_drew ?_)));(case aB=>exact (by repeat (first|(with_reducible first|exact HB.out|apply jj6|apply jj4|apply jj2|refine jk1 ?_ GE132.out)|exact HB.out)));(case aF=>exact (fun k_ hk=>Kd.fresh' (Kd.R_lt (by (with_reducible repeat (first|apply Kd.R_alloc|apply Kd.R_drewN|apply Kd.R_drew));exact HO152.out)) k_ hk));(case aO=>exact (by (with_reducible repeat (first|apply Kd.R_alloc|apply Kd.R_drewN|apply Kd.R_drew));exact Kd.R_mono HO137.out (fun _ hk=>hk.2)));(case aS=>exact (below_size (by repeat (first|(with_reducible first|exact HB.out|apply jj6|apply jj4|apply jj2|refine jk1 ?_ GE132.out)|exact HB.out))));(case aL=>have:=LMc31.out;omega);intro v154 w37 ho hb hg hat;rw [← Ny153.out] at ho;have n0_:=mk0 (blk_grown (g:=gb132) (o:=.cells #[.int .i64 a0_0,.int .i64 a0_1,.int .u64 a0_2,.slice A0_3 l0_3.length c0_3] 97 (0,0)) (by (with_reducible repeat (first|refine jj9 ?_ _|refine jjq ?_|refine jjj ?_ _));exact BK132.out) hg (Kd.R_ne HO137.out BK132.out (by decide)));have n1_:=mk0 (Kd.R_after (ok:=(fun _=>True)) (by (with_reducible repeat (first|apply Kd.R_alloc|apply Kd.R_drewN|apply Kd.R_drew));exact HO152.out) hg hat);have n2_:=mk0 (hb);have n3_:=mk0 (ho);clear BK132;clear HO152;clear HB;clear HO137;have BK132:=n0_;have HO152:=n1_;have HB:=n2_;have HO155:=n3_;clear n0_ n1_ n2_ n3_;clear ho hb hg hat;have hcz39_0:w37.cell? ⟨gb132,0,none⟩=some (.int .i64 a0_0):=bzC BK132 0;have hcz39_1:w37.cell? ⟨gb132,1,none⟩=some (.int .i64 a0_1):=bzC BK132 1;have hcz39_2:w37.cell? ⟨gb132,2,none⟩=some (.int .u64 a0_2):=bzC BK132 2;have hcz39_3:w37.cell? ⟨gb132,3,none⟩=some (.slice A0_3 l0_3.length c0_3):=bzC BK132 3;have hfz39_0:=jj5 BK132.out 0;have hfz39_1:=jj5 BK132.out 1;have hfz39_2:=jj5 BK132.out 2;have hfz39_3:=jj5 BK132.out 3)|((with_reducible refine jk9 (b:=.append) (xs:=#[.tmp 41,.tmp 43]) rfl ?_);at_builtin;refine Kd.R_append_rows (Kd.int .u8) (w0:=w) w.heap.size rfl (.tmp 41) (.tmp 43) 28 5 (.int .u8 0) 1 rfl Try.underlying28 info5 rfl (by decide) (by omega) v154 y153 l0_3 _ _ _ (fun k_=>some k_≠(.slice Ao38 t150.length co38:Value).ownBlock) (fun _=>False) rfl rfl ?aO ?aR (fun _ _ h=>h) (fun _ h=>h.elim) ?aF ?aB ?aS ?aL ?_;(case aR=>repeat (first|exact (Kd.jj0 HR0_3.out HB.out)|(with_reducible refine Kd.C_alloc ?_ _)|(with_reducible refine Kd.C_drewN ?_ _)|(with_reducible refine Kd.C_drew ?_)));(case aB=>exact (by repeat (first|(with_reducible first|exact HB.out|apply jj6|apply jj4|apply jj2|refine jk1 ?_ GE132.out)|exact HB.out)));(case aF=>exact (fun k_ hk=>Kd.fresh' (Kd.R_lt (by (with_reducible repeat (first|apply Kd.R_alloc|apply Kd.R_drewN|apply Kd.R_drew));exact HO152.out)) k_ hk));(case aO=>exact (by (with_reducible repeat (first|apply Kd.R_alloc|apply Kd.R_drewN|apply Kd.R_drew));exact HO155.out));(case aS=>exact (below_size (by repeat (first|(with_reducible first|exact HB.out|apply jj6|apply jj4|apply jj2|refine jk1 ?_ GE132.out)|exact HB.out))));(case aL=>have:=LMc32.out;omega);intro v157 w40 ho hb hg hat;rw [← Ny156.out] at ho;have n0_:=mk0 (blk_grown (g:=gb132) (o:=.cells #[.int .i64 a0_0,.int .i64 a0_1,.int .u64 a0_2,.slice A0_3 l0_3.length c0_3] 97 (0,0)) (by (with_reducible repeat (first|refine jj9 ?_ _|refine jjq ?_|refine jjj ?_ _));exact BK132.out) hg (Kd.R_ne HO155.out BK132.out (by decide)));have n1_:=mk0 (Kd.R_after (ok:=(fun _=>True)) (by (with_reducible repeat (first|apply Kd.R_alloc|apply Kd.R_drewN|apply Kd.R_drew));exact HO152.out) hg hat);have n2_:=mk0 (hb);have n3_:=mk0 (ho);clear BK132;clear HO152;clear HB;clear HO155;have BK132:=n0_;have HO152:=n1_;have HB:=n2_;have HO158:=n3_;clear n0_ n1_ n2_ n3_;clear ho hb hg hat))
                  go_ret2
                  exact ⟨_,by first|rfl|(simp [errW_none,errW_some] <;> rfl)|(simp [*,errW_none,errW_some] <;> rfl),by (with_reducible repeat (first|apply Kd.R_alloc|apply Kd.R_drewN|apply Kd.R_drew));exact Kd.R_mono HO158.out (fun _ hk=>trivial),by repeat (first|(with_reducible first|exact HB.out|apply jj6|apply jj4|apply jj2|refine jk1 ?_ GE132.out)|exact HB.out)⟩
              · rw [if_neg c32] at H
                exact absurd H (by simp)
           · rw [if_neg c31] at H
             exact absurd H (by simp)
def undesc_ofLen.f (a0_0:Int) (a0_1:Int) (a0_2:Int) (l0_3:List Int):Option (Int):=if a0_1=2 then (some a0_0) else (some 0)
def undesc_ofVarint.f (a0_0:Int) (a0_1:Int) (a0_2:Int) (l0_3:List Int):Option (Int):=if a0_1=0 then (some a0_0) else (some 0)
mutual
def glossarylaw11_count.l0:Nat→Int→Int→List (S76)→Int→Int→Option (Int)
 | 0,_,_,_,_,_=>none
 | k+1,x1,x2,x11,x12,x13=>if x13 < x12 then (if 0≤x13 then (if x13 < (x11.length:Int) then (if (wrap64 (x1+1)) > 100 then (some 1000) else (if (wrap64 ((wrap64 ((wrap64 ((wrap64 ((wrap64 ((wrap64 ((((rd_T76 x11 x13).f1).length:Int)+(((rd_T76 x11 x13).f5).length:Int)))+(((rd_T76 x11 x13).f3).length:Int)))+(((rd_T76 x11 x13).f6).length:Int)))+(((rd_T76 x11 x13).f4).length:Int)))+(((rd_T76 x11 x13).f7).length:Int)))+(((rd_T76 x11 x13).f8).length:Int))) > 100 then (some 1000) else ((glossarylaw11_count.f k ((rd_T76 x11 x13).f2) (wrap64 (x1+1)) (wrap64 (x2+1))).bind fun t179=>(glossarylaw11_count.l0 k t179 x2 x11 x12 (wrap64 (x13+1)))))) else (none)) else (none)) else (some x1)
def glossarylaw11_count.f:Nat→List (S76)→Int→Int→Option (Int)
 | 0,_,_,_=>none
 | k+1,l0,a1,a2=>if a2 > 70 then (some 1000) else (glossarylaw11_count.l0 k a1 a2 l0 (l0.length:Int) 0)
end
end Go.Proofs.Ytheoafenehckbaa.GUndescBack
