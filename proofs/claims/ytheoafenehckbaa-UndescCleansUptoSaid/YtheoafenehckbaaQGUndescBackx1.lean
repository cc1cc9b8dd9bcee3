/- Written by gprint.py of this session: the kit's printer, with functions that are proved by hand put in. -/
import Derived.Test.YtheoafenehckbaaQGUndescBackx0
import Derived.Test.YtheoafenehckbaaQSh
set_option maxHeartbeats 8000000
set_option maxRecDepth 100000
namespace Go.Proofs.Ytheoafenehckbaa.GUndescBack
open Tk Cl Fl Pt
open Go.RowKit YtheoafenehckbaaW.PrintWords YtheoafenehckbaaW.PrintLast YtheoafenehckbaaW.PrintMore
attribute [local go_sem] max2_int min2_int max_two min_two max_three min_three max_four min_four
set_option linter.unusedVariables false
set_option linter.unusedSimpArgs false
def wire_kind.f (a0:Int):Option (Int × Bool):=if a0=1 then (some (8,true)) else (if a0=5 then (some (4,true)) else (if a0=0 then (some (0,true)) else (if a0=2 then (some (0,true)) else (some (0,false)))))
theorem wire_kind.calls (a0:Int) (r1:Int) (r2:Bool) (w:World) (h:wire_kind.f a0=some (r1,r2)) :
 Calls Try.prog 88 #[.int .i64 a0] w fun e w'=>e = .returned (.tuple #[.int .i64 r1,.bool r2])∧Drawn0 w w':=by
 have H:(if a0=1 then (some (8,true)) else (if a0=5 then (some (4,true)) else (if a0=0 then (some (0,true)) else (if a0=2 then (some (0,true)) else (some (0,false))))))=some (r1,r2):=h
 clear h
 by_cases c2:a0=1
 · as_aux_lemma=>
    rw [if_pos c2] at H
    have c2b0:(a0==1)=true:=beq_iff_eq.mpr c2
    have c2b1:(a0 != 1)=false:=bne_eq_false_iff_eq.mpr c2
    clear c2
    as_aux_lemma=>
     simp only [Option.some.injEq,Prod.mk.injEq] at H
     obtain ⟨rfl,rfl⟩:=H
     go_enter Try.func88,Try.ntmps88
     go_wp2
     go_ret2
     exact ⟨by first|rfl|(simp;done)|(simp [*];done),by repeat (first|exact Drawn0.refl _|apply Drawn0.step)⟩
 · as_aux_lemma=>
    rw [if_neg c2] at H
    have c2b0:(a0==1)=false:=beq_eq_false_iff_ne.mpr c2
    have c2b1:(a0 != 1)=true:=bne_iff_ne.mpr c2
    by_cases c3:a0=5
    · as_aux_lemma=>
       rw [if_pos c3] at H
       have c3b0:(a0==5)=true:=beq_iff_eq.mpr c3
       have c3b1:(a0 != 5)=false:=bne_eq_false_iff_eq.mpr c3
       clear c3
       as_aux_lemma=>
        simp only [Option.some.injEq,Prod.mk.injEq] at H
        obtain ⟨rfl,rfl⟩:=H
        go_enter Try.func88,Try.ntmps88
        go_wp2
        go_ret2
        exact ⟨by first|rfl|(simp;done)|(simp [*];done),by repeat (first|exact Drawn0.refl _|apply Drawn0.step)⟩
    · as_aux_lemma=>
       rw [if_neg c3] at H
       have c3b0:(a0==5)=false:=beq_eq_false_iff_ne.mpr c3
       have c3b1:(a0 != 5)=true:=bne_iff_ne.mpr c3
       by_cases c4:a0=0
       · as_aux_lemma=>
          rw [if_pos c4] at H
          have c4b0:(a0==0)=true:=beq_iff_eq.mpr c4
          have c4b1:(a0 != 0)=false:=bne_eq_false_iff_eq.mpr c4
          clear c4
          as_aux_lemma=>
           simp only [Option.some.injEq,Prod.mk.injEq] at H
           obtain ⟨rfl,rfl⟩:=H
           go_enter Try.func88,Try.ntmps88
           go_wp2
           go_ret2
           exact ⟨by first|rfl|(simp;done)|(simp [*];done),by repeat (first|exact Drawn0.refl _|apply Drawn0.step)⟩
       · as_aux_lemma=>
          rw [if_neg c4] at H
          have c4b0:(a0==0)=false:=beq_eq_false_iff_ne.mpr c4
          have c4b1:(a0 != 0)=true:=bne_iff_ne.mpr c4
          by_cases c5:a0=2
          · as_aux_lemma=>
             rw [if_pos c5] at H
             have c5b0:(a0==2)=true:=beq_iff_eq.mpr c5
             have c5b1:(a0 != 2)=false:=bne_eq_false_iff_eq.mpr c5
             clear c5
             as_aux_lemma=>
              simp only [Option.some.injEq,Prod.mk.injEq] at H
              obtain ⟨rfl,rfl⟩:=H
              go_enter Try.func88,Try.ntmps88
              go_wp2
              go_ret2
              exact ⟨by first|rfl|(simp;done)|(simp [*];done),by repeat (first|exact Drawn0.refl _|apply Drawn0.step)⟩
          · as_aux_lemma=>
             rw [if_neg c5] at H
             have c5b0:(a0==2)=false:=beq_eq_false_iff_ne.mpr c5
             have c5b1:(a0 != 2)=true:=bne_iff_ne.mpr c5
             as_aux_lemma=>
              simp only [Option.some.injEq,Prod.mk.injEq] at H
              obtain ⟨rfl,rfl⟩:=H
              go_enter Try.func88,Try.ntmps88
              go_wp2
              go_ret2
              exact ⟨by first|rfl|(simp;done)|(simp [*];done),by repeat (first|exact Drawn0.refl _|apply Drawn0.step)⟩
def varint_Unfixed.l0:Nat→List Int→Int→Int→Int→Option (Int)
 | 0,_,_,_,_=>none
 | k+1,x0,x3,x7,x8=>if x8 < x7 then (if 0≤x8 then (if x8 < (x0.length:Int) then (if 0≤(wrap64 (8*x8)) then (varint_Unfixed.l0 k x0 (Go.bits .or .u64 x3 (shl .u64 (IntKind.u64.wrap (rd x0 x8)) (wrap64 (8*x8)))) x7 (wrap64 (x8+1))) else (none)) else (none)) else (none)) else (some x3)
def varint_Unfixed.f (k:Nat) (l0:List Int):Option (Int):=varint_Unfixed.l0 k l0 0 (mn (l0.length:Int) 8) 0
theorem varint_Unfixed.calls (k:Nat) (A0:Option Addr) (c0:Nat) (l0:List Int) (r:Int) (w:World) (hr0:Kd.C (Kd.int .u8) w A0 l0.length l0) (hc0:l0.length≤c0) (h:varint_Unfixed.f k l0=some r) :
 Calls Try.prog 99 #[.slice A0 l0.length c0] w fun e w'=>e = .returned (.int .u64 r)∧Below w.heap.size w w':=by
 have HR0:=mk0 hr0
 have HC0:=mk0 hc0
 clear hr0 hc0
 have HB:=mk0 (Below.refl w.heap.size w)
 have H:(varint_Unfixed.l0 k l0 0 (mn (l0.length:Int) 8) 0)=some r:=h
 clear h
 obtain ⟨ji2,hji2⟩:∃ j_:Int,(mn (l0.length:Int) 8)=j_:=⟨_,rfl⟩
 replace H:(varint_Unfixed.l0 k l0 0 ji2 0)=some r:=by first|(rw [hji2] at H;exact H)|(simp only [hji2] at H ⊢;exact H)
 (try (have hji2h:ji2≤8:=by (rw [← hji2];unfold mn;(repeat' split) <;> omega)))
 (try (have hji2g:ji2≤64:=by omega))
 (try (have hji2l:0≤ji2:=by (rw [← hji2];unfold mn;(repeat' split) <;> omega)))
 (try (have hji2m:0≤ji2:=by omega))
 have hji2_:(if 8 < (l0.length:Int) then 8 else (l0.length:Int))=ji2:=hji2
 have H':=mk0 H
 clear H
 go_enter Try.func99,Try.ntmps99
 go_wp2
 go_loopg [3,8] k (fun kq v3 v8 w'=>∃ (x3_1:Int) (x8_1:Int),v3 = .int .u64 x3_1∧v8 = .int .i64 x8_1∧Aside0 (varint_Unfixed.l0 kq l0 x3_1 ji2 x8_1=some r)∧Aside0 (kq≤k)∧Aside0 (Below w.heap.size w w'))
 case atStart=>exact ⟨(0),(0),(by first|rfl|(simp;done)|(simp [*];done)),(by first|rfl|(simp;done)|(simp [*];done)),H',⟨Nat.le_refl _⟩,⟨by repeat (first|(with_reducible first|exact HB.out|apply jj6|apply jj4|apply jj2)|exact HB.out)⟩⟩
 case round=>
  clear H'
  try clear p2
  obtain ⟨x3_1,x8_1,rfl,rfl,HA,HK1,HB⟩:=hrel
  cases gk with
  | zero=>exact absurd HA.out (by simp [varint_Unfixed.l0])
  | succ k1=>
   have H:=HA.out
   clear HA
   simp only [varint_Unfixed.l0] at H
   by_cases c3:x8_1 < ji2
   · as_aux_lemma=>
      rw [if_pos c3] at H
      have c3b0:decide (x8_1 < ji2)=true:=decide_eq_true c3
      clear c3
      by_cases c4:0≤x8_1
      · as_aux_lemma=>
         rw [if_pos c4] at H
         have c4b0:decide (0≤x8_1)=true:=decide_eq_true c4
         clear c4
         by_cases c5:x8_1 < (l0.length:Int)
         · as_aux_lemma=>
            rw [if_pos c5] at H
            have c5b0:decide (x8_1 < (l0.length:Int))=true:=decide_eq_true c5
            clear c5
            obtain ⟨ji6,hji6⟩:∃ j_:Int,(wrap64 (8*x8_1))=j_:=⟨_,rfl⟩
            replace H:(if 0≤(ji6) then (varint_Unfixed.l0 k1 l0 (Go.bits .or .u64 x3_1 (shl .u64 (IntKind.u64.wrap (rd l0 x8_1)) (ji6))) ji2 (wrap64 (x8_1+1))) else (none))=some r:=by first|(rw [hji6] at H;exact H)|(simp only [hji6] at H ⊢;exact H)
            have hji6w:(IntKind.i64.wrap (8*x8_1))=ji6:=(i64_w _).trans hji6
            by_cases c7:0≤(ji6)
            · as_aux_lemma=>
               rw [if_pos c7] at H
               have c7b0:=eq_true c7
               have c7b1:decide (0≤(ji6))=true:=decide_eq_true c7
               clear c7
               obtain ⟨ji8,hji8⟩:∃ j_:Int,(shl .u64 (IntKind.u64.wrap (rd l0 x8_1)) (ji6))=j_:=⟨_,rfl⟩
               replace H:(varint_Unfixed.l0 k1 l0 (Go.bits .or .u64 x3_1 (ji8)) ji2 (wrap64 (x8_1+1)))=some r:=by first|(rw [hji8] at H;exact H)|(simp only [hji8] at H ⊢;exact H)
               have hji8_:(IntKind.u64.wrap ((IntKind.u64.wrap (rd l0 x8_1))*2 ^ min (ji6).toNat 64))=ji8:=hji8
               have hji8z:(ji6)≤64→(IntKind.u64.wrap ((IntKind.u64.wrap (rd l0 x8_1))*2 ^ (ji6).toNat))=ji8:=shl_small hji8
               as_aux_lemma=>
                have H':=mk0 H
                clear H
                have p101:0≤(x8_1:Int):=of_decide_eq_true (by first|(with_reducible assumption)|assumption)
                have q101:x8_1 < (l0.length:Int):=of_decide_eq_true (by first|(with_reducible assumption)|assumption)
                obtain ⟨ad101,e101,hx101_0⟩:=Kd.at_int HR0.out x8_1 p101 q101
                cases e101
                replace hx101_0:=(HB.out.cell (World.block_lt_of_cell? w _ hx101_0)).trans hx101_0
                replace p101:=eq_true p101
                replace q101:=eq_true q101
                go_wp2
                go_roundg k1
                case measure=>have:=HK1.out;omega
                case rel=>exact ⟨(Go.bits .or .u64 x3_1 (ji8)),(wrap64 (x8_1+1)),(by first|rfl|(simp;done)|(simp only [← hji8] <;> (first|rfl|simp))|(simp [*];done)),(by first|rfl|(simp;done)|(simp [*];done)),H',⟨by have:=HK1.out;omega⟩,⟨by repeat (first|(with_reducible first|exact HB.out|apply jj6|apply jj4|apply jj2)|exact HB.out)⟩⟩
            · rw [if_neg c7] at H
              exact absurd H (by simp)
         · rw [if_neg c5] at H
           exact absurd H (by simp)
      · rw [if_neg c4] at H
        exact absurd H (by simp)
   · as_aux_lemma=>
      rw [if_neg c3] at H
      have c3b0:decide (x8_1 < ji2)=false:=decide_eq_false c3
      clear c3
      as_aux_lemma=>
       obtain rfl:=Option.some.inj H
       go_wp2
       go_ret
       exact ⟨by first|rfl|(simp [errW_none,errW_some] <;> rfl)|(simp only [← hji2];first|rfl|(simp [errW_none,errW_some] <;> rfl))|(simp [*,errW_none,errW_some] <;> rfl),by repeat (first|(with_reducible first|exact HB.out|apply jj6|apply jj4|apply jj2)|exact HB.out)⟩
def wire_Take.j0:Nat→List Int→Int→Int→Bool→Int→Int→Int→Option (Int × Int × Int × List Int × Int × Int)
 | 0,_,_,_,_,_,_,_=>none
 | k+1,x0,x6,x9,x48,x107000,x107001,x107002=>if x48=true then (some (0,0,0,([]:List Int),0,20)) else (if 0≤x6 then (if x6≤(x0.length:Int) then ((some (x0.drop (x6:Int).toNat:List Int)).bind fun y109=>(if x9 > 0 then (if (y109.length:Int) < x9 then (some (0,0,0,([]:List Int),0,21)) else (if 0≤x9 then (if x9≤(y109.length:Int) then ((varint_Unfixed.f k (y109.take (x9:Int).toNat)).bind fun t117=>(some (x107000,x107001,t117,([]:List Int),wrap64 (x6+x9),0))) else (none)) else (none))) else ((varint_Take.f k y109).bind fun bt118=>(if bt118.2.2=0 then (if x107001=0 then (some (x107000,x107001,bt118.1,([]:List Int),wrap64 (x6+bt118.2.1),0)) else (if bt118.1 > (IntKind.u64.wrap (wrap64 ((y109.length:Int) - bt118.2.1))) then (some (0,0,0,([]:List Int),0,21)) else (if 0≤bt118.2.1 then (if bt118.2.1≤(wrap64 (bt118.2.1+(wrap64 (bt118.1)))) then (if (wrap64 (bt118.2.1+(wrap64 (bt118.1))))≤(y109.length:Int) then ((bytes_Clone.f ((y109.take ((wrap64 (bt118.2.1+(wrap64 (bt118.1)))):Int).toNat).drop (bt118.2.1:Int).toNat)).bind fun t125=>(some (x107000,x107001,x107002,t125,wrap64 ((wrap64 (x6+bt118.2.1))+(wrap64 (bt118.1))),0))) else (none)) else (none)) else (none)))) else (some (0,0,0,([]:List Int),0,bt118.2.2)))))) else (none)) else (none))
def wire_Take.f (k:Nat) (l0:List Int):Option (Int × Int × Int × List Int × Int × Int):=(varint_Take.f k l0).bind fun bt103=>(if bt103.2.2=0 then ((wire_kind.f (wrap64 (Go.bits .and .u64 bt103.1 7))).bind fun bt107=>(if (bt103.1 / 4294967296)=0 then (if (wrap64 (bt103.1 / 8))=0 then (wire_Take.j0 k l0 bt103.2.1 bt107.1 true (wrap64 (bt103.1 / 8)) (wrap64 (Go.bits .and .u64 bt103.1 7)) 0) else (wire_Take.j0 k l0 bt103.2.1 bt107.1 (!bt107.2) (wrap64 (bt103.1 / 8)) (wrap64 (Go.bits .and .u64 bt103.1 7)) 0)) else (wire_Take.j0 k l0 bt103.2.1 bt107.1 true (wrap64 (bt103.1 / 8)) (wrap64 (Go.bits .and .u64 bt103.1 7)) 0))) else (some (0,0,0,([]:List Int),0,bt103.2.2)))
theorem wire_Take.calls (k:Nat) (A0:Option Addr) (c0:Nat) (l0:List Int) (r1:Int) (r2:Int) (r3:Int) (r4:List Int) (r5:Int) (r6:Int) (w:World) (hr0:Kd.C (Kd.int .u8) w A0 l0.length l0) (hc0:l0.length≤c0) (h:wire_Take.f k l0=some (r1,r2,r3,r4,r5,r6)) :
 Calls Try.prog 97 #[.slice A0 l0.length c0] w fun e w'=>∃ v3_:Value,e = .returned (.tuple #[.agg #[.int .i64 r1,.int .i64 r2,.int .u64 r3,v3_],.int .i64 r5,.int .i64 r6])∧Kd.R (Kd.int .u8) 5 w' w.heap.size (fun _=>True) v3_ r4∧Below w.heap.size w w':=by
 have hu97:=Try.underlying97
 have HR0:=mk0 hr0
 have HC0:=mk0 hc0
 clear hr0 hc0
 have HB:=mk0 (Below.refl w.heap.size w)
 have H:((varint_Take.f k l0).bind fun bt103=>(if bt103.2.2=0 then ((wire_kind.f (wrap64 (Go.bits .and .u64 bt103.1 7))).bind fun bt107=>(if (bt103.1 / 4294967296)=0 then (if (wrap64 (bt103.1 / 8))=0 then (wire_Take.j0 k l0 bt103.2.1 bt107.1 true (wrap64 (bt103.1 / 8)) (wrap64 (Go.bits .and .u64 bt103.1 7)) 0) else (wire_Take.j0 k l0 bt103.2.1 bt107.1 (!bt107.2) (wrap64 (bt103.1 / 8)) (wrap64 (Go.bits .and .u64 bt103.1 7)) 0)) else (wire_Take.j0 k l0 bt103.2.1 bt107.1 true (wrap64 (bt103.1 / 8)) (wrap64 (Go.bits .and .u64 bt103.1 7)) 0))) else (some (0,0,0,([]:List Int),0,bt103.2.2))))=some (r1,r2,r3,r4,r5,r6):=h
 clear h
 replace H:=Option.bind_eq_some_iff.mp H
 obtain ⟨⟨t103,t104,t105⟩,A20,H⟩:=H
 replace H:(if t105=0 then ((wire_kind.f (wrap64 (Go.bits .and .u64 t103 7))).bind fun bt107=>(if (t103 / 4294967296)=0 then (if (wrap64 (t103 / 8))=0 then (wire_Take.j0 k l0 t104 bt107.1 true (wrap64 (t103 / 8)) (wrap64 (Go.bits .and .u64 t103 7)) 0) else (wire_Take.j0 k l0 t104 bt107.1 (!bt107.2) (wrap64 (t103 / 8)) (wrap64 (Go.bits .and .u64 t103 7)) 0)) else (wire_Take.j0 k l0 t104 bt107.1 true (wrap64 (t103 / 8)) (wrap64 (Go.bits .and .u64 t103 7)) 0))) else (some (0,0,0,([]:List Int),0,t105)))=some (r1,r2,r3,r4,r5,r6):=H
 have A2:=mk0 A20
 clear A20
 by_cases c3:t105=0
 · as_aux_lemma=>
    rw [if_pos c3] at H
    have c3b0:(t105==0)=true:=beq_iff_eq.mpr c3
    have c3b1:(t105 != 0)=false:=bne_eq_false_iff_eq.mpr c3
    clear c3
    replace H:=Option.bind_eq_some_iff.mp H
    obtain ⟨⟨t107,t108⟩,A40,H⟩:=H
    replace H:(if (t103 / 4294967296)=0 then (if (wrap64 (t103 / 8))=0 then (wire_Take.j0 k l0 t104 t107 true (wrap64 (t103 / 8)) (wrap64 (Go.bits .and .u64 t103 7)) 0) else (wire_Take.j0 k l0 t104 t107 (!t108) (wrap64 (t103 / 8)) (wrap64 (Go.bits .and .u64 t103 7)) 0)) else (wire_Take.j0 k l0 t104 t107 true (wrap64 (t103 / 8)) (wrap64 (Go.bits .and .u64 t103 7)) 0))=some (r1,r2,r3,r4,r5,r6):=H
    have A4:=mk0 A40
    clear A40
    have HC5:=mk0 H
    clear H
    go_enter Try.func97,Try.ntmps97
    go_upto_region 6 with (first|((with_reducible refine jk0 (N:=2) rfl ?_);refine bzX 2 #[.int .i64 0,.int .i64 0,.int .u64 0,.slice none 0 0] 97 ?_;intro gb102 hg w6 hbox hb;have n0_:=mk0 (below_step (by repeat (first|(with_reducible first|exact HB.out|apply jj6|apply jj4|apply jj2)|exact HB.out)) hb);have n1_:=mk0 (hbox);have n2_:=mk0 ((by rw [hg];exact (below_size (by repeat (first|(with_reducible first|exact HB.out|apply jj6|apply jj4|apply jj2)|exact HB.out))):w.heap.size≤gb102));have n3_:=mk0 ((by rw [hg];exact (below_size (by repeat (first|(with_reducible first|exact HB.out|apply jj6|apply jj4|apply jj2)|exact HB.out))):w.heap.size≤gb102));clear HB;have HB:=n0_;have BK102:=n1_;have GW102:=n2_;have GE102:=n3_;clear n0_ n1_ n2_ n3_;clear hb hbox hg)|((with_reducible refine gate_callee (f:=98) rfl ?_);refine goesL_ (some 16) rfl rfl Try.func98 (by kernel_rfl) rfl #[.slice A0 l0.length c0] rfl (by (try simp only [List.map_toArray,List.map_cons,List.map_nil]);first|done|rfl|(simp only [List.length_drop,List.length_take];rfl)) ?_;(with_reducible refine (varint_Take.calls k _ _ l0 t103 t104 t105 _ ?side1 ?side2 A2.out).mono ?_);(case side1=>repeat (first|exact (Kd.jj0 HR0.out HB.out)|(with_reducible refine Kd.C_alloc ?_ _)|(with_reducible refine Kd.C_drewN ?_ _)|(with_reducible refine Kd.C_drew ?_)));(case side2=>exact HC0.out);rintro e w' ⟨rfl,⟨nd,rfl⟩⟩;refine ⟨_,rfl,?_⟩;(try (rw [drewN_self w6];generalize hq_:World.drewN w6 _=w6;have n0_:Aside0 (w6.heap[gb102]?=some (.cells #[.int .i64 0,.int .i64 0,.int .u64 0,.slice none 0 0] 97 (0,0))):=⟨by rw [← hq_];exact (by (with_reducible repeat (first|refine jj9 ?_ _|refine jjq ?_|refine jjj ?_ _));exact BK102.out)⟩;have n1_:Aside0 (Below w.heap.size w w6):=⟨by rw [← hq_];exact (by repeat (first|(with_reducible first|exact HB.out|apply jj6|apply jj4|apply jj2|refine jk1 ?_ GE102.out)|exact HB.out))⟩;clear BK102 HB hq_;have BK102:=n0_;have HB:=n1_;clear n0_ n1_));have hczR1_gb102_0:w6.cell? ⟨gb102,0,none⟩=some (.int .i64 0):=bzC BK102 0;have hfzR1_gb102_0:=jj5 BK102.out 0;have hczR1_gb102_1:w6.cell? ⟨gb102,1,none⟩=some (.int .i64 0):=bzC BK102 1;have hfzR1_gb102_1:=jj5 BK102.out 1;have hczR1_gb102_2:w6.cell? ⟨gb102,2,none⟩=some (.int .u64 0):=bzC BK102 2;have hfzR1_gb102_2:=jj5 BK102.out 2;have hczR1_gb102_3:w6.cell? ⟨gb102,3,none⟩=some (.slice none 0 0):=bzC BK102 3;have hfzR1_gb102_3:=jj5 BK102.out 3)|((with_reducible refine jk0 (N:=8) rfl ?_);refine bzX 8 #[.int .i64 0,.int .i64 0,.int .u64 0,.slice none 0 0] 97 ?_;intro gb106 hg w7 hbox hb;have n0_:=mk0 (jj3 (g:=gb102) (o:=.cells #[.int .i64 0,.int .i64 0,.int .u64 0,.slice none 0 0] 97 (0,0)) (by (with_reducible repeat (first|refine jj9 ?_ _|refine jjq ?_|refine jjj ?_ _));exact BK102.out) hb);have n1_:=mk0 (below_step (by repeat (first|(with_reducible first|exact HB.out|apply jj6|apply jj4|apply jj2|refine jk1 ?_ GE102.out)|exact HB.out)) hb);have n2_:=mk0 (hbox);have n3_:=mk0 ((by rw [hg];exact (below_size (by repeat (first|(with_reducible first|exact HB.out|apply jj6|apply jj4|apply jj2|refine jk1 ?_ GE102.out)|exact HB.out))):w.heap.size≤gb106));have n4_:=mk0 ((by rw [hg];exact (below_size (by repeat (first|(with_reducible first|exact HB.out|apply jj6|apply jj4|apply jj2|refine jk1 ?_ GE102.out)|exact HB.out))):w.heap.size≤gb106));have n5_:=mk0 ((by rw [hg];exact Nat.ne_of_lt (blk_lt (g:=gb102) (o:=.cells #[.int .i64 0,.int .i64 0,.int .u64 0,.slice none 0 0] 97 (0,0)) (by (with_reducible repeat (first|refine jj9 ?_ _|refine jjq ?_|refine jjj ?_ _));exact BK102.out)):gb102≠gb106));have n6_:=mk0 ((by rw [hg];exact Nat.ne_of_gt (blk_lt (g:=gb102) (o:=.cells #[.int .i64 0,.int .i64 0,.int .u64 0,.slice none 0 0] 97 (0,0)) (by (with_reducible repeat (first|refine jj9 ?_ _|refine jjq ?_|refine jjj ?_ _));exact BK102.out)):gb106≠gb102));clear BK102;clear HB;have BK102:=n0_;have HB:=n1_;have BK106:=n2_;have GW106:=n3_;have GE106:=n4_;have NB102_106:=n5_;have NB106_102:=n6_;clear n0_ n1_ n2_ n3_ n4_ n5_ n6_;clear hb hbox hg;have hnb8:=NB106_102.out;have hnc8:=NB102_106.out;have hcz9_0:w7.cell? ⟨gb106,0,none⟩=some (.int .i64 0):=bzC BK106 0;have hcz9_1:w7.cell? ⟨gb106,1,none⟩=some (.int .i64 0):=bzC BK106 1;have hcz9_2:w7.cell? ⟨gb106,2,none⟩=some (.int .u64 0):=bzC BK106 2;have hcz9_3:w7.cell? ⟨gb106,3,none⟩=some (.slice none 0 0):=bzC BK106 3;have hfz9_0:=jj5 BK106.out 0;have hfz9_1:=jj5 BK106.out 1;have hfz9_2:=jj5 BK106.out 2;have hfz9_3:=jj5 BK106.out 3)|((with_reducible refine gate_callee (f:=88) rfl ?_);refine goesL_ (some 34) rfl rfl Try.func88 (by kernel_rfl) rfl #[.int .i64 (wrap64 (Go.bits .and .u64 t103 7))] rfl (by (try simp only [List.map_toArray,List.map_cons,List.map_nil]);first|done|rfl|(simp only [List.length_drop,List.length_take];rfl)) ?_;(with_reducible refine (wire_kind.calls (wrap64 (Go.bits .and .u64 t103 7)) t107 t108 _ A4.out).mono ?_);rintro e w' ⟨rfl,⟨nd,rfl⟩⟩;refine ⟨_,rfl,?_⟩))
    (try simp only [Act.put,List.setIfInBounds_toArray,List.set_cons_zero,List.set_cons_succ])
    go_cut [48] (fun v48 wc=>∃ (kq:Nat) (x48_4:Bool),v48 = .bool x48_4∧Aside0 (wire_Take.j0 kq l0 t104 t107 x48_4 (wrap64 (t103 / 8)) (wrap64 (Go.bits .and .u64 t103 7)) 0=some (r1,r2,r3,r4,r5,r6))∧Aside0 (kq≤k)∧Aside0 (wc.heap[gb102]?=some (.cells #[.int .i64 0,.int .i64 0,.int .u64 0,(.slice none 0 0)] 97 (0,0)))∧Aside0 (wc.heap[gb106]?=some (.cells #[.int .i64 (wrap64 (t103 / 8)),.int .i64 (wrap64 (Go.bits .and .u64 t103 7)),.int .u64 0,(.slice none 0 0)] 97 (0,0)))∧Aside0 (Below w.heap.size w wc))
    case first=>
     have H:=HC5.out
     clear HC5
     by_cases c10:(t103 / 4294967296)=0
     · as_aux_lemma=>
        rw [if_pos c10] at H
        have c10b0:((t103 / 4294967296)==0)=true:=beq_iff_eq.mpr c10
        have c10b1:((t103 / 4294967296) != 0)=false:=bne_eq_false_iff_eq.mpr c10
        clear c10
        (first|rw [c10b0]|(simp only [i64_w,i32_w];rw [c10b0])|rw [c10b1]|skip)
        by_cases c11:(wrap64 (t103 / 8))=0
        · as_aux_lemma=>
           rw [if_pos c11] at H
           have c11b0:((wrap64 (t103 / 8))==0)=true:=beq_iff_eq.mpr c11
           have c11b1:((wrap64 (t103 / 8)) != 0)=false:=bne_eq_false_iff_eq.mpr c11
           clear c11
           as_aux_lemma=>
            have H':=mk0 H
            clear H
            have hnb12:=NB106_102.out
            have hnc12:=NB102_106.out
            have hcz13_0:w7.cell? ⟨gb106,0,none⟩=some (.int .i64 0):=bzC BK106 0
            have hcz13_1:w7.cell? ⟨gb106,1,none⟩=some (.int .i64 0):=bzC BK106 1
            have hcz13_2:w7.cell? ⟨gb106,2,none⟩=some (.int .u64 0):=bzC BK106 2
            have hcz13_3:w7.cell? ⟨gb106,3,none⟩=some (.slice none 0 0):=bzC BK106 3
            have hfz13_0:=jj5 BK106.out 0
            have hfz13_1:=jj5 BK106.out 1
            have hfz13_2:=jj5 BK106.out 2
            have hfz13_3:=jj5 BK106.out 3
            generalize hwq_:World.drewN _ _=wq
            have Qgb102:Aside0 (wq.heap[gb102]?=some (.cells #[.int .i64 0,.int .i64 0,.int .u64 0,(.slice none 0 0)] 97 (0,0))):=⟨by rw [← hwq_];(with_reducible repeat (first|refine jj9 ?_ _|refine jjq ?_|refine jjj ?_ _));refine blk_far ?_ NB102_106.out _;(with_reducible repeat (first|refine jj9 ?_ _|refine jjq ?_|refine jjj ?_ _));refine blk_far ?_ NB102_106.out _;(with_reducible repeat (first|refine jj9 ?_ _|refine jjq ?_|refine jjj ?_ _));refine blk_far ?_ NB102_106.out _;(with_reducible repeat (first|refine jj9 ?_ _|refine jjq ?_|refine jjj ?_ _));refine blk_far ?_ NB102_106.out _;(with_reducible repeat (first|refine jj9 ?_ _|refine jjq ?_|refine jjj ?_ _));exact BK102.out⟩
            have Qgb106:Aside0 (wq.heap[gb106]?=some (.cells #[.int .i64 (wrap64 (t103 / 8)),.int .i64 (wrap64 (Go.bits .and .u64 t103 7)),.int .u64 0,(.slice none 0 0)] 97 (0,0))):=⟨by rw [← hwq_];(with_reducible repeat (first|refine jj9 ?_ _|refine jjq ?_|refine jjj ?_ _));refine blk_put (cs:=#[.int .i64 (wrap64 (t103 / 8)),.int .i64 (wrap64 (Go.bits .and .u64 t103 7)),.int .u64 0,.slice none 0 0]) ?_ 3 _ rfl;(with_reducible repeat (first|refine jj9 ?_ _|refine jjq ?_|refine jjj ?_ _));refine blk_put (cs:=#[.int .i64 (wrap64 (t103 / 8)),.int .i64 (wrap64 (Go.bits .and .u64 t103 7)),.int .u64 0,.slice none 0 0]) ?_ 2 _ rfl;(with_reducible repeat (first|refine jj9 ?_ _|refine jjq ?_|refine jjj ?_ _));refine blk_put (cs:=#[.int .i64 (wrap64 (t103 / 8)),.int .i64 0,.int .u64 0,.slice none 0 0]) ?_ 1 _ rfl;(with_reducible repeat (first|refine jj9 ?_ _|refine jjq ?_|refine jjj ?_ _));refine blk_put (cs:=#[.int .i64 0,.int .i64 0,.int .u64 0,.slice none 0 0]) ?_ 0 _ rfl;(with_reducible repeat (first|refine jj9 ?_ _|refine jjq ?_|refine jjj ?_ _));exact BK106.out⟩
            have QHB:Aside0 (Below w.heap.size w wq):=⟨by rw [← hwq_];repeat (first|(with_reducible first|exact HB.out|apply jj6|apply jj4|apply jj2|refine jk1 ?_ GE102.out|refine jk1 ?_ GE106.out)|exact HB.out)⟩
            clear hwq_
            have Qcgb102_0:=bzC Qgb102 0
            have Qcgb102_1:=bzC Qgb102 1
            have Qcgb102_2:=bzC Qgb102 2
            have Qcgb102_3:=bzC Qgb102 3
            have Qcgb106_0:=bzC Qgb106 0
            have Qcgb106_1:=bzC Qgb106 1
            have Qcgb106_2:=bzC Qgb106 2
            have Qcgb106_3:=bzC Qgb106 3
            go_wp2
            go_meet
            case rel=>exact ⟨_,(true),(by first|rfl|(simp;done)|(simp [*];done)),H',⟨by first|omega|exact Nat.le_refl _⟩,⟨by (with_reducible repeat (first|refine jj9 ?_ _|refine jjq ?_|refine jjj ?_ _));exact Qgb102.out⟩,⟨by (with_reducible repeat (first|refine jj9 ?_ _|refine jjq ?_|refine jjj ?_ _));exact Qgb106.out⟩,⟨by repeat (first|(with_reducible first|exact QHB.out|apply jj6|apply jj4|apply jj2)|exact QHB.out)⟩⟩
        · as_aux_lemma=>
           rw [if_neg c11] at H
           have c11b0:((wrap64 (t103 / 8))==0)=false:=beq_eq_false_iff_ne.mpr c11
           have c11b1:((wrap64 (t103 / 8)) != 0)=true:=bne_iff_ne.mpr c11
           as_aux_lemma=>
            have H':=mk0 H
            clear H
            have hnb14:=NB106_102.out
            have hnc14:=NB102_106.out
            have hcz15_0:w7.cell? ⟨gb106,0,none⟩=some (.int .i64 0):=bzC BK106 0
            have hcz15_1:w7.cell? ⟨gb106,1,none⟩=some (.int .i64 0):=bzC BK106 1
            have hcz15_2:w7.cell? ⟨gb106,2,none⟩=some (.int .u64 0):=bzC BK106 2
            have hcz15_3:w7.cell? ⟨gb106,3,none⟩=some (.slice none 0 0):=bzC BK106 3
            have hfz15_0:=jj5 BK106.out 0
            have hfz15_1:=jj5 BK106.out 1
            have hfz15_2:=jj5 BK106.out 2
            have hfz15_3:=jj5 BK106.out 3
            generalize hwq_:World.drewN _ _=wq
            have Qgb102:Aside0 (wq.heap[gb102]?=some (.cells #[.int .i64 0,.int .i64 0,.int .u64 0,(.slice none 0 0)] 97 (0,0))):=⟨by rw [← hwq_];(with_reducible repeat (first|refine jj9 ?_ _|refine jjq ?_|refine jjj ?_ _));refine blk_far ?_ NB102_106.out _;(with_reducible repeat (first|refine jj9 ?_ _|refine jjq ?_|refine jjj ?_ _));refine blk_far ?_ NB102_106.out _;(with_reducible repeat (first|refine jj9 ?_ _|refine jjq ?_|refine jjj ?_ _));refine blk_far ?_ NB102_106.out _;(with_reducible repeat (first|refine jj9 ?_ _|refine jjq ?_|refine jjj ?_ _));refine blk_far ?_ NB102_106.out _;(with_reducible repeat (first|refine jj9 ?_ _|refine jjq ?_|refine jjj ?_ _));exact BK102.out⟩
            have Qgb106:Aside0 (wq.heap[gb106]?=some (.cells #[.int .i64 (wrap64 (t103 / 8)),.int .i64 (wrap64 (Go.bits .and .u64 t103 7)),.int .u64 0,(.slice none 0 0)] 97 (0,0))):=⟨by rw [← hwq_];(with_reducible repeat (first|refine jj9 ?_ _|refine jjq ?_|refine jjj ?_ _));refine blk_put (cs:=#[.int .i64 (wrap64 (t103 / 8)),.int .i64 (wrap64 (Go.bits .and .u64 t103 7)),.int .u64 0,.slice none 0 0]) ?_ 3 _ rfl;(with_reducible repeat (first|refine jj9 ?_ _|refine jjq ?_|refine jjj ?_ _));refine blk_put (cs:=#[.int .i64 (wrap64 (t103 / 8)),.int .i64 (wrap64 (Go.bits .and .u64 t103 7)),.int .u64 0,.slice none 0 0]) ?_ 2 _ rfl;(with_reducible repeat (first|refine jj9 ?_ _|refine jjq ?_|refine jjj ?_ _));refine blk_put (cs:=#[.int .i64 (wrap64 (t103 / 8)),.int .i64 0,.int .u64 0,.slice none 0 0]) ?_ 1 _ rfl;(with_reducible repeat (first|refine jj9 ?_ _|refine jjq ?_|refine jjj ?_ _));refine blk_put (cs:=#[.int .i64 0,.int .i64 0,.int .u64 0,.slice none 0 0]) ?_ 0 _ rfl;(with_reducible repeat (first|refine jj9 ?_ _|refine jjq ?_|refine jjj ?_ _));exact BK106.out⟩
            have QHB:Aside0 (Below w.heap.size w wq):=⟨by rw [← hwq_];repeat (first|(with_reducible first|exact HB.out|apply jj6|apply jj4|apply jj2|refine jk1 ?_ GE102.out|refine jk1 ?_ GE106.out)|exact HB.out)⟩
            clear hwq_
            have Qcgb102_0:=bzC Qgb102 0
            have Qcgb102_1:=bzC Qgb102 1
            have Qcgb102_2:=bzC Qgb102 2
            have Qcgb102_3:=bzC Qgb102 3
            have Qcgb106_0:=bzC Qgb106 0
            have Qcgb106_1:=bzC Qgb106 1
            have Qcgb106_2:=bzC Qgb106 2
            have Qcgb106_3:=bzC Qgb106 3
            go_wp2
            go_meet
            case rel=>exact ⟨_,(!t108),(by first|rfl|(simp;done)|(simp [*];done)),H',⟨by first|omega|exact Nat.le_refl _⟩,⟨by (with_reducible repeat (first|refine jj9 ?_ _|refine jjq ?_|refine jjj ?_ _));exact Qgb102.out⟩,⟨by (with_reducible repeat (first|refine jj9 ?_ _|refine jjq ?_|refine jjj ?_ _));exact Qgb106.out⟩,⟨by repeat (first|(with_reducible first|exact QHB.out|apply jj6|apply jj4|apply jj2)|exact QHB.out)⟩⟩
     · as_aux_lemma=>
        rw [if_neg c10] at H
        have c10b0:((t103 / 4294967296)==0)=false:=beq_eq_false_iff_ne.mpr c10
        have c10b1:((t103 / 4294967296) != 0)=true:=bne_iff_ne.mpr c10
        (first|rw [c10b0]|(simp only [i64_w,i32_w];rw [c10b0])|rw [c10b1]|skip)
        as_aux_lemma=>
         have H':=mk0 H
         clear H
         generalize hwq_:World.drewN _ _=wq
         have Qgb102:Aside0 (wq.heap[gb102]?=some (.cells #[.int .i64 0,.int .i64 0,.int .u64 0,(.slice none 0 0)] 97 (0,0))):=⟨by rw [← hwq_];(with_reducible repeat (first|refine jj9 ?_ _|refine jjq ?_|refine jjj ?_ _));refine blk_far ?_ NB102_106.out _;(with_reducible repeat (first|refine jj9 ?_ _|refine jjq ?_|refine jjj ?_ _));refine blk_far ?_ NB102_106.out _;(with_reducible repeat (first|refine jj9 ?_ _|refine jjq ?_|refine jjj ?_ _));refine blk_far ?_ NB102_106.out _;(with_reducible repeat (first|refine jj9 ?_ _|refine jjq ?_|refine jjj ?_ _));refine blk_far ?_ NB102_106.out _;(with_reducible repeat (first|refine jj9 ?_ _|refine jjq ?_|refine jjj ?_ _));exact BK102.out⟩
         have Qgb106:Aside0 (wq.heap[gb106]?=some (.cells #[.int .i64 (wrap64 (t103 / 8)),.int .i64 (wrap64 (Go.bits .and .u64 t103 7)),.int .u64 0,(.slice none 0 0)] 97 (0,0))):=⟨by rw [← hwq_];(with_reducible repeat (first|refine jj9 ?_ _|refine jjq ?_|refine jjj ?_ _));refine blk_put (cs:=#[.int .i64 (wrap64 (t103 / 8)),.int .i64 (wrap64 (Go.bits .and .u64 t103 7)),.int .u64 0,.slice none 0 0]) ?_ 3 _ rfl;(with_reducible repeat (first|refine jj9 ?_ _|refine jjq ?_|refine jjj ?_ _));refine blk_put (cs:=#[.int .i64 (wrap64 (t103 / 8)),.int .i64 (wrap64 (Go.bits .and .u64 t103 7)),.int .u64 0,.slice none 0 0]) ?_ 2 _ rfl;(with_reducible repeat (first|refine jj9 ?_ _|refine jjq ?_|refine jjj ?_ _));refine blk_put (cs:=#[.int .i64 (wrap64 (t103 / 8)),.int .i64 0,.int .u64 0,.slice none 0 0]) ?_ 1 _ rfl;(with_reducible repeat (first|refine jj9 ?_ _|refine jjq ?_|refine jjj ?_ _));refine blk_put (cs:=#[.int .i64 0,.int .i64 0,.int .u64 0,.slice none 0 0]) ?_ 0 _ rfl;(with_reducible repeat (first|refine jj9 ?_ _|refine jjq ?_|refine jjj ?_ _));exact BK106.out⟩
         have QHB:Aside0 (Below w.heap.size w wq):=⟨by rw [← hwq_];repeat (first|(with_reducible first|exact HB.out|apply jj6|apply jj4|apply jj2|refine jk1 ?_ GE102.out|refine jk1 ?_ GE106.out)|exact HB.out)⟩
         clear hwq_
         have Qcgb102_0:=bzC Qgb102 0
         have Qcgb102_1:=bzC Qgb102 1
         have Qcgb102_2:=bzC Qgb102 2
         have Qcgb102_3:=bzC Qgb102 3
         have Qcgb106_0:=bzC Qgb106 0
         have Qcgb106_1:=bzC Qgb106 1
         have Qcgb106_2:=bzC Qgb106 2
         have Qcgb106_3:=bzC Qgb106 3
         go_wp2
         go_meet
         case rel=>exact ⟨_,(true),(by first|rfl|(simp;done)|(simp [*];done)),H',⟨by first|omega|exact Nat.le_refl _⟩,⟨by (with_reducible repeat (first|refine jj9 ?_ _|refine jjq ?_|refine jjj ?_ _));exact Qgb102.out⟩,⟨by (with_reducible repeat (first|refine jj9 ?_ _|refine jjq ?_|refine jjj ?_ _));exact Qgb106.out⟩,⟨by repeat (first|(with_reducible first|exact QHB.out|apply jj6|apply jj4|apply jj2)|exact QHB.out)⟩⟩
    case rest=>
     clear HC5
     try clear c1
     try clear p2
     try clear c3
     try clear c3b0
     try clear c3b1
     try clear p6
     try clear c8
     try clear c9
     try clear c10
     try clear c10b0
     try clear c10b1
     try clear c11
     try clear c11b0
     try clear c11b1
     try clear c12
     try clear c14
     try clear hcz13_0
     try clear hcz13_1
     try clear hcz13_2
     try clear hcz13_3
     try clear hcz15_0
     try clear hcz15_1
     try clear hcz15_2
     try clear hcz15_3
     try clear hcz9_0
     try clear hcz9_1
     try clear hcz9_2
     try clear hcz9_3
     try clear hfz13_0
     try clear hfz13_1
     try clear hfz13_2
     try clear hfz13_3
     try clear hfz15_0
     try clear hfz15_1
     try clear hfz15_2
     try clear hfz15_3
     try clear hfz9_0
     try clear hfz9_1
     try clear hfz9_2
     try clear hfz9_3
     obtain ⟨kq,x48_4,rfl,HA,HJ4,BK102,BK106,HB⟩:=hcut
     cases kq with
     | zero=>exact absurd HA.out (by simp [wire_Take.j0])
     | succ kj4=>
      have H:=HA.out
      clear HA
      simp only [wire_Take.j0] at H
      by_cases c16:x48_4=true
      · subst c16
        have H1:(some (0,0,0,([]:List Int),0,20))=some (r1,r2,r3,r4,r5,r6):=by rw [if_pos rfl] at H;exact H
        clear H
        have H:=H1
        clear H1
        as_aux_lemma=>
         simp only [Option.some.injEq,Prod.mk.injEq] at H
         obtain ⟨rfl,rfl,rfl,rfl,rfl,rfl⟩:=H
         have hnb17:=NB102_106.out
         have hnc17:=NB106_102.out
         have hcz18_0:wc.cell? ⟨gb102,0,none⟩=some (.int .i64 0):=bzC BK102 0
         have hcz18_1:wc.cell? ⟨gb102,1,none⟩=some (.int .i64 0):=bzC BK102 1
         have hcz18_2:wc.cell? ⟨gb102,2,none⟩=some (.int .u64 0):=bzC BK102 2
         have hcz18_3:wc.cell? ⟨gb102,3,none⟩=some (.slice none 0 0):=bzC BK102 3
         have hfz18_0:=jj5 BK102.out 0
         have hfz18_1:=jj5 BK102.out 1
         have hfz18_2:=jj5 BK102.out 2
         have hfz18_3:=jj5 BK102.out 3
         go_wp2
         refine bodyPost_ret (results_ctt rfl _ _ gb102 97 #[.int .i64 0,.int .i64 0,.int .u64 0,.slice none 0 0] (0,0) _ rfl (by (with_reducible repeat (first|refine jj9 ?_ _|refine jjq ?_|refine jjj ?_ _));refine blk_put (cs:=#[.int .i64 0,.int .i64 0,.int .u64 0,.slice none 0 0]) ?_ 3 _ rfl;(with_reducible repeat (first|refine jj9 ?_ _|refine jjq ?_|refine jjj ?_ _));refine blk_put (cs:=#[.int .i64 0,.int .i64 0,.int .u64 0,.slice none 0 0]) ?_ 2 _ rfl;(with_reducible repeat (first|refine jj9 ?_ _|refine jjq ?_|refine jjj ?_ _));refine blk_put (cs:=#[.int .i64 0,.int .i64 0,.int .u64 0,.slice none 0 0]) ?_ 1 _ rfl;(with_reducible repeat (first|refine jj9 ?_ _|refine jjq ?_|refine jjj ?_ _));refine blk_put (cs:=#[.int .i64 0,.int .i64 0,.int .u64 0,.slice none 0 0]) ?_ 0 _ rfl;(with_reducible repeat (first|refine jj9 ?_ _|refine jjq ?_|refine jjj ?_ _));exact BK102.out) Try.underlying97 rfl (by kernel_rfl)) rfl ?_
         exact ⟨_,by first|rfl|(simp [errW_none,errW_some] <;> rfl)|(simp [*,errW_none,errW_some] <;> rfl),by first|exact Kd.R_nil _ _ _ _ _|exact Kd.N_nil _ _ _ _ _|exact Kd.V_nil _ _ _ _ _|exact Kd.Q_nil _ _ _ _ _|exact Kd.S_nil _ _ _ _ _,by repeat (first|(with_reducible first|exact HB.out|apply jj6|apply jj4|apply jj2|refine jk1 ?_ GE102.out|refine jk1 ?_ GE106.out)|exact HB.out)⟩
      · replace c16:=Bool.eq_false_iff.mpr c16
        subst c16
        have H1:(if 0≤t104 then (if t104≤(l0.length:Int) then ((some (l0.drop (t104:Int).toNat:List Int)).bind fun y109=>(if t107 > 0 then (if (y109.length:Int) < t107 then (some (0,0,0,([]:List Int),0,21)) else (if 0≤t107 then (if t107≤(y109.length:Int) then ((varint_Unfixed.f kj4 (y109.take (t107:Int).toNat)).bind fun t117=>(some ((wrap64 (t103 / 8)),(wrap64 (Go.bits .and .u64 t103 7)),t117,([]:List Int),wrap64 (t104+t107),0))) else (none)) else (none))) else ((varint_Take.f kj4 y109).bind fun bt118=>(if bt118.2.2=0 then (if (wrap64 (Go.bits .and .u64 t103 7))=0 then (some ((wrap64 (t103 / 8)),(wrap64 (Go.bits .and .u64 t103 7)),bt118.1,([]:List Int),wrap64 (t104+bt118.2.1),0)) else (if bt118.1 > (IntKind.u64.wrap (wrap64 ((y109.length:Int) - bt118.2.1))) then (some (0,0,0,([]:List Int),0,21)) else (if 0≤bt118.2.1 then (if bt118.2.1≤(wrap64 (bt118.2.1+(wrap64 (bt118.1)))) then (if (wrap64 (bt118.2.1+(wrap64 (bt118.1))))≤(y109.length:Int) then ((bytes_Clone.f ((y109.take ((wrap64 (bt118.2.1+(wrap64 (bt118.1)))):Int).toNat).drop (bt118.2.1:Int).toNat)).bind fun t125=>(some ((wrap64 (t103 / 8)),(wrap64 (Go.bits .and .u64 t103 7)),0,t125,wrap64 ((wrap64 (t104+bt118.2.1))+(wrap64 (bt118.1))),0))) else (none)) else (none)) else (none)))) else (some (0,0,0,([]:List Int),0,bt118.2.2)))))) else (none)) else (none))=some (r1,r2,r3,r4,r5,r6):=by rw [if_neg (show ¬ (false=true) by decide)] at H;exact H
        clear H
        have H:=H1
        clear H1
        by_cases c19:0≤t104
        · as_aux_lemma=>
           rw [if_pos c19] at H
           have c19b0:=eq_true c19
           have c19b1:decide (0≤t104)=true:=decide_eq_true c19
           clear c19
           by_cases c20:t104≤(l0.length:Int)
           · as_aux_lemma=>
              rw [if_pos c20] at H
              have c20b0:=eq_true c20
              have c20b1:decide (t104≤(l0.length:Int))=true:=decide_eq_true c20
              clear c20
              obtain ⟨y109,hy109⟩:∃ y_:List Int,y_=(l0.drop (t104:Int).toNat):=⟨_,rfl⟩
              replace H:(if t107 > 0 then (if (y109.length:Int) < t107 then (some (0,0,0,([]:List Int),0,21)) else (if 0≤t107 then (if t107≤(y109.length:Int) then ((varint_Unfixed.f kj4 (y109.take (t107:Int).toNat)).bind fun t117=>(some ((wrap64 (t103 / 8)),(wrap64 (Go.bits .and .u64 t103 7)),t117,([]:List Int),wrap64 (t104+t107),0))) else (none)) else (none))) else ((varint_Take.f kj4 y109).bind fun bt118=>(if bt118.2.2=0 then (if (wrap64 (Go.bits .and .u64 t103 7))=0 then (some ((wrap64 (t103 / 8)),(wrap64 (Go.bits .and .u64 t103 7)),bt118.1,([]:List Int),wrap64 (t104+bt118.2.1),0)) else (if bt118.1 > (IntKind.u64.wrap (wrap64 ((y109.length:Int) - bt118.2.1))) then (some (0,0,0,([]:List Int),0,21)) else (if 0≤bt118.2.1 then (if bt118.2.1≤(wrap64 (bt118.2.1+(wrap64 (bt118.1)))) then (if (wrap64 (bt118.2.1+(wrap64 (bt118.1))))≤(y109.length:Int) then ((bytes_Clone.f ((y109.take ((wrap64 (bt118.2.1+(wrap64 (bt118.1)))):Int).toNat).drop (bt118.2.1:Int).toNat)).bind fun t125=>(some ((wrap64 (t103 / 8)),(wrap64 (Go.bits .and .u64 t103 7)),0,t125,wrap64 ((wrap64 (t104+bt118.2.1))+(wrap64 (bt118.1))),0))) else (none)) else (none)) else (none)))) else (some (0,0,0,([]:List Int),0,bt118.2.2)))))=some (r1,r2,r3,r4,r5,r6):=by first|(rw [hy109];with_reducible exact H)|(have H2_:=(Option.bind_some _ _).symm.trans H;rw [hy109];with_reducible exact H2_)|(have H2_:=(Option.bind_some _ _).symm.trans H;with_reducible exact H2_)|with_reducible exact H|(rw [hy109];exact H)|exact H
              have Ny109:=mk0 hy109
              clear hy109
              by_cases c21:t107 > 0
              · as_aux_lemma=>
                 rw [if_pos c21] at H
                 have c21b0:decide (0 < t107)=true:=decide_eq_true c21
                 clear c21
                 by_cases c22:(y109.length:Int) < t107
                 · as_aux_lemma=>
                    rw [if_pos c22] at H
                    have c22b0:decide ((y109.length:Int) < t107)=true:=decide_eq_true c22
                    clear c22
                    as_aux_lemma=>
                     simp only [Option.some.injEq,Prod.mk.injEq] at H
                     obtain ⟨rfl,rfl,rfl,rfl,rfl,rfl⟩:=H
                     have q23:(t104:Int)≤((l0.length:Int):Int):=of_decide_eq_true (by first|(with_reducible assumption)|assumption)
                     obtain ⟨i023,hi023,_,hsz23,_⟩:=info_parts info5
                     have hroom23:l0.length≤c0:=HC0.out
                     have hC23:Kd.C (Kd.int .u8) _ A0 l0.length l0:=HR0.out
                     have q023:(0:Int)≤(t104:Int):=of_decide_eq_true (by first|(with_reducible assumption)|assumption)
                     have hcut23:=cut_from (P:=Try.prog) 28 5 .i64 Try.underlying28 hi023 1 hsz23 A0 l0.length c0 t104 q023 q23
                     have hr23:=Kd.C_drop (m:=(t104:Int).toNat) (c:=c0) hC23 (by omega) hroom23
                     obtain ⟨A23,hA23⟩:∃ A1,A1=(if c0=(t104:Int).toNat then A0 else (A0:Option Addr).map (·.add ((t104:Int).toNat*1))):=⟨_,rfl⟩
                     obtain ⟨c23,hc23⟩:∃ c1,c1=c0 - (t104:Int).toNat:=⟨_,rfl⟩
                     have hy23:y109.length=l0.length - (t104:Int).toNat:=(by rw [Ny109.out,List.length_drop] <;> omega)
                     rw [show (l0).drop (t104:Int).toNat=y109 from Ny109.out.symm] at hr23
                     replace hr23:Kd.C (Kd.int .u8) _ A23 y109.length y109:=(by rw [hA23];exact hr23)
                     rw [← hy23,← hA23,← hc23] at hcut23
                     have HR112:=mk0 hr23
                     have HC112:=mk0 (show y109.length≤c23 from by rw [hy23,hc23];exact Nat.sub_le_sub_right hroom23 _)
                     clear hr23 hC23 hroom23 hi023 hsz23 hc23
                     have KY23:=mk0 hy23
                     have KA23:=mk0 hA23
                     clear hy23 hA23
                     replace q23:=eq_true q23
                     have hnb24:=NB102_106.out
                     have hnc24:=NB106_102.out
                     have hcz25_0:wc.cell? ⟨gb102,0,none⟩=some (.int .i64 0):=bzC BK102 0
                     have hcz25_1:wc.cell? ⟨gb102,1,none⟩=some (.int .i64 0):=bzC BK102 1
                     have hcz25_2:wc.cell? ⟨gb102,2,none⟩=some (.int .u64 0):=bzC BK102 2
                     have hcz25_3:wc.cell? ⟨gb102,3,none⟩=some (.slice none 0 0):=bzC BK102 3
                     have hfz25_0:=jj5 BK102.out 0
                     have hfz25_1:=jj5 BK102.out 1
                     have hfz25_2:=jj5 BK102.out 2
                     have hfz25_3:=jj5 BK102.out 3
                     go_wp2
                     refine bodyPost_ret (results_ctt rfl _ _ gb102 97 #[.int .i64 0,.int .i64 0,.int .u64 0,.slice none 0 0] (0,0) _ rfl (by (with_reducible repeat (first|refine jj9 ?_ _|refine jjq ?_|refine jjj ?_ _));refine blk_put (cs:=#[.int .i64 0,.int .i64 0,.int .u64 0,.slice none 0 0]) ?_ 3 _ rfl;(with_reducible repeat (first|refine jj9 ?_ _|refine jjq ?_|refine jjj ?_ _));refine blk_put (cs:=#[.int .i64 0,.int .i64 0,.int .u64 0,.slice none 0 0]) ?_ 2 _ rfl;(with_reducible repeat (first|refine jj9 ?_ _|refine jjq ?_|refine jjj ?_ _));refine blk_put (cs:=#[.int .i64 0,.int .i64 0,.int .u64 0,.slice none 0 0]) ?_ 1 _ rfl;(with_reducible repeat (first|refine jj9 ?_ _|refine jjq ?_|refine jjj ?_ _));refine blk_put (cs:=#[.int .i64 0,.int .i64 0,.int .u64 0,.slice none 0 0]) ?_ 0 _ rfl;(with_reducible repeat (first|refine jj9 ?_ _|refine jjq ?_|refine jjj ?_ _));exact BK102.out) Try.underlying97 rfl (by kernel_rfl)) rfl ?_
                     exact ⟨_,by first|rfl|(simp [errW_none,errW_some] <;> rfl)|(simp [*,errW_none,errW_some] <;> rfl),by first|exact Kd.R_nil _ _ _ _ _|exact Kd.N_nil _ _ _ _ _|exact Kd.V_nil _ _ _ _ _|exact Kd.Q_nil _ _ _ _ _|exact Kd.S_nil _ _ _ _ _,by repeat (first|(with_reducible first|exact HB.out|apply jj6|apply jj4|apply jj2|refine jk1 ?_ GE102.out|refine jk1 ?_ GE106.out)|exact HB.out)⟩
                 · as_aux_lemma=>
                    rw [if_neg c22] at H
                    have c22b0:decide ((y109.length:Int) < t107)=false:=decide_eq_false c22
                    clear c22
                    by_cases c26:0≤t107
                    · as_aux_lemma=>
                       rw [if_pos c26] at H
                       have c26b0:=eq_true c26
                       have c26b1:decide (0≤t107)=true:=decide_eq_true c26
                       clear c26
                       by_cases c27:t107≤(y109.length:Int)
                       · as_aux_lemma=>
                          rw [if_pos c27] at H
                          have c27b0:=eq_true c27
                          have c27b1:decide (t107≤(y109.length:Int))=true:=decide_eq_true c27
                          clear c27
                          obtain ⟨y113,hy113⟩:∃ y_:List Int,y_=(y109.take (t107:Int).toNat):=⟨_,rfl⟩
                          replace H:((varint_Unfixed.f kj4 y113).bind fun t117=>(some ((wrap64 (t103 / 8)),(wrap64 (Go.bits .and .u64 t103 7)),t117,([]:List Int),wrap64 (t104+t107),0)))=some (r1,r2,r3,r4,r5,r6):=by first|(rw [hy113];with_reducible exact H)|(have H2_:=(Option.bind_some _ _).symm.trans H;rw [hy113];with_reducible exact H2_)|(have H2_:=(Option.bind_some _ _).symm.trans H;with_reducible exact H2_)|with_reducible exact H|(rw [hy113];exact H)|exact H
                          have Ny113:=mk0 hy113
                          clear hy113
                          replace H:=Option.bind_eq_some_iff.mp H
                          obtain ⟨t117,A280,H⟩:=H
                          replace H:(some ((wrap64 (t103 / 8)),(wrap64 (Go.bits .and .u64 t103 7)),t117,([]:List Int),wrap64 (t104+t107),0))=some (r1,r2,r3,r4,r5,r6):=H
                          have A28:=mk0 A280
                          clear A280
                          as_aux_lemma=>
                           simp only [Option.some.injEq,Prod.mk.injEq] at H
                           obtain ⟨rfl,rfl,rfl,rfl,rfl,rfl⟩:=H
                           have q29:(t104:Int)≤((l0.length:Int):Int):=of_decide_eq_true (by first|(with_reducible assumption)|assumption)
                           obtain ⟨i029,hi029,_,hsz29,_⟩:=info_parts info5
                           have hroom29:l0.length≤c0:=HC0.out
                           have hC29:Kd.C (Kd.int .u8) _ A0 l0.length l0:=HR0.out
                           have q029:(0:Int)≤(t104:Int):=of_decide_eq_true (by first|(with_reducible assumption)|assumption)
                           have hcut29:=cut_from (P:=Try.prog) 28 5 .i64 Try.underlying28 hi029 1 hsz29 A0 l0.length c0 t104 q029 q29
                           have hr29:=Kd.C_drop (m:=(t104:Int).toNat) (c:=c0) hC29 (by omega) hroom29
                           obtain ⟨A29,hA29⟩:∃ A1,A1=(if c0=(t104:Int).toNat then A0 else (A0:Option Addr).map (·.add ((t104:Int).toNat*1))):=⟨_,rfl⟩
                           obtain ⟨c29,hc29⟩:∃ c1,c1=c0 - (t104:Int).toNat:=⟨_,rfl⟩
                           have hy29:y109.length=l0.length - (t104:Int).toNat:=(by rw [Ny109.out,List.length_drop] <;> omega)
                           rw [show (l0).drop (t104:Int).toNat=y109 from Ny109.out.symm] at hr29
                           replace hr29:Kd.C (Kd.int .u8) _ A29 y109.length y109:=(by rw [hA29];exact hr29)
                           rw [← hy29,← hA29,← hc29] at hcut29
                           have HR112:=mk0 hr29
                           have HC112:=mk0 (show y109.length≤c29 from by rw [hy29,hc29];exact Nat.sub_le_sub_right hroom29 _)
                           clear hr29 hC29 hroom29 hi029 hsz29 hc29
                           have KY29:=mk0 hy29
                           have KA29:=mk0 hA29
                           clear hy29 hA29
                           replace q29:=eq_true q29
                           have q30:(t107:Int)≤((y109.length:Int):Int):=of_decide_eq_true (by first|(with_reducible assumption)|assumption)
                           obtain ⟨i030,hi030,_,hsz30,_⟩:=info_parts info5
                           have hroom30:y109.length≤c29:=HC112.out
                           have hC30:Kd.C (Kd.int .u8) _ A29 y109.length y109:=HR112.out
                           have hcut30:=cut_to (P:=Try.prog) 28 5 .i64 Try.underlying28 hi030 A29 y109.length c29 t107 (of_decide_eq_true (by first|(with_reducible assumption)|assumption)) q30 hroom30
                           have hr30:=Kd.C_take (m:=(t107:Int).toNat) hC30 (by omega)
                           have hy30:y113.length=(t107:Int).toNat:=(by rw [Ny113.out,List.length_take];omega)
                           rw [← Ny113.out] at hr30
                           rw [← hy30] at hcut30
                           have HR116:=mk0 hr30
                           have HC116:=mk0 (show y113.length≤c29 from by omega)
                           clear hr30 hC30 hroom30 hi030 hsz30
                           have KY30:=mk0 hy30
                           clear hy30
                           replace q30:=eq_true q30
                           go_wp2_with (first|((with_reducible refine gate_callee (f:=99) rfl ?_);refine goesL_ (some 63) rfl rfl Try.func99 (by kernel_rfl) rfl #[.slice A29 y113.length c29] rfl (by (try simp only [List.map_toArray,List.map_cons,List.map_nil]);first|done|rfl|(simp only [List.length_drop,List.length_take];rfl)) ?_;(with_reducible refine (varint_Unfixed.calls kj4 _ _ y113 t117 _ ?side1 ?side2 A28.out).mono ?_);(case side1=>repeat (first|exact (Kd.jj0 HR116.out HB.out)|(with_reducible refine Kd.C_alloc ?_ _)|(with_reducible refine Kd.C_drewN ?_ _)|(with_reducible refine Kd.C_drew ?_)));(case side2=>exact HC116.out);rintro e w31 ⟨rfl,hb⟩;refine ⟨_,rfl,?_⟩;have n0_:=mk0 (jj3 (g:=gb102) (o:=.cells #[.int .i64 0,.int .i64 0,.int .u64 0,.slice none 0 0] 97 (0,0)) (by (with_reducible repeat (first|refine jj9 ?_ _|refine jjq ?_|refine jjj ?_ _));exact BK102.out) hb);have n1_:=mk0 (jj3 (g:=gb106) (o:=.cells #[.int .i64 (wrap64 (t103 / 8)),.int .i64 (wrap64 (Go.bits .and .u64 t103 7)),.int .u64 0,.slice none 0 0] 97 (0,0)) (by (with_reducible repeat (first|refine jj9 ?_ _|refine jjq ?_|refine jjj ?_ _));exact BK106.out) hb);have n2_:=mk0 (below_step (by repeat (first|(with_reducible first|exact HB.out|apply jj6|apply jj4|apply jj2|refine jk1 ?_ GE102.out|refine jk1 ?_ GE106.out)|exact HB.out)) hb);clear BK102;clear BK106;clear HB;have BK102:=n0_;have BK106:=n1_;have HB:=n2_;clear n0_ n1_ n2_;(try clear hb);(try clear hb2);(try clear hk);(try clear hi);have hnb32:=NB106_102.out;have hnc32:=NB102_106.out;have hcz33_0:w31.cell? ⟨gb106,0,none⟩=some (.int .i64 (wrap64 (t103 / 8))):=bzC BK106 0;have hcz33_1:w31.cell? ⟨gb106,1,none⟩=some (.int .i64 (wrap64 (Go.bits .and .u64 t103 7))):=bzC BK106 1;have hcz33_2:w31.cell? ⟨gb106,2,none⟩=some (.int .u64 0):=bzC BK106 2;have hcz33_3:w31.cell? ⟨gb106,3,none⟩=some (.slice none 0 0):=bzC BK106 3;have hfz33_0:=jj5 BK106.out 0;have hfz33_1:=jj5 BK106.out 1;have hfz33_2:=jj5 BK106.out 2;have hfz33_3:=jj5 BK106.out 3;have hcz34_0:w31.cell? ⟨gb102,0,none⟩=some (.int .i64 0):=bzC BK102 0;have hcz34_1:w31.cell? ⟨gb102,1,none⟩=some (.int .i64 0):=bzC BK102 1;have hcz34_2:w31.cell? ⟨gb102,2,none⟩=some (.int .u64 0):=bzC BK102 2;have hcz34_3:w31.cell? ⟨gb102,3,none⟩=some (.slice none 0 0):=bzC BK102 3;have hfz34_0:=jj5 BK102.out 0;have hfz34_1:=jj5 BK102.out 1;have hfz34_2:=jj5 BK102.out 2;have hfz34_3:=jj5 BK102.out 3))
                           refine bodyPost_ret (results_ctt rfl _ _ gb102 97 #[.int .i64 (wrap64 (t103 / 8)),.int .i64 (wrap64 (Go.bits .and .u64 t103 7)),.int .u64 t117,.slice none 0 0] (0,0) _ rfl (by (with_reducible repeat (first|refine jj9 ?_ _|refine jjq ?_|refine jjj ?_ _));refine blk_put (cs:=#[.int .i64 (wrap64 (t103 / 8)),.int .i64 (wrap64 (Go.bits .and .u64 t103 7)),.int .u64 t117,.slice none 0 0]) ?_ 3 _ rfl;(with_reducible repeat (first|refine jj9 ?_ _|refine jjq ?_|refine jjj ?_ _));refine blk_put (cs:=#[.int .i64 (wrap64 (t103 / 8)),.int .i64 (wrap64 (Go.bits .and .u64 t103 7)),.int .u64 0,.slice none 0 0]) ?_ 2 _ rfl;(with_reducible repeat (first|refine jj9 ?_ _|refine jjq ?_|refine jjj ?_ _));refine blk_put (cs:=#[.int .i64 (wrap64 (t103 / 8)),.int .i64 0,.int .u64 0,.slice none 0 0]) ?_ 1 _ rfl;(with_reducible repeat (first|refine jj9 ?_ _|refine jjq ?_|refine jjj ?_ _));refine blk_put (cs:=#[.int .i64 0,.int .i64 0,.int .u64 0,.slice none 0 0]) ?_ 0 _ rfl;(with_reducible repeat (first|refine jj9 ?_ _|refine jjq ?_|refine jjj ?_ _));refine blk_far ?_ NB102_106.out _;(with_reducible repeat (first|refine jj9 ?_ _|refine jjq ?_|refine jjj ?_ _));exact BK102.out) Try.underlying97 rfl (by kernel_rfl)) rfl ?_
                           exact ⟨_,by first|rfl|(simp [errW_none,errW_some] <;> rfl)|(simp [*,errW_none,errW_some] <;> rfl),by first|exact Kd.R_nil _ _ _ _ _|exact Kd.N_nil _ _ _ _ _|exact Kd.V_nil _ _ _ _ _|exact Kd.Q_nil _ _ _ _ _|exact Kd.S_nil _ _ _ _ _,by repeat (first|(with_reducible first|exact HB.out|apply jj6|apply jj4|apply jj2|refine jk1 ?_ GE102.out|refine jk1 ?_ GE106.out)|exact HB.out)⟩
                       · rw [if_neg c27] at H
                         exact absurd H (by simp)
                    · rw [if_neg c26] at H
                      exact absurd H (by simp)
              · as_aux_lemma=>
                 rw [if_neg c21] at H
                 have c21b0:decide (0 < t107)=false:=decide_eq_false c21
                 clear c21
                 replace H:=Option.bind_eq_some_iff.mp H
                 obtain ⟨⟨t118,t119,t120⟩,A350,H⟩:=H
                 replace H:(if t120=0 then (if (wrap64 (Go.bits .and .u64 t103 7))=0 then (some ((wrap64 (t103 / 8)),(wrap64 (Go.bits .and .u64 t103 7)),t118,([]:List Int),wrap64 (t104+t119),0)) else (if t118 > (IntKind.u64.wrap (wrap64 ((y109.length:Int) - t119))) then (some (0,0,0,([]:List Int),0,21)) else (if 0≤t119 then (if t119≤(wrap64 (t119+(wrap64 (t118)))) then (if (wrap64 (t119+(wrap64 (t118))))≤(y109.length:Int) then ((bytes_Clone.f ((y109.take ((wrap64 (t119+(wrap64 (t118)))):Int).toNat).drop (t119:Int).toNat)).bind fun t125=>(some ((wrap64 (t103 / 8)),(wrap64 (Go.bits .and .u64 t103 7)),0,t125,wrap64 ((wrap64 (t104+t119))+(wrap64 (t118))),0))) else (none)) else (none)) else (none)))) else (some (0,0,0,([]:List Int),0,t120)))=some (r1,r2,r3,r4,r5,r6):=H
                 have A35:=mk0 A350
                 clear A350
                 by_cases c36:t120=0
                 · as_aux_lemma=>
                    rw [if_pos c36] at H
                    have c36b0:(t120==0)=true:=beq_iff_eq.mpr c36
                    have c36b1:(t120 != 0)=false:=bne_eq_false_iff_eq.mpr c36
                    clear c36
                    by_cases c37:(wrap64 (Go.bits .and .u64 t103 7))=0
                    · as_aux_lemma=>
                       rw [if_pos c37] at H
                       have c37b0:((wrap64 (Go.bits .and .u64 t103 7))==0)=true:=beq_iff_eq.mpr c37
                       have c37b1:((wrap64 (Go.bits .and .u64 t103 7)) != 0)=false:=bne_eq_false_iff_eq.mpr c37
                       clear c37
                       as_aux_lemma=>
                        simp only [Option.some.injEq,Prod.mk.injEq] at H
                        obtain ⟨rfl,rfl,rfl,rfl,rfl,rfl⟩:=H
                        have q38:(t104:Int)≤((l0.length:Int):Int):=of_decide_eq_true (by first|(with_reducible assumption)|assumption)
                        obtain ⟨i038,hi038,_,hsz38,_⟩:=info_parts info5
                        have hroom38:l0.length≤c0:=HC0.out
                        have hC38:Kd.C (Kd.int .u8) _ A0 l0.length l0:=HR0.out
                        have q038:(0:Int)≤(t104:Int):=of_decide_eq_true (by first|(with_reducible assumption)|assumption)
                        have hcut38:=cut_from (P:=Try.prog) 28 5 .i64 Try.underlying28 hi038 1 hsz38 A0 l0.length c0 t104 q038 q38
                        have hr38:=Kd.C_drop (m:=(t104:Int).toNat) (c:=c0) hC38 (by omega) hroom38
                        obtain ⟨A38,hA38⟩:∃ A1,A1=(if c0=(t104:Int).toNat then A0 else (A0:Option Addr).map (·.add ((t104:Int).toNat*1))):=⟨_,rfl⟩
                        obtain ⟨c38,hc38⟩:∃ c1,c1=c0 - (t104:Int).toNat:=⟨_,rfl⟩
                        have hy38:y109.length=l0.length - (t104:Int).toNat:=(by rw [Ny109.out,List.length_drop] <;> omega)
                        rw [show (l0).drop (t104:Int).toNat=y109 from Ny109.out.symm] at hr38
                        replace hr38:Kd.C (Kd.int .u8) _ A38 y109.length y109:=(by rw [hA38];exact hr38)
                        rw [← hy38,← hA38,← hc38] at hcut38
                        have HR112:=mk0 hr38
                        have HC112:=mk0 (show y109.length≤c38 from by rw [hy38,hc38];exact Nat.sub_le_sub_right hroom38 _)
                        clear hr38 hC38 hroom38 hi038 hsz38 hc38
                        have KY38:=mk0 hy38
                        have KA38:=mk0 hA38
                        clear hy38 hA38
                        replace q38:=eq_true q38
                        go_wp2_with (first|((with_reducible refine gate_callee (f:=98) rfl ?_);refine goesL_ (some 71) rfl rfl Try.func98 (by kernel_rfl) rfl #[.slice A38 y109.length c38] rfl (by (try simp only [List.map_toArray,List.map_cons,List.map_nil]);first|done|rfl|(simp only [List.length_drop,List.length_take];rfl)) ?_;(with_reducible refine (varint_Take.calls kj4 _ _ y109 t118 t119 t120 _ ?side1 ?side2 A35.out).mono ?_);(case side1=>repeat (first|exact (Kd.jj0 HR112.out HB.out)|(with_reducible refine Kd.C_alloc ?_ _)|(with_reducible refine Kd.C_drewN ?_ _)|(with_reducible refine Kd.C_drew ?_)));(case side2=>exact HC112.out);rintro e w' ⟨rfl,⟨nd,rfl⟩⟩;refine ⟨_,rfl,?_⟩;(try (rw [drewN_self wc];generalize hq_:World.drewN wc _=wc;have n0_:Aside0 (wc.heap[gb102]?=some (.cells #[.int .i64 0,.int .i64 0,.int .u64 0,.slice none 0 0] 97 (0,0))):=⟨by rw [← hq_];exact (by (with_reducible repeat (first|refine jj9 ?_ _|refine jjq ?_|refine jjj ?_ _));exact BK102.out)⟩;have n1_:Aside0 (wc.heap[gb106]?=some (.cells #[.int .i64 (wrap64 (t103 / 8)),.int .i64 (wrap64 (Go.bits .and .u64 t103 7)),.int .u64 0,.slice none 0 0] 97 (0,0))):=⟨by rw [← hq_];exact (by (with_reducible repeat (first|refine jj9 ?_ _|refine jjq ?_|refine jjj ?_ _));exact BK106.out)⟩;have n2_:Aside0 (Below w.heap.size w wc):=⟨by rw [← hq_];exact (by repeat (first|(with_reducible first|exact HB.out|apply jj6|apply jj4|apply jj2|refine jk1 ?_ GE102.out|refine jk1 ?_ GE106.out)|exact HB.out))⟩;clear BK102 BK106 HB hq_;have BK102:=n0_;have BK106:=n1_;have HB:=n2_;clear n0_ n1_ n2_));have hnb39:=NB106_102.out;have hnc39:=NB102_106.out;have hcz40_0:wc.cell? ⟨gb106,0,none⟩=some (.int .i64 (wrap64 (t103 / 8))):=bzC BK106 0;have hcz40_1:wc.cell? ⟨gb106,1,none⟩=some (.int .i64 (wrap64 (Go.bits .and .u64 t103 7))):=bzC BK106 1;have hcz40_2:wc.cell? ⟨gb106,2,none⟩=some (.int .u64 0):=bzC BK106 2;have hcz40_3:wc.cell? ⟨gb106,3,none⟩=some (.slice none 0 0):=bzC BK106 3;have hfz40_0:=jj5 BK106.out 0;have hfz40_1:=jj5 BK106.out 1;have hfz40_2:=jj5 BK106.out 2;have hfz40_3:=jj5 BK106.out 3;have hcz41_0:wc.cell? ⟨gb102,0,none⟩=some (.int .i64 0):=bzC BK102 0;have hcz41_1:wc.cell? ⟨gb102,1,none⟩=some (.int .i64 0):=bzC BK102 1;have hcz41_2:wc.cell? ⟨gb102,2,none⟩=some (.int .u64 0):=bzC BK102 2;have hcz41_3:wc.cell? ⟨gb102,3,none⟩=some (.slice none 0 0):=bzC BK102 3;have hfz41_0:=jj5 BK102.out 0;have hfz41_1:=jj5 BK102.out 1;have hfz41_2:=jj5 BK102.out 2;have hfz41_3:=jj5 BK102.out 3))
                        refine bodyPost_ret (results_ctt rfl _ _ gb102 97 #[.int .i64 (wrap64 (t103 / 8)),.int .i64 (wrap64 (Go.bits .and .u64 t103 7)),.int .u64 t118,.slice none 0 0] (0,0) _ rfl (by (with_reducible repeat (first|refine jj9 ?_ _|refine jjq ?_|refine jjj ?_ _));refine blk_put (cs:=#[.int .i64 (wrap64 (t103 / 8)),.int .i64 (wrap64 (Go.bits .and .u64 t103 7)),.int .u64 t118,.slice none 0 0]) ?_ 3 _ rfl;(with_reducible repeat (first|refine jj9 ?_ _|refine jjq ?_|refine jjj ?_ _));refine blk_put (cs:=#[.int .i64 (wrap64 (t103 / 8)),.int .i64 (wrap64 (Go.bits .and .u64 t103 7)),.int .u64 0,.slice none 0 0]) ?_ 2 _ rfl;(with_reducible repeat (first|refine jj9 ?_ _|refine jjq ?_|refine jjj ?_ _));refine blk_put (cs:=#[.int .i64 (wrap64 (t103 / 8)),.int .i64 0,.int .u64 0,.slice none 0 0]) ?_ 1 _ rfl;(with_reducible repeat (first|refine jj9 ?_ _|refine jjq ?_|refine jjj ?_ _));refine blk_put (cs:=#[.int .i64 0,.int .i64 0,.int .u64 0,.slice none 0 0]) ?_ 0 _ rfl;(with_reducible repeat (first|refine jj9 ?_ _|refine jjq ?_|refine jjj ?_ _));refine blk_far ?_ NB102_106.out _;(with_reducible repeat (first|refine jj9 ?_ _|refine jjq ?_|refine jjj ?_ _));exact BK102.out) Try.underlying97 rfl (by kernel_rfl)) rfl ?_
                        exact ⟨_,by first|rfl|(simp [errW_none,errW_some] <;> rfl)|(simp [*,errW_none,errW_some] <;> rfl),by first|exact Kd.R_nil _ _ _ _ _|exact Kd.N_nil _ _ _ _ _|exact Kd.V_nil _ _ _ _ _|exact Kd.Q_nil _ _ _ _ _|exact Kd.S_nil _ _ _ _ _,by repeat (first|(with_reducible first|exact HB.out|apply jj6|apply jj4|apply jj2|refine jk1 ?_ GE102.out|refine jk1 ?_ GE106.out)|exact HB.out)⟩
                    · as_aux_lemma=>
                       rw [if_neg c37] at H
                       have c37b0:((wrap64 (Go.bits .and .u64 t103 7))==0)=false:=beq_eq_false_iff_ne.mpr c37
                       have c37b1:((wrap64 (Go.bits .and .u64 t103 7)) != 0)=true:=bne_iff_ne.mpr c37
                       by_cases c42:t118 > (IntKind.u64.wrap (wrap64 ((y109.length:Int) - t119)))
                       · as_aux_lemma=>
                          rw [if_pos c42] at H
                          have c42b0:decide ((IntKind.u64.wrap (wrap64 ((y109.length:Int) - t119))) < t118)=true:=decide_eq_true c42
                          clear c42
                          as_aux_lemma=>
                           simp only [Option.some.injEq,Prod.mk.injEq] at H
                           obtain ⟨rfl,rfl,rfl,rfl,rfl,rfl⟩:=H
                           have q43:(t104:Int)≤((l0.length:Int):Int):=of_decide_eq_true (by first|(with_reducible assumption)|assumption)
                           obtain ⟨i043,hi043,_,hsz43,_⟩:=info_parts info5
                           have hroom43:l0.length≤c0:=HC0.out
                           have hC43:Kd.C (Kd.int .u8) _ A0 l0.length l0:=HR0.out
                           have q043:(0:Int)≤(t104:Int):=of_decide_eq_true (by first|(with_reducible assumption)|assumption)
                           have hcut43:=cut_from (P:=Try.prog) 28 5 .i64 Try.underlying28 hi043 1 hsz43 A0 l0.length c0 t104 q043 q43
                           have hr43:=Kd.C_drop (m:=(t104:Int).toNat) (c:=c0) hC43 (by omega) hroom43
                           obtain ⟨A43,hA43⟩:∃ A1,A1=(if c0=(t104:Int).toNat then A0 else (A0:Option Addr).map (·.add ((t104:Int).toNat*1))):=⟨_,rfl⟩
                           obtain ⟨c43,hc43⟩:∃ c1,c1=c0 - (t104:Int).toNat:=⟨_,rfl⟩
                           have hy43:y109.length=l0.length - (t104:Int).toNat:=(by rw [Ny109.out,List.length_drop] <;> omega)
                           rw [show (l0).drop (t104:Int).toNat=y109 from Ny109.out.symm] at hr43
                           replace hr43:Kd.C (Kd.int .u8) _ A43 y109.length y109:=(by rw [hA43];exact hr43)
                           rw [← hy43,← hA43,← hc43] at hcut43
                           have HR112:=mk0 hr43
                           have HC112:=mk0 (show y109.length≤c43 from by rw [hy43,hc43];exact Nat.sub_le_sub_right hroom43 _)
                           clear hr43 hC43 hroom43 hi043 hsz43 hc43
                           have KY43:=mk0 hy43
                           have KA43:=mk0 hA43
                           clear hy43 hA43
                           replace q43:=eq_true q43
                           go_wp2_with (first|((with_reducible refine gate_callee (f:=98) rfl ?_);refine goesL_ (some 71) rfl rfl Try.func98 (by kernel_rfl) rfl #[.slice A43 y109.length c43] rfl (by (try simp only [List.map_toArray,List.map_cons,List.map_nil]);first|done|rfl|(simp only [List.length_drop,List.length_take];rfl)) ?_;(with_reducible refine (varint_Take.calls kj4 _ _ y109 t118 t119 t120 _ ?side1 ?side2 A35.out).mono ?_);(case side1=>repeat (first|exact (Kd.jj0 HR112.out HB.out)|(with_reducible refine Kd.C_alloc ?_ _)|(with_reducible refine Kd.C_drewN ?_ _)|(with_reducible refine Kd.C_drew ?_)));(case side2=>exact HC112.out);rintro e w' ⟨rfl,⟨nd,rfl⟩⟩;refine ⟨_,rfl,?_⟩;(try (rw [drewN_self wc];generalize hq_:World.drewN wc _=wc;have n0_:Aside0 (wc.heap[gb102]?=some (.cells #[.int .i64 0,.int .i64 0,.int .u64 0,.slice none 0 0] 97 (0,0))):=⟨by rw [← hq_];exact (by (with_reducible repeat (first|refine jj9 ?_ _|refine jjq ?_|refine jjj ?_ _));exact BK102.out)⟩;have n1_:Aside0 (wc.heap[gb106]?=some (.cells #[.int .i64 (wrap64 (t103 / 8)),.int .i64 (wrap64 (Go.bits .and .u64 t103 7)),.int .u64 0,.slice none 0 0] 97 (0,0))):=⟨by rw [← hq_];exact (by (with_reducible repeat (first|refine jj9 ?_ _|refine jjq ?_|refine jjj ?_ _));exact BK106.out)⟩;have n2_:Aside0 (Below w.heap.size w wc):=⟨by rw [← hq_];exact (by repeat (first|(with_reducible first|exact HB.out|apply jj6|apply jj4|apply jj2|refine jk1 ?_ GE102.out|refine jk1 ?_ GE106.out)|exact HB.out))⟩;clear BK102 BK106 HB hq_;have BK102:=n0_;have BK106:=n1_;have HB:=n2_;clear n0_ n1_ n2_));have hnb44:=NB106_102.out;have hnc44:=NB102_106.out;have hcz45_0:wc.cell? ⟨gb106,0,none⟩=some (.int .i64 (wrap64 (t103 / 8))):=bzC BK106 0;have hcz45_1:wc.cell? ⟨gb106,1,none⟩=some (.int .i64 (wrap64 (Go.bits .and .u64 t103 7))):=bzC BK106 1;have hcz45_2:wc.cell? ⟨gb106,2,none⟩=some (.int .u64 0):=bzC BK106 2;have hcz45_3:wc.cell? ⟨gb106,3,none⟩=some (.slice none 0 0):=bzC BK106 3;have hfz45_0:=jj5 BK106.out 0;have hfz45_1:=jj5 BK106.out 1;have hfz45_2:=jj5 BK106.out 2;have hfz45_3:=jj5 BK106.out 3;have hcz46_0:wc.cell? ⟨gb102,0,none⟩=some (.int .i64 0):=bzC BK102 0;have hcz46_1:wc.cell? ⟨gb102,1,none⟩=some (.int .i64 0):=bzC BK102 1;have hcz46_2:wc.cell? ⟨gb102,2,none⟩=some (.int .u64 0):=bzC BK102 2;have hcz46_3:wc.cell? ⟨gb102,3,none⟩=some (.slice none 0 0):=bzC BK102 3;have hfz46_0:=jj5 BK102.out 0;have hfz46_1:=jj5 BK102.out 1;have hfz46_2:=jj5 BK102.out 2;have hfz46_3:=jj5 BK102.out 3))
                           refine bodyPost_ret (results_ctt rfl _ _ gb102 97 #[.int .i64 0,.int .i64 0,.int .u64 0,.slice none 0 0] (0,0) _ rfl (by (with_reducible repeat (first|refine jj9 ?_ _|refine jjq ?_|refine jjj ?_ _));refine blk_put (cs:=#[.int .i64 0,.int .i64 0,.int .u64 0,.slice none 0 0]) ?_ 3 _ rfl;(with_reducible repeat (first|refine jj9 ?_ _|refine jjq ?_|refine jjj ?_ _));refine blk_put (cs:=#[.int .i64 0,.int .i64 0,.int .u64 0,.slice none 0 0]) ?_ 2 _ rfl;(with_reducible repeat (first|refine jj9 ?_ _|refine jjq ?_|refine jjj ?_ _));refine blk_put (cs:=#[.int .i64 0,.int .i64 0,.int .u64 0,.slice none 0 0]) ?_ 1 _ rfl;(with_reducible repeat (first|refine jj9 ?_ _|refine jjq ?_|refine jjj ?_ _));refine blk_put (cs:=#[.int .i64 0,.int .i64 0,.int .u64 0,.slice none 0 0]) ?_ 0 _ rfl;(with_reducible repeat (first|refine jj9 ?_ _|refine jjq ?_|refine jjj ?_ _));exact BK102.out) Try.underlying97 rfl (by kernel_rfl)) rfl ?_
                           exact ⟨_,by first|rfl|(simp [errW_none,errW_some] <;> rfl)|(simp [*,errW_none,errW_some] <;> rfl),by first|exact Kd.R_nil _ _ _ _ _|exact Kd.N_nil _ _ _ _ _|exact Kd.V_nil _ _ _ _ _|exact Kd.Q_nil _ _ _ _ _|exact Kd.S_nil _ _ _ _ _,by repeat (first|(with_reducible first|exact HB.out|apply jj6|apply jj4|apply jj2|refine jk1 ?_ GE102.out|refine jk1 ?_ GE106.out)|exact HB.out)⟩
                       · as_aux_lemma=>
                          rw [if_neg c42] at H
                          have c42b0:decide ((IntKind.u64.wrap (wrap64 ((y109.length:Int) - t119))) < t118)=false:=decide_eq_false c42
                          clear c42
                          by_cases c47:0≤t119
                          · as_aux_lemma=>
                             rw [if_pos c47] at H
                             have c47b0:=eq_true c47
                             have c47b1:decide (0≤t119)=true:=decide_eq_true c47
                             clear c47
                             by_cases c48:t119≤(wrap64 (t119+(wrap64 (t118))))
                             · as_aux_lemma=>
                                rw [if_pos c48] at H
                                have c48b0:=eq_true c48
                                have c48b1:decide (t119≤(wrap64 (t119+(wrap64 (t118)))))=true:=decide_eq_true c48
                                by_cases c49:(wrap64 (t119+(wrap64 (t118))))≤(y109.length:Int)
                                · as_aux_lemma=>
                                   rw [if_pos c49] at H
                                   have c49b0:=eq_true c49
                                   have c49b1:decide ((wrap64 (t119+(wrap64 (t118))))≤(y109.length:Int))=true:=decide_eq_true c49
                                   obtain ⟨y121,hy121⟩:∃ y_:List Int,y_=((y109.take ((wrap64 (t119+(wrap64 (t118)))):Int).toNat).drop (t119:Int).toNat):=⟨_,rfl⟩
                                   replace H:((bytes_Clone.f y121).bind fun t125=>(some ((wrap64 (t103 / 8)),(wrap64 (Go.bits .and .u64 t103 7)),0,t125,wrap64 ((wrap64 (t104+t119))+(wrap64 (t118))),0)))=some (r1,r2,r3,r4,r5,r6):=by first|(rw [hy121];with_reducible exact H)|(have H2_:=(Option.bind_some _ _).symm.trans H;rw [hy121];with_reducible exact H2_)|(have H2_:=(Option.bind_some _ _).symm.trans H;with_reducible exact H2_)|with_reducible exact H|(rw [hy121];exact H)|exact H
                                   have Ny121:=mk0 hy121
                                   clear hy121
                                   replace H:=Option.bind_eq_some_iff.mp H
                                   obtain ⟨t125,A500,H⟩:=H
                                   replace H:(some ((wrap64 (t103 / 8)),(wrap64 (Go.bits .and .u64 t103 7)),0,t125,wrap64 ((wrap64 (t104+t119))+(wrap64 (t118))),0))=some (r1,r2,r3,r4,r5,r6):=H
                                   have A50:=mk0 A500
                                   clear A500
                                   as_aux_lemma=>
                                    simp only [Option.some.injEq,Prod.mk.injEq] at H
                                    obtain ⟨rfl,rfl,rfl,rfl,rfl,rfl⟩:=H
                                    have q51:(t104:Int)≤((l0.length:Int):Int):=of_decide_eq_true (by first|(with_reducible assumption)|assumption)
                                    obtain ⟨i051,hi051,_,hsz51,_⟩:=info_parts info5
                                    have hroom51:l0.length≤c0:=HC0.out
                                    have hC51:Kd.C (Kd.int .u8) _ A0 l0.length l0:=HR0.out
                                    have q051:(0:Int)≤(t104:Int):=of_decide_eq_true (by first|(with_reducible assumption)|assumption)
                                    have hcut51:=cut_from (P:=Try.prog) 28 5 .i64 Try.underlying28 hi051 1 hsz51 A0 l0.length c0 t104 q051 q51
                                    have hr51:=Kd.C_drop (m:=(t104:Int).toNat) (c:=c0) hC51 (by omega) hroom51
                                    obtain ⟨A51,hA51⟩:∃ A1,A1=(if c0=(t104:Int).toNat then A0 else (A0:Option Addr).map (·.add ((t104:Int).toNat*1))):=⟨_,rfl⟩
                                    obtain ⟨c51,hc51⟩:∃ c1,c1=c0 - (t104:Int).toNat:=⟨_,rfl⟩
                                    have hy51:y109.length=l0.length - (t104:Int).toNat:=(by rw [Ny109.out,List.length_drop] <;> omega)
                                    rw [show (l0).drop (t104:Int).toNat=y109 from Ny109.out.symm] at hr51
                                    replace hr51:Kd.C (Kd.int .u8) _ A51 y109.length y109:=(by rw [hA51];exact hr51)
                                    rw [← hy51,← hA51,← hc51] at hcut51
                                    have HR112:=mk0 hr51
                                    have HC112:=mk0 (show y109.length≤c51 from by rw [hy51,hc51];exact Nat.sub_le_sub_right hroom51 _)
                                    clear hr51 hC51 hroom51 hi051 hsz51 hc51
                                    have KY51:=mk0 hy51
                                    have KA51:=mk0 hA51
                                    clear hy51 hA51
                                    replace q51:=eq_true q51
                                    go_wp2_with (first|((with_reducible refine gate_callee (f:=98) rfl ?_);refine goesL_ (some 71) rfl rfl Try.func98 (by kernel_rfl) rfl #[.slice A51 y109.length c51] rfl (by (try simp only [List.map_toArray,List.map_cons,List.map_nil]);first|done|rfl|(simp only [List.length_drop,List.length_take];rfl)) ?_;(with_reducible refine (varint_Take.calls kj4 _ _ y109 t118 t119 t120 _ ?side1 ?side2 A35.out).mono ?_);(case side1=>repeat (first|exact (Kd.jj0 HR112.out HB.out)|(with_reducible refine Kd.C_alloc ?_ _)|(with_reducible refine Kd.C_drewN ?_ _)|(with_reducible refine Kd.C_drew ?_)));(case side2=>exact HC112.out);rintro e w' ⟨rfl,⟨nd,rfl⟩⟩;refine ⟨_,rfl,?_⟩;(try (rw [drewN_self wc];generalize hq_:World.drewN wc _=wc;have n0_:Aside0 (wc.heap[gb102]?=some (.cells #[.int .i64 0,.int .i64 0,.int .u64 0,.slice none 0 0] 97 (0,0))):=⟨by rw [← hq_];exact (by (with_reducible repeat (first|refine jj9 ?_ _|refine jjq ?_|refine jjj ?_ _));exact BK102.out)⟩;have n1_:Aside0 (wc.heap[gb106]?=some (.cells #[.int .i64 (wrap64 (t103 / 8)),.int .i64 (wrap64 (Go.bits .and .u64 t103 7)),.int .u64 0,.slice none 0 0] 97 (0,0))):=⟨by rw [← hq_];exact (by (with_reducible repeat (first|refine jj9 ?_ _|refine jjq ?_|refine jjj ?_ _));exact BK106.out)⟩;have n2_:Aside0 (Below w.heap.size w wc):=⟨by rw [← hq_];exact (by repeat (first|(with_reducible first|exact HB.out|apply jj6|apply jj4|apply jj2|refine jk1 ?_ GE102.out|refine jk1 ?_ GE106.out)|exact HB.out))⟩;clear BK102 BK106 HB hq_;have BK102:=n0_;have BK106:=n1_;have HB:=n2_;clear n0_ n1_ n2_));have hczR4_gb102_0:wc.cell? ⟨gb102,0,none⟩=some (.int .i64 0):=bzC BK102 0;have hfzR4_gb102_0:=jj5 BK102.out 0;have hczR4_gb102_1:wc.cell? ⟨gb102,1,none⟩=some (.int .i64 0):=bzC BK102 1;have hfzR4_gb102_1:=jj5 BK102.out 1;have hczR4_gb102_2:wc.cell? ⟨gb102,2,none⟩=some (.int .u64 0):=bzC BK102 2;have hfzR4_gb102_2:=jj5 BK102.out 2;have hczR4_gb102_3:wc.cell? ⟨gb102,3,none⟩=some (.slice none 0 0):=bzC BK102 3;have hfzR4_gb102_3:=jj5 BK102.out 3;have hnb52:=NB106_102.out;have hnc52:=NB102_106.out;have hcz53_0:wc.cell? ⟨gb106,0,none⟩=some (.int .i64 (wrap64 (t103 / 8))):=bzC BK106 0;have hcz53_1:wc.cell? ⟨gb106,1,none⟩=some (.int .i64 (wrap64 (Go.bits .and .u64 t103 7))):=bzC BK106 1;have hcz53_2:wc.cell? ⟨gb106,2,none⟩=some (.int .u64 0):=bzC BK106 2;have hcz53_3:wc.cell? ⟨gb106,3,none⟩=some (.slice none 0 0):=bzC BK106 3;have hfz53_0:=jj5 BK106.out 0;have hfz53_1:=jj5 BK106.out 1;have hfz53_2:=jj5 BK106.out 2;have hfz53_3:=jj5 BK106.out 3;have q54:((wrap64 (t119+(wrap64 (t118)))):Int)≤((y109.length:Int):Int):=of_decide_eq_true (by first|(with_reducible assumption)|assumption);obtain ⟨i054,hi054,_,hsz54,_⟩:=info_parts info5;have hroom54:y109.length≤c51:=HC112.out;have hC54:Kd.C (Kd.int .u8) _ A51 y109.length y109:=HR112.out;have ql54:(t119:Int)≤((wrap64 (t119+(wrap64 (t118)))):Int):=of_decide_eq_true (by first|(with_reducible assumption)|assumption);have q054:(0:Int)≤(t119:Int):=of_decide_eq_true (by first|(with_reducible assumption)|assumption);have hcut54:=cut_mid (P:=Try.prog) 28 5 .i64 .i64 Try.underlying28 hi054 1 hsz54 A51 y109.length c51 t119 (wrap64 (t119+(wrap64 (t118)))) q054 ql54 q54 hroom54;have hr54:=Kd.C_mid (lo:=(t119:Int).toNat) (hi:=((wrap64 (t119+(wrap64 (t118)))):Int).toNat) (c:=c51) hC54 (by omega) (by omega) hroom54;obtain ⟨A54,hA54⟩:∃ A1,A1=(if c51=(t119:Int).toNat then A51 else (A51:Option Addr).map (·.add ((t119:Int).toNat*1))):=⟨_,rfl⟩;obtain ⟨c54,hc54⟩:∃ c1,c1=c51 - (t119:Int).toNat:=⟨_,rfl⟩;have hy54:y121.length=((wrap64 (t119+(wrap64 (t118)))):Int).toNat - (t119:Int).toNat:=(by rw [Ny121.out,List.length_drop,List.length_take] <;> omega);rw [show ((y109).take ((wrap64 (t119+(wrap64 (t118)))):Int).toNat).drop (t119:Int).toNat=y121 from Ny121.out.symm] at hr54;replace hr54:Kd.C (Kd.int .u8) _ A54 y121.length y121:=(by rw [hA54];exact hr54);rw [← hy54,← hA54,← hc54] at hcut54;have HR124:=mk0 hr54;have HC124:=mk0 (show y121.length≤c54 from by rw [hy54,hc54];exact Nat.sub_le_sub_right (Nat.le_trans (by omega) hroom54) _);clear hr54 hC54 hroom54 hi054 hsz54 hc54;have KY54:=mk0 hy54;have KA54:=mk0 hA54;clear hy54 hA54;replace q54:=eq_true q54)|((with_reducible refine gate_callee (f:=100) rfl ?_);refine goesL_ (some 106) rfl rfl Try.func100 (by kernel_rfl) rfl #[.slice A54 y121.length c54] rfl (by (try simp only [List.map_toArray,List.map_cons,List.map_nil]);first|done|rfl|(simp only [List.length_drop,List.length_take];rfl)) ?_;(with_reducible refine (bytes_Clone.calls _ _ y121 t125 _ ?side1 ?side2 A50.out).mono ?_);(case side1=>repeat (first|exact (Kd.jj0 HR124.out HB.out)|(with_reducible refine Kd.C_alloc ?_ _)|(with_reducible refine Kd.C_drewN ?_ _)|(with_reducible refine Kd.C_drew ?_)));(case side2=>exact HC124.out);rintro e w55 ⟨v126,rfl,ho0,hb⟩;refine ⟨_,rfl,?_⟩;have n0_:=mk0 (Kd.R_lower ho0 (below_size (by repeat (first|(with_reducible first|exact HB.out|apply jj6|apply jj4|apply jj2|refine jk1 ?_ GE102.out|refine jk1 ?_ GE106.out)|exact HB.out))));have n1_:=mk0 (jj3 (g:=gb102) (o:=.cells #[.int .i64 0,.int .i64 0,.int .u64 0,.slice none 0 0] 97 (0,0)) (by (with_reducible repeat (first|refine jj9 ?_ _|refine jjq ?_|refine jjj ?_ _));exact BK102.out) hb);have n2_:=mk0 (jj3 (g:=gb106) (o:=.cells #[.int .i64 (wrap64 (t103 / 8)),.int .i64 (wrap64 (Go.bits .and .u64 t103 7)),.int .u64 0,.slice none 0 0] 97 (0,0)) (by (with_reducible repeat (first|refine jj9 ?_ _|refine jjq ?_|refine jjj ?_ _));exact BK106.out) hb);have n3_:=mk0 (below_step (by repeat (first|(with_reducible first|exact HB.out|apply jj6|apply jj4|apply jj2|refine jk1 ?_ GE102.out|refine jk1 ?_ GE106.out)|exact HB.out)) hb);clear BK102;clear BK106;clear HB;have HO127:=n0_;have BK102:=n1_;have BK106:=n2_;have HB:=n3_;clear n0_ n1_ n2_ n3_;(try clear hb);(try clear hb2);(try clear hk);(try clear hi);(try clear ho0);obtain ⟨Ao56,co56,eo56⟩:=Kd.jk4 HO127.out;subst eo56;have hcz57_0:w55.cell? ⟨gb106,0,none⟩=some (.int .i64 (wrap64 (t103 / 8))):=bzC BK106 0;have hcz57_1:w55.cell? ⟨gb106,1,none⟩=some (.int .i64 (wrap64 (Go.bits .and .u64 t103 7))):=bzC BK106 1;have hcz57_2:w55.cell? ⟨gb106,2,none⟩=some (.int .u64 0):=bzC BK106 2;have hcz57_3:w55.cell? ⟨gb106,3,none⟩=some (.slice none 0 0):=bzC BK106 3;have hfz57_0:=jj5 BK106.out 0;have hfz57_1:=jj5 BK106.out 1;have hfz57_2:=jj5 BK106.out 2;have hfz57_3:=jj5 BK106.out 3;have hcz58_0:w55.cell? ⟨gb102,0,none⟩=some (.int .i64 0):=bzC BK102 0;have hcz58_1:w55.cell? ⟨gb102,1,none⟩=some (.int .i64 0):=bzC BK102 1;have hcz58_2:w55.cell? ⟨gb102,2,none⟩=some (.int .u64 0):=bzC BK102 2;have hcz58_3:w55.cell? ⟨gb102,3,none⟩=some (.slice none 0 0):=bzC BK102 3;have hfz58_0:=jj5 BK102.out 0;have hfz58_1:=jj5 BK102.out 1;have hfz58_2:=jj5 BK102.out 2;have hfz58_3:=jj5 BK102.out 3))
                                    refine bodyPost_ret (results_ctt rfl _ _ gb102 97 #[.int .i64 (wrap64 (t103 / 8)),.int .i64 (wrap64 (Go.bits .and .u64 t103 7)),.int .u64 0,.slice Ao56 t125.length co56] (0,0) _ rfl (by (with_reducible repeat (first|refine jj9 ?_ _|refine jjq ?_|refine jjj ?_ _));refine blk_put (cs:=#[.int .i64 (wrap64 (t103 / 8)),.int .i64 (wrap64 (Go.bits .and .u64 t103 7)),.int .u64 0,.slice none 0 0]) ?_ 3 _ rfl;(with_reducible repeat (first|refine jj9 ?_ _|refine jjq ?_|refine jjj ?_ _));refine blk_put (cs:=#[.int .i64 (wrap64 (t103 / 8)),.int .i64 (wrap64 (Go.bits .and .u64 t103 7)),.int .u64 0,.slice none 0 0]) ?_ 2 _ rfl;(with_reducible repeat (first|refine jj9 ?_ _|refine jjq ?_|refine jjj ?_ _));refine blk_put (cs:=#[.int .i64 (wrap64 (t103 / 8)),.int .i64 0,.int .u64 0,.slice none 0 0]) ?_ 1 _ rfl;(with_reducible repeat (first|refine jj9 ?_ _|refine jjq ?_|refine jjj ?_ _));refine blk_put (cs:=#[.int .i64 0,.int .i64 0,.int .u64 0,.slice none 0 0]) ?_ 0 _ rfl;(with_reducible repeat (first|refine jj9 ?_ _|refine jjq ?_|refine jjj ?_ _));refine blk_far ?_ NB102_106.out _;(with_reducible repeat (first|refine jj9 ?_ _|refine jjq ?_|refine jjj ?_ _));exact BK102.out) Try.underlying97 rfl (by kernel_rfl)) rfl ?_
                                    exact ⟨_,by first|rfl|(simp [errW_none,errW_some] <;> rfl)|(simp [*,errW_none,errW_some] <;> rfl),by (with_reducible repeat (first|apply Kd.R_alloc|apply Kd.R_drewN|apply Kd.R_drew));exact Kd.R_mono (Kd.R_far (p:=⟨gb102,3,none⟩) (Kd.R_far (p:=⟨gb102,2,none⟩) (Kd.R_far (p:=⟨gb102,1,none⟩) (Kd.R_far (p:=⟨gb102,0,none⟩) (Kd.R_far (p:=⟨gb106,3,none⟩) (Kd.R_types (Kd.R_types HO127.out BK106.out (by decide)) BK102.out (by decide)) (fun _ hk=>hk.1.2) (.slice Ao56 t125.length co56)) (fun _ hk=>hk.2) (.int .i64 (wrap64 (t103 / 8)))) (fun _ hk=>hk.2) (.int .i64 (wrap64 (Go.bits .and .u64 t103 7)))) (fun _ hk=>hk.2) (.int .u64 0)) (fun _ hk=>hk.2) (.slice Ao56 t125.length co56)) (fun _ hk=>trivial),by repeat (first|(with_reducible first|exact HB.out|apply jj6|apply jj4|apply jj2|refine jk1 ?_ GE102.out|refine jk1 ?_ GE106.out)|exact HB.out)⟩
                                · rw [if_neg c49] at H
                                  exact absurd H (by simp)
                             · rw [if_neg c48] at H
                               exact absurd H (by simp)
                          · rw [if_neg c47] at H
                            exact absurd H (by simp)
                 · as_aux_lemma=>
                    rw [if_neg c36] at H
                    have c36b0:(t120==0)=false:=beq_eq_false_iff_ne.mpr c36
                    have c36b1:(t120 != 0)=true:=bne_iff_ne.mpr c36
                    as_aux_lemma=>
                     simp only [Option.some.injEq,Prod.mk.injEq] at H
                     obtain ⟨rfl,rfl,rfl,rfl,rfl,rfl⟩:=H
                     have q59:(t104:Int)≤((l0.length:Int):Int):=of_decide_eq_true (by first|(with_reducible assumption)|assumption)
                     obtain ⟨i059,hi059,_,hsz59,_⟩:=info_parts info5
                     have hroom59:l0.length≤c0:=HC0.out
                     have hC59:Kd.C (Kd.int .u8) _ A0 l0.length l0:=HR0.out
                     have q059:(0:Int)≤(t104:Int):=of_decide_eq_true (by first|(with_reducible assumption)|assumption)
                     have hcut59:=cut_from (P:=Try.prog) 28 5 .i64 Try.underlying28 hi059 1 hsz59 A0 l0.length c0 t104 q059 q59
                     have hr59:=Kd.C_drop (m:=(t104:Int).toNat) (c:=c0) hC59 (by omega) hroom59
                     obtain ⟨A59,hA59⟩:∃ A1,A1=(if c0=(t104:Int).toNat then A0 else (A0:Option Addr).map (·.add ((t104:Int).toNat*1))):=⟨_,rfl⟩
                     obtain ⟨c59,hc59⟩:∃ c1,c1=c0 - (t104:Int).toNat:=⟨_,rfl⟩
                     have hy59:y109.length=l0.length - (t104:Int).toNat:=(by rw [Ny109.out,List.length_drop] <;> omega)
                     rw [show (l0).drop (t104:Int).toNat=y109 from Ny109.out.symm] at hr59
                     replace hr59:Kd.C (Kd.int .u8) _ A59 y109.length y109:=(by rw [hA59];exact hr59)
                     rw [← hy59,← hA59,← hc59] at hcut59
                     have HR112:=mk0 hr59
                     have HC112:=mk0 (show y109.length≤c59 from by rw [hy59,hc59];exact Nat.sub_le_sub_right hroom59 _)
                     clear hr59 hC59 hroom59 hi059 hsz59 hc59
                     have KY59:=mk0 hy59
                     have KA59:=mk0 hA59
                     clear hy59 hA59
                     replace q59:=eq_true q59
                     go_wp2_with (first|((with_reducible refine gate_callee (f:=98) rfl ?_);refine goesL_ (some 71) rfl rfl Try.func98 (by kernel_rfl) rfl #[.slice A59 y109.length c59] rfl (by (try simp only [List.map_toArray,List.map_cons,List.map_nil]);first|done|rfl|(simp only [List.length_drop,List.length_take];rfl)) ?_;(with_reducible refine (varint_Take.calls kj4 _ _ y109 t118 t119 t120 _ ?side1 ?side2 A35.out).mono ?_);(case side1=>repeat (first|exact (Kd.jj0 HR112.out HB.out)|(with_reducible refine Kd.C_alloc ?_ _)|(with_reducible refine Kd.C_drewN ?_ _)|(with_reducible refine Kd.C_drew ?_)));(case side2=>exact HC112.out);rintro e w' ⟨rfl,⟨nd,rfl⟩⟩;refine ⟨_,rfl,?_⟩;(try (rw [drewN_self wc];generalize hq_:World.drewN wc _=wc;have n0_:Aside0 (wc.heap[gb102]?=some (.cells #[.int .i64 0,.int .i64 0,.int .u64 0,.slice none 0 0] 97 (0,0))):=⟨by rw [← hq_];exact (by (with_reducible repeat (first|refine jj9 ?_ _|refine jjq ?_|refine jjj ?_ _));exact BK102.out)⟩;have n1_:Aside0 (wc.heap[gb106]?=some (.cells #[.int .i64 (wrap64 (t103 / 8)),.int .i64 (wrap64 (Go.bits .and .u64 t103 7)),.int .u64 0,.slice none 0 0] 97 (0,0))):=⟨by rw [← hq_];exact (by (with_reducible repeat (first|refine jj9 ?_ _|refine jjq ?_|refine jjj ?_ _));exact BK106.out)⟩;have n2_:Aside0 (Below w.heap.size w wc):=⟨by rw [← hq_];exact (by repeat (first|(with_reducible first|exact HB.out|apply jj6|apply jj4|apply jj2|refine jk1 ?_ GE102.out|refine jk1 ?_ GE106.out)|exact HB.out))⟩;clear BK102 BK106 HB hq_;have BK102:=n0_;have BK106:=n1_;have HB:=n2_;clear n0_ n1_ n2_));have hczR5_gb106_0:wc.cell? ⟨gb106,0,none⟩=some (.int .i64 (wrap64 (t103 / 8))):=bzC BK106 0;have hfzR5_gb106_0:=jj5 BK106.out 0;have hczR5_gb106_1:wc.cell? ⟨gb106,1,none⟩=some (.int .i64 (wrap64 (Go.bits .and .u64 t103 7))):=bzC BK106 1;have hfzR5_gb106_1:=jj5 BK106.out 1;have hczR5_gb106_2:wc.cell? ⟨gb106,2,none⟩=some (.int .u64 0):=bzC BK106 2;have hfzR5_gb106_2:=jj5 BK106.out 2;have hczR5_gb106_3:wc.cell? ⟨gb106,3,none⟩=some (.slice none 0 0):=bzC BK106 3;have hfzR5_gb106_3:=jj5 BK106.out 3;have hnb60:=NB102_106.out;have hnc60:=NB106_102.out;have hcz61_0:wc.cell? ⟨gb102,0,none⟩=some (.int .i64 0):=bzC BK102 0;have hcz61_1:wc.cell? ⟨gb102,1,none⟩=some (.int .i64 0):=bzC BK102 1;have hcz61_2:wc.cell? ⟨gb102,2,none⟩=some (.int .u64 0):=bzC BK102 2;have hcz61_3:wc.cell? ⟨gb102,3,none⟩=some (.slice none 0 0):=bzC BK102 3;have hfz61_0:=jj5 BK102.out 0;have hfz61_1:=jj5 BK102.out 1;have hfz61_2:=jj5 BK102.out 2;have hfz61_3:=jj5 BK102.out 3))
                     refine bodyPost_ret (results_ctt rfl _ _ gb102 97 #[.int .i64 0,.int .i64 0,.int .u64 0,.slice none 0 0] (0,0) _ rfl (by (with_reducible repeat (first|refine jj9 ?_ _|refine jjq ?_|refine jjj ?_ _));refine blk_put (cs:=#[.int .i64 0,.int .i64 0,.int .u64 0,.slice none 0 0]) ?_ 3 _ rfl;(with_reducible repeat (first|refine jj9 ?_ _|refine jjq ?_|refine jjj ?_ _));refine blk_put (cs:=#[.int .i64 0,.int .i64 0,.int .u64 0,.slice none 0 0]) ?_ 2 _ rfl;(with_reducible repeat (first|refine jj9 ?_ _|refine jjq ?_|refine jjj ?_ _));refine blk_put (cs:=#[.int .i64 0,.int .i64 0,.int .u64 0,.slice none 0 0]) ?_ 1 _ rfl;(with_reducible repeat (first|refine jj9 ?_ _|refine jjq ?_|refine jjj ?_ _));refine blk_put (cs:=#[.int .i64 0,.int .i64 0,.int .u64 0,.slice none 0 0]) ?_ 0 _ rfl;(with_reducible repeat (first|refine jj9 ?_ _|refine jjq ?_|refine jjj ?_ _));exact BK102.out) Try.underlying97 rfl (by kernel_rfl)) rfl ?_
                     exact ⟨_,by first|rfl|(simp [errW_none,errW_some] <;> rfl)|(simp [*,errW_none,errW_some] <;> rfl),by first|exact Kd.R_nil _ _ _ _ _|exact Kd.N_nil _ _ _ _ _|exact Kd.V_nil _ _ _ _ _|exact Kd.Q_nil _ _ _ _ _|exact Kd.S_nil _ _ _ _ _,by repeat (first|(with_reducible first|exact HB.out|apply jj6|apply jj4|apply jj2|refine jk1 ?_ GE102.out|refine jk1 ?_ GE106.out)|exact HB.out)⟩
           · rw [if_neg c20] at H
             exact absurd H (by simp)
        · rw [if_neg c19] at H
          exact absurd H (by simp)
 · as_aux_lemma=>
    rw [if_neg c3] at H
    have c3b0:(t105==0)=false:=beq_eq_false_iff_ne.mpr c3
    have c3b1:(t105 != 0)=true:=bne_iff_ne.mpr c3
    as_aux_lemma=>
     simp only [Option.some.injEq,Prod.mk.injEq] at H
     obtain ⟨rfl,rfl,rfl,rfl,rfl,rfl⟩:=H
     go_enter Try.func97,Try.ntmps97
     go_wp2_with (first|((with_reducible refine jk0 (N:=2) rfl ?_);refine bzX 2 #[.int .i64 0,.int .i64 0,.int .u64 0,.slice none 0 0] 97 ?_;intro gb102 hg w62 hbox hb;have n0_:=mk0 (below_step (by repeat (first|(with_reducible first|exact HB.out|apply jj6|apply jj4|apply jj2)|exact HB.out)) hb);have n1_:=mk0 (hbox);have n2_:=mk0 ((by rw [hg];exact (below_size (by repeat (first|(with_reducible first|exact HB.out|apply jj6|apply jj4|apply jj2)|exact HB.out))):w.heap.size≤gb102));have n3_:=mk0 ((by rw [hg];exact (below_size (by repeat (first|(with_reducible first|exact HB.out|apply jj6|apply jj4|apply jj2)|exact HB.out))):w.heap.size≤gb102));clear HB;have HB:=n0_;have BK102:=n1_;have GW102:=n2_;have GE102:=n3_;clear n0_ n1_ n2_ n3_;clear hb hbox hg)|((with_reducible refine gate_callee (f:=98) rfl ?_);refine goesL_ (some 16) rfl rfl Try.func98 (by kernel_rfl) rfl #[.slice A0 l0.length c0] rfl (by (try simp only [List.map_toArray,List.map_cons,List.map_nil]);first|done|rfl|(simp only [List.length_drop,List.length_take];rfl)) ?_;(with_reducible refine (varint_Take.calls k _ _ l0 t103 t104 t105 _ ?side1 ?side2 A2.out).mono ?_);(case side1=>repeat (first|exact (Kd.jj0 HR0.out HB.out)|(with_reducible refine Kd.C_alloc ?_ _)|(with_reducible refine Kd.C_drewN ?_ _)|(with_reducible refine Kd.C_drew ?_)));(case side2=>exact HC0.out);rintro e w' ⟨rfl,⟨nd,rfl⟩⟩;refine ⟨_,rfl,?_⟩;(try (rw [drewN_self w62];generalize hq_:World.drewN w62 _=w62;have n0_:Aside0 (w62.heap[gb102]?=some (.cells #[.int .i64 0,.int .i64 0,.int .u64 0,.slice none 0 0] 97 (0,0))):=⟨by rw [← hq_];exact (by (with_reducible repeat (first|refine jj9 ?_ _|refine jjq ?_|refine jjj ?_ _));exact BK102.out)⟩;have n1_:Aside0 (Below w.heap.size w w62):=⟨by rw [← hq_];exact (by repeat (first|(with_reducible first|exact HB.out|apply jj6|apply jj4|apply jj2|refine jk1 ?_ GE102.out)|exact HB.out))⟩;clear BK102 HB hq_;have BK102:=n0_;have HB:=n1_;clear n0_ n1_));have hcz63_0:w62.cell? ⟨gb102,0,none⟩=some (.int .i64 0):=bzC BK102 0;have hcz63_1:w62.cell? ⟨gb102,1,none⟩=some (.int .i64 0):=bzC BK102 1;have hcz63_2:w62.cell? ⟨gb102,2,none⟩=some (.int .u64 0):=bzC BK102 2;have hcz63_3:w62.cell? ⟨gb102,3,none⟩=some (.slice none 0 0):=bzC BK102 3;have hfz63_0:=jj5 BK102.out 0;have hfz63_1:=jj5 BK102.out 1;have hfz63_2:=jj5 BK102.out 2;have hfz63_3:=jj5 BK102.out 3))
     refine bodyPost_ret (results_ctt rfl _ _ gb102 97 #[.int .i64 0,.int .i64 0,.int .u64 0,.slice none 0 0] (0,0) _ rfl (by (with_reducible repeat (first|refine jj9 ?_ _|refine jjq ?_|refine jjj ?_ _));refine blk_put (cs:=#[.int .i64 0,.int .i64 0,.int .u64 0,.slice none 0 0]) ?_ 3 _ rfl;(with_reducible repeat (first|refine jj9 ?_ _|refine jjq ?_|refine jjj ?_ _));refine blk_put (cs:=#[.int .i64 0,.int .i64 0,.int .u64 0,.slice none 0 0]) ?_ 2 _ rfl;(with_reducible repeat (first|refine jj9 ?_ _|refine jjq ?_|refine jjj ?_ _));refine blk_put (cs:=#[.int .i64 0,.int .i64 0,.int .u64 0,.slice none 0 0]) ?_ 1 _ rfl;(with_reducible repeat (first|refine jj9 ?_ _|refine jjq ?_|refine jjj ?_ _));refine blk_put (cs:=#[.int .i64 0,.int .i64 0,.int .u64 0,.slice none 0 0]) ?_ 0 _ rfl;(with_reducible repeat (first|refine jj9 ?_ _|refine jjq ?_|refine jjj ?_ _));exact BK102.out) Try.underlying97 rfl (by kernel_rfl)) rfl ?_
     exact ⟨_,by first|rfl|(simp [errW_none,errW_some] <;> rfl)|(simp [*,errW_none,errW_some] <;> rfl),by first|exact Kd.R_nil _ _ _ _ _|exact Kd.N_nil _ _ _ _ _|exact Kd.V_nil _ _ _ _ _|exact Kd.Q_nil _ _ _ _ _|exact Kd.S_nil _ _ _ _ _,by repeat (first|(with_reducible first|exact HB.out|apply jj6|apply jj4|apply jj2|refine jk1 ?_ GE102.out)|exact HB.out)⟩
def wire_Read.f (k:Nat) (l0:List Int):Option (List (S97) × Int × Int):=In.rdl (fun a b c d=>(⟨a,b,c,d⟩:S97)) (fun k l=>wire_Take.f k l) l0 k [] 0
theorem wire_Read.calls (k:Nat) (A0:Option Addr) (c0:Nat) (l0:List Int) (r1:List (S97)) (r2:Int) (r3:Int) (w:World) (hr0:Kd.C (Kd.int .u8) w A0 l0.length l0) (hc0:l0.length≤c0) (h:wire_Read.f k l0=some (r1,r2,r3)) :
 Calls Try.prog 77 #[.slice A0 l0.length c0] w fun e w'=>∃ v0_:Value,e = .returned (.tuple #[v0_,.int .i64 r2,.int .i64 r3])∧Kd.S k97 97 w' w.heap.size (fun _=>True) v0_ r1∧Below w.heap.size w w':=
 In.read_calls (fun a b c d=>(⟨a,b,c,d⟩:S97)) k97 A0 c0 l0 w r1 r2 r3 (fun k l=>wire_Take.f k l)
  (fun k A c l a1 a2 a3 a4 a5 a6 W hr hc h=>wire_Take.calls k A c l a1 a2 a3 a4 a5 a6 W hr hc h) rfl (fun W base ok a1 a2 a3 a4 v hR=>k97_mkM W base ok (⟨a1,a2,a3,a4⟩:S97) hR) hr0 hc0 k h
end Go.Proofs.Ytheoafenehckbaa.GUndescBack
