/- Written by gprint.py of this session: the kit's printer, with functions that are proved by hand put in. -/
import Derived.Test.YtheoafenehckbaaKGUndescBackx2
import Derived.Test.YtheoafenehckbaaKSh
set_option maxHeartbeats 8000000
set_option maxRecDepth 100000
namespace Go.Proofs.Ytheoafenehckbaa.Rdp
open GUndescBack
open Tk Cl Fl Pt
open Go.RowKit YtheoafenehckbaaW.PrintWords YtheoafenehckbaaW.PrintLast YtheoafenehckbaaW.PrintMore
attribute [local go_sem] max2_int min2_int max_two min_two max_three min_three max_four min_four
set_option linter.unusedVariables false
set_option linter.unusedSimpArgs false
mutual
def glossaryref11_deep.j0:Nat→List (S76)→Int→Int→Option (Int)
 | 0,_,_,_=>none
 | k+1,x0,x1,x5=>if x5 > 64 then (some x5) else (glossaryref11_deep.l0 k x1 x5 x0 (x0.length:Int) 0)
def glossaryref11_deep.l0:Nat→Int→Int→List (S76)→Int→Int→Option (Int)
 | 0,_,_,_,_,_=>none
 | k+1,x1,x5,x17,x18,x19=>if x19 < x18 then (if 0≤x19 then (if x19 < (x17.length:Int) then ((glossaryref11_deep.f k ((jkz x17 x19).f2) (wrap64 (x1+1))).bind fun t184=>(if (mx x5 t184) > 64 then (some (mx x5 t184)) else (glossaryref11_deep.l0 k x1 (mx x5 t184) x17 x18 (wrap64 (x19+1))))) else (none)) else (none)) else (some x5)
def glossaryref11_deep.f:Nat→List (S76)→Int→Option (Int)
 | 0,_,_=>none
 | k+1,l0,a1=>if (l0.length:Int) > 0 then (glossaryref11_deep.j0 k l0 a1 (wrap64 (a1+1))) else (glossaryref11_deep.j0 k l0 a1 a1)
end
theorem glossaryref11_deep.calls (k:Nat):∀ (A0:Option Addr) (c0:Nat) (l0:List (S76)) (a1:Int) (r:Int) (w:World) (hr0:Kd.C k76 w A0 l0.length l0) (hc0:l0.length≤c0) (h:glossaryref11_deep.f k l0 a1=some r),
 Calls Try.prog 16 #[.slice A0 l0.length c0,.int .i64 a1] w fun e w'=>e = .returned (.int .i64 r)∧Below w.heap.size w w':=by
 induction k using Nat.strongRecOn with
 | _ k ih=>
 intro A0 c0 l0 a1 r w hr0 hc0 h
 cases k with
 | zero=>exact absurd h (by simp [glossaryref11_deep.f])
 | succ k=>
 simp only [glossaryref11_deep.f] at h
 have hu76:=Try.underlying76
 have HR0:=mk0 hr0
 have HC0:=mk0 hc0
 clear hr0 hc0
 have HB:=mk0 (Below.refl w.heap.size w)
 have H:(if (l0.length:Int) > 0 then (glossaryref11_deep.j0 k l0 a1 (wrap64 (a1+1))) else (glossaryref11_deep.j0 k l0 a1 a1))=some r:=h
 clear h
 have HC3:=mk0 H
 clear H
 go_enter Try.func16,Try.ntmps16
 go_upto_if 11 with (fail)
 go_cut [5] (fun v5 wc=>∃ (kq:Nat) (x5_2:Int),v5 = .int .i64 x5_2∧Aside0 (glossaryref11_deep.j0 kq l0 a1 x5_2=some r)∧Aside0 (kq≤k)∧Aside0 (Below w.heap.size w wc))
 case first=>
  have H:=HC3.out
  clear HC3
  by_cases c4:(l0.length:Int) > 0
  · as_aux_lemma=>
     rw [if_pos c4] at H
     have c4b0:decide (0 < (l0.length:Int))=true:=decide_eq_true c4
     have c4b1:decide (0 < l0.length)=true:=decide_eq_true (by omega)
     clear c4
     (first|rw [c4b0]|(simp only [i64_w,i32_w];rw [c4b0])|rw [c4b1]|skip)
     as_aux_lemma=>
      have H':=mk0 H
      clear H
      go_wp2
      go_meet
      case rel=>exact ⟨_,(wrap64 (a1+1)),(by first|rfl|(simp;done)|(simp [*];done)),H',⟨by first|omega|exact Nat.le_refl _⟩,⟨by repeat (first|(with_reducible first|exact HB.out|apply jj6|apply jj4|apply jj5)|exact HB.out)⟩⟩
  · as_aux_lemma=>
     rw [if_neg c4] at H
     have c4b0:decide (0 < (l0.length:Int))=false:=decide_eq_false c4
     have c4b1:decide (0 < l0.length)=false:=decide_eq_false (by omega)
     clear c4
     (first|rw [c4b0]|(simp only [i64_w,i32_w];rw [c4b0])|rw [c4b1]|skip)
     as_aux_lemma=>
      have H':=mk0 H
      clear H
      go_wp2
      go_meet
      case rel=>exact ⟨_,(a1),(by first|rfl|(simp;done)|(simp [*];done)),H',⟨by first|omega|exact Nat.le_refl _⟩,⟨by repeat (first|(with_reducible first|exact HB.out|apply jj6|apply jj4|apply jj5)|exact HB.out)⟩⟩
 case rest=>
  clear HC3
  try clear c1
  try clear p2
  try clear c4
  try clear c4b0
  try clear c4b1
  obtain ⟨kq,x5_2,rfl,HA,HJ2,HB⟩:=hcut
  cases kq with
  | zero=>exact absurd HA.out (by simp [glossaryref11_deep.j0])
  | succ kj2=>
   have H:=HA.out
   clear HA
   simp only [glossaryref11_deep.j0] at H
   by_cases c5:x5_2 > 64
   · as_aux_lemma=>
      rw [if_pos c5] at H
      have c5b0:decide (64 < x5_2)=true:=decide_eq_true c5
      clear c5
      as_aux_lemma=>
       obtain rfl:=Option.some.inj H
       go_wp2
       go_ret
       exact ⟨by first|rfl|(simp [jq0,jq] <;> rfl)|(simp [*,jq0,jq] <;> rfl),by repeat (first|(with_reducible first|exact HB.out|apply jj6|apply jj4|apply jj5)|exact HB.out)⟩
   · as_aux_lemma=>
      rw [if_neg c5] at H
      have c5b0:decide (64 < x5_2)=false:=decide_eq_false c5
      clear c5
      have H':=mk0 H
      clear H
      go_wp2
      go_loopg [5,19] kj2 (fun kq v5 v19 w'=>∃ (x5_2:Int) (x19_2:Int),v5 = .int .i64 x5_2∧v19 = .int .i64 x19_2∧Aside0 (glossaryref11_deep.l0 kq a1 x5_2 l0 (l0.length:Int) x19_2=some r)∧Aside0 (kq≤kj2)∧Aside0 (Below w.heap.size w w'))
      case atStart=>exact ⟨(x5_2),(0),(by first|rfl|(simp;done)|(simp [*];done)),(by first|rfl|(simp;done)|(simp [*];done)),H',⟨Nat.le_refl _⟩,⟨by repeat (first|(with_reducible first|exact HB.out|apply jj6|apply jj4|apply jj5)|exact HB.out)⟩⟩
      case round=>
       clear H'
       try clear c1
       try clear p2
       try clear c4
       try clear c4b0
       try clear c4b1
       try clear c5
       try clear c5b0
       try clear p2
       obtain ⟨x5_2,x19_2,rfl,rfl,HA,HK2,HB⟩:=hrel
       cases gk with
       | zero=>exact absurd HA.out (by simp [glossaryref11_deep.l0])
       | succ k2=>
        have H:=HA.out
        clear HA
        simp only [glossaryref11_deep.l0] at H
        by_cases c6:x19_2 < (l0.length:Int)
        · as_aux_lemma=>
           rw [if_pos c6] at H
           have c6b0:decide (x19_2 < (l0.length:Int))=true:=decide_eq_true c6
           clear c6
           by_cases c7:0≤x19_2
           · as_aux_lemma=>
              rw [if_pos c7] at H
              have c7b0:decide (0≤x19_2)=true:=decide_eq_true c7
              clear c7
              by_cases c8:x19_2 < (l0.length:Int)
              · as_aux_lemma=>
                 rw [if_pos c8] at H
                 have c8b0:decide (x19_2 < (l0.length:Int))=true:=decide_eq_true c8
                 clear c8
                 replace H:=Option.bind_eq_some_iff.mp H
                 obtain ⟨t184,A90,H⟩:=H
                 replace H:(if (mx x5_2 t184) > 64 then (some (mx x5_2 t184)) else (glossaryref11_deep.l0 k2 a1 (mx x5_2 t184) l0 (l0.length:Int) (wrap64 (x19_2+1))))=some r:=H
                 have A9:=mk0 A90
                 clear A90
                 obtain ⟨ji10,hji10⟩:∃ j_:Int,(mx x5_2 t184)=j_:=⟨_,rfl⟩
                 replace H:(if (ji10) > 64 then (some ji10) else (glossaryref11_deep.l0 k2 a1 ji10 l0 (l0.length:Int) (wrap64 (x19_2+1))))=some r:=by first|(rw [hji10] at H;exact H)|(simp only [hji10] at H ⊢;exact H)
                 (try rw [hji10] at A9)
                 have hji10_:(if x5_2 < t184 then t184 else x5_2)=ji10:=hji10
                 by_cases c11:(ji10) > 64
                 · as_aux_lemma=>
                    rw [if_pos c11] at H
                    have c11b0:decide (64 < (ji10))=true:=decide_eq_true c11
                    clear c11
                    as_aux_lemma=>
                     obtain rfl:=Option.some.inj H
                     have p182:0≤(x19_2:Int):=of_decide_eq_true (by first|(with_reducible assumption)|assumption)
                     have q182:x19_2 < (l0.length:Int):=of_decide_eq_true (by first|(with_reducible assumption)|assumption)
                     obtain ⟨ad182,A182_1,c182_1,A182_2,c182_2,A182_3,c182_3,A182_4,c182_4,A182_5,c182_5,A182_6,c182_6,A182_7,c182_7,A182_8,c182_8,A182_9,c182_9,A182_10,c182_10,e182,hx182_0,hx182_1,hx182_2,hx182_3,hx182_4,hx182_5,hx182_6,hx182_7,hx182_8,hx182_9,hx182_10,hl182_1,hi182_1,hl182_2,hi182_2,hl182_3,hi182_3,hl182_4,hi182_4,hl182_5,hi182_5,hl182_6,hi182_6,hl182_7,hi182_7,hl182_8,hi182_8,hl182_9,hi182_9,hl182_10,hi182_10⟩:=at_T76 HR0.out x19_2 p182 q182
                     cases e182
                     replace hx182_0:=(HB.out.cell (World.block_lt_of_cell? w _ hx182_0)).trans hx182_0
                     replace hx182_1:=(HB.out.cell (World.block_lt_of_cell? w _ hx182_1)).trans hx182_1
                     replace hx182_2:=(HB.out.cell (World.block_lt_of_cell? w _ hx182_2)).trans hx182_2
                     replace hx182_3:=(HB.out.cell (World.block_lt_of_cell? w _ hx182_3)).trans hx182_3
                     replace hx182_4:=(HB.out.cell (World.block_lt_of_cell? w _ hx182_4)).trans hx182_4
                     replace hx182_5:=(HB.out.cell (World.block_lt_of_cell? w _ hx182_5)).trans hx182_5
                     replace hx182_6:=(HB.out.cell (World.block_lt_of_cell? w _ hx182_6)).trans hx182_6
                     replace hx182_7:=(HB.out.cell (World.block_lt_of_cell? w _ hx182_7)).trans hx182_7
                     replace hx182_8:=(HB.out.cell (World.block_lt_of_cell? w _ hx182_8)).trans hx182_8
                     replace hx182_9:=(HB.out.cell (World.block_lt_of_cell? w _ hx182_9)).trans hx182_9
                     replace hx182_10:=(HB.out.cell (World.block_lt_of_cell? w _ hx182_10)).trans hx182_10
                     have HR182_1:=mk0 hi182_1
                     have HC182_1:=mk0 hl182_1
                     clear hi182_1 hl182_1
                     have HR182_2:=mk0 hi182_2
                     have HC182_2:=mk0 hl182_2
                     clear hi182_2 hl182_2
                     have HR182_3:=mk0 hi182_3
                     have HC182_3:=mk0 hl182_3
                     clear hi182_3 hl182_3
                     have HR182_4:=mk0 hi182_4
                     have HC182_4:=mk0 hl182_4
                     clear hi182_4 hl182_4
                     have HR182_5:=mk0 hi182_5
                     have HC182_5:=mk0 hl182_5
                     clear hi182_5 hl182_5
                     have HR182_6:=mk0 hi182_6
                     have HC182_6:=mk0 hl182_6
                     clear hi182_6 hl182_6
                     have HR182_7:=mk0 hi182_7
                     have HC182_7:=mk0 hl182_7
                     clear hi182_7 hl182_7
                     have HR182_8:=mk0 hi182_8
                     have HC182_8:=mk0 hl182_8
                     clear hi182_8 hl182_8
                     have HR182_9:=mk0 hi182_9
                     have HC182_9:=mk0 hl182_9
                     clear hi182_9 hl182_9
                     have HR182_10:=mk0 hi182_10
                     have HC182_10:=mk0 hl182_10
                     clear hi182_10 hl182_10
                     replace p182:=eq_true p182
                     replace q182:=eq_true q182
                     go_wp2_with (first|((with_reducible refine jk (N:=7) rfl ?_);refine bzX 7 #[.string (⟨#[]⟩:ByteArray),.slice none 0 0,.slice none 0 0,.slice none 0 0,.slice none 0 0,.slice none 0 0,.slice none 0 0,.slice none 0 0,.slice none 0 0,.slice none 0 0,.slice none 0 0] 76 ?_;intro gb183 hg w12 hbox hb;have n0_:=mk0 (below_step (by repeat (first|(with_reducible first|exact HB.out|apply jj6|apply jj4|apply jj5)|exact HB.out)) hb);have n1_:=mk0 (hbox);have n2_:=mk0 ((by rw [hg];exact (below_size (by repeat (first|(with_reducible first|exact HB.out|apply jj6|apply jj4|apply jj5)|exact HB.out))):w.heap.size≤gb183));have n3_:=mk0 ((by rw [hg];exact (below_size (by repeat (first|(with_reducible first|exact HB.out|apply jj6|apply jj4|apply jj5)|exact HB.out))):w.heap.size≤gb183));clear HB;have HB:=n0_;have BK183:=n1_;have GW183:=n2_;have GE183:=n3_;clear n0_ n1_ n2_ n3_;clear hb hbox hg;have hcz13_0:w12.cell? ⟨gb183,0,none⟩=some (.string (⟨#[]⟩:ByteArray)):=bzC BK183 0;have hcz13_1:w12.cell? ⟨gb183,1,none⟩=some (.slice none 0 0):=bzC BK183 1;have hcz13_2:w12.cell? ⟨gb183,2,none⟩=some (.slice none 0 0):=bzC BK183 2;have hcz13_3:w12.cell? ⟨gb183,3,none⟩=some (.slice none 0 0):=bzC BK183 3;have hcz13_4:w12.cell? ⟨gb183,4,none⟩=some (.slice none 0 0):=bzC BK183 4;have hcz13_5:w12.cell? ⟨gb183,5,none⟩=some (.slice none 0 0):=bzC BK183 5;have hcz13_6:w12.cell? ⟨gb183,6,none⟩=some (.slice none 0 0):=bzC BK183 6;have hcz13_7:w12.cell? ⟨gb183,7,none⟩=some (.slice none 0 0):=bzC BK183 7;have hcz13_8:w12.cell? ⟨gb183,8,none⟩=some (.slice none 0 0):=bzC BK183 8;have hcz13_9:w12.cell? ⟨gb183,9,none⟩=some (.slice none 0 0):=bzC BK183 9;have hcz13_10:w12.cell? ⟨gb183,10,none⟩=some (.slice none 0 0):=bzC BK183 10;have hfz13_0:=jj3 BK183.out 0;have hfz13_1:=jj3 BK183.out 1;have hfz13_2:=jj3 BK183.out 2;have hfz13_3:=jj3 BK183.out 3;have hfz13_4:=jj3 BK183.out 4;have hfz13_5:=jj3 BK183.out 5;have hfz13_6:=jj3 BK183.out 6;have hfz13_7:=jj3 BK183.out 7;have hfz13_8:=jj3 BK183.out 8;have hfz13_9:=jj3 BK183.out 9;have hfz13_10:=jj3 BK183.out 10)|((with_reducible refine gate_callee (f:=16) rfl ?_);refine goesL_ (some 28) rfl rfl Try.func16 (by kernel_rfl) rfl #[.slice A182_2 ((jkz l0 x19_2).f2).length c182_2,.int .i64 (wrap64 (a1+1))] rfl (by (try simp only [List.map_toArray,List.map_cons,List.map_nil]);first|done|rfl|(simp only [List.length_drop,List.length_take];rfl)) ?_;(with_reducible refine (ih k2 (by have:=HJ2.out;have:=HK2.out;omega) _ _ ((jkz l0 x19_2).f2) (wrap64 (a1+1)) t184 _ ?side1 ?side2 A9.out).mono ?_);(case side1=>exact Kd.jj2 HR182_2.out (by repeat (first|(with_reducible first|exact HB.out|apply jj6|apply jj4|apply jj5|refine jk5 ?_ GE183.out)|exact HB.out)));(case side2=>exact HC182_2.out);rintro e w14 ⟨rfl,hb⟩;refine ⟨_,rfl,?_⟩;have n0_:=mk0 (jj0 (g:=gb183) (o:=.cells #[.string ((jkz l0 x19_2).f0),.slice A182_1 ((jkz l0 x19_2).f1).length c182_1,.slice A182_2 ((jkz l0 x19_2).f2).length c182_2,.slice A182_3 ((jkz l0 x19_2).f3).length c182_3,.slice A182_4 ((jkz l0 x19_2).f4).length c182_4,.slice A182_5 ((jkz l0 x19_2).f5).length c182_5,.slice A182_6 ((jkz l0 x19_2).f6).length c182_6,.slice A182_7 ((jkz l0 x19_2).f7).length c182_7,.slice A182_8 ((jkz l0 x19_2).f8).length c182_8,.slice A182_9 ((jkz l0 x19_2).f9).length c182_9,.slice A182_10 ((jkz l0 x19_2).f10).length c182_10] 76 (0,0)) (by (with_reducible repeat (first|refine jjq ?_ _|refine jj8 ?_|refine jj9 ?_ _));(with_reducible repeat (first|refine jjq ?_ _|refine jj8 ?_|refine jj9 ?_ _));(with_reducible repeat (first|refine jjq ?_ _|refine jj8 ?_|refine jj9 ?_ _));(with_reducible repeat (first|refine jjq ?_ _|refine jj8 ?_|refine jj9 ?_ _));(with_reducible repeat (first|refine jjq ?_ _|refine jj8 ?_|refine jj9 ?_ _));(with_reducible repeat (first|refine jjq ?_ _|refine jj8 ?_|refine jj9 ?_ _));(with_reducible repeat (first|refine jjq ?_ _|refine jj8 ?_|refine jj9 ?_ _));(with_reducible repeat (first|refine jjq ?_ _|refine jj8 ?_|refine jj9 ?_ _));(with_reducible repeat (first|refine jjq ?_ _|refine jj8 ?_|refine jj9 ?_ _));(with_reducible repeat (first|refine jjq ?_ _|refine jj8 ?_|refine jj9 ?_ _));(with_reducible repeat (first|refine jjq ?_ _|refine jj8 ?_|refine jj9 ?_ _));(with_reducible repeat (first|refine jjq ?_ _|refine jj8 ?_|refine jj9 ?_ _));exact BK183.out) hb);have n1_:=mk0 (below_step (by repeat (first|(with_reducible first|exact HB.out|apply jj6|apply jj4|apply jj5|refine jk5 ?_ GE183.out)|exact HB.out)) hb);clear BK183;clear HB;have BK183:=n0_;have HB:=n1_;clear n0_ n1_;(try clear hb);(try clear hb2);(try clear hk);(try clear hi))|((with_reducible refine jk1 (t:=76) (p:=7) rfl ?_);refine Sw.jq1 rfl rfl rfl gb183 76 _ _ rfl rfl BK183.out (by kernel_rfl) rfl rfl ?_;intro wS183 hS_ hbS_ hkS_;have HBn_:=mk0 (hbS_ _ _ GE183.out HB.out);clear HB;clear BK183;have HB:=HBn_;have BK183:=mk0 hS_;have hkS183:=hkS_;clear HBn_ hS_ hbS_ hkS_;have hcw183_0:wS183.cell? ⟨gb183,0,none⟩=some (.string ((jkz l0 x19_2).f0)):=bzC BK183 0;have hfw183_0:=jj3 BK183.out 0;have hcw183_1:wS183.cell? ⟨gb183,1,none⟩=some (.slice A182_1 ((jkz l0 x19_2).f1).length c182_1):=bzC BK183 1;have hfw183_1:=jj3 BK183.out 1;have hcw183_2:wS183.cell? ⟨gb183,2,none⟩=some (.slice A182_2 ((jkz l0 x19_2).f2).length c182_2):=bzC BK183 2;have hfw183_2:=jj3 BK183.out 2;have hcw183_3:wS183.cell? ⟨gb183,3,none⟩=some (.slice A182_3 ((jkz l0 x19_2).f3).length c182_3):=bzC BK183 3;have hfw183_3:=jj3 BK183.out 3;have hcw183_4:wS183.cell? ⟨gb183,4,none⟩=some (.slice A182_4 ((jkz l0 x19_2).f4).length c182_4):=bzC BK183 4;have hfw183_4:=jj3 BK183.out 4;have hcw183_5:wS183.cell? ⟨gb183,5,none⟩=some (.slice A182_5 ((jkz l0 x19_2).f5).length c182_5):=bzC BK183 5;have hfw183_5:=jj3 BK183.out 5;have hcw183_6:wS183.cell? ⟨gb183,6,none⟩=some (.slice A182_6 ((jkz l0 x19_2).f6).length c182_6):=bzC BK183 6;have hfw183_6:=jj3 BK183.out 6;have hcw183_7:wS183.cell? ⟨gb183,7,none⟩=some (.slice A182_7 ((jkz l0 x19_2).f7).length c182_7):=bzC BK183 7;have hfw183_7:=jj3 BK183.out 7;have hcw183_8:wS183.cell? ⟨gb183,8,none⟩=some (.slice A182_8 ((jkz l0 x19_2).f8).length c182_8):=bzC BK183 8;have hfw183_8:=jj3 BK183.out 8;have hcw183_9:wS183.cell? ⟨gb183,9,none⟩=some (.slice A182_9 ((jkz l0 x19_2).f9).length c182_9):=bzC BK183 9;have hfw183_9:=jj3 BK183.out 9;have hcw183_10:wS183.cell? ⟨gb183,10,none⟩=some (.slice A182_10 ((jkz l0 x19_2).f10).length c182_10):=bzC BK183 10;have hfw183_10:=jj3 BK183.out 10))
                     go_ret
                     exact ⟨by first|rfl|(simp [jq0,jq] <;> rfl)|(simp only [← hji10];first|rfl|(simp [jq0,jq] <;> rfl))|(simp [*,jq0,jq] <;> rfl),by repeat (first|(with_reducible first|exact HB.out|apply jj6|apply jj4|apply jj5|refine jk5 ?_ GE183.out)|exact HB.out)⟩
                 · as_aux_lemma=>
                    rw [if_neg c11] at H
                    have c11b0:decide (64 < (ji10))=false:=decide_eq_false c11
                    clear c11
                    as_aux_lemma=>
                     have H':=mk0 H
                     clear H
                     have p182:0≤(x19_2:Int):=of_decide_eq_true (by first|(with_reducible assumption)|assumption)
                     have q182:x19_2 < (l0.length:Int):=of_decide_eq_true (by first|(with_reducible assumption)|assumption)
                     obtain ⟨ad182,A182_1,c182_1,A182_2,c182_2,A182_3,c182_3,A182_4,c182_4,A182_5,c182_5,A182_6,c182_6,A182_7,c182_7,A182_8,c182_8,A182_9,c182_9,A182_10,c182_10,e182,hx182_0,hx182_1,hx182_2,hx182_3,hx182_4,hx182_5,hx182_6,hx182_7,hx182_8,hx182_9,hx182_10,hl182_1,hi182_1,hl182_2,hi182_2,hl182_3,hi182_3,hl182_4,hi182_4,hl182_5,hi182_5,hl182_6,hi182_6,hl182_7,hi182_7,hl182_8,hi182_8,hl182_9,hi182_9,hl182_10,hi182_10⟩:=at_T76 HR0.out x19_2 p182 q182
                     cases e182
                     replace hx182_0:=(HB.out.cell (World.block_lt_of_cell? w _ hx182_0)).trans hx182_0
                     replace hx182_1:=(HB.out.cell (World.block_lt_of_cell? w _ hx182_1)).trans hx182_1
                     replace hx182_2:=(HB.out.cell (World.block_lt_of_cell? w _ hx182_2)).trans hx182_2
                     replace hx182_3:=(HB.out.cell (World.block_lt_of_cell? w _ hx182_3)).trans hx182_3
                     replace hx182_4:=(HB.out.cell (World.block_lt_of_cell? w _ hx182_4)).trans hx182_4
                     replace hx182_5:=(HB.out.cell (World.block_lt_of_cell? w _ hx182_5)).trans hx182_5
                     replace hx182_6:=(HB.out.cell (World.block_lt_of_cell? w _ hx182_6)).trans hx182_6
                     replace hx182_7:=(HB.out.cell (World.block_lt_of_cell? w _ hx182_7)).trans hx182_7
                     replace hx182_8:=(HB.out.cell (World.block_lt_of_cell? w _ hx182_8)).trans hx182_8
                     replace hx182_9:=(HB.out.cell (World.block_lt_of_cell? w _ hx182_9)).trans hx182_9
                     replace hx182_10:=(HB.out.cell (World.block_lt_of_cell? w _ hx182_10)).trans hx182_10
                     have HR182_1:=mk0 hi182_1
                     have HC182_1:=mk0 hl182_1
                     clear hi182_1 hl182_1
                     have HR182_2:=mk0 hi182_2
                     have HC182_2:=mk0 hl182_2
                     clear hi182_2 hl182_2
                     have HR182_3:=mk0 hi182_3
                     have HC182_3:=mk0 hl182_3
                     clear hi182_3 hl182_3
                     have HR182_4:=mk0 hi182_4
                     have HC182_4:=mk0 hl182_4
                     clear hi182_4 hl182_4
                     have HR182_5:=mk0 hi182_5
                     have HC182_5:=mk0 hl182_5
                     clear hi182_5 hl182_5
                     have HR182_6:=mk0 hi182_6
                     have HC182_6:=mk0 hl182_6
                     clear hi182_6 hl182_6
                     have HR182_7:=mk0 hi182_7
                     have HC182_7:=mk0 hl182_7
                     clear hi182_7 hl182_7
                     have HR182_8:=mk0 hi182_8
                     have HC182_8:=mk0 hl182_8
                     clear hi182_8 hl182_8
                     have HR182_9:=mk0 hi182_9
                     have HC182_9:=mk0 hl182_9
                     clear hi182_9 hl182_9
                     have HR182_10:=mk0 hi182_10
                     have HC182_10:=mk0 hl182_10
                     clear hi182_10 hl182_10
                     replace p182:=eq_true p182
                     replace q182:=eq_true q182
                     go_wp2_with (first|((with_reducible refine jk (N:=7) rfl ?_);refine bzX 7 #[.string (⟨#[]⟩:ByteArray),.slice none 0 0,.slice none 0 0,.slice none 0 0,.slice none 0 0,.slice none 0 0,.slice none 0 0,.slice none 0 0,.slice none 0 0,.slice none 0 0,.slice none 0 0] 76 ?_;intro gb183 hg w15 hbox hb;have n0_:=mk0 (below_step (by repeat (first|(with_reducible first|exact HB.out|apply jj6|apply jj4|apply jj5)|exact HB.out)) hb);have n1_:=mk0 (hbox);have n2_:=mk0 ((by rw [hg];exact (below_size (by repeat (first|(with_reducible first|exact HB.out|apply jj6|apply jj4|apply jj5)|exact HB.out))):w.heap.size≤gb183));have n3_:=mk0 ((by rw [hg];exact (below_size (by repeat (first|(with_reducible first|exact HB.out|apply jj6|apply jj4|apply jj5)|exact HB.out))):w.heap.size≤gb183));clear HB;have HB:=n0_;have BK183:=n1_;have GW183:=n2_;have GE183:=n3_;clear n0_ n1_ n2_ n3_;clear hb hbox hg;have hcz16_0:w15.cell? ⟨gb183,0,none⟩=some (.string (⟨#[]⟩:ByteArray)):=bzC BK183 0;have hcz16_1:w15.cell? ⟨gb183,1,none⟩=some (.slice none 0 0):=bzC BK183 1;have hcz16_2:w15.cell? ⟨gb183,2,none⟩=some (.slice none 0 0):=bzC BK183 2;have hcz16_3:w15.cell? ⟨gb183,3,none⟩=some (.slice none 0 0):=bzC BK183 3;have hcz16_4:w15.cell? ⟨gb183,4,none⟩=some (.slice none 0 0):=bzC BK183 4;have hcz16_5:w15.cell? ⟨gb183,5,none⟩=some (.slice none 0 0):=bzC BK183 5;have hcz16_6:w15.cell? ⟨gb183,6,none⟩=some (.slice none 0 0):=bzC BK183 6;have hcz16_7:w15.cell? ⟨gb183,7,none⟩=some (.slice none 0 0):=bzC BK183 7;have hcz16_8:w15.cell? ⟨gb183,8,none⟩=some (.slice none 0 0):=bzC BK183 8;have hcz16_9:w15.cell? ⟨gb183,9,none⟩=some (.slice none 0 0):=bzC BK183 9;have hcz16_10:w15.cell? ⟨gb183,10,none⟩=some (.slice none 0 0):=bzC BK183 10;have hfz16_0:=jj3 BK183.out 0;have hfz16_1:=jj3 BK183.out 1;have hfz16_2:=jj3 BK183.out 2;have hfz16_3:=jj3 BK183.out 3;have hfz16_4:=jj3 BK183.out 4;have hfz16_5:=jj3 BK183.out 5;have hfz16_6:=jj3 BK183.out 6;have hfz16_7:=jj3 BK183.out 7;have hfz16_8:=jj3 BK183.out 8;have hfz16_9:=jj3 BK183.out 9;have hfz16_10:=jj3 BK183.out 10)|((with_reducible refine gate_callee (f:=16) rfl ?_);refine goesL_ (some 28) rfl rfl Try.func16 (by kernel_rfl) rfl #[.slice A182_2 ((jkz l0 x19_2).f2).length c182_2,.int .i64 (wrap64 (a1+1))] rfl (by (try simp only [List.map_toArray,List.map_cons,List.map_nil]);first|done|rfl|(simp only [List.length_drop,List.length_take];rfl)) ?_;(with_reducible refine (ih k2 (by have:=HJ2.out;have:=HK2.out;omega) _ _ ((jkz l0 x19_2).f2) (wrap64 (a1+1)) t184 _ ?side1 ?side2 A9.out).mono ?_);(case side1=>exact Kd.jj2 HR182_2.out (by repeat (first|(with_reducible first|exact HB.out|apply jj6|apply jj4|apply jj5|refine jk5 ?_ GE183.out)|exact HB.out)));(case side2=>exact HC182_2.out);rintro e w17 ⟨rfl,hb⟩;refine ⟨_,rfl,?_⟩;have n0_:=mk0 (jj0 (g:=gb183) (o:=.cells #[.string ((jkz l0 x19_2).f0),.slice A182_1 ((jkz l0 x19_2).f1).length c182_1,.slice A182_2 ((jkz l0 x19_2).f2).length c182_2,.slice A182_3 ((jkz l0 x19_2).f3).length c182_3,.slice A182_4 ((jkz l0 x19_2).f4).length c182_4,.slice A182_5 ((jkz l0 x19_2).f5).length c182_5,.slice A182_6 ((jkz l0 x19_2).f6).length c182_6,.slice A182_7 ((jkz l0 x19_2).f7).length c182_7,.slice A182_8 ((jkz l0 x19_2).f8).length c182_8,.slice A182_9 ((jkz l0 x19_2).f9).length c182_9,.slice A182_10 ((jkz l0 x19_2).f10).length c182_10] 76 (0,0)) (by (with_reducible repeat (first|refine jjq ?_ _|refine jj8 ?_|refine jj9 ?_ _));(with_reducible repeat (first|refine jjq ?_ _|refine jj8 ?_|refine jj9 ?_ _));(with_reducible repeat (first|refine jjq ?_ _|refine jj8 ?_|refine jj9 ?_ _));(with_reducible repeat (first|refine jjq ?_ _|refine jj8 ?_|refine jj9 ?_ _));(with_reducible repeat (first|refine jjq ?_ _|refine jj8 ?_|refine jj9 ?_ _));(with_reducible repeat (first|refine jjq ?_ _|refine jj8 ?_|refine jj9 ?_ _));(with_reducible repeat (first|refine jjq ?_ _|refine jj8 ?_|refine jj9 ?_ _));(with_reducible repeat (first|refine jjq ?_ _|refine jj8 ?_|refine jj9 ?_ _));(with_reducible repeat (first|refine jjq ?_ _|refine jj8 ?_|refine jj9 ?_ _));(with_reducible repeat (first|refine jjq ?_ _|refine jj8 ?_|refine jj9 ?_ _));(with_reducible repeat (first|refine jjq ?_ _|refine jj8 ?_|refine jj9 ?_ _));(with_reducible repeat (first|refine jjq ?_ _|refine jj8 ?_|refine jj9 ?_ _));exact BK183.out) hb);have n1_:=mk0 (below_step (by repeat (first|(with_reducible first|exact HB.out|apply jj6|apply jj4|apply jj5|refine jk5 ?_ GE183.out)|exact HB.out)) hb);clear BK183;clear HB;have BK183:=n0_;have HB:=n1_;clear n0_ n1_;(try clear hb);(try clear hb2);(try clear hk);(try clear hi))|((with_reducible refine jk1 (t:=76) (p:=7) rfl ?_);refine Sw.jq1 rfl rfl rfl gb183 76 _ _ rfl rfl BK183.out (by kernel_rfl) rfl rfl ?_;intro wS183 hS_ hbS_ hkS_;have HBn_:=mk0 (hbS_ _ _ GE183.out HB.out);clear HB;clear BK183;have HB:=HBn_;have BK183:=mk0 hS_;have hkS183:=hkS_;clear HBn_ hS_ hbS_ hkS_;have hcw183_0:wS183.cell? ⟨gb183,0,none⟩=some (.string ((jkz l0 x19_2).f0)):=bzC BK183 0;have hfw183_0:=jj3 BK183.out 0;have hcw183_1:wS183.cell? ⟨gb183,1,none⟩=some (.slice A182_1 ((jkz l0 x19_2).f1).length c182_1):=bzC BK183 1;have hfw183_1:=jj3 BK183.out 1;have hcw183_2:wS183.cell? ⟨gb183,2,none⟩=some (.slice A182_2 ((jkz l0 x19_2).f2).length c182_2):=bzC BK183 2;have hfw183_2:=jj3 BK183.out 2;have hcw183_3:wS183.cell? ⟨gb183,3,none⟩=some (.slice A182_3 ((jkz l0 x19_2).f3).length c182_3):=bzC BK183 3;have hfw183_3:=jj3 BK183.out 3;have hcw183_4:wS183.cell? ⟨gb183,4,none⟩=some (.slice A182_4 ((jkz l0 x19_2).f4).length c182_4):=bzC BK183 4;have hfw183_4:=jj3 BK183.out 4;have hcw183_5:wS183.cell? ⟨gb183,5,none⟩=some (.slice A182_5 ((jkz l0 x19_2).f5).length c182_5):=bzC BK183 5;have hfw183_5:=jj3 BK183.out 5;have hcw183_6:wS183.cell? ⟨gb183,6,none⟩=some (.slice A182_6 ((jkz l0 x19_2).f6).length c182_6):=bzC BK183 6;have hfw183_6:=jj3 BK183.out 6;have hcw183_7:wS183.cell? ⟨gb183,7,none⟩=some (.slice A182_7 ((jkz l0 x19_2).f7).length c182_7):=bzC BK183 7;have hfw183_7:=jj3 BK183.out 7;have hcw183_8:wS183.cell? ⟨gb183,8,none⟩=some (.slice A182_8 ((jkz l0 x19_2).f8).length c182_8):=bzC BK183 8;have hfw183_8:=jj3 BK183.out 8;have hcw183_9:wS183.cell? ⟨gb183,9,none⟩=some (.slice A182_9 ((jkz l0 x19_2).f9).length c182_9):=bzC BK183 9;have hfw183_9:=jj3 BK183.out 9;have hcw183_10:wS183.cell? ⟨gb183,10,none⟩=some (.slice A182_10 ((jkz l0 x19_2).f10).length c182_10):=bzC BK183 10;have hfw183_10:=jj3 BK183.out 10))
                     go_roundg k2
                     case measure=>have:=HJ2.out;have:=HK2.out;omega
                     case rel=>exact ⟨(ji10),(wrap64 (x19_2+1)),(by first|rfl|(simp;done)|(simp only [← hji10] <;> (first|rfl|simp))|(simp [*];done)),(by first|rfl|(simp;done)|(simp [*];done)),H',⟨by have:=HJ2.out;have:=HK2.out;omega⟩,⟨by repeat (first|(with_reducible first|exact HB.out|apply jj6|apply jj4|apply jj5|refine jk5 ?_ GE183.out)|exact HB.out)⟩⟩
              · rw [if_neg c8] at H
                exact absurd H (by simp)
           · rw [if_neg c7] at H
             exact absurd H (by simp)
        · as_aux_lemma=>
           rw [if_neg c6] at H
           have c6b0:decide (x19_2 < (l0.length:Int))=false:=decide_eq_false c6
           clear c6
           as_aux_lemma=>
            obtain rfl:=Option.some.inj H
            go_wp2
            go_ret
            exact ⟨by first|rfl|(simp [jq0,jq] <;> rfl)|(simp [*,jq0,jq] <;> rfl),by repeat (first|(with_reducible first|exact HB.out|apply jj6|apply jj4|apply jj5)|exact HB.out)⟩
def glossaryref11_Deep.f (k:Nat) (a0_0:ByteArray) (a0_1:ByteArray) (l0_2:List ByteArray) (l0_3:List Int) (l0_4:List (S76)) (l0_5:List (S82)) (l0_6:List (S51)) (l0_7:List (S88)) (a0_8:ByteArray) (l0_9:List Int) (l0_10:List Int):Option (Int):=(glossaryref11_deep.f k l0_4 0).bind fun t186=>(if t186≤64 then (some t186) else (some 100))
theorem glossaryref11_Deep.calls (k:Nat) (a0_0:ByteArray) (a0_1:ByteArray) (A0_2:Option Addr) (c0_2:Nat) (l0_2:List ByteArray) (A0_3:Option Addr) (c0_3:Nat) (l0_3:List Int) (A0_4:Option Addr) (c0_4:Nat) (l0_4:List (S76)) (A0_5:Option Addr) (c0_5:Nat) (l0_5:List (S82)) (A0_6:Option Addr) (c0_6:Nat) (l0_6:List (S51)) (A0_7:Option Addr) (c0_7:Nat) (l0_7:List (S88)) (a0_8:ByteArray) (A0_9:Option Addr) (c0_9:Nat) (l0_9:List Int) (A0_10:Option Addr) (c0_10:Nat) (l0_10:List Int) (r:Int) (w:World) (hr0_2:Kd.C Kd.string w A0_2 l0_2.length l0_2) (hc0_2:l0_2.length≤c0_2) (hr0_3:Kd.C (Kd.int .i64) w A0_3 l0_3.length l0_3) (hc0_3:l0_3.length≤c0_3) (hr0_4:Kd.C k76 w A0_4 l0_4.length l0_4) (hc0_4:l0_4.length≤c0_4) (hr0_5:Kd.C k82 w A0_5 l0_5.length l0_5) (hc0_5:l0_5.length≤c0_5) (hr0_6:Kd.C k51 w A0_6 l0_6.length l0_6) (hc0_6:l0_6.length≤c0_6) (hr0_7:Kd.C k88 w A0_7 l0_7.length l0_7) (hc0_7:l0_7.length≤c0_7) (hr0_9:Kd.C (Kd.int .u8) w A0_9 l0_9.length l0_9) (hc0_9:l0_9.length≤c0_9) (hr0_10:Kd.C (Kd.int .u8) w A0_10 l0_10.length l0_10) (hc0_10:l0_10.length≤c0_10) (h:glossaryref11_Deep.f k a0_0 a0_1 l0_2 l0_3 l0_4 l0_5 l0_6 l0_7 a0_8 l0_9 l0_10=some r) :
 Calls Try.prog 8 #[.agg #[.string a0_0,.string a0_1,.slice A0_2 l0_2.length c0_2,.slice A0_3 l0_3.length c0_3,.slice A0_4 l0_4.length c0_4,.slice A0_5 l0_5.length c0_5,.slice A0_6 l0_6.length c0_6,.slice A0_7 l0_7.length c0_7,.string a0_8,.slice A0_9 l0_9.length c0_9,.slice A0_10 l0_10.length c0_10]] w fun e w'=>e = .returned (.int .i64 r)∧Below w.heap.size w w':=by
 have hu30:=Try.underlying30
 have HR0_2:=mk0 hr0_2
 have HC0_2:=mk0 hc0_2
 clear hr0_2 hc0_2
 have HR0_3:=mk0 hr0_3
 have HC0_3:=mk0 hc0_3
 clear hr0_3 hc0_3
 have HR0_4:=mk0 hr0_4
 have HC0_4:=mk0 hc0_4
 clear hr0_4 hc0_4
 have HR0_5:=mk0 hr0_5
 have HC0_5:=mk0 hc0_5
 clear hr0_5 hc0_5
 have HR0_6:=mk0 hr0_6
 have HC0_6:=mk0 hc0_6
 clear hr0_6 hc0_6
 have HR0_7:=mk0 hr0_7
 have HC0_7:=mk0 hc0_7
 clear hr0_7 hc0_7
 have HR0_9:=mk0 hr0_9
 have HC0_9:=mk0 hc0_9
 clear hr0_9 hc0_9
 have HR0_10:=mk0 hr0_10
 have HC0_10:=mk0 hc0_10
 clear hr0_10 hc0_10
 have HB:=mk0 (Below.refl w.heap.size w)
 have H:((glossaryref11_deep.f k l0_4 0).bind fun t186=>(if t186≤64 then (some t186) else (some 100)))=some r:=h
 clear h
 replace H:=Option.bind_eq_some_iff.mp H
 obtain ⟨t186,A20,H⟩:=H
 replace H:(if t186≤64 then (some t186) else (some 100))=some r:=H
 have A2:=mk0 A20
 clear A20
 by_cases c3:t186≤64
 · as_aux_lemma=>
    rw [if_pos c3] at H
    have c3b0:decide (t186≤64)=true:=decide_eq_true c3
    clear c3
    as_aux_lemma=>
     obtain rfl:=Option.some.inj H
     go_enter Try.func8,Try.ntmps8
     go_wp2_with (first|((with_reducible refine jk (N:=1) rfl ?_);refine bzX 1 #[.string a0_0,.string a0_1,.slice A0_2 l0_2.length c0_2,.slice A0_3 l0_3.length c0_3,.slice A0_4 l0_4.length c0_4,.slice A0_5 l0_5.length c0_5,.slice A0_6 l0_6.length c0_6,.slice A0_7 l0_7.length c0_7,.string a0_8,.slice A0_9 l0_9.length c0_9,.slice A0_10 l0_10.length c0_10] 30 ?_;intro gb185 hg w4 hbox hb;have n0_:=mk0 (below_step (by repeat (first|(with_reducible first|exact HB.out|apply jj6|apply jj4|apply jj5)|exact HB.out)) hb);have n1_:=mk0 (hbox);have n2_:=mk0 ((by rw [hg];exact (below_size (by repeat (first|(with_reducible first|exact HB.out|apply jj6|apply jj4|apply jj5)|exact HB.out))):w.heap.size≤gb185));have n3_:=mk0 ((by rw [hg];exact (below_size (by repeat (first|(with_reducible first|exact HB.out|apply jj6|apply jj4|apply jj5)|exact HB.out))):w.heap.size≤gb185));clear HB;have HB:=n0_;have BK185:=n1_;have GW185:=n2_;have GE185:=n3_;clear n0_ n1_ n2_ n3_;clear hb hbox hg;have hcz5_0:w4.cell? ⟨gb185,0,none⟩=some (.string a0_0):=bzC BK185 0;have hcz5_1:w4.cell? ⟨gb185,1,none⟩=some (.string a0_1):=bzC BK185 1;have hcz5_2:w4.cell? ⟨gb185,2,none⟩=some (.slice A0_2 l0_2.length c0_2):=bzC BK185 2;have hcz5_3:w4.cell? ⟨gb185,3,none⟩=some (.slice A0_3 l0_3.length c0_3):=bzC BK185 3;have hcz5_4:w4.cell? ⟨gb185,4,none⟩=some (.slice A0_4 l0_4.length c0_4):=bzC BK185 4;have hcz5_5:w4.cell? ⟨gb185,5,none⟩=some (.slice A0_5 l0_5.length c0_5):=bzC BK185 5;have hcz5_6:w4.cell? ⟨gb185,6,none⟩=some (.slice A0_6 l0_6.length c0_6):=bzC BK185 6;have hcz5_7:w4.cell? ⟨gb185,7,none⟩=some (.slice A0_7 l0_7.length c0_7):=bzC BK185 7;have hcz5_8:w4.cell? ⟨gb185,8,none⟩=some (.string a0_8):=bzC BK185 8;have hcz5_9:w4.cell? ⟨gb185,9,none⟩=some (.slice A0_9 l0_9.length c0_9):=bzC BK185 9;have hcz5_10:w4.cell? ⟨gb185,10,none⟩=some (.slice A0_10 l0_10.length c0_10):=bzC BK185 10;have hfz5_0:=jj3 BK185.out 0;have hfz5_1:=jj3 BK185.out 1;have hfz5_2:=jj3 BK185.out 2;have hfz5_3:=jj3 BK185.out 3;have hfz5_4:=jj3 BK185.out 4;have hfz5_5:=jj3 BK185.out 5;have hfz5_6:=jj3 BK185.out 6;have hfz5_7:=jj3 BK185.out 7;have hfz5_8:=jj3 BK185.out 8;have hfz5_9:=jj3 BK185.out 9;have hfz5_10:=jj3 BK185.out 10)|((with_reducible refine gate_callee (f:=16) rfl ?_);refine goesL_ (some 6) rfl rfl Try.func16 (by kernel_rfl) rfl #[.slice A0_4 l0_4.length c0_4,.int .i64 0] rfl (by (try simp only [List.map_toArray,List.map_cons,List.map_nil]);first|done|rfl|(simp only [List.length_drop,List.length_take];rfl)) ?_;(with_reducible refine (glossaryref11_deep.calls k _ _ l0_4 0 t186 _ ?side1 ?side2 A2.out).mono ?_);(case side1=>repeat (first|exact (Kd.jj2 HR0_4.out HB.out)|(with_reducible refine Kd.C_alloc ?_ _)|(with_reducible refine Kd.C_drewN ?_ _)|(with_reducible refine Kd.C_drew ?_)));(case side2=>exact HC0_4.out);rintro e w6 ⟨rfl,hb⟩;refine ⟨_,rfl,?_⟩;have n0_:=mk0 (jj0 (g:=gb185) (o:=.cells #[.string a0_0,.string a0_1,.slice A0_2 l0_2.length c0_2,.slice A0_3 l0_3.length c0_3,.slice A0_4 l0_4.length c0_4,.slice A0_5 l0_5.length c0_5,.slice A0_6 l0_6.length c0_6,.slice A0_7 l0_7.length c0_7,.string a0_8,.slice A0_9 l0_9.length c0_9,.slice A0_10 l0_10.length c0_10] 30 (0,0)) (by (with_reducible repeat (first|refine jjq ?_ _|refine jj8 ?_|refine jj9 ?_ _));exact BK185.out) hb);have n1_:=mk0 (below_step (by repeat (first|(with_reducible first|exact HB.out|apply jj6|apply jj4|apply jj5|refine jk5 ?_ GE185.out)|exact HB.out)) hb);clear BK185;clear HB;have BK185:=n0_;have HB:=n1_;clear n0_ n1_;(try clear hb);(try clear hb2);(try clear hk);(try clear hi)))
     go_ret
     exact ⟨by first|rfl|(simp [jq0,jq] <;> rfl)|(simp [*,jq0,jq] <;> rfl),by repeat (first|(with_reducible first|exact HB.out|apply jj6|apply jj4|apply jj5|refine jk5 ?_ GE185.out)|exact HB.out)⟩
 · as_aux_lemma=>
    rw [if_neg c3] at H
    have c3b0:decide (t186≤64)=false:=decide_eq_false c3
    clear c3
    as_aux_lemma=>
     obtain rfl:=Option.some.inj H
     go_enter Try.func8,Try.ntmps8
     go_wp2_with (first|((with_reducible refine jk (N:=1) rfl ?_);refine bzX 1 #[.string a0_0,.string a0_1,.slice A0_2 l0_2.length c0_2,.slice A0_3 l0_3.length c0_3,.slice A0_4 l0_4.length c0_4,.slice A0_5 l0_5.length c0_5,.slice A0_6 l0_6.length c0_6,.slice A0_7 l0_7.length c0_7,.string a0_8,.slice A0_9 l0_9.length c0_9,.slice A0_10 l0_10.length c0_10] 30 ?_;intro gb185 hg w7 hbox hb;have n0_:=mk0 (below_step (by repeat (first|(with_reducible first|exact HB.out|apply jj6|apply jj4|apply jj5)|exact HB.out)) hb);have n1_:=mk0 (hbox);have n2_:=mk0 ((by rw [hg];exact (below_size (by repeat (first|(with_reducible first|exact HB.out|apply jj6|apply jj4|apply jj5)|exact HB.out))):w.heap.size≤gb185));have n3_:=mk0 ((by rw [hg];exact (below_size (by repeat (first|(with_reducible first|exact HB.out|apply jj6|apply jj4|apply jj5)|exact HB.out))):w.heap.size≤gb185));clear HB;have HB:=n0_;have BK185:=n1_;have GW185:=n2_;have GE185:=n3_;clear n0_ n1_ n2_ n3_;clear hb hbox hg;have hcz8_0:w7.cell? ⟨gb185,0,none⟩=some (.string a0_0):=bzC BK185 0;have hcz8_1:w7.cell? ⟨gb185,1,none⟩=some (.string a0_1):=bzC BK185 1;have hcz8_2:w7.cell? ⟨gb185,2,none⟩=some (.slice A0_2 l0_2.length c0_2):=bzC BK185 2;have hcz8_3:w7.cell? ⟨gb185,3,none⟩=some (.slice A0_3 l0_3.length c0_3):=bzC BK185 3;have hcz8_4:w7.cell? ⟨gb185,4,none⟩=some (.slice A0_4 l0_4.length c0_4):=bzC BK185 4;have hcz8_5:w7.cell? ⟨gb185,5,none⟩=some (.slice A0_5 l0_5.length c0_5):=bzC BK185 5;have hcz8_6:w7.cell? ⟨gb185,6,none⟩=some (.slice A0_6 l0_6.length c0_6):=bzC BK185 6;have hcz8_7:w7.cell? ⟨gb185,7,none⟩=some (.slice A0_7 l0_7.length c0_7):=bzC BK185 7;have hcz8_8:w7.cell? ⟨gb185,8,none⟩=some (.string a0_8):=bzC BK185 8;have hcz8_9:w7.cell? ⟨gb185,9,none⟩=some (.slice A0_9 l0_9.length c0_9):=bzC BK185 9;have hcz8_10:w7.cell? ⟨gb185,10,none⟩=some (.slice A0_10 l0_10.length c0_10):=bzC BK185 10;have hfz8_0:=jj3 BK185.out 0;have hfz8_1:=jj3 BK185.out 1;have hfz8_2:=jj3 BK185.out 2;have hfz8_3:=jj3 BK185.out 3;have hfz8_4:=jj3 BK185.out 4;have hfz8_5:=jj3 BK185.out 5;have hfz8_6:=jj3 BK185.out 6;have hfz8_7:=jj3 BK185.out 7;have hfz8_8:=jj3 BK185.out 8;have hfz8_9:=jj3 BK185.out 9;have hfz8_10:=jj3 BK185.out 10)|((with_reducible refine gate_callee (f:=16) rfl ?_);refine goesL_ (some 6) rfl rfl Try.func16 (by kernel_rfl) rfl #[.slice A0_4 l0_4.length c0_4,.int .i64 0] rfl (by (try simp only [List.map_toArray,List.map_cons,List.map_nil]);first|done|rfl|(simp only [List.length_drop,List.length_take];rfl)) ?_;(with_reducible refine (glossaryref11_deep.calls k _ _ l0_4 0 t186 _ ?side1 ?side2 A2.out).mono ?_);(case side1=>repeat (first|exact (Kd.jj2 HR0_4.out HB.out)|(with_reducible refine Kd.C_alloc ?_ _)|(with_reducible refine Kd.C_drewN ?_ _)|(with_reducible refine Kd.C_drew ?_)));(case side2=>exact HC0_4.out);rintro e w9 ⟨rfl,hb⟩;refine ⟨_,rfl,?_⟩;have n0_:=mk0 (jj0 (g:=gb185) (o:=.cells #[.string a0_0,.string a0_1,.slice A0_2 l0_2.length c0_2,.slice A0_3 l0_3.length c0_3,.slice A0_4 l0_4.length c0_4,.slice A0_5 l0_5.length c0_5,.slice A0_6 l0_6.length c0_6,.slice A0_7 l0_7.length c0_7,.string a0_8,.slice A0_9 l0_9.length c0_9,.slice A0_10 l0_10.length c0_10] 30 (0,0)) (by (with_reducible repeat (first|refine jjq ?_ _|refine jj8 ?_|refine jj9 ?_ _));exact BK185.out) hb);have n1_:=mk0 (below_step (by repeat (first|(with_reducible first|exact HB.out|apply jj6|apply jj4|apply jj5|refine jk5 ?_ GE185.out)|exact HB.out)) hb);clear BK185;clear HB;have BK185:=n0_;have HB:=n1_;clear n0_ n1_;(try clear hb);(try clear hb2);(try clear hk);(try clear hi)))
     go_ret
     exact ⟨by first|rfl|(simp [jq0,jq] <;> rfl)|(simp [*,jq0,jq] <;> rfl),by repeat (first|(with_reducible first|exact HB.out|apply jj6|apply jj4|apply jj5|refine jk5 ?_ GE185.out)|exact HB.out)⟩
end Go.Proofs.Ytheoafenehckbaa.Rdp
