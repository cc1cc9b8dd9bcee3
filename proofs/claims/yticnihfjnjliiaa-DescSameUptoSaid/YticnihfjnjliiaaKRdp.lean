/- Written by gprint.py of this session: the kit's printer, with functions that are proved by hand put in. -/
import Derived.Test.YticnihfjnjliiaaKGDescGrowsx1
namespace Go.Proofs.Yticnihfjnjliiaa.Rdp
open Go.Proofs.Yticnihfjnjliiaa.GDescGrows
open Go.Proofs.Yticnihfjnjliiaa.Pt
open Go.RowKit Go.Proofs.YticnihfjnjliiaaW.PrintWords Go.Proofs.YticnihfjnjliiaaW.PrintLast Go.Proofs.YticnihfjnjliiaaW.PrintMore
attribute [local go_sem] max2_int min2_int max_two min_two max_three min_three max_four min_four
set_option linter.unusedVariables false
set_option linter.unusedSimpArgs false
mutual
def glossaryref11_deep.j0 : Nat → List (S37) → Int → Int → Option (Int)
 | 0, _, _, _ => none
 | k + 1, x0, x1, x5 => if x5 > 64 then (some x5) else (glossaryref11_deep.l0 k x1 x5 x0 (x0.length : Int) 0)
def glossaryref11_deep.l0 : Nat → Int → Int → List (S37) → Int → Int → Option (Int)
 | 0, _, _, _, _, _ => none
 | k + 1, x1, x5, x17, x18, x19 => if x19 < x18 then (if 0 ≤ x19 then (if x19 < (x17.length : Int) then ((glossaryref11_deep.f k ((rd_T37 x17 x19).f2) (wrap64 (x1 + 1))).bind fun t155 => (if (mx x5 t155) > 64 then (some (mx x5 t155)) else (glossaryref11_deep.l0 k x1 (mx x5 t155) x17 x18 (wrap64 (x19 + 1))))) else (none)) else (none)) else (some x5)
def glossaryref11_deep.f : Nat → List (S37) → Int → Option (Int)
 | 0, _, _ => none
 | k + 1, l0, a1 => if (l0.length : Int) > 0 then (glossaryref11_deep.j0 k l0 a1 (wrap64 (a1 + 1))) else (glossaryref11_deep.j0 k l0 a1 a1)
end
set_option maxHeartbeats 8000000 in
set_option maxRecDepth 100000 in
theorem glossaryref11_deep.calls (k : Nat) : ∀ (A0 : Option Addr) (c0 : Nat) (l0 : List (S37)) (a1 : Int) (r : Int) (w : World) (hr0 : Kd.C k37 w A0 l0.length l0) (hc0 : l0.length ≤ c0) (h : glossaryref11_deep.f k l0 a1 = some r),
 Calls Try.prog 17 #[.slice A0 l0.length c0, .int .i64 a1] w fun e w' => e = .returned (.int .i64 r) ∧ Below w.heap.size w w' := by
 induction k using Nat.strongRecOn with
 | _ k ih =>
 intro A0 c0 l0 a1 r w hr0 hc0 h
 cases k with
 | zero => exact absurd h (by simp [glossaryref11_deep.f])
 | succ k =>
 simp only [glossaryref11_deep.f] at h
 have hu37 := Try.underlying37
 have HR0 := mk0 hr0
 have HC0 := mk0 hc0
 clear hr0 hc0
 have HB := mk0 (Below.refl w.heap.size w)
 have H : (if (l0.length : Int) > 0 then (glossaryref11_deep.j0 k l0 a1 (wrap64 (a1 + 1))) else (glossaryref11_deep.j0 k l0 a1 a1)) = some r := h
 clear h
 have HC3 := mk0 H
 clear H
 go_enter Try.func17, Try.ntmps17
 go_upto_if 11 with (fail)
 go_cut [5] (fun v5 wc => ∃ (kq : Nat) (x5_2 : Int), v5 = .int .i64 x5_2 ∧ Aside0 (glossaryref11_deep.j0 kq l0 a1 x5_2 = some r) ∧ Aside0 (kq ≤ k) ∧ Aside0 (Below w.heap.size w wc))
 case first =>
  have H := HC3.out
  clear HC3
  by_cases c4 : (l0.length : Int) > 0
  · as_aux_lemma =>
     rw [if_pos c4] at H
     have c4b0 : decide (0 < (l0.length : Int)) = true := decide_eq_true c4
     have c4b1 : decide (0 < l0.length) = true := decide_eq_true (by omega)
     clear c4
     (first | rw [c4b0] | (simp only [i64_w, i32_w]; rw [c4b0]) | rw [c4b1] | skip)
     as_aux_lemma =>
      have H' := mk0 H
      clear H
      go_wp2
      go_meet
      case rel => exact ⟨_, (wrap64 (a1 + 1)), (by first | rfl | (simp; done) | (simp [*]; done)), H', ⟨by first | omega | exact Nat.le_refl _⟩, ⟨by repeat (first | (with_reducible first | exact HB.out | apply below_alloc | apply pw_below_drewN | apply below_drew1) | exact HB.out)⟩⟩
  · as_aux_lemma =>
     rw [if_neg c4] at H
     have c4b0 : decide (0 < (l0.length : Int)) = false := decide_eq_false c4
     have c4b1 : decide (0 < l0.length) = false := decide_eq_false (by omega)
     clear c4
     (first | rw [c4b0] | (simp only [i64_w, i32_w]; rw [c4b0]) | rw [c4b1] | skip)
     as_aux_lemma =>
      have H' := mk0 H
      clear H
      go_wp2
      go_meet
      case rel => exact ⟨_, (a1), (by first | rfl | (simp; done) | (simp [*]; done)), H', ⟨by first | omega | exact Nat.le_refl _⟩, ⟨by repeat (first | (with_reducible first | exact HB.out | apply below_alloc | apply pw_below_drewN | apply below_drew1) | exact HB.out)⟩⟩
 case rest =>
  clear HC3
  try clear c1
  try clear p2
  try clear c4
  try clear c4b0
  try clear c4b1
  obtain ⟨kq, x5_2, rfl, HA, HJ2, HB⟩ := hcut
  cases kq with
  | zero => exact absurd HA.out (by simp [glossaryref11_deep.j0])
  | succ kj2 =>
   have H := HA.out
   clear HA
   simp only [glossaryref11_deep.j0] at H
   by_cases c5 : x5_2 > 64
   · as_aux_lemma =>
      rw [if_pos c5] at H
      have c5b0 : decide (64 < x5_2) = true := decide_eq_true c5
      clear c5
      as_aux_lemma =>
       obtain rfl := Option.some.inj H
       go_wp2
       go_ret
       exact ⟨by first | rfl | (simp [errW_none, errW_some] <;> rfl) | (simp [*, errW_none, errW_some] <;> rfl), by repeat (first | (with_reducible first | exact HB.out | apply below_alloc | apply pw_below_drewN | apply below_drew1) | exact HB.out)⟩
   · as_aux_lemma =>
      rw [if_neg c5] at H
      have c5b0 : decide (64 < x5_2) = false := decide_eq_false c5
      clear c5
      have H' := mk0 H
      clear H
      go_wp2
      go_loopg [5, 19] kj2 (fun kq v5 v19 w' => ∃ (x5_2 : Int) (x19_2 : Int), v5 = .int .i64 x5_2 ∧ v19 = .int .i64 x19_2 ∧ Aside0 (glossaryref11_deep.l0 kq a1 x5_2 l0 (l0.length : Int) x19_2 = some r) ∧ Aside0 (kq ≤ kj2) ∧ Aside0 (Below w.heap.size w w'))
      case atStart => exact ⟨(x5_2), (0), (by first | rfl | (simp; done) | (simp [*]; done)), (by first | rfl | (simp; done) | (simp [*]; done)), H', ⟨Nat.le_refl _⟩, ⟨by repeat (first | (with_reducible first | exact HB.out | apply below_alloc | apply pw_below_drewN | apply below_drew1) | exact HB.out)⟩⟩
      case round =>
       clear H'
       try clear c1
       try clear p2
       try clear c4
       try clear c4b0
       try clear c4b1
       try clear c5
       try clear c5b0
       try clear p2
       obtain ⟨x5_2, x19_2, rfl, rfl, HA, HK2, HB⟩ := hrel
       cases gk with
       | zero => exact absurd HA.out (by simp [glossaryref11_deep.l0])
       | succ k2 =>
        have H := HA.out
        clear HA
        simp only [glossaryref11_deep.l0] at H
        by_cases c6 : x19_2 < (l0.length : Int)
        · as_aux_lemma =>
           rw [if_pos c6] at H
           have c6b0 : decide (x19_2 < (l0.length : Int)) = true := decide_eq_true c6
           clear c6
           by_cases c7 : 0 ≤ x19_2
           · as_aux_lemma =>
              rw [if_pos c7] at H
              have c7b0 : decide (0 ≤ x19_2) = true := decide_eq_true c7
              clear c7
              by_cases c8 : x19_2 < (l0.length : Int)
              · as_aux_lemma =>
                 rw [if_pos c8] at H
                 have c8b0 : decide (x19_2 < (l0.length : Int)) = true := decide_eq_true c8
                 clear c8
                 replace H := Option.bind_eq_some_iff.mp H
                 obtain ⟨t155, A90, H⟩ := H
                 replace H : (if (mx x5_2 t155) > 64 then (some (mx x5_2 t155)) else (glossaryref11_deep.l0 k2 a1 (mx x5_2 t155) l0 (l0.length : Int) (wrap64 (x19_2 + 1)))) = some r := H
                 have A9 := mk0 A90
                 clear A90
                 obtain ⟨ji10, hji10⟩ : ∃ j_ : Int, (mx x5_2 t155) = j_ := ⟨_, rfl⟩
                 replace H : (if (ji10) > 64 then (some ji10) else (glossaryref11_deep.l0 k2 a1 ji10 l0 (l0.length : Int) (wrap64 (x19_2 + 1)))) = some r := by first | (rw [hji10] at H; exact H) | (simp only [hji10] at H ⊢; exact H)
                 (try rw [hji10] at A9)
                 have hji10_ : (if x5_2 < t155 then t155 else x5_2) = ji10 := hji10
                 by_cases c11 : (ji10) > 64
                 · as_aux_lemma =>
                    rw [if_pos c11] at H
                    have c11b0 : decide (64 < (ji10)) = true := decide_eq_true c11
                    clear c11
                    as_aux_lemma =>
                     obtain rfl := Option.some.inj H
                     have p153 : 0 ≤ (x19_2 : Int) := of_decide_eq_true (by first | (with_reducible assumption) | assumption)
                     have q153 : x19_2 < (l0.length : Int) := of_decide_eq_true (by first | (with_reducible assumption) | assumption)
                     obtain ⟨ad153, A153_1, c153_1, A153_2, c153_2, A153_3, c153_3, A153_4, c153_4, A153_5, c153_5, A153_6, c153_6, A153_7, c153_7, A153_8, c153_8, A153_9, c153_9, A153_10, c153_10, e153, hx153_0, hx153_1, hx153_2, hx153_3, hx153_4, hx153_5, hx153_6, hx153_7, hx153_8, hx153_9, hx153_10, hl153_1, hi153_1, hl153_2, hi153_2, hl153_3, hi153_3, hl153_4, hi153_4, hl153_5, hi153_5, hl153_6, hi153_6, hl153_7, hi153_7, hl153_8, hi153_8, hl153_9, hi153_9, hl153_10, hi153_10⟩ := at_T37 HR0.out x19_2 p153 q153
                     cases e153
                     replace hx153_0 := (HB.out.cell (World.block_lt_of_cell? w _ hx153_0)).trans hx153_0
                     replace hx153_1 := (HB.out.cell (World.block_lt_of_cell? w _ hx153_1)).trans hx153_1
                     replace hx153_2 := (HB.out.cell (World.block_lt_of_cell? w _ hx153_2)).trans hx153_2
                     replace hx153_3 := (HB.out.cell (World.block_lt_of_cell? w _ hx153_3)).trans hx153_3
                     replace hx153_4 := (HB.out.cell (World.block_lt_of_cell? w _ hx153_4)).trans hx153_4
                     replace hx153_5 := (HB.out.cell (World.block_lt_of_cell? w _ hx153_5)).trans hx153_5
                     replace hx153_6 := (HB.out.cell (World.block_lt_of_cell? w _ hx153_6)).trans hx153_6
                     replace hx153_7 := (HB.out.cell (World.block_lt_of_cell? w _ hx153_7)).trans hx153_7
                     replace hx153_8 := (HB.out.cell (World.block_lt_of_cell? w _ hx153_8)).trans hx153_8
                     replace hx153_9 := (HB.out.cell (World.block_lt_of_cell? w _ hx153_9)).trans hx153_9
                     replace hx153_10 := (HB.out.cell (World.block_lt_of_cell? w _ hx153_10)).trans hx153_10
                     have HR153_1 := mk0 hi153_1
                     have HC153_1 := mk0 hl153_1
                     clear hi153_1 hl153_1
                     have HR153_2 := mk0 hi153_2
                     have HC153_2 := mk0 hl153_2
                     clear hi153_2 hl153_2
                     have HR153_3 := mk0 hi153_3
                     have HC153_3 := mk0 hl153_3
                     clear hi153_3 hl153_3
                     have HR153_4 := mk0 hi153_4
                     have HC153_4 := mk0 hl153_4
                     clear hi153_4 hl153_4
                     have HR153_5 := mk0 hi153_5
                     have HC153_5 := mk0 hl153_5
                     clear hi153_5 hl153_5
                     have HR153_6 := mk0 hi153_6
                     have HC153_6 := mk0 hl153_6
                     clear hi153_6 hl153_6
                     have HR153_7 := mk0 hi153_7
                     have HC153_7 := mk0 hl153_7
                     clear hi153_7 hl153_7
                     have HR153_8 := mk0 hi153_8
                     have HC153_8 := mk0 hl153_8
                     clear hi153_8 hl153_8
                     have HR153_9 := mk0 hi153_9
                     have HC153_9 := mk0 hl153_9
                     clear hi153_9 hl153_9
                     have HR153_10 := mk0 hi153_10
                     have HC153_10 := mk0 hl153_10
                     clear hi153_10 hl153_10
                     replace p153 := eq_true p153
                     replace q153 := eq_true q153
                     go_wp2_with (first | ((with_reducible refine gate_dst (N := 7) rfl ?_); refine box_event ?hg (N := 7) ?hd (cs := #[.string (⟨#[]⟩ : ByteArray), .slice none 0 0, .slice none 0 0, .slice none 0 0, .slice none 0 0, .slice none 0 0, .slice none 0 0, .slice none 0 0, .slice none 0 0, .slice none 0 0, .slice none 0 0]) (t := 37) ?hr ?_; (case hd => rfl); (case hg => rfl); (case hr => first | (go_simp; done) | (go_simp; rfl)); intro gb154 hg w12 hbox hb; have n0_ := mk0 (below_step (by repeat (first | (with_reducible first | exact HB.out | apply below_alloc | apply pw_below_drewN | apply below_drew1) | exact HB.out)) hb); have n1_ := mk0 (hbox); have n2_ := mk0 ((by rw [hg]; exact (below_size (by repeat (first | (with_reducible first | exact HB.out | apply below_alloc | apply pw_below_drewN | apply below_drew1) | exact HB.out))) : w.heap.size ≤ gb154)); have n3_ := mk0 ((by rw [hg]; exact (below_size (by repeat (first | (with_reducible first | exact HB.out | apply below_alloc | apply pw_below_drewN | apply below_drew1) | exact HB.out))) : w.heap.size ≤ gb154)); clear HB; have HB := n0_; have BK154 := n1_; have GW154 := n2_; have GE154 := n3_; clear n0_ n1_ n2_ n3_; clear hb hbox hg; have hcz13_0 : w12.cell? ⟨gb154, 0, none⟩ = some (.string (⟨#[]⟩ : ByteArray)) := (blk_cell BK154.out 0).trans rfl; have hcz13_1 : w12.cell? ⟨gb154, 1, none⟩ = some (.slice none 0 0) := (blk_cell BK154.out 1).trans rfl; have hcz13_2 : w12.cell? ⟨gb154, 2, none⟩ = some (.slice none 0 0) := (blk_cell BK154.out 2).trans rfl; have hcz13_3 : w12.cell? ⟨gb154, 3, none⟩ = some (.slice none 0 0) := (blk_cell BK154.out 3).trans rfl; have hcz13_4 : w12.cell? ⟨gb154, 4, none⟩ = some (.slice none 0 0) := (blk_cell BK154.out 4).trans rfl; have hcz13_5 : w12.cell? ⟨gb154, 5, none⟩ = some (.slice none 0 0) := (blk_cell BK154.out 5).trans rfl; have hcz13_6 : w12.cell? ⟨gb154, 6, none⟩ = some (.slice none 0 0) := (blk_cell BK154.out 6).trans rfl; have hcz13_7 : w12.cell? ⟨gb154, 7, none⟩ = some (.slice none 0 0) := (blk_cell BK154.out 7).trans rfl; have hcz13_8 : w12.cell? ⟨gb154, 8, none⟩ = some (.slice none 0 0) := (blk_cell BK154.out 8).trans rfl; have hcz13_9 : w12.cell? ⟨gb154, 9, none⟩ = some (.slice none 0 0) := (blk_cell BK154.out 9).trans rfl; have hcz13_10 : w12.cell? ⟨gb154, 10, none⟩ = some (.slice none 0 0) := (blk_cell BK154.out 10).trans rfl; have hfz13_0 := blk_frozen BK154.out 0; have hfz13_1 := blk_frozen BK154.out 1; have hfz13_2 := blk_frozen BK154.out 2; have hfz13_3 := blk_frozen BK154.out 3; have hfz13_4 := blk_frozen BK154.out 4; have hfz13_5 := blk_frozen BK154.out 5; have hfz13_6 := blk_frozen BK154.out 6; have hfz13_7 := blk_frozen BK154.out 7; have hfz13_8 := blk_frozen BK154.out 8; have hfz13_9 := blk_frozen BK154.out 9; have hfz13_10 := blk_frozen BK154.out 10) | ((with_reducible refine gate_callee (f := 17) rfl ?_); refine goesL_ (some 28) rfl rfl Try.func17 (by kernel_rfl) rfl #[.slice A153_2 ((rd_T37 l0 x19_2).f2).length c153_2, .int .i64 (wrap64 (a1 + 1))] rfl (by (try simp only [List.map_toArray, List.map_cons, List.map_nil]); first | done | rfl | (simp only [List.length_drop, List.length_take]; rfl)) ?_; (with_reducible refine (ih k2 (by have := HJ2.out; have := HK2.out; omega) _ _ ((rd_T37 l0 x19_2).f2) (wrap64 (a1 + 1)) t155 _ ?side1 ?side2 A9.out).mono ?_); (case side1 => exact Kd.C_below HR153_2.out (by repeat (first | (with_reducible first | exact HB.out | apply below_alloc | apply pw_below_drewN | apply below_drew1 | refine below_set ?_ GE154.out) | exact HB.out))); (case side2 => exact HC153_2.out); rintro e w14 ⟨rfl, hb⟩; refine ⟨_, rfl, ?_⟩; have n0_ := mk0 (blk_below (g := gb154) (o := .cells #[.string ((rd_T37 l0 x19_2).f0), .slice A153_1 ((rd_T37 l0 x19_2).f1).length c153_1, .slice A153_2 ((rd_T37 l0 x19_2).f2).length c153_2, .slice A153_3 ((rd_T37 l0 x19_2).f3).length c153_3, .slice A153_4 ((rd_T37 l0 x19_2).f4).length c153_4, .slice A153_5 ((rd_T37 l0 x19_2).f5).length c153_5, .slice A153_6 ((rd_T37 l0 x19_2).f6).length c153_6, .slice A153_7 ((rd_T37 l0 x19_2).f7).length c153_7, .slice A153_8 ((rd_T37 l0 x19_2).f8).length c153_8, .slice A153_9 ((rd_T37 l0 x19_2).f9).length c153_9, .slice A153_10 ((rd_T37 l0 x19_2).f10).length c153_10] 37 (0, 0)) (by (with_reducible repeat (first | refine blk_drewN ?_ _ | refine blk_drew ?_ | refine blk_alloc ?_ _)); (with_reducible repeat (first | refine blk_drewN ?_ _ | refine blk_drew ?_ | refine blk_alloc ?_ _)); (with_reducible repeat (first | refine blk_drewN ?_ _ | refine blk_drew ?_ | refine blk_alloc ?_ _)); (with_reducible repeat (first | refine blk_drewN ?_ _ | refine blk_drew ?_ | refine blk_alloc ?_ _)); (with_reducible repeat (first | refine blk_drewN ?_ _ | refine blk_drew ?_ | refine blk_alloc ?_ _)); (with_reducible repeat (first | refine blk_drewN ?_ _ | refine blk_drew ?_ | refine blk_alloc ?_ _)); (with_reducible repeat (first | refine blk_drewN ?_ _ | refine blk_drew ?_ | refine blk_alloc ?_ _)); (with_reducible repeat (first | refine blk_drewN ?_ _ | refine blk_drew ?_ | refine blk_alloc ?_ _)); (with_reducible repeat (first | refine blk_drewN ?_ _ | refine blk_drew ?_ | refine blk_alloc ?_ _)); (with_reducible repeat (first | refine blk_drewN ?_ _ | refine blk_drew ?_ | refine blk_alloc ?_ _)); (with_reducible repeat (first | refine blk_drewN ?_ _ | refine blk_drew ?_ | refine blk_alloc ?_ _)); (with_reducible repeat (first | refine blk_drewN ?_ _ | refine blk_drew ?_ | refine blk_alloc ?_ _)); exact BK154.out) hb); have n1_ := mk0 (below_step (by repeat (first | (with_reducible first | exact HB.out | apply below_alloc | apply pw_below_drewN | apply below_drew1 | refine below_set ?_ GE154.out) | exact HB.out)) hb); clear BK154; clear HB; have BK154 := n0_; have HB := n1_; clear n0_ n1_; (try clear hb); (try clear hb2); (try clear hk); (try clear hi)) | ((with_reducible refine gate_store (t := 37) (p := 7) rfl ?_); refine Go.Proofs.Yticnihfjnjliiaa.Sw.store_whole rfl rfl rfl gb154 37 _ _ rfl rfl BK154.out (by kernel_rfl) rfl rfl ?_; intro wS154 hS_ hbS_ hkS_; have HBn_ := mk0 (hbS_ _ _ GE154.out HB.out); clear HB; clear BK154; have HB := HBn_; have BK154 := mk0 hS_; have hkS154 := hkS_; clear HBn_ hS_ hbS_ hkS_; have hcw154_0 : wS154.cell? ⟨gb154, 0, none⟩ = some (.string ((rd_T37 l0 x19_2).f0)) := (blk_cell BK154.out 0).trans rfl; have hfw154_0 := blk_frozen BK154.out 0; have hcw154_1 : wS154.cell? ⟨gb154, 1, none⟩ = some (.slice A153_1 ((rd_T37 l0 x19_2).f1).length c153_1) := (blk_cell BK154.out 1).trans rfl; have hfw154_1 := blk_frozen BK154.out 1; have hcw154_2 : wS154.cell? ⟨gb154, 2, none⟩ = some (.slice A153_2 ((rd_T37 l0 x19_2).f2).length c153_2) := (blk_cell BK154.out 2).trans rfl; have hfw154_2 := blk_frozen BK154.out 2; have hcw154_3 : wS154.cell? ⟨gb154, 3, none⟩ = some (.slice A153_3 ((rd_T37 l0 x19_2).f3).length c153_3) := (blk_cell BK154.out 3).trans rfl; have hfw154_3 := blk_frozen BK154.out 3; have hcw154_4 : wS154.cell? ⟨gb154, 4, none⟩ = some (.slice A153_4 ((rd_T37 l0 x19_2).f4).length c153_4) := (blk_cell BK154.out 4).trans rfl; have hfw154_4 := blk_frozen BK154.out 4; have hcw154_5 : wS154.cell? ⟨gb154, 5, none⟩ = some (.slice A153_5 ((rd_T37 l0 x19_2).f5).length c153_5) := (blk_cell BK154.out 5).trans rfl; have hfw154_5 := blk_frozen BK154.out 5; have hcw154_6 : wS154.cell? ⟨gb154, 6, none⟩ = some (.slice A153_6 ((rd_T37 l0 x19_2).f6).length c153_6) := (blk_cell BK154.out 6).trans rfl; have hfw154_6 := blk_frozen BK154.out 6; have hcw154_7 : wS154.cell? ⟨gb154, 7, none⟩ = some (.slice A153_7 ((rd_T37 l0 x19_2).f7).length c153_7) := (blk_cell BK154.out 7).trans rfl; have hfw154_7 := blk_frozen BK154.out 7; have hcw154_8 : wS154.cell? ⟨gb154, 8, none⟩ = some (.slice A153_8 ((rd_T37 l0 x19_2).f8).length c153_8) := (blk_cell BK154.out 8).trans rfl; have hfw154_8 := blk_frozen BK154.out 8; have hcw154_9 : wS154.cell? ⟨gb154, 9, none⟩ = some (.slice A153_9 ((rd_T37 l0 x19_2).f9).length c153_9) := (blk_cell BK154.out 9).trans rfl; have hfw154_9 := blk_frozen BK154.out 9; have hcw154_10 : wS154.cell? ⟨gb154, 10, none⟩ = some (.slice A153_10 ((rd_T37 l0 x19_2).f10).length c153_10) := (blk_cell BK154.out 10).trans rfl; have hfw154_10 := blk_frozen BK154.out 10))
                     go_ret
                     exact ⟨by first | rfl | (simp [errW_none, errW_some] <;> rfl) | (simp only [← hji10]; first | rfl | (simp [errW_none, errW_some] <;> rfl)) | (simp [*, errW_none, errW_some] <;> rfl), by repeat (first | (with_reducible first | exact HB.out | apply below_alloc | apply pw_below_drewN | apply below_drew1 | refine below_set ?_ GE154.out) | exact HB.out)⟩
                 · as_aux_lemma =>
                    rw [if_neg c11] at H
                    have c11b0 : decide (64 < (ji10)) = false := decide_eq_false c11
                    clear c11
                    as_aux_lemma =>
                     have H' := mk0 H
                     clear H
                     have p153 : 0 ≤ (x19_2 : Int) := of_decide_eq_true (by first | (with_reducible assumption) | assumption)
                     have q153 : x19_2 < (l0.length : Int) := of_decide_eq_true (by first | (with_reducible assumption) | assumption)
                     obtain ⟨ad153, A153_1, c153_1, A153_2, c153_2, A153_3, c153_3, A153_4, c153_4, A153_5, c153_5, A153_6, c153_6, A153_7, c153_7, A153_8, c153_8, A153_9, c153_9, A153_10, c153_10, e153, hx153_0, hx153_1, hx153_2, hx153_3, hx153_4, hx153_5, hx153_6, hx153_7, hx153_8, hx153_9, hx153_10, hl153_1, hi153_1, hl153_2, hi153_2, hl153_3, hi153_3, hl153_4, hi153_4, hl153_5, hi153_5, hl153_6, hi153_6, hl153_7, hi153_7, hl153_8, hi153_8, hl153_9, hi153_9, hl153_10, hi153_10⟩ := at_T37 HR0.out x19_2 p153 q153
                     cases e153
                     replace hx153_0 := (HB.out.cell (World.block_lt_of_cell? w _ hx153_0)).trans hx153_0
                     replace hx153_1 := (HB.out.cell (World.block_lt_of_cell? w _ hx153_1)).trans hx153_1
                     replace hx153_2 := (HB.out.cell (World.block_lt_of_cell? w _ hx153_2)).trans hx153_2
                     replace hx153_3 := (HB.out.cell (World.block_lt_of_cell? w _ hx153_3)).trans hx153_3
                     replace hx153_4 := (HB.out.cell (World.block_lt_of_cell? w _ hx153_4)).trans hx153_4
                     replace hx153_5 := (HB.out.cell (World.block_lt_of_cell? w _ hx153_5)).trans hx153_5
                     replace hx153_6 := (HB.out.cell (World.block_lt_of_cell? w _ hx153_6)).trans hx153_6
                     replace hx153_7 := (HB.out.cell (World.block_lt_of_cell? w _ hx153_7)).trans hx153_7
                     replace hx153_8 := (HB.out.cell (World.block_lt_of_cell? w _ hx153_8)).trans hx153_8
                     replace hx153_9 := (HB.out.cell (World.block_lt_of_cell? w _ hx153_9)).trans hx153_9
                     replace hx153_10 := (HB.out.cell (World.block_lt_of_cell? w _ hx153_10)).trans hx153_10
                     have HR153_1 := mk0 hi153_1
                     have HC153_1 := mk0 hl153_1
                     clear hi153_1 hl153_1
                     have HR153_2 := mk0 hi153_2
                     have HC153_2 := mk0 hl153_2
                     clear hi153_2 hl153_2
                     have HR153_3 := mk0 hi153_3
                     have HC153_3 := mk0 hl153_3
                     clear hi153_3 hl153_3
                     have HR153_4 := mk0 hi153_4
                     have HC153_4 := mk0 hl153_4
                     clear hi153_4 hl153_4
                     have HR153_5 := mk0 hi153_5
                     have HC153_5 := mk0 hl153_5
                     clear hi153_5 hl153_5
                     have HR153_6 := mk0 hi153_6
                     have HC153_6 := mk0 hl153_6
                     clear hi153_6 hl153_6
                     have HR153_7 := mk0 hi153_7
                     have HC153_7 := mk0 hl153_7
                     clear hi153_7 hl153_7
                     have HR153_8 := mk0 hi153_8
                     have HC153_8 := mk0 hl153_8
                     clear hi153_8 hl153_8
                     have HR153_9 := mk0 hi153_9
                     have HC153_9 := mk0 hl153_9
                     clear hi153_9 hl153_9
                     have HR153_10 := mk0 hi153_10
                     have HC153_10 := mk0 hl153_10
                     clear hi153_10 hl153_10
                     replace p153 := eq_true p153
                     replace q153 := eq_true q153
                     go_wp2_with (first | ((with_reducible refine gate_dst (N := 7) rfl ?_); refine box_event ?hg (N := 7) ?hd (cs := #[.string (⟨#[]⟩ : ByteArray), .slice none 0 0, .slice none 0 0, .slice none 0 0, .slice none 0 0, .slice none 0 0, .slice none 0 0, .slice none 0 0, .slice none 0 0, .slice none 0 0, .slice none 0 0]) (t := 37) ?hr ?_; (case hd => rfl); (case hg => rfl); (case hr => first | (go_simp; done) | (go_simp; rfl)); intro gb154 hg w15 hbox hb; have n0_ := mk0 (below_step (by repeat (first | (with_reducible first | exact HB.out | apply below_alloc | apply pw_below_drewN | apply below_drew1) | exact HB.out)) hb); have n1_ := mk0 (hbox); have n2_ := mk0 ((by rw [hg]; exact (below_size (by repeat (first | (with_reducible first | exact HB.out | apply below_alloc | apply pw_below_drewN | apply below_drew1) | exact HB.out))) : w.heap.size ≤ gb154)); have n3_ := mk0 ((by rw [hg]; exact (below_size (by repeat (first | (with_reducible first | exact HB.out | apply below_alloc | apply pw_below_drewN | apply below_drew1) | exact HB.out))) : w.heap.size ≤ gb154)); clear HB; have HB := n0_; have BK154 := n1_; have GW154 := n2_; have GE154 := n3_; clear n0_ n1_ n2_ n3_; clear hb hbox hg; have hcz16_0 : w15.cell? ⟨gb154, 0, none⟩ = some (.string (⟨#[]⟩ : ByteArray)) := (blk_cell BK154.out 0).trans rfl; have hcz16_1 : w15.cell? ⟨gb154, 1, none⟩ = some (.slice none 0 0) := (blk_cell BK154.out 1).trans rfl; have hcz16_2 : w15.cell? ⟨gb154, 2, none⟩ = some (.slice none 0 0) := (blk_cell BK154.out 2).trans rfl; have hcz16_3 : w15.cell? ⟨gb154, 3, none⟩ = some (.slice none 0 0) := (blk_cell BK154.out 3).trans rfl; have hcz16_4 : w15.cell? ⟨gb154, 4, none⟩ = some (.slice none 0 0) := (blk_cell BK154.out 4).trans rfl; have hcz16_5 : w15.cell? ⟨gb154, 5, none⟩ = some (.slice none 0 0) := (blk_cell BK154.out 5).trans rfl; have hcz16_6 : w15.cell? ⟨gb154, 6, none⟩ = some (.slice none 0 0) := (blk_cell BK154.out 6).trans rfl; have hcz16_7 : w15.cell? ⟨gb154, 7, none⟩ = some (.slice none 0 0) := (blk_cell BK154.out 7).trans rfl; have hcz16_8 : w15.cell? ⟨gb154, 8, none⟩ = some (.slice none 0 0) := (blk_cell BK154.out 8).trans rfl; have hcz16_9 : w15.cell? ⟨gb154, 9, none⟩ = some (.slice none 0 0) := (blk_cell BK154.out 9).trans rfl; have hcz16_10 : w15.cell? ⟨gb154, 10, none⟩ = some (.slice none 0 0) := (blk_cell BK154.out 10).trans rfl; have hfz16_0 := blk_frozen BK154.out 0; have hfz16_1 := blk_frozen BK154.out 1; have hfz16_2 := blk_frozen BK154.out 2; have hfz16_3 := blk_frozen BK154.out 3; have hfz16_4 := blk_frozen BK154.out 4; have hfz16_5 := blk_frozen BK154.out 5; have hfz16_6 := blk_frozen BK154.out 6; have hfz16_7 := blk_frozen BK154.out 7; have hfz16_8 := blk_frozen BK154.out 8; have hfz16_9 := blk_frozen BK154.out 9; have hfz16_10 := blk_frozen BK154.out 10) | ((with_reducible refine gate_callee (f := 17) rfl ?_); refine goesL_ (some 28) rfl rfl Try.func17 (by kernel_rfl) rfl #[.slice A153_2 ((rd_T37 l0 x19_2).f2).length c153_2, .int .i64 (wrap64 (a1 + 1))] rfl (by (try simp only [List.map_toArray, List.map_cons, List.map_nil]); first | done | rfl | (simp only [List.length_drop, List.length_take]; rfl)) ?_; (with_reducible refine (ih k2 (by have := HJ2.out; have := HK2.out; omega) _ _ ((rd_T37 l0 x19_2).f2) (wrap64 (a1 + 1)) t155 _ ?side1 ?side2 A9.out).mono ?_); (case side1 => exact Kd.C_below HR153_2.out (by repeat (first | (with_reducible first | exact HB.out | apply below_alloc | apply pw_below_drewN | apply below_drew1 | refine below_set ?_ GE154.out) | exact HB.out))); (case side2 => exact HC153_2.out); rintro e w17 ⟨rfl, hb⟩; refine ⟨_, rfl, ?_⟩; have n0_ := mk0 (blk_below (g := gb154) (o := .cells #[.string ((rd_T37 l0 x19_2).f0), .slice A153_1 ((rd_T37 l0 x19_2).f1).length c153_1, .slice A153_2 ((rd_T37 l0 x19_2).f2).length c153_2, .slice A153_3 ((rd_T37 l0 x19_2).f3).length c153_3, .slice A153_4 ((rd_T37 l0 x19_2).f4).length c153_4, .slice A153_5 ((rd_T37 l0 x19_2).f5).length c153_5, .slice A153_6 ((rd_T37 l0 x19_2).f6).length c153_6, .slice A153_7 ((rd_T37 l0 x19_2).f7).length c153_7, .slice A153_8 ((rd_T37 l0 x19_2).f8).length c153_8, .slice A153_9 ((rd_T37 l0 x19_2).f9).length c153_9, .slice A153_10 ((rd_T37 l0 x19_2).f10).length c153_10] 37 (0, 0)) (by (with_reducible repeat (first | refine blk_drewN ?_ _ | refine blk_drew ?_ | refine blk_alloc ?_ _)); (with_reducible repeat (first | refine blk_drewN ?_ _ | refine blk_drew ?_ | refine blk_alloc ?_ _)); (with_reducible repeat (first | refine blk_drewN ?_ _ | refine blk_drew ?_ | refine blk_alloc ?_ _)); (with_reducible repeat (first | refine blk_drewN ?_ _ | refine blk_drew ?_ | refine blk_alloc ?_ _)); (with_reducible repeat (first | refine blk_drewN ?_ _ | refine blk_drew ?_ | refine blk_alloc ?_ _)); (with_reducible repeat (first | refine blk_drewN ?_ _ | refine blk_drew ?_ | refine blk_alloc ?_ _)); (with_reducible repeat (first | refine blk_drewN ?_ _ | refine blk_drew ?_ | refine blk_alloc ?_ _)); (with_reducible repeat (first | refine blk_drewN ?_ _ | refine blk_drew ?_ | refine blk_alloc ?_ _)); (with_reducible repeat (first | refine blk_drewN ?_ _ | refine blk_drew ?_ | refine blk_alloc ?_ _)); (with_reducible repeat (first | refine blk_drewN ?_ _ | refine blk_drew ?_ | refine blk_alloc ?_ _)); (with_reducible repeat (first | refine blk_drewN ?_ _ | refine blk_drew ?_ | refine blk_alloc ?_ _)); (with_reducible repeat (first | refine blk_drewN ?_ _ | refine blk_drew ?_ | refine blk_alloc ?_ _)); exact BK154.out) hb); have n1_ := mk0 (below_step (by repeat (first | (with_reducible first | exact HB.out | apply below_alloc | apply pw_below_drewN | apply below_drew1 | refine below_set ?_ GE154.out) | exact HB.out)) hb); clear BK154; clear HB; have BK154 := n0_; have HB := n1_; clear n0_ n1_; (try clear hb); (try clear hb2); (try clear hk); (try clear hi)) | ((with_reducible refine gate_store (t := 37) (p := 7) rfl ?_); refine Go.Proofs.Yticnihfjnjliiaa.Sw.store_whole rfl rfl rfl gb154 37 _ _ rfl rfl BK154.out (by kernel_rfl) rfl rfl ?_; intro wS154 hS_ hbS_ hkS_; have HBn_ := mk0 (hbS_ _ _ GE154.out HB.out); clear HB; clear BK154; have HB := HBn_; have BK154 := mk0 hS_; have hkS154 := hkS_; clear HBn_ hS_ hbS_ hkS_; have hcw154_0 : wS154.cell? ⟨gb154, 0, none⟩ = some (.string ((rd_T37 l0 x19_2).f0)) := (blk_cell BK154.out 0).trans rfl; have hfw154_0 := blk_frozen BK154.out 0; have hcw154_1 : wS154.cell? ⟨gb154, 1, none⟩ = some (.slice A153_1 ((rd_T37 l0 x19_2).f1).length c153_1) := (blk_cell BK154.out 1).trans rfl; have hfw154_1 := blk_frozen BK154.out 1; have hcw154_2 : wS154.cell? ⟨gb154, 2, none⟩ = some (.slice A153_2 ((rd_T37 l0 x19_2).f2).length c153_2) := (blk_cell BK154.out 2).trans rfl; have hfw154_2 := blk_frozen BK154.out 2; have hcw154_3 : wS154.cell? ⟨gb154, 3, none⟩ = some (.slice A153_3 ((rd_T37 l0 x19_2).f3).length c153_3) := (blk_cell BK154.out 3).trans rfl; have hfw154_3 := blk_frozen BK154.out 3; have hcw154_4 : wS154.cell? ⟨gb154, 4, none⟩ = some (.slice A153_4 ((rd_T37 l0 x19_2).f4).length c153_4) := (blk_cell BK154.out 4).trans rfl; have hfw154_4 := blk_frozen BK154.out 4; have hcw154_5 : wS154.cell? ⟨gb154, 5, none⟩ = some (.slice A153_5 ((rd_T37 l0 x19_2).f5).length c153_5) := (blk_cell BK154.out 5).trans rfl; have hfw154_5 := blk_frozen BK154.out 5; have hcw154_6 : wS154.cell? ⟨gb154, 6, none⟩ = some (.slice A153_6 ((rd_T37 l0 x19_2).f6).length c153_6) := (blk_cell BK154.out 6).trans rfl; have hfw154_6 := blk_frozen BK154.out 6; have hcw154_7 : wS154.cell? ⟨gb154, 7, none⟩ = some (.slice A153_7 ((rd_T37 l0 x19_2).f7).length c153_7) := (blk_cell BK154.out 7).trans rfl; have hfw154_7 := blk_frozen BK154.out 7; have hcw154_8 : wS154.cell? ⟨gb154, 8, none⟩ = some (.slice A153_8 ((rd_T37 l0 x19_2).f8).length c153_8) := (blk_cell BK154.out 8).trans rfl; have hfw154_8 := blk_frozen BK154.out 8; have hcw154_9 : wS154.cell? ⟨gb154, 9, none⟩ = some (.slice A153_9 ((rd_T37 l0 x19_2).f9).length c153_9) := (blk_cell BK154.out 9).trans rfl; have hfw154_9 := blk_frozen BK154.out 9; have hcw154_10 : wS154.cell? ⟨gb154, 10, none⟩ = some (.slice A153_10 ((rd_T37 l0 x19_2).f10).length c153_10) := (blk_cell BK154.out 10).trans rfl; have hfw154_10 := blk_frozen BK154.out 10))
                     go_roundg k2
                     case measure => have := HJ2.out; have := HK2.out; omega
                     case rel => exact ⟨(ji10), (wrap64 (x19_2 + 1)), (by first | rfl | (simp; done) | (simp only [← hji10] <;> (first | rfl | simp)) | (simp [*]; done)), (by first | rfl | (simp; done) | (simp [*]; done)), H', ⟨by have := HJ2.out; have := HK2.out; omega⟩, ⟨by repeat (first | (with_reducible first | exact HB.out | apply below_alloc | apply pw_below_drewN | apply below_drew1 | refine below_set ?_ GE154.out) | exact HB.out)⟩⟩
              · rw [if_neg c8] at H
                exact absurd H (by simp)
           · rw [if_neg c7] at H
             exact absurd H (by simp)
        · as_aux_lemma =>
           rw [if_neg c6] at H
           have c6b0 : decide (x19_2 < (l0.length : Int)) = false := decide_eq_false c6
           clear c6
           as_aux_lemma =>
            obtain rfl := Option.some.inj H
            go_wp2
            go_ret
            exact ⟨by first | rfl | (simp [errW_none, errW_some] <;> rfl) | (simp [*, errW_none, errW_some] <;> rfl), by repeat (first | (with_reducible first | exact HB.out | apply below_alloc | apply pw_below_drewN | apply below_drew1) | exact HB.out)⟩
def glossaryref11_Deep.f (k : Nat) (a0_0 : ByteArray) (a0_1 : ByteArray) (l0_2 : List ByteArray) (l0_3 : List Int) (l0_4 : List (S37)) (l0_5 : List (S60)) (l0_6 : List (S65)) (l0_7 : List (S69)) (a0_8 : ByteArray) (l0_9 : List Int) (l0_10 : List Int) : Option (Int) := (glossaryref11_deep.f k l0_4 0).bind fun t157 => (if t157 ≤ 64 then (some t157) else (some 100))
set_option maxHeartbeats 8000000 in
set_option maxRecDepth 100000 in
theorem glossaryref11_Deep.calls (k : Nat) (a0_0 : ByteArray) (a0_1 : ByteArray) (A0_2 : Option Addr) (c0_2 : Nat) (l0_2 : List ByteArray) (A0_3 : Option Addr) (c0_3 : Nat) (l0_3 : List Int) (A0_4 : Option Addr) (c0_4 : Nat) (l0_4 : List (S37)) (A0_5 : Option Addr) (c0_5 : Nat) (l0_5 : List (S60)) (A0_6 : Option Addr) (c0_6 : Nat) (l0_6 : List (S65)) (A0_7 : Option Addr) (c0_7 : Nat) (l0_7 : List (S69)) (a0_8 : ByteArray) (A0_9 : Option Addr) (c0_9 : Nat) (l0_9 : List Int) (A0_10 : Option Addr) (c0_10 : Nat) (l0_10 : List Int) (r : Int) (w : World) (hr0_2 : Kd.C Kd.string w A0_2 l0_2.length l0_2) (hc0_2 : l0_2.length ≤ c0_2) (hr0_3 : Kd.C (Kd.int .i64) w A0_3 l0_3.length l0_3) (hc0_3 : l0_3.length ≤ c0_3) (hr0_4 : Kd.C k37 w A0_4 l0_4.length l0_4) (hc0_4 : l0_4.length ≤ c0_4) (hr0_5 : Kd.C k60 w A0_5 l0_5.length l0_5) (hc0_5 : l0_5.length ≤ c0_5) (hr0_6 : Kd.C k65 w A0_6 l0_6.length l0_6) (hc0_6 : l0_6.length ≤ c0_6) (hr0_7 : Kd.C k69 w A0_7 l0_7.length l0_7) (hc0_7 : l0_7.length ≤ c0_7) (hr0_9 : Kd.C (Kd.int .u8) w A0_9 l0_9.length l0_9) (hc0_9 : l0_9.length ≤ c0_9) (hr0_10 : Kd.C (Kd.int .u8) w A0_10 l0_10.length l0_10) (hc0_10 : l0_10.length ≤ c0_10) (h : glossaryref11_Deep.f k a0_0 a0_1 l0_2 l0_3 l0_4 l0_5 l0_6 l0_7 a0_8 l0_9 l0_10 = some r) :
 Calls Try.prog 9 #[.agg #[.string a0_0, .string a0_1, .slice A0_2 l0_2.length c0_2, .slice A0_3 l0_3.length c0_3, .slice A0_4 l0_4.length c0_4, .slice A0_5 l0_5.length c0_5, .slice A0_6 l0_6.length c0_6, .slice A0_7 l0_7.length c0_7, .string a0_8, .slice A0_9 l0_9.length c0_9, .slice A0_10 l0_10.length c0_10]] w fun e w' => e = .returned (.int .i64 r) ∧ Below w.heap.size w w' := by
 have hu30 := Try.underlying30
 have HR0_2 := mk0 hr0_2
 have HC0_2 := mk0 hc0_2
 clear hr0_2 hc0_2
 have HR0_3 := mk0 hr0_3
 have HC0_3 := mk0 hc0_3
 clear hr0_3 hc0_3
 have HR0_4 := mk0 hr0_4
 have HC0_4 := mk0 hc0_4
 clear hr0_4 hc0_4
 have HR0_5 := mk0 hr0_5
 have HC0_5 := mk0 hc0_5
 clear hr0_5 hc0_5
 have HR0_6 := mk0 hr0_6
 have HC0_6 := mk0 hc0_6
 clear hr0_6 hc0_6
 have HR0_7 := mk0 hr0_7
 have HC0_7 := mk0 hc0_7
 clear hr0_7 hc0_7
 have HR0_9 := mk0 hr0_9
 have HC0_9 := mk0 hc0_9
 clear hr0_9 hc0_9
 have HR0_10 := mk0 hr0_10
 have HC0_10 := mk0 hc0_10
 clear hr0_10 hc0_10
 have HB := mk0 (Below.refl w.heap.size w)
 have H : ((glossaryref11_deep.f k l0_4 0).bind fun t157 => (if t157 ≤ 64 then (some t157) else (some 100))) = some r := h
 clear h
 replace H := Option.bind_eq_some_iff.mp H
 obtain ⟨t157, A20, H⟩ := H
 replace H : (if t157 ≤ 64 then (some t157) else (some 100)) = some r := H
 have A2 := mk0 A20
 clear A20
 by_cases c3 : t157 ≤ 64
 · as_aux_lemma =>
    rw [if_pos c3] at H
    have c3b0 : decide (t157 ≤ 64) = true := decide_eq_true c3
    clear c3
    as_aux_lemma =>
     obtain rfl := Option.some.inj H
     go_enter Try.func9, Try.ntmps9
     go_wp2_with (first | ((with_reducible refine gate_dst (N := 1) rfl ?_); refine box_event ?hg (N := 1) ?hd (cs := #[.string a0_0, .string a0_1, .slice A0_2 l0_2.length c0_2, .slice A0_3 l0_3.length c0_3, .slice A0_4 l0_4.length c0_4, .slice A0_5 l0_5.length c0_5, .slice A0_6 l0_6.length c0_6, .slice A0_7 l0_7.length c0_7, .string a0_8, .slice A0_9 l0_9.length c0_9, .slice A0_10 l0_10.length c0_10]) (t := 30) ?hr ?_; (case hd => rfl); (case hg => rfl); (case hr => first | (go_simp; done) | (go_simp; rfl)); intro gb156 hg w4 hbox hb; have n0_ := mk0 (below_step (by repeat (first | (with_reducible first | exact HB.out | apply below_alloc | apply pw_below_drewN | apply below_drew1) | exact HB.out)) hb); have n1_ := mk0 (hbox); have n2_ := mk0 ((by rw [hg]; exact (below_size (by repeat (first | (with_reducible first | exact HB.out | apply below_alloc | apply pw_below_drewN | apply below_drew1) | exact HB.out))) : w.heap.size ≤ gb156)); have n3_ := mk0 ((by rw [hg]; exact (below_size (by repeat (first | (with_reducible first | exact HB.out | apply below_alloc | apply pw_below_drewN | apply below_drew1) | exact HB.out))) : w.heap.size ≤ gb156)); clear HB; have HB := n0_; have BK156 := n1_; have GW156 := n2_; have GE156 := n3_; clear n0_ n1_ n2_ n3_; clear hb hbox hg; have hcz5_0 : w4.cell? ⟨gb156, 0, none⟩ = some (.string a0_0) := (blk_cell BK156.out 0).trans rfl; have hcz5_1 : w4.cell? ⟨gb156, 1, none⟩ = some (.string a0_1) := (blk_cell BK156.out 1).trans rfl; have hcz5_2 : w4.cell? ⟨gb156, 2, none⟩ = some (.slice A0_2 l0_2.length c0_2) := (blk_cell BK156.out 2).trans rfl; have hcz5_3 : w4.cell? ⟨gb156, 3, none⟩ = some (.slice A0_3 l0_3.length c0_3) := (blk_cell BK156.out 3).trans rfl; have hcz5_4 : w4.cell? ⟨gb156, 4, none⟩ = some (.slice A0_4 l0_4.length c0_4) := (blk_cell BK156.out 4).trans rfl; have hcz5_5 : w4.cell? ⟨gb156, 5, none⟩ = some (.slice A0_5 l0_5.length c0_5) := (blk_cell BK156.out 5).trans rfl; have hcz5_6 : w4.cell? ⟨gb156, 6, none⟩ = some (.slice A0_6 l0_6.length c0_6) := (blk_cell BK156.out 6).trans rfl; have hcz5_7 : w4.cell? ⟨gb156, 7, none⟩ = some (.slice A0_7 l0_7.length c0_7) := (blk_cell BK156.out 7).trans rfl; have hcz5_8 : w4.cell? ⟨gb156, 8, none⟩ = some (.string a0_8) := (blk_cell BK156.out 8).trans rfl; have hcz5_9 : w4.cell? ⟨gb156, 9, none⟩ = some (.slice A0_9 l0_9.length c0_9) := (blk_cell BK156.out 9).trans rfl; have hcz5_10 : w4.cell? ⟨gb156, 10, none⟩ = some (.slice A0_10 l0_10.length c0_10) := (blk_cell BK156.out 10).trans rfl; have hfz5_0 := blk_frozen BK156.out 0; have hfz5_1 := blk_frozen BK156.out 1; have hfz5_2 := blk_frozen BK156.out 2; have hfz5_3 := blk_frozen BK156.out 3; have hfz5_4 := blk_frozen BK156.out 4; have hfz5_5 := blk_frozen BK156.out 5; have hfz5_6 := blk_frozen BK156.out 6; have hfz5_7 := blk_frozen BK156.out 7; have hfz5_8 := blk_frozen BK156.out 8; have hfz5_9 := blk_frozen BK156.out 9; have hfz5_10 := blk_frozen BK156.out 10) | ((with_reducible refine gate_callee (f := 17) rfl ?_); refine goesL_ (some 6) rfl rfl Try.func17 (by kernel_rfl) rfl #[.slice A0_4 l0_4.length c0_4, .int .i64 0] rfl (by (try simp only [List.map_toArray, List.map_cons, List.map_nil]); first | done | rfl | (simp only [List.length_drop, List.length_take]; rfl)) ?_; (with_reducible refine (glossaryref11_deep.calls k _ _ l0_4 0 t157 _ ?side1 ?side2 A2.out).mono ?_); (case side1 => repeat (first | exact (Kd.C_below HR0_4.out HB.out) | (with_reducible refine Kd.C_alloc ?_ _) | (with_reducible refine Kd.C_drewN ?_ _) | (with_reducible refine Kd.C_drew ?_))); (case side2 => exact HC0_4.out); rintro e w6 ⟨rfl, hb⟩; refine ⟨_, rfl, ?_⟩; have n0_ := mk0 (blk_below (g := gb156) (o := .cells #[.string a0_0, .string a0_1, .slice A0_2 l0_2.length c0_2, .slice A0_3 l0_3.length c0_3, .slice A0_4 l0_4.length c0_4, .slice A0_5 l0_5.length c0_5, .slice A0_6 l0_6.length c0_6, .slice A0_7 l0_7.length c0_7, .string a0_8, .slice A0_9 l0_9.length c0_9, .slice A0_10 l0_10.length c0_10] 30 (0, 0)) (by (with_reducible repeat (first | refine blk_drewN ?_ _ | refine blk_drew ?_ | refine blk_alloc ?_ _)); exact BK156.out) hb); have n1_ := mk0 (below_step (by repeat (first | (with_reducible first | exact HB.out | apply below_alloc | apply pw_below_drewN | apply below_drew1 | refine below_set ?_ GE156.out) | exact HB.out)) hb); clear BK156; clear HB; have BK156 := n0_; have HB := n1_; clear n0_ n1_; (try clear hb); (try clear hb2); (try clear hk); (try clear hi)))
     go_ret
     exact ⟨by first | rfl | (simp [errW_none, errW_some] <;> rfl) | (simp [*, errW_none, errW_some] <;> rfl), by repeat (first | (with_reducible first | exact HB.out | apply below_alloc | apply pw_below_drewN | apply below_drew1 | refine below_set ?_ GE156.out) | exact HB.out)⟩
 · as_aux_lemma =>
    rw [if_neg c3] at H
    have c3b0 : decide (t157 ≤ 64) = false := decide_eq_false c3
    clear c3
    as_aux_lemma =>
     obtain rfl := Option.some.inj H
     go_enter Try.func9, Try.ntmps9
     go_wp2_with (first | ((with_reducible refine gate_dst (N := 1) rfl ?_); refine box_event ?hg (N := 1) ?hd (cs := #[.string a0_0, .string a0_1, .slice A0_2 l0_2.length c0_2, .slice A0_3 l0_3.length c0_3, .slice A0_4 l0_4.length c0_4, .slice A0_5 l0_5.length c0_5, .slice A0_6 l0_6.length c0_6, .slice A0_7 l0_7.length c0_7, .string a0_8, .slice A0_9 l0_9.length c0_9, .slice A0_10 l0_10.length c0_10]) (t := 30) ?hr ?_; (case hd => rfl); (case hg => rfl); (case hr => first | (go_simp; done) | (go_simp; rfl)); intro gb156 hg w7 hbox hb; have n0_ := mk0 (below_step (by repeat (first | (with_reducible first | exact HB.out | apply below_alloc | apply pw_below_drewN | apply below_drew1) | exact HB.out)) hb); have n1_ := mk0 (hbox); have n2_ := mk0 ((by rw [hg]; exact (below_size (by repeat (first | (with_reducible first | exact HB.out | apply below_alloc | apply pw_below_drewN | apply below_drew1) | exact HB.out))) : w.heap.size ≤ gb156)); have n3_ := mk0 ((by rw [hg]; exact (below_size (by repeat (first | (with_reducible first | exact HB.out | apply below_alloc | apply pw_below_drewN | apply below_drew1) | exact HB.out))) : w.heap.size ≤ gb156)); clear HB; have HB := n0_; have BK156 := n1_; have GW156 := n2_; have GE156 := n3_; clear n0_ n1_ n2_ n3_; clear hb hbox hg; have hcz8_0 : w7.cell? ⟨gb156, 0, none⟩ = some (.string a0_0) := (blk_cell BK156.out 0).trans rfl; have hcz8_1 : w7.cell? ⟨gb156, 1, none⟩ = some (.string a0_1) := (blk_cell BK156.out 1).trans rfl; have hcz8_2 : w7.cell? ⟨gb156, 2, none⟩ = some (.slice A0_2 l0_2.length c0_2) := (blk_cell BK156.out 2).trans rfl; have hcz8_3 : w7.cell? ⟨gb156, 3, none⟩ = some (.slice A0_3 l0_3.length c0_3) := (blk_cell BK156.out 3).trans rfl; have hcz8_4 : w7.cell? ⟨gb156, 4, none⟩ = some (.slice A0_4 l0_4.length c0_4) := (blk_cell BK156.out 4).trans rfl; have hcz8_5 : w7.cell? ⟨gb156, 5, none⟩ = some (.slice A0_5 l0_5.length c0_5) := (blk_cell BK156.out 5).trans rfl; have hcz8_6 : w7.cell? ⟨gb156, 6, none⟩ = some (.slice A0_6 l0_6.length c0_6) := (blk_cell BK156.out 6).trans rfl; have hcz8_7 : w7.cell? ⟨gb156, 7, none⟩ = some (.slice A0_7 l0_7.length c0_7) := (blk_cell BK156.out 7).trans rfl; have hcz8_8 : w7.cell? ⟨gb156, 8, none⟩ = some (.string a0_8) := (blk_cell BK156.out 8).trans rfl; have hcz8_9 : w7.cell? ⟨gb156, 9, none⟩ = some (.slice A0_9 l0_9.length c0_9) := (blk_cell BK156.out 9).trans rfl; have hcz8_10 : w7.cell? ⟨gb156, 10, none⟩ = some (.slice A0_10 l0_10.length c0_10) := (blk_cell BK156.out 10).trans rfl; have hfz8_0 := blk_frozen BK156.out 0; have hfz8_1 := blk_frozen BK156.out 1; have hfz8_2 := blk_frozen BK156.out 2; have hfz8_3 := blk_frozen BK156.out 3; have hfz8_4 := blk_frozen BK156.out 4; have hfz8_5 := blk_frozen BK156.out 5; have hfz8_6 := blk_frozen BK156.out 6; have hfz8_7 := blk_frozen BK156.out 7; have hfz8_8 := blk_frozen BK156.out 8; have hfz8_9 := blk_frozen BK156.out 9; have hfz8_10 := blk_frozen BK156.out 10) | ((with_reducible refine gate_callee (f := 17) rfl ?_); refine goesL_ (some 6) rfl rfl Try.func17 (by kernel_rfl) rfl #[.slice A0_4 l0_4.length c0_4, .int .i64 0] rfl (by (try simp only [List.map_toArray, List.map_cons, List.map_nil]); first | done | rfl | (simp only [List.length_drop, List.length_take]; rfl)) ?_; (with_reducible refine (glossaryref11_deep.calls k _ _ l0_4 0 t157 _ ?side1 ?side2 A2.out).mono ?_); (case side1 => repeat (first | exact (Kd.C_below HR0_4.out HB.out) | (with_reducible refine Kd.C_alloc ?_ _) | (with_reducible refine Kd.C_drewN ?_ _) | (with_reducible refine Kd.C_drew ?_))); (case side2 => exact HC0_4.out); rintro e w9 ⟨rfl, hb⟩; refine ⟨_, rfl, ?_⟩; have n0_ := mk0 (blk_below (g := gb156) (o := .cells #[.string a0_0, .string a0_1, .slice A0_2 l0_2.length c0_2, .slice A0_3 l0_3.length c0_3, .slice A0_4 l0_4.length c0_4, .slice A0_5 l0_5.length c0_5, .slice A0_6 l0_6.length c0_6, .slice A0_7 l0_7.length c0_7, .string a0_8, .slice A0_9 l0_9.length c0_9, .slice A0_10 l0_10.length c0_10] 30 (0, 0)) (by (with_reducible repeat (first | refine blk_drewN ?_ _ | refine blk_drew ?_ | refine blk_alloc ?_ _)); exact BK156.out) hb); have n1_ := mk0 (below_step (by repeat (first | (with_reducible first | exact HB.out | apply below_alloc | apply pw_below_drewN | apply below_drew1 | refine below_set ?_ GE156.out) | exact HB.out)) hb); clear BK156; clear HB; have BK156 := n0_; have HB := n1_; clear n0_ n1_; (try clear hb); (try clear hb2); (try clear hk); (try clear hi)))
     go_ret
     exact ⟨by first | rfl | (simp [errW_none, errW_some] <;> rfl) | (simp [*, errW_none, errW_some] <;> rfl), by repeat (first | (with_reducible first | exact HB.out | apply below_alloc | apply pw_below_drewN | apply below_drew1 | refine below_set ?_ GE156.out) | exact HB.out)⟩
end Go.Proofs.Yticnihfjnjliiaa.Rdp
