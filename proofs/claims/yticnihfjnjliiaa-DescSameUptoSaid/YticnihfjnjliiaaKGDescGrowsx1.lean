/- Written by gprint.py of this session: the kit's printer, with functions that are proved by hand put in. -/
import Derived.Test.YticnihfjnjliiaaKGDescGrowsx0
namespace Go.Proofs.Yticnihfjnjliiaa.GDescGrows
open Go.Proofs.Yticnihfjnjliiaa.Pt
open Go.RowKit Go.Proofs.YticnihfjnjliiaaW.PrintWords Go.Proofs.YticnihfjnjliiaaW.PrintLast Go.Proofs.YticnihfjnjliiaaW.PrintMore
attribute [local go_sem] max2_int min2_int max_two min_two max_three min_three max_four min_four
set_option linter.unusedVariables false
set_option linter.unusedSimpArgs false
mutual
def desc_Deep_1.l0 : Nat → Int → Int → List (S37) → Int → Int → Option (Int)
 | 0, _, _, _, _, _ => none
 | k + 1, x1, x6, x15, x16, x17 => if x17 < x16 then (if 0 ≤ x17 then (if x17 < (x15.length : Int) then (if x6 > 64 then (some x6) else ((desc_Deep_1.f k ((rd_T37 x15 x17).f2) (wrap64 (x1 + 1))).bind fun t103 => (desc_Deep_1.l0 k x1 (mx x6 t103) x15 x16 (wrap64 (x17 + 1))))) else (none)) else (none)) else (some x6)
def desc_Deep_1.f : Nat → List (S37) → Int → Option (Int)
 | 0, _, _ => none
 | k + 1, l0, a1 => if (l0.length : Int) = 0 then (some a1) else (desc_Deep_1.l0 k a1 (wrap64 (a1 + 1)) l0 (l0.length : Int) 0)
end
set_option maxHeartbeats 8000000 in
set_option maxRecDepth 100000 in
theorem desc_Deep_1.calls (k : Nat) : ∀ (A0 : Option Addr) (c0 : Nat) (l0 : List (S37)) (a1 : Int) (r : Int) (w : World) (hr0 : Kd.C k37 w A0 l0.length l0) (hc0 : l0.length ≤ c0) (q : Nat) (hq : w.heap[q]? = some (.cells #[.func (.func 18) #[] #[.pointer (some ⟨q, 0, none⟩)]] 48 (0, 0))) (h : desc_Deep_1.f k l0 a1 = some r),
 Calls Try.prog 18 #[.slice A0 l0.length c0, .int .i64 a1, .pointer (some ⟨q, 0, none⟩)] w fun e w' => e = .returned (.int .i64 r) ∧ Below w.heap.size w w' := by
 induction k using Nat.strongRecOn with
 | _ k ih =>
 intro A0 c0 l0 a1 r w hr0 hc0 q hq h
 cases k with
 | zero => exact absurd h (by simp [desc_Deep_1.f])
 | succ k =>
 simp only [desc_Deep_1.f] at h
 have hu37 := Try.underlying37
 have HR0 := mk0 hr0
 have HC0 := mk0 hc0
 clear hr0 hc0
 have HB := mk0 (Below.refl w.heap.size w)
 have HQ := mk0 hq
 clear hq
 have H : (if (l0.length : Int) = 0 then (some a1) else (desc_Deep_1.l0 k a1 (wrap64 (a1 + 1)) l0 (l0.length : Int) 0)) = some r := h
 clear h
 by_cases c3 : (l0.length : Int) = 0
 · as_aux_lemma =>
    rw [if_pos c3] at H
    have c3b0 : ((l0.length : Int) == 0) = true := beq_iff_eq.mpr c3
    have c3b1 : ((l0.length : Int) != 0) = false := bne_eq_false_iff_eq.mpr c3
    clear c3
    as_aux_lemma =>
     obtain rfl := Option.some.inj H
     go_enter Try.func18, Try.ntmps18
     go_wp2
     go_ret
     exact ⟨by first | rfl | (simp [errW_none, errW_some] <;> rfl) | (simp [*, errW_none, errW_some] <;> rfl), by repeat (first | (with_reducible first | exact HB.out | apply below_alloc | apply pw_below_drewN | apply below_drew1) | exact HB.out)⟩
 · as_aux_lemma =>
    rw [if_neg c3] at H
    have c3b0 : ((l0.length : Int) == 0) = false := beq_eq_false_iff_ne.mpr c3
    have c3b1 : ((l0.length : Int) != 0) = true := bne_iff_ne.mpr c3
    have c3b2 : ¬ (l0 = []) := fun h_ => c3 (by rw [h_]; rfl)
    have H' := mk0 H
    clear H
    go_enter Try.func18, Try.ntmps18
    go_wp2
    go_loopg [6, 17] k (fun kq v6 v17 w' => ∃ (x6_1 : Int) (x17_1 : Int), v6 = .int .i64 x6_1 ∧ v17 = .int .i64 x17_1 ∧ Aside0 (desc_Deep_1.l0 kq a1 x6_1 l0 (l0.length : Int) x17_1 = some r) ∧ Aside0 (kq ≤ k) ∧ Aside0 (Below w.heap.size w w'))
    case atStart => exact ⟨(wrap64 (a1 + 1)), (0), (by first | rfl | (simp; done) | (simp [*]; done)), (by first | rfl | (simp; done) | (simp [*]; done)), H', ⟨Nat.le_refl _⟩, ⟨by repeat (first | (with_reducible first | exact HB.out | apply below_alloc | apply pw_below_drewN | apply below_drew1) | exact HB.out)⟩⟩
    case round =>
     clear H'
     try clear c1
     try clear p2
     try clear c3
     try clear c3b0
     try clear c3b1
     try clear c3b2
     obtain ⟨x6_1, x17_1, rfl, rfl, HA, HK1, HB⟩ := hrel
     cases gk with
     | zero => exact absurd HA.out (by simp [desc_Deep_1.l0])
     | succ k1 =>
      have H := HA.out
      clear HA
      simp only [desc_Deep_1.l0] at H
      by_cases c4 : x17_1 < (l0.length : Int)
      · as_aux_lemma =>
         rw [if_pos c4] at H
         have c4b0 : decide (x17_1 < (l0.length : Int)) = true := decide_eq_true c4
         clear c4
         by_cases c5 : 0 ≤ x17_1
         · as_aux_lemma =>
            rw [if_pos c5] at H
            have c5b0 : decide (0 ≤ x17_1) = true := decide_eq_true c5
            clear c5
            by_cases c6 : x17_1 < (l0.length : Int)
            · as_aux_lemma =>
               rw [if_pos c6] at H
               have c6b0 : decide (x17_1 < (l0.length : Int)) = true := decide_eq_true c6
               clear c6
               by_cases c7 : x6_1 > 64
               · as_aux_lemma =>
                  rw [if_pos c7] at H
                  have c7b0 : decide (64 < x6_1) = true := decide_eq_true c7
                  clear c7
                  as_aux_lemma =>
                   obtain rfl := Option.some.inj H
                   have p101 : 0 ≤ (x17_1 : Int) := of_decide_eq_true (by first | (with_reducible assumption) | assumption)
                   have q101 : x17_1 < (l0.length : Int) := of_decide_eq_true (by first | (with_reducible assumption) | assumption)
                   obtain ⟨ad101, A101_1, c101_1, A101_2, c101_2, A101_3, c101_3, A101_4, c101_4, A101_5, c101_5, A101_6, c101_6, A101_7, c101_7, A101_8, c101_8, A101_9, c101_9, A101_10, c101_10, e101, hx101_0, hx101_1, hx101_2, hx101_3, hx101_4, hx101_5, hx101_6, hx101_7, hx101_8, hx101_9, hx101_10, hl101_1, hi101_1, hl101_2, hi101_2, hl101_3, hi101_3, hl101_4, hi101_4, hl101_5, hi101_5, hl101_6, hi101_6, hl101_7, hi101_7, hl101_8, hi101_8, hl101_9, hi101_9, hl101_10, hi101_10⟩ := at_T37 HR0.out x17_1 p101 q101
                   cases e101
                   replace hx101_0 := (HB.out.cell (World.block_lt_of_cell? w _ hx101_0)).trans hx101_0
                   replace hx101_1 := (HB.out.cell (World.block_lt_of_cell? w _ hx101_1)).trans hx101_1
                   replace hx101_2 := (HB.out.cell (World.block_lt_of_cell? w _ hx101_2)).trans hx101_2
                   replace hx101_3 := (HB.out.cell (World.block_lt_of_cell? w _ hx101_3)).trans hx101_3
                   replace hx101_4 := (HB.out.cell (World.block_lt_of_cell? w _ hx101_4)).trans hx101_4
                   replace hx101_5 := (HB.out.cell (World.block_lt_of_cell? w _ hx101_5)).trans hx101_5
                   replace hx101_6 := (HB.out.cell (World.block_lt_of_cell? w _ hx101_6)).trans hx101_6
                   replace hx101_7 := (HB.out.cell (World.block_lt_of_cell? w _ hx101_7)).trans hx101_7
                   replace hx101_8 := (HB.out.cell (World.block_lt_of_cell? w _ hx101_8)).trans hx101_8
                   replace hx101_9 := (HB.out.cell (World.block_lt_of_cell? w _ hx101_9)).trans hx101_9
                   replace hx101_10 := (HB.out.cell (World.block_lt_of_cell? w _ hx101_10)).trans hx101_10
                   have HR101_1 := mk0 hi101_1
                   have HC101_1 := mk0 hl101_1
                   clear hi101_1 hl101_1
                   have HR101_2 := mk0 hi101_2
                   have HC101_2 := mk0 hl101_2
                   clear hi101_2 hl101_2
                   have HR101_3 := mk0 hi101_3
                   have HC101_3 := mk0 hl101_3
                   clear hi101_3 hl101_3
                   have HR101_4 := mk0 hi101_4
                   have HC101_4 := mk0 hl101_4
                   clear hi101_4 hl101_4
                   have HR101_5 := mk0 hi101_5
                   have HC101_5 := mk0 hl101_5
                   clear hi101_5 hl101_5
                   have HR101_6 := mk0 hi101_6
                   have HC101_6 := mk0 hl101_6
                   clear hi101_6 hl101_6
                   have HR101_7 := mk0 hi101_7
                   have HC101_7 := mk0 hl101_7
                   clear hi101_7 hl101_7
                   have HR101_8 := mk0 hi101_8
                   have HC101_8 := mk0 hl101_8
                   clear hi101_8 hl101_8
                   have HR101_9 := mk0 hi101_9
                   have HC101_9 := mk0 hl101_9
                   clear hi101_9 hl101_9
                   have HR101_10 := mk0 hi101_10
                   have HC101_10 := mk0 hl101_10
                   clear hi101_10 hl101_10
                   replace p101 := eq_true p101
                   replace q101 := eq_true q101
                   go_wp2_with (first | ((with_reducible refine gate_dst (N := 8) rfl ?_); refine box_event ?hg (N := 8) ?hd (cs := #[.string (⟨#[]⟩ : ByteArray), .slice none 0 0, .slice none 0 0, .slice none 0 0, .slice none 0 0, .slice none 0 0, .slice none 0 0, .slice none 0 0, .slice none 0 0, .slice none 0 0, .slice none 0 0]) (t := 37) ?hr ?_; (case hd => rfl); (case hg => rfl); (case hr => first | (go_simp; done) | (go_simp; rfl)); intro gb102 hg w8 hbox hb; have n0_ := mk0 (below_step (by repeat (first | (with_reducible first | exact HB.out | apply below_alloc | apply pw_below_drewN | apply below_drew1) | exact HB.out)) hb); have n1_ := mk0 (hbox); have n2_ := mk0 ((by rw [hg]; exact (below_size (by repeat (first | (with_reducible first | exact HB.out | apply below_alloc | apply pw_below_drewN | apply below_drew1) | exact HB.out))) : w.heap.size ≤ gb102)); have n3_ := mk0 ((by rw [hg]; exact (below_size (by repeat (first | (with_reducible first | exact HB.out | apply below_alloc | apply pw_below_drewN | apply below_drew1) | exact HB.out))) : w.heap.size ≤ gb102)); clear HB; have HB := n0_; have BK102 := n1_; have GW102 := n2_; have GE102 := n3_; clear n0_ n1_ n2_ n3_; clear hb hbox hg; have hcz9_0 : w8.cell? ⟨gb102, 0, none⟩ = some (.string (⟨#[]⟩ : ByteArray)) := (blk_cell BK102.out 0).trans rfl; have hcz9_1 : w8.cell? ⟨gb102, 1, none⟩ = some (.slice none 0 0) := (blk_cell BK102.out 1).trans rfl; have hcz9_2 : w8.cell? ⟨gb102, 2, none⟩ = some (.slice none 0 0) := (blk_cell BK102.out 2).trans rfl; have hcz9_3 : w8.cell? ⟨gb102, 3, none⟩ = some (.slice none 0 0) := (blk_cell BK102.out 3).trans rfl; have hcz9_4 : w8.cell? ⟨gb102, 4, none⟩ = some (.slice none 0 0) := (blk_cell BK102.out 4).trans rfl; have hcz9_5 : w8.cell? ⟨gb102, 5, none⟩ = some (.slice none 0 0) := (blk_cell BK102.out 5).trans rfl; have hcz9_6 : w8.cell? ⟨gb102, 6, none⟩ = some (.slice none 0 0) := (blk_cell BK102.out 6).trans rfl; have hcz9_7 : w8.cell? ⟨gb102, 7, none⟩ = some (.slice none 0 0) := (blk_cell BK102.out 7).trans rfl; have hcz9_8 : w8.cell? ⟨gb102, 8, none⟩ = some (.slice none 0 0) := (blk_cell BK102.out 8).trans rfl; have hcz9_9 : w8.cell? ⟨gb102, 9, none⟩ = some (.slice none 0 0) := (blk_cell BK102.out 9).trans rfl; have hcz9_10 : w8.cell? ⟨gb102, 10, none⟩ = some (.slice none 0 0) := (blk_cell BK102.out 10).trans rfl; have hfz9_0 := blk_frozen BK102.out 0; have hfz9_1 := blk_frozen BK102.out 1; have hfz9_2 := blk_frozen BK102.out 2; have hfz9_3 := blk_frozen BK102.out 3; have hfz9_4 := blk_frozen BK102.out 4; have hfz9_5 := blk_frozen BK102.out 5; have hfz9_6 := blk_frozen BK102.out 6; have hfz9_7 := blk_frozen BK102.out 7; have hfz9_8 := blk_frozen BK102.out 8; have hfz9_9 := blk_frozen BK102.out 9; have hfz9_10 := blk_frozen BK102.out 10) | ((with_reducible refine gate_store (t := 37) (p := 8) rfl ?_); refine Go.Proofs.Yticnihfjnjliiaa.Sw.store_whole rfl rfl rfl gb102 37 _ _ rfl rfl BK102.out (by kernel_rfl) rfl rfl ?_; intro wS102 hS_ hbS_ hkS_; have HBn_ := mk0 (hbS_ _ _ GE102.out HB.out); clear HB; clear BK102; have HB := HBn_; have BK102 := mk0 hS_; have hkS102 := hkS_; clear HBn_ hS_ hbS_ hkS_; have hcw102_0 : wS102.cell? ⟨gb102, 0, none⟩ = some (.string ((rd_T37 l0 x17_1).f0)) := (blk_cell BK102.out 0).trans rfl; have hfw102_0 := blk_frozen BK102.out 0; have hcw102_1 : wS102.cell? ⟨gb102, 1, none⟩ = some (.slice A101_1 ((rd_T37 l0 x17_1).f1).length c101_1) := (blk_cell BK102.out 1).trans rfl; have hfw102_1 := blk_frozen BK102.out 1; have hcw102_2 : wS102.cell? ⟨gb102, 2, none⟩ = some (.slice A101_2 ((rd_T37 l0 x17_1).f2).length c101_2) := (blk_cell BK102.out 2).trans rfl; have hfw102_2 := blk_frozen BK102.out 2; have hcw102_3 : wS102.cell? ⟨gb102, 3, none⟩ = some (.slice A101_3 ((rd_T37 l0 x17_1).f3).length c101_3) := (blk_cell BK102.out 3).trans rfl; have hfw102_3 := blk_frozen BK102.out 3; have hcw102_4 : wS102.cell? ⟨gb102, 4, none⟩ = some (.slice A101_4 ((rd_T37 l0 x17_1).f4).length c101_4) := (blk_cell BK102.out 4).trans rfl; have hfw102_4 := blk_frozen BK102.out 4; have hcw102_5 : wS102.cell? ⟨gb102, 5, none⟩ = some (.slice A101_5 ((rd_T37 l0 x17_1).f5).length c101_5) := (blk_cell BK102.out 5).trans rfl; have hfw102_5 := blk_frozen BK102.out 5; have hcw102_6 : wS102.cell? ⟨gb102, 6, none⟩ = some (.slice A101_6 ((rd_T37 l0 x17_1).f6).length c101_6) := (blk_cell BK102.out 6).trans rfl; have hfw102_6 := blk_frozen BK102.out 6; have hcw102_7 : wS102.cell? ⟨gb102, 7, none⟩ = some (.slice A101_7 ((rd_T37 l0 x17_1).f7).length c101_7) := (blk_cell BK102.out 7).trans rfl; have hfw102_7 := blk_frozen BK102.out 7; have hcw102_8 : wS102.cell? ⟨gb102, 8, none⟩ = some (.slice A101_8 ((rd_T37 l0 x17_1).f8).length c101_8) := (blk_cell BK102.out 8).trans rfl; have hfw102_8 := blk_frozen BK102.out 8; have hcw102_9 : wS102.cell? ⟨gb102, 9, none⟩ = some (.slice A101_9 ((rd_T37 l0 x17_1).f9).length c101_9) := (blk_cell BK102.out 9).trans rfl; have hfw102_9 := blk_frozen BK102.out 9; have hcw102_10 : wS102.cell? ⟨gb102, 10, none⟩ = some (.slice A101_10 ((rd_T37 l0 x17_1).f10).length c101_10) := (blk_cell BK102.out 10).trans rfl; have hfw102_10 := blk_frozen BK102.out 10))
                   go_ret
                   exact ⟨by first | rfl | (simp [errW_none, errW_some] <;> rfl) | (simp [*, errW_none, errW_some] <;> rfl), by repeat (first | (with_reducible first | exact HB.out | apply below_alloc | apply pw_below_drewN | apply below_drew1 | refine below_set ?_ GE102.out) | exact HB.out)⟩
               · as_aux_lemma =>
                  rw [if_neg c7] at H
                  have c7b0 : decide (64 < x6_1) = false := decide_eq_false c7
                  clear c7
                  replace H := Option.bind_eq_some_iff.mp H
                  obtain ⟨t103, A100, H⟩ := H
                  replace H : (desc_Deep_1.l0 k1 a1 (mx x6_1 t103) l0 (l0.length : Int) (wrap64 (x17_1 + 1))) = some r := H
                  have A10 := mk0 A100
                  clear A100
                  obtain ⟨ji11, hji11⟩ : ∃ j_ : Int, (mx x6_1 t103) = j_ := ⟨_, rfl⟩
                  replace H : (desc_Deep_1.l0 k1 a1 ji11 l0 (l0.length : Int) (wrap64 (x17_1 + 1))) = some r := by first | (rw [hji11] at H; exact H) | (simp only [hji11] at H ⊢; exact H)
                  (try rw [hji11] at A10)
                  have hji11_ : (if x6_1 < t103 then t103 else x6_1) = ji11 := hji11
                  as_aux_lemma =>
                   have H' := mk0 H
                   clear H
                   have p101 : 0 ≤ (x17_1 : Int) := of_decide_eq_true (by first | (with_reducible assumption) | assumption)
                   have q101 : x17_1 < (l0.length : Int) := of_decide_eq_true (by first | (with_reducible assumption) | assumption)
                   obtain ⟨ad101, A101_1, c101_1, A101_2, c101_2, A101_3, c101_3, A101_4, c101_4, A101_5, c101_5, A101_6, c101_6, A101_7, c101_7, A101_8, c101_8, A101_9, c101_9, A101_10, c101_10, e101, hx101_0, hx101_1, hx101_2, hx101_3, hx101_4, hx101_5, hx101_6, hx101_7, hx101_8, hx101_9, hx101_10, hl101_1, hi101_1, hl101_2, hi101_2, hl101_3, hi101_3, hl101_4, hi101_4, hl101_5, hi101_5, hl101_6, hi101_6, hl101_7, hi101_7, hl101_8, hi101_8, hl101_9, hi101_9, hl101_10, hi101_10⟩ := at_T37 HR0.out x17_1 p101 q101
                   cases e101
                   replace hx101_0 := (HB.out.cell (World.block_lt_of_cell? w _ hx101_0)).trans hx101_0
                   replace hx101_1 := (HB.out.cell (World.block_lt_of_cell? w _ hx101_1)).trans hx101_1
                   replace hx101_2 := (HB.out.cell (World.block_lt_of_cell? w _ hx101_2)).trans hx101_2
                   replace hx101_3 := (HB.out.cell (World.block_lt_of_cell? w _ hx101_3)).trans hx101_3
                   replace hx101_4 := (HB.out.cell (World.block_lt_of_cell? w _ hx101_4)).trans hx101_4
                   replace hx101_5 := (HB.out.cell (World.block_lt_of_cell? w _ hx101_5)).trans hx101_5
                   replace hx101_6 := (HB.out.cell (World.block_lt_of_cell? w _ hx101_6)).trans hx101_6
                   replace hx101_7 := (HB.out.cell (World.block_lt_of_cell? w _ hx101_7)).trans hx101_7
                   replace hx101_8 := (HB.out.cell (World.block_lt_of_cell? w _ hx101_8)).trans hx101_8
                   replace hx101_9 := (HB.out.cell (World.block_lt_of_cell? w _ hx101_9)).trans hx101_9
                   replace hx101_10 := (HB.out.cell (World.block_lt_of_cell? w _ hx101_10)).trans hx101_10
                   have HR101_1 := mk0 hi101_1
                   have HC101_1 := mk0 hl101_1
                   clear hi101_1 hl101_1
                   have HR101_2 := mk0 hi101_2
                   have HC101_2 := mk0 hl101_2
                   clear hi101_2 hl101_2
                   have HR101_3 := mk0 hi101_3
                   have HC101_3 := mk0 hl101_3
                   clear hi101_3 hl101_3
                   have HR101_4 := mk0 hi101_4
                   have HC101_4 := mk0 hl101_4
                   clear hi101_4 hl101_4
                   have HR101_5 := mk0 hi101_5
                   have HC101_5 := mk0 hl101_5
                   clear hi101_5 hl101_5
                   have HR101_6 := mk0 hi101_6
                   have HC101_6 := mk0 hl101_6
                   clear hi101_6 hl101_6
                   have HR101_7 := mk0 hi101_7
                   have HC101_7 := mk0 hl101_7
                   clear hi101_7 hl101_7
                   have HR101_8 := mk0 hi101_8
                   have HC101_8 := mk0 hl101_8
                   clear hi101_8 hl101_8
                   have HR101_9 := mk0 hi101_9
                   have HC101_9 := mk0 hl101_9
                   clear hi101_9 hl101_9
                   have HR101_10 := mk0 hi101_10
                   have HC101_10 := mk0 hl101_10
                   clear hi101_10 hl101_10
                   replace p101 := eq_true p101
                   replace q101 := eq_true q101
                   go_wp2_with (first | ((with_reducible refine gate_dst (N := 8) rfl ?_); refine box_event ?hg (N := 8) ?hd (cs := #[.string (⟨#[]⟩ : ByteArray), .slice none 0 0, .slice none 0 0, .slice none 0 0, .slice none 0 0, .slice none 0 0, .slice none 0 0, .slice none 0 0, .slice none 0 0, .slice none 0 0, .slice none 0 0]) (t := 37) ?hr ?_; (case hd => rfl); (case hg => rfl); (case hr => first | (go_simp; done) | (go_simp; rfl)); intro gb102 hg w12 hbox hb; have n0_ := mk0 (below_step (by repeat (first | (with_reducible first | exact HB.out | apply below_alloc | apply pw_below_drewN | apply below_drew1) | exact HB.out)) hb); have n1_ := mk0 (hbox); have n2_ := mk0 ((by rw [hg]; exact (below_size (by repeat (first | (with_reducible first | exact HB.out | apply below_alloc | apply pw_below_drewN | apply below_drew1) | exact HB.out))) : w.heap.size ≤ gb102)); have n3_ := mk0 ((by rw [hg]; exact (below_size (by repeat (first | (with_reducible first | exact HB.out | apply below_alloc | apply pw_below_drewN | apply below_drew1) | exact HB.out))) : w.heap.size ≤ gb102)); clear HB; have HB := n0_; have BK102 := n1_; have GW102 := n2_; have GE102 := n3_; clear n0_ n1_ n2_ n3_; have hcq : _ = some ((.func (.func 18) #[] #[.pointer (some ⟨q, 0, none⟩)]) : Value) := (blk_cell (blk_below HQ.out HB.out) 0).trans rfl; have hqn : q ≠ gb102 := Nat.ne_of_lt (Nat.lt_of_lt_of_le (blk_lt HQ.out) GE102.out); have hqm := hqn.symm; clear hb hbox hg; have hcz13_0 : w12.cell? ⟨gb102, 0, none⟩ = some (.string (⟨#[]⟩ : ByteArray)) := (blk_cell BK102.out 0).trans rfl; have hcz13_1 : w12.cell? ⟨gb102, 1, none⟩ = some (.slice none 0 0) := (blk_cell BK102.out 1).trans rfl; have hcz13_2 : w12.cell? ⟨gb102, 2, none⟩ = some (.slice none 0 0) := (blk_cell BK102.out 2).trans rfl; have hcz13_3 : w12.cell? ⟨gb102, 3, none⟩ = some (.slice none 0 0) := (blk_cell BK102.out 3).trans rfl; have hcz13_4 : w12.cell? ⟨gb102, 4, none⟩ = some (.slice none 0 0) := (blk_cell BK102.out 4).trans rfl; have hcz13_5 : w12.cell? ⟨gb102, 5, none⟩ = some (.slice none 0 0) := (blk_cell BK102.out 5).trans rfl; have hcz13_6 : w12.cell? ⟨gb102, 6, none⟩ = some (.slice none 0 0) := (blk_cell BK102.out 6).trans rfl; have hcz13_7 : w12.cell? ⟨gb102, 7, none⟩ = some (.slice none 0 0) := (blk_cell BK102.out 7).trans rfl; have hcz13_8 : w12.cell? ⟨gb102, 8, none⟩ = some (.slice none 0 0) := (blk_cell BK102.out 8).trans rfl; have hcz13_9 : w12.cell? ⟨gb102, 9, none⟩ = some (.slice none 0 0) := (blk_cell BK102.out 9).trans rfl; have hcz13_10 : w12.cell? ⟨gb102, 10, none⟩ = some (.slice none 0 0) := (blk_cell BK102.out 10).trans rfl; have hfz13_0 := blk_frozen BK102.out 0; have hfz13_1 := blk_frozen BK102.out 1; have hfz13_2 := blk_frozen BK102.out 2; have hfz13_3 := blk_frozen BK102.out 3; have hfz13_4 := blk_frozen BK102.out 4; have hfz13_5 := blk_frozen BK102.out 5; have hfz13_6 := blk_frozen BK102.out 6; have hfz13_7 := blk_frozen BK102.out 7; have hfz13_8 := blk_frozen BK102.out 8; have hfz13_9 := blk_frozen BK102.out 9; have hfz13_10 := blk_frozen BK102.out 10) | (go_at_call 18; (with_reducible refine (ih k1 (by have := HK1.out; omega) _ _ ((rd_T37 l0 x17_1).f2) (wrap64 (a1 + 1)) t103 _ ?side1 ?side2 q (blk_below HQ.out (by repeat (first | (with_reducible first | exact HB.out | apply below_alloc | apply pw_below_drewN | apply below_drew1 | refine below_set ?_ GE102.out) | exact HB.out))) A10.out).mono ?_); (case side1 => exact Kd.C_below HR101_2.out (by repeat (first | (with_reducible first | exact HB.out | apply below_alloc | apply pw_below_drewN | apply below_drew1 | refine below_set ?_ GE102.out) | exact HB.out))); (case side2 => exact HC101_2.out); rintro e w14 ⟨rfl, hb⟩; have n0_ := mk0 (blk_below (g := gb102) (o := .cells #[.string ((rd_T37 l0 x17_1).f0), .slice A101_1 ((rd_T37 l0 x17_1).f1).length c101_1, .slice A101_2 ((rd_T37 l0 x17_1).f2).length c101_2, .slice A101_3 ((rd_T37 l0 x17_1).f3).length c101_3, .slice A101_4 ((rd_T37 l0 x17_1).f4).length c101_4, .slice A101_5 ((rd_T37 l0 x17_1).f5).length c101_5, .slice A101_6 ((rd_T37 l0 x17_1).f6).length c101_6, .slice A101_7 ((rd_T37 l0 x17_1).f7).length c101_7, .slice A101_8 ((rd_T37 l0 x17_1).f8).length c101_8, .slice A101_9 ((rd_T37 l0 x17_1).f9).length c101_9, .slice A101_10 ((rd_T37 l0 x17_1).f10).length c101_10] 37 (0, 0)) (by (with_reducible repeat (first | refine blk_drewN ?_ _ | refine blk_drew ?_ | refine blk_alloc ?_ _)); (with_reducible repeat (first | refine blk_drewN ?_ _ | refine blk_drew ?_ | refine blk_alloc ?_ _)); (with_reducible repeat (first | refine blk_drewN ?_ _ | refine blk_drew ?_ | refine blk_alloc ?_ _)); (with_reducible repeat (first | refine blk_drewN ?_ _ | refine blk_drew ?_ | refine blk_alloc ?_ _)); (with_reducible repeat (first | refine blk_drewN ?_ _ | refine blk_drew ?_ | refine blk_alloc ?_ _)); (with_reducible repeat (first | refine blk_drewN ?_ _ | refine blk_drew ?_ | refine blk_alloc ?_ _)); (with_reducible repeat (first | refine blk_drewN ?_ _ | refine blk_drew ?_ | refine blk_alloc ?_ _)); (with_reducible repeat (first | refine blk_drewN ?_ _ | refine blk_drew ?_ | refine blk_alloc ?_ _)); (with_reducible repeat (first | refine blk_drewN ?_ _ | refine blk_drew ?_ | refine blk_alloc ?_ _)); (with_reducible repeat (first | refine blk_drewN ?_ _ | refine blk_drew ?_ | refine blk_alloc ?_ _)); (with_reducible repeat (first | refine blk_drewN ?_ _ | refine blk_drew ?_ | refine blk_alloc ?_ _)); (with_reducible repeat (first | refine blk_drewN ?_ _ | refine blk_drew ?_ | refine blk_alloc ?_ _)); exact BK102.out) hb); have n1_ := mk0 (below_step (by repeat (first | (with_reducible first | exact HB.out | apply below_alloc | apply pw_below_drewN | apply below_drew1 | refine below_set ?_ GE102.out) | exact HB.out)) hb); clear BK102; clear HB; have BK102 := n0_; have HB := n1_; clear n0_ n1_; (try clear hb); (try clear hb2); (try clear hk); (try clear hi)) | ((with_reducible refine gate_store (t := 37) (p := 8) rfl ?_); refine Go.Proofs.Yticnihfjnjliiaa.Sw.store_whole rfl rfl rfl gb102 37 _ _ rfl rfl BK102.out (by kernel_rfl) rfl rfl ?_; intro wS102 hS_ hbS_ hkS_; have HBn_ := mk0 (hbS_ _ _ GE102.out HB.out); clear HB; clear BK102; have HB := HBn_; have BK102 := mk0 hS_; have hkS102 := hkS_; clear HBn_ hS_ hbS_ hkS_; have hcw102_0 : wS102.cell? ⟨gb102, 0, none⟩ = some (.string ((rd_T37 l0 x17_1).f0)) := (blk_cell BK102.out 0).trans rfl; have hfw102_0 := blk_frozen BK102.out 0; have hcw102_1 : wS102.cell? ⟨gb102, 1, none⟩ = some (.slice A101_1 ((rd_T37 l0 x17_1).f1).length c101_1) := (blk_cell BK102.out 1).trans rfl; have hfw102_1 := blk_frozen BK102.out 1; have hcw102_2 : wS102.cell? ⟨gb102, 2, none⟩ = some (.slice A101_2 ((rd_T37 l0 x17_1).f2).length c101_2) := (blk_cell BK102.out 2).trans rfl; have hfw102_2 := blk_frozen BK102.out 2; have hcw102_3 : wS102.cell? ⟨gb102, 3, none⟩ = some (.slice A101_3 ((rd_T37 l0 x17_1).f3).length c101_3) := (blk_cell BK102.out 3).trans rfl; have hfw102_3 := blk_frozen BK102.out 3; have hcw102_4 : wS102.cell? ⟨gb102, 4, none⟩ = some (.slice A101_4 ((rd_T37 l0 x17_1).f4).length c101_4) := (blk_cell BK102.out 4).trans rfl; have hfw102_4 := blk_frozen BK102.out 4; have hcw102_5 : wS102.cell? ⟨gb102, 5, none⟩ = some (.slice A101_5 ((rd_T37 l0 x17_1).f5).length c101_5) := (blk_cell BK102.out 5).trans rfl; have hfw102_5 := blk_frozen BK102.out 5; have hcw102_6 : wS102.cell? ⟨gb102, 6, none⟩ = some (.slice A101_6 ((rd_T37 l0 x17_1).f6).length c101_6) := (blk_cell BK102.out 6).trans rfl; have hfw102_6 := blk_frozen BK102.out 6; have hcw102_7 : wS102.cell? ⟨gb102, 7, none⟩ = some (.slice A101_7 ((rd_T37 l0 x17_1).f7).length c101_7) := (blk_cell BK102.out 7).trans rfl; have hfw102_7 := blk_frozen BK102.out 7; have hcw102_8 : wS102.cell? ⟨gb102, 8, none⟩ = some (.slice A101_8 ((rd_T37 l0 x17_1).f8).length c101_8) := (blk_cell BK102.out 8).trans rfl; have hfw102_8 := blk_frozen BK102.out 8; have hcw102_9 : wS102.cell? ⟨gb102, 9, none⟩ = some (.slice A101_9 ((rd_T37 l0 x17_1).f9).length c101_9) := (blk_cell BK102.out 9).trans rfl; have hfw102_9 := blk_frozen BK102.out 9; have hcw102_10 : wS102.cell? ⟨gb102, 10, none⟩ = some (.slice A101_10 ((rd_T37 l0 x17_1).f10).length c101_10) := (blk_cell BK102.out 10).trans rfl; have hfw102_10 := blk_frozen BK102.out 10; have hcq : _ = some ((.func (.func 18) #[] #[.pointer (some ⟨q, 0, none⟩)]) : Value) := (blk_cell (blk_below HQ.out HB.out) 0).trans rfl))
                   go_roundg k1
                   case measure => have := HK1.out; omega
                   case rel => exact ⟨(ji11), (wrap64 (x17_1 + 1)), (by first | rfl | (simp; done) | (simp only [← hji11] <;> (first | rfl | simp)) | (simp [*]; done)), (by first | rfl | (simp; done) | (simp [*]; done)), H', ⟨by have := HK1.out; omega⟩, ⟨by repeat (first | (with_reducible first | exact HB.out | apply below_alloc | apply pw_below_drewN | apply below_drew1 | refine below_set ?_ GE102.out) | exact HB.out)⟩⟩
            · rw [if_neg c6] at H
              exact absurd H (by simp)
         · rw [if_neg c5] at H
           exact absurd H (by simp)
      · as_aux_lemma =>
         rw [if_neg c4] at H
         have c4b0 : decide (x17_1 < (l0.length : Int)) = false := decide_eq_false c4
         clear c4
         as_aux_lemma =>
          obtain rfl := Option.some.inj H
          go_wp2
          go_ret
          exact ⟨by first | rfl | (simp [errW_none, errW_some] <;> rfl) | (simp [*, errW_none, errW_some] <;> rfl), by repeat (first | (with_reducible first | exact HB.out | apply below_alloc | apply pw_below_drewN | apply below_drew1) | exact HB.out)⟩
theorem aw_heap_two (w : World) (o o' : Obj) : ((w.alloc o).alloc o').heap[w.heap.size + 1]? = some o' := by
 show ((w.heap.push o).push o')[w.heap.size + 1]? = some o'
 rw [show w.heap.size + 1 = (w.heap.push o).size from (Array.size_push ..).symm, Array.getElem?_push_size]
def desc_Deep.f (k : Nat) (a0_0 : ByteArray) (a0_1 : ByteArray) (l0_2 : List ByteArray) (l0_3 : List Int) (l0_4 : List (S37)) (l0_5 : List (S60)) (l0_6 : List (S65)) (l0_7 : List (S69)) (a0_8 : ByteArray) (l0_9 : List Int) (l0_10 : List Int) : Option (Int) := (desc_Deep_1.f k l0_4 0).bind fun t157 => (if t157 ≤ 64 then (some t157) else (some 100))
set_option maxHeartbeats 8000000 in
set_option maxRecDepth 100000 in
theorem desc_Deep.calls (k : Nat) (a0_0 : ByteArray) (a0_1 : ByteArray) (A0_2 : Option Addr) (c0_2 : Nat) (l0_2 : List ByteArray) (A0_3 : Option Addr) (c0_3 : Nat) (l0_3 : List Int) (A0_4 : Option Addr) (c0_4 : Nat) (l0_4 : List (S37)) (A0_5 : Option Addr) (c0_5 : Nat) (l0_5 : List (S60)) (A0_6 : Option Addr) (c0_6 : Nat) (l0_6 : List (S65)) (A0_7 : Option Addr) (c0_7 : Nat) (l0_7 : List (S69)) (a0_8 : ByteArray) (A0_9 : Option Addr) (c0_9 : Nat) (l0_9 : List Int) (A0_10 : Option Addr) (c0_10 : Nat) (l0_10 : List Int) (r : Int) (w : World) (hr0_2 : Kd.C Kd.string w A0_2 l0_2.length l0_2) (hc0_2 : l0_2.length ≤ c0_2) (hr0_3 : Kd.C (Kd.int .i64) w A0_3 l0_3.length l0_3) (hc0_3 : l0_3.length ≤ c0_3) (hr0_4 : Kd.C k37 w A0_4 l0_4.length l0_4) (hc0_4 : l0_4.length ≤ c0_4) (hr0_5 : Kd.C k60 w A0_5 l0_5.length l0_5) (hc0_5 : l0_5.length ≤ c0_5) (hr0_6 : Kd.C k65 w A0_6 l0_6.length l0_6) (hc0_6 : l0_6.length ≤ c0_6) (hr0_7 : Kd.C k69 w A0_7 l0_7.length l0_7) (hc0_7 : l0_7.length ≤ c0_7) (hr0_9 : Kd.C (Kd.int .u8) w A0_9 l0_9.length l0_9) (hc0_9 : l0_9.length ≤ c0_9) (hr0_10 : Kd.C (Kd.int .u8) w A0_10 l0_10.length l0_10) (hc0_10 : l0_10.length ≤ c0_10) (h : desc_Deep.f k a0_0 a0_1 l0_2 l0_3 l0_4 l0_5 l0_6 l0_7 a0_8 l0_9 l0_10 = some r) :
 Calls Try.prog 10 #[.agg #[.string a0_0, .string a0_1, .slice A0_2 l0_2.length c0_2, .slice A0_3 l0_3.length c0_3, .slice A0_4 l0_4.length c0_4, .slice A0_5 l0_5.length c0_5, .slice A0_6 l0_6.length c0_6, .slice A0_7 l0_7.length c0_7, .string a0_8, .slice A0_9 l0_9.length c0_9, .slice A0_10 l0_10.length c0_10]] w fun e w' => e = .returned (.int .i64 r) ∧ Below w.heap.size w w' := by
 have HB := mk0 (Below.refl w.heap.size w)
 have hsf := fun (a : Addr) (c : Array Value) (w : World) => run_store Try.prog w a (.func (.func 18) #[] c) .plain rfl
 unfold desc_Deep.f at h
 replace h := Option.bind_eq_some_iff.mp h
 obtain ⟨d, hd, h⟩ := h
 by_cases hle : d ≤ 64
 · rw [if_pos hle] at h
   obtain rfl := Option.some.inj h
   have hb1 : decide (d ≤ 64) = true := decide_eq_true hle
   go_enter Try.func10, Try.ntmps10
   go_wp2_with (first | (go_at_call 18; refine (desc_Deep_1.calls k _ _ l0_4 0 d _ (Kd.C_alloc (Kd.C_alloc hr0_4 _) _) hc0_4 (w.heap.size + 1) ?sq hd).mono ?_; (case sq => exact aw_heap_two _ _ _); rintro e w1 ⟨rfl, hb⟩))
   go_ret
   exact ⟨rfl, below_step (by repeat (first | (with_reducible first | exact HB.out | apply below_alloc | apply pw_below_drewN | apply below_drew1) | exact HB.out)) hb⟩
 · rw [if_neg hle] at h
   obtain rfl := Option.some.inj h
   have hb1 : decide (d ≤ 64) = false := decide_eq_false hle
   go_enter Try.func10, Try.ntmps10
   go_wp2_with (first | (go_at_call 18; refine (desc_Deep_1.calls k _ _ l0_4 0 d _ (Kd.C_alloc (Kd.C_alloc hr0_4 _) _) hc0_4 (w.heap.size + 1) ?sq hd).mono ?_; (case sq => exact aw_heap_two _ _ _); rintro e w1 ⟨rfl, hb⟩))
   go_ret
   exact ⟨rfl, below_step (by repeat (first | (with_reducible first | exact HB.out | apply below_alloc | apply pw_below_drewN | apply below_drew1) | exact HB.out)) hb⟩
def wire_kind.f (a0 : Int) : Option (Int × Bool) := if a0 = 1 then (some (8, true)) else (if a0 = 5 then (some (4, true)) else (if a0 = 0 then (some (0, true)) else (if a0 = 2 then (some (0, true)) else (some (0, false)))))
def varint_Fixed.l0 : Nat → Int → List Int → Int → Int → Option (List Int)
 | 0, _, _, _, _ => none
 | k + 1, x0, x5, x12, x13 => if x13 < x12 then (if 0 ≤ (wrap64 (8 * x13)) then (if 0 ≤ x13 then (if x13 < (x5.length : Int) then (varint_Fixed.l0 k x0 (x5.set (x13 : Int).toNat ((shr .u64 x0 (wrap64 (8 * x13))) % 256)) x12 (wrap64 (x13 + 1))) else (none)) else (none)) else (none)) else (some x5)
def varint_Fixed.f (k : Nat) (a0 : Int) (a1 : Int) : Option (List Int) := if 0 ≤ (mn (mx a1 0) 8) then (if (mn (mx a1 0) 8 : Int).toNat ≤ 281474976710656 then ((some (List.replicate (mn (mx a1 0) 8 : Int).toNat 0 : List Int)).bind fun y104 => (varint_Fixed.l0 k a0 y104 (y104.length : Int) 0)) else (none)) else (none)
def wire_Put.j0 : Nat → Int → Bool → Int → Int → Int → List Int → Option (List Int × Int)
 | 0, _, _, _, _, _, _ => none
 | k + 1, x4, x24, x109000, x109001, x109002, x109003 => if x24 = true then (some (([] : List Int), 20)) else ((varint_Put.f k (Go.bits .or .u64 (IntKind.u64.wrap ((IntKind.u64.wrap (x109000)) * 8)) (IntKind.u64.wrap (x109001)))).bind fun t111 => (if x4 > 0 then ((varint_Fixed.f k x109002 x4).bind fun t114 => (if t111.length + t114.length < 140737488355328 then (some ((t111 ++ t114), 0)) else (none))) else (if x109001 = 0 then ((varint_Put.f k x109002).bind fun t120 => (if t111.length + t120.length < 140737488355328 then (some ((t111 ++ t120), 0)) else (none))) else ((varint_Put.f k (IntKind.u64.wrap ((x109003.length : Int)))).bind fun t126 => (if t111.length + t126.length < 140737488355328 then ((some (t111 ++ t126 : List Int)).bind fun y129 => (if y129.length + x109003.length < 140737488355328 then (some ((y129 ++ x109003), 0)) else (none))) else (none))))))
def wire_Put.f (k : Nat) (a0_0 : Int) (a0_1 : Int) (a0_2 : Int) (l0_3 : List Int) : Option (List Int × Int) := (wire_kind.f a0_1).bind fun bt109 => (if bt109.2 = true then (if a0_0 < 1 then (wire_Put.j0 k bt109.1 true a0_0 a0_1 a0_2 l0_3) else (wire_Put.j0 k bt109.1 (decide (a0_0 > 536870911)) a0_0 a0_1 a0_2 l0_3)) else (wire_Put.j0 k bt109.1 true a0_0 a0_1 a0_2 l0_3))
end Go.Proofs.Yticnihfjnjliiaa.GDescGrows
