/- Written by gprint.py of this session: the kit's printer, with functions that are proved by hand put in. -/
import Derived.Test.YteopaifokfmnjaaGWireBackx0
import Derived.Test.YteopaifokfmnjaaGWireBackx1
namespace Go.Proofs.Yteopaifokfmnjaa.GWireBack
open Go.Proofs.Yteopaifokfmnjaa.Pt Go.Proofs.Yteopaifokfmnjaa.Tk Go.Proofs.Yteopaifokfmnjaa.Cl Go.Proofs.Yteopaifokfmnjaa.Fl
open Go.RowKit Go.Proofs.YteopaifokfmnjaaW.PrintWords Go.Proofs.YteopaifokfmnjaaW.PrintLast Go.Proofs.YteopaifokfmnjaaW.PrintMore
attribute [local go_sem] max2_int min2_int max_two min_two max_three min_three max_four min_four   -- for this text's walks alone
set_option linter.unusedVariables false
set_option linter.unusedSimpArgs false

/-! ### wire_Write: function 16 -/
def wire_Write.l0 : Nat → List Int → List (S25) → Int → Int → Option (List Int × Int)
  | 0, _, _, _, _ => none
  | k + 1, x4, x9, x10, x11 => if x11 < x10 then (if 0 ≤ x11 then (if x11 < (x9.length : Int) then ((wire_Put.f k ((rd_T25 x9 x11).f0) ((rd_T25 x9 x11).f1) ((rd_T25 x9 x11).f2) ((rd_T25 x9 x11).f3)).bind fun bt140 => (if bt140.2 = 0 then (if x4.length + bt140.1.length < 140737488355328 then (wire_Write.l0 k (x4 ++ bt140.1) x9 x10 (wrap64 (x11 + 1))) else (none)) else (some (([] : List Int), bt140.2)))) else (none)) else (none)) else (some (x4, 0))
def wire_Write.f (k : Nat) (l0 : List (S25)) : Option (List Int × Int) := wire_Write.l0 k ([] : List Int) l0 (l0.length : Int) 0
theorem wire_Write.mono_l : ∀ k, (∀ y0 y1 y2 y3, LeO (wire_Write.l0 k y0 y1 y2 y3) (wire_Write.l0 (k + 1) y0 y1 y2 y3))
  | 0 => fun _ _ _ _ r h => by simp [wire_Write.l0] at h
  | k + 1 => by
    have ih0 := wire_Write.mono_l k
    · intro y0 y1 y2 y3
      unfold wire_Write.l0
      repeat' first
      | (with_reducible exact ih0 _ _ _ _)
      | (with_reducible exact wire_Put.mono _ _ _ _ _)
      | (with_reducible exact LeO.refl _)
      | (with_reducible exact LeO.none _)
      | (with_reducible refine LeO.ite ?_ ?_)
      | (with_reducible refine LeO.bind ?_ (fun _ => ?_))
      | exact ih0 _ _ _ _
      | exact wire_Put.mono _ _ _ _ _
      | exact LeO.none _
      | refine LeO.ite ?_ ?_
      | refine LeO.bind ?_ (fun _ => ?_)
theorem wire_Write.mono : ∀ a0 k, LeO (wire_Write.f k a0) (wire_Write.f (k + 1) a0) := by
  intro a0 k
  have ih0 := wire_Write.mono_l k
  unfold wire_Write.f
  repeat' first
      | (with_reducible exact ih0 _ _ _ _)
      | (with_reducible exact wire_Put.mono _ _ _ _ _)
      | (with_reducible exact LeO.refl _)
      | (with_reducible exact LeO.none _)
      | (with_reducible refine LeO.ite ?_ ?_)
      | (with_reducible refine LeO.bind ?_ (fun _ => ?_))
      | exact ih0 _ _ _ _
      | exact wire_Put.mono _ _ _ _ _
      | exact LeO.none _
      | refine LeO.ite ?_ ?_
      | refine LeO.bind ?_ (fun _ => ?_)
set_option maxHeartbeats 8000000 in
set_option maxRecDepth 100000 in
theorem wire_Write.calls (k : Nat) (A0 : Option Addr) (c0 : Nat) (l0 : List (S25)) (r1 : List Int) (r2 : Int) (w : World) (hr0 : Kd.C k25 w A0 l0.length l0) (hc0 : l0.length ≤ c0) (h : wire_Write.f k l0 = some (r1, r2)) :
    Calls Try.prog 16 #[.slice A0 l0.length c0] w fun e w' => ∃ v0_ : Value, e = .returned (.tuple #[v0_, .int .i64 r2]) ∧ Kd.R (Kd.int .u8) 5 w' w.heap.size (fun _ => True) v0_ r1 ∧ Below w.heap.size w w' := by
  have hu25 := Try.underlying25
  have HR0 := Aside0.mk hr0
  have HC0 := Aside0.mk hc0
  clear hr0 hc0
  have HB := Aside0.mk (Below.refl w.heap.size w)
  have H : (wire_Write.l0 k ([] : List Int) l0 (l0.length : Int) 0) = some (r1, r2) := h
  clear h
  have H' := Aside0.mk H
  clear H
  go_enter Try.func16, Try.ntmps16
  go_wp2
  go_loopg [4, 11] k (fun kq v4 v11 w' => ∃ (x4_1 : List Int) (x11_1 : Int), v11 = .int .i64 x11_1 ∧ Aside0 (wire_Write.l0 kq x4_1 l0 (l0.length : Int) x11_1 = some (r1, r2)) ∧ Aside0 (kq ≤ k) ∧ Aside0 (Kd.R (Kd.int .u8) 5 w' w.heap.size (fun _ => True) v4 x4_1) ∧ Aside0 (Below w.heap.size w w'))
  case atStart => exact ⟨(([] : List Int)), (0), (by first | rfl | (simp; done) | (simp [*]; done)), H', ⟨Nat.le_refl _⟩, ⟨by first | exact Kd.R_nil _ _ _ _ _ | exact Kd.N_nil _ _ _ _ _ | exact Kd.V_nil _ _ _ _ _ | exact Kd.Q_nil _ _ _ _ _ | exact Kd.S_nil _ _ _ _ _⟩, ⟨by repeat (first | (with_reducible first | exact HB.out | apply below_alloc | apply pw_below_drewN | apply below_drew1) | exact HB.out)⟩⟩
  case round =>
    clear H'
    try clear c1
    obtain ⟨x4_1, x11_1, rfl, HA, HK1, HO_4, HB⟩ := hrel
    cases gk with
    | zero => exact absurd HA.out (by simp [wire_Write.l0])
    | succ k1 =>
      have H := HA.out
      clear HA
      simp only [wire_Write.l0] at H
      by_cases c2 : x11_1 < (l0.length : Int)
      · as_aux_lemma =>
          rw [if_pos c2] at H
          have c2b0 : decide (x11_1 < (l0.length : Int)) = true := decide_eq_true c2
          clear c2
          by_cases c3 : 0 ≤ x11_1
          · as_aux_lemma =>
              rw [if_pos c3] at H
              have c3b0 : decide (0 ≤ x11_1) = true := decide_eq_true c3
              clear c3
              by_cases c4 : x11_1 < (l0.length : Int)
              · as_aux_lemma =>
                  rw [if_pos c4] at H
                  have c4b0 : decide (x11_1 < (l0.length : Int)) = true := decide_eq_true c4
                  clear c4
                  replace H := Option.bind_eq_some_iff.mp H
                  obtain ⟨⟨t140, t143⟩, A50, H⟩ := H
                  replace H : (if t143 = 0 then (if x4_1.length + t140.length < 140737488355328 then (wire_Write.l0 k1 (x4_1 ++ t140) l0 (l0.length : Int) (wrap64 (x11_1 + 1))) else (none)) else (some (([] : List Int), t143))) = some (r1, r2) := H
                  have A5 := Aside0.mk A50
                  clear A50
                  by_cases c6 : t143 = 0
                  · as_aux_lemma =>
                      rw [if_pos c6] at H
                      have c6b0 : (t143 == 0) = true := beq_iff_eq.mpr c6
                      have c6b1 : (t143 != 0) = false := bne_eq_false_iff_eq.mpr c6
                      clear c6
                      by_cases c7 : x4_1.length + t140.length < 140737488355328
                      · as_aux_lemma =>
                          rw [if_pos c7] at H
                          have LMc7 := Aside0.mk c7
                          clear c7
                          obtain ⟨y144, hy144⟩ : ∃ y_ : List Int, y_ = (x4_1 ++ t140) := ⟨_, rfl⟩
                          replace H : (wire_Write.l0 k1 y144 l0 (l0.length : Int) (wrap64 (x11_1 + 1))) = some (r1, r2) := by first | (rw [hy144]; with_reducible exact H) | (have H2_ := (Option.bind_some _ _).symm.trans H; rw [hy144]; with_reducible exact H2_) | (have H2_ := (Option.bind_some _ _).symm.trans H; with_reducible exact H2_) | with_reducible exact H | (rw [hy144]; exact H) | exact H
                          have Ny144 := Aside0.mk hy144
                          clear hy144
                          as_aux_lemma =>
                            have H' := Aside0.mk H
                            clear H
                            have p138 : 0 ≤ (x11_1 : Int) := of_decide_eq_true (by first | (with_reducible assumption) | assumption)
                            have q138 : x11_1 < (l0.length : Int) := of_decide_eq_true (by first | (with_reducible assumption) | assumption)
                            obtain ⟨ad138, A138_3, c138_3, e138, hx138_0, hx138_1, hx138_2, hx138_3, hl138_3, hi138_3⟩ := at_T25 HR0.out x11_1 p138 q138
                            cases e138
                            replace hx138_0 := (HB.out.cell (World.block_lt_of_cell? w _ hx138_0)).trans hx138_0
                            replace hx138_1 := (HB.out.cell (World.block_lt_of_cell? w _ hx138_1)).trans hx138_1
                            replace hx138_2 := (HB.out.cell (World.block_lt_of_cell? w _ hx138_2)).trans hx138_2
                            replace hx138_3 := (HB.out.cell (World.block_lt_of_cell? w _ hx138_3)).trans hx138_3
                            have HR138_3 := Aside0.mk hi138_3
                            have HC138_3 := Aside0.mk hl138_3
                            clear hi138_3 hl138_3
                            replace p138 := eq_true p138
                            replace q138 := eq_true q138
                            go_wp2_with (first | ((with_reducible refine gate_dst (N := 6) rfl ?_); refine box_event ?hg (N := 6) ?hd (cs := #[.int .i64 0, .int .i64 0, .int .u64 0, .slice none 0 0]) (t := 25) ?hr ?_; (case hd => rfl); (case hg => rfl); (case hr => first | (go_simp; done) | (go_simp; rfl)); intro gb139 hg w8 hbox hb; have n0_ := Aside0.mk (Kd.R_below (by (with_reducible repeat (first | apply Kd.R_alloc | apply Kd.R_drewN | apply Kd.R_drew)); exact HO_4.out) hb); have n1_ := Aside0.mk (below_step (by repeat (first | (with_reducible first | exact HB.out | apply below_alloc | apply pw_below_drewN | apply below_drew1) | exact HB.out)) hb); have n2_ := Aside0.mk (hbox); have n3_ := Aside0.mk ((by rw [hg]; exact (below_size (by repeat (first | (with_reducible first | exact HB.out | apply below_alloc | apply pw_below_drewN | apply below_drew1) | exact HB.out))) : w.heap.size ≤ gb139)); have n4_ := Aside0.mk ((by rw [hg]; exact (below_size (by repeat (first | (with_reducible first | exact HB.out | apply below_alloc | apply pw_below_drewN | apply below_drew1) | exact HB.out))) : w.heap.size ≤ gb139)); clear HO_4; clear HB; have HO_4 := n0_; have HB := n1_; have BK139 := n2_; have GW139 := n3_; have GE139 := n4_; clear n0_ n1_ n2_ n3_ n4_; clear hb hbox hg; have hcz9_0 : w8.cell? ⟨gb139, 0, none⟩ = some (.int .i64 0) := (blk_cell BK139.out 0).trans rfl; have hcz9_1 : w8.cell? ⟨gb139, 1, none⟩ = some (.int .i64 0) := (blk_cell BK139.out 1).trans rfl; have hcz9_2 : w8.cell? ⟨gb139, 2, none⟩ = some (.int .u64 0) := (blk_cell BK139.out 2).trans rfl; have hcz9_3 : w8.cell? ⟨gb139, 3, none⟩ = some (.slice none 0 0) := (blk_cell BK139.out 3).trans rfl; have hfz9_0 := blk_frozen BK139.out 0; have hfz9_1 := blk_frozen BK139.out 1; have hfz9_2 := blk_frozen BK139.out 2; have hfz9_3 := blk_frozen BK139.out 3) | ((with_reducible refine gate_callee (f := 12) rfl ?_); refine goesL_ (some 17) rfl rfl Try.func12 (by kernel_rfl) rfl #[.agg #[.int .i64 ((rd_T25 l0 x11_1).f0), .int .i64 ((rd_T25 l0 x11_1).f1), .int .u64 ((rd_T25 l0 x11_1).f2), .slice A138_3 ((rd_T25 l0 x11_1).f3).length c138_3]] rfl (by (try simp only [List.map_toArray, List.map_cons, List.map_nil]); first | done | rfl | (simp only [List.length_drop, List.length_take]; rfl)) ?_; (with_reducible refine (wire_Put.calls k1 ((rd_T25 l0 x11_1).f0) ((rd_T25 l0 x11_1).f1) ((rd_T25 l0 x11_1).f2) _ _ ((rd_T25 l0 x11_1).f3) t140 t143 _ ?side1 ?side2 A5.out).mono ?_); (case side1 => exact Kd.C_below HR138_3.out (by repeat (first | (with_reducible first | exact HB.out | apply below_alloc | apply pw_below_drewN | apply below_drew1 | refine below_set ?_ GE139.out) | exact HB.out))); (case side2 => exact HC138_3.out); rintro e w10 ⟨v141, rfl, ho0, hb⟩; refine ⟨_, rfl, ?_⟩; have n0_ := Aside0.mk (Kd.R_elder' (by (with_reducible repeat (first | apply Kd.R_alloc | apply Kd.R_drewN | apply Kd.R_drew)); exact (Kd.R_mono (Kd.R_far (p := ⟨gb139, 3, none⟩) (Kd.R_far (p := ⟨gb139, 2, none⟩) (Kd.R_far (p := ⟨gb139, 1, none⟩) (Kd.R_far (p := ⟨gb139, 0, none⟩) (Kd.R_types HO_4.out BK139.out (by decide)) (fun _ hk => hk.2) (.int .i64 ((rd_T25 l0 x11_1).f0))) (fun _ hk => hk.2) (.int .i64 ((rd_T25 l0 x11_1).f1))) (fun _ hk => hk.2) (.int .u64 ((rd_T25 l0 x11_1).f2))) (fun _ hk => hk.2) (.slice A138_3 ((rd_T25 l0 x11_1).f3).length c138_3)) (fun _ h_ => h_.1))) (Kd.R_base ho0) hb); have n1_ := Aside0.mk (Kd.R_lower (Kd.R_new' ho0 (Kd.R_lt (by (with_reducible repeat (first | apply Kd.R_alloc | apply Kd.R_drewN | apply Kd.R_drew)); exact (Kd.R_mono (Kd.R_far (p := ⟨gb139, 3, none⟩) (Kd.R_far (p := ⟨gb139, 2, none⟩) (Kd.R_far (p := ⟨gb139, 1, none⟩) (Kd.R_far (p := ⟨gb139, 0, none⟩) (Kd.R_types HO_4.out BK139.out (by decide)) (fun _ hk => hk.2) (.int .i64 ((rd_T25 l0 x11_1).f0))) (fun _ hk => hk.2) (.int .i64 ((rd_T25 l0 x11_1).f1))) (fun _ hk => hk.2) (.int .u64 ((rd_T25 l0 x11_1).f2))) (fun _ hk => hk.2) (.slice A138_3 ((rd_T25 l0 x11_1).f3).length c138_3)) (fun _ h_ => h_.1))))) (below_size (by repeat (first | (with_reducible first | exact HB.out | apply below_alloc | apply pw_below_drewN | apply below_drew1 | refine below_set ?_ GE139.out) | exact HB.out)))); have n2_ := Aside0.mk (blk_below (g := gb139) (o := .cells #[.int .i64 ((rd_T25 l0 x11_1).f0), .int .i64 ((rd_T25 l0 x11_1).f1), .int .u64 ((rd_T25 l0 x11_1).f2), .slice A138_3 ((rd_T25 l0 x11_1).f3).length c138_3] 25 (0, 0)) (by (with_reducible repeat (first | refine blk_drewN ?_ _ | refine blk_drew ?_ | refine blk_alloc ?_ _)); refine blk_put (cs := #[.int .i64 ((rd_T25 l0 x11_1).f0), .int .i64 ((rd_T25 l0 x11_1).f1), .int .u64 ((rd_T25 l0 x11_1).f2), .slice none 0 0]) ?_ 3 _ rfl; (with_reducible repeat (first | refine blk_drewN ?_ _ | refine blk_drew ?_ | refine blk_alloc ?_ _)); refine blk_put (cs := #[.int .i64 ((rd_T25 l0 x11_1).f0), .int .i64 ((rd_T25 l0 x11_1).f1), .int .u64 0, .slice none 0 0]) ?_ 2 _ rfl; (with_reducible repeat (first | refine blk_drewN ?_ _ | refine blk_drew ?_ | refine blk_alloc ?_ _)); refine blk_put (cs := #[.int .i64 ((rd_T25 l0 x11_1).f0), .int .i64 0, .int .u64 0, .slice none 0 0]) ?_ 1 _ rfl; (with_reducible repeat (first | refine blk_drewN ?_ _ | refine blk_drew ?_ | refine blk_alloc ?_ _)); refine blk_put (cs := #[.int .i64 0, .int .i64 0, .int .u64 0, .slice none 0 0]) ?_ 0 _ rfl; (with_reducible repeat (first | refine blk_drewN ?_ _ | refine blk_drew ?_ | refine blk_alloc ?_ _)); exact BK139.out) hb); have n3_ := Aside0.mk (below_step (by repeat (first | (with_reducible first | exact HB.out | apply below_alloc | apply pw_below_drewN | apply below_drew1 | refine below_set ?_ GE139.out) | exact HB.out)) hb); clear HO_4; clear BK139; clear HB; have HO_4 := n0_; have HO142 := n1_; have BK139 := n2_; have HB := n3_; clear n0_ n1_ n2_ n3_; (try clear hb); (try clear hb2); (try clear hk); (try clear hi); (try clear ho0); obtain ⟨Ao12, co12, eo12⟩ := Kd.R_slice HO142.out; subst eo12) | ((with_reducible refine gate_builtin (b := .append) (xs := #[.tmp 23, .tmp 24]) rfl ?_); at_builtin; refine Kd.R_append_rows (Kd.int .u8) (w0 := w) w.heap.size rfl (.tmp 23) (.tmp 24) 23 5 (.int .u8 0) 1 rfl Try.underlying23 info5 rfl (by decide) (by omega) u4 x4_1 t140 _ _ _ (fun k_ => some k_ ≠ (.slice Ao12 t140.length co12 : Value).ownBlock) (fun _ => False) rfl rfl ?aO ?aR (fun _ _ h => h) (fun _ h => h.elim) ?aF ?aB ?aS ?aL ?_; (case aR => repeat (first | exact (Kd.R_reads' HO142.out).2.2 | (with_reducible refine Kd.C_alloc ?_ _) | (with_reducible refine Kd.C_drewN ?_ _) | (with_reducible refine Kd.C_drew ?_))); (case aB => exact (by repeat (first | (with_reducible first | exact HB.out | apply below_alloc | apply pw_below_drewN | apply below_drew1 | refine below_set ?_ GE139.out) | exact HB.out))); (case aF => exact (fun k_ hk => Kd.fresh' (Kd.R_lt (by (with_reducible repeat (first | apply Kd.R_alloc | apply Kd.R_drewN | apply Kd.R_drew)); exact HO142.out)) k_ hk)); (case aO => exact (by (with_reducible repeat (first | apply Kd.R_alloc | apply Kd.R_drewN | apply Kd.R_drew)); exact Kd.R_mono HO_4.out (fun _ hk => hk.2))); (case aS => exact (below_size (by repeat (first | (with_reducible first | exact HB.out | apply below_alloc | apply pw_below_drewN | apply below_drew1 | refine below_set ?_ GE139.out) | exact HB.out)))); (case aL => have := LMc7.out; omega); intro v145 w11 ho hb hg hat; rw [← Ny144.out] at ho; have n0_ := Aside0.mk (blk_grown (g := gb139) (o := .cells #[.int .i64 ((rd_T25 l0 x11_1).f0), .int .i64 ((rd_T25 l0 x11_1).f1), .int .u64 ((rd_T25 l0 x11_1).f2), .slice A138_3 ((rd_T25 l0 x11_1).f3).length c138_3] 25 (0, 0)) (by (with_reducible repeat (first | refine blk_drewN ?_ _ | refine blk_drew ?_ | refine blk_alloc ?_ _)); exact BK139.out) hg (Kd.R_ne HO_4.out BK139.out (by decide))); have n1_ := Aside0.mk (Kd.R_after (ok := (fun _ => True)) (by (with_reducible repeat (first | apply Kd.R_alloc | apply Kd.R_drewN | apply Kd.R_drew)); exact HO142.out) hg hat); have n2_ := Aside0.mk (hb); have n3_ := Aside0.mk (ho); clear BK139; clear HO142; clear HB; clear HO_4; have BK139 := n0_; have HO142 := n1_; have HB := n2_; have HO146 := n3_; clear n0_ n1_ n2_ n3_; clear ho hb hg hat))
                            go_roundg k1
                            case measure => have := HK1.out; omega
                            case rel => exact ⟨(y144), (wrap64 (x11_1 + 1)), (by first | rfl | (simp; done) | (simp [*]; done)), H', ⟨by have := HK1.out; omega⟩, ⟨by (with_reducible repeat (first | apply Kd.R_alloc | apply Kd.R_drewN | apply Kd.R_drew)); exact Kd.R_mono HO146.out (fun _ hk => trivial)⟩, ⟨by repeat (first | (with_reducible first | exact HB.out | apply below_alloc | apply pw_below_drewN | apply below_drew1 | refine below_set ?_ GE139.out) | exact HB.out)⟩⟩
                      · rw [if_neg c7] at H
                        exact absurd H (by simp)
                  · as_aux_lemma =>
                      rw [if_neg c6] at H
                      have c6b0 : (t143 == 0) = false := beq_eq_false_iff_ne.mpr c6
                      have c6b1 : (t143 != 0) = true := bne_iff_ne.mpr c6
                      as_aux_lemma =>
                        simp only [Option.some.injEq, Prod.mk.injEq] at H
                        obtain ⟨rfl, rfl⟩ := H
                        have p138 : 0 ≤ (x11_1 : Int) := of_decide_eq_true (by first | (with_reducible assumption) | assumption)
                        have q138 : x11_1 < (l0.length : Int) := of_decide_eq_true (by first | (with_reducible assumption) | assumption)
                        obtain ⟨ad138, A138_3, c138_3, e138, hx138_0, hx138_1, hx138_2, hx138_3, hl138_3, hi138_3⟩ := at_T25 HR0.out x11_1 p138 q138
                        cases e138
                        replace hx138_0 := (HB.out.cell (World.block_lt_of_cell? w _ hx138_0)).trans hx138_0
                        replace hx138_1 := (HB.out.cell (World.block_lt_of_cell? w _ hx138_1)).trans hx138_1
                        replace hx138_2 := (HB.out.cell (World.block_lt_of_cell? w _ hx138_2)).trans hx138_2
                        replace hx138_3 := (HB.out.cell (World.block_lt_of_cell? w _ hx138_3)).trans hx138_3
                        have HR138_3 := Aside0.mk hi138_3
                        have HC138_3 := Aside0.mk hl138_3
                        clear hi138_3 hl138_3
                        replace p138 := eq_true p138
                        replace q138 := eq_true q138
                        go_wp2_with (first | ((with_reducible refine gate_dst (N := 6) rfl ?_); refine box_event ?hg (N := 6) ?hd (cs := #[.int .i64 0, .int .i64 0, .int .u64 0, .slice none 0 0]) (t := 25) ?hr ?_; (case hd => rfl); (case hg => rfl); (case hr => first | (go_simp; done) | (go_simp; rfl)); intro gb139 hg w13 hbox hb; have n0_ := Aside0.mk (Kd.R_below (by (with_reducible repeat (first | apply Kd.R_alloc | apply Kd.R_drewN | apply Kd.R_drew)); exact HO_4.out) hb); have n1_ := Aside0.mk (below_step (by repeat (first | (with_reducible first | exact HB.out | apply below_alloc | apply pw_below_drewN | apply below_drew1) | exact HB.out)) hb); have n2_ := Aside0.mk (hbox); have n3_ := Aside0.mk ((by rw [hg]; exact (below_size (by repeat (first | (with_reducible first | exact HB.out | apply below_alloc | apply pw_below_drewN | apply below_drew1) | exact HB.out))) : w.heap.size ≤ gb139)); have n4_ := Aside0.mk ((by rw [hg]; exact (below_size (by repeat (first | (with_reducible first | exact HB.out | apply below_alloc | apply pw_below_drewN | apply below_drew1) | exact HB.out))) : w.heap.size ≤ gb139)); clear HO_4; clear HB; have HO_4 := n0_; have HB := n1_; have BK139 := n2_; have GW139 := n3_; have GE139 := n4_; clear n0_ n1_ n2_ n3_ n4_; clear hb hbox hg; have hcz14_0 : w13.cell? ⟨gb139, 0, none⟩ = some (.int .i64 0) := (blk_cell BK139.out 0).trans rfl; have hcz14_1 : w13.cell? ⟨gb139, 1, none⟩ = some (.int .i64 0) := (blk_cell BK139.out 1).trans rfl; have hcz14_2 : w13.cell? ⟨gb139, 2, none⟩ = some (.int .u64 0) := (blk_cell BK139.out 2).trans rfl; have hcz14_3 : w13.cell? ⟨gb139, 3, none⟩ = some (.slice none 0 0) := (blk_cell BK139.out 3).trans rfl; have hfz14_0 := blk_frozen BK139.out 0; have hfz14_1 := blk_frozen BK139.out 1; have hfz14_2 := blk_frozen BK139.out 2; have hfz14_3 := blk_frozen BK139.out 3) | ((with_reducible refine gate_callee (f := 12) rfl ?_); refine goesL_ (some 17) rfl rfl Try.func12 (by kernel_rfl) rfl #[.agg #[.int .i64 ((rd_T25 l0 x11_1).f0), .int .i64 ((rd_T25 l0 x11_1).f1), .int .u64 ((rd_T25 l0 x11_1).f2), .slice A138_3 ((rd_T25 l0 x11_1).f3).length c138_3]] rfl (by (try simp only [List.map_toArray, List.map_cons, List.map_nil]); first | done | rfl | (simp only [List.length_drop, List.length_take]; rfl)) ?_; (with_reducible refine (wire_Put.calls k1 ((rd_T25 l0 x11_1).f0) ((rd_T25 l0 x11_1).f1) ((rd_T25 l0 x11_1).f2) _ _ ((rd_T25 l0 x11_1).f3) t140 t143 _ ?side1 ?side2 A5.out).mono ?_); (case side1 => exact Kd.C_below HR138_3.out (by repeat (first | (with_reducible first | exact HB.out | apply below_alloc | apply pw_below_drewN | apply below_drew1 | refine below_set ?_ GE139.out) | exact HB.out))); (case side2 => exact HC138_3.out); rintro e w15 ⟨v141, rfl, ho0, hb⟩; refine ⟨_, rfl, ?_⟩; have n0_ := Aside0.mk (Kd.R_elder' (by (with_reducible repeat (first | apply Kd.R_alloc | apply Kd.R_drewN | apply Kd.R_drew)); exact (Kd.R_mono (Kd.R_far (p := ⟨gb139, 3, none⟩) (Kd.R_far (p := ⟨gb139, 2, none⟩) (Kd.R_far (p := ⟨gb139, 1, none⟩) (Kd.R_far (p := ⟨gb139, 0, none⟩) (Kd.R_types HO_4.out BK139.out (by decide)) (fun _ hk => hk.2) (.int .i64 ((rd_T25 l0 x11_1).f0))) (fun _ hk => hk.2) (.int .i64 ((rd_T25 l0 x11_1).f1))) (fun _ hk => hk.2) (.int .u64 ((rd_T25 l0 x11_1).f2))) (fun _ hk => hk.2) (.slice A138_3 ((rd_T25 l0 x11_1).f3).length c138_3)) (fun _ h_ => h_.1))) (Kd.R_base ho0) hb); have n1_ := Aside0.mk (Kd.R_lower (Kd.R_new' ho0 (Kd.R_lt (by (with_reducible repeat (first | apply Kd.R_alloc | apply Kd.R_drewN | apply Kd.R_drew)); exact (Kd.R_mono (Kd.R_far (p := ⟨gb139, 3, none⟩) (Kd.R_far (p := ⟨gb139, 2, none⟩) (Kd.R_far (p := ⟨gb139, 1, none⟩) (Kd.R_far (p := ⟨gb139, 0, none⟩) (Kd.R_types HO_4.out BK139.out (by decide)) (fun _ hk => hk.2) (.int .i64 ((rd_T25 l0 x11_1).f0))) (fun _ hk => hk.2) (.int .i64 ((rd_T25 l0 x11_1).f1))) (fun _ hk => hk.2) (.int .u64 ((rd_T25 l0 x11_1).f2))) (fun _ hk => hk.2) (.slice A138_3 ((rd_T25 l0 x11_1).f3).length c138_3)) (fun _ h_ => h_.1))))) (below_size (by repeat (first | (with_reducible first | exact HB.out | apply below_alloc | apply pw_below_drewN | apply below_drew1 | refine below_set ?_ GE139.out) | exact HB.out)))); have n2_ := Aside0.mk (blk_below (g := gb139) (o := .cells #[.int .i64 ((rd_T25 l0 x11_1).f0), .int .i64 ((rd_T25 l0 x11_1).f1), .int .u64 ((rd_T25 l0 x11_1).f2), .slice A138_3 ((rd_T25 l0 x11_1).f3).length c138_3] 25 (0, 0)) (by (with_reducible repeat (first | refine blk_drewN ?_ _ | refine blk_drew ?_ | refine blk_alloc ?_ _)); refine blk_put (cs := #[.int .i64 ((rd_T25 l0 x11_1).f0), .int .i64 ((rd_T25 l0 x11_1).f1), .int .u64 ((rd_T25 l0 x11_1).f2), .slice none 0 0]) ?_ 3 _ rfl; (with_reducible repeat (first | refine blk_drewN ?_ _ | refine blk_drew ?_ | refine blk_alloc ?_ _)); refine blk_put (cs := #[.int .i64 ((rd_T25 l0 x11_1).f0), .int .i64 ((rd_T25 l0 x11_1).f1), .int .u64 0, .slice none 0 0]) ?_ 2 _ rfl; (with_reducible repeat (first | refine blk_drewN ?_ _ | refine blk_drew ?_ | refine blk_alloc ?_ _)); refine blk_put (cs := #[.int .i64 ((rd_T25 l0 x11_1).f0), .int .i64 0, .int .u64 0, .slice none 0 0]) ?_ 1 _ rfl; (with_reducible repeat (first | refine blk_drewN ?_ _ | refine blk_drew ?_ | refine blk_alloc ?_ _)); refine blk_put (cs := #[.int .i64 0, .int .i64 0, .int .u64 0, .slice none 0 0]) ?_ 0 _ rfl; (with_reducible repeat (first | refine blk_drewN ?_ _ | refine blk_drew ?_ | refine blk_alloc ?_ _)); exact BK139.out) hb); have n3_ := Aside0.mk (below_step (by repeat (first | (with_reducible first | exact HB.out | apply below_alloc | apply pw_below_drewN | apply below_drew1 | refine below_set ?_ GE139.out) | exact HB.out)) hb); clear HO_4; clear BK139; clear HB; have HO_4 := n0_; have HO142 := n1_; have BK139 := n2_; have HB := n3_; clear n0_ n1_ n2_ n3_; (try clear hb); (try clear hb2); (try clear hk); (try clear hi); (try clear ho0)))
                        go_ret2
                        exact ⟨_, by first | rfl | (simp [errW_none, errW_some] <;> rfl) | (simp [*, errW_none, errW_some] <;> rfl), by first | exact Kd.R_nil _ _ _ _ _ | exact Kd.N_nil _ _ _ _ _ | exact Kd.V_nil _ _ _ _ _ | exact Kd.Q_nil _ _ _ _ _ | exact Kd.S_nil _ _ _ _ _, by repeat (first | (with_reducible first | exact HB.out | apply below_alloc | apply pw_below_drewN | apply below_drew1 | refine below_set ?_ GE139.out) | exact HB.out)⟩
              · rw [if_neg c4] at H
                exact absurd H (by simp)
          · rw [if_neg c3] at H
            exact absurd H (by simp)
      · as_aux_lemma =>
          rw [if_neg c2] at H
          have c2b0 : decide (x11_1 < (l0.length : Int)) = false := decide_eq_false c2
          clear c2
          as_aux_lemma =>
            simp only [Option.some.injEq, Prod.mk.injEq] at H
            obtain ⟨rfl, rfl⟩ := H
            go_wp2
            go_ret2
            exact ⟨_, by first | rfl | (simp [errW_none, errW_some] <;> rfl) | (simp [*, errW_none, errW_some] <;> rfl), by (with_reducible repeat (first | apply Kd.R_alloc | apply Kd.R_drewN | apply Kd.R_drew)); exact HO_4.out, by repeat (first | (with_reducible first | exact HB.out | apply below_alloc | apply pw_below_drewN | apply below_drew1) | exact HB.out)⟩

-- varint_Take: in the text Tk

/-! ### varint_Unfixed: function 32 -/
def varint_Unfixed.l0 : Nat → List Int → Int → Int → Int → Option (Int)
  | 0, _, _, _, _ => none
  | k + 1, x0, x3, x7, x8 => if x8 < x7 then (if 0 ≤ x8 then (if x8 < (x0.length : Int) then (if 0 ≤ (wrap64 (8 * x8)) then (varint_Unfixed.l0 k x0 (Go.bits .or .u64 x3 (shl .u64 (IntKind.u64.wrap (rd x0 x8)) (wrap64 (8 * x8)))) x7 (wrap64 (x8 + 1))) else (none)) else (none)) else (none)) else (some x3)
def varint_Unfixed.f (k : Nat) (l0 : List Int) : Option (Int) := varint_Unfixed.l0 k l0 0 (mn (l0.length : Int) 8) 0
theorem varint_Unfixed.mono_l : ∀ k, (∀ y0 y1 y2 y3, LeO (varint_Unfixed.l0 k y0 y1 y2 y3) (varint_Unfixed.l0 (k + 1) y0 y1 y2 y3))
  | 0 => fun _ _ _ _ r h => by simp [varint_Unfixed.l0] at h
  | k + 1 => by
    have ih0 := varint_Unfixed.mono_l k
    · intro y0 y1 y2 y3
      unfold varint_Unfixed.l0
      repeat' first
      | (with_reducible exact ih0 _ _ _ _)
      | (with_reducible exact LeO.refl _)
      | (with_reducible exact LeO.none _)
      | (with_reducible refine LeO.ite ?_ ?_)
      | (with_reducible refine LeO.bind ?_ (fun _ => ?_))
      | exact ih0 _ _ _ _
      | exact LeO.none _
      | refine LeO.ite ?_ ?_
      | refine LeO.bind ?_ (fun _ => ?_)
theorem varint_Unfixed.mono : ∀ a0 k, LeO (varint_Unfixed.f k a0) (varint_Unfixed.f (k + 1) a0) := by
  intro a0 k
  have ih0 := varint_Unfixed.mono_l k
  unfold varint_Unfixed.f
  repeat' first
      | (with_reducible exact ih0 _ _ _ _)
      | (with_reducible exact LeO.refl _)
      | (with_reducible exact LeO.none _)
      | (with_reducible refine LeO.ite ?_ ?_)
      | (with_reducible refine LeO.bind ?_ (fun _ => ?_))
      | exact ih0 _ _ _ _
      | exact LeO.none _
      | refine LeO.ite ?_ ?_
      | refine LeO.bind ?_ (fun _ => ?_)
set_option maxHeartbeats 8000000 in
set_option maxRecDepth 100000 in
theorem varint_Unfixed.calls (k : Nat) (A0 : Option Addr) (c0 : Nat) (l0 : List Int) (r : Int) (w : World) (hr0 : Kd.C (Kd.int .u8) w A0 l0.length l0) (hc0 : l0.length ≤ c0) (h : varint_Unfixed.f k l0 = some r) :
    Calls Try.prog 32 #[.slice A0 l0.length c0] w fun e w' => e = .returned (.int .u64 r) ∧ Below w.heap.size w w' := by
  have HR0 := Aside0.mk hr0
  have HC0 := Aside0.mk hc0
  clear hr0 hc0
  have HB := Aside0.mk (Below.refl w.heap.size w)
  have H : (varint_Unfixed.l0 k l0 0 (mn (l0.length : Int) 8) 0) = some r := h
  clear h
  obtain ⟨ji2, hji2⟩ : ∃ j_ : Int, (mn (l0.length : Int) 8) = j_ := ⟨_, rfl⟩
  replace H : (varint_Unfixed.l0 k l0 0 ji2 0) = some r := by first | (rw [hji2] at H; exact H) | (simp only [hji2] at H ⊢; exact H)
  (try (have hji2h : ji2 ≤ 8 := by (rw [← hji2]; unfold mn; (repeat' split) <;> omega)))
  (try (have hji2g : ji2 ≤ 64 := by omega))
  (try (have hji2l : 0 ≤ ji2 := by (rw [← hji2]; unfold mn; (repeat' split) <;> omega)))
  (try (have hji2m : 0 ≤ ji2 := by omega))
  have hji2_ : (if 8 < (l0.length : Int) then 8 else (l0.length : Int)) = ji2 := hji2
  have H' := Aside0.mk H
  clear H
  go_enter Try.func32, Try.ntmps32
  go_wp2
  go_loopg [3, 8] k (fun kq v3 v8 w' => ∃ (x3_1 : Int) (x8_1 : Int), v3 = .int .u64 x3_1 ∧ v8 = .int .i64 x8_1 ∧ Aside0 (varint_Unfixed.l0 kq l0 x3_1 ji2 x8_1 = some r) ∧ Aside0 (kq ≤ k) ∧ Aside0 (Below w.heap.size w w'))
  case atStart => exact ⟨(0), (0), (by first | rfl | (simp; done) | (simp [*]; done)), (by first | rfl | (simp; done) | (simp [*]; done)), H', ⟨Nat.le_refl _⟩, ⟨by repeat (first | (with_reducible first | exact HB.out | apply below_alloc | apply pw_below_drewN | apply below_drew1) | exact HB.out)⟩⟩
  case round =>
    clear H'
    try clear p2
    obtain ⟨x3_1, x8_1, rfl, rfl, HA, HK1, HB⟩ := hrel
    cases gk with
    | zero => exact absurd HA.out (by simp [varint_Unfixed.l0])
    | succ k1 =>
      have H := HA.out
      clear HA
      simp only [varint_Unfixed.l0] at H
      by_cases c3 : x8_1 < ji2
      · as_aux_lemma =>
          rw [if_pos c3] at H
          have c3b0 : decide (x8_1 < ji2) = true := decide_eq_true c3
          clear c3
          by_cases c4 : 0 ≤ x8_1
          · as_aux_lemma =>
              rw [if_pos c4] at H
              have c4b0 : decide (0 ≤ x8_1) = true := decide_eq_true c4
              clear c4
              by_cases c5 : x8_1 < (l0.length : Int)
              · as_aux_lemma =>
                  rw [if_pos c5] at H
                  have c5b0 : decide (x8_1 < (l0.length : Int)) = true := decide_eq_true c5
                  clear c5
                  obtain ⟨ji6, hji6⟩ : ∃ j_ : Int, (wrap64 (8 * x8_1)) = j_ := ⟨_, rfl⟩
                  replace H : (if 0 ≤ (ji6) then (varint_Unfixed.l0 k1 l0 (Go.bits .or .u64 x3_1 (shl .u64 (IntKind.u64.wrap (rd l0 x8_1)) (ji6))) ji2 (wrap64 (x8_1 + 1))) else (none)) = some r := by first | (rw [hji6] at H; exact H) | (simp only [hji6] at H ⊢; exact H)
                  have hji6w : (IntKind.i64.wrap (8 * x8_1)) = ji6 := (i64_w _).trans hji6
                  by_cases c7 : 0 ≤ (ji6)
                  · as_aux_lemma =>
                      rw [if_pos c7] at H
                      have c7b0 := eq_true c7
                      have c7b1 : decide (0 ≤ (ji6)) = true := decide_eq_true c7
                      clear c7
                      obtain ⟨ji8, hji8⟩ : ∃ j_ : Int, (shl .u64 (IntKind.u64.wrap (rd l0 x8_1)) (ji6)) = j_ := ⟨_, rfl⟩
                      replace H : (varint_Unfixed.l0 k1 l0 (Go.bits .or .u64 x3_1 (ji8)) ji2 (wrap64 (x8_1 + 1))) = some r := by first | (rw [hji8] at H; exact H) | (simp only [hji8] at H ⊢; exact H)
                      have hji8_ : (IntKind.u64.wrap ((IntKind.u64.wrap (rd l0 x8_1)) * 2 ^ min (ji6).toNat 64)) = ji8 := hji8
                      have hji8z : (ji6) ≤ 64 → (IntKind.u64.wrap ((IntKind.u64.wrap (rd l0 x8_1)) * 2 ^ (ji6).toNat)) = ji8 := shl_small hji8
                      as_aux_lemma =>
                        have H' := Aside0.mk H
                        clear H
                        have p147 : 0 ≤ (x8_1 : Int) := of_decide_eq_true (by first | (with_reducible assumption) | assumption)
                        have q147 : x8_1 < (l0.length : Int) := of_decide_eq_true (by first | (with_reducible assumption) | assumption)
                        obtain ⟨ad147, e147, hx147_0⟩ := Kd.at_int HR0.out x8_1 p147 q147
                        cases e147
                        replace hx147_0 := (HB.out.cell (World.block_lt_of_cell? w _ hx147_0)).trans hx147_0
                        replace p147 := eq_true p147
                        replace q147 := eq_true q147
                        go_wp2
                        go_roundg k1
                        case measure => have := HK1.out; omega
                        case rel => exact ⟨(Go.bits .or .u64 x3_1 (ji8)), (wrap64 (x8_1 + 1)), (by first | rfl | (simp; done) | (simp only [← hji8] <;> (first | rfl | simp)) | (simp [*]; done)), (by first | rfl | (simp; done) | (simp [*]; done)), H', ⟨by have := HK1.out; omega⟩, ⟨by repeat (first | (with_reducible first | exact HB.out | apply below_alloc | apply pw_below_drewN | apply below_drew1) | exact HB.out)⟩⟩
                  · rw [if_neg c7] at H
                    exact absurd H (by simp)
              · rw [if_neg c5] at H
                exact absurd H (by simp)
          · rw [if_neg c4] at H
            exact absurd H (by simp)
      · as_aux_lemma =>
          rw [if_neg c3] at H
          have c3b0 : decide (x8_1 < ji2) = false := decide_eq_false c3
          clear c3
          as_aux_lemma =>
            obtain rfl := Option.some.inj H
            go_wp2
            go_ret
            exact ⟨by first | rfl | (simp [errW_none, errW_some] <;> rfl) | (simp only [← hji2]; first | rfl | (simp [errW_none, errW_some] <;> rfl)) | (simp [*, errW_none, errW_some] <;> rfl), by repeat (first | (with_reducible first | exact HB.out | apply below_alloc | apply pw_below_drewN | apply below_drew1) | exact HB.out)⟩

-- bytes_Clone: in the text Cl

/-! ### wire_Take: function 18 -/
def wire_Take.j0 : Nat → List Int → Int → Int → Bool → Int → Int → Int → Option (Int × Int × Int × List Int × Int × Int)
  | 0, _, _, _, _, _, _, _ => none
  | k + 1, x0, x6, x9, x48, x153000, x153001, x153002 => if x48 = true then (some (0, 0, 0, ([] : List Int), 0, 20)) else (if 0 ≤ x6 then (if x6 ≤ (x0.length : Int) then ((some (x0.drop (x6 : Int).toNat : List Int)).bind fun y155 => (if x9 > 0 then (if (y155.length : Int) < x9 then (some (0, 0, 0, ([] : List Int), 0, 21)) else (if 0 ≤ x9 then (if x9 ≤ (y155.length : Int) then ((varint_Unfixed.f k (y155.take (x9 : Int).toNat)).bind fun t163 => (some (x153000, x153001, t163, ([] : List Int), wrap64 (x6 + x9), 0))) else (none)) else (none))) else ((varint_Take.f k y155).bind fun bt164 => (if bt164.2.2 = 0 then (if x153001 = 0 then (some (x153000, x153001, bt164.1, ([] : List Int), wrap64 (x6 + bt164.2.1), 0)) else (if bt164.1 > (IntKind.u64.wrap (wrap64 ((y155.length : Int) - bt164.2.1))) then (some (0, 0, 0, ([] : List Int), 0, 21)) else (if 0 ≤ bt164.2.1 then (if bt164.2.1 ≤ (wrap64 (bt164.2.1 + (wrap64 (bt164.1)))) then (if (wrap64 (bt164.2.1 + (wrap64 (bt164.1)))) ≤ (y155.length : Int) then ((bytes_Clone.f ((y155.take ((wrap64 (bt164.2.1 + (wrap64 (bt164.1)))) : Int).toNat).drop (bt164.2.1 : Int).toNat)).bind fun t171 => (some (x153000, x153001, x153002, t171, wrap64 ((wrap64 (x6 + bt164.2.1)) + (wrap64 (bt164.1))), 0))) else (none)) else (none)) else (none)))) else (some (0, 0, 0, ([] : List Int), 0, bt164.2.2)))))) else (none)) else (none))
def wire_Take.f (k : Nat) (l0 : List Int) : Option (Int × Int × Int × List Int × Int × Int) := (varint_Take.f k l0).bind fun bt149 => (if bt149.2.2 = 0 then ((wire_kind.f (wrap64 (Go.bits .and .u64 bt149.1 7))).bind fun bt153 => (if (bt149.1 / 4294967296) = 0 then (if (wrap64 (bt149.1 / 8)) = 0 then (wire_Take.j0 k l0 bt149.2.1 bt153.1 true (wrap64 (bt149.1 / 8)) (wrap64 (Go.bits .and .u64 bt149.1 7)) 0) else (wire_Take.j0 k l0 bt149.2.1 bt153.1 (!bt153.2) (wrap64 (bt149.1 / 8)) (wrap64 (Go.bits .and .u64 bt149.1 7)) 0)) else (wire_Take.j0 k l0 bt149.2.1 bt153.1 true (wrap64 (bt149.1 / 8)) (wrap64 (Go.bits .and .u64 bt149.1 7)) 0))) else (some (0, 0, 0, ([] : List Int), 0, bt149.2.2)))
theorem wire_Take.mono_l : ∀ k, (∀ y0 y1 y2 y3 y4 y5 y6, LeO (wire_Take.j0 k y0 y1 y2 y3 y4 y5 y6) (wire_Take.j0 (k + 1) y0 y1 y2 y3 y4 y5 y6))
  | 0 => fun _ _ _ _ _ _ _ r h => by simp [wire_Take.j0] at h
  | k + 1 => by
    have ih0 := wire_Take.mono_l k
    · intro y0 y1 y2 y3 y4 y5 y6
      unfold wire_Take.j0
      repeat' first
      | (with_reducible exact ih0 _ _ _ _ _ _ _)
      | (with_reducible exact varint_Take.mono _ _)
      | (with_reducible exact varint_Unfixed.mono _ _)
      | (with_reducible exact LeO.refl _)
      | (with_reducible exact LeO.none _)
      | (with_reducible refine LeO.ite ?_ ?_)
      | (with_reducible refine LeO.bind ?_ (fun _ => ?_))
      | exact ih0 _ _ _ _ _ _ _
      | exact varint_Take.mono _ _
      | exact varint_Unfixed.mono _ _
      | exact LeO.none _
      | refine LeO.ite ?_ ?_
      | refine LeO.bind ?_ (fun _ => ?_)
theorem wire_Take.mono : ∀ a0 k, LeO (wire_Take.f k a0) (wire_Take.f (k + 1) a0) := by
  intro a0 k
  have ih0 := wire_Take.mono_l k
  unfold wire_Take.f
  repeat' first
      | (with_reducible exact ih0 _ _ _ _ _ _ _)
      | (with_reducible exact varint_Take.mono _ _)
      | (with_reducible exact varint_Unfixed.mono _ _)
      | (with_reducible exact LeO.refl _)
      | (with_reducible exact LeO.none _)
      | (with_reducible refine LeO.ite ?_ ?_)
      | (with_reducible refine LeO.bind ?_ (fun _ => ?_))
      | exact ih0 _ _ _ _ _ _ _
      | exact varint_Take.mono _ _
      | exact varint_Unfixed.mono _ _
      | exact LeO.none _
      | refine LeO.ite ?_ ?_
      | refine LeO.bind ?_ (fun _ => ?_)
set_option maxHeartbeats 8000000 in
set_option maxRecDepth 100000 in
theorem wire_Take.calls (k : Nat) (A0 : Option Addr) (c0 : Nat) (l0 : List Int) (r1 : Int) (r2 : Int) (r3 : Int) (r4 : List Int) (r5 : Int) (r6 : Int) (w : World) (hr0 : Kd.C (Kd.int .u8) w A0 l0.length l0) (hc0 : l0.length ≤ c0) (h : wire_Take.f k l0 = some (r1, r2, r3, r4, r5, r6)) :
    Calls Try.prog 18 #[.slice A0 l0.length c0] w fun e w' => ∃ v3_ : Value, e = .returned (.tuple #[.agg #[.int .i64 r1, .int .i64 r2, .int .u64 r3, v3_], .int .i64 r5, .int .i64 r6]) ∧ Kd.R (Kd.int .u8) 5 w' w.heap.size (fun _ => True) v3_ r4 ∧ Below w.heap.size w w' := by
  have hu25 := Try.underlying25
  have HR0 := Aside0.mk hr0
  have HC0 := Aside0.mk hc0
  clear hr0 hc0
  have HB := Aside0.mk (Below.refl w.heap.size w)
  have H : ((varint_Take.f k l0).bind fun bt149 => (if bt149.2.2 = 0 then ((wire_kind.f (wrap64 (Go.bits .and .u64 bt149.1 7))).bind fun bt153 => (if (bt149.1 / 4294967296) = 0 then (if (wrap64 (bt149.1 / 8)) = 0 then (wire_Take.j0 k l0 bt149.2.1 bt153.1 true (wrap64 (bt149.1 / 8)) (wrap64 (Go.bits .and .u64 bt149.1 7)) 0) else (wire_Take.j0 k l0 bt149.2.1 bt153.1 (!bt153.2) (wrap64 (bt149.1 / 8)) (wrap64 (Go.bits .and .u64 bt149.1 7)) 0)) else (wire_Take.j0 k l0 bt149.2.1 bt153.1 true (wrap64 (bt149.1 / 8)) (wrap64 (Go.bits .and .u64 bt149.1 7)) 0))) else (some (0, 0, 0, ([] : List Int), 0, bt149.2.2)))) = some (r1, r2, r3, r4, r5, r6) := h
  clear h
  replace H := Option.bind_eq_some_iff.mp H
  obtain ⟨⟨t149, t150, t151⟩, A20, H⟩ := H
  replace H : (if t151 = 0 then ((wire_kind.f (wrap64 (Go.bits .and .u64 t149 7))).bind fun bt153 => (if (t149 / 4294967296) = 0 then (if (wrap64 (t149 / 8)) = 0 then (wire_Take.j0 k l0 t150 bt153.1 true (wrap64 (t149 / 8)) (wrap64 (Go.bits .and .u64 t149 7)) 0) else (wire_Take.j0 k l0 t150 bt153.1 (!bt153.2) (wrap64 (t149 / 8)) (wrap64 (Go.bits .and .u64 t149 7)) 0)) else (wire_Take.j0 k l0 t150 bt153.1 true (wrap64 (t149 / 8)) (wrap64 (Go.bits .and .u64 t149 7)) 0))) else (some (0, 0, 0, ([] : List Int), 0, t151))) = some (r1, r2, r3, r4, r5, r6) := H
  have A2 := Aside0.mk A20
  clear A20
  by_cases c3 : t151 = 0
  · as_aux_lemma =>
      rw [if_pos c3] at H
      have c3b0 : (t151 == 0) = true := beq_iff_eq.mpr c3
      have c3b1 : (t151 != 0) = false := bne_eq_false_iff_eq.mpr c3
      clear c3
      replace H := Option.bind_eq_some_iff.mp H
      obtain ⟨⟨t153, t154⟩, A40, H⟩ := H
      replace H : (if (t149 / 4294967296) = 0 then (if (wrap64 (t149 / 8)) = 0 then (wire_Take.j0 k l0 t150 t153 true (wrap64 (t149 / 8)) (wrap64 (Go.bits .and .u64 t149 7)) 0) else (wire_Take.j0 k l0 t150 t153 (!t154) (wrap64 (t149 / 8)) (wrap64 (Go.bits .and .u64 t149 7)) 0)) else (wire_Take.j0 k l0 t150 t153 true (wrap64 (t149 / 8)) (wrap64 (Go.bits .and .u64 t149 7)) 0)) = some (r1, r2, r3, r4, r5, r6) := H
      have A4 := Aside0.mk A40
      clear A40
      have HC5 := Aside0.mk H
      clear H
      go_enter Try.func18, Try.ntmps18
      go_upto_region 6 with (first | ((with_reducible refine gate_dst (N := 2) rfl ?_); refine box_event ?hg (N := 2) ?hd (cs := #[.int .i64 0, .int .i64 0, .int .u64 0, .slice none 0 0]) (t := 25) ?hr ?_; (case hd => rfl); (case hg => rfl); (case hr => first | (go_simp; done) | (go_simp; rfl)); intro gb148 hg w6 hbox hb; have n0_ := Aside0.mk (below_step (by repeat (first | (with_reducible first | exact HB.out | apply below_alloc | apply pw_below_drewN | apply below_drew1) | exact HB.out)) hb); have n1_ := Aside0.mk (hbox); have n2_ := Aside0.mk ((by rw [hg]; exact (below_size (by repeat (first | (with_reducible first | exact HB.out | apply below_alloc | apply pw_below_drewN | apply below_drew1) | exact HB.out))) : w.heap.size ≤ gb148)); have n3_ := Aside0.mk ((by rw [hg]; exact (below_size (by repeat (first | (with_reducible first | exact HB.out | apply below_alloc | apply pw_below_drewN | apply below_drew1) | exact HB.out))) : w.heap.size ≤ gb148)); clear HB; have HB := n0_; have BK148 := n1_; have GW148 := n2_; have GE148 := n3_; clear n0_ n1_ n2_ n3_; clear hb hbox hg) | ((with_reducible refine gate_callee (f := 31) rfl ?_); refine goesL_ (some 16) rfl rfl Try.func31 (by kernel_rfl) rfl #[.slice A0 l0.length c0] rfl (by (try simp only [List.map_toArray, List.map_cons, List.map_nil]); first | done | rfl | (simp only [List.length_drop, List.length_take]; rfl)) ?_; (with_reducible refine (varint_Take.calls k _ _ l0 t149 t150 t151 _ ?side1 ?side2 A2.out).mono ?_); (case side1 => repeat (first | exact (Kd.C_below HR0.out HB.out) | (with_reducible refine Kd.C_alloc ?_ _) | (with_reducible refine Kd.C_drewN ?_ _) | (with_reducible refine Kd.C_drew ?_))); (case side2 => exact HC0.out); rintro e w' ⟨rfl, ⟨nd, rfl⟩⟩; refine ⟨_, rfl, ?_⟩; (try (rw [drewN_self w6]; generalize hq_ : World.drewN w6 _ = w6; have n0_ : Aside0 (w6.heap[gb148]? = some (.cells #[.int .i64 0, .int .i64 0, .int .u64 0, .slice none 0 0] 25 (0, 0))) := ⟨by rw [← hq_]; exact (by (with_reducible repeat (first | refine blk_drewN ?_ _ | refine blk_drew ?_ | refine blk_alloc ?_ _)); exact BK148.out)⟩; have n1_ : Aside0 (Below w.heap.size w w6) := ⟨by rw [← hq_]; exact (by repeat (first | (with_reducible first | exact HB.out | apply below_alloc | apply pw_below_drewN | apply below_drew1 | refine below_set ?_ GE148.out) | exact HB.out))⟩; clear BK148 HB hq_; have BK148 := n0_; have HB := n1_; clear n0_ n1_)); have hczR1_gb148_0 : w6.cell? ⟨gb148, 0, none⟩ = some (.int .i64 0) := (blk_cell BK148.out 0).trans rfl; have hfzR1_gb148_0 := blk_frozen BK148.out 0; have hczR1_gb148_1 : w6.cell? ⟨gb148, 1, none⟩ = some (.int .i64 0) := (blk_cell BK148.out 1).trans rfl; have hfzR1_gb148_1 := blk_frozen BK148.out 1; have hczR1_gb148_2 : w6.cell? ⟨gb148, 2, none⟩ = some (.int .u64 0) := (blk_cell BK148.out 2).trans rfl; have hfzR1_gb148_2 := blk_frozen BK148.out 2; have hczR1_gb148_3 : w6.cell? ⟨gb148, 3, none⟩ = some (.slice none 0 0) := (blk_cell BK148.out 3).trans rfl; have hfzR1_gb148_3 := blk_frozen BK148.out 3) | ((with_reducible refine gate_dst (N := 8) rfl ?_); refine box_event ?hg (N := 8) ?hd (cs := #[.int .i64 0, .int .i64 0, .int .u64 0, .slice none 0 0]) (t := 25) ?hr ?_; (case hd => rfl); (case hg => rfl); (case hr => first | (go_simp; done) | (go_simp; rfl)); intro gb152 hg w7 hbox hb; have n0_ := Aside0.mk (blk_below (g := gb148) (o := .cells #[.int .i64 0, .int .i64 0, .int .u64 0, .slice none 0 0] 25 (0, 0)) (by (with_reducible repeat (first | refine blk_drewN ?_ _ | refine blk_drew ?_ | refine blk_alloc ?_ _)); exact BK148.out) hb); have n1_ := Aside0.mk (below_step (by repeat (first | (with_reducible first | exact HB.out | apply below_alloc | apply pw_below_drewN | apply below_drew1 | refine below_set ?_ GE148.out) | exact HB.out)) hb); have n2_ := Aside0.mk (hbox); have n3_ := Aside0.mk ((by rw [hg]; exact (below_size (by repeat (first | (with_reducible first | exact HB.out | apply below_alloc | apply pw_below_drewN | apply below_drew1 | refine below_set ?_ GE148.out) | exact HB.out))) : w.heap.size ≤ gb152)); have n4_ := Aside0.mk ((by rw [hg]; exact (below_size (by repeat (first | (with_reducible first | exact HB.out | apply below_alloc | apply pw_below_drewN | apply below_drew1 | refine below_set ?_ GE148.out) | exact HB.out))) : w.heap.size ≤ gb152)); have n5_ := Aside0.mk ((by rw [hg]; exact Nat.ne_of_lt (blk_lt (g := gb148) (o := .cells #[.int .i64 0, .int .i64 0, .int .u64 0, .slice none 0 0] 25 (0, 0)) (by (with_reducible repeat (first | refine blk_drewN ?_ _ | refine blk_drew ?_ | refine blk_alloc ?_ _)); exact BK148.out)) : gb148 ≠ gb152)); have n6_ := Aside0.mk ((by rw [hg]; exact Nat.ne_of_gt (blk_lt (g := gb148) (o := .cells #[.int .i64 0, .int .i64 0, .int .u64 0, .slice none 0 0] 25 (0, 0)) (by (with_reducible repeat (first | refine blk_drewN ?_ _ | refine blk_drew ?_ | refine blk_alloc ?_ _)); exact BK148.out)) : gb152 ≠ gb148)); clear BK148; clear HB; have BK148 := n0_; have HB := n1_; have BK152 := n2_; have GW152 := n3_; have GE152 := n4_; have NB148_152 := n5_; have NB152_148 := n6_; clear n0_ n1_ n2_ n3_ n4_ n5_ n6_; clear hb hbox hg; have hnb8 := NB152_148.out; have hnc8 := NB148_152.out; have hcz9_0 : w7.cell? ⟨gb152, 0, none⟩ = some (.int .i64 0) := (blk_cell BK152.out 0).trans rfl; have hcz9_1 : w7.cell? ⟨gb152, 1, none⟩ = some (.int .i64 0) := (blk_cell BK152.out 1).trans rfl; have hcz9_2 : w7.cell? ⟨gb152, 2, none⟩ = some (.int .u64 0) := (blk_cell BK152.out 2).trans rfl; have hcz9_3 : w7.cell? ⟨gb152, 3, none⟩ = some (.slice none 0 0) := (blk_cell BK152.out 3).trans rfl; have hfz9_0 := blk_frozen BK152.out 0; have hfz9_1 := blk_frozen BK152.out 1; have hfz9_2 := blk_frozen BK152.out 2; have hfz9_3 := blk_frozen BK152.out 3) | ((with_reducible refine gate_callee (f := 24) rfl ?_); refine goesL_ (some 34) rfl rfl Try.func24 (by kernel_rfl) rfl #[.int .i64 (wrap64 (Go.bits .and .u64 t149 7))] rfl (by (try simp only [List.map_toArray, List.map_cons, List.map_nil]); first | done | rfl | (simp only [List.length_drop, List.length_take]; rfl)) ?_; (with_reducible refine (wire_kind.calls (wrap64 (Go.bits .and .u64 t149 7)) t153 t154 _ A4.out).mono ?_); rintro e w' ⟨rfl, ⟨nd, rfl⟩⟩; refine ⟨_, rfl, ?_⟩))
      (try simp only [Act.put, List.setIfInBounds_toArray, List.set_cons_zero, List.set_cons_succ])
      go_cut [48] (fun v48 wc => ∃ (kq : Nat) (x48_4 : Bool), v48 = .bool x48_4 ∧ Aside0 (wire_Take.j0 kq l0 t150 t153 x48_4 (wrap64 (t149 / 8)) (wrap64 (Go.bits .and .u64 t149 7)) 0 = some (r1, r2, r3, r4, r5, r6)) ∧ Aside0 (kq ≤ k) ∧ Aside0 (wc.heap[gb148]? = some (.cells #[.int .i64 0, .int .i64 0, .int .u64 0, (.slice none 0 0)] 25 (0, 0))) ∧ Aside0 (wc.heap[gb152]? = some (.cells #[.int .i64 (wrap64 (t149 / 8)), .int .i64 (wrap64 (Go.bits .and .u64 t149 7)), .int .u64 0, (.slice none 0 0)] 25 (0, 0))) ∧ Aside0 (Below w.heap.size w wc))
      case first =>
        have H := HC5.out
        clear HC5
        by_cases c10 : (t149 / 4294967296) = 0
        · as_aux_lemma =>
            rw [if_pos c10] at H
            have c10b0 : ((t149 / 4294967296) == 0) = true := beq_iff_eq.mpr c10
            have c10b1 : ((t149 / 4294967296) != 0) = false := bne_eq_false_iff_eq.mpr c10
            clear c10
            (first | rw [c10b0] | (simp only [i64_w, i32_w]; rw [c10b0]) | skip)
            by_cases c11 : (wrap64 (t149 / 8)) = 0
            · as_aux_lemma =>
                rw [if_pos c11] at H
                have c11b0 : ((wrap64 (t149 / 8)) == 0) = true := beq_iff_eq.mpr c11
                have c11b1 : ((wrap64 (t149 / 8)) != 0) = false := bne_eq_false_iff_eq.mpr c11
                clear c11
                as_aux_lemma =>
                  have H' := Aside0.mk H
                  clear H
                  have hnb12 := NB152_148.out
                  have hnc12 := NB148_152.out
                  have hcz13_0 : w7.cell? ⟨gb152, 0, none⟩ = some (.int .i64 0) := (blk_cell BK152.out 0).trans rfl
                  have hcz13_1 : w7.cell? ⟨gb152, 1, none⟩ = some (.int .i64 0) := (blk_cell BK152.out 1).trans rfl
                  have hcz13_2 : w7.cell? ⟨gb152, 2, none⟩ = some (.int .u64 0) := (blk_cell BK152.out 2).trans rfl
                  have hcz13_3 : w7.cell? ⟨gb152, 3, none⟩ = some (.slice none 0 0) := (blk_cell BK152.out 3).trans rfl
                  have hfz13_0 := blk_frozen BK152.out 0
                  have hfz13_1 := blk_frozen BK152.out 1
                  have hfz13_2 := blk_frozen BK152.out 2
                  have hfz13_3 := blk_frozen BK152.out 3
                  generalize hwq_ : World.drewN _ _ = wq
                  have Qgb148 : Aside0 (wq.heap[gb148]? = some (.cells #[.int .i64 0, .int .i64 0, .int .u64 0, (.slice none 0 0)] 25 (0, 0))) := ⟨by rw [← hwq_]; (with_reducible repeat (first | refine blk_drewN ?_ _ | refine blk_drew ?_ | refine blk_alloc ?_ _)); refine blk_far ?_ NB148_152.out _; (with_reducible repeat (first | refine blk_drewN ?_ _ | refine blk_drew ?_ | refine blk_alloc ?_ _)); refine blk_far ?_ NB148_152.out _; (with_reducible repeat (first | refine blk_drewN ?_ _ | refine blk_drew ?_ | refine blk_alloc ?_ _)); refine blk_far ?_ NB148_152.out _; (with_reducible repeat (first | refine blk_drewN ?_ _ | refine blk_drew ?_ | refine blk_alloc ?_ _)); refine blk_far ?_ NB148_152.out _; (with_reducible repeat (first | refine blk_drewN ?_ _ | refine blk_drew ?_ | refine blk_alloc ?_ _)); exact BK148.out⟩
                  have Qgb152 : Aside0 (wq.heap[gb152]? = some (.cells #[.int .i64 (wrap64 (t149 / 8)), .int .i64 (wrap64 (Go.bits .and .u64 t149 7)), .int .u64 0, (.slice none 0 0)] 25 (0, 0))) := ⟨by rw [← hwq_]; (with_reducible repeat (first | refine blk_drewN ?_ _ | refine blk_drew ?_ | refine blk_alloc ?_ _)); refine blk_put (cs := #[.int .i64 (wrap64 (t149 / 8)), .int .i64 (wrap64 (Go.bits .and .u64 t149 7)), .int .u64 0, .slice none 0 0]) ?_ 3 _ rfl; (with_reducible repeat (first | refine blk_drewN ?_ _ | refine blk_drew ?_ | refine blk_alloc ?_ _)); refine blk_put (cs := #[.int .i64 (wrap64 (t149 / 8)), .int .i64 (wrap64 (Go.bits .and .u64 t149 7)), .int .u64 0, .slice none 0 0]) ?_ 2 _ rfl; (with_reducible repeat (first | refine blk_drewN ?_ _ | refine blk_drew ?_ | refine blk_alloc ?_ _)); refine blk_put (cs := #[.int .i64 (wrap64 (t149 / 8)), .int .i64 0, .int .u64 0, .slice none 0 0]) ?_ 1 _ rfl; (with_reducible repeat (first | refine blk_drewN ?_ _ | refine blk_drew ?_ | refine blk_alloc ?_ _)); refine blk_put (cs := #[.int .i64 0, .int .i64 0, .int .u64 0, .slice none 0 0]) ?_ 0 _ rfl; (with_reducible repeat (first | refine blk_drewN ?_ _ | refine blk_drew ?_ | refine blk_alloc ?_ _)); exact BK152.out⟩
                  have QHB : Aside0 (Below w.heap.size w wq) := ⟨by rw [← hwq_]; repeat (first | (with_reducible first | exact HB.out | apply below_alloc | apply pw_below_drewN | apply below_drew1 | refine below_set ?_ GE148.out | refine below_set ?_ GE152.out) | exact HB.out)⟩
                  clear hwq_
                  have Qcgb148_0 := (blk_cell Qgb148.out 0).trans rfl
                  have Qcgb148_1 := (blk_cell Qgb148.out 1).trans rfl
                  have Qcgb148_2 := (blk_cell Qgb148.out 2).trans rfl
                  have Qcgb148_3 := (blk_cell Qgb148.out 3).trans rfl
                  have Qcgb152_0 := (blk_cell Qgb152.out 0).trans rfl
                  have Qcgb152_1 := (blk_cell Qgb152.out 1).trans rfl
                  have Qcgb152_2 := (blk_cell Qgb152.out 2).trans rfl
                  have Qcgb152_3 := (blk_cell Qgb152.out 3).trans rfl
                  go_wp2
                  go_meet
                  case rel => exact ⟨_, (true), (by first | rfl | (simp; done) | (simp [*]; done)), H', ⟨by first | omega | exact Nat.le_refl _⟩, ⟨by (with_reducible repeat (first | refine blk_drewN ?_ _ | refine blk_drew ?_ | refine blk_alloc ?_ _)); exact Qgb148.out⟩, ⟨by (with_reducible repeat (first | refine blk_drewN ?_ _ | refine blk_drew ?_ | refine blk_alloc ?_ _)); exact Qgb152.out⟩, ⟨by repeat (first | (with_reducible first | exact QHB.out | apply below_alloc | apply pw_below_drewN | apply below_drew1) | exact QHB.out)⟩⟩
            · as_aux_lemma =>
                rw [if_neg c11] at H
                have c11b0 : ((wrap64 (t149 / 8)) == 0) = false := beq_eq_false_iff_ne.mpr c11
                have c11b1 : ((wrap64 (t149 / 8)) != 0) = true := bne_iff_ne.mpr c11
                as_aux_lemma =>
                  have H' := Aside0.mk H
                  clear H
                  have hnb14 := NB152_148.out
                  have hnc14 := NB148_152.out
                  have hcz15_0 : w7.cell? ⟨gb152, 0, none⟩ = some (.int .i64 0) := (blk_cell BK152.out 0).trans rfl
                  have hcz15_1 : w7.cell? ⟨gb152, 1, none⟩ = some (.int .i64 0) := (blk_cell BK152.out 1).trans rfl
                  have hcz15_2 : w7.cell? ⟨gb152, 2, none⟩ = some (.int .u64 0) := (blk_cell BK152.out 2).trans rfl
                  have hcz15_3 : w7.cell? ⟨gb152, 3, none⟩ = some (.slice none 0 0) := (blk_cell BK152.out 3).trans rfl
                  have hfz15_0 := blk_frozen BK152.out 0
                  have hfz15_1 := blk_frozen BK152.out 1
                  have hfz15_2 := blk_frozen BK152.out 2
                  have hfz15_3 := blk_frozen BK152.out 3
                  generalize hwq_ : World.drewN _ _ = wq
                  have Qgb148 : Aside0 (wq.heap[gb148]? = some (.cells #[.int .i64 0, .int .i64 0, .int .u64 0, (.slice none 0 0)] 25 (0, 0))) := ⟨by rw [← hwq_]; (with_reducible repeat (first | refine blk_drewN ?_ _ | refine blk_drew ?_ | refine blk_alloc ?_ _)); refine blk_far ?_ NB148_152.out _; (with_reducible repeat (first | refine blk_drewN ?_ _ | refine blk_drew ?_ | refine blk_alloc ?_ _)); refine blk_far ?_ NB148_152.out _; (with_reducible repeat (first | refine blk_drewN ?_ _ | refine blk_drew ?_ | refine blk_alloc ?_ _)); refine blk_far ?_ NB148_152.out _; (with_reducible repeat (first | refine blk_drewN ?_ _ | refine blk_drew ?_ | refine blk_alloc ?_ _)); refine blk_far ?_ NB148_152.out _; (with_reducible repeat (first | refine blk_drewN ?_ _ | refine blk_drew ?_ | refine blk_alloc ?_ _)); exact BK148.out⟩
                  have Qgb152 : Aside0 (wq.heap[gb152]? = some (.cells #[.int .i64 (wrap64 (t149 / 8)), .int .i64 (wrap64 (Go.bits .and .u64 t149 7)), .int .u64 0, (.slice none 0 0)] 25 (0, 0))) := ⟨by rw [← hwq_]; (with_reducible repeat (first | refine blk_drewN ?_ _ | refine blk_drew ?_ | refine blk_alloc ?_ _)); refine blk_put (cs := #[.int .i64 (wrap64 (t149 / 8)), .int .i64 (wrap64 (Go.bits .and .u64 t149 7)), .int .u64 0, .slice none 0 0]) ?_ 3 _ rfl; (with_reducible repeat (first | refine blk_drewN ?_ _ | refine blk_drew ?_ | refine blk_alloc ?_ _)); refine blk_put (cs := #[.int .i64 (wrap64 (t149 / 8)), .int .i64 (wrap64 (Go.bits .and .u64 t149 7)), .int .u64 0, .slice none 0 0]) ?_ 2 _ rfl; (with_reducible repeat (first | refine blk_drewN ?_ _ | refine blk_drew ?_ | refine blk_alloc ?_ _)); refine blk_put (cs := #[.int .i64 (wrap64 (t149 / 8)), .int .i64 0, .int .u64 0, .slice none 0 0]) ?_ 1 _ rfl; (with_reducible repeat (first | refine blk_drewN ?_ _ | refine blk_drew ?_ | refine blk_alloc ?_ _)); refine blk_put (cs := #[.int .i64 0, .int .i64 0, .int .u64 0, .slice none 0 0]) ?_ 0 _ rfl; (with_reducible repeat (first | refine blk_drewN ?_ _ | refine blk_drew ?_ | refine blk_alloc ?_ _)); exact BK152.out⟩
                  have QHB : Aside0 (Below w.heap.size w wq) := ⟨by rw [← hwq_]; repeat (first | (with_reducible first | exact HB.out | apply below_alloc | apply pw_below_drewN | apply below_drew1 | refine below_set ?_ GE148.out | refine below_set ?_ GE152.out) | exact HB.out)⟩
                  clear hwq_
                  have Qcgb148_0 := (blk_cell Qgb148.out 0).trans rfl
                  have Qcgb148_1 := (blk_cell Qgb148.out 1).trans rfl
                  have Qcgb148_2 := (blk_cell Qgb148.out 2).trans rfl
                  have Qcgb148_3 := (blk_cell Qgb148.out 3).trans rfl
                  have Qcgb152_0 := (blk_cell Qgb152.out 0).trans rfl
                  have Qcgb152_1 := (blk_cell Qgb152.out 1).trans rfl
                  have Qcgb152_2 := (blk_cell Qgb152.out 2).trans rfl
                  have Qcgb152_3 := (blk_cell Qgb152.out 3).trans rfl
                  go_wp2
                  go_meet
                  case rel => exact ⟨_, (!t154), (by first | rfl | (simp; done) | (simp [*]; done)), H', ⟨by first | omega | exact Nat.le_refl _⟩, ⟨by (with_reducible repeat (first | refine blk_drewN ?_ _ | refine blk_drew ?_ | refine blk_alloc ?_ _)); exact Qgb148.out⟩, ⟨by (with_reducible repeat (first | refine blk_drewN ?_ _ | refine blk_drew ?_ | refine blk_alloc ?_ _)); exact Qgb152.out⟩, ⟨by repeat (first | (with_reducible first | exact QHB.out | apply below_alloc | apply pw_below_drewN | apply below_drew1) | exact QHB.out)⟩⟩
        · as_aux_lemma =>
            rw [if_neg c10] at H
            have c10b0 : ((t149 / 4294967296) == 0) = false := beq_eq_false_iff_ne.mpr c10
            have c10b1 : ((t149 / 4294967296) != 0) = true := bne_iff_ne.mpr c10
            (first | rw [c10b0] | (simp only [i64_w, i32_w]; rw [c10b0]) | skip)
            as_aux_lemma =>
              have H' := Aside0.mk H
              clear H
              generalize hwq_ : World.drewN _ _ = wq
              have Qgb148 : Aside0 (wq.heap[gb148]? = some (.cells #[.int .i64 0, .int .i64 0, .int .u64 0, (.slice none 0 0)] 25 (0, 0))) := ⟨by rw [← hwq_]; (with_reducible repeat (first | refine blk_drewN ?_ _ | refine blk_drew ?_ | refine blk_alloc ?_ _)); refine blk_far ?_ NB148_152.out _; (with_reducible repeat (first | refine blk_drewN ?_ _ | refine blk_drew ?_ | refine blk_alloc ?_ _)); refine blk_far ?_ NB148_152.out _; (with_reducible repeat (first | refine blk_drewN ?_ _ | refine blk_drew ?_ | refine blk_alloc ?_ _)); refine blk_far ?_ NB148_152.out _; (with_reducible repeat (first | refine blk_drewN ?_ _ | refine blk_drew ?_ | refine blk_alloc ?_ _)); refine blk_far ?_ NB148_152.out _; (with_reducible repeat (first | refine blk_drewN ?_ _ | refine blk_drew ?_ | refine blk_alloc ?_ _)); exact BK148.out⟩
              have Qgb152 : Aside0 (wq.heap[gb152]? = some (.cells #[.int .i64 (wrap64 (t149 / 8)), .int .i64 (wrap64 (Go.bits .and .u64 t149 7)), .int .u64 0, (.slice none 0 0)] 25 (0, 0))) := ⟨by rw [← hwq_]; (with_reducible repeat (first | refine blk_drewN ?_ _ | refine blk_drew ?_ | refine blk_alloc ?_ _)); refine blk_put (cs := #[.int .i64 (wrap64 (t149 / 8)), .int .i64 (wrap64 (Go.bits .and .u64 t149 7)), .int .u64 0, .slice none 0 0]) ?_ 3 _ rfl; (with_reducible repeat (first | refine blk_drewN ?_ _ | refine blk_drew ?_ | refine blk_alloc ?_ _)); refine blk_put (cs := #[.int .i64 (wrap64 (t149 / 8)), .int .i64 (wrap64 (Go.bits .and .u64 t149 7)), .int .u64 0, .slice none 0 0]) ?_ 2 _ rfl; (with_reducible repeat (first | refine blk_drewN ?_ _ | refine blk_drew ?_ | refine blk_alloc ?_ _)); refine blk_put (cs := #[.int .i64 (wrap64 (t149 / 8)), .int .i64 0, .int .u64 0, .slice none 0 0]) ?_ 1 _ rfl; (with_reducible repeat (first | refine blk_drewN ?_ _ | refine blk_drew ?_ | refine blk_alloc ?_ _)); refine blk_put (cs := #[.int .i64 0, .int .i64 0, .int .u64 0, .slice none 0 0]) ?_ 0 _ rfl; (with_reducible repeat (first | refine blk_drewN ?_ _ | refine blk_drew ?_ | refine blk_alloc ?_ _)); exact BK152.out⟩
              have QHB : Aside0 (Below w.heap.size w wq) := ⟨by rw [← hwq_]; repeat (first | (with_reducible first | exact HB.out | apply below_alloc | apply pw_below_drewN | apply below_drew1 | refine below_set ?_ GE148.out | refine below_set ?_ GE152.out) | exact HB.out)⟩
              clear hwq_
              have Qcgb148_0 := (blk_cell Qgb148.out 0).trans rfl
              have Qcgb148_1 := (blk_cell Qgb148.out 1).trans rfl
              have Qcgb148_2 := (blk_cell Qgb148.out 2).trans rfl
              have Qcgb148_3 := (blk_cell Qgb148.out 3).trans rfl
              have Qcgb152_0 := (blk_cell Qgb152.out 0).trans rfl
              have Qcgb152_1 := (blk_cell Qgb152.out 1).trans rfl
              have Qcgb152_2 := (blk_cell Qgb152.out 2).trans rfl
              have Qcgb152_3 := (blk_cell Qgb152.out 3).trans rfl
              go_wp2
              go_meet
              case rel => exact ⟨_, (true), (by first | rfl | (simp; done) | (simp [*]; done)), H', ⟨by first | omega | exact Nat.le_refl _⟩, ⟨by (with_reducible repeat (first | refine blk_drewN ?_ _ | refine blk_drew ?_ | refine blk_alloc ?_ _)); exact Qgb148.out⟩, ⟨by (with_reducible repeat (first | refine blk_drewN ?_ _ | refine blk_drew ?_ | refine blk_alloc ?_ _)); exact Qgb152.out⟩, ⟨by repeat (first | (with_reducible first | exact QHB.out | apply below_alloc | apply pw_below_drewN | apply below_drew1) | exact QHB.out)⟩⟩
      case rest =>
        clear HC5
        try clear c1
        try clear c2
        try clear p2
        try clear c3
        try clear c3b0
        try clear c3b1
        try clear p6
        try clear c8
        try clear c10
        try clear c10b0
        try clear c10b1
        try clear c11
        try clear c11b0
        try clear c11b1
        try clear c12
        try clear c14
        try clear hcz13_0
        try clear hcz13_1
        try clear hcz13_2
        try clear hcz13_3
        try clear hcz15_0
        try clear hcz15_1
        try clear hcz15_2
        try clear hcz15_3
        try clear hcz9_0
        try clear hcz9_1
        try clear hcz9_2
        try clear hcz9_3
        try clear hfz13_0
        try clear hfz13_1
        try clear hfz13_2
        try clear hfz13_3
        try clear hfz15_0
        try clear hfz15_1
        try clear hfz15_2
        try clear hfz15_3
        try clear hfz9_0
        try clear hfz9_1
        try clear hfz9_2
        try clear hfz9_3
        obtain ⟨kq, x48_4, rfl, HA, HJ4, BK148, BK152, HB⟩ := hcut
        cases kq with
        | zero => exact absurd HA.out (by simp [wire_Take.j0])
        | succ kj4 =>
          have H := HA.out
          clear HA
          simp only [wire_Take.j0] at H
          by_cases c16 : x48_4 = true
          · subst c16
            have H1 : (some (0, 0, 0, ([] : List Int), 0, 20)) = some (r1, r2, r3, r4, r5, r6) := by rw [if_pos rfl] at H; exact H
            clear H
            have H := H1
            clear H1
            as_aux_lemma =>
              simp only [Option.some.injEq, Prod.mk.injEq] at H
              obtain ⟨rfl, rfl, rfl, rfl, rfl, rfl⟩ := H
              have hnb17 := NB148_152.out
              have hnc17 := NB152_148.out
              have hcz18_0 : wc.cell? ⟨gb148, 0, none⟩ = some (.int .i64 0) := (blk_cell BK148.out 0).trans rfl
              have hcz18_1 : wc.cell? ⟨gb148, 1, none⟩ = some (.int .i64 0) := (blk_cell BK148.out 1).trans rfl
              have hcz18_2 : wc.cell? ⟨gb148, 2, none⟩ = some (.int .u64 0) := (blk_cell BK148.out 2).trans rfl
              have hcz18_3 : wc.cell? ⟨gb148, 3, none⟩ = some (.slice none 0 0) := (blk_cell BK148.out 3).trans rfl
              have hfz18_0 := blk_frozen BK148.out 0
              have hfz18_1 := blk_frozen BK148.out 1
              have hfz18_2 := blk_frozen BK148.out 2
              have hfz18_3 := blk_frozen BK148.out 3
              go_wp2
              refine bodyPost_ret (results_ctt rfl _ _ gb148 25 #[.int .i64 0, .int .i64 0, .int .u64 0, .slice none 0 0] (0, 0) _ rfl (by (with_reducible repeat (first | refine blk_drewN ?_ _ | refine blk_drew ?_ | refine blk_alloc ?_ _)); refine blk_put (cs := #[.int .i64 0, .int .i64 0, .int .u64 0, .slice none 0 0]) ?_ 3 _ rfl; (with_reducible repeat (first | refine blk_drewN ?_ _ | refine blk_drew ?_ | refine blk_alloc ?_ _)); refine blk_put (cs := #[.int .i64 0, .int .i64 0, .int .u64 0, .slice none 0 0]) ?_ 2 _ rfl; (with_reducible repeat (first | refine blk_drewN ?_ _ | refine blk_drew ?_ | refine blk_alloc ?_ _)); refine blk_put (cs := #[.int .i64 0, .int .i64 0, .int .u64 0, .slice none 0 0]) ?_ 1 _ rfl; (with_reducible repeat (first | refine blk_drewN ?_ _ | refine blk_drew ?_ | refine blk_alloc ?_ _)); refine blk_put (cs := #[.int .i64 0, .int .i64 0, .int .u64 0, .slice none 0 0]) ?_ 0 _ rfl; (with_reducible repeat (first | refine blk_drewN ?_ _ | refine blk_drew ?_ | refine blk_alloc ?_ _)); exact BK148.out) Try.underlying25 rfl (by kernel_rfl)) rfl ?_
              exact ⟨_, by first | rfl | (simp [errW_none, errW_some] <;> rfl) | (simp [*, errW_none, errW_some] <;> rfl), by first | exact Kd.R_nil _ _ _ _ _ | exact Kd.N_nil _ _ _ _ _ | exact Kd.V_nil _ _ _ _ _ | exact Kd.Q_nil _ _ _ _ _ | exact Kd.S_nil _ _ _ _ _, by repeat (first | (with_reducible first | exact HB.out | apply below_alloc | apply pw_below_drewN | apply below_drew1 | refine below_set ?_ GE148.out | refine below_set ?_ GE152.out) | exact HB.out)⟩
          · replace c16 := Bool.eq_false_iff.mpr c16
            subst c16
            have H1 : (if 0 ≤ t150 then (if t150 ≤ (l0.length : Int) then ((some (l0.drop (t150 : Int).toNat : List Int)).bind fun y155 => (if t153 > 0 then (if (y155.length : Int) < t153 then (some (0, 0, 0, ([] : List Int), 0, 21)) else (if 0 ≤ t153 then (if t153 ≤ (y155.length : Int) then ((varint_Unfixed.f kj4 (y155.take (t153 : Int).toNat)).bind fun t163 => (some ((wrap64 (t149 / 8)), (wrap64 (Go.bits .and .u64 t149 7)), t163, ([] : List Int), wrap64 (t150 + t153), 0))) else (none)) else (none))) else ((varint_Take.f kj4 y155).bind fun bt164 => (if bt164.2.2 = 0 then (if (wrap64 (Go.bits .and .u64 t149 7)) = 0 then (some ((wrap64 (t149 / 8)), (wrap64 (Go.bits .and .u64 t149 7)), bt164.1, ([] : List Int), wrap64 (t150 + bt164.2.1), 0)) else (if bt164.1 > (IntKind.u64.wrap (wrap64 ((y155.length : Int) - bt164.2.1))) then (some (0, 0, 0, ([] : List Int), 0, 21)) else (if 0 ≤ bt164.2.1 then (if bt164.2.1 ≤ (wrap64 (bt164.2.1 + (wrap64 (bt164.1)))) then (if (wrap64 (bt164.2.1 + (wrap64 (bt164.1)))) ≤ (y155.length : Int) then ((bytes_Clone.f ((y155.take ((wrap64 (bt164.2.1 + (wrap64 (bt164.1)))) : Int).toNat).drop (bt164.2.1 : Int).toNat)).bind fun t171 => (some ((wrap64 (t149 / 8)), (wrap64 (Go.bits .and .u64 t149 7)), 0, t171, wrap64 ((wrap64 (t150 + bt164.2.1)) + (wrap64 (bt164.1))), 0))) else (none)) else (none)) else (none)))) else (some (0, 0, 0, ([] : List Int), 0, bt164.2.2)))))) else (none)) else (none)) = some (r1, r2, r3, r4, r5, r6) := by rw [if_neg (show ¬ (false = true) by decide)] at H; exact H
            clear H
            have H := H1
            clear H1
            by_cases c19 : 0 ≤ t150
            · as_aux_lemma =>
                rw [if_pos c19] at H
                have c19b0 := eq_true c19
                have c19b1 : decide (0 ≤ t150) = true := decide_eq_true c19
                clear c19
                by_cases c20 : t150 ≤ (l0.length : Int)
                · as_aux_lemma =>
                    rw [if_pos c20] at H
                    have c20b0 := eq_true c20
                    have c20b1 : decide (t150 ≤ (l0.length : Int)) = true := decide_eq_true c20
                    clear c20
                    obtain ⟨y155, hy155⟩ : ∃ y_ : List Int, y_ = (l0.drop (t150 : Int).toNat) := ⟨_, rfl⟩
                    replace H : (if t153 > 0 then (if (y155.length : Int) < t153 then (some (0, 0, 0, ([] : List Int), 0, 21)) else (if 0 ≤ t153 then (if t153 ≤ (y155.length : Int) then ((varint_Unfixed.f kj4 (y155.take (t153 : Int).toNat)).bind fun t163 => (some ((wrap64 (t149 / 8)), (wrap64 (Go.bits .and .u64 t149 7)), t163, ([] : List Int), wrap64 (t150 + t153), 0))) else (none)) else (none))) else ((varint_Take.f kj4 y155).bind fun bt164 => (if bt164.2.2 = 0 then (if (wrap64 (Go.bits .and .u64 t149 7)) = 0 then (some ((wrap64 (t149 / 8)), (wrap64 (Go.bits .and .u64 t149 7)), bt164.1, ([] : List Int), wrap64 (t150 + bt164.2.1), 0)) else (if bt164.1 > (IntKind.u64.wrap (wrap64 ((y155.length : Int) - bt164.2.1))) then (some (0, 0, 0, ([] : List Int), 0, 21)) else (if 0 ≤ bt164.2.1 then (if bt164.2.1 ≤ (wrap64 (bt164.2.1 + (wrap64 (bt164.1)))) then (if (wrap64 (bt164.2.1 + (wrap64 (bt164.1)))) ≤ (y155.length : Int) then ((bytes_Clone.f ((y155.take ((wrap64 (bt164.2.1 + (wrap64 (bt164.1)))) : Int).toNat).drop (bt164.2.1 : Int).toNat)).bind fun t171 => (some ((wrap64 (t149 / 8)), (wrap64 (Go.bits .and .u64 t149 7)), 0, t171, wrap64 ((wrap64 (t150 + bt164.2.1)) + (wrap64 (bt164.1))), 0))) else (none)) else (none)) else (none)))) else (some (0, 0, 0, ([] : List Int), 0, bt164.2.2))))) = some (r1, r2, r3, r4, r5, r6) := by first | (rw [hy155]; with_reducible exact H) | (have H2_ := (Option.bind_some _ _).symm.trans H; rw [hy155]; with_reducible exact H2_) | (have H2_ := (Option.bind_some _ _).symm.trans H; with_reducible exact H2_) | with_reducible exact H | (rw [hy155]; exact H) | exact H
                    have Ny155 := Aside0.mk hy155
                    clear hy155
                    by_cases c21 : t153 > 0
                    · as_aux_lemma =>
                        rw [if_pos c21] at H
                        have c21b0 : decide (0 < t153) = true := decide_eq_true c21
                        clear c21
                        by_cases c22 : (y155.length : Int) < t153
                        · as_aux_lemma =>
                            rw [if_pos c22] at H
                            have c22b0 : decide ((y155.length : Int) < t153) = true := decide_eq_true c22
                            clear c22
                            as_aux_lemma =>
                              simp only [Option.some.injEq, Prod.mk.injEq] at H
                              obtain ⟨rfl, rfl, rfl, rfl, rfl, rfl⟩ := H
                              have q23 : (t150 : Int) ≤ ((l0.length : Int) : Int) := of_decide_eq_true (by first | (with_reducible assumption) | assumption)
                              obtain ⟨i023, hi023, _, hsz23, _⟩ := info_parts info5
                              have hroom23 : l0.length ≤ c0 := HC0.out
                              have hC23 : Kd.C (Kd.int .u8) _ A0 l0.length l0 := HR0.out
                              have q023 : (0 : Int) ≤ (t150 : Int) := of_decide_eq_true (by first | (with_reducible assumption) | assumption)
                              have hcut23 := cut_from (P := Try.prog) 23 5 .i64 Try.underlying23 hi023 1 hsz23 A0 l0.length c0 t150 q023 q23
                              have hr23 := Kd.C_drop (m := (t150 : Int).toNat) (c := c0) hC23 (by omega) hroom23
                              obtain ⟨A23, hA23⟩ : ∃ A1, A1 = (if c0 = (t150 : Int).toNat then A0 else (A0 : Option Addr).map (·.add ((t150 : Int).toNat * 1))) := ⟨_, rfl⟩
                              obtain ⟨c23, hc23⟩ : ∃ c1, c1 = c0 - (t150 : Int).toNat := ⟨_, rfl⟩
                              have hy23 : y155.length = l0.length - (t150 : Int).toNat := (by rw [Ny155.out, List.length_drop] <;> omega)
                              rw [show (l0).drop (t150 : Int).toNat = y155 from Ny155.out.symm] at hr23
                              replace hr23 : Kd.C (Kd.int .u8) _ A23 y155.length y155 := (by rw [hA23]; exact hr23)
                              rw [← hy23, ← hA23, ← hc23] at hcut23
                              have HR158 := Aside0.mk hr23
                              have HC158 := Aside0.mk (show y155.length ≤ c23 from by rw [hy23, hc23]; exact Nat.sub_le_sub_right hroom23 _)
                              clear hr23 hC23 hroom23 hi023 hsz23 hc23
                              have KY23 := Aside0.mk hy23
                              have KA23 := Aside0.mk hA23
                              clear hy23 hA23
                              replace q23 := eq_true q23
                              have hnb24 := NB148_152.out
                              have hnc24 := NB152_148.out
                              have hcz25_0 : wc.cell? ⟨gb148, 0, none⟩ = some (.int .i64 0) := (blk_cell BK148.out 0).trans rfl
                              have hcz25_1 : wc.cell? ⟨gb148, 1, none⟩ = some (.int .i64 0) := (blk_cell BK148.out 1).trans rfl
                              have hcz25_2 : wc.cell? ⟨gb148, 2, none⟩ = some (.int .u64 0) := (blk_cell BK148.out 2).trans rfl
                              have hcz25_3 : wc.cell? ⟨gb148, 3, none⟩ = some (.slice none 0 0) := (blk_cell BK148.out 3).trans rfl
                              have hfz25_0 := blk_frozen BK148.out 0
                              have hfz25_1 := blk_frozen BK148.out 1
                              have hfz25_2 := blk_frozen BK148.out 2
                              have hfz25_3 := blk_frozen BK148.out 3
                              go_wp2
                              refine bodyPost_ret (results_ctt rfl _ _ gb148 25 #[.int .i64 0, .int .i64 0, .int .u64 0, .slice none 0 0] (0, 0) _ rfl (by (with_reducible repeat (first | refine blk_drewN ?_ _ | refine blk_drew ?_ | refine blk_alloc ?_ _)); refine blk_put (cs := #[.int .i64 0, .int .i64 0, .int .u64 0, .slice none 0 0]) ?_ 3 _ rfl; (with_reducible repeat (first | refine blk_drewN ?_ _ | refine blk_drew ?_ | refine blk_alloc ?_ _)); refine blk_put (cs := #[.int .i64 0, .int .i64 0, .int .u64 0, .slice none 0 0]) ?_ 2 _ rfl; (with_reducible repeat (first | refine blk_drewN ?_ _ | refine blk_drew ?_ | refine blk_alloc ?_ _)); refine blk_put (cs := #[.int .i64 0, .int .i64 0, .int .u64 0, .slice none 0 0]) ?_ 1 _ rfl; (with_reducible repeat (first | refine blk_drewN ?_ _ | refine blk_drew ?_ | refine blk_alloc ?_ _)); refine blk_put (cs := #[.int .i64 0, .int .i64 0, .int .u64 0, .slice none 0 0]) ?_ 0 _ rfl; (with_reducible repeat (first | refine blk_drewN ?_ _ | refine blk_drew ?_ | refine blk_alloc ?_ _)); exact BK148.out) Try.underlying25 rfl (by kernel_rfl)) rfl ?_
                              exact ⟨_, by first | rfl | (simp [errW_none, errW_some] <;> rfl) | (simp [*, errW_none, errW_some] <;> rfl), by first | exact Kd.R_nil _ _ _ _ _ | exact Kd.N_nil _ _ _ _ _ | exact Kd.V_nil _ _ _ _ _ | exact Kd.Q_nil _ _ _ _ _ | exact Kd.S_nil _ _ _ _ _, by repeat (first | (with_reducible first | exact HB.out | apply below_alloc | apply pw_below_drewN | apply below_drew1 | refine below_set ?_ GE148.out | refine below_set ?_ GE152.out) | exact HB.out)⟩
                        · as_aux_lemma =>
                            rw [if_neg c22] at H
                            have c22b0 : decide ((y155.length : Int) < t153) = false := decide_eq_false c22
                            clear c22
                            by_cases c26 : 0 ≤ t153
                            · as_aux_lemma =>
                                rw [if_pos c26] at H
                                have c26b0 := eq_true c26
                                have c26b1 : decide (0 ≤ t153) = true := decide_eq_true c26
                                clear c26
                                by_cases c27 : t153 ≤ (y155.length : Int)
                                · as_aux_lemma =>
                                    rw [if_pos c27] at H
                                    have c27b0 := eq_true c27
                                    have c27b1 : decide (t153 ≤ (y155.length : Int)) = true := decide_eq_true c27
                                    clear c27
                                    obtain ⟨y159, hy159⟩ : ∃ y_ : List Int, y_ = (y155.take (t153 : Int).toNat) := ⟨_, rfl⟩
                                    replace H : ((varint_Unfixed.f kj4 y159).bind fun t163 => (some ((wrap64 (t149 / 8)), (wrap64 (Go.bits .and .u64 t149 7)), t163, ([] : List Int), wrap64 (t150 + t153), 0))) = some (r1, r2, r3, r4, r5, r6) := by first | (rw [hy159]; with_reducible exact H) | (have H2_ := (Option.bind_some _ _).symm.trans H; rw [hy159]; with_reducible exact H2_) | (have H2_ := (Option.bind_some _ _).symm.trans H; with_reducible exact H2_) | with_reducible exact H | (rw [hy159]; exact H) | exact H
                                    have Ny159 := Aside0.mk hy159
                                    clear hy159
                                    replace H := Option.bind_eq_some_iff.mp H
                                    obtain ⟨t163, A280, H⟩ := H
                                    replace H : (some ((wrap64 (t149 / 8)), (wrap64 (Go.bits .and .u64 t149 7)), t163, ([] : List Int), wrap64 (t150 + t153), 0)) = some (r1, r2, r3, r4, r5, r6) := H
                                    have A28 := Aside0.mk A280
                                    clear A280
                                    as_aux_lemma =>
                                      simp only [Option.some.injEq, Prod.mk.injEq] at H
                                      obtain ⟨rfl, rfl, rfl, rfl, rfl, rfl⟩ := H
                                      have q29 : (t150 : Int) ≤ ((l0.length : Int) : Int) := of_decide_eq_true (by first | (with_reducible assumption) | assumption)
                                      obtain ⟨i029, hi029, _, hsz29, _⟩ := info_parts info5
                                      have hroom29 : l0.length ≤ c0 := HC0.out
                                      have hC29 : Kd.C (Kd.int .u8) _ A0 l0.length l0 := HR0.out
                                      have q029 : (0 : Int) ≤ (t150 : Int) := of_decide_eq_true (by first | (with_reducible assumption) | assumption)
                                      have hcut29 := cut_from (P := Try.prog) 23 5 .i64 Try.underlying23 hi029 1 hsz29 A0 l0.length c0 t150 q029 q29
                                      have hr29 := Kd.C_drop (m := (t150 : Int).toNat) (c := c0) hC29 (by omega) hroom29
                                      obtain ⟨A29, hA29⟩ : ∃ A1, A1 = (if c0 = (t150 : Int).toNat then A0 else (A0 : Option Addr).map (·.add ((t150 : Int).toNat * 1))) := ⟨_, rfl⟩
                                      obtain ⟨c29, hc29⟩ : ∃ c1, c1 = c0 - (t150 : Int).toNat := ⟨_, rfl⟩
                                      have hy29 : y155.length = l0.length - (t150 : Int).toNat := (by rw [Ny155.out, List.length_drop] <;> omega)
                                      rw [show (l0).drop (t150 : Int).toNat = y155 from Ny155.out.symm] at hr29
                                      replace hr29 : Kd.C (Kd.int .u8) _ A29 y155.length y155 := (by rw [hA29]; exact hr29)
                                      rw [← hy29, ← hA29, ← hc29] at hcut29
                                      have HR158 := Aside0.mk hr29
                                      have HC158 := Aside0.mk (show y155.length ≤ c29 from by rw [hy29, hc29]; exact Nat.sub_le_sub_right hroom29 _)
                                      clear hr29 hC29 hroom29 hi029 hsz29 hc29
                                      have KY29 := Aside0.mk hy29
                                      have KA29 := Aside0.mk hA29
                                      clear hy29 hA29
                                      replace q29 := eq_true q29
                                      have q30 : (t153 : Int) ≤ ((y155.length : Int) : Int) := of_decide_eq_true (by first | (with_reducible assumption) | assumption)
                                      obtain ⟨i030, hi030, _, hsz30, _⟩ := info_parts info5
                                      have hroom30 : y155.length ≤ c29 := HC158.out
                                      have hC30 : Kd.C (Kd.int .u8) _ A29 y155.length y155 := HR158.out
                                      have hcut30 := cut_to (P := Try.prog) 23 5 .i64 Try.underlying23 hi030 A29 y155.length c29 t153 (of_decide_eq_true (by first | (with_reducible assumption) | assumption)) q30 hroom30
                                      have hr30 := Kd.C_take (m := (t153 : Int).toNat) hC30 (by omega)
                                      have hy30 : y159.length = (t153 : Int).toNat := (by rw [Ny159.out, List.length_take]; omega)
                                      rw [← Ny159.out] at hr30
                                      rw [← hy30] at hcut30
                                      have HR162 := Aside0.mk hr30
                                      have HC162 := Aside0.mk (show y159.length ≤ c29 from by omega)
                                      clear hr30 hC30 hroom30 hi030 hsz30
                                      have KY30 := Aside0.mk hy30
                                      clear hy30
                                      replace q30 := eq_true q30
                                      go_wp2_with (first | ((with_reducible refine gate_callee (f := 32) rfl ?_); refine goesL_ (some 63) rfl rfl Try.func32 (by kernel_rfl) rfl #[.slice A29 y159.length c29] rfl (by (try simp only [List.map_toArray, List.map_cons, List.map_nil]); first | done | rfl | (simp only [List.length_drop, List.length_take]; rfl)) ?_; (with_reducible refine (varint_Unfixed.calls kj4 _ _ y159 t163 _ ?side1 ?side2 A28.out).mono ?_); (case side1 => repeat (first | exact (Kd.C_below HR162.out HB.out) | (with_reducible refine Kd.C_alloc ?_ _) | (with_reducible refine Kd.C_drewN ?_ _) | (with_reducible refine Kd.C_drew ?_))); (case side2 => exact HC162.out); rintro e w31 ⟨rfl, hb⟩; refine ⟨_, rfl, ?_⟩; have n0_ := Aside0.mk (blk_below (g := gb148) (o := .cells #[.int .i64 0, .int .i64 0, .int .u64 0, .slice none 0 0] 25 (0, 0)) (by (with_reducible repeat (first | refine blk_drewN ?_ _ | refine blk_drew ?_ | refine blk_alloc ?_ _)); exact BK148.out) hb); have n1_ := Aside0.mk (blk_below (g := gb152) (o := .cells #[.int .i64 (wrap64 (t149 / 8)), .int .i64 (wrap64 (Go.bits .and .u64 t149 7)), .int .u64 0, .slice none 0 0] 25 (0, 0)) (by (with_reducible repeat (first | refine blk_drewN ?_ _ | refine blk_drew ?_ | refine blk_alloc ?_ _)); exact BK152.out) hb); have n2_ := Aside0.mk (below_step (by repeat (first | (with_reducible first | exact HB.out | apply below_alloc | apply pw_below_drewN | apply below_drew1 | refine below_set ?_ GE148.out | refine below_set ?_ GE152.out) | exact HB.out)) hb); clear BK148; clear BK152; clear HB; have BK148 := n0_; have BK152 := n1_; have HB := n2_; clear n0_ n1_ n2_; (try clear hb); (try clear hb2); (try clear hk); (try clear hi); have hnb32 := NB152_148.out; have hnc32 := NB148_152.out; have hcz33_0 : w31.cell? ⟨gb152, 0, none⟩ = some (.int .i64 (wrap64 (t149 / 8))) := (blk_cell BK152.out 0).trans rfl; have hcz33_1 : w31.cell? ⟨gb152, 1, none⟩ = some (.int .i64 (wrap64 (Go.bits .and .u64 t149 7))) := (blk_cell BK152.out 1).trans rfl; have hcz33_2 : w31.cell? ⟨gb152, 2, none⟩ = some (.int .u64 0) := (blk_cell BK152.out 2).trans rfl; have hcz33_3 : w31.cell? ⟨gb152, 3, none⟩ = some (.slice none 0 0) := (blk_cell BK152.out 3).trans rfl; have hfz33_0 := blk_frozen BK152.out 0; have hfz33_1 := blk_frozen BK152.out 1; have hfz33_2 := blk_frozen BK152.out 2; have hfz33_3 := blk_frozen BK152.out 3; have hcz34_0 : w31.cell? ⟨gb148, 0, none⟩ = some (.int .i64 0) := (blk_cell BK148.out 0).trans rfl; have hcz34_1 : w31.cell? ⟨gb148, 1, none⟩ = some (.int .i64 0) := (blk_cell BK148.out 1).trans rfl; have hcz34_2 : w31.cell? ⟨gb148, 2, none⟩ = some (.int .u64 0) := (blk_cell BK148.out 2).trans rfl; have hcz34_3 : w31.cell? ⟨gb148, 3, none⟩ = some (.slice none 0 0) := (blk_cell BK148.out 3).trans rfl; have hfz34_0 := blk_frozen BK148.out 0; have hfz34_1 := blk_frozen BK148.out 1; have hfz34_2 := blk_frozen BK148.out 2; have hfz34_3 := blk_frozen BK148.out 3))
                                      refine bodyPost_ret (results_ctt rfl _ _ gb148 25 #[.int .i64 (wrap64 (t149 / 8)), .int .i64 (wrap64 (Go.bits .and .u64 t149 7)), .int .u64 t163, .slice none 0 0] (0, 0) _ rfl (by (with_reducible repeat (first | refine blk_drewN ?_ _ | refine blk_drew ?_ | refine blk_alloc ?_ _)); refine blk_put (cs := #[.int .i64 (wrap64 (t149 / 8)), .int .i64 (wrap64 (Go.bits .and .u64 t149 7)), .int .u64 t163, .slice none 0 0]) ?_ 3 _ rfl; (with_reducible repeat (first | refine blk_drewN ?_ _ | refine blk_drew ?_ | refine blk_alloc ?_ _)); refine blk_put (cs := #[.int .i64 (wrap64 (t149 / 8)), .int .i64 (wrap64 (Go.bits .and .u64 t149 7)), .int .u64 0, .slice none 0 0]) ?_ 2 _ rfl; (with_reducible repeat (first | refine blk_drewN ?_ _ | refine blk_drew ?_ | refine blk_alloc ?_ _)); refine blk_put (cs := #[.int .i64 (wrap64 (t149 / 8)), .int .i64 0, .int .u64 0, .slice none 0 0]) ?_ 1 _ rfl; (with_reducible repeat (first | refine blk_drewN ?_ _ | refine blk_drew ?_ | refine blk_alloc ?_ _)); refine blk_put (cs := #[.int .i64 0, .int .i64 0, .int .u64 0, .slice none 0 0]) ?_ 0 _ rfl; (with_reducible repeat (first | refine blk_drewN ?_ _ | refine blk_drew ?_ | refine blk_alloc ?_ _)); refine blk_far ?_ NB148_152.out _; (with_reducible repeat (first | refine blk_drewN ?_ _ | refine blk_drew ?_ | refine blk_alloc ?_ _)); exact BK148.out) Try.underlying25 rfl (by kernel_rfl)) rfl ?_
                                      exact ⟨_, by first | rfl | (simp [errW_none, errW_some] <;> rfl) | (simp [*, errW_none, errW_some] <;> rfl), by first | exact Kd.R_nil _ _ _ _ _ | exact Kd.N_nil _ _ _ _ _ | exact Kd.V_nil _ _ _ _ _ | exact Kd.Q_nil _ _ _ _ _ | exact Kd.S_nil _ _ _ _ _, by repeat (first | (with_reducible first | exact HB.out | apply below_alloc | apply pw_below_drewN | apply below_drew1 | refine below_set ?_ GE148.out | refine below_set ?_ GE152.out) | exact HB.out)⟩
                                · rw [if_neg c27] at H
                                  exact absurd H (by simp)
                            · rw [if_neg c26] at H
                              exact absurd H (by simp)
                    · as_aux_lemma =>
                        rw [if_neg c21] at H
                        have c21b0 : decide (0 < t153) = false := decide_eq_false c21
                        clear c21
                        replace H := Option.bind_eq_some_iff.mp H
                        obtain ⟨⟨t164, t165, t166⟩, A350, H⟩ := H
                        replace H : (if t166 = 0 then (if (wrap64 (Go.bits .and .u64 t149 7)) = 0 then (some ((wrap64 (t149 / 8)), (wrap64 (Go.bits .and .u64 t149 7)), t164, ([] : List Int), wrap64 (t150 + t165), 0)) else (if t164 > (IntKind.u64.wrap (wrap64 ((y155.length : Int) - t165))) then (some (0, 0, 0, ([] : List Int), 0, 21)) else (if 0 ≤ t165 then (if t165 ≤ (wrap64 (t165 + (wrap64 (t164)))) then (if (wrap64 (t165 + (wrap64 (t164)))) ≤ (y155.length : Int) then ((bytes_Clone.f ((y155.take ((wrap64 (t165 + (wrap64 (t164)))) : Int).toNat).drop (t165 : Int).toNat)).bind fun t171 => (some ((wrap64 (t149 / 8)), (wrap64 (Go.bits .and .u64 t149 7)), 0, t171, wrap64 ((wrap64 (t150 + t165)) + (wrap64 (t164))), 0))) else (none)) else (none)) else (none)))) else (some (0, 0, 0, ([] : List Int), 0, t166))) = some (r1, r2, r3, r4, r5, r6) := H
                        have A35 := Aside0.mk A350
                        clear A350
                        by_cases c36 : t166 = 0
                        · as_aux_lemma =>
                            rw [if_pos c36] at H
                            have c36b0 : (t166 == 0) = true := beq_iff_eq.mpr c36
                            have c36b1 : (t166 != 0) = false := bne_eq_false_iff_eq.mpr c36
                            clear c36
                            by_cases c37 : (wrap64 (Go.bits .and .u64 t149 7)) = 0
                            · as_aux_lemma =>
                                rw [if_pos c37] at H
                                have c37b0 : ((wrap64 (Go.bits .and .u64 t149 7)) == 0) = true := beq_iff_eq.mpr c37
                                have c37b1 : ((wrap64 (Go.bits .and .u64 t149 7)) != 0) = false := bne_eq_false_iff_eq.mpr c37
                                clear c37
                                as_aux_lemma =>
                                  simp only [Option.some.injEq, Prod.mk.injEq] at H
                                  obtain ⟨rfl, rfl, rfl, rfl, rfl, rfl⟩ := H
                                  have q38 : (t150 : Int) ≤ ((l0.length : Int) : Int) := of_decide_eq_true (by first | (with_reducible assumption) | assumption)
                                  obtain ⟨i038, hi038, _, hsz38, _⟩ := info_parts info5
                                  have hroom38 : l0.length ≤ c0 := HC0.out
                                  have hC38 : Kd.C (Kd.int .u8) _ A0 l0.length l0 := HR0.out
                                  have q038 : (0 : Int) ≤ (t150 : Int) := of_decide_eq_true (by first | (with_reducible assumption) | assumption)
                                  have hcut38 := cut_from (P := Try.prog) 23 5 .i64 Try.underlying23 hi038 1 hsz38 A0 l0.length c0 t150 q038 q38
                                  have hr38 := Kd.C_drop (m := (t150 : Int).toNat) (c := c0) hC38 (by omega) hroom38
                                  obtain ⟨A38, hA38⟩ : ∃ A1, A1 = (if c0 = (t150 : Int).toNat then A0 else (A0 : Option Addr).map (·.add ((t150 : Int).toNat * 1))) := ⟨_, rfl⟩
                                  obtain ⟨c38, hc38⟩ : ∃ c1, c1 = c0 - (t150 : Int).toNat := ⟨_, rfl⟩
                                  have hy38 : y155.length = l0.length - (t150 : Int).toNat := (by rw [Ny155.out, List.length_drop] <;> omega)
                                  rw [show (l0).drop (t150 : Int).toNat = y155 from Ny155.out.symm] at hr38
                                  replace hr38 : Kd.C (Kd.int .u8) _ A38 y155.length y155 := (by rw [hA38]; exact hr38)
                                  rw [← hy38, ← hA38, ← hc38] at hcut38
                                  have HR158 := Aside0.mk hr38
                                  have HC158 := Aside0.mk (show y155.length ≤ c38 from by rw [hy38, hc38]; exact Nat.sub_le_sub_right hroom38 _)
                                  clear hr38 hC38 hroom38 hi038 hsz38 hc38
                                  have KY38 := Aside0.mk hy38
                                  have KA38 := Aside0.mk hA38
                                  clear hy38 hA38
                                  replace q38 := eq_true q38
                                  go_wp2_with (first | ((with_reducible refine gate_callee (f := 31) rfl ?_); refine goesL_ (some 71) rfl rfl Try.func31 (by kernel_rfl) rfl #[.slice A38 y155.length c38] rfl (by (try simp only [List.map_toArray, List.map_cons, List.map_nil]); first | done | rfl | (simp only [List.length_drop, List.length_take]; rfl)) ?_; (with_reducible refine (varint_Take.calls kj4 _ _ y155 t164 t165 t166 _ ?side1 ?side2 A35.out).mono ?_); (case side1 => repeat (first | exact (Kd.C_below HR158.out HB.out) | (with_reducible refine Kd.C_alloc ?_ _) | (with_reducible refine Kd.C_drewN ?_ _) | (with_reducible refine Kd.C_drew ?_))); (case side2 => exact HC158.out); rintro e w' ⟨rfl, ⟨nd, rfl⟩⟩; refine ⟨_, rfl, ?_⟩; (try (rw [drewN_self wc]; generalize hq_ : World.drewN wc _ = wc; have n0_ : Aside0 (wc.heap[gb148]? = some (.cells #[.int .i64 0, .int .i64 0, .int .u64 0, .slice none 0 0] 25 (0, 0))) := ⟨by rw [← hq_]; exact (by (with_reducible repeat (first | refine blk_drewN ?_ _ | refine blk_drew ?_ | refine blk_alloc ?_ _)); exact BK148.out)⟩; have n1_ : Aside0 (wc.heap[gb152]? = some (.cells #[.int .i64 (wrap64 (t149 / 8)), .int .i64 (wrap64 (Go.bits .and .u64 t149 7)), .int .u64 0, .slice none 0 0] 25 (0, 0))) := ⟨by rw [← hq_]; exact (by (with_reducible repeat (first | refine blk_drewN ?_ _ | refine blk_drew ?_ | refine blk_alloc ?_ _)); exact BK152.out)⟩; have n2_ : Aside0 (Below w.heap.size w wc) := ⟨by rw [← hq_]; exact (by repeat (first | (with_reducible first | exact HB.out | apply below_alloc | apply pw_below_drewN | apply below_drew1 | refine below_set ?_ GE148.out | refine below_set ?_ GE152.out) | exact HB.out))⟩; clear BK148 BK152 HB hq_; have BK148 := n0_; have BK152 := n1_; have HB := n2_; clear n0_ n1_ n2_)); have hnb39 := NB152_148.out; have hnc39 := NB148_152.out; have hcz40_0 : wc.cell? ⟨gb152, 0, none⟩ = some (.int .i64 (wrap64 (t149 / 8))) := (blk_cell BK152.out 0).trans rfl; have hcz40_1 : wc.cell? ⟨gb152, 1, none⟩ = some (.int .i64 (wrap64 (Go.bits .and .u64 t149 7))) := (blk_cell BK152.out 1).trans rfl; have hcz40_2 : wc.cell? ⟨gb152, 2, none⟩ = some (.int .u64 0) := (blk_cell BK152.out 2).trans rfl; have hcz40_3 : wc.cell? ⟨gb152, 3, none⟩ = some (.slice none 0 0) := (blk_cell BK152.out 3).trans rfl; have hfz40_0 := blk_frozen BK152.out 0; have hfz40_1 := blk_frozen BK152.out 1; have hfz40_2 := blk_frozen BK152.out 2; have hfz40_3 := blk_frozen BK152.out 3; have hcz41_0 : wc.cell? ⟨gb148, 0, none⟩ = some (.int .i64 0) := (blk_cell BK148.out 0).trans rfl; have hcz41_1 : wc.cell? ⟨gb148, 1, none⟩ = some (.int .i64 0) := (blk_cell BK148.out 1).trans rfl; have hcz41_2 : wc.cell? ⟨gb148, 2, none⟩ = some (.int .u64 0) := (blk_cell BK148.out 2).trans rfl; have hcz41_3 : wc.cell? ⟨gb148, 3, none⟩ = some (.slice none 0 0) := (blk_cell BK148.out 3).trans rfl; have hfz41_0 := blk_frozen BK148.out 0; have hfz41_1 := blk_frozen BK148.out 1; have hfz41_2 := blk_frozen BK148.out 2; have hfz41_3 := blk_frozen BK148.out 3))
                                  refine bodyPost_ret (results_ctt rfl _ _ gb148 25 #[.int .i64 (wrap64 (t149 / 8)), .int .i64 (wrap64 (Go.bits .and .u64 t149 7)), .int .u64 t164, .slice none 0 0] (0, 0) _ rfl (by (with_reducible repeat (first | refine blk_drewN ?_ _ | refine blk_drew ?_ | refine blk_alloc ?_ _)); refine blk_put (cs := #[.int .i64 (wrap64 (t149 / 8)), .int .i64 (wrap64 (Go.bits .and .u64 t149 7)), .int .u64 t164, .slice none 0 0]) ?_ 3 _ rfl; (with_reducible repeat (first | refine blk_drewN ?_ _ | refine blk_drew ?_ | refine blk_alloc ?_ _)); refine blk_put (cs := #[.int .i64 (wrap64 (t149 / 8)), .int .i64 (wrap64 (Go.bits .and .u64 t149 7)), .int .u64 0, .slice none 0 0]) ?_ 2 _ rfl; (with_reducible repeat (first | refine blk_drewN ?_ _ | refine blk_drew ?_ | refine blk_alloc ?_ _)); refine blk_put (cs := #[.int .i64 (wrap64 (t149 / 8)), .int .i64 0, .int .u64 0, .slice none 0 0]) ?_ 1 _ rfl; (with_reducible repeat (first | refine blk_drewN ?_ _ | refine blk_drew ?_ | refine blk_alloc ?_ _)); refine blk_put (cs := #[.int .i64 0, .int .i64 0, .int .u64 0, .slice none 0 0]) ?_ 0 _ rfl; (with_reducible repeat (first | refine blk_drewN ?_ _ | refine blk_drew ?_ | refine blk_alloc ?_ _)); refine blk_far ?_ NB148_152.out _; (with_reducible repeat (first | refine blk_drewN ?_ _ | refine blk_drew ?_ | refine blk_alloc ?_ _)); exact BK148.out) Try.underlying25 rfl (by kernel_rfl)) rfl ?_
                                  exact ⟨_, by first | rfl | (simp [errW_none, errW_some] <;> rfl) | (simp [*, errW_none, errW_some] <;> rfl), by first | exact Kd.R_nil _ _ _ _ _ | exact Kd.N_nil _ _ _ _ _ | exact Kd.V_nil _ _ _ _ _ | exact Kd.Q_nil _ _ _ _ _ | exact Kd.S_nil _ _ _ _ _, by repeat (first | (with_reducible first | exact HB.out | apply below_alloc | apply pw_below_drewN | apply below_drew1 | refine below_set ?_ GE148.out | refine below_set ?_ GE152.out) | exact HB.out)⟩
                            · as_aux_lemma =>
                                rw [if_neg c37] at H
                                have c37b0 : ((wrap64 (Go.bits .and .u64 t149 7)) == 0) = false := beq_eq_false_iff_ne.mpr c37
                                have c37b1 : ((wrap64 (Go.bits .and .u64 t149 7)) != 0) = true := bne_iff_ne.mpr c37
                                by_cases c42 : t164 > (IntKind.u64.wrap (wrap64 ((y155.length : Int) - t165)))
                                · as_aux_lemma =>
                                    rw [if_pos c42] at H
                                    have c42b0 : decide ((IntKind.u64.wrap (wrap64 ((y155.length : Int) - t165))) < t164) = true := decide_eq_true c42
                                    clear c42
                                    as_aux_lemma =>
                                      simp only [Option.some.injEq, Prod.mk.injEq] at H
                                      obtain ⟨rfl, rfl, rfl, rfl, rfl, rfl⟩ := H
                                      have q43 : (t150 : Int) ≤ ((l0.length : Int) : Int) := of_decide_eq_true (by first | (with_reducible assumption) | assumption)
                                      obtain ⟨i043, hi043, _, hsz43, _⟩ := info_parts info5
                                      have hroom43 : l0.length ≤ c0 := HC0.out
                                      have hC43 : Kd.C (Kd.int .u8) _ A0 l0.length l0 := HR0.out
                                      have q043 : (0 : Int) ≤ (t150 : Int) := of_decide_eq_true (by first | (with_reducible assumption) | assumption)
                                      have hcut43 := cut_from (P := Try.prog) 23 5 .i64 Try.underlying23 hi043 1 hsz43 A0 l0.length c0 t150 q043 q43
                                      have hr43 := Kd.C_drop (m := (t150 : Int).toNat) (c := c0) hC43 (by omega) hroom43
                                      obtain ⟨A43, hA43⟩ : ∃ A1, A1 = (if c0 = (t150 : Int).toNat then A0 else (A0 : Option Addr).map (·.add ((t150 : Int).toNat * 1))) := ⟨_, rfl⟩
                                      obtain ⟨c43, hc43⟩ : ∃ c1, c1 = c0 - (t150 : Int).toNat := ⟨_, rfl⟩
                                      have hy43 : y155.length = l0.length - (t150 : Int).toNat := (by rw [Ny155.out, List.length_drop] <;> omega)
                                      rw [show (l0).drop (t150 : Int).toNat = y155 from Ny155.out.symm] at hr43
                                      replace hr43 : Kd.C (Kd.int .u8) _ A43 y155.length y155 := (by rw [hA43]; exact hr43)
                                      rw [← hy43, ← hA43, ← hc43] at hcut43
                                      have HR158 := Aside0.mk hr43
                                      have HC158 := Aside0.mk (show y155.length ≤ c43 from by rw [hy43, hc43]; exact Nat.sub_le_sub_right hroom43 _)
                                      clear hr43 hC43 hroom43 hi043 hsz43 hc43
                                      have KY43 := Aside0.mk hy43
                                      have KA43 := Aside0.mk hA43
                                      clear hy43 hA43
                                      replace q43 := eq_true q43
                                      go_wp2_with (first | ((with_reducible refine gate_callee (f := 31) rfl ?_); refine goesL_ (some 71) rfl rfl Try.func31 (by kernel_rfl) rfl #[.slice A43 y155.length c43] rfl (by (try simp only [List.map_toArray, List.map_cons, List.map_nil]); first | done | rfl | (simp only [List.length_drop, List.length_take]; rfl)) ?_; (with_reducible refine (varint_Take.calls kj4 _ _ y155 t164 t165 t166 _ ?side1 ?side2 A35.out).mono ?_); (case side1 => repeat (first | exact (Kd.C_below HR158.out HB.out) | (with_reducible refine Kd.C_alloc ?_ _) | (with_reducible refine Kd.C_drewN ?_ _) | (with_reducible refine Kd.C_drew ?_))); (case side2 => exact HC158.out); rintro e w' ⟨rfl, ⟨nd, rfl⟩⟩; refine ⟨_, rfl, ?_⟩; (try (rw [drewN_self wc]; generalize hq_ : World.drewN wc _ = wc; have n0_ : Aside0 (wc.heap[gb148]? = some (.cells #[.int .i64 0, .int .i64 0, .int .u64 0, .slice none 0 0] 25 (0, 0))) := ⟨by rw [← hq_]; exact (by (with_reducible repeat (first | refine blk_drewN ?_ _ | refine blk_drew ?_ | refine blk_alloc ?_ _)); exact BK148.out)⟩; have n1_ : Aside0 (wc.heap[gb152]? = some (.cells #[.int .i64 (wrap64 (t149 / 8)), .int .i64 (wrap64 (Go.bits .and .u64 t149 7)), .int .u64 0, .slice none 0 0] 25 (0, 0))) := ⟨by rw [← hq_]; exact (by (with_reducible repeat (first | refine blk_drewN ?_ _ | refine blk_drew ?_ | refine blk_alloc ?_ _)); exact BK152.out)⟩; have n2_ : Aside0 (Below w.heap.size w wc) := ⟨by rw [← hq_]; exact (by repeat (first | (with_reducible first | exact HB.out | apply below_alloc | apply pw_below_drewN | apply below_drew1 | refine below_set ?_ GE148.out | refine below_set ?_ GE152.out) | exact HB.out))⟩; clear BK148 BK152 HB hq_; have BK148 := n0_; have BK152 := n1_; have HB := n2_; clear n0_ n1_ n2_)); have hnb44 := NB152_148.out; have hnc44 := NB148_152.out; have hcz45_0 : wc.cell? ⟨gb152, 0, none⟩ = some (.int .i64 (wrap64 (t149 / 8))) := (blk_cell BK152.out 0).trans rfl; have hcz45_1 : wc.cell? ⟨gb152, 1, none⟩ = some (.int .i64 (wrap64 (Go.bits .and .u64 t149 7))) := (blk_cell BK152.out 1).trans rfl; have hcz45_2 : wc.cell? ⟨gb152, 2, none⟩ = some (.int .u64 0) := (blk_cell BK152.out 2).trans rfl; have hcz45_3 : wc.cell? ⟨gb152, 3, none⟩ = some (.slice none 0 0) := (blk_cell BK152.out 3).trans rfl; have hfz45_0 := blk_frozen BK152.out 0; have hfz45_1 := blk_frozen BK152.out 1; have hfz45_2 := blk_frozen BK152.out 2; have hfz45_3 := blk_frozen BK152.out 3; have hcz46_0 : wc.cell? ⟨gb148, 0, none⟩ = some (.int .i64 0) := (blk_cell BK148.out 0).trans rfl; have hcz46_1 : wc.cell? ⟨gb148, 1, none⟩ = some (.int .i64 0) := (blk_cell BK148.out 1).trans rfl; have hcz46_2 : wc.cell? ⟨gb148, 2, none⟩ = some (.int .u64 0) := (blk_cell BK148.out 2).trans rfl; have hcz46_3 : wc.cell? ⟨gb148, 3, none⟩ = some (.slice none 0 0) := (blk_cell BK148.out 3).trans rfl; have hfz46_0 := blk_frozen BK148.out 0; have hfz46_1 := blk_frozen BK148.out 1; have hfz46_2 := blk_frozen BK148.out 2; have hfz46_3 := blk_frozen BK148.out 3))
                                      refine bodyPost_ret (results_ctt rfl _ _ gb148 25 #[.int .i64 0, .int .i64 0, .int .u64 0, .slice none 0 0] (0, 0) _ rfl (by (with_reducible repeat (first | refine blk_drewN ?_ _ | refine blk_drew ?_ | refine blk_alloc ?_ _)); refine blk_put (cs := #[.int .i64 0, .int .i64 0, .int .u64 0, .slice none 0 0]) ?_ 3 _ rfl; (with_reducible repeat (first | refine blk_drewN ?_ _ | refine blk_drew ?_ | refine blk_alloc ?_ _)); refine blk_put (cs := #[.int .i64 0, .int .i64 0, .int .u64 0, .slice none 0 0]) ?_ 2 _ rfl; (with_reducible repeat (first | refine blk_drewN ?_ _ | refine blk_drew ?_ | refine blk_alloc ?_ _)); refine blk_put (cs := #[.int .i64 0, .int .i64 0, .int .u64 0, .slice none 0 0]) ?_ 1 _ rfl; (with_reducible repeat (first | refine blk_drewN ?_ _ | refine blk_drew ?_ | refine blk_alloc ?_ _)); refine blk_put (cs := #[.int .i64 0, .int .i64 0, .int .u64 0, .slice none 0 0]) ?_ 0 _ rfl; (with_reducible repeat (first | refine blk_drewN ?_ _ | refine blk_drew ?_ | refine blk_alloc ?_ _)); exact BK148.out) Try.underlying25 rfl (by kernel_rfl)) rfl ?_
                                      exact ⟨_, by first | rfl | (simp [errW_none, errW_some] <;> rfl) | (simp [*, errW_none, errW_some] <;> rfl), by first | exact Kd.R_nil _ _ _ _ _ | exact Kd.N_nil _ _ _ _ _ | exact Kd.V_nil _ _ _ _ _ | exact Kd.Q_nil _ _ _ _ _ | exact Kd.S_nil _ _ _ _ _, by repeat (first | (with_reducible first | exact HB.out | apply below_alloc | apply pw_below_drewN | apply below_drew1 | refine below_set ?_ GE148.out | refine below_set ?_ GE152.out) | exact HB.out)⟩
                                · as_aux_lemma =>
                                    rw [if_neg c42] at H
                                    have c42b0 : decide ((IntKind.u64.wrap (wrap64 ((y155.length : Int) - t165))) < t164) = false := decide_eq_false c42
                                    clear c42
                                    by_cases c47 : 0 ≤ t165
                                    · as_aux_lemma =>
                                        rw [if_pos c47] at H
                                        have c47b0 := eq_true c47
                                        have c47b1 : decide (0 ≤ t165) = true := decide_eq_true c47
                                        clear c47
                                        by_cases c48 : t165 ≤ (wrap64 (t165 + (wrap64 (t164))))
                                        · as_aux_lemma =>
                                            rw [if_pos c48] at H
                                            have c48b0 := eq_true c48
                                            have c48b1 : decide (t165 ≤ (wrap64 (t165 + (wrap64 (t164))))) = true := decide_eq_true c48
                                            by_cases c49 : (wrap64 (t165 + (wrap64 (t164)))) ≤ (y155.length : Int)
                                            · as_aux_lemma =>
                                                rw [if_pos c49] at H
                                                have c49b0 := eq_true c49
                                                have c49b1 : decide ((wrap64 (t165 + (wrap64 (t164)))) ≤ (y155.length : Int)) = true := decide_eq_true c49
                                                obtain ⟨y167, hy167⟩ : ∃ y_ : List Int, y_ = ((y155.take ((wrap64 (t165 + (wrap64 (t164)))) : Int).toNat).drop (t165 : Int).toNat) := ⟨_, rfl⟩
                                                replace H : ((bytes_Clone.f y167).bind fun t171 => (some ((wrap64 (t149 / 8)), (wrap64 (Go.bits .and .u64 t149 7)), 0, t171, wrap64 ((wrap64 (t150 + t165)) + (wrap64 (t164))), 0))) = some (r1, r2, r3, r4, r5, r6) := by first | (rw [hy167]; with_reducible exact H) | (have H2_ := (Option.bind_some _ _).symm.trans H; rw [hy167]; with_reducible exact H2_) | (have H2_ := (Option.bind_some _ _).symm.trans H; with_reducible exact H2_) | with_reducible exact H | (rw [hy167]; exact H) | exact H
                                                have Ny167 := Aside0.mk hy167
                                                clear hy167
                                                replace H := Option.bind_eq_some_iff.mp H
                                                obtain ⟨t171, A500, H⟩ := H
                                                replace H : (some ((wrap64 (t149 / 8)), (wrap64 (Go.bits .and .u64 t149 7)), 0, t171, wrap64 ((wrap64 (t150 + t165)) + (wrap64 (t164))), 0)) = some (r1, r2, r3, r4, r5, r6) := H
                                                have A50 := Aside0.mk A500
                                                clear A500
                                                as_aux_lemma =>
                                                  simp only [Option.some.injEq, Prod.mk.injEq] at H
                                                  obtain ⟨rfl, rfl, rfl, rfl, rfl, rfl⟩ := H
                                                  have q51 : (t150 : Int) ≤ ((l0.length : Int) : Int) := of_decide_eq_true (by first | (with_reducible assumption) | assumption)
                                                  obtain ⟨i051, hi051, _, hsz51, _⟩ := info_parts info5
                                                  have hroom51 : l0.length ≤ c0 := HC0.out
                                                  have hC51 : Kd.C (Kd.int .u8) _ A0 l0.length l0 := HR0.out
                                                  have q051 : (0 : Int) ≤ (t150 : Int) := of_decide_eq_true (by first | (with_reducible assumption) | assumption)
                                                  have hcut51 := cut_from (P := Try.prog) 23 5 .i64 Try.underlying23 hi051 1 hsz51 A0 l0.length c0 t150 q051 q51
                                                  have hr51 := Kd.C_drop (m := (t150 : Int).toNat) (c := c0) hC51 (by omega) hroom51
                                                  obtain ⟨A51, hA51⟩ : ∃ A1, A1 = (if c0 = (t150 : Int).toNat then A0 else (A0 : Option Addr).map (·.add ((t150 : Int).toNat * 1))) := ⟨_, rfl⟩
                                                  obtain ⟨c51, hc51⟩ : ∃ c1, c1 = c0 - (t150 : Int).toNat := ⟨_, rfl⟩
                                                  have hy51 : y155.length = l0.length - (t150 : Int).toNat := (by rw [Ny155.out, List.length_drop] <;> omega)
                                                  rw [show (l0).drop (t150 : Int).toNat = y155 from Ny155.out.symm] at hr51
                                                  replace hr51 : Kd.C (Kd.int .u8) _ A51 y155.length y155 := (by rw [hA51]; exact hr51)
                                                  rw [← hy51, ← hA51, ← hc51] at hcut51
                                                  have HR158 := Aside0.mk hr51
                                                  have HC158 := Aside0.mk (show y155.length ≤ c51 from by rw [hy51, hc51]; exact Nat.sub_le_sub_right hroom51 _)
                                                  clear hr51 hC51 hroom51 hi051 hsz51 hc51
                                                  have KY51 := Aside0.mk hy51
                                                  have KA51 := Aside0.mk hA51
                                                  clear hy51 hA51
                                                  replace q51 := eq_true q51
                                                  go_wp2_with (first | ((with_reducible refine gate_callee (f := 31) rfl ?_); refine goesL_ (some 71) rfl rfl Try.func31 (by kernel_rfl) rfl #[.slice A51 y155.length c51] rfl (by (try simp only [List.map_toArray, List.map_cons, List.map_nil]); first | done | rfl | (simp only [List.length_drop, List.length_take]; rfl)) ?_; (with_reducible refine (varint_Take.calls kj4 _ _ y155 t164 t165 t166 _ ?side1 ?side2 A35.out).mono ?_); (case side1 => repeat (first | exact (Kd.C_below HR158.out HB.out) | (with_reducible refine Kd.C_alloc ?_ _) | (with_reducible refine Kd.C_drewN ?_ _) | (with_reducible refine Kd.C_drew ?_))); (case side2 => exact HC158.out); rintro e w' ⟨rfl, ⟨nd, rfl⟩⟩; refine ⟨_, rfl, ?_⟩; (try (rw [drewN_self wc]; generalize hq_ : World.drewN wc _ = wc; have n0_ : Aside0 (wc.heap[gb148]? = some (.cells #[.int .i64 0, .int .i64 0, .int .u64 0, .slice none 0 0] 25 (0, 0))) := ⟨by rw [← hq_]; exact (by (with_reducible repeat (first | refine blk_drewN ?_ _ | refine blk_drew ?_ | refine blk_alloc ?_ _)); exact BK148.out)⟩; have n1_ : Aside0 (wc.heap[gb152]? = some (.cells #[.int .i64 (wrap64 (t149 / 8)), .int .i64 (wrap64 (Go.bits .and .u64 t149 7)), .int .u64 0, .slice none 0 0] 25 (0, 0))) := ⟨by rw [← hq_]; exact (by (with_reducible repeat (first | refine blk_drewN ?_ _ | refine blk_drew ?_ | refine blk_alloc ?_ _)); exact BK152.out)⟩; have n2_ : Aside0 (Below w.heap.size w wc) := ⟨by rw [← hq_]; exact (by repeat (first | (with_reducible first | exact HB.out | apply below_alloc | apply pw_below_drewN | apply below_drew1 | refine below_set ?_ GE148.out | refine below_set ?_ GE152.out) | exact HB.out))⟩; clear BK148 BK152 HB hq_; have BK148 := n0_; have BK152 := n1_; have HB := n2_; clear n0_ n1_ n2_)); have hczR4_gb148_0 : wc.cell? ⟨gb148, 0, none⟩ = some (.int .i64 0) := (blk_cell BK148.out 0).trans rfl; have hfzR4_gb148_0 := blk_frozen BK148.out 0; have hczR4_gb148_1 : wc.cell? ⟨gb148, 1, none⟩ = some (.int .i64 0) := (blk_cell BK148.out 1).trans rfl; have hfzR4_gb148_1 := blk_frozen BK148.out 1; have hczR4_gb148_2 : wc.cell? ⟨gb148, 2, none⟩ = some (.int .u64 0) := (blk_cell BK148.out 2).trans rfl; have hfzR4_gb148_2 := blk_frozen BK148.out 2; have hczR4_gb148_3 : wc.cell? ⟨gb148, 3, none⟩ = some (.slice none 0 0) := (blk_cell BK148.out 3).trans rfl; have hfzR4_gb148_3 := blk_frozen BK148.out 3; have hnb52 := NB152_148.out; have hnc52 := NB148_152.out; have hcz53_0 : wc.cell? ⟨gb152, 0, none⟩ = some (.int .i64 (wrap64 (t149 / 8))) := (blk_cell BK152.out 0).trans rfl; have hcz53_1 : wc.cell? ⟨gb152, 1, none⟩ = some (.int .i64 (wrap64 (Go.bits .and .u64 t149 7))) := (blk_cell BK152.out 1).trans rfl; have hcz53_2 : wc.cell? ⟨gb152, 2, none⟩ = some (.int .u64 0) := (blk_cell BK152.out 2).trans rfl; have hcz53_3 : wc.cell? ⟨gb152, 3, none⟩ = some (.slice none 0 0) := (blk_cell BK152.out 3).trans rfl; have hfz53_0 := blk_frozen BK152.out 0; have hfz53_1 := blk_frozen BK152.out 1; have hfz53_2 := blk_frozen BK152.out 2; have hfz53_3 := blk_frozen BK152.out 3; have q54 : ((wrap64 (t165 + (wrap64 (t164)))) : Int) ≤ ((y155.length : Int) : Int) := of_decide_eq_true (by first | (with_reducible assumption) | assumption); obtain ⟨i054, hi054, _, hsz54, _⟩ := info_parts info5; have hroom54 : y155.length ≤ c51 := HC158.out; have hC54 : Kd.C (Kd.int .u8) _ A51 y155.length y155 := HR158.out; have ql54 : (t165 : Int) ≤ ((wrap64 (t165 + (wrap64 (t164)))) : Int) := of_decide_eq_true (by first | (with_reducible assumption) | assumption); have q054 : (0 : Int) ≤ (t165 : Int) := of_decide_eq_true (by first | (with_reducible assumption) | assumption); have hcut54 := cut_mid (P := Try.prog) 23 5 .i64 .i64 Try.underlying23 hi054 1 hsz54 A51 y155.length c51 t165 (wrap64 (t165 + (wrap64 (t164)))) q054 ql54 q54 hroom54; have hr54 := Kd.C_mid (lo := (t165 : Int).toNat) (hi := ((wrap64 (t165 + (wrap64 (t164)))) : Int).toNat) (c := c51) hC54 (by omega) (by omega) hroom54; obtain ⟨A54, hA54⟩ : ∃ A1, A1 = (if c51 = (t165 : Int).toNat then A51 else (A51 : Option Addr).map (·.add ((t165 : Int).toNat * 1))) := ⟨_, rfl⟩; obtain ⟨c54, hc54⟩ : ∃ c1, c1 = c51 - (t165 : Int).toNat := ⟨_, rfl⟩; have hy54 : y167.length = ((wrap64 (t165 + (wrap64 (t164)))) : Int).toNat - (t165 : Int).toNat := (by rw [Ny167.out, List.length_drop, List.length_take] <;> omega); rw [show ((y155).take ((wrap64 (t165 + (wrap64 (t164)))) : Int).toNat).drop (t165 : Int).toNat = y167 from Ny167.out.symm] at hr54; replace hr54 : Kd.C (Kd.int .u8) _ A54 y167.length y167 := (by rw [hA54]; exact hr54); rw [← hy54, ← hA54, ← hc54] at hcut54; have HR170 := Aside0.mk hr54; have HC170 := Aside0.mk (show y167.length ≤ c54 from by rw [hy54, hc54]; exact Nat.sub_le_sub_right (Nat.le_trans (by omega) hroom54) _); clear hr54 hC54 hroom54 hi054 hsz54 hc54; have KY54 := Aside0.mk hy54; have KA54 := Aside0.mk hA54; clear hy54 hA54; replace q54 := eq_true q54) | ((with_reducible refine gate_callee (f := 33) rfl ?_); refine goesL_ (some 106) rfl rfl Try.func33 (by kernel_rfl) rfl #[.slice A54 y167.length c54] rfl (by (try simp only [List.map_toArray, List.map_cons, List.map_nil]); first | done | rfl | (simp only [List.length_drop, List.length_take]; rfl)) ?_; (with_reducible refine (bytes_Clone.calls _ _ y167 t171 _ ?side1 ?side2 A50.out).mono ?_); (case side1 => repeat (first | exact (Kd.C_below HR170.out HB.out) | (with_reducible refine Kd.C_alloc ?_ _) | (with_reducible refine Kd.C_drewN ?_ _) | (with_reducible refine Kd.C_drew ?_))); (case side2 => exact HC170.out); rintro e w55 ⟨v172, rfl, ho0, hb⟩; refine ⟨_, rfl, ?_⟩; have n0_ := Aside0.mk (Kd.R_lower ho0 (below_size (by repeat (first | (with_reducible first | exact HB.out | apply below_alloc | apply pw_below_drewN | apply below_drew1 | refine below_set ?_ GE148.out | refine below_set ?_ GE152.out) | exact HB.out)))); have n1_ := Aside0.mk (blk_below (g := gb148) (o := .cells #[.int .i64 0, .int .i64 0, .int .u64 0, .slice none 0 0] 25 (0, 0)) (by (with_reducible repeat (first | refine blk_drewN ?_ _ | refine blk_drew ?_ | refine blk_alloc ?_ _)); exact BK148.out) hb); have n2_ := Aside0.mk (blk_below (g := gb152) (o := .cells #[.int .i64 (wrap64 (t149 / 8)), .int .i64 (wrap64 (Go.bits .and .u64 t149 7)), .int .u64 0, .slice none 0 0] 25 (0, 0)) (by (with_reducible repeat (first | refine blk_drewN ?_ _ | refine blk_drew ?_ | refine blk_alloc ?_ _)); exact BK152.out) hb); have n3_ := Aside0.mk (below_step (by repeat (first | (with_reducible first | exact HB.out | apply below_alloc | apply pw_below_drewN | apply below_drew1 | refine below_set ?_ GE148.out | refine below_set ?_ GE152.out) | exact HB.out)) hb); clear BK148; clear BK152; clear HB; have HO173 := n0_; have BK148 := n1_; have BK152 := n2_; have HB := n3_; clear n0_ n1_ n2_ n3_; (try clear hb); (try clear hb2); (try clear hk); (try clear hi); (try clear ho0); obtain ⟨Ao56, co56, eo56⟩ := Kd.R_slice HO173.out; subst eo56; have hcz57_0 : w55.cell? ⟨gb152, 0, none⟩ = some (.int .i64 (wrap64 (t149 / 8))) := (blk_cell BK152.out 0).trans rfl; have hcz57_1 : w55.cell? ⟨gb152, 1, none⟩ = some (.int .i64 (wrap64 (Go.bits .and .u64 t149 7))) := (blk_cell BK152.out 1).trans rfl; have hcz57_2 : w55.cell? ⟨gb152, 2, none⟩ = some (.int .u64 0) := (blk_cell BK152.out 2).trans rfl; have hcz57_3 : w55.cell? ⟨gb152, 3, none⟩ = some (.slice none 0 0) := (blk_cell BK152.out 3).trans rfl; have hfz57_0 := blk_frozen BK152.out 0; have hfz57_1 := blk_frozen BK152.out 1; have hfz57_2 := blk_frozen BK152.out 2; have hfz57_3 := blk_frozen BK152.out 3; have hcz58_0 : w55.cell? ⟨gb148, 0, none⟩ = some (.int .i64 0) := (blk_cell BK148.out 0).trans rfl; have hcz58_1 : w55.cell? ⟨gb148, 1, none⟩ = some (.int .i64 0) := (blk_cell BK148.out 1).trans rfl; have hcz58_2 : w55.cell? ⟨gb148, 2, none⟩ = some (.int .u64 0) := (blk_cell BK148.out 2).trans rfl; have hcz58_3 : w55.cell? ⟨gb148, 3, none⟩ = some (.slice none 0 0) := (blk_cell BK148.out 3).trans rfl; have hfz58_0 := blk_frozen BK148.out 0; have hfz58_1 := blk_frozen BK148.out 1; have hfz58_2 := blk_frozen BK148.out 2; have hfz58_3 := blk_frozen BK148.out 3))
                                                  refine bodyPost_ret (results_ctt rfl _ _ gb148 25 #[.int .i64 (wrap64 (t149 / 8)), .int .i64 (wrap64 (Go.bits .and .u64 t149 7)), .int .u64 0, .slice Ao56 t171.length co56] (0, 0) _ rfl (by (with_reducible repeat (first | refine blk_drewN ?_ _ | refine blk_drew ?_ | refine blk_alloc ?_ _)); refine blk_put (cs := #[.int .i64 (wrap64 (t149 / 8)), .int .i64 (wrap64 (Go.bits .and .u64 t149 7)), .int .u64 0, .slice none 0 0]) ?_ 3 _ rfl; (with_reducible repeat (first | refine blk_drewN ?_ _ | refine blk_drew ?_ | refine blk_alloc ?_ _)); refine blk_put (cs := #[.int .i64 (wrap64 (t149 / 8)), .int .i64 (wrap64 (Go.bits .and .u64 t149 7)), .int .u64 0, .slice none 0 0]) ?_ 2 _ rfl; (with_reducible repeat (first | refine blk_drewN ?_ _ | refine blk_drew ?_ | refine blk_alloc ?_ _)); refine blk_put (cs := #[.int .i64 (wrap64 (t149 / 8)), .int .i64 0, .int .u64 0, .slice none 0 0]) ?_ 1 _ rfl; (with_reducible repeat (first | refine blk_drewN ?_ _ | refine blk_drew ?_ | refine blk_alloc ?_ _)); refine blk_put (cs := #[.int .i64 0, .int .i64 0, .int .u64 0, .slice none 0 0]) ?_ 0 _ rfl; (with_reducible repeat (first | refine blk_drewN ?_ _ | refine blk_drew ?_ | refine blk_alloc ?_ _)); refine blk_far ?_ NB148_152.out _; (with_reducible repeat (first | refine blk_drewN ?_ _ | refine blk_drew ?_ | refine blk_alloc ?_ _)); exact BK148.out) Try.underlying25 rfl (by kernel_rfl)) rfl ?_
                                                  exact ⟨_, by first | rfl | (simp [errW_none, errW_some] <;> rfl) | (simp [*, errW_none, errW_some] <;> rfl), by (with_reducible repeat (first | apply Kd.R_alloc | apply Kd.R_drewN | apply Kd.R_drew)); exact Kd.R_mono (Kd.R_far (p := ⟨gb148, 3, none⟩) (Kd.R_far (p := ⟨gb148, 2, none⟩) (Kd.R_far (p := ⟨gb148, 1, none⟩) (Kd.R_far (p := ⟨gb148, 0, none⟩) (Kd.R_far (p := ⟨gb152, 3, none⟩) (Kd.R_types (Kd.R_types HO173.out BK152.out (by decide)) BK148.out (by decide)) (fun _ hk => hk.1.2) (.slice Ao56 t171.length co56)) (fun _ hk => hk.2) (.int .i64 (wrap64 (t149 / 8)))) (fun _ hk => hk.2) (.int .i64 (wrap64 (Go.bits .and .u64 t149 7)))) (fun _ hk => hk.2) (.int .u64 0)) (fun _ hk => hk.2) (.slice Ao56 t171.length co56)) (fun _ hk => trivial), by repeat (first | (with_reducible first | exact HB.out | apply below_alloc | apply pw_below_drewN | apply below_drew1 | refine below_set ?_ GE148.out | refine below_set ?_ GE152.out) | exact HB.out)⟩
                                            · rw [if_neg c49] at H
                                              exact absurd H (by simp)
                                        · rw [if_neg c48] at H
                                          exact absurd H (by simp)
                                    · rw [if_neg c47] at H
                                      exact absurd H (by simp)
                        · as_aux_lemma =>
                            rw [if_neg c36] at H
                            have c36b0 : (t166 == 0) = false := beq_eq_false_iff_ne.mpr c36
                            have c36b1 : (t166 != 0) = true := bne_iff_ne.mpr c36
                            as_aux_lemma =>
                              simp only [Option.some.injEq, Prod.mk.injEq] at H
                              obtain ⟨rfl, rfl, rfl, rfl, rfl, rfl⟩ := H
                              have q59 : (t150 : Int) ≤ ((l0.length : Int) : Int) := of_decide_eq_true (by first | (with_reducible assumption) | assumption)
                              obtain ⟨i059, hi059, _, hsz59, _⟩ := info_parts info5
                              have hroom59 : l0.length ≤ c0 := HC0.out
                              have hC59 : Kd.C (Kd.int .u8) _ A0 l0.length l0 := HR0.out
                              have q059 : (0 : Int) ≤ (t150 : Int) := of_decide_eq_true (by first | (with_reducible assumption) | assumption)
                              have hcut59 := cut_from (P := Try.prog) 23 5 .i64 Try.underlying23 hi059 1 hsz59 A0 l0.length c0 t150 q059 q59
                              have hr59 := Kd.C_drop (m := (t150 : Int).toNat) (c := c0) hC59 (by omega) hroom59
                              obtain ⟨A59, hA59⟩ : ∃ A1, A1 = (if c0 = (t150 : Int).toNat then A0 else (A0 : Option Addr).map (·.add ((t150 : Int).toNat * 1))) := ⟨_, rfl⟩
                              obtain ⟨c59, hc59⟩ : ∃ c1, c1 = c0 - (t150 : Int).toNat := ⟨_, rfl⟩
                              have hy59 : y155.length = l0.length - (t150 : Int).toNat := (by rw [Ny155.out, List.length_drop] <;> omega)
                              rw [show (l0).drop (t150 : Int).toNat = y155 from Ny155.out.symm] at hr59
                              replace hr59 : Kd.C (Kd.int .u8) _ A59 y155.length y155 := (by rw [hA59]; exact hr59)
                              rw [← hy59, ← hA59, ← hc59] at hcut59
                              have HR158 := Aside0.mk hr59
                              have HC158 := Aside0.mk (show y155.length ≤ c59 from by rw [hy59, hc59]; exact Nat.sub_le_sub_right hroom59 _)
                              clear hr59 hC59 hroom59 hi059 hsz59 hc59
                              have KY59 := Aside0.mk hy59
                              have KA59 := Aside0.mk hA59
                              clear hy59 hA59
                              replace q59 := eq_true q59
                              go_wp2_with (first | ((with_reducible refine gate_callee (f := 31) rfl ?_); refine goesL_ (some 71) rfl rfl Try.func31 (by kernel_rfl) rfl #[.slice A59 y155.length c59] rfl (by (try simp only [List.map_toArray, List.map_cons, List.map_nil]); first | done | rfl | (simp only [List.length_drop, List.length_take]; rfl)) ?_; (with_reducible refine (varint_Take.calls kj4 _ _ y155 t164 t165 t166 _ ?side1 ?side2 A35.out).mono ?_); (case side1 => repeat (first | exact (Kd.C_below HR158.out HB.out) | (with_reducible refine Kd.C_alloc ?_ _) | (with_reducible refine Kd.C_drewN ?_ _) | (with_reducible refine Kd.C_drew ?_))); (case side2 => exact HC158.out); rintro e w' ⟨rfl, ⟨nd, rfl⟩⟩; refine ⟨_, rfl, ?_⟩; (try (rw [drewN_self wc]; generalize hq_ : World.drewN wc _ = wc; have n0_ : Aside0 (wc.heap[gb148]? = some (.cells #[.int .i64 0, .int .i64 0, .int .u64 0, .slice none 0 0] 25 (0, 0))) := ⟨by rw [← hq_]; exact (by (with_reducible repeat (first | refine blk_drewN ?_ _ | refine blk_drew ?_ | refine blk_alloc ?_ _)); exact BK148.out)⟩; have n1_ : Aside0 (wc.heap[gb152]? = some (.cells #[.int .i64 (wrap64 (t149 / 8)), .int .i64 (wrap64 (Go.bits .and .u64 t149 7)), .int .u64 0, .slice none 0 0] 25 (0, 0))) := ⟨by rw [← hq_]; exact (by (with_reducible repeat (first | refine blk_drewN ?_ _ | refine blk_drew ?_ | refine blk_alloc ?_ _)); exact BK152.out)⟩; have n2_ : Aside0 (Below w.heap.size w wc) := ⟨by rw [← hq_]; exact (by repeat (first | (with_reducible first | exact HB.out | apply below_alloc | apply pw_below_drewN | apply below_drew1 | refine below_set ?_ GE148.out | refine below_set ?_ GE152.out) | exact HB.out))⟩; clear BK148 BK152 HB hq_; have BK148 := n0_; have BK152 := n1_; have HB := n2_; clear n0_ n1_ n2_)); have hczR5_gb152_0 : wc.cell? ⟨gb152, 0, none⟩ = some (.int .i64 (wrap64 (t149 / 8))) := (blk_cell BK152.out 0).trans rfl; have hfzR5_gb152_0 := blk_frozen BK152.out 0; have hczR5_gb152_1 : wc.cell? ⟨gb152, 1, none⟩ = some (.int .i64 (wrap64 (Go.bits .and .u64 t149 7))) := (blk_cell BK152.out 1).trans rfl; have hfzR5_gb152_1 := blk_frozen BK152.out 1; have hczR5_gb152_2 : wc.cell? ⟨gb152, 2, none⟩ = some (.int .u64 0) := (blk_cell BK152.out 2).trans rfl; have hfzR5_gb152_2 := blk_frozen BK152.out 2; have hczR5_gb152_3 : wc.cell? ⟨gb152, 3, none⟩ = some (.slice none 0 0) := (blk_cell BK152.out 3).trans rfl; have hfzR5_gb152_3 := blk_frozen BK152.out 3; have hnb60 := NB148_152.out; have hnc60 := NB152_148.out; have hcz61_0 : wc.cell? ⟨gb148, 0, none⟩ = some (.int .i64 0) := (blk_cell BK148.out 0).trans rfl; have hcz61_1 : wc.cell? ⟨gb148, 1, none⟩ = some (.int .i64 0) := (blk_cell BK148.out 1).trans rfl; have hcz61_2 : wc.cell? ⟨gb148, 2, none⟩ = some (.int .u64 0) := (blk_cell BK148.out 2).trans rfl; have hcz61_3 : wc.cell? ⟨gb148, 3, none⟩ = some (.slice none 0 0) := (blk_cell BK148.out 3).trans rfl; have hfz61_0 := blk_frozen BK148.out 0; have hfz61_1 := blk_frozen BK148.out 1; have hfz61_2 := blk_frozen BK148.out 2; have hfz61_3 := blk_frozen BK148.out 3))
                              refine bodyPost_ret (results_ctt rfl _ _ gb148 25 #[.int .i64 0, .int .i64 0, .int .u64 0, .slice none 0 0] (0, 0) _ rfl (by (with_reducible repeat (first | refine blk_drewN ?_ _ | refine blk_drew ?_ | refine blk_alloc ?_ _)); refine blk_put (cs := #[.int .i64 0, .int .i64 0, .int .u64 0, .slice none 0 0]) ?_ 3 _ rfl; (with_reducible repeat (first | refine blk_drewN ?_ _ | refine blk_drew ?_ | refine blk_alloc ?_ _)); refine blk_put (cs := #[.int .i64 0, .int .i64 0, .int .u64 0, .slice none 0 0]) ?_ 2 _ rfl; (with_reducible repeat (first | refine blk_drewN ?_ _ | refine blk_drew ?_ | refine blk_alloc ?_ _)); refine blk_put (cs := #[.int .i64 0, .int .i64 0, .int .u64 0, .slice none 0 0]) ?_ 1 _ rfl; (with_reducible repeat (first | refine blk_drewN ?_ _ | refine blk_drew ?_ | refine blk_alloc ?_ _)); refine blk_put (cs := #[.int .i64 0, .int .i64 0, .int .u64 0, .slice none 0 0]) ?_ 0 _ rfl; (with_reducible repeat (first | refine blk_drewN ?_ _ | refine blk_drew ?_ | refine blk_alloc ?_ _)); exact BK148.out) Try.underlying25 rfl (by kernel_rfl)) rfl ?_
                              exact ⟨_, by first | rfl | (simp [errW_none, errW_some] <;> rfl) | (simp [*, errW_none, errW_some] <;> rfl), by first | exact Kd.R_nil _ _ _ _ _ | exact Kd.N_nil _ _ _ _ _ | exact Kd.V_nil _ _ _ _ _ | exact Kd.Q_nil _ _ _ _ _ | exact Kd.S_nil _ _ _ _ _, by repeat (first | (with_reducible first | exact HB.out | apply below_alloc | apply pw_below_drewN | apply below_drew1 | refine below_set ?_ GE148.out | refine below_set ?_ GE152.out) | exact HB.out)⟩
                · rw [if_neg c20] at H
                  exact absurd H (by simp)
            · rw [if_neg c19] at H
              exact absurd H (by simp)
  · as_aux_lemma =>
      rw [if_neg c3] at H
      have c3b0 : (t151 == 0) = false := beq_eq_false_iff_ne.mpr c3
      have c3b1 : (t151 != 0) = true := bne_iff_ne.mpr c3
      as_aux_lemma =>
        simp only [Option.some.injEq, Prod.mk.injEq] at H
        obtain ⟨rfl, rfl, rfl, rfl, rfl, rfl⟩ := H
        go_enter Try.func18, Try.ntmps18
        go_wp2_with (first | ((with_reducible refine gate_dst (N := 2) rfl ?_); refine box_event ?hg (N := 2) ?hd (cs := #[.int .i64 0, .int .i64 0, .int .u64 0, .slice none 0 0]) (t := 25) ?hr ?_; (case hd => rfl); (case hg => rfl); (case hr => first | (go_simp; done) | (go_simp; rfl)); intro gb148 hg w62 hbox hb; have n0_ := Aside0.mk (below_step (by repeat (first | (with_reducible first | exact HB.out | apply below_alloc | apply pw_below_drewN | apply below_drew1) | exact HB.out)) hb); have n1_ := Aside0.mk (hbox); have n2_ := Aside0.mk ((by rw [hg]; exact (below_size (by repeat (first | (with_reducible first | exact HB.out | apply below_alloc | apply pw_below_drewN | apply below_drew1) | exact HB.out))) : w.heap.size ≤ gb148)); have n3_ := Aside0.mk ((by rw [hg]; exact (below_size (by repeat (first | (with_reducible first | exact HB.out | apply below_alloc | apply pw_below_drewN | apply below_drew1) | exact HB.out))) : w.heap.size ≤ gb148)); clear HB; have HB := n0_; have BK148 := n1_; have GW148 := n2_; have GE148 := n3_; clear n0_ n1_ n2_ n3_; clear hb hbox hg) | ((with_reducible refine gate_callee (f := 31) rfl ?_); refine goesL_ (some 16) rfl rfl Try.func31 (by kernel_rfl) rfl #[.slice A0 l0.length c0] rfl (by (try simp only [List.map_toArray, List.map_cons, List.map_nil]); first | done | rfl | (simp only [List.length_drop, List.length_take]; rfl)) ?_; (with_reducible refine (varint_Take.calls k _ _ l0 t149 t150 t151 _ ?side1 ?side2 A2.out).mono ?_); (case side1 => repeat (first | exact (Kd.C_below HR0.out HB.out) | (with_reducible refine Kd.C_alloc ?_ _) | (with_reducible refine Kd.C_drewN ?_ _) | (with_reducible refine Kd.C_drew ?_))); (case side2 => exact HC0.out); rintro e w' ⟨rfl, ⟨nd, rfl⟩⟩; refine ⟨_, rfl, ?_⟩; (try (rw [drewN_self w62]; generalize hq_ : World.drewN w62 _ = w62; have n0_ : Aside0 (w62.heap[gb148]? = some (.cells #[.int .i64 0, .int .i64 0, .int .u64 0, .slice none 0 0] 25 (0, 0))) := ⟨by rw [← hq_]; exact (by (with_reducible repeat (first | refine blk_drewN ?_ _ | refine blk_drew ?_ | refine blk_alloc ?_ _)); exact BK148.out)⟩; have n1_ : Aside0 (Below w.heap.size w w62) := ⟨by rw [← hq_]; exact (by repeat (first | (with_reducible first | exact HB.out | apply below_alloc | apply pw_below_drewN | apply below_drew1 | refine below_set ?_ GE148.out) | exact HB.out))⟩; clear BK148 HB hq_; have BK148 := n0_; have HB := n1_; clear n0_ n1_)); have hcz63_0 : w62.cell? ⟨gb148, 0, none⟩ = some (.int .i64 0) := (blk_cell BK148.out 0).trans rfl; have hcz63_1 : w62.cell? ⟨gb148, 1, none⟩ = some (.int .i64 0) := (blk_cell BK148.out 1).trans rfl; have hcz63_2 : w62.cell? ⟨gb148, 2, none⟩ = some (.int .u64 0) := (blk_cell BK148.out 2).trans rfl; have hcz63_3 : w62.cell? ⟨gb148, 3, none⟩ = some (.slice none 0 0) := (blk_cell BK148.out 3).trans rfl; have hfz63_0 := blk_frozen BK148.out 0; have hfz63_1 := blk_frozen BK148.out 1; have hfz63_2 := blk_frozen BK148.out 2; have hfz63_3 := blk_frozen BK148.out 3))
        refine bodyPost_ret (results_ctt rfl _ _ gb148 25 #[.int .i64 0, .int .i64 0, .int .u64 0, .slice none 0 0] (0, 0) _ rfl (by (with_reducible repeat (first | refine blk_drewN ?_ _ | refine blk_drew ?_ | refine blk_alloc ?_ _)); refine blk_put (cs := #[.int .i64 0, .int .i64 0, .int .u64 0, .slice none 0 0]) ?_ 3 _ rfl; (with_reducible repeat (first | refine blk_drewN ?_ _ | refine blk_drew ?_ | refine blk_alloc ?_ _)); refine blk_put (cs := #[.int .i64 0, .int .i64 0, .int .u64 0, .slice none 0 0]) ?_ 2 _ rfl; (with_reducible repeat (first | refine blk_drewN ?_ _ | refine blk_drew ?_ | refine blk_alloc ?_ _)); refine blk_put (cs := #[.int .i64 0, .int .i64 0, .int .u64 0, .slice none 0 0]) ?_ 1 _ rfl; (with_reducible repeat (first | refine blk_drewN ?_ _ | refine blk_drew ?_ | refine blk_alloc ?_ _)); refine blk_put (cs := #[.int .i64 0, .int .i64 0, .int .u64 0, .slice none 0 0]) ?_ 0 _ rfl; (with_reducible repeat (first | refine blk_drewN ?_ _ | refine blk_drew ?_ | refine blk_alloc ?_ _)); exact BK148.out) Try.underlying25 rfl (by kernel_rfl)) rfl ?_
        exact ⟨_, by first | rfl | (simp [errW_none, errW_some] <;> rfl) | (simp [*, errW_none, errW_some] <;> rfl), by first | exact Kd.R_nil _ _ _ _ _ | exact Kd.N_nil _ _ _ _ _ | exact Kd.V_nil _ _ _ _ _ | exact Kd.Q_nil _ _ _ _ _ | exact Kd.S_nil _ _ _ _ _, by repeat (first | (with_reducible first | exact HB.out | apply below_alloc | apply pw_below_drewN | apply below_drew1 | refine below_set ?_ GE148.out) | exact HB.out)⟩

-- NOT PRINTED: function 37 (wire_fields_1)

-- wire_fields: in the text Fl

/-! ### wire_Read: function 20 (by hand) -/
def wire_Read.f (k : Nat) (l0 : List Int) : Option (List (S25) × Int × Int) := In.rdl (fun a b c d => (⟨a, b, c, d⟩ : S25)) (fun k l => wire_Take.f k l) l0 k [] 0
theorem wire_Read.mono : ∀ a0 k, LeO (wire_Read.f k a0) (wire_Read.f (k + 1) a0) := fun a0 k => In.rdl_mono _ _ (fun l k => wire_Take.mono l k) a0 k [] 0
theorem wire_Read.calls (k : Nat) (A0 : Option Addr) (c0 : Nat) (l0 : List Int) (r1 : List (S25)) (r2 : Int) (r3 : Int) (w : World) (hr0 : Kd.C (Kd.int .u8) w A0 l0.length l0) (hc0 : l0.length ≤ c0) (h : wire_Read.f k l0 = some (r1, r2, r3)) :
    Calls Try.prog 20 #[.slice A0 l0.length c0] w fun e w' => ∃ v0_ : Value, e = .returned (.tuple #[v0_, .int .i64 r2, .int .i64 r3]) ∧ Kd.S k25 25 w' w.heap.size (fun _ => True) v0_ r1 ∧ Below w.heap.size w w' :=
  In.read_calls (fun a b c d => (⟨a, b, c, d⟩ : S25)) k25 A0 c0 l0 w r1 r2 r3 (fun k l => wire_Take.f k l)
    (fun k A c l a1 a2 a3 a4 a5 a6 W hr hc h => wire_Take.calls k A c l a1 a2 a3 a4 a5 a6 W hr hc h) rfl (fun W base ok a1 a2 a3 a4 v hR => k25_mkM W base ok (⟨a1, a2, a3, a4⟩ : S25) hR) hr0 hc0 k h

end Go.Proofs.Yteopaifokfmnjaa.GWireBack
