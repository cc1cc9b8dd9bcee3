/- Written by gprint.py of this session: the kit's printer, with functions that are proved by hand put in. -/
import Derived.Test.YteopaifokfmnjaaGWireReadsx0
import Derived.Test.YteopaifokfmnjaaGWireReadsx2
import Derived.Test.YteopaifokfmnjaaGWireReadsx3
namespace Go.Proofs.Yteopaifokfmnjaa.GWireReads
open Go.Proofs.Yteopaifokfmnjaa.Pt Go.Proofs.Yteopaifokfmnjaa.Tk Go.Proofs.Yteopaifokfmnjaa.Cl Go.Proofs.Yteopaifokfmnjaa.Fl
open Go.RowKit Go.Proofs.YteopaifokfmnjaaW.PrintWords Go.Proofs.YteopaifokfmnjaaW.PrintLast Go.Proofs.YteopaifokfmnjaaW.PrintMore
attribute [local go_sem] max2_int min2_int max_two min_two max_three min_three max_four min_four   -- for this text's walks alone
set_option linter.unusedVariables false
set_option linter.unusedSimpArgs false

/-! ### glossaryref01_Take: function 19 -/
mutual
def glossaryref01_Take.j0 : Nat → List Int → Int → Int → Bool → Option (Int × Int × Int × List Int × Int × Int)
  | 0, _, _, _, _ => none
  | k + 1, x0, x5, x6, x35 => if x35 = true then (some (0, 0, 0, ([] : List Int), 0, 20)) else (if 0 ≤ x6 then (if x6 ≤ (x0.length : Int) then ((some (x0.drop (x6 : Int).toNat : List Int)).bind fun y173 => (if (wrap64 (Int.tmod x5 8)) = 1 then (glossaryref01_Take.j1 k x6 y173 ((wrap64 (Int.tmod x5 8)) == 1) (wrap64 (IntKind.u64.wrap (Int.tdiv x5 8))) (wrap64 (Int.tmod x5 8)) 0) else (glossaryref01_Take.j1 k x6 y173 ((wrap64 (Int.tmod x5 8)) == 5) (wrap64 (IntKind.u64.wrap (Int.tdiv x5 8))) (wrap64 (Int.tmod x5 8)) 0))) else (none)) else (none))
def glossaryref01_Take.j1 : Nat → Int → List Int → Bool → Int → Int → Int → Option (Int × Int × Int × List Int × Int × Int)
  | 0, _, _, _, _, _, _ => none
  | k + 1, x6, x9, x49, x173000, x173001, x173002 => if x49 = true then (if x173001 = 5 then (if (x9.length : Int) < 4 then (some (0, 0, 0, ([] : List Int), 0, 21)) else (if 4 ≤ (x9.length : Int) then ((glossaryref01_Unfixed.f k (x9.take 4)).bind fun t181 => (some (x173000, x173001, t181, ([] : List Int), wrap64 (x6 + 4), 0))) else (none))) else (if (x9.length : Int) < 8 then (some (0, 0, 0, ([] : List Int), 0, 21)) else (if 8 ≤ (x9.length : Int) then ((glossaryref01_Unfixed.f k (x9.take 8)).bind fun t186 => (some (x173000, x173001, t186, ([] : List Int), wrap64 (x6 + 8), 0))) else (none)))) else ((glossaryref01_TakeVarint.f k x9).bind fun bt187 => (if bt187.2.2 = 0 then (if x173001 = 0 then (some (x173000, x173001, bt187.1, ([] : List Int), wrap64 (x6 + bt187.2.1), 0)) else (if bt187.1 > (IntKind.u64.wrap (wrap64 ((x9.length : Int) - bt187.2.1))) then (some (0, 0, 0, ([] : List Int), 0, 21)) else (if 0 ≤ bt187.2.1 then (if bt187.2.1 ≤ (wrap64 (bt187.2.1 + (wrap64 (bt187.1)))) then (if (wrap64 (bt187.2.1 + (wrap64 (bt187.1)))) ≤ (x9.length : Int) then ((some ((x9.take ((wrap64 (bt187.2.1 + (wrap64 (bt187.1)))) : Int).toNat).drop (bt187.2.1 : Int).toNat : List Int)).bind fun y190 => (if ([] : List Int).length + y190.length < 140737488355328 then (some (x173000, x173001, x173002, (([] : List Int) ++ y190), wrap64 ((wrap64 (x6 + bt187.2.1)) + (wrap64 (bt187.1))), 0)) else (none))) else (none)) else (none)) else (none)))) else (some (0, 0, 0, ([] : List Int), 0, bt187.2.2))))
end
def glossaryref01_Take.f (k : Nat) (l0 : List Int) : Option (Int × Int × Int × List Int × Int × Int) := (glossaryref01_TakeVarint.f k l0).bind fun bt168 => (if bt168.2.2 = 0 then (if bt168.1 ≥ 4294967296 then (glossaryref01_Take.j0 k l0 bt168.1 bt168.2.1 true) else (if bt168.1 < 8 then (glossaryref01_Take.j0 k l0 bt168.1 bt168.2.1 true) else ((glossaryref01_kind.f (wrap64 (Int.tmod bt168.1 8))).bind fun t171 => (glossaryref01_Take.j0 k l0 bt168.1 bt168.2.1 (!t171))))) else (some (0, 0, 0, ([] : List Int), 0, bt168.2.2)))
theorem glossaryref01_Take.mono_l : ∀ k, (∀ y0 y1 y2 y3, LeO (glossaryref01_Take.j0 k y0 y1 y2 y3) (glossaryref01_Take.j0 (k + 1) y0 y1 y2 y3)) ∧ (∀ y0 y1 y2 y3 y4 y5, LeO (glossaryref01_Take.j1 k y0 y1 y2 y3 y4 y5) (glossaryref01_Take.j1 (k + 1) y0 y1 y2 y3 y4 y5))
  | 0 => ⟨fun _ _ _ _ r h => by simp [glossaryref01_Take.j0] at h, fun _ _ _ _ _ _ r h => by simp [glossaryref01_Take.j1] at h⟩
  | k + 1 => by
    obtain ⟨ih0, ih1⟩ := glossaryref01_Take.mono_l k
    refine ⟨?_, ?_⟩
    · intro y0 y1 y2 y3
      unfold glossaryref01_Take.j0
      repeat' first
      | (with_reducible exact ih0 _ _ _ _)
      | (with_reducible exact ih1 _ _ _ _ _ _)
      | (with_reducible exact glossaryref01_TakeVarint.mono _ _)
      | (with_reducible exact glossaryref01_Unfixed.mono _ _)
      | (with_reducible exact LeO.refl _)
      | (with_reducible exact LeO.none _)
      | (with_reducible refine LeO.ite ?_ ?_)
      | (with_reducible refine LeO.bind ?_ (fun _ => ?_))
      | exact ih0 _ _ _ _
      | exact ih1 _ _ _ _ _ _
      | exact glossaryref01_TakeVarint.mono _ _
      | exact glossaryref01_Unfixed.mono _ _
      | exact LeO.none _
      | refine LeO.ite ?_ ?_
      | refine LeO.bind ?_ (fun _ => ?_)
    · intro y0 y1 y2 y3 y4 y5
      unfold glossaryref01_Take.j1
      repeat' first
      | (with_reducible exact ih0 _ _ _ _)
      | (with_reducible exact ih1 _ _ _ _ _ _)
      | (with_reducible exact glossaryref01_TakeVarint.mono _ _)
      | (with_reducible exact glossaryref01_Unfixed.mono _ _)
      | (with_reducible exact LeO.refl _)
      | (with_reducible exact LeO.none _)
      | (with_reducible refine LeO.ite ?_ ?_)
      | (with_reducible refine LeO.bind ?_ (fun _ => ?_))
      | exact ih0 _ _ _ _
      | exact ih1 _ _ _ _ _ _
      | exact glossaryref01_TakeVarint.mono _ _
      | exact glossaryref01_Unfixed.mono _ _
      | exact LeO.none _
      | refine LeO.ite ?_ ?_
      | refine LeO.bind ?_ (fun _ => ?_)
theorem glossaryref01_Take.mono : ∀ a0 k, LeO (glossaryref01_Take.f k a0) (glossaryref01_Take.f (k + 1) a0) := by
  intro a0 k
  obtain ⟨ih0, ih1⟩ := glossaryref01_Take.mono_l k
  unfold glossaryref01_Take.f
  repeat' first
      | (with_reducible exact ih0 _ _ _ _)
      | (with_reducible exact ih1 _ _ _ _ _ _)
      | (with_reducible exact glossaryref01_TakeVarint.mono _ _)
      | (with_reducible exact glossaryref01_Unfixed.mono _ _)
      | (with_reducible exact LeO.refl _)
      | (with_reducible exact LeO.none _)
      | (with_reducible refine LeO.ite ?_ ?_)
      | (with_reducible refine LeO.bind ?_ (fun _ => ?_))
      | exact ih0 _ _ _ _
      | exact ih1 _ _ _ _ _ _
      | exact glossaryref01_TakeVarint.mono _ _
      | exact glossaryref01_Unfixed.mono _ _
      | exact LeO.none _
      | refine LeO.ite ?_ ?_
      | refine LeO.bind ?_ (fun _ => ?_)
set_option maxHeartbeats 8000000 in
set_option maxRecDepth 100000 in
theorem glossaryref01_Take.calls (k : Nat) (A0 : Option Addr) (c0 : Nat) (l0 : List Int) (r1 : Int) (r2 : Int) (r3 : Int) (r4 : List Int) (r5 : Int) (r6 : Int) (w : World) (hr0 : Kd.C (Kd.int .u8) w A0 l0.length l0) (hc0 : l0.length ≤ c0) (h : glossaryref01_Take.f k l0 = some (r1, r2, r3, r4, r5, r6)) :
    Calls Try.prog 19 #[.slice A0 l0.length c0] w fun e w' => ∃ v3_ : Value, e = .returned (.tuple #[.agg #[.int .i64 r1, .int .i64 r2, .int .u64 r3, v3_], .int .i64 r5, .int .i64 r6]) ∧ Kd.R (Kd.int .u8) 5 w' w.heap.size (fun _ => True) v3_ r4 ∧ Below w.heap.size w w' := by
  have hu25 := Try.underlying25
  have HR0 := Aside0.mk hr0
  have HC0 := Aside0.mk hc0
  clear hr0 hc0
  have HB := Aside0.mk (Below.refl w.heap.size w)
  have H : ((glossaryref01_TakeVarint.f k l0).bind fun bt168 => (if bt168.2.2 = 0 then (if bt168.1 ≥ 4294967296 then (glossaryref01_Take.j0 k l0 bt168.1 bt168.2.1 true) else (if bt168.1 < 8 then (glossaryref01_Take.j0 k l0 bt168.1 bt168.2.1 true) else ((glossaryref01_kind.f (wrap64 (Int.tmod bt168.1 8))).bind fun t171 => (glossaryref01_Take.j0 k l0 bt168.1 bt168.2.1 (!t171))))) else (some (0, 0, 0, ([] : List Int), 0, bt168.2.2)))) = some (r1, r2, r3, r4, r5, r6) := h
  clear h
  replace H := Option.bind_eq_some_iff.mp H
  obtain ⟨⟨t168, t169, t170⟩, A20, H⟩ := H
  replace H : (if t170 = 0 then (if t168 ≥ 4294967296 then (glossaryref01_Take.j0 k l0 t168 t169 true) else (if t168 < 8 then (glossaryref01_Take.j0 k l0 t168 t169 true) else ((glossaryref01_kind.f (wrap64 (Int.tmod t168 8))).bind fun t171 => (glossaryref01_Take.j0 k l0 t168 t169 (!t171))))) else (some (0, 0, 0, ([] : List Int), 0, t170))) = some (r1, r2, r3, r4, r5, r6) := H
  have A2 := Aside0.mk A20
  clear A20
  by_cases c3 : t170 = 0
  · as_aux_lemma =>
      rw [if_pos c3] at H
      have c3b0 : (t170 == 0) = true := beq_iff_eq.mpr c3
      have c3b1 : (t170 != 0) = false := bne_eq_false_iff_eq.mpr c3
      clear c3
      have HC4 := Aside0.mk H
      clear H
      go_enter Try.func19, Try.ntmps19
      go_upto_region 4 with (first | ((with_reducible refine gate_dst (N := 2) rfl ?_); refine box_event ?hg (N := 2) ?hd (cs := #[.int .i64 0, .int .i64 0, .int .u64 0, .slice none 0 0]) (t := 25) ?hr ?_; (case hd => rfl); (case hg => rfl); (case hr => first | (go_simp; done) | (go_simp; rfl)); intro gb167 hg w5 hbox hb; have n0_ := Aside0.mk (below_step (by repeat (first | (with_reducible first | exact HB.out | apply below_alloc | apply pw_below_drewN | apply below_drew1) | exact HB.out)) hb); have n1_ := Aside0.mk (hbox); have n2_ := Aside0.mk ((by rw [hg]; exact (below_size (by repeat (first | (with_reducible first | exact HB.out | apply below_alloc | apply pw_below_drewN | apply below_drew1) | exact HB.out))) : w.heap.size ≤ gb167)); have n3_ := Aside0.mk ((by rw [hg]; exact (below_size (by repeat (first | (with_reducible first | exact HB.out | apply below_alloc | apply pw_below_drewN | apply below_drew1) | exact HB.out))) : w.heap.size ≤ gb167)); clear HB; have HB := n0_; have BK167 := n1_; have GW167 := n2_; have GE167 := n3_; clear n0_ n1_ n2_ n3_; clear hb hbox hg) | ((with_reducible refine gate_callee (f := 34) rfl ?_); refine goesL_ (some 15) rfl rfl Try.func34 (by kernel_rfl) rfl #[.slice A0 l0.length c0] rfl (by (try simp only [List.map_toArray, List.map_cons, List.map_nil]); first | done | rfl | (simp only [List.length_drop, List.length_take]; rfl)) ?_; (with_reducible refine (glossaryref01_TakeVarint.calls k _ _ l0 t168 t169 t170 _ ?side1 ?side2 A2.out).mono ?_); (case side1 => repeat (first | exact (Kd.C_below HR0.out HB.out) | (with_reducible refine Kd.C_alloc ?_ _) | (with_reducible refine Kd.C_drewN ?_ _) | (with_reducible refine Kd.C_drew ?_))); (case side2 => exact HC0.out); rintro e w' ⟨rfl, ⟨nd, rfl⟩⟩; refine ⟨_, rfl, ?_⟩))
      (try simp only [Act.put, List.setIfInBounds_toArray, List.set_cons_zero, List.set_cons_succ])
      go_cut [35] (fun v35 wc => ∃ (kq : Nat) (x35_3 : Bool), v35 = .bool x35_3 ∧ Aside0 (glossaryref01_Take.j0 kq l0 t168 t169 x35_3 = some (r1, r2, r3, r4, r5, r6)) ∧ Aside0 (kq ≤ k) ∧ Aside0 (wc.heap[gb167]? = some (.cells #[.int .i64 0, .int .i64 0, .int .u64 0, (.slice none 0 0)] 25 (0, 0))) ∧ Aside0 (Below w.heap.size w wc))
      case first =>
        have H := HC4.out
        clear HC4
        by_cases c6 : t168 ≥ 4294967296
        · as_aux_lemma =>
            rw [if_pos c6] at H
            have c6b0 : decide (4294967296 ≤ t168) = true := decide_eq_true c6
            clear c6
            (first | rw [c6b0] | (simp only [i64_w, i32_w]; rw [c6b0]) | skip)
            as_aux_lemma =>
              have H' := Aside0.mk H
              clear H
              go_wp2
              go_meet
              case rel => exact ⟨_, (true), (by first | rfl | (simp; done) | (simp [*]; done)), H', ⟨by first | omega | exact Nat.le_refl _⟩, ⟨by (with_reducible repeat (first | refine blk_drewN ?_ _ | refine blk_drew ?_ | refine blk_alloc ?_ _)); exact BK167.out⟩, ⟨by repeat (first | (with_reducible first | exact HB.out | apply below_alloc | apply pw_below_drewN | apply below_drew1 | refine below_set ?_ GE167.out) | exact HB.out)⟩⟩
        · as_aux_lemma =>
            rw [if_neg c6] at H
            have c6b0 : decide (4294967296 ≤ t168) = false := decide_eq_false c6
            clear c6
            (first | rw [c6b0] | (simp only [i64_w, i32_w]; rw [c6b0]) | skip)
            by_cases c7 : t168 < 8
            · as_aux_lemma =>
                rw [if_pos c7] at H
                have c7b0 : decide (t168 < 8) = true := decide_eq_true c7
                clear c7
                as_aux_lemma =>
                  have H' := Aside0.mk H
                  clear H
                  go_wp2
                  go_meet
                  case rel => exact ⟨_, (true), (by first | rfl | (simp; done) | (simp [*]; done)), H', ⟨by first | omega | exact Nat.le_refl _⟩, ⟨by (with_reducible repeat (first | refine blk_drewN ?_ _ | refine blk_drew ?_ | refine blk_alloc ?_ _)); exact BK167.out⟩, ⟨by repeat (first | (with_reducible first | exact HB.out | apply below_alloc | apply pw_below_drewN | apply below_drew1 | refine below_set ?_ GE167.out) | exact HB.out)⟩⟩
            · as_aux_lemma =>
                rw [if_neg c7] at H
                have c7b0 : decide (t168 < 8) = false := decide_eq_false c7
                clear c7
                replace H := Option.bind_eq_some_iff.mp H
                obtain ⟨t171, A80, H⟩ := H
                replace H : (glossaryref01_Take.j0 k l0 t168 t169 (!t171)) = some (r1, r2, r3, r4, r5, r6) := H
                have A8 := Aside0.mk A80
                clear A80
                as_aux_lemma =>
                  have H' := Aside0.mk H
                  clear H
                  go_wp2_with (first | (go_at_call 27; (with_reducible refine (glossaryref01_kind.calls (wrap64 (Int.tmod t168 8)) t171 _ A8.out).mono ?_); rintro e w' ⟨rfl, ⟨nd, rfl⟩⟩))
                  go_meet
                  case rel => exact ⟨_, (!t171), (by first | rfl | (simp; done) | (simp [*]; done)), H', ⟨by first | omega | exact Nat.le_refl _⟩, ⟨by (with_reducible repeat (first | refine blk_drewN ?_ _ | refine blk_drew ?_ | refine blk_alloc ?_ _)); exact BK167.out⟩, ⟨by repeat (first | (with_reducible first | exact HB.out | apply below_alloc | apply pw_below_drewN | apply below_drew1 | refine below_set ?_ GE167.out) | exact HB.out)⟩⟩
      case rest =>
        clear HC4
        try clear c1
        try clear p2
        try clear c3
        try clear c3b0
        try clear c3b1
        try clear c6
        try clear c6b0
        try clear p6
        try clear c7
        try clear c7b0
        obtain ⟨kq, x35_3, rfl, HA, HJ3, BK167, HB⟩ := hcut
        cases kq with
        | zero => exact absurd HA.out (by simp [glossaryref01_Take.j0])
        | succ kj3 =>
          have H := HA.out
          clear HA
          simp only [glossaryref01_Take.j0] at H
          by_cases c9 : x35_3 = true
          · subst c9
            have H1 : (some (0, 0, 0, ([] : List Int), 0, 20)) = some (r1, r2, r3, r4, r5, r6) := by rw [if_pos rfl] at H; exact H
            clear H
            have H := H1
            clear H1
            as_aux_lemma =>
              simp only [Option.some.injEq, Prod.mk.injEq] at H
              obtain ⟨rfl, rfl, rfl, rfl, rfl, rfl⟩ := H
              have hcz10_0 : wc.cell? ⟨gb167, 0, none⟩ = some (.int .i64 0) := (blk_cell BK167.out 0).trans rfl
              have hcz10_1 : wc.cell? ⟨gb167, 1, none⟩ = some (.int .i64 0) := (blk_cell BK167.out 1).trans rfl
              have hcz10_2 : wc.cell? ⟨gb167, 2, none⟩ = some (.int .u64 0) := (blk_cell BK167.out 2).trans rfl
              have hcz10_3 : wc.cell? ⟨gb167, 3, none⟩ = some (.slice none 0 0) := (blk_cell BK167.out 3).trans rfl
              have hfz10_0 := blk_frozen BK167.out 0
              have hfz10_1 := blk_frozen BK167.out 1
              have hfz10_2 := blk_frozen BK167.out 2
              have hfz10_3 := blk_frozen BK167.out 3
              go_wp2
              refine bodyPost_ret (results_ctt rfl _ _ gb167 25 #[.int .i64 0, .int .i64 0, .int .u64 0, .slice none 0 0] (0, 0) _ rfl (by (with_reducible repeat (first | refine blk_drewN ?_ _ | refine blk_drew ?_ | refine blk_alloc ?_ _)); refine blk_put (cs := #[.int .i64 0, .int .i64 0, .int .u64 0, .slice none 0 0]) ?_ 3 _ rfl; (with_reducible repeat (first | refine blk_drewN ?_ _ | refine blk_drew ?_ | refine blk_alloc ?_ _)); refine blk_put (cs := #[.int .i64 0, .int .i64 0, .int .u64 0, .slice none 0 0]) ?_ 2 _ rfl; (with_reducible repeat (first | refine blk_drewN ?_ _ | refine blk_drew ?_ | refine blk_alloc ?_ _)); refine blk_put (cs := #[.int .i64 0, .int .i64 0, .int .u64 0, .slice none 0 0]) ?_ 1 _ rfl; (with_reducible repeat (first | refine blk_drewN ?_ _ | refine blk_drew ?_ | refine blk_alloc ?_ _)); refine blk_put (cs := #[.int .i64 0, .int .i64 0, .int .u64 0, .slice none 0 0]) ?_ 0 _ rfl; (with_reducible repeat (first | refine blk_drewN ?_ _ | refine blk_drew ?_ | refine blk_alloc ?_ _)); exact BK167.out) Try.underlying25 rfl (by kernel_rfl)) rfl ?_
              exact ⟨_, by first | rfl | (simp [errW_none, errW_some] <;> rfl) | (simp [*, errW_none, errW_some] <;> rfl), by first | exact Kd.R_nil _ _ _ _ _ | exact Kd.N_nil _ _ _ _ _ | exact Kd.V_nil _ _ _ _ _ | exact Kd.Q_nil _ _ _ _ _ | exact Kd.S_nil _ _ _ _ _, by repeat (first | (with_reducible first | exact HB.out | apply below_alloc | apply pw_below_drewN | apply below_drew1 | refine below_set ?_ GE167.out) | exact HB.out)⟩
          · replace c9 := Bool.eq_false_iff.mpr c9
            subst c9
            have H1 : (if 0 ≤ t169 then (if t169 ≤ (l0.length : Int) then ((some (l0.drop (t169 : Int).toNat : List Int)).bind fun y173 => (if (wrap64 (Int.tmod t168 8)) = 1 then (glossaryref01_Take.j1 kj3 t169 y173 ((wrap64 (Int.tmod t168 8)) == 1) (wrap64 (IntKind.u64.wrap (Int.tdiv t168 8))) (wrap64 (Int.tmod t168 8)) 0) else (glossaryref01_Take.j1 kj3 t169 y173 ((wrap64 (Int.tmod t168 8)) == 5) (wrap64 (IntKind.u64.wrap (Int.tdiv t168 8))) (wrap64 (Int.tmod t168 8)) 0))) else (none)) else (none)) = some (r1, r2, r3, r4, r5, r6) := by rw [if_neg (show ¬ (false = true) by decide)] at H; exact H
            clear H
            have H := H1
            clear H1
            by_cases c11 : 0 ≤ t169
            · as_aux_lemma =>
                rw [if_pos c11] at H
                have c11b0 := eq_true c11
                have c11b1 : decide (0 ≤ t169) = true := decide_eq_true c11
                clear c11
                by_cases c12 : t169 ≤ (l0.length : Int)
                · as_aux_lemma =>
                    rw [if_pos c12] at H
                    have c12b0 := eq_true c12
                    have c12b1 : decide (t169 ≤ (l0.length : Int)) = true := decide_eq_true c12
                    clear c12
                    obtain ⟨y173, hy173⟩ : ∃ y_ : List Int, y_ = (l0.drop (t169 : Int).toNat) := ⟨_, rfl⟩
                    replace H : (if (wrap64 (Int.tmod t168 8)) = 1 then (glossaryref01_Take.j1 kj3 t169 y173 ((wrap64 (Int.tmod t168 8)) == 1) (wrap64 (IntKind.u64.wrap (Int.tdiv t168 8))) (wrap64 (Int.tmod t168 8)) 0) else (glossaryref01_Take.j1 kj3 t169 y173 ((wrap64 (Int.tmod t168 8)) == 5) (wrap64 (IntKind.u64.wrap (Int.tdiv t168 8))) (wrap64 (Int.tmod t168 8)) 0)) = some (r1, r2, r3, r4, r5, r6) := by first | (rw [hy173]; with_reducible exact H) | (have H2_ := (Option.bind_some _ _).symm.trans H; rw [hy173]; with_reducible exact H2_) | (have H2_ := (Option.bind_some _ _).symm.trans H; with_reducible exact H2_) | with_reducible exact H | (rw [hy173]; exact H) | exact H
                    have Ny173 := Aside0.mk hy173
                    clear hy173
                    have HC13 := Aside0.mk H
                    clear H
                    go_upto_if 49 with (first | ((with_reducible refine gate_dst (N := 8) rfl ?_); refine box_event ?hg (N := 8) ?hd (cs := #[.int .i64 0, .int .i64 0, .int .u64 0, .slice none 0 0]) (t := 25) ?hr ?_; (case hd => rfl); (case hg => rfl); (case hr => first | (go_simp; done) | (go_simp; rfl)); intro gb172 hg w14 hbox hb; have n0_ := Aside0.mk (blk_below (g := gb167) (o := .cells #[.int .i64 0, .int .i64 0, .int .u64 0, .slice none 0 0] 25 (0, 0)) (by (with_reducible repeat (first | refine blk_drewN ?_ _ | refine blk_drew ?_ | refine blk_alloc ?_ _)); exact BK167.out) hb); have n1_ := Aside0.mk (below_step (by repeat (first | (with_reducible first | exact HB.out | apply below_alloc | apply pw_below_drewN | apply below_drew1 | refine below_set ?_ GE167.out) | exact HB.out)) hb); have n2_ := Aside0.mk (hbox); have n3_ := Aside0.mk ((by rw [hg]; exact (below_size (by repeat (first | (with_reducible first | exact HB.out | apply below_alloc | apply pw_below_drewN | apply below_drew1 | refine below_set ?_ GE167.out) | exact HB.out))) : w.heap.size ≤ gb172)); have n4_ := Aside0.mk ((by rw [hg]; exact (below_size (by repeat (first | (with_reducible first | exact HB.out | apply below_alloc | apply pw_below_drewN | apply below_drew1 | refine below_set ?_ GE167.out) | exact HB.out))) : w.heap.size ≤ gb172)); have n5_ := Aside0.mk ((by rw [hg]; exact Nat.ne_of_lt (blk_lt (g := gb167) (o := .cells #[.int .i64 0, .int .i64 0, .int .u64 0, .slice none 0 0] 25 (0, 0)) (by (with_reducible repeat (first | refine blk_drewN ?_ _ | refine blk_drew ?_ | refine blk_alloc ?_ _)); exact BK167.out)) : gb167 ≠ gb172)); have n6_ := Aside0.mk ((by rw [hg]; exact Nat.ne_of_gt (blk_lt (g := gb167) (o := .cells #[.int .i64 0, .int .i64 0, .int .u64 0, .slice none 0 0] 25 (0, 0)) (by (with_reducible repeat (first | refine blk_drewN ?_ _ | refine blk_drew ?_ | refine blk_alloc ?_ _)); exact BK167.out)) : gb172 ≠ gb167)); clear BK167; clear HB; have BK167 := n0_; have HB := n1_; have BK172 := n2_; have GW172 := n3_; have GE172 := n4_; have NB167_172 := n5_; have NB172_167 := n6_; clear n0_ n1_ n2_ n3_ n4_ n5_ n6_; clear hb hbox hg; have hnb15 := NB172_167.out; have hnc15 := NB167_172.out; have hcz16_0 : w14.cell? ⟨gb172, 0, none⟩ = some (.int .i64 0) := (blk_cell BK172.out 0).trans rfl; have hcz16_1 : w14.cell? ⟨gb172, 1, none⟩ = some (.int .i64 0) := (blk_cell BK172.out 1).trans rfl; have hcz16_2 : w14.cell? ⟨gb172, 2, none⟩ = some (.int .u64 0) := (blk_cell BK172.out 2).trans rfl; have hcz16_3 : w14.cell? ⟨gb172, 3, none⟩ = some (.slice none 0 0) := (blk_cell BK172.out 3).trans rfl; have hfz16_0 := blk_frozen BK172.out 0; have hfz16_1 := blk_frozen BK172.out 1; have hfz16_2 := blk_frozen BK172.out 2; have hfz16_3 := blk_frozen BK172.out 3) | ((with_reducible refine gate_store (t := 25) (p := 8) rfl ?_); refine store_event (t := 25) (p := 8) (v := ?vo_w17) (w1 := ((((w14.setCell ⟨gb172, 0, none⟩ (.int .i64 (wrap64 (IntKind.u64.wrap (Int.tdiv t168 8))))).setCell ⟨gb172, 1, none⟩ (.int .i64 (wrap64 (Int.tmod t168 8)))).setCell ⟨gb172, 2, none⟩ (.int .u64 0)).setCell ⟨gb172, 3, none⟩ (.slice none 0 0))) ?hg ?ho ?hn ?hr ?_; (case ho => rfl); (case hg => rfl); (case hn => rfl); (case hr => first | (go_simp; done) | (go_simp; rfl)); intro w17 hw; have n0_ : Aside0 (w17.heap[gb167]? = some (.cells #[.int .i64 0, .int .i64 0, .int .u64 0, .slice none 0 0] 25 (0, 0))) := ⟨(by rw [hw]; exact (by (with_reducible repeat (first | refine blk_drewN ?_ _ | refine blk_drew ?_ | refine blk_alloc ?_ _)); refine blk_far ?_ NB167_172.out _; (with_reducible repeat (first | refine blk_drewN ?_ _ | refine blk_drew ?_ | refine blk_alloc ?_ _)); refine blk_far ?_ NB167_172.out _; (with_reducible repeat (first | refine blk_drewN ?_ _ | refine blk_drew ?_ | refine blk_alloc ?_ _)); refine blk_far ?_ NB167_172.out _; (with_reducible repeat (first | refine blk_drewN ?_ _ | refine blk_drew ?_ | refine blk_alloc ?_ _)); refine blk_far ?_ NB167_172.out _; (with_reducible repeat (first | refine blk_drewN ?_ _ | refine blk_drew ?_ | refine blk_alloc ?_ _)); exact BK167.out))⟩; have n1_ : Aside0 (w17.heap[gb172]? = some (.cells #[.int .i64 (wrap64 (IntKind.u64.wrap (Int.tdiv t168 8))), .int .i64 (wrap64 (Int.tmod t168 8)), .int .u64 0, .slice none 0 0] 25 (0, 0))) := ⟨(by rw [hw]; exact (by (with_reducible repeat (first | refine blk_drewN ?_ _ | refine blk_drew ?_ | refine blk_alloc ?_ _)); refine blk_put (cs := #[.int .i64 (wrap64 (IntKind.u64.wrap (Int.tdiv t168 8))), .int .i64 (wrap64 (Int.tmod t168 8)), .int .u64 0, .slice none 0 0]) ?_ 3 _ rfl; (with_reducible repeat (first | refine blk_drewN ?_ _ | refine blk_drew ?_ | refine blk_alloc ?_ _)); refine blk_put (cs := #[.int .i64 (wrap64 (IntKind.u64.wrap (Int.tdiv t168 8))), .int .i64 (wrap64 (Int.tmod t168 8)), .int .u64 0, .slice none 0 0]) ?_ 2 _ rfl; (with_reducible repeat (first | refine blk_drewN ?_ _ | refine blk_drew ?_ | refine blk_alloc ?_ _)); refine blk_put (cs := #[.int .i64 (wrap64 (IntKind.u64.wrap (Int.tdiv t168 8))), .int .i64 0, .int .u64 0, .slice none 0 0]) ?_ 1 _ rfl; (with_reducible repeat (first | refine blk_drewN ?_ _ | refine blk_drew ?_ | refine blk_alloc ?_ _)); refine blk_put (cs := #[.int .i64 0, .int .i64 0, .int .u64 0, .slice none 0 0]) ?_ 0 _ rfl; (with_reducible repeat (first | refine blk_drewN ?_ _ | refine blk_drew ?_ | refine blk_alloc ?_ _)); exact BK172.out))⟩; have n2_ : Aside0 (Below w.heap.size w w17) := ⟨(by rw [hw]; exact (by repeat (first | (with_reducible first | exact HB.out | apply below_alloc | apply pw_below_drewN | apply below_drew1 | refine below_set ?_ GE167.out | refine below_set ?_ GE172.out) | exact HB.out)))⟩; clear hw; clear BK167; clear BK172; clear HB; have BK167 := n0_; have BK172 := n1_; have HB := n2_; clear n0_ n1_ n2_; have q18 : (t169 : Int) ≤ ((l0.length : Int) : Int) := of_decide_eq_true (by first | (with_reducible assumption) | assumption); obtain ⟨i018, hi018, _, hsz18, _⟩ := info_parts info5; have hroom18 : l0.length ≤ c0 := HC0.out; have hC18 : Kd.C (Kd.int .u8) _ A0 l0.length l0 := HR0.out; have q018 : (0 : Int) ≤ (t169 : Int) := of_decide_eq_true (by first | (with_reducible assumption) | assumption); have hcut18 := cut_from (P := Try.prog) 23 5 .i64 Try.underlying23 hi018 1 hsz18 A0 l0.length c0 t169 q018 q18; have hr18 := Kd.C_drop (m := (t169 : Int).toNat) (c := c0) hC18 (by omega) hroom18; obtain ⟨A18, hA18⟩ : ∃ A1, A1 = (if c0 = (t169 : Int).toNat then A0 else (A0 : Option Addr).map (·.add ((t169 : Int).toNat * 1))) := ⟨_, rfl⟩; obtain ⟨c18, hc18⟩ : ∃ c1, c1 = c0 - (t169 : Int).toNat := ⟨_, rfl⟩; have hy18 : y173.length = l0.length - (t169 : Int).toNat := (by rw [Ny173.out, List.length_drop] <;> omega); rw [show (l0).drop (t169 : Int).toNat = y173 from Ny173.out.symm] at hr18; replace hr18 : Kd.C (Kd.int .u8) _ A18 y173.length y173 := (by rw [hA18]; exact hr18); rw [← hy18, ← hA18, ← hc18] at hcut18; have HR176 := Aside0.mk hr18; have HC176 := Aside0.mk (show y173.length ≤ c18 from by rw [hy18, hc18]; exact Nat.sub_le_sub_right hroom18 _); clear hr18 hC18 hroom18 hi018 hsz18 hc18; have KY18 := Aside0.mk hy18; have KA18 := Aside0.mk hA18; clear hy18 hA18; replace q18 := eq_true q18; have hcz19_0 : w17.cell? ⟨gb172, 0, none⟩ = some (.int .i64 (wrap64 (IntKind.u64.wrap (Int.tdiv t168 8)))) := (blk_cell BK172.out 0).trans rfl; have hcz19_1 : w17.cell? ⟨gb172, 1, none⟩ = some (.int .i64 (wrap64 (Int.tmod t168 8))) := (blk_cell BK172.out 1).trans rfl; have hcz19_2 : w17.cell? ⟨gb172, 2, none⟩ = some (.int .u64 0) := (blk_cell BK172.out 2).trans rfl; have hcz19_3 : w17.cell? ⟨gb172, 3, none⟩ = some (.slice none 0 0) := (blk_cell BK172.out 3).trans rfl; have hfz19_0 := blk_frozen BK172.out 0; have hfz19_1 := blk_frozen BK172.out 1; have hfz19_2 := blk_frozen BK172.out 2; have hfz19_3 := blk_frozen BK172.out 3))
                    (try simp only [Act.put, List.setIfInBounds_toArray, List.set_cons_zero, List.set_cons_succ])
                    go_cut [49] (fun v49 wc => ∃ (kq : Nat) (x49_12 : Bool), v49 = .bool x49_12 ∧ Aside0 (glossaryref01_Take.j1 kq t169 y173 x49_12 (wrap64 (IntKind.u64.wrap (Int.tdiv t168 8))) (wrap64 (Int.tmod t168 8)) 0 = some (r1, r2, r3, r4, r5, r6)) ∧ Aside0 (kq ≤ kj3) ∧ Aside0 (wc.heap[gb167]? = some (.cells #[.int .i64 0, .int .i64 0, .int .u64 0, (.slice none 0 0)] 25 (0, 0))) ∧ Aside0 (wc.heap[gb172]? = some (.cells #[.int .i64 (wrap64 (IntKind.u64.wrap (Int.tdiv t168 8))), .int .i64 (wrap64 (Int.tmod t168 8)), .int .u64 0, (.slice none 0 0)] 25 (0, 0))) ∧ Aside0 (Below w.heap.size w wc))
                    case first =>
                      have H := HC13.out
                      clear HC13
                      by_cases c20 : (wrap64 (Int.tmod t168 8)) = 1
                      · as_aux_lemma =>
                          rw [if_pos c20] at H
                          have c20b0 : ((wrap64 (Int.tmod t168 8)) == 1) = true := beq_iff_eq.mpr c20
                          have c20b1 : ((wrap64 (Int.tmod t168 8)) != 1) = false := bne_eq_false_iff_eq.mpr c20
                          clear c20
                          (first | rw [c20b0] | (simp only [i64_w, i32_w]; rw [c20b0]) | skip)
                          as_aux_lemma =>
                            have H' := Aside0.mk H
                            clear H
                            go_wp2
                            go_meet
                            case rel => exact ⟨_, (((wrap64 (Int.tmod t168 8)) == 1)), (by first | rfl | (simp; done) | (simp [*]; done)), H', ⟨by have := HJ3.out; first | omega | exact Nat.le_refl _⟩, ⟨by (with_reducible repeat (first | refine blk_drewN ?_ _ | refine blk_drew ?_ | refine blk_alloc ?_ _)); exact BK167.out⟩, ⟨by (with_reducible repeat (first | refine blk_drewN ?_ _ | refine blk_drew ?_ | refine blk_alloc ?_ _)); exact BK172.out⟩, ⟨by repeat (first | (with_reducible first | exact HB.out | apply below_alloc | apply pw_below_drewN | apply below_drew1 | refine below_set ?_ GE167.out | refine below_set ?_ GE172.out) | exact HB.out)⟩⟩
                      · as_aux_lemma =>
                          rw [if_neg c20] at H
                          have c20b0 : ((wrap64 (Int.tmod t168 8)) == 1) = false := beq_eq_false_iff_ne.mpr c20
                          have c20b1 : ((wrap64 (Int.tmod t168 8)) != 1) = true := bne_iff_ne.mpr c20
                          (first | rw [c20b0] | (simp only [i64_w, i32_w]; rw [c20b0]) | skip)
                          as_aux_lemma =>
                            have H' := Aside0.mk H
                            clear H
                            go_wp2
                            go_meet
                            case rel => exact ⟨_, (((wrap64 (Int.tmod t168 8)) == 5)), (by first | rfl | (simp; done) | (simp [*]; done)), H', ⟨by have := HJ3.out; first | omega | exact Nat.le_refl _⟩, ⟨by (with_reducible repeat (first | refine blk_drewN ?_ _ | refine blk_drew ?_ | refine blk_alloc ?_ _)); exact BK167.out⟩, ⟨by (with_reducible repeat (first | refine blk_drewN ?_ _ | refine blk_drew ?_ | refine blk_alloc ?_ _)); exact BK172.out⟩, ⟨by repeat (first | (with_reducible first | exact HB.out | apply below_alloc | apply pw_below_drewN | apply below_drew1 | refine below_set ?_ GE167.out | refine below_set ?_ GE172.out) | exact HB.out)⟩⟩
                    case rest =>
                      clear HC13
                      try clear c1
                      try clear q1
                      try clear c2
                      try clear p2
                      try clear c3
                      try clear c3b0
                      try clear c3b1
                      try clear c6
                      try clear c6b0
                      try clear p6
                      try clear c7
                      try clear c7b0
                      try clear c9
                      try clear c11
                      try clear c11b0
                      try clear c11b1
                      try clear c12
                      try clear c12b0
                      try clear c12b1
                      try clear c15
                      try clear c18
                      try clear q18
                      try clear c19
                      try clear c20
                      try clear c20b0
                      try clear c20b1
                      try clear hcz10_0
                      try clear hcz10_1
                      try clear hcz10_2
                      try clear hcz10_3
                      try clear hcz16_0
                      try clear hcz16_1
                      try clear hcz16_2
                      try clear hcz16_3
                      try clear hcz19_0
                      try clear hcz19_1
                      try clear hcz19_2
                      try clear hcz19_3
                      try clear hfz10_0
                      try clear hfz10_1
                      try clear hfz10_2
                      try clear hfz10_3
                      try clear hfz16_0
                      try clear hfz16_1
                      try clear hfz16_2
                      try clear hfz16_3
                      try clear hfz19_0
                      try clear hfz19_1
                      try clear hfz19_2
                      try clear hfz19_3
                      try clear p2
                      try clear p6
                      try clear q018
                      try clear q18
                      obtain ⟨kq, x49_12, rfl, HA, HJ12, BK167, BK172, HB⟩ := hcut
                      cases kq with
                      | zero => exact absurd HA.out (by simp [glossaryref01_Take.j1])
                      | succ kj12 =>
                        have H := HA.out
                        clear HA
                        simp only [glossaryref01_Take.j1] at H
                        by_cases c21 : x49_12 = true
                        · subst c21
                          have H1 : (if (wrap64 (Int.tmod t168 8)) = 5 then (if (y173.length : Int) < 4 then (some (0, 0, 0, ([] : List Int), 0, 21)) else (if 4 ≤ (y173.length : Int) then ((glossaryref01_Unfixed.f kj12 (y173.take 4)).bind fun t181 => (some ((wrap64 (IntKind.u64.wrap (Int.tdiv t168 8))), (wrap64 (Int.tmod t168 8)), t181, ([] : List Int), wrap64 (t169 + 4), 0))) else (none))) else (if (y173.length : Int) < 8 then (some (0, 0, 0, ([] : List Int), 0, 21)) else (if 8 ≤ (y173.length : Int) then ((glossaryref01_Unfixed.f kj12 (y173.take 8)).bind fun t186 => (some ((wrap64 (IntKind.u64.wrap (Int.tdiv t168 8))), (wrap64 (Int.tmod t168 8)), t186, ([] : List Int), wrap64 (t169 + 8), 0))) else (none)))) = some (r1, r2, r3, r4, r5, r6) := by rw [if_pos rfl] at H; exact H
                          clear H
                          have H := H1
                          clear H1
                          by_cases c22 : (wrap64 (Int.tmod t168 8)) = 5
                          · as_aux_lemma =>
                              rw [if_pos c22] at H
                              have c22b0 : ((wrap64 (Int.tmod t168 8)) == 5) = true := beq_iff_eq.mpr c22
                              have c22b1 : ((wrap64 (Int.tmod t168 8)) != 5) = false := bne_eq_false_iff_eq.mpr c22
                              clear c22
                              by_cases c23 : (y173.length : Int) < 4
                              · as_aux_lemma =>
                                  rw [if_pos c23] at H
                                  have c23b0 : decide ((y173.length : Int) < 4) = true := decide_eq_true c23
                                  have c23b1 : decide (y173.length < 4) = true := decide_eq_true (by omega)
                                  clear c23
                                  as_aux_lemma =>
                                    simp only [Option.some.injEq, Prod.mk.injEq] at H
                                    obtain ⟨rfl, rfl, rfl, rfl, rfl, rfl⟩ := H
                                    have hnb24 := NB172_167.out
                                    have hnc24 := NB167_172.out
                                    have hcz25_0 : wc.cell? ⟨gb172, 0, none⟩ = some (.int .i64 (wrap64 (IntKind.u64.wrap (Int.tdiv t168 8)))) := (blk_cell BK172.out 0).trans rfl
                                    have hcz25_1 : wc.cell? ⟨gb172, 1, none⟩ = some (.int .i64 (wrap64 (Int.tmod t168 8))) := (blk_cell BK172.out 1).trans rfl
                                    have hcz25_2 : wc.cell? ⟨gb172, 2, none⟩ = some (.int .u64 0) := (blk_cell BK172.out 2).trans rfl
                                    have hcz25_3 : wc.cell? ⟨gb172, 3, none⟩ = some (.slice none 0 0) := (blk_cell BK172.out 3).trans rfl
                                    have hfz25_0 := blk_frozen BK172.out 0
                                    have hfz25_1 := blk_frozen BK172.out 1
                                    have hfz25_2 := blk_frozen BK172.out 2
                                    have hfz25_3 := blk_frozen BK172.out 3
                                    have hcz26_0 : wc.cell? ⟨gb167, 0, none⟩ = some (.int .i64 0) := (blk_cell BK167.out 0).trans rfl
                                    have hcz26_1 : wc.cell? ⟨gb167, 1, none⟩ = some (.int .i64 0) := (blk_cell BK167.out 1).trans rfl
                                    have hcz26_2 : wc.cell? ⟨gb167, 2, none⟩ = some (.int .u64 0) := (blk_cell BK167.out 2).trans rfl
                                    have hcz26_3 : wc.cell? ⟨gb167, 3, none⟩ = some (.slice none 0 0) := (blk_cell BK167.out 3).trans rfl
                                    have hfz26_0 := blk_frozen BK167.out 0
                                    have hfz26_1 := blk_frozen BK167.out 1
                                    have hfz26_2 := blk_frozen BK167.out 2
                                    have hfz26_3 := blk_frozen BK167.out 3
                                    go_wp2
                                    refine bodyPost_ret (results_ctt rfl _ _ gb167 25 #[.int .i64 0, .int .i64 0, .int .u64 0, .slice none 0 0] (0, 0) _ rfl (by (with_reducible repeat (first | refine blk_drewN ?_ _ | refine blk_drew ?_ | refine blk_alloc ?_ _)); refine blk_put (cs := #[.int .i64 0, .int .i64 0, .int .u64 0, .slice none 0 0]) ?_ 3 _ rfl; (with_reducible repeat (first | refine blk_drewN ?_ _ | refine blk_drew ?_ | refine blk_alloc ?_ _)); refine blk_put (cs := #[.int .i64 0, .int .i64 0, .int .u64 0, .slice none 0 0]) ?_ 2 _ rfl; (with_reducible repeat (first | refine blk_drewN ?_ _ | refine blk_drew ?_ | refine blk_alloc ?_ _)); refine blk_put (cs := #[.int .i64 0, .int .i64 0, .int .u64 0, .slice none 0 0]) ?_ 1 _ rfl; (with_reducible repeat (first | refine blk_drewN ?_ _ | refine blk_drew ?_ | refine blk_alloc ?_ _)); refine blk_put (cs := #[.int .i64 0, .int .i64 0, .int .u64 0, .slice none 0 0]) ?_ 0 _ rfl; (with_reducible repeat (first | refine blk_drewN ?_ _ | refine blk_drew ?_ | refine blk_alloc ?_ _)); exact BK167.out) Try.underlying25 rfl (by kernel_rfl)) rfl ?_
                                    exact ⟨_, by first | rfl | (simp [errW_none, errW_some] <;> rfl) | (simp [*, errW_none, errW_some] <;> rfl), by first | exact Kd.R_nil _ _ _ _ _ | exact Kd.N_nil _ _ _ _ _ | exact Kd.V_nil _ _ _ _ _ | exact Kd.Q_nil _ _ _ _ _ | exact Kd.S_nil _ _ _ _ _, by repeat (first | (with_reducible first | exact HB.out | apply below_alloc | apply pw_below_drewN | apply below_drew1 | refine below_set ?_ GE167.out | refine below_set ?_ GE172.out) | exact HB.out)⟩
                              · as_aux_lemma =>
                                  rw [if_neg c23] at H
                                  have c23b0 : decide ((y173.length : Int) < 4) = false := decide_eq_false c23
                                  have c23b1 : decide (y173.length < 4) = false := decide_eq_false (by omega)
                                  clear c23
                                  by_cases c27 : 4 ≤ (y173.length : Int)
                                  · as_aux_lemma =>
                                      rw [if_pos c27] at H
                                      have c27b0 := eq_true c27
                                      have c27b1 : decide (4 ≤ (y173.length : Int)) = true := decide_eq_true c27
                                      clear c27
                                      obtain ⟨y177, hy177⟩ : ∃ y_ : List Int, y_ = (y173.take 4) := ⟨_, rfl⟩
                                      replace H : ((glossaryref01_Unfixed.f kj12 y177).bind fun t181 => (some ((wrap64 (IntKind.u64.wrap (Int.tdiv t168 8))), (wrap64 (Int.tmod t168 8)), t181, ([] : List Int), wrap64 (t169 + 4), 0))) = some (r1, r2, r3, r4, r5, r6) := by first | (rw [hy177]; with_reducible exact H) | (have H2_ := (Option.bind_some _ _).symm.trans H; rw [hy177]; with_reducible exact H2_) | (have H2_ := (Option.bind_some _ _).symm.trans H; with_reducible exact H2_) | with_reducible exact H | (rw [hy177]; exact H) | exact H
                                      have Ny177 := Aside0.mk hy177
                                      clear hy177
                                      replace H := Option.bind_eq_some_iff.mp H
                                      obtain ⟨t181, A280, H⟩ := H
                                      replace H : (some ((wrap64 (IntKind.u64.wrap (Int.tdiv t168 8))), (wrap64 (Int.tmod t168 8)), t181, ([] : List Int), wrap64 (t169 + 4), 0)) = some (r1, r2, r3, r4, r5, r6) := H
                                      have A28 := Aside0.mk A280
                                      clear A280
                                      as_aux_lemma =>
                                        simp only [Option.some.injEq, Prod.mk.injEq] at H
                                        obtain ⟨rfl, rfl, rfl, rfl, rfl, rfl⟩ := H
                                        have hnb29 := NB172_167.out
                                        have hnc29 := NB167_172.out
                                        have hcz30_0 : wc.cell? ⟨gb172, 0, none⟩ = some (.int .i64 (wrap64 (IntKind.u64.wrap (Int.tdiv t168 8)))) := (blk_cell BK172.out 0).trans rfl
                                        have hcz30_1 : wc.cell? ⟨gb172, 1, none⟩ = some (.int .i64 (wrap64 (Int.tmod t168 8))) := (blk_cell BK172.out 1).trans rfl
                                        have hcz30_2 : wc.cell? ⟨gb172, 2, none⟩ = some (.int .u64 0) := (blk_cell BK172.out 2).trans rfl
                                        have hcz30_3 : wc.cell? ⟨gb172, 3, none⟩ = some (.slice none 0 0) := (blk_cell BK172.out 3).trans rfl
                                        have hfz30_0 := blk_frozen BK172.out 0
                                        have hfz30_1 := blk_frozen BK172.out 1
                                        have hfz30_2 := blk_frozen BK172.out 2
                                        have hfz30_3 := blk_frozen BK172.out 3
                                        have q31 : (4 : Int) ≤ ((y173.length : Int) : Int) := of_decide_eq_true (by first | (with_reducible assumption) | assumption)
                                        obtain ⟨i031, hi031, _, hsz31, _⟩ := info_parts info5
                                        have hroom31 : y173.length ≤ c18 := HC176.out
                                        have hC31 : Kd.C (Kd.int .u8) _ A18 y173.length y173 := HR176.out
                                        have hcut31 := cut_to (P := Try.prog) 23 5 .i64 Try.underlying23 hi031 A18 y173.length c18 4 (by omega) q31 hroom31
                                        have hr31 := Kd.C_take (m := 4) hC31 (by omega)
                                        have hy31 : y177.length = (4 : Int).toNat := (by rw [Ny177.out, List.length_take]; omega)
                                        rw [← Ny177.out] at hr31
                                        rw [← hy31] at hcut31
                                        have HR180 := Aside0.mk hr31
                                        have HC180 := Aside0.mk (show y177.length ≤ c18 from by omega)
                                        clear hr31 hC31 hroom31 hi031 hsz31
                                        have KY31 := Aside0.mk hy31
                                        clear hy31
                                        replace q31 := eq_true q31
                                        go_wp2_with (first | ((with_reducible refine gate_callee (f := 35) rfl ?_); refine goesL_ (some 63) rfl rfl Try.func35 (by kernel_rfl) rfl #[.slice A18 y177.length c18] rfl (by (try simp only [List.map_toArray, List.map_cons, List.map_nil]); first | done | rfl | (simp only [List.length_drop, List.length_take]; rfl)) ?_; (with_reducible refine (glossaryref01_Unfixed.calls kj12 _ _ y177 t181 _ ?side1 ?side2 A28.out).mono ?_); (case side1 => repeat (first | exact (Kd.C_below HR180.out HB.out) | (with_reducible refine Kd.C_alloc ?_ _) | (with_reducible refine Kd.C_drewN ?_ _) | (with_reducible refine Kd.C_drew ?_))); (case side2 => exact HC180.out); rintro e w' ⟨rfl, ⟨nd, rfl⟩⟩; refine ⟨_, rfl, ?_⟩; (try (rw [drewN_self wc]; generalize hq_ : World.drewN wc _ = wc; have n0_ : Aside0 (wc.heap[gb167]? = some (.cells #[.int .i64 0, .int .i64 0, .int .u64 0, .slice none 0 0] 25 (0, 0))) := ⟨by rw [← hq_]; exact (by (with_reducible repeat (first | refine blk_drewN ?_ _ | refine blk_drew ?_ | refine blk_alloc ?_ _)); exact BK167.out)⟩; have n1_ : Aside0 (wc.heap[gb172]? = some (.cells #[.int .i64 (wrap64 (IntKind.u64.wrap (Int.tdiv t168 8))), .int .i64 (wrap64 (Int.tmod t168 8)), .int .u64 0, .slice none 0 0] 25 (0, 0))) := ⟨by rw [← hq_]; exact (by (with_reducible repeat (first | refine blk_drewN ?_ _ | refine blk_drew ?_ | refine blk_alloc ?_ _)); exact BK172.out)⟩; have n2_ : Aside0 (Below w.heap.size w wc) := ⟨by rw [← hq_]; exact (by repeat (first | (with_reducible first | exact HB.out | apply below_alloc | apply pw_below_drewN | apply below_drew1 | refine below_set ?_ GE167.out | refine below_set ?_ GE172.out) | exact HB.out))⟩; clear BK167 BK172 HB hq_; have BK167 := n0_; have BK172 := n1_; have HB := n2_; clear n0_ n1_ n2_)); have hczR7_gb172_0 : wc.cell? ⟨gb172, 0, none⟩ = some (.int .i64 (wrap64 (IntKind.u64.wrap (Int.tdiv t168 8)))) := (blk_cell BK172.out 0).trans rfl; have hfzR7_gb172_0 := blk_frozen BK172.out 0; have hczR7_gb172_1 : wc.cell? ⟨gb172, 1, none⟩ = some (.int .i64 (wrap64 (Int.tmod t168 8))) := (blk_cell BK172.out 1).trans rfl; have hfzR7_gb172_1 := blk_frozen BK172.out 1; have hczR7_gb172_2 : wc.cell? ⟨gb172, 2, none⟩ = some (.int .u64 0) := (blk_cell BK172.out 2).trans rfl; have hfzR7_gb172_2 := blk_frozen BK172.out 2; have hczR7_gb172_3 : wc.cell? ⟨gb172, 3, none⟩ = some (.slice none 0 0) := (blk_cell BK172.out 3).trans rfl; have hfzR7_gb172_3 := blk_frozen BK172.out 3; have hcz32_0 : wc.cell? ⟨gb167, 0, none⟩ = some (.int .i64 0) := (blk_cell BK167.out 0).trans rfl; have hcz32_1 : wc.cell? ⟨gb167, 1, none⟩ = some (.int .i64 0) := (blk_cell BK167.out 1).trans rfl; have hcz32_2 : wc.cell? ⟨gb167, 2, none⟩ = some (.int .u64 0) := (blk_cell BK167.out 2).trans rfl; have hcz32_3 : wc.cell? ⟨gb167, 3, none⟩ = some (.slice none 0 0) := (blk_cell BK167.out 3).trans rfl; have hfz32_0 := blk_frozen BK167.out 0; have hfz32_1 := blk_frozen BK167.out 1; have hfz32_2 := blk_frozen BK167.out 2; have hfz32_3 := blk_frozen BK167.out 3))
                                        refine bodyPost_ret (results_ctt rfl _ _ gb167 25 #[.int .i64 (wrap64 (IntKind.u64.wrap (Int.tdiv t168 8))), .int .i64 (wrap64 (Int.tmod t168 8)), .int .u64 t181, .slice none 0 0] (0, 0) _ rfl (by (with_reducible repeat (first | refine blk_drewN ?_ _ | refine blk_drew ?_ | refine blk_alloc ?_ _)); refine blk_put (cs := #[.int .i64 (wrap64 (IntKind.u64.wrap (Int.tdiv t168 8))), .int .i64 (wrap64 (Int.tmod t168 8)), .int .u64 t181, .slice none 0 0]) ?_ 3 _ rfl; (with_reducible repeat (first | refine blk_drewN ?_ _ | refine blk_drew ?_ | refine blk_alloc ?_ _)); refine blk_put (cs := #[.int .i64 (wrap64 (IntKind.u64.wrap (Int.tdiv t168 8))), .int .i64 (wrap64 (Int.tmod t168 8)), .int .u64 0, .slice none 0 0]) ?_ 2 _ rfl; (with_reducible repeat (first | refine blk_drewN ?_ _ | refine blk_drew ?_ | refine blk_alloc ?_ _)); refine blk_put (cs := #[.int .i64 (wrap64 (IntKind.u64.wrap (Int.tdiv t168 8))), .int .i64 0, .int .u64 0, .slice none 0 0]) ?_ 1 _ rfl; (with_reducible repeat (first | refine blk_drewN ?_ _ | refine blk_drew ?_ | refine blk_alloc ?_ _)); refine blk_put (cs := #[.int .i64 0, .int .i64 0, .int .u64 0, .slice none 0 0]) ?_ 0 _ rfl; (with_reducible repeat (first | refine blk_drewN ?_ _ | refine blk_drew ?_ | refine blk_alloc ?_ _)); refine blk_far ?_ NB167_172.out _; (with_reducible repeat (first | refine blk_drewN ?_ _ | refine blk_drew ?_ | refine blk_alloc ?_ _)); exact BK167.out) Try.underlying25 rfl (by kernel_rfl)) rfl ?_
                                        exact ⟨_, by first | rfl | (simp [errW_none, errW_some] <;> rfl) | (simp [*, errW_none, errW_some] <;> rfl), by first | exact Kd.R_nil _ _ _ _ _ | exact Kd.N_nil _ _ _ _ _ | exact Kd.V_nil _ _ _ _ _ | exact Kd.Q_nil _ _ _ _ _ | exact Kd.S_nil _ _ _ _ _, by repeat (first | (with_reducible first | exact HB.out | apply below_alloc | apply pw_below_drewN | apply below_drew1 | refine below_set ?_ GE167.out | refine below_set ?_ GE172.out) | exact HB.out)⟩
                                  · rw [if_neg c27] at H
                                    exact absurd H (by simp)
                          · as_aux_lemma =>
                              rw [if_neg c22] at H
                              have c22b0 : ((wrap64 (Int.tmod t168 8)) == 5) = false := beq_eq_false_iff_ne.mpr c22
                              have c22b1 : ((wrap64 (Int.tmod t168 8)) != 5) = true := bne_iff_ne.mpr c22
                              by_cases c33 : (y173.length : Int) < 8
                              · as_aux_lemma =>
                                  rw [if_pos c33] at H
                                  have c33b0 : decide ((y173.length : Int) < 8) = true := decide_eq_true c33
                                  have c33b1 : decide (y173.length < 8) = true := decide_eq_true (by omega)
                                  clear c33
                                  as_aux_lemma =>
                                    simp only [Option.some.injEq, Prod.mk.injEq] at H
                                    obtain ⟨rfl, rfl, rfl, rfl, rfl, rfl⟩ := H
                                    have hnb34 := NB172_167.out
                                    have hnc34 := NB167_172.out
                                    have hcz35_0 : wc.cell? ⟨gb172, 0, none⟩ = some (.int .i64 (wrap64 (IntKind.u64.wrap (Int.tdiv t168 8)))) := (blk_cell BK172.out 0).trans rfl
                                    have hcz35_1 : wc.cell? ⟨gb172, 1, none⟩ = some (.int .i64 (wrap64 (Int.tmod t168 8))) := (blk_cell BK172.out 1).trans rfl
                                    have hcz35_2 : wc.cell? ⟨gb172, 2, none⟩ = some (.int .u64 0) := (blk_cell BK172.out 2).trans rfl
                                    have hcz35_3 : wc.cell? ⟨gb172, 3, none⟩ = some (.slice none 0 0) := (blk_cell BK172.out 3).trans rfl
                                    have hfz35_0 := blk_frozen BK172.out 0
                                    have hfz35_1 := blk_frozen BK172.out 1
                                    have hfz35_2 := blk_frozen BK172.out 2
                                    have hfz35_3 := blk_frozen BK172.out 3
                                    have hcz36_0 : wc.cell? ⟨gb167, 0, none⟩ = some (.int .i64 0) := (blk_cell BK167.out 0).trans rfl
                                    have hcz36_1 : wc.cell? ⟨gb167, 1, none⟩ = some (.int .i64 0) := (blk_cell BK167.out 1).trans rfl
                                    have hcz36_2 : wc.cell? ⟨gb167, 2, none⟩ = some (.int .u64 0) := (blk_cell BK167.out 2).trans rfl
                                    have hcz36_3 : wc.cell? ⟨gb167, 3, none⟩ = some (.slice none 0 0) := (blk_cell BK167.out 3).trans rfl
                                    have hfz36_0 := blk_frozen BK167.out 0
                                    have hfz36_1 := blk_frozen BK167.out 1
                                    have hfz36_2 := blk_frozen BK167.out 2
                                    have hfz36_3 := blk_frozen BK167.out 3
                                    go_wp2
                                    refine bodyPost_ret (results_ctt rfl _ _ gb167 25 #[.int .i64 0, .int .i64 0, .int .u64 0, .slice none 0 0] (0, 0) _ rfl (by (with_reducible repeat (first | refine blk_drewN ?_ _ | refine blk_drew ?_ | refine blk_alloc ?_ _)); refine blk_put (cs := #[.int .i64 0, .int .i64 0, .int .u64 0, .slice none 0 0]) ?_ 3 _ rfl; (with_reducible repeat (first | refine blk_drewN ?_ _ | refine blk_drew ?_ | refine blk_alloc ?_ _)); refine blk_put (cs := #[.int .i64 0, .int .i64 0, .int .u64 0, .slice none 0 0]) ?_ 2 _ rfl; (with_reducible repeat (first | refine blk_drewN ?_ _ | refine blk_drew ?_ | refine blk_alloc ?_ _)); refine blk_put (cs := #[.int .i64 0, .int .i64 0, .int .u64 0, .slice none 0 0]) ?_ 1 _ rfl; (with_reducible repeat (first | refine blk_drewN ?_ _ | refine blk_drew ?_ | refine blk_alloc ?_ _)); refine blk_put (cs := #[.int .i64 0, .int .i64 0, .int .u64 0, .slice none 0 0]) ?_ 0 _ rfl; (with_reducible repeat (first | refine blk_drewN ?_ _ | refine blk_drew ?_ | refine blk_alloc ?_ _)); exact BK167.out) Try.underlying25 rfl (by kernel_rfl)) rfl ?_
                                    exact ⟨_, by first | rfl | (simp [errW_none, errW_some] <;> rfl) | (simp [*, errW_none, errW_some] <;> rfl), by first | exact Kd.R_nil _ _ _ _ _ | exact Kd.N_nil _ _ _ _ _ | exact Kd.V_nil _ _ _ _ _ | exact Kd.Q_nil _ _ _ _ _ | exact Kd.S_nil _ _ _ _ _, by repeat (first | (with_reducible first | exact HB.out | apply below_alloc | apply pw_below_drewN | apply below_drew1 | refine below_set ?_ GE167.out | refine below_set ?_ GE172.out) | exact HB.out)⟩
                              · as_aux_lemma =>
                                  rw [if_neg c33] at H
                                  have c33b0 : decide ((y173.length : Int) < 8) = false := decide_eq_false c33
                                  have c33b1 : decide (y173.length < 8) = false := decide_eq_false (by omega)
                                  clear c33
                                  by_cases c37 : 8 ≤ (y173.length : Int)
                                  · as_aux_lemma =>
                                      rw [if_pos c37] at H
                                      have c37b0 := eq_true c37
                                      have c37b1 : decide (8 ≤ (y173.length : Int)) = true := decide_eq_true c37
                                      clear c37
                                      obtain ⟨y182, hy182⟩ : ∃ y_ : List Int, y_ = (y173.take 8) := ⟨_, rfl⟩
                                      replace H : ((glossaryref01_Unfixed.f kj12 y182).bind fun t186 => (some ((wrap64 (IntKind.u64.wrap (Int.tdiv t168 8))), (wrap64 (Int.tmod t168 8)), t186, ([] : List Int), wrap64 (t169 + 8), 0))) = some (r1, r2, r3, r4, r5, r6) := by first | (rw [hy182]; with_reducible exact H) | (have H2_ := (Option.bind_some _ _).symm.trans H; rw [hy182]; with_reducible exact H2_) | (have H2_ := (Option.bind_some _ _).symm.trans H; with_reducible exact H2_) | with_reducible exact H | (rw [hy182]; exact H) | exact H
                                      have Ny182 := Aside0.mk hy182
                                      clear hy182
                                      replace H := Option.bind_eq_some_iff.mp H
                                      obtain ⟨t186, A380, H⟩ := H
                                      replace H : (some ((wrap64 (IntKind.u64.wrap (Int.tdiv t168 8))), (wrap64 (Int.tmod t168 8)), t186, ([] : List Int), wrap64 (t169 + 8), 0)) = some (r1, r2, r3, r4, r5, r6) := H
                                      have A38 := Aside0.mk A380
                                      clear A380
                                      as_aux_lemma =>
                                        simp only [Option.some.injEq, Prod.mk.injEq] at H
                                        obtain ⟨rfl, rfl, rfl, rfl, rfl, rfl⟩ := H
                                        have hnb39 := NB172_167.out
                                        have hnc39 := NB167_172.out
                                        have hcz40_0 : wc.cell? ⟨gb172, 0, none⟩ = some (.int .i64 (wrap64 (IntKind.u64.wrap (Int.tdiv t168 8)))) := (blk_cell BK172.out 0).trans rfl
                                        have hcz40_1 : wc.cell? ⟨gb172, 1, none⟩ = some (.int .i64 (wrap64 (Int.tmod t168 8))) := (blk_cell BK172.out 1).trans rfl
                                        have hcz40_2 : wc.cell? ⟨gb172, 2, none⟩ = some (.int .u64 0) := (blk_cell BK172.out 2).trans rfl
                                        have hcz40_3 : wc.cell? ⟨gb172, 3, none⟩ = some (.slice none 0 0) := (blk_cell BK172.out 3).trans rfl
                                        have hfz40_0 := blk_frozen BK172.out 0
                                        have hfz40_1 := blk_frozen BK172.out 1
                                        have hfz40_2 := blk_frozen BK172.out 2
                                        have hfz40_3 := blk_frozen BK172.out 3
                                        have q41 : (8 : Int) ≤ ((y173.length : Int) : Int) := of_decide_eq_true (by first | (with_reducible assumption) | assumption)
                                        obtain ⟨i041, hi041, _, hsz41, _⟩ := info_parts info5
                                        have hroom41 : y173.length ≤ c18 := HC176.out
                                        have hC41 : Kd.C (Kd.int .u8) _ A18 y173.length y173 := HR176.out
                                        have hcut41 := cut_to (P := Try.prog) 23 5 .i64 Try.underlying23 hi041 A18 y173.length c18 8 (by omega) q41 hroom41
                                        have hr41 := Kd.C_take (m := 8) hC41 (by omega)
                                        have hy41 : y182.length = (8 : Int).toNat := (by rw [Ny182.out, List.length_take]; omega)
                                        rw [← Ny182.out] at hr41
                                        rw [← hy41] at hcut41
                                        have HR185 := Aside0.mk hr41
                                        have HC185 := Aside0.mk (show y182.length ≤ c18 from by omega)
                                        clear hr41 hC41 hroom41 hi041 hsz41
                                        have KY41 := Aside0.mk hy41
                                        clear hy41
                                        replace q41 := eq_true q41
                                        go_wp2_with (first | ((with_reducible refine gate_callee (f := 35) rfl ?_); refine goesL_ (some 63) rfl rfl Try.func35 (by kernel_rfl) rfl #[.slice A18 y182.length c18] rfl (by (try simp only [List.map_toArray, List.map_cons, List.map_nil]); first | done | rfl | (simp only [List.length_drop, List.length_take]; rfl)) ?_; (with_reducible refine (glossaryref01_Unfixed.calls kj12 _ _ y182 t186 _ ?side1 ?side2 A38.out).mono ?_); (case side1 => repeat (first | exact (Kd.C_below HR185.out HB.out) | (with_reducible refine Kd.C_alloc ?_ _) | (with_reducible refine Kd.C_drewN ?_ _) | (with_reducible refine Kd.C_drew ?_))); (case side2 => exact HC185.out); rintro e w' ⟨rfl, ⟨nd, rfl⟩⟩; refine ⟨_, rfl, ?_⟩; (try (rw [drewN_self wc]; generalize hq_ : World.drewN wc _ = wc; have n0_ : Aside0 (wc.heap[gb167]? = some (.cells #[.int .i64 0, .int .i64 0, .int .u64 0, .slice none 0 0] 25 (0, 0))) := ⟨by rw [← hq_]; exact (by (with_reducible repeat (first | refine blk_drewN ?_ _ | refine blk_drew ?_ | refine blk_alloc ?_ _)); exact BK167.out)⟩; have n1_ : Aside0 (wc.heap[gb172]? = some (.cells #[.int .i64 (wrap64 (IntKind.u64.wrap (Int.tdiv t168 8))), .int .i64 (wrap64 (Int.tmod t168 8)), .int .u64 0, .slice none 0 0] 25 (0, 0))) := ⟨by rw [← hq_]; exact (by (with_reducible repeat (first | refine blk_drewN ?_ _ | refine blk_drew ?_ | refine blk_alloc ?_ _)); exact BK172.out)⟩; have n2_ : Aside0 (Below w.heap.size w wc) := ⟨by rw [← hq_]; exact (by repeat (first | (with_reducible first | exact HB.out | apply below_alloc | apply pw_below_drewN | apply below_drew1 | refine below_set ?_ GE167.out | refine below_set ?_ GE172.out) | exact HB.out))⟩; clear BK167 BK172 HB hq_; have BK167 := n0_; have BK172 := n1_; have HB := n2_; clear n0_ n1_ n2_)); have hczR8_gb172_0 : wc.cell? ⟨gb172, 0, none⟩ = some (.int .i64 (wrap64 (IntKind.u64.wrap (Int.tdiv t168 8)))) := (blk_cell BK172.out 0).trans rfl; have hfzR8_gb172_0 := blk_frozen BK172.out 0; have hczR8_gb172_1 : wc.cell? ⟨gb172, 1, none⟩ = some (.int .i64 (wrap64 (Int.tmod t168 8))) := (blk_cell BK172.out 1).trans rfl; have hfzR8_gb172_1 := blk_frozen BK172.out 1; have hczR8_gb172_2 : wc.cell? ⟨gb172, 2, none⟩ = some (.int .u64 0) := (blk_cell BK172.out 2).trans rfl; have hfzR8_gb172_2 := blk_frozen BK172.out 2; have hczR8_gb172_3 : wc.cell? ⟨gb172, 3, none⟩ = some (.slice none 0 0) := (blk_cell BK172.out 3).trans rfl; have hfzR8_gb172_3 := blk_frozen BK172.out 3; have hcz42_0 : wc.cell? ⟨gb167, 0, none⟩ = some (.int .i64 0) := (blk_cell BK167.out 0).trans rfl; have hcz42_1 : wc.cell? ⟨gb167, 1, none⟩ = some (.int .i64 0) := (blk_cell BK167.out 1).trans rfl; have hcz42_2 : wc.cell? ⟨gb167, 2, none⟩ = some (.int .u64 0) := (blk_cell BK167.out 2).trans rfl; have hcz42_3 : wc.cell? ⟨gb167, 3, none⟩ = some (.slice none 0 0) := (blk_cell BK167.out 3).trans rfl; have hfz42_0 := blk_frozen BK167.out 0; have hfz42_1 := blk_frozen BK167.out 1; have hfz42_2 := blk_frozen BK167.out 2; have hfz42_3 := blk_frozen BK167.out 3))
                                        refine bodyPost_ret (results_ctt rfl _ _ gb167 25 #[.int .i64 (wrap64 (IntKind.u64.wrap (Int.tdiv t168 8))), .int .i64 (wrap64 (Int.tmod t168 8)), .int .u64 t186, .slice none 0 0] (0, 0) _ rfl (by (with_reducible repeat (first | refine blk_drewN ?_ _ | refine blk_drew ?_ | refine blk_alloc ?_ _)); refine blk_put (cs := #[.int .i64 (wrap64 (IntKind.u64.wrap (Int.tdiv t168 8))), .int .i64 (wrap64 (Int.tmod t168 8)), .int .u64 t186, .slice none 0 0]) ?_ 3 _ rfl; (with_reducible repeat (first | refine blk_drewN ?_ _ | refine blk_drew ?_ | refine blk_alloc ?_ _)); refine blk_put (cs := #[.int .i64 (wrap64 (IntKind.u64.wrap (Int.tdiv t168 8))), .int .i64 (wrap64 (Int.tmod t168 8)), .int .u64 0, .slice none 0 0]) ?_ 2 _ rfl; (with_reducible repeat (first | refine blk_drewN ?_ _ | refine blk_drew ?_ | refine blk_alloc ?_ _)); refine blk_put (cs := #[.int .i64 (wrap64 (IntKind.u64.wrap (Int.tdiv t168 8))), .int .i64 0, .int .u64 0, .slice none 0 0]) ?_ 1 _ rfl; (with_reducible repeat (first | refine blk_drewN ?_ _ | refine blk_drew ?_ | refine blk_alloc ?_ _)); refine blk_put (cs := #[.int .i64 0, .int .i64 0, .int .u64 0, .slice none 0 0]) ?_ 0 _ rfl; (with_reducible repeat (first | refine blk_drewN ?_ _ | refine blk_drew ?_ | refine blk_alloc ?_ _)); refine blk_far ?_ NB167_172.out _; (with_reducible repeat (first | refine blk_drewN ?_ _ | refine blk_drew ?_ | refine blk_alloc ?_ _)); exact BK167.out) Try.underlying25 rfl (by kernel_rfl)) rfl ?_
                                        exact ⟨_, by first | rfl | (simp [errW_none, errW_some] <;> rfl) | (simp [*, errW_none, errW_some] <;> rfl), by first | exact Kd.R_nil _ _ _ _ _ | exact Kd.N_nil _ _ _ _ _ | exact Kd.V_nil _ _ _ _ _ | exact Kd.Q_nil _ _ _ _ _ | exact Kd.S_nil _ _ _ _ _, by repeat (first | (with_reducible first | exact HB.out | apply below_alloc | apply pw_below_drewN | apply below_drew1 | refine below_set ?_ GE167.out | refine below_set ?_ GE172.out) | exact HB.out)⟩
                                  · rw [if_neg c37] at H
                                    exact absurd H (by simp)
                        · replace c21 := Bool.eq_false_iff.mpr c21
                          subst c21
                          have H1 : ((glossaryref01_TakeVarint.f kj12 y173).bind fun bt187 => (if bt187.2.2 = 0 then (if (wrap64 (Int.tmod t168 8)) = 0 then (some ((wrap64 (IntKind.u64.wrap (Int.tdiv t168 8))), (wrap64 (Int.tmod t168 8)), bt187.1, ([] : List Int), wrap64 (t169 + bt187.2.1), 0)) else (if bt187.1 > (IntKind.u64.wrap (wrap64 ((y173.length : Int) - bt187.2.1))) then (some (0, 0, 0, ([] : List Int), 0, 21)) else (if 0 ≤ bt187.2.1 then (if bt187.2.1 ≤ (wrap64 (bt187.2.1 + (wrap64 (bt187.1)))) then (if (wrap64 (bt187.2.1 + (wrap64 (bt187.1)))) ≤ (y173.length : Int) then ((some ((y173.take ((wrap64 (bt187.2.1 + (wrap64 (bt187.1)))) : Int).toNat).drop (bt187.2.1 : Int).toNat : List Int)).bind fun y190 => (if ([] : List Int).length + y190.length < 140737488355328 then (some ((wrap64 (IntKind.u64.wrap (Int.tdiv t168 8))), (wrap64 (Int.tmod t168 8)), 0, (([] : List Int) ++ y190), wrap64 ((wrap64 (t169 + bt187.2.1)) + (wrap64 (bt187.1))), 0)) else (none))) else (none)) else (none)) else (none)))) else (some (0, 0, 0, ([] : List Int), 0, bt187.2.2)))) = some (r1, r2, r3, r4, r5, r6) := by rw [if_neg (show ¬ (false = true) by decide)] at H; exact H
                          clear H
                          have H := H1
                          clear H1
                          replace H := Option.bind_eq_some_iff.mp H
                          obtain ⟨⟨t187, t188, t189⟩, A430, H⟩ := H
                          replace H : (if t189 = 0 then (if (wrap64 (Int.tmod t168 8)) = 0 then (some ((wrap64 (IntKind.u64.wrap (Int.tdiv t168 8))), (wrap64 (Int.tmod t168 8)), t187, ([] : List Int), wrap64 (t169 + t188), 0)) else (if t187 > (IntKind.u64.wrap (wrap64 ((y173.length : Int) - t188))) then (some (0, 0, 0, ([] : List Int), 0, 21)) else (if 0 ≤ t188 then (if t188 ≤ (wrap64 (t188 + (wrap64 (t187)))) then (if (wrap64 (t188 + (wrap64 (t187)))) ≤ (y173.length : Int) then ((some ((y173.take ((wrap64 (t188 + (wrap64 (t187)))) : Int).toNat).drop (t188 : Int).toNat : List Int)).bind fun y190 => (if ([] : List Int).length + y190.length < 140737488355328 then (some ((wrap64 (IntKind.u64.wrap (Int.tdiv t168 8))), (wrap64 (Int.tmod t168 8)), 0, (([] : List Int) ++ y190), wrap64 ((wrap64 (t169 + t188)) + (wrap64 (t187))), 0)) else (none))) else (none)) else (none)) else (none)))) else (some (0, 0, 0, ([] : List Int), 0, t189))) = some (r1, r2, r3, r4, r5, r6) := H
                          have A43 := Aside0.mk A430
                          clear A430
                          by_cases c44 : t189 = 0
                          · as_aux_lemma =>
                              rw [if_pos c44] at H
                              have c44b0 : (t189 == 0) = true := beq_iff_eq.mpr c44
                              have c44b1 : (t189 != 0) = false := bne_eq_false_iff_eq.mpr c44
                              clear c44
                              by_cases c45 : (wrap64 (Int.tmod t168 8)) = 0
                              · as_aux_lemma =>
                                  rw [if_pos c45] at H
                                  have c45b0 : ((wrap64 (Int.tmod t168 8)) == 0) = true := beq_iff_eq.mpr c45
                                  have c45b1 : ((wrap64 (Int.tmod t168 8)) != 0) = false := bne_eq_false_iff_eq.mpr c45
                                  clear c45
                                  as_aux_lemma =>
                                    simp only [Option.some.injEq, Prod.mk.injEq] at H
                                    obtain ⟨rfl, rfl, rfl, rfl, rfl, rfl⟩ := H
                                    go_wp2_with (first | ((with_reducible refine gate_callee (f := 34) rfl ?_); refine goesL_ (some 71) rfl rfl Try.func34 (by kernel_rfl) rfl #[.slice A18 y173.length c18] rfl (by (try simp only [List.map_toArray, List.map_cons, List.map_nil]); first | done | rfl | (simp only [List.length_drop, List.length_take]; rfl)) ?_; (with_reducible refine (glossaryref01_TakeVarint.calls kj12 _ _ y173 t187 t188 t189 _ ?side1 ?side2 A43.out).mono ?_); (case side1 => repeat (first | exact (Kd.C_below HR176.out HB.out) | (with_reducible refine Kd.C_alloc ?_ _) | (with_reducible refine Kd.C_drewN ?_ _) | (with_reducible refine Kd.C_drew ?_))); (case side2 => exact HC176.out); rintro e w' ⟨rfl, ⟨nd, rfl⟩⟩; refine ⟨_, rfl, ?_⟩; (try (rw [drewN_self wc]; generalize hq_ : World.drewN wc _ = wc; have n0_ : Aside0 (wc.heap[gb167]? = some (.cells #[.int .i64 0, .int .i64 0, .int .u64 0, .slice none 0 0] 25 (0, 0))) := ⟨by rw [← hq_]; exact (by (with_reducible repeat (first | refine blk_drewN ?_ _ | refine blk_drew ?_ | refine blk_alloc ?_ _)); exact BK167.out)⟩; have n1_ : Aside0 (wc.heap[gb172]? = some (.cells #[.int .i64 (wrap64 (IntKind.u64.wrap (Int.tdiv t168 8))), .int .i64 (wrap64 (Int.tmod t168 8)), .int .u64 0, .slice none 0 0] 25 (0, 0))) := ⟨by rw [← hq_]; exact (by (with_reducible repeat (first | refine blk_drewN ?_ _ | refine blk_drew ?_ | refine blk_alloc ?_ _)); exact BK172.out)⟩; have n2_ : Aside0 (Below w.heap.size w wc) := ⟨by rw [← hq_]; exact (by repeat (first | (with_reducible first | exact HB.out | apply below_alloc | apply pw_below_drewN | apply below_drew1 | refine below_set ?_ GE167.out | refine below_set ?_ GE172.out) | exact HB.out))⟩; clear BK167 BK172 HB hq_; have BK167 := n0_; have BK172 := n1_; have HB := n2_; clear n0_ n1_ n2_)); have hnb46 := NB172_167.out; have hnc46 := NB167_172.out; have hcz47_0 : wc.cell? ⟨gb172, 0, none⟩ = some (.int .i64 (wrap64 (IntKind.u64.wrap (Int.tdiv t168 8)))) := (blk_cell BK172.out 0).trans rfl; have hcz47_1 : wc.cell? ⟨gb172, 1, none⟩ = some (.int .i64 (wrap64 (Int.tmod t168 8))) := (blk_cell BK172.out 1).trans rfl; have hcz47_2 : wc.cell? ⟨gb172, 2, none⟩ = some (.int .u64 0) := (blk_cell BK172.out 2).trans rfl; have hcz47_3 : wc.cell? ⟨gb172, 3, none⟩ = some (.slice none 0 0) := (blk_cell BK172.out 3).trans rfl; have hfz47_0 := blk_frozen BK172.out 0; have hfz47_1 := blk_frozen BK172.out 1; have hfz47_2 := blk_frozen BK172.out 2; have hfz47_3 := blk_frozen BK172.out 3; have hcz48_0 : wc.cell? ⟨gb167, 0, none⟩ = some (.int .i64 0) := (blk_cell BK167.out 0).trans rfl; have hcz48_1 : wc.cell? ⟨gb167, 1, none⟩ = some (.int .i64 0) := (blk_cell BK167.out 1).trans rfl; have hcz48_2 : wc.cell? ⟨gb167, 2, none⟩ = some (.int .u64 0) := (blk_cell BK167.out 2).trans rfl; have hcz48_3 : wc.cell? ⟨gb167, 3, none⟩ = some (.slice none 0 0) := (blk_cell BK167.out 3).trans rfl; have hfz48_0 := blk_frozen BK167.out 0; have hfz48_1 := blk_frozen BK167.out 1; have hfz48_2 := blk_frozen BK167.out 2; have hfz48_3 := blk_frozen BK167.out 3))
                                    refine bodyPost_ret (results_ctt rfl _ _ gb167 25 #[.int .i64 (wrap64 (IntKind.u64.wrap (Int.tdiv t168 8))), .int .i64 (wrap64 (Int.tmod t168 8)), .int .u64 t187, .slice none 0 0] (0, 0) _ rfl (by (with_reducible repeat (first | refine blk_drewN ?_ _ | refine blk_drew ?_ | refine blk_alloc ?_ _)); refine blk_put (cs := #[.int .i64 (wrap64 (IntKind.u64.wrap (Int.tdiv t168 8))), .int .i64 (wrap64 (Int.tmod t168 8)), .int .u64 t187, .slice none 0 0]) ?_ 3 _ rfl; (with_reducible repeat (first | refine blk_drewN ?_ _ | refine blk_drew ?_ | refine blk_alloc ?_ _)); refine blk_put (cs := #[.int .i64 (wrap64 (IntKind.u64.wrap (Int.tdiv t168 8))), .int .i64 (wrap64 (Int.tmod t168 8)), .int .u64 0, .slice none 0 0]) ?_ 2 _ rfl; (with_reducible repeat (first | refine blk_drewN ?_ _ | refine blk_drew ?_ | refine blk_alloc ?_ _)); refine blk_put (cs := #[.int .i64 (wrap64 (IntKind.u64.wrap (Int.tdiv t168 8))), .int .i64 0, .int .u64 0, .slice none 0 0]) ?_ 1 _ rfl; (with_reducible repeat (first | refine blk_drewN ?_ _ | refine blk_drew ?_ | refine blk_alloc ?_ _)); refine blk_put (cs := #[.int .i64 0, .int .i64 0, .int .u64 0, .slice none 0 0]) ?_ 0 _ rfl; (with_reducible repeat (first | refine blk_drewN ?_ _ | refine blk_drew ?_ | refine blk_alloc ?_ _)); refine blk_far ?_ NB167_172.out _; (with_reducible repeat (first | refine blk_drewN ?_ _ | refine blk_drew ?_ | refine blk_alloc ?_ _)); exact BK167.out) Try.underlying25 rfl (by kernel_rfl)) rfl ?_
                                    exact ⟨_, by first | rfl | (simp [errW_none, errW_some] <;> rfl) | (simp [*, errW_none, errW_some] <;> rfl), by first | exact Kd.R_nil _ _ _ _ _ | exact Kd.N_nil _ _ _ _ _ | exact Kd.V_nil _ _ _ _ _ | exact Kd.Q_nil _ _ _ _ _ | exact Kd.S_nil _ _ _ _ _, by repeat (first | (with_reducible first | exact HB.out | apply below_alloc | apply pw_below_drewN | apply below_drew1 | refine below_set ?_ GE167.out | refine below_set ?_ GE172.out) | exact HB.out)⟩
                              · as_aux_lemma =>
                                  rw [if_neg c45] at H
                                  have c45b0 : ((wrap64 (Int.tmod t168 8)) == 0) = false := beq_eq_false_iff_ne.mpr c45
                                  have c45b1 : ((wrap64 (Int.tmod t168 8)) != 0) = true := bne_iff_ne.mpr c45
                                  by_cases c49 : t187 > (IntKind.u64.wrap (wrap64 ((y173.length : Int) - t188)))
                                  · as_aux_lemma =>
                                      rw [if_pos c49] at H
                                      have c49b0 : decide ((IntKind.u64.wrap (wrap64 ((y173.length : Int) - t188))) < t187) = true := decide_eq_true c49
                                      clear c49
                                      as_aux_lemma =>
                                        simp only [Option.some.injEq, Prod.mk.injEq] at H
                                        obtain ⟨rfl, rfl, rfl, rfl, rfl, rfl⟩ := H
                                        go_wp2_with (first | ((with_reducible refine gate_callee (f := 34) rfl ?_); refine goesL_ (some 71) rfl rfl Try.func34 (by kernel_rfl) rfl #[.slice A18 y173.length c18] rfl (by (try simp only [List.map_toArray, List.map_cons, List.map_nil]); first | done | rfl | (simp only [List.length_drop, List.length_take]; rfl)) ?_; (with_reducible refine (glossaryref01_TakeVarint.calls kj12 _ _ y173 t187 t188 t189 _ ?side1 ?side2 A43.out).mono ?_); (case side1 => repeat (first | exact (Kd.C_below HR176.out HB.out) | (with_reducible refine Kd.C_alloc ?_ _) | (with_reducible refine Kd.C_drewN ?_ _) | (with_reducible refine Kd.C_drew ?_))); (case side2 => exact HC176.out); rintro e w' ⟨rfl, ⟨nd, rfl⟩⟩; refine ⟨_, rfl, ?_⟩; (try (rw [drewN_self wc]; generalize hq_ : World.drewN wc _ = wc; have n0_ : Aside0 (wc.heap[gb167]? = some (.cells #[.int .i64 0, .int .i64 0, .int .u64 0, .slice none 0 0] 25 (0, 0))) := ⟨by rw [← hq_]; exact (by (with_reducible repeat (first | refine blk_drewN ?_ _ | refine blk_drew ?_ | refine blk_alloc ?_ _)); exact BK167.out)⟩; have n1_ : Aside0 (wc.heap[gb172]? = some (.cells #[.int .i64 (wrap64 (IntKind.u64.wrap (Int.tdiv t168 8))), .int .i64 (wrap64 (Int.tmod t168 8)), .int .u64 0, .slice none 0 0] 25 (0, 0))) := ⟨by rw [← hq_]; exact (by (with_reducible repeat (first | refine blk_drewN ?_ _ | refine blk_drew ?_ | refine blk_alloc ?_ _)); exact BK172.out)⟩; have n2_ : Aside0 (Below w.heap.size w wc) := ⟨by rw [← hq_]; exact (by repeat (first | (with_reducible first | exact HB.out | apply below_alloc | apply pw_below_drewN | apply below_drew1 | refine below_set ?_ GE167.out | refine below_set ?_ GE172.out) | exact HB.out))⟩; clear BK167 BK172 HB hq_; have BK167 := n0_; have BK172 := n1_; have HB := n2_; clear n0_ n1_ n2_)); have hnb50 := NB172_167.out; have hnc50 := NB167_172.out; have hcz51_0 : wc.cell? ⟨gb172, 0, none⟩ = some (.int .i64 (wrap64 (IntKind.u64.wrap (Int.tdiv t168 8)))) := (blk_cell BK172.out 0).trans rfl; have hcz51_1 : wc.cell? ⟨gb172, 1, none⟩ = some (.int .i64 (wrap64 (Int.tmod t168 8))) := (blk_cell BK172.out 1).trans rfl; have hcz51_2 : wc.cell? ⟨gb172, 2, none⟩ = some (.int .u64 0) := (blk_cell BK172.out 2).trans rfl; have hcz51_3 : wc.cell? ⟨gb172, 3, none⟩ = some (.slice none 0 0) := (blk_cell BK172.out 3).trans rfl; have hfz51_0 := blk_frozen BK172.out 0; have hfz51_1 := blk_frozen BK172.out 1; have hfz51_2 := blk_frozen BK172.out 2; have hfz51_3 := blk_frozen BK172.out 3; have hcz52_0 : wc.cell? ⟨gb167, 0, none⟩ = some (.int .i64 0) := (blk_cell BK167.out 0).trans rfl; have hcz52_1 : wc.cell? ⟨gb167, 1, none⟩ = some (.int .i64 0) := (blk_cell BK167.out 1).trans rfl; have hcz52_2 : wc.cell? ⟨gb167, 2, none⟩ = some (.int .u64 0) := (blk_cell BK167.out 2).trans rfl; have hcz52_3 : wc.cell? ⟨gb167, 3, none⟩ = some (.slice none 0 0) := (blk_cell BK167.out 3).trans rfl; have hfz52_0 := blk_frozen BK167.out 0; have hfz52_1 := blk_frozen BK167.out 1; have hfz52_2 := blk_frozen BK167.out 2; have hfz52_3 := blk_frozen BK167.out 3))
                                        refine bodyPost_ret (results_ctt rfl _ _ gb167 25 #[.int .i64 0, .int .i64 0, .int .u64 0, .slice none 0 0] (0, 0) _ rfl (by (with_reducible repeat (first | refine blk_drewN ?_ _ | refine blk_drew ?_ | refine blk_alloc ?_ _)); refine blk_put (cs := #[.int .i64 0, .int .i64 0, .int .u64 0, .slice none 0 0]) ?_ 3 _ rfl; (with_reducible repeat (first | refine blk_drewN ?_ _ | refine blk_drew ?_ | refine blk_alloc ?_ _)); refine blk_put (cs := #[.int .i64 0, .int .i64 0, .int .u64 0, .slice none 0 0]) ?_ 2 _ rfl; (with_reducible repeat (first | refine blk_drewN ?_ _ | refine blk_drew ?_ | refine blk_alloc ?_ _)); refine blk_put (cs := #[.int .i64 0, .int .i64 0, .int .u64 0, .slice none 0 0]) ?_ 1 _ rfl; (with_reducible repeat (first | refine blk_drewN ?_ _ | refine blk_drew ?_ | refine blk_alloc ?_ _)); refine blk_put (cs := #[.int .i64 0, .int .i64 0, .int .u64 0, .slice none 0 0]) ?_ 0 _ rfl; (with_reducible repeat (first | refine blk_drewN ?_ _ | refine blk_drew ?_ | refine blk_alloc ?_ _)); exact BK167.out) Try.underlying25 rfl (by kernel_rfl)) rfl ?_
                                        exact ⟨_, by first | rfl | (simp [errW_none, errW_some] <;> rfl) | (simp [*, errW_none, errW_some] <;> rfl), by first | exact Kd.R_nil _ _ _ _ _ | exact Kd.N_nil _ _ _ _ _ | exact Kd.V_nil _ _ _ _ _ | exact Kd.Q_nil _ _ _ _ _ | exact Kd.S_nil _ _ _ _ _, by repeat (first | (with_reducible first | exact HB.out | apply below_alloc | apply pw_below_drewN | apply below_drew1 | refine below_set ?_ GE167.out | refine below_set ?_ GE172.out) | exact HB.out)⟩
                                  · as_aux_lemma =>
                                      rw [if_neg c49] at H
                                      have c49b0 : decide ((IntKind.u64.wrap (wrap64 ((y173.length : Int) - t188))) < t187) = false := decide_eq_false c49
                                      clear c49
                                      by_cases c53 : 0 ≤ t188
                                      · as_aux_lemma =>
                                          rw [if_pos c53] at H
                                          have c53b0 := eq_true c53
                                          have c53b1 : decide (0 ≤ t188) = true := decide_eq_true c53
                                          clear c53
                                          by_cases c54 : t188 ≤ (wrap64 (t188 + (wrap64 (t187))))
                                          · as_aux_lemma =>
                                              rw [if_pos c54] at H
                                              have c54b0 := eq_true c54
                                              have c54b1 : decide (t188 ≤ (wrap64 (t188 + (wrap64 (t187))))) = true := decide_eq_true c54
                                              by_cases c55 : (wrap64 (t188 + (wrap64 (t187)))) ≤ (y173.length : Int)
                                              · as_aux_lemma =>
                                                  rw [if_pos c55] at H
                                                  have c55b0 := eq_true c55
                                                  have c55b1 : decide ((wrap64 (t188 + (wrap64 (t187)))) ≤ (y173.length : Int)) = true := decide_eq_true c55
                                                  obtain ⟨y190, hy190⟩ : ∃ y_ : List Int, y_ = ((y173.take ((wrap64 (t188 + (wrap64 (t187)))) : Int).toNat).drop (t188 : Int).toNat) := ⟨_, rfl⟩
                                                  replace H : (if ([] : List Int).length + y190.length < 140737488355328 then (some ((wrap64 (IntKind.u64.wrap (Int.tdiv t168 8))), (wrap64 (Int.tmod t168 8)), 0, (([] : List Int) ++ y190), wrap64 ((wrap64 (t169 + t188)) + (wrap64 (t187))), 0)) else (none)) = some (r1, r2, r3, r4, r5, r6) := by first | (rw [hy190]; with_reducible exact H) | (have H2_ := (Option.bind_some _ _).symm.trans H; rw [hy190]; with_reducible exact H2_) | (have H2_ := (Option.bind_some _ _).symm.trans H; with_reducible exact H2_) | with_reducible exact H | (rw [hy190]; exact H) | exact H
                                                  have Ny190 := Aside0.mk hy190
                                                  clear hy190
                                                  by_cases c56 : ([] : List Int).length + y190.length < 140737488355328
                                                  · as_aux_lemma =>
                                                      rw [if_pos c56] at H
                                                      have LMc56 := Aside0.mk c56
                                                      clear c56
                                                      obtain ⟨y194, hy194⟩ : ∃ y_ : List Int, y_ = (([] : List Int) ++ y190) := ⟨_, rfl⟩
                                                      replace H : (some ((wrap64 (IntKind.u64.wrap (Int.tdiv t168 8))), (wrap64 (Int.tmod t168 8)), 0, y194, wrap64 ((wrap64 (t169 + t188)) + (wrap64 (t187))), 0)) = some (r1, r2, r3, r4, r5, r6) := by first | (rw [hy194]; with_reducible exact H) | (have H2_ := (Option.bind_some _ _).symm.trans H; rw [hy194]; with_reducible exact H2_) | (have H2_ := (Option.bind_some _ _).symm.trans H; with_reducible exact H2_) | with_reducible exact H | (rw [hy194]; exact H) | exact H
                                                      have Ny194 := Aside0.mk hy194
                                                      clear hy194
                                                      as_aux_lemma =>
                                                        simp only [Option.some.injEq, Prod.mk.injEq] at H
                                                        obtain ⟨rfl, rfl, rfl, rfl, rfl, rfl⟩ := H
                                                        go_wp2_with (first | ((with_reducible refine gate_callee (f := 34) rfl ?_); refine goesL_ (some 71) rfl rfl Try.func34 (by kernel_rfl) rfl #[.slice A18 y173.length c18] rfl (by (try simp only [List.map_toArray, List.map_cons, List.map_nil]); first | done | rfl | (simp only [List.length_drop, List.length_take]; rfl)) ?_; (with_reducible refine (glossaryref01_TakeVarint.calls kj12 _ _ y173 t187 t188 t189 _ ?side1 ?side2 A43.out).mono ?_); (case side1 => repeat (first | exact (Kd.C_below HR176.out HB.out) | (with_reducible refine Kd.C_alloc ?_ _) | (with_reducible refine Kd.C_drewN ?_ _) | (with_reducible refine Kd.C_drew ?_))); (case side2 => exact HC176.out); rintro e w' ⟨rfl, ⟨nd, rfl⟩⟩; refine ⟨_, rfl, ?_⟩; (try (rw [drewN_self wc]; generalize hq_ : World.drewN wc _ = wc; have n0_ : Aside0 (wc.heap[gb167]? = some (.cells #[.int .i64 0, .int .i64 0, .int .u64 0, .slice none 0 0] 25 (0, 0))) := ⟨by rw [← hq_]; exact (by (with_reducible repeat (first | refine blk_drewN ?_ _ | refine blk_drew ?_ | refine blk_alloc ?_ _)); exact BK167.out)⟩; have n1_ : Aside0 (wc.heap[gb172]? = some (.cells #[.int .i64 (wrap64 (IntKind.u64.wrap (Int.tdiv t168 8))), .int .i64 (wrap64 (Int.tmod t168 8)), .int .u64 0, .slice none 0 0] 25 (0, 0))) := ⟨by rw [← hq_]; exact (by (with_reducible repeat (first | refine blk_drewN ?_ _ | refine blk_drew ?_ | refine blk_alloc ?_ _)); exact BK172.out)⟩; have n2_ : Aside0 (Below w.heap.size w wc) := ⟨by rw [← hq_]; exact (by repeat (first | (with_reducible first | exact HB.out | apply below_alloc | apply pw_below_drewN | apply below_drew1 | refine below_set ?_ GE167.out | refine below_set ?_ GE172.out) | exact HB.out))⟩; clear BK167 BK172 HB hq_; have BK167 := n0_; have BK172 := n1_; have HB := n2_; clear n0_ n1_ n2_)); have hczR11_gb167_0 : wc.cell? ⟨gb167, 0, none⟩ = some (.int .i64 0) := (blk_cell BK167.out 0).trans rfl; have hfzR11_gb167_0 := blk_frozen BK167.out 0; have hczR11_gb167_1 : wc.cell? ⟨gb167, 1, none⟩ = some (.int .i64 0) := (blk_cell BK167.out 1).trans rfl; have hfzR11_gb167_1 := blk_frozen BK167.out 1; have hczR11_gb167_2 : wc.cell? ⟨gb167, 2, none⟩ = some (.int .u64 0) := (blk_cell BK167.out 2).trans rfl; have hfzR11_gb167_2 := blk_frozen BK167.out 2; have hczR11_gb167_3 : wc.cell? ⟨gb167, 3, none⟩ = some (.slice none 0 0) := (blk_cell BK167.out 3).trans rfl; have hfzR11_gb167_3 := blk_frozen BK167.out 3; have hnb57 := NB172_167.out; have hnc57 := NB167_172.out; have hcz58_0 : wc.cell? ⟨gb172, 0, none⟩ = some (.int .i64 (wrap64 (IntKind.u64.wrap (Int.tdiv t168 8)))) := (blk_cell BK172.out 0).trans rfl; have hcz58_1 : wc.cell? ⟨gb172, 1, none⟩ = some (.int .i64 (wrap64 (Int.tmod t168 8))) := (blk_cell BK172.out 1).trans rfl; have hcz58_2 : wc.cell? ⟨gb172, 2, none⟩ = some (.int .u64 0) := (blk_cell BK172.out 2).trans rfl; have hcz58_3 : wc.cell? ⟨gb172, 3, none⟩ = some (.slice none 0 0) := (blk_cell BK172.out 3).trans rfl; have hfz58_0 := blk_frozen BK172.out 0; have hfz58_1 := blk_frozen BK172.out 1; have hfz58_2 := blk_frozen BK172.out 2; have hfz58_3 := blk_frozen BK172.out 3; have q59 : ((wrap64 (t188 + (wrap64 (t187)))) : Int) ≤ ((y173.length : Int) : Int) := of_decide_eq_true (by first | (with_reducible assumption) | assumption); obtain ⟨i059, hi059, _, hsz59, _⟩ := info_parts info5; have hroom59 : y173.length ≤ c18 := HC176.out; have hC59 : Kd.C (Kd.int .u8) _ A18 y173.length y173 := HR176.out; have ql59 : (t188 : Int) ≤ ((wrap64 (t188 + (wrap64 (t187)))) : Int) := of_decide_eq_true (by first | (with_reducible assumption) | assumption); have q059 : (0 : Int) ≤ (t188 : Int) := of_decide_eq_true (by first | (with_reducible assumption) | assumption); have hcut59 := cut_mid (P := Try.prog) 23 5 .i64 .i64 Try.underlying23 hi059 1 hsz59 A18 y173.length c18 t188 (wrap64 (t188 + (wrap64 (t187)))) q059 ql59 q59 hroom59; have hr59 := Kd.C_mid (lo := (t188 : Int).toNat) (hi := ((wrap64 (t188 + (wrap64 (t187)))) : Int).toNat) (c := c18) hC59 (by omega) (by omega) hroom59; obtain ⟨A59, hA59⟩ : ∃ A1, A1 = (if c18 = (t188 : Int).toNat then A18 else (A18 : Option Addr).map (·.add ((t188 : Int).toNat * 1))) := ⟨_, rfl⟩; obtain ⟨c59, hc59⟩ : ∃ c1, c1 = c18 - (t188 : Int).toNat := ⟨_, rfl⟩; have hy59 : y190.length = ((wrap64 (t188 + (wrap64 (t187)))) : Int).toNat - (t188 : Int).toNat := (by rw [Ny190.out, List.length_drop, List.length_take] <;> omega); rw [show ((y173).take ((wrap64 (t188 + (wrap64 (t187)))) : Int).toNat).drop (t188 : Int).toNat = y190 from Ny190.out.symm] at hr59; replace hr59 : Kd.C (Kd.int .u8) _ A59 y190.length y190 := (by rw [hA59]; exact hr59); rw [← hy59, ← hA59, ← hc59] at hcut59; have HR193 := Aside0.mk hr59; have HC193 := Aside0.mk (show y190.length ≤ c59 from by rw [hy59, hc59]; exact Nat.sub_le_sub_right (Nat.le_trans (by omega) hroom59) _); clear hr59 hC59 hroom59 hi059 hsz59 hc59; have KY59 := Aside0.mk hy59; have KA59 := Aside0.mk hA59; clear hy59 hA59; replace q59 := eq_true q59) | ((with_reducible refine gate_builtin (b := .append) (xs := #[.const (.slice none 0 0), .tmp 102]) rfl ?_); at_builtin; refine Kd.R_append_rows (Kd.int .u8) (w0 := w) w.heap.size rfl (.const (.slice none 0 0)) (.tmp 102) 23 5 (.int .u8 0) 1 rfl Try.underlying23 info5 rfl (by decide) (by omega) (.slice none 0 0) ([] : List Int) y190 _ _ _ (fun _ => True) (fun _ => False) rfl rfl ?aO ?aR (fun _ _ h => h) (fun _ h => h.elim) ?aF ?aB ?aS ?aL ?_; (case aR => repeat (first | exact (Kd.C_below HR193.out HB.out) | (with_reducible refine Kd.C_alloc ?_ _) | (with_reducible refine Kd.C_drewN ?_ _) | (with_reducible refine Kd.C_drew ?_))); (case aB => exact (by repeat (first | (with_reducible first | exact HB.out | apply below_alloc | apply pw_below_drewN | apply below_drew1 | refine below_set ?_ GE167.out | refine below_set ?_ GE172.out) | exact HB.out))); (case aF => exact (fun _ _ => trivial)); (case aO => exact ((Kd.R_nil _ _ _ _ (fun _ => True)))); (case aS => exact (below_size (by repeat (first | (with_reducible first | exact HB.out | apply below_alloc | apply pw_below_drewN | apply below_drew1 | refine below_set ?_ GE167.out | refine below_set ?_ GE172.out) | exact HB.out)))); (case aL => have := LMc56.out; omega); intro v195 w60 ho hb hg hat; rw [← Ny194.out] at ho; have n0_ := Aside0.mk (blk_grown (g := gb167) (o := .cells #[.int .i64 0, .int .i64 0, .int .u64 0, .slice none 0 0] 25 (0, 0)) (by (with_reducible repeat (first | refine blk_drewN ?_ _ | refine blk_drew ?_ | refine blk_alloc ?_ _)); exact BK167.out) hg (by simp [Value.ownBlock])); have n1_ := Aside0.mk (blk_grown (g := gb172) (o := .cells #[.int .i64 (wrap64 (IntKind.u64.wrap (Int.tdiv t168 8))), .int .i64 (wrap64 (Int.tmod t168 8)), .int .u64 0, .slice none 0 0] 25 (0, 0)) (by (with_reducible repeat (first | refine blk_drewN ?_ _ | refine blk_drew ?_ | refine blk_alloc ?_ _)); exact BK172.out) hg (by simp [Value.ownBlock])); have n2_ := Aside0.mk (hb); have n3_ := Aside0.mk (ho); clear BK167; clear BK172; clear HB; have BK167 := n0_; have BK172 := n1_; have HB := n2_; have HO196 := n3_; clear n0_ n1_ n2_ n3_; clear ho hb hg hat; obtain ⟨Ao61, co61, eo61⟩ := Kd.R_slice HO196.out; subst eo61; have hcz62_0 : w60.cell? ⟨gb172, 0, none⟩ = some (.int .i64 (wrap64 (IntKind.u64.wrap (Int.tdiv t168 8)))) := (blk_cell BK172.out 0).trans rfl; have hcz62_1 : w60.cell? ⟨gb172, 1, none⟩ = some (.int .i64 (wrap64 (Int.tmod t168 8))) := (blk_cell BK172.out 1).trans rfl; have hcz62_2 : w60.cell? ⟨gb172, 2, none⟩ = some (.int .u64 0) := (blk_cell BK172.out 2).trans rfl; have hcz62_3 : w60.cell? ⟨gb172, 3, none⟩ = some (.slice none 0 0) := (blk_cell BK172.out 3).trans rfl; have hfz62_0 := blk_frozen BK172.out 0; have hfz62_1 := blk_frozen BK172.out 1; have hfz62_2 := blk_frozen BK172.out 2; have hfz62_3 := blk_frozen BK172.out 3; have hcz63_0 : w60.cell? ⟨gb167, 0, none⟩ = some (.int .i64 0) := (blk_cell BK167.out 0).trans rfl; have hcz63_1 : w60.cell? ⟨gb167, 1, none⟩ = some (.int .i64 0) := (blk_cell BK167.out 1).trans rfl; have hcz63_2 : w60.cell? ⟨gb167, 2, none⟩ = some (.int .u64 0) := (blk_cell BK167.out 2).trans rfl; have hcz63_3 : w60.cell? ⟨gb167, 3, none⟩ = some (.slice none 0 0) := (blk_cell BK167.out 3).trans rfl; have hfz63_0 := blk_frozen BK167.out 0; have hfz63_1 := blk_frozen BK167.out 1; have hfz63_2 := blk_frozen BK167.out 2; have hfz63_3 := blk_frozen BK167.out 3))
                                                        refine bodyPost_ret (results_ctt rfl _ _ gb167 25 #[.int .i64 (wrap64 (IntKind.u64.wrap (Int.tdiv t168 8))), .int .i64 (wrap64 (Int.tmod t168 8)), .int .u64 0, .slice Ao61 y194.length co61] (0, 0) _ rfl (by (with_reducible repeat (first | refine blk_drewN ?_ _ | refine blk_drew ?_ | refine blk_alloc ?_ _)); refine blk_put (cs := #[.int .i64 (wrap64 (IntKind.u64.wrap (Int.tdiv t168 8))), .int .i64 (wrap64 (Int.tmod t168 8)), .int .u64 0, .slice none 0 0]) ?_ 3 _ rfl; (with_reducible repeat (first | refine blk_drewN ?_ _ | refine blk_drew ?_ | refine blk_alloc ?_ _)); refine blk_put (cs := #[.int .i64 (wrap64 (IntKind.u64.wrap (Int.tdiv t168 8))), .int .i64 (wrap64 (Int.tmod t168 8)), .int .u64 0, .slice none 0 0]) ?_ 2 _ rfl; (with_reducible repeat (first | refine blk_drewN ?_ _ | refine blk_drew ?_ | refine blk_alloc ?_ _)); refine blk_put (cs := #[.int .i64 (wrap64 (IntKind.u64.wrap (Int.tdiv t168 8))), .int .i64 0, .int .u64 0, .slice none 0 0]) ?_ 1 _ rfl; (with_reducible repeat (first | refine blk_drewN ?_ _ | refine blk_drew ?_ | refine blk_alloc ?_ _)); refine blk_put (cs := #[.int .i64 0, .int .i64 0, .int .u64 0, .slice none 0 0]) ?_ 0 _ rfl; (with_reducible repeat (first | refine blk_drewN ?_ _ | refine blk_drew ?_ | refine blk_alloc ?_ _)); refine blk_far ?_ NB167_172.out _; (with_reducible repeat (first | refine blk_drewN ?_ _ | refine blk_drew ?_ | refine blk_alloc ?_ _)); exact BK167.out) Try.underlying25 rfl (by kernel_rfl)) rfl ?_
                                                        exact ⟨_, by first | rfl | (simp [errW_none, errW_some] <;> rfl) | (simp [*, errW_none, errW_some] <;> rfl), by (with_reducible repeat (first | apply Kd.R_alloc | apply Kd.R_drewN | apply Kd.R_drew)); exact Kd.R_mono (Kd.R_far (p := ⟨gb167, 3, none⟩) (Kd.R_far (p := ⟨gb167, 2, none⟩) (Kd.R_far (p := ⟨gb167, 1, none⟩) (Kd.R_far (p := ⟨gb167, 0, none⟩) (Kd.R_far (p := ⟨gb172, 3, none⟩) (Kd.R_types (Kd.R_types HO196.out BK172.out (by decide)) BK167.out (by decide)) (fun _ hk => hk.1.2) (.slice Ao61 y194.length co61)) (fun _ hk => hk.2) (.int .i64 (wrap64 (IntKind.u64.wrap (Int.tdiv t168 8))))) (fun _ hk => hk.2) (.int .i64 (wrap64 (Int.tmod t168 8)))) (fun _ hk => hk.2) (.int .u64 0)) (fun _ hk => hk.2) (.slice Ao61 y194.length co61)) (fun _ hk => trivial), by repeat (first | (with_reducible first | exact HB.out | apply below_alloc | apply pw_below_drewN | apply below_drew1 | refine below_set ?_ GE167.out | refine below_set ?_ GE172.out) | exact HB.out)⟩
                                                  · rw [if_neg c56] at H
                                                    exact absurd H (by simp)
                                              · rw [if_neg c55] at H
                                                exact absurd H (by simp)
                                          · rw [if_neg c54] at H
                                            exact absurd H (by simp)
                                      · rw [if_neg c53] at H
                                        exact absurd H (by simp)
                          · as_aux_lemma =>
                              rw [if_neg c44] at H
                              have c44b0 : (t189 == 0) = false := beq_eq_false_iff_ne.mpr c44
                              have c44b1 : (t189 != 0) = true := bne_iff_ne.mpr c44
                              as_aux_lemma =>
                                simp only [Option.some.injEq, Prod.mk.injEq] at H
                                obtain ⟨rfl, rfl, rfl, rfl, rfl, rfl⟩ := H
                                go_wp2_with (first | ((with_reducible refine gate_callee (f := 34) rfl ?_); refine goesL_ (some 71) rfl rfl Try.func34 (by kernel_rfl) rfl #[.slice A18 y173.length c18] rfl (by (try simp only [List.map_toArray, List.map_cons, List.map_nil]); first | done | rfl | (simp only [List.length_drop, List.length_take]; rfl)) ?_; (with_reducible refine (glossaryref01_TakeVarint.calls kj12 _ _ y173 t187 t188 t189 _ ?side1 ?side2 A43.out).mono ?_); (case side1 => repeat (first | exact (Kd.C_below HR176.out HB.out) | (with_reducible refine Kd.C_alloc ?_ _) | (with_reducible refine Kd.C_drewN ?_ _) | (with_reducible refine Kd.C_drew ?_))); (case side2 => exact HC176.out); rintro e w' ⟨rfl, ⟨nd, rfl⟩⟩; refine ⟨_, rfl, ?_⟩; (try (rw [drewN_self wc]; generalize hq_ : World.drewN wc _ = wc; have n0_ : Aside0 (wc.heap[gb167]? = some (.cells #[.int .i64 0, .int .i64 0, .int .u64 0, .slice none 0 0] 25 (0, 0))) := ⟨by rw [← hq_]; exact (by (with_reducible repeat (first | refine blk_drewN ?_ _ | refine blk_drew ?_ | refine blk_alloc ?_ _)); exact BK167.out)⟩; have n1_ : Aside0 (wc.heap[gb172]? = some (.cells #[.int .i64 (wrap64 (IntKind.u64.wrap (Int.tdiv t168 8))), .int .i64 (wrap64 (Int.tmod t168 8)), .int .u64 0, .slice none 0 0] 25 (0, 0))) := ⟨by rw [← hq_]; exact (by (with_reducible repeat (first | refine blk_drewN ?_ _ | refine blk_drew ?_ | refine blk_alloc ?_ _)); exact BK172.out)⟩; have n2_ : Aside0 (Below w.heap.size w wc) := ⟨by rw [← hq_]; exact (by repeat (first | (with_reducible first | exact HB.out | apply below_alloc | apply pw_below_drewN | apply below_drew1 | refine below_set ?_ GE167.out | refine below_set ?_ GE172.out) | exact HB.out))⟩; clear BK167 BK172 HB hq_; have BK167 := n0_; have BK172 := n1_; have HB := n2_; clear n0_ n1_ n2_)); have hczR12_gb172_0 : wc.cell? ⟨gb172, 0, none⟩ = some (.int .i64 (wrap64 (IntKind.u64.wrap (Int.tdiv t168 8)))) := (blk_cell BK172.out 0).trans rfl; have hfzR12_gb172_0 := blk_frozen BK172.out 0; have hczR12_gb172_1 : wc.cell? ⟨gb172, 1, none⟩ = some (.int .i64 (wrap64 (Int.tmod t168 8))) := (blk_cell BK172.out 1).trans rfl; have hfzR12_gb172_1 := blk_frozen BK172.out 1; have hczR12_gb172_2 : wc.cell? ⟨gb172, 2, none⟩ = some (.int .u64 0) := (blk_cell BK172.out 2).trans rfl; have hfzR12_gb172_2 := blk_frozen BK172.out 2; have hczR12_gb172_3 : wc.cell? ⟨gb172, 3, none⟩ = some (.slice none 0 0) := (blk_cell BK172.out 3).trans rfl; have hfzR12_gb172_3 := blk_frozen BK172.out 3; have hnb64 := NB167_172.out; have hnc64 := NB172_167.out; have hcz65_0 : wc.cell? ⟨gb167, 0, none⟩ = some (.int .i64 0) := (blk_cell BK167.out 0).trans rfl; have hcz65_1 : wc.cell? ⟨gb167, 1, none⟩ = some (.int .i64 0) := (blk_cell BK167.out 1).trans rfl; have hcz65_2 : wc.cell? ⟨gb167, 2, none⟩ = some (.int .u64 0) := (blk_cell BK167.out 2).trans rfl; have hcz65_3 : wc.cell? ⟨gb167, 3, none⟩ = some (.slice none 0 0) := (blk_cell BK167.out 3).trans rfl; have hfz65_0 := blk_frozen BK167.out 0; have hfz65_1 := blk_frozen BK167.out 1; have hfz65_2 := blk_frozen BK167.out 2; have hfz65_3 := blk_frozen BK167.out 3))
                                refine bodyPost_ret (results_ctt rfl _ _ gb167 25 #[.int .i64 0, .int .i64 0, .int .u64 0, .slice none 0 0] (0, 0) _ rfl (by (with_reducible repeat (first | refine blk_drewN ?_ _ | refine blk_drew ?_ | refine blk_alloc ?_ _)); refine blk_put (cs := #[.int .i64 0, .int .i64 0, .int .u64 0, .slice none 0 0]) ?_ 3 _ rfl; (with_reducible repeat (first | refine blk_drewN ?_ _ | refine blk_drew ?_ | refine blk_alloc ?_ _)); refine blk_put (cs := #[.int .i64 0, .int .i64 0, .int .u64 0, .slice none 0 0]) ?_ 2 _ rfl; (with_reducible repeat (first | refine blk_drewN ?_ _ | refine blk_drew ?_ | refine blk_alloc ?_ _)); refine blk_put (cs := #[.int .i64 0, .int .i64 0, .int .u64 0, .slice none 0 0]) ?_ 1 _ rfl; (with_reducible repeat (first | refine blk_drewN ?_ _ | refine blk_drew ?_ | refine blk_alloc ?_ _)); refine blk_put (cs := #[.int .i64 0, .int .i64 0, .int .u64 0, .slice none 0 0]) ?_ 0 _ rfl; (with_reducible repeat (first | refine blk_drewN ?_ _ | refine blk_drew ?_ | refine blk_alloc ?_ _)); exact BK167.out) Try.underlying25 rfl (by kernel_rfl)) rfl ?_
                                exact ⟨_, by first | rfl | (simp [errW_none, errW_some] <;> rfl) | (simp [*, errW_none, errW_some] <;> rfl), by first | exact Kd.R_nil _ _ _ _ _ | exact Kd.N_nil _ _ _ _ _ | exact Kd.V_nil _ _ _ _ _ | exact Kd.Q_nil _ _ _ _ _ | exact Kd.S_nil _ _ _ _ _, by repeat (first | (with_reducible first | exact HB.out | apply below_alloc | apply pw_below_drewN | apply below_drew1 | refine below_set ?_ GE167.out | refine below_set ?_ GE172.out) | exact HB.out)⟩
                · rw [if_neg c12] at H
                  exact absurd H (by simp)
            · rw [if_neg c11] at H
              exact absurd H (by simp)
  · as_aux_lemma =>
      rw [if_neg c3] at H
      have c3b0 : (t170 == 0) = false := beq_eq_false_iff_ne.mpr c3
      have c3b1 : (t170 != 0) = true := bne_iff_ne.mpr c3
      as_aux_lemma =>
        simp only [Option.some.injEq, Prod.mk.injEq] at H
        obtain ⟨rfl, rfl, rfl, rfl, rfl, rfl⟩ := H
        go_enter Try.func19, Try.ntmps19
        go_wp2_with (first | ((with_reducible refine gate_dst (N := 2) rfl ?_); refine box_event ?hg (N := 2) ?hd (cs := #[.int .i64 0, .int .i64 0, .int .u64 0, .slice none 0 0]) (t := 25) ?hr ?_; (case hd => rfl); (case hg => rfl); (case hr => first | (go_simp; done) | (go_simp; rfl)); intro gb167 hg w66 hbox hb; have n0_ := Aside0.mk (below_step (by repeat (first | (with_reducible first | exact HB.out | apply below_alloc | apply pw_below_drewN | apply below_drew1) | exact HB.out)) hb); have n1_ := Aside0.mk (hbox); have n2_ := Aside0.mk ((by rw [hg]; exact (below_size (by repeat (first | (with_reducible first | exact HB.out | apply below_alloc | apply pw_below_drewN | apply below_drew1) | exact HB.out))) : w.heap.size ≤ gb167)); have n3_ := Aside0.mk ((by rw [hg]; exact (below_size (by repeat (first | (with_reducible first | exact HB.out | apply below_alloc | apply pw_below_drewN | apply below_drew1) | exact HB.out))) : w.heap.size ≤ gb167)); clear HB; have HB := n0_; have BK167 := n1_; have GW167 := n2_; have GE167 := n3_; clear n0_ n1_ n2_ n3_; clear hb hbox hg) | ((with_reducible refine gate_callee (f := 34) rfl ?_); refine goesL_ (some 15) rfl rfl Try.func34 (by kernel_rfl) rfl #[.slice A0 l0.length c0] rfl (by (try simp only [List.map_toArray, List.map_cons, List.map_nil]); first | done | rfl | (simp only [List.length_drop, List.length_take]; rfl)) ?_; (with_reducible refine (glossaryref01_TakeVarint.calls k _ _ l0 t168 t169 t170 _ ?side1 ?side2 A2.out).mono ?_); (case side1 => repeat (first | exact (Kd.C_below HR0.out HB.out) | (with_reducible refine Kd.C_alloc ?_ _) | (with_reducible refine Kd.C_drewN ?_ _) | (with_reducible refine Kd.C_drew ?_))); (case side2 => exact HC0.out); rintro e w' ⟨rfl, ⟨nd, rfl⟩⟩; refine ⟨_, rfl, ?_⟩; (try (rw [drewN_self w66]; generalize hq_ : World.drewN w66 _ = w66; have n0_ : Aside0 (w66.heap[gb167]? = some (.cells #[.int .i64 0, .int .i64 0, .int .u64 0, .slice none 0 0] 25 (0, 0))) := ⟨by rw [← hq_]; exact (by (with_reducible repeat (first | refine blk_drewN ?_ _ | refine blk_drew ?_ | refine blk_alloc ?_ _)); exact BK167.out)⟩; have n1_ : Aside0 (Below w.heap.size w w66) := ⟨by rw [← hq_]; exact (by repeat (first | (with_reducible first | exact HB.out | apply below_alloc | apply pw_below_drewN | apply below_drew1 | refine below_set ?_ GE167.out) | exact HB.out))⟩; clear BK167 HB hq_; have BK167 := n0_; have HB := n1_; clear n0_ n1_)); have hcz67_0 : w66.cell? ⟨gb167, 0, none⟩ = some (.int .i64 0) := (blk_cell BK167.out 0).trans rfl; have hcz67_1 : w66.cell? ⟨gb167, 1, none⟩ = some (.int .i64 0) := (blk_cell BK167.out 1).trans rfl; have hcz67_2 : w66.cell? ⟨gb167, 2, none⟩ = some (.int .u64 0) := (blk_cell BK167.out 2).trans rfl; have hcz67_3 : w66.cell? ⟨gb167, 3, none⟩ = some (.slice none 0 0) := (blk_cell BK167.out 3).trans rfl; have hfz67_0 := blk_frozen BK167.out 0; have hfz67_1 := blk_frozen BK167.out 1; have hfz67_2 := blk_frozen BK167.out 2; have hfz67_3 := blk_frozen BK167.out 3))
        refine bodyPost_ret (results_ctt rfl _ _ gb167 25 #[.int .i64 0, .int .i64 0, .int .u64 0, .slice none 0 0] (0, 0) _ rfl (by (with_reducible repeat (first | refine blk_drewN ?_ _ | refine blk_drew ?_ | refine blk_alloc ?_ _)); refine blk_put (cs := #[.int .i64 0, .int .i64 0, .int .u64 0, .slice none 0 0]) ?_ 3 _ rfl; (with_reducible repeat (first | refine blk_drewN ?_ _ | refine blk_drew ?_ | refine blk_alloc ?_ _)); refine blk_put (cs := #[.int .i64 0, .int .i64 0, .int .u64 0, .slice none 0 0]) ?_ 2 _ rfl; (with_reducible repeat (first | refine blk_drewN ?_ _ | refine blk_drew ?_ | refine blk_alloc ?_ _)); refine blk_put (cs := #[.int .i64 0, .int .i64 0, .int .u64 0, .slice none 0 0]) ?_ 1 _ rfl; (with_reducible repeat (first | refine blk_drewN ?_ _ | refine blk_drew ?_ | refine blk_alloc ?_ _)); refine blk_put (cs := #[.int .i64 0, .int .i64 0, .int .u64 0, .slice none 0 0]) ?_ 0 _ rfl; (with_reducible repeat (first | refine blk_drewN ?_ _ | refine blk_drew ?_ | refine blk_alloc ?_ _)); exact BK167.out) Try.underlying25 rfl (by kernel_rfl)) rfl ?_
        exact ⟨_, by first | rfl | (simp [errW_none, errW_some] <;> rfl) | (simp [*, errW_none, errW_some] <;> rfl), by first | exact Kd.R_nil _ _ _ _ _ | exact Kd.N_nil _ _ _ _ _ | exact Kd.V_nil _ _ _ _ _ | exact Kd.Q_nil _ _ _ _ _ | exact Kd.S_nil _ _ _ _ _, by repeat (first | (with_reducible first | exact HB.out | apply below_alloc | apply pw_below_drewN | apply below_drew1 | refine below_set ?_ GE167.out) | exact HB.out)⟩

/-! ### glossaryref01_Read: function 21 -/
def glossaryref01_Read.l0 : Nat → List Int → List (S25) → Int → Option ((List (S25)) × Int × Int)
  | 0, _, _, _ => none
  | k + 1, x0, x5, x6 => if x6 < (x0.length : Int) then (if 0 ≤ x6 then (if x6 ≤ (x0.length : Int) then ((glossaryref01_Take.f k (x0.drop (x6 : Int).toNat)).bind fun bt201 => (if bt201.2.2.2.2.2 = 0 then (if x5.length < 2932031007402 then (glossaryref01_Read.l0 k x0 (x5 ++ [(⟨bt201.1, bt201.2.1, bt201.2.2.1, bt201.2.2.2.1⟩ : S25)]) (wrap64 (x6 + bt201.2.2.2.2.1))) else (none)) else (some (([] : List (S25)), x6, bt201.2.2.2.2.2)))) else (none)) else (none)) else (some (x5, 0, 0))
def glossaryref01_Read.f (k : Nat) (l0 : List Int) : Option ((List (S25)) × Int × Int) := glossaryref01_Read.l0 k l0 ([] : List (S25)) 0
theorem glossaryref01_Read.mono_l : ∀ k, (∀ y0 y1 y2, LeO (glossaryref01_Read.l0 k y0 y1 y2) (glossaryref01_Read.l0 (k + 1) y0 y1 y2))
  | 0 => fun _ _ _ r h => by simp [glossaryref01_Read.l0] at h
  | k + 1 => by
    have ih0 := glossaryref01_Read.mono_l k
    · intro y0 y1 y2
      unfold glossaryref01_Read.l0
      repeat' first
      | (with_reducible exact ih0 _ _ _)
      | (with_reducible exact glossaryref01_Take.mono _ _)
      | (with_reducible exact LeO.refl _)
      | (with_reducible exact LeO.none _)
      | (with_reducible refine LeO.ite ?_ ?_)
      | (with_reducible refine LeO.bind ?_ (fun _ => ?_))
      | exact ih0 _ _ _
      | exact glossaryref01_Take.mono _ _
      | exact LeO.none _
      | refine LeO.ite ?_ ?_
      | refine LeO.bind ?_ (fun _ => ?_)
theorem glossaryref01_Read.mono : ∀ a0 k, LeO (glossaryref01_Read.f k a0) (glossaryref01_Read.f (k + 1) a0) := by
  intro a0 k
  have ih0 := glossaryref01_Read.mono_l k
  unfold glossaryref01_Read.f
  repeat' first
      | (with_reducible exact ih0 _ _ _)
      | (with_reducible exact glossaryref01_Take.mono _ _)
      | (with_reducible exact LeO.refl _)
      | (with_reducible exact LeO.none _)
      | (with_reducible refine LeO.ite ?_ ?_)
      | (with_reducible refine LeO.bind ?_ (fun _ => ?_))
      | exact ih0 _ _ _
      | exact glossaryref01_Take.mono _ _
      | exact LeO.none _
      | refine LeO.ite ?_ ?_
      | refine LeO.bind ?_ (fun _ => ?_)
set_option maxHeartbeats 8000000 in
set_option maxRecDepth 100000 in
theorem glossaryref01_Read.calls (k : Nat) (A0 : Option Addr) (c0 : Nat) (l0 : List Int) (r1 : List (S25)) (r2 : Int) (r3 : Int) (w : World) (hr0 : Kd.C (Kd.int .u8) w A0 l0.length l0) (hc0 : l0.length ≤ c0) (h : glossaryref01_Read.f k l0 = some (r1, r2, r3)) :
    Calls Try.prog 21 #[.slice A0 l0.length c0] w fun e w' => ∃ v0_ : Value, e = .returned (.tuple #[v0_, .int .i64 r2, .int .i64 r3]) ∧ Kd.S k25 25 w' w.heap.size (fun _ => True) v0_ r1 ∧ Below w.heap.size w w' := by
  have hu25 := Try.underlying25
  have HR0 := Aside0.mk hr0
  have HC0 := Aside0.mk hc0
  clear hr0 hc0
  have HB := Aside0.mk (Below.refl w.heap.size w)
  have H : (glossaryref01_Read.l0 k l0 ([] : List (S25)) 0) = some (r1, r2, r3) := h
  clear h
  have H' := Aside0.mk H
  clear H
  go_enter Try.func21, Try.ntmps21
  go_wp2
  go_loopg [5, 6] k (fun kq v5 v6 w' => ∃ (x5_1 : List (S25)) (x6_1 : Int), v6 = .int .i64 x6_1 ∧ Aside0 (glossaryref01_Read.l0 kq l0 x5_1 x6_1 = some (r1, r2, r3)) ∧ Aside0 (kq ≤ k) ∧ Aside0 (Kd.S k25 25 w' w.heap.size (fun _ => True) v5 x5_1) ∧ Aside0 (Below w.heap.size w w'))
  case atStart => exact ⟨(([] : List (S25))), (0), (by first | rfl | (simp; done) | (simp [*]; done)), H', ⟨Nat.le_refl _⟩, ⟨by first | exact Kd.S_nil _ _ _ _ _ | exact Kd.N_nil _ _ _ _ _ | exact Kd.V_nil _ _ _ _ _ | exact Kd.Q_nil _ _ _ _ _ | exact Kd.R_nil _ _ _ _ _⟩, ⟨by repeat (first | (with_reducible first | exact HB.out | apply below_alloc | apply pw_below_drewN | apply below_drew1) | exact HB.out)⟩⟩
  case round =>
    clear H'
    obtain ⟨x5_1, x6_1, rfl, HA, HK1, HO_5, HB⟩ := hrel
    cases gk with
    | zero => exact absurd HA.out (by simp [glossaryref01_Read.l0])
    | succ k1 =>
      have H := HA.out
      clear HA
      simp only [glossaryref01_Read.l0] at H
      by_cases c2 : x6_1 < (l0.length : Int)
      · as_aux_lemma =>
          rw [if_pos c2] at H
          have c2b0 : decide (x6_1 < (l0.length : Int)) = true := decide_eq_true c2
          clear c2
          by_cases c3 : 0 ≤ x6_1
          · as_aux_lemma =>
              rw [if_pos c3] at H
              have c3b0 := eq_true c3
              have c3b1 : decide (0 ≤ x6_1) = true := decide_eq_true c3
              clear c3
              by_cases c4 : x6_1 ≤ (l0.length : Int)
              · as_aux_lemma =>
                  rw [if_pos c4] at H
                  have c4b0 := eq_true c4
                  have c4b1 : decide (x6_1 ≤ (l0.length : Int)) = true := decide_eq_true c4
                  clear c4
                  obtain ⟨y197, hy197⟩ : ∃ y_ : List Int, y_ = (l0.drop (x6_1 : Int).toNat) := ⟨_, rfl⟩
                  replace H : ((glossaryref01_Take.f k1 y197).bind fun bt201 => (if bt201.2.2.2.2.2 = 0 then (if x5_1.length < 2932031007402 then (glossaryref01_Read.l0 k1 l0 (x5_1 ++ [(⟨bt201.1, bt201.2.1, bt201.2.2.1, bt201.2.2.2.1⟩ : S25)]) (wrap64 (x6_1 + bt201.2.2.2.2.1))) else (none)) else (some (([] : List (S25)), x6_1, bt201.2.2.2.2.2)))) = some (r1, r2, r3) := by first | (rw [hy197]; with_reducible exact H) | (have H2_ := (Option.bind_some _ _).symm.trans H; rw [hy197]; with_reducible exact H2_) | (have H2_ := (Option.bind_some _ _).symm.trans H; with_reducible exact H2_) | with_reducible exact H | (rw [hy197]; exact H) | exact H
                  have Ny197 := Aside0.mk hy197
                  clear hy197
                  replace H := Option.bind_eq_some_iff.mp H
                  obtain ⟨⟨t201, t202, t203, t204, t207, t208⟩, A50, H⟩ := H
                  replace H : (if t208 = 0 then (if x5_1.length < 2932031007402 then (glossaryref01_Read.l0 k1 l0 (x5_1 ++ [(⟨t201, t202, t203, t204⟩ : S25)]) (wrap64 (x6_1 + t207))) else (none)) else (some (([] : List (S25)), x6_1, t208))) = some (r1, r2, r3) := H
                  have A5 := Aside0.mk A50
                  clear A50
                  by_cases c6 : t208 = 0
                  · as_aux_lemma =>
                      rw [if_pos c6] at H
                      have c6b0 : (t208 == 0) = true := beq_iff_eq.mpr c6
                      have c6b1 : (t208 != 0) = false := bne_eq_false_iff_eq.mpr c6
                      clear c6
                      by_cases c7 : x5_1.length < 2932031007402
                      · as_aux_lemma =>
                          rw [if_pos c7] at H
                          have LMc7 := Aside0.mk c7
                          clear c7
                          obtain ⟨y210, hy210⟩ : ∃ y_ : List (S25), y_ = (x5_1 ++ [(⟨t201, t202, t203, t204⟩ : S25)]) := ⟨_, rfl⟩
                          replace H : (glossaryref01_Read.l0 k1 l0 y210 (wrap64 (x6_1 + t207))) = some (r1, r2, r3) := by first | (rw [hy210]; with_reducible exact H) | (have H2_ := (Option.bind_some _ _).symm.trans H; rw [hy210]; with_reducible exact H2_) | (have H2_ := (Option.bind_some _ _).symm.trans H; with_reducible exact H2_) | with_reducible exact H | (rw [hy210]; exact H) | exact H
                          have Ny210 := Aside0.mk hy210
                          clear hy210
                          as_aux_lemma =>
                            have H' := Aside0.mk H
                            clear H
                            have q8 : (x6_1 : Int) ≤ ((l0.length : Int) : Int) := of_decide_eq_true (by first | (with_reducible assumption) | assumption)
                            obtain ⟨i08, hi08, _, hsz8, _⟩ := info_parts info5
                            have hroom8 : l0.length ≤ c0 := HC0.out
                            have hC8 : Kd.C (Kd.int .u8) _ A0 l0.length l0 := HR0.out
                            have q08 : (0 : Int) ≤ (x6_1 : Int) := of_decide_eq_true (by first | (with_reducible assumption) | assumption)
                            have hcut8 := cut_from (P := Try.prog) 23 5 .i64 Try.underlying23 hi08 1 hsz8 A0 l0.length c0 x6_1 q08 q8
                            have hr8 := Kd.C_drop (m := (x6_1 : Int).toNat) (c := c0) hC8 (by omega) hroom8
                            obtain ⟨A8, hA8⟩ : ∃ A1, A1 = (if c0 = (x6_1 : Int).toNat then A0 else (A0 : Option Addr).map (·.add ((x6_1 : Int).toNat * 1))) := ⟨_, rfl⟩
                            obtain ⟨c8, hc8⟩ : ∃ c1, c1 = c0 - (x6_1 : Int).toNat := ⟨_, rfl⟩
                            have hy8 : y197.length = l0.length - (x6_1 : Int).toNat := (by rw [Ny197.out, List.length_drop] <;> omega)
                            rw [show (l0).drop (x6_1 : Int).toNat = y197 from Ny197.out.symm] at hr8
                            replace hr8 : Kd.C (Kd.int .u8) _ A8 y197.length y197 := (by rw [hA8]; exact hr8)
                            rw [← hy8, ← hA8, ← hc8] at hcut8
                            have HR200 := Aside0.mk hr8
                            have HC200 := Aside0.mk (show y197.length ≤ c8 from by rw [hy8, hc8]; exact Nat.sub_le_sub_right hroom8 _)
                            clear hr8 hC8 hroom8 hi08 hsz8 hc8
                            have KY8 := Aside0.mk hy8
                            have KA8 := Aside0.mk hA8
                            clear hy8 hA8
                            replace q8 := eq_true q8
                            go_wp2_with (first | ((with_reducible refine gate_callee (f := 19) rfl ?_); refine goesL_ (some 18) rfl rfl Try.func19 (by kernel_rfl) rfl #[.slice A8 y197.length c8] rfl (by (try simp only [List.map_toArray, List.map_cons, List.map_nil]); first | done | rfl | (simp only [List.length_drop, List.length_take]; rfl)) ?_; (with_reducible refine (glossaryref01_Take.calls k1 _ _ y197 t201 t202 t203 t204 t207 t208 _ ?side1 ?side2 A5.out).mono ?_); (case side1 => repeat (first | exact (Kd.C_below HR200.out HB.out) | (with_reducible refine Kd.C_alloc ?_ _) | (with_reducible refine Kd.C_drewN ?_ _) | (with_reducible refine Kd.C_drew ?_))); (case side2 => exact HC200.out); rintro e w9 ⟨v205, rfl, ho0, hb⟩; refine ⟨_, rfl, ?_⟩; have n0_ := Aside0.mk (Kd.S_elder' (by (with_reducible repeat (first | apply Kd.S_alloc | apply Kd.S_drewN | apply Kd.S_drew)); exact HO_5.out) (Kd.R_base ho0) hb); have n1_ := Aside0.mk (Kd.R_lower ho0 (below_size (by repeat (first | (with_reducible first | exact HB.out | apply below_alloc | apply pw_below_drewN | apply below_drew1) | exact HB.out)))); have n2_ := Aside0.mk (below_step (by repeat (first | (with_reducible first | exact HB.out | apply below_alloc | apply pw_below_drewN | apply below_drew1) | exact HB.out)) hb); clear HO_5; clear HB; have HO_5 := n0_; have HO206 := n1_; have HB := n2_; clear n0_ n1_ n2_; (try clear hb); (try clear hb2); (try clear hk); (try clear hi); (try clear ho0)) | ((with_reducible refine gate_dst (N := 7) rfl ?_); refine box_event ?hg (N := 7) ?hd (cs := #[.int .i64 0, .int .i64 0, .int .u64 0, .slice none 0 0]) (t := 25) ?hr ?_; (case hd => rfl); (case hg => rfl); (case hr => first | (go_simp; done) | (go_simp; rfl)); intro gb209 hg w10 hbox hb; have n0_ := Aside0.mk (Kd.S_below (Kd.S_elderB (by (with_reducible repeat (first | apply Kd.S_alloc | apply Kd.S_drewN | apply Kd.S_drew)); exact HO_5.out) gb209 (Nat.le_of_eq hg.symm)) hb); have n1_ := Aside0.mk (Kd.R_below (by (with_reducible repeat (first | apply Kd.R_alloc | apply Kd.R_drewN | apply Kd.R_drew)); exact HO206.out) hb); have n2_ := Aside0.mk (below_step (by repeat (first | (with_reducible first | exact HB.out | apply below_alloc | apply pw_below_drewN | apply below_drew1) | exact HB.out)) hb); have n3_ := Aside0.mk (hbox); have n4_ := Aside0.mk ((by rw [hg]; exact (below_size (by repeat (first | (with_reducible first | exact HB.out | apply below_alloc | apply pw_below_drewN | apply below_drew1) | exact HB.out))) : w.heap.size ≤ gb209)); have n5_ := Aside0.mk ((by rw [hg]; exact (below_size (by repeat (first | (with_reducible first | exact HB.out | apply below_alloc | apply pw_below_drewN | apply below_drew1) | exact HB.out))) : w.heap.size ≤ gb209)); clear HO_5; clear HO206; clear HB; have HO_5 := n0_; have HO206 := n1_; have HB := n2_; have BK209 := n3_; have GW209 := n4_; have GE209 := n5_; clear n0_ n1_ n2_ n3_ n4_ n5_; clear hb hbox hg; have hcz11_0 : w10.cell? ⟨gb209, 0, none⟩ = some (.int .i64 0) := (blk_cell BK209.out 0).trans rfl; have hcz11_1 : w10.cell? ⟨gb209, 1, none⟩ = some (.int .i64 0) := (blk_cell BK209.out 1).trans rfl; have hcz11_2 : w10.cell? ⟨gb209, 2, none⟩ = some (.int .u64 0) := (blk_cell BK209.out 2).trans rfl; have hcz11_3 : w10.cell? ⟨gb209, 3, none⟩ = some (.slice none 0 0) := (blk_cell BK209.out 3).trans rfl; have hfz11_0 := blk_frozen BK209.out 0; have hfz11_1 := blk_frozen BK209.out 1; have hfz11_2 := blk_frozen BK209.out 2; have hfz11_3 := blk_frozen BK209.out 3; obtain ⟨Ao12, co12, eo12⟩ := Kd.R_slice HO206.out; subst eo12) | ((with_reducible refine gate_store (t := 25) (p := 7) rfl ?_); refine store_event (t := 25) (p := 7) (v := ?vo_w13) (w1 := ((((w10.setCell ⟨gb209, 0, none⟩ (.int .i64 t201)).setCell ⟨gb209, 1, none⟩ (.int .i64 t202)).setCell ⟨gb209, 2, none⟩ (.int .u64 t203)).setCell ⟨gb209, 3, none⟩ (.slice Ao12 t204.length co12))) ?hg ?ho ?hn ?hr ?_; (case ho => rfl); (case hg => rfl); (case hn => rfl); (case hr => first | (go_simp; done) | (go_simp; rfl)); intro w13 hw; have n0_ : Aside0 (Kd.S k25 25 w13 w.heap.size (fun k_ => some k_ ≠ (.slice Ao12 t204.length co12 : Value).ownBlock ∧ k_ ≠ gb209) u5 x5_1) := ⟨(by rw [hw]; exact (by (with_reducible repeat (first | apply Kd.S_alloc | apply Kd.S_drewN | apply Kd.S_drew)); exact Kd.S_mono (Kd.S_far (p := ⟨gb209, 3, none⟩) (Kd.S_far (p := ⟨gb209, 2, none⟩) (Kd.S_far (p := ⟨gb209, 1, none⟩) (Kd.S_far (p := ⟨gb209, 0, none⟩) (Kd.S_mono HO_5.out (fun k_ hk => (⟨hk, hk.2⟩ : _ ∧ k_ ≠ gb209))) (fun _ hk => hk.2) (.int .i64 t201)) (fun _ hk => hk.2) (.int .i64 t202)) (fun _ hk => hk.2) (.int .u64 t203)) (fun _ hk => hk.2) (.slice Ao12 t204.length co12)) (fun _ hk => ⟨hk.1.1.2, hk.1.2⟩)))⟩; have n1_ : Aside0 (Kd.R (Kd.int .u8) 5 w13 w.heap.size (fun _ => True) (.slice Ao12 t204.length co12) t204) := ⟨(by rw [hw]; exact (by (with_reducible repeat (first | apply Kd.R_alloc | apply Kd.R_drewN | apply Kd.R_drew)); exact Kd.R_mono (Kd.R_far (p := ⟨gb209, 3, none⟩) (Kd.R_far (p := ⟨gb209, 2, none⟩) (Kd.R_far (p := ⟨gb209, 1, none⟩) (Kd.R_far (p := ⟨gb209, 0, none⟩) (Kd.R_types HO206.out BK209.out (by decide)) (fun _ hk => hk.2) (.int .i64 t201)) (fun _ hk => hk.2) (.int .i64 t202)) (fun _ hk => hk.2) (.int .u64 t203)) (fun _ hk => hk.2) (.slice Ao12 t204.length co12)) (fun _ hk => trivial)))⟩; have n2_ : Aside0 (w13.heap[gb209]? = some (.cells #[.int .i64 t201, .int .i64 t202, .int .u64 t203, .slice Ao12 t204.length co12] 25 (0, 0))) := ⟨(by rw [hw]; exact (by (with_reducible repeat (first | refine blk_drewN ?_ _ | refine blk_drew ?_ | refine blk_alloc ?_ _)); refine blk_put (cs := #[.int .i64 t201, .int .i64 t202, .int .u64 t203, .slice none 0 0]) ?_ 3 _ rfl; (with_reducible repeat (first | refine blk_drewN ?_ _ | refine blk_drew ?_ | refine blk_alloc ?_ _)); refine blk_put (cs := #[.int .i64 t201, .int .i64 t202, .int .u64 0, .slice none 0 0]) ?_ 2 _ rfl; (with_reducible repeat (first | refine blk_drewN ?_ _ | refine blk_drew ?_ | refine blk_alloc ?_ _)); refine blk_put (cs := #[.int .i64 t201, .int .i64 0, .int .u64 0, .slice none 0 0]) ?_ 1 _ rfl; (with_reducible repeat (first | refine blk_drewN ?_ _ | refine blk_drew ?_ | refine blk_alloc ?_ _)); refine blk_put (cs := #[.int .i64 0, .int .i64 0, .int .u64 0, .slice none 0 0]) ?_ 0 _ rfl; (with_reducible repeat (first | refine blk_drewN ?_ _ | refine blk_drew ?_ | refine blk_alloc ?_ _)); exact BK209.out))⟩; have n3_ : Aside0 (Below w.heap.size w w13) := ⟨(by rw [hw]; exact (by repeat (first | (with_reducible first | exact HB.out | apply below_alloc | apply pw_below_drewN | apply below_drew1 | refine below_set ?_ GE209.out) | exact HB.out)))⟩; clear hw; clear HO_5; clear HO206; clear BK209; clear HB; have HO_5 := n0_; have HO206 := n1_; have BK209 := n2_; have HB := n3_; clear n0_ n1_ n2_ n3_; have hcz14_0 : w13.cell? ⟨gb209, 0, none⟩ = some (.int .i64 t201) := (blk_cell BK209.out 0).trans rfl; have hcz14_1 : w13.cell? ⟨gb209, 1, none⟩ = some (.int .i64 t202) := (blk_cell BK209.out 1).trans rfl; have hcz14_2 : w13.cell? ⟨gb209, 2, none⟩ = some (.int .u64 t203) := (blk_cell BK209.out 2).trans rfl; have hcz14_3 : w13.cell? ⟨gb209, 3, none⟩ = some (.slice Ao12 t204.length co12) := (blk_cell BK209.out 3).trans rfl; have hfz14_0 := blk_frozen BK209.out 0; have hfz14_1 := blk_frozen BK209.out 1; have hfz14_2 := blk_frozen BK209.out 2; have hfz14_3 := blk_frozen BK209.out 3) | ((with_reducible refine gate_builtin (b := .append) (xs := #[.tmp 26, .tmp 28]) rfl ?_); at_builtin; refine Kd.S_append k25 (w0 := w) w.heap.size rfl (.tmp 26) (.tmp 28) 28 25 (.agg #[(.int .i64 0), (.int .i64 0), (.int .u64 0), (.slice none 0 0)]) 48 rfl Try.underlying28 info25 rfl (by decide) (by omega) u5 x5_1 (⟨t201, t202, t203, t204⟩ : S25) [.int .i64 t201, .int .i64 t202, .int .u64 t203, .slice Ao12 t204.length co12] (fun k_ => k_ ≠ gb209) (fun k_ => some k_ = (.slice Ao12 t204.length co12 : Value).ownBlock) rfl rfl ?aP (fun k_ hk_ => ((Kd.R_mono (ok' := fun k_ => ((fun k_ => k_ ≠ gb209)) k_ ∧ some k_ ≠ (u5 : Value).ownBlock) (Kd.R_types (Kd.R_apart' (HO206.out) (Kd.S_typed HO_5.out) (by decide)) BK209.out (by decide)) (fun k_ hk => ⟨hk.2, hk.1.2⟩))).1 k_ hk_.symm) ?aF ?aO ?aB ?aS ?aL ?_; (case aP => exact k25_mkM _ _ _ (⟨t201, t202, t203, t204⟩ : S25) (Kd.R_mono (Kd.R_tight rfl (Kd.R_mono (ok' := fun k_ => ((fun k_ => k_ ≠ gb209)) k_ ∧ some k_ ≠ (u5 : Value).ownBlock) (Kd.R_types (Kd.R_apart' (HO206.out) (Kd.S_typed HO_5.out) (by decide)) BK209.out (by decide)) (fun k_ hk => ⟨hk.2, hk.1.2⟩))) (fun _ h_ => h_))); (case aB => exact (by repeat (first | (with_reducible first | exact HB.out | apply below_alloc | apply pw_below_drewN | apply below_drew1 | refine below_set ?_ GE209.out) | exact HB.out))); (case aF => exact (fun k_ hk => Kd.freshB (g := gb209) (o := .cells #[.int .i64 t201, .int .i64 t202, .int .u64 t203, .slice Ao12 t204.length co12] 25 (0, 0)) (by (with_reducible repeat (first | refine blk_drewN ?_ _ | refine blk_drew ?_ | refine blk_alloc ?_ _)); exact BK209.out) k_ hk)); (case aO => exact (by (with_reducible repeat (first | apply Kd.S_alloc | apply Kd.S_drewN | apply Kd.S_drew)); exact Kd.S_mono HO_5.out (fun k_ hk => ⟨hk.2, fun e_ => hk.1 e_⟩))); (case aS => exact (below_size (by repeat (first | (with_reducible first | exact HB.out | apply below_alloc | apply pw_below_drewN | apply below_drew1 | refine below_set ?_ GE209.out) | exact HB.out)))); (case aL => have := LMc7.out; omega); intro v211 w15 ho hb hg hat; rw [← Ny210.out] at ho; have n0_ := Aside0.mk (blk_grown (g := gb209) (o := .cells #[.int .i64 t201, .int .i64 t202, .int .u64 t203, .slice Ao12 t204.length co12] 25 (0, 0)) (by (with_reducible repeat (first | refine blk_drewN ?_ _ | refine blk_drew ?_ | refine blk_alloc ?_ _)); exact BK209.out) hg (Kd.S_away HO_5.out (fun _ hk => hk.2))); have n1_ := Aside0.mk (hb); have n2_ := Aside0.mk (ho); clear BK209; clear HB; clear HO_5; clear HO206; have BK209 := n0_; have HB := n1_; have HO212 := n2_; clear n0_ n1_ n2_; clear ho hb hg hat))
                            go_roundg k1
                            case measure => have := HK1.out; omega
                            case rel => exact ⟨(y210), (wrap64 (x6_1 + t207)), (by first | rfl | (simp; done) | (simp [*]; done)), H', ⟨by have := HK1.out; omega⟩, ⟨by (with_reducible repeat (first | apply Kd.S_alloc | apply Kd.S_drewN | apply Kd.S_drew)); exact Kd.S_mono HO212.out (fun _ hk => trivial)⟩, ⟨by repeat (first | (with_reducible first | exact HB.out | apply below_alloc | apply pw_below_drewN | apply below_drew1 | refine below_set ?_ GE209.out) | exact HB.out)⟩⟩
                      · rw [if_neg c7] at H
                        exact absurd H (by simp)
                  · as_aux_lemma =>
                      rw [if_neg c6] at H
                      have c6b0 : (t208 == 0) = false := beq_eq_false_iff_ne.mpr c6
                      have c6b1 : (t208 != 0) = true := bne_iff_ne.mpr c6
                      as_aux_lemma =>
                        simp only [Option.some.injEq, Prod.mk.injEq] at H
                        obtain ⟨rfl, rfl, rfl⟩ := H
                        have q16 : (x6_1 : Int) ≤ ((l0.length : Int) : Int) := of_decide_eq_true (by first | (with_reducible assumption) | assumption)
                        obtain ⟨i016, hi016, _, hsz16, _⟩ := info_parts info5
                        have hroom16 : l0.length ≤ c0 := HC0.out
                        have hC16 : Kd.C (Kd.int .u8) _ A0 l0.length l0 := HR0.out
                        have q016 : (0 : Int) ≤ (x6_1 : Int) := of_decide_eq_true (by first | (with_reducible assumption) | assumption)
                        have hcut16 := cut_from (P := Try.prog) 23 5 .i64 Try.underlying23 hi016 1 hsz16 A0 l0.length c0 x6_1 q016 q16
                        have hr16 := Kd.C_drop (m := (x6_1 : Int).toNat) (c := c0) hC16 (by omega) hroom16
                        obtain ⟨A16, hA16⟩ : ∃ A1, A1 = (if c0 = (x6_1 : Int).toNat then A0 else (A0 : Option Addr).map (·.add ((x6_1 : Int).toNat * 1))) := ⟨_, rfl⟩
                        obtain ⟨c16, hc16⟩ : ∃ c1, c1 = c0 - (x6_1 : Int).toNat := ⟨_, rfl⟩
                        have hy16 : y197.length = l0.length - (x6_1 : Int).toNat := (by rw [Ny197.out, List.length_drop] <;> omega)
                        rw [show (l0).drop (x6_1 : Int).toNat = y197 from Ny197.out.symm] at hr16
                        replace hr16 : Kd.C (Kd.int .u8) _ A16 y197.length y197 := (by rw [hA16]; exact hr16)
                        rw [← hy16, ← hA16, ← hc16] at hcut16
                        have HR200 := Aside0.mk hr16
                        have HC200 := Aside0.mk (show y197.length ≤ c16 from by rw [hy16, hc16]; exact Nat.sub_le_sub_right hroom16 _)
                        clear hr16 hC16 hroom16 hi016 hsz16 hc16
                        have KY16 := Aside0.mk hy16
                        have KA16 := Aside0.mk hA16
                        clear hy16 hA16
                        replace q16 := eq_true q16
                        go_wp2_with (first | ((with_reducible refine gate_callee (f := 19) rfl ?_); refine goesL_ (some 18) rfl rfl Try.func19 (by kernel_rfl) rfl #[.slice A16 y197.length c16] rfl (by (try simp only [List.map_toArray, List.map_cons, List.map_nil]); first | done | rfl | (simp only [List.length_drop, List.length_take]; rfl)) ?_; (with_reducible refine (glossaryref01_Take.calls k1 _ _ y197 t201 t202 t203 t204 t207 t208 _ ?side1 ?side2 A5.out).mono ?_); (case side1 => repeat (first | exact (Kd.C_below HR200.out HB.out) | (with_reducible refine Kd.C_alloc ?_ _) | (with_reducible refine Kd.C_drewN ?_ _) | (with_reducible refine Kd.C_drew ?_))); (case side2 => exact HC200.out); rintro e w17 ⟨v205, rfl, ho0, hb⟩; refine ⟨_, rfl, ?_⟩; have n0_ := Aside0.mk (Kd.S_elder' (by (with_reducible repeat (first | apply Kd.S_alloc | apply Kd.S_drewN | apply Kd.S_drew)); exact HO_5.out) (Kd.R_base ho0) hb); have n1_ := Aside0.mk (Kd.R_lower ho0 (below_size (by repeat (first | (with_reducible first | exact HB.out | apply below_alloc | apply pw_below_drewN | apply below_drew1) | exact HB.out)))); have n2_ := Aside0.mk (below_step (by repeat (first | (with_reducible first | exact HB.out | apply below_alloc | apply pw_below_drewN | apply below_drew1) | exact HB.out)) hb); clear HO_5; clear HB; have HO_5 := n0_; have HO206 := n1_; have HB := n2_; clear n0_ n1_ n2_; (try clear hb); (try clear hb2); (try clear hk); (try clear hi); (try clear ho0)) | ((with_reducible refine gate_dst (N := 7) rfl ?_); refine box_event ?hg (N := 7) ?hd (cs := #[.int .i64 0, .int .i64 0, .int .u64 0, .slice none 0 0]) (t := 25) ?hr ?_; (case hd => rfl); (case hg => rfl); (case hr => first | (go_simp; done) | (go_simp; rfl)); intro gb209 hg w18 hbox hb; have n0_ := Aside0.mk (Kd.S_below (Kd.S_elderB (by (with_reducible repeat (first | apply Kd.S_alloc | apply Kd.S_drewN | apply Kd.S_drew)); exact HO_5.out) gb209 (Nat.le_of_eq hg.symm)) hb); have n1_ := Aside0.mk (Kd.R_below (by (with_reducible repeat (first | apply Kd.R_alloc | apply Kd.R_drewN | apply Kd.R_drew)); exact HO206.out) hb); have n2_ := Aside0.mk (below_step (by repeat (first | (with_reducible first | exact HB.out | apply below_alloc | apply pw_below_drewN | apply below_drew1) | exact HB.out)) hb); have n3_ := Aside0.mk (hbox); have n4_ := Aside0.mk ((by rw [hg]; exact (below_size (by repeat (first | (with_reducible first | exact HB.out | apply below_alloc | apply pw_below_drewN | apply below_drew1) | exact HB.out))) : w.heap.size ≤ gb209)); have n5_ := Aside0.mk ((by rw [hg]; exact (below_size (by repeat (first | (with_reducible first | exact HB.out | apply below_alloc | apply pw_below_drewN | apply below_drew1) | exact HB.out))) : w.heap.size ≤ gb209)); clear HO_5; clear HO206; clear HB; have HO_5 := n0_; have HO206 := n1_; have HB := n2_; have BK209 := n3_; have GW209 := n4_; have GE209 := n5_; clear n0_ n1_ n2_ n3_ n4_ n5_; clear hb hbox hg; have hcz19_0 : w18.cell? ⟨gb209, 0, none⟩ = some (.int .i64 0) := (blk_cell BK209.out 0).trans rfl; have hcz19_1 : w18.cell? ⟨gb209, 1, none⟩ = some (.int .i64 0) := (blk_cell BK209.out 1).trans rfl; have hcz19_2 : w18.cell? ⟨gb209, 2, none⟩ = some (.int .u64 0) := (blk_cell BK209.out 2).trans rfl; have hcz19_3 : w18.cell? ⟨gb209, 3, none⟩ = some (.slice none 0 0) := (blk_cell BK209.out 3).trans rfl; have hfz19_0 := blk_frozen BK209.out 0; have hfz19_1 := blk_frozen BK209.out 1; have hfz19_2 := blk_frozen BK209.out 2; have hfz19_3 := blk_frozen BK209.out 3; obtain ⟨Ao20, co20, eo20⟩ := Kd.R_slice HO206.out; subst eo20))
                        go_ret3
                        exact ⟨_, by first | rfl | (simp [errW_none, errW_some] <;> rfl) | (simp [*, errW_none, errW_some] <;> rfl), by first | exact Kd.S_nil _ _ _ _ _ | exact Kd.N_nil _ _ _ _ _ | exact Kd.V_nil _ _ _ _ _ | exact Kd.Q_nil _ _ _ _ _ | exact Kd.R_nil _ _ _ _ _, by repeat (first | (with_reducible first | exact HB.out | apply below_alloc | apply pw_below_drewN | apply below_drew1 | refine below_set ?_ GE209.out) | exact HB.out)⟩
              · rw [if_neg c4] at H
                exact absurd H (by simp)
          · rw [if_neg c3] at H
            exact absurd H (by simp)
      · as_aux_lemma =>
          rw [if_neg c2] at H
          have c2b0 : decide (x6_1 < (l0.length : Int)) = false := decide_eq_false c2
          clear c2
          as_aux_lemma =>
            simp only [Option.some.injEq, Prod.mk.injEq] at H
            obtain ⟨rfl, rfl, rfl⟩ := H
            go_wp2
            go_ret3
            exact ⟨_, by first | rfl | (simp [errW_none, errW_some] <;> rfl) | (simp [*, errW_none, errW_some] <;> rfl), by (with_reducible repeat (first | apply Kd.S_alloc | apply Kd.S_drewN | apply Kd.S_drew)); exact HO_5.out, by repeat (first | (with_reducible first | exact HB.out | apply below_alloc | apply pw_below_drewN | apply below_drew1) | exact HB.out)⟩

/-! ### glossaryref01_Same: function 15 -/
def glossaryref01_Same.f (a0_0 : Int) (a0_1 : Int) (a0_2 : Int) (l0_3 : List Int) (a1_0 : Int) (a1_1 : Int) (a1_2 : Int) (l1_3 : List Int) : Option (Bool) := if a0_0 = a1_0 then (if a0_1 = a1_1 then (if a0_2 = a1_2 then (some ((strOfNums l0_3).toList == (strOfNums l1_3).toList)) else (some false)) else (some false)) else (some false)
set_option maxHeartbeats 8000000 in
set_option maxRecDepth 100000 in
theorem glossaryref01_Same.calls (a0_0 : Int) (a0_1 : Int) (a0_2 : Int) (A0_3 : Option Addr) (c0_3 : Nat) (l0_3 : List Int) (a1_0 : Int) (a1_1 : Int) (a1_2 : Int) (A1_3 : Option Addr) (c1_3 : Nat) (l1_3 : List Int) (r : Bool) (w : World) (hr0_3 : Kd.C (Kd.int .u8) w A0_3 l0_3.length l0_3) (hc0_3 : l0_3.length ≤ c0_3) (hr1_3 : Kd.C (Kd.int .u8) w A1_3 l1_3.length l1_3) (hc1_3 : l1_3.length ≤ c1_3) (h : glossaryref01_Same.f a0_0 a0_1 a0_2 l0_3 a1_0 a1_1 a1_2 l1_3 = some r) :
    Calls Try.prog 15 #[.agg #[.int .i64 a0_0, .int .i64 a0_1, .int .u64 a0_2, .slice A0_3 l0_3.length c0_3], .agg #[.int .i64 a1_0, .int .i64 a1_1, .int .u64 a1_2, .slice A1_3 l1_3.length c1_3]] w fun e w' => e = .returned (.bool r) ∧ Below w.heap.size w w' := by
  have hu25 := Try.underlying25
  have HR0_3 := Aside0.mk hr0_3
  have HC0_3 := Aside0.mk hc0_3
  clear hr0_3 hc0_3
  have HR1_3 := Aside0.mk hr1_3
  have HC1_3 := Aside0.mk hc1_3
  clear hr1_3 hc1_3
  have HB := Aside0.mk (Below.refl w.heap.size w)
  have H : (if a0_0 = a1_0 then (if a0_1 = a1_1 then (if a0_2 = a1_2 then (some ((strOfNums l0_3).toList == (strOfNums l1_3).toList)) else (some false)) else (some false)) else (some false)) = some r := h
  clear h
  by_cases c3 : a0_0 = a1_0
  · as_aux_lemma =>
      rw [if_pos c3] at H
      have c3b0 : (a0_0 == a1_0) = true := beq_iff_eq.mpr c3
      have c3b1 : (a0_0 != a1_0) = false := bne_eq_false_iff_eq.mpr c3
      clear c3
      by_cases c4 : a0_1 = a1_1
      · as_aux_lemma =>
          rw [if_pos c4] at H
          have c4b0 : (a0_1 == a1_1) = true := beq_iff_eq.mpr c4
          have c4b1 : (a0_1 != a1_1) = false := bne_eq_false_iff_eq.mpr c4
          clear c4
          by_cases c5 : a0_2 = a1_2
          · as_aux_lemma =>
              rw [if_pos c5] at H
              have c5b0 : (a0_2 == a1_2) = true := beq_iff_eq.mpr c5
              have c5b1 : (a0_2 != a1_2) = false := bne_eq_false_iff_eq.mpr c5
              clear c5
              as_aux_lemma =>
                obtain rfl := Option.some.inj H
                go_enter Try.func15, Try.ntmps15
                go_wp2_with (first | ((with_reducible refine gate_dst (N := 2) rfl ?_); refine box_event ?hg (N := 2) ?hd (cs := #[.int .i64 a0_0, .int .i64 a0_1, .int .u64 a0_2, .slice A0_3 l0_3.length c0_3]) (t := 25) ?hr ?_; (case hd => rfl); (case hg => rfl); (case hr => first | (go_simp; done) | (go_simp; rfl)); intro gb213 hg w6 hbox hb; have n0_ := Aside0.mk (below_step (by repeat (first | (with_reducible first | exact HB.out | apply below_alloc | apply pw_below_drewN | apply below_drew1) | exact HB.out)) hb); have n1_ := Aside0.mk (hbox); have n2_ := Aside0.mk ((by rw [hg]; exact (below_size (by repeat (first | (with_reducible first | exact HB.out | apply below_alloc | apply pw_below_drewN | apply below_drew1) | exact HB.out))) : w.heap.size ≤ gb213)); have n3_ := Aside0.mk ((by rw [hg]; exact (below_size (by repeat (first | (with_reducible first | exact HB.out | apply below_alloc | apply pw_below_drewN | apply below_drew1) | exact HB.out))) : w.heap.size ≤ gb213)); clear HB; have HB := n0_; have BK213 := n1_; have GW213 := n2_; have GE213 := n3_; clear n0_ n1_ n2_ n3_; clear hb hbox hg) | ((with_reducible refine gate_dst (N := 3) rfl ?_); refine box_event ?hg (N := 3) ?hd (cs := #[.int .i64 a1_0, .int .i64 a1_1, .int .u64 a1_2, .slice A1_3 l1_3.length c1_3]) (t := 25) ?hr ?_; (case hd => rfl); (case hg => rfl); (case hr => first | (go_simp; done) | (go_simp; rfl)); intro gb214 hg w7 hbox hb; have n0_ := Aside0.mk (blk_below (g := gb213) (o := .cells #[.int .i64 a0_0, .int .i64 a0_1, .int .u64 a0_2, .slice A0_3 l0_3.length c0_3] 25 (0, 0)) (by (with_reducible repeat (first | refine blk_drewN ?_ _ | refine blk_drew ?_ | refine blk_alloc ?_ _)); exact BK213.out) hb); have n1_ := Aside0.mk (below_step (by repeat (first | (with_reducible first | exact HB.out | apply below_alloc | apply pw_below_drewN | apply below_drew1 | refine below_set ?_ GE213.out) | exact HB.out)) hb); have n2_ := Aside0.mk (hbox); have n3_ := Aside0.mk ((by rw [hg]; exact (below_size (by repeat (first | (with_reducible first | exact HB.out | apply below_alloc | apply pw_below_drewN | apply below_drew1 | refine below_set ?_ GE213.out) | exact HB.out))) : w.heap.size ≤ gb214)); have n4_ := Aside0.mk ((by rw [hg]; exact (below_size (by repeat (first | (with_reducible first | exact HB.out | apply below_alloc | apply pw_below_drewN | apply below_drew1 | refine below_set ?_ GE213.out) | exact HB.out))) : w.heap.size ≤ gb214)); have n5_ := Aside0.mk ((by rw [hg]; exact Nat.ne_of_lt (blk_lt (g := gb213) (o := .cells #[.int .i64 a0_0, .int .i64 a0_1, .int .u64 a0_2, .slice A0_3 l0_3.length c0_3] 25 (0, 0)) (by (with_reducible repeat (first | refine blk_drewN ?_ _ | refine blk_drew ?_ | refine blk_alloc ?_ _)); exact BK213.out)) : gb213 ≠ gb214)); have n6_ := Aside0.mk ((by rw [hg]; exact Nat.ne_of_gt (blk_lt (g := gb213) (o := .cells #[.int .i64 a0_0, .int .i64 a0_1, .int .u64 a0_2, .slice A0_3 l0_3.length c0_3] 25 (0, 0)) (by (with_reducible repeat (first | refine blk_drewN ?_ _ | refine blk_drew ?_ | refine blk_alloc ?_ _)); exact BK213.out)) : gb214 ≠ gb213)); clear BK213; clear HB; have BK213 := n0_; have HB := n1_; have BK214 := n2_; have GW214 := n3_; have GE214 := n4_; have NB213_214 := n5_; have NB214_213 := n6_; clear n0_ n1_ n2_ n3_ n4_ n5_ n6_; clear hb hbox hg; have hnb8 := NB213_214.out; have hnc8 := NB214_213.out; have hcz9_0 : w7.cell? ⟨gb213, 0, none⟩ = some (.int .i64 a0_0) := (blk_cell BK213.out 0).trans rfl; have hcz9_1 : w7.cell? ⟨gb213, 1, none⟩ = some (.int .i64 a0_1) := (blk_cell BK213.out 1).trans rfl; have hcz9_2 : w7.cell? ⟨gb213, 2, none⟩ = some (.int .u64 a0_2) := (blk_cell BK213.out 2).trans rfl; have hcz9_3 : w7.cell? ⟨gb213, 3, none⟩ = some (.slice A0_3 l0_3.length c0_3) := (blk_cell BK213.out 3).trans rfl; have hfz9_0 := blk_frozen BK213.out 0; have hfz9_1 := blk_frozen BK213.out 1; have hfz9_2 := blk_frozen BK213.out 2; have hfz9_3 := blk_frozen BK213.out 3; have hcz10_0 : w7.cell? ⟨gb214, 0, none⟩ = some (.int .i64 a1_0) := (blk_cell BK214.out 0).trans rfl; have hcz10_1 : w7.cell? ⟨gb214, 1, none⟩ = some (.int .i64 a1_1) := (blk_cell BK214.out 1).trans rfl; have hcz10_2 : w7.cell? ⟨gb214, 2, none⟩ = some (.int .u64 a1_2) := (blk_cell BK214.out 2).trans rfl; have hcz10_3 : w7.cell? ⟨gb214, 3, none⟩ = some (.slice A1_3 l1_3.length c1_3) := (blk_cell BK214.out 3).trans rfl; have hfz10_0 := blk_frozen BK214.out 0; have hfz10_1 := blk_frozen BK214.out 1; have hfz10_2 := blk_frozen BK214.out 2; have hfz10_3 := blk_frozen BK214.out 3; have hcv11 := Kd.C_string (P := Try.prog) (A := A0_3) (c := c0_3) Try.underlying23 Try.underlying5 Try.underlying9 (Kd.C_below HR0_3.out HB.out); have hcvN11 := fun nd_ => Kd.C_string (P := Try.prog) (A := A0_3) (c := c0_3) Try.underlying23 Try.underlying5 Try.underlying9 (Kd.C_drewN (Kd.C_below HR0_3.out HB.out) nd_); have hcv12 := Kd.C_string (P := Try.prog) (A := A1_3) (c := c1_3) Try.underlying23 Try.underlying5 Try.underlying9 (Kd.C_below HR1_3.out HB.out); have hcvN12 := fun nd_ => Kd.C_string (P := Try.prog) (A := A1_3) (c := c1_3) Try.underlying23 Try.underlying5 Try.underlying9 (Kd.C_drewN (Kd.C_below HR1_3.out HB.out) nd_)))
                go_ret
                exact ⟨by first | rfl | (simp [errW_none, errW_some] <;> rfl) | (simp [*, errW_none, errW_some] <;> rfl), by repeat (first | (with_reducible first | exact HB.out | apply below_alloc | apply pw_below_drewN | apply below_drew1 | refine below_set ?_ GE213.out | refine below_set ?_ GE214.out) | exact HB.out)⟩
          · as_aux_lemma =>
              rw [if_neg c5] at H
              have c5b0 : (a0_2 == a1_2) = false := beq_eq_false_iff_ne.mpr c5
              have c5b1 : (a0_2 != a1_2) = true := bne_iff_ne.mpr c5
              as_aux_lemma =>
                obtain rfl := Option.some.inj H
                go_enter Try.func15, Try.ntmps15
                go_wp2_with (first | ((with_reducible refine gate_dst (N := 2) rfl ?_); refine box_event ?hg (N := 2) ?hd (cs := #[.int .i64 a0_0, .int .i64 a0_1, .int .u64 a0_2, .slice A0_3 l0_3.length c0_3]) (t := 25) ?hr ?_; (case hd => rfl); (case hg => rfl); (case hr => first | (go_simp; done) | (go_simp; rfl)); intro gb213 hg w13 hbox hb; have n0_ := Aside0.mk (below_step (by repeat (first | (with_reducible first | exact HB.out | apply below_alloc | apply pw_below_drewN | apply below_drew1) | exact HB.out)) hb); have n1_ := Aside0.mk (hbox); have n2_ := Aside0.mk ((by rw [hg]; exact (below_size (by repeat (first | (with_reducible first | exact HB.out | apply below_alloc | apply pw_below_drewN | apply below_drew1) | exact HB.out))) : w.heap.size ≤ gb213)); have n3_ := Aside0.mk ((by rw [hg]; exact (below_size (by repeat (first | (with_reducible first | exact HB.out | apply below_alloc | apply pw_below_drewN | apply below_drew1) | exact HB.out))) : w.heap.size ≤ gb213)); clear HB; have HB := n0_; have BK213 := n1_; have GW213 := n2_; have GE213 := n3_; clear n0_ n1_ n2_ n3_; clear hb hbox hg) | ((with_reducible refine gate_dst (N := 3) rfl ?_); refine box_event ?hg (N := 3) ?hd (cs := #[.int .i64 a1_0, .int .i64 a1_1, .int .u64 a1_2, .slice A1_3 l1_3.length c1_3]) (t := 25) ?hr ?_; (case hd => rfl); (case hg => rfl); (case hr => first | (go_simp; done) | (go_simp; rfl)); intro gb214 hg w14 hbox hb; have n0_ := Aside0.mk (blk_below (g := gb213) (o := .cells #[.int .i64 a0_0, .int .i64 a0_1, .int .u64 a0_2, .slice A0_3 l0_3.length c0_3] 25 (0, 0)) (by (with_reducible repeat (first | refine blk_drewN ?_ _ | refine blk_drew ?_ | refine blk_alloc ?_ _)); exact BK213.out) hb); have n1_ := Aside0.mk (below_step (by repeat (first | (with_reducible first | exact HB.out | apply below_alloc | apply pw_below_drewN | apply below_drew1 | refine below_set ?_ GE213.out) | exact HB.out)) hb); have n2_ := Aside0.mk (hbox); have n3_ := Aside0.mk ((by rw [hg]; exact (below_size (by repeat (first | (with_reducible first | exact HB.out | apply below_alloc | apply pw_below_drewN | apply below_drew1 | refine below_set ?_ GE213.out) | exact HB.out))) : w.heap.size ≤ gb214)); have n4_ := Aside0.mk ((by rw [hg]; exact (below_size (by repeat (first | (with_reducible first | exact HB.out | apply below_alloc | apply pw_below_drewN | apply below_drew1 | refine below_set ?_ GE213.out) | exact HB.out))) : w.heap.size ≤ gb214)); have n5_ := Aside0.mk ((by rw [hg]; exact Nat.ne_of_lt (blk_lt (g := gb213) (o := .cells #[.int .i64 a0_0, .int .i64 a0_1, .int .u64 a0_2, .slice A0_3 l0_3.length c0_3] 25 (0, 0)) (by (with_reducible repeat (first | refine blk_drewN ?_ _ | refine blk_drew ?_ | refine blk_alloc ?_ _)); exact BK213.out)) : gb213 ≠ gb214)); have n6_ := Aside0.mk ((by rw [hg]; exact Nat.ne_of_gt (blk_lt (g := gb213) (o := .cells #[.int .i64 a0_0, .int .i64 a0_1, .int .u64 a0_2, .slice A0_3 l0_3.length c0_3] 25 (0, 0)) (by (with_reducible repeat (first | refine blk_drewN ?_ _ | refine blk_drew ?_ | refine blk_alloc ?_ _)); exact BK213.out)) : gb214 ≠ gb213)); clear BK213; clear HB; have BK213 := n0_; have HB := n1_; have BK214 := n2_; have GW214 := n3_; have GE214 := n4_; have NB213_214 := n5_; have NB214_213 := n6_; clear n0_ n1_ n2_ n3_ n4_ n5_ n6_; clear hb hbox hg; have hnb15 := NB213_214.out; have hnc15 := NB214_213.out; have hcz16_0 : w14.cell? ⟨gb213, 0, none⟩ = some (.int .i64 a0_0) := (blk_cell BK213.out 0).trans rfl; have hcz16_1 : w14.cell? ⟨gb213, 1, none⟩ = some (.int .i64 a0_1) := (blk_cell BK213.out 1).trans rfl; have hcz16_2 : w14.cell? ⟨gb213, 2, none⟩ = some (.int .u64 a0_2) := (blk_cell BK213.out 2).trans rfl; have hcz16_3 : w14.cell? ⟨gb213, 3, none⟩ = some (.slice A0_3 l0_3.length c0_3) := (blk_cell BK213.out 3).trans rfl; have hfz16_0 := blk_frozen BK213.out 0; have hfz16_1 := blk_frozen BK213.out 1; have hfz16_2 := blk_frozen BK213.out 2; have hfz16_3 := blk_frozen BK213.out 3; have hcz17_0 : w14.cell? ⟨gb214, 0, none⟩ = some (.int .i64 a1_0) := (blk_cell BK214.out 0).trans rfl; have hcz17_1 : w14.cell? ⟨gb214, 1, none⟩ = some (.int .i64 a1_1) := (blk_cell BK214.out 1).trans rfl; have hcz17_2 : w14.cell? ⟨gb214, 2, none⟩ = some (.int .u64 a1_2) := (blk_cell BK214.out 2).trans rfl; have hcz17_3 : w14.cell? ⟨gb214, 3, none⟩ = some (.slice A1_3 l1_3.length c1_3) := (blk_cell BK214.out 3).trans rfl; have hfz17_0 := blk_frozen BK214.out 0; have hfz17_1 := blk_frozen BK214.out 1; have hfz17_2 := blk_frozen BK214.out 2; have hfz17_3 := blk_frozen BK214.out 3))
                go_ret
                exact ⟨by first | rfl | (simp [errW_none, errW_some] <;> rfl) | (simp [*, errW_none, errW_some] <;> rfl), by repeat (first | (with_reducible first | exact HB.out | apply below_alloc | apply pw_below_drewN | apply below_drew1 | refine below_set ?_ GE213.out | refine below_set ?_ GE214.out) | exact HB.out)⟩
      · as_aux_lemma =>
          rw [if_neg c4] at H
          have c4b0 : (a0_1 == a1_1) = false := beq_eq_false_iff_ne.mpr c4
          have c4b1 : (a0_1 != a1_1) = true := bne_iff_ne.mpr c4
          as_aux_lemma =>
            obtain rfl := Option.some.inj H
            go_enter Try.func15, Try.ntmps15
            go_wp2_with (first | ((with_reducible refine gate_dst (N := 2) rfl ?_); refine box_event ?hg (N := 2) ?hd (cs := #[.int .i64 a0_0, .int .i64 a0_1, .int .u64 a0_2, .slice A0_3 l0_3.length c0_3]) (t := 25) ?hr ?_; (case hd => rfl); (case hg => rfl); (case hr => first | (go_simp; done) | (go_simp; rfl)); intro gb213 hg w18 hbox hb; have n0_ := Aside0.mk (below_step (by repeat (first | (with_reducible first | exact HB.out | apply below_alloc | apply pw_below_drewN | apply below_drew1) | exact HB.out)) hb); have n1_ := Aside0.mk (hbox); have n2_ := Aside0.mk ((by rw [hg]; exact (below_size (by repeat (first | (with_reducible first | exact HB.out | apply below_alloc | apply pw_below_drewN | apply below_drew1) | exact HB.out))) : w.heap.size ≤ gb213)); have n3_ := Aside0.mk ((by rw [hg]; exact (below_size (by repeat (first | (with_reducible first | exact HB.out | apply below_alloc | apply pw_below_drewN | apply below_drew1) | exact HB.out))) : w.heap.size ≤ gb213)); clear HB; have HB := n0_; have BK213 := n1_; have GW213 := n2_; have GE213 := n3_; clear n0_ n1_ n2_ n3_; clear hb hbox hg) | ((with_reducible refine gate_dst (N := 3) rfl ?_); refine box_event ?hg (N := 3) ?hd (cs := #[.int .i64 a1_0, .int .i64 a1_1, .int .u64 a1_2, .slice A1_3 l1_3.length c1_3]) (t := 25) ?hr ?_; (case hd => rfl); (case hg => rfl); (case hr => first | (go_simp; done) | (go_simp; rfl)); intro gb214 hg w19 hbox hb; have n0_ := Aside0.mk (blk_below (g := gb213) (o := .cells #[.int .i64 a0_0, .int .i64 a0_1, .int .u64 a0_2, .slice A0_3 l0_3.length c0_3] 25 (0, 0)) (by (with_reducible repeat (first | refine blk_drewN ?_ _ | refine blk_drew ?_ | refine blk_alloc ?_ _)); exact BK213.out) hb); have n1_ := Aside0.mk (below_step (by repeat (first | (with_reducible first | exact HB.out | apply below_alloc | apply pw_below_drewN | apply below_drew1 | refine below_set ?_ GE213.out) | exact HB.out)) hb); have n2_ := Aside0.mk (hbox); have n3_ := Aside0.mk ((by rw [hg]; exact (below_size (by repeat (first | (with_reducible first | exact HB.out | apply below_alloc | apply pw_below_drewN | apply below_drew1 | refine below_set ?_ GE213.out) | exact HB.out))) : w.heap.size ≤ gb214)); have n4_ := Aside0.mk ((by rw [hg]; exact (below_size (by repeat (first | (with_reducible first | exact HB.out | apply below_alloc | apply pw_below_drewN | apply below_drew1 | refine below_set ?_ GE213.out) | exact HB.out))) : w.heap.size ≤ gb214)); have n5_ := Aside0.mk ((by rw [hg]; exact Nat.ne_of_lt (blk_lt (g := gb213) (o := .cells #[.int .i64 a0_0, .int .i64 a0_1, .int .u64 a0_2, .slice A0_3 l0_3.length c0_3] 25 (0, 0)) (by (with_reducible repeat (first | refine blk_drewN ?_ _ | refine blk_drew ?_ | refine blk_alloc ?_ _)); exact BK213.out)) : gb213 ≠ gb214)); have n6_ := Aside0.mk ((by rw [hg]; exact Nat.ne_of_gt (blk_lt (g := gb213) (o := .cells #[.int .i64 a0_0, .int .i64 a0_1, .int .u64 a0_2, .slice A0_3 l0_3.length c0_3] 25 (0, 0)) (by (with_reducible repeat (first | refine blk_drewN ?_ _ | refine blk_drew ?_ | refine blk_alloc ?_ _)); exact BK213.out)) : gb214 ≠ gb213)); clear BK213; clear HB; have BK213 := n0_; have HB := n1_; have BK214 := n2_; have GW214 := n3_; have GE214 := n4_; have NB213_214 := n5_; have NB214_213 := n6_; clear n0_ n1_ n2_ n3_ n4_ n5_ n6_; clear hb hbox hg; have hnb20 := NB213_214.out; have hnc20 := NB214_213.out; have hcz21_0 : w19.cell? ⟨gb213, 0, none⟩ = some (.int .i64 a0_0) := (blk_cell BK213.out 0).trans rfl; have hcz21_1 : w19.cell? ⟨gb213, 1, none⟩ = some (.int .i64 a0_1) := (blk_cell BK213.out 1).trans rfl; have hcz21_2 : w19.cell? ⟨gb213, 2, none⟩ = some (.int .u64 a0_2) := (blk_cell BK213.out 2).trans rfl; have hcz21_3 : w19.cell? ⟨gb213, 3, none⟩ = some (.slice A0_3 l0_3.length c0_3) := (blk_cell BK213.out 3).trans rfl; have hfz21_0 := blk_frozen BK213.out 0; have hfz21_1 := blk_frozen BK213.out 1; have hfz21_2 := blk_frozen BK213.out 2; have hfz21_3 := blk_frozen BK213.out 3; have hcz22_0 : w19.cell? ⟨gb214, 0, none⟩ = some (.int .i64 a1_0) := (blk_cell BK214.out 0).trans rfl; have hcz22_1 : w19.cell? ⟨gb214, 1, none⟩ = some (.int .i64 a1_1) := (blk_cell BK214.out 1).trans rfl; have hcz22_2 : w19.cell? ⟨gb214, 2, none⟩ = some (.int .u64 a1_2) := (blk_cell BK214.out 2).trans rfl; have hcz22_3 : w19.cell? ⟨gb214, 3, none⟩ = some (.slice A1_3 l1_3.length c1_3) := (blk_cell BK214.out 3).trans rfl; have hfz22_0 := blk_frozen BK214.out 0; have hfz22_1 := blk_frozen BK214.out 1; have hfz22_2 := blk_frozen BK214.out 2; have hfz22_3 := blk_frozen BK214.out 3))
            go_ret
            exact ⟨by first | rfl | (simp [errW_none, errW_some] <;> rfl) | (simp [*, errW_none, errW_some] <;> rfl), by repeat (first | (with_reducible first | exact HB.out | apply below_alloc | apply pw_below_drewN | apply below_drew1 | refine below_set ?_ GE213.out | refine below_set ?_ GE214.out) | exact HB.out)⟩
  · as_aux_lemma =>
      rw [if_neg c3] at H
      have c3b0 : (a0_0 == a1_0) = false := beq_eq_false_iff_ne.mpr c3
      have c3b1 : (a0_0 != a1_0) = true := bne_iff_ne.mpr c3
      as_aux_lemma =>
        obtain rfl := Option.some.inj H
        go_enter Try.func15, Try.ntmps15
        go_wp2_with (first | ((with_reducible refine gate_dst (N := 2) rfl ?_); refine box_event ?hg (N := 2) ?hd (cs := #[.int .i64 a0_0, .int .i64 a0_1, .int .u64 a0_2, .slice A0_3 l0_3.length c0_3]) (t := 25) ?hr ?_; (case hd => rfl); (case hg => rfl); (case hr => first | (go_simp; done) | (go_simp; rfl)); intro gb213 hg w23 hbox hb; have n0_ := Aside0.mk (below_step (by repeat (first | (with_reducible first | exact HB.out | apply below_alloc | apply pw_below_drewN | apply below_drew1) | exact HB.out)) hb); have n1_ := Aside0.mk (hbox); have n2_ := Aside0.mk ((by rw [hg]; exact (below_size (by repeat (first | (with_reducible first | exact HB.out | apply below_alloc | apply pw_below_drewN | apply below_drew1) | exact HB.out))) : w.heap.size ≤ gb213)); have n3_ := Aside0.mk ((by rw [hg]; exact (below_size (by repeat (first | (with_reducible first | exact HB.out | apply below_alloc | apply pw_below_drewN | apply below_drew1) | exact HB.out))) : w.heap.size ≤ gb213)); clear HB; have HB := n0_; have BK213 := n1_; have GW213 := n2_; have GE213 := n3_; clear n0_ n1_ n2_ n3_; clear hb hbox hg) | ((with_reducible refine gate_dst (N := 3) rfl ?_); refine box_event ?hg (N := 3) ?hd (cs := #[.int .i64 a1_0, .int .i64 a1_1, .int .u64 a1_2, .slice A1_3 l1_3.length c1_3]) (t := 25) ?hr ?_; (case hd => rfl); (case hg => rfl); (case hr => first | (go_simp; done) | (go_simp; rfl)); intro gb214 hg w24 hbox hb; have n0_ := Aside0.mk (blk_below (g := gb213) (o := .cells #[.int .i64 a0_0, .int .i64 a0_1, .int .u64 a0_2, .slice A0_3 l0_3.length c0_3] 25 (0, 0)) (by (with_reducible repeat (first | refine blk_drewN ?_ _ | refine blk_drew ?_ | refine blk_alloc ?_ _)); exact BK213.out) hb); have n1_ := Aside0.mk (below_step (by repeat (first | (with_reducible first | exact HB.out | apply below_alloc | apply pw_below_drewN | apply below_drew1 | refine below_set ?_ GE213.out) | exact HB.out)) hb); have n2_ := Aside0.mk (hbox); have n3_ := Aside0.mk ((by rw [hg]; exact (below_size (by repeat (first | (with_reducible first | exact HB.out | apply below_alloc | apply pw_below_drewN | apply below_drew1 | refine below_set ?_ GE213.out) | exact HB.out))) : w.heap.size ≤ gb214)); have n4_ := Aside0.mk ((by rw [hg]; exact (below_size (by repeat (first | (with_reducible first | exact HB.out | apply below_alloc | apply pw_below_drewN | apply below_drew1 | refine below_set ?_ GE213.out) | exact HB.out))) : w.heap.size ≤ gb214)); have n5_ := Aside0.mk ((by rw [hg]; exact Nat.ne_of_lt (blk_lt (g := gb213) (o := .cells #[.int .i64 a0_0, .int .i64 a0_1, .int .u64 a0_2, .slice A0_3 l0_3.length c0_3] 25 (0, 0)) (by (with_reducible repeat (first | refine blk_drewN ?_ _ | refine blk_drew ?_ | refine blk_alloc ?_ _)); exact BK213.out)) : gb213 ≠ gb214)); have n6_ := Aside0.mk ((by rw [hg]; exact Nat.ne_of_gt (blk_lt (g := gb213) (o := .cells #[.int .i64 a0_0, .int .i64 a0_1, .int .u64 a0_2, .slice A0_3 l0_3.length c0_3] 25 (0, 0)) (by (with_reducible repeat (first | refine blk_drewN ?_ _ | refine blk_drew ?_ | refine blk_alloc ?_ _)); exact BK213.out)) : gb214 ≠ gb213)); clear BK213; clear HB; have BK213 := n0_; have HB := n1_; have BK214 := n2_; have GW214 := n3_; have GE214 := n4_; have NB213_214 := n5_; have NB214_213 := n6_; clear n0_ n1_ n2_ n3_ n4_ n5_ n6_; clear hb hbox hg; have hnb25 := NB213_214.out; have hnc25 := NB214_213.out; have hcz26_0 : w24.cell? ⟨gb213, 0, none⟩ = some (.int .i64 a0_0) := (blk_cell BK213.out 0).trans rfl; have hcz26_1 : w24.cell? ⟨gb213, 1, none⟩ = some (.int .i64 a0_1) := (blk_cell BK213.out 1).trans rfl; have hcz26_2 : w24.cell? ⟨gb213, 2, none⟩ = some (.int .u64 a0_2) := (blk_cell BK213.out 2).trans rfl; have hcz26_3 : w24.cell? ⟨gb213, 3, none⟩ = some (.slice A0_3 l0_3.length c0_3) := (blk_cell BK213.out 3).trans rfl; have hfz26_0 := blk_frozen BK213.out 0; have hfz26_1 := blk_frozen BK213.out 1; have hfz26_2 := blk_frozen BK213.out 2; have hfz26_3 := blk_frozen BK213.out 3; have hcz27_0 : w24.cell? ⟨gb214, 0, none⟩ = some (.int .i64 a1_0) := (blk_cell BK214.out 0).trans rfl; have hcz27_1 : w24.cell? ⟨gb214, 1, none⟩ = some (.int .i64 a1_1) := (blk_cell BK214.out 1).trans rfl; have hcz27_2 : w24.cell? ⟨gb214, 2, none⟩ = some (.int .u64 a1_2) := (blk_cell BK214.out 2).trans rfl; have hcz27_3 : w24.cell? ⟨gb214, 3, none⟩ = some (.slice A1_3 l1_3.length c1_3) := (blk_cell BK214.out 3).trans rfl; have hfz27_0 := blk_frozen BK214.out 0; have hfz27_1 := blk_frozen BK214.out 1; have hfz27_2 := blk_frozen BK214.out 2; have hfz27_3 := blk_frozen BK214.out 3))
        go_ret
        exact ⟨by first | rfl | (simp [errW_none, errW_some] <;> rfl) | (simp [*, errW_none, errW_some] <;> rfl), by repeat (first | (with_reducible first | exact HB.out | apply below_alloc | apply pw_below_drewN | apply below_drew1 | refine below_set ?_ GE213.out | refine below_set ?_ GE214.out) | exact HB.out)⟩

end Go.Proofs.Yteopaifokfmnjaa.GWireReads
