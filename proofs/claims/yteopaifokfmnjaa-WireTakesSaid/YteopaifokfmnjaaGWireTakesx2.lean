/- Written by gprint.py of this session: the kit's printer, with functions that are proved by hand put in. -/
import Derived.Test.YteopaifokfmnjaaGWireTakesx0
import Derived.Test.YteopaifokfmnjaaGWireTakesx1
namespace Go.Proofs.Yteopaifokfmnjaa.GWireTakes
open Go.Proofs.Yteopaifokfmnjaa.Pt Go.Proofs.Yteopaifokfmnjaa.Tk Go.Proofs.Yteopaifokfmnjaa.Cl
open Go.RowKit Go.Proofs.YteopaifokfmnjaaW.PrintWords Go.Proofs.YteopaifokfmnjaaW.PrintLast Go.Proofs.YteopaifokfmnjaaW.PrintMore
attribute [local go_sem] max2_int min2_int max_two min_two max_three min_three max_four min_four   -- for this text's walks alone
set_option linter.unusedVariables false
set_option linter.unusedSimpArgs false

/-! ### wire_Take: function 18 -/
def wire_Take.j0 : Nat → List Int → Int → Int → Bool → Int → Int → Int → Option (Int × Int × Int × List Int × Int × Int)
  | 0, _, _, _, _, _, _, _ => none
  | k + 1, x0, x6, x9, x48, x144000, x144001, x144002 => if x48 = true then (some (0, 0, 0, ([] : List Int), 0, 20)) else (if 0 ≤ x6 then (if x6 ≤ (x0.length : Int) then ((some (x0.drop (x6 : Int).toNat : List Int)).bind fun y146 => (if x9 > 0 then (if (y146.length : Int) < x9 then (some (0, 0, 0, ([] : List Int), 0, 21)) else (if 0 ≤ x9 then (if x9 ≤ (y146.length : Int) then ((varint_Unfixed.f k (y146.take (x9 : Int).toNat)).bind fun t154 => (some (x144000, x144001, t154, ([] : List Int), wrap64 (x6 + x9), 0))) else (none)) else (none))) else ((varint_Take.f k y146).bind fun bt155 => (if bt155.2.2 = 0 then (if x144001 = 0 then (some (x144000, x144001, bt155.1, ([] : List Int), wrap64 (x6 + bt155.2.1), 0)) else (if bt155.1 > (IntKind.u64.wrap (wrap64 ((y146.length : Int) - bt155.2.1))) then (some (0, 0, 0, ([] : List Int), 0, 21)) else (if 0 ≤ bt155.2.1 then (if bt155.2.1 ≤ (wrap64 (bt155.2.1 + (wrap64 (bt155.1)))) then (if (wrap64 (bt155.2.1 + (wrap64 (bt155.1)))) ≤ (y146.length : Int) then ((bytes_Clone.f ((y146.take ((wrap64 (bt155.2.1 + (wrap64 (bt155.1)))) : Int).toNat).drop (bt155.2.1 : Int).toNat)).bind fun t162 => (some (x144000, x144001, x144002, t162, wrap64 ((wrap64 (x6 + bt155.2.1)) + (wrap64 (bt155.1))), 0))) else (none)) else (none)) else (none)))) else (some (0, 0, 0, ([] : List Int), 0, bt155.2.2)))))) else (none)) else (none))
def wire_Take.f (k : Nat) (l0 : List Int) : Option (Int × Int × Int × List Int × Int × Int) := (varint_Take.f k l0).bind fun bt140 => (if bt140.2.2 = 0 then ((wire_kind.f (wrap64 (Go.bits .and .u64 bt140.1 7))).bind fun bt144 => (if (bt140.1 / 4294967296) = 0 then (if (wrap64 (bt140.1 / 8)) = 0 then (wire_Take.j0 k l0 bt140.2.1 bt144.1 true (wrap64 (bt140.1 / 8)) (wrap64 (Go.bits .and .u64 bt140.1 7)) 0) else (wire_Take.j0 k l0 bt140.2.1 bt144.1 (!bt144.2) (wrap64 (bt140.1 / 8)) (wrap64 (Go.bits .and .u64 bt140.1 7)) 0)) else (wire_Take.j0 k l0 bt140.2.1 bt144.1 true (wrap64 (bt140.1 / 8)) (wrap64 (Go.bits .and .u64 bt140.1 7)) 0))) else (some (0, 0, 0, ([] : List Int), 0, bt140.2.2)))
theorem wire_Take.mono_l : ∀ k, (∀ y0 y1 y2 y3 y4 y5 y6, LeO (wire_Take.j0 k y0 y1 y2 y3 y4 y5 y6) (wire_Take.j0 (k + 1) y0 y1 y2 y3 y4 y5 y6))
  | 0 => fun _ _ _ _ _ _ _ r h => by simp [wire_Take.j0] at h
  | k + 1 => by
    have ih0 := wire_Take.mono_l k
    · intro y0 y1 y2 y3 y4 y5 y6
      unfold wire_Take.j0
      repeat' first
      | (with_reducible exact ih0 _ _ _ _ _ _ _)
      | (with_reducible exact varint_Take.mono _ _)
      | (with_reducible exact varint_Unfixed.mono _ _)
      | (with_reducible exact LeO.refl _)
      | (with_reducible exact LeO.none _)
      | (with_reducible refine LeO.ite ?_ ?_)
      | (with_reducible refine LeO.bind ?_ (fun _ => ?_))
      | exact ih0 _ _ _ _ _ _ _
      | exact varint_Take.mono _ _
      | exact varint_Unfixed.mono _ _
      | exact LeO.none _
      | refine LeO.ite ?_ ?_
      | refine LeO.bind ?_ (fun _ => ?_)
theorem wire_Take.mono : ∀ a0 k, LeO (wire_Take.f k a0) (wire_Take.f (k + 1) a0) := by
  intro a0 k
  have ih0 := wire_Take.mono_l k
  unfold wire_Take.f
  repeat' first
      | (with_reducible exact ih0 _ _ _ _ _ _ _)
      | (with_reducible exact varint_Take.mono _ _)
      | (with_reducible exact varint_Unfixed.mono _ _)
      | (with_reducible exact LeO.refl _)
      | (with_reducible exact LeO.none _)
      | (with_reducible refine LeO.ite ?_ ?_)
      | (with_reducible refine LeO.bind ?_ (fun _ => ?_))
      | exact ih0 _ _ _ _ _ _ _
      | exact varint_Take.mono _ _
      | exact varint_Unfixed.mono _ _
      | exact LeO.none _
      | refine LeO.ite ?_ ?_
      | refine LeO.bind ?_ (fun _ => ?_)
set_option maxHeartbeats 8000000 in
set_option maxRecDepth 100000 in
theorem wire_Take.calls (k : Nat) (A0 : Option Addr) (c0 : Nat) (l0 : List Int) (r1 : Int) (r2 : Int) (r3 : Int) (r4 : List Int) (r5 : Int) (r6 : Int) (w : World) (hr0 : Kd.C (Kd.int .u8) w A0 l0.length l0) (hc0 : l0.length ≤ c0) (h : wire_Take.f k l0 = some (r1, r2, r3, r4, r5, r6)) :
    Calls Try.prog 18 #[.slice A0 l0.length c0] w fun e w' => ∃ v3_ : Value, e = .returned (.tuple #[.agg #[.int .i64 r1, .int .i64 r2, .int .u64 r3, v3_], .int .i64 r5, .int .i64 r6]) ∧ Kd.R (Kd.int .u8) 5 w' w.heap.size (fun _ => True) v3_ r4 ∧ Below w.heap.size w w' := by
  have hu25 := Try.underlying25
  have HR0 := Aside0.mk hr0
  have HC0 := Aside0.mk hc0
  clear hr0 hc0
  have HB := Aside0.mk (Below.refl w.heap.size w)
  have H : ((varint_Take.f k l0).bind fun bt140 => (if bt140.2.2 = 0 then ((wire_kind.f (wrap64 (Go.bits .and .u64 bt140.1 7))).bind fun bt144 => (if (bt140.1 / 4294967296) = 0 then (if (wrap64 (bt140.1 / 8)) = 0 then (wire_Take.j0 k l0 bt140.2.1 bt144.1 true (wrap64 (bt140.1 / 8)) (wrap64 (Go.bits .and .u64 bt140.1 7)) 0) else (wire_Take.j0 k l0 bt140.2.1 bt144.1 (!bt144.2) (wrap64 (bt140.1 / 8)) (wrap64 (Go.bits .and .u64 bt140.1 7)) 0)) else (wire_Take.j0 k l0 bt140.2.1 bt144.1 true (wrap64 (bt140.1 / 8)) (wrap64 (Go.bits .and .u64 bt140.1 7)) 0))) else (some (0, 0, 0, ([] : List Int), 0, bt140.2.2)))) = some (r1, r2, r3, r4, r5, r6) := h
  clear h
  replace H := Option.bind_eq_some_iff.mp H
  obtain ⟨⟨t140, t141, t142⟩, A20, H⟩ := H
  replace H : (if t142 = 0 then ((wire_kind.f (wrap64 (Go.bits .and .u64 t140 7))).bind fun bt144 => (if (t140 / 4294967296) = 0 then (if (wrap64 (t140 / 8)) = 0 then (wire_Take.j0 k l0 t141 bt144.1 true (wrap64 (t140 / 8)) (wrap64 (Go.bits .and .u64 t140 7)) 0) else (wire_Take.j0 k l0 t141 bt144.1 (!bt144.2) (wrap64 (t140 / 8)) (wrap64 (Go.bits .and .u64 t140 7)) 0)) else (wire_Take.j0 k l0 t141 bt144.1 true (wrap64 (t140 / 8)) (wrap64 (Go.bits .and .u64 t140 7)) 0))) else (some (0, 0, 0, ([] : List Int), 0, t142))) = some (r1, r2, r3, r4, r5, r6) := H
  have A2 := Aside0.mk A20
  clear A20
  by_cases c3 : t142 = 0
  · as_aux_lemma =>
      rw [if_pos c3] at H
      have c3b0 : (t142 == 0) = true := beq_iff_eq.mpr c3
      have c3b1 : (t142 != 0) = false := bne_eq_false_iff_eq.mpr c3
      clear c3
      replace H := Option.bind_eq_some_iff.mp H
      obtain ⟨⟨t144, t145⟩, A40, H⟩ := H
      replace H : (if (t140 / 4294967296) = 0 then (if (wrap64 (t140 / 8)) = 0 then (wire_Take.j0 k l0 t141 t144 true (wrap64 (t140 / 8)) (wrap64 (Go.bits .and .u64 t140 7)) 0) else (wire_Take.j0 k l0 t141 t144 (!t145) (wrap64 (t140 / 8)) (wrap64 (Go.bits .and .u64 t140 7)) 0)) else (wire_Take.j0 k l0 t141 t144 true (wrap64 (t140 / 8)) (wrap64 (Go.bits .and .u64 t140 7)) 0)) = some (r1, r2, r3, r4, r5, r6) := H
      have A4 := Aside0.mk A40
      clear A40
      have HC5 := Aside0.mk H
      clear H
      go_enter Try.func18, Try.ntmps18
      go_upto_region 6 with (first | ((with_reducible refine gate_dst (N := 2) rfl ?_); refine box_event ?hg (N := 2) ?hd (cs := #[.int .i64 0, .int .i64 0, .int .u64 0, .slice none 0 0]) (t := 25) ?hr ?_; (case hd => rfl); (case hg => rfl); (case hr => first | (go_simp; done) | (go_simp; rfl)); intro gb139 hg w6 hbox hb; have n0_ := Aside0.mk (below_step (by repeat (first | (with_reducible first | exact HB.out | apply below_alloc | apply pw_below_drewN | apply below_drew1) | exact HB.out)) hb); have n1_ := Aside0.mk (hbox); have n2_ := Aside0.mk ((by rw [hg]; exact (below_size (by repeat (first | (with_reducible first | exact HB.out | apply below_alloc | apply pw_below_drewN | apply below_drew1) | exact HB.out))) : w.heap.size ≤ gb139)); have n3_ := Aside0.mk ((by rw [hg]; exact (below_size (by repeat (first | (with_reducible first | exact HB.out | apply below_alloc | apply pw_below_drewN | apply below_drew1) | exact HB.out))) : w.heap.size ≤ gb139)); clear HB; have HB := n0_; have BK139 := n1_; have GW139 := n2_; have GE139 := n3_; clear n0_ n1_ n2_ n3_; clear hb hbox hg) | ((with_reducible refine gate_callee (f := 31) rfl ?_); refine goesL_ (some 16) rfl rfl Try.func31 (by kernel_rfl) rfl #[.slice A0 l0.length c0] rfl (by (try simp only [List.map_toArray, List.map_cons, List.map_nil]); first | done | rfl | (simp only [List.length_drop, List.length_take]; rfl)) ?_; (with_reducible refine (varint_Take.calls k _ _ l0 t140 t141 t142 _ ?side1 ?side2 A2.out).mono ?_); (case side1 => repeat (first | exact (Kd.C_below HR0.out HB.out) | (with_reducible refine Kd.C_alloc ?_ _) | (with_reducible refine Kd.C_drewN ?_ _) | (with_reducible refine Kd.C_drew ?_))); (case side2 => exact HC0.out); rintro e w' ⟨rfl, ⟨nd, rfl⟩⟩; refine ⟨_, rfl, ?_⟩; (try (rw [drewN_self w6]; generalize hq_ : World.drewN w6 _ = w6; have n0_ : Aside0 (w6.heap[gb139]? = some (.cells #[.int .i64 0, .int .i64 0, .int .u64 0, .slice none 0 0] 25 (0, 0))) := ⟨by rw [← hq_]; exact (by (with_reducible repeat (first | refine blk_drewN ?_ _ | refine blk_drew ?_ | refine blk_alloc ?_ _)); exact BK139.out)⟩; have n1_ : Aside0 (Below w.heap.size w w6) := ⟨by rw [← hq_]; exact (by repeat (first | (with_reducible first | exact HB.out | apply below_alloc | apply pw_below_drewN | apply below_drew1 | refine below_set ?_ GE139.out) | exact HB.out))⟩; clear BK139 HB hq_; have BK139 := n0_; have HB := n1_; clear n0_ n1_)); have hczR1_gb139_0 : w6.cell? ⟨gb139, 0, none⟩ = some (.int .i64 0) := (blk_cell BK139.out 0).trans rfl; have hfzR1_gb139_0 := blk_frozen BK139.out 0; have hczR1_gb139_1 : w6.cell? ⟨gb139, 1, none⟩ = some (.int .i64 0) := (blk_cell BK139.out 1).trans rfl; have hfzR1_gb139_1 := blk_frozen BK139.out 1; have hczR1_gb139_2 : w6.cell? ⟨gb139, 2, none⟩ = some (.int .u64 0) := (blk_cell BK139.out 2).trans rfl; have hfzR1_gb139_2 := blk_frozen BK139.out 2; have hczR1_gb139_3 : w6.cell? ⟨gb139, 3, none⟩ = some (.slice none 0 0) := (blk_cell BK139.out 3).trans rfl; have hfzR1_gb139_3 := blk_frozen BK139.out 3) | ((with_reducible refine gate_dst (N := 8) rfl ?_); refine box_event ?hg (N := 8) ?hd (cs := #[.int .i64 0, .int .i64 0, .int .u64 0, .slice none 0 0]) (t := 25) ?hr ?_; (case hd => rfl); (case hg => rfl); (case hr => first | (go_simp; done) | (go_simp; rfl)); intro gb143 hg w7 hbox hb; have n0_ := Aside0.mk (blk_below (g := gb139) (o := .cells #[.int .i64 0, .int .i64 0, .int .u64 0, .slice none 0 0] 25 (0, 0)) (by (with_reducible repeat (first | refine blk_drewN ?_ _ | refine blk_drew ?_ | refine blk_alloc ?_ _)); exact BK139.out) hb); have n1_ := Aside0.mk (below_step (by repeat (first | (with_reducible first | exact HB.out | apply below_alloc | apply pw_below_drewN | apply below_drew1 | refine below_set ?_ GE139.out) | exact HB.out)) hb); have n2_ := Aside0.mk (hbox); have n3_ := Aside0.mk ((by rw [hg]; exact (below_size (by repeat (first | (with_reducible first | exact HB.out | apply below_alloc | apply pw_below_drewN | apply below_drew1 | refine below_set ?_ GE139.out) | exact HB.out))) : w.heap.size ≤ gb143)); have n4_ := Aside0.mk ((by rw [hg]; exact (below_size (by repeat (first | (with_reducible first | exact HB.out | apply below_alloc | apply pw_below_drewN | apply below_drew1 | refine below_set ?_ GE139.out) | exact HB.out))) : w.heap.size ≤ gb143)); have n5_ := Aside0.mk ((by rw [hg]; exact Nat.ne_of_lt (blk_lt (g := gb139) (o := .cells #[.int .i64 0, .int .i64 0, .int .u64 0, .slice none 0 0] 25 (0, 0)) (by (with_reducible repeat (first | refine blk_drewN ?_ _ | refine blk_drew ?_ | refine blk_alloc ?_ _)); exact BK139.out)) : gb139 ≠ gb143)); have n6_ := Aside0.mk ((by rw [hg]; exact Nat.ne_of_gt (blk_lt (g := gb139) (o := .cells #[.int .i64 0, .int .i64 0, .int .u64 0, .slice none 0 0] 25 (0, 0)) (by (with_reducible repeat (first | refine blk_drewN ?_ _ | refine blk_drew ?_ | refine blk_alloc ?_ _)); exact BK139.out)) : gb143 ≠ gb139)); clear BK139; clear HB; have BK139 := n0_; have HB := n1_; have BK143 := n2_; have GW143 := n3_; have GE143 := n4_; have NB139_143 := n5_; have NB143_139 := n6_; clear n0_ n1_ n2_ n3_ n4_ n5_ n6_; clear hb hbox hg; have hnb8 := NB143_139.out; have hnc8 := NB139_143.out; have hcz9_0 : w7.cell? ⟨gb143, 0, none⟩ = some (.int .i64 0) := (blk_cell BK143.out 0).trans rfl; have hcz9_1 : w7.cell? ⟨gb143, 1, none⟩ = some (.int .i64 0) := (blk_cell BK143.out 1).trans rfl; have hcz9_2 : w7.cell? ⟨gb143, 2, none⟩ = some (.int .u64 0) := (blk_cell BK143.out 2).trans rfl; have hcz9_3 : w7.cell? ⟨gb143, 3, none⟩ = some (.slice none 0 0) := (blk_cell BK143.out 3).trans rfl; have hfz9_0 := blk_frozen BK143.out 0; have hfz9_1 := blk_frozen BK143.out 1; have hfz9_2 := blk_frozen BK143.out 2; have hfz9_3 := blk_frozen BK143.out 3) | ((with_reducible refine gate_callee (f := 24) rfl ?_); refine goesL_ (some 34) rfl rfl Try.func24 (by kernel_rfl) rfl #[.int .i64 (wrap64 (Go.bits .and .u64 t140 7))] rfl (by (try simp only [List.map_toArray, List.map_cons, List.map_nil]); first | done | rfl | (simp only [List.length_drop, List.length_take]; rfl)) ?_; (with_reducible refine (wire_kind.calls (wrap64 (Go.bits .and .u64 t140 7)) t144 t145 _ A4.out).mono ?_); rintro e w' ⟨rfl, ⟨nd, rfl⟩⟩; refine ⟨_, rfl, ?_⟩))
      (try simp only [Act.put, List.setIfInBounds_toArray, List.set_cons_zero, List.set_cons_succ])
      go_cut [48] (fun v48 wc => ∃ (kq : Nat) (x48_4 : Bool), v48 = .bool x48_4 ∧ Aside0 (wire_Take.j0 kq l0 t141 t144 x48_4 (wrap64 (t140 / 8)) (wrap64 (Go.bits .and .u64 t140 7)) 0 = some (r1, r2, r3, r4, r5, r6)) ∧ Aside0 (kq ≤ k) ∧ Aside0 (wc.heap[gb139]? = some (.cells #[.int .i64 0, .int .i64 0, .int .u64 0, (.slice none 0 0)] 25 (0, 0))) ∧ Aside0 (wc.heap[gb143]? = some (.cells #[.int .i64 (wrap64 (t140 / 8)), .int .i64 (wrap64 (Go.bits .and .u64 t140 7)), .int .u64 0, (.slice none 0 0)] 25 (0, 0))) ∧ Aside0 (Below w.heap.size w wc))
      case first =>
        have H := HC5.out
        clear HC5
        by_cases c10 : (t140 / 4294967296) = 0
        · as_aux_lemma =>
            rw [if_pos c10] at H
            have c10b0 : ((t140 / 4294967296) == 0) = true := beq_iff_eq.mpr c10
            have c10b1 : ((t140 / 4294967296) != 0) = false := bne_eq_false_iff_eq.mpr c10
            clear c10
            (first | rw [c10b0] | (simp only [i64_w, i32_w]; rw [c10b0]) | skip)
            by_cases c11 : (wrap64 (t140 / 8)) = 0
            · as_aux_lemma =>
                rw [if_pos c11] at H
                have c11b0 : ((wrap64 (t140 / 8)) == 0) = true := beq_iff_eq.mpr c11
                have c11b1 : ((wrap64 (t140 / 8)) != 0) = false := bne_eq_false_iff_eq.mpr c11
                clear c11
                as_aux_lemma =>
                  have H' := Aside0.mk H
                  clear H
                  have hnb12 := NB143_139.out
                  have hnc12 := NB139_143.out
                  have hcz13_0 : w7.cell? ⟨gb143, 0, none⟩ = some (.int .i64 0) := (blk_cell BK143.out 0).trans rfl
                  have hcz13_1 : w7.cell? ⟨gb143, 1, none⟩ = some (.int .i64 0) := (blk_cell BK143.out 1).trans rfl
                  have hcz13_2 : w7.cell? ⟨gb143, 2, none⟩ = some (.int .u64 0) := (blk_cell BK143.out 2).trans rfl
                  have hcz13_3 : w7.cell? ⟨gb143, 3, none⟩ = some (.slice none 0 0) := (blk_cell BK143.out 3).trans rfl
                  have hfz13_0 := blk_frozen BK143.out 0
                  have hfz13_1 := blk_frozen BK143.out 1
                  have hfz13_2 := blk_frozen BK143.out 2
                  have hfz13_3 := blk_frozen BK143.out 3
                  generalize hwq_ : World.drewN _ _ = wq
                  have Qgb139 : Aside0 (wq.heap[gb139]? = some (.cells #[.int .i64 0, .int .i64 0, .int .u64 0, (.slice none 0 0)] 25 (0, 0))) := ⟨by rw [← hwq_]; (with_reducible repeat (first | refine blk_drewN ?_ _ | refine blk_drew ?_ | refine blk_alloc ?_ _)); refine blk_far ?_ NB139_143.out _; (with_reducible repeat (first | refine blk_drewN ?_ _ | refine blk_drew ?_ | refine blk_alloc ?_ _)); refine blk_far ?_ NB139_143.out _; (with_reducible repeat (first | refine blk_drewN ?_ _ | refine blk_drew ?_ | refine blk_alloc ?_ _)); refine blk_far ?_ NB139_143.out _; (with_reducible repeat (first | refine blk_drewN ?_ _ | refine blk_drew ?_ | refine blk_alloc ?_ _)); refine blk_far ?_ NB139_143.out _; (with_reducible repeat (first | refine blk_drewN ?_ _ | refine blk_drew ?_ | refine blk_alloc ?_ _)); exact BK139.out⟩
                  have Qgb143 : Aside0 (wq.heap[gb143]? = some (.cells #[.int .i64 (wrap64 (t140 / 8)), .int .i64 (wrap64 (Go.bits .and .u64 t140 7)), .int .u64 0, (.slice none 0 0)] 25 (0, 0))) := ⟨by rw [← hwq_]; (with_reducible repeat (first | refine blk_drewN ?_ _ | refine blk_drew ?_ | refine blk_alloc ?_ _)); refine blk_put (cs := #[.int .i64 (wrap64 (t140 / 8)), .int .i64 (wrap64 (Go.bits .and .u64 t140 7)), .int .u64 0, .slice none 0 0]) ?_ 3 _ rfl; (with_reducible repeat (first | refine blk_drewN ?_ _ | refine blk_drew ?_ | refine blk_alloc ?_ _)); refine blk_put (cs := #[.int .i64 (wrap64 (t140 / 8)), .int .i64 (wrap64 (Go.bits .and .u64 t140 7)), .int .u64 0, .slice none 0 0]) ?_ 2 _ rfl; (with_reducible repeat (first | refine blk_drewN ?_ _ | refine blk_drew ?_ | refine blk_alloc ?_ _)); refine blk_put (cs := #[.int .i64 (wrap64 (t140 / 8)), .int .i64 0, .int .u64 0, .slice none 0 0]) ?_ 1 _ rfl; (with_reducible repeat (first | refine blk_drewN ?_ _ | refine blk_drew ?_ | refine blk_alloc ?_ _)); refine blk_put (cs := #[.int .i64 0, .int .i64 0, .int .u64 0, .slice none 0 0]) ?_ 0 _ rfl; (with_reducible repeat (first | refine blk_drewN ?_ _ | refine blk_drew ?_ | refine blk_alloc ?_ _)); exact BK143.out⟩
                  have QHB : Aside0 (Below w.heap.size w wq) := ⟨by rw [← hwq_]; repeat (first | (with_reducible first | exact HB.out | apply below_alloc | apply pw_below_drewN | apply below_drew1 | refine below_set ?_ GE139.out | refine below_set ?_ GE143.out) | exact HB.out)⟩
                  clear hwq_
                  have Qcgb139_0 := (blk_cell Qgb139.out 0).trans rfl
                  have Qcgb139_1 := (blk_cell Qgb139.out 1).trans rfl
                  have Qcgb139_2 := (blk_cell Qgb139.out 2).trans rfl
                  have Qcgb139_3 := (blk_cell Qgb139.out 3).trans rfl
                  have Qcgb143_0 := (blk_cell Qgb143.out 0).trans rfl
                  have Qcgb143_1 := (blk_cell Qgb143.out 1).trans rfl
                  have Qcgb143_2 := (blk_cell Qgb143.out 2).trans rfl
                  have Qcgb143_3 := (blk_cell Qgb143.out 3).trans rfl
                  go_wp2
                  go_meet
                  case rel => exact ⟨_, (true), (by first | rfl | (simp; done) | (simp [*]; done)), H', ⟨by first | omega | exact Nat.le_refl _⟩, ⟨by (with_reducible repeat (first | refine blk_drewN ?_ _ | refine blk_drew ?_ | refine blk_alloc ?_ _)); exact Qgb139.out⟩, ⟨by (with_reducible repeat (first | refine blk_drewN ?_ _ | refine blk_drew ?_ | refine blk_alloc ?_ _)); exact Qgb143.out⟩, ⟨by repeat (first | (with_reducible first | exact QHB.out | apply below_alloc | apply pw_below_drewN | apply below_drew1) | exact QHB.out)⟩⟩
            · as_aux_lemma =>
                rw [if_neg c11] at H
                have c11b0 : ((wrap64 (t140 / 8)) == 0) = false := beq_eq_false_iff_ne.mpr c11
                have c11b1 : ((wrap64 (t140 / 8)) != 0) = true := bne_iff_ne.mpr c11
                as_aux_lemma =>
                  have H' := Aside0.mk H
                  clear H
                  have hnb14 := NB143_139.out
                  have hnc14 := NB139_143.out
                  have hcz15_0 : w7.cell? ⟨gb143, 0, none⟩ = some (.int .i64 0) := (blk_cell BK143.out 0).trans rfl
                  have hcz15_1 : w7.cell? ⟨gb143, 1, none⟩ = some (.int .i64 0) := (blk_cell BK143.out 1).trans rfl
                  have hcz15_2 : w7.cell? ⟨gb143, 2, none⟩ = some (.int .u64 0) := (blk_cell BK143.out 2).trans rfl
                  have hcz15_3 : w7.cell? ⟨gb143, 3, none⟩ = some (.slice none 0 0) := (blk_cell BK143.out 3).trans rfl
                  have hfz15_0 := blk_frozen BK143.out 0
                  have hfz15_1 := blk_frozen BK143.out 1
                  have hfz15_2 := blk_frozen BK143.out 2
                  have hfz15_3 := blk_frozen BK143.out 3
                  generalize hwq_ : World.drewN _ _ = wq
                  have Qgb139 : Aside0 (wq.heap[gb139]? = some (.cells #[.int .i64 0, .int .i64 0, .int .u64 0, (.slice none 0 0)] 25 (0, 0))) := ⟨by rw [← hwq_]; (with_reducible repeat (first | refine blk_drewN ?_ _ | refine blk_drew ?_ | refine blk_alloc ?_ _)); refine blk_far ?_ NB139_143.out _; (with_reducible repeat (first | refine blk_drewN ?_ _ | refine blk_drew ?_ | refine blk_alloc ?_ _)); refine blk_far ?_ NB139_143.out _; (with_reducible repeat (first | refine blk_drewN ?_ _ | refine blk_drew ?_ | refine blk_alloc ?_ _)); refine blk_far ?_ NB139_143.out _; (with_reducible repeat (first | refine blk_drewN ?_ _ | refine blk_drew ?_ | refine blk_alloc ?_ _)); refine blk_far ?_ NB139_143.out _; (with_reducible repeat (first | refine blk_drewN ?_ _ | refine blk_drew ?_ | refine blk_alloc ?_ _)); exact BK139.out⟩
                  have Qgb143 : Aside0 (wq.heap[gb143]? = some (.cells #[.int .i64 (wrap64 (t140 / 8)), .int .i64 (wrap64 (Go.bits .and .u64 t140 7)), .int .u64 0, (.slice none 0 0)] 25 (0, 0))) := ⟨by rw [← hwq_]; (with_reducible repeat (first | refine blk_drewN ?_ _ | refine blk_drew ?_ | refine blk_alloc ?_ _)); refine blk_put (cs := #[.int .i64 (wrap64 (t140 / 8)), .int .i64 (wrap64 (Go.bits .and .u64 t140 7)), .int .u64 0, .slice none 0 0]) ?_ 3 _ rfl; (with_reducible repeat (first | refine blk_drewN ?_ _ | refine blk_drew ?_ | refine blk_alloc ?_ _)); refine blk_put (cs := #[.int .i64 (wrap64 (t140 / 8)), .int .i64 (wrap64 (Go.bits .and .u64 t140 7)), .int .u64 0, .slice none 0 0]) ?_ 2 _ rfl; (with_reducible repeat (first | refine blk_drewN ?_ _ | refine blk_drew ?_ | refine blk_alloc ?_ _)); refine blk_put (cs := #[.int .i64 (wrap64 (t140 / 8)), .int .i64 0, .int .u64 0, .slice none 0 0]) ?_ 1 _ rfl; (with_reducible repeat (first | refine blk_drewN ?_ _ | refine blk_drew ?_ | refine blk_alloc ?_ _)); refine blk_put (cs := #[.int .i64 0, .int .i64 0, .int .u64 0, .slice none 0 0]) ?_ 0 _ rfl; (with_reducible repeat (first | refine blk_drewN ?_ _ | refine blk_drew ?_ | refine blk_alloc ?_ _)); exact BK143.out⟩
                  have QHB : Aside0 (Below w.heap.size w wq) := ⟨by rw [← hwq_]; repeat (first | (with_reducible first | exact HB.out | apply below_alloc | apply pw_below_drewN | apply below_drew1 | refine below_set ?_ GE139.out | refine below_set ?_ GE143.out) | exact HB.out)⟩
                  clear hwq_
                  have Qcgb139_0 := (blk_cell Qgb139.out 0).trans rfl
                  have Qcgb139_1 := (blk_cell Qgb139.out 1).trans rfl
                  have Qcgb139_2 := (blk_cell Qgb139.out 2).trans rfl
                  have Qcgb139_3 := (blk_cell Qgb139.out 3).trans rfl
                  have Qcgb143_0 := (blk_cell Qgb143.out 0).trans rfl
                  have Qcgb143_1 := (blk_cell Qgb143.out 1).trans rfl
                  have Qcgb143_2 := (blk_cell Qgb143.out 2).trans rfl
                  have Qcgb143_3 := (blk_cell Qgb143.out 3).trans rfl
                  go_wp2
                  go_meet
                  case rel => exact ⟨_, (!t145), (by first | rfl | (simp; done) | (simp [*]; done)), H', ⟨by first | omega | exact Nat.le_refl _⟩, ⟨by (with_reducible repeat (first | refine blk_drewN ?_ _ | refine blk_drew ?_ | refine blk_alloc ?_ _)); exact Qgb139.out⟩, ⟨by (with_reducible repeat (first | refine blk_drewN ?_ _ | refine blk_drew ?_ | refine blk_alloc ?_ _)); exact Qgb143.out⟩, ⟨by repeat (first | (with_reducible first | exact QHB.out | apply below_alloc | apply pw_below_drewN | apply below_drew1) | exact QHB.out)⟩⟩
        · as_aux_lemma =>
            rw [if_neg c10] at H
            have c10b0 : ((t140 / 4294967296) == 0) = false := beq_eq_false_iff_ne.mpr c10
            have c10b1 : ((t140 / 4294967296) != 0) = true := bne_iff_ne.mpr c10
            (first | rw [c10b0] | (simp only [i64_w, i32_w]; rw [c10b0]) | skip)
            as_aux_lemma =>
              have H' := Aside0.mk H
              clear H
              generalize hwq_ : World.drewN _ _ = wq
              have Qgb139 : Aside0 (wq.heap[gb139]? = some (.cells #[.int .i64 0, .int .i64 0, .int .u64 0, (.slice none 0 0)] 25 (0, 0))) := ⟨by rw [← hwq_]; (with_reducible repeat (first | refine blk_drewN ?_ _ | refine blk_drew ?_ | refine blk_alloc ?_ _)); refine blk_far ?_ NB139_143.out _; (with_reducible repeat (first | refine blk_drewN ?_ _ | refine blk_drew ?_ | refine blk_alloc ?_ _)); refine blk_far ?_ NB139_143.out _; (with_reducible repeat (first | refine blk_drewN ?_ _ | refine blk_drew ?_ | refine blk_alloc ?_ _)); refine blk_far ?_ NB139_143.out _; (with_reducible repeat (first | refine blk_drewN ?_ _ | refine blk_drew ?_ | refine blk_alloc ?_ _)); refine blk_far ?_ NB139_143.out _; (with_reducible repeat (first | refine blk_drewN ?_ _ | refine blk_drew ?_ | refine blk_alloc ?_ _)); exact BK139.out⟩
              have Qgb143 : Aside0 (wq.heap[gb143]? = some (.cells #[.int .i64 (wrap64 (t140 / 8)), .int .i64 (wrap64 (Go.bits .and .u64 t140 7)), .int .u64 0, (.slice none 0 0)] 25 (0, 0))) := ⟨by rw [← hwq_]; (with_reducible repeat (first | refine blk_drewN ?_ _ | refine blk_drew ?_ | refine blk_alloc ?_ _)); refine blk_put (cs := #[.int .i64 (wrap64 (t140 / 8)), .int .i64 (wrap64 (Go.bits .and .u64 t140 7)), .int .u64 0, .slice none 0 0]) ?_ 3 _ rfl; (with_reducible repeat (first | refine blk_drewN ?_ _ | refine blk_drew ?_ | refine blk_alloc ?_ _)); refine blk_put (cs := #[.int .i64 (wrap64 (t140 / 8)), .int .i64 (wrap64 (Go.bits .and .u64 t140 7)), .int .u64 0, .slice none 0 0]) ?_ 2 _ rfl; (with_reducible repeat (first | refine blk_drewN ?_ _ | refine blk_drew ?_ | refine blk_alloc ?_ _)); refine blk_put (cs := #[.int .i64 (wrap64 (t140 / 8)), .int .i64 0, .int .u64 0, .slice none 0 0]) ?_ 1 _ rfl; (with_reducible repeat (first | refine blk_drewN ?_ _ | refine blk_drew ?_ | refine blk_alloc ?_ _)); refine blk_put (cs := #[.int .i64 0, .int .i64 0, .int .u64 0, .slice none 0 0]) ?_ 0 _ rfl; (with_reducible repeat (first | refine blk_drewN ?_ _ | refine blk_drew ?_ | refine blk_alloc ?_ _)); exact BK143.out⟩
              have QHB : Aside0 (Below w.heap.size w wq) := ⟨by rw [← hwq_]; repeat (first | (with_reducible first | exact HB.out | apply below_alloc | apply pw_below_drewN | apply below_drew1 | refine below_set ?_ GE139.out | refine below_set ?_ GE143.out) | exact HB.out)⟩
              clear hwq_
              have Qcgb139_0 := (blk_cell Qgb139.out 0).trans rfl
              have Qcgb139_1 := (blk_cell Qgb139.out 1).trans rfl
              have Qcgb139_2 := (blk_cell Qgb139.out 2).trans rfl
              have Qcgb139_3 := (blk_cell Qgb139.out 3).trans rfl
              have Qcgb143_0 := (blk_cell Qgb143.out 0).trans rfl
              have Qcgb143_1 := (blk_cell Qgb143.out 1).trans rfl
              have Qcgb143_2 := (blk_cell Qgb143.out 2).trans rfl
              have Qcgb143_3 := (blk_cell Qgb143.out 3).trans rfl
              go_wp2
              go_meet
              case rel => exact ⟨_, (true), (by first | rfl | (simp; done) | (simp [*]; done)), H', ⟨by first | omega | exact Nat.le_refl _⟩, ⟨by (with_reducible repeat (first | refine blk_drewN ?_ _ | refine blk_drew ?_ | refine blk_alloc ?_ _)); exact Qgb139.out⟩, ⟨by (with_reducible repeat (first | refine blk_drewN ?_ _ | refine blk_drew ?_ | refine blk_alloc ?_ _)); exact Qgb143.out⟩, ⟨by repeat (first | (with_reducible first | exact QHB.out | apply below_alloc | apply pw_below_drewN | apply below_drew1) | exact QHB.out)⟩⟩
      case rest =>
        clear HC5
        try clear c1
        try clear c2
        try clear p2
        try clear c3
        try clear c3b0
        try clear c3b1
        try clear p6
        try clear c8
        try clear c10
        try clear c10b0
        try clear c10b1
        try clear c11
        try clear c11b0
        try clear c11b1
        try clear c12
        try clear c14
        try clear hcz13_0
        try clear hcz13_1
        try clear hcz13_2
        try clear hcz13_3
        try clear hcz15_0
        try clear hcz15_1
        try clear hcz15_2
        try clear hcz15_3
        try clear hcz9_0
        try clear hcz9_1
        try clear hcz9_2
        try clear hcz9_3
        try clear hfz13_0
        try clear hfz13_1
        try clear hfz13_2
        try clear hfz13_3
        try clear hfz15_0
        try clear hfz15_1
        try clear hfz15_2
        try clear hfz15_3
        try clear hfz9_0
        try clear hfz9_1
        try clear hfz9_2
        try clear hfz9_3
        obtain ⟨kq, x48_4, rfl, HA, HJ4, BK139, BK143, HB⟩ := hcut
        cases kq with
        | zero => exact absurd HA.out (by simp [wire_Take.j0])
        | succ kj4 =>
          have H := HA.out
          clear HA
          simp only [wire_Take.j0] at H
          by_cases c16 : x48_4 = true
          · subst c16
            have H1 : (some (0, 0, 0, ([] : List Int), 0, 20)) = some (r1, r2, r3, r4, r5, r6) := by rw [if_pos rfl] at H; exact H
            clear H
            have H := H1
            clear H1
            as_aux_lemma =>
              simp only [Option.some.injEq, Prod.mk.injEq] at H
              obtain ⟨rfl, rfl, rfl, rfl, rfl, rfl⟩ := H
              have hnb17 := NB139_143.out
              have hnc17 := NB143_139.out
              have hcz18_0 : wc.cell? ⟨gb139, 0, none⟩ = some (.int .i64 0) := (blk_cell BK139.out 0).trans rfl
              have hcz18_1 : wc.cell? ⟨gb139, 1, none⟩ = some (.int .i64 0) := (blk_cell BK139.out 1).trans rfl
              have hcz18_2 : wc.cell? ⟨gb139, 2, none⟩ = some (.int .u64 0) := (blk_cell BK139.out 2).trans rfl
              have hcz18_3 : wc.cell? ⟨gb139, 3, none⟩ = some (.slice none 0 0) := (blk_cell BK139.out 3).trans rfl
              have hfz18_0 := blk_frozen BK139.out 0
              have hfz18_1 := blk_frozen BK139.out 1
              have hfz18_2 := blk_frozen BK139.out 2
              have hfz18_3 := blk_frozen BK139.out 3
              go_wp2
              refine bodyPost_ret (results_ctt rfl _ _ gb139 25 #[.int .i64 0, .int .i64 0, .int .u64 0, .slice none 0 0] (0, 0) _ rfl (by (with_reducible repeat (first | refine blk_drewN ?_ _ | refine blk_drew ?_ | refine blk_alloc ?_ _)); refine blk_put (cs := #[.int .i64 0, .int .i64 0, .int .u64 0, .slice none 0 0]) ?_ 3 _ rfl; (with_reducible repeat (first | refine blk_drewN ?_ _ | refine blk_drew ?_ | refine blk_alloc ?_ _)); refine blk_put (cs := #[.int .i64 0, .int .i64 0, .int .u64 0, .slice none 0 0]) ?_ 2 _ rfl; (with_reducible repeat (first | refine blk_drewN ?_ _ | refine blk_drew ?_ | refine blk_alloc ?_ _)); refine blk_put (cs := #[.int .i64 0, .int .i64 0, .int .u64 0, .slice none 0 0]) ?_ 1 _ rfl; (with_reducible repeat (first | refine blk_drewN ?_ _ | refine blk_drew ?_ | refine blk_alloc ?_ _)); refine blk_put (cs := #[.int .i64 0, .int .i64 0, .int .u64 0, .slice none 0 0]) ?_ 0 _ rfl; (with_reducible repeat (first | refine blk_drewN ?_ _ | refine blk_drew ?_ | refine blk_alloc ?_ _)); exact BK139.out) Try.underlying25 rfl (by kernel_rfl)) rfl ?_
              exact ⟨_, by first | rfl | (simp [errW_none, errW_some] <;> rfl) | (simp [*, errW_none, errW_some] <;> rfl), by first | exact Kd.R_nil _ _ _ _ _ | exact Kd.N_nil _ _ _ _ _ | exact Kd.V_nil _ _ _ _ _ | exact Kd.Q_nil _ _ _ _ _ | exact Kd.S_nil _ _ _ _ _, by repeat (first | (with_reducible first | exact HB.out | apply below_alloc | apply pw_below_drewN | apply below_drew1 | refine below_set ?_ GE139.out | refine below_set ?_ GE143.out) | exact HB.out)⟩
          · replace c16 := Bool.eq_false_iff.mpr c16
            subst c16
            have H1 : (if 0 ≤ t141 then (if t141 ≤ (l0.length : Int) then ((some (l0.drop (t141 : Int).toNat : List Int)).bind fun y146 => (if t144 > 0 then (if (y146.length : Int) < t144 then (some (0, 0, 0, ([] : List Int), 0, 21)) else (if 0 ≤ t144 then (if t144 ≤ (y146.length : Int) then ((varint_Unfixed.f kj4 (y146.take (t144 : Int).toNat)).bind fun t154 => (some ((wrap64 (t140 / 8)), (wrap64 (Go.bits .and .u64 t140 7)), t154, ([] : List Int), wrap64 (t141 + t144), 0))) else (none)) else (none))) else ((varint_Take.f kj4 y146).bind fun bt155 => (if bt155.2.2 = 0 then (if (wrap64 (Go.bits .and .u64 t140 7)) = 0 then (some ((wrap64 (t140 / 8)), (wrap64 (Go.bits .and .u64 t140 7)), bt155.1, ([] : List Int), wrap64 (t141 + bt155.2.1), 0)) else (if bt155.1 > (IntKind.u64.wrap (wrap64 ((y146.length : Int) - bt155.2.1))) then (some (0, 0, 0, ([] : List Int), 0, 21)) else (if 0 ≤ bt155.2.1 then (if bt155.2.1 ≤ (wrap64 (bt155.2.1 + (wrap64 (bt155.1)))) then (if (wrap64 (bt155.2.1 + (wrap64 (bt155.1)))) ≤ (y146.length : Int) then ((bytes_Clone.f ((y146.take ((wrap64 (bt155.2.1 + (wrap64 (bt155.1)))) : Int).toNat).drop (bt155.2.1 : Int).toNat)).bind fun t162 => (some ((wrap64 (t140 / 8)), (wrap64 (Go.bits .and .u64 t140 7)), 0, t162, wrap64 ((wrap64 (t141 + bt155.2.1)) + (wrap64 (bt155.1))), 0))) else (none)) else (none)) else (none)))) else (some (0, 0, 0, ([] : List Int), 0, bt155.2.2)))))) else (none)) else (none)) = some (r1, r2, r3, r4, r5, r6) := by rw [if_neg (show ¬ (false = true) by decide)] at H; exact H
            clear H
            have H := H1
            clear H1
            by_cases c19 : 0 ≤ t141
            · as_aux_lemma =>
                rw [if_pos c19] at H
                have c19b0 := eq_true c19
                have c19b1 : decide (0 ≤ t141) = true := decide_eq_true c19
                clear c19
                by_cases c20 : t141 ≤ (l0.length : Int)
                · as_aux_lemma =>
                    rw [if_pos c20] at H
                    have c20b0 := eq_true c20
                    have c20b1 : decide (t141 ≤ (l0.length : Int)) = true := decide_eq_true c20
                    clear c20
                    obtain ⟨y146, hy146⟩ : ∃ y_ : List Int, y_ = (l0.drop (t141 : Int).toNat) := ⟨_, rfl⟩
                    replace H : (if t144 > 0 then (if (y146.length : Int) < t144 then (some (0, 0, 0, ([] : List Int), 0, 21)) else (if 0 ≤ t144 then (if t144 ≤ (y146.length : Int) then ((varint_Unfixed.f kj4 (y146.take (t144 : Int).toNat)).bind fun t154 => (some ((wrap64 (t140 / 8)), (wrap64 (Go.bits .and .u64 t140 7)), t154, ([] : List Int), wrap64 (t141 + t144), 0))) else (none)) else (none))) else ((varint_Take.f kj4 y146).bind fun bt155 => (if bt155.2.2 = 0 then (if (wrap64 (Go.bits .and .u64 t140 7)) = 0 then (some ((wrap64 (t140 / 8)), (wrap64 (Go.bits .and .u64 t140 7)), bt155.1, ([] : List Int), wrap64 (t141 + bt155.2.1), 0)) else (if bt155.1 > (IntKind.u64.wrap (wrap64 ((y146.length : Int) - bt155.2.1))) then (some (0, 0, 0, ([] : List Int), 0, 21)) else (if 0 ≤ bt155.2.1 then (if bt155.2.1 ≤ (wrap64 (bt155.2.1 + (wrap64 (bt155.1)))) then (if (wrap64 (bt155.2.1 + (wrap64 (bt155.1)))) ≤ (y146.length : Int) then ((bytes_Clone.f ((y146.take ((wrap64 (bt155.2.1 + (wrap64 (bt155.1)))) : Int).toNat).drop (bt155.2.1 : Int).toNat)).bind fun t162 => (some ((wrap64 (t140 / 8)), (wrap64 (Go.bits .and .u64 t140 7)), 0, t162, wrap64 ((wrap64 (t141 + bt155.2.1)) + (wrap64 (bt155.1))), 0))) else (none)) else (none)) else (none)))) else (some (0, 0, 0, ([] : List Int), 0, bt155.2.2))))) = some (r1, r2, r3, r4, r5, r6) := by first | (rw [hy146]; with_reducible exact H) | (have H2_ := (Option.bind_some _ _).symm.trans H; rw [hy146]; with_reducible exact H2_) | (have H2_ := (Option.bind_some _ _).symm.trans H; with_reducible exact H2_) | with_reducible exact H | (rw [hy146]; exact H) | exact H
                    have Ny146 := Aside0.mk hy146
                    clear hy146
                    by_cases c21 : t144 > 0
                    · as_aux_lemma =>
                        rw [if_pos c21] at H
                        have c21b0 : decide (0 < t144) = true := decide_eq_true c21
                        clear c21
                        by_cases c22 : (y146.length : Int) < t144
                        · as_aux_lemma =>
                            rw [if_pos c22] at H
                            have c22b0 : decide ((y146.length : Int) < t144) = true := decide_eq_true c22
                            clear c22
                            as_aux_lemma =>
                              simp only [Option.some.injEq, Prod.mk.injEq] at H
                              obtain ⟨rfl, rfl, rfl, rfl, rfl, rfl⟩ := H
                              have q23 : (t141 : Int) ≤ ((l0.length : Int) : Int) := of_decide_eq_true (by first | (with_reducible assumption) | assumption)
                              obtain ⟨i023, hi023, _, hsz23, _⟩ := info_parts info5
                              have hroom23 : l0.length ≤ c0 := HC0.out
                              have hC23 : Kd.C (Kd.int .u8) _ A0 l0.length l0 := HR0.out
                              have q023 : (0 : Int) ≤ (t141 : Int) := of_decide_eq_true (by first | (with_reducible assumption) | assumption)
                              have hcut23 := cut_from (P := Try.prog) 23 5 .i64 Try.underlying23 hi023 1 hsz23 A0 l0.length c0 t141 q023 q23
                              have hr23 := Kd.C_drop (m := (t141 : Int).toNat) (c := c0) hC23 (by omega) hroom23
                              obtain ⟨A23, hA23⟩ : ∃ A1, A1 = (if c0 = (t141 : Int).toNat then A0 else (A0 : Option Addr).map (·.add ((t141 : Int).toNat * 1))) := ⟨_, rfl⟩
                              obtain ⟨c23, hc23⟩ : ∃ c1, c1 = c0 - (t141 : Int).toNat := ⟨_, rfl⟩
                              have hy23 : y146.length = l0.length - (t141 : Int).toNat := (by rw [Ny146.out, List.length_drop] <;> omega)
                              rw [show (l0).drop (t141 : Int).toNat = y146 from Ny146.out.symm] at hr23
                              replace hr23 : Kd.C (Kd.int .u8) _ A23 y146.length y146 := (by rw [hA23]; exact hr23)
                              rw [← hy23, ← hA23, ← hc23] at hcut23
                              have HR149 := Aside0.mk hr23
                              have HC149 := Aside0.mk (show y146.length ≤ c23 from by rw [hy23, hc23]; exact Nat.sub_le_sub_right hroom23 _)
                              clear hr23 hC23 hroom23 hi023 hsz23 hc23
                              have KY23 := Aside0.mk hy23
                              have KA23 := Aside0.mk hA23
                              clear hy23 hA23
                              replace q23 := eq_true q23
                              have hnb24 := NB139_143.out
                              have hnc24 := NB143_139.out
                              have hcz25_0 : wc.cell? ⟨gb139, 0, none⟩ = some (.int .i64 0) := (blk_cell BK139.out 0).trans rfl
                              have hcz25_1 : wc.cell? ⟨gb139, 1, none⟩ = some (.int .i64 0) := (blk_cell BK139.out 1).trans rfl
                              have hcz25_2 : wc.cell? ⟨gb139, 2, none⟩ = some (.int .u64 0) := (blk_cell BK139.out 2).trans rfl
                              have hcz25_3 : wc.cell? ⟨gb139, 3, none⟩ = some (.slice none 0 0) := (blk_cell BK139.out 3).trans rfl
                              have hfz25_0 := blk_frozen BK139.out 0
                              have hfz25_1 := blk_frozen BK139.out 1
                              have hfz25_2 := blk_frozen BK139.out 2
                              have hfz25_3 := blk_frozen BK139.out 3
                              go_wp2
                              refine bodyPost_ret (results_ctt rfl _ _ gb139 25 #[.int .i64 0, .int .i64 0, .int .u64 0, .slice none 0 0] (0, 0) _ rfl (by (with_reducible repeat (first | refine blk_drewN ?_ _ | refine blk_drew ?_ | refine blk_alloc ?_ _)); refine blk_put (cs := #[.int .i64 0, .int .i64 0, .int .u64 0, .slice none 0 0]) ?_ 3 _ rfl; (with_reducible repeat (first | refine blk_drewN ?_ _ | refine blk_drew ?_ | refine blk_alloc ?_ _)); refine blk_put (cs := #[.int .i64 0, .int .i64 0, .int .u64 0, .slice none 0 0]) ?_ 2 _ rfl; (with_reducible repeat (first | refine blk_drewN ?_ _ | refine blk_drew ?_ | refine blk_alloc ?_ _)); refine blk_put (cs := #[.int .i64 0, .int .i64 0, .int .u64 0, .slice none 0 0]) ?_ 1 _ rfl; (with_reducible repeat (first | refine blk_drewN ?_ _ | refine blk_drew ?_ | refine blk_alloc ?_ _)); refine blk_put (cs := #[.int .i64 0, .int .i64 0, .int .u64 0, .slice none 0 0]) ?_ 0 _ rfl; (with_reducible repeat (first | refine blk_drewN ?_ _ | refine blk_drew ?_ | refine blk_alloc ?_ _)); exact BK139.out) Try.underlying25 rfl (by kernel_rfl)) rfl ?_
                              exact ⟨_, by first | rfl | (simp [errW_none, errW_some] <;> rfl) | (simp [*, errW_none, errW_some] <;> rfl), by first | exact Kd.R_nil _ _ _ _ _ | exact Kd.N_nil _ _ _ _ _ | exact Kd.V_nil _ _ _ _ _ | exact Kd.Q_nil _ _ _ _ _ | exact Kd.S_nil _ _ _ _ _, by repeat (first | (with_reducible first | exact HB.out | apply below_alloc | apply pw_below_drewN | apply below_drew1 | refine below_set ?_ GE139.out | refine below_set ?_ GE143.out) | exact HB.out)⟩
                        · as_aux_lemma =>
                            rw [if_neg c22] at H
                            have c22b0 : decide ((y146.length : Int) < t144) = false := decide_eq_false c22
                            clear c22
                            by_cases c26 : 0 ≤ t144
                            · as_aux_lemma =>
                                rw [if_pos c26] at H
                                have c26b0 := eq_true c26
                                have c26b1 : decide (0 ≤ t144) = true := decide_eq_true c26
                                clear c26
                                by_cases c27 : t144 ≤ (y146.length : Int)
                                · as_aux_lemma =>
                                    rw [if_pos c27] at H
                                    have c27b0 := eq_true c27
                                    have c27b1 : decide (t144 ≤ (y146.length : Int)) = true := decide_eq_true c27
                                    clear c27
                                    obtain ⟨y150, hy150⟩ : ∃ y_ : List Int, y_ = (y146.take (t144 : Int).toNat) := ⟨_, rfl⟩
                                    replace H : ((varint_Unfixed.f kj4 y150).bind fun t154 => (some ((wrap64 (t140 / 8)), (wrap64 (Go.bits .and .u64 t140 7)), t154, ([] : List Int), wrap64 (t141 + t144), 0))) = some (r1, r2, r3, r4, r5, r6) := by first | (rw [hy150]; with_reducible exact H) | (have H2_ := (Option.bind_some _ _).symm.trans H; rw [hy150]; with_reducible exact H2_) | (have H2_ := (Option.bind_some _ _).symm.trans H; with_reducible exact H2_) | with_reducible exact H | (rw [hy150]; exact H) | exact H
                                    have Ny150 := Aside0.mk hy150
                                    clear hy150
                                    replace H := Option.bind_eq_some_iff.mp H
                                    obtain ⟨t154, A280, H⟩ := H
                                    replace H : (some ((wrap64 (t140 / 8)), (wrap64 (Go.bits .and .u64 t140 7)), t154, ([] : List Int), wrap64 (t141 + t144), 0)) = some (r1, r2, r3, r4, r5, r6) := H
                                    have A28 := Aside0.mk A280
                                    clear A280
                                    as_aux_lemma =>
                                      simp only [Option.some.injEq, Prod.mk.injEq] at H
                                      obtain ⟨rfl, rfl, rfl, rfl, rfl, rfl⟩ := H
                                      have q29 : (t141 : Int) ≤ ((l0.length : Int) : Int) := of_decide_eq_true (by first | (with_reducible assumption) | assumption)
                                      obtain ⟨i029, hi029, _, hsz29, _⟩ := info_parts info5
                                      have hroom29 : l0.length ≤ c0 := HC0.out
                                      have hC29 : Kd.C (Kd.int .u8) _ A0 l0.length l0 := HR0.out
                                      have q029 : (0 : Int) ≤ (t141 : Int) := of_decide_eq_true (by first | (with_reducible assumption) | assumption)
                                      have hcut29 := cut_from (P := Try.prog) 23 5 .i64 Try.underlying23 hi029 1 hsz29 A0 l0.length c0 t141 q029 q29
                                      have hr29 := Kd.C_drop (m := (t141 : Int).toNat) (c := c0) hC29 (by omega) hroom29
                                      obtain ⟨A29, hA29⟩ : ∃ A1, A1 = (if c0 = (t141 : Int).toNat then A0 else (A0 : Option Addr).map (·.add ((t141 : Int).toNat * 1))) := ⟨_, rfl⟩
                                      obtain ⟨c29, hc29⟩ : ∃ c1, c1 = c0 - (t141 : Int).toNat := ⟨_, rfl⟩
                                      have hy29 : y146.length = l0.length - (t141 : Int).toNat := (by rw [Ny146.out, List.length_drop] <;> omega)
                                      rw [show (l0).drop (t141 : Int).toNat = y146 from Ny146.out.symm] at hr29
                                      replace hr29 : Kd.C (Kd.int .u8) _ A29 y146.length y146 := (by rw [hA29]; exact hr29)
                                      rw [← hy29, ← hA29, ← hc29] at hcut29
                                      have HR149 := Aside0.mk hr29
                                      have HC149 := Aside0.mk (show y146.length ≤ c29 from by rw [hy29, hc29]; exact Nat.sub_le_sub_right hroom29 _)
                                      clear hr29 hC29 hroom29 hi029 hsz29 hc29
                                      have KY29 := Aside0.mk hy29
                                      have KA29 := Aside0.mk hA29
                                      clear hy29 hA29
                                      replace q29 := eq_true q29
                                      have q30 : (t144 : Int) ≤ ((y146.length : Int) : Int) := of_decide_eq_true (by first | (with_reducible assumption) | assumption)
                                      obtain ⟨i030, hi030, _, hsz30, _⟩ := info_parts info5
                                      have hroom30 : y146.length ≤ c29 := HC149.out
                                      have hC30 : Kd.C (Kd.int .u8) _ A29 y146.length y146 := HR149.out
                                      have hcut30 := cut_to (P := Try.prog) 23 5 .i64 Try.underlying23 hi030 A29 y146.length c29 t144 (of_decide_eq_true (by first | (with_reducible assumption) | assumption)) q30 hroom30
                                      have hr30 := Kd.C_take (m := (t144 : Int).toNat) hC30 (by omega)
                                      have hy30 : y150.length = (t144 : Int).toNat := (by rw [Ny150.out, List.length_take]; omega)
                                      rw [← Ny150.out] at hr30
                                      rw [← hy30] at hcut30
                                      have HR153 := Aside0.mk hr30
                                      have HC153 := Aside0.mk (show y150.length ≤ c29 from by omega)
                                      clear hr30 hC30 hroom30 hi030 hsz30
                                      have KY30 := Aside0.mk hy30
                                      clear hy30
                                      replace q30 := eq_true q30
                                      go_wp2_with (first | ((with_reducible refine gate_callee (f := 32) rfl ?_); refine goesL_ (some 63) rfl rfl Try.func32 (by kernel_rfl) rfl #[.slice A29 y150.length c29] rfl (by (try simp only [List.map_toArray, List.map_cons, List.map_nil]); first | done | rfl | (simp only [List.length_drop, List.length_take]; rfl)) ?_; (with_reducible refine (varint_Unfixed.calls kj4 _ _ y150 t154 _ ?side1 ?side2 A28.out).mono ?_); (case side1 => repeat (first | exact (Kd.C_below HR153.out HB.out) | (with_reducible refine Kd.C_alloc ?_ _) | (with_reducible refine Kd.C_drewN ?_ _) | (with_reducible refine Kd.C_drew ?_))); (case side2 => exact HC153.out); rintro e w31 ⟨rfl, hb⟩; refine ⟨_, rfl, ?_⟩; have n0_ := Aside0.mk (blk_below (g := gb139) (o := .cells #[.int .i64 0, .int .i64 0, .int .u64 0, .slice none 0 0] 25 (0, 0)) (by (with_reducible repeat (first | refine blk_drewN ?_ _ | refine blk_drew ?_ | refine blk_alloc ?_ _)); exact BK139.out) hb); have n1_ := Aside0.mk (blk_below (g := gb143) (o := .cells #[.int .i64 (wrap64 (t140 / 8)), .int .i64 (wrap64 (Go.bits .and .u64 t140 7)), .int .u64 0, .slice none 0 0] 25 (0, 0)) (by (with_reducible repeat (first | refine blk_drewN ?_ _ | refine blk_drew ?_ | refine blk_alloc ?_ _)); exact BK143.out) hb); have n2_ := Aside0.mk (below_step (by repeat (first | (with_reducible first | exact HB.out | apply below_alloc | apply pw_below_drewN | apply below_drew1 | refine below_set ?_ GE139.out | refine below_set ?_ GE143.out) | exact HB.out)) hb); clear BK139; clear BK143; clear HB; have BK139 := n0_; have BK143 := n1_; have HB := n2_; clear n0_ n1_ n2_; (try clear hb); (try clear hb2); (try clear hk); (try clear hi); have hnb32 := NB143_139.out; have hnc32 := NB139_143.out; have hcz33_0 : w31.cell? ⟨gb143, 0, none⟩ = some (.int .i64 (wrap64 (t140 / 8))) := (blk_cell BK143.out 0).trans rfl; have hcz33_1 : w31.cell? ⟨gb143, 1, none⟩ = some (.int .i64 (wrap64 (Go.bits .and .u64 t140 7))) := (blk_cell BK143.out 1).trans rfl; have hcz33_2 : w31.cell? ⟨gb143, 2, none⟩ = some (.int .u64 0) := (blk_cell BK143.out 2).trans rfl; have hcz33_3 : w31.cell? ⟨gb143, 3, none⟩ = some (.slice none 0 0) := (blk_cell BK143.out 3).trans rfl; have hfz33_0 := blk_frozen BK143.out 0; have hfz33_1 := blk_frozen BK143.out 1; have hfz33_2 := blk_frozen BK143.out 2; have hfz33_3 := blk_frozen BK143.out 3; have hcz34_0 : w31.cell? ⟨gb139, 0, none⟩ = some (.int .i64 0) := (blk_cell BK139.out 0).trans rfl; have hcz34_1 : w31.cell? ⟨gb139, 1, none⟩ = some (.int .i64 0) := (blk_cell BK139.out 1).trans rfl; have hcz34_2 : w31.cell? ⟨gb139, 2, none⟩ = some (.int .u64 0) := (blk_cell BK139.out 2).trans rfl; have hcz34_3 : w31.cell? ⟨gb139, 3, none⟩ = some (.slice none 0 0) := (blk_cell BK139.out 3).trans rfl; have hfz34_0 := blk_frozen BK139.out 0; have hfz34_1 := blk_frozen BK139.out 1; have hfz34_2 := blk_frozen BK139.out 2; have hfz34_3 := blk_frozen BK139.out 3))
                                      refine bodyPost_ret (results_ctt rfl _ _ gb139 25 #[.int .i64 (wrap64 (t140 / 8)), .int .i64 (wrap64 (Go.bits .and .u64 t140 7)), .int .u64 t154, .slice none 0 0] (0, 0) _ rfl (by (with_reducible repeat (first | refine blk_drewN ?_ _ | refine blk_drew ?_ | refine blk_alloc ?_ _)); refine blk_put (cs := #[.int .i64 (wrap64 (t140 / 8)), .int .i64 (wrap64 (Go.bits .and .u64 t140 7)), .int .u64 t154, .slice none 0 0]) ?_ 3 _ rfl; (with_reducible repeat (first | refine blk_drewN ?_ _ | refine blk_drew ?_ | refine blk_alloc ?_ _)); refine blk_put (cs := #[.int .i64 (wrap64 (t140 / 8)), .int .i64 (wrap64 (Go.bits .and .u64 t140 7)), .int .u64 0, .slice none 0 0]) ?_ 2 _ rfl; (with_reducible repeat (first | refine blk_drewN ?_ _ | refine blk_drew ?_ | refine blk_alloc ?_ _)); refine blk_put (cs := #[.int .i64 (wrap64 (t140 / 8)), .int .i64 0, .int .u64 0, .slice none 0 0]) ?_ 1 _ rfl; (with_reducible repeat (first | refine blk_drewN ?_ _ | refine blk_drew ?_ | refine blk_alloc ?_ _)); refine blk_put (cs := #[.int .i64 0, .int .i64 0, .int .u64 0, .slice none 0 0]) ?_ 0 _ rfl; (with_reducible repeat (first | refine blk_drewN ?_ _ | refine blk_drew ?_ | refine blk_alloc ?_ _)); refine blk_far ?_ NB139_143.out _; (with_reducible repeat (first | refine blk_drewN ?_ _ | refine blk_drew ?_ | refine blk_alloc ?_ _)); exact BK139.out) Try.underlying25 rfl (by kernel_rfl)) rfl ?_
                                      exact ⟨_, by first | rfl | (simp [errW_none, errW_some] <;> rfl) | (simp [*, errW_none, errW_some] <;> rfl), by first | exact Kd.R_nil _ _ _ _ _ | exact Kd.N_nil _ _ _ _ _ | exact Kd.V_nil _ _ _ _ _ | exact Kd.Q_nil _ _ _ _ _ | exact Kd.S_nil _ _ _ _ _, by repeat (first | (with_reducible first | exact HB.out | apply below_alloc | apply pw_below_drewN | apply below_drew1 | refine below_set ?_ GE139.out | refine below_set ?_ GE143.out) | exact HB.out)⟩
                                · rw [if_neg c27] at H
                                  exact absurd H (by simp)
                            · rw [if_neg c26] at H
                              exact absurd H (by simp)
                    · as_aux_lemma =>
                        rw [if_neg c21] at H
                        have c21b0 : decide (0 < t144) = false := decide_eq_false c21
                        clear c21
                        replace H := Option.bind_eq_some_iff.mp H
                        obtain ⟨⟨t155, t156, t157⟩, A350, H⟩ := H
                        replace H : (if t157 = 0 then (if (wrap64 (Go.bits .and .u64 t140 7)) = 0 then (some ((wrap64 (t140 / 8)), (wrap64 (Go.bits .and .u64 t140 7)), t155, ([] : List Int), wrap64 (t141 + t156), 0)) else (if t155 > (IntKind.u64.wrap (wrap64 ((y146.length : Int) - t156))) then (some (0, 0, 0, ([] : List Int), 0, 21)) else (if 0 ≤ t156 then (if t156 ≤ (wrap64 (t156 + (wrap64 (t155)))) then (if (wrap64 (t156 + (wrap64 (t155)))) ≤ (y146.length : Int) then ((bytes_Clone.f ((y146.take ((wrap64 (t156 + (wrap64 (t155)))) : Int).toNat).drop (t156 : Int).toNat)).bind fun t162 => (some ((wrap64 (t140 / 8)), (wrap64 (Go.bits .and .u64 t140 7)), 0, t162, wrap64 ((wrap64 (t141 + t156)) + (wrap64 (t155))), 0))) else (none)) else (none)) else (none)))) else (some (0, 0, 0, ([] : List Int), 0, t157))) = some (r1, r2, r3, r4, r5, r6) := H
                        have A35 := Aside0.mk A350
                        clear A350
                        by_cases c36 : t157 = 0
                        · as_aux_lemma =>
                            rw [if_pos c36] at H
                            have c36b0 : (t157 == 0) = true := beq_iff_eq.mpr c36
                            have c36b1 : (t157 != 0) = false := bne_eq_false_iff_eq.mpr c36
                            clear c36
                            by_cases c37 : (wrap64 (Go.bits .and .u64 t140 7)) = 0
                            · as_aux_lemma =>
                                rw [if_pos c37] at H
                                have c37b0 : ((wrap64 (Go.bits .and .u64 t140 7)) == 0) = true := beq_iff_eq.mpr c37
                                have c37b1 : ((wrap64 (Go.bits .and .u64 t140 7)) != 0) = false := bne_eq_false_iff_eq.mpr c37
                                clear c37
                                as_aux_lemma =>
                                  simp only [Option.some.injEq, Prod.mk.injEq] at H
                                  obtain ⟨rfl, rfl, rfl, rfl, rfl, rfl⟩ := H
                                  have q38 : (t141 : Int) ≤ ((l0.length : Int) : Int) := of_decide_eq_true (by first | (with_reducible assumption) | assumption)
                                  obtain ⟨i038, hi038, _, hsz38, _⟩ := info_parts info5
                                  have hroom38 : l0.length ≤ c0 := HC0.out
                                  have hC38 : Kd.C (Kd.int .u8) _ A0 l0.length l0 := HR0.out
                                  have q038 : (0 : Int) ≤ (t141 : Int) := of_decide_eq_true (by first | (with_reducible assumption) | assumption)
                                  have hcut38 := cut_from (P := Try.prog) 23 5 .i64 Try.underlying23 hi038 1 hsz38 A0 l0.length c0 t141 q038 q38
                                  have hr38 := Kd.C_drop (m := (t141 : Int).toNat) (c := c0) hC38 (by omega) hroom38
                                  obtain ⟨A38, hA38⟩ : ∃ A1, A1 = (if c0 = (t141 : Int).toNat then A0 else (A0 : Option Addr).map (·.add ((t141 : Int).toNat * 1))) := ⟨_, rfl⟩
                                  obtain ⟨c38, hc38⟩ : ∃ c1, c1 = c0 - (t141 : Int).toNat := ⟨_, rfl⟩
                                  have hy38 : y146.length = l0.length - (t141 : Int).toNat := (by rw [Ny146.out, List.length_drop] <;> omega)
                                  rw [show (l0).drop (t141 : Int).toNat = y146 from Ny146.out.symm] at hr38
                                  replace hr38 : Kd.C (Kd.int .u8) _ A38 y146.length y146 := (by rw [hA38]; exact hr38)
                                  rw [← hy38, ← hA38, ← hc38] at hcut38
                                  have HR149 := Aside0.mk hr38
                                  have HC149 := Aside0.mk (show y146.length ≤ c38 from by rw [hy38, hc38]; exact Nat.sub_le_sub_right hroom38 _)
                                  clear hr38 hC38 hroom38 hi038 hsz38 hc38
                                  have KY38 := Aside0.mk hy38
                                  have KA38 := Aside0.mk hA38
                                  clear hy38 hA38
                                  replace q38 := eq_true q38
                                  go_wp2_with (first | ((with_reducible refine gate_callee (f := 31) rfl ?_); refine goesL_ (some 71) rfl rfl Try.func31 (by kernel_rfl) rfl #[.slice A38 y146.length c38] rfl (by (try simp only [List.map_toArray, List.map_cons, List.map_nil]); first | done | rfl | (simp only [List.length_drop, List.length_take]; rfl)) ?_; (with_reducible refine (varint_Take.calls kj4 _ _ y146 t155 t156 t157 _ ?side1 ?side2 A35.out).mono ?_); (case side1 => repeat (first | exact (Kd.C_below HR149.out HB.out) | (with_reducible refine Kd.C_alloc ?_ _) | (with_reducible refine Kd.C_drewN ?_ _) | (with_reducible refine Kd.C_drew ?_))); (case side2 => exact HC149.out); rintro e w' ⟨rfl, ⟨nd, rfl⟩⟩; refine ⟨_, rfl, ?_⟩; (try (rw [drewN_self wc]; generalize hq_ : World.drewN wc _ = wc; have n0_ : Aside0 (wc.heap[gb139]? = some (.cells #[.int .i64 0, .int .i64 0, .int .u64 0, .slice none 0 0] 25 (0, 0))) := ⟨by rw [← hq_]; exact (by (with_reducible repeat (first | refine blk_drewN ?_ _ | refine blk_drew ?_ | refine blk_alloc ?_ _)); exact BK139.out)⟩; have n1_ : Aside0 (wc.heap[gb143]? = some (.cells #[.int .i64 (wrap64 (t140 / 8)), .int .i64 (wrap64 (Go.bits .and .u64 t140 7)), .int .u64 0, .slice none 0 0] 25 (0, 0))) := ⟨by rw [← hq_]; exact (by (with_reducible repeat (first | refine blk_drewN ?_ _ | refine blk_drew ?_ | refine blk_alloc ?_ _)); exact BK143.out)⟩; have n2_ : Aside0 (Below w.heap.size w wc) := ⟨by rw [← hq_]; exact (by repeat (first | (with_reducible first | exact HB.out | apply below_alloc | apply pw_below_drewN | apply below_drew1 | refine below_set ?_ GE139.out | refine below_set ?_ GE143.out) | exact HB.out))⟩; clear BK139 BK143 HB hq_; have BK139 := n0_; have BK143 := n1_; have HB := n2_; clear n0_ n1_ n2_)); have hnb39 := NB143_139.out; have hnc39 := NB139_143.out; have hcz40_0 : wc.cell? ⟨gb143, 0, none⟩ = some (.int .i64 (wrap64 (t140 / 8))) := (blk_cell BK143.out 0).trans rfl; have hcz40_1 : wc.cell? ⟨gb143, 1, none⟩ = some (.int .i64 (wrap64 (Go.bits .and .u64 t140 7))) := (blk_cell BK143.out 1).trans rfl; have hcz40_2 : wc.cell? ⟨gb143, 2, none⟩ = some (.int .u64 0) := (blk_cell BK143.out 2).trans rfl; have hcz40_3 : wc.cell? ⟨gb143, 3, none⟩ = some (.slice none 0 0) := (blk_cell BK143.out 3).trans rfl; have hfz40_0 := blk_frozen BK143.out 0; have hfz40_1 := blk_frozen BK143.out 1; have hfz40_2 := blk_frozen BK143.out 2; have hfz40_3 := blk_frozen BK143.out 3; have hcz41_0 : wc.cell? ⟨gb139, 0, none⟩ = some (.int .i64 0) := (blk_cell BK139.out 0).trans rfl; have hcz41_1 : wc.cell? ⟨gb139, 1, none⟩ = some (.int .i64 0) := (blk_cell BK139.out 1).trans rfl; have hcz41_2 : wc.cell? ⟨gb139, 2, none⟩ = some (.int .u64 0) := (blk_cell BK139.out 2).trans rfl; have hcz41_3 : wc.cell? ⟨gb139, 3, none⟩ = some (.slice none 0 0) := (blk_cell BK139.out 3).trans rfl; have hfz41_0 := blk_frozen BK139.out 0; have hfz41_1 := blk_frozen BK139.out 1; have hfz41_2 := blk_frozen BK139.out 2; have hfz41_3 := blk_frozen BK139.out 3))
                                  refine bodyPost_ret (results_ctt rfl _ _ gb139 25 #[.int .i64 (wrap64 (t140 / 8)), .int .i64 (wrap64 (Go.bits .and .u64 t140 7)), .int .u64 t155, .slice none 0 0] (0, 0) _ rfl (by (with_reducible repeat (first | refine blk_drewN ?_ _ | refine blk_drew ?_ | refine blk_alloc ?_ _)); refine blk_put (cs := #[.int .i64 (wrap64 (t140 / 8)), .int .i64 (wrap64 (Go.bits .and .u64 t140 7)), .int .u64 t155, .slice none 0 0]) ?_ 3 _ rfl; (with_reducible repeat (first | refine blk_drewN ?_ _ | refine blk_drew ?_ | refine blk_alloc ?_ _)); refine blk_put (cs := #[.int .i64 (wrap64 (t140 / 8)), .int .i64 (wrap64 (Go.bits .and .u64 t140 7)), .int .u64 0, .slice none 0 0]) ?_ 2 _ rfl; (with_reducible repeat (first | refine blk_drewN ?_ _ | refine blk_drew ?_ | refine blk_alloc ?_ _)); refine blk_put (cs := #[.int .i64 (wrap64 (t140 / 8)), .int .i64 0, .int .u64 0, .slice none 0 0]) ?_ 1 _ rfl; (with_reducible repeat (first | refine blk_drewN ?_ _ | refine blk_drew ?_ | refine blk_alloc ?_ _)); refine blk_put (cs := #[.int .i64 0, .int .i64 0, .int .u64 0, .slice none 0 0]) ?_ 0 _ rfl; (with_reducible repeat (first | refine blk_drewN ?_ _ | refine blk_drew ?_ | refine blk_alloc ?_ _)); refine blk_far ?_ NB139_143.out _; (with_reducible repeat (first | refine blk_drewN ?_ _ | refine blk_drew ?_ | refine blk_alloc ?_ _)); exact BK139.out) Try.underlying25 rfl (by kernel_rfl)) rfl ?_
                                  exact ⟨_, by first | rfl | (simp [errW_none, errW_some] <;> rfl) | (simp [*, errW_none, errW_some] <;> rfl), by first | exact Kd.R_nil _ _ _ _ _ | exact Kd.N_nil _ _ _ _ _ | exact Kd.V_nil _ _ _ _ _ | exact Kd.Q_nil _ _ _ _ _ | exact Kd.S_nil _ _ _ _ _, by repeat (first | (with_reducible first | exact HB.out | apply below_alloc | apply pw_below_drewN | apply below_drew1 | refine below_set ?_ GE139.out | refine below_set ?_ GE143.out) | exact HB.out)⟩
                            · as_aux_lemma =>
                                rw [if_neg c37] at H
                                have c37b0 : ((wrap64 (Go.bits .and .u64 t140 7)) == 0) = false := beq_eq_false_iff_ne.mpr c37
                                have c37b1 : ((wrap64 (Go.bits .and .u64 t140 7)) != 0) = true := bne_iff_ne.mpr c37
                                by_cases c42 : t155 > (IntKind.u64.wrap (wrap64 ((y146.length : Int) - t156)))
                                · as_aux_lemma =>
                                    rw [if_pos c42] at H
                                    have c42b0 : decide ((IntKind.u64.wrap (wrap64 ((y146.length : Int) - t156))) < t155) = true := decide_eq_true c42
                                    clear c42
                                    as_aux_lemma =>
                                      simp only [Option.some.injEq, Prod.mk.injEq] at H
                                      obtain ⟨rfl, rfl, rfl, rfl, rfl, rfl⟩ := H
                                      have q43 : (t141 : Int) ≤ ((l0.length : Int) : Int) := of_decide_eq_true (by first | (with_reducible assumption) | assumption)
                                      obtain ⟨i043, hi043, _, hsz43, _⟩ := info_parts info5
                                      have hroom43 : l0.length ≤ c0 := HC0.out
                                      have hC43 : Kd.C (Kd.int .u8) _ A0 l0.length l0 := HR0.out
                                      have q043 : (0 : Int) ≤ (t141 : Int) := of_decide_eq_true (by first | (with_reducible assumption) | assumption)
                                      have hcut43 := cut_from (P := Try.prog) 23 5 .i64 Try.underlying23 hi043 1 hsz43 A0 l0.length c0 t141 q043 q43
                                      have hr43 := Kd.C_drop (m := (t141 : Int).toNat) (c := c0) hC43 (by omega) hroom43
                                      obtain ⟨A43, hA43⟩ : ∃ A1, A1 = (if c0 = (t141 : Int).toNat then A0 else (A0 : Option Addr).map (·.add ((t141 : Int).toNat * 1))) := ⟨_, rfl⟩
                                      obtain ⟨c43, hc43⟩ : ∃ c1, c1 = c0 - (t141 : Int).toNat := ⟨_, rfl⟩
                                      have hy43 : y146.length = l0.length - (t141 : Int).toNat := (by rw [Ny146.out, List.length_drop] <;> omega)
                                      rw [show (l0).drop (t141 : Int).toNat = y146 from Ny146.out.symm] at hr43
                                      replace hr43 : Kd.C (Kd.int .u8) _ A43 y146.length y146 := (by rw [hA43]; exact hr43)
                                      rw [← hy43, ← hA43, ← hc43] at hcut43
                                      have HR149 := Aside0.mk hr43
                                      have HC149 := Aside0.mk (show y146.length ≤ c43 from by rw [hy43, hc43]; exact Nat.sub_le_sub_right hroom43 _)
                                      clear hr43 hC43 hroom43 hi043 hsz43 hc43
                                      have KY43 := Aside0.mk hy43
                                      have KA43 := Aside0.mk hA43
                                      clear hy43 hA43
                                      replace q43 := eq_true q43
                                      go_wp2_with (first | ((with_reducible refine gate_callee (f := 31) rfl ?_); refine goesL_ (some 71) rfl rfl Try.func31 (by kernel_rfl) rfl #[.slice A43 y146.length c43] rfl (by (try simp only [List.map_toArray, List.map_cons, List.map_nil]); first | done | rfl | (simp only [List.length_drop, List.length_take]; rfl)) ?_; (with_reducible refine (varint_Take.calls kj4 _ _ y146 t155 t156 t157 _ ?side1 ?side2 A35.out).mono ?_); (case side1 => repeat (first | exact (Kd.C_below HR149.out HB.out) | (with_reducible refine Kd.C_alloc ?_ _) | (with_reducible refine Kd.C_drewN ?_ _) | (with_reducible refine Kd.C_drew ?_))); (case side2 => exact HC149.out); rintro e w' ⟨rfl, ⟨nd, rfl⟩⟩; refine ⟨_, rfl, ?_⟩; (try (rw [drewN_self wc]; generalize hq_ : World.drewN wc _ = wc; have n0_ : Aside0 (wc.heap[gb139]? = some (.cells #[.int .i64 0, .int .i64 0, .int .u64 0, .slice none 0 0] 25 (0, 0))) := ⟨by rw [← hq_]; exact (by (with_reducible repeat (first | refine blk_drewN ?_ _ | refine blk_drew ?_ | refine blk_alloc ?_ _)); exact BK139.out)⟩; have n1_ : Aside0 (wc.heap[gb143]? = some (.cells #[.int .i64 (wrap64 (t140 / 8)), .int .i64 (wrap64 (Go.bits .and .u64 t140 7)), .int .u64 0, .slice none 0 0] 25 (0, 0))) := ⟨by rw [← hq_]; exact (by (with_reducible repeat (first | refine blk_drewN ?_ _ | refine blk_drew ?_ | refine blk_alloc ?_ _)); exact BK143.out)⟩; have n2_ : Aside0 (Below w.heap.size w wc) := ⟨by rw [← hq_]; exact (by repeat (first | (with_reducible first | exact HB.out | apply below_alloc | apply pw_below_drewN | apply below_drew1 | refine below_set ?_ GE139.out | refine below_set ?_ GE143.out) | exact HB.out))⟩; clear BK139 BK143 HB hq_; have BK139 := n0_; have BK143 := n1_; have HB := n2_; clear n0_ n1_ n2_)); have hnb44 := NB143_139.out; have hnc44 := NB139_143.out; have hcz45_0 : wc.cell? ⟨gb143, 0, none⟩ = some (.int .i64 (wrap64 (t140 / 8))) := (blk_cell BK143.out 0).trans rfl; have hcz45_1 : wc.cell? ⟨gb143, 1, none⟩ = some (.int .i64 (wrap64 (Go.bits .and .u64 t140 7))) := (blk_cell BK143.out 1).trans rfl; have hcz45_2 : wc.cell? ⟨gb143, 2, none⟩ = some (.int .u64 0) := (blk_cell BK143.out 2).trans rfl; have hcz45_3 : wc.cell? ⟨gb143, 3, none⟩ = some (.slice none 0 0) := (blk_cell BK143.out 3).trans rfl; have hfz45_0 := blk_frozen BK143.out 0; have hfz45_1 := blk_frozen BK143.out 1; have hfz45_2 := blk_frozen BK143.out 2; have hfz45_3 := blk_frozen BK143.out 3; have hcz46_0 : wc.cell? ⟨gb139, 0, none⟩ = some (.int .i64 0) := (blk_cell BK139.out 0).trans rfl; have hcz46_1 : wc.cell? ⟨gb139, 1, none⟩ = some (.int .i64 0) := (blk_cell BK139.out 1).trans rfl; have hcz46_2 : wc.cell? ⟨gb139, 2, none⟩ = some (.int .u64 0) := (blk_cell BK139.out 2).trans rfl; have hcz46_3 : wc.cell? ⟨gb139, 3, none⟩ = some (.slice none 0 0) := (blk_cell BK139.out 3).trans rfl; have hfz46_0 := blk_frozen BK139.out 0; have hfz46_1 := blk_frozen BK139.out 1; have hfz46_2 := blk_frozen BK139.out 2; have hfz46_3 := blk_frozen BK139.out 3))
                                      refine bodyPost_ret (results_ctt rfl _ _ gb139 25 #[.int .i64 0, .int .i64 0, .int .u64 0, .slice none 0 0] (0, 0) _ rfl (by (with_reducible repeat (first | refine blk_drewN ?_ _ | refine blk_drew ?_ | refine blk_alloc ?_ _)); refine blk_put (cs := #[.int .i64 0, .int .i64 0, .int .u64 0, .slice none 0 0]) ?_ 3 _ rfl; (with_reducible repeat (first | refine blk_drewN ?_ _ | refine blk_drew ?_ | refine blk_alloc ?_ _)); refine blk_put (cs := #[.int .i64 0, .int .i64 0, .int .u64 0, .slice none 0 0]) ?_ 2 _ rfl; (with_reducible repeat (first | refine blk_drewN ?_ _ | refine blk_drew ?_ | refine blk_alloc ?_ _)); refine blk_put (cs := #[.int .i64 0, .int .i64 0, .int .u64 0, .slice none 0 0]) ?_ 1 _ rfl; (with_reducible repeat (first | refine blk_drewN ?_ _ | refine blk_drew ?_ | refine blk_alloc ?_ _)); refine blk_put (cs := #[.int .i64 0, .int .i64 0, .int .u64 0, .slice none 0 0]) ?_ 0 _ rfl; (with_reducible repeat (first | refine blk_drewN ?_ _ | refine blk_drew ?_ | refine blk_alloc ?_ _)); exact BK139.out) Try.underlying25 rfl (by kernel_rfl)) rfl ?_
                                      exact ⟨_, by first | rfl | (simp [errW_none, errW_some] <;> rfl) | (simp [*, errW_none, errW_some] <;> rfl), by first | exact Kd.R_nil _ _ _ _ _ | exact Kd.N_nil _ _ _ _ _ | exact Kd.V_nil _ _ _ _ _ | exact Kd.Q_nil _ _ _ _ _ | exact Kd.S_nil _ _ _ _ _, by repeat (first | (with_reducible first | exact HB.out | apply below_alloc | apply pw_below_drewN | apply below_drew1 | refine below_set ?_ GE139.out | refine below_set ?_ GE143.out) | exact HB.out)⟩
                                · as_aux_lemma =>
                                    rw [if_neg c42] at H
                                    have c42b0 : decide ((IntKind.u64.wrap (wrap64 ((y146.length : Int) - t156))) < t155) = false := decide_eq_false c42
                                    clear c42
                                    by_cases c47 : 0 ≤ t156
                                    · as_aux_lemma =>
                                        rw [if_pos c47] at H
                                        have c47b0 := eq_true c47
                                        have c47b1 : decide (0 ≤ t156) = true := decide_eq_true c47
                                        clear c47
                                        by_cases c48 : t156 ≤ (wrap64 (t156 + (wrap64 (t155))))
                                        · as_aux_lemma =>
                                            rw [if_pos c48] at H
                                            have c48b0 := eq_true c48
                                            have c48b1 : decide (t156 ≤ (wrap64 (t156 + (wrap64 (t155))))) = true := decide_eq_true c48
                                            by_cases c49 : (wrap64 (t156 + (wrap64 (t155)))) ≤ (y146.length : Int)
                                            · as_aux_lemma =>
                                                rw [if_pos c49] at H
                                                have c49b0 := eq_true c49
                                                have c49b1 : decide ((wrap64 (t156 + (wrap64 (t155)))) ≤ (y146.length : Int)) = true := decide_eq_true c49
                                                obtain ⟨y158, hy158⟩ : ∃ y_ : List Int, y_ = ((y146.take ((wrap64 (t156 + (wrap64 (t155)))) : Int).toNat).drop (t156 : Int).toNat) := ⟨_, rfl⟩
                                                replace H : ((bytes_Clone.f y158).bind fun t162 => (some ((wrap64 (t140 / 8)), (wrap64 (Go.bits .and .u64 t140 7)), 0, t162, wrap64 ((wrap64 (t141 + t156)) + (wrap64 (t155))), 0))) = some (r1, r2, r3, r4, r5, r6) := by first | (rw [hy158]; with_reducible exact H) | (have H2_ := (Option.bind_some _ _).symm.trans H; rw [hy158]; with_reducible exact H2_) | (have H2_ := (Option.bind_some _ _).symm.trans H; with_reducible exact H2_) | with_reducible exact H | (rw [hy158]; exact H) | exact H
                                                have Ny158 := Aside0.mk hy158
                                                clear hy158
                                                replace H := Option.bind_eq_some_iff.mp H
                                                obtain ⟨t162, A500, H⟩ := H
                                                replace H : (some ((wrap64 (t140 / 8)), (wrap64 (Go.bits .and .u64 t140 7)), 0, t162, wrap64 ((wrap64 (t141 + t156)) + (wrap64 (t155))), 0)) = some (r1, r2, r3, r4, r5, r6) := H
                                                have A50 := Aside0.mk A500
                                                clear A500
                                                as_aux_lemma =>
                                                  simp only [Option.some.injEq, Prod.mk.injEq] at H
                                                  obtain ⟨rfl, rfl, rfl, rfl, rfl, rfl⟩ := H
                                                  have q51 : (t141 : Int) ≤ ((l0.length : Int) : Int) := of_decide_eq_true (by first | (with_reducible assumption) | assumption)
                                                  obtain ⟨i051, hi051, _, hsz51, _⟩ := info_parts info5
                                                  have hroom51 : l0.length ≤ c0 := HC0.out
                                                  have hC51 : Kd.C (Kd.int .u8) _ A0 l0.length l0 := HR0.out
                                                  have q051 : (0 : Int) ≤ (t141 : Int) := of_decide_eq_true (by first | (with_reducible assumption) | assumption)
                                                  have hcut51 := cut_from (P := Try.prog) 23 5 .i64 Try.underlying23 hi051 1 hsz51 A0 l0.length c0 t141 q051 q51
                                                  have hr51 := Kd.C_drop (m := (t141 : Int).toNat) (c := c0) hC51 (by omega) hroom51
                                                  obtain ⟨A51, hA51⟩ : ∃ A1, A1 = (if c0 = (t141 : Int).toNat then A0 else (A0 : Option Addr).map (·.add ((t141 : Int).toNat * 1))) := ⟨_, rfl⟩
                                                  obtain ⟨c51, hc51⟩ : ∃ c1, c1 = c0 - (t141 : Int).toNat := ⟨_, rfl⟩
                                                  have hy51 : y146.length = l0.length - (t141 : Int).toNat := (by rw [Ny146.out, List.length_drop] <;> omega)
                                                  rw [show (l0).drop (t141 : Int).toNat = y146 from Ny146.out.symm] at hr51
                                                  replace hr51 : Kd.C (Kd.int .u8) _ A51 y146.length y146 := (by rw [hA51]; exact hr51)
                                                  rw [← hy51, ← hA51, ← hc51] at hcut51
                                                  have HR149 := Aside0.mk hr51
                                                  have HC149 := Aside0.mk (show y146.length ≤ c51 from by rw [hy51, hc51]; exact Nat.sub_le_sub_right hroom51 _)
                                                  clear hr51 hC51 hroom51 hi051 hsz51 hc51
                                                  have KY51 := Aside0.mk hy51
                                                  have KA51 := Aside0.mk hA51
                                                  clear hy51 hA51
                                                  replace q51 := eq_true q51
                                                  go_wp2_with (first | ((with_reducible refine gate_callee (f := 31) rfl ?_); refine goesL_ (some 71) rfl rfl Try.func31 (by kernel_rfl) rfl #[.slice A51 y146.length c51] rfl (by (try simp only [List.map_toArray, List.map_cons, List.map_nil]); first | done | rfl | (simp only [List.length_drop, List.length_take]; rfl)) ?_; (with_reducible refine (varint_Take.calls kj4 _ _ y146 t155 t156 t157 _ ?side1 ?side2 A35.out).mono ?_); (case side1 => repeat (first | exact (Kd.C_below HR149.out HB.out) | (with_reducible refine Kd.C_alloc ?_ _) | (with_reducible refine Kd.C_drewN ?_ _) | (with_reducible refine Kd.C_drew ?_))); (case side2 => exact HC149.out); rintro e w' ⟨rfl, ⟨nd, rfl⟩⟩; refine ⟨_, rfl, ?_⟩; (try (rw [drewN_self wc]; generalize hq_ : World.drewN wc _ = wc; have n0_ : Aside0 (wc.heap[gb139]? = some (.cells #[.int .i64 0, .int .i64 0, .int .u64 0, .slice none 0 0] 25 (0, 0))) := ⟨by rw [← hq_]; exact (by (with_reducible repeat (first | refine blk_drewN ?_ _ | refine blk_drew ?_ | refine blk_alloc ?_ _)); exact BK139.out)⟩; have n1_ : Aside0 (wc.heap[gb143]? = some (.cells #[.int .i64 (wrap64 (t140 / 8)), .int .i64 (wrap64 (Go.bits .and .u64 t140 7)), .int .u64 0, .slice none 0 0] 25 (0, 0))) := ⟨by rw [← hq_]; exact (by (with_reducible repeat (first | refine blk_drewN ?_ _ | refine blk_drew ?_ | refine blk_alloc ?_ _)); exact BK143.out)⟩; have n2_ : Aside0 (Below w.heap.size w wc) := ⟨by rw [← hq_]; exact (by repeat (first | (with_reducible first | exact HB.out | apply below_alloc | apply pw_below_drewN | apply below_drew1 | refine below_set ?_ GE139.out | refine below_set ?_ GE143.out) | exact HB.out))⟩; clear BK139 BK143 HB hq_; have BK139 := n0_; have BK143 := n1_; have HB := n2_; clear n0_ n1_ n2_)); have hczR4_gb139_0 : wc.cell? ⟨gb139, 0, none⟩ = some (.int .i64 0) := (blk_cell BK139.out 0).trans rfl; have hfzR4_gb139_0 := blk_frozen BK139.out 0; have hczR4_gb139_1 : wc.cell? ⟨gb139, 1, none⟩ = some (.int .i64 0) := (blk_cell BK139.out 1).trans rfl; have hfzR4_gb139_1 := blk_frozen BK139.out 1; have hczR4_gb139_2 : wc.cell? ⟨gb139, 2, none⟩ = some (.int .u64 0) := (blk_cell BK139.out 2).trans rfl; have hfzR4_gb139_2 := blk_frozen BK139.out 2; have hczR4_gb139_3 : wc.cell? ⟨gb139, 3, none⟩ = some (.slice none 0 0) := (blk_cell BK139.out 3).trans rfl; have hfzR4_gb139_3 := blk_frozen BK139.out 3; have hnb52 := NB143_139.out; have hnc52 := NB139_143.out; have hcz53_0 : wc.cell? ⟨gb143, 0, none⟩ = some (.int .i64 (wrap64 (t140 / 8))) := (blk_cell BK143.out 0).trans rfl; have hcz53_1 : wc.cell? ⟨gb143, 1, none⟩ = some (.int .i64 (wrap64 (Go.bits .and .u64 t140 7))) := (blk_cell BK143.out 1).trans rfl; have hcz53_2 : wc.cell? ⟨gb143, 2, none⟩ = some (.int .u64 0) := (blk_cell BK143.out 2).trans rfl; have hcz53_3 : wc.cell? ⟨gb143, 3, none⟩ = some (.slice none 0 0) := (blk_cell BK143.out 3).trans rfl; have hfz53_0 := blk_frozen BK143.out 0; have hfz53_1 := blk_frozen BK143.out 1; have hfz53_2 := blk_frozen BK143.out 2; have hfz53_3 := blk_frozen BK143.out 3; have q54 : ((wrap64 (t156 + (wrap64 (t155)))) : Int) ≤ ((y146.length : Int) : Int) := of_decide_eq_true (by first | (with_reducible assumption) | assumption); obtain ⟨i054, hi054, _, hsz54, _⟩ := info_parts info5; have hroom54 : y146.length ≤ c51 := HC149.out; have hC54 : Kd.C (Kd.int .u8) _ A51 y146.length y146 := HR149.out; have ql54 : (t156 : Int) ≤ ((wrap64 (t156 + (wrap64 (t155)))) : Int) := of_decide_eq_true (by first | (with_reducible assumption) | assumption); have q054 : (0 : Int) ≤ (t156 : Int) := of_decide_eq_true (by first | (with_reducible assumption) | assumption); have hcut54 := cut_mid (P := Try.prog) 23 5 .i64 .i64 Try.underlying23 hi054 1 hsz54 A51 y146.length c51 t156 (wrap64 (t156 + (wrap64 (t155)))) q054 ql54 q54 hroom54; have hr54 := Kd.C_mid (lo := (t156 : Int).toNat) (hi := ((wrap64 (t156 + (wrap64 (t155)))) : Int).toNat) (c := c51) hC54 (by omega) (by omega) hroom54; obtain ⟨A54, hA54⟩ : ∃ A1, A1 = (if c51 = (t156 : Int).toNat then A51 else (A51 : Option Addr).map (·.add ((t156 : Int).toNat * 1))) := ⟨_, rfl⟩; obtain ⟨c54, hc54⟩ : ∃ c1, c1 = c51 - (t156 : Int).toNat := ⟨_, rfl⟩; have hy54 : y158.length = ((wrap64 (t156 + (wrap64 (t155)))) : Int).toNat - (t156 : Int).toNat := (by rw [Ny158.out, List.length_drop, List.length_take] <;> omega); rw [show ((y146).take ((wrap64 (t156 + (wrap64 (t155)))) : Int).toNat).drop (t156 : Int).toNat = y158 from Ny158.out.symm] at hr54; replace hr54 : Kd.C (Kd.int .u8) _ A54 y158.length y158 := (by rw [hA54]; exact hr54); rw [← hy54, ← hA54, ← hc54] at hcut54; have HR161 := Aside0.mk hr54; have HC161 := Aside0.mk (show y158.length ≤ c54 from by rw [hy54, hc54]; exact Nat.sub_le_sub_right (Nat.le_trans (by omega) hroom54) _); clear hr54 hC54 hroom54 hi054 hsz54 hc54; have KY54 := Aside0.mk hy54; have KA54 := Aside0.mk hA54; clear hy54 hA54; replace q54 := eq_true q54) | ((with_reducible refine gate_callee (f := 33) rfl ?_); refine goesL_ (some 106) rfl rfl Try.func33 (by kernel_rfl) rfl #[.slice A54 y158.length c54] rfl (by (try simp only [List.map_toArray, List.map_cons, List.map_nil]); first | done | rfl | (simp only [List.length_drop, List.length_take]; rfl)) ?_; (with_reducible refine (bytes_Clone.calls _ _ y158 t162 _ ?side1 ?side2 A50.out).mono ?_); (case side1 => repeat (first | exact (Kd.C_below HR161.out HB.out) | (with_reducible refine Kd.C_alloc ?_ _) | (with_reducible refine Kd.C_drewN ?_ _) | (with_reducible refine Kd.C_drew ?_))); (case side2 => exact HC161.out); rintro e w55 ⟨v163, rfl, ho0, hb⟩; refine ⟨_, rfl, ?_⟩; have n0_ := Aside0.mk (Kd.R_lower ho0 (below_size (by repeat (first | (with_reducible first | exact HB.out | apply below_alloc | apply pw_below_drewN | apply below_drew1 | refine below_set ?_ GE139.out | refine below_set ?_ GE143.out) | exact HB.out)))); have n1_ := Aside0.mk (blk_below (g := gb139) (o := .cells #[.int .i64 0, .int .i64 0, .int .u64 0, .slice none 0 0] 25 (0, 0)) (by (with_reducible repeat (first | refine blk_drewN ?_ _ | refine blk_drew ?_ | refine blk_alloc ?_ _)); exact BK139.out) hb); have n2_ := Aside0.mk (blk_below (g := gb143) (o := .cells #[.int .i64 (wrap64 (t140 / 8)), .int .i64 (wrap64 (Go.bits .and .u64 t140 7)), .int .u64 0, .slice none 0 0] 25 (0, 0)) (by (with_reducible repeat (first | refine blk_drewN ?_ _ | refine blk_drew ?_ | refine blk_alloc ?_ _)); exact BK143.out) hb); have n3_ := Aside0.mk (below_step (by repeat (first | (with_reducible first | exact HB.out | apply below_alloc | apply pw_below_drewN | apply below_drew1 | refine below_set ?_ GE139.out | refine below_set ?_ GE143.out) | exact HB.out)) hb); clear BK139; clear BK143; clear HB; have HO164 := n0_; have BK139 := n1_; have BK143 := n2_; have HB := n3_; clear n0_ n1_ n2_ n3_; (try clear hb); (try clear hb2); (try clear hk); (try clear hi); (try clear ho0); obtain ⟨Ao56, co56, eo56⟩ := Kd.R_slice HO164.out; subst eo56; have hcz57_0 : w55.cell? ⟨gb143, 0, none⟩ = some (.int .i64 (wrap64 (t140 / 8))) := (blk_cell BK143.out 0).trans rfl; have hcz57_1 : w55.cell? ⟨gb143, 1, none⟩ = some (.int .i64 (wrap64 (Go.bits .and .u64 t140 7))) := (blk_cell BK143.out 1).trans rfl; have hcz57_2 : w55.cell? ⟨gb143, 2, none⟩ = some (.int .u64 0) := (blk_cell BK143.out 2).trans rfl; have hcz57_3 : w55.cell? ⟨gb143, 3, none⟩ = some (.slice none 0 0) := (blk_cell BK143.out 3).trans rfl; have hfz57_0 := blk_frozen BK143.out 0; have hfz57_1 := blk_frozen BK143.out 1; have hfz57_2 := blk_frozen BK143.out 2; have hfz57_3 := blk_frozen BK143.out 3; have hcz58_0 : w55.cell? ⟨gb139, 0, none⟩ = some (.int .i64 0) := (blk_cell BK139.out 0).trans rfl; have hcz58_1 : w55.cell? ⟨gb139, 1, none⟩ = some (.int .i64 0) := (blk_cell BK139.out 1).trans rfl; have hcz58_2 : w55.cell? ⟨gb139, 2, none⟩ = some (.int .u64 0) := (blk_cell BK139.out 2).trans rfl; have hcz58_3 : w55.cell? ⟨gb139, 3, none⟩ = some (.slice none 0 0) := (blk_cell BK139.out 3).trans rfl; have hfz58_0 := blk_frozen BK139.out 0; have hfz58_1 := blk_frozen BK139.out 1; have hfz58_2 := blk_frozen BK139.out 2; have hfz58_3 := blk_frozen BK139.out 3))
                                                  refine bodyPost_ret (results_ctt rfl _ _ gb139 25 #[.int .i64 (wrap64 (t140 / 8)), .int .i64 (wrap64 (Go.bits .and .u64 t140 7)), .int .u64 0, .slice Ao56 t162.length co56] (0, 0) _ rfl (by (with_reducible repeat (first | refine blk_drewN ?_ _ | refine blk_drew ?_ | refine blk_alloc ?_ _)); refine blk_put (cs := #[.int .i64 (wrap64 (t140 / 8)), .int .i64 (wrap64 (Go.bits .and .u64 t140 7)), .int .u64 0, .slice none 0 0]) ?_ 3 _ rfl; (with_reducible repeat (first | refine blk_drewN ?_ _ | refine blk_drew ?_ | refine blk_alloc ?_ _)); refine blk_put (cs := #[.int .i64 (wrap64 (t140 / 8)), .int .i64 (wrap64 (Go.bits .and .u64 t140 7)), .int .u64 0, .slice none 0 0]) ?_ 2 _ rfl; (with_reducible repeat (first | refine blk_drewN ?_ _ | refine blk_drew ?_ | refine blk_alloc ?_ _)); refine blk_put (cs := #[.int .i64 (wrap64 (t140 / 8)), .int .i64 0, .int .u64 0, .slice none 0 0]) ?_ 1 _ rfl; (with_reducible repeat (first | refine blk_drewN ?_ _ | refine blk_drew ?_ | refine blk_alloc ?_ _)); refine blk_put (cs := #[.int .i64 0, .int .i64 0, .int .u64 0, .slice none 0 0]) ?_ 0 _ rfl; (with_reducible repeat (first | refine blk_drewN ?_ _ | refine blk_drew ?_ | refine blk_alloc ?_ _)); refine blk_far ?_ NB139_143.out _; (with_reducible repeat (first | refine blk_drewN ?_ _ | refine blk_drew ?_ | refine blk_alloc ?_ _)); exact BK139.out) Try.underlying25 rfl (by kernel_rfl)) rfl ?_
                                                  exact ⟨_, by first | rfl | (simp [errW_none, errW_some] <;> rfl) | (simp [*, errW_none, errW_some] <;> rfl), by (with_reducible repeat (first | apply Kd.R_alloc | apply Kd.R_drewN | apply Kd.R_drew)); exact Kd.R_mono (Kd.R_far (p := ⟨gb139, 3, none⟩) (Kd.R_far (p := ⟨gb139, 2, none⟩) (Kd.R_far (p := ⟨gb139, 1, none⟩) (Kd.R_far (p := ⟨gb139, 0, none⟩) (Kd.R_far (p := ⟨gb143, 3, none⟩) (Kd.R_types (Kd.R_types HO164.out BK143.out (by decide)) BK139.out (by decide)) (fun _ hk => hk.1.2) (.slice Ao56 t162.length co56)) (fun _ hk => hk.2) (.int .i64 (wrap64 (t140 / 8)))) (fun _ hk => hk.2) (.int .i64 (wrap64 (Go.bits .and .u64 t140 7)))) (fun _ hk => hk.2) (.int .u64 0)) (fun _ hk => hk.2) (.slice Ao56 t162.length co56)) (fun _ hk => trivial), by repeat (first | (with_reducible first | exact HB.out | apply below_alloc | apply pw_below_drewN | apply below_drew1 | refine below_set ?_ GE139.out | refine below_set ?_ GE143.out) | exact HB.out)⟩
                                            · rw [if_neg c49] at H
                                              exact absurd H (by simp)
                                        · rw [if_neg c48] at H
                                          exact absurd H (by simp)
                                    · rw [if_neg c47] at H
                                      exact absurd H (by simp)
                        · as_aux_lemma =>
                            rw [if_neg c36] at H
                            have c36b0 : (t157 == 0) = false := beq_eq_false_iff_ne.mpr c36
                            have c36b1 : (t157 != 0) = true := bne_iff_ne.mpr c36
                            as_aux_lemma =>
                              simp only [Option.some.injEq, Prod.mk.injEq] at H
                              obtain ⟨rfl, rfl, rfl, rfl, rfl, rfl⟩ := H
                              have q59 : (t141 : Int) ≤ ((l0.length : Int) : Int) := of_decide_eq_true (by first | (with_reducible assumption) | assumption)
                              obtain ⟨i059, hi059, _, hsz59, _⟩ := info_parts info5
                              have hroom59 : l0.length ≤ c0 := HC0.out
                              have hC59 : Kd.C (Kd.int .u8) _ A0 l0.length l0 := HR0.out
                              have q059 : (0 : Int) ≤ (t141 : Int) := of_decide_eq_true (by first | (with_reducible assumption) | assumption)
                              have hcut59 := cut_from (P := Try.prog) 23 5 .i64 Try.underlying23 hi059 1 hsz59 A0 l0.length c0 t141 q059 q59
                              have hr59 := Kd.C_drop (m := (t141 : Int).toNat) (c := c0) hC59 (by omega) hroom59
                              obtain ⟨A59, hA59⟩ : ∃ A1, A1 = (if c0 = (t141 : Int).toNat then A0 else (A0 : Option Addr).map (·.add ((t141 : Int).toNat * 1))) := ⟨_, rfl⟩
                              obtain ⟨c59, hc59⟩ : ∃ c1, c1 = c0 - (t141 : Int).toNat := ⟨_, rfl⟩
                              have hy59 : y146.length = l0.length - (t141 : Int).toNat := (by rw [Ny146.out, List.length_drop] <;> omega)
                              rw [show (l0).drop (t141 : Int).toNat = y146 from Ny146.out.symm] at hr59
                              replace hr59 : Kd.C (Kd.int .u8) _ A59 y146.length y146 := (by rw [hA59]; exact hr59)
                              rw [← hy59, ← hA59, ← hc59] at hcut59
                              have HR149 := Aside0.mk hr59
                              have HC149 := Aside0.mk (show y146.length ≤ c59 from by rw [hy59, hc59]; exact Nat.sub_le_sub_right hroom59 _)
                              clear hr59 hC59 hroom59 hi059 hsz59 hc59
                              have KY59 := Aside0.mk hy59
                              have KA59 := Aside0.mk hA59
                              clear hy59 hA59
                              replace q59 := eq_true q59
                              go_wp2_with (first | ((with_reducible refine gate_callee (f := 31) rfl ?_); refine goesL_ (some 71) rfl rfl Try.func31 (by kernel_rfl) rfl #[.slice A59 y146.length c59] rfl (by (try simp only [List.map_toArray, List.map_cons, List.map_nil]); first | done | rfl | (simp only [List.length_drop, List.length_take]; rfl)) ?_; (with_reducible refine (varint_Take.calls kj4 _ _ y146 t155 t156 t157 _ ?side1 ?side2 A35.out).mono ?_); (case side1 => repeat (first | exact (Kd.C_below HR149.out HB.out) | (with_reducible refine Kd.C_alloc ?_ _) | (with_reducible refine Kd.C_drewN ?_ _) | (with_reducible refine Kd.C_drew ?_))); (case side2 => exact HC149.out); rintro e w' ⟨rfl, ⟨nd, rfl⟩⟩; refine ⟨_, rfl, ?_⟩; (try (rw [drewN_self wc]; generalize hq_ : World.drewN wc _ = wc; have n0_ : Aside0 (wc.heap[gb139]? = some (.cells #[.int .i64 0, .int .i64 0, .int .u64 0, .slice none 0 0] 25 (0, 0))) := ⟨by rw [← hq_]; exact (by (with_reducible repeat (first | refine blk_drewN ?_ _ | refine blk_drew ?_ | refine blk_alloc ?_ _)); exact BK139.out)⟩; have n1_ : Aside0 (wc.heap[gb143]? = some (.cells #[.int .i64 (wrap64 (t140 / 8)), .int .i64 (wrap64 (Go.bits .and .u64 t140 7)), .int .u64 0, .slice none 0 0] 25 (0, 0))) := ⟨by rw [← hq_]; exact (by (with_reducible repeat (first | refine blk_drewN ?_ _ | refine blk_drew ?_ | refine blk_alloc ?_ _)); exact BK143.out)⟩; have n2_ : Aside0 (Below w.heap.size w wc) := ⟨by rw [← hq_]; exact (by repeat (first | (with_reducible first | exact HB.out | apply below_alloc | apply pw_below_drewN | apply below_drew1 | refine below_set ?_ GE139.out | refine below_set ?_ GE143.out) | exact HB.out))⟩; clear BK139 BK143 HB hq_; have BK139 := n0_; have BK143 := n1_; have HB := n2_; clear n0_ n1_ n2_)); have hczR5_gb143_0 : wc.cell? ⟨gb143, 0, none⟩ = some (.int .i64 (wrap64 (t140 / 8))) := (blk_cell BK143.out 0).trans rfl; have hfzR5_gb143_0 := blk_frozen BK143.out 0; have hczR5_gb143_1 : wc.cell? ⟨gb143, 1, none⟩ = some (.int .i64 (wrap64 (Go.bits .and .u64 t140 7))) := (blk_cell BK143.out 1).trans rfl; have hfzR5_gb143_1 := blk_frozen BK143.out 1; have hczR5_gb143_2 : wc.cell? ⟨gb143, 2, none⟩ = some (.int .u64 0) := (blk_cell BK143.out 2).trans rfl; have hfzR5_gb143_2 := blk_frozen BK143.out 2; have hczR5_gb143_3 : wc.cell? ⟨gb143, 3, none⟩ = some (.slice none 0 0) := (blk_cell BK143.out 3).trans rfl; have hfzR5_gb143_3 := blk_frozen BK143.out 3; have hnb60 := NB139_143.out; have hnc60 := NB143_139.out; have hcz61_0 : wc.cell? ⟨gb139, 0, none⟩ = some (.int .i64 0) := (blk_cell BK139.out 0).trans rfl; have hcz61_1 : wc.cell? ⟨gb139, 1, none⟩ = some (.int .i64 0) := (blk_cell BK139.out 1).trans rfl; have hcz61_2 : wc.cell? ⟨gb139, 2, none⟩ = some (.int .u64 0) := (blk_cell BK139.out 2).trans rfl; have hcz61_3 : wc.cell? ⟨gb139, 3, none⟩ = some (.slice none 0 0) := (blk_cell BK139.out 3).trans rfl; have hfz61_0 := blk_frozen BK139.out 0; have hfz61_1 := blk_frozen BK139.out 1; have hfz61_2 := blk_frozen BK139.out 2; have hfz61_3 := blk_frozen BK139.out 3))
                              refine bodyPost_ret (results_ctt rfl _ _ gb139 25 #[.int .i64 0, .int .i64 0, .int .u64 0, .slice none 0 0] (0, 0) _ rfl (by (with_reducible repeat (first | refine blk_drewN ?_ _ | refine blk_drew ?_ | refine blk_alloc ?_ _)); refine blk_put (cs := #[.int .i64 0, .int .i64 0, .int .u64 0, .slice none 0 0]) ?_ 3 _ rfl; (with_reducible repeat (first | refine blk_drewN ?_ _ | refine blk_drew ?_ | refine blk_alloc ?_ _)); refine blk_put (cs := #[.int .i64 0, .int .i64 0, .int .u64 0, .slice none 0 0]) ?_ 2 _ rfl; (with_reducible repeat (first | refine blk_drewN ?_ _ | refine blk_drew ?_ | refine blk_alloc ?_ _)); refine blk_put (cs := #[.int .i64 0, .int .i64 0, .int .u64 0, .slice none 0 0]) ?_ 1 _ rfl; (with_reducible repeat (first | refine blk_drewN ?_ _ | refine blk_drew ?_ | refine blk_alloc ?_ _)); refine blk_put (cs := #[.int .i64 0, .int .i64 0, .int .u64 0, .slice none 0 0]) ?_ 0 _ rfl; (with_reducible repeat (first | refine blk_drewN ?_ _ | refine blk_drew ?_ | refine blk_alloc ?_ _)); exact BK139.out) Try.underlying25 rfl (by kernel_rfl)) rfl ?_
                              exact ⟨_, by first | rfl | (simp [errW_none, errW_some] <;> rfl) | (simp [*, errW_none, errW_some] <;> rfl), by first | exact Kd.R_nil _ _ _ _ _ | exact Kd.N_nil _ _ _ _ _ | exact Kd.V_nil _ _ _ _ _ | exact Kd.Q_nil _ _ _ _ _ | exact Kd.S_nil _ _ _ _ _, by repeat (first | (with_reducible first | exact HB.out | apply below_alloc | apply pw_below_drewN | apply below_drew1 | refine below_set ?_ GE139.out | refine below_set ?_ GE143.out) | exact HB.out)⟩
                · rw [if_neg c20] at H
                  exact absurd H (by simp)
            · rw [if_neg c19] at H
              exact absurd H (by simp)
  · as_aux_lemma =>
      rw [if_neg c3] at H
      have c3b0 : (t142 == 0) = false := beq_eq_false_iff_ne.mpr c3
      have c3b1 : (t142 != 0) = true := bne_iff_ne.mpr c3
      as_aux_lemma =>
        simp only [Option.some.injEq, Prod.mk.injEq] at H
        obtain ⟨rfl, rfl, rfl, rfl, rfl, rfl⟩ := H
        go_enter Try.func18, Try.ntmps18
        go_wp2_with (first | ((with_reducible refine gate_dst (N := 2) rfl ?_); refine box_event ?hg (N := 2) ?hd (cs := #[.int .i64 0, .int .i64 0, .int .u64 0, .slice none 0 0]) (t := 25) ?hr ?_; (case hd => rfl); (case hg => rfl); (case hr => first | (go_simp; done) | (go_simp; rfl)); intro gb139 hg w62 hbox hb; have n0_ := Aside0.mk (below_step (by repeat (first | (with_reducible first | exact HB.out | apply below_alloc | apply pw_below_drewN | apply below_drew1) | exact HB.out)) hb); have n1_ := Aside0.mk (hbox); have n2_ := Aside0.mk ((by rw [hg]; exact (below_size (by repeat (first | (with_reducible first | exact HB.out | apply below_alloc | apply pw_below_drewN | apply below_drew1) | exact HB.out))) : w.heap.size ≤ gb139)); have n3_ := Aside0.mk ((by rw [hg]; exact (below_size (by repeat (first | (with_reducible first | exact HB.out | apply below_alloc | apply pw_below_drewN | apply below_drew1) | exact HB.out))) : w.heap.size ≤ gb139)); clear HB; have HB := n0_; have BK139 := n1_; have GW139 := n2_; have GE139 := n3_; clear n0_ n1_ n2_ n3_; clear hb hbox hg) | ((with_reducible refine gate_callee (f := 31) rfl ?_); refine goesL_ (some 16) rfl rfl Try.func31 (by kernel_rfl) rfl #[.slice A0 l0.length c0] rfl (by (try simp only [List.map_toArray, List.map_cons, List.map_nil]); first | done | rfl | (simp only [List.length_drop, List.length_take]; rfl)) ?_; (with_reducible refine (varint_Take.calls k _ _ l0 t140 t141 t142 _ ?side1 ?side2 A2.out).mono ?_); (case side1 => repeat (first | exact (Kd.C_below HR0.out HB.out) | (with_reducible refine Kd.C_alloc ?_ _) | (with_reducible refine Kd.C_drewN ?_ _) | (with_reducible refine Kd.C_drew ?_))); (case side2 => exact HC0.out); rintro e w' ⟨rfl, ⟨nd, rfl⟩⟩; refine ⟨_, rfl, ?_⟩; (try (rw [drewN_self w62]; generalize hq_ : World.drewN w62 _ = w62; have n0_ : Aside0 (w62.heap[gb139]? = some (.cells #[.int .i64 0, .int .i64 0, .int .u64 0, .slice none 0 0] 25 (0, 0))) := ⟨by rw [← hq_]; exact (by (with_reducible repeat (first | refine blk_drewN ?_ _ | refine blk_drew ?_ | refine blk_alloc ?_ _)); exact BK139.out)⟩; have n1_ : Aside0 (Below w.heap.size w w62) := ⟨by rw [← hq_]; exact (by repeat (first | (with_reducible first | exact HB.out | apply below_alloc | apply pw_below_drewN | apply below_drew1 | refine below_set ?_ GE139.out) | exact HB.out))⟩; clear BK139 HB hq_; have BK139 := n0_; have HB := n1_; clear n0_ n1_)); have hcz63_0 : w62.cell? ⟨gb139, 0, none⟩ = some (.int .i64 0) := (blk_cell BK139.out 0).trans rfl; have hcz63_1 : w62.cell? ⟨gb139, 1, none⟩ = some (.int .i64 0) := (blk_cell BK139.out 1).trans rfl; have hcz63_2 : w62.cell? ⟨gb139, 2, none⟩ = some (.int .u64 0) := (blk_cell BK139.out 2).trans rfl; have hcz63_3 : w62.cell? ⟨gb139, 3, none⟩ = some (.slice none 0 0) := (blk_cell BK139.out 3).trans rfl; have hfz63_0 := blk_frozen BK139.out 0; have hfz63_1 := blk_frozen BK139.out 1; have hfz63_2 := blk_frozen BK139.out 2; have hfz63_3 := blk_frozen BK139.out 3))
        refine bodyPost_ret (results_ctt rfl _ _ gb139 25 #[.int .i64 0, .int .i64 0, .int .u64 0, .slice none 0 0] (0, 0) _ rfl (by (with_reducible repeat (first | refine blk_drewN ?_ _ | refine blk_drew ?_ | refine blk_alloc ?_ _)); refine blk_put (cs := #[.int .i64 0, .int .i64 0, .int .u64 0, .slice none 0 0]) ?_ 3 _ rfl; (with_reducible repeat (first | refine blk_drewN ?_ _ | refine blk_drew ?_ | refine blk_alloc ?_ _)); refine blk_put (cs := #[.int .i64 0, .int .i64 0, .int .u64 0, .slice none 0 0]) ?_ 2 _ rfl; (with_reducible repeat (first | refine blk_drewN ?_ _ | refine blk_drew ?_ | refine blk_alloc ?_ _)); refine blk_put (cs := #[.int .i64 0, .int .i64 0, .int .u64 0, .slice none 0 0]) ?_ 1 _ rfl; (with_reducible repeat (first | refine blk_drewN ?_ _ | refine blk_drew ?_ | refine blk_alloc ?_ _)); refine blk_put (cs := #[.int .i64 0, .int .i64 0, .int .u64 0, .slice none 0 0]) ?_ 0 _ rfl; (with_reducible repeat (first | refine blk_drewN ?_ _ | refine blk_drew ?_ | refine blk_alloc ?_ _)); exact BK139.out) Try.underlying25 rfl (by kernel_rfl)) rfl ?_
        exact ⟨_, by first | rfl | (simp [errW_none, errW_some] <;> rfl) | (simp [*, errW_none, errW_some] <;> rfl), by first | exact Kd.R_nil _ _ _ _ _ | exact Kd.N_nil _ _ _ _ _ | exact Kd.V_nil _ _ _ _ _ | exact Kd.Q_nil _ _ _ _ _ | exact Kd.S_nil _ _ _ _ _, by repeat (first | (with_reducible first | exact HB.out | apply below_alloc | apply pw_below_drewN | apply below_drew1 | refine below_set ?_ GE139.out) | exact HB.out)⟩

/-! ### glossaryref01_kind: function 27 -/
def glossaryref01_kind.f (a0 : Int) : Option (Bool) := if a0 = 0 then (some true) else (if a0 = 1 then (some true) else (if a0 = 2 then (some true) else (some (a0 == 5))))
set_option maxHeartbeats 8000000 in
set_option maxRecDepth 100000 in
theorem glossaryref01_kind.calls (a0 : Int) (r : Bool) (w : World) (h : glossaryref01_kind.f a0 = some r) :
    Calls Try.prog 27 #[.int .i64 a0] w fun e w' => e = .returned (.bool r) ∧ Drawn0 w w' := by
  have H : (if a0 = 0 then (some true) else (if a0 = 1 then (some true) else (if a0 = 2 then (some true) else (some (a0 == 5))))) = some r := h
  clear h
  by_cases c2 : a0 = 0
  · as_aux_lemma =>
      rw [if_pos c2] at H
      have c2b0 : (a0 == 0) = true := beq_iff_eq.mpr c2
      have c2b1 : (a0 != 0) = false := bne_eq_false_iff_eq.mpr c2
      clear c2
      as_aux_lemma =>
        obtain rfl := Option.some.inj H
        go_enter Try.func27, Try.ntmps27
        go_wp2
        go_ret
        exact ⟨by first | rfl | (simp; done) | (simp [*]; done), by repeat (first | exact Drawn0.refl _ | apply Drawn0.step)⟩
  · as_aux_lemma =>
      rw [if_neg c2] at H
      have c2b0 : (a0 == 0) = false := beq_eq_false_iff_ne.mpr c2
      have c2b1 : (a0 != 0) = true := bne_iff_ne.mpr c2
      by_cases c3 : a0 = 1
      · as_aux_lemma =>
          rw [if_pos c3] at H
          have c3b0 : (a0 == 1) = true := beq_iff_eq.mpr c3
          have c3b1 : (a0 != 1) = false := bne_eq_false_iff_eq.mpr c3
          clear c3
          as_aux_lemma =>
            obtain rfl := Option.some.inj H
            go_enter Try.func27, Try.ntmps27
            go_wp2
            go_ret
            exact ⟨by first | rfl | (simp; done) | (simp [*]; done), by repeat (first | exact Drawn0.refl _ | apply Drawn0.step)⟩
      · as_aux_lemma =>
          rw [if_neg c3] at H
          have c3b0 : (a0 == 1) = false := beq_eq_false_iff_ne.mpr c3
          have c3b1 : (a0 != 1) = true := bne_iff_ne.mpr c3
          by_cases c4 : a0 = 2
          · as_aux_lemma =>
              rw [if_pos c4] at H
              have c4b0 : (a0 == 2) = true := beq_iff_eq.mpr c4
              have c4b1 : (a0 != 2) = false := bne_eq_false_iff_eq.mpr c4
              clear c4
              as_aux_lemma =>
                obtain rfl := Option.some.inj H
                go_enter Try.func27, Try.ntmps27
                go_wp2
                go_ret
                exact ⟨by first | rfl | (simp; done) | (simp [*]; done), by repeat (first | exact Drawn0.refl _ | apply Drawn0.step)⟩
          · as_aux_lemma =>
              rw [if_neg c4] at H
              have c4b0 : (a0 == 2) = false := beq_eq_false_iff_ne.mpr c4
              have c4b1 : (a0 != 2) = true := bne_iff_ne.mpr c4
              as_aux_lemma =>
                obtain rfl := Option.some.inj H
                go_enter Try.func27, Try.ntmps27
                go_wp2
                go_ret
                exact ⟨by first | rfl | (simp; done) | (simp [*]; done), by repeat (first | exact Drawn0.refl _ | apply Drawn0.step)⟩

end Go.Proofs.Yteopaifokfmnjaa.GWireTakes
