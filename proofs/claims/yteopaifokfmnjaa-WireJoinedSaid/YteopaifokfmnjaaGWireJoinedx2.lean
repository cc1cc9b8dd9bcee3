/- Written by gprint.py of this session: the kit's printer, with functions that are proved by hand put in. -/
import Derived.Test.YteopaifokfmnjaaGWireJoinedx0
import Derived.Test.YteopaifokfmnjaaGWireJoinedx1
namespace Go.Proofs.Yteopaifokfmnjaa.GWireJoined
open Go.Proofs.Yteopaifokfmnjaa.Pt Go.Proofs.Yteopaifokfmnjaa.Tk Go.Proofs.Yteopaifokfmnjaa.Cl Go.Proofs.Yteopaifokfmnjaa.Fl
open Go.RowKit Go.Proofs.YteopaifokfmnjaaW.PrintWords Go.Proofs.YteopaifokfmnjaaW.PrintLast Go.Proofs.YteopaifokfmnjaaW.PrintMore
attribute [local go_sem] max2_int min2_int max_two min_two max_three min_three max_four min_four   -- for this text's walks alone
set_option linter.unusedVariables false
set_option linter.unusedSimpArgs false

/-! ### wire_Take: function 18 -/
def wire_Take.j0 : Nat → List Int → Int → Int → Bool → Int → Int → Int → Option (Int × Int × Int × List Int × Int × Int)
  | 0, _, _, _, _, _, _, _ => none
  | k + 1, x0, x6, x9, x48, x142000, x142001, x142002 => if x48 = true then (some (0, 0, 0, ([] : List Int), 0, 20)) else (if 0 ≤ x6 then (if x6 ≤ (x0.length : Int) then ((some (x0.drop (x6 : Int).toNat : List Int)).bind fun y144 => (if x9 > 0 then (if (y144.length : Int) < x9 then (some (0, 0, 0, ([] : List Int), 0, 21)) else (if 0 ≤ x9 then (if x9 ≤ (y144.length : Int) then ((varint_Unfixed.f k (y144.take (x9 : Int).toNat)).bind fun t152 => (some (x142000, x142001, t152, ([] : List Int), wrap64 (x6 + x9), 0))) else (none)) else (none))) else ((varint_Take.f k y144).bind fun bt153 => (if bt153.2.2 = 0 then (if x142001 = 0 then (some (x142000, x142001, bt153.1, ([] : List Int), wrap64 (x6 + bt153.2.1), 0)) else (if bt153.1 > (IntKind.u64.wrap (wrap64 ((y144.length : Int) - bt153.2.1))) then (some (0, 0, 0, ([] : List Int), 0, 21)) else (if 0 ≤ bt153.2.1 then (if bt153.2.1 ≤ (wrap64 (bt153.2.1 + (wrap64 (bt153.1)))) then (if (wrap64 (bt153.2.1 + (wrap64 (bt153.1)))) ≤ (y144.length : Int) then ((bytes_Clone.f ((y144.take ((wrap64 (bt153.2.1 + (wrap64 (bt153.1)))) : Int).toNat).drop (bt153.2.1 : Int).toNat)).bind fun t160 => (some (x142000, x142001, x142002, t160, wrap64 ((wrap64 (x6 + bt153.2.1)) + (wrap64 (bt153.1))), 0))) else (none)) else (none)) else (none)))) else (some (0, 0, 0, ([] : List Int), 0, bt153.2.2)))))) else (none)) else (none))
def wire_Take.f (k : Nat) (l0 : List Int) : Option (Int × Int × Int × List Int × Int × Int) := (varint_Take.f k l0).bind fun bt138 => (if bt138.2.2 = 0 then ((wire_kind.f (wrap64 (Go.bits .and .u64 bt138.1 7))).bind fun bt142 => (if (bt138.1 / 4294967296) = 0 then (if (wrap64 (bt138.1 / 8)) = 0 then (wire_Take.j0 k l0 bt138.2.1 bt142.1 true (wrap64 (bt138.1 / 8)) (wrap64 (Go.bits .and .u64 bt138.1 7)) 0) else (wire_Take.j0 k l0 bt138.2.1 bt142.1 (!bt142.2) (wrap64 (bt138.1 / 8)) (wrap64 (Go.bits .and .u64 bt138.1 7)) 0)) else (wire_Take.j0 k l0 bt138.2.1 bt142.1 true (wrap64 (bt138.1 / 8)) (wrap64 (Go.bits .and .u64 bt138.1 7)) 0))) else (some (0, 0, 0, ([] : List Int), 0, bt138.2.2)))
theorem wire_Take.mono_l : ∀ k, (∀ y0 y1 y2 y3 y4 y5 y6, LeO (wire_Take.j0 k y0 y1 y2 y3 y4 y5 y6) (wire_Take.j0 (k + 1) y0 y1 y2 y3 y4 y5 y6))
  | 0 => fun _ _ _ _ _ _ _ r h => by simp [wire_Take.j0] at h
  | k + 1 => by
    have ih0 := wire_Take.mono_l k
    · intro y0 y1 y2 y3 y4 y5 y6
      unfold wire_Take.j0
      repeat' first
      | (with_reducible exact ih0 _ _ _ _ _ _ _)
      | (with_reducible exact varint_Take.mono _ _)
      | (with_reducible exact varint_Unfixed.mono _ _)
      | (with_reducible exact LeO.refl _)
      | (with_reducible exact LeO.none _)
      | (with_reducible refine LeO.ite ?_ ?_)
      | (with_reducible refine LeO.bind ?_ (fun _ => ?_))
      | exact ih0 _ _ _ _ _ _ _
      | exact varint_Take.mono _ _
      | exact varint_Unfixed.mono _ _
      | exact LeO.none _
      | refine LeO.ite ?_ ?_
      | refine LeO.bind ?_ (fun _ => ?_)
theorem wire_Take.mono : ∀ a0 k, LeO (wire_Take.f k a0) (wire_Take.f (k + 1) a0) := by
  intro a0 k
  have ih0 := wire_Take.mono_l k
  unfold wire_Take.f
  repeat' first
      | (with_reducible exact ih0 _ _ _ _ _ _ _)
      | (with_reducible exact varint_Take.mono _ _)
      | (with_reducible exact varint_Unfixed.mono _ _)
      | (with_reducible exact LeO.refl _)
      | (with_reducible exact LeO.none _)
      | (with_reducible refine LeO.ite ?_ ?_)
      | (with_reducible refine LeO.bind ?_ (fun _ => ?_))
      | exact ih0 _ _ _ _ _ _ _
      | exact varint_Take.mono _ _
      | exact varint_Unfixed.mono _ _
      | exact LeO.none _
      | refine LeO.ite ?_ ?_
      | refine LeO.bind ?_ (fun _ => ?_)
set_option maxHeartbeats 8000000 in
set_option maxRecDepth 100000 in
theorem wire_Take.calls (k : Nat) (A0 : Option Addr) (c0 : Nat) (l0 : List Int) (r1 : Int) (r2 : Int) (r3 : Int) (r4 : List Int) (r5 : Int) (r6 : Int) (w : World) (hr0 : Kd.C (Kd.int .u8) w A0 l0.length l0) (hc0 : l0.length ≤ c0) (h : wire_Take.f k l0 = some (r1, r2, r3, r4, r5, r6)) :
    Calls Try.prog 18 #[.slice A0 l0.length c0] w fun e w' => ∃ v3_ : Value, e = .returned (.tuple #[.agg #[.int .i64 r1, .int .i64 r2, .int .u64 r3, v3_], .int .i64 r5, .int .i64 r6]) ∧ Kd.R (Kd.int .u8) 5 w' w.heap.size (fun _ => True) v3_ r4 ∧ Below w.heap.size w w' := by
  have hu25 := Try.underlying25
  have HR0 := Aside0.mk hr0
  have HC0 := Aside0.mk hc0
  clear hr0 hc0
  have HB := Aside0.mk (Below.refl w.heap.size w)
  have H : ((varint_Take.f k l0).bind fun bt138 => (if bt138.2.2 = 0 then ((wire_kind.f (wrap64 (Go.bits .and .u64 bt138.1 7))).bind fun bt142 => (if (bt138.1 / 4294967296) = 0 then (if (wrap64 (bt138.1 / 8)) = 0 then (wire_Take.j0 k l0 bt138.2.1 bt142.1 true (wrap64 (bt138.1 / 8)) (wrap64 (Go.bits .and .u64 bt138.1 7)) 0) else (wire_Take.j0 k l0 bt138.2.1 bt142.1 (!bt142.2) (wrap64 (bt138.1 / 8)) (wrap64 (Go.bits .and .u64 bt138.1 7)) 0)) else (wire_Take.j0 k l0 bt138.2.1 bt142.1 true (wrap64 (bt138.1 / 8)) (wrap64 (Go.bits .and .u64 bt138.1 7)) 0))) else (some (0, 0, 0, ([] : List Int), 0, bt138.2.2)))) = some (r1, r2, r3, r4, r5, r6) := h
  clear h
  replace H := Option.bind_eq_some_iff.mp H
  obtain ⟨⟨t138, t139, t140⟩, A20, H⟩ := H
  replace H : (if t140 = 0 then ((wire_kind.f (wrap64 (Go.bits .and .u64 t138 7))).bind fun bt142 => (if (t138 / 4294967296) = 0 then (if (wrap64 (t138 / 8)) = 0 then (wire_Take.j0 k l0 t139 bt142.1 true (wrap64 (t138 / 8)) (wrap64 (Go.bits .and .u64 t138 7)) 0) else (wire_Take.j0 k l0 t139 bt142.1 (!bt142.2) (wrap64 (t138 / 8)) (wrap64 (Go.bits .and .u64 t138 7)) 0)) else (wire_Take.j0 k l0 t139 bt142.1 true (wrap64 (t138 / 8)) (wrap64 (Go.bits .and .u64 t138 7)) 0))) else (some (0, 0, 0, ([] : List Int), 0, t140))) = some (r1, r2, r3, r4, r5, r6) := H
  have A2 := Aside0.mk A20
  clear A20
  by_cases c3 : t140 = 0
  · as_aux_lemma =>
      rw [if_pos c3] at H
      have c3b0 : (t140 == 0) = true := beq_iff_eq.mpr c3
      have c3b1 : (t140 != 0) = false := bne_eq_false_iff_eq.mpr c3
      clear c3
      replace H := Option.bind_eq_some_iff.mp H
      obtain ⟨⟨t142, t143⟩, A40, H⟩ := H
      replace H : (if (t138 / 4294967296) = 0 then (if (wrap64 (t138 / 8)) = 0 then (wire_Take.j0 k l0 t139 t142 true (wrap64 (t138 / 8)) (wrap64 (Go.bits .and .u64 t138 7)) 0) else (wire_Take.j0 k l0 t139 t142 (!t143) (wrap64 (t138 / 8)) (wrap64 (Go.bits .and .u64 t138 7)) 0)) else (wire_Take.j0 k l0 t139 t142 true (wrap64 (t138 / 8)) (wrap64 (Go.bits .and .u64 t138 7)) 0)) = some (r1, r2, r3, r4, r5, r6) := H
      have A4 := Aside0.mk A40
      clear A40
      have HC5 := Aside0.mk H
      clear H
      go_enter Try.func18, Try.ntmps18
      go_upto_region 6 with (first | ((with_reducible refine gate_dst (N := 2) rfl ?_); refine box_event ?hg (N := 2) ?hd (cs := #[.int .i64 0, .int .i64 0, .int .u64 0, .slice none 0 0]) (t := 25) ?hr ?_; (case hd => rfl); (case hg => rfl); (case hr => first | (go_simp; done) | (go_simp; rfl)); intro gb137 hg w6 hbox hb; have n0_ := Aside0.mk (below_step (by repeat (first | (with_reducible first | exact HB.out | apply below_alloc | apply pw_below_drewN | apply below_drew1) | exact HB.out)) hb); have n1_ := Aside0.mk (hbox); have n2_ := Aside0.mk ((by rw [hg]; exact (below_size (by repeat (first | (with_reducible first | exact HB.out | apply below_alloc | apply pw_below_drewN | apply below_drew1) | exact HB.out))) : w.heap.size ≤ gb137)); have n3_ := Aside0.mk ((by rw [hg]; exact (below_size (by repeat (first | (with_reducible first | exact HB.out | apply below_alloc | apply pw_below_drewN | apply below_drew1) | exact HB.out))) : w.heap.size ≤ gb137)); clear HB; have HB := n0_; have BK137 := n1_; have GW137 := n2_; have GE137 := n3_; clear n0_ n1_ n2_ n3_; clear hb hbox hg) | ((with_reducible refine gate_callee (f := 31) rfl ?_); refine goesL_ (some 16) rfl rfl Try.func31 (by kernel_rfl) rfl #[.slice A0 l0.length c0] rfl (by (try simp only [List.map_toArray, List.map_cons, List.map_nil]); first | done | rfl | (simp only [List.length_drop, List.length_take]; rfl)) ?_; (with_reducible refine (varint_Take.calls k _ _ l0 t138 t139 t140 _ ?side1 ?side2 A2.out).mono ?_); (case side1 => repeat (first | exact (Kd.C_below HR0.out HB.out) | (with_reducible refine Kd.C_alloc ?_ _) | (with_reducible refine Kd.C_drewN ?_ _) | (with_reducible refine Kd.C_drew ?_))); (case side2 => exact HC0.out); rintro e w' ⟨rfl, ⟨nd, rfl⟩⟩; refine ⟨_, rfl, ?_⟩; (try (rw [drewN_self w6]; generalize hq_ : World.drewN w6 _ = w6; have n0_ : Aside0 (w6.heap[gb137]? = some (.cells #[.int .i64 0, .int .i64 0, .int .u64 0, .slice none 0 0] 25 (0, 0))) := ⟨by rw [← hq_]; exact (by (with_reducible repeat (first | refine blk_drewN ?_ _ | refine blk_drew ?_ | refine blk_alloc ?_ _)); exact BK137.out)⟩; have n1_ : Aside0 (Below w.heap.size w w6) := ⟨by rw [← hq_]; exact (by repeat (first | (with_reducible first | exact HB.out | apply below_alloc | apply pw_below_drewN | apply below_drew1 | refine below_set ?_ GE137.out) | exact HB.out))⟩; clear BK137 HB hq_; have BK137 := n0_; have HB := n1_; clear n0_ n1_)); have hczR1_gb137_0 : w6.cell? ⟨gb137, 0, none⟩ = some (.int .i64 0) := (blk_cell BK137.out 0).trans rfl; have hfzR1_gb137_0 := blk_frozen BK137.out 0; have hczR1_gb137_1 : w6.cell? ⟨gb137, 1, none⟩ = some (.int .i64 0) := (blk_cell BK137.out 1).trans rfl; have hfzR1_gb137_1 := blk_frozen BK137.out 1; have hczR1_gb137_2 : w6.cell? ⟨gb137, 2, none⟩ = some (.int .u64 0) := (blk_cell BK137.out 2).trans rfl; have hfzR1_gb137_2 := blk_frozen BK137.out 2; have hczR1_gb137_3 : w6.cell? ⟨gb137, 3, none⟩ = some (.slice none 0 0) := (blk_cell BK137.out 3).trans rfl; have hfzR1_gb137_3 := blk_frozen BK137.out 3) | ((with_reducible refine gate_dst (N := 8) rfl ?_); refine box_event ?hg (N := 8) ?hd (cs := #[.int .i64 0, .int .i64 0, .int .u64 0, .slice none 0 0]) (t := 25) ?hr ?_; (case hd => rfl); (case hg => rfl); (case hr => first | (go_simp; done) | (go_simp; rfl)); intro gb141 hg w7 hbox hb; have n0_ := Aside0.mk (blk_below (g := gb137) (o := .cells #[.int .i64 0, .int .i64 0, .int .u64 0, .slice none 0 0] 25 (0, 0)) (by (with_reducible repeat (first | refine blk_drewN ?_ _ | refine blk_drew ?_ | refine blk_alloc ?_ _)); exact BK137.out) hb); have n1_ := Aside0.mk (below_step (by repeat (first | (with_reducible first | exact HB.out | apply below_alloc | apply pw_below_drewN | apply below_drew1 | refine below_set ?_ GE137.out) | exact HB.out)) hb); have n2_ := Aside0.mk (hbox); have n3_ := Aside0.mk ((by rw [hg]; exact (below_size (by repeat (first | (with_reducible first | exact HB.out | apply below_alloc | apply pw_below_drewN | apply below_drew1 | refine below_set ?_ GE137.out) | exact HB.out))) : w.heap.size ≤ gb141)); have n4_ := Aside0.mk ((by rw [hg]; exact (below_size (by repeat (first | (with_reducible first | exact HB.out | apply below_alloc | apply pw_below_drewN | apply below_drew1 | refine below_set ?_ GE137.out) | exact HB.out))) : w.heap.size ≤ gb141)); have n5_ := Aside0.mk ((by rw [hg]; exact Nat.ne_of_lt (blk_lt (g := gb137) (o := .cells #[.int .i64 0, .int .i64 0, .int .u64 0, .slice none 0 0] 25 (0, 0)) (by (with_reducible repeat (first | refine blk_drewN ?_ _ | refine blk_drew ?_ | refine blk_alloc ?_ _)); exact BK137.out)) : gb137 ≠ gb141)); have n6_ := Aside0.mk ((by rw [hg]; exact Nat.ne_of_gt (blk_lt (g := gb137) (o := .cells #[.int .i64 0, .int .i64 0, .int .u64 0, .slice none 0 0] 25 (0, 0)) (by (with_reducible repeat (first | refine blk_drewN ?_ _ | refine blk_drew ?_ | refine blk_alloc ?_ _)); exact BK137.out)) : gb141 ≠ gb137)); clear BK137; clear HB; have BK137 := n0_; have HB := n1_; have BK141 := n2_; have GW141 := n3_; have GE141 := n4_; have NB137_141 := n5_; have NB141_137 := n6_; clear n0_ n1_ n2_ n3_ n4_ n5_ n6_; clear hb hbox hg; have hnb8 := NB141_137.out; have hnc8 := NB137_141.out; have hcz9_0 : w7.cell? ⟨gb141, 0, none⟩ = some (.int .i64 0) := (blk_cell BK141.out 0).trans rfl; have hcz9_1 : w7.cell? ⟨gb141, 1, none⟩ = some (.int .i64 0) := (blk_cell BK141.out 1).trans rfl; have hcz9_2 : w7.cell? ⟨gb141, 2, none⟩ = some (.int .u64 0) := (blk_cell BK141.out 2).trans rfl; have hcz9_3 : w7.cell? ⟨gb141, 3, none⟩ = some (.slice none 0 0) := (blk_cell BK141.out 3).trans rfl; have hfz9_0 := blk_frozen BK141.out 0; have hfz9_1 := blk_frozen BK141.out 1; have hfz9_2 := blk_frozen BK141.out 2; have hfz9_3 := blk_frozen BK141.out 3) | ((with_reducible refine gate_callee (f := 24) rfl ?_); refine goesL_ (some 34) rfl rfl Try.func24 (by kernel_rfl) rfl #[.int .i64 (wrap64 (Go.bits .and .u64 t138 7))] rfl (by (try simp only [List.map_toArray, List.map_cons, List.map_nil]); first | done | rfl | (simp only [List.length_drop, List.length_take]; rfl)) ?_; (with_reducible refine (wire_kind.calls (wrap64 (Go.bits .and .u64 t138 7)) t142 t143 _ A4.out).mono ?_); rintro e w' ⟨rfl, ⟨nd, rfl⟩⟩; refine ⟨_, rfl, ?_⟩))
      (try simp only [Act.put, List.setIfInBounds_toArray, List.set_cons_zero, List.set_cons_succ])
      go_cut [48] (fun v48 wc => ∃ (kq : Nat) (x48_4 : Bool), v48 = .bool x48_4 ∧ Aside0 (wire_Take.j0 kq l0 t139 t142 x48_4 (wrap64 (t138 / 8)) (wrap64 (Go.bits .and .u64 t138 7)) 0 = some (r1, r2, r3, r4, r5, r6)) ∧ Aside0 (kq ≤ k) ∧ Aside0 (wc.heap[gb137]? = some (.cells #[.int .i64 0, .int .i64 0, .int .u64 0, (.slice none 0 0)] 25 (0, 0))) ∧ Aside0 (wc.heap[gb141]? = some (.cells #[.int .i64 (wrap64 (t138 / 8)), .int .i64 (wrap64 (Go.bits .and .u64 t138 7)), .int .u64 0, (.slice none 0 0)] 25 (0, 0))) ∧ Aside0 (Below w.heap.size w wc))
      case first =>
        have H := HC5.out
        clear HC5
        by_cases c10 : (t138 / 4294967296) = 0
        · as_aux_lemma =>
            rw [if_pos c10] at H
            have c10b0 : ((t138 / 4294967296) == 0) = true := beq_iff_eq.mpr c10
            have c10b1 : ((t138 / 4294967296) != 0) = false := bne_eq_false_iff_eq.mpr c10
            clear c10
            (first | rw [c10b0] | (simp only [i64_w, i32_w]; rw [c10b0]) | skip)
            by_cases c11 : (wrap64 (t138 / 8)) = 0
            · as_aux_lemma =>
                rw [if_pos c11] at H
                have c11b0 : ((wrap64 (t138 / 8)) == 0) = true := beq_iff_eq.mpr c11
                have c11b1 : ((wrap64 (t138 / 8)) != 0) = false := bne_eq_false_iff_eq.mpr c11
                clear c11
                as_aux_lemma =>
                  have H' := Aside0.mk H
                  clear H
                  have hnb12 := NB141_137.out
                  have hnc12 := NB137_141.out
                  have hcz13_0 : w7.cell? ⟨gb141, 0, none⟩ = some (.int .i64 0) := (blk_cell BK141.out 0).trans rfl
                  have hcz13_1 : w7.cell? ⟨gb141, 1, none⟩ = some (.int .i64 0) := (blk_cell BK141.out 1).trans rfl
                  have hcz13_2 : w7.cell? ⟨gb141, 2, none⟩ = some (.int .u64 0) := (blk_cell BK141.out 2).trans rfl
                  have hcz13_3 : w7.cell? ⟨gb141, 3, none⟩ = some (.slice none 0 0) := (blk_cell BK141.out 3).trans rfl
                  have hfz13_0 := blk_frozen BK141.out 0
                  have hfz13_1 := blk_frozen BK141.out 1
                  have hfz13_2 := blk_frozen BK141.out 2
                  have hfz13_3 := blk_frozen BK141.out 3
                  generalize hwq_ : World.drewN _ _ = wq
                  have Qgb137 : Aside0 (wq.heap[gb137]? = some (.cells #[.int .i64 0, .int .i64 0, .int .u64 0, (.slice none 0 0)] 25 (0, 0))) := ⟨by rw [← hwq_]; (with_reducible repeat (first | refine blk_drewN ?_ _ | refine blk_drew ?_ | refine blk_alloc ?_ _)); refine blk_far ?_ NB137_141.out _; (with_reducible repeat (first | refine blk_drewN ?_ _ | refine blk_drew ?_ | refine blk_alloc ?_ _)); refine blk_far ?_ NB137_141.out _; (with_reducible repeat (first | refine blk_drewN ?_ _ | refine blk_drew ?_ | refine blk_alloc ?_ _)); refine blk_far ?_ NB137_141.out _; (with_reducible repeat (first | refine blk_drewN ?_ _ | refine blk_drew ?_ | refine blk_alloc ?_ _)); refine blk_far ?_ NB137_141.out _; (with_reducible repeat (first | refine blk_drewN ?_ _ | refine blk_drew ?_ | refine blk_alloc ?_ _)); exact BK137.out⟩
                  have Qgb141 : Aside0 (wq.heap[gb141]? = some (.cells #[.int .i64 (wrap64 (t138 / 8)), .int .i64 (wrap64 (Go.bits .and .u64 t138 7)), .int .u64 0, (.slice none 0 0)] 25 (0, 0))) := ⟨by rw [← hwq_]; (with_reducible repeat (first | refine blk_drewN ?_ _ | refine blk_drew ?_ | refine blk_alloc ?_ _)); refine blk_put (cs := #[.int .i64 (wrap64 (t138 / 8)), .int .i64 (wrap64 (Go.bits .and .u64 t138 7)), .int .u64 0, .slice none 0 0]) ?_ 3 _ rfl; (with_reducible repeat (first | refine blk_drewN ?_ _ | refine blk_drew ?_ | refine blk_alloc ?_ _)); refine blk_put (cs := #[.int .i64 (wrap64 (t138 / 8)), .int .i64 (wrap64 (Go.bits .and .u64 t138 7)), .int .u64 0, .slice none 0 0]) ?_ 2 _ rfl; (with_reducible repeat (first | refine blk_drewN ?_ _ | refine blk_drew ?_ | refine blk_alloc ?_ _)); refine blk_put (cs := #[.int .i64 (wrap64 (t138 / 8)), .int .i64 0, .int .u64 0, .slice none 0 0]) ?_ 1 _ rfl; (with_reducible repeat (first | refine blk_drewN ?_ _ | refine blk_drew ?_ | refine blk_alloc ?_ _)); refine blk_put (cs := #[.int .i64 0, .int .i64 0, .int .u64 0, .slice none 0 0]) ?_ 0 _ rfl; (with_reducible repeat (first | refine blk_drewN ?_ _ | refine blk_drew ?_ | refine blk_alloc ?_ _)); exact BK141.out⟩
                  have QHB : Aside0 (Below w.heap.size w wq) := ⟨by rw [← hwq_]; repeat (first | (with_reducible first | exact HB.out | apply below_alloc | apply pw_below_drewN | apply below_drew1 | refine below_set ?_ GE137.out | refine below_set ?_ GE141.out) | exact HB.out)⟩
                  clear hwq_
                  have Qcgb137_0 := (blk_cell Qgb137.out 0).trans rfl
                  have Qcgb137_1 := (blk_cell Qgb137.out 1).trans rfl
                  have Qcgb137_2 := (blk_cell Qgb137.out 2).trans rfl
                  have Qcgb137_3 := (blk_cell Qgb137.out 3).trans rfl
                  have Qcgb141_0 := (blk_cell Qgb141.out 0).trans rfl
                  have Qcgb141_1 := (blk_cell Qgb141.out 1).trans rfl
                  have Qcgb141_2 := (blk_cell Qgb141.out 2).trans rfl
                  have Qcgb141_3 := (blk_cell Qgb141.out 3).trans rfl
                  go_wp2
                  go_meet
                  case rel => exact ⟨_, (true), (by first | rfl | (simp; done) | (simp [*]; done)), H', ⟨by first | omega | exact Nat.le_refl _⟩, ⟨by (with_reducible repeat (first | refine blk_drewN ?_ _ | refine blk_drew ?_ | refine blk_alloc ?_ _)); exact Qgb137.out⟩, ⟨by (with_reducible repeat (first | refine blk_drewN ?_ _ | refine blk_drew ?_ | refine blk_alloc ?_ _)); exact Qgb141.out⟩, ⟨by repeat (first | (with_reducible first | exact QHB.out | apply below_alloc | apply pw_below_drewN | apply below_drew1) | exact QHB.out)⟩⟩
            · as_aux_lemma =>
                rw [if_neg c11] at H
                have c11b0 : ((wrap64 (t138 / 8)) == 0) = false := beq_eq_false_iff_ne.mpr c11
                have c11b1 : ((wrap64 (t138 / 8)) != 0) = true := bne_iff_ne.mpr c11
                as_aux_lemma =>
                  have H' := Aside0.mk H
                  clear H
                  have hnb14 := NB141_137.out
                  have hnc14 := NB137_141.out
                  have hcz15_0 : w7.cell? ⟨gb141, 0, none⟩ = some (.int .i64 0) := (blk_cell BK141.out 0).trans rfl
                  have hcz15_1 : w7.cell? ⟨gb141, 1, none⟩ = some (.int .i64 0) := (blk_cell BK141.out 1).trans rfl
                  have hcz15_2 : w7.cell? ⟨gb141, 2, none⟩ = some (.int .u64 0) := (blk_cell BK141.out 2).trans rfl
                  have hcz15_3 : w7.cell? ⟨gb141, 3, none⟩ = some (.slice none 0 0) := (blk_cell BK141.out 3).trans rfl
                  have hfz15_0 := blk_frozen BK141.out 0
                  have hfz15_1 := blk_frozen BK141.out 1
                  have hfz15_2 := blk_frozen BK141.out 2
                  have hfz15_3 := blk_frozen BK141.out 3
                  generalize hwq_ : World.drewN _ _ = wq
                  have Qgb137 : Aside0 (wq.heap[gb137]? = some (.cells #[.int .i64 0, .int .i64 0, .int .u64 0, (.slice none 0 0)] 25 (0, 0))) := ⟨by rw [← hwq_]; (with_reducible repeat (first | refine blk_drewN ?_ _ | refine blk_drew ?_ | refine blk_alloc ?_ _)); refine blk_far ?_ NB137_141.out _; (with_reducible repeat (first | refine blk_drewN ?_ _ | refine blk_drew ?_ | refine blk_alloc ?_ _)); refine blk_far ?_ NB137_141.out _; (with_reducible repeat (first | refine blk_drewN ?_ _ | refine blk_drew ?_ | refine blk_alloc ?_ _)); refine blk_far ?_ NB137_141.out _; (with_reducible repeat (first | refine blk_drewN ?_ _ | refine blk_drew ?_ | refine blk_alloc ?_ _)); refine blk_far ?_ NB137_141.out _; (with_reducible repeat (first | refine blk_drewN ?_ _ | refine blk_drew ?_ | refine blk_alloc ?_ _)); exact BK137.out⟩
                  have Qgb141 : Aside0 (wq.heap[gb141]? = some (.cells #[.int .i64 (wrap64 (t138 / 8)), .int .i64 (wrap64 (Go.bits .and .u64 t138 7)), .int .u64 0, (.slice none 0 0)] 25 (0, 0))) := ⟨by rw [← hwq_]; (with_reducible repeat (first | refine blk_drewN ?_ _ | refine blk_drew ?_ | refine blk_alloc ?_ _)); refine blk_put (cs := #[.int .i64 (wrap64 (t138 / 8)), .int .i64 (wrap64 (Go.bits .and .u64 t138 7)), .int .u64 0, .slice none 0 0]) ?_ 3 _ rfl; (with_reducible repeat (first | refine blk_drewN ?_ _ | refine blk_drew ?_ | refine blk_alloc ?_ _)); refine blk_put (cs := #[.int .i64 (wrap64 (t138 / 8)), .int .i64 (wrap64 (Go.bits .and .u64 t138 7)), .int .u64 0, .slice none 0 0]) ?_ 2 _ rfl; (with_reducible repeat (first | refine blk_drewN ?_ _ | refine blk_drew ?_ | refine blk_alloc ?_ _)); refine blk_put (cs := #[.int .i64 (wrap64 (t138 / 8)), .int .i64 0, .int .u64 0, .slice none 0 0]) ?_ 1 _ rfl; (with_reducible repeat (first | refine blk_drewN ?_ _ | refine blk_drew ?_ | refine blk_alloc ?_ _)); refine blk_put (cs := #[.int .i64 0, .int .i64 0, .int .u64 0, .slice none 0 0]) ?_ 0 _ rfl; (with_reducible repeat (first | refine blk_drewN ?_ _ | refine blk_drew ?_ | refine blk_alloc ?_ _)); exact BK141.out⟩
                  have QHB : Aside0 (Below w.heap.size w wq) := ⟨by rw [← hwq_]; repeat (first | (with_reducible first | exact HB.out | apply below_alloc | apply pw_below_drewN | apply below_drew1 | refine below_set ?_ GE137.out | refine below_set ?_ GE141.out) | exact HB.out)⟩
                  clear hwq_
                  have Qcgb137_0 := (blk_cell Qgb137.out 0).trans rfl
                  have Qcgb137_1 := (blk_cell Qgb137.out 1).trans rfl
                  have Qcgb137_2 := (blk_cell Qgb137.out 2).trans rfl
                  have Qcgb137_3 := (blk_cell Qgb137.out 3).trans rfl
                  have Qcgb141_0 := (blk_cell Qgb141.out 0).trans rfl
                  have Qcgb141_1 := (blk_cell Qgb141.out 1).trans rfl
                  have Qcgb141_2 := (blk_cell Qgb141.out 2).trans rfl
                  have Qcgb141_3 := (blk_cell Qgb141.out 3).trans rfl
                  go_wp2
                  go_meet
                  case rel => exact ⟨_, (!t143), (by first | rfl | (simp; done) | (simp [*]; done)), H', ⟨by first | omega | exact Nat.le_refl _⟩, ⟨by (with_reducible repeat (first | refine blk_drewN ?_ _ | refine blk_drew ?_ | refine blk_alloc ?_ _)); exact Qgb137.out⟩, ⟨by (with_reducible repeat (first | refine blk_drewN ?_ _ | refine blk_drew ?_ | refine blk_alloc ?_ _)); exact Qgb141.out⟩, ⟨by repeat (first | (with_reducible first | exact QHB.out | apply below_alloc | apply pw_below_drewN | apply below_drew1) | exact QHB.out)⟩⟩
        · as_aux_lemma =>
            rw [if_neg c10] at H
            have c10b0 : ((t138 / 4294967296) == 0) = false := beq_eq_false_iff_ne.mpr c10
            have c10b1 : ((t138 / 4294967296) != 0) = true := bne_iff_ne.mpr c10
            (first | rw [c10b0] | (simp only [i64_w, i32_w]; rw [c10b0]) | skip)
            as_aux_lemma =>
              have H' := Aside0.mk H
              clear H
              generalize hwq_ : World.drewN _ _ = wq
              have Qgb137 : Aside0 (wq.heap[gb137]? = some (.cells #[.int .i64 0, .int .i64 0, .int .u64 0, (.slice none 0 0)] 25 (0, 0))) := ⟨by rw [← hwq_]; (with_reducible repeat (first | refine blk_drewN ?_ _ | refine blk_drew ?_ | refine blk_alloc ?_ _)); refine blk_far ?_ NB137_141.out _; (with_reducible repeat (first | refine blk_drewN ?_ _ | refine blk_drew ?_ | refine blk_alloc ?_ _)); refine blk_far ?_ NB137_141.out _; (with_reducible repeat (first | refine blk_drewN ?_ _ | refine blk_drew ?_ | refine blk_alloc ?_ _)); refine blk_far ?_ NB137_141.out _; (with_reducible repeat (first | refine blk_drewN ?_ _ | refine blk_drew ?_ | refine blk_alloc ?_ _)); refine blk_far ?_ NB137_141.out _; (with_reducible repeat (first | refine blk_drewN ?_ _ | refine blk_drew ?_ | refine blk_alloc ?_ _)); exact BK137.out⟩
              have Qgb141 : Aside0 (wq.heap[gb141]? = some (.cells #[.int .i64 (wrap64 (t138 / 8)), .int .i64 (wrap64 (Go.bits .and .u64 t138 7)), .int .u64 0, (.slice none 0 0)] 25 (0, 0))) := ⟨by rw [← hwq_]; (with_reducible repeat (first | refine blk_drewN ?_ _ | refine blk_drew ?_ | refine blk_alloc ?_ _)); refine blk_put (cs := #[.int .i64 (wrap64 (t138 / 8)), .int .i64 (wrap64 (Go.bits .and .u64 t138 7)), .int .u64 0, .slice none 0 0]) ?_ 3 _ rfl; (with_reducible repeat (first | refine blk_drewN ?_ _ | refine blk_drew ?_ | refine blk_alloc ?_ _)); refine blk_put (cs := #[.int .i64 (wrap64 (t138 / 8)), .int .i64 (wrap64 (Go.bits .and .u64 t138 7)), .int .u64 0, .slice none 0 0]) ?_ 2 _ rfl; (with_reducible repeat (first | refine blk_drewN ?_ _ | refine blk_drew ?_ | refine blk_alloc ?_ _)); refine blk_put (cs := #[.int .i64 (wrap64 (t138 / 8)), .int .i64 0, .int .u64 0, .slice none 0 0]) ?_ 1 _ rfl; (with_reducible repeat (first | refine blk_drewN ?_ _ | refine blk_drew ?_ | refine blk_alloc ?_ _)); refine blk_put (cs := #[.int .i64 0, .int .i64 0, .int .u64 0, .slice none 0 0]) ?_ 0 _ rfl; (with_reducible repeat (first | refine blk_drewN ?_ _ | refine blk_drew ?_ | refine blk_alloc ?_ _)); exact BK141.out⟩
              have QHB : Aside0 (Below w.heap.size w wq) := ⟨by rw [← hwq_]; repeat (first | (with_reducible first | exact HB.out | apply below_alloc | apply pw_below_drewN | apply below_drew1 | refine below_set ?_ GE137.out | refine below_set ?_ GE141.out) | exact HB.out)⟩
              clear hwq_
              have Qcgb137_0 := (blk_cell Qgb137.out 0).trans rfl
              have Qcgb137_1 := (blk_cell Qgb137.out 1).trans rfl
              have Qcgb137_2 := (blk_cell Qgb137.out 2).trans rfl
              have Qcgb137_3 := (blk_cell Qgb137.out 3).trans rfl
              have Qcgb141_0 := (blk_cell Qgb141.out 0).trans rfl
              have Qcgb141_1 := (blk_cell Qgb141.out 1).trans rfl
              have Qcgb141_2 := (blk_cell Qgb141.out 2).trans rfl
              have Qcgb141_3 := (blk_cell Qgb141.out 3).trans rfl
              go_wp2
              go_meet
              case rel => exact ⟨_, (true), (by first | rfl | (simp; done) | (simp [*]; done)), H', ⟨by first | omega | exact Nat.le_refl _⟩, ⟨by (with_reducible repeat (first | refine blk_drewN ?_ _ | refine blk_drew ?_ | refine blk_alloc ?_ _)); exact Qgb137.out⟩, ⟨by (with_reducible repeat (first | refine blk_drewN ?_ _ | refine blk_drew ?_ | refine blk_alloc ?_ _)); exact Qgb141.out⟩, ⟨by repeat (first | (with_reducible first | exact QHB.out | apply below_alloc | apply pw_below_drewN | apply below_drew1) | exact QHB.out)⟩⟩
      case rest =>
        clear HC5
        try clear c1
        try clear c2
        try clear p2
        try clear c3
        try clear c3b0
        try clear c3b1
        try clear p6
        try clear c8
        try clear c10
        try clear c10b0
        try clear c10b1
        try clear c11
        try clear c11b0
        try clear c11b1
        try clear c12
        try clear c14
        try clear hcz13_0
        try clear hcz13_1
        try clear hcz13_2
        try clear hcz13_3
        try clear hcz15_0
        try clear hcz15_1
        try clear hcz15_2
        try clear hcz15_3
        try clear hcz9_0
        try clear hcz9_1
        try clear hcz9_2
        try clear hcz9_3
        try clear hfz13_0
        try clear hfz13_1
        try clear hfz13_2
        try clear hfz13_3
        try clear hfz15_0
        try clear hfz15_1
        try clear hfz15_2
        try clear hfz15_3
        try clear hfz9_0
        try clear hfz9_1
        try clear hfz9_2
        try clear hfz9_3
        obtain ⟨kq, x48_4, rfl, HA, HJ4, BK137, BK141, HB⟩ := hcut
        cases kq with
        | zero => exact absurd HA.out (by simp [wire_Take.j0])
        | succ kj4 =>
          have H := HA.out
          clear HA
          simp only [wire_Take.j0] at H
          by_cases c16 : x48_4 = true
          · subst c16
            have H1 : (some (0, 0, 0, ([] : List Int), 0, 20)) = some (r1, r2, r3, r4, r5, r6) := by rw [if_pos rfl] at H; exact H
            clear H
            have H := H1
            clear H1
            as_aux_lemma =>
              simp only [Option.some.injEq, Prod.mk.injEq] at H
              obtain ⟨rfl, rfl, rfl, rfl, rfl, rfl⟩ := H
              have hnb17 := NB137_141.out
              have hnc17 := NB141_137.out
              have hcz18_0 : wc.cell? ⟨gb137, 0, none⟩ = some (.int .i64 0) := (blk_cell BK137.out 0).trans rfl
              have hcz18_1 : wc.cell? ⟨gb137, 1, none⟩ = some (.int .i64 0) := (blk_cell BK137.out 1).trans rfl
              have hcz18_2 : wc.cell? ⟨gb137, 2, none⟩ = some (.int .u64 0) := (blk_cell BK137.out 2).trans rfl
              have hcz18_3 : wc.cell? ⟨gb137, 3, none⟩ = some (.slice none 0 0) := (blk_cell BK137.out 3).trans rfl
              have hfz18_0 := blk_frozen BK137.out 0
              have hfz18_1 := blk_frozen BK137.out 1
              have hfz18_2 := blk_frozen BK137.out 2
              have hfz18_3 := blk_frozen BK137.out 3
              go_wp2
              refine bodyPost_ret (results_ctt rfl _ _ gb137 25 #[.int .i64 0, .int .i64 0, .int .u64 0, .slice none 0 0] (0, 0) _ rfl (by (with_reducible repeat (first | refine blk_drewN ?_ _ | refine blk_drew ?_ | refine blk_alloc ?_ _)); refine blk_put (cs := #[.int .i64 0, .int .i64 0, .int .u64 0, .slice none 0 0]) ?_ 3 _ rfl; (with_reducible repeat (first | refine blk_drewN ?_ _ | refine blk_drew ?_ | refine blk_alloc ?_ _)); refine blk_put (cs := #[.int .i64 0, .int .i64 0, .int .u64 0, .slice none 0 0]) ?_ 2 _ rfl; (with_reducible repeat (first | refine blk_drewN ?_ _ | refine blk_drew ?_ | refine blk_alloc ?_ _)); refine blk_put (cs := #[.int .i64 0, .int .i64 0, .int .u64 0, .slice none 0 0]) ?_ 1 _ rfl; (with_reducible repeat (first | refine blk_drewN ?_ _ | refine blk_drew ?_ | refine blk_alloc ?_ _)); refine blk_put (cs := #[.int .i64 0, .int .i64 0, .int .u64 0, .slice none 0 0]) ?_ 0 _ rfl; (with_reducible repeat (first | refine blk_drewN ?_ _ | refine blk_drew ?_ | refine blk_alloc ?_ _)); exact BK137.out) Try.underlying25 rfl (by kernel_rfl)) rfl ?_
              exact ⟨_, by first | rfl | (simp [errW_none, errW_some] <;> rfl) | (simp [*, errW_none, errW_some] <;> rfl), by first | exact Kd.R_nil _ _ _ _ _ | exact Kd.N_nil _ _ _ _ _ | exact Kd.V_nil _ _ _ _ _ | exact Kd.Q_nil _ _ _ _ _ | exact Kd.S_nil _ _ _ _ _, by repeat (first | (with_reducible first | exact HB.out | apply below_alloc | apply pw_below_drewN | apply below_drew1 | refine below_set ?_ GE137.out | refine below_set ?_ GE141.out) | exact HB.out)⟩
          · replace c16 := Bool.eq_false_iff.mpr c16
            subst c16
            have H1 : (if 0 ≤ t139 then (if t139 ≤ (l0.length : Int) then ((some (l0.drop (t139 : Int).toNat : List Int)).bind fun y144 => (if t142 > 0 then (if (y144.length : Int) < t142 then (some (0, 0, 0, ([] : List Int), 0, 21)) else (if 0 ≤ t142 then (if t142 ≤ (y144.length : Int) then ((varint_Unfixed.f kj4 (y144.take (t142 : Int).toNat)).bind fun t152 => (some ((wrap64 (t138 / 8)), (wrap64 (Go.bits .and .u64 t138 7)), t152, ([] : List Int), wrap64 (t139 + t142), 0))) else (none)) else (none))) else ((varint_Take.f kj4 y144).bind fun bt153 => (if bt153.2.2 = 0 then (if (wrap64 (Go.bits .and .u64 t138 7)) = 0 then (some ((wrap64 (t138 / 8)), (wrap64 (Go.bits .and .u64 t138 7)), bt153.1, ([] : List Int), wrap64 (t139 + bt153.2.1), 0)) else (if bt153.1 > (IntKind.u64.wrap (wrap64 ((y144.length : Int) - bt153.2.1))) then (some (0, 0, 0, ([] : List Int), 0, 21)) else (if 0 ≤ bt153.2.1 then (if bt153.2.1 ≤ (wrap64 (bt153.2.1 + (wrap64 (bt153.1)))) then (if (wrap64 (bt153.2.1 + (wrap64 (bt153.1)))) ≤ (y144.length : Int) then ((bytes_Clone.f ((y144.take ((wrap64 (bt153.2.1 + (wrap64 (bt153.1)))) : Int).toNat).drop (bt153.2.1 : Int).toNat)).bind fun t160 => (some ((wrap64 (t138 / 8)), (wrap64 (Go.bits .and .u64 t138 7)), 0, t160, wrap64 ((wrap64 (t139 + bt153.2.1)) + (wrap64 (bt153.1))), 0))) else (none)) else (none)) else (none)))) else (some (0, 0, 0, ([] : List Int), 0, bt153.2.2)))))) else (none)) else (none)) = some (r1, r2, r3, r4, r5, r6) := by rw [if_neg (show ¬ (false = true) by decide)] at H; exact H
            clear H
            have H := H1
            clear H1
            by_cases c19 : 0 ≤ t139
            · as_aux_lemma =>
                rw [if_pos c19] at H
                have c19b0 := eq_true c19
                have c19b1 : decide (0 ≤ t139) = true := decide_eq_true c19
                clear c19
                by_cases c20 : t139 ≤ (l0.length : Int)
                · as_aux_lemma =>
                    rw [if_pos c20] at H
                    have c20b0 := eq_true c20
                    have c20b1 : decide (t139 ≤ (l0.length : Int)) = true := decide_eq_true c20
                    clear c20
                    obtain ⟨y144, hy144⟩ : ∃ y_ : List Int, y_ = (l0.drop (t139 : Int).toNat) := ⟨_, rfl⟩
                    replace H : (if t142 > 0 then (if (y144.length : Int) < t142 then (some (0, 0, 0, ([] : List Int), 0, 21)) else (if 0 ≤ t142 then (if t142 ≤ (y144.length : Int) then ((varint_Unfixed.f kj4 (y144.take (t142 : Int).toNat)).bind fun t152 => (some ((wrap64 (t138 / 8)), (wrap64 (Go.bits .and .u64 t138 7)), t152, ([] : List Int), wrap64 (t139 + t142), 0))) else (none)) else (none))) else ((varint_Take.f kj4 y144).bind fun bt153 => (if bt153.2.2 = 0 then (if (wrap64 (Go.bits .and .u64 t138 7)) = 0 then (some ((wrap64 (t138 / 8)), (wrap64 (Go.bits .and .u64 t138 7)), bt153.1, ([] : List Int), wrap64 (t139 + bt153.2.1), 0)) else (if bt153.1 > (IntKind.u64.wrap (wrap64 ((y144.length : Int) - bt153.2.1))) then (some (0, 0, 0, ([] : List Int), 0, 21)) else (if 0 ≤ bt153.2.1 then (if bt153.2.1 ≤ (wrap64 (bt153.2.1 + (wrap64 (bt153.1)))) then (if (wrap64 (bt153.2.1 + (wrap64 (bt153.1)))) ≤ (y144.length : Int) then ((bytes_Clone.f ((y144.take ((wrap64 (bt153.2.1 + (wrap64 (bt153.1)))) : Int).toNat).drop (bt153.2.1 : Int).toNat)).bind fun t160 => (some ((wrap64 (t138 / 8)), (wrap64 (Go.bits .and .u64 t138 7)), 0, t160, wrap64 ((wrap64 (t139 + bt153.2.1)) + (wrap64 (bt153.1))), 0))) else (none)) else (none)) else (none)))) else (some (0, 0, 0, ([] : List Int), 0, bt153.2.2))))) = some (r1, r2, r3, r4, r5, r6) := by first | (rw [hy144]; with_reducible exact H) | (have H2_ := (Option.bind_some _ _).symm.trans H; rw [hy144]; with_reducible exact H2_) | (have H2_ := (Option.bind_some _ _).symm.trans H; with_reducible exact H2_) | with_reducible exact H | (rw [hy144]; exact H) | exact H
                    have Ny144 := Aside0.mk hy144
                    clear hy144
                    by_cases c21 : t142 > 0
                    · as_aux_lemma =>
                        rw [if_pos c21] at H
                        have c21b0 : decide (0 < t142) = true := decide_eq_true c21
                        clear c21
                        by_cases c22 : (y144.length : Int) < t142
                        · as_aux_lemma =>
                            rw [if_pos c22] at H
                            have c22b0 : decide ((y144.length : Int) < t142) = true := decide_eq_true c22
                            clear c22
                            as_aux_lemma =>
                              simp only [Option.some.injEq, Prod.mk.injEq] at H
                              obtain ⟨rfl, rfl, rfl, rfl, rfl, rfl⟩ := H
                              have q23 : (t139 : Int) ≤ ((l0.length : Int) : Int) := of_decide_eq_true (by first | (with_reducible assumption) | assumption)
                              obtain ⟨i023, hi023, _, hsz23, _⟩ := info_parts info5
                              have hroom23 : l0.length ≤ c0 := HC0.out
                              have hC23 : Kd.C (Kd.int .u8) _ A0 l0.length l0 := HR0.out
                              have q023 : (0 : Int) ≤ (t139 : Int) := of_decide_eq_true (by first | (with_reducible assumption) | assumption)
                              have hcut23 := cut_from (P := Try.prog) 23 5 .i64 Try.underlying23 hi023 1 hsz23 A0 l0.length c0 t139 q023 q23
                              have hr23 := Kd.C_drop (m := (t139 : Int).toNat) (c := c0) hC23 (by omega) hroom23
                              obtain ⟨A23, hA23⟩ : ∃ A1, A1 = (if c0 = (t139 : Int).toNat then A0 else (A0 : Option Addr).map (·.add ((t139 : Int).toNat * 1))) := ⟨_, rfl⟩
                              obtain ⟨c23, hc23⟩ : ∃ c1, c1 = c0 - (t139 : Int).toNat := ⟨_, rfl⟩
                              have hy23 : y144.length = l0.length - (t139 : Int).toNat := (by rw [Ny144.out, List.length_drop] <;> omega)
                              rw [show (l0).drop (t139 : Int).toNat = y144 from Ny144.out.symm] at hr23
                              replace hr23 : Kd.C (Kd.int .u8) _ A23 y144.length y144 := (by rw [hA23]; exact hr23)
                              rw [← hy23, ← hA23, ← hc23] at hcut23
                              have HR147 := Aside0.mk hr23
                              have HC147 := Aside0.mk (show y144.length ≤ c23 from by rw [hy23, hc23]; exact Nat.sub_le_sub_right hroom23 _)
                              clear hr23 hC23 hroom23 hi023 hsz23 hc23
                              have KY23 := Aside0.mk hy23
                              have KA23 := Aside0.mk hA23
                              clear hy23 hA23
                              replace q23 := eq_true q23
                              have hnb24 := NB137_141.out
                              have hnc24 := NB141_137.out
                              have hcz25_0 : wc.cell? ⟨gb137, 0, none⟩ = some (.int .i64 0) := (blk_cell BK137.out 0).trans rfl
                              have hcz25_1 : wc.cell? ⟨gb137, 1, none⟩ = some (.int .i64 0) := (blk_cell BK137.out 1).trans rfl
                              have hcz25_2 : wc.cell? ⟨gb137, 2, none⟩ = some (.int .u64 0) := (blk_cell BK137.out 2).trans rfl
                              have hcz25_3 : wc.cell? ⟨gb137, 3, none⟩ = some (.slice none 0 0) := (blk_cell BK137.out 3).trans rfl
                              have hfz25_0 := blk_frozen BK137.out 0
                              have hfz25_1 := blk_frozen BK137.out 1
                              have hfz25_2 := blk_frozen BK137.out 2
                              have hfz25_3 := blk_frozen BK137.out 3
                              go_wp2
                              refine bodyPost_ret (results_ctt rfl _ _ gb137 25 #[.int .i64 0, .int .i64 0, .int .u64 0, .slice none 0 0] (0, 0) _ rfl (by (with_reducible repeat (first | refine blk_drewN ?_ _ | refine blk_drew ?_ | refine blk_alloc ?_ _)); refine blk_put (cs := #[.int .i64 0, .int .i64 0, .int .u64 0, .slice none 0 0]) ?_ 3 _ rfl; (with_reducible repeat (first | refine blk_drewN ?_ _ | refine blk_drew ?_ | refine blk_alloc ?_ _)); refine blk_put (cs := #[.int .i64 0, .int .i64 0, .int .u64 0, .slice none 0 0]) ?_ 2 _ rfl; (with_reducible repeat (first | refine blk_drewN ?_ _ | refine blk_drew ?_ | refine blk_alloc ?_ _)); refine blk_put (cs := #[.int .i64 0, .int .i64 0, .int .u64 0, .slice none 0 0]) ?_ 1 _ rfl; (with_reducible repeat (first | refine blk_drewN ?_ _ | refine blk_drew ?_ | refine blk_alloc ?_ _)); refine blk_put (cs := #[.int .i64 0, .int .i64 0, .int .u64 0, .slice none 0 0]) ?_ 0 _ rfl; (with_reducible repeat (first | refine blk_drewN ?_ _ | refine blk_drew ?_ | refine blk_alloc ?_ _)); exact BK137.out) Try.underlying25 rfl (by kernel_rfl)) rfl ?_
                              exact ⟨_, by first | rfl | (simp [errW_none, errW_some] <;> rfl) | (simp [*, errW_none, errW_some] <;> rfl), by first | exact Kd.R_nil _ _ _ _ _ | exact Kd.N_nil _ _ _ _ _ | exact Kd.V_nil _ _ _ _ _ | exact Kd.Q_nil _ _ _ _ _ | exact Kd.S_nil _ _ _ _ _, by repeat (first | (with_reducible first | exact HB.out | apply below_alloc | apply pw_below_drewN | apply below_drew1 | refine below_set ?_ GE137.out | refine below_set ?_ GE141.out) | exact HB.out)⟩
                        · as_aux_lemma =>
                            rw [if_neg c22] at H
                            have c22b0 : decide ((y144.length : Int) < t142) = false := decide_eq_false c22
                            clear c22
                            by_cases c26 : 0 ≤ t142
                            · as_aux_lemma =>
                                rw [if_pos c26] at H
                                have c26b0 := eq_true c26
                                have c26b1 : decide (0 ≤ t142) = true := decide_eq_true c26
                                clear c26
                                by_cases c27 : t142 ≤ (y144.length : Int)
                                · as_aux_lemma =>
                                    rw [if_pos c27] at H
                                    have c27b0 := eq_true c27
                                    have c27b1 : decide (t142 ≤ (y144.length : Int)) = true := decide_eq_true c27
                                    clear c27
                                    obtain ⟨y148, hy148⟩ : ∃ y_ : List Int, y_ = (y144.take (t142 : Int).toNat) := ⟨_, rfl⟩
                                    replace H : ((varint_Unfixed.f kj4 y148).bind fun t152 => (some ((wrap64 (t138 / 8)), (wrap64 (Go.bits .and .u64 t138 7)), t152, ([] : List Int), wrap64 (t139 + t142), 0))) = some (r1, r2, r3, r4, r5, r6) := by first | (rw [hy148]; with_reducible exact H) | (have H2_ := (Option.bind_some _ _).symm.trans H; rw [hy148]; with_reducible exact H2_) | (have H2_ := (Option.bind_some _ _).symm.trans H; with_reducible exact H2_) | with_reducible exact H | (rw [hy148]; exact H) | exact H
                                    have Ny148 := Aside0.mk hy148
                                    clear hy148
                                    replace H := Option.bind_eq_some_iff.mp H
                                    obtain ⟨t152, A280, H⟩ := H
                                    replace H : (some ((wrap64 (t138 / 8)), (wrap64 (Go.bits .and .u64 t138 7)), t152, ([] : List Int), wrap64 (t139 + t142), 0)) = some (r1, r2, r3, r4, r5, r6) := H
                                    have A28 := Aside0.mk A280
                                    clear A280
                                    as_aux_lemma =>
                                      simp only [Option.some.injEq, Prod.mk.injEq] at H
                                      obtain ⟨rfl, rfl, rfl, rfl, rfl, rfl⟩ := H
                                      have q29 : (t139 : Int) ≤ ((l0.length : Int) : Int) := of_decide_eq_true (by first | (with_reducible assumption) | assumption)
                                      obtain ⟨i029, hi029, _, hsz29, _⟩ := info_parts info5
                                      have hroom29 : l0.length ≤ c0 := HC0.out
                                      have hC29 : Kd.C (Kd.int .u8) _ A0 l0.length l0 := HR0.out
                                      have q029 : (0 : Int) ≤ (t139 : Int) := of_decide_eq_true (by first | (with_reducible assumption) | assumption)
                                      have hcut29 := cut_from (P := Try.prog) 23 5 .i64 Try.underlying23 hi029 1 hsz29 A0 l0.length c0 t139 q029 q29
                                      have hr29 := Kd.C_drop (m := (t139 : Int).toNat) (c := c0) hC29 (by omega) hroom29
                                      obtain ⟨A29, hA29⟩ : ∃ A1, A1 = (if c0 = (t139 : Int).toNat then A0 else (A0 : Option Addr).map (·.add ((t139 : Int).toNat * 1))) := ⟨_, rfl⟩
                                      obtain ⟨c29, hc29⟩ : ∃ c1, c1 = c0 - (t139 : Int).toNat := ⟨_, rfl⟩
                                      have hy29 : y144.length = l0.length - (t139 : Int).toNat := (by rw [Ny144.out, List.length_drop] <;> omega)
                                      rw [show (l0).drop (t139 : Int).toNat = y144 from Ny144.out.symm] at hr29
                                      replace hr29 : Kd.C (Kd.int .u8) _ A29 y144.length y144 := (by rw [hA29]; exact hr29)
                                      rw [← hy29, ← hA29, ← hc29] at hcut29
                                      have HR147 := Aside0.mk hr29
                                      have HC147 := Aside0.mk (show y144.length ≤ c29 from by rw [hy29, hc29]; exact Nat.sub_le_sub_right hroom29 _)
                                      clear hr29 hC29 hroom29 hi029 hsz29 hc29
                                      have KY29 := Aside0.mk hy29
                                      have KA29 := Aside0.mk hA29
                                      clear hy29 hA29
                                      replace q29 := eq_true q29
                                      have q30 : (t142 : Int) ≤ ((y144.length : Int) : Int) := of_decide_eq_true (by first | (with_reducible assumption) | assumption)
                                      obtain ⟨i030, hi030, _, hsz30, _⟩ := info_parts info5
                                      have hroom30 : y144.length ≤ c29 := HC147.out
                                      have hC30 : Kd.C (Kd.int .u8) _ A29 y144.length y144 := HR147.out
                                      have hcut30 := cut_to (P := Try.prog) 23 5 .i64 Try.underlying23 hi030 A29 y144.length c29 t142 (of_decide_eq_true (by first | (with_reducible assumption) | assumption)) q30 hroom30
                                      have hr30 := Kd.C_take (m := (t142 : Int).toNat) hC30 (by omega)
                                      have hy30 : y148.length = (t142 : Int).toNat := (by rw [Ny148.out, List.length_take]; omega)
                                      rw [← Ny148.out] at hr30
                                      rw [← hy30] at hcut30
                                      have HR151 := Aside0.mk hr30
                                      have HC151 := Aside0.mk (show y148.length ≤ c29 from by omega)
                                      clear hr30 hC30 hroom30 hi030 hsz30
                                      have KY30 := Aside0.mk hy30
                                      clear hy30
                                      replace q30 := eq_true q30
                                      go_wp2_with (first | ((with_reducible refine gate_callee (f := 32) rfl ?_); refine goesL_ (some 63) rfl rfl Try.func32 (by kernel_rfl) rfl #[.slice A29 y148.length c29] rfl (by (try simp only [List.map_toArray, List.map_cons, List.map_nil]); first | done | rfl | (simp only [List.length_drop, List.length_take]; rfl)) ?_; (with_reducible refine (varint_Unfixed.calls kj4 _ _ y148 t152 _ ?side1 ?side2 A28.out).mono ?_); (case side1 => repeat (first | exact (Kd.C_below HR151.out HB.out) | (with_reducible refine Kd.C_alloc ?_ _) | (with_reducible refine Kd.C_drewN ?_ _) | (with_reducible refine Kd.C_drew ?_))); (case side2 => exact HC151.out); rintro e w31 ⟨rfl, hb⟩; refine ⟨_, rfl, ?_⟩; have n0_ := Aside0.mk (blk_below (g := gb137) (o := .cells #[.int .i64 0, .int .i64 0, .int .u64 0, .slice none 0 0] 25 (0, 0)) (by (with_reducible repeat (first | refine blk_drewN ?_ _ | refine blk_drew ?_ | refine blk_alloc ?_ _)); exact BK137.out) hb); have n1_ := Aside0.mk (blk_below (g := gb141) (o := .cells #[.int .i64 (wrap64 (t138 / 8)), .int .i64 (wrap64 (Go.bits .and .u64 t138 7)), .int .u64 0, .slice none 0 0] 25 (0, 0)) (by (with_reducible repeat (first | refine blk_drewN ?_ _ | refine blk_drew ?_ | refine blk_alloc ?_ _)); exact BK141.out) hb); have n2_ := Aside0.mk (below_step (by repeat (first | (with_reducible first | exact HB.out | apply below_alloc | apply pw_below_drewN | apply below_drew1 | refine below_set ?_ GE137.out | refine below_set ?_ GE141.out) | exact HB.out)) hb); clear BK137; clear BK141; clear HB; have BK137 := n0_; have BK141 := n1_; have HB := n2_; clear n0_ n1_ n2_; (try clear hb); (try clear hb2); (try clear hk); (try clear hi); have hnb32 := NB141_137.out; have hnc32 := NB137_141.out; have hcz33_0 : w31.cell? ⟨gb141, 0, none⟩ = some (.int .i64 (wrap64 (t138 / 8))) := (blk_cell BK141.out 0).trans rfl; have hcz33_1 : w31.cell? ⟨gb141, 1, none⟩ = some (.int .i64 (wrap64 (Go.bits .and .u64 t138 7))) := (blk_cell BK141.out 1).trans rfl; have hcz33_2 : w31.cell? ⟨gb141, 2, none⟩ = some (.int .u64 0) := (blk_cell BK141.out 2).trans rfl; have hcz33_3 : w31.cell? ⟨gb141, 3, none⟩ = some (.slice none 0 0) := (blk_cell BK141.out 3).trans rfl; have hfz33_0 := blk_frozen BK141.out 0; have hfz33_1 := blk_frozen BK141.out 1; have hfz33_2 := blk_frozen BK141.out 2; have hfz33_3 := blk_frozen BK141.out 3; have hcz34_0 : w31.cell? ⟨gb137, 0, none⟩ = some (.int .i64 0) := (blk_cell BK137.out 0).trans rfl; have hcz34_1 : w31.cell? ⟨gb137, 1, none⟩ = some (.int .i64 0) := (blk_cell BK137.out 1).trans rfl; have hcz34_2 : w31.cell? ⟨gb137, 2, none⟩ = some (.int .u64 0) := (blk_cell BK137.out 2).trans rfl; have hcz34_3 : w31.cell? ⟨gb137, 3, none⟩ = some (.slice none 0 0) := (blk_cell BK137.out 3).trans rfl; have hfz34_0 := blk_frozen BK137.out 0; have hfz34_1 := blk_frozen BK137.out 1; have hfz34_2 := blk_frozen BK137.out 2; have hfz34_3 := blk_frozen BK137.out 3))
                                      refine bodyPost_ret (results_ctt rfl _ _ gb137 25 #[.int .i64 (wrap64 (t138 / 8)), .int .i64 (wrap64 (Go.bits .and .u64 t138 7)), .int .u64 t152, .slice none 0 0] (0, 0) _ rfl (by (with_reducible repeat (first | refine blk_drewN ?_ _ | refine blk_drew ?_ | refine blk_alloc ?_ _)); refine blk_put (cs := #[.int .i64 (wrap64 (t138 / 8)), .int .i64 (wrap64 (Go.bits .and .u64 t138 7)), .int .u64 t152, .slice none 0 0]) ?_ 3 _ rfl; (with_reducible repeat (first | refine blk_drewN ?_ _ | refine blk_drew ?_ | refine blk_alloc ?_ _)); refine blk_put (cs := #[.int .i64 (wrap64 (t138 / 8)), .int .i64 (wrap64 (Go.bits .and .u64 t138 7)), .int .u64 0, .slice none 0 0]) ?_ 2 _ rfl; (with_reducible repeat (first | refine blk_drewN ?_ _ | refine blk_drew ?_ | refine blk_alloc ?_ _)); refine blk_put (cs := #[.int .i64 (wrap64 (t138 / 8)), .int .i64 0, .int .u64 0, .slice none 0 0]) ?_ 1 _ rfl; (with_reducible repeat (first | refine blk_drewN ?_ _ | refine blk_drew ?_ | refine blk_alloc ?_ _)); refine blk_put (cs := #[.int .i64 0, .int .i64 0, .int .u64 0, .slice none 0 0]) ?_ 0 _ rfl; (with_reducible repeat (first | refine blk_drewN ?_ _ | refine blk_drew ?_ | refine blk_alloc ?_ _)); refine blk_far ?_ NB137_141.out _; (with_reducible repeat (first | refine blk_drewN ?_ _ | refine blk_drew ?_ | refine blk_alloc ?_ _)); exact BK137.out) Try.underlying25 rfl (by kernel_rfl)) rfl ?_
                                      exact ⟨_, by first | rfl | (simp [errW_none, errW_some] <;> rfl) | (simp [*, errW_none, errW_some] <;> rfl), by first | exact Kd.R_nil _ _ _ _ _ | exact Kd.N_nil _ _ _ _ _ | exact Kd.V_nil _ _ _ _ _ | exact Kd.Q_nil _ _ _ _ _ | exact Kd.S_nil _ _ _ _ _, by repeat (first | (with_reducible first | exact HB.out | apply below_alloc | apply pw_below_drewN | apply below_drew1 | refine below_set ?_ GE137.out | refine below_set ?_ GE141.out) | exact HB.out)⟩
                                · rw [if_neg c27] at H
                                  exact absurd H (by simp)
                            · rw [if_neg c26] at H
                              exact absurd H (by simp)
                    · as_aux_lemma =>
                        rw [if_neg c21] at H
                        have c21b0 : decide (0 < t142) = false := decide_eq_false c21
                        clear c21
                        replace H := Option.bind_eq_some_iff.mp H
                        obtain ⟨⟨t153, t154, t155⟩, A350, H⟩ := H
                        replace H : (if t155 = 0 then (if (wrap64 (Go.bits .and .u64 t138 7)) = 0 then (some ((wrap64 (t138 / 8)), (wrap64 (Go.bits .and .u64 t138 7)), t153, ([] : List Int), wrap64 (t139 + t154), 0)) else (if t153 > (IntKind.u64.wrap (wrap64 ((y144.length : Int) - t154))) then (some (0, 0, 0, ([] : List Int), 0, 21)) else (if 0 ≤ t154 then (if t154 ≤ (wrap64 (t154 + (wrap64 (t153)))) then (if (wrap64 (t154 + (wrap64 (t153)))) ≤ (y144.length : Int) then ((bytes_Clone.f ((y144.take ((wrap64 (t154 + (wrap64 (t153)))) : Int).toNat).drop (t154 : Int).toNat)).bind fun t160 => (some ((wrap64 (t138 / 8)), (wrap64 (Go.bits .and .u64 t138 7)), 0, t160, wrap64 ((wrap64 (t139 + t154)) + (wrap64 (t153))), 0))) else (none)) else (none)) else (none)))) else (some (0, 0, 0, ([] : List Int), 0, t155))) = some (r1, r2, r3, r4, r5, r6) := H
                        have A35 := Aside0.mk A350
                        clear A350
                        by_cases c36 : t155 = 0
                        · as_aux_lemma =>
                            rw [if_pos c36] at H
                            have c36b0 : (t155 == 0) = true := beq_iff_eq.mpr c36
                            have c36b1 : (t155 != 0) = false := bne_eq_false_iff_eq.mpr c36
                            clear c36
                            by_cases c37 : (wrap64 (Go.bits .and .u64 t138 7)) = 0
                            · as_aux_lemma =>
                                rw [if_pos c37] at H
                                have c37b0 : ((wrap64 (Go.bits .and .u64 t138 7)) == 0) = true := beq_iff_eq.mpr c37
                                have c37b1 : ((wrap64 (Go.bits .and .u64 t138 7)) != 0) = false := bne_eq_false_iff_eq.mpr c37
                                clear c37
                                as_aux_lemma =>
                                  simp only [Option.some.injEq, Prod.mk.injEq] at H
                                  obtain ⟨rfl, rfl, rfl, rfl, rfl, rfl⟩ := H
                                  have q38 : (t139 : Int) ≤ ((l0.length : Int) : Int) := of_decide_eq_true (by first | (with_reducible assumption) | assumption)
                                  obtain ⟨i038, hi038, _, hsz38, _⟩ := info_parts info5
                                  have hroom38 : l0.length ≤ c0 := HC0.out
                                  have hC38 : Kd.C (Kd.int .u8) _ A0 l0.length l0 := HR0.out
                                  have q038 : (0 : Int) ≤ (t139 : Int) := of_decide_eq_true (by first | (with_reducible assumption) | assumption)
                                  have hcut38 := cut_from (P := Try.prog) 23 5 .i64 Try.underlying23 hi038 1 hsz38 A0 l0.length c0 t139 q038 q38
                                  have hr38 := Kd.C_drop (m := (t139 : Int).toNat) (c := c0) hC38 (by omega) hroom38
                                  obtain ⟨A38, hA38⟩ : ∃ A1, A1 = (if c0 = (t139 : Int).toNat then A0 else (A0 : Option Addr).map (·.add ((t139 : Int).toNat * 1))) := ⟨_, rfl⟩
                                  obtain ⟨c38, hc38⟩ : ∃ c1, c1 = c0 - (t139 : Int).toNat := ⟨_, rfl⟩
                                  have hy38 : y144.length = l0.length - (t139 : Int).toNat := (by rw [Ny144.out, List.length_drop] <;> omega)
                                  rw [show (l0).drop (t139 : Int).toNat = y144 from Ny144.out.symm] at hr38
                                  replace hr38 : Kd.C (Kd.int .u8) _ A38 y144.length y144 := (by rw [hA38]; exact hr38)
                                  rw [← hy38, ← hA38, ← hc38] at hcut38
                                  have HR147 := Aside0.mk hr38
                                  have HC147 := Aside0.mk (show y144.length ≤ c38 from by rw [hy38, hc38]; exact Nat.sub_le_sub_right hroom38 _)
                                  clear hr38 hC38 hroom38 hi038 hsz38 hc38
                                  have KY38 := Aside0.mk hy38
                                  have KA38 := Aside0.mk hA38
                                  clear hy38 hA38
                                  replace q38 := eq_true q38
                                  go_wp2_with (first | ((with_reducible refine gate_callee (f := 31) rfl ?_); refine goesL_ (some 71) rfl rfl Try.func31 (by kernel_rfl) rfl #[.slice A38 y144.length c38] rfl (by (try simp only [List.map_toArray, List.map_cons, List.map_nil]); first | done | rfl | (simp only [List.length_drop, List.length_take]; rfl)) ?_; (with_reducible refine (varint_Take.calls kj4 _ _ y144 t153 t154 t155 _ ?side1 ?side2 A35.out).mono ?_); (case side1 => repeat (first | exact (Kd.C_below HR147.out HB.out) | (with_reducible refine Kd.C_alloc ?_ _) | (with_reducible refine Kd.C_drewN ?_ _) | (with_reducible refine Kd.C_drew ?_))); (case side2 => exact HC147.out); rintro e w' ⟨rfl, ⟨nd, rfl⟩⟩; refine ⟨_, rfl, ?_⟩; (try (rw [drewN_self wc]; generalize hq_ : World.drewN wc _ = wc; have n0_ : Aside0 (wc.heap[gb137]? = some (.cells #[.int .i64 0, .int .i64 0, .int .u64 0, .slice none 0 0] 25 (0, 0))) := ⟨by rw [← hq_]; exact (by (with_reducible repeat (first | refine blk_drewN ?_ _ | refine blk_drew ?_ | refine blk_alloc ?_ _)); exact BK137.out)⟩; have n1_ : Aside0 (wc.heap[gb141]? = some (.cells #[.int .i64 (wrap64 (t138 / 8)), .int .i64 (wrap64 (Go.bits .and .u64 t138 7)), .int .u64 0, .slice none 0 0] 25 (0, 0))) := ⟨by rw [← hq_]; exact (by (with_reducible repeat (first | refine blk_drewN ?_ _ | refine blk_drew ?_ | refine blk_alloc ?_ _)); exact BK141.out)⟩; have n2_ : Aside0 (Below w.heap.size w wc) := ⟨by rw [← hq_]; exact (by repeat (first | (with_reducible first | exact HB.out | apply below_alloc | apply pw_below_drewN | apply below_drew1 | refine below_set ?_ GE137.out | refine below_set ?_ GE141.out) | exact HB.out))⟩; clear BK137 BK141 HB hq_; have BK137 := n0_; have BK141 := n1_; have HB := n2_; clear n0_ n1_ n2_)); have hnb39 := NB141_137.out; have hnc39 := NB137_141.out; have hcz40_0 : wc.cell? ⟨gb141, 0, none⟩ = some (.int .i64 (wrap64 (t138 / 8))) := (blk_cell BK141.out 0).trans rfl; have hcz40_1 : wc.cell? ⟨gb141, 1, none⟩ = some (.int .i64 (wrap64 (Go.bits .and .u64 t138 7))) := (blk_cell BK141.out 1).trans rfl; have hcz40_2 : wc.cell? ⟨gb141, 2, none⟩ = some (.int .u64 0) := (blk_cell BK141.out 2).trans rfl; have hcz40_3 : wc.cell? ⟨gb141, 3, none⟩ = some (.slice none 0 0) := (blk_cell BK141.out 3).trans rfl; have hfz40_0 := blk_frozen BK141.out 0; have hfz40_1 := blk_frozen BK141.out 1; have hfz40_2 := blk_frozen BK141.out 2; have hfz40_3 := blk_frozen BK141.out 3; have hcz41_0 : wc.cell? ⟨gb137, 0, none⟩ = some (.int .i64 0) := (blk_cell BK137.out 0).trans rfl; have hcz41_1 : wc.cell? ⟨gb137, 1, none⟩ = some (.int .i64 0) := (blk_cell BK137.out 1).trans rfl; have hcz41_2 : wc.cell? ⟨gb137, 2, none⟩ = some (.int .u64 0) := (blk_cell BK137.out 2).trans rfl; have hcz41_3 : wc.cell? ⟨gb137, 3, none⟩ = some (.slice none 0 0) := (blk_cell BK137.out 3).trans rfl; have hfz41_0 := blk_frozen BK137.out 0; have hfz41_1 := blk_frozen BK137.out 1; have hfz41_2 := blk_frozen BK137.out 2; have hfz41_3 := blk_frozen BK137.out 3))
                                  refine bodyPost_ret (results_ctt rfl _ _ gb137 25 #[.int .i64 (wrap64 (t138 / 8)), .int .i64 (wrap64 (Go.bits .and .u64 t138 7)), .int .u64 t153, .slice none 0 0] (0, 0) _ rfl (by (with_reducible repeat (first | refine blk_drewN ?_ _ | refine blk_drew ?_ | refine blk_alloc ?_ _)); refine blk_put (cs := #[.int .i64 (wrap64 (t138 / 8)), .int .i64 (wrap64 (Go.bits .and .u64 t138 7)), .int .u64 t153, .slice none 0 0]) ?_ 3 _ rfl; (with_reducible repeat (first | refine blk_drewN ?_ _ | refine blk_drew ?_ | refine blk_alloc ?_ _)); refine blk_put (cs := #[.int .i64 (wrap64 (t138 / 8)), .int .i64 (wrap64 (Go.bits .and .u64 t138 7)), .int .u64 0, .slice none 0 0]) ?_ 2 _ rfl; (with_reducible repeat (first | refine blk_drewN ?_ _ | refine blk_drew ?_ | refine blk_alloc ?_ _)); refine blk_put (cs := #[.int .i64 (wrap64 (t138 / 8)), .int .i64 0, .int .u64 0, .slice none 0 0]) ?_ 1 _ rfl; (with_reducible repeat (first | refine blk_drewN ?_ _ | refine blk_drew ?_ | refine blk_alloc ?_ _)); refine blk_put (cs := #[.int .i64 0, .int .i64 0, .int .u64 0, .slice none 0 0]) ?_ 0 _ rfl; (with_reducible repeat (first | refine blk_drewN ?_ _ | refine blk_drew ?_ | refine blk_alloc ?_ _)); refine blk_far ?_ NB137_141.out _; (with_reducible repeat (first | refine blk_drewN ?_ _ | refine blk_drew ?_ | refine blk_alloc ?_ _)); exact BK137.out) Try.underlying25 rfl (by kernel_rfl)) rfl ?_
                                  exact ⟨_, by first | rfl | (simp [errW_none, errW_some] <;> rfl) | (simp [*, errW_none, errW_some] <;> rfl), by first | exact Kd.R_nil _ _ _ _ _ | exact Kd.N_nil _ _ _ _ _ | exact Kd.V_nil _ _ _ _ _ | exact Kd.Q_nil _ _ _ _ _ | exact Kd.S_nil _ _ _ _ _, by repeat (first | (with_reducible first | exact HB.out | apply below_alloc | apply pw_below_drewN | apply below_drew1 | refine below_set ?_ GE137.out | refine below_set ?_ GE141.out) | exact HB.out)⟩
                            · as_aux_lemma =>
                                rw [if_neg c37] at H
                                have c37b0 : ((wrap64 (Go.bits .and .u64 t138 7)) == 0) = false := beq_eq_false_iff_ne.mpr c37
                                have c37b1 : ((wrap64 (Go.bits .and .u64 t138 7)) != 0) = true := bne_iff_ne.mpr c37
                                by_cases c42 : t153 > (IntKind.u64.wrap (wrap64 ((y144.length : Int) - t154)))
                                · as_aux_lemma =>
                                    rw [if_pos c42] at H
                                    have c42b0 : decide ((IntKind.u64.wrap (wrap64 ((y144.length : Int) - t154))) < t153) = true := decide_eq_true c42
                                    clear c42
                                    as_aux_lemma =>
                                      simp only [Option.some.injEq, Prod.mk.injEq] at H
                                      obtain ⟨rfl, rfl, rfl, rfl, rfl, rfl⟩ := H
                                      have q43 : (t139 : Int) ≤ ((l0.length : Int) : Int) := of_decide_eq_true (by first | (with_reducible assumption) | assumption)
                                      obtain ⟨i043, hi043, _, hsz43, _⟩ := info_parts info5
                                      have hroom43 : l0.length ≤ c0 := HC0.out
                                      have hC43 : Kd.C (Kd.int .u8) _ A0 l0.length l0 := HR0.out
                                      have q043 : (0 : Int) ≤ (t139 : Int) := of_decide_eq_true (by first | (with_reducible assumption) | assumption)
                                      have hcut43 := cut_from (P := Try.prog) 23 5 .i64 Try.underlying23 hi043 1 hsz43 A0 l0.length c0 t139 q043 q43
                                      have hr43 := Kd.C_drop (m := (t139 : Int).toNat) (c := c0) hC43 (by omega) hroom43
                                      obtain ⟨A43, hA43⟩ : ∃ A1, A1 = (if c0 = (t139 : Int).toNat then A0 else (A0 : Option Addr).map (·.add ((t139 : Int).toNat * 1))) := ⟨_, rfl⟩
                                      obtain ⟨c43, hc43⟩ : ∃ c1, c1 = c0 - (t139 : Int).toNat := ⟨_, rfl⟩
                                      have hy43 : y144.length = l0.length - (t139 : Int).toNat := (by rw [Ny144.out, List.length_drop] <;> omega)
                                      rw [show (l0).drop (t139 : Int).toNat = y144 from Ny144.out.symm] at hr43
                                      replace hr43 : Kd.C (Kd.int .u8) _ A43 y144.length y144 := (by rw [hA43]; exact hr43)
                                      rw [← hy43, ← hA43, ← hc43] at hcut43
                                      have HR147 := Aside0.mk hr43
                                      have HC147 := Aside0.mk (show y144.length ≤ c43 from by rw [hy43, hc43]; exact Nat.sub_le_sub_right hroom43 _)
                                      clear hr43 hC43 hroom43 hi043 hsz43 hc43
                                      have KY43 := Aside0.mk hy43
                                      have KA43 := Aside0.mk hA43
                                      clear hy43 hA43
                                      replace q43 := eq_true q43
                                      go_wp2_with (first | ((with_reducible refine gate_callee (f := 31) rfl ?_); refine goesL_ (some 71) rfl rfl Try.func31 (by kernel_rfl) rfl #[.slice A43 y144.length c43] rfl (by (try simp only [List.map_toArray, List.map_cons, List.map_nil]); first | done | rfl | (simp only [List.length_drop, List.length_take]; rfl)) ?_; (with_reducible refine (varint_Take.calls kj4 _ _ y144 t153 t154 t155 _ ?side1 ?side2 A35.out).mono ?_); (case side1 => repeat (first | exact (Kd.C_below HR147.out HB.out) | (with_reducible refine Kd.C_alloc ?_ _) | (with_reducible refine Kd.C_drewN ?_ _) | (with_reducible refine Kd.C_drew ?_))); (case side2 => exact HC147.out); rintro e w' ⟨rfl, ⟨nd, rfl⟩⟩; refine ⟨_, rfl, ?_⟩; (try (rw [drewN_self wc]; generalize hq_ : World.drewN wc _ = wc; have n0_ : Aside0 (wc.heap[gb137]? = some (.cells #[.int .i64 0, .int .i64 0, .int .u64 0, .slice none 0 0] 25 (0, 0))) := ⟨by rw [← hq_]; exact (by (with_reducible repeat (first | refine blk_drewN ?_ _ | refine blk_drew ?_ | refine blk_alloc ?_ _)); exact BK137.out)⟩; have n1_ : Aside0 (wc.heap[gb141]? = some (.cells #[.int .i64 (wrap64 (t138 / 8)), .int .i64 (wrap64 (Go.bits .and .u64 t138 7)), .int .u64 0, .slice none 0 0] 25 (0, 0))) := ⟨by rw [← hq_]; exact (by (with_reducible repeat (first | refine blk_drewN ?_ _ | refine blk_drew ?_ | refine blk_alloc ?_ _)); exact BK141.out)⟩; have n2_ : Aside0 (Below w.heap.size w wc) := ⟨by rw [← hq_]; exact (by repeat (first | (with_reducible first | exact HB.out | apply below_alloc | apply pw_below_drewN | apply below_drew1 | refine below_set ?_ GE137.out | refine below_set ?_ GE141.out) | exact HB.out))⟩; clear BK137 BK141 HB hq_; have BK137 := n0_; have BK141 := n1_; have HB := n2_; clear n0_ n1_ n2_)); have hnb44 := NB141_137.out; have hnc44 := NB137_141.out; have hcz45_0 : wc.cell? ⟨gb141, 0, none⟩ = some (.int .i64 (wrap64 (t138 / 8))) := (blk_cell BK141.out 0).trans rfl; have hcz45_1 : wc.cell? ⟨gb141, 1, none⟩ = some (.int .i64 (wrap64 (Go.bits .and .u64 t138 7))) := (blk_cell BK141.out 1).trans rfl; have hcz45_2 : wc.cell? ⟨gb141, 2, none⟩ = some (.int .u64 0) := (blk_cell BK141.out 2).trans rfl; have hcz45_3 : wc.cell? ⟨gb141, 3, none⟩ = some (.slice none 0 0) := (blk_cell BK141.out 3).trans rfl; have hfz45_0 := blk_frozen BK141.out 0; have hfz45_1 := blk_frozen BK141.out 1; have hfz45_2 := blk_frozen BK141.out 2; have hfz45_3 := blk_frozen BK141.out 3; have hcz46_0 : wc.cell? ⟨gb137, 0, none⟩ = some (.int .i64 0) := (blk_cell BK137.out 0).trans rfl; have hcz46_1 : wc.cell? ⟨gb137, 1, none⟩ = some (.int .i64 0) := (blk_cell BK137.out 1).trans rfl; have hcz46_2 : wc.cell? ⟨gb137, 2, none⟩ = some (.int .u64 0) := (blk_cell BK137.out 2).trans rfl; have hcz46_3 : wc.cell? ⟨gb137, 3, none⟩ = some (.slice none 0 0) := (blk_cell BK137.out 3).trans rfl; have hfz46_0 := blk_frozen BK137.out 0; have hfz46_1 := blk_frozen BK137.out 1; have hfz46_2 := blk_frozen BK137.out 2; have hfz46_3 := blk_frozen BK137.out 3))
                                      refine bodyPost_ret (results_ctt rfl _ _ gb137 25 #[.int .i64 0, .int .i64 0, .int .u64 0, .slice none 0 0] (0, 0) _ rfl (by (with_reducible repeat (first | refine blk_drewN ?_ _ | refine blk_drew ?_ | refine blk_alloc ?_ _)); refine blk_put (cs := #[.int .i64 0, .int .i64 0, .int .u64 0, .slice none 0 0]) ?_ 3 _ rfl; (with_reducible repeat (first | refine blk_drewN ?_ _ | refine blk_drew ?_ | refine blk_alloc ?_ _)); refine blk_put (cs := #[.int .i64 0, .int .i64 0, .int .u64 0, .slice none 0 0]) ?_ 2 _ rfl; (with_reducible repeat (first | refine blk_drewN ?_ _ | refine blk_drew ?_ | refine blk_alloc ?_ _)); refine blk_put (cs := #[.int .i64 0, .int .i64 0, .int .u64 0, .slice none 0 0]) ?_ 1 _ rfl; (with_reducible repeat (first | refine blk_drewN ?_ _ | refine blk_drew ?_ | refine blk_alloc ?_ _)); refine blk_put (cs := #[.int .i64 0, .int .i64 0, .int .u64 0, .slice none 0 0]) ?_ 0 _ rfl; (with_reducible repeat (first | refine blk_drewN ?_ _ | refine blk_drew ?_ | refine blk_alloc ?_ _)); exact BK137.out) Try.underlying25 rfl (by kernel_rfl)) rfl ?_
                                      exact ⟨_, by first | rfl | (simp [errW_none, errW_some] <;> rfl) | (simp [*, errW_none, errW_some] <;> rfl), by first | exact Kd.R_nil _ _ _ _ _ | exact Kd.N_nil _ _ _ _ _ | exact Kd.V_nil _ _ _ _ _ | exact Kd.Q_nil _ _ _ _ _ | exact Kd.S_nil _ _ _ _ _, by repeat (first | (with_reducible first | exact HB.out | apply below_alloc | apply pw_below_drewN | apply below_drew1 | refine below_set ?_ GE137.out | refine below_set ?_ GE141.out) | exact HB.out)⟩
                                · as_aux_lemma =>
                                    rw [if_neg c42] at H
                                    have c42b0 : decide ((IntKind.u64.wrap (wrap64 ((y144.length : Int) - t154))) < t153) = false := decide_eq_false c42
                                    clear c42
                                    by_cases c47 : 0 ≤ t154
                                    · as_aux_lemma =>
                                        rw [if_pos c47] at H
                                        have c47b0 := eq_true c47
                                        have c47b1 : decide (0 ≤ t154) = true := decide_eq_true c47
                                        clear c47
                                        by_cases c48 : t154 ≤ (wrap64 (t154 + (wrap64 (t153))))
                                        · as_aux_lemma =>
                                            rw [if_pos c48] at H
                                            have c48b0 := eq_true c48
                                            have c48b1 : decide (t154 ≤ (wrap64 (t154 + (wrap64 (t153))))) = true := decide_eq_true c48
                                            by_cases c49 : (wrap64 (t154 + (wrap64 (t153)))) ≤ (y144.length : Int)
                                            · as_aux_lemma =>
                                                rw [if_pos c49] at H
                                                have c49b0 := eq_true c49
                                                have c49b1 : decide ((wrap64 (t154 + (wrap64 (t153)))) ≤ (y144.length : Int)) = true := decide_eq_true c49
                                                obtain ⟨y156, hy156⟩ : ∃ y_ : List Int, y_ = ((y144.take ((wrap64 (t154 + (wrap64 (t153)))) : Int).toNat).drop (t154 : Int).toNat) := ⟨_, rfl⟩
                                                replace H : ((bytes_Clone.f y156).bind fun t160 => (some ((wrap64 (t138 / 8)), (wrap64 (Go.bits .and .u64 t138 7)), 0, t160, wrap64 ((wrap64 (t139 + t154)) + (wrap64 (t153))), 0))) = some (r1, r2, r3, r4, r5, r6) := by first | (rw [hy156]; with_reducible exact H) | (have H2_ := (Option.bind_some _ _).symm.trans H; rw [hy156]; with_reducible exact H2_) | (have H2_ := (Option.bind_some _ _).symm.trans H; with_reducible exact H2_) | with_reducible exact H | (rw [hy156]; exact H) | exact H
                                                have Ny156 := Aside0.mk hy156
                                                clear hy156
                                                replace H := Option.bind_eq_some_iff.mp H
                                                obtain ⟨t160, A500, H⟩ := H
                                                replace H : (some ((wrap64 (t138 / 8)), (wrap64 (Go.bits .and .u64 t138 7)), 0, t160, wrap64 ((wrap64 (t139 + t154)) + (wrap64 (t153))), 0)) = some (r1, r2, r3, r4, r5, r6) := H
                                                have A50 := Aside0.mk A500
                                                clear A500
                                                as_aux_lemma =>
                                                  simp only [Option.some.injEq, Prod.mk.injEq] at H
                                                  obtain ⟨rfl, rfl, rfl, rfl, rfl, rfl⟩ := H
                                                  have q51 : (t139 : Int) ≤ ((l0.length : Int) : Int) := of_decide_eq_true (by first | (with_reducible assumption) | assumption)
                                                  obtain ⟨i051, hi051, _, hsz51, _⟩ := info_parts info5
                                                  have hroom51 : l0.length ≤ c0 := HC0.out
                                                  have hC51 : Kd.C (Kd.int .u8) _ A0 l0.length l0 := HR0.out
                                                  have q051 : (0 : Int) ≤ (t139 : Int) := of_decide_eq_true (by first | (with_reducible assumption) | assumption)
                                                  have hcut51 := cut_from (P := Try.prog) 23 5 .i64 Try.underlying23 hi051 1 hsz51 A0 l0.length c0 t139 q051 q51
                                                  have hr51 := Kd.C_drop (m := (t139 : Int).toNat) (c := c0) hC51 (by omega) hroom51
                                                  obtain ⟨A51, hA51⟩ : ∃ A1, A1 = (if c0 = (t139 : Int).toNat then A0 else (A0 : Option Addr).map (·.add ((t139 : Int).toNat * 1))) := ⟨_, rfl⟩
                                                  obtain ⟨c51, hc51⟩ : ∃ c1, c1 = c0 - (t139 : Int).toNat := ⟨_, rfl⟩
                                                  have hy51 : y144.length = l0.length - (t139 : Int).toNat := (by rw [Ny144.out, List.length_drop] <;> omega)
                                                  rw [show (l0).drop (t139 : Int).toNat = y144 from Ny144.out.symm] at hr51
                                                  replace hr51 : Kd.C (Kd.int .u8) _ A51 y144.length y144 := (by rw [hA51]; exact hr51)
                                                  rw [← hy51, ← hA51, ← hc51] at hcut51
                                                  have HR147 := Aside0.mk hr51
                                                  have HC147 := Aside0.mk (show y144.length ≤ c51 from by rw [hy51, hc51]; exact Nat.sub_le_sub_right hroom51 _)
                                                  clear hr51 hC51 hroom51 hi051 hsz51 hc51
                                                  have KY51 := Aside0.mk hy51
                                                  have KA51 := Aside0.mk hA51
                                                  clear hy51 hA51
                                                  replace q51 := eq_true q51
                                                  go_wp2_with (first | ((with_reducible refine gate_callee (f := 31) rfl ?_); refine goesL_ (some 71) rfl rfl Try.func31 (by kernel_rfl) rfl #[.slice A51 y144.length c51] rfl (by (try simp only [List.map_toArray, List.map_cons, List.map_nil]); first | done | rfl | (simp only [List.length_drop, List.length_take]; rfl)) ?_; (with_reducible refine (varint_Take.calls kj4 _ _ y144 t153 t154 t155 _ ?side1 ?side2 A35.out).mono ?_); (case side1 => repeat (first | exact (Kd.C_below HR147.out HB.out) | (with_reducible refine Kd.C_alloc ?_ _) | (with_reducible refine Kd.C_drewN ?_ _) | (with_reducible refine Kd.C_drew ?_))); (case side2 => exact HC147.out); rintro e w' ⟨rfl, ⟨nd, rfl⟩⟩; refine ⟨_, rfl, ?_⟩; (try (rw [drewN_self wc]; generalize hq_ : World.drewN wc _ = wc; have n0_ : Aside0 (wc.heap[gb137]? = some (.cells #[.int .i64 0, .int .i64 0, .int .u64 0, .slice none 0 0] 25 (0, 0))) := ⟨by rw [← hq_]; exact (by (with_reducible repeat (first | refine blk_drewN ?_ _ | refine blk_drew ?_ | refine blk_alloc ?_ _)); exact BK137.out)⟩; have n1_ : Aside0 (wc.heap[gb141]? = some (.cells #[.int .i64 (wrap64 (t138 / 8)), .int .i64 (wrap64 (Go.bits .and .u64 t138 7)), .int .u64 0, .slice none 0 0] 25 (0, 0))) := ⟨by rw [← hq_]; exact (by (with_reducible repeat (first | refine blk_drewN ?_ _ | refine blk_drew ?_ | refine blk_alloc ?_ _)); exact BK141.out)⟩; have n2_ : Aside0 (Below w.heap.size w wc) := ⟨by rw [← hq_]; exact (by repeat (first | (with_reducible first | exact HB.out | apply below_alloc | apply pw_below_drewN | apply below_drew1 | refine below_set ?_ GE137.out | refine below_set ?_ GE141.out) | exact HB.out))⟩; clear BK137 BK141 HB hq_; have BK137 := n0_; have BK141 := n1_; have HB := n2_; clear n0_ n1_ n2_)); have hczR4_gb137_0 : wc.cell? ⟨gb137, 0, none⟩ = some (.int .i64 0) := (blk_cell BK137.out 0).trans rfl; have hfzR4_gb137_0 := blk_frozen BK137.out 0; have hczR4_gb137_1 : wc.cell? ⟨gb137, 1, none⟩ = some (.int .i64 0) := (blk_cell BK137.out 1).trans rfl; have hfzR4_gb137_1 := blk_frozen BK137.out 1; have hczR4_gb137_2 : wc.cell? ⟨gb137, 2, none⟩ = some (.int .u64 0) := (blk_cell BK137.out 2).trans rfl; have hfzR4_gb137_2 := blk_frozen BK137.out 2; have hczR4_gb137_3 : wc.cell? ⟨gb137, 3, none⟩ = some (.slice none 0 0) := (blk_cell BK137.out 3).trans rfl; have hfzR4_gb137_3 := blk_frozen BK137.out 3; have hnb52 := NB141_137.out; have hnc52 := NB137_141.out; have hcz53_0 : wc.cell? ⟨gb141, 0, none⟩ = some (.int .i64 (wrap64 (t138 / 8))) := (blk_cell BK141.out 0).trans rfl; have hcz53_1 : wc.cell? ⟨gb141, 1, none⟩ = some (.int .i64 (wrap64 (Go.bits .and .u64 t138 7))) := (blk_cell BK141.out 1).trans rfl; have hcz53_2 : wc.cell? ⟨gb141, 2, none⟩ = some (.int .u64 0) := (blk_cell BK141.out 2).trans rfl; have hcz53_3 : wc.cell? ⟨gb141, 3, none⟩ = some (.slice none 0 0) := (blk_cell BK141.out 3).trans rfl; have hfz53_0 := blk_frozen BK141.out 0; have hfz53_1 := blk_frozen BK141.out 1; have hfz53_2 := blk_frozen BK141.out 2; have hfz53_3 := blk_frozen BK141.out 3; have q54 : ((wrap64 (t154 + (wrap64 (t153)))) : Int) ≤ ((y144.length : Int) : Int) := of_decide_eq_true (by first | (with_reducible assumption) | assumption); obtain ⟨i054, hi054, _, hsz54, _⟩ := info_parts info5; have hroom54 : y144.length ≤ c51 := HC147.out; have hC54 : Kd.C (Kd.int .u8) _ A51 y144.length y144 := HR147.out; have ql54 : (t154 : Int) ≤ ((wrap64 (t154 + (wrap64 (t153)))) : Int) := of_decide_eq_true (by first | (with_reducible assumption) | assumption); have q054 : (0 : Int) ≤ (t154 : Int) := of_decide_eq_true (by first | (with_reducible assumption) | assumption); have hcut54 := cut_mid (P := Try.prog) 23 5 .i64 .i64 Try.underlying23 hi054 1 hsz54 A51 y144.length c51 t154 (wrap64 (t154 + (wrap64 (t153)))) q054 ql54 q54 hroom54; have hr54 := Kd.C_mid (lo := (t154 : Int).toNat) (hi := ((wrap64 (t154 + (wrap64 (t153)))) : Int).toNat) (c := c51) hC54 (by omega) (by omega) hroom54; obtain ⟨A54, hA54⟩ : ∃ A1, A1 = (if c51 = (t154 : Int).toNat then A51 else (A51 : Option Addr).map (·.add ((t154 : Int).toNat * 1))) := ⟨_, rfl⟩; obtain ⟨c54, hc54⟩ : ∃ c1, c1 = c51 - (t154 : Int).toNat := ⟨_, rfl⟩; have hy54 : y156.length = ((wrap64 (t154 + (wrap64 (t153)))) : Int).toNat - (t154 : Int).toNat := (by rw [Ny156.out, List.length_drop, List.length_take] <;> omega); rw [show ((y144).take ((wrap64 (t154 + (wrap64 (t153)))) : Int).toNat).drop (t154 : Int).toNat = y156 from Ny156.out.symm] at hr54; replace hr54 : Kd.C (Kd.int .u8) _ A54 y156.length y156 := (by rw [hA54]; exact hr54); rw [← hy54, ← hA54, ← hc54] at hcut54; have HR159 := Aside0.mk hr54; have HC159 := Aside0.mk (show y156.length ≤ c54 from by rw [hy54, hc54]; exact Nat.sub_le_sub_right (Nat.le_trans (by omega) hroom54) _); clear hr54 hC54 hroom54 hi054 hsz54 hc54; have KY54 := Aside0.mk hy54; have KA54 := Aside0.mk hA54; clear hy54 hA54; replace q54 := eq_true q54) | ((with_reducible refine gate_callee (f := 33) rfl ?_); refine goesL_ (some 106) rfl rfl Try.func33 (by kernel_rfl) rfl #[.slice A54 y156.length c54] rfl (by (try simp only [List.map_toArray, List.map_cons, List.map_nil]); first | done | rfl | (simp only [List.length_drop, List.length_take]; rfl)) ?_; (with_reducible refine (bytes_Clone.calls _ _ y156 t160 _ ?side1 ?side2 A50.out).mono ?_); (case side1 => repeat (first | exact (Kd.C_below HR159.out HB.out) | (with_reducible refine Kd.C_alloc ?_ _) | (with_reducible refine Kd.C_drewN ?_ _) | (with_reducible refine Kd.C_drew ?_))); (case side2 => exact HC159.out); rintro e w55 ⟨v161, rfl, ho0, hb⟩; refine ⟨_, rfl, ?_⟩; have n0_ := Aside0.mk (Kd.R_lower ho0 (below_size (by repeat (first | (with_reducible first | exact HB.out | apply below_alloc | apply pw_below_drewN | apply below_drew1 | refine below_set ?_ GE137.out | refine below_set ?_ GE141.out) | exact HB.out)))); have n1_ := Aside0.mk (blk_below (g := gb137) (o := .cells #[.int .i64 0, .int .i64 0, .int .u64 0, .slice none 0 0] 25 (0, 0)) (by (with_reducible repeat (first | refine blk_drewN ?_ _ | refine blk_drew ?_ | refine blk_alloc ?_ _)); exact BK137.out) hb); have n2_ := Aside0.mk (blk_below (g := gb141) (o := .cells #[.int .i64 (wrap64 (t138 / 8)), .int .i64 (wrap64 (Go.bits .and .u64 t138 7)), .int .u64 0, .slice none 0 0] 25 (0, 0)) (by (with_reducible repeat (first | refine blk_drewN ?_ _ | refine blk_drew ?_ | refine blk_alloc ?_ _)); exact BK141.out) hb); have n3_ := Aside0.mk (below_step (by repeat (first | (with_reducible first | exact HB.out | apply below_alloc | apply pw_below_drewN | apply below_drew1 | refine below_set ?_ GE137.out | refine below_set ?_ GE141.out) | exact HB.out)) hb); clear BK137; clear BK141; clear HB; have HO162 := n0_; have BK137 := n1_; have BK141 := n2_; have HB := n3_; clear n0_ n1_ n2_ n3_; (try clear hb); (try clear hb2); (try clear hk); (try clear hi); (try clear ho0); obtain ⟨Ao56, co56, eo56⟩ := Kd.R_slice HO162.out; subst eo56; have hcz57_0 : w55.cell? ⟨gb141, 0, none⟩ = some (.int .i64 (wrap64 (t138 / 8))) := (blk_cell BK141.out 0).trans rfl; have hcz57_1 : w55.cell? ⟨gb141, 1, none⟩ = some (.int .i64 (wrap64 (Go.bits .and .u64 t138 7))) := (blk_cell BK141.out 1).trans rfl; have hcz57_2 : w55.cell? ⟨gb141, 2, none⟩ = some (.int .u64 0) := (blk_cell BK141.out 2).trans rfl; have hcz57_3 : w55.cell? ⟨gb141, 3, none⟩ = some (.slice none 0 0) := (blk_cell BK141.out 3).trans rfl; have hfz57_0 := blk_frozen BK141.out 0; have hfz57_1 := blk_frozen BK141.out 1; have hfz57_2 := blk_frozen BK141.out 2; have hfz57_3 := blk_frozen BK141.out 3; have hcz58_0 : w55.cell? ⟨gb137, 0, none⟩ = some (.int .i64 0) := (blk_cell BK137.out 0).trans rfl; have hcz58_1 : w55.cell? ⟨gb137, 1, none⟩ = some (.int .i64 0) := (blk_cell BK137.out 1).trans rfl; have hcz58_2 : w55.cell? ⟨gb137, 2, none⟩ = some (.int .u64 0) := (blk_cell BK137.out 2).trans rfl; have hcz58_3 : w55.cell? ⟨gb137, 3, none⟩ = some (.slice none 0 0) := (blk_cell BK137.out 3).trans rfl; have hfz58_0 := blk_frozen BK137.out 0; have hfz58_1 := blk_frozen BK137.out 1; have hfz58_2 := blk_frozen BK137.out 2; have hfz58_3 := blk_frozen BK137.out 3))
                                                  refine bodyPost_ret (results_ctt rfl _ _ gb137 25 #[.int .i64 (wrap64 (t138 / 8)), .int .i64 (wrap64 (Go.bits .and .u64 t138 7)), .int .u64 0, .slice Ao56 t160.length co56] (0, 0) _ rfl (by (with_reducible repeat (first | refine blk_drewN ?_ _ | refine blk_drew ?_ | refine blk_alloc ?_ _)); refine blk_put (cs := #[.int .i64 (wrap64 (t138 / 8)), .int .i64 (wrap64 (Go.bits .and .u64 t138 7)), .int .u64 0, .slice none 0 0]) ?_ 3 _ rfl; (with_reducible repeat (first | refine blk_drewN ?_ _ | refine blk_drew ?_ | refine blk_alloc ?_ _)); refine blk_put (cs := #[.int .i64 (wrap64 (t138 / 8)), .int .i64 (wrap64 (Go.bits .and .u64 t138 7)), .int .u64 0, .slice none 0 0]) ?_ 2 _ rfl; (with_reducible repeat (first | refine blk_drewN ?_ _ | refine blk_drew ?_ | refine blk_alloc ?_ _)); refine blk_put (cs := #[.int .i64 (wrap64 (t138 / 8)), .int .i64 0, .int .u64 0, .slice none 0 0]) ?_ 1 _ rfl; (with_reducible repeat (first | refine blk_drewN ?_ _ | refine blk_drew ?_ | refine blk_alloc ?_ _)); refine blk_put (cs := #[.int .i64 0, .int .i64 0, .int .u64 0, .slice none 0 0]) ?_ 0 _ rfl; (with_reducible repeat (first | refine blk_drewN ?_ _ | refine blk_drew ?_ | refine blk_alloc ?_ _)); refine blk_far ?_ NB137_141.out _; (with_reducible repeat (first | refine blk_drewN ?_ _ | refine blk_drew ?_ | refine blk_alloc ?_ _)); exact BK137.out) Try.underlying25 rfl (by kernel_rfl)) rfl ?_
                                                  exact ⟨_, by first | rfl | (simp [errW_none, errW_some] <;> rfl) | (simp [*, errW_none, errW_some] <;> rfl), by (with_reducible repeat (first | apply Kd.R_alloc | apply Kd.R_drewN | apply Kd.R_drew)); exact Kd.R_mono (Kd.R_far (p := ⟨gb137, 3, none⟩) (Kd.R_far (p := ⟨gb137, 2, none⟩) (Kd.R_far (p := ⟨gb137, 1, none⟩) (Kd.R_far (p := ⟨gb137, 0, none⟩) (Kd.R_far (p := ⟨gb141, 3, none⟩) (Kd.R_types (Kd.R_types HO162.out BK141.out (by decide)) BK137.out (by decide)) (fun _ hk => hk.1.2) (.slice Ao56 t160.length co56)) (fun _ hk => hk.2) (.int .i64 (wrap64 (t138 / 8)))) (fun _ hk => hk.2) (.int .i64 (wrap64 (Go.bits .and .u64 t138 7)))) (fun _ hk => hk.2) (.int .u64 0)) (fun _ hk => hk.2) (.slice Ao56 t160.length co56)) (fun _ hk => trivial), by repeat (first | (with_reducible first | exact HB.out | apply below_alloc | apply pw_below_drewN | apply below_drew1 | refine below_set ?_ GE137.out | refine below_set ?_ GE141.out) | exact HB.out)⟩
                                            · rw [if_neg c49] at H
                                              exact absurd H (by simp)
                                        · rw [if_neg c48] at H
                                          exact absurd H (by simp)
                                    · rw [if_neg c47] at H
                                      exact absurd H (by simp)
                        · as_aux_lemma =>
                            rw [if_neg c36] at H
                            have c36b0 : (t155 == 0) = false := beq_eq_false_iff_ne.mpr c36
                            have c36b1 : (t155 != 0) = true := bne_iff_ne.mpr c36
                            as_aux_lemma =>
                              simp only [Option.some.injEq, Prod.mk.injEq] at H
                              obtain ⟨rfl, rfl, rfl, rfl, rfl, rfl⟩ := H
                              have q59 : (t139 : Int) ≤ ((l0.length : Int) : Int) := of_decide_eq_true (by first | (with_reducible assumption) | assumption)
                              obtain ⟨i059, hi059, _, hsz59, _⟩ := info_parts info5
                              have hroom59 : l0.length ≤ c0 := HC0.out
                              have hC59 : Kd.C (Kd.int .u8) _ A0 l0.length l0 := HR0.out
                              have q059 : (0 : Int) ≤ (t139 : Int) := of_decide_eq_true (by first | (with_reducible assumption) | assumption)
                              have hcut59 := cut_from (P := Try.prog) 23 5 .i64 Try.underlying23 hi059 1 hsz59 A0 l0.length c0 t139 q059 q59
                              have hr59 := Kd.C_drop (m := (t139 : Int).toNat) (c := c0) hC59 (by omega) hroom59
                              obtain ⟨A59, hA59⟩ : ∃ A1, A1 = (if c0 = (t139 : Int).toNat then A0 else (A0 : Option Addr).map (·.add ((t139 : Int).toNat * 1))) := ⟨_, rfl⟩
                              obtain ⟨c59, hc59⟩ : ∃ c1, c1 = c0 - (t139 : Int).toNat := ⟨_, rfl⟩
                              have hy59 : y144.length = l0.length - (t139 : Int).toNat := (by rw [Ny144.out, List.length_drop] <;> omega)
                              rw [show (l0).drop (t139 : Int).toNat = y144 from Ny144.out.symm] at hr59
                              replace hr59 : Kd.C (Kd.int .u8) _ A59 y144.length y144 := (by rw [hA59]; exact hr59)
                              rw [← hy59, ← hA59, ← hc59] at hcut59
                              have HR147 := Aside0.mk hr59
                              have HC147 := Aside0.mk (show y144.length ≤ c59 from by rw [hy59, hc59]; exact Nat.sub_le_sub_right hroom59 _)
                              clear hr59 hC59 hroom59 hi059 hsz59 hc59
                              have KY59 := Aside0.mk hy59
                              have KA59 := Aside0.mk hA59
                              clear hy59 hA59
                              replace q59 := eq_true q59
                              go_wp2_with (first | ((with_reducible refine gate_callee (f := 31) rfl ?_); refine goesL_ (some 71) rfl rfl Try.func31 (by kernel_rfl) rfl #[.slice A59 y144.length c59] rfl (by (try simp only [List.map_toArray, List.map_cons, List.map_nil]); first | done | rfl | (simp only [List.length_drop, List.length_take]; rfl)) ?_; (with_reducible refine (varint_Take.calls kj4 _ _ y144 t153 t154 t155 _ ?side1 ?side2 A35.out).mono ?_); (case side1 => repeat (first | exact (Kd.C_below HR147.out HB.out) | (with_reducible refine Kd.C_alloc ?_ _) | (with_reducible refine Kd.C_drewN ?_ _) | (with_reducible refine Kd.C_drew ?_))); (case side2 => exact HC147.out); rintro e w' ⟨rfl, ⟨nd, rfl⟩⟩; refine ⟨_, rfl, ?_⟩; (try (rw [drewN_self wc]; generalize hq_ : World.drewN wc _ = wc; have n0_ : Aside0 (wc.heap[gb137]? = some (.cells #[.int .i64 0, .int .i64 0, .int .u64 0, .slice none 0 0] 25 (0, 0))) := ⟨by rw [← hq_]; exact (by (with_reducible repeat (first | refine blk_drewN ?_ _ | refine blk_drew ?_ | refine blk_alloc ?_ _)); exact BK137.out)⟩; have n1_ : Aside0 (wc.heap[gb141]? = some (.cells #[.int .i64 (wrap64 (t138 / 8)), .int .i64 (wrap64 (Go.bits .and .u64 t138 7)), .int .u64 0, .slice none 0 0] 25 (0, 0))) := ⟨by rw [← hq_]; exact (by (with_reducible repeat (first | refine blk_drewN ?_ _ | refine blk_drew ?_ | refine blk_alloc ?_ _)); exact BK141.out)⟩; have n2_ : Aside0 (Below w.heap.size w wc) := ⟨by rw [← hq_]; exact (by repeat (first | (with_reducible first | exact HB.out | apply below_alloc | apply pw_below_drewN | apply below_drew1 | refine below_set ?_ GE137.out | refine below_set ?_ GE141.out) | exact HB.out))⟩; clear BK137 BK141 HB hq_; have BK137 := n0_; have BK141 := n1_; have HB := n2_; clear n0_ n1_ n2_)); have hczR5_gb141_0 : wc.cell? ⟨gb141, 0, none⟩ = some (.int .i64 (wrap64 (t138 / 8))) := (blk_cell BK141.out 0).trans rfl; have hfzR5_gb141_0 := blk_frozen BK141.out 0; have hczR5_gb141_1 : wc.cell? ⟨gb141, 1, none⟩ = some (.int .i64 (wrap64 (Go.bits .and .u64 t138 7))) := (blk_cell BK141.out 1).trans rfl; have hfzR5_gb141_1 := blk_frozen BK141.out 1; have hczR5_gb141_2 : wc.cell? ⟨gb141, 2, none⟩ = some (.int .u64 0) := (blk_cell BK141.out 2).trans rfl; have hfzR5_gb141_2 := blk_frozen BK141.out 2; have hczR5_gb141_3 : wc.cell? ⟨gb141, 3, none⟩ = some (.slice none 0 0) := (blk_cell BK141.out 3).trans rfl; have hfzR5_gb141_3 := blk_frozen BK141.out 3; have hnb60 := NB137_141.out; have hnc60 := NB141_137.out; have hcz61_0 : wc.cell? ⟨gb137, 0, none⟩ = some (.int .i64 0) := (blk_cell BK137.out 0).trans rfl; have hcz61_1 : wc.cell? ⟨gb137, 1, none⟩ = some (.int .i64 0) := (blk_cell BK137.out 1).trans rfl; have hcz61_2 : wc.cell? ⟨gb137, 2, none⟩ = some (.int .u64 0) := (blk_cell BK137.out 2).trans rfl; have hcz61_3 : wc.cell? ⟨gb137, 3, none⟩ = some (.slice none 0 0) := (blk_cell BK137.out 3).trans rfl; have hfz61_0 := blk_frozen BK137.out 0; have hfz61_1 := blk_frozen BK137.out 1; have hfz61_2 := blk_frozen BK137.out 2; have hfz61_3 := blk_frozen BK137.out 3))
                              refine bodyPost_ret (results_ctt rfl _ _ gb137 25 #[.int .i64 0, .int .i64 0, .int .u64 0, .slice none 0 0] (0, 0) _ rfl (by (with_reducible repeat (first | refine blk_drewN ?_ _ | refine blk_drew ?_ | refine blk_alloc ?_ _)); refine blk_put (cs := #[.int .i64 0, .int .i64 0, .int .u64 0, .slice none 0 0]) ?_ 3 _ rfl; (with_reducible repeat (first | refine blk_drewN ?_ _ | refine blk_drew ?_ | refine blk_alloc ?_ _)); refine blk_put (cs := #[.int .i64 0, .int .i64 0, .int .u64 0, .slice none 0 0]) ?_ 2 _ rfl; (with_reducible repeat (first | refine blk_drewN ?_ _ | refine blk_drew ?_ | refine blk_alloc ?_ _)); refine blk_put (cs := #[.int .i64 0, .int .i64 0, .int .u64 0, .slice none 0 0]) ?_ 1 _ rfl; (with_reducible repeat (first | refine blk_drewN ?_ _ | refine blk_drew ?_ | refine blk_alloc ?_ _)); refine blk_put (cs := #[.int .i64 0, .int .i64 0, .int .u64 0, .slice none 0 0]) ?_ 0 _ rfl; (with_reducible repeat (first | refine blk_drewN ?_ _ | refine blk_drew ?_ | refine blk_alloc ?_ _)); exact BK137.out) Try.underlying25 rfl (by kernel_rfl)) rfl ?_
                              exact ⟨_, by first | rfl | (simp [errW_none, errW_some] <;> rfl) | (simp [*, errW_none, errW_some] <;> rfl), by first | exact Kd.R_nil _ _ _ _ _ | exact Kd.N_nil _ _ _ _ _ | exact Kd.V_nil _ _ _ _ _ | exact Kd.Q_nil _ _ _ _ _ | exact Kd.S_nil _ _ _ _ _, by repeat (first | (with_reducible first | exact HB.out | apply below_alloc | apply pw_below_drewN | apply below_drew1 | refine below_set ?_ GE137.out | refine below_set ?_ GE141.out) | exact HB.out)⟩
                · rw [if_neg c20] at H
                  exact absurd H (by simp)
            · rw [if_neg c19] at H
              exact absurd H (by simp)
  · as_aux_lemma =>
      rw [if_neg c3] at H
      have c3b0 : (t140 == 0) = false := beq_eq_false_iff_ne.mpr c3
      have c3b1 : (t140 != 0) = true := bne_iff_ne.mpr c3
      as_aux_lemma =>
        simp only [Option.some.injEq, Prod.mk.injEq] at H
        obtain ⟨rfl, rfl, rfl, rfl, rfl, rfl⟩ := H
        go_enter Try.func18, Try.ntmps18
        go_wp2_with (first | ((with_reducible refine gate_dst (N := 2) rfl ?_); refine box_event ?hg (N := 2) ?hd (cs := #[.int .i64 0, .int .i64 0, .int .u64 0, .slice none 0 0]) (t := 25) ?hr ?_; (case hd => rfl); (case hg => rfl); (case hr => first | (go_simp; done) | (go_simp; rfl)); intro gb137 hg w62 hbox hb; have n0_ := Aside0.mk (below_step (by repeat (first | (with_reducible first | exact HB.out | apply below_alloc | apply pw_below_drewN | apply below_drew1) | exact HB.out)) hb); have n1_ := Aside0.mk (hbox); have n2_ := Aside0.mk ((by rw [hg]; exact (below_size (by repeat (first | (with_reducible first | exact HB.out | apply below_alloc | apply pw_below_drewN | apply below_drew1) | exact HB.out))) : w.heap.size ≤ gb137)); have n3_ := Aside0.mk ((by rw [hg]; exact (below_size (by repeat (first | (with_reducible first | exact HB.out | apply below_alloc | apply pw_below_drewN | apply below_drew1) | exact HB.out))) : w.heap.size ≤ gb137)); clear HB; have HB := n0_; have BK137 := n1_; have GW137 := n2_; have GE137 := n3_; clear n0_ n1_ n2_ n3_; clear hb hbox hg) | ((with_reducible refine gate_callee (f := 31) rfl ?_); refine goesL_ (some 16) rfl rfl Try.func31 (by kernel_rfl) rfl #[.slice A0 l0.length c0] rfl (by (try simp only [List.map_toArray, List.map_cons, List.map_nil]); first | done | rfl | (simp only [List.length_drop, List.length_take]; rfl)) ?_; (with_reducible refine (varint_Take.calls k _ _ l0 t138 t139 t140 _ ?side1 ?side2 A2.out).mono ?_); (case side1 => repeat (first | exact (Kd.C_below HR0.out HB.out) | (with_reducible refine Kd.C_alloc ?_ _) | (with_reducible refine Kd.C_drewN ?_ _) | (with_reducible refine Kd.C_drew ?_))); (case side2 => exact HC0.out); rintro e w' ⟨rfl, ⟨nd, rfl⟩⟩; refine ⟨_, rfl, ?_⟩; (try (rw [drewN_self w62]; generalize hq_ : World.drewN w62 _ = w62; have n0_ : Aside0 (w62.heap[gb137]? = some (.cells #[.int .i64 0, .int .i64 0, .int .u64 0, .slice none 0 0] 25 (0, 0))) := ⟨by rw [← hq_]; exact (by (with_reducible repeat (first | refine blk_drewN ?_ _ | refine blk_drew ?_ | refine blk_alloc ?_ _)); exact BK137.out)⟩; have n1_ : Aside0 (Below w.heap.size w w62) := ⟨by rw [← hq_]; exact (by repeat (first | (with_reducible first | exact HB.out | apply below_alloc | apply pw_below_drewN | apply below_drew1 | refine below_set ?_ GE137.out) | exact HB.out))⟩; clear BK137 HB hq_; have BK137 := n0_; have HB := n1_; clear n0_ n1_)); have hcz63_0 : w62.cell? ⟨gb137, 0, none⟩ = some (.int .i64 0) := (blk_cell BK137.out 0).trans rfl; have hcz63_1 : w62.cell? ⟨gb137, 1, none⟩ = some (.int .i64 0) := (blk_cell BK137.out 1).trans rfl; have hcz63_2 : w62.cell? ⟨gb137, 2, none⟩ = some (.int .u64 0) := (blk_cell BK137.out 2).trans rfl; have hcz63_3 : w62.cell? ⟨gb137, 3, none⟩ = some (.slice none 0 0) := (blk_cell BK137.out 3).trans rfl; have hfz63_0 := blk_frozen BK137.out 0; have hfz63_1 := blk_frozen BK137.out 1; have hfz63_2 := blk_frozen BK137.out 2; have hfz63_3 := blk_frozen BK137.out 3))
        refine bodyPost_ret (results_ctt rfl _ _ gb137 25 #[.int .i64 0, .int .i64 0, .int .u64 0, .slice none 0 0] (0, 0) _ rfl (by (with_reducible repeat (first | refine blk_drewN ?_ _ | refine blk_drew ?_ | refine blk_alloc ?_ _)); refine blk_put (cs := #[.int .i64 0, .int .i64 0, .int .u64 0, .slice none 0 0]) ?_ 3 _ rfl; (with_reducible repeat (first | refine blk_drewN ?_ _ | refine blk_drew ?_ | refine blk_alloc ?_ _)); refine blk_put (cs := #[.int .i64 0, .int .i64 0, .int .u64 0, .slice none 0 0]) ?_ 2 _ rfl; (with_reducible repeat (first | refine blk_drewN ?_ _ | refine blk_drew ?_ | refine blk_alloc ?_ _)); refine blk_put (cs := #[.int .i64 0, .int .i64 0, .int .u64 0, .slice none 0 0]) ?_ 1 _ rfl; (with_reducible repeat (first | refine blk_drewN ?_ _ | refine blk_drew ?_ | refine blk_alloc ?_ _)); refine blk_put (cs := #[.int .i64 0, .int .i64 0, .int .u64 0, .slice none 0 0]) ?_ 0 _ rfl; (with_reducible repeat (first | refine blk_drewN ?_ _ | refine blk_drew ?_ | refine blk_alloc ?_ _)); exact BK137.out) Try.underlying25 rfl (by kernel_rfl)) rfl ?_
        exact ⟨_, by first | rfl | (simp [errW_none, errW_some] <;> rfl) | (simp [*, errW_none, errW_some] <;> rfl), by first | exact Kd.R_nil _ _ _ _ _ | exact Kd.N_nil _ _ _ _ _ | exact Kd.V_nil _ _ _ _ _ | exact Kd.Q_nil _ _ _ _ _ | exact Kd.S_nil _ _ _ _ _, by repeat (first | (with_reducible first | exact HB.out | apply below_alloc | apply pw_below_drewN | apply below_drew1 | refine below_set ?_ GE137.out) | exact HB.out)⟩

-- NOT PRINTED: function 37 (wire_fields_1)

-- wire_fields: in the text Fl

/-! ### wire_Read: function 20 (by hand) -/
def wire_Read.f (k : Nat) (l0 : List Int) : Option (List (S25) × Int × Int) := In.rdl (fun a b c d => (⟨a, b, c, d⟩ : S25)) (fun k l => wire_Take.f k l) l0 k [] 0
theorem wire_Read.mono : ∀ a0 k, LeO (wire_Read.f k a0) (wire_Read.f (k + 1) a0) := fun a0 k => In.rdl_mono _ _ (fun l k => wire_Take.mono l k) a0 k [] 0
theorem wire_Read.calls (k : Nat) (A0 : Option Addr) (c0 : Nat) (l0 : List Int) (r1 : List (S25)) (r2 : Int) (r3 : Int) (w : World) (hr0 : Kd.C (Kd.int .u8) w A0 l0.length l0) (hc0 : l0.length ≤ c0) (h : wire_Read.f k l0 = some (r1, r2, r3)) :
    Calls Try.prog 20 #[.slice A0 l0.length c0] w fun e w' => ∃ v0_ : Value, e = .returned (.tuple #[v0_, .int .i64 r2, .int .i64 r3]) ∧ Kd.S k25 25 w' w.heap.size (fun _ => True) v0_ r1 ∧ Below w.heap.size w w' :=
  In.read_calls (fun a b c d => (⟨a, b, c, d⟩ : S25)) k25 A0 c0 l0 w r1 r2 r3 (fun k l => wire_Take.f k l)
    (fun k A c l a1 a2 a3 a4 a5 a6 W hr hc h => wire_Take.calls k A c l a1 a2 a3 a4 a5 a6 W hr hc h) rfl (fun W base ok a1 a2 a3 a4 v hR => k25_mkM W base ok (⟨a1, a2, a3, a4⟩ : S25) hR) hr0 hc0 k h

/-! ### glossaryref01_Same: function 15 -/
def glossaryref01_Same.f (a0_0 : Int) (a0_1 : Int) (a0_2 : Int) (l0_3 : List Int) (a1_0 : Int) (a1_1 : Int) (a1_2 : Int) (l1_3 : List Int) : Option (Bool) := if a0_0 = a1_0 then (if a0_1 = a1_1 then (if a0_2 = a1_2 then (some ((strOfNums l0_3).toList == (strOfNums l1_3).toList)) else (some false)) else (some false)) else (some false)
set_option maxHeartbeats 8000000 in
set_option maxRecDepth 100000 in
theorem glossaryref01_Same.calls (a0_0 : Int) (a0_1 : Int) (a0_2 : Int) (A0_3 : Option Addr) (c0_3 : Nat) (l0_3 : List Int) (a1_0 : Int) (a1_1 : Int) (a1_2 : Int) (A1_3 : Option Addr) (c1_3 : Nat) (l1_3 : List Int) (r : Bool) (w : World) (hr0_3 : Kd.C (Kd.int .u8) w A0_3 l0_3.length l0_3) (hc0_3 : l0_3.length ≤ c0_3) (hr1_3 : Kd.C (Kd.int .u8) w A1_3 l1_3.length l1_3) (hc1_3 : l1_3.length ≤ c1_3) (h : glossaryref01_Same.f a0_0 a0_1 a0_2 l0_3 a1_0 a1_1 a1_2 l1_3 = some r) :
    Calls Try.prog 15 #[.agg #[.int .i64 a0_0, .int .i64 a0_1, .int .u64 a0_2, .slice A0_3 l0_3.length c0_3], .agg #[.int .i64 a1_0, .int .i64 a1_1, .int .u64 a1_2, .slice A1_3 l1_3.length c1_3]] w fun e w' => e = .returned (.bool r) ∧ Below w.heap.size w w' := by
  have hu25 := Try.underlying25
  have HR0_3 := Aside0.mk hr0_3
  have HC0_3 := Aside0.mk hc0_3
  clear hr0_3 hc0_3
  have HR1_3 := Aside0.mk hr1_3
  have HC1_3 := Aside0.mk hc1_3
  clear hr1_3 hc1_3
  have HB := Aside0.mk (Below.refl w.heap.size w)
  have H : (if a0_0 = a1_0 then (if a0_1 = a1_1 then (if a0_2 = a1_2 then (some ((strOfNums l0_3).toList == (strOfNums l1_3).toList)) else (some false)) else (some false)) else (some false)) = some r := h
  clear h
  by_cases c3 : a0_0 = a1_0
  · as_aux_lemma =>
      rw [if_pos c3] at H
      have c3b0 : (a0_0 == a1_0) = true := beq_iff_eq.mpr c3
      have c3b1 : (a0_0 != a1_0) = false := bne_eq_false_iff_eq.mpr c3
      clear c3
      by_cases c4 : a0_1 = a1_1
      · as_aux_lemma =>
          rw [if_pos c4] at H
          have c4b0 : (a0_1 == a1_1) = true := beq_iff_eq.mpr c4
          have c4b1 : (a0_1 != a1_1) = false := bne_eq_false_iff_eq.mpr c4
          clear c4
          by_cases c5 : a0_2 = a1_2
          · as_aux_lemma =>
              rw [if_pos c5] at H
              have c5b0 : (a0_2 == a1_2) = true := beq_iff_eq.mpr c5
              have c5b1 : (a0_2 != a1_2) = false := bne_eq_false_iff_eq.mpr c5
              clear c5
              as_aux_lemma =>
                obtain rfl := Option.some.inj H
                go_enter Try.func15, Try.ntmps15
                go_wp2_with (first | ((with_reducible refine gate_dst (N := 2) rfl ?_); refine box_event ?hg (N := 2) ?hd (cs := #[.int .i64 a0_0, .int .i64 a0_1, .int .u64 a0_2, .slice A0_3 l0_3.length c0_3]) (t := 25) ?hr ?_; (case hd => rfl); (case hg => rfl); (case hr => first | (go_simp; done) | (go_simp; rfl)); intro gb163 hg w6 hbox hb; have n0_ := Aside0.mk (below_step (by repeat (first | (with_reducible first | exact HB.out | apply below_alloc | apply pw_below_drewN | apply below_drew1) | exact HB.out)) hb); have n1_ := Aside0.mk (hbox); have n2_ := Aside0.mk ((by rw [hg]; exact (below_size (by repeat (first | (with_reducible first | exact HB.out | apply below_alloc | apply pw_below_drewN | apply below_drew1) | exact HB.out))) : w.heap.size ≤ gb163)); have n3_ := Aside0.mk ((by rw [hg]; exact (below_size (by repeat (first | (with_reducible first | exact HB.out | apply below_alloc | apply pw_below_drewN | apply below_drew1) | exact HB.out))) : w.heap.size ≤ gb163)); clear HB; have HB := n0_; have BK163 := n1_; have GW163 := n2_; have GE163 := n3_; clear n0_ n1_ n2_ n3_; clear hb hbox hg) | ((with_reducible refine gate_dst (N := 3) rfl ?_); refine box_event ?hg (N := 3) ?hd (cs := #[.int .i64 a1_0, .int .i64 a1_1, .int .u64 a1_2, .slice A1_3 l1_3.length c1_3]) (t := 25) ?hr ?_; (case hd => rfl); (case hg => rfl); (case hr => first | (go_simp; done) | (go_simp; rfl)); intro gb164 hg w7 hbox hb; have n0_ := Aside0.mk (blk_below (g := gb163) (o := .cells #[.int .i64 a0_0, .int .i64 a0_1, .int .u64 a0_2, .slice A0_3 l0_3.length c0_3] 25 (0, 0)) (by (with_reducible repeat (first | refine blk_drewN ?_ _ | refine blk_drew ?_ | refine blk_alloc ?_ _)); exact BK163.out) hb); have n1_ := Aside0.mk (below_step (by repeat (first | (with_reducible first | exact HB.out | apply below_alloc | apply pw_below_drewN | apply below_drew1 | refine below_set ?_ GE163.out) | exact HB.out)) hb); have n2_ := Aside0.mk (hbox); have n3_ := Aside0.mk ((by rw [hg]; exact (below_size (by repeat (first | (with_reducible first | exact HB.out | apply below_alloc | apply pw_below_drewN | apply below_drew1 | refine below_set ?_ GE163.out) | exact HB.out))) : w.heap.size ≤ gb164)); have n4_ := Aside0.mk ((by rw [hg]; exact (below_size (by repeat (first | (with_reducible first | exact HB.out | apply below_alloc | apply pw_below_drewN | apply below_drew1 | refine below_set ?_ GE163.out) | exact HB.out))) : w.heap.size ≤ gb164)); have n5_ := Aside0.mk ((by rw [hg]; exact Nat.ne_of_lt (blk_lt (g := gb163) (o := .cells #[.int .i64 a0_0, .int .i64 a0_1, .int .u64 a0_2, .slice A0_3 l0_3.length c0_3] 25 (0, 0)) (by (with_reducible repeat (first | refine blk_drewN ?_ _ | refine blk_drew ?_ | refine blk_alloc ?_ _)); exact BK163.out)) : gb163 ≠ gb164)); have n6_ := Aside0.mk ((by rw [hg]; exact Nat.ne_of_gt (blk_lt (g := gb163) (o := .cells #[.int .i64 a0_0, .int .i64 a0_1, .int .u64 a0_2, .slice A0_3 l0_3.length c0_3] 25 (0, 0)) (by (with_reducible repeat (first | refine blk_drewN ?_ _ | refine blk_drew ?_ | refine blk_alloc ?_ _)); exact BK163.out)) : gb164 ≠ gb163)); clear BK163; clear HB; have BK163 := n0_; have HB := n1_; have BK164 := n2_; have GW164 := n3_; have GE164 := n4_; have NB163_164 := n5_; have NB164_163 := n6_; clear n0_ n1_ n2_ n3_ n4_ n5_ n6_; clear hb hbox hg; have hnb8 := NB163_164.out; have hnc8 := NB164_163.out; have hcz9_0 : w7.cell? ⟨gb163, 0, none⟩ = some (.int .i64 a0_0) := (blk_cell BK163.out 0).trans rfl; have hcz9_1 : w7.cell? ⟨gb163, 1, none⟩ = some (.int .i64 a0_1) := (blk_cell BK163.out 1).trans rfl; have hcz9_2 : w7.cell? ⟨gb163, 2, none⟩ = some (.int .u64 a0_2) := (blk_cell BK163.out 2).trans rfl; have hcz9_3 : w7.cell? ⟨gb163, 3, none⟩ = some (.slice A0_3 l0_3.length c0_3) := (blk_cell BK163.out 3).trans rfl; have hfz9_0 := blk_frozen BK163.out 0; have hfz9_1 := blk_frozen BK163.out 1; have hfz9_2 := blk_frozen BK163.out 2; have hfz9_3 := blk_frozen BK163.out 3; have hcz10_0 : w7.cell? ⟨gb164, 0, none⟩ = some (.int .i64 a1_0) := (blk_cell BK164.out 0).trans rfl; have hcz10_1 : w7.cell? ⟨gb164, 1, none⟩ = some (.int .i64 a1_1) := (blk_cell BK164.out 1).trans rfl; have hcz10_2 : w7.cell? ⟨gb164, 2, none⟩ = some (.int .u64 a1_2) := (blk_cell BK164.out 2).trans rfl; have hcz10_3 : w7.cell? ⟨gb164, 3, none⟩ = some (.slice A1_3 l1_3.length c1_3) := (blk_cell BK164.out 3).trans rfl; have hfz10_0 := blk_frozen BK164.out 0; have hfz10_1 := blk_frozen BK164.out 1; have hfz10_2 := blk_frozen BK164.out 2; have hfz10_3 := blk_frozen BK164.out 3; have hcv11 := Kd.C_string (P := Try.prog) (A := A0_3) (c := c0_3) Try.underlying23 Try.underlying5 Try.underlying9 (Kd.C_below HR0_3.out HB.out); have hcvN11 := fun nd_ => Kd.C_string (P := Try.prog) (A := A0_3) (c := c0_3) Try.underlying23 Try.underlying5 Try.underlying9 (Kd.C_drewN (Kd.C_below HR0_3.out HB.out) nd_); have hcv12 := Kd.C_string (P := Try.prog) (A := A1_3) (c := c1_3) Try.underlying23 Try.underlying5 Try.underlying9 (Kd.C_below HR1_3.out HB.out); have hcvN12 := fun nd_ => Kd.C_string (P := Try.prog) (A := A1_3) (c := c1_3) Try.underlying23 Try.underlying5 Try.underlying9 (Kd.C_drewN (Kd.C_below HR1_3.out HB.out) nd_)))
                go_ret
                exact ⟨by first | rfl | (simp [errW_none, errW_some] <;> rfl) | (simp [*, errW_none, errW_some] <;> rfl), by repeat (first | (with_reducible first | exact HB.out | apply below_alloc | apply pw_below_drewN | apply below_drew1 | refine below_set ?_ GE163.out | refine below_set ?_ GE164.out) | exact HB.out)⟩
          · as_aux_lemma =>
              rw [if_neg c5] at H
              have c5b0 : (a0_2 == a1_2) = false := beq_eq_false_iff_ne.mpr c5
              have c5b1 : (a0_2 != a1_2) = true := bne_iff_ne.mpr c5
              as_aux_lemma =>
                obtain rfl := Option.some.inj H
                go_enter Try.func15, Try.ntmps15
                go_wp2_with (first | ((with_reducible refine gate_dst (N := 2) rfl ?_); refine box_event ?hg (N := 2) ?hd (cs := #[.int .i64 a0_0, .int .i64 a0_1, .int .u64 a0_2, .slice A0_3 l0_3.length c0_3]) (t := 25) ?hr ?_; (case hd => rfl); (case hg => rfl); (case hr => first | (go_simp; done) | (go_simp; rfl)); intro gb163 hg w13 hbox hb; have n0_ := Aside0.mk (below_step (by repeat (first | (with_reducible first | exact HB.out | apply below_alloc | apply pw_below_drewN | apply below_drew1) | exact HB.out)) hb); have n1_ := Aside0.mk (hbox); have n2_ := Aside0.mk ((by rw [hg]; exact (below_size (by repeat (first | (with_reducible first | exact HB.out | apply below_alloc | apply pw_below_drewN | apply below_drew1) | exact HB.out))) : w.heap.size ≤ gb163)); have n3_ := Aside0.mk ((by rw [hg]; exact (below_size (by repeat (first | (with_reducible first | exact HB.out | apply below_alloc | apply pw_below_drewN | apply below_drew1) | exact HB.out))) : w.heap.size ≤ gb163)); clear HB; have HB := n0_; have BK163 := n1_; have GW163 := n2_; have GE163 := n3_; clear n0_ n1_ n2_ n3_; clear hb hbox hg) | ((with_reducible refine gate_dst (N := 3) rfl ?_); refine box_event ?hg (N := 3) ?hd (cs := #[.int .i64 a1_0, .int .i64 a1_1, .int .u64 a1_2, .slice A1_3 l1_3.length c1_3]) (t := 25) ?hr ?_; (case hd => rfl); (case hg => rfl); (case hr => first | (go_simp; done) | (go_simp; rfl)); intro gb164 hg w14 hbox hb; have n0_ := Aside0.mk (blk_below (g := gb163) (o := .cells #[.int .i64 a0_0, .int .i64 a0_1, .int .u64 a0_2, .slice A0_3 l0_3.length c0_3] 25 (0, 0)) (by (with_reducible repeat (first | refine blk_drewN ?_ _ | refine blk_drew ?_ | refine blk_alloc ?_ _)); exact BK163.out) hb); have n1_ := Aside0.mk (below_step (by repeat (first | (with_reducible first | exact HB.out | apply below_alloc | apply pw_below_drewN | apply below_drew1 | refine below_set ?_ GE163.out) | exact HB.out)) hb); have n2_ := Aside0.mk (hbox); have n3_ := Aside0.mk ((by rw [hg]; exact (below_size (by repeat (first | (with_reducible first | exact HB.out | apply below_alloc | apply pw_below_drewN | apply below_drew1 | refine below_set ?_ GE163.out) | exact HB.out))) : w.heap.size ≤ gb164)); have n4_ := Aside0.mk ((by rw [hg]; exact (below_size (by repeat (first | (with_reducible first | exact HB.out | apply below_alloc | apply pw_below_drewN | apply below_drew1 | refine below_set ?_ GE163.out) | exact HB.out))) : w.heap.size ≤ gb164)); have n5_ := Aside0.mk ((by rw [hg]; exact Nat.ne_of_lt (blk_lt (g := gb163) (o := .cells #[.int .i64 a0_0, .int .i64 a0_1, .int .u64 a0_2, .slice A0_3 l0_3.length c0_3] 25 (0, 0)) (by (with_reducible repeat (first | refine blk_drewN ?_ _ | refine blk_drew ?_ | refine blk_alloc ?_ _)); exact BK163.out)) : gb163 ≠ gb164)); have n6_ := Aside0.mk ((by rw [hg]; exact Nat.ne_of_gt (blk_lt (g := gb163) (o := .cells #[.int .i64 a0_0, .int .i64 a0_1, .int .u64 a0_2, .slice A0_3 l0_3.length c0_3] 25 (0, 0)) (by (with_reducible repeat (first | refine blk_drewN ?_ _ | refine blk_drew ?_ | refine blk_alloc ?_ _)); exact BK163.out)) : gb164 ≠ gb163)); clear BK163; clear HB; have BK163 := n0_; have HB := n1_; have BK164 := n2_; have GW164 := n3_; have GE164 := n4_; have NB163_164 := n5_; have NB164_163 := n6_; clear n0_ n1_ n2_ n3_ n4_ n5_ n6_; clear hb hbox hg; have hnb15 := NB163_164.out; have hnc15 := NB164_163.out; have hcz16_0 : w14.cell? ⟨gb163, 0, none⟩ = some (.int .i64 a0_0) := (blk_cell BK163.out 0).trans rfl; have hcz16_1 : w14.cell? ⟨gb163, 1, none⟩ = some (.int .i64 a0_1) := (blk_cell BK163.out 1).trans rfl; have hcz16_2 : w14.cell? ⟨gb163, 2, none⟩ = some (.int .u64 a0_2) := (blk_cell BK163.out 2).trans rfl; have hcz16_3 : w14.cell? ⟨gb163, 3, none⟩ = some (.slice A0_3 l0_3.length c0_3) := (blk_cell BK163.out 3).trans rfl; have hfz16_0 := blk_frozen BK163.out 0; have hfz16_1 := blk_frozen BK163.out 1; have hfz16_2 := blk_frozen BK163.out 2; have hfz16_3 := blk_frozen BK163.out 3; have hcz17_0 : w14.cell? ⟨gb164, 0, none⟩ = some (.int .i64 a1_0) := (blk_cell BK164.out 0).trans rfl; have hcz17_1 : w14.cell? ⟨gb164, 1, none⟩ = some (.int .i64 a1_1) := (blk_cell BK164.out 1).trans rfl; have hcz17_2 : w14.cell? ⟨gb164, 2, none⟩ = some (.int .u64 a1_2) := (blk_cell BK164.out 2).trans rfl; have hcz17_3 : w14.cell? ⟨gb164, 3, none⟩ = some (.slice A1_3 l1_3.length c1_3) := (blk_cell BK164.out 3).trans rfl; have hfz17_0 := blk_frozen BK164.out 0; have hfz17_1 := blk_frozen BK164.out 1; have hfz17_2 := blk_frozen BK164.out 2; have hfz17_3 := blk_frozen BK164.out 3))
                go_ret
                exact ⟨by first | rfl | (simp [errW_none, errW_some] <;> rfl) | (simp [*, errW_none, errW_some] <;> rfl), by repeat (first | (with_reducible first | exact HB.out | apply below_alloc | apply pw_below_drewN | apply below_drew1 | refine below_set ?_ GE163.out | refine below_set ?_ GE164.out) | exact HB.out)⟩
      · as_aux_lemma =>
          rw [if_neg c4] at H
          have c4b0 : (a0_1 == a1_1) = false := beq_eq_false_iff_ne.mpr c4
          have c4b1 : (a0_1 != a1_1) = true := bne_iff_ne.mpr c4
          as_aux_lemma =>
            obtain rfl := Option.some.inj H
            go_enter Try.func15, Try.ntmps15
            go_wp2_with (first | ((with_reducible refine gate_dst (N := 2) rfl ?_); refine box_event ?hg (N := 2) ?hd (cs := #[.int .i64 a0_0, .int .i64 a0_1, .int .u64 a0_2, .slice A0_3 l0_3.length c0_3]) (t := 25) ?hr ?_; (case hd => rfl); (case hg => rfl); (case hr => first | (go_simp; done) | (go_simp; rfl)); intro gb163 hg w18 hbox hb; have n0_ := Aside0.mk (below_step (by repeat (first | (with_reducible first | exact HB.out | apply below_alloc | apply pw_below_drewN | apply below_drew1) | exact HB.out)) hb); have n1_ := Aside0.mk (hbox); have n2_ := Aside0.mk ((by rw [hg]; exact (below_size (by repeat (first | (with_reducible first | exact HB.out | apply below_alloc | apply pw_below_drewN | apply below_drew1) | exact HB.out))) : w.heap.size ≤ gb163)); have n3_ := Aside0.mk ((by rw [hg]; exact (below_size (by repeat (first | (with_reducible first | exact HB.out | apply below_alloc | apply pw_below_drewN | apply below_drew1) | exact HB.out))) : w.heap.size ≤ gb163)); clear HB; have HB := n0_; have BK163 := n1_; have GW163 := n2_; have GE163 := n3_; clear n0_ n1_ n2_ n3_; clear hb hbox hg) | ((with_reducible refine gate_dst (N := 3) rfl ?_); refine box_event ?hg (N := 3) ?hd (cs := #[.int .i64 a1_0, .int .i64 a1_1, .int .u64 a1_2, .slice A1_3 l1_3.length c1_3]) (t := 25) ?hr ?_; (case hd => rfl); (case hg => rfl); (case hr => first | (go_simp; done) | (go_simp; rfl)); intro gb164 hg w19 hbox hb; have n0_ := Aside0.mk (blk_below (g := gb163) (o := .cells #[.int .i64 a0_0, .int .i64 a0_1, .int .u64 a0_2, .slice A0_3 l0_3.length c0_3] 25 (0, 0)) (by (with_reducible repeat (first | refine blk_drewN ?_ _ | refine blk_drew ?_ | refine blk_alloc ?_ _)); exact BK163.out) hb); have n1_ := Aside0.mk (below_step (by repeat (first | (with_reducible first | exact HB.out | apply below_alloc | apply pw_below_drewN | apply below_drew1 | refine below_set ?_ GE163.out) | exact HB.out)) hb); have n2_ := Aside0.mk (hbox); have n3_ := Aside0.mk ((by rw [hg]; exact (below_size (by repeat (first | (with_reducible first | exact HB.out | apply below_alloc | apply pw_below_drewN | apply below_drew1 | refine below_set ?_ GE163.out) | exact HB.out))) : w.heap.size ≤ gb164)); have n4_ := Aside0.mk ((by rw [hg]; exact (below_size (by repeat (first | (with_reducible first | exact HB.out | apply below_alloc | apply pw_below_drewN | apply below_drew1 | refine below_set ?_ GE163.out) | exact HB.out))) : w.heap.size ≤ gb164)); have n5_ := Aside0.mk ((by rw [hg]; exact Nat.ne_of_lt (blk_lt (g := gb163) (o := .cells #[.int .i64 a0_0, .int .i64 a0_1, .int .u64 a0_2, .slice A0_3 l0_3.length c0_3] 25 (0, 0)) (by (with_reducible repeat (first | refine blk_drewN ?_ _ | refine blk_drew ?_ | refine blk_alloc ?_ _)); exact BK163.out)) : gb163 ≠ gb164)); have n6_ := Aside0.mk ((by rw [hg]; exact Nat.ne_of_gt (blk_lt (g := gb163) (o := .cells #[.int .i64 a0_0, .int .i64 a0_1, .int .u64 a0_2, .slice A0_3 l0_3.length c0_3] 25 (0, 0)) (by (with_reducible repeat (first | refine blk_drewN ?_ _ | refine blk_drew ?_ | refine blk_alloc ?_ _)); exact BK163.out)) : gb164 ≠ gb163)); clear BK163; clear HB; have BK163 := n0_; have HB := n1_; have BK164 := n2_; have GW164 := n3_; have GE164 := n4_; have NB163_164 := n5_; have NB164_163 := n6_; clear n0_ n1_ n2_ n3_ n4_ n5_ n6_; clear hb hbox hg; have hnb20 := NB163_164.out; have hnc20 := NB164_163.out; have hcz21_0 : w19.cell? ⟨gb163, 0, none⟩ = some (.int .i64 a0_0) := (blk_cell BK163.out 0).trans rfl; have hcz21_1 : w19.cell? ⟨gb163, 1, none⟩ = some (.int .i64 a0_1) := (blk_cell BK163.out 1).trans rfl; have hcz21_2 : w19.cell? ⟨gb163, 2, none⟩ = some (.int .u64 a0_2) := (blk_cell BK163.out 2).trans rfl; have hcz21_3 : w19.cell? ⟨gb163, 3, none⟩ = some (.slice A0_3 l0_3.length c0_3) := (blk_cell BK163.out 3).trans rfl; have hfz21_0 := blk_frozen BK163.out 0; have hfz21_1 := blk_frozen BK163.out 1; have hfz21_2 := blk_frozen BK163.out 2; have hfz21_3 := blk_frozen BK163.out 3; have hcz22_0 : w19.cell? ⟨gb164, 0, none⟩ = some (.int .i64 a1_0) := (blk_cell BK164.out 0).trans rfl; have hcz22_1 : w19.cell? ⟨gb164, 1, none⟩ = some (.int .i64 a1_1) := (blk_cell BK164.out 1).trans rfl; have hcz22_2 : w19.cell? ⟨gb164, 2, none⟩ = some (.int .u64 a1_2) := (blk_cell BK164.out 2).trans rfl; have hcz22_3 : w19.cell? ⟨gb164, 3, none⟩ = some (.slice A1_3 l1_3.length c1_3) := (blk_cell BK164.out 3).trans rfl; have hfz22_0 := blk_frozen BK164.out 0; have hfz22_1 := blk_frozen BK164.out 1; have hfz22_2 := blk_frozen BK164.out 2; have hfz22_3 := blk_frozen BK164.out 3))
            go_ret
            exact ⟨by first | rfl | (simp [errW_none, errW_some] <;> rfl) | (simp [*, errW_none, errW_some] <;> rfl), by repeat (first | (with_reducible first | exact HB.out | apply below_alloc | apply pw_below_drewN | apply below_drew1 | refine below_set ?_ GE163.out | refine below_set ?_ GE164.out) | exact HB.out)⟩
  · as_aux_lemma =>
      rw [if_neg c3] at H
      have c3b0 : (a0_0 == a1_0) = false := beq_eq_false_iff_ne.mpr c3
      have c3b1 : (a0_0 != a1_0) = true := bne_iff_ne.mpr c3
      as_aux_lemma =>
        obtain rfl := Option.some.inj H
        go_enter Try.func15, Try.ntmps15
        go_wp2_with (first | ((with_reducible refine gate_dst (N := 2) rfl ?_); refine box_event ?hg (N := 2) ?hd (cs := #[.int .i64 a0_0, .int .i64 a0_1, .int .u64 a0_2, .slice A0_3 l0_3.length c0_3]) (t := 25) ?hr ?_; (case hd => rfl); (case hg => rfl); (case hr => first | (go_simp; done) | (go_simp; rfl)); intro gb163 hg w23 hbox hb; have n0_ := Aside0.mk (below_step (by repeat (first | (with_reducible first | exact HB.out | apply below_alloc | apply pw_below_drewN | apply below_drew1) | exact HB.out)) hb); have n1_ := Aside0.mk (hbox); have n2_ := Aside0.mk ((by rw [hg]; exact (below_size (by repeat (first | (with_reducible first | exact HB.out | apply below_alloc | apply pw_below_drewN | apply below_drew1) | exact HB.out))) : w.heap.size ≤ gb163)); have n3_ := Aside0.mk ((by rw [hg]; exact (below_size (by repeat (first | (with_reducible first | exact HB.out | apply below_alloc | apply pw_below_drewN | apply below_drew1) | exact HB.out))) : w.heap.size ≤ gb163)); clear HB; have HB := n0_; have BK163 := n1_; have GW163 := n2_; have GE163 := n3_; clear n0_ n1_ n2_ n3_; clear hb hbox hg) | ((with_reducible refine gate_dst (N := 3) rfl ?_); refine box_event ?hg (N := 3) ?hd (cs := #[.int .i64 a1_0, .int .i64 a1_1, .int .u64 a1_2, .slice A1_3 l1_3.length c1_3]) (t := 25) ?hr ?_; (case hd => rfl); (case hg => rfl); (case hr => first | (go_simp; done) | (go_simp; rfl)); intro gb164 hg w24 hbox hb; have n0_ := Aside0.mk (blk_below (g := gb163) (o := .cells #[.int .i64 a0_0, .int .i64 a0_1, .int .u64 a0_2, .slice A0_3 l0_3.length c0_3] 25 (0, 0)) (by (with_reducible repeat (first | refine blk_drewN ?_ _ | refine blk_drew ?_ | refine blk_alloc ?_ _)); exact BK163.out) hb); have n1_ := Aside0.mk (below_step (by repeat (first | (with_reducible first | exact HB.out | apply below_alloc | apply pw_below_drewN | apply below_drew1 | refine below_set ?_ GE163.out) | exact HB.out)) hb); have n2_ := Aside0.mk (hbox); have n3_ := Aside0.mk ((by rw [hg]; exact (below_size (by repeat (first | (with_reducible first | exact HB.out | apply below_alloc | apply pw_below_drewN | apply below_drew1 | refine below_set ?_ GE163.out) | exact HB.out))) : w.heap.size ≤ gb164)); have n4_ := Aside0.mk ((by rw [hg]; exact (below_size (by repeat (first | (with_reducible first | exact HB.out | apply below_alloc | apply pw_below_drewN | apply below_drew1 | refine below_set ?_ GE163.out) | exact HB.out))) : w.heap.size ≤ gb164)); have n5_ := Aside0.mk ((by rw [hg]; exact Nat.ne_of_lt (blk_lt (g := gb163) (o := .cells #[.int .i64 a0_0, .int .i64 a0_1, .int .u64 a0_2, .slice A0_3 l0_3.length c0_3] 25 (0, 0)) (by (with_reducible repeat (first | refine blk_drewN ?_ _ | refine blk_drew ?_ | refine blk_alloc ?_ _)); exact BK163.out)) : gb163 ≠ gb164)); have n6_ := Aside0.mk ((by rw [hg]; exact Nat.ne_of_gt (blk_lt (g := gb163) (o := .cells #[.int .i64 a0_0, .int .i64 a0_1, .int .u64 a0_2, .slice A0_3 l0_3.length c0_3] 25 (0, 0)) (by (with_reducible repeat (first | refine blk_drewN ?_ _ | refine blk_drew ?_ | refine blk_alloc ?_ _)); exact BK163.out)) : gb164 ≠ gb163)); clear BK163; clear HB; have BK163 := n0_; have HB := n1_; have BK164 := n2_; have GW164 := n3_; have GE164 := n4_; have NB163_164 := n5_; have NB164_163 := n6_; clear n0_ n1_ n2_ n3_ n4_ n5_ n6_; clear hb hbox hg; have hnb25 := NB163_164.out; have hnc25 := NB164_163.out; have hcz26_0 : w24.cell? ⟨gb163, 0, none⟩ = some (.int .i64 a0_0) := (blk_cell BK163.out 0).trans rfl; have hcz26_1 : w24.cell? ⟨gb163, 1, none⟩ = some (.int .i64 a0_1) := (blk_cell BK163.out 1).trans rfl; have hcz26_2 : w24.cell? ⟨gb163, 2, none⟩ = some (.int .u64 a0_2) := (blk_cell BK163.out 2).trans rfl; have hcz26_3 : w24.cell? ⟨gb163, 3, none⟩ = some (.slice A0_3 l0_3.length c0_3) := (blk_cell BK163.out 3).trans rfl; have hfz26_0 := blk_frozen BK163.out 0; have hfz26_1 := blk_frozen BK163.out 1; have hfz26_2 := blk_frozen BK163.out 2; have hfz26_3 := blk_frozen BK163.out 3; have hcz27_0 : w24.cell? ⟨gb164, 0, none⟩ = some (.int .i64 a1_0) := (blk_cell BK164.out 0).trans rfl; have hcz27_1 : w24.cell? ⟨gb164, 1, none⟩ = some (.int .i64 a1_1) := (blk_cell BK164.out 1).trans rfl; have hcz27_2 : w24.cell? ⟨gb164, 2, none⟩ = some (.int .u64 a1_2) := (blk_cell BK164.out 2).trans rfl; have hcz27_3 : w24.cell? ⟨gb164, 3, none⟩ = some (.slice A1_3 l1_3.length c1_3) := (blk_cell BK164.out 3).trans rfl; have hfz27_0 := blk_frozen BK164.out 0; have hfz27_1 := blk_frozen BK164.out 1; have hfz27_2 := blk_frozen BK164.out 2; have hfz27_3 := blk_frozen BK164.out 3))
        go_ret
        exact ⟨by first | rfl | (simp [errW_none, errW_some] <;> rfl) | (simp [*, errW_none, errW_some] <;> rfl), by repeat (first | (with_reducible first | exact HB.out | apply below_alloc | apply pw_below_drewN | apply below_drew1 | refine below_set ?_ GE163.out | refine below_set ?_ GE164.out) | exact HB.out)⟩

end Go.Proofs.Yteopaifokfmnjaa.GWireJoined
