/- glossarylaw11.DescSame: its walk, over what its callees answer. -/
import Derived.Test.YticnihfjnjliiaaKR2
import Derived.Test.YticnihfjnjliiaaKE3
import Derived.Test.YticnihfjnjliiaaKGDescGrowsx2
import Derived.LoopN
import Derived.RegionTactic
namespace Go.Proofs.Yticnihfjnjliiaa.R1
open Go.RowKit Go.Proofs.Yticnihfjnjliiaa.GDescGrows Go.Proofs.YticnihfjnjliiaaW.PrintWords Go.Proofs.YticnihfjnjliiaaW.PrintLast Go.Proofs.YticnihfjnjliiaaW.PrintMore Go.Proofs.Yticnihfjnjliiaa.Vb Go.Proofs.Yticnihfjnjliiaa.Wr Go.Proofs.Yticnihfjnjliiaa.Wp Go.Proofs.Yticnihfjnjliiaa.Rk Go.Proofs.Yticnihfjnjliiaa.Sp Go.Proofs.Yticnihfjnjliiaa.E1
set_option linter.unusedVariables false
set_option linter.unusedSimpArgs false
def ls_t.T5 : Bool × List (List Nat × List Nat) := (true, [([], []), ([], []), ([0, 1], [0, 1]), ([], []), ([], []), ([3, 4, 2], [3, 4]), ([2, 5], [2, 5]), ([6, 5], [6]), ([7], [7]), ([8, 7, 7], [7, 8]), ([7], [7]), ([10, 9, 7], [7, 10]), ([9, 11, 7], [7, 9, 11]), ([7, 12], [7, 12]), ([13, 11], [13]), ([14], [14]), ([14], [14]), ([15, 16, 14, 14], [14, 15, 16]), ([14], [14]), ([18, 17, 14], [14, 18]), ([19, 14], [14, 19]), ([17, 20, 14], [14, 17, 20]), ([14, 21], [14, 21]), ([22, 19, 0, 1, 2, 3, 4, 5, 6, 7, 8, 9, 10, 11, 12, 13, 14, 15, 16, 17, 18, 19, 20, 21, 22], [22])])
def ls_t.B5 : List Nat := [0, 0, 3, 0, 0, 31, 63, 127, 255, 511, 255, 2047, 4095, 8191, 16383, 32767, 32767, 131071, 32767, 524287, 1048575, 2097151, 4194303, 8388607]
theorem ls_t.tab5 : rtab .any (opsOf Try.f5 5) = ls_t.T5 := by kernel_rfl
theorem ls_t.bits5 : waitsOk ls_t.T5.2 ls_t.B5 = true := by kernel_rfl
set_option maxHeartbeats 64000000 in
set_option maxRecDepth 100000 in
theorem early (x y : S30) (w : World) (cs ds : List Value) (hx : k30.K w x cs) (hy : k30.K w y ds) (b0 b1 : Bool) (fx : ∀ (W : World) (cs : List Value), k30.K W x cs → Calls Try.prog 8 #[.agg cs.toArray] W fun e w' => e = .returned (.bool b0) ∧ Below W.heap.size W w') (fy : ∀ (W : World) (cs : List Value), k30.K W y cs → Calls Try.prog 8 #[.agg cs.toArray] W fun e w' => e = .returned (.bool b1) ∧ Below W.heap.size W w') (hno : (b0 && b1) = false) :
 Calls Try.prog 5 #[.agg cs.toArray, .agg ds.toArray] w fun e w' => e = .returned (.bool true) ∧ Below w.heap.size w w' := by
 obtain ⟨A2, c2, A3, c3, A4, c4, A5, c5, A6, c6, A7, c7, A9, c9, A10, c10, rfl, lc2, gc2, lc3, gc3, lc4, gc4, lc5, gc5, lc6, gc6, lc7, gc7, lc9, gc9, lc10, gc10⟩ := k30_open hx
 obtain ⟨B2, d2, B3, d3, B4, d4, B5, d5, B6, d6, B7, d7, B9, d9, B10, d10, rfl, ld2, gd2, ld3, gd3, ld4, gd4, ld5, gd5, ld6, gd6, ld7, gd7, ld9, gd9, ld10, gd10⟩ := k30_open hy
 have HB : Aside0 (Below w.heap.size w ((w.alloc (.cells #[.string x.f0, .string x.f1, .slice A2 x.f2.length c2, .slice A3 x.f3.length c3, .slice A4 x.f4.length c4, .slice A5 x.f5.length c5, .slice A6 x.f6.length c6, .slice A7 x.f7.length c7, .string x.f8, .slice A9 x.f9.length c9, .slice A10 x.f10.length c10] 30)).alloc (.cells #[.string y.f0, .string y.f1, .slice B2 y.f2.length d2, .slice B3 y.f3.length d3, .slice B4 y.f4.length d4, .slice B5 y.f5.length d5, .slice B6 y.f6.length d6, .slice B7 y.f7.length d7, .string y.f8, .slice B9 y.f9.length d9, .slice B10 y.f10.length d10] 30))) := ⟨below_alloc (below_alloc (Below.refl _ _) _) _⟩
 have BX : Aside0 (((w.alloc (.cells #[.string x.f0, .string x.f1, .slice A2 x.f2.length c2, .slice A3 x.f3.length c3, .slice A4 x.f4.length c4, .slice A5 x.f5.length c5, .slice A6 x.f6.length c6, .slice A7 x.f7.length c7, .string x.f8, .slice A9 x.f9.length c9, .slice A10 x.f10.length c10] 30)).alloc (.cells #[.string y.f0, .string y.f1, .slice B2 y.f2.length d2, .slice B3 y.f3.length d3, .slice B4 y.f4.length d4, .slice B5 y.f5.length d5, .slice B6 y.f6.length d6, .slice B7 y.f7.length d7, .string y.f8, .slice B9 y.f9.length d9, .slice B10 y.f10.length d10] 30)).heap[w.heap.size]? = some (.cells #[.string x.f0, .string x.f1, .slice A2 x.f2.length c2, .slice A3 x.f3.length c3, .slice A4 x.f4.length c4, .slice A5 x.f5.length c5, .slice A6 x.f6.length c6, .slice A7 x.f7.length c7, .string x.f8, .slice A9 x.f9.length c9, .slice A10 x.f10.length c10] 30 (0, 0))) := ⟨blk_alloc (new1 _ _) _⟩
 have BY : Aside0 (((w.alloc (.cells #[.string x.f0, .string x.f1, .slice A2 x.f2.length c2, .slice A3 x.f3.length c3, .slice A4 x.f4.length c4, .slice A5 x.f5.length c5, .slice A6 x.f6.length c6, .slice A7 x.f7.length c7, .string x.f8, .slice A9 x.f9.length c9, .slice A10 x.f10.length c10] 30)).alloc (.cells #[.string y.f0, .string y.f1, .slice B2 y.f2.length d2, .slice B3 y.f3.length d3, .slice B4 y.f4.length d4, .slice B5 y.f5.length d5, .slice B6 y.f6.length d6, .slice B7 y.f7.length d7, .string y.f8, .slice B9 y.f9.length d9, .slice B10 y.f10.length d10] 30)).heap[w.heap.size + 1]? = some (.cells #[.string y.f0, .string y.f1, .slice B2 y.f2.length d2, .slice B3 y.f3.length d3, .slice B4 y.f4.length d4, .slice B5 y.f5.length d5, .slice B6 y.f6.length d6, .slice B7 y.f7.length d7, .string y.f8, .slice B9 y.f9.length d9, .slice B10 y.f10.length d10] 30 (0, 0))) := ⟨new2 _ _ _⟩
 have key : (b0 = false) ∨ (b0 = true ∧ b1 = false) := by
  cases b0 <;> cases b1 <;> simp_all
 clear hno
 rcases key with rfl | ⟨rfl, rfl⟩
 all_goals
  go_enter Try.func5, Try.ntmps5
  go_wp2_with (first | (go_at_call 7; (with_reducible refine (glossarylaw11_awake.calls true _ rfl).mono ?_); rintro e w1 ⟨rfl, hb⟩; have n0_ := mk0 (below_then HB.out HB.out.size hb); have n1_ := mk0 (blk_below BX.out hb); have n2_ := mk0 (blk_below BY.out hb); clear HB BX BY; (try clear p0 q0); (try clear p1 q1); (try clear p2 q2); (try clear p3 q3); (try clear p4 q4); (try clear p5 q5); (try clear p6 q6); (try clear p7 q7); (try clear p8 q8); (try clear p9 q9); (try clear p10 q10); have HB := n0_; have BX := n1_; have BY := n2_; clear n0_ n1_ n2_; have p0 : _ = some ((.string x.f0) : Value) := (blk_cell BX.out 0).trans rfl; have q0 : _ = some ((.string y.f0) : Value) := (blk_cell BY.out 0).trans rfl; have p1 : _ = some ((.string x.f1) : Value) := (blk_cell BX.out 1).trans rfl; have q1 : _ = some ((.string y.f1) : Value) := (blk_cell BY.out 1).trans rfl; have p2 : _ = some ((.slice A2 x.f2.length c2) : Value) := (blk_cell BX.out 2).trans rfl; have q2 : _ = some ((.slice B2 y.f2.length d2) : Value) := (blk_cell BY.out 2).trans rfl; have p3 : _ = some ((.slice A3 x.f3.length c3) : Value) := (blk_cell BX.out 3).trans rfl; have q3 : _ = some ((.slice B3 y.f3.length d3) : Value) := (blk_cell BY.out 3).trans rfl; have p4 : _ = some ((.slice A4 x.f4.length c4) : Value) := (blk_cell BX.out 4).trans rfl; have q4 : _ = some ((.slice B4 y.f4.length d4) : Value) := (blk_cell BY.out 4).trans rfl; have p5 : _ = some ((.slice A5 x.f5.length c5) : Value) := (blk_cell BX.out 5).trans rfl; have q5 : _ = some ((.slice B5 y.f5.length d5) : Value) := (blk_cell BY.out 5).trans rfl; have p6 : _ = some ((.slice A6 x.f6.length c6) : Value) := (blk_cell BX.out 6).trans rfl; have q6 : _ = some ((.slice B6 y.f6.length d6) : Value) := (blk_cell BY.out 6).trans rfl; have p7 : _ = some ((.slice A7 x.f7.length c7) : Value) := (blk_cell BX.out 7).trans rfl; have q7 : _ = some ((.slice B7 y.f7.length d7) : Value) := (blk_cell BY.out 7).trans rfl; have p8 : _ = some ((.string x.f8) : Value) := (blk_cell BX.out 8).trans rfl; have q8 : _ = some ((.string y.f8) : Value) := (blk_cell BY.out 8).trans rfl; have p9 : _ = some ((.slice A9 x.f9.length c9) : Value) := (blk_cell BX.out 9).trans rfl; have q9 : _ = some ((.slice B9 y.f9.length d9) : Value) := (blk_cell BY.out 9).trans rfl; have p10 : _ = some ((.slice A10 x.f10.length c10) : Value) := (blk_cell BX.out 10).trans rfl; have q10 : _ = some ((.slice B10 y.f10.length d10) : Value) := (blk_cell BY.out 10).trans rfl; clear hb) | (go_at_call 8; (with_reducible refine (fx _ [.string x.f0, .string x.f1, .slice A2 x.f2.length c2, .slice A3 x.f3.length c3, .slice A4 x.f4.length c4, .slice A5 x.f5.length c5, .slice A6 x.f6.length c6, .slice A7 x.f7.length c7, .string x.f8, .slice A9 x.f9.length c9, .slice A10 x.f10.length c10] (k30_mk _ x lc2 (Kd.C_below gc2 HB.out) lc3 (Kd.C_below gc3 HB.out) lc4 (Kd.C_below gc4 HB.out) lc5 (Kd.C_below gc5 HB.out) lc6 (Kd.C_below gc6 HB.out) lc7 (Kd.C_below gc7 HB.out) lc9 (Kd.C_below gc9 HB.out) lc10 (Kd.C_below gc10 HB.out))).mono ?_); rintro e w1 ⟨rfl, hb⟩; have n0_ := mk0 (below_then HB.out HB.out.size hb); have n1_ := mk0 (blk_below BX.out hb); have n2_ := mk0 (blk_below BY.out hb); clear HB BX BY; (try clear p0 q0); (try clear p1 q1); (try clear p2 q2); (try clear p3 q3); (try clear p4 q4); (try clear p5 q5); (try clear p6 q6); (try clear p7 q7); (try clear p8 q8); (try clear p9 q9); (try clear p10 q10); have HB := n0_; have BX := n1_; have BY := n2_; clear n0_ n1_ n2_; have p0 : _ = some ((.string x.f0) : Value) := (blk_cell BX.out 0).trans rfl; have q0 : _ = some ((.string y.f0) : Value) := (blk_cell BY.out 0).trans rfl; have p1 : _ = some ((.string x.f1) : Value) := (blk_cell BX.out 1).trans rfl; have q1 : _ = some ((.string y.f1) : Value) := (blk_cell BY.out 1).trans rfl; have p2 : _ = some ((.slice A2 x.f2.length c2) : Value) := (blk_cell BX.out 2).trans rfl; have q2 : _ = some ((.slice B2 y.f2.length d2) : Value) := (blk_cell BY.out 2).trans rfl; have p3 : _ = some ((.slice A3 x.f3.length c3) : Value) := (blk_cell BX.out 3).trans rfl; have q3 : _ = some ((.slice B3 y.f3.length d3) : Value) := (blk_cell BY.out 3).trans rfl; have p4 : _ = some ((.slice A4 x.f4.length c4) : Value) := (blk_cell BX.out 4).trans rfl; have q4 : _ = some ((.slice B4 y.f4.length d4) : Value) := (blk_cell BY.out 4).trans rfl; have p5 : _ = some ((.slice A5 x.f5.length c5) : Value) := (blk_cell BX.out 5).trans rfl; have q5 : _ = some ((.slice B5 y.f5.length d5) : Value) := (blk_cell BY.out 5).trans rfl; have p6 : _ = some ((.slice A6 x.f6.length c6) : Value) := (blk_cell BX.out 6).trans rfl; have q6 : _ = some ((.slice B6 y.f6.length d6) : Value) := (blk_cell BY.out 6).trans rfl; have p7 : _ = some ((.slice A7 x.f7.length c7) : Value) := (blk_cell BX.out 7).trans rfl; have q7 : _ = some ((.slice B7 y.f7.length d7) : Value) := (blk_cell BY.out 7).trans rfl; have p8 : _ = some ((.string x.f8) : Value) := (blk_cell BX.out 8).trans rfl; have q8 : _ = some ((.string y.f8) : Value) := (blk_cell BY.out 8).trans rfl; have p9 : _ = some ((.slice A9 x.f9.length c9) : Value) := (blk_cell BX.out 9).trans rfl; have q9 : _ = some ((.slice B9 y.f9.length d9) : Value) := (blk_cell BY.out 9).trans rfl; have p10 : _ = some ((.slice A10 x.f10.length c10) : Value) := (blk_cell BX.out 10).trans rfl; have q10 : _ = some ((.slice B10 y.f10.length d10) : Value) := (blk_cell BY.out 10).trans rfl; clear hb) | (go_at_call 8; (with_reducible refine (fy _ [.string y.f0, .string y.f1, .slice B2 y.f2.length d2, .slice B3 y.f3.length d3, .slice B4 y.f4.length d4, .slice B5 y.f5.length d5, .slice B6 y.f6.length d6, .slice B7 y.f7.length d7, .string y.f8, .slice B9 y.f9.length d9, .slice B10 y.f10.length d10] (k30_mk _ y ld2 (Kd.C_below gd2 HB.out) ld3 (Kd.C_below gd3 HB.out) ld4 (Kd.C_below gd4 HB.out) ld5 (Kd.C_below gd5 HB.out) ld6 (Kd.C_below gd6 HB.out) ld7 (Kd.C_below gd7 HB.out) ld9 (Kd.C_below gd9 HB.out) ld10 (Kd.C_below gd10 HB.out))).mono ?_); rintro e w1 ⟨rfl, hb⟩; have n0_ := mk0 (below_then HB.out HB.out.size hb); have n1_ := mk0 (blk_below BX.out hb); have n2_ := mk0 (blk_below BY.out hb); clear HB BX BY; (try clear p0 q0); (try clear p1 q1); (try clear p2 q2); (try clear p3 q3); (try clear p4 q4); (try clear p5 q5); (try clear p6 q6); (try clear p7 q7); (try clear p8 q8); (try clear p9 q9); (try clear p10 q10); have HB := n0_; have BX := n1_; have BY := n2_; clear n0_ n1_ n2_; have p0 : _ = some ((.string x.f0) : Value) := (blk_cell BX.out 0).trans rfl; have q0 : _ = some ((.string y.f0) : Value) := (blk_cell BY.out 0).trans rfl; have p1 : _ = some ((.string x.f1) : Value) := (blk_cell BX.out 1).trans rfl; have q1 : _ = some ((.string y.f1) : Value) := (blk_cell BY.out 1).trans rfl; have p2 : _ = some ((.slice A2 x.f2.length c2) : Value) := (blk_cell BX.out 2).trans rfl; have q2 : _ = some ((.slice B2 y.f2.length d2) : Value) := (blk_cell BY.out 2).trans rfl; have p3 : _ = some ((.slice A3 x.f3.length c3) : Value) := (blk_cell BX.out 3).trans rfl; have q3 : _ = some ((.slice B3 y.f3.length d3) : Value) := (blk_cell BY.out 3).trans rfl; have p4 : _ = some ((.slice A4 x.f4.length c4) : Value) := (blk_cell BX.out 4).trans rfl; have q4 : _ = some ((.slice B4 y.f4.length d4) : Value) := (blk_cell BY.out 4).trans rfl; have p5 : _ = some ((.slice A5 x.f5.length c5) : Value) := (blk_cell BX.out 5).trans rfl; have q5 : _ = some ((.slice B5 y.f5.length d5) : Value) := (blk_cell BY.out 5).trans rfl; have p6 : _ = some ((.slice A6 x.f6.length c6) : Value) := (blk_cell BX.out 6).trans rfl; have q6 : _ = some ((.slice B6 y.f6.length d6) : Value) := (blk_cell BY.out 6).trans rfl; have p7 : _ = some ((.slice A7 x.f7.length c7) : Value) := (blk_cell BX.out 7).trans rfl; have q7 : _ = some ((.slice B7 y.f7.length d7) : Value) := (blk_cell BY.out 7).trans rfl; have p8 : _ = some ((.string x.f8) : Value) := (blk_cell BX.out 8).trans rfl; have q8 : _ = some ((.string y.f8) : Value) := (blk_cell BY.out 8).trans rfl; have p9 : _ = some ((.slice A9 x.f9.length c9) : Value) := (blk_cell BX.out 9).trans rfl; have q9 : _ = some ((.slice B9 y.f9.length d9) : Value) := (blk_cell BY.out 9).trans rfl; have p10 : _ = some ((.slice A10 x.f10.length c10) : Value) := (blk_cell BX.out 10).trans rfl; have q10 : _ = some ((.slice B10 y.f10.length d10) : Value) := (blk_cell BY.out 10).trans rfl; clear hb))
  go_ret
  exact ⟨rfl, HB.out⟩
set_option maxHeartbeats 64000000 in
set_option maxRecDepth 100000 in
theorem rest (x y : S30) (w : World) (cs ds : List Value) (hx : k30.K w x cs) (hy : k30.K w y ds) (R Z : Bool) (D : Int) (hZ : decide (D ≤ 64) = Z) (fx : ∀ (W : World) (cs : List Value), k30.K W x cs → Calls Try.prog 8 #[.agg cs.toArray] W fun e w' => e = .returned (.bool true) ∧ Below W.heap.size W w') (fy : ∀ (W : World) (cs : List Value), k30.K W y cs → Calls Try.prog 8 #[.agg cs.toArray] W fun e w' => e = .returned (.bool true) ∧ Below W.heap.size W w') (fs : ∀ (W : World) (cs ds : List Value), k30.K W x cs → k30.K W y ds → Calls Try.prog 13 #[.agg cs.toArray, .agg ds.toArray] W fun e w' => e = .returned (.bool R) ∧ Below W.heap.size W w') (fr : ∀ (W : World) (cs ds : List Value), k30.K W x cs → k30.K W y ds → Calls Try.prog 14 #[.agg cs.toArray, .agg ds.toArray] W fun e w' => e = .returned (.bool R) ∧ Below W.heap.size W w') (fd : ∀ (W : World) (cs : List Value), k30.K W x cs → Calls Try.prog 10 #[.agg cs.toArray] W fun e w' => e = .returned (.int .i64 D) ∧ Below W.heap.size W w') (fe : ∀ (W : World) (cs : List Value), k30.K W x cs → Calls Try.prog 9 #[.agg cs.toArray] W fun e w' => e = .returned (.int .i64 D) ∧ Below W.heap.size W w') (fz : ∀ (W : World) (cs ds : List Value), k30.K W x cs → k30.K W x ds → Calls Try.prog 13 #[.agg cs.toArray, .agg ds.toArray] W fun e w' => e = .returned (.bool Z) ∧ Below W.heap.size W w') :
 Calls Try.prog 5 #[.agg cs.toArray, .agg ds.toArray] w fun e w' => e = .returned (.bool true) ∧ Below w.heap.size w w' := by
 obtain ⟨A2, c2, A3, c3, A4, c4, A5, c5, A6, c6, A7, c7, A9, c9, A10, c10, rfl, lc2, gc2, lc3, gc3, lc4, gc4, lc5, gc5, lc6, gc6, lc7, gc7, lc9, gc9, lc10, gc10⟩ := k30_open hx
 obtain ⟨B2, d2, B3, d3, B4, d4, B5, d5, B6, d6, B7, d7, B9, d9, B10, d10, rfl, ld2, gd2, ld3, gd3, ld4, gd4, ld5, gd5, ld6, gd6, ld7, gd7, ld9, gd9, ld10, gd10⟩ := k30_open hy
 have HB : Aside0 (Below w.heap.size w ((w.alloc (.cells #[.string x.f0, .string x.f1, .slice A2 x.f2.length c2, .slice A3 x.f3.length c3, .slice A4 x.f4.length c4, .slice A5 x.f5.length c5, .slice A6 x.f6.length c6, .slice A7 x.f7.length c7, .string x.f8, .slice A9 x.f9.length c9, .slice A10 x.f10.length c10] 30)).alloc (.cells #[.string y.f0, .string y.f1, .slice B2 y.f2.length d2, .slice B3 y.f3.length d3, .slice B4 y.f4.length d4, .slice B5 y.f5.length d5, .slice B6 y.f6.length d6, .slice B7 y.f7.length d7, .string y.f8, .slice B9 y.f9.length d9, .slice B10 y.f10.length d10] 30))) := ⟨below_alloc (below_alloc (Below.refl _ _) _) _⟩
 have BX : Aside0 (((w.alloc (.cells #[.string x.f0, .string x.f1, .slice A2 x.f2.length c2, .slice A3 x.f3.length c3, .slice A4 x.f4.length c4, .slice A5 x.f5.length c5, .slice A6 x.f6.length c6, .slice A7 x.f7.length c7, .string x.f8, .slice A9 x.f9.length c9, .slice A10 x.f10.length c10] 30)).alloc (.cells #[.string y.f0, .string y.f1, .slice B2 y.f2.length d2, .slice B3 y.f3.length d3, .slice B4 y.f4.length d4, .slice B5 y.f5.length d5, .slice B6 y.f6.length d6, .slice B7 y.f7.length d7, .string y.f8, .slice B9 y.f9.length d9, .slice B10 y.f10.length d10] 30)).heap[w.heap.size]? = some (.cells #[.string x.f0, .string x.f1, .slice A2 x.f2.length c2, .slice A3 x.f3.length c3, .slice A4 x.f4.length c4, .slice A5 x.f5.length c5, .slice A6 x.f6.length c6, .slice A7 x.f7.length c7, .string x.f8, .slice A9 x.f9.length c9, .slice A10 x.f10.length c10] 30 (0, 0))) := ⟨blk_alloc (new1 _ _) _⟩
 have BY : Aside0 (((w.alloc (.cells #[.string x.f0, .string x.f1, .slice A2 x.f2.length c2, .slice A3 x.f3.length c3, .slice A4 x.f4.length c4, .slice A5 x.f5.length c5, .slice A6 x.f6.length c6, .slice A7 x.f7.length c7, .string x.f8, .slice A9 x.f9.length c9, .slice A10 x.f10.length c10] 30)).alloc (.cells #[.string y.f0, .string y.f1, .slice B2 y.f2.length d2, .slice B3 y.f3.length d3, .slice B4 y.f4.length d4, .slice B5 y.f5.length d5, .slice B6 y.f6.length d6, .slice B7 y.f7.length d7, .string y.f8, .slice B9 y.f9.length d9, .slice B10 y.f10.length d10] 30)).heap[w.heap.size + 1]? = some (.cells #[.string y.f0, .string y.f1, .slice B2 y.f2.length d2, .slice B3 y.f3.length d3, .slice B4 y.f4.length d4, .slice B5 y.f5.length d5, .slice B6 y.f6.length d6, .slice B7 y.f7.length d7, .string y.f8, .slice B9 y.f9.length d9, .slice B10 y.f10.length d10] 30 (0, 0))) := ⟨new2 _ _ _⟩
 go_enter Try.func5, Try.ntmps5
 go_wp2_with (first | (go_at_call 7; (with_reducible refine (glossarylaw11_awake.calls true _ rfl).mono ?_); rintro e w1 ⟨rfl, hb⟩; have n0_ := mk0 (below_then HB.out HB.out.size hb); have n1_ := mk0 (blk_below BX.out hb); have n2_ := mk0 (blk_below BY.out hb); clear HB BX BY; (try clear p0 q0); (try clear p1 q1); (try clear p2 q2); (try clear p3 q3); (try clear p4 q4); (try clear p5 q5); (try clear p6 q6); (try clear p7 q7); (try clear p8 q8); (try clear p9 q9); (try clear p10 q10); have HB := n0_; have BX := n1_; have BY := n2_; clear n0_ n1_ n2_; have p0 : _ = some ((.string x.f0) : Value) := (blk_cell BX.out 0).trans rfl; have q0 : _ = some ((.string y.f0) : Value) := (blk_cell BY.out 0).trans rfl; have p1 : _ = some ((.string x.f1) : Value) := (blk_cell BX.out 1).trans rfl; have q1 : _ = some ((.string y.f1) : Value) := (blk_cell BY.out 1).trans rfl; have p2 : _ = some ((.slice A2 x.f2.length c2) : Value) := (blk_cell BX.out 2).trans rfl; have q2 : _ = some ((.slice B2 y.f2.length d2) : Value) := (blk_cell BY.out 2).trans rfl; have p3 : _ = some ((.slice A3 x.f3.length c3) : Value) := (blk_cell BX.out 3).trans rfl; have q3 : _ = some ((.slice B3 y.f3.length d3) : Value) := (blk_cell BY.out 3).trans rfl; have p4 : _ = some ((.slice A4 x.f4.length c4) : Value) := (blk_cell BX.out 4).trans rfl; have q4 : _ = some ((.slice B4 y.f4.length d4) : Value) := (blk_cell BY.out 4).trans rfl; have p5 : _ = some ((.slice A5 x.f5.length c5) : Value) := (blk_cell BX.out 5).trans rfl; have q5 : _ = some ((.slice B5 y.f5.length d5) : Value) := (blk_cell BY.out 5).trans rfl; have p6 : _ = some ((.slice A6 x.f6.length c6) : Value) := (blk_cell BX.out 6).trans rfl; have q6 : _ = some ((.slice B6 y.f6.length d6) : Value) := (blk_cell BY.out 6).trans rfl; have p7 : _ = some ((.slice A7 x.f7.length c7) : Value) := (blk_cell BX.out 7).trans rfl; have q7 : _ = some ((.slice B7 y.f7.length d7) : Value) := (blk_cell BY.out 7).trans rfl; have p8 : _ = some ((.string x.f8) : Value) := (blk_cell BX.out 8).trans rfl; have q8 : _ = some ((.string y.f8) : Value) := (blk_cell BY.out 8).trans rfl; have p9 : _ = some ((.slice A9 x.f9.length c9) : Value) := (blk_cell BX.out 9).trans rfl; have q9 : _ = some ((.slice B9 y.f9.length d9) : Value) := (blk_cell BY.out 9).trans rfl; have p10 : _ = some ((.slice A10 x.f10.length c10) : Value) := (blk_cell BX.out 10).trans rfl; have q10 : _ = some ((.slice B10 y.f10.length d10) : Value) := (blk_cell BY.out 10).trans rfl; clear hb) | (go_at_call 8; (with_reducible refine (fx _ [.string x.f0, .string x.f1, .slice A2 x.f2.length c2, .slice A3 x.f3.length c3, .slice A4 x.f4.length c4, .slice A5 x.f5.length c5, .slice A6 x.f6.length c6, .slice A7 x.f7.length c7, .string x.f8, .slice A9 x.f9.length c9, .slice A10 x.f10.length c10] (k30_mk _ x lc2 (Kd.C_below gc2 HB.out) lc3 (Kd.C_below gc3 HB.out) lc4 (Kd.C_below gc4 HB.out) lc5 (Kd.C_below gc5 HB.out) lc6 (Kd.C_below gc6 HB.out) lc7 (Kd.C_below gc7 HB.out) lc9 (Kd.C_below gc9 HB.out) lc10 (Kd.C_below gc10 HB.out))).mono ?_); rintro e w1 ⟨rfl, hb⟩; have n0_ := mk0 (below_then HB.out HB.out.size hb); have n1_ := mk0 (blk_below BX.out hb); have n2_ := mk0 (blk_below BY.out hb); clear HB BX BY; (try clear p0 q0); (try clear p1 q1); (try clear p2 q2); (try clear p3 q3); (try clear p4 q4); (try clear p5 q5); (try clear p6 q6); (try clear p7 q7); (try clear p8 q8); (try clear p9 q9); (try clear p10 q10); have HB := n0_; have BX := n1_; have BY := n2_; clear n0_ n1_ n2_; have p0 : _ = some ((.string x.f0) : Value) := (blk_cell BX.out 0).trans rfl; have q0 : _ = some ((.string y.f0) : Value) := (blk_cell BY.out 0).trans rfl; have p1 : _ = some ((.string x.f1) : Value) := (blk_cell BX.out 1).trans rfl; have q1 : _ = some ((.string y.f1) : Value) := (blk_cell BY.out 1).trans rfl; have p2 : _ = some ((.slice A2 x.f2.length c2) : Value) := (blk_cell BX.out 2).trans rfl; have q2 : _ = some ((.slice B2 y.f2.length d2) : Value) := (blk_cell BY.out 2).trans rfl; have p3 : _ = some ((.slice A3 x.f3.length c3) : Value) := (blk_cell BX.out 3).trans rfl; have q3 : _ = some ((.slice B3 y.f3.length d3) : Value) := (blk_cell BY.out 3).trans rfl; have p4 : _ = some ((.slice A4 x.f4.length c4) : Value) := (blk_cell BX.out 4).trans rfl; have q4 : _ = some ((.slice B4 y.f4.length d4) : Value) := (blk_cell BY.out 4).trans rfl; have p5 : _ = some ((.slice A5 x.f5.length c5) : Value) := (blk_cell BX.out 5).trans rfl; have q5 : _ = some ((.slice B5 y.f5.length d5) : Value) := (blk_cell BY.out 5).trans rfl; have p6 : _ = some ((.slice A6 x.f6.length c6) : Value) := (blk_cell BX.out 6).trans rfl; have q6 : _ = some ((.slice B6 y.f6.length d6) : Value) := (blk_cell BY.out 6).trans rfl; have p7 : _ = some ((.slice A7 x.f7.length c7) : Value) := (blk_cell BX.out 7).trans rfl; have q7 : _ = some ((.slice B7 y.f7.length d7) : Value) := (blk_cell BY.out 7).trans rfl; have p8 : _ = some ((.string x.f8) : Value) := (blk_cell BX.out 8).trans rfl; have q8 : _ = some ((.string y.f8) : Value) := (blk_cell BY.out 8).trans rfl; have p9 : _ = some ((.slice A9 x.f9.length c9) : Value) := (blk_cell BX.out 9).trans rfl; have q9 : _ = some ((.slice B9 y.f9.length d9) : Value) := (blk_cell BY.out 9).trans rfl; have p10 : _ = some ((.slice A10 x.f10.length c10) : Value) := (blk_cell BX.out 10).trans rfl; have q10 : _ = some ((.slice B10 y.f10.length d10) : Value) := (blk_cell BY.out 10).trans rfl; clear hb) | (go_at_call 8; (with_reducible refine (fy _ [.string y.f0, .string y.f1, .slice B2 y.f2.length d2, .slice B3 y.f3.length d3, .slice B4 y.f4.length d4, .slice B5 y.f5.length d5, .slice B6 y.f6.length d6, .slice B7 y.f7.length d7, .string y.f8, .slice B9 y.f9.length d9, .slice B10 y.f10.length d10] (k30_mk _ y ld2 (Kd.C_below gd2 HB.out) ld3 (Kd.C_below gd3 HB.out) ld4 (Kd.C_below gd4 HB.out) ld5 (Kd.C_below gd5 HB.out) ld6 (Kd.C_below gd6 HB.out) ld7 (Kd.C_below gd7 HB.out) ld9 (Kd.C_below gd9 HB.out) ld10 (Kd.C_below gd10 HB.out))).mono ?_); rintro e w1 ⟨rfl, hb⟩; have n0_ := mk0 (below_then HB.out HB.out.size hb); have n1_ := mk0 (blk_below BX.out hb); have n2_ := mk0 (blk_below BY.out hb); clear HB BX BY; (try clear p0 q0); (try clear p1 q1); (try clear p2 q2); (try clear p3 q3); (try clear p4 q4); (try clear p5 q5); (try clear p6 q6); (try clear p7 q7); (try clear p8 q8); (try clear p9 q9); (try clear p10 q10); have HB := n0_; have BX := n1_; have BY := n2_; clear n0_ n1_ n2_; have p0 : _ = some ((.string x.f0) : Value) := (blk_cell BX.out 0).trans rfl; have q0 : _ = some ((.string y.f0) : Value) := (blk_cell BY.out 0).trans rfl; have p1 : _ = some ((.string x.f1) : Value) := (blk_cell BX.out 1).trans rfl; have q1 : _ = some ((.string y.f1) : Value) := (blk_cell BY.out 1).trans rfl; have p2 : _ = some ((.slice A2 x.f2.length c2) : Value) := (blk_cell BX.out 2).trans rfl; have q2 : _ = some ((.slice B2 y.f2.length d2) : Value) := (blk_cell BY.out 2).trans rfl; have p3 : _ = some ((.slice A3 x.f3.length c3) : Value) := (blk_cell BX.out 3).trans rfl; have q3 : _ = some ((.slice B3 y.f3.length d3) : Value) := (blk_cell BY.out 3).trans rfl; have p4 : _ = some ((.slice A4 x.f4.length c4) : Value) := (blk_cell BX.out 4).trans rfl; have q4 : _ = some ((.slice B4 y.f4.length d4) : Value) := (blk_cell BY.out 4).trans rfl; have p5 : _ = some ((.slice A5 x.f5.length c5) : Value) := (blk_cell BX.out 5).trans rfl; have q5 : _ = some ((.slice B5 y.f5.length d5) : Value) := (blk_cell BY.out 5).trans rfl; have p6 : _ = some ((.slice A6 x.f6.length c6) : Value) := (blk_cell BX.out 6).trans rfl; have q6 : _ = some ((.slice B6 y.f6.length d6) : Value) := (blk_cell BY.out 6).trans rfl; have p7 : _ = some ((.slice A7 x.f7.length c7) : Value) := (blk_cell BX.out 7).trans rfl; have q7 : _ = some ((.slice B7 y.f7.length d7) : Value) := (blk_cell BY.out 7).trans rfl; have p8 : _ = some ((.string x.f8) : Value) := (blk_cell BX.out 8).trans rfl; have q8 : _ = some ((.string y.f8) : Value) := (blk_cell BY.out 8).trans rfl; have p9 : _ = some ((.slice A9 x.f9.length c9) : Value) := (blk_cell BX.out 9).trans rfl; have q9 : _ = some ((.slice B9 y.f9.length d9) : Value) := (blk_cell BY.out 9).trans rfl; have p10 : _ = some ((.slice A10 x.f10.length c10) : Value) := (blk_cell BX.out 10).trans rfl; have q10 : _ = some ((.slice B10 y.f10.length d10) : Value) := (blk_cell BY.out 10).trans rfl; clear hb))
 clear p0 q0 p1 q1 p2 q2 p3 q3 p4 q4 p5 q5 p6 q6 p7 q7 p8 q8 p9 q9 p10 q10
 have n0_ := mk0 (below_drew1 HB.out)
 have n1_ := mk0 (blk_drew BX.out)
 have n2_ := mk0 (blk_drew BY.out)
 clear HB BX BY
 have HB := n0_
 have BX := n1_
 have BY := n2_
 clear n0_ n1_ n2_
 refine start_ (n := 24) (S := fun w' => w'.cell? ⟨w.heap.size, 0, none⟩ = some (.string x.f0) ∧ w'.cell? ⟨w.heap.size, 1, none⟩ = some (.string x.f1) ∧ w'.cell? ⟨w.heap.size, 2, none⟩ = some (.slice A2 x.f2.length c2) ∧ w'.cell? ⟨w.heap.size, 3, none⟩ = some (.slice A3 x.f3.length c3) ∧ w'.cell? ⟨w.heap.size, 4, none⟩ = some (.slice A4 x.f4.length c4) ∧ w'.cell? ⟨w.heap.size, 5, none⟩ = some (.slice A5 x.f5.length c5) ∧ w'.cell? ⟨w.heap.size, 6, none⟩ = some (.slice A6 x.f6.length c6) ∧ w'.cell? ⟨w.heap.size, 7, none⟩ = some (.slice A7 x.f7.length c7) ∧ w'.cell? ⟨w.heap.size, 8, none⟩ = some (.string x.f8) ∧ w'.cell? ⟨w.heap.size, 9, none⟩ = some (.slice A9 x.f9.length c9) ∧ w'.cell? ⟨w.heap.size, 10, none⟩ = some (.slice A10 x.f10.length c10) ∧ w'.cell? ⟨w.heap.size + 1, 0, none⟩ = some (.string y.f0) ∧ w'.cell? ⟨w.heap.size + 1, 1, none⟩ = some (.string y.f1) ∧ w'.cell? ⟨w.heap.size + 1, 2, none⟩ = some (.slice B2 y.f2.length d2) ∧ w'.cell? ⟨w.heap.size + 1, 3, none⟩ = some (.slice B3 y.f3.length d3) ∧ w'.cell? ⟨w.heap.size + 1, 4, none⟩ = some (.slice B4 y.f4.length d4) ∧ w'.cell? ⟨w.heap.size + 1, 5, none⟩ = some (.slice B5 y.f5.length d5) ∧ w'.cell? ⟨w.heap.size + 1, 6, none⟩ = some (.slice B6 y.f6.length d6) ∧ w'.cell? ⟨w.heap.size + 1, 7, none⟩ = some (.slice B7 y.f7.length d7) ∧ w'.cell? ⟨w.heap.size + 1, 8, none⟩ = some (.string y.f8) ∧ w'.cell? ⟨w.heap.size + 1, 9, none⟩ = some (.slice B9 y.f9.length d9) ∧ w'.cell? ⟨w.heap.size + 1, 10, none⟩ = some (.slice B10 y.f10.length d10)) (ds := []) #[false, false, false, false, false, false, false, false, false, false, false, false, false, false, false, false, false, false, false, false, false, false, false, false] (by kernel_rfl) rfl rfl ⟨(blk_cell BX.out 0).trans rfl, (blk_cell BX.out 1).trans rfl, (blk_cell BX.out 2).trans rfl, (blk_cell BX.out 3).trans rfl, (blk_cell BX.out 4).trans rfl, (blk_cell BX.out 5).trans rfl, (blk_cell BX.out 6).trans rfl, (blk_cell BX.out 7).trans rfl, (blk_cell BX.out 8).trans rfl, (blk_cell BX.out 9).trans rfl, (blk_cell BX.out 10).trans rfl, (blk_cell BY.out 0).trans rfl, (blk_cell BY.out 1).trans rfl, (blk_cell BY.out 2).trans rfl, (blk_cell BY.out 3).trans rfl, (blk_cell BY.out 4).trans rfl, (blk_cell BY.out 5).trans rfl, (blk_cell BY.out 6).trans rfl, (blk_cell BY.out 7).trans rfl, (blk_cell BY.out 8).trans rfl, (blk_cell BY.out 9).trans rfl, (blk_cell BY.out 10).trans rfl⟩ (fun hHeld => ?_)
 refine with_tabW ls_t.tab5 ls_t.bits5 (fun HT_ HW_ => ?_)
 generalize World.drew _ = wq at HB BX BY hHeld ⊢
 refine take_ (i := 0) (N := some 15) (v := ?_) (a' := ?_) #[true, false, false, false, false, false, false, false, false, false, false, false, false, false, false, false, false, false, false, false, false, false, false, false] rfl rfl (take_ofW HT_.out HW_.out (by kernel_rfl)) (fun _ _ _ h => h) (Or.inl ⟨by rfl, ?_⟩) hHeld ?_ ?_
 rotate_left
 · rintro w' ⟨s0, s1, s2, s3, s4, s5, s6, s7, s8, s9, s10, s11, s12, s13, s14, s15, s16, s17, s18, s19, s20, s21⟩
   go_simp
   with_reducible rfl
 rotate_left
 · simp only [Act.put, List.setIfInBounds_toArray, List.set_cons_zero, List.set_cons_succ, i64_w, i32_w]
   rfl
 refine take_ (i := 1) (N := some 16) (v := ?_) (a' := ?_) #[true, true, false, false, false, false, false, false, false, false, false, false, false, false, false, false, false, false, false, false, false, false, false, false] rfl rfl (take_ofW HT_.out HW_.out (by kernel_rfl)) (fun _ _ _ h => h) (Or.inl ⟨by rfl, ?_⟩) hHeld ?_ ?_
 rotate_left
 · rintro w' ⟨s0, s1, s2, s3, s4, s5, s6, s7, s8, s9, s10, s11, s12, s13, s14, s15, s16, s17, s18, s19, s20, s21⟩
   go_simp
   with_reducible rfl
 rotate_left
 · simp only [Act.put, List.setIfInBounds_toArray, List.set_cons_zero, List.set_cons_succ, i64_w, i32_w]
   rfl
 refine take_ (i := 3) (N := some 18) (v := ?_) (a' := ?_) #[true, true, false, true, false, false, false, false, false, false, false, false, false, false, false, false, false, false, false, false, false, false, false, false] rfl rfl (take_ofW HT_.out HW_.out (by kernel_rfl)) (fun _ _ _ h => h) (Or.inl ⟨by rfl, ?_⟩) hHeld ?_ ?_
 rotate_left
 · rintro w' ⟨s0, s1, s2, s3, s4, s5, s6, s7, s8, s9, s10, s11, s12, s13, s14, s15, s16, s17, s18, s19, s20, s21⟩
   go_simp
   with_reducible rfl
 rotate_left
 · simp only [Act.put, List.setIfInBounds_toArray, List.set_cons_zero, List.set_cons_succ, i64_w, i32_w]
   rfl
 refine take_ (i := 4) (N := some 19) (v := ?_) (a' := ?_) #[true, true, false, true, true, false, false, false, false, false, false, false, false, false, false, false, false, false, false, false, false, false, false, false] rfl rfl (take_ofW HT_.out HW_.out (by kernel_rfl)) (fun _ _ _ h => h) (Or.inl ⟨by rfl, ?_⟩) hHeld ?_ ?_
 rotate_left
 · rintro w' ⟨s0, s1, s2, s3, s4, s5, s6, s7, s8, s9, s10, s11, s12, s13, s14, s15, s16, s17, s18, s19, s20, s21⟩
   go_simp
   with_reducible rfl
 rotate_left
 · simp only [Act.put, List.setIfInBounds_toArray, List.set_cons_zero, List.set_cons_succ, i64_w, i32_w]
   rfl
 refine one_ (i := 2) (N := some 17) #[true, true, true, true, true, false, false, false, false, false, false, false, false, false, false, false, false, false, false, false, false, false, false, false] rfl rfl (one_of HT_.out (by kernel_rfl)) (by decide) (fun K hK => ?_)
 refine goes_ Try.func13 (by kernel_rfl) rfl #[.agg #[.string x.f0, .string x.f1, .slice A2 x.f2.length c2, .slice A3 x.f3.length c3, .slice A4 x.f4.length c4, .slice A5 x.f5.length c5, .slice A6 x.f6.length c6, .slice A7 x.f7.length c7, .string x.f8, .slice A9 x.f9.length c9, .slice A10 x.f10.length c10], .agg #[.string y.f0, .string y.f1, .slice B2 y.f2.length d2, .slice B3 y.f3.length d3, .slice B4 y.f4.length d4, .slice B5 y.f5.length d5, .slice B6 y.f6.length d6, .slice B7 y.f7.length d7, .string y.f8, .slice B9 y.f9.length d9, .slice B10 y.f10.length d10]] (by rfl) rfl rfl (by (try simp only [List.map_toArray, List.map_cons, List.map_nil]); first | done | rfl) ?_
 refine (fs _ [.string x.f0, .string x.f1, .slice A2 x.f2.length c2, .slice A3 x.f3.length c3, .slice A4 x.f4.length c4, .slice A5 x.f5.length c5, .slice A6 x.f6.length c6, .slice A7 x.f7.length c7, .string x.f8, .slice A9 x.f9.length c9, .slice A10 x.f10.length c10] [.string y.f0, .string y.f1, .slice B2 y.f2.length d2, .slice B3 y.f3.length d3, .slice B4 y.f4.length d4, .slice B5 y.f5.length d5, .slice B6 y.f6.length d6, .slice B7 y.f7.length d7, .string y.f8, .slice B9 y.f9.length d9, .slice B10 y.f10.length d10] (k30_mk _ x lc2 (Kd.C_below gc2 HB.out) lc3 (Kd.C_below gc3 HB.out) lc4 (Kd.C_below gc4 HB.out) lc5 (Kd.C_below gc5 HB.out) lc6 (Kd.C_below gc6 HB.out) lc7 (Kd.C_below gc7 HB.out) lc9 (Kd.C_below gc9 HB.out) lc10 (Kd.C_below gc10 HB.out)) (k30_mk _ y ld2 (Kd.C_below gd2 HB.out) ld3 (Kd.C_below gd3 HB.out) ld4 (Kd.C_below gd4 HB.out) ld5 (Kd.C_below gd5 HB.out) ld6 (Kd.C_below gd6 HB.out) ld7 (Kd.C_below gd7 HB.out) ld9 (Kd.C_below gd9 HB.out) ld10 (Kd.C_below gd10 HB.out))).mono ?_
 rintro e wq ⟨rfl, hb⟩
 refine ⟨_, rfl, ?_⟩
 have n0_ := mk0 (below_then HB.out HB.out.size hb)
 have n1_ := mk0 (blk_below BX.out hb)
 have n2_ := mk0 (blk_below BY.out hb)
 clear HB BX BY
 have HB := n0_
 have BX := n1_
 have BY := n2_
 clear n0_ n1_ n2_
 clear hb
 refine hK.out _ _ ⟨(blk_cell BX.out 0).trans rfl, (blk_cell BX.out 1).trans rfl, (blk_cell BX.out 2).trans rfl, (blk_cell BX.out 3).trans rfl, (blk_cell BX.out 4).trans rfl, (blk_cell BX.out 5).trans rfl, (blk_cell BX.out 6).trans rfl, (blk_cell BX.out 7).trans rfl, (blk_cell BX.out 8).trans rfl, (blk_cell BX.out 9).trans rfl, (blk_cell BX.out 10).trans rfl, (blk_cell BY.out 0).trans rfl, (blk_cell BY.out 1).trans rfl, (blk_cell BY.out 2).trans rfl, (blk_cell BY.out 3).trans rfl, (blk_cell BY.out 4).trans rfl, (blk_cell BY.out 5).trans rfl, (blk_cell BY.out 6).trans rfl, (blk_cell BY.out 7).trans rfl, (blk_cell BY.out 8).trans rfl, (blk_cell BY.out 9).trans rfl, (blk_cell BY.out 10).trans rfl⟩ (fun hHeld => ?_)
 clear hK K
 refine norm_ (a' := ?_) ?_ ?_
 rotate_left
 · show Act.put _ (some 17) _ = _
   simp only [Act.put, List.setIfInBounds_toArray, List.set_cons_zero, List.set_cons_succ, i64_w, i32_w]
   rfl
 refine one_ (i := 5) (N := some 20) #[true, true, true, true, true, true, false, false, false, false, false, false, false, false, false, false, false, false, false, false, false, false, false, false] rfl rfl (one_of HT_.out (by kernel_rfl)) (by decide) (fun K hK => ?_)
 refine goes_ Try.func14 (by kernel_rfl) rfl #[.agg #[.string x.f0, .string x.f1, .slice A2 x.f2.length c2, .slice A3 x.f3.length c3, .slice A4 x.f4.length c4, .slice A5 x.f5.length c5, .slice A6 x.f6.length c6, .slice A7 x.f7.length c7, .string x.f8, .slice A9 x.f9.length c9, .slice A10 x.f10.length c10], .agg #[.string y.f0, .string y.f1, .slice B2 y.f2.length d2, .slice B3 y.f3.length d3, .slice B4 y.f4.length d4, .slice B5 y.f5.length d5, .slice B6 y.f6.length d6, .slice B7 y.f7.length d7, .string y.f8, .slice B9 y.f9.length d9, .slice B10 y.f10.length d10]] (by rfl) rfl rfl (by (try simp only [List.map_toArray, List.map_cons, List.map_nil]); first | done | rfl) ?_
 refine (fr _ [.string x.f0, .string x.f1, .slice A2 x.f2.length c2, .slice A3 x.f3.length c3, .slice A4 x.f4.length c4, .slice A5 x.f5.length c5, .slice A6 x.f6.length c6, .slice A7 x.f7.length c7, .string x.f8, .slice A9 x.f9.length c9, .slice A10 x.f10.length c10] [.string y.f0, .string y.f1, .slice B2 y.f2.length d2, .slice B3 y.f3.length d3, .slice B4 y.f4.length d4, .slice B5 y.f5.length d5, .slice B6 y.f6.length d6, .slice B7 y.f7.length d7, .string y.f8, .slice B9 y.f9.length d9, .slice B10 y.f10.length d10] (k30_mk _ x lc2 (Kd.C_below gc2 HB.out) lc3 (Kd.C_below gc3 HB.out) lc4 (Kd.C_below gc4 HB.out) lc5 (Kd.C_below gc5 HB.out) lc6 (Kd.C_below gc6 HB.out) lc7 (Kd.C_below gc7 HB.out) lc9 (Kd.C_below gc9 HB.out) lc10 (Kd.C_below gc10 HB.out)) (k30_mk _ y ld2 (Kd.C_below gd2 HB.out) ld3 (Kd.C_below gd3 HB.out) ld4 (Kd.C_below gd4 HB.out) ld5 (Kd.C_below gd5 HB.out) ld6 (Kd.C_below gd6 HB.out) ld7 (Kd.C_below gd7 HB.out) ld9 (Kd.C_below gd9 HB.out) ld10 (Kd.C_below gd10 HB.out))).mono ?_
 rintro e wq ⟨rfl, hb⟩
 refine ⟨_, rfl, ?_⟩
 have n0_ := mk0 (below_then HB.out HB.out.size hb)
 have n1_ := mk0 (blk_below BX.out hb)
 have n2_ := mk0 (blk_below BY.out hb)
 clear HB BX BY
 have HB := n0_
 have BX := n1_
 have BY := n2_
 clear n0_ n1_ n2_
 clear hb
 refine hK.out _ _ ⟨(blk_cell BX.out 0).trans rfl, (blk_cell BX.out 1).trans rfl, (blk_cell BX.out 2).trans rfl, (blk_cell BX.out 3).trans rfl, (blk_cell BX.out 4).trans rfl, (blk_cell BX.out 5).trans rfl, (blk_cell BX.out 6).trans rfl, (blk_cell BX.out 7).trans rfl, (blk_cell BX.out 8).trans rfl, (blk_cell BX.out 9).trans rfl, (blk_cell BX.out 10).trans rfl, (blk_cell BY.out 0).trans rfl, (blk_cell BY.out 1).trans rfl, (blk_cell BY.out 2).trans rfl, (blk_cell BY.out 3).trans rfl, (blk_cell BY.out 4).trans rfl, (blk_cell BY.out 5).trans rfl, (blk_cell BY.out 6).trans rfl, (blk_cell BY.out 7).trans rfl, (blk_cell BY.out 8).trans rfl, (blk_cell BY.out 9).trans rfl, (blk_cell BY.out 10).trans rfl⟩ (fun hHeld => ?_)
 clear hK K
 refine norm_ (a' := ?_) ?_ ?_
 rotate_left
 · show Act.put _ (some 20) _ = _
   simp only [Act.put, List.setIfInBounds_toArray, List.set_cons_zero, List.set_cons_succ, i64_w, i32_w]
   rfl
 refine pure_ (i := 6) (N := some 21) (v := .bool true) (a' := ?_) #[true, true, true, true, true, true, true, false, false, false, false, false, false, false, false, false, false, false, false, false, false, false, false, false] rfl rfl (any_of HT_.out (by kernel_rfl)) (fun _ _ _ h => h) (Or.inl ⟨by rfl, ?_⟩) ?_ ?_
 · intro w'
   first | (go_simp; done) | (go_simp; simp; done) | (go_simp; rw [hZ]) | (go_simp; rw [← hZ]) | (go_simp; simp [hZ])
 rotate_left
 · simp only [Act.put, List.setIfInBounds_toArray, List.set_cons_zero, List.set_cons_succ, i64_w, i32_w]
   rfl
 refine pure_ (i := 7) (N := some 22) (v := .bool true) (a' := ?_) #[true, true, true, true, true, true, true, true, false, false, false, false, false, false, false, false, false, false, false, false, false, false, false, false] rfl rfl (any_of HT_.out (by kernel_rfl)) (fun _ _ _ h => h) (Or.inl ⟨by rfl, ?_⟩) ?_ ?_
 · intro w'
   first | (go_simp; done) | (go_simp; simp; done) | (go_simp; rw [hZ]) | (go_simp; rw [← hZ]) | (go_simp; simp [hZ])
 rotate_left
 · simp only [Act.put, List.setIfInBounds_toArray, List.set_cons_zero, List.set_cons_succ, i64_w, i32_w]
   rfl
 refine take_ (i := 8) (N := some 23) (v := ?_) (a' := ?_) #[true, true, true, true, true, true, true, true, true, false, false, false, false, false, false, false, false, false, false, false, false, false, false, false] rfl rfl (take_ofW HT_.out HW_.out (by kernel_rfl)) (fun _ _ _ h => h) (Or.inl ⟨by rfl, ?_⟩) hHeld ?_ ?_
 rotate_left
 · rintro w' ⟨s0, s1, s2, s3, s4, s5, s6, s7, s8, s9, s10, s11, s12, s13, s14, s15, s16, s17, s18, s19, s20, s21⟩
   go_simp
   with_reducible rfl
 rotate_left
 · simp only [Act.put, List.setIfInBounds_toArray, List.set_cons_zero, List.set_cons_succ, i64_w, i32_w]
   rfl
 refine take_ (i := 10) (N := some 25) (v := ?_) (a' := ?_) #[true, true, true, true, true, true, true, true, true, false, true, false, false, false, false, false, false, false, false, false, false, false, false, false] rfl rfl (take_ofW HT_.out HW_.out (by kernel_rfl)) (fun _ _ _ h => h) (Or.inl ⟨by rfl, ?_⟩) hHeld ?_ ?_
 rotate_left
 · rintro w' ⟨s0, s1, s2, s3, s4, s5, s6, s7, s8, s9, s10, s11, s12, s13, s14, s15, s16, s17, s18, s19, s20, s21⟩
   go_simp
   with_reducible rfl
 rotate_left
 · simp only [Act.put, List.setIfInBounds_toArray, List.set_cons_zero, List.set_cons_succ, i64_w, i32_w]
   rfl
 refine one_ (i := 9) (N := some 24) #[true, true, true, true, true, true, true, true, true, true, true, false, false, false, false, false, false, false, false, false, false, false, false, false] rfl rfl (one_of HT_.out (by kernel_rfl)) (by decide) (fun K hK => ?_)
 refine goes_ Try.func10 (by kernel_rfl) rfl #[.agg #[.string x.f0, .string x.f1, .slice A2 x.f2.length c2, .slice A3 x.f3.length c3, .slice A4 x.f4.length c4, .slice A5 x.f5.length c5, .slice A6 x.f6.length c6, .slice A7 x.f7.length c7, .string x.f8, .slice A9 x.f9.length c9, .slice A10 x.f10.length c10]] (by rfl) rfl rfl (by (try simp only [List.map_toArray, List.map_cons, List.map_nil]); first | done | rfl) ?_
 refine (fd _ [.string x.f0, .string x.f1, .slice A2 x.f2.length c2, .slice A3 x.f3.length c3, .slice A4 x.f4.length c4, .slice A5 x.f5.length c5, .slice A6 x.f6.length c6, .slice A7 x.f7.length c7, .string x.f8, .slice A9 x.f9.length c9, .slice A10 x.f10.length c10] (k30_mk _ x lc2 (Kd.C_below gc2 HB.out) lc3 (Kd.C_below gc3 HB.out) lc4 (Kd.C_below gc4 HB.out) lc5 (Kd.C_below gc5 HB.out) lc6 (Kd.C_below gc6 HB.out) lc7 (Kd.C_below gc7 HB.out) lc9 (Kd.C_below gc9 HB.out) lc10 (Kd.C_below gc10 HB.out))).mono ?_
 rintro e wq ⟨rfl, hb⟩
 refine ⟨_, rfl, ?_⟩
 have n0_ := mk0 (below_then HB.out HB.out.size hb)
 have n1_ := mk0 (blk_below BX.out hb)
 have n2_ := mk0 (blk_below BY.out hb)
 clear HB BX BY
 have HB := n0_
 have BX := n1_
 have BY := n2_
 clear n0_ n1_ n2_
 clear hb
 refine hK.out _ _ ⟨(blk_cell BX.out 0).trans rfl, (blk_cell BX.out 1).trans rfl, (blk_cell BX.out 2).trans rfl, (blk_cell BX.out 3).trans rfl, (blk_cell BX.out 4).trans rfl, (blk_cell BX.out 5).trans rfl, (blk_cell BX.out 6).trans rfl, (blk_cell BX.out 7).trans rfl, (blk_cell BX.out 8).trans rfl, (blk_cell BX.out 9).trans rfl, (blk_cell BX.out 10).trans rfl, (blk_cell BY.out 0).trans rfl, (blk_cell BY.out 1).trans rfl, (blk_cell BY.out 2).trans rfl, (blk_cell BY.out 3).trans rfl, (blk_cell BY.out 4).trans rfl, (blk_cell BY.out 5).trans rfl, (blk_cell BY.out 6).trans rfl, (blk_cell BY.out 7).trans rfl, (blk_cell BY.out 8).trans rfl, (blk_cell BY.out 9).trans rfl, (blk_cell BY.out 10).trans rfl⟩ (fun hHeld => ?_)
 clear hK K
 refine norm_ (a' := ?_) ?_ ?_
 rotate_left
 · show Act.put _ (some 24) _ = _
   simp only [Act.put, List.setIfInBounds_toArray, List.set_cons_zero, List.set_cons_succ, i64_w, i32_w]
   rfl
 refine one_ (i := 11) (N := some 26) #[true, true, true, true, true, true, true, true, true, true, true, true, false, false, false, false, false, false, false, false, false, false, false, false] rfl rfl (one_of HT_.out (by kernel_rfl)) (by decide) (fun K hK => ?_)
 refine goes_ Try.func9 (by kernel_rfl) rfl #[.agg #[.string x.f0, .string x.f1, .slice A2 x.f2.length c2, .slice A3 x.f3.length c3, .slice A4 x.f4.length c4, .slice A5 x.f5.length c5, .slice A6 x.f6.length c6, .slice A7 x.f7.length c7, .string x.f8, .slice A9 x.f9.length c9, .slice A10 x.f10.length c10]] (by rfl) rfl rfl (by (try simp only [List.map_toArray, List.map_cons, List.map_nil]); first | done | rfl) ?_
 refine (fe _ [.string x.f0, .string x.f1, .slice A2 x.f2.length c2, .slice A3 x.f3.length c3, .slice A4 x.f4.length c4, .slice A5 x.f5.length c5, .slice A6 x.f6.length c6, .slice A7 x.f7.length c7, .string x.f8, .slice A9 x.f9.length c9, .slice A10 x.f10.length c10] (k30_mk _ x lc2 (Kd.C_below gc2 HB.out) lc3 (Kd.C_below gc3 HB.out) lc4 (Kd.C_below gc4 HB.out) lc5 (Kd.C_below gc5 HB.out) lc6 (Kd.C_below gc6 HB.out) lc7 (Kd.C_below gc7 HB.out) lc9 (Kd.C_below gc9 HB.out) lc10 (Kd.C_below gc10 HB.out))).mono ?_
 rintro e wq ⟨rfl, hb⟩
 refine ⟨_, rfl, ?_⟩
 have n0_ := mk0 (below_then HB.out HB.out.size hb)
 have n1_ := mk0 (blk_below BX.out hb)
 have n2_ := mk0 (blk_below BY.out hb)
 clear HB BX BY
 have HB := n0_
 have BX := n1_
 have BY := n2_
 clear n0_ n1_ n2_
 clear hb
 refine hK.out _ _ ⟨(blk_cell BX.out 0).trans rfl, (blk_cell BX.out 1).trans rfl, (blk_cell BX.out 2).trans rfl, (blk_cell BX.out 3).trans rfl, (blk_cell BX.out 4).trans rfl, (blk_cell BX.out 5).trans rfl, (blk_cell BX.out 6).trans rfl, (blk_cell BX.out 7).trans rfl, (blk_cell BX.out 8).trans rfl, (blk_cell BX.out 9).trans rfl, (blk_cell BX.out 10).trans rfl, (blk_cell BY.out 0).trans rfl, (blk_cell BY.out 1).trans rfl, (blk_cell BY.out 2).trans rfl, (blk_cell BY.out 3).trans rfl, (blk_cell BY.out 4).trans rfl, (blk_cell BY.out 5).trans rfl, (blk_cell BY.out 6).trans rfl, (blk_cell BY.out 7).trans rfl, (blk_cell BY.out 8).trans rfl, (blk_cell BY.out 9).trans rfl, (blk_cell BY.out 10).trans rfl⟩ (fun hHeld => ?_)
 clear hK K
 refine norm_ (a' := ?_) ?_ ?_
 rotate_left
 · show Act.put _ (some 26) _ = _
   simp only [Act.put, List.setIfInBounds_toArray, List.set_cons_zero, List.set_cons_succ, i64_w, i32_w]
   rfl
 refine pure_ (i := 12) (N := some 27) (v := .bool true) (a' := ?_) #[true, true, true, true, true, true, true, true, true, true, true, true, true, false, false, false, false, false, false, false, false, false, false, false] rfl rfl (any_of HT_.out (by kernel_rfl)) (fun _ _ _ h => h) (Or.inl ⟨by rfl, ?_⟩) ?_ ?_
 · intro w'
   first | (go_simp; done) | (go_simp; simp; done) | (go_simp; rw [hZ]) | (go_simp; rw [← hZ]) | (go_simp; simp [hZ])
 rotate_left
 · simp only [Act.put, List.setIfInBounds_toArray, List.set_cons_zero, List.set_cons_succ, i64_w, i32_w]
   rfl
 refine pure_ (i := 13) (N := some 28) (v := .bool true) (a' := ?_) #[true, true, true, true, true, true, true, true, true, true, true, true, true, true, false, false, false, false, false, false, false, false, false, false] rfl rfl (any_of HT_.out (by kernel_rfl)) (fun _ _ _ h => h) (Or.inl ⟨by rfl, ?_⟩) ?_ ?_
 · intro w'
   first | (go_simp; done) | (go_simp; simp; done) | (go_simp; rw [hZ]) | (go_simp; rw [← hZ]) | (go_simp; simp [hZ])
 rotate_left
 · simp only [Act.put, List.setIfInBounds_toArray, List.set_cons_zero, List.set_cons_succ, i64_w, i32_w]
   rfl
 refine pure_ (i := 14) (N := some 29) (v := .bool true) (a' := ?_) #[true, true, true, true, true, true, true, true, true, true, true, true, true, true, true, false, false, false, false, false, false, false, false, false] rfl rfl (any_of HT_.out (by kernel_rfl)) (fun _ _ _ h => h) (Or.inl ⟨by rfl, ?_⟩) ?_ ?_
 · intro w'
   first | (go_simp; done) | (go_simp; simp; done) | (go_simp; rw [hZ]) | (go_simp; rw [← hZ]) | (go_simp; simp [hZ])
 rotate_left
 · simp only [Act.put, List.setIfInBounds_toArray, List.set_cons_zero, List.set_cons_succ, i64_w, i32_w]
   rfl
 refine take_ (i := 15) (N := some 30) (v := ?_) (a' := ?_) #[true, true, true, true, true, true, true, true, true, true, true, true, true, true, true, true, false, false, false, false, false, false, false, false] rfl rfl (take_ofW HT_.out HW_.out (by kernel_rfl)) (fun _ _ _ h => h) (Or.inl ⟨by rfl, ?_⟩) hHeld ?_ ?_
 rotate_left
 · rintro w' ⟨s0, s1, s2, s3, s4, s5, s6, s7, s8, s9, s10, s11, s12, s13, s14, s15, s16, s17, s18, s19, s20, s21⟩
   go_simp
   with_reducible rfl
 rotate_left
 · simp only [Act.put, List.setIfInBounds_toArray, List.set_cons_zero, List.set_cons_succ, i64_w, i32_w]
   rfl
 refine take_ (i := 16) (N := some 31) (v := ?_) (a' := ?_) #[true, true, true, true, true, true, true, true, true, true, true, true, true, true, true, true, true, false, false, false, false, false, false, false] rfl rfl (take_ofW HT_.out HW_.out (by kernel_rfl)) (fun _ _ _ h => h) (Or.inl ⟨by rfl, ?_⟩) hHeld ?_ ?_
 rotate_left
 · rintro w' ⟨s0, s1, s2, s3, s4, s5, s6, s7, s8, s9, s10, s11, s12, s13, s14, s15, s16, s17, s18, s19, s20, s21⟩
   go_simp
   with_reducible rfl
 rotate_left
 · simp only [Act.put, List.setIfInBounds_toArray, List.set_cons_zero, List.set_cons_succ, i64_w, i32_w]
   rfl
 refine take_ (i := 18) (N := some 33) (v := ?_) (a' := ?_) #[true, true, true, true, true, true, true, true, true, true, true, true, true, true, true, true, true, false, true, false, false, false, false, false] rfl rfl (take_ofW HT_.out HW_.out (by kernel_rfl)) (fun _ _ _ h => h) (Or.inl ⟨by rfl, ?_⟩) hHeld ?_ ?_
 rotate_left
 · rintro w' ⟨s0, s1, s2, s3, s4, s5, s6, s7, s8, s9, s10, s11, s12, s13, s14, s15, s16, s17, s18, s19, s20, s21⟩
   go_simp
   with_reducible rfl
 rotate_left
 · simp only [Act.put, List.setIfInBounds_toArray, List.set_cons_zero, List.set_cons_succ, i64_w, i32_w]
   rfl
 refine one_ (i := 17) (N := some 32) #[true, true, true, true, true, true, true, true, true, true, true, true, true, true, true, true, true, true, true, false, false, false, false, false] rfl rfl (one_of HT_.out (by kernel_rfl)) (by decide) (fun K hK => ?_)
 refine goes_ Try.func13 (by kernel_rfl) rfl #[.agg #[.string x.f0, .string x.f1, .slice A2 x.f2.length c2, .slice A3 x.f3.length c3, .slice A4 x.f4.length c4, .slice A5 x.f5.length c5, .slice A6 x.f6.length c6, .slice A7 x.f7.length c7, .string x.f8, .slice A9 x.f9.length c9, .slice A10 x.f10.length c10], .agg #[.string x.f0, .string x.f1, .slice A2 x.f2.length c2, .slice A3 x.f3.length c3, .slice A4 x.f4.length c4, .slice A5 x.f5.length c5, .slice A6 x.f6.length c6, .slice A7 x.f7.length c7, .string x.f8, .slice A9 x.f9.length c9, .slice A10 x.f10.length c10]] (by rfl) rfl rfl (by (try simp only [List.map_toArray, List.map_cons, List.map_nil]); first | done | rfl) ?_
 refine (fz _ [.string x.f0, .string x.f1, .slice A2 x.f2.length c2, .slice A3 x.f3.length c3, .slice A4 x.f4.length c4, .slice A5 x.f5.length c5, .slice A6 x.f6.length c6, .slice A7 x.f7.length c7, .string x.f8, .slice A9 x.f9.length c9, .slice A10 x.f10.length c10] [.string x.f0, .string x.f1, .slice A2 x.f2.length c2, .slice A3 x.f3.length c3, .slice A4 x.f4.length c4, .slice A5 x.f5.length c5, .slice A6 x.f6.length c6, .slice A7 x.f7.length c7, .string x.f8, .slice A9 x.f9.length c9, .slice A10 x.f10.length c10] (k30_mk _ x lc2 (Kd.C_below gc2 HB.out) lc3 (Kd.C_below gc3 HB.out) lc4 (Kd.C_below gc4 HB.out) lc5 (Kd.C_below gc5 HB.out) lc6 (Kd.C_below gc6 HB.out) lc7 (Kd.C_below gc7 HB.out) lc9 (Kd.C_below gc9 HB.out) lc10 (Kd.C_below gc10 HB.out)) (k30_mk _ x lc2 (Kd.C_below gc2 HB.out) lc3 (Kd.C_below gc3 HB.out) lc4 (Kd.C_below gc4 HB.out) lc5 (Kd.C_below gc5 HB.out) lc6 (Kd.C_below gc6 HB.out) lc7 (Kd.C_below gc7 HB.out) lc9 (Kd.C_below gc9 HB.out) lc10 (Kd.C_below gc10 HB.out))).mono ?_
 rintro e wq ⟨rfl, hb⟩
 refine ⟨_, rfl, ?_⟩
 have n0_ := mk0 (below_then HB.out HB.out.size hb)
 have n1_ := mk0 (blk_below BX.out hb)
 have n2_ := mk0 (blk_below BY.out hb)
 clear HB BX BY
 have HB := n0_
 have BX := n1_
 have BY := n2_
 clear n0_ n1_ n2_
 clear hb
 refine hK.out _ _ ⟨(blk_cell BX.out 0).trans rfl, (blk_cell BX.out 1).trans rfl, (blk_cell BX.out 2).trans rfl, (blk_cell BX.out 3).trans rfl, (blk_cell BX.out 4).trans rfl, (blk_cell BX.out 5).trans rfl, (blk_cell BX.out 6).trans rfl, (blk_cell BX.out 7).trans rfl, (blk_cell BX.out 8).trans rfl, (blk_cell BX.out 9).trans rfl, (blk_cell BX.out 10).trans rfl, (blk_cell BY.out 0).trans rfl, (blk_cell BY.out 1).trans rfl, (blk_cell BY.out 2).trans rfl, (blk_cell BY.out 3).trans rfl, (blk_cell BY.out 4).trans rfl, (blk_cell BY.out 5).trans rfl, (blk_cell BY.out 6).trans rfl, (blk_cell BY.out 7).trans rfl, (blk_cell BY.out 8).trans rfl, (blk_cell BY.out 9).trans rfl, (blk_cell BY.out 10).trans rfl⟩ (fun hHeld => ?_)
 clear hK K
 refine norm_ (a' := ?_) ?_ ?_
 rotate_left
 · show Act.put _ (some 32) _ = _
   simp only [Act.put, List.setIfInBounds_toArray, List.set_cons_zero, List.set_cons_succ, i64_w, i32_w]
   rfl
 refine one_ (i := 19) (N := some 34) #[true, true, true, true, true, true, true, true, true, true, true, true, true, true, true, true, true, true, true, true, false, false, false, false] rfl rfl (one_of HT_.out (by kernel_rfl)) (by decide) (fun K hK => ?_)
 refine goes_ Try.func9 (by kernel_rfl) rfl #[.agg #[.string x.f0, .string x.f1, .slice A2 x.f2.length c2, .slice A3 x.f3.length c3, .slice A4 x.f4.length c4, .slice A5 x.f5.length c5, .slice A6 x.f6.length c6, .slice A7 x.f7.length c7, .string x.f8, .slice A9 x.f9.length c9, .slice A10 x.f10.length c10]] (by rfl) rfl rfl (by (try simp only [List.map_toArray, List.map_cons, List.map_nil]); first | done | rfl) ?_
 refine (fe _ [.string x.f0, .string x.f1, .slice A2 x.f2.length c2, .slice A3 x.f3.length c3, .slice A4 x.f4.length c4, .slice A5 x.f5.length c5, .slice A6 x.f6.length c6, .slice A7 x.f7.length c7, .string x.f8, .slice A9 x.f9.length c9, .slice A10 x.f10.length c10] (k30_mk _ x lc2 (Kd.C_below gc2 HB.out) lc3 (Kd.C_below gc3 HB.out) lc4 (Kd.C_below gc4 HB.out) lc5 (Kd.C_below gc5 HB.out) lc6 (Kd.C_below gc6 HB.out) lc7 (Kd.C_below gc7 HB.out) lc9 (Kd.C_below gc9 HB.out) lc10 (Kd.C_below gc10 HB.out))).mono ?_
 rintro e wq ⟨rfl, hb⟩
 refine ⟨_, rfl, ?_⟩
 have n0_ := mk0 (below_then HB.out HB.out.size hb)
 have n1_ := mk0 (blk_below BX.out hb)
 have n2_ := mk0 (blk_below BY.out hb)
 clear HB BX BY
 have HB := n0_
 have BX := n1_
 have BY := n2_
 clear n0_ n1_ n2_
 clear hb
 refine hK.out _ _ ⟨(blk_cell BX.out 0).trans rfl, (blk_cell BX.out 1).trans rfl, (blk_cell BX.out 2).trans rfl, (blk_cell BX.out 3).trans rfl, (blk_cell BX.out 4).trans rfl, (blk_cell BX.out 5).trans rfl, (blk_cell BX.out 6).trans rfl, (blk_cell BX.out 7).trans rfl, (blk_cell BX.out 8).trans rfl, (blk_cell BX.out 9).trans rfl, (blk_cell BX.out 10).trans rfl, (blk_cell BY.out 0).trans rfl, (blk_cell BY.out 1).trans rfl, (blk_cell BY.out 2).trans rfl, (blk_cell BY.out 3).trans rfl, (blk_cell BY.out 4).trans rfl, (blk_cell BY.out 5).trans rfl, (blk_cell BY.out 6).trans rfl, (blk_cell BY.out 7).trans rfl, (blk_cell BY.out 8).trans rfl, (blk_cell BY.out 9).trans rfl, (blk_cell BY.out 10).trans rfl⟩ (fun hHeld => ?_)
 clear hK K
 refine norm_ (a' := ?_) ?_ ?_
 rotate_left
 · show Act.put _ (some 34) _ = _
   simp only [Act.put, List.setIfInBounds_toArray, List.set_cons_zero, List.set_cons_succ, i64_w, i32_w]
   rfl
 refine pure_ (i := 20) (N := some 35) (v := .bool Z) (a' := ?_) #[true, true, true, true, true, true, true, true, true, true, true, true, true, true, true, true, true, true, true, true, true, false, false, false] rfl rfl (any_of HT_.out (by kernel_rfl)) (fun _ _ _ h => h) (Or.inl ⟨by rfl, ?_⟩) ?_ ?_
 · intro w'
   first | (go_simp; done) | (go_simp; simp; done) | (go_simp; rw [hZ]) | (go_simp; rw [← hZ]) | (go_simp; simp [hZ])
 rotate_left
 · simp only [Act.put, List.setIfInBounds_toArray, List.set_cons_zero, List.set_cons_succ, i64_w, i32_w]
   rfl
 refine pure_ (i := 21) (N := some 36) (v := .bool true) (a' := ?_) #[true, true, true, true, true, true, true, true, true, true, true, true, true, true, true, true, true, true, true, true, true, true, false, false] rfl rfl (any_of HT_.out (by kernel_rfl)) (fun _ _ _ h => h) (Or.inl ⟨by rfl, ?_⟩) ?_ ?_
 · intro w'
   first | (go_simp; done) | (go_simp; simp; done) | (go_simp; rw [hZ]) | (go_simp; rw [← hZ]) | (go_simp; simp [hZ])
 rotate_left
 · simp only [Act.put, List.setIfInBounds_toArray, List.set_cons_zero, List.set_cons_succ, i64_w, i32_w]
   rfl
 refine pure_ (i := 22) (N := some 37) (v := .bool true) (a' := ?_) #[true, true, true, true, true, true, true, true, true, true, true, true, true, true, true, true, true, true, true, true, true, true, true, false] rfl rfl (any_of HT_.out (by kernel_rfl)) (fun _ _ _ h => h) (Or.inl ⟨by rfl, ?_⟩) ?_ ?_
 · intro w'
   first | (go_simp; done) | (go_simp; simp; done) | (go_simp; rw [hZ]) | (go_simp; rw [← hZ]) | (go_simp; simp [hZ])
 rotate_left
 · simp only [Act.put, List.setIfInBounds_toArray, List.set_cons_zero, List.set_cons_succ, i64_w, i32_w]
   rfl
 refine pure_ (i := 23) (N := some 4) (v := .bool true) (a' := ?_) #[true, true, true, true, true, true, true, true, true, true, true, true, true, true, true, true, true, true, true, true, true, true, true, true] rfl rfl (any_of HT_.out (by kernel_rfl)) (fun _ _ _ h => h) (Or.inl ⟨by rfl, ?_⟩) ?_ ?_
 · intro w'
   first | (go_simp; done) | (go_simp; simp; done) | (go_simp; rw [hZ]) | (go_simp; rw [← hZ]) | (go_simp; simp [hZ])
 rotate_left
 · simp only [Act.put, List.setIfInBounds_toArray, List.set_cons_zero, List.set_cons_succ, i64_w, i32_w]
   rfl
 refine done_ (done_of HT_.out (by kernel_rfl)) ?_
 go_wp2
 go_ret
 exact ⟨rfl, HB.out⟩
end Go.Proofs.Yticnihfjnjliiaa.R1
