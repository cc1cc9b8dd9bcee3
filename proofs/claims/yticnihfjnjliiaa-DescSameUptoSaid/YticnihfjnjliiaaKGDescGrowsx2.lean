/- Written by gprint.py of this session: the kit's printer, with functions that are proved by hand put in. -/
import Derived.Test.YticnihfjnjliiaaKGDescGrowsx0
import Derived.Test.YticnihfjnjliiaaKGDescGrowsx1
namespace Go.Proofs.Yticnihfjnjliiaa.GDescGrows
open Go.Proofs.Yticnihfjnjliiaa.Pt
open Go.RowKit Go.Proofs.YticnihfjnjliiaaW.PrintWords Go.Proofs.YticnihfjnjliiaaW.PrintLast Go.Proofs.YticnihfjnjliiaaW.PrintMore
attribute [local go_sem] max2_int min2_int max_two min_two max_three min_three max_four min_four
set_option linter.unusedVariables false
set_option linter.unusedSimpArgs false
set_option maxHeartbeats 4000000 in
theorem aw_c56e (gp : Nat) (n : Int) (w : World) : Calls Try.prog 56 #[.pointer (some ⟨gp, 0, none⟩), .int .i64 n, .string ⟨#[]⟩] w fun e w' => e = .returned (.tuple #[]) ∧ Below w.heap.size w w' := by
 have HB := mk0 (Below.refl w.heap.size w)
 go_enter Try.func56, Try.ntmps56
 go_wp2
 go_end0
 exact ⟨rfl, (by repeat (first | (with_reducible first | exact HB.out | apply below_alloc | apply pw_below_drewN | apply below_drew1) | exact HB.out))⟩
set_option maxHeartbeats 4000000 in
theorem aw_c57e (gp : Nat) (n : Int) (w : World) : Calls Try.prog 57 #[.pointer (some ⟨gp, 0, none⟩), .int .i64 n, .slice none 0 0, .func (.func 58) #[] #[]] w fun e w' => e = .returned (.tuple #[]) ∧ Below w.heap.size w w' := by
 have HB := mk0 (Below.refl w.heap.size w)
 go_enter Try.func57, Try.ntmps57
 go_wp2
 refine wp_loop_rounds 1 ?_
 rw [rounds_succ]
 go_wp2
 go_end0
 exact ⟨rfl, (by repeat (first | (with_reducible first | exact HB.out | apply below_alloc | apply pw_below_drewN | apply below_drew1) | exact HB.out))⟩
set_option maxHeartbeats 4000000 in
theorem aw_c59e (gp : Nat) (n : Int) (w : World) : Calls Try.prog 59 #[.pointer (some ⟨gp, 0, none⟩), .int .i64 n, .slice none 0 0, .func (.func 60) #[] #[]] w fun e w' => e = .returned (.tuple #[]) ∧ Below w.heap.size w w' := by
 have HB := mk0 (Below.refl w.heap.size w)
 go_enter Try.func59, Try.ntmps59
 go_wp2
 refine wp_loop_rounds 1 ?_
 rw [rounds_succ]
 go_wp2
 go_end0
 exact ⟨rfl, (by repeat (first | (with_reducible first | exact HB.out | apply below_alloc | apply pw_below_drewN | apply below_drew1) | exact HB.out))⟩
set_option maxHeartbeats 4000000 in
theorem aw_c61e (gp : Nat) (n : Int) (w : World) : Calls Try.prog 61 #[.pointer (some ⟨gp, 0, none⟩), .int .i64 n, .slice none 0 0, .func (.func 62) #[] #[]] w fun e w' => e = .returned (.tuple #[]) ∧ Below w.heap.size w w' := by
 have HB := mk0 (Below.refl w.heap.size w)
 go_enter Try.func61, Try.ntmps61
 go_wp2
 refine wp_loop_rounds 1 ?_
 rw [rounds_succ]
 go_wp2
 go_end0
 exact ⟨rfl, (by repeat (first | (with_reducible first | exact HB.out | apply below_alloc | apply pw_below_drewN | apply below_drew1) | exact HB.out))⟩
set_option maxHeartbeats 4000000 in
theorem aw_c63e (gp : Nat) (n : Int) (w : World) : Calls Try.prog 63 #[.pointer (some ⟨gp, 0, none⟩), .int .i64 n, .slice none 0 0, .func (.func 64) #[] #[]] w fun e w' => e = .returned (.tuple #[]) ∧ Below w.heap.size w w' := by
 have HB := mk0 (Below.refl w.heap.size w)
 go_enter Try.func63, Try.ntmps63
 go_wp2
 refine wp_loop_rounds 1 ?_
 rw [rounds_succ]
 go_wp2
 go_end0
 exact ⟨rfl, (by repeat (first | (with_reducible first | exact HB.out | apply below_alloc | apply pw_below_drewN | apply below_drew1) | exact HB.out))⟩
set_option maxHeartbeats 4000000 in
theorem aw_c65e (gp : Nat) (n : Int) (w : World) : Calls Try.prog 65 #[.pointer (some ⟨gp, 0, none⟩), .int .i64 n, .slice none 0 0, .func (.func 66) #[] #[]] w fun e w' => e = .returned (.tuple #[]) ∧ Below w.heap.size w w' := by
 have HB := mk0 (Below.refl w.heap.size w)
 go_enter Try.func65, Try.ntmps65
 go_wp2
 refine wp_loop_rounds 1 ?_
 rw [rounds_succ]
 go_wp2
 go_end0
 exact ⟨rfl, (by repeat (first | (with_reducible first | exact HB.out | apply below_alloc | apply pw_below_drewN | apply below_drew1) | exact HB.out))⟩
set_option maxHeartbeats 4000000 in
set_option maxRecDepth 100000 in
theorem aw_c67e (gp : Nat) (n : Int) (w : World) : Calls Try.prog 67 #[.pointer (some ⟨gp, 0, none⟩), .int .i64 n, .slice none 0 0] w fun e w' => e = .returned (.tuple #[]) ∧ Below w.heap.size w w' := by
 have HB := mk0 (Below.refl w.heap.size w)
 have hcv : ∀ w : World, Sem.run Try.prog (convert 28 9 (.slice none 0 0)) w = .ok (.string ⟨#[]⟩) w := fun w => rfl
 go_enter Try.func67, Try.ntmps67
 go_wp2_with (first | (go_at_call 56; refine (aw_c56e gp n _).mono ?_; rintro e w1 ⟨rfl, hb⟩))
 go_end0
 exact ⟨rfl, hb⟩
theorem aw_v10 : varint_Put.f 20 10 = some [10] := by decide +kernel
theorem aw_v1 : varint_Put.f 20 1 = some [1] := by decide +kernel
set_option maxHeartbeats 4000000 in
set_option maxRecDepth 100000 in
theorem aw_kind2 (w : World) : Calls Try.prog 90 #[.int .i64 2] w fun e w' => w' = w ∧ e = .returned (.tuple #[.int .i64 0, .bool true]) := by
 go_enter Try.func90, Try.ntmps90
 go_wp2
 refine bodyPost_ret (results_tmp2 rfl _ _ _) rfl ?_
 exact ⟨rfl, rfl⟩
set_option maxHeartbeats 4000000 in
set_option maxRecDepth 100000 in
theorem aw_wput (A : Option Addr) (c : Nat) (w : World) (hr : Kd.C (Kd.int .u8) w A ([97] : List Int).length [97]) (hc : ([97] : List Int).length ≤ c) :
 Calls Try.prog 69 #[.agg #[.int .i64 1, .int .i64 2, .int .u64 0, .slice A 1 c]] w fun e w' => ∃ v0_ : Value, e = .returned (.tuple #[v0_, .int .i64 0]) ∧ Kd.R (Kd.int .u8) 5 w' w.heap.size (fun _ => True) v0_ [10, 1, 97] ∧ Below w.heap.size w w' := by
 have HB := mk0 (Below.refl w.heap.size w)
 have HC := mk0 hr
 have hor : Go.bits .or .u64 8 2 = 10 := by decide +kernel
 go_enter Try.func69, Try.ntmps69
 go_wp2_with (first | (go_at_call 90; refine (aw_kind2 _).mono ?_; rintro e w1 ⟨hw_, he⟩; subst hw_; subst he) | (go_at_call 91; (with_reducible refine (varint_Put.calls 20 10 [10] _ aw_v10).mono ?_); rintro e w1 ⟨v1, rfl, ho, hb⟩; obtain ⟨A1, c1, e1⟩ := Kd.R_slice ho; subst e1; have HB1 := mk0 (below_then HB.out HB.out.size (below_then (below_alloc (Below.refl w.heap.size w) _) (below_alloc (Below.refl w.heap.size w) _).size hb)); have HR1 := mk0 (Kd.R_lower ho (below_alloc (Below.refl w.heap.size w) _).size); have HC1 := mk0 (Kd.C_below (Kd.C_below HC.out (below_alloc (Below.refl w.heap.size w) _)) hb); have BX := mk0 (blk_below (blk_new w _) hb); have s0_ : _ = some ((.int .i64 1) : Value) := (blk_cell BX.out 0).trans rfl; have s1_ : _ = some ((.int .i64 2) : Value) := (blk_cell BX.out 1).trans rfl; have s3_ : _ = some ((.slice A 1 c) : Value) := (blk_cell BX.out 3).trans rfl; clear ho hb) | (go_at_call 91; (with_reducible refine (varint_Put.calls 20 1 [1] _ aw_v1).mono ?_); rintro e w1 ⟨v1, rfl, ho, hb⟩; obtain ⟨A2, c2, e2⟩ := Kd.R_slice ho; subst e2; have HB2 := mk0 (below_then HB1.out HB1.out.size hb); have HR2 := mk0 (Kd.R_below HR1.out hb); have HC2 := mk0 (Kd.C_below HC1.out hb); have HV := mk0 (Kd.R_reads' ho).2.2; have BX2 := mk0 (blk_below BX.out hb); have s3_ : _ = some ((.slice A 1 c) : Value) := (blk_cell BX2.out 3).trans rfl; clear ho hb) | ((with_reducible refine gate_builtin (b := .append) (xs := #[.tmp 34, .tmp 39]) rfl ?_); (try (refine gate_guard (by rfl) ?_; dsimp only)); at_builtin; refine Kd.R_append_rows (Kd.int .u8) (w0 := w) w.heap.size (by rfl) (.tmp 34) (.tmp 39) 28 5 (.int .u8 0) 1 rfl Try.underlying28 info5 rfl (by decide) (by omega) _ [10] [1] _ _ _ (fun _ => True) (fun _ => False) rfl rfl HR2.out HV.out (fun _ _ h => h) (fun _ h => h.elim) (fun _ _ => trivial) HB2.out HB2.out.size (by decide) ?_; intro v2 w2 ho2 hb2 hg2 hat2; have BX3 := mk0 (blk_grown BX2.out hg2 (Kd.R_ne HR2.out BX2.out (by decide))); obtain ⟨A3, c3, ex_⟩ := Kd.R_slice ho2; subst ex_; have HB3 := mk0 hb2; have HR3 := mk0 ho2; have s3_ : _ = some ((.slice A 1 c) : Value) := (blk_cell BX3.out 3).trans rfl; clear ho2 hb2 hg2 hat2) | ((with_reducible refine gate_builtin (b := .append) (xs := #[.tmp 41, .tmp 43]) rfl ?_); (try (refine gate_guard (by rfl) ?_; dsimp only)); at_builtin; refine Kd.R_append_rows (Kd.int .u8) (w0 := w) w.heap.size (by rfl) (.tmp 41) (.tmp 43) 28 5 (.int .u8 0) 1 rfl Try.underlying28 info5 rfl (by decide) (by omega) _ [10, 1] [97] _ _ _ (fun _ => True) (fun _ => False) rfl rfl HR3.out (Kd.C_below HC.out HB3.out) (fun _ _ h => h) (fun _ h => h.elim) (fun _ _ => trivial) HB3.out HB3.out.size (by decide) ?_; intro v2 w2 ho2 hb2 hg2 hat2; have BX4 := mk0 (blk_grown BX3.out hg2 (Kd.R_ne HR3.out BX3.out (by decide))); obtain ⟨A4, c4, ex_⟩ := Kd.R_slice ho2; subst ex_; have HB4 := mk0 hb2; have HR4 := mk0 ho2; clear ho2 hb2 hg2 hat2))
 refine bodyPost_ret (results_tmp2 rfl _ _ _) rfl ?_
 exact ⟨_, rfl, HR4.out, HB4.out⟩
set_option maxHeartbeats 4000000 in
set_option maxRecDepth 100000 in
theorem aw_c39a (gp : Nat) (A : Option Addr) (c : Nat) (w0 w : World) (hB : Below w0.heap.size w0 w) (hg : w0.heap.size ≤ gp) (hp : w.heap[gp]? = some (.cells #[.slice none 0 0] 50 (0, 0))) (hr : Kd.C (Kd.int .u8) w A 1 [97]) (hc : 1 ≤ c) :
 Calls Try.prog 39 #[.pointer (some ⟨gp, 0, none⟩), .agg #[.int .i64 1, .int .i64 2, .int .u64 0, .slice A 1 c]] w fun e w' => e = .returned (.tuple #[]) ∧ ∃ v, w'.heap[gp]? = some (.cells #[v] 50 (0, 0)) ∧ Kd.R (Kd.int .u8) 5 w' w.heap.size (fun _ => True) v [10, 1, 97] ∧ KeepBut w w' gp none ∧ Below w0.heap.size w0 w' := by
 have HP := mk0 hp
 have HR := mk0 hr
 have HB0 := mk0 hB
 have HB := mk0 (Below.refl w.heap.size w)
 go_enter Try.func39, Try.ntmps39
 go_wp2_with (first | (go_at_call 69; refine (aw_wput A c _ (Kd.C_alloc hr _) hc).mono ?_; rintro e w1 ⟨v0, rfl, ho, hb⟩; obtain ⟨Ao, co, eo⟩ := Kd.R_slice ho; subst eo; have n0_ := mk0 (below_step (by repeat (first | (with_reducible first | exact HB.out | apply below_alloc | apply pw_below_drewN | apply below_drew1) | exact HB.out)) hb); clear HB; have HB := n0_; clear n0_; have HP1 := mk0 (blk_below (blk_alloc hp _) hb); have hcz := (blk_cell HP1.out 0).trans rfl; have hfz := blk_frozen HP1.out 0) | ((with_reducible refine gate_builtin (b := .append) (xs := #[.tmp 15, .tmp 16]) rfl ?_); (try (refine gate_guard (by rfl) ?_; dsimp only)); at_builtin; refine Kd.R_append_rows (Kd.int .u8) (w0 := w) w.heap.size rfl (.tmp 15) (.tmp 16) 28 5 (.int .u8 0) 1 rfl Try.underlying28 (show (Try.prog.info? 5).map (fun i => (i.zero, i.size, i.bytes)) = some (some (.int .u8 0), 1, 1) from by kernel_rfl) rfl (by decide) (by omega) (.slice none 0 0) ([] : List Int) [10, 1, 97] _ _ _ (fun _ => True) (fun _ => False) rfl rfl ?aO ?aR (fun _ _ h => h) (fun _ h => h.elim) ?aF ?aB ?aS ?aL ?_; (case aR => exact (Kd.R_reads' ho).2.2); (case aB => exact HB.out); (case aF => exact fun _ _ => trivial); (case aO => exact Kd.R_nil _ _ _ _ _); (case aS => exact below_size HB.out); (case aL => decide); intro v w2 ho2 hb2 hg2 hat2; obtain ⟨Ap, cp, ep⟩ := Kd.R_slice ho2; subst ep; have HP2 := mk0 (blk_grown HP1.out hg2 (by simp [Value.ownBlock])); have hcz2 := (blk_cell HP2.out 0).trans rfl; have hfz2 := blk_frozen HP2.out 0))
 go_end0
 refine ⟨rfl, .slice Ap 3 cp, blk_put HP2.out 0 _ rfl, ?_, ?_, ?_⟩
 · exact Kd.R_mono (Kd.R_far (p := ⟨gp, 0, none⟩) (Kd.R_types ho2 HP2.out (by decide)) (fun _ hk => hk.2) _) (fun _ _ => trivial)
 · exact (KeepBut.of_below hb2 gp none).set_ 0 _
 · exact below_set (below_then HB0.out HB0.out.size hb2) hg
theorem aw_conv_a (w : World) : ∃ w' c, Sem.run Try.prog (convert 9 28 (.string ⟨#[97]⟩)) w = .ok (.slice (some ⟨w.heap.size, 0, none⟩) 1 c) w' ∧ Below w.heap.size w w' ∧ Kd.C (Kd.int .u8) w' (some ⟨w.heap.size, 0, none⟩) 1 [97] ∧ 1 ≤ c := by
 refine ⟨Go.Lib.bytesWorld w 5 ⟨#[97]⟩, grownCap w 1 0 5, Go.Lib.run_convert_string_bytes w 9 28 5 ⟨#[97]⟩ Try.underlying9 Try.underlying28 Try.underlying5, ⟨rfl, rfl, rfl, ?_, fun k hk => Go.Lib.bytesWorld_at_old w 5 _ k hk⟩, ⟨rfl, by decide, fun _ => ⟨_, rfl, fun j p hj => ?_⟩⟩, grownCap_ge w 1 0 5⟩
 · rw [Go.Lib.bytesWorld_size]; exact Nat.le_succ _
 · match j, hj with
   | 0, hj =>
    obtain rfl : (97 : Int) = p := Option.some.inj hj
    refine ⟨[.int .u8 97], rfl, rfl, fun i u hi => ?_⟩
    match i, hi with
    | 0, hi =>
     obtain rfl : Value.int .u8 97 = u := Option.some.inj hi
     exact Go.Lib.bytesWorld_cell w 5 ⟨#[97]⟩ 0 (by decide)
    | i + 1, hi => exact absurd hi (by simp)
   | j + 1, hj => exact absurd hj (by simp)
set_option maxHeartbeats 4000000 in
set_option maxRecDepth 100000 in
theorem aw_c19a (gp : Nat) (A : Option Addr) (c : Nat) (w0 w : World) (hB : Below w0.heap.size w0 w) (hg : w0.heap.size ≤ gp) (hp : w.heap[gp]? = some (.cells #[.slice none 0 0] 50 (0, 0))) (hr : Kd.C (Kd.int .u8) w A 1 [97]) (hc : 1 ≤ c) :
 Calls Try.prog 19 #[.pointer (some ⟨gp, 0, none⟩), .int .i64 1, .slice A 1 c] w fun e w' => e = .returned (.tuple #[]) ∧ ∃ v, w'.heap[gp]? = some (.cells #[v] 50 (0, 0)) ∧ Kd.R (Kd.int .u8) 5 w' w.heap.size (fun _ => True) v [10, 1, 97] ∧ KeepBut w w' gp none ∧ Below w0.heap.size w0 w' := by
 go_enter Try.func19, Try.ntmps19
 go_wp2_with (first | (go_at_call 39; refine (aw_c39a gp A c w0 _ hB hg hp hr hc).mono ?_; rintro e w1 ⟨rfl, v, h1, h2, h3, h4⟩))
 go_end0
 exact ⟨rfl, v, h1, h2, h3, h4⟩
set_option maxHeartbeats 4000000 in
set_option maxRecDepth 100000 in
theorem aw_c56a (gp : Nat) (w0 w : World) (hB : Below w0.heap.size w0 w) (hg : w0.heap.size ≤ gp) (hp : w.heap[gp]? = some (.cells #[.slice none 0 0] 50 (0, 0))) :
 Calls Try.prog 56 #[.pointer (some ⟨gp, 0, none⟩), .int .i64 1, .string ⟨#[97]⟩] w fun e w' => e = .returned (.tuple #[]) ∧ ∃ v, w'.heap[gp]? = some (.cells #[v] 50 (0, 0)) ∧ Kd.R (Kd.int .u8) 5 w' w.heap.size (fun _ => True) v [10, 1, 97] ∧ KeepBut w w' gp none ∧ Below w0.heap.size w0 w' := by
 obtain ⟨w1, c, hcv, hb, hC, hc⟩ := aw_conv_a w
 go_enter Try.func56, Try.ntmps56
 go_wp2_with (first | (go_at_call 19; refine (aw_c19a gp _ c w0 w1 (below_then hB hB.size hb) hg (blk_below hp hb) hC hc).mono ?_; rintro e w2 ⟨rfl, v, h1, h2, h3, h4⟩))
 go_end0
 exact ⟨rfl, v, h1, Kd.R_lower h2 hb.size, (KeepBut.of_below hb gp none).trans h3 (.inl rfl), h4⟩
theorem aw_heap_new_ (w : World) (o : Obj) : (w.alloc o).heap[w.heap.size]? = some o := by simp [World.alloc, -World.alloc_eq]
set_option maxHeartbeats 4000000 in
set_option maxRecDepth 100000 in
theorem aw_c38a (gp : Nat) (w0 w : World) (hB : Below w0.heap.size w0 w) (hg : w0.heap.size ≤ gp) (hp : w.heap[gp]? = some (.cells #[.slice none 0 0] 50 (0, 0))) :
 Calls Try.prog 38 #[.pointer (some ⟨gp, 0, none⟩), .agg #[.string ⟨#[97]⟩, .string ⟨#[]⟩, .slice none 0 0, .slice none 0 0, .slice none 0 0, .slice none 0 0, .slice none 0 0, .slice none 0 0, .string ⟨#[]⟩, .slice none 0 0, .slice none 0 0]] w fun e w' => e = .returned (.tuple #[]) ∧ ∃ v, w'.heap[gp]? = some (.cells #[v] 50 (0, 0)) ∧ Kd.R (Kd.int .u8) 5 w' w.heap.size (fun _ => True) v [10, 1, 97] ∧ Below w0.heap.size w0 w' := by
 go_enter Try.func38, Try.ntmps38
 go_wp2_with (first | (go_at_call 56; (with_reducible refine (aw_c56a gp w0 _ (below_alloc hB _) hg (blk_alloc hp _)).mono ?_); rintro e w1 ⟨rfl, v, h1, h2, h3, h4⟩; obtain ⟨Ao, co, eo⟩ := Kd.R_slice h2; subst eo; have hco : 3 ≤ co := (Kd.R_reads' h2).2.1; obtain ⟨ad, ea, _⟩ := (Kd.R_reads' h2).2.2.2.2 (by decide); subst ea; have BF := mk0 (h3.blk (aw_heap_new_ _ _) (Nat.ne_of_gt (blk_lt hp)) (by simp)); have BP := mk0 h1; have HRv := mk0 (Kd.R_lower h2 (Nat.le_of_lt (by simp [World.alloc, -World.alloc_eq]) : w.heap.size ≤ _)); have HB0 := mk0 h4; clear h1 h2 h3 h4; have hcp : _ = some ((.slice (some ad) 3 co) : Value) := (blk_cell BP.out 0).trans rfl; have hzp := blk_frozen BP.out 0; have hf0 : _ = some ((.string ⟨#[97]⟩) : Value) := (blk_cell BF.out 0).trans rfl; have hz0 := blk_frozen BF.out 0; have hf1 : _ = some ((.string ⟨#[]⟩) : Value) := (blk_cell BF.out 1).trans rfl; have hz1 := blk_frozen BF.out 1; have hf2 : _ = some ((.slice none 0 0) : Value) := (blk_cell BF.out 2).trans rfl; have hz2 := blk_frozen BF.out 2; have hf3 : _ = some ((.slice none 0 0) : Value) := (blk_cell BF.out 3).trans rfl; have hz3 := blk_frozen BF.out 3; have hf4 : _ = some ((.slice none 0 0) : Value) := (blk_cell BF.out 4).trans rfl; have hz4 := blk_frozen BF.out 4; have hf5 : _ = some ((.slice none 0 0) : Value) := (blk_cell BF.out 5).trans rfl; have hz5 := blk_frozen BF.out 5; have hf6 : _ = some ((.slice none 0 0) : Value) := (blk_cell BF.out 6).trans rfl; have hz6 := blk_frozen BF.out 6; have hf7 : _ = some ((.slice none 0 0) : Value) := (blk_cell BF.out 7).trans rfl; have hz7 := blk_frozen BF.out 7; have hf8 : _ = some ((.string ⟨#[]⟩) : Value) := (blk_cell BF.out 8).trans rfl; have hz8 := blk_frozen BF.out 8; have hf9 : _ = some ((.slice none 0 0) : Value) := (blk_cell BF.out 9).trans rfl; have hz9 := blk_frozen BF.out 9; have hf10 : _ = some ((.slice none 0 0) : Value) := (blk_cell BF.out 10).trans rfl; have hz10 := blk_frozen BF.out 10) | (go_at_call 56; (with_reducible refine (aw_c56e gp 2 _).mono ?_); rintro e w2 ⟨rfl, hb⟩; have nF := mk0 (blk_below BF.out hb); have nP := mk0 (blk_below BP.out hb); have nR := mk0 (Kd.R_below HRv.out hb); have nB := mk0 (below_then HB0.out HB0.out.size hb); clear BF BP HRv HB0 hb; (try clear hcp hzp); (try clear hf0 hz0); (try clear hf1 hz1); (try clear hf2 hz2); (try clear hf3 hz3); (try clear hf4 hz4); (try clear hf5 hz5); (try clear hf6 hz6); (try clear hf7 hz7); (try clear hf8 hz8); (try clear hf9 hz9); (try clear hf10 hz10); have BF := nF; have BP := nP; have HRv := nR; have HB0 := nB; clear nF nP nR nB; have hcp : _ = some ((.slice (some ad) 3 co) : Value) := (blk_cell BP.out 0).trans rfl; have hzp := blk_frozen BP.out 0; have hf0 : _ = some ((.string ⟨#[97]⟩) : Value) := (blk_cell BF.out 0).trans rfl; have hz0 := blk_frozen BF.out 0; have hf1 : _ = some ((.string ⟨#[]⟩) : Value) := (blk_cell BF.out 1).trans rfl; have hz1 := blk_frozen BF.out 1; have hf2 : _ = some ((.slice none 0 0) : Value) := (blk_cell BF.out 2).trans rfl; have hz2 := blk_frozen BF.out 2; have hf3 : _ = some ((.slice none 0 0) : Value) := (blk_cell BF.out 3).trans rfl; have hz3 := blk_frozen BF.out 3; have hf4 : _ = some ((.slice none 0 0) : Value) := (blk_cell BF.out 4).trans rfl; have hz4 := blk_frozen BF.out 4; have hf5 : _ = some ((.slice none 0 0) : Value) := (blk_cell BF.out 5).trans rfl; have hz5 := blk_frozen BF.out 5; have hf6 : _ = some ((.slice none 0 0) : Value) := (blk_cell BF.out 6).trans rfl; have hz6 := blk_frozen BF.out 6; have hf7 : _ = some ((.slice none 0 0) : Value) := (blk_cell BF.out 7).trans rfl; have hz7 := blk_frozen BF.out 7; have hf8 : _ = some ((.string ⟨#[]⟩) : Value) := (blk_cell BF.out 8).trans rfl; have hz8 := blk_frozen BF.out 8; have hf9 : _ = some ((.slice none 0 0) : Value) := (blk_cell BF.out 9).trans rfl; have hz9 := blk_frozen BF.out 9; have hf10 : _ = some ((.slice none 0 0) : Value) := (blk_cell BF.out 10).trans rfl; have hz10 := blk_frozen BF.out 10) | (go_at_call 57; (with_reducible refine (aw_c57e gp 3 _).mono ?_); rintro e w2 ⟨rfl, hb⟩; have nF := mk0 (blk_below BF.out hb); have nP := mk0 (blk_below BP.out hb); have nR := mk0 (Kd.R_below HRv.out hb); have nB := mk0 (below_then HB0.out HB0.out.size hb); clear BF BP HRv HB0 hb; (try clear hcp hzp); (try clear hf0 hz0); (try clear hf1 hz1); (try clear hf2 hz2); (try clear hf3 hz3); (try clear hf4 hz4); (try clear hf5 hz5); (try clear hf6 hz6); (try clear hf7 hz7); (try clear hf8 hz8); (try clear hf9 hz9); (try clear hf10 hz10); have BF := nF; have BP := nP; have HRv := nR; have HB0 := nB; clear nF nP nR nB; have hcp : _ = some ((.slice (some ad) 3 co) : Value) := (blk_cell BP.out 0).trans rfl; have hzp := blk_frozen BP.out 0; have hf0 : _ = some ((.string ⟨#[97]⟩) : Value) := (blk_cell BF.out 0).trans rfl; have hz0 := blk_frozen BF.out 0; have hf1 : _ = some ((.string ⟨#[]⟩) : Value) := (blk_cell BF.out 1).trans rfl; have hz1 := blk_frozen BF.out 1; have hf2 : _ = some ((.slice none 0 0) : Value) := (blk_cell BF.out 2).trans rfl; have hz2 := blk_frozen BF.out 2; have hf3 : _ = some ((.slice none 0 0) : Value) := (blk_cell BF.out 3).trans rfl; have hz3 := blk_frozen BF.out 3; have hf4 : _ = some ((.slice none 0 0) : Value) := (blk_cell BF.out 4).trans rfl; have hz4 := blk_frozen BF.out 4; have hf5 : _ = some ((.slice none 0 0) : Value) := (blk_cell BF.out 5).trans rfl; have hz5 := blk_frozen BF.out 5; have hf6 : _ = some ((.slice none 0 0) : Value) := (blk_cell BF.out 6).trans rfl; have hz6 := blk_frozen BF.out 6; have hf7 : _ = some ((.slice none 0 0) : Value) := (blk_cell BF.out 7).trans rfl; have hz7 := blk_frozen BF.out 7; have hf8 : _ = some ((.string ⟨#[]⟩) : Value) := (blk_cell BF.out 8).trans rfl; have hz8 := blk_frozen BF.out 8; have hf9 : _ = some ((.slice none 0 0) : Value) := (blk_cell BF.out 9).trans rfl; have hz9 := blk_frozen BF.out 9; have hf10 : _ = some ((.slice none 0 0) : Value) := (blk_cell BF.out 10).trans rfl; have hz10 := blk_frozen BF.out 10) | (go_at_call 59; (with_reducible refine (aw_c59e gp 4 _).mono ?_); rintro e w2 ⟨rfl, hb⟩; have nF := mk0 (blk_below BF.out hb); have nP := mk0 (blk_below BP.out hb); have nR := mk0 (Kd.R_below HRv.out hb); have nB := mk0 (below_then HB0.out HB0.out.size hb); clear BF BP HRv HB0 hb; (try clear hcp hzp); (try clear hf0 hz0); (try clear hf1 hz1); (try clear hf2 hz2); (try clear hf3 hz3); (try clear hf4 hz4); (try clear hf5 hz5); (try clear hf6 hz6); (try clear hf7 hz7); (try clear hf8 hz8); (try clear hf9 hz9); (try clear hf10 hz10); have BF := nF; have BP := nP; have HRv := nR; have HB0 := nB; clear nF nP nR nB; have hcp : _ = some ((.slice (some ad) 3 co) : Value) := (blk_cell BP.out 0).trans rfl; have hzp := blk_frozen BP.out 0; have hf0 : _ = some ((.string ⟨#[97]⟩) : Value) := (blk_cell BF.out 0).trans rfl; have hz0 := blk_frozen BF.out 0; have hf1 : _ = some ((.string ⟨#[]⟩) : Value) := (blk_cell BF.out 1).trans rfl; have hz1 := blk_frozen BF.out 1; have hf2 : _ = some ((.slice none 0 0) : Value) := (blk_cell BF.out 2).trans rfl; have hz2 := blk_frozen BF.out 2; have hf3 : _ = some ((.slice none 0 0) : Value) := (blk_cell BF.out 3).trans rfl; have hz3 := blk_frozen BF.out 3; have hf4 : _ = some ((.slice none 0 0) : Value) := (blk_cell BF.out 4).trans rfl; have hz4 := blk_frozen BF.out 4; have hf5 : _ = some ((.slice none 0 0) : Value) := (blk_cell BF.out 5).trans rfl; have hz5 := blk_frozen BF.out 5; have hf6 : _ = some ((.slice none 0 0) : Value) := (blk_cell BF.out 6).trans rfl; have hz6 := blk_frozen BF.out 6; have hf7 : _ = some ((.slice none 0 0) : Value) := (blk_cell BF.out 7).trans rfl; have hz7 := blk_frozen BF.out 7; have hf8 : _ = some ((.string ⟨#[]⟩) : Value) := (blk_cell BF.out 8).trans rfl; have hz8 := blk_frozen BF.out 8; have hf9 : _ = some ((.slice none 0 0) : Value) := (blk_cell BF.out 9).trans rfl; have hz9 := blk_frozen BF.out 9; have hf10 : _ = some ((.slice none 0 0) : Value) := (blk_cell BF.out 10).trans rfl; have hz10 := blk_frozen BF.out 10) | (go_at_call 61; (with_reducible refine (aw_c61e gp 5 _).mono ?_); rintro e w2 ⟨rfl, hb⟩; have nF := mk0 (blk_below BF.out hb); have nP := mk0 (blk_below BP.out hb); have nR := mk0 (Kd.R_below HRv.out hb); have nB := mk0 (below_then HB0.out HB0.out.size hb); clear BF BP HRv HB0 hb; (try clear hcp hzp); (try clear hf0 hz0); (try clear hf1 hz1); (try clear hf2 hz2); (try clear hf3 hz3); (try clear hf4 hz4); (try clear hf5 hz5); (try clear hf6 hz6); (try clear hf7 hz7); (try clear hf8 hz8); (try clear hf9 hz9); (try clear hf10 hz10); have BF := nF; have BP := nP; have HRv := nR; have HB0 := nB; clear nF nP nR nB; have hcp : _ = some ((.slice (some ad) 3 co) : Value) := (blk_cell BP.out 0).trans rfl; have hzp := blk_frozen BP.out 0; have hf0 : _ = some ((.string ⟨#[97]⟩) : Value) := (blk_cell BF.out 0).trans rfl; have hz0 := blk_frozen BF.out 0; have hf1 : _ = some ((.string ⟨#[]⟩) : Value) := (blk_cell BF.out 1).trans rfl; have hz1 := blk_frozen BF.out 1; have hf2 : _ = some ((.slice none 0 0) : Value) := (blk_cell BF.out 2).trans rfl; have hz2 := blk_frozen BF.out 2; have hf3 : _ = some ((.slice none 0 0) : Value) := (blk_cell BF.out 3).trans rfl; have hz3 := blk_frozen BF.out 3; have hf4 : _ = some ((.slice none 0 0) : Value) := (blk_cell BF.out 4).trans rfl; have hz4 := blk_frozen BF.out 4; have hf5 : _ = some ((.slice none 0 0) : Value) := (blk_cell BF.out 5).trans rfl; have hz5 := blk_frozen BF.out 5; have hf6 : _ = some ((.slice none 0 0) : Value) := (blk_cell BF.out 6).trans rfl; have hz6 := blk_frozen BF.out 6; have hf7 : _ = some ((.slice none 0 0) : Value) := (blk_cell BF.out 7).trans rfl; have hz7 := blk_frozen BF.out 7; have hf8 : _ = some ((.string ⟨#[]⟩) : Value) := (blk_cell BF.out 8).trans rfl; have hz8 := blk_frozen BF.out 8; have hf9 : _ = some ((.slice none 0 0) : Value) := (blk_cell BF.out 9).trans rfl; have hz9 := blk_frozen BF.out 9; have hf10 : _ = some ((.slice none 0 0) : Value) := (blk_cell BF.out 10).trans rfl; have hz10 := blk_frozen BF.out 10) | (go_at_call 63; (with_reducible refine (aw_c63e gp 6 _).mono ?_); rintro e w2 ⟨rfl, hb⟩; have nF := mk0 (blk_below BF.out hb); have nP := mk0 (blk_below BP.out hb); have nR := mk0 (Kd.R_below HRv.out hb); have nB := mk0 (below_then HB0.out HB0.out.size hb); clear BF BP HRv HB0 hb; (try clear hcp hzp); (try clear hf0 hz0); (try clear hf1 hz1); (try clear hf2 hz2); (try clear hf3 hz3); (try clear hf4 hz4); (try clear hf5 hz5); (try clear hf6 hz6); (try clear hf7 hz7); (try clear hf8 hz8); (try clear hf9 hz9); (try clear hf10 hz10); have BF := nF; have BP := nP; have HRv := nR; have HB0 := nB; clear nF nP nR nB; have hcp : _ = some ((.slice (some ad) 3 co) : Value) := (blk_cell BP.out 0).trans rfl; have hzp := blk_frozen BP.out 0; have hf0 : _ = some ((.string ⟨#[97]⟩) : Value) := (blk_cell BF.out 0).trans rfl; have hz0 := blk_frozen BF.out 0; have hf1 : _ = some ((.string ⟨#[]⟩) : Value) := (blk_cell BF.out 1).trans rfl; have hz1 := blk_frozen BF.out 1; have hf2 : _ = some ((.slice none 0 0) : Value) := (blk_cell BF.out 2).trans rfl; have hz2 := blk_frozen BF.out 2; have hf3 : _ = some ((.slice none 0 0) : Value) := (blk_cell BF.out 3).trans rfl; have hz3 := blk_frozen BF.out 3; have hf4 : _ = some ((.slice none 0 0) : Value) := (blk_cell BF.out 4).trans rfl; have hz4 := blk_frozen BF.out 4; have hf5 : _ = some ((.slice none 0 0) : Value) := (blk_cell BF.out 5).trans rfl; have hz5 := blk_frozen BF.out 5; have hf6 : _ = some ((.slice none 0 0) : Value) := (blk_cell BF.out 6).trans rfl; have hz6 := blk_frozen BF.out 6; have hf7 : _ = some ((.slice none 0 0) : Value) := (blk_cell BF.out 7).trans rfl; have hz7 := blk_frozen BF.out 7; have hf8 : _ = some ((.string ⟨#[]⟩) : Value) := (blk_cell BF.out 8).trans rfl; have hz8 := blk_frozen BF.out 8; have hf9 : _ = some ((.slice none 0 0) : Value) := (blk_cell BF.out 9).trans rfl; have hz9 := blk_frozen BF.out 9; have hf10 : _ = some ((.slice none 0 0) : Value) := (blk_cell BF.out 10).trans rfl; have hz10 := blk_frozen BF.out 10) | (go_at_call 65; (with_reducible refine (aw_c65e gp 7 _).mono ?_); rintro e w2 ⟨rfl, hb⟩; have nF := mk0 (blk_below BF.out hb); have nP := mk0 (blk_below BP.out hb); have nR := mk0 (Kd.R_below HRv.out hb); have nB := mk0 (below_then HB0.out HB0.out.size hb); clear BF BP HRv HB0 hb; (try clear hcp hzp); (try clear hf0 hz0); (try clear hf1 hz1); (try clear hf2 hz2); (try clear hf3 hz3); (try clear hf4 hz4); (try clear hf5 hz5); (try clear hf6 hz6); (try clear hf7 hz7); (try clear hf8 hz8); (try clear hf9 hz9); (try clear hf10 hz10); have BF := nF; have BP := nP; have HRv := nR; have HB0 := nB; clear nF nP nR nB; have hcp : _ = some ((.slice (some ad) 3 co) : Value) := (blk_cell BP.out 0).trans rfl; have hzp := blk_frozen BP.out 0; have hf0 : _ = some ((.string ⟨#[97]⟩) : Value) := (blk_cell BF.out 0).trans rfl; have hz0 := blk_frozen BF.out 0; have hf1 : _ = some ((.string ⟨#[]⟩) : Value) := (blk_cell BF.out 1).trans rfl; have hz1 := blk_frozen BF.out 1; have hf2 : _ = some ((.slice none 0 0) : Value) := (blk_cell BF.out 2).trans rfl; have hz2 := blk_frozen BF.out 2; have hf3 : _ = some ((.slice none 0 0) : Value) := (blk_cell BF.out 3).trans rfl; have hz3 := blk_frozen BF.out 3; have hf4 : _ = some ((.slice none 0 0) : Value) := (blk_cell BF.out 4).trans rfl; have hz4 := blk_frozen BF.out 4; have hf5 : _ = some ((.slice none 0 0) : Value) := (blk_cell BF.out 5).trans rfl; have hz5 := blk_frozen BF.out 5; have hf6 : _ = some ((.slice none 0 0) : Value) := (blk_cell BF.out 6).trans rfl; have hz6 := blk_frozen BF.out 6; have hf7 : _ = some ((.slice none 0 0) : Value) := (blk_cell BF.out 7).trans rfl; have hz7 := blk_frozen BF.out 7; have hf8 : _ = some ((.string ⟨#[]⟩) : Value) := (blk_cell BF.out 8).trans rfl; have hz8 := blk_frozen BF.out 8; have hf9 : _ = some ((.slice none 0 0) : Value) := (blk_cell BF.out 9).trans rfl; have hz9 := blk_frozen BF.out 9; have hf10 : _ = some ((.slice none 0 0) : Value) := (blk_cell BF.out 10).trans rfl; have hz10 := blk_frozen BF.out 10) | (go_at_call 67; (with_reducible refine (aw_c67e gp 8 _).mono ?_); rintro e w2 ⟨rfl, hb⟩; have nF := mk0 (blk_below BF.out hb); have nP := mk0 (blk_below BP.out hb); have nR := mk0 (Kd.R_below HRv.out hb); have nB := mk0 (below_then HB0.out HB0.out.size hb); clear BF BP HRv HB0 hb; (try clear hcp hzp); (try clear hf0 hz0); (try clear hf1 hz1); (try clear hf2 hz2); (try clear hf3 hz3); (try clear hf4 hz4); (try clear hf5 hz5); (try clear hf6 hz6); (try clear hf7 hz7); (try clear hf8 hz8); (try clear hf9 hz9); (try clear hf10 hz10); have BF := nF; have BP := nP; have HRv := nR; have HB0 := nB; clear nF nP nR nB; have hcp : _ = some ((.slice (some ad) 3 co) : Value) := (blk_cell BP.out 0).trans rfl; have hzp := blk_frozen BP.out 0; have hf0 : _ = some ((.string ⟨#[97]⟩) : Value) := (blk_cell BF.out 0).trans rfl; have hz0 := blk_frozen BF.out 0; have hf1 : _ = some ((.string ⟨#[]⟩) : Value) := (blk_cell BF.out 1).trans rfl; have hz1 := blk_frozen BF.out 1; have hf2 : _ = some ((.slice none 0 0) : Value) := (blk_cell BF.out 2).trans rfl; have hz2 := blk_frozen BF.out 2; have hf3 : _ = some ((.slice none 0 0) : Value) := (blk_cell BF.out 3).trans rfl; have hz3 := blk_frozen BF.out 3; have hf4 : _ = some ((.slice none 0 0) : Value) := (blk_cell BF.out 4).trans rfl; have hz4 := blk_frozen BF.out 4; have hf5 : _ = some ((.slice none 0 0) : Value) := (blk_cell BF.out 5).trans rfl; have hz5 := blk_frozen BF.out 5; have hf6 : _ = some ((.slice none 0 0) : Value) := (blk_cell BF.out 6).trans rfl; have hz6 := blk_frozen BF.out 6; have hf7 : _ = some ((.slice none 0 0) : Value) := (blk_cell BF.out 7).trans rfl; have hz7 := blk_frozen BF.out 7; have hf8 : _ = some ((.string ⟨#[]⟩) : Value) := (blk_cell BF.out 8).trans rfl; have hz8 := blk_frozen BF.out 8; have hf9 : _ = some ((.slice none 0 0) : Value) := (blk_cell BF.out 9).trans rfl; have hz9 := blk_frozen BF.out 9; have hf10 : _ = some ((.slice none 0 0) : Value) := (blk_cell BF.out 10).trans rfl; have hz10 := blk_frozen BF.out 10))
 refine wp_loop_rounds 1 ?_
 rw [rounds_succ]
 go_wp2_with (first | (go_at_call 56; (with_reducible refine (aw_c56e gp 12 _).mono ?_); rintro e w2 ⟨rfl, hb⟩; have nF := mk0 (blk_below BF.out hb); have nP := mk0 (blk_below BP.out hb); have nR := mk0 (Kd.R_below HRv.out hb); have nB := mk0 (below_then HB0.out HB0.out.size hb); clear BF BP HRv HB0 hb; (try clear hcp hzp); (try clear hf0 hz0); (try clear hf1 hz1); (try clear hf2 hz2); (try clear hf3 hz3); (try clear hf4 hz4); (try clear hf5 hz5); (try clear hf6 hz6); (try clear hf7 hz7); (try clear hf8 hz8); (try clear hf9 hz9); (try clear hf10 hz10); have BF := nF; have BP := nP; have HRv := nR; have HB0 := nB; clear nF nP nR nB; have hcp : _ = some ((.slice (some ad) 3 co) : Value) := (blk_cell BP.out 0).trans rfl; have hzp := blk_frozen BP.out 0; have hf0 : _ = some ((.string ⟨#[97]⟩) : Value) := (blk_cell BF.out 0).trans rfl; have hz0 := blk_frozen BF.out 0; have hf1 : _ = some ((.string ⟨#[]⟩) : Value) := (blk_cell BF.out 1).trans rfl; have hz1 := blk_frozen BF.out 1; have hf2 : _ = some ((.slice none 0 0) : Value) := (blk_cell BF.out 2).trans rfl; have hz2 := blk_frozen BF.out 2; have hf3 : _ = some ((.slice none 0 0) : Value) := (blk_cell BF.out 3).trans rfl; have hz3 := blk_frozen BF.out 3; have hf4 : _ = some ((.slice none 0 0) : Value) := (blk_cell BF.out 4).trans rfl; have hz4 := blk_frozen BF.out 4; have hf5 : _ = some ((.slice none 0 0) : Value) := (blk_cell BF.out 5).trans rfl; have hz5 := blk_frozen BF.out 5; have hf6 : _ = some ((.slice none 0 0) : Value) := (blk_cell BF.out 6).trans rfl; have hz6 := blk_frozen BF.out 6; have hf7 : _ = some ((.slice none 0 0) : Value) := (blk_cell BF.out 7).trans rfl; have hz7 := blk_frozen BF.out 7; have hf8 : _ = some ((.string ⟨#[]⟩) : Value) := (blk_cell BF.out 8).trans rfl; have hz8 := blk_frozen BF.out 8; have hf9 : _ = some ((.slice none 0 0) : Value) := (blk_cell BF.out 9).trans rfl; have hz9 := blk_frozen BF.out 9; have hf10 : _ = some ((.slice none 0 0) : Value) := (blk_cell BF.out 10).trans rfl; have hz10 := blk_frozen BF.out 10))
 go_region
 go_wp2
 go_end0
 refine ⟨rfl, .slice (some ad) 3 co, ?_, ?_, ?_⟩
 · exact blk_drew (blk_put BP.out 0 _ rfl)
 · exact Kd.R_drew (Kd.R_mono (Kd.R_far (p := ⟨gp, 0, none⟩) (Kd.R_types HRv.out BP.out (by decide)) (fun _ hk => hk.2) _) (fun _ _ => trivial))
 · exact below_drew (below_set HB0.out hg)
set_option maxHeartbeats 4000000 in
set_option maxRecDepth 100000 in
theorem aw_c37a (gp gf : Nat) (w0 w : World) (hB : Below w0.heap.size w0 w) (hg : w0.heap.size ≤ gp) (hp : w.heap[gp]? = some (.cells #[.slice none 0 0] 50 (0, 0))) (hf : w.heap[gf]? = some (.cells #[.string ⟨#[97]⟩, .string ⟨#[]⟩, .slice none 0 0, .slice none 0 0, .slice none 0 0, .slice none 0 0, .slice none 0 0, .slice none 0 0, .string ⟨#[]⟩, .slice none 0 0, .slice none 0 0] 30 (0, 0))) :
 Calls Try.prog 37 #[.pointer (some ⟨gp, 0, none⟩), .pointer (some ⟨gf, 0, none⟩)] w fun e w' => e = .returned (.tuple #[]) ∧ ∃ v, w'.heap[gp]? = some (.cells #[v] 50 (0, 0)) ∧ Kd.R (Kd.int .u8) 5 w' w.heap.size (fun _ => True) v [10, 1, 97] ∧ Below w0.heap.size w0 w' := by
 have hf0 : w.cell? ⟨gf, 0, none⟩ = some (.string ⟨#[97]⟩) := (blk_cell hf 0).trans rfl
 have hz0 := blk_frozen hf 0
 have hf1 : w.cell? ⟨gf, 1, none⟩ = some (.string ⟨#[]⟩) := (blk_cell hf 1).trans rfl
 have hz1 := blk_frozen hf 1
 have hf2 : w.cell? ⟨gf, 2, none⟩ = some (.slice none 0 0) := (blk_cell hf 2).trans rfl
 have hz2 := blk_frozen hf 2
 have hf3 : w.cell? ⟨gf, 3, none⟩ = some (.slice none 0 0) := (blk_cell hf 3).trans rfl
 have hz3 := blk_frozen hf 3
 have hf4 : w.cell? ⟨gf, 4, none⟩ = some (.slice none 0 0) := (blk_cell hf 4).trans rfl
 have hz4 := blk_frozen hf 4
 have hf5 : w.cell? ⟨gf, 5, none⟩ = some (.slice none 0 0) := (blk_cell hf 5).trans rfl
 have hz5 := blk_frozen hf 5
 have hf6 : w.cell? ⟨gf, 6, none⟩ = some (.slice none 0 0) := (blk_cell hf 6).trans rfl
 have hz6 := blk_frozen hf 6
 have hf7 : w.cell? ⟨gf, 7, none⟩ = some (.slice none 0 0) := (blk_cell hf 7).trans rfl
 have hz7 := blk_frozen hf 7
 have hf8 : w.cell? ⟨gf, 8, none⟩ = some (.string ⟨#[]⟩) := (blk_cell hf 8).trans rfl
 have hz8 := blk_frozen hf 8
 have hf9 : w.cell? ⟨gf, 9, none⟩ = some (.slice none 0 0) := (blk_cell hf 9).trans rfl
 have hz9 := blk_frozen hf 9
 have hf10 : w.cell? ⟨gf, 10, none⟩ = some (.slice none 0 0) := (blk_cell hf 10).trans rfl
 have hz10 := blk_frozen hf 10
 go_enter Try.func37, Try.ntmps37
 go_wp2_with (first | (go_at_call 38; (with_reducible refine (aw_c38a gp w0 _ hB hg hp).mono ?_); rintro e w1 ⟨rfl, v, h1, h2, h3⟩))
 go_end0
 exact ⟨rfl, v, h1, h2, h3⟩
set_option maxHeartbeats 4000000 in
set_option maxRecDepth 100000 in
theorem aw_c36a (gf : Nat) (w : World) (hf : w.heap[gf]? = some (.cells #[.string ⟨#[97]⟩, .string ⟨#[]⟩, .slice none 0 0, .slice none 0 0, .slice none 0 0, .slice none 0 0, .slice none 0 0, .slice none 0 0, .string ⟨#[]⟩, .slice none 0 0, .slice none 0 0] 30 (0, 0))) :
 Calls Try.prog 36 #[.func (.func 37) #[] #[.pointer (some ⟨gf, 0, none⟩)]] w fun e w' => ∃ v, e = .returned v ∧ Kd.R (Kd.int .u8) 5 w' w.heap.size (fun _ => True) v [10, 1, 97] ∧ Below w.heap.size w w' := by
 go_enter Try.func36, Try.ntmps36
 go_wp2_with (first | (go_at_call 37; refine (aw_c37a w.heap.size gf w _ (below_alloc (Below.refl _ _) _) (Nat.le_refl _) (aw_heap_new_ _ _) (blk_alloc hf _)).mono ?_; rintro e w1 ⟨rfl, v, h1, h2, h3⟩; obtain ⟨Ao, co, eo⟩ := Kd.R_slice h2; subst eo; have hcp : _ = some ((.slice Ao 3 co) : Value) := (blk_cell h1 0).trans rfl; have hzp := blk_frozen h1 0))
 go_ret
 exact ⟨_, rfl, Kd.R_lower h2 (Nat.le_of_lt (by simp [World.alloc, -World.alloc_eq])), h3⟩
set_option maxHeartbeats 4000000 in
set_option maxRecDepth 100000 in
theorem aw_c18e (q : Nat) (w : World) : Calls Try.prog 18 #[.slice none 0 0, .int .i64 0, .pointer (some ⟨q, 0, none⟩)] w fun e w' => e = .returned (.int .i64 0) ∧ Below w.heap.size w w' := by
 have HB := mk0 (Below.refl w.heap.size w)
 go_enter Try.func18, Try.ntmps18
 go_wp2
 go_ret
 exact ⟨rfl, (by repeat (first | (with_reducible first | exact HB.out | apply below_alloc | apply pw_below_drewN | apply below_drew1) | exact HB.out))⟩
set_option maxHeartbeats 4000000 in
set_option maxRecDepth 100000 in
theorem aw_c10e (w : World) : Calls Try.prog 10 #[.agg #[.string ⟨#[97]⟩, .string ⟨#[]⟩, .slice none 0 0, .slice none 0 0, .slice none 0 0, .slice none 0 0, .slice none 0 0, .slice none 0 0, .string ⟨#[]⟩, .slice none 0 0, .slice none 0 0]] w fun e w' => e = .returned (.int .i64 0) ∧ Below w.heap.size w w' := by
 have HB := mk0 (Below.refl w.heap.size w)
 have hsf := fun (a : Addr) (c : Array Value) (w : World) => run_store Try.prog w a (.func (.func 18) #[] c) .plain rfl
 go_enter Try.func10, Try.ntmps10
 go_wp2_with (first | (go_at_call 18; refine (aw_c18e _ _).mono ?_; rintro e w1 ⟨rfl, hb⟩))
 go_ret
 exact ⟨rfl, below_step (by repeat (first | (with_reducible first | exact HB.out | apply below_alloc | apply pw_below_drewN | apply below_drew1) | exact HB.out)) hb⟩
set_option maxHeartbeats 4000000 in
set_option maxRecDepth 100000 in
theorem aw_c15a (w : World) : Calls Try.prog 15 #[.agg #[.string ⟨#[97]⟩, .string ⟨#[]⟩, .slice none 0 0, .slice none 0 0, .slice none 0 0, .slice none 0 0, .slice none 0 0, .slice none 0 0, .string ⟨#[]⟩, .slice none 0 0, .slice none 0 0]] w fun e w' => ∃ v, e = .returned (.tuple #[v, .int .i64 0]) ∧ Kd.R (Kd.int .u8) 5 w' w.heap.size (fun _ => True) v [10, 1, 97] ∧ Below w.heap.size w w' := by
 have HB := mk0 (Below.refl w.heap.size w)
 go_enter Try.func15, Try.ntmps15
 go_wp2_with (first | (go_at_call 10; (with_reducible refine (aw_c10e _).mono ?_); rintro e w1 ⟨rfl, hb⟩; have BF := mk0 (blk_below (aw_heap_new_ w (.cells #[.string ⟨#[97]⟩, .string ⟨#[]⟩, .slice none 0 0, .slice none 0 0, .slice none 0 0, .slice none 0 0, .slice none 0 0, .slice none 0 0, .string ⟨#[]⟩, .slice none 0 0, .slice none 0 0] 30)) hb); have n0_ := mk0 (below_step (by repeat (first | (with_reducible first | exact HB.out | apply below_alloc | apply pw_below_drewN | apply below_drew1) | exact HB.out)) hb); clear HB; have HB := n0_; clear n0_; clear hb; have hf0 : _ = some ((.string ⟨#[97]⟩) : Value) := (blk_cell BF.out 0).trans rfl; have hf1 : _ = some ((.string ⟨#[]⟩) : Value) := (blk_cell BF.out 1).trans rfl; have hf2 : _ = some ((.slice none 0 0) : Value) := (blk_cell BF.out 2).trans rfl; have hf3 : _ = some ((.slice none 0 0) : Value) := (blk_cell BF.out 3).trans rfl; have hf4 : _ = some ((.slice none 0 0) : Value) := (blk_cell BF.out 4).trans rfl; have hf5 : _ = some ((.slice none 0 0) : Value) := (blk_cell BF.out 5).trans rfl; have hf6 : _ = some ((.slice none 0 0) : Value) := (blk_cell BF.out 6).trans rfl; have hf7 : _ = some ((.slice none 0 0) : Value) := (blk_cell BF.out 7).trans rfl; have hf8 : _ = some ((.string ⟨#[]⟩) : Value) := (blk_cell BF.out 8).trans rfl; have hf9 : _ = some ((.slice none 0 0) : Value) := (blk_cell BF.out 9).trans rfl; have hf10 : _ = some ((.slice none 0 0) : Value) := (blk_cell BF.out 10).trans rfl) | (go_at_call 36; (with_reducible refine (aw_c36a w.heap.size _ BF.out).mono ?_); rintro e w2 ⟨v, rfl, h2, h3⟩))
 go_ret2
 exact ⟨v, rfl, Kd.R_lower h2 HB.out.size, below_step HB.out h3⟩
set_option maxHeartbeats 4000000 in
set_option maxRecDepth 100000 in
theorem aw_c7a (w : World) : Calls Try.prog 7 #[] w fun e w' => e = .returned (.bool true) ∧ Below w.heap.size w w' := by
 go_enter Try.func7, Try.ntmps7
 go_wp2_with (first | (go_at_call 15; (with_reducible refine (aw_c15a _).mono ?_); rintro e w1 ⟨v, rfl, h2, h3⟩; have hcv4 := own_string (P := Try.prog) Try.underlying28 Try.underlying5 Try.underlying9 (Kd.own_of_R h2); have hcvN4 := fun nd_ => own_string (P := Try.prog) Try.underlying28 Try.underlying5 Try.underlying9 (Kd.own_of_R (Kd.R_drewN h2 nd_))))
 go_ret
 exact ⟨congrArg (fun b => Ending.returned (Value.bool b)) (show ((strOfNums [10, 1, 97]).toList == ([10, 1, 97] : List UInt8)) = true from by decide +kernel), h3⟩
def glossarylaw11_awake.f : Option (Bool) := some true
theorem glossarylaw11_awake.calls (r : Bool) (w : World) (h : glossarylaw11_awake.f = some r) : Calls Try.prog 7 #[] w fun e w' => e = .returned (.bool r) ∧ Below w.heap.size w w' := by
 obtain rfl : true = r := Option.some.inj h
 exact aw_c7a w
mutual
def glossarylaw11_count.l0 : Nat → Int → Int → List (S37) → Int → Int → Option (Int)
 | 0, _, _, _, _, _ => none
 | k + 1, x1, x2, x11, x12, x13 => if x13 < x12 then (if 0 ≤ x13 then (if x13 < (x11.length : Int) then (if (wrap64 (x1 + 1)) > 100 then (some 1000) else (if (wrap64 ((wrap64 ((wrap64 ((wrap64 ((wrap64 ((wrap64 ((((rd_T37 x11 x13).f1).length : Int) + (((rd_T37 x11 x13).f5).length : Int))) + (((rd_T37 x11 x13).f3).length : Int))) + (((rd_T37 x11 x13).f6).length : Int))) + (((rd_T37 x11 x13).f4).length : Int))) + (((rd_T37 x11 x13).f7).length : Int))) + (((rd_T37 x11 x13).f8).length : Int))) > 100 then (some 1000) else ((glossarylaw11_count.f k ((rd_T37 x11 x13).f2) (wrap64 (x1 + 1)) (wrap64 (x2 + 1))).bind fun t150 => (glossarylaw11_count.l0 k t150 x2 x11 x12 (wrap64 (x13 + 1)))))) else (none)) else (none)) else (some x1)
def glossarylaw11_count.f : Nat → List (S37) → Int → Int → Option (Int)
 | 0, _, _, _ => none
 | k + 1, l0, a1, a2 => if a2 > 70 then (some 1000) else (glossarylaw11_count.l0 k a1 a2 l0 (l0.length : Int) 0)
end
set_option maxHeartbeats 8000000 in
set_option maxRecDepth 100000 in
theorem glossarylaw11_count.calls (k : Nat) : ∀ (A0 : Option Addr) (c0 : Nat) (l0 : List (S37)) (a1 : Int) (a2 : Int) (r : Int) (w : World) (hr0 : Kd.C k37 w A0 l0.length l0) (hc0 : l0.length ≤ c0) (h : glossarylaw11_count.f k l0 a1 a2 = some r),
 Calls Try.prog 16 #[.slice A0 l0.length c0, .int .i64 a1, .int .i64 a2] w fun e w' => e = .returned (.int .i64 r) ∧ Below w.heap.size w w' := by
 induction k using Nat.strongRecOn with
 | _ k ih =>
 intro A0 c0 l0 a1 a2 r w hr0 hc0 h
 cases k with
 | zero => exact absurd h (by simp [glossarylaw11_count.f])
 | succ k =>
 simp only [glossarylaw11_count.f] at h
 have hu37 := Try.underlying37
 have HR0 := mk0 hr0
 have HC0 := mk0 hc0
 clear hr0 hc0
 have HB := mk0 (Below.refl w.heap.size w)
 have H : (if a2 > 70 then (some 1000) else (glossarylaw11_count.l0 k a1 a2 l0 (l0.length : Int) 0)) = some r := h
 clear h
 by_cases c4 : a2 > 70
 · as_aux_lemma =>
    rw [if_pos c4] at H
    have c4b0 : decide (70 < a2) = true := decide_eq_true c4
    clear c4
    as_aux_lemma =>
     obtain rfl := Option.some.inj H
     go_enter Try.func16, Try.ntmps16
     go_wp2
     go_ret
     exact ⟨by first | rfl | (simp [errW_none, errW_some] <;> rfl) | (simp [*, errW_none, errW_some] <;> rfl), by repeat (first | (with_reducible first | exact HB.out | apply below_alloc | apply pw_below_drewN | apply below_drew1) | exact HB.out)⟩
 · as_aux_lemma =>
    rw [if_neg c4] at H
    have c4b0 : decide (70 < a2) = false := decide_eq_false c4
    clear c4
    have H' := mk0 H
    clear H
    go_enter Try.func16, Try.ntmps16
    go_wp2
    go_loopg [1, 13] k (fun kq v1 v13 w' => ∃ (x1_1 : Int) (x13_1 : Int), v1 = .int .i64 x1_1 ∧ v13 = .int .i64 x13_1 ∧ Aside0 (glossarylaw11_count.l0 kq x1_1 a2 l0 (l0.length : Int) x13_1 = some r) ∧ Aside0 (kq ≤ k) ∧ Aside0 (Below w.heap.size w w'))
    case atStart => exact ⟨(a1), (0), (by first | rfl | (simp; done) | (simp [*]; done)), (by first | rfl | (simp; done) | (simp [*]; done)), H', ⟨Nat.le_refl _⟩, ⟨by repeat (first | (with_reducible first | exact HB.out | apply below_alloc | apply pw_below_drewN | apply below_drew1) | exact HB.out)⟩⟩
    case round =>
     clear H'
     try clear c1
     try clear p2
     try clear c4
     try clear c4b0
     obtain ⟨x1_1, x13_1, rfl, rfl, HA, HK1, HB⟩ := hrel
     cases gk with
     | zero => exact absurd HA.out (by simp [glossarylaw11_count.l0])
     | succ k1 =>
      have H := HA.out
      clear HA
      simp only [glossarylaw11_count.l0] at H
      by_cases c5 : x13_1 < (l0.length : Int)
      · as_aux_lemma =>
         rw [if_pos c5] at H
         have c5b0 : decide (x13_1 < (l0.length : Int)) = true := decide_eq_true c5
         clear c5
         by_cases c6 : 0 ≤ x13_1
         · as_aux_lemma =>
            rw [if_pos c6] at H
            have c6b0 : decide (0 ≤ x13_1) = true := decide_eq_true c6
            clear c6
            by_cases c7 : x13_1 < (l0.length : Int)
            · as_aux_lemma =>
               rw [if_pos c7] at H
               have c7b0 : decide (x13_1 < (l0.length : Int)) = true := decide_eq_true c7
               clear c7
               by_cases c8 : (wrap64 (x1_1 + 1)) > 100
               · as_aux_lemma =>
                  rw [if_pos c8] at H
                  have c8b0 : decide (100 < (wrap64 (x1_1 + 1))) = true := decide_eq_true c8
                  clear c8
                  as_aux_lemma =>
                   obtain rfl := Option.some.inj H
                   have p148 : 0 ≤ (x13_1 : Int) := of_decide_eq_true (by first | (with_reducible assumption) | assumption)
                   have q148 : x13_1 < (l0.length : Int) := of_decide_eq_true (by first | (with_reducible assumption) | assumption)
                   obtain ⟨ad148, A148_1, c148_1, A148_2, c148_2, A148_3, c148_3, A148_4, c148_4, A148_5, c148_5, A148_6, c148_6, A148_7, c148_7, A148_8, c148_8, A148_9, c148_9, A148_10, c148_10, e148, hx148_0, hx148_1, hx148_2, hx148_3, hx148_4, hx148_5, hx148_6, hx148_7, hx148_8, hx148_9, hx148_10, hl148_1, hi148_1, hl148_2, hi148_2, hl148_3, hi148_3, hl148_4, hi148_4, hl148_5, hi148_5, hl148_6, hi148_6, hl148_7, hi148_7, hl148_8, hi148_8, hl148_9, hi148_9, hl148_10, hi148_10⟩ := at_T37 HR0.out x13_1 p148 q148
                   cases e148
                   replace hx148_0 := (HB.out.cell (World.block_lt_of_cell? w _ hx148_0)).trans hx148_0
                   replace hx148_1 := (HB.out.cell (World.block_lt_of_cell? w _ hx148_1)).trans hx148_1
                   replace hx148_2 := (HB.out.cell (World.block_lt_of_cell? w _ hx148_2)).trans hx148_2
                   replace hx148_3 := (HB.out.cell (World.block_lt_of_cell? w _ hx148_3)).trans hx148_3
                   replace hx148_4 := (HB.out.cell (World.block_lt_of_cell? w _ hx148_4)).trans hx148_4
                   replace hx148_5 := (HB.out.cell (World.block_lt_of_cell? w _ hx148_5)).trans hx148_5
                   replace hx148_6 := (HB.out.cell (World.block_lt_of_cell? w _ hx148_6)).trans hx148_6
                   replace hx148_7 := (HB.out.cell (World.block_lt_of_cell? w _ hx148_7)).trans hx148_7
                   replace hx148_8 := (HB.out.cell (World.block_lt_of_cell? w _ hx148_8)).trans hx148_8
                   replace hx148_9 := (HB.out.cell (World.block_lt_of_cell? w _ hx148_9)).trans hx148_9
                   replace hx148_10 := (HB.out.cell (World.block_lt_of_cell? w _ hx148_10)).trans hx148_10
                   have HR148_1 := mk0 hi148_1
                   have HC148_1 := mk0 hl148_1
                   clear hi148_1 hl148_1
                   have HR148_2 := mk0 hi148_2
                   have HC148_2 := mk0 hl148_2
                   clear hi148_2 hl148_2
                   have HR148_3 := mk0 hi148_3
                   have HC148_3 := mk0 hl148_3
                   clear hi148_3 hl148_3
                   have HR148_4 := mk0 hi148_4
                   have HC148_4 := mk0 hl148_4
                   clear hi148_4 hl148_4
                   have HR148_5 := mk0 hi148_5
                   have HC148_5 := mk0 hl148_5
                   clear hi148_5 hl148_5
                   have HR148_6 := mk0 hi148_6
                   have HC148_6 := mk0 hl148_6
                   clear hi148_6 hl148_6
                   have HR148_7 := mk0 hi148_7
                   have HC148_7 := mk0 hl148_7
                   clear hi148_7 hl148_7
                   have HR148_8 := mk0 hi148_8
                   have HC148_8 := mk0 hl148_8
                   clear hi148_8 hl148_8
                   have HR148_9 := mk0 hi148_9
                   have HC148_9 := mk0 hl148_9
                   clear hi148_9 hl148_9
                   have HR148_10 := mk0 hi148_10
                   have HC148_10 := mk0 hl148_10
                   clear hi148_10 hl148_10
                   replace p148 := eq_true p148
                   replace q148 := eq_true q148
                   go_wp2_with (first | ((with_reducible refine gate_dst (N := 8) rfl ?_); (try (refine gate_guard (by rfl) ?_; dsimp only)); refine box_event ?hg (N := 8) ?hd (cs := #[.string (⟨#[]⟩ : ByteArray), .slice none 0 0, .slice none 0 0, .slice none 0 0, .slice none 0 0, .slice none 0 0, .slice none 0 0, .slice none 0 0, .slice none 0 0, .slice none 0 0, .slice none 0 0]) (t := 37) ?hr ?_; (case hd => rfl); (case hg => rfl); (case hr => first | (go_simp; done) | (go_simp; rfl)); intro gb149 hg w9 hbox hb; have n0_ := mk0 (below_step (by repeat (first | (with_reducible first | exact HB.out | apply below_alloc | apply pw_below_drewN | apply below_drew1) | exact HB.out)) hb); have n1_ := mk0 (hbox); have n2_ := mk0 ((by rw [hg]; exact (below_size (by repeat (first | (with_reducible first | exact HB.out | apply below_alloc | apply pw_below_drewN | apply below_drew1) | exact HB.out))) : w.heap.size ≤ gb149)); have n3_ := mk0 ((by rw [hg]; exact (below_size (by repeat (first | (with_reducible first | exact HB.out | apply below_alloc | apply pw_below_drewN | apply below_drew1) | exact HB.out))) : w.heap.size ≤ gb149)); clear HB; have HB := n0_; have BK149 := n1_; have GW149 := n2_; have GE149 := n3_; clear n0_ n1_ n2_ n3_; clear hb hbox hg; have hcz10_0 : w9.cell? ⟨gb149, 0, none⟩ = some (.string (⟨#[]⟩ : ByteArray)) := (blk_cell BK149.out 0).trans rfl; have hcz10_1 : w9.cell? ⟨gb149, 1, none⟩ = some (.slice none 0 0) := (blk_cell BK149.out 1).trans rfl; have hcz10_2 : w9.cell? ⟨gb149, 2, none⟩ = some (.slice none 0 0) := (blk_cell BK149.out 2).trans rfl; have hcz10_3 : w9.cell? ⟨gb149, 3, none⟩ = some (.slice none 0 0) := (blk_cell BK149.out 3).trans rfl; have hcz10_4 : w9.cell? ⟨gb149, 4, none⟩ = some (.slice none 0 0) := (blk_cell BK149.out 4).trans rfl; have hcz10_5 : w9.cell? ⟨gb149, 5, none⟩ = some (.slice none 0 0) := (blk_cell BK149.out 5).trans rfl; have hcz10_6 : w9.cell? ⟨gb149, 6, none⟩ = some (.slice none 0 0) := (blk_cell BK149.out 6).trans rfl; have hcz10_7 : w9.cell? ⟨gb149, 7, none⟩ = some (.slice none 0 0) := (blk_cell BK149.out 7).trans rfl; have hcz10_8 : w9.cell? ⟨gb149, 8, none⟩ = some (.slice none 0 0) := (blk_cell BK149.out 8).trans rfl; have hcz10_9 : w9.cell? ⟨gb149, 9, none⟩ = some (.slice none 0 0) := (blk_cell BK149.out 9).trans rfl; have hcz10_10 : w9.cell? ⟨gb149, 10, none⟩ = some (.slice none 0 0) := (blk_cell BK149.out 10).trans rfl; have hfz10_0 := blk_frozen BK149.out 0; have hfz10_1 := blk_frozen BK149.out 1; have hfz10_2 := blk_frozen BK149.out 2; have hfz10_3 := blk_frozen BK149.out 3; have hfz10_4 := blk_frozen BK149.out 4; have hfz10_5 := blk_frozen BK149.out 5; have hfz10_6 := blk_frozen BK149.out 6; have hfz10_7 := blk_frozen BK149.out 7; have hfz10_8 := blk_frozen BK149.out 8; have hfz10_9 := blk_frozen BK149.out 9; have hfz10_10 := blk_frozen BK149.out 10) | ((with_reducible refine gate_store (t := 37) (p := 8) rfl ?_); refine Go.Proofs.Yticnihfjnjliiaa.Sw.store_whole rfl rfl rfl gb149 37 _ _ rfl rfl BK149.out (by kernel_rfl) rfl rfl ?_; intro wS149 hS_ hbS_ hkS_; have HBn_ := mk0 (hbS_ _ _ GE149.out HB.out); clear HB; clear BK149; have HB := HBn_; have BK149 := mk0 hS_; have hkS149 := hkS_; clear HBn_ hS_ hbS_ hkS_; have hcw149_0 : wS149.cell? ⟨gb149, 0, none⟩ = some (.string ((rd_T37 l0 x13_1).f0)) := (blk_cell BK149.out 0).trans rfl; have hfw149_0 := blk_frozen BK149.out 0; have hcw149_1 : wS149.cell? ⟨gb149, 1, none⟩ = some (.slice A148_1 ((rd_T37 l0 x13_1).f1).length c148_1) := (blk_cell BK149.out 1).trans rfl; have hfw149_1 := blk_frozen BK149.out 1; have hcw149_2 : wS149.cell? ⟨gb149, 2, none⟩ = some (.slice A148_2 ((rd_T37 l0 x13_1).f2).length c148_2) := (blk_cell BK149.out 2).trans rfl; have hfw149_2 := blk_frozen BK149.out 2; have hcw149_3 : wS149.cell? ⟨gb149, 3, none⟩ = some (.slice A148_3 ((rd_T37 l0 x13_1).f3).length c148_3) := (blk_cell BK149.out 3).trans rfl; have hfw149_3 := blk_frozen BK149.out 3; have hcw149_4 : wS149.cell? ⟨gb149, 4, none⟩ = some (.slice A148_4 ((rd_T37 l0 x13_1).f4).length c148_4) := (blk_cell BK149.out 4).trans rfl; have hfw149_4 := blk_frozen BK149.out 4; have hcw149_5 : wS149.cell? ⟨gb149, 5, none⟩ = some (.slice A148_5 ((rd_T37 l0 x13_1).f5).length c148_5) := (blk_cell BK149.out 5).trans rfl; have hfw149_5 := blk_frozen BK149.out 5; have hcw149_6 : wS149.cell? ⟨gb149, 6, none⟩ = some (.slice A148_6 ((rd_T37 l0 x13_1).f6).length c148_6) := (blk_cell BK149.out 6).trans rfl; have hfw149_6 := blk_frozen BK149.out 6; have hcw149_7 : wS149.cell? ⟨gb149, 7, none⟩ = some (.slice A148_7 ((rd_T37 l0 x13_1).f7).length c148_7) := (blk_cell BK149.out 7).trans rfl; have hfw149_7 := blk_frozen BK149.out 7; have hcw149_8 : wS149.cell? ⟨gb149, 8, none⟩ = some (.slice A148_8 ((rd_T37 l0 x13_1).f8).length c148_8) := (blk_cell BK149.out 8).trans rfl; have hfw149_8 := blk_frozen BK149.out 8; have hcw149_9 : wS149.cell? ⟨gb149, 9, none⟩ = some (.slice A148_9 ((rd_T37 l0 x13_1).f9).length c148_9) := (blk_cell BK149.out 9).trans rfl; have hfw149_9 := blk_frozen BK149.out 9; have hcw149_10 : wS149.cell? ⟨gb149, 10, none⟩ = some (.slice A148_10 ((rd_T37 l0 x13_1).f10).length c148_10) := (blk_cell BK149.out 10).trans rfl; have hfw149_10 := blk_frozen BK149.out 10))
                   go_ret
                   exact ⟨by first | rfl | (simp [errW_none, errW_some] <;> rfl) | (simp [*, errW_none, errW_some] <;> rfl), by repeat (first | (with_reducible first | exact HB.out | apply below_alloc | apply pw_below_drewN | apply below_drew1 | refine below_set ?_ GE149.out) | exact HB.out)⟩
               · as_aux_lemma =>
                  rw [if_neg c8] at H
                  have c8b0 : decide (100 < (wrap64 (x1_1 + 1))) = false := decide_eq_false c8
                  clear c8
                  by_cases c11 : (wrap64 ((wrap64 ((wrap64 ((wrap64 ((wrap64 ((wrap64 ((((rd_T37 l0 x13_1).f1).length : Int) + (((rd_T37 l0 x13_1).f5).length : Int))) + (((rd_T37 l0 x13_1).f3).length : Int))) + (((rd_T37 l0 x13_1).f6).length : Int))) + (((rd_T37 l0 x13_1).f4).length : Int))) + (((rd_T37 l0 x13_1).f7).length : Int))) + (((rd_T37 l0 x13_1).f8).length : Int))) > 100
                  · as_aux_lemma =>
                     rw [if_pos c11] at H
                     have c11b0 : decide (100 < (wrap64 ((wrap64 ((wrap64 ((wrap64 ((wrap64 ((wrap64 ((((rd_T37 l0 x13_1).f1).length : Int) + (((rd_T37 l0 x13_1).f5).length : Int))) + (((rd_T37 l0 x13_1).f3).length : Int))) + (((rd_T37 l0 x13_1).f6).length : Int))) + (((rd_T37 l0 x13_1).f4).length : Int))) + (((rd_T37 l0 x13_1).f7).length : Int))) + (((rd_T37 l0 x13_1).f8).length : Int)))) = true := decide_eq_true c11
                     clear c11
                     as_aux_lemma =>
                      obtain rfl := Option.some.inj H
                      have p148 : 0 ≤ (x13_1 : Int) := of_decide_eq_true (by first | (with_reducible assumption) | assumption)
                      have q148 : x13_1 < (l0.length : Int) := of_decide_eq_true (by first | (with_reducible assumption) | assumption)
                      obtain ⟨ad148, A148_1, c148_1, A148_2, c148_2, A148_3, c148_3, A148_4, c148_4, A148_5, c148_5, A148_6, c148_6, A148_7, c148_7, A148_8, c148_8, A148_9, c148_9, A148_10, c148_10, e148, hx148_0, hx148_1, hx148_2, hx148_3, hx148_4, hx148_5, hx148_6, hx148_7, hx148_8, hx148_9, hx148_10, hl148_1, hi148_1, hl148_2, hi148_2, hl148_3, hi148_3, hl148_4, hi148_4, hl148_5, hi148_5, hl148_6, hi148_6, hl148_7, hi148_7, hl148_8, hi148_8, hl148_9, hi148_9, hl148_10, hi148_10⟩ := at_T37 HR0.out x13_1 p148 q148
                      cases e148
                      replace hx148_0 := (HB.out.cell (World.block_lt_of_cell? w _ hx148_0)).trans hx148_0
                      replace hx148_1 := (HB.out.cell (World.block_lt_of_cell? w _ hx148_1)).trans hx148_1
                      replace hx148_2 := (HB.out.cell (World.block_lt_of_cell? w _ hx148_2)).trans hx148_2
                      replace hx148_3 := (HB.out.cell (World.block_lt_of_cell? w _ hx148_3)).trans hx148_3
                      replace hx148_4 := (HB.out.cell (World.block_lt_of_cell? w _ hx148_4)).trans hx148_4
                      replace hx148_5 := (HB.out.cell (World.block_lt_of_cell? w _ hx148_5)).trans hx148_5
                      replace hx148_6 := (HB.out.cell (World.block_lt_of_cell? w _ hx148_6)).trans hx148_6
                      replace hx148_7 := (HB.out.cell (World.block_lt_of_cell? w _ hx148_7)).trans hx148_7
                      replace hx148_8 := (HB.out.cell (World.block_lt_of_cell? w _ hx148_8)).trans hx148_8
                      replace hx148_9 := (HB.out.cell (World.block_lt_of_cell? w _ hx148_9)).trans hx148_9
                      replace hx148_10 := (HB.out.cell (World.block_lt_of_cell? w _ hx148_10)).trans hx148_10
                      have HR148_1 := mk0 hi148_1
                      have HC148_1 := mk0 hl148_1
                      clear hi148_1 hl148_1
                      have HR148_2 := mk0 hi148_2
                      have HC148_2 := mk0 hl148_2
                      clear hi148_2 hl148_2
                      have HR148_3 := mk0 hi148_3
                      have HC148_3 := mk0 hl148_3
                      clear hi148_3 hl148_3
                      have HR148_4 := mk0 hi148_4
                      have HC148_4 := mk0 hl148_4
                      clear hi148_4 hl148_4
                      have HR148_5 := mk0 hi148_5
                      have HC148_5 := mk0 hl148_5
                      clear hi148_5 hl148_5
                      have HR148_6 := mk0 hi148_6
                      have HC148_6 := mk0 hl148_6
                      clear hi148_6 hl148_6
                      have HR148_7 := mk0 hi148_7
                      have HC148_7 := mk0 hl148_7
                      clear hi148_7 hl148_7
                      have HR148_8 := mk0 hi148_8
                      have HC148_8 := mk0 hl148_8
                      clear hi148_8 hl148_8
                      have HR148_9 := mk0 hi148_9
                      have HC148_9 := mk0 hl148_9
                      clear hi148_9 hl148_9
                      have HR148_10 := mk0 hi148_10
                      have HC148_10 := mk0 hl148_10
                      clear hi148_10 hl148_10
                      replace p148 := eq_true p148
                      replace q148 := eq_true q148
                      go_wp2_with (first | ((with_reducible refine gate_dst (N := 8) rfl ?_); (try (refine gate_guard (by rfl) ?_; dsimp only)); refine box_event ?hg (N := 8) ?hd (cs := #[.string (⟨#[]⟩ : ByteArray), .slice none 0 0, .slice none 0 0, .slice none 0 0, .slice none 0 0, .slice none 0 0, .slice none 0 0, .slice none 0 0, .slice none 0 0, .slice none 0 0, .slice none 0 0]) (t := 37) ?hr ?_; (case hd => rfl); (case hg => rfl); (case hr => first | (go_simp; done) | (go_simp; rfl)); intro gb149 hg w12 hbox hb; have n0_ := mk0 (below_step (by repeat (first | (with_reducible first | exact HB.out | apply below_alloc | apply pw_below_drewN | apply below_drew1) | exact HB.out)) hb); have n1_ := mk0 (hbox); have n2_ := mk0 ((by rw [hg]; exact (below_size (by repeat (first | (with_reducible first | exact HB.out | apply below_alloc | apply pw_below_drewN | apply below_drew1) | exact HB.out))) : w.heap.size ≤ gb149)); have n3_ := mk0 ((by rw [hg]; exact (below_size (by repeat (first | (with_reducible first | exact HB.out | apply below_alloc | apply pw_below_drewN | apply below_drew1) | exact HB.out))) : w.heap.size ≤ gb149)); clear HB; have HB := n0_; have BK149 := n1_; have GW149 := n2_; have GE149 := n3_; clear n0_ n1_ n2_ n3_; clear hb hbox hg; have hcz13_0 : w12.cell? ⟨gb149, 0, none⟩ = some (.string (⟨#[]⟩ : ByteArray)) := (blk_cell BK149.out 0).trans rfl; have hcz13_1 : w12.cell? ⟨gb149, 1, none⟩ = some (.slice none 0 0) := (blk_cell BK149.out 1).trans rfl; have hcz13_2 : w12.cell? ⟨gb149, 2, none⟩ = some (.slice none 0 0) := (blk_cell BK149.out 2).trans rfl; have hcz13_3 : w12.cell? ⟨gb149, 3, none⟩ = some (.slice none 0 0) := (blk_cell BK149.out 3).trans rfl; have hcz13_4 : w12.cell? ⟨gb149, 4, none⟩ = some (.slice none 0 0) := (blk_cell BK149.out 4).trans rfl; have hcz13_5 : w12.cell? ⟨gb149, 5, none⟩ = some (.slice none 0 0) := (blk_cell BK149.out 5).trans rfl; have hcz13_6 : w12.cell? ⟨gb149, 6, none⟩ = some (.slice none 0 0) := (blk_cell BK149.out 6).trans rfl; have hcz13_7 : w12.cell? ⟨gb149, 7, none⟩ = some (.slice none 0 0) := (blk_cell BK149.out 7).trans rfl; have hcz13_8 : w12.cell? ⟨gb149, 8, none⟩ = some (.slice none 0 0) := (blk_cell BK149.out 8).trans rfl; have hcz13_9 : w12.cell? ⟨gb149, 9, none⟩ = some (.slice none 0 0) := (blk_cell BK149.out 9).trans rfl; have hcz13_10 : w12.cell? ⟨gb149, 10, none⟩ = some (.slice none 0 0) := (blk_cell BK149.out 10).trans rfl; have hfz13_0 := blk_frozen BK149.out 0; have hfz13_1 := blk_frozen BK149.out 1; have hfz13_2 := blk_frozen BK149.out 2; have hfz13_3 := blk_frozen BK149.out 3; have hfz13_4 := blk_frozen BK149.out 4; have hfz13_5 := blk_frozen BK149.out 5; have hfz13_6 := blk_frozen BK149.out 6; have hfz13_7 := blk_frozen BK149.out 7; have hfz13_8 := blk_frozen BK149.out 8; have hfz13_9 := blk_frozen BK149.out 9; have hfz13_10 := blk_frozen BK149.out 10) | ((with_reducible refine gate_store (t := 37) (p := 8) rfl ?_); refine Go.Proofs.Yticnihfjnjliiaa.Sw.store_whole rfl rfl rfl gb149 37 _ _ rfl rfl BK149.out (by kernel_rfl) rfl rfl ?_; intro wS149 hS_ hbS_ hkS_; have HBn_ := mk0 (hbS_ _ _ GE149.out HB.out); clear HB; clear BK149; have HB := HBn_; have BK149 := mk0 hS_; have hkS149 := hkS_; clear HBn_ hS_ hbS_ hkS_; have hcw149_0 : wS149.cell? ⟨gb149, 0, none⟩ = some (.string ((rd_T37 l0 x13_1).f0)) := (blk_cell BK149.out 0).trans rfl; have hfw149_0 := blk_frozen BK149.out 0; have hcw149_1 : wS149.cell? ⟨gb149, 1, none⟩ = some (.slice A148_1 ((rd_T37 l0 x13_1).f1).length c148_1) := (blk_cell BK149.out 1).trans rfl; have hfw149_1 := blk_frozen BK149.out 1; have hcw149_2 : wS149.cell? ⟨gb149, 2, none⟩ = some (.slice A148_2 ((rd_T37 l0 x13_1).f2).length c148_2) := (blk_cell BK149.out 2).trans rfl; have hfw149_2 := blk_frozen BK149.out 2; have hcw149_3 : wS149.cell? ⟨gb149, 3, none⟩ = some (.slice A148_3 ((rd_T37 l0 x13_1).f3).length c148_3) := (blk_cell BK149.out 3).trans rfl; have hfw149_3 := blk_frozen BK149.out 3; have hcw149_4 : wS149.cell? ⟨gb149, 4, none⟩ = some (.slice A148_4 ((rd_T37 l0 x13_1).f4).length c148_4) := (blk_cell BK149.out 4).trans rfl; have hfw149_4 := blk_frozen BK149.out 4; have hcw149_5 : wS149.cell? ⟨gb149, 5, none⟩ = some (.slice A148_5 ((rd_T37 l0 x13_1).f5).length c148_5) := (blk_cell BK149.out 5).trans rfl; have hfw149_5 := blk_frozen BK149.out 5; have hcw149_6 : wS149.cell? ⟨gb149, 6, none⟩ = some (.slice A148_6 ((rd_T37 l0 x13_1).f6).length c148_6) := (blk_cell BK149.out 6).trans rfl; have hfw149_6 := blk_frozen BK149.out 6; have hcw149_7 : wS149.cell? ⟨gb149, 7, none⟩ = some (.slice A148_7 ((rd_T37 l0 x13_1).f7).length c148_7) := (blk_cell BK149.out 7).trans rfl; have hfw149_7 := blk_frozen BK149.out 7; have hcw149_8 : wS149.cell? ⟨gb149, 8, none⟩ = some (.slice A148_8 ((rd_T37 l0 x13_1).f8).length c148_8) := (blk_cell BK149.out 8).trans rfl; have hfw149_8 := blk_frozen BK149.out 8; have hcw149_9 : wS149.cell? ⟨gb149, 9, none⟩ = some (.slice A148_9 ((rd_T37 l0 x13_1).f9).length c148_9) := (blk_cell BK149.out 9).trans rfl; have hfw149_9 := blk_frozen BK149.out 9; have hcw149_10 : wS149.cell? ⟨gb149, 10, none⟩ = some (.slice A148_10 ((rd_T37 l0 x13_1).f10).length c148_10) := (blk_cell BK149.out 10).trans rfl; have hfw149_10 := blk_frozen BK149.out 10))
                      go_ret
                      exact ⟨by first | rfl | (simp [errW_none, errW_some] <;> rfl) | (simp [*, errW_none, errW_some] <;> rfl), by repeat (first | (with_reducible first | exact HB.out | apply below_alloc | apply pw_below_drewN | apply below_drew1 | refine below_set ?_ GE149.out) | exact HB.out)⟩
                  · as_aux_lemma =>
                     rw [if_neg c11] at H
                     have c11b0 : decide (100 < (wrap64 ((wrap64 ((wrap64 ((wrap64 ((wrap64 ((wrap64 ((((rd_T37 l0 x13_1).f1).length : Int) + (((rd_T37 l0 x13_1).f5).length : Int))) + (((rd_T37 l0 x13_1).f3).length : Int))) + (((rd_T37 l0 x13_1).f6).length : Int))) + (((rd_T37 l0 x13_1).f4).length : Int))) + (((rd_T37 l0 x13_1).f7).length : Int))) + (((rd_T37 l0 x13_1).f8).length : Int)))) = false := decide_eq_false c11
                     clear c11
                     replace H := Option.bind_eq_some_iff.mp H
                     obtain ⟨t150, A140, H⟩ := H
                     replace H : (glossarylaw11_count.l0 k1 t150 a2 l0 (l0.length : Int) (wrap64 (x13_1 + 1))) = some r := H
                     have A14 := mk0 A140
                     clear A140
                     as_aux_lemma =>
                      have H' := mk0 H
                      clear H
                      have p148 : 0 ≤ (x13_1 : Int) := of_decide_eq_true (by first | (with_reducible assumption) | assumption)
                      have q148 : x13_1 < (l0.length : Int) := of_decide_eq_true (by first | (with_reducible assumption) | assumption)
                      obtain ⟨ad148, A148_1, c148_1, A148_2, c148_2, A148_3, c148_3, A148_4, c148_4, A148_5, c148_5, A148_6, c148_6, A148_7, c148_7, A148_8, c148_8, A148_9, c148_9, A148_10, c148_10, e148, hx148_0, hx148_1, hx148_2, hx148_3, hx148_4, hx148_5, hx148_6, hx148_7, hx148_8, hx148_9, hx148_10, hl148_1, hi148_1, hl148_2, hi148_2, hl148_3, hi148_3, hl148_4, hi148_4, hl148_5, hi148_5, hl148_6, hi148_6, hl148_7, hi148_7, hl148_8, hi148_8, hl148_9, hi148_9, hl148_10, hi148_10⟩ := at_T37 HR0.out x13_1 p148 q148
                      cases e148
                      replace hx148_0 := (HB.out.cell (World.block_lt_of_cell? w _ hx148_0)).trans hx148_0
                      replace hx148_1 := (HB.out.cell (World.block_lt_of_cell? w _ hx148_1)).trans hx148_1
                      replace hx148_2 := (HB.out.cell (World.block_lt_of_cell? w _ hx148_2)).trans hx148_2
                      replace hx148_3 := (HB.out.cell (World.block_lt_of_cell? w _ hx148_3)).trans hx148_3
                      replace hx148_4 := (HB.out.cell (World.block_lt_of_cell? w _ hx148_4)).trans hx148_4
                      replace hx148_5 := (HB.out.cell (World.block_lt_of_cell? w _ hx148_5)).trans hx148_5
                      replace hx148_6 := (HB.out.cell (World.block_lt_of_cell? w _ hx148_6)).trans hx148_6
                      replace hx148_7 := (HB.out.cell (World.block_lt_of_cell? w _ hx148_7)).trans hx148_7
                      replace hx148_8 := (HB.out.cell (World.block_lt_of_cell? w _ hx148_8)).trans hx148_8
                      replace hx148_9 := (HB.out.cell (World.block_lt_of_cell? w _ hx148_9)).trans hx148_9
                      replace hx148_10 := (HB.out.cell (World.block_lt_of_cell? w _ hx148_10)).trans hx148_10
                      have HR148_1 := mk0 hi148_1
                      have HC148_1 := mk0 hl148_1
                      clear hi148_1 hl148_1
                      have HR148_2 := mk0 hi148_2
                      have HC148_2 := mk0 hl148_2
                      clear hi148_2 hl148_2
                      have HR148_3 := mk0 hi148_3
                      have HC148_3 := mk0 hl148_3
                      clear hi148_3 hl148_3
                      have HR148_4 := mk0 hi148_4
                      have HC148_4 := mk0 hl148_4
                      clear hi148_4 hl148_4
                      have HR148_5 := mk0 hi148_5
                      have HC148_5 := mk0 hl148_5
                      clear hi148_5 hl148_5
                      have HR148_6 := mk0 hi148_6
                      have HC148_6 := mk0 hl148_6
                      clear hi148_6 hl148_6
                      have HR148_7 := mk0 hi148_7
                      have HC148_7 := mk0 hl148_7
                      clear hi148_7 hl148_7
                      have HR148_8 := mk0 hi148_8
                      have HC148_8 := mk0 hl148_8
                      clear hi148_8 hl148_8
                      have HR148_9 := mk0 hi148_9
                      have HC148_9 := mk0 hl148_9
                      clear hi148_9 hl148_9
                      have HR148_10 := mk0 hi148_10
                      have HC148_10 := mk0 hl148_10
                      clear hi148_10 hl148_10
                      replace p148 := eq_true p148
                      replace q148 := eq_true q148
                      go_wp2_with (first | ((with_reducible refine gate_dst (N := 8) rfl ?_); (try (refine gate_guard (by rfl) ?_; dsimp only)); refine box_event ?hg (N := 8) ?hd (cs := #[.string (⟨#[]⟩ : ByteArray), .slice none 0 0, .slice none 0 0, .slice none 0 0, .slice none 0 0, .slice none 0 0, .slice none 0 0, .slice none 0 0, .slice none 0 0, .slice none 0 0, .slice none 0 0]) (t := 37) ?hr ?_; (case hd => rfl); (case hg => rfl); (case hr => first | (go_simp; done) | (go_simp; rfl)); intro gb149 hg w15 hbox hb; have n0_ := mk0 (below_step (by repeat (first | (with_reducible first | exact HB.out | apply below_alloc | apply pw_below_drewN | apply below_drew1) | exact HB.out)) hb); have n1_ := mk0 (hbox); have n2_ := mk0 ((by rw [hg]; exact (below_size (by repeat (first | (with_reducible first | exact HB.out | apply below_alloc | apply pw_below_drewN | apply below_drew1) | exact HB.out))) : w.heap.size ≤ gb149)); have n3_ := mk0 ((by rw [hg]; exact (below_size (by repeat (first | (with_reducible first | exact HB.out | apply below_alloc | apply pw_below_drewN | apply below_drew1) | exact HB.out))) : w.heap.size ≤ gb149)); clear HB; have HB := n0_; have BK149 := n1_; have GW149 := n2_; have GE149 := n3_; clear n0_ n1_ n2_ n3_; clear hb hbox hg; have hcz16_0 : w15.cell? ⟨gb149, 0, none⟩ = some (.string (⟨#[]⟩ : ByteArray)) := (blk_cell BK149.out 0).trans rfl; have hcz16_1 : w15.cell? ⟨gb149, 1, none⟩ = some (.slice none 0 0) := (blk_cell BK149.out 1).trans rfl; have hcz16_2 : w15.cell? ⟨gb149, 2, none⟩ = some (.slice none 0 0) := (blk_cell BK149.out 2).trans rfl; have hcz16_3 : w15.cell? ⟨gb149, 3, none⟩ = some (.slice none 0 0) := (blk_cell BK149.out 3).trans rfl; have hcz16_4 : w15.cell? ⟨gb149, 4, none⟩ = some (.slice none 0 0) := (blk_cell BK149.out 4).trans rfl; have hcz16_5 : w15.cell? ⟨gb149, 5, none⟩ = some (.slice none 0 0) := (blk_cell BK149.out 5).trans rfl; have hcz16_6 : w15.cell? ⟨gb149, 6, none⟩ = some (.slice none 0 0) := (blk_cell BK149.out 6).trans rfl; have hcz16_7 : w15.cell? ⟨gb149, 7, none⟩ = some (.slice none 0 0) := (blk_cell BK149.out 7).trans rfl; have hcz16_8 : w15.cell? ⟨gb149, 8, none⟩ = some (.slice none 0 0) := (blk_cell BK149.out 8).trans rfl; have hcz16_9 : w15.cell? ⟨gb149, 9, none⟩ = some (.slice none 0 0) := (blk_cell BK149.out 9).trans rfl; have hcz16_10 : w15.cell? ⟨gb149, 10, none⟩ = some (.slice none 0 0) := (blk_cell BK149.out 10).trans rfl; have hfz16_0 := blk_frozen BK149.out 0; have hfz16_1 := blk_frozen BK149.out 1; have hfz16_2 := blk_frozen BK149.out 2; have hfz16_3 := blk_frozen BK149.out 3; have hfz16_4 := blk_frozen BK149.out 4; have hfz16_5 := blk_frozen BK149.out 5; have hfz16_6 := blk_frozen BK149.out 6; have hfz16_7 := blk_frozen BK149.out 7; have hfz16_8 := blk_frozen BK149.out 8; have hfz16_9 := blk_frozen BK149.out 9; have hfz16_10 := blk_frozen BK149.out 10) | ((with_reducible refine gate_callee (f := 16) rfl ?_); refine goesL_ (some 56) rfl rfl Try.func16 (by kernel_rfl) rfl #[.slice A148_2 ((rd_T37 l0 x13_1).f2).length c148_2, .int .i64 (wrap64 (x1_1 + 1)), .int .i64 (wrap64 (a2 + 1))] rfl (by (try simp only [List.map_toArray, List.map_cons, List.map_nil]); first | done | rfl | (simp only [List.length_drop, List.length_take]; rfl)) ?_; (with_reducible refine (ih k1 (by have := HK1.out; omega) _ _ ((rd_T37 l0 x13_1).f2) (wrap64 (x1_1 + 1)) (wrap64 (a2 + 1)) t150 _ ?side1 ?side2 A14.out).mono ?_); (case side1 => exact Kd.C_below HR148_2.out (by repeat (first | (with_reducible first | exact HB.out | apply below_alloc | apply pw_below_drewN | apply below_drew1 | refine below_set ?_ GE149.out) | exact HB.out))); (case side2 => exact HC148_2.out); rintro e w17 ⟨rfl, hb⟩; refine ⟨_, rfl, ?_⟩; have n0_ := mk0 (blk_below (g := gb149) (o := .cells #[.string ((rd_T37 l0 x13_1).f0), .slice A148_1 ((rd_T37 l0 x13_1).f1).length c148_1, .slice A148_2 ((rd_T37 l0 x13_1).f2).length c148_2, .slice A148_3 ((rd_T37 l0 x13_1).f3).length c148_3, .slice A148_4 ((rd_T37 l0 x13_1).f4).length c148_4, .slice A148_5 ((rd_T37 l0 x13_1).f5).length c148_5, .slice A148_6 ((rd_T37 l0 x13_1).f6).length c148_6, .slice A148_7 ((rd_T37 l0 x13_1).f7).length c148_7, .slice A148_8 ((rd_T37 l0 x13_1).f8).length c148_8, .slice A148_9 ((rd_T37 l0 x13_1).f9).length c148_9, .slice A148_10 ((rd_T37 l0 x13_1).f10).length c148_10] 37 (0, 0)) (by (with_reducible repeat (first | refine blk_drewN ?_ _ | refine blk_drew ?_ | refine blk_alloc ?_ _)); (with_reducible repeat (first | refine blk_drewN ?_ _ | refine blk_drew ?_ | refine blk_alloc ?_ _)); (with_reducible repeat (first | refine blk_drewN ?_ _ | refine blk_drew ?_ | refine blk_alloc ?_ _)); (with_reducible repeat (first | refine blk_drewN ?_ _ | refine blk_drew ?_ | refine blk_alloc ?_ _)); (with_reducible repeat (first | refine blk_drewN ?_ _ | refine blk_drew ?_ | refine blk_alloc ?_ _)); (with_reducible repeat (first | refine blk_drewN ?_ _ | refine blk_drew ?_ | refine blk_alloc ?_ _)); (with_reducible repeat (first | refine blk_drewN ?_ _ | refine blk_drew ?_ | refine blk_alloc ?_ _)); (with_reducible repeat (first | refine blk_drewN ?_ _ | refine blk_drew ?_ | refine blk_alloc ?_ _)); (with_reducible repeat (first | refine blk_drewN ?_ _ | refine blk_drew ?_ | refine blk_alloc ?_ _)); (with_reducible repeat (first | refine blk_drewN ?_ _ | refine blk_drew ?_ | refine blk_alloc ?_ _)); (with_reducible repeat (first | refine blk_drewN ?_ _ | refine blk_drew ?_ | refine blk_alloc ?_ _)); (with_reducible repeat (first | refine blk_drewN ?_ _ | refine blk_drew ?_ | refine blk_alloc ?_ _)); exact BK149.out) hb); have n1_ := mk0 (below_step (by repeat (first | (with_reducible first | exact HB.out | apply below_alloc | apply pw_below_drewN | apply below_drew1 | refine below_set ?_ GE149.out) | exact HB.out)) hb); clear BK149; clear HB; have BK149 := n0_; have HB := n1_; clear n0_ n1_; (try clear hb); (try clear hb2); (try clear hk); (try clear hi)) | ((with_reducible refine gate_store (t := 37) (p := 8) rfl ?_); refine Go.Proofs.Yticnihfjnjliiaa.Sw.store_whole rfl rfl rfl gb149 37 _ _ rfl rfl BK149.out (by kernel_rfl) rfl rfl ?_; intro wS149 hS_ hbS_ hkS_; have HBn_ := mk0 (hbS_ _ _ GE149.out HB.out); clear HB; clear BK149; have HB := HBn_; have BK149 := mk0 hS_; have hkS149 := hkS_; clear HBn_ hS_ hbS_ hkS_; have hcw149_0 : wS149.cell? ⟨gb149, 0, none⟩ = some (.string ((rd_T37 l0 x13_1).f0)) := (blk_cell BK149.out 0).trans rfl; have hfw149_0 := blk_frozen BK149.out 0; have hcw149_1 : wS149.cell? ⟨gb149, 1, none⟩ = some (.slice A148_1 ((rd_T37 l0 x13_1).f1).length c148_1) := (blk_cell BK149.out 1).trans rfl; have hfw149_1 := blk_frozen BK149.out 1; have hcw149_2 : wS149.cell? ⟨gb149, 2, none⟩ = some (.slice A148_2 ((rd_T37 l0 x13_1).f2).length c148_2) := (blk_cell BK149.out 2).trans rfl; have hfw149_2 := blk_frozen BK149.out 2; have hcw149_3 : wS149.cell? ⟨gb149, 3, none⟩ = some (.slice A148_3 ((rd_T37 l0 x13_1).f3).length c148_3) := (blk_cell BK149.out 3).trans rfl; have hfw149_3 := blk_frozen BK149.out 3; have hcw149_4 : wS149.cell? ⟨gb149, 4, none⟩ = some (.slice A148_4 ((rd_T37 l0 x13_1).f4).length c148_4) := (blk_cell BK149.out 4).trans rfl; have hfw149_4 := blk_frozen BK149.out 4; have hcw149_5 : wS149.cell? ⟨gb149, 5, none⟩ = some (.slice A148_5 ((rd_T37 l0 x13_1).f5).length c148_5) := (blk_cell BK149.out 5).trans rfl; have hfw149_5 := blk_frozen BK149.out 5; have hcw149_6 : wS149.cell? ⟨gb149, 6, none⟩ = some (.slice A148_6 ((rd_T37 l0 x13_1).f6).length c148_6) := (blk_cell BK149.out 6).trans rfl; have hfw149_6 := blk_frozen BK149.out 6; have hcw149_7 : wS149.cell? ⟨gb149, 7, none⟩ = some (.slice A148_7 ((rd_T37 l0 x13_1).f7).length c148_7) := (blk_cell BK149.out 7).trans rfl; have hfw149_7 := blk_frozen BK149.out 7; have hcw149_8 : wS149.cell? ⟨gb149, 8, none⟩ = some (.slice A148_8 ((rd_T37 l0 x13_1).f8).length c148_8) := (blk_cell BK149.out 8).trans rfl; have hfw149_8 := blk_frozen BK149.out 8; have hcw149_9 : wS149.cell? ⟨gb149, 9, none⟩ = some (.slice A148_9 ((rd_T37 l0 x13_1).f9).length c148_9) := (blk_cell BK149.out 9).trans rfl; have hfw149_9 := blk_frozen BK149.out 9; have hcw149_10 : wS149.cell? ⟨gb149, 10, none⟩ = some (.slice A148_10 ((rd_T37 l0 x13_1).f10).length c148_10) := (blk_cell BK149.out 10).trans rfl; have hfw149_10 := blk_frozen BK149.out 10))
                      go_roundg k1
                      case measure => have := HK1.out; omega
                      case rel => exact ⟨(t150), (wrap64 (x13_1 + 1)), (by first | rfl | (simp; done) | (simp [*]; done)), (by first | rfl | (simp; done) | (simp [*]; done)), H', ⟨by have := HK1.out; omega⟩, ⟨by repeat (first | (with_reducible first | exact HB.out | apply below_alloc | apply pw_below_drewN | apply below_drew1 | refine below_set ?_ GE149.out) | exact HB.out)⟩⟩
            · rw [if_neg c7] at H
              exact absurd H (by simp)
         · rw [if_neg c6] at H
           exact absurd H (by simp)
      · as_aux_lemma =>
         rw [if_neg c5] at H
         have c5b0 : decide (x13_1 < (l0.length : Int)) = false := decide_eq_false c5
         clear c5
         as_aux_lemma =>
          obtain rfl := Option.some.inj H
          go_wp2
          go_ret
          exact ⟨by first | rfl | (simp [errW_none, errW_some] <;> rfl) | (simp [*, errW_none, errW_some] <;> rfl), by repeat (first | (with_reducible first | exact HB.out | apply below_alloc | apply pw_below_drewN | apply below_drew1) | exact HB.out)⟩
def glossarylaw11_Few.f (k : Nat) (a0_0 : ByteArray) (a0_1 : ByteArray) (l0_2 : List ByteArray) (l0_3 : List Int) (l0_4 : List (S37)) (l0_5 : List (S60)) (l0_6 : List (S65)) (l0_7 : List (S69)) (a0_8 : ByteArray) (l0_9 : List Int) (l0_10 : List Int) : Option (Bool) := if (l0_2.length : Int) ≤ 20 then (if (l0_3.length : Int) ≤ 20 then (if (l0_5.length : Int) ≤ 20 then (if (l0_6.length : Int) ≤ 20 then (if (l0_7.length : Int) ≤ 40 then ((glossarylaw11_count.f k l0_4 0 0).bind fun t152 => (some (decide (t152 ≤ 100)))) else (some false)) else (some false)) else (some false)) else (some false)) else (some false)
set_option maxHeartbeats 8000000 in
set_option maxRecDepth 100000 in
theorem glossarylaw11_Few.calls (k : Nat) (a0_0 : ByteArray) (a0_1 : ByteArray) (A0_2 : Option Addr) (c0_2 : Nat) (l0_2 : List ByteArray) (A0_3 : Option Addr) (c0_3 : Nat) (l0_3 : List Int) (A0_4 : Option Addr) (c0_4 : Nat) (l0_4 : List (S37)) (A0_5 : Option Addr) (c0_5 : Nat) (l0_5 : List (S60)) (A0_6 : Option Addr) (c0_6 : Nat) (l0_6 : List (S65)) (A0_7 : Option Addr) (c0_7 : Nat) (l0_7 : List (S69)) (a0_8 : ByteArray) (A0_9 : Option Addr) (c0_9 : Nat) (l0_9 : List Int) (A0_10 : Option Addr) (c0_10 : Nat) (l0_10 : List Int) (r : Bool) (w : World) (hr0_2 : Kd.C Kd.string w A0_2 l0_2.length l0_2) (hc0_2 : l0_2.length ≤ c0_2) (hr0_3 : Kd.C (Kd.int .i64) w A0_3 l0_3.length l0_3) (hc0_3 : l0_3.length ≤ c0_3) (hr0_4 : Kd.C k37 w A0_4 l0_4.length l0_4) (hc0_4 : l0_4.length ≤ c0_4) (hr0_5 : Kd.C k60 w A0_5 l0_5.length l0_5) (hc0_5 : l0_5.length ≤ c0_5) (hr0_6 : Kd.C k65 w A0_6 l0_6.length l0_6) (hc0_6 : l0_6.length ≤ c0_6) (hr0_7 : Kd.C k69 w A0_7 l0_7.length l0_7) (hc0_7 : l0_7.length ≤ c0_7) (hr0_9 : Kd.C (Kd.int .u8) w A0_9 l0_9.length l0_9) (hc0_9 : l0_9.length ≤ c0_9) (hr0_10 : Kd.C (Kd.int .u8) w A0_10 l0_10.length l0_10) (hc0_10 : l0_10.length ≤ c0_10) (h : glossarylaw11_Few.f k a0_0 a0_1 l0_2 l0_3 l0_4 l0_5 l0_6 l0_7 a0_8 l0_9 l0_10 = some r) :
 Calls Try.prog 8 #[.agg #[.string a0_0, .string a0_1, .slice A0_2 l0_2.length c0_2, .slice A0_3 l0_3.length c0_3, .slice A0_4 l0_4.length c0_4, .slice A0_5 l0_5.length c0_5, .slice A0_6 l0_6.length c0_6, .slice A0_7 l0_7.length c0_7, .string a0_8, .slice A0_9 l0_9.length c0_9, .slice A0_10 l0_10.length c0_10]] w fun e w' => e = .returned (.bool r) ∧ Below w.heap.size w w' := by
 have hu30 := Try.underlying30
 have HR0_2 := mk0 hr0_2
 have HC0_2 := mk0 hc0_2
 clear hr0_2 hc0_2
 have HR0_3 := mk0 hr0_3
 have HC0_3 := mk0 hc0_3
 clear hr0_3 hc0_3
 have HR0_4 := mk0 hr0_4
 have HC0_4 := mk0 hc0_4
 clear hr0_4 hc0_4
 have HR0_5 := mk0 hr0_5
 have HC0_5 := mk0 hc0_5
 clear hr0_5 hc0_5
 have HR0_6 := mk0 hr0_6
 have HC0_6 := mk0 hc0_6
 clear hr0_6 hc0_6
 have HR0_7 := mk0 hr0_7
 have HC0_7 := mk0 hc0_7
 clear hr0_7 hc0_7
 have HR0_9 := mk0 hr0_9
 have HC0_9 := mk0 hc0_9
 clear hr0_9 hc0_9
 have HR0_10 := mk0 hr0_10
 have HC0_10 := mk0 hc0_10
 clear hr0_10 hc0_10
 have HB := mk0 (Below.refl w.heap.size w)
 have H : (if (l0_2.length : Int) ≤ 20 then (if (l0_3.length : Int) ≤ 20 then (if (l0_5.length : Int) ≤ 20 then (if (l0_6.length : Int) ≤ 20 then (if (l0_7.length : Int) ≤ 40 then ((glossarylaw11_count.f k l0_4 0 0).bind fun t152 => (some (decide (t152 ≤ 100)))) else (some false)) else (some false)) else (some false)) else (some false)) else (some false)) = some r := h
 clear h
 by_cases c2 : (l0_2.length : Int) ≤ 20
 · as_aux_lemma =>
    rw [if_pos c2] at H
    have c2b0 : decide ((l0_2.length : Int) ≤ 20) = true := decide_eq_true c2
    have c2b1 : decide (l0_2.length ≤ 20) = true := decide_eq_true (by omega)
    clear c2
    by_cases c3 : (l0_3.length : Int) ≤ 20
    · as_aux_lemma =>
       rw [if_pos c3] at H
       have c3b0 : decide ((l0_3.length : Int) ≤ 20) = true := decide_eq_true c3
       have c3b1 : decide (l0_3.length ≤ 20) = true := decide_eq_true (by omega)
       clear c3
       by_cases c4 : (l0_5.length : Int) ≤ 20
       · as_aux_lemma =>
          rw [if_pos c4] at H
          have c4b0 : decide ((l0_5.length : Int) ≤ 20) = true := decide_eq_true c4
          have c4b1 : decide (l0_5.length ≤ 20) = true := decide_eq_true (by omega)
          clear c4
          by_cases c5 : (l0_6.length : Int) ≤ 20
          · as_aux_lemma =>
             rw [if_pos c5] at H
             have c5b0 : decide ((l0_6.length : Int) ≤ 20) = true := decide_eq_true c5
             have c5b1 : decide (l0_6.length ≤ 20) = true := decide_eq_true (by omega)
             clear c5
             by_cases c6 : (l0_7.length : Int) ≤ 40
             · as_aux_lemma =>
                rw [if_pos c6] at H
                have c6b0 : decide ((l0_7.length : Int) ≤ 40) = true := decide_eq_true c6
                have c6b1 : decide (l0_7.length ≤ 40) = true := decide_eq_true (by omega)
                clear c6
                replace H := Option.bind_eq_some_iff.mp H
                obtain ⟨t152, A70, H⟩ := H
                replace H : (some (decide (t152 ≤ 100))) = some r := H
                have A7 := mk0 A70
                clear A70
                as_aux_lemma =>
                 obtain rfl := Option.some.inj H
                 go_enter Try.func8, Try.ntmps8
                 go_wp2_with (first | ((with_reducible refine gate_dst (N := 1) rfl ?_); (try (refine gate_guard (by rfl) ?_; dsimp only)); refine box_event ?hg (N := 1) ?hd (cs := #[.string a0_0, .string a0_1, .slice A0_2 l0_2.length c0_2, .slice A0_3 l0_3.length c0_3, .slice A0_4 l0_4.length c0_4, .slice A0_5 l0_5.length c0_5, .slice A0_6 l0_6.length c0_6, .slice A0_7 l0_7.length c0_7, .string a0_8, .slice A0_9 l0_9.length c0_9, .slice A0_10 l0_10.length c0_10]) (t := 30) ?hr ?_; (case hd => rfl); (case hg => rfl); (case hr => first | (go_simp; done) | (go_simp; rfl)); intro gb151 hg w8 hbox hb; have n0_ := mk0 (below_step (by repeat (first | (with_reducible first | exact HB.out | apply below_alloc | apply pw_below_drewN | apply below_drew1) | exact HB.out)) hb); have n1_ := mk0 (hbox); have n2_ := mk0 ((by rw [hg]; exact (below_size (by repeat (first | (with_reducible first | exact HB.out | apply below_alloc | apply pw_below_drewN | apply below_drew1) | exact HB.out))) : w.heap.size ≤ gb151)); have n3_ := mk0 ((by rw [hg]; exact (below_size (by repeat (first | (with_reducible first | exact HB.out | apply below_alloc | apply pw_below_drewN | apply below_drew1) | exact HB.out))) : w.heap.size ≤ gb151)); clear HB; have HB := n0_; have BK151 := n1_; have GW151 := n2_; have GE151 := n3_; clear n0_ n1_ n2_ n3_; clear hb hbox hg; have hcz9_0 : w8.cell? ⟨gb151, 0, none⟩ = some (.string a0_0) := (blk_cell BK151.out 0).trans rfl; have hcz9_1 : w8.cell? ⟨gb151, 1, none⟩ = some (.string a0_1) := (blk_cell BK151.out 1).trans rfl; have hcz9_2 : w8.cell? ⟨gb151, 2, none⟩ = some (.slice A0_2 l0_2.length c0_2) := (blk_cell BK151.out 2).trans rfl; have hcz9_3 : w8.cell? ⟨gb151, 3, none⟩ = some (.slice A0_3 l0_3.length c0_3) := (blk_cell BK151.out 3).trans rfl; have hcz9_4 : w8.cell? ⟨gb151, 4, none⟩ = some (.slice A0_4 l0_4.length c0_4) := (blk_cell BK151.out 4).trans rfl; have hcz9_5 : w8.cell? ⟨gb151, 5, none⟩ = some (.slice A0_5 l0_5.length c0_5) := (blk_cell BK151.out 5).trans rfl; have hcz9_6 : w8.cell? ⟨gb151, 6, none⟩ = some (.slice A0_6 l0_6.length c0_6) := (blk_cell BK151.out 6).trans rfl; have hcz9_7 : w8.cell? ⟨gb151, 7, none⟩ = some (.slice A0_7 l0_7.length c0_7) := (blk_cell BK151.out 7).trans rfl; have hcz9_8 : w8.cell? ⟨gb151, 8, none⟩ = some (.string a0_8) := (blk_cell BK151.out 8).trans rfl; have hcz9_9 : w8.cell? ⟨gb151, 9, none⟩ = some (.slice A0_9 l0_9.length c0_9) := (blk_cell BK151.out 9).trans rfl; have hcz9_10 : w8.cell? ⟨gb151, 10, none⟩ = some (.slice A0_10 l0_10.length c0_10) := (blk_cell BK151.out 10).trans rfl; have hfz9_0 := blk_frozen BK151.out 0; have hfz9_1 := blk_frozen BK151.out 1; have hfz9_2 := blk_frozen BK151.out 2; have hfz9_3 := blk_frozen BK151.out 3; have hfz9_4 := blk_frozen BK151.out 4; have hfz9_5 := blk_frozen BK151.out 5; have hfz9_6 := blk_frozen BK151.out 6; have hfz9_7 := blk_frozen BK151.out 7; have hfz9_8 := blk_frozen BK151.out 8; have hfz9_9 := blk_frozen BK151.out 9; have hfz9_10 := blk_frozen BK151.out 10) | (go_at_call 16; (with_reducible refine (glossarylaw11_count.calls k _ _ l0_4 0 0 t152 _ ?side1 ?side2 A7.out).mono ?_); (case side1 => repeat (first | exact (Kd.C_below HR0_4.out HB.out) | (with_reducible refine Kd.C_alloc ?_ _) | (with_reducible refine Kd.C_drewN ?_ _) | (with_reducible refine Kd.C_drew ?_))); (case side2 => exact HC0_4.out); rintro e w10 ⟨rfl, hb⟩; have n0_ := mk0 (blk_below (g := gb151) (o := .cells #[.string a0_0, .string a0_1, .slice A0_2 l0_2.length c0_2, .slice A0_3 l0_3.length c0_3, .slice A0_4 l0_4.length c0_4, .slice A0_5 l0_5.length c0_5, .slice A0_6 l0_6.length c0_6, .slice A0_7 l0_7.length c0_7, .string a0_8, .slice A0_9 l0_9.length c0_9, .slice A0_10 l0_10.length c0_10] 30 (0, 0)) (by (with_reducible repeat (first | refine blk_drewN ?_ _ | refine blk_drew ?_ | refine blk_alloc ?_ _)); exact BK151.out) hb); have n1_ := mk0 (below_step (by repeat (first | (with_reducible first | exact HB.out | apply below_alloc | apply pw_below_drewN | apply below_drew1 | refine below_set ?_ GE151.out) | exact HB.out)) hb); clear BK151; clear HB; have BK151 := n0_; have HB := n1_; clear n0_ n1_; (try clear hb); (try clear hb2); (try clear hk); (try clear hi)))
                 go_ret
                 exact ⟨by first | rfl | (simp [errW_none, errW_some] <;> rfl) | (simp [*, errW_none, errW_some] <;> rfl), by repeat (first | (with_reducible first | exact HB.out | apply below_alloc | apply pw_below_drewN | apply below_drew1 | refine below_set ?_ GE151.out) | exact HB.out)⟩
             · as_aux_lemma =>
                rw [if_neg c6] at H
                have c6b0 : decide ((l0_7.length : Int) ≤ 40) = false := decide_eq_false c6
                have c6b1 : decide (l0_7.length ≤ 40) = false := decide_eq_false (by omega)
                clear c6
                as_aux_lemma =>
                 obtain rfl := Option.some.inj H
                 go_enter Try.func8, Try.ntmps8
                 go_wp2_with (first | ((with_reducible refine gate_dst (N := 1) rfl ?_); (try (refine gate_guard (by rfl) ?_; dsimp only)); refine box_event ?hg (N := 1) ?hd (cs := #[.string a0_0, .string a0_1, .slice A0_2 l0_2.length c0_2, .slice A0_3 l0_3.length c0_3, .slice A0_4 l0_4.length c0_4, .slice A0_5 l0_5.length c0_5, .slice A0_6 l0_6.length c0_6, .slice A0_7 l0_7.length c0_7, .string a0_8, .slice A0_9 l0_9.length c0_9, .slice A0_10 l0_10.length c0_10]) (t := 30) ?hr ?_; (case hd => rfl); (case hg => rfl); (case hr => first | (go_simp; done) | (go_simp; rfl)); intro gb151 hg w11 hbox hb; have n0_ := mk0 (below_step (by repeat (first | (with_reducible first | exact HB.out | apply below_alloc | apply pw_below_drewN | apply below_drew1) | exact HB.out)) hb); have n1_ := mk0 (hbox); have n2_ := mk0 ((by rw [hg]; exact (below_size (by repeat (first | (with_reducible first | exact HB.out | apply below_alloc | apply pw_below_drewN | apply below_drew1) | exact HB.out))) : w.heap.size ≤ gb151)); have n3_ := mk0 ((by rw [hg]; exact (below_size (by repeat (first | (with_reducible first | exact HB.out | apply below_alloc | apply pw_below_drewN | apply below_drew1) | exact HB.out))) : w.heap.size ≤ gb151)); clear HB; have HB := n0_; have BK151 := n1_; have GW151 := n2_; have GE151 := n3_; clear n0_ n1_ n2_ n3_; clear hb hbox hg; have hcz12_0 : w11.cell? ⟨gb151, 0, none⟩ = some (.string a0_0) := (blk_cell BK151.out 0).trans rfl; have hcz12_1 : w11.cell? ⟨gb151, 1, none⟩ = some (.string a0_1) := (blk_cell BK151.out 1).trans rfl; have hcz12_2 : w11.cell? ⟨gb151, 2, none⟩ = some (.slice A0_2 l0_2.length c0_2) := (blk_cell BK151.out 2).trans rfl; have hcz12_3 : w11.cell? ⟨gb151, 3, none⟩ = some (.slice A0_3 l0_3.length c0_3) := (blk_cell BK151.out 3).trans rfl; have hcz12_4 : w11.cell? ⟨gb151, 4, none⟩ = some (.slice A0_4 l0_4.length c0_4) := (blk_cell BK151.out 4).trans rfl; have hcz12_5 : w11.cell? ⟨gb151, 5, none⟩ = some (.slice A0_5 l0_5.length c0_5) := (blk_cell BK151.out 5).trans rfl; have hcz12_6 : w11.cell? ⟨gb151, 6, none⟩ = some (.slice A0_6 l0_6.length c0_6) := (blk_cell BK151.out 6).trans rfl; have hcz12_7 : w11.cell? ⟨gb151, 7, none⟩ = some (.slice A0_7 l0_7.length c0_7) := (blk_cell BK151.out 7).trans rfl; have hcz12_8 : w11.cell? ⟨gb151, 8, none⟩ = some (.string a0_8) := (blk_cell BK151.out 8).trans rfl; have hcz12_9 : w11.cell? ⟨gb151, 9, none⟩ = some (.slice A0_9 l0_9.length c0_9) := (blk_cell BK151.out 9).trans rfl; have hcz12_10 : w11.cell? ⟨gb151, 10, none⟩ = some (.slice A0_10 l0_10.length c0_10) := (blk_cell BK151.out 10).trans rfl; have hfz12_0 := blk_frozen BK151.out 0; have hfz12_1 := blk_frozen BK151.out 1; have hfz12_2 := blk_frozen BK151.out 2; have hfz12_3 := blk_frozen BK151.out 3; have hfz12_4 := blk_frozen BK151.out 4; have hfz12_5 := blk_frozen BK151.out 5; have hfz12_6 := blk_frozen BK151.out 6; have hfz12_7 := blk_frozen BK151.out 7; have hfz12_8 := blk_frozen BK151.out 8; have hfz12_9 := blk_frozen BK151.out 9; have hfz12_10 := blk_frozen BK151.out 10))
                 go_ret
                 exact ⟨by first | rfl | (simp [errW_none, errW_some] <;> rfl) | (simp [*, errW_none, errW_some] <;> rfl), by repeat (first | (with_reducible first | exact HB.out | apply below_alloc | apply pw_below_drewN | apply below_drew1 | refine below_set ?_ GE151.out) | exact HB.out)⟩
          · as_aux_lemma =>
             rw [if_neg c5] at H
             have c5b0 : decide ((l0_6.length : Int) ≤ 20) = false := decide_eq_false c5
             have c5b1 : decide (l0_6.length ≤ 20) = false := decide_eq_false (by omega)
             clear c5
             as_aux_lemma =>
              obtain rfl := Option.some.inj H
              go_enter Try.func8, Try.ntmps8
              go_wp2_with (first | ((with_reducible refine gate_dst (N := 1) rfl ?_); (try (refine gate_guard (by rfl) ?_; dsimp only)); refine box_event ?hg (N := 1) ?hd (cs := #[.string a0_0, .string a0_1, .slice A0_2 l0_2.length c0_2, .slice A0_3 l0_3.length c0_3, .slice A0_4 l0_4.length c0_4, .slice A0_5 l0_5.length c0_5, .slice A0_6 l0_6.length c0_6, .slice A0_7 l0_7.length c0_7, .string a0_8, .slice A0_9 l0_9.length c0_9, .slice A0_10 l0_10.length c0_10]) (t := 30) ?hr ?_; (case hd => rfl); (case hg => rfl); (case hr => first | (go_simp; done) | (go_simp; rfl)); intro gb151 hg w13 hbox hb; have n0_ := mk0 (below_step (by repeat (first | (with_reducible first | exact HB.out | apply below_alloc | apply pw_below_drewN | apply below_drew1) | exact HB.out)) hb); have n1_ := mk0 (hbox); have n2_ := mk0 ((by rw [hg]; exact (below_size (by repeat (first | (with_reducible first | exact HB.out | apply below_alloc | apply pw_below_drewN | apply below_drew1) | exact HB.out))) : w.heap.size ≤ gb151)); have n3_ := mk0 ((by rw [hg]; exact (below_size (by repeat (first | (with_reducible first | exact HB.out | apply below_alloc | apply pw_below_drewN | apply below_drew1) | exact HB.out))) : w.heap.size ≤ gb151)); clear HB; have HB := n0_; have BK151 := n1_; have GW151 := n2_; have GE151 := n3_; clear n0_ n1_ n2_ n3_; clear hb hbox hg; have hcz14_0 : w13.cell? ⟨gb151, 0, none⟩ = some (.string a0_0) := (blk_cell BK151.out 0).trans rfl; have hcz14_1 : w13.cell? ⟨gb151, 1, none⟩ = some (.string a0_1) := (blk_cell BK151.out 1).trans rfl; have hcz14_2 : w13.cell? ⟨gb151, 2, none⟩ = some (.slice A0_2 l0_2.length c0_2) := (blk_cell BK151.out 2).trans rfl; have hcz14_3 : w13.cell? ⟨gb151, 3, none⟩ = some (.slice A0_3 l0_3.length c0_3) := (blk_cell BK151.out 3).trans rfl; have hcz14_4 : w13.cell? ⟨gb151, 4, none⟩ = some (.slice A0_4 l0_4.length c0_4) := (blk_cell BK151.out 4).trans rfl; have hcz14_5 : w13.cell? ⟨gb151, 5, none⟩ = some (.slice A0_5 l0_5.length c0_5) := (blk_cell BK151.out 5).trans rfl; have hcz14_6 : w13.cell? ⟨gb151, 6, none⟩ = some (.slice A0_6 l0_6.length c0_6) := (blk_cell BK151.out 6).trans rfl; have hcz14_7 : w13.cell? ⟨gb151, 7, none⟩ = some (.slice A0_7 l0_7.length c0_7) := (blk_cell BK151.out 7).trans rfl; have hcz14_8 : w13.cell? ⟨gb151, 8, none⟩ = some (.string a0_8) := (blk_cell BK151.out 8).trans rfl; have hcz14_9 : w13.cell? ⟨gb151, 9, none⟩ = some (.slice A0_9 l0_9.length c0_9) := (blk_cell BK151.out 9).trans rfl; have hcz14_10 : w13.cell? ⟨gb151, 10, none⟩ = some (.slice A0_10 l0_10.length c0_10) := (blk_cell BK151.out 10).trans rfl; have hfz14_0 := blk_frozen BK151.out 0; have hfz14_1 := blk_frozen BK151.out 1; have hfz14_2 := blk_frozen BK151.out 2; have hfz14_3 := blk_frozen BK151.out 3; have hfz14_4 := blk_frozen BK151.out 4; have hfz14_5 := blk_frozen BK151.out 5; have hfz14_6 := blk_frozen BK151.out 6; have hfz14_7 := blk_frozen BK151.out 7; have hfz14_8 := blk_frozen BK151.out 8; have hfz14_9 := blk_frozen BK151.out 9; have hfz14_10 := blk_frozen BK151.out 10))
              go_ret
              exact ⟨by first | rfl | (simp [errW_none, errW_some] <;> rfl) | (simp [*, errW_none, errW_some] <;> rfl), by repeat (first | (with_reducible first | exact HB.out | apply below_alloc | apply pw_below_drewN | apply below_drew1 | refine below_set ?_ GE151.out) | exact HB.out)⟩
       · as_aux_lemma =>
          rw [if_neg c4] at H
          have c4b0 : decide ((l0_5.length : Int) ≤ 20) = false := decide_eq_false c4
          have c4b1 : decide (l0_5.length ≤ 20) = false := decide_eq_false (by omega)
          clear c4
          as_aux_lemma =>
           obtain rfl := Option.some.inj H
           go_enter Try.func8, Try.ntmps8
           go_wp2_with (first | ((with_reducible refine gate_dst (N := 1) rfl ?_); (try (refine gate_guard (by rfl) ?_; dsimp only)); refine box_event ?hg (N := 1) ?hd (cs := #[.string a0_0, .string a0_1, .slice A0_2 l0_2.length c0_2, .slice A0_3 l0_3.length c0_3, .slice A0_4 l0_4.length c0_4, .slice A0_5 l0_5.length c0_5, .slice A0_6 l0_6.length c0_6, .slice A0_7 l0_7.length c0_7, .string a0_8, .slice A0_9 l0_9.length c0_9, .slice A0_10 l0_10.length c0_10]) (t := 30) ?hr ?_; (case hd => rfl); (case hg => rfl); (case hr => first | (go_simp; done) | (go_simp; rfl)); intro gb151 hg w15 hbox hb; have n0_ := mk0 (below_step (by repeat (first | (with_reducible first | exact HB.out | apply below_alloc | apply pw_below_drewN | apply below_drew1) | exact HB.out)) hb); have n1_ := mk0 (hbox); have n2_ := mk0 ((by rw [hg]; exact (below_size (by repeat (first | (with_reducible first | exact HB.out | apply below_alloc | apply pw_below_drewN | apply below_drew1) | exact HB.out))) : w.heap.size ≤ gb151)); have n3_ := mk0 ((by rw [hg]; exact (below_size (by repeat (first | (with_reducible first | exact HB.out | apply below_alloc | apply pw_below_drewN | apply below_drew1) | exact HB.out))) : w.heap.size ≤ gb151)); clear HB; have HB := n0_; have BK151 := n1_; have GW151 := n2_; have GE151 := n3_; clear n0_ n1_ n2_ n3_; clear hb hbox hg; have hcz16_0 : w15.cell? ⟨gb151, 0, none⟩ = some (.string a0_0) := (blk_cell BK151.out 0).trans rfl; have hcz16_1 : w15.cell? ⟨gb151, 1, none⟩ = some (.string a0_1) := (blk_cell BK151.out 1).trans rfl; have hcz16_2 : w15.cell? ⟨gb151, 2, none⟩ = some (.slice A0_2 l0_2.length c0_2) := (blk_cell BK151.out 2).trans rfl; have hcz16_3 : w15.cell? ⟨gb151, 3, none⟩ = some (.slice A0_3 l0_3.length c0_3) := (blk_cell BK151.out 3).trans rfl; have hcz16_4 : w15.cell? ⟨gb151, 4, none⟩ = some (.slice A0_4 l0_4.length c0_4) := (blk_cell BK151.out 4).trans rfl; have hcz16_5 : w15.cell? ⟨gb151, 5, none⟩ = some (.slice A0_5 l0_5.length c0_5) := (blk_cell BK151.out 5).trans rfl; have hcz16_6 : w15.cell? ⟨gb151, 6, none⟩ = some (.slice A0_6 l0_6.length c0_6) := (blk_cell BK151.out 6).trans rfl; have hcz16_7 : w15.cell? ⟨gb151, 7, none⟩ = some (.slice A0_7 l0_7.length c0_7) := (blk_cell BK151.out 7).trans rfl; have hcz16_8 : w15.cell? ⟨gb151, 8, none⟩ = some (.string a0_8) := (blk_cell BK151.out 8).trans rfl; have hcz16_9 : w15.cell? ⟨gb151, 9, none⟩ = some (.slice A0_9 l0_9.length c0_9) := (blk_cell BK151.out 9).trans rfl; have hcz16_10 : w15.cell? ⟨gb151, 10, none⟩ = some (.slice A0_10 l0_10.length c0_10) := (blk_cell BK151.out 10).trans rfl; have hfz16_0 := blk_frozen BK151.out 0; have hfz16_1 := blk_frozen BK151.out 1; have hfz16_2 := blk_frozen BK151.out 2; have hfz16_3 := blk_frozen BK151.out 3; have hfz16_4 := blk_frozen BK151.out 4; have hfz16_5 := blk_frozen BK151.out 5; have hfz16_6 := blk_frozen BK151.out 6; have hfz16_7 := blk_frozen BK151.out 7; have hfz16_8 := blk_frozen BK151.out 8; have hfz16_9 := blk_frozen BK151.out 9; have hfz16_10 := blk_frozen BK151.out 10))
           go_ret
           exact ⟨by first | rfl | (simp [errW_none, errW_some] <;> rfl) | (simp [*, errW_none, errW_some] <;> rfl), by repeat (first | (with_reducible first | exact HB.out | apply below_alloc | apply pw_below_drewN | apply below_drew1 | refine below_set ?_ GE151.out) | exact HB.out)⟩
    · as_aux_lemma =>
       rw [if_neg c3] at H
       have c3b0 : decide ((l0_3.length : Int) ≤ 20) = false := decide_eq_false c3
       have c3b1 : decide (l0_3.length ≤ 20) = false := decide_eq_false (by omega)
       clear c3
       as_aux_lemma =>
        obtain rfl := Option.some.inj H
        go_enter Try.func8, Try.ntmps8
        go_wp2_with (first | ((with_reducible refine gate_dst (N := 1) rfl ?_); (try (refine gate_guard (by rfl) ?_; dsimp only)); refine box_event ?hg (N := 1) ?hd (cs := #[.string a0_0, .string a0_1, .slice A0_2 l0_2.length c0_2, .slice A0_3 l0_3.length c0_3, .slice A0_4 l0_4.length c0_4, .slice A0_5 l0_5.length c0_5, .slice A0_6 l0_6.length c0_6, .slice A0_7 l0_7.length c0_7, .string a0_8, .slice A0_9 l0_9.length c0_9, .slice A0_10 l0_10.length c0_10]) (t := 30) ?hr ?_; (case hd => rfl); (case hg => rfl); (case hr => first | (go_simp; done) | (go_simp; rfl)); intro gb151 hg w17 hbox hb; have n0_ := mk0 (below_step (by repeat (first | (with_reducible first | exact HB.out | apply below_alloc | apply pw_below_drewN | apply below_drew1) | exact HB.out)) hb); have n1_ := mk0 (hbox); have n2_ := mk0 ((by rw [hg]; exact (below_size (by repeat (first | (with_reducible first | exact HB.out | apply below_alloc | apply pw_below_drewN | apply below_drew1) | exact HB.out))) : w.heap.size ≤ gb151)); have n3_ := mk0 ((by rw [hg]; exact (below_size (by repeat (first | (with_reducible first | exact HB.out | apply below_alloc | apply pw_below_drewN | apply below_drew1) | exact HB.out))) : w.heap.size ≤ gb151)); clear HB; have HB := n0_; have BK151 := n1_; have GW151 := n2_; have GE151 := n3_; clear n0_ n1_ n2_ n3_; clear hb hbox hg; have hcz18_0 : w17.cell? ⟨gb151, 0, none⟩ = some (.string a0_0) := (blk_cell BK151.out 0).trans rfl; have hcz18_1 : w17.cell? ⟨gb151, 1, none⟩ = some (.string a0_1) := (blk_cell BK151.out 1).trans rfl; have hcz18_2 : w17.cell? ⟨gb151, 2, none⟩ = some (.slice A0_2 l0_2.length c0_2) := (blk_cell BK151.out 2).trans rfl; have hcz18_3 : w17.cell? ⟨gb151, 3, none⟩ = some (.slice A0_3 l0_3.length c0_3) := (blk_cell BK151.out 3).trans rfl; have hcz18_4 : w17.cell? ⟨gb151, 4, none⟩ = some (.slice A0_4 l0_4.length c0_4) := (blk_cell BK151.out 4).trans rfl; have hcz18_5 : w17.cell? ⟨gb151, 5, none⟩ = some (.slice A0_5 l0_5.length c0_5) := (blk_cell BK151.out 5).trans rfl; have hcz18_6 : w17.cell? ⟨gb151, 6, none⟩ = some (.slice A0_6 l0_6.length c0_6) := (blk_cell BK151.out 6).trans rfl; have hcz18_7 : w17.cell? ⟨gb151, 7, none⟩ = some (.slice A0_7 l0_7.length c0_7) := (blk_cell BK151.out 7).trans rfl; have hcz18_8 : w17.cell? ⟨gb151, 8, none⟩ = some (.string a0_8) := (blk_cell BK151.out 8).trans rfl; have hcz18_9 : w17.cell? ⟨gb151, 9, none⟩ = some (.slice A0_9 l0_9.length c0_9) := (blk_cell BK151.out 9).trans rfl; have hcz18_10 : w17.cell? ⟨gb151, 10, none⟩ = some (.slice A0_10 l0_10.length c0_10) := (blk_cell BK151.out 10).trans rfl; have hfz18_0 := blk_frozen BK151.out 0; have hfz18_1 := blk_frozen BK151.out 1; have hfz18_2 := blk_frozen BK151.out 2; have hfz18_3 := blk_frozen BK151.out 3; have hfz18_4 := blk_frozen BK151.out 4; have hfz18_5 := blk_frozen BK151.out 5; have hfz18_6 := blk_frozen BK151.out 6; have hfz18_7 := blk_frozen BK151.out 7; have hfz18_8 := blk_frozen BK151.out 8; have hfz18_9 := blk_frozen BK151.out 9; have hfz18_10 := blk_frozen BK151.out 10))
        go_ret
        exact ⟨by first | rfl | (simp [errW_none, errW_some] <;> rfl) | (simp [*, errW_none, errW_some] <;> rfl), by repeat (first | (with_reducible first | exact HB.out | apply below_alloc | apply pw_below_drewN | apply below_drew1 | refine below_set ?_ GE151.out) | exact HB.out)⟩
 · as_aux_lemma =>
    rw [if_neg c2] at H
    have c2b0 : decide ((l0_2.length : Int) ≤ 20) = false := decide_eq_false c2
    have c2b1 : decide (l0_2.length ≤ 20) = false := decide_eq_false (by omega)
    clear c2
    as_aux_lemma =>
     obtain rfl := Option.some.inj H
     go_enter Try.func8, Try.ntmps8
     go_wp2_with (first | ((with_reducible refine gate_dst (N := 1) rfl ?_); (try (refine gate_guard (by rfl) ?_; dsimp only)); refine box_event ?hg (N := 1) ?hd (cs := #[.string a0_0, .string a0_1, .slice A0_2 l0_2.length c0_2, .slice A0_3 l0_3.length c0_3, .slice A0_4 l0_4.length c0_4, .slice A0_5 l0_5.length c0_5, .slice A0_6 l0_6.length c0_6, .slice A0_7 l0_7.length c0_7, .string a0_8, .slice A0_9 l0_9.length c0_9, .slice A0_10 l0_10.length c0_10]) (t := 30) ?hr ?_; (case hd => rfl); (case hg => rfl); (case hr => first | (go_simp; done) | (go_simp; rfl)); intro gb151 hg w19 hbox hb; have n0_ := mk0 (below_step (by repeat (first | (with_reducible first | exact HB.out | apply below_alloc | apply pw_below_drewN | apply below_drew1) | exact HB.out)) hb); have n1_ := mk0 (hbox); have n2_ := mk0 ((by rw [hg]; exact (below_size (by repeat (first | (with_reducible first | exact HB.out | apply below_alloc | apply pw_below_drewN | apply below_drew1) | exact HB.out))) : w.heap.size ≤ gb151)); have n3_ := mk0 ((by rw [hg]; exact (below_size (by repeat (first | (with_reducible first | exact HB.out | apply below_alloc | apply pw_below_drewN | apply below_drew1) | exact HB.out))) : w.heap.size ≤ gb151)); clear HB; have HB := n0_; have BK151 := n1_; have GW151 := n2_; have GE151 := n3_; clear n0_ n1_ n2_ n3_; clear hb hbox hg; have hcz20_0 : w19.cell? ⟨gb151, 0, none⟩ = some (.string a0_0) := (blk_cell BK151.out 0).trans rfl; have hcz20_1 : w19.cell? ⟨gb151, 1, none⟩ = some (.string a0_1) := (blk_cell BK151.out 1).trans rfl; have hcz20_2 : w19.cell? ⟨gb151, 2, none⟩ = some (.slice A0_2 l0_2.length c0_2) := (blk_cell BK151.out 2).trans rfl; have hcz20_3 : w19.cell? ⟨gb151, 3, none⟩ = some (.slice A0_3 l0_3.length c0_3) := (blk_cell BK151.out 3).trans rfl; have hcz20_4 : w19.cell? ⟨gb151, 4, none⟩ = some (.slice A0_4 l0_4.length c0_4) := (blk_cell BK151.out 4).trans rfl; have hcz20_5 : w19.cell? ⟨gb151, 5, none⟩ = some (.slice A0_5 l0_5.length c0_5) := (blk_cell BK151.out 5).trans rfl; have hcz20_6 : w19.cell? ⟨gb151, 6, none⟩ = some (.slice A0_6 l0_6.length c0_6) := (blk_cell BK151.out 6).trans rfl; have hcz20_7 : w19.cell? ⟨gb151, 7, none⟩ = some (.slice A0_7 l0_7.length c0_7) := (blk_cell BK151.out 7).trans rfl; have hcz20_8 : w19.cell? ⟨gb151, 8, none⟩ = some (.string a0_8) := (blk_cell BK151.out 8).trans rfl; have hcz20_9 : w19.cell? ⟨gb151, 9, none⟩ = some (.slice A0_9 l0_9.length c0_9) := (blk_cell BK151.out 9).trans rfl; have hcz20_10 : w19.cell? ⟨gb151, 10, none⟩ = some (.slice A0_10 l0_10.length c0_10) := (blk_cell BK151.out 10).trans rfl; have hfz20_0 := blk_frozen BK151.out 0; have hfz20_1 := blk_frozen BK151.out 1; have hfz20_2 := blk_frozen BK151.out 2; have hfz20_3 := blk_frozen BK151.out 3; have hfz20_4 := blk_frozen BK151.out 4; have hfz20_5 := blk_frozen BK151.out 5; have hfz20_6 := blk_frozen BK151.out 6; have hfz20_7 := blk_frozen BK151.out 7; have hfz20_8 := blk_frozen BK151.out 8; have hfz20_9 := blk_frozen BK151.out 9; have hfz20_10 := blk_frozen BK151.out 10))
     go_ret
     exact ⟨by first | rfl | (simp [errW_none, errW_some] <;> rfl) | (simp [*, errW_none, errW_some] <;> rfl), by repeat (first | (with_reducible first | exact HB.out | apply below_alloc | apply pw_below_drewN | apply below_drew1 | refine below_set ?_ GE151.out) | exact HB.out)⟩
end Go.Proofs.Yticnihfjnjliiaa.GDescGrows
