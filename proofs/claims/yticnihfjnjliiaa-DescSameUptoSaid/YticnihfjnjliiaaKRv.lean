/- The reference's Put of bytes, of a number. -/
import Derived.Test.YticnihfjnjliiaaKRq
import Derived.Test.YticnihfjnjliiaaKSp
import Derived.Test.YticnihfjnjliiaaKSw
import Derived.LoopN
import Derived.RegionTactic
namespace Go.Proofs.Yticnihfjnjliiaa.R1
open Go.Proofs.Yticnihfjnjliiaa.Rp Go.Proofs.Yticnihfjnjliiaa.Rq Go.RowKit Go.Proofs.Yticnihfjnjliiaa.GDescGrows Go.Proofs.YticnihfjnjliiaaW.PrintWords Go.Proofs.YticnihfjnjliiaaW.PrintLast Go.Proofs.YticnihfjnjliiaaW.PrintMore Go.Proofs.Yticnihfjnjliiaa.Vb Go.Proofs.Yticnihfjnjliiaa.Wr Go.Proofs.Yticnihfjnjliiaa.Wp Go.Proofs.Yticnihfjnjliiaa.Rk Go.Proofs.Yticnihfjnjliiaa.Sp
set_option linter.unusedVariables false
set_option linter.unusedSimpArgs false
set_option maxHeartbeats 8000000 in
set_option maxRecDepth 100000 in
theorem rkind0 (w : World) : Calls Try.prog 93 #[.int .i64 0] w fun e w' => w' = w ∧ e = .returned (.bool true) := by
 go_enter Try.func93, Try.ntmps93
 go_wp2
 go_ret
 exact ⟨rfl, rfl⟩
set_option maxHeartbeats 8000000 in
set_option maxRecDepth 100000 in
theorem rkind2 (w : World) : Calls Try.prog 93 #[.int .i64 2] w fun e w' => w' = w ∧ e = .returned (.bool true) := by
 go_enter Try.func93, Try.ntmps93
 go_wp2
 go_ret
 exact ⟨rfl, rfl⟩
set_option maxHeartbeats 8000000 in
set_option maxRecDepth 100000 in
theorem rput0_c (num n : Int) (w : World) (hn : 1 ≤ num ∧ num ≤ 536870911) :
 Calls Try.prog 70 #[.agg #[.int .i64 num, .int .i64 0, .int .u64 (IntKind.u64.wrap n), .slice none 0 0]] w fun e w' => ∃ v, e = .returned (.tuple #[v, .int .i64 0]) ∧ Kd.R (Kd.int .u8) 5 w' w.heap.size (fun _ => True) v (fN num n) ∧ Below w.heap.size w w' := by
 have lt0 : decide (num < 1) = false := decide_eq_false (by omega)
 have gt0 : decide (num > 536870911) = false := decide_eq_false (by omega)
 have m0 : wrap64 (8 * num) = 8 * num := by unfold wrap64; omega
 have m1 : wrap64 (8 * num + 0) = 8 * num + 0 := by unfold wrap64; omega
 have m2 : IntKind.u64.wrap (8 * num + 0) = 8 * num + 0 := by rw [wrap_u64]; omega
 have m3 : IntKind.u64.wrap (8 * num) = 8 * num := by rw [wrap_u64]; omega
 have HN0 : Aside0 (0 ≤ 8 * num + 0) := ⟨by omega⟩
 have HN1 : Aside0 (8 * num + 0 < 18446744073709551616) := ⟨by omega⟩
 have hres : Aside0 (fN num n = vb (8 * num + 0).toNat ++ vb (IntKind.u64.wrap n).toNat) := ⟨rfl⟩
 have a0 : 8 * num + 0 = 8 * num := by omega
 rw [a0] at HN0 HN1 hres m1 m2
 obtain ⟨x1, hx1⟩ : ∃ z, vb (8 * num).toNat = z := ⟨_, rfl⟩
 obtain ⟨x2, hx2⟩ : ∃ z, vb (IntKind.u64.wrap n).toNat = z := ⟨_, rfl⟩
 obtain ⟨y, hy⟩ : ∃ z, IntKind.u64.wrap n = z := ⟨_, rfl⟩
 have u0 := u64_in n
 have HV1 : Aside0 (glossaryref01_Varint.f 11 (8 * num) = some x1) := ⟨by rw [← hx1]; exact rvarint_f 11 _ HN0.out HN1.out (by decide)⟩
 have HV2 : Aside0 (glossaryref01_Varint.f 11 y = some x2) := ⟨by rw [← hx2, ← hy]; exact rvarint_f 11 _ u0.1 u0.2 (by decide)⟩
 have HL : Aside0 (x1.length + x2.length ≤ 140737488355328) := ⟨by have h1 := vb_ten (8 * num).toNat (by omega); have h2 := vb_ten (IntKind.u64.wrap n).toNat (by omega); rw [hx1] at h1; rw [hx2] at h2; omega⟩
 rw [hx1, hx2] at hres
 rw [hy]
 clear hx1 hx2 hy u0 hn a0
 go_enter Try.func70, Try.ntmps70
 go_wp2_with (first | ((with_reducible refine gate_dst (N := 1) rfl ?_); (try (refine gate_guard (by rfl) ?_; dsimp only)); refine box_event ?hg (N := 1) ?hd (cs := #[.int .i64 num, .int .i64 0, .int .u64 y, .slice none 0 0]) (t := 84) ?hr ?_; (case hd => rfl); (case hg => rfl); (case hr => first | (go_simp; done) | (go_simp; rfl)); intro gb hgb w1 hbox hb1; have HB := mk0 hb1; have BK := mk0 hbox; clear hgb hbox hb1; have s0_ : _ = some ((.int .i64 num) : Value) := (blk_cell BK.out 0).trans rfl; have s1_ : _ = some ((.int .i64 0) : Value) := (blk_cell BK.out 1).trans rfl; have s2_ : _ = some ((.int .u64 y) : Value) := (blk_cell BK.out 2).trans rfl; have s3_ : _ = some ((.slice none 0 0) : Value) := (blk_cell BK.out 3).trans rfl) | (go_at_call 93; refine (rkind0 _).mono ?_; rintro e w1 ⟨hw_, he⟩; subst hw_; subst he) | (go_at_call 94; (with_reducible refine (glossaryref01_Varint.calls 11 (8 * num) x1 _ HV1.out).mono ?_); rintro e wq ⟨v_, rfl, ho, hb⟩; obtain ⟨A1, c1, ex_⟩ := Kd.R_slice ho; subst ex_; have n0_ := mk0 (below_then HB.out HB.out.size hb); have n1_ := mk0 (blk_below BK.out hb); have HR1 := mk0 (Kd.R_lower ho HB.out.size); clear HB BK; have HB := n0_; have BK := n1_; clear n0_ n1_; clear ho hb s0_ s1_ s2_ s3_; have s0_ : _ = some ((.int .i64 num) : Value) := (blk_cell BK.out 0).trans rfl; have s1_ : _ = some ((.int .i64 0) : Value) := (blk_cell BK.out 1).trans rfl; have s2_ : _ = some ((.int .u64 y) : Value) := (blk_cell BK.out 2).trans rfl; have s3_ : _ = some ((.slice none 0 0) : Value) := (blk_cell BK.out 3).trans rfl) | (go_at_call 94; (with_reducible refine (glossaryref01_Varint.calls 11 (y) x2 _ HV2.out).mono ?_); rintro e wq ⟨v_, rfl, ho, hb⟩; obtain ⟨A2, c2, ex_⟩ := Kd.R_slice ho; subst ex_; have n0_ := mk0 (below_then HB.out HB.out.size hb); have n1_ := mk0 (blk_below BK.out hb); have HR2 := mk0 (Kd.R_below HR1.out hb); have HC2 := mk0 (Kd.R_reads' ho).2.2; clear HB BK; have HB := n0_; have BK := n1_; clear n0_ n1_; clear ho hb) | ((with_reducible refine gate_builtin (b := .append) (xs := #[.tmp 31, .tmp 34]) rfl ?_); (try (refine gate_guard (by rfl) ?_; dsimp only)); at_builtin; refine Kd.R_append_rows (Kd.int .u8) (w0 := w) w.heap.size (by rfl) (.tmp 31) (.tmp 34) 28 5 (.int .u8 0) 1 rfl Try.underlying28 GDescGrows.info5 rfl (by decide) (by omega) _ (x1) (x2) _ _ _ (fun _ => True) (fun _ => False) rfl rfl HR2.out HC2.out (fun _ _ h => h) (fun _ h => h.elim) (fun _ _ => trivial) HB.out HB.out.size (by have h_ := HL.out; omega) ?_; intro v2 w2 ho2 hb2 hg2 hat2; have HBn := mk0 hb2; obtain ⟨A9, c9, ex_⟩ := Kd.R_slice ho2; subst ex_; rw [List.length_append] at ho2; have HOn := mk0 ho2; clear ho2 hb2 hg2 hat2))
 refine bodyPost_ret (results_tmp2 rfl _ _ _) rfl ?_
 exact ⟨_, rfl, by rw [hres.out]; exact HOn.out, HBn.out⟩
def rput_t.T12 : Bool × List (List Nat × List Nat) := (true, [([], []), ([], []), ([1], [1]), ([2], [2]), ([3], [3]), ([4], [4]), ([0, 5, 5], [0, 5]), ([], []), ([7], [7]), ([6, 8, 6], [6, 8]), ([9, 9, 0, 1, 2, 3, 4, 5, 6, 7, 8, 9], [0, 9])])
def rput_t.B12 : List Nat := [0, 0, 2, 6, 14, 30, 63, 0, 128, 511, 1023]
theorem rput_t.tab12 : rtab .any (opsOf Try.f70 12) = rput_t.T12 := by kernel_rfl
theorem rput_t.bits12 : waitsOk rput_t.T12.2 rput_t.B12 = true := by kernel_rfl
set_option maxHeartbeats 8000000 in
set_option maxRecDepth 100000 in
theorem rput2_c (num : Int) (b : List Int) (A : Option Addr) (c : Nat) (w : World) (hn : 1 ≤ num ∧ num ≤ 536870911) (hb0 : b.length ≤ 1099511627776) (hC : Kd.C (Kd.int .u8) w A b.length b) (hc : b.length ≤ c) :
 Calls Try.prog 70 #[.agg #[.int .i64 num, .int .i64 2, .int .u64 0, .slice A b.length c]] w fun e w' => ∃ v, e = .returned (.tuple #[v, .int .i64 0]) ∧ Kd.R (Kd.int .u8) 5 w' w.heap.size (fun _ => True) v (fB num b) ∧ Below w.heap.size w w' := by
 have lt0 : decide (num < 1) = false := decide_eq_false (by omega)
 have gt0 : decide (num > 536870911) = false := decide_eq_false (by omega)
 have m0 : wrap64 (8 * num) = 8 * num := by unfold wrap64; omega
 have m1 : wrap64 (8 * num + 2) = 8 * num + 2 := by unfold wrap64; omega
 have m2 : IntKind.u64.wrap (8 * num + 2) = 8 * num + 2 := by rw [wrap_u64]; omega
 have m3 : IntKind.u64.wrap (8 * num) = 8 * num := by rw [wrap_u64]; omega
 have HN0 : Aside0 (0 ≤ 8 * num + 2) := ⟨by omega⟩
 have HN1 : Aside0 (8 * num + 2 < 18446744073709551616) := ⟨by omega⟩
 have m4 : IntKind.u64.wrap ((b.length : Nat) : Int) = ((b.length : Nat) : Int) := by rw [wrap_u64]; omega
 have hres : Aside0 (fB num b = vb (8 * num + 2).toNat ++ (vb b.length ++ b)) := ⟨rfl⟩
 obtain ⟨x1, hx1⟩ : ∃ z, vb (8 * num + 2).toNat = z := ⟨_, rfl⟩
 obtain ⟨x2, hx2⟩ : ∃ z, vb b.length = z := ⟨_, rfl⟩
 have HV1 : Aside0 (glossaryref01_Varint.f 11 (8 * num + 2) = some x1) := ⟨by rw [← hx1]; exact rvarint_f 11 _ HN0.out HN1.out (by decide)⟩
 have HV2 : Aside0 (glossaryref01_Varint.f 11 ((b.length : Nat) : Int) = some x2) := ⟨by rw [← hx2]; exact rvarint_f 11 _ (by omega) (by omega) (by decide)⟩
 have HL : Aside0 (x1.length + x2.length ≤ 140737488355328) := ⟨by have h1 := vb_ten (8 * num + 2).toNat (by omega); have h2 := vb_ten b.length (by omega); rw [hx1] at h1; rw [hx2] at h2; omega⟩
 have HL2 : Aside0 (x1.length + x2.length + b.length ≤ 140737488355328) := ⟨by have h1 := vb_ten (8 * num + 2).toNat (by omega); have h2 := vb_ten b.length (by omega); rw [hx1] at h1; rw [hx2] at h2; omega⟩
 rw [hx1, hx2] at hres
 have HC0 := mk0 hC
 clear hx1 hx2 hn hb0 hC
 go_enter Try.func70, Try.ntmps70
 go_wp2_with (first | ((with_reducible refine gate_dst (N := 1) rfl ?_); (try (refine gate_guard (by rfl) ?_; dsimp only)); refine box_event ?hg (N := 1) ?hd (cs := #[.int .i64 num, .int .i64 2, .int .u64 0, .slice A b.length c]) (t := 84) ?hr ?_; (case hd => rfl); (case hg => rfl); (case hr => first | (go_simp; done) | (go_simp; rfl)); intro gb hgb w1 hbox hb1; have HB := mk0 hb1; have BK := mk0 hbox; clear hgb hbox hb1; have s0_ : _ = some ((.int .i64 num) : Value) := (blk_cell BK.out 0).trans rfl; have s1_ : _ = some ((.int .i64 2) : Value) := (blk_cell BK.out 1).trans rfl; have s2_ : _ = some ((.int .u64 0) : Value) := (blk_cell BK.out 2).trans rfl; have s3_ : _ = some ((.slice A b.length c) : Value) := (blk_cell BK.out 3).trans rfl) | (go_at_call 93; refine (rkind2 _).mono ?_; rintro e w1 ⟨hw_, he⟩; subst hw_; subst he) | (go_at_call 94; (with_reducible refine (glossaryref01_Varint.calls 11 (8 * num + 2) x1 _ HV1.out).mono ?_); rintro e wq ⟨v_, rfl, ho, hb⟩; obtain ⟨A1, c1, ex_⟩ := Kd.R_slice ho; subst ex_; have n0_ := mk0 (below_then HB.out HB.out.size hb); have n1_ := mk0 (blk_below BK.out hb); have HR1 := mk0 (Kd.R_lower ho HB.out.size); clear HB BK; have HB := n0_; have BK := n1_; clear n0_ n1_; clear ho hb s0_ s1_ s2_ s3_; have s0_ : _ = some ((.int .i64 num) : Value) := (blk_cell BK.out 0).trans rfl; have s1_ : _ = some ((.int .i64 2) : Value) := (blk_cell BK.out 1).trans rfl; have s2_ : _ = some ((.int .u64 0) : Value) := (blk_cell BK.out 2).trans rfl; have s3_ : _ = some ((.slice A b.length c) : Value) := (blk_cell BK.out 3).trans rfl))
 clear s0_ s1_ s2_ s3_
 skip
 have n0_ := mk0 (below_drew1 HB.out)
 have n1_ := mk0 (blk_drew BK.out)
 have n2_ := mk0 (Kd.R_drew HR1.out)
 clear HB BK HR1
 have HB := n0_
 have BK := n1_
 have HR1 := n2_
 clear n0_ n1_ n2_
 refine start_ (n := 11) (S := fun w' => w'.cell? ⟨gb, 3, none⟩ = some (.slice A b.length c)) (ds := []) #[false, false, false, false, false, false, false, false, false, false, false] (by kernel_rfl) rfl rfl ((blk_cell BK.out 3).trans rfl) (fun hHeld => ?_)
 refine with_tabW rput_t.tab12 rput_t.bits12 (fun HT_ HW_ => ?_)
 generalize World.drew _ = wq at HB BK HR1 hHeld ⊢
 refine pure_ (i := 0) (N := some 52) (v := ?_) (a' := ?_) #[true, false, false, false, false, false, false, false, false, false, false] rfl rfl (any_of HT_.out (by kernel_rfl)) (fun _ _ _ h => h) (Or.inl ⟨by rfl, ?_⟩) ?_ ?_
 rotate_left
 · intro w'
   go_simp
   with_reducible rfl
 rotate_left
 · simp only [Act.put, List.setIfInBounds_toArray, List.set_cons_zero, List.set_cons_succ, i64_w, i32_w]
   rfl
 refine pure_ (i := 1) (N := some 53) (v := ?_) (a' := ?_) #[true, true, false, false, false, false, false, false, false, false, false] rfl rfl (any_of HT_.out (by kernel_rfl)) (fun _ _ _ h => h) (Or.inl ⟨by rfl, ?_⟩) ?_ ?_
 rotate_left
 · intro w'
   go_simp
   with_reducible rfl
 rotate_left
 · simp only [Act.put, List.setIfInBounds_toArray, List.set_cons_zero, List.set_cons_succ, i64_w, i32_w]
   rfl
 refine pure_ (i := 7) (N := some 59) (v := ?_) (a' := ?_) #[true, true, false, false, false, false, false, true, false, false, false] rfl rfl (any_of HT_.out (by kernel_rfl)) (fun _ _ _ h => h) (Or.inl ⟨by rfl, ?_⟩) ?_ ?_
 rotate_left
 · intro w'
   go_simp
   with_reducible rfl
 rotate_left
 · simp only [Act.put, List.setIfInBounds_toArray, List.set_cons_zero, List.set_cons_succ, i64_w, i32_w]
   rfl
 refine take_ (i := 2) (N := some 54) (v := ?_) (a' := ?_) #[true, true, true, false, false, false, false, true, false, false, false] rfl rfl (take_ofW HT_.out HW_.out (by kernel_rfl)) (fun _ _ _ h => h) (Or.inl ⟨by rfl, ?_⟩) hHeld ?_ ?_
 rotate_left
 · rintro w' s0
   go_simp
   with_reducible rfl
 rotate_left
 · simp only [Act.put, List.setIfInBounds_toArray, List.set_cons_zero, List.set_cons_succ, i64_w, i32_w]
   rfl
 refine pure_ (i := 3) (N := some 55) (v := ?_) (a' := ?_) #[true, true, true, true, false, false, false, true, false, false, false] rfl rfl (any_of HT_.out (by kernel_rfl)) (fun _ _ _ h => h) (Or.inl ⟨by rfl, ?_⟩) ?_ ?_
 rotate_left
 · intro w'
   go_simp
   with_reducible rfl
 rotate_left
 · simp only [Act.put, List.setIfInBounds_toArray, List.set_cons_zero, List.set_cons_succ, i64_w, i32_w]
   rfl
 refine pure_ (i := 4) (N := some 56) (v := ?_) (a' := ?_) #[true, true, true, true, true, false, false, true, false, false, false] rfl rfl (any_of HT_.out (by kernel_rfl)) (fun _ _ _ h => h) (Or.inl ⟨by rfl, ?_⟩) ?_ ?_
 rotate_left
 · intro w'
   go_simp
   with_reducible rfl
 rotate_left
 · simp only [Act.put, List.setIfInBounds_toArray, List.set_cons_zero, List.set_cons_succ, i64_w, i32_w]
   rfl
 refine take_ (i := 8) (N := some 60) (v := ?_) (a' := ?_) #[true, true, true, true, true, false, false, true, true, false, false] rfl rfl (take_ofW HT_.out HW_.out (by kernel_rfl)) (fun _ _ _ h => h) (Or.inl ⟨by rfl, ?_⟩) hHeld ?_ ?_
 rotate_left
 · rintro w' s0
   go_simp
   with_reducible rfl
 rotate_left
 · simp only [Act.put, List.setIfInBounds_toArray, List.set_cons_zero, List.set_cons_succ, i64_w, i32_w]
   rfl
 refine one_ (i := 5) (N := some 57) #[true, true, true, true, true, true, false, true, true, false, false] rfl rfl (one_of HT_.out (by kernel_rfl)) (by decide) (fun K hK => ?_)
 refine goes_ Try.func94 (by kernel_rfl) rfl #[.int .u64 ((b.length : Nat) : Int)] (by rfl) rfl rfl (by (try simp only [List.map_toArray, List.map_cons, List.map_nil]); first | done | rfl) ?_
 refine (glossaryref01_Varint.calls 11 ((b.length : Nat) : Int) x2 _ HV2.out).mono ?_
 rintro e wq ⟨v_, rfl, ho, hb⟩
 refine ⟨_, rfl, ?_⟩
 have n0_ := mk0 (below_then HB.out HB.out.size hb)
 have n1_ := mk0 (blk_below BK.out hb)
 have n2_ := mk0 (Kd.R_below HR1.out hb)
 clear HB BK HR1
 have HB := n0_
 have BK := n1_
 have HR1 := n2_
 clear n0_ n1_ n2_
 obtain ⟨R57, r57, ex_⟩ := Kd.R_slice ho
 subst ex_
 have HC57 := mk0 (Kd.R_reads' ho).2.2
 have HL57 := mk0 (Kd.R_reads' ho).2.1
 clear ho hb
 refine hK.out _ _ ((blk_cell BK.out 3).trans rfl) (fun hHeld => ?_)
 clear hK K
 refine norm_ (a' := ?_) ?_ ?_
 rotate_left
 · show Act.put _ (some 57) _ = _
   simp only [Act.put, List.setIfInBounds_toArray, List.set_cons_zero, List.set_cons_succ, i64_w, i32_w]
   rfl
 refine one_ (i := 6) (N := some 58) #[true, true, true, true, true, true, true, true, true, false, false] rfl rfl (one_of HT_.out (by kernel_rfl)) (by decide) (fun K hK => ?_)
 refine Kd.R_append_rows_step (Kd.int .u8) (w0 := w) w.heap.size (by rfl) (.tmp 52) (.tmp 57) 28 5 (.int .u8 0) 1 rfl Try.underlying28 GDescGrows.info5 rfl (by decide) (by omega) (.slice A1 x1.length c1) x1 (x2) _ _ _ (fun _ => True) (fun _ => False) rfl rfl HR1.out HC57.out (fun _ _ h => h) (fun _ h => h.elim) (fun _ _ => trivial) (HB.out) (HB.out).size (by have h_ := HL.out; omega) ?_
 intro v1 wq ho hb hg hat
 have HOn := mk0 ho
 have HBn := mk0 hb
 have n_ := mk0 (blk_grown BK.out hg (Kd.R_ne HR1.out BK.out (by decide)))
 clear BK
 have BK := n_
 clear n_
 clear ho hb hg hat
 clear HB
 clear HR1
 clear HC57
 refine hK.out _ _ ((blk_cell BK.out 3).trans rfl) (fun hHeld => ?_)
 clear hK K
 refine norm_ (a' := ?_) ?_ ?_
 rotate_left
 · show Act.put _ (some 58) _ = _
   simp only [Act.put, List.setIfInBounds_toArray, List.set_cons_zero, List.set_cons_succ, i64_w, i32_w]
   rfl
 refine one_ (i := 9) (N := some 61) #[true, true, true, true, true, true, true, true, true, true, false] rfl rfl (one_of HT_.out (by kernel_rfl)) (by decide) (fun K hK => ?_)
 have HO1 := HOn
 have HC9 := mk0 (Kd.C_below HC0.out HBn.out)
 refine Kd.R_append_rows_step (Kd.int .u8) (w0 := w) w.heap.size (by rfl) (.tmp 58) (.tmp 60) 28 5 (.int .u8 0) 1 rfl Try.underlying28 GDescGrows.info5 rfl (by decide) (by omega) _ (x1 ++ x2) (b) _ _ _ (fun _ => True) (fun _ => False) rfl rfl HO1.out HC9.out (fun _ _ h => h) (fun _ h => h.elim) (fun _ _ => trivial) (HBn.out) (HBn.out).size (by have h_ := HL2.out; rw [List.length_append]; omega) ?_
 intro v1 wq ho hb hg hat
 have HOn := mk0 ho
 have HBn := mk0 hb
 have n_ := mk0 (blk_grown BK.out hg (Kd.R_ne HO1.out BK.out (by decide)))
 clear BK
 have BK := n_
 clear n_
 clear ho hb hg hat
 refine hK.out _ _ ((blk_cell BK.out 3).trans rfl) (fun hHeld => ?_)
 clear hK K
 refine norm_ (a' := ?_) ?_ ?_
 rotate_left
 · show Act.put _ (some 61) _ = _
   simp only [Act.put, List.setIfInBounds_toArray, List.set_cons_zero, List.set_cons_succ, i64_w, i32_w]
   rfl
 refine pure_ (i := 10) (N := some 4) (v := ?_) (a' := ?_) #[true, true, true, true, true, true, true, true, true, true, true] rfl rfl (any_of HT_.out (by kernel_rfl)) (fun _ _ _ h => h) (Or.inl ⟨by rfl, ?_⟩) ?_ ?_
 rotate_left
 · intro w'
   go_simp
   with_reducible rfl
 rotate_left
 · simp only [Act.put, List.setIfInBounds_toArray, List.set_cons_zero, List.set_cons_succ, i64_w, i32_w]
   rfl
 refine done_ (done_of HT_.out (by kernel_rfl)) ?_
 go_wp2
 refine bodyPost_ret (results_tmp2 rfl _ _ _) rfl ?_
 exact ⟨_, rfl, by rw [hres.out, ← List.append_assoc]; exact HOn.out, HBn.out⟩
end Go.Proofs.Yticnihfjnjliiaa.R1
