/- glossarylaw11.DescJoined: the walk. -/
import Derived.Test.YticnihfjnjliiaaBw
import Derived.Test.YticnihfjnjliiaaAl
namespace Go.Proofs.Yticnihfjnjliiaa.Lj
open Go.RowKit Go.Proofs.Yticnihfjnjliiaa.GDescGrows Go.Proofs.YticnihfjnjliiaaW.PrintWords Go.Proofs.YticnihfjnjliiaaW.PrintLast Go.Proofs.YticnihfjnjliiaaW.PrintMore Go.Proofs.Yticnihfjnjliiaa.Rk Go.Proofs.Yticnihfjnjliiaa.Dp Go.Proofs.Yticnihfjnjliiaa.Vb Go.Proofs.Yticnihfjnjliiaa.Wr Go.Proofs.Yticnihfjnjliiaa.Wp Go.Proofs.Yticnihfjnjliiaa.Sp Go.Proofs.Yticnihfjnjliiaa.Bp Go.Proofs.Yticnihfjnjliiaa.Cn Go.Proofs.Yticnihfjnjliiaa.Bw Go.Proofs.Yticnihfjnjliiaa.Al
set_option linter.unusedVariables false
set_option linter.unusedSimpArgs false
theorem info30 : (Try.prog.info? 30).map (fun i => (i.zero, i.size, i.bytes)) = some (some (.agg #[.string ⟨#[]⟩, .string ⟨#[]⟩, .slice none 0 0, .slice none 0 0, .slice none 0 0, .slice none 0 0, .slice none 0 0, .slice none 0 0, .string ⟨#[]⟩, .slice none 0 0, .slice none 0 0]), 11, 240) := by kernel_rfl
theorem set_ok (l : List S30) (hg : ∀ y ∈ l, good30 y) (hb : (l.map bk30).sum ≤ 4294967296) (ho : okS l) (A : Option Addr) (c : Nat) (w : World) (hr : Kd.C k30 w A l.length l) (hc : l.length ≤ c) :
    Calls Try.prog 12 #[.slice A l.length c] w fun e w' => ∃ v, e = .returned (.tuple #[v, .int .i64 0]) ∧ Kd.R (Kd.int .u8) 5 w' w.heap.size (fun _ => True) v (bSet l) ∧ Below w.heap.size w w' := by
  refine (set_c l hg hb A c w hr hc).mono ?_
  rintro e w' ⟨v, er, rfl, hB, ⟨_, rfl, h⟩ | ⟨h, _⟩⟩
  · exact ⟨v, rfl, h, hB⟩
  · exact absurd ho h
theorem set_bad (l : List S30) (hg : ∀ y ∈ l, good30 y) (hb : (l.map bk30).sum ≤ 4294967296) (ho : ¬ okS l) (A : Option Addr) (c : Nat) (w : World) (hr : Kd.C k30 w A l.length l) (hc : l.length ≤ c) :
    Calls Try.prog 12 #[.slice A l.length c] w fun e w' => e = .returned (.tuple #[.slice none 0 0, .int .i64 2]) ∧ Below w.heap.size w w' := by
  refine (set_c l hg hb A c w hr hc).mono ?_
  rintro e w' ⟨v, er, rfl, hB, ⟨h, _⟩ | ⟨_, rfl, rfl⟩⟩
  · exact absurd h ho
  · exact ⟨rfl, hB⟩
theorem all_t (l : List S30) (hg : ∀ y ∈ l, good30 y) (hll : l.length ≤ 4294967296) (A : Option Addr) (c : Nat) (w : World) (hr : Kd.C k30 w A l.length l) (hc : l.length ≤ c) (h : allB l = true) :
    Calls Try.prog 11 #[.slice A l.length c] w fun e w' => e = .returned (.bool true) ∧ Below w.heap.size w w' := by
  rw [← h]
  exact all_b l hg hll A c w hr hc
theorem all_f (l : List S30) (hg : ∀ y ∈ l, good30 y) (hll : l.length ≤ 4294967296) (A : Option Addr) (c : Nat) (w : World) (hr : Kd.C k30 w A l.length l) (hc : l.length ≤ c) (h : allB l = false) :
    Calls Try.prog 11 #[.slice A l.length c] w fun e w' => e = .returned (.bool false) ∧ Below w.heap.size w w' := by
  rw [← h]
  exact all_b l hg hll A c w hr hc
theorem set_ok2 (a b : List S30) (hg : ∀ y ∈ a ++ b, good30 y) (hb : ((a ++ b).map bk30).sum ≤ 4294967296) (ho : okS (a ++ b)) (A : Option Addr) (c : Nat) (w : World) (hr : Kd.C k30 w A (a ++ b).length (a ++ b)) (hc : (a ++ b).length ≤ c) :
    Calls Try.prog 12 #[.slice A (a.length + b.length) c] w fun e w' => ∃ v, e = .returned (.tuple #[v, .int .i64 0]) ∧ Kd.R (Kd.int .u8) 5 w' w.heap.size (fun _ => True) v (bSet (a ++ b)) ∧ Below w.heap.size w w' := by
  rw [← List.length_append]
  exact set_ok _ hg hb ho A c w hr hc
theorem set_bad2 (a b : List S30) (hg : ∀ y ∈ a ++ b, good30 y) (hb : ((a ++ b).map bk30).sum ≤ 4294967296) (ho : ¬ okS (a ++ b)) (A : Option Addr) (c : Nat) (w : World) (hr : Kd.C k30 w A (a ++ b).length (a ++ b)) (hc : (a ++ b).length ≤ c) :
    Calls Try.prog 12 #[.slice A (a.length + b.length) c] w fun e w' => e = .returned (.tuple #[.slice none 0 0, .int .i64 2]) ∧ Below w.heap.size w w' := by
  rw [← List.length_append]
  exact set_bad _ hg hb ho A c w hr hc
theorem strOf_size_ (l : List Int) : (strOfNums l).size = l.length := by
  have h := congrArg List.length (Go.Lib.strOfNums_toList l)
  rw [Go.ByteArray.toList_eq, Array.length_toList] at h
  rw [show (strOfNums l).size = (strOfNums l).data.size from rfl, h]
  unfold Go.Lib.bytesOf
  rw [List.length_map]
theorem strOf_cat (a b : List Int) : ((strOfNums (a ++ b)).toList == (strOfNums a ++ strOfNums b).toList) = true := by
  have h : (strOfNums a ++ strOfNums b).toList = (strOfNums a).toList ++ (strOfNums b).toList := by
    rw [Go.ByteArray.toList_eq, Go.ByteArray.toList_eq, Go.ByteArray.toList_eq]
    simp
  rw [h, Go.Lib.strOfNums_toList, Go.Lib.strOfNums_toList, Go.Lib.strOfNums_toList]
  unfold Go.Lib.bytesOf
  rw [List.map_append]
  exact beq_self_eq_true _
theorem okS_append (a b : List S30) : okS (a ++ b) ↔ okS a ∧ okS b := by
  unfold okS
  constructor
  · intro h
    exact ⟨fun x hx => h x (List.mem_append_left _ hx), fun x hx => h x (List.mem_append_right _ hx)⟩
  · rintro ⟨h1, h2⟩ x hx
    rcases List.mem_append.1 hx with hx | hx
    · exact h1 x hx
    · exact h2 x hx
theorem bSet_append (a b : List S30) : bSet (a ++ b) = bSet a ++ bSet b := by unfold bSet; rw [List.flatMap_append]
set_option maxHeartbeats 8000000 in
set_option maxRecDepth 100000 in
theorem law_few1 (a b : List S30) (ga : ∀ y ∈ a, good30 y) (gb : ∀ y ∈ b, good30 y) (hs : (a.map bk30).sum + (b.map bk30).sum ≤ 1048576) (A B : Option Addr) (ca cb : Nat) (w : World) (CA : Kd.C k30 w A a.length a) (la : a.length ≤ ca) (CB : Kd.C k30 w B b.length b) (lb : b.length ≤ cb) (hta : allB a = false) : Calls Try.prog 4 #[.slice A a.length ca, .slice B b.length cb] w fun e w' => e = .returned (.bool true) ∧ Below w.heap.size w w' := by
  have HGa := Aside0.mk ga
  have HGb := Aside0.mk gb
  have HCa := Aside0.mk CA
  have HCb := Aside0.mk CB
  have hl1 := len_le_sum bk30 (fun y => by unfold bk30; omega) a
  have hl2 := len_le_sum bk30 (fun y => by unfold bk30; omega) b
  have HLa : Aside0 (a.length ≤ 4294967296) := ⟨by omega⟩
  have HLb : Aside0 (b.length ≤ 4294967296) := ⟨by omega⟩
  have HSa : Aside0 ((a.map bk30).sum ≤ 4294967296) := ⟨by omega⟩
  have HSb : Aside0 ((b.map bk30).sum ≤ 4294967296) := ⟨by omega⟩
  have HGz : Aside0 (∀ y ∈ a ++ b, good30 y) := ⟨fun y hy => (List.mem_append.1 hy).elim (ga y) (gb y)⟩
  have HSz : Aside0 (((a ++ b).map bk30).sum ≤ 4294967296) := ⟨by rw [List.map_append, List.sum_append]; omega⟩
  have HB := Aside0.mk (Below.refl w.heap.size w)
  clear ga gb CA CB hs hl1 hl2
  have HTa := Aside0.mk hta
  clear hta
  go_enter Try.func4, Try.ntmps4
  go_wp2_with (first | (go_at_call 7; (with_reducible refine (glossarylaw11_awake.calls true _ rfl).mono ?_); rintro e w1 ⟨rfl, hb⟩; have n0_ := Aside0.mk (below_step (by repeat (first | (with_reducible first | exact HB.out | apply below_alloc | apply pw_below_drewN | apply below_drew1) | exact HB.out)) hb); clear HB; have HB := n0_; clear n0_ hb) | (go_at_call 11; (with_reducible refine (all_f a HGa.out HLa.out A ca _ (Kd.C_below HCa.out HB.out) la HTa.out).mono ?_); rintro e w2 ⟨rfl, hb⟩; have n0_ := Aside0.mk (below_step (by repeat (first | (with_reducible first | exact HB.out | apply below_alloc | apply pw_below_drewN | apply below_drew1) | exact HB.out)) hb); clear HB; have HB := n0_; clear n0_ hb))
  go_ret
  exact ⟨rfl, HB.out⟩
set_option maxHeartbeats 8000000 in
set_option maxRecDepth 100000 in
theorem law_few2 (a b : List S30) (ga : ∀ y ∈ a, good30 y) (gb : ∀ y ∈ b, good30 y) (hs : (a.map bk30).sum + (b.map bk30).sum ≤ 1048576) (A B : Option Addr) (ca cb : Nat) (w : World) (CA : Kd.C k30 w A a.length a) (la : a.length ≤ ca) (CB : Kd.C k30 w B b.length b) (lb : b.length ≤ cb) (hta : allB a = true) (htb : allB b = false) : Calls Try.prog 4 #[.slice A a.length ca, .slice B b.length cb] w fun e w' => e = .returned (.bool true) ∧ Below w.heap.size w w' := by
  have HGa := Aside0.mk ga
  have HGb := Aside0.mk gb
  have HCa := Aside0.mk CA
  have HCb := Aside0.mk CB
  have hl1 := len_le_sum bk30 (fun y => by unfold bk30; omega) a
  have hl2 := len_le_sum bk30 (fun y => by unfold bk30; omega) b
  have HLa : Aside0 (a.length ≤ 4294967296) := ⟨by omega⟩
  have HLb : Aside0 (b.length ≤ 4294967296) := ⟨by omega⟩
  have HSa : Aside0 ((a.map bk30).sum ≤ 4294967296) := ⟨by omega⟩
  have HSb : Aside0 ((b.map bk30).sum ≤ 4294967296) := ⟨by omega⟩
  have HGz : Aside0 (∀ y ∈ a ++ b, good30 y) := ⟨fun y hy => (List.mem_append.1 hy).elim (ga y) (gb y)⟩
  have HSz : Aside0 (((a ++ b).map bk30).sum ≤ 4294967296) := ⟨by rw [List.map_append, List.sum_append]; omega⟩
  have HB := Aside0.mk (Below.refl w.heap.size w)
  clear ga gb CA CB hs hl1 hl2
  have HTa := Aside0.mk hta
  have HTb := Aside0.mk htb
  clear hta htb
  go_enter Try.func4, Try.ntmps4
  go_wp2_with (first | (go_at_call 7; (with_reducible refine (glossarylaw11_awake.calls true _ rfl).mono ?_); rintro e w1 ⟨rfl, hb⟩; have n0_ := Aside0.mk (below_step (by repeat (first | (with_reducible first | exact HB.out | apply below_alloc | apply pw_below_drewN | apply below_drew1) | exact HB.out)) hb); clear HB; have HB := n0_; clear n0_ hb) | (go_at_call 11; (with_reducible refine (all_t a HGa.out HLa.out A ca _ (Kd.C_below HCa.out HB.out) la HTa.out).mono ?_); rintro e w2 ⟨rfl, hb⟩; have n0_ := Aside0.mk (below_step (by repeat (first | (with_reducible first | exact HB.out | apply below_alloc | apply pw_below_drewN | apply below_drew1) | exact HB.out)) hb); clear HB; have HB := n0_; clear n0_ hb) | (go_at_call 11; (with_reducible refine (all_f b HGb.out HLb.out B cb _ (Kd.C_below HCb.out HB.out) lb HTb.out).mono ?_); rintro e w2 ⟨rfl, hb⟩; have n0_ := Aside0.mk (below_step (by repeat (first | (with_reducible first | exact HB.out | apply below_alloc | apply pw_below_drewN | apply below_drew1) | exact HB.out)) hb); clear HB; have HB := n0_; clear n0_ hb))
  go_ret
  exact ⟨rfl, HB.out⟩
set_option maxHeartbeats 8000000 in
set_option maxRecDepth 100000 in
theorem law_bad1 (a b : List S30) (ga : ∀ y ∈ a, good30 y) (gb : ∀ y ∈ b, good30 y) (hs : (a.map bk30).sum + (b.map bk30).sum ≤ 1048576) (A B : Option Addr) (ca cb : Nat) (w : World) (CA : Kd.C k30 w A a.length a) (la : a.length ≤ ca) (CB : Kd.C k30 w B b.length b) (lb : b.length ≤ cb) (hta : allB a = true) (htb : allB b = true) (hoa : ¬ okS a) (hob : ¬ okS b) : Calls Try.prog 4 #[.slice A a.length ca, .slice B b.length cb] w fun e w' => e = .returned (.bool true) ∧ Below w.heap.size w w' := by
  have HGa := Aside0.mk ga
  have HGb := Aside0.mk gb
  have HCa := Aside0.mk CA
  have HCb := Aside0.mk CB
  have hl1 := len_le_sum bk30 (fun y => by unfold bk30; omega) a
  have hl2 := len_le_sum bk30 (fun y => by unfold bk30; omega) b
  have HLa : Aside0 (a.length ≤ 4294967296) := ⟨by omega⟩
  have HLb : Aside0 (b.length ≤ 4294967296) := ⟨by omega⟩
  have HSa : Aside0 ((a.map bk30).sum ≤ 4294967296) := ⟨by omega⟩
  have HSb : Aside0 ((b.map bk30).sum ≤ 4294967296) := ⟨by omega⟩
  have HGz : Aside0 (∀ y ∈ a ++ b, good30 y) := ⟨fun y hy => (List.mem_append.1 hy).elim (ga y) (gb y)⟩
  have HSz : Aside0 (((a ++ b).map bk30).sum ≤ 4294967296) := ⟨by rw [List.map_append, List.sum_append]; omega⟩
  have HB := Aside0.mk (Below.refl w.heap.size w)
  clear ga gb CA CB hs hl1 hl2
  have HTa := Aside0.mk hta
  have HTb := Aside0.mk htb
  clear hta htb
  have HOz : Aside0 (¬ okS (a ++ b)) := ⟨fun h => hoa ((okS_append a b).1 h).1⟩
  have HOa := Aside0.mk hoa
  have HOb := Aside0.mk hob
  clear hoa hob
  go_enter Try.func4, Try.ntmps4
  go_wp2_with (first | (go_at_call 7; (with_reducible refine (glossarylaw11_awake.calls true _ rfl).mono ?_); rintro e w1 ⟨rfl, hb⟩; have n0_ := Aside0.mk (below_step (by repeat (first | (with_reducible first | exact HB.out | apply below_alloc | apply pw_below_drewN | apply below_drew1) | exact HB.out)) hb); clear HB; have HB := n0_; clear n0_ hb) | (go_at_call 11; (with_reducible refine (all_t a HGa.out HLa.out A ca _ (Kd.C_below HCa.out HB.out) la HTa.out).mono ?_); rintro e w2 ⟨rfl, hb⟩; have n0_ := Aside0.mk (below_step (by repeat (first | (with_reducible first | exact HB.out | apply below_alloc | apply pw_below_drewN | apply below_drew1) | exact HB.out)) hb); clear HB; have HB := n0_; clear n0_ hb) | (go_at_call 11; (with_reducible refine (all_t b HGb.out HLb.out B cb _ (Kd.C_below HCb.out HB.out) lb HTb.out).mono ?_); rintro e w2 ⟨rfl, hb⟩; have n0_ := Aside0.mk (below_step (by repeat (first | (with_reducible first | exact HB.out | apply below_alloc | apply pw_below_drewN | apply below_drew1) | exact HB.out)) hb); clear HB; have HB := n0_; clear n0_ hb) | (go_at_call 12; (with_reducible refine (set_bad a HGa.out HSa.out HOa.out A ca _ (Kd.C_below HCa.out HB.out) la).mono ?_); rintro e wx ⟨rfl, hb⟩; have n0_ := Aside0.mk (below_step (by repeat (first | (with_reducible first | exact HB.out | apply below_alloc | apply pw_below_drewN | apply below_drew1) | exact HB.out)) hb); clear HB; have HB := n0_; clear n0_ hb) | (go_at_call 12; (with_reducible refine (set_bad b HGb.out HSb.out HOb.out B cb _ (Kd.C_below HCb.out HB.out) lb).mono ?_); rintro e wy ⟨rfl, hb⟩; have n0_ := Aside0.mk (below_step (by repeat (first | (with_reducible first | exact HB.out | apply below_alloc | apply pw_below_drewN | apply below_drew1) | exact HB.out)) hb); clear HB; have HB := n0_; clear n0_ hb) | ((with_reducible refine gate_builtin (b := .append) (xs := #[.const (.slice none 0 0), .tmp 32]) rfl ?_); (try (refine gate_guard (by rfl) ?_; dsimp only)); at_builtin; refine Kd.N_append_rows k30 (w0 := w) w.heap.size rfl (.const (.slice none 0 0)) (.tmp 32) 39 30 (.agg #[.string ⟨#[]⟩, .string ⟨#[]⟩, .slice none 0 0, .slice none 0 0, .slice none 0 0, .slice none 0 0, .slice none 0 0, .slice none 0 0, .string ⟨#[]⟩, .slice none 0 0, .slice none 0 0]) 240 rfl Try.underlying39 info30 rfl (by decide) (by decide) (.slice none 0 0) [] a A a.length ca (fun _ => True) (fun k_ => k_ < w.heap.size) rfl rfl (Kd.N_nil _ _ _ _ _) ?aF (fun _ _ => ⟨trivial, by simp [Value.ownBlock]⟩) (fun _ _ => trivial) ?aB ?aS ?aL ?_; (case aF => exact Kd.F_step (fun W2 hW2 => Kd.Heap.C hp30 (fun k_ hk_ => hW2 k_ hk_ hk_) HCa.out : Kd.F k30 w (fun k_ => k_ < w.heap.size) _ a.length a) (fun k_ _ hk_ => HB.out.block k_ hk_)); (case aB => exact HB.out); (case aS => exact HB.out.size); (case aL => have := HLa.out; simp only [List.length_nil]; omega); intro v1 wn hn hb hgn hat; obtain ⟨A1, c1, e1⟩ := Kd.N_slice hn; subst e1; have HN := Aside0.mk hn; have HBn := Aside0.mk hb; skip; clear HB; have HB := HBn; clear HBn hn hb hat hgn) | ((with_reducible refine gate_builtin (b := .append) (xs := #[.tmp 33, .tmp 34]) rfl ?_); (try (refine gate_guard (by rfl) ?_; dsimp only)); at_builtin; refine Kd.N_append_rows k30 (w0 := w) w.heap.size rfl (.tmp 33) (.tmp 34) 39 30 (.agg #[.string ⟨#[]⟩, .string ⟨#[]⟩, .slice none 0 0, .slice none 0 0, .slice none 0 0, .slice none 0 0, .slice none 0 0, .slice none 0 0, .string ⟨#[]⟩, .slice none 0 0, .slice none 0 0]) 240 rfl Try.underlying39 info30 rfl (by decide) (by decide) _ ([] ++ a) b B b.length cb (fun _ => True) (fun k_ => k_ < w.heap.size) rfl rfl HN.out ?aF (fun k_ hk_ => ⟨trivial, fun he_ => absurd (Kd.N_base HN.out k_ he_.symm) (by omega)⟩) (fun _ _ => trivial) ?aB ?aS ?aL ?_; (case aF => exact Kd.F_step (fun W2 hW2 => Kd.Heap.C hp30 (fun k_ hk_ => hW2 k_ hk_ hk_) HCb.out : Kd.F k30 w (fun k_ => k_ < w.heap.size) _ b.length b) (fun k_ _ hk_ => HB.out.block k_ hk_)); (case aB => exact HB.out); (case aS => exact HB.out.size); (case aL => have := HLa.out; have := HLb.out; simp only [List.nil_append]; omega); intro v1 wm hn hb hgm hat; obtain ⟨Az, cz, e1⟩ := Kd.N_slice hn; subst e1; rw [List.nil_append] at hn; have HCz := Aside0.mk (Kd.N_reads' hn).2.2; have hcz := Aside0.mk (Kd.N_reads' hn).2.1; have HBn := Aside0.mk hb; clear HB; have HB := HBn; clear HBn hn hb hat) | (go_at_call 12; (with_reducible refine (set_bad2 a b HGz.out HSz.out HOz.out Az cz _ HCz.out hcz.out).mono ?_); rintro e wz ⟨rfl, hb⟩; have n0_ := Aside0.mk (below_step (by repeat (first | (with_reducible first | exact HB.out | apply below_alloc | apply pw_below_drewN | apply below_drew1) | exact HB.out)) hb); clear HB; have HB := n0_; clear n0_ hb))
  go_ret
  exact ⟨rfl, HB.out⟩
set_option maxHeartbeats 8000000 in
set_option maxRecDepth 100000 in
theorem law_bad2 (a b : List S30) (ga : ∀ y ∈ a, good30 y) (gb : ∀ y ∈ b, good30 y) (hs : (a.map bk30).sum + (b.map bk30).sum ≤ 1048576) (A B : Option Addr) (ca cb : Nat) (w : World) (CA : Kd.C k30 w A a.length a) (la : a.length ≤ ca) (CB : Kd.C k30 w B b.length b) (lb : b.length ≤ cb) (hta : allB a = true) (htb : allB b = true) (hoa : ¬ okS a) (hob : okS b) : Calls Try.prog 4 #[.slice A a.length ca, .slice B b.length cb] w fun e w' => e = .returned (.bool true) ∧ Below w.heap.size w w' := by
  have HGa := Aside0.mk ga
  have HGb := Aside0.mk gb
  have HCa := Aside0.mk CA
  have HCb := Aside0.mk CB
  have hl1 := len_le_sum bk30 (fun y => by unfold bk30; omega) a
  have hl2 := len_le_sum bk30 (fun y => by unfold bk30; omega) b
  have HLa : Aside0 (a.length ≤ 4294967296) := ⟨by omega⟩
  have HLb : Aside0 (b.length ≤ 4294967296) := ⟨by omega⟩
  have HSa : Aside0 ((a.map bk30).sum ≤ 4294967296) := ⟨by omega⟩
  have HSb : Aside0 ((b.map bk30).sum ≤ 4294967296) := ⟨by omega⟩
  have HGz : Aside0 (∀ y ∈ a ++ b, good30 y) := ⟨fun y hy => (List.mem_append.1 hy).elim (ga y) (gb y)⟩
  have HSz : Aside0 (((a ++ b).map bk30).sum ≤ 4294967296) := ⟨by rw [List.map_append, List.sum_append]; omega⟩
  have HB := Aside0.mk (Below.refl w.heap.size w)
  clear ga gb CA CB hs hl1 hl2
  have HTa := Aside0.mk hta
  have HTb := Aside0.mk htb
  clear hta htb
  have HOz : Aside0 (¬ okS (a ++ b)) := ⟨fun h => hoa ((okS_append a b).1 h).1⟩
  have HOa := Aside0.mk hoa
  have HOb := Aside0.mk hob
  clear hoa hob
  go_enter Try.func4, Try.ntmps4
  go_wp2_with (first | (go_at_call 7; (with_reducible refine (glossarylaw11_awake.calls true _ rfl).mono ?_); rintro e w1 ⟨rfl, hb⟩; have n0_ := Aside0.mk (below_step (by repeat (first | (with_reducible first | exact HB.out | apply below_alloc | apply pw_below_drewN | apply below_drew1) | exact HB.out)) hb); clear HB; have HB := n0_; clear n0_ hb) | (go_at_call 11; (with_reducible refine (all_t a HGa.out HLa.out A ca _ (Kd.C_below HCa.out HB.out) la HTa.out).mono ?_); rintro e w2 ⟨rfl, hb⟩; have n0_ := Aside0.mk (below_step (by repeat (first | (with_reducible first | exact HB.out | apply below_alloc | apply pw_below_drewN | apply below_drew1) | exact HB.out)) hb); clear HB; have HB := n0_; clear n0_ hb) | (go_at_call 11; (with_reducible refine (all_t b HGb.out HLb.out B cb _ (Kd.C_below HCb.out HB.out) lb HTb.out).mono ?_); rintro e w2 ⟨rfl, hb⟩; have n0_ := Aside0.mk (below_step (by repeat (first | (with_reducible first | exact HB.out | apply below_alloc | apply pw_below_drewN | apply below_drew1) | exact HB.out)) hb); clear HB; have HB := n0_; clear n0_ hb) | (go_at_call 12; (with_reducible refine (set_bad a HGa.out HSa.out HOa.out A ca _ (Kd.C_below HCa.out HB.out) la).mono ?_); rintro e wx ⟨rfl, hb⟩; have n0_ := Aside0.mk (below_step (by repeat (first | (with_reducible first | exact HB.out | apply below_alloc | apply pw_below_drewN | apply below_drew1) | exact HB.out)) hb); clear HB; have HB := n0_; clear n0_ hb) | (go_at_call 12; (with_reducible refine (set_ok b HGb.out HSb.out HOb.out B cb _ (Kd.C_below HCb.out HB.out) lb).mono ?_); rintro e wy ⟨vy, rfl, hRy, hb⟩; obtain ⟨Ry, ry, ex⟩ := Kd.R_slice hRy; subst ex; have n0_ := Aside0.mk (below_step (by repeat (first | (with_reducible first | exact HB.out | apply below_alloc | apply pw_below_drewN | apply below_drew1) | exact HB.out)) hb); clear HB; have HB := n0_; clear n0_ hb; have HRy := Aside0.mk (Kd.R_reads' hRy).2.2; clear hRy; have HBy := Aside0.mk (Below.refl wy.heap.size wy)) | ((with_reducible refine gate_builtin (b := .append) (xs := #[.const (.slice none 0 0), .tmp 32]) rfl ?_); (try (refine gate_guard (by rfl) ?_; dsimp only)); at_builtin; refine Kd.N_append_rows k30 (w0 := w) w.heap.size rfl (.const (.slice none 0 0)) (.tmp 32) 39 30 (.agg #[.string ⟨#[]⟩, .string ⟨#[]⟩, .slice none 0 0, .slice none 0 0, .slice none 0 0, .slice none 0 0, .slice none 0 0, .slice none 0 0, .string ⟨#[]⟩, .slice none 0 0, .slice none 0 0]) 240 rfl Try.underlying39 info30 rfl (by decide) (by decide) (.slice none 0 0) [] a A a.length ca (fun _ => True) (fun k_ => k_ < w.heap.size) rfl rfl (Kd.N_nil _ _ _ _ _) ?aF (fun _ _ => ⟨trivial, by simp [Value.ownBlock]⟩) (fun _ _ => trivial) ?aB ?aS ?aL ?_; (case aF => exact Kd.F_step (fun W2 hW2 => Kd.Heap.C hp30 (fun k_ hk_ => hW2 k_ hk_ hk_) HCa.out : Kd.F k30 w (fun k_ => k_ < w.heap.size) _ a.length a) (fun k_ _ hk_ => HB.out.block k_ hk_)); (case aB => exact HB.out); (case aS => exact HB.out.size); (case aL => have := HLa.out; simp only [List.length_nil]; omega); intro v1 wn hn hb hgn hat; obtain ⟨A1, c1, e1⟩ := Kd.N_slice hn; subst e1; have HN := Aside0.mk hn; have HBn := Aside0.mk hb; skip; clear HB; have HB := HBn; clear HBn hn hb hat hgn) | ((with_reducible refine gate_builtin (b := .append) (xs := #[.tmp 33, .tmp 34]) rfl ?_); (try (refine gate_guard (by rfl) ?_; dsimp only)); at_builtin; refine Kd.N_append_rows k30 (w0 := w) w.heap.size rfl (.tmp 33) (.tmp 34) 39 30 (.agg #[.string ⟨#[]⟩, .string ⟨#[]⟩, .slice none 0 0, .slice none 0 0, .slice none 0 0, .slice none 0 0, .slice none 0 0, .slice none 0 0, .string ⟨#[]⟩, .slice none 0 0, .slice none 0 0]) 240 rfl Try.underlying39 info30 rfl (by decide) (by decide) _ ([] ++ a) b B b.length cb (fun _ => True) (fun k_ => k_ < w.heap.size) rfl rfl HN.out ?aF (fun k_ hk_ => ⟨trivial, fun he_ => absurd (Kd.N_base HN.out k_ he_.symm) (by omega)⟩) (fun _ _ => trivial) ?aB ?aS ?aL ?_; (case aF => exact Kd.F_step (fun W2 hW2 => Kd.Heap.C hp30 (fun k_ hk_ => hW2 k_ hk_ hk_) HCb.out : Kd.F k30 w (fun k_ => k_ < w.heap.size) _ b.length b) (fun k_ _ hk_ => HB.out.block k_ hk_)); (case aB => exact HB.out); (case aS => exact HB.out.size); (case aL => have := HLa.out; have := HLb.out; simp only [List.nil_append]; omega); intro v1 wm hn hb hgm hat; obtain ⟨Az, cz, e1⟩ := Kd.N_slice hn; subst e1; rw [List.nil_append] at hn; have HCz := Aside0.mk (Kd.N_reads' hn).2.2; have hcz := Aside0.mk (Kd.N_reads' hn).2.1; have HBn := Aside0.mk hb; clear HB; have HB := HBn; clear HBn hn hb hat) | (go_at_call 12; (with_reducible refine (set_bad2 a b HGz.out HSz.out HOz.out Az cz _ HCz.out hcz.out).mono ?_); rintro e wz ⟨rfl, hb⟩; have n0_ := Aside0.mk (below_step (by repeat (first | (with_reducible first | exact HB.out | apply below_alloc | apply pw_below_drewN | apply below_drew1) | exact HB.out)) hb); clear HB; have HB := n0_; clear n0_ hb))
  go_ret
  exact ⟨rfl, HB.out⟩
set_option maxHeartbeats 8000000 in
set_option maxRecDepth 100000 in
theorem law_bad3 (a b : List S30) (ga : ∀ y ∈ a, good30 y) (gb : ∀ y ∈ b, good30 y) (hs : (a.map bk30).sum + (b.map bk30).sum ≤ 1048576) (A B : Option Addr) (ca cb : Nat) (w : World) (CA : Kd.C k30 w A a.length a) (la : a.length ≤ ca) (CB : Kd.C k30 w B b.length b) (lb : b.length ≤ cb) (hta : allB a = true) (htb : allB b = true) (hoa : okS a) (hob : ¬ okS b) : Calls Try.prog 4 #[.slice A a.length ca, .slice B b.length cb] w fun e w' => e = .returned (.bool true) ∧ Below w.heap.size w w' := by
  have HGa := Aside0.mk ga
  have HGb := Aside0.mk gb
  have HCa := Aside0.mk CA
  have HCb := Aside0.mk CB
  have hl1 := len_le_sum bk30 (fun y => by unfold bk30; omega) a
  have hl2 := len_le_sum bk30 (fun y => by unfold bk30; omega) b
  have HLa : Aside0 (a.length ≤ 4294967296) := ⟨by omega⟩
  have HLb : Aside0 (b.length ≤ 4294967296) := ⟨by omega⟩
  have HSa : Aside0 ((a.map bk30).sum ≤ 4294967296) := ⟨by omega⟩
  have HSb : Aside0 ((b.map bk30).sum ≤ 4294967296) := ⟨by omega⟩
  have HGz : Aside0 (∀ y ∈ a ++ b, good30 y) := ⟨fun y hy => (List.mem_append.1 hy).elim (ga y) (gb y)⟩
  have HSz : Aside0 (((a ++ b).map bk30).sum ≤ 4294967296) := ⟨by rw [List.map_append, List.sum_append]; omega⟩
  have HB := Aside0.mk (Below.refl w.heap.size w)
  clear ga gb CA CB hs hl1 hl2
  have HTa := Aside0.mk hta
  have HTb := Aside0.mk htb
  clear hta htb
  have HOz : Aside0 (¬ okS (a ++ b)) := ⟨fun h => hob ((okS_append a b).1 h).2⟩
  have HOa := Aside0.mk hoa
  have HOb := Aside0.mk hob
  clear hoa hob
  go_enter Try.func4, Try.ntmps4
  go_wp2_with (first | (go_at_call 7; (with_reducible refine (glossarylaw11_awake.calls true _ rfl).mono ?_); rintro e w1 ⟨rfl, hb⟩; have n0_ := Aside0.mk (below_step (by repeat (first | (with_reducible first | exact HB.out | apply below_alloc | apply pw_below_drewN | apply below_drew1) | exact HB.out)) hb); clear HB; have HB := n0_; clear n0_ hb) | (go_at_call 11; (with_reducible refine (all_t a HGa.out HLa.out A ca _ (Kd.C_below HCa.out HB.out) la HTa.out).mono ?_); rintro e w2 ⟨rfl, hb⟩; have n0_ := Aside0.mk (below_step (by repeat (first | (with_reducible first | exact HB.out | apply below_alloc | apply pw_below_drewN | apply below_drew1) | exact HB.out)) hb); clear HB; have HB := n0_; clear n0_ hb) | (go_at_call 11; (with_reducible refine (all_t b HGb.out HLb.out B cb _ (Kd.C_below HCb.out HB.out) lb HTb.out).mono ?_); rintro e w2 ⟨rfl, hb⟩; have n0_ := Aside0.mk (below_step (by repeat (first | (with_reducible first | exact HB.out | apply below_alloc | apply pw_below_drewN | apply below_drew1) | exact HB.out)) hb); clear HB; have HB := n0_; clear n0_ hb) | (go_at_call 12; (with_reducible refine (set_ok a HGa.out HSa.out HOa.out A ca _ (Kd.C_below HCa.out HB.out) la).mono ?_); rintro e wx ⟨vx, rfl, hRx, hb⟩; obtain ⟨Rx, rx, ex⟩ := Kd.R_slice hRx; subst ex; have n0_ := Aside0.mk (below_step (by repeat (first | (with_reducible first | exact HB.out | apply below_alloc | apply pw_below_drewN | apply below_drew1) | exact HB.out)) hb); clear HB; have HB := n0_; clear n0_ hb; have HRx := Aside0.mk (Kd.R_reads' hRx).2.2; clear hRx; have HBx := Aside0.mk (Below.refl wx.heap.size wx)) | (go_at_call 12; (with_reducible refine (set_bad b HGb.out HSb.out HOb.out B cb _ (Kd.C_below HCb.out HB.out) lb).mono ?_); rintro e wy ⟨rfl, hb⟩; have n0_ := Aside0.mk (below_step (by repeat (first | (with_reducible first | exact HB.out | apply below_alloc | apply pw_below_drewN | apply below_drew1) | exact HB.out)) hb); clear HB; have HB := n0_; clear n0_ hb) | ((with_reducible refine gate_builtin (b := .append) (xs := #[.const (.slice none 0 0), .tmp 32]) rfl ?_); (try (refine gate_guard (by rfl) ?_; dsimp only)); at_builtin; refine Kd.N_append_rows k30 (w0 := w) w.heap.size rfl (.const (.slice none 0 0)) (.tmp 32) 39 30 (.agg #[.string ⟨#[]⟩, .string ⟨#[]⟩, .slice none 0 0, .slice none 0 0, .slice none 0 0, .slice none 0 0, .slice none 0 0, .slice none 0 0, .string ⟨#[]⟩, .slice none 0 0, .slice none 0 0]) 240 rfl Try.underlying39 info30 rfl (by decide) (by decide) (.slice none 0 0) [] a A a.length ca (fun _ => True) (fun k_ => k_ < w.heap.size) rfl rfl (Kd.N_nil _ _ _ _ _) ?aF (fun _ _ => ⟨trivial, by simp [Value.ownBlock]⟩) (fun _ _ => trivial) ?aB ?aS ?aL ?_; (case aF => exact Kd.F_step (fun W2 hW2 => Kd.Heap.C hp30 (fun k_ hk_ => hW2 k_ hk_ hk_) HCa.out : Kd.F k30 w (fun k_ => k_ < w.heap.size) _ a.length a) (fun k_ _ hk_ => HB.out.block k_ hk_)); (case aB => exact HB.out); (case aS => exact HB.out.size); (case aL => have := HLa.out; simp only [List.length_nil]; omega); intro v1 wn hn hb hgn hat; obtain ⟨A1, c1, e1⟩ := Kd.N_slice hn; subst e1; have HN := Aside0.mk hn; have HBn := Aside0.mk hb; skip; clear HB; have HB := HBn; clear HBn hn hb hat hgn) | ((with_reducible refine gate_builtin (b := .append) (xs := #[.tmp 33, .tmp 34]) rfl ?_); (try (refine gate_guard (by rfl) ?_; dsimp only)); at_builtin; refine Kd.N_append_rows k30 (w0 := w) w.heap.size rfl (.tmp 33) (.tmp 34) 39 30 (.agg #[.string ⟨#[]⟩, .string ⟨#[]⟩, .slice none 0 0, .slice none 0 0, .slice none 0 0, .slice none 0 0, .slice none 0 0, .slice none 0 0, .string ⟨#[]⟩, .slice none 0 0, .slice none 0 0]) 240 rfl Try.underlying39 info30 rfl (by decide) (by decide) _ ([] ++ a) b B b.length cb (fun _ => True) (fun k_ => k_ < w.heap.size) rfl rfl HN.out ?aF (fun k_ hk_ => ⟨trivial, fun he_ => absurd (Kd.N_base HN.out k_ he_.symm) (by omega)⟩) (fun _ _ => trivial) ?aB ?aS ?aL ?_; (case aF => exact Kd.F_step (fun W2 hW2 => Kd.Heap.C hp30 (fun k_ hk_ => hW2 k_ hk_ hk_) HCb.out : Kd.F k30 w (fun k_ => k_ < w.heap.size) _ b.length b) (fun k_ _ hk_ => HB.out.block k_ hk_)); (case aB => exact HB.out); (case aS => exact HB.out.size); (case aL => have := HLa.out; have := HLb.out; simp only [List.nil_append]; omega); intro v1 wm hn hb hgm hat; obtain ⟨Az, cz, e1⟩ := Kd.N_slice hn; subst e1; rw [List.nil_append] at hn; have HCz := Aside0.mk (Kd.N_reads' hn).2.2; have hcz := Aside0.mk (Kd.N_reads' hn).2.1; have HBn := Aside0.mk hb; clear HB; have HB := HBn; clear HBn hn hb hat) | (go_at_call 12; (with_reducible refine (set_bad2 a b HGz.out HSz.out HOz.out Az cz _ HCz.out hcz.out).mono ?_); rintro e wz ⟨rfl, hb⟩; have n0_ := Aside0.mk (below_step (by repeat (first | (with_reducible first | exact HB.out | apply below_alloc | apply pw_below_drewN | apply below_drew1) | exact HB.out)) hb); clear HB; have HB := n0_; clear n0_ hb))
  go_ret
  exact ⟨rfl, HB.out⟩
theorem below_nil {a w w1 : World} (h : Below a.heap.size a w) (hg : w.grownBy w1 (Value.slice none 0 0).ownBlock) : Below a.heap.size a w1 := h.grown hg h.size (fun k hk => by cases hk)
theorem below_row {a w w1 : World} {v : Value} (h : Below a.heap.size a w) (hg : w.grownBy w1 v.ownBlock) (hk : ∀ k, v.ownBlock = some k → a.heap.size ≤ k) : Below a.heap.size a w1 := h.grown hg h.size hk
theorem row_from {w : World} {v : Value} {n : Nat} (hat : v.ownBlock = (Value.slice none 0 0).ownBlock ∨ ∃ b, v.ownBlock = some b ∧ w.heap.size ≤ b) (h : n ≤ w.heap.size) : ∀ k, v.ownBlock = some k → n ≤ k := by
  intro k hk
  rcases hat with e | ⟨b, e, hb⟩
  · rw [e] at hk; cases hk
  · rw [e] at hk; injection hk with hk; omega
set_option maxHeartbeats 8000000 in
set_option maxRecDepth 100000 in
theorem law_ok (a b : List S30) (ga : ∀ y ∈ a, good30 y) (gb : ∀ y ∈ b, good30 y) (hs : (a.map bk30).sum + (b.map bk30).sum ≤ 1048576) (A B : Option Addr) (ca cb : Nat) (w : World) (CA : Kd.C k30 w A a.length a) (la : a.length ≤ ca) (CB : Kd.C k30 w B b.length b) (lb : b.length ≤ cb) (hta : allB a = true) (htb : allB b = true) (hoa : okS a) (hob : okS b) : Calls Try.prog 4 #[.slice A a.length ca, .slice B b.length cb] w fun e w' => e = .returned (.bool true) ∧ Below w.heap.size w w' := by
  have HGa := Aside0.mk ga
  have HGb := Aside0.mk gb
  have HCa := Aside0.mk CA
  have HCb := Aside0.mk CB
  have hl1 := len_le_sum bk30 (fun y => by unfold bk30; omega) a
  have hl2 := len_le_sum bk30 (fun y => by unfold bk30; omega) b
  have HLa : Aside0 (a.length ≤ 4294967296) := ⟨by omega⟩
  have HLb : Aside0 (b.length ≤ 4294967296) := ⟨by omega⟩
  have HSa : Aside0 ((a.map bk30).sum ≤ 4294967296) := ⟨by omega⟩
  have HSb : Aside0 ((b.map bk30).sum ≤ 4294967296) := ⟨by omega⟩
  have HGz : Aside0 (∀ y ∈ a ++ b, good30 y) := ⟨fun y hy => (List.mem_append.1 hy).elim (ga y) (gb y)⟩
  have HSz : Aside0 (((a ++ b).map bk30).sum ≤ 4294967296) := ⟨by rw [List.map_append, List.sum_append]; omega⟩
  have HB := Aside0.mk (Below.refl w.heap.size w)
  clear ga gb CA CB hs hl1 hl2
  have HTa := Aside0.mk hta
  have HTb := Aside0.mk htb
  clear hta htb
  have HOz : Aside0 (okS (a ++ b)) := ⟨(okS_append a b).2 ⟨hoa, hob⟩⟩
  have HOa := Aside0.mk hoa
  have HOb := Aside0.mk hob
  clear hoa hob
  have hsz : ¬ (9223372036854775807 < (strOfNums (bSet a)).size + (strOfNums (bSet b)).size) := by
    have h1 := bSet_len a HSa.out
    have h2 := bSet_len b HSb.out
    have h3 := HSa.out
    have h4 := HSb.out
    rw [strOf_size_, strOf_size_]
    omega
  go_enter Try.func4, Try.ntmps4
  go_wp2_with (first | (go_at_call 7; (with_reducible refine (glossarylaw11_awake.calls true _ rfl).mono ?_); rintro e w1 ⟨rfl, hb⟩; have n0_ := Aside0.mk (below_step (by repeat (first | (with_reducible first | exact HB.out | apply below_alloc | apply pw_below_drewN | apply below_drew1) | exact HB.out)) hb); clear HB; have HB := n0_; clear n0_ hb) | (go_at_call 11; (with_reducible refine (all_t a HGa.out HLa.out A ca _ (Kd.C_below HCa.out HB.out) la HTa.out).mono ?_); rintro e w2 ⟨rfl, hb⟩; have n0_ := Aside0.mk (below_step (by repeat (first | (with_reducible first | exact HB.out | apply below_alloc | apply pw_below_drewN | apply below_drew1) | exact HB.out)) hb); clear HB; have HB := n0_; clear n0_ hb) | (go_at_call 11; (with_reducible refine (all_t b HGb.out HLb.out B cb _ (Kd.C_below HCb.out HB.out) lb HTb.out).mono ?_); rintro e w2 ⟨rfl, hb⟩; have n0_ := Aside0.mk (below_step (by repeat (first | (with_reducible first | exact HB.out | apply below_alloc | apply pw_below_drewN | apply below_drew1) | exact HB.out)) hb); clear HB; have HB := n0_; clear n0_ hb) | (go_at_call 12; (with_reducible refine (set_ok a HGa.out HSa.out HOa.out A ca _ (Kd.C_below HCa.out HB.out) la).mono ?_); rintro e wx ⟨vx, rfl, hRx, hb⟩; obtain ⟨Rx, rx, ex⟩ := Kd.R_slice hRx; subst ex; have n0_ := Aside0.mk (below_step (by repeat (first | (with_reducible first | exact HB.out | apply below_alloc | apply pw_below_drewN | apply below_drew1) | exact HB.out)) hb); clear HB; have HB := n0_; clear n0_ hb; have HRx := Aside0.mk (Kd.R_reads' hRx).2.2; clear hRx; have HBx := Aside0.mk (Below.refl wx.heap.size wx)) | (go_at_call 12; (with_reducible refine (set_ok b HGb.out HSb.out HOb.out B cb _ (Kd.C_below HCb.out HB.out) lb).mono ?_); rintro e wy ⟨vy, rfl, hRy, hb⟩; obtain ⟨Ry, ry, ex⟩ := Kd.R_slice hRy; subst ex; have n0_ := Aside0.mk (below_step (by repeat (first | (with_reducible first | exact HB.out | apply below_alloc | apply pw_below_drewN | apply below_drew1) | exact HB.out)) hb); have n1_ := Aside0.mk (below_step (by repeat (first | (with_reducible first | exact HBx.out | apply below_alloc | apply pw_below_drewN | apply below_drew1) | exact HBx.out)) hb); clear HB HBx; have HB := n0_; have HBx := n1_; clear n0_ n1_ hb; have HRy := Aside0.mk (Kd.R_reads' hRy).2.2; clear hRy; have HBy := Aside0.mk (Below.refl wy.heap.size wy)) | ((with_reducible refine gate_builtin (b := .append) (xs := #[.const (.slice none 0 0), .tmp 32]) rfl ?_); (try (refine gate_guard (by rfl) ?_; dsimp only)); at_builtin; refine Kd.N_append_rows k30 (w0 := w) w.heap.size rfl (.const (.slice none 0 0)) (.tmp 32) 39 30 (.agg #[.string ⟨#[]⟩, .string ⟨#[]⟩, .slice none 0 0, .slice none 0 0, .slice none 0 0, .slice none 0 0, .slice none 0 0, .slice none 0 0, .string ⟨#[]⟩, .slice none 0 0, .slice none 0 0]) 240 rfl Try.underlying39 info30 rfl (by decide) (by decide) (.slice none 0 0) [] a A a.length ca (fun _ => True) (fun k_ => k_ < w.heap.size) rfl rfl (Kd.N_nil _ _ _ _ _) ?aF (fun _ _ => ⟨trivial, by simp [Value.ownBlock]⟩) (fun _ _ => trivial) ?aB ?aS ?aL ?_; (case aF => exact Kd.F_step (fun W2 hW2 => Kd.Heap.C hp30 (fun k_ hk_ => hW2 k_ hk_ hk_) HCa.out : Kd.F k30 w (fun k_ => k_ < w.heap.size) _ a.length a) (fun k_ _ hk_ => HB.out.block k_ hk_)); (case aB => exact HB.out); (case aS => exact HB.out.size); (case aL => have := HLa.out; simp only [List.length_nil]; omega); intro v1 wn hn hb hgn hat; obtain ⟨A1, c1, e1⟩ := Kd.N_slice hn; subst e1; have HN := Aside0.mk hn; have HBn := Aside0.mk hb; skip; clear HB; have HB := HBn; have nx_ := Aside0.mk (below_nil HBx.out hgn); have ny_ := Aside0.mk (below_nil HBy.out hgn); have HX1 := Aside0.mk (row_from hat HBx.out.size); have HY1 := Aside0.mk (row_from hat HBy.out.size); clear HBx HBy; have HBx := nx_; have HBy := ny_; have HG1 := Aside0.mk hgn; clear nx_ ny_ HBn hn hb hat hgn) | ((with_reducible refine gate_builtin (b := .append) (xs := #[.tmp 33, .tmp 34]) rfl ?_); (try (refine gate_guard (by rfl) ?_; dsimp only)); at_builtin; refine Kd.N_append_rows k30 (w0 := w) w.heap.size rfl (.tmp 33) (.tmp 34) 39 30 (.agg #[.string ⟨#[]⟩, .string ⟨#[]⟩, .slice none 0 0, .slice none 0 0, .slice none 0 0, .slice none 0 0, .slice none 0 0, .slice none 0 0, .string ⟨#[]⟩, .slice none 0 0, .slice none 0 0]) 240 rfl Try.underlying39 info30 rfl (by decide) (by decide) _ ([] ++ a) b B b.length cb (fun _ => True) (fun k_ => k_ < w.heap.size) rfl rfl HN.out ?aF (fun k_ hk_ => ⟨trivial, fun he_ => absurd (Kd.N_base HN.out k_ he_.symm) (by omega)⟩) (fun _ _ => trivial) ?aB ?aS ?aL ?_; (case aF => exact Kd.F_step (fun W2 hW2 => Kd.Heap.C hp30 (fun k_ hk_ => hW2 k_ hk_ hk_) HCb.out : Kd.F k30 w (fun k_ => k_ < w.heap.size) _ b.length b) (fun k_ _ hk_ => HB.out.block k_ hk_)); (case aB => exact HB.out); (case aS => exact HB.out.size); (case aL => have := HLa.out; have := HLb.out; simp only [List.nil_append]; omega); intro v1 wm hn hb hgm hat; obtain ⟨Az, cz, e1⟩ := Kd.N_slice hn; subst e1; rw [List.nil_append] at hn; have HCz := Aside0.mk (Kd.N_reads' hn).2.2; have hcz := Aside0.mk (Kd.N_reads' hn).2.1; have HBn := Aside0.mk hb; clear HB; have HB := HBn; have nx_ := Aside0.mk (below_row HBx.out hgm (fun k hk => HX1.out k hk)); have ny_ := Aside0.mk (below_row HBy.out hgm (fun k hk => HY1.out k hk)); clear HBx HBy; have HBx := nx_; have HBy := ny_; clear nx_ ny_ HBn hn hb hat hgm) | (go_at_call 12; (with_reducible refine (set_ok2 a b HGz.out HSz.out HOz.out Az cz _ HCz.out hcz.out).mono ?_); rintro e wz ⟨vz, rfl, hRz, hb⟩; obtain ⟨Rz, rz, ex⟩ := Kd.R_slice hRz; subst ex; have n0_ := Aside0.mk (below_step (by repeat (first | (with_reducible first | exact HB.out | apply below_alloc | apply pw_below_drewN | apply below_drew1) | exact HB.out)) hb); have n1_ := Aside0.mk (below_step (by repeat (first | (with_reducible first | exact HBx.out | apply below_alloc | apply pw_below_drewN | apply below_drew1) | exact HBx.out)) hb); have n2_ := Aside0.mk (below_step (by repeat (first | (with_reducible first | exact HBy.out | apply below_alloc | apply pw_below_drewN | apply below_drew1) | exact HBy.out)) hb); clear HB HBx HBy; have HB := n0_; have HBx := n1_; have HBy := n2_; clear n0_ n1_ n2_ hb; have hvz := Kd.C_string (P := Try.prog) (c := rz) Try.underlying28 Try.underlying5 Try.underlying9 (Kd.R_reads' hRz).2.2; clear hRz; have hvx := Kd.C_string (P := Try.prog) (c := rx) Try.underlying28 Try.underlying5 Try.underlying9 (Kd.C_below HRx.out HBx.out); have hvy := Kd.C_string (P := Try.prog) (c := ry) Try.underlying28 Try.underlying5 Try.underlying9 (Kd.C_below HRy.out HBy.out)))
  go_ret
  refine ⟨?_, HB.out⟩
  rw [bSet_append, strOf_cat]
  rfl
theorem law_c (a b : List S30) (ga : ∀ y ∈ a, good30 y) (gb : ∀ y ∈ b, good30 y) (hs : (a.map bk30).sum + (b.map bk30).sum ≤ 1048576) (A B : Option Addr) (ca cb : Nat) (w : World) (CA : Kd.C k30 w A a.length a) (la : a.length ≤ ca) (CB : Kd.C k30 w B b.length b) (lb : b.length ≤ cb) : Calls Try.prog 4 #[.slice A a.length ca, .slice B b.length cb] w fun e w' => e = .returned (.bool true) ∧ Below w.heap.size w w' := by
  cases hta : allB a with
  | false => exact law_few1 a b ga gb hs A B ca cb w CA la CB lb hta
  | true =>
    cases htb : allB b with
    | false => exact law_few2 a b ga gb hs A B ca cb w CA la CB lb hta htb
    | true =>
      by_cases hoa : okS a
      · by_cases hob : okS b
        · exact law_ok a b ga gb hs A B ca cb w CA la CB lb hta htb hoa hob
        · exact law_bad3 a b ga gb hs A B ca cb w CA la CB lb hta htb hoa hob
      · by_cases hob : okS b
        · exact law_bad2 a b ga gb hs A B ca cb w CA la CB lb hta htb hoa hob
        · exact law_bad1 a b ga gb hs A B ca cb w CA la CB lb hta htb hoa hob
end Go.Proofs.Yticnihfjnjliiaa.Lj
