/- Enums, services, oneofs that are alike; lists of them. -/
import Derived.Test.YticnihfjnjliiaaKE3
import Derived.Test.YticnihfjnjliiaaKSw
import Derived.Deep.QuietTactic
import Derived.BigQuiet
namespace Go.Proofs.Yticnihfjnjliiaa.E1
open Go.RowKit Go.Proofs.Yticnihfjnjliiaa.GDescGrows Go.Proofs.YticnihfjnjliiaaW.PrintWords Go.Proofs.YticnihfjnjliiaaW.PrintLast Go.Proofs.YticnihfjnjliiaaW.PrintMore Go.Proofs.Yticnihfjnjliiaa.Vb Go.Proofs.Yticnihfjnjliiaa.Rk
set_option linter.unusedVariables false
set_option linter.unusedSimpArgs false
theorem extValue (x y : S93) (h0 : x.f0 = y.f0) (h1 : x.f1 = y.f1) (h2 : x.f2 = y.f2) (h3 : x.f3 = y.f3) : x = y := by
 cases x; cases y
 dsimp only at h0 h1 h2 h3
 subst h0 h1 h2 h3
 rfl
set_option maxHeartbeats 8000000 in
set_option maxRecDepth 100000 in
theorem sameValue (x y : S93) (gx : good93 x) (gy : good93 y) (w : World) (cs ds : List Value) (hx : k93.K w x cs) (hy : k93.K w y ds) : Calls Try.prog 43 #[.agg cs.toArray, .agg ds.toArray] w fun e w' => Eq_ (eqB x y) w e w' := by
 obtain ⟨A2, c2, A3, c3, rfl, lc2, gc2, lc3, gc3⟩ := k93_open hx
 obtain ⟨B2, d2, B3, d3, rfl, ld2, gd2, ld3, gd3⟩ := k93_open hy
 obtain ⟨b0, h0⟩ : ∃ b, eqB x.f0 y.f0 = b := ⟨_, rfl⟩
 have s0 := str_eqB x.f0 y.f0
 rw [h0] at s0
 have H0 := mk0 h0
 clear h0
 obtain ⟨b1, h1⟩ : ∃ b, eqB x.f1 y.f1 = b := ⟨_, rfl⟩
 have s1 := int_eqB x.f1 y.f1
 rw [h1] at s1
 have H1 := mk0 h1
 clear h1
 obtain ⟨b2, h2⟩ : ∃ b, eqB x.f2 y.f2 = b := ⟨_, rfl⟩
 have s2 := fun (W : World) (hW : Below w.heap.size w W) => eq20 x.f2 y.f2 (bytes_of_wf gx.2.2.1.2) (bytes_of_wf gy.2.2.1.2) A2 B2 c2 d2 W (Kd.C_below gc2 hW) (Kd.C_below gd2 hW)
 rw [h2] at s2
 have H2 := mk0 h2
 clear h2
 obtain ⟨b3, h3⟩ : ∃ b, eqB x.f3 y.f3 = b := ⟨_, rfl⟩
 have s3 := fun (W : World) (hW : Below w.heap.size w W) => eq20 x.f3 y.f3 (bytes_of_wf gx.2.2.2.2) (bytes_of_wf gy.2.2.2.2) A3 B3 c3 d3 W (Kd.C_below gc3 hW) (Kd.C_below gd3 hW)
 rw [h3] at s3
 have H3 := mk0 h3
 clear h3
 have HB : Aside0 (Below w.heap.size w ((w.alloc (.cells #[.string x.f0, .int .i64 x.f1, .slice A2 x.f2.length c2, .slice A3 x.f3.length c3] 93)).alloc (.cells #[.string y.f0, .int .i64 y.f1, .slice B2 y.f2.length d2, .slice B3 y.f3.length d3] 93))) := ⟨below_alloc (below_alloc (Below.refl _ _) _) _⟩
 have BX : Aside0 (((w.alloc (.cells #[.string x.f0, .int .i64 x.f1, .slice A2 x.f2.length c2, .slice A3 x.f3.length c3] 93)).alloc (.cells #[.string y.f0, .int .i64 y.f1, .slice B2 y.f2.length d2, .slice B3 y.f3.length d3] 93)).heap[w.heap.size]? = some (.cells #[.string x.f0, .int .i64 x.f1, .slice A2 x.f2.length c2, .slice A3 x.f3.length c3] 93 (0, 0))) := ⟨blk_alloc (new1 _ _) _⟩
 have BY : Aside0 (((w.alloc (.cells #[.string x.f0, .int .i64 x.f1, .slice A2 x.f2.length c2, .slice A3 x.f3.length c3] 93)).alloc (.cells #[.string y.f0, .int .i64 y.f1, .slice B2 y.f2.length d2, .slice B3 y.f3.length d3] 93)).heap[w.heap.size + 1]? = some (.cells #[.string y.f0, .int .i64 y.f1, .slice B2 y.f2.length d2, .slice B3 y.f3.length d3] 93 (0, 0))) := ⟨new2 _ _ _⟩
 obtain ⟨R, hR⟩ : ∃ r, eqB x y = r := ⟨_, rfl⟩
 have key : (b0 = false ∧ R = false) ∨ (b0 = true ∧ b1 = false ∧ R = false) ∨ (b0 = true ∧ b1 = true ∧ b2 = false ∧ R = false) ∨ (b0 = true ∧ b1 = true ∧ b2 = true ∧ b3 = false ∧ R = false) ∨ (b0 = true ∧ b1 = true ∧ b2 = true ∧ b3 = true ∧ R = true) := by
  rw [← hR]
  cases b0
  · exact .inl (⟨rfl, eqB_field (fun z : S93 => z.f0) H0.out⟩)
  cases b1
  · exact .inr (.inl (⟨rfl, rfl, eqB_field (fun z : S93 => z.f1) H1.out⟩))
  cases b2
  · exact .inr (.inr (.inl (⟨rfl, rfl, rfl, eqB_field (fun z : S93 => z.f2) H2.out⟩)))
  cases b3
  · exact .inr (.inr (.inr (.inl (⟨rfl, rfl, rfl, rfl, eqB_field (fun z : S93 => z.f3) H3.out⟩))))
  exact .inr (.inr (.inr (.inr (⟨rfl, rfl, rfl, rfl, eqB_t (extValue x y (eqB_of H0.out) (eqB_of H1.out) (eqB_of H2.out) (eqB_of H3.out))⟩))))
 have HR := mk0 hR
 clear hR
 clear H0 H1 H2 H3
 rcases key with ⟨rfl, rfl⟩ | ⟨rfl, rfl, rfl⟩ | ⟨rfl, rfl, rfl, rfl⟩ | ⟨rfl, rfl, rfl, rfl, rfl⟩ | ⟨rfl, rfl, rfl, rfl, rfl⟩
 all_goals
  go_enter Try.func43, Try.ntmps43
  go_wp2_with (first | (go_at_call 20; (with_reducible refine (s2 _ HB.out).mono ?_); rintro e w1 ⟨rfl, rfl⟩) | (go_at_call 20; (with_reducible refine (s3 _ HB.out).mono ?_); rintro e w1 ⟨rfl, rfl⟩))
  go_ret
  exact ⟨by rw [HR.out]; rfl, (by repeat (first | (with_reducible first | exact HB.out | apply below_alloc | apply pw_below_drewN | apply below_drew1) | exact HB.out))⟩
set_option maxHeartbeats 8000000 in
set_option maxRecDepth 100000 in
theorem eqfValue (a b : List S93) (hcn : ∀ x ∈ a, ∀ y ∈ b, ∀ (W : World) (cs ds : List Value), k93.K W x cs → k93.K W y ds → Calls Try.prog 43 #[.agg cs.toArray, .agg ds.toArray] W fun e w' => Eq_ (eqB x y) W e w') (hla : a.length ≤ 9223372036854775807) (A B : Option Addr) (ca cb : Nat) (w : World) (CA : Kd.C k93 w A a.length a) (CB : Kd.C k93 w B b.length b) :
 Calls Try.prog 44 #[.slice A a.length ca, .slice B b.length cb, .func (.func 43) #[] #[]] w fun e w' => Eq_ (eqB a b) w e w' := by
 have HB0 := mk0 (Below.refl w.heap.size w)
 have HA := mk0 CA
 have HC := mk0 CB
 by_cases hl : a.length = b.length
 · have HL := mk0 hl
   have hn := len_beq hl
   clear hl
   go_enter Try.func44, Try.ntmps44
   go_wp2
   go_loopg [17] a.length (fun kq v17 w' => ∃ i : Nat, v17 = .int .i64 (i : Int) ∧ Aside0 (i + kq = a.length) ∧ Aside0 (Below w.heap.size w w') ∧ Aside0 (a.take i = b.take i))
   case atStart =>
    exact ⟨0, rfl, ⟨by omega⟩, ⟨HB0.out⟩, ⟨by simp⟩⟩
   case round =>
    obtain ⟨i, rfl, HI, HB, HT⟩ := hrel
    by_cases hlt : i < a.length
    · have hwp : wrap64 ((i : Int) + 1) = ((i + 1 : Nat) : Int) := by unfold wrap64; omega
      have hlb : i < b.length := by have := HL.out; omega
      have d0 : decide ((i : Int) < (a.length : Int)) = true := decide_eq_true (by omega)
      have p0 : (0 ≤ (i : Int)) = True := eq_true (by omega)
      have q0 : ((i : Int) < (a.length : Int)) = True := eq_true (by omega)
      have q1 : ((i : Int) < (b.length : Int)) = True := eq_true (by omega)
      obtain ⟨x, hx⟩ : ∃ x, a.getD i z93 = x := ⟨_, rfl⟩
      obtain ⟨y, hy⟩ : ∃ y, b.getD i z93 = y := ⟨_, rfl⟩
      have hmx : x ∈ a := by rw [← hx]; simp [hlt]
      have hmy : y ∈ b := by rw [← hy]; simp [hlb]
      have hc := hcn x hmx y hmy
      have hok : x = y → Aside0 (a.take (i + 1) = b.take (i + 1)) := fun h => ⟨take_eq z93 a b HL.out i hlt HT.out (by rw [hx, hy, h])⟩
      have hno : ¬ x = y → Aside0 (eqB a b = false) := fun h => ⟨take_ne z93 a b i (by rw [hx, hy]; exact h)⟩
      obtain ⟨ad, cx, ea, _, hKx, hcx⟩ := Kd.C_get (Kd.C_below HA.out HB.out) z93 (i : Int) (by omega) (by omega)
      obtain ⟨bd, cy, eb, _, hKy, hcy⟩ := Kd.C_get (Kd.C_below HC.out HB.out) z93 (i : Int) (by omega) (by omega)
      rw [Int.toNat_natCast] at hKx hcx hKy hcy
      rw [hx] at hKx
      rw [hy] at hKy
      obtain ⟨A2, c2, A3, c3, ecx, lc2, gc2, lc3, gc3⟩ := k93_open hKx
      obtain ⟨B2, d2, B3, d3, ecy, ld2, gd2, ld3, gd3⟩ := k93_open hKy
      subst ecx ecy
      have e0_ : wr.cell? (ad.add (i * 4)) = some (.string x.f0) := by have := hcx 0 _ rfl; rwa [show i * k93.sz + 0 = i * 4 from rfl] at this
      have e1_ : wr.cell? ⟨(ad.add (i * 4)).block, (ad.add (i * 4)).off + 1, none⟩ = some (.int .i64 x.f1) := by have := hcx 1 _ rfl; rw [show i * k93.sz + 1 = i * 4 + 1 from rfl] at this; rw [← add_field _ _ 1 (by omega)]; exact this
      have e2_ : wr.cell? ⟨(ad.add (i * 4)).block, (ad.add (i * 4)).off + 2, none⟩ = some (.slice A2 x.f2.length c2) := by have := hcx 2 _ rfl; rw [show i * k93.sz + 2 = i * 4 + 2 from rfl] at this; rw [← add_field _ _ 2 (by omega)]; exact this
      have e3_ : wr.cell? ⟨(ad.add (i * 4)).block, (ad.add (i * 4)).off + 3, none⟩ = some (.slice A3 x.f3.length c3) := by have := hcx 3 _ rfl; rw [show i * k93.sz + 3 = i * 4 + 3 from rfl] at this; rw [← add_field _ _ 3 (by omega)]; exact this
      have f0_ : wr.cell? (bd.add (i * 4)) = some (.string y.f0) := by have := hcy 0 _ rfl; rwa [show i * k93.sz + 0 = i * 4 from rfl] at this
      have f1_ : wr.cell? ⟨(bd.add (i * 4)).block, (bd.add (i * 4)).off + 1, none⟩ = some (.int .i64 y.f1) := by have := hcy 1 _ rfl; rw [show i * k93.sz + 1 = i * 4 + 1 from rfl] at this; rw [← add_field _ _ 1 (by omega)]; exact this
      have f2_ : wr.cell? ⟨(bd.add (i * 4)).block, (bd.add (i * 4)).off + 2, none⟩ = some (.slice B2 y.f2.length d2) := by have := hcy 2 _ rfl; rw [show i * k93.sz + 2 = i * 4 + 2 from rfl] at this; rw [← add_field _ _ 2 (by omega)]; exact this
      have f3_ : wr.cell? ⟨(bd.add (i * 4)).block, (bd.add (i * 4)).off + 3, none⟩ = some (.slice B3 y.f3.length d3) := by have := hcy 3 _ rfl; rw [show i * k93.sz + 3 = i * 4 + 3 from rfl] at this; rw [← add_field _ _ 3 (by omega)]; exact this
      clear CA CB
      subst ea eb
      clear hx hy hcx hcy hmx hmy
      obtain ⟨r, hr⟩ : ∃ r, eqB x y = r := ⟨_, rfl⟩
      rw [hr] at hc
      have hok' : r = true → Aside0 (a.take (i + 1) = b.take (i + 1)) := fun h => hok (eqB_of (hr.trans h))
      have hno' : r = false → Aside0 (eqB a b = false) := fun h => hno (fun e => by rw [eqB_t e] at hr; rw [← hr] at h; cases h)
      clear hok hno hr
      cases gk with
      | zero => exact absurd HI.out (by omega)
      | succ k1 =>
       cases r
       · replace hno := hno' rfl
         clear hok' hno'
         go_wp2_with (first | ((with_reducible refine gate_dst (N := 8) rfl ?_); (try (refine gate_guard (by rfl) ?_; dsimp only)); refine box_event ?hg (N := 8) ?hd (cs := #[.string (⟨#[]⟩ : ByteArray), .int .i64 0, .slice none 0 0, .slice none 0 0]) (t := 93) ?hr ?_; (case hd => rfl); (case hg => rfl); (case hr => first | (go_simp; done) | (go_simp; rfl)); intro gx hg9 w9x hbox hb9; have HNx := mk0 hb9; have BNx := mk0 hbox; have HGx := mk0 hg9; clear hb9 hbox hg9) | ((with_reducible refine gate_store (t := 93) (p := 8) rfl ?_); refine Go.Proofs.Yticnihfjnjliiaa.Sw.store_whole rfl rfl rfl gx 93 _ _ rfl rfl BNx.out (by kernel_rfl) rfl rfl ?_; intro wx hS_ hbS_ hkS_; have HSx := mk0 (hbS_ wr.heap.size wr (Nat.le_of_eq HGx.out.symm) HNx.out); have BSx := mk0 hS_; clear hS_ hbS_ hkS_ BNx; have f0_n := pw_cell_below HSx.out f0_; have f1_n := pw_cell_below HSx.out f1_; have f2_n := pw_cell_below HSx.out f2_; have f3_n := pw_cell_below HSx.out f3_) | ((with_reducible refine gate_dst (N := 9) rfl ?_); (try (refine gate_guard (by rfl) ?_; dsimp only)); refine box_event ?hg (N := 9) ?hd (cs := #[.string (⟨#[]⟩ : ByteArray), .int .i64 0, .slice none 0 0, .slice none 0 0]) (t := 93) ?hr ?_; (case hd => rfl); (case hg => rfl); (case hr => first | (go_simp; done) | (go_simp; rfl)); intro gy hg9 w9y hbox hb9; have HNy := mk0 hb9; have BNy := mk0 hbox; have HGy := mk0 hg9; clear hb9 hbox hg9) | ((with_reducible refine gate_store (t := 93) (p := 9) rfl ?_); refine Go.Proofs.Yticnihfjnjliiaa.Sw.store_whole rfl rfl rfl gy 93 _ _ rfl rfl BNy.out (by kernel_rfl) rfl rfl ?_; intro wy hS_ hbS_ hkS_; have HSy := mk0 (hbS_ wx.heap.size wx (Nat.le_of_eq HGy.out.symm) HNy.out); have BSy := mk0 hS_; clear hS_ hbS_ hkS_ BNy; have BZx := mk0 (blk_below BSx.out HSy.out); have HZ := mk0 (below_then HSx.out HSx.out.size HSy.out); have p0 : _ = some ((.string x.f0) : Value) := (blk_cell BZx.out 0).trans rfl; have p1 : _ = some ((.int .i64 x.f1) : Value) := (blk_cell BZx.out 1).trans rfl; have p2 : _ = some ((.slice A2 x.f2.length c2) : Value) := (blk_cell BZx.out 2).trans rfl; have p3 : _ = some ((.slice A3 x.f3.length c3) : Value) := (blk_cell BZx.out 3).trans rfl; have q0 : _ = some ((.string y.f0) : Value) := (blk_cell BSy.out 0).trans rfl; have q1 : _ = some ((.int .i64 y.f1) : Value) := (blk_cell BSy.out 1).trans rfl; have q2 : _ = some ((.slice B2 y.f2.length d2) : Value) := (blk_cell BSy.out 2).trans rfl; have q3 : _ = some ((.slice B3 y.f3.length d3) : Value) := (blk_cell BSy.out 3).trans rfl) | (go_at_call 43; (with_reducible refine (hc _ [.string x.f0, .int .i64 x.f1, .slice A2 x.f2.length c2, .slice A3 x.f3.length c3] [.string y.f0, .int .i64 y.f1, .slice B2 y.f2.length d2, .slice B3 y.f3.length d3] (k93_mk _ x lc2 (Kd.C_below gc2 HZ.out) lc3 (Kd.C_below gc3 HZ.out)) (k93_mk _ y ld2 (Kd.C_below gd2 HZ.out) ld3 (Kd.C_below gd3 HZ.out))).mono ?_); rintro e w1 ⟨rfl, hb⟩; have HE_ := mk0 (below_then HZ.out HZ.out.size hb); clear hb))
         go_ret
         exact ⟨by rw [hno.out]; rfl, below_then HB.out HB.out.size HE_.out⟩
       · replace hok := hok' rfl
         clear hok' hno'
         go_wp2_with (first | ((with_reducible refine gate_dst (N := 8) rfl ?_); (try (refine gate_guard (by rfl) ?_; dsimp only)); refine box_event ?hg (N := 8) ?hd (cs := #[.string (⟨#[]⟩ : ByteArray), .int .i64 0, .slice none 0 0, .slice none 0 0]) (t := 93) ?hr ?_; (case hd => rfl); (case hg => rfl); (case hr => first | (go_simp; done) | (go_simp; rfl)); intro gx hg9 w9x hbox hb9; have HNx := mk0 hb9; have BNx := mk0 hbox; have HGx := mk0 hg9; clear hb9 hbox hg9) | ((with_reducible refine gate_store (t := 93) (p := 8) rfl ?_); refine Go.Proofs.Yticnihfjnjliiaa.Sw.store_whole rfl rfl rfl gx 93 _ _ rfl rfl BNx.out (by kernel_rfl) rfl rfl ?_; intro wx hS_ hbS_ hkS_; have HSx := mk0 (hbS_ wr.heap.size wr (Nat.le_of_eq HGx.out.symm) HNx.out); have BSx := mk0 hS_; clear hS_ hbS_ hkS_ BNx; have f0_n := pw_cell_below HSx.out f0_; have f1_n := pw_cell_below HSx.out f1_; have f2_n := pw_cell_below HSx.out f2_; have f3_n := pw_cell_below HSx.out f3_) | ((with_reducible refine gate_dst (N := 9) rfl ?_); (try (refine gate_guard (by rfl) ?_; dsimp only)); refine box_event ?hg (N := 9) ?hd (cs := #[.string (⟨#[]⟩ : ByteArray), .int .i64 0, .slice none 0 0, .slice none 0 0]) (t := 93) ?hr ?_; (case hd => rfl); (case hg => rfl); (case hr => first | (go_simp; done) | (go_simp; rfl)); intro gy hg9 w9y hbox hb9; have HNy := mk0 hb9; have BNy := mk0 hbox; have HGy := mk0 hg9; clear hb9 hbox hg9) | ((with_reducible refine gate_store (t := 93) (p := 9) rfl ?_); refine Go.Proofs.Yticnihfjnjliiaa.Sw.store_whole rfl rfl rfl gy 93 _ _ rfl rfl BNy.out (by kernel_rfl) rfl rfl ?_; intro wy hS_ hbS_ hkS_; have HSy := mk0 (hbS_ wx.heap.size wx (Nat.le_of_eq HGy.out.symm) HNy.out); have BSy := mk0 hS_; clear hS_ hbS_ hkS_ BNy; have BZx := mk0 (blk_below BSx.out HSy.out); have HZ := mk0 (below_then HSx.out HSx.out.size HSy.out); have p0 : _ = some ((.string x.f0) : Value) := (blk_cell BZx.out 0).trans rfl; have p1 : _ = some ((.int .i64 x.f1) : Value) := (blk_cell BZx.out 1).trans rfl; have p2 : _ = some ((.slice A2 x.f2.length c2) : Value) := (blk_cell BZx.out 2).trans rfl; have p3 : _ = some ((.slice A3 x.f3.length c3) : Value) := (blk_cell BZx.out 3).trans rfl; have q0 : _ = some ((.string y.f0) : Value) := (blk_cell BSy.out 0).trans rfl; have q1 : _ = some ((.int .i64 y.f1) : Value) := (blk_cell BSy.out 1).trans rfl; have q2 : _ = some ((.slice B2 y.f2.length d2) : Value) := (blk_cell BSy.out 2).trans rfl; have q3 : _ = some ((.slice B3 y.f3.length d3) : Value) := (blk_cell BSy.out 3).trans rfl) | (go_at_call 43; (with_reducible refine (hc _ [.string x.f0, .int .i64 x.f1, .slice A2 x.f2.length c2, .slice A3 x.f3.length c3] [.string y.f0, .int .i64 y.f1, .slice B2 y.f2.length d2, .slice B3 y.f3.length d3] (k93_mk _ x lc2 (Kd.C_below gc2 HZ.out) lc3 (Kd.C_below gc3 HZ.out)) (k93_mk _ y ld2 (Kd.C_below gd2 HZ.out) ld3 (Kd.C_below gd3 HZ.out))).mono ?_); rintro e w1 ⟨rfl, hb⟩; have HE_ := mk0 (below_then HZ.out HZ.out.size hb); clear hb))
         go_roundg k1
         case measure => exact Nat.lt_succ_self k1
         case rel => exact ⟨i + 1, (by first | rfl | (rw [hwp]) | (simp [hwp]; done)), ⟨by have := HI.out; omega⟩, ⟨below_then HB.out HB.out.size HE_.out⟩, hok⟩
    · have d0 : decide ((i : Int) < (a.length : Int)) = false := decide_eq_false (by omega)
      have HE := mk0 (take_all a b HL.out i hlt HT.out)
      go_wp2
      go_ret
      exact ⟨by rw [HE.out]; rfl, HB.out⟩
 · have hn := len_bne hl
   have HE := mk0 (len_ne a b hl)
   clear hl
   go_enter Try.func44, Try.ntmps44
   go_wp2
   go_ret
   exact ⟨by rw [HE.out]; rfl, HB0.out⟩
theorem extOneof (x y : S86) (h0 : x.f0 = y.f0) (h1 : x.f1 = y.f1) (h2 : x.f2 = y.f2) : x = y := by
 cases x; cases y
 dsimp only at h0 h1 h2
 subst h0 h1 h2
 rfl
set_option maxHeartbeats 8000000 in
set_option maxRecDepth 100000 in
theorem sameOneof (x y : S86) (gx : good86 x) (gy : good86 y) (w : World) (cs ds : List Value) (hx : k86.K w x cs) (hy : k86.K w y ds) : Calls Try.prog 40 #[.agg cs.toArray, .agg ds.toArray] w fun e w' => Eq_ (eqB x y) w e w' := by
 obtain ⟨A1, c1, A2, c2, rfl, lc1, gc1, lc2, gc2⟩ := k86_open hx
 obtain ⟨B1, d1, B2, d2, rfl, ld1, gd1, ld2, gd2⟩ := k86_open hy
 obtain ⟨b0, h0⟩ : ∃ b, eqB x.f0 y.f0 = b := ⟨_, rfl⟩
 have s0 := str_eqB x.f0 y.f0
 rw [h0] at s0
 have H0 := mk0 h0
 clear h0
 obtain ⟨b1, h1⟩ : ∃ b, eqB x.f1 y.f1 = b := ⟨_, rfl⟩
 have s1 := fun (W : World) (hW : Below w.heap.size w W) => eq20 x.f1 y.f1 (bytes_of_wf gx.2.1.2) (bytes_of_wf gy.2.1.2) A1 B1 c1 d1 W (Kd.C_below gc1 hW) (Kd.C_below gd1 hW)
 rw [h1] at s1
 have H1 := mk0 h1
 clear h1
 obtain ⟨b2, h2⟩ : ∃ b, eqB x.f2 y.f2 = b := ⟨_, rfl⟩
 have s2 := fun (W : World) (hW : Below w.heap.size w W) => eq20 x.f2 y.f2 (bytes_of_wf gx.2.2.2) (bytes_of_wf gy.2.2.2) A2 B2 c2 d2 W (Kd.C_below gc2 hW) (Kd.C_below gd2 hW)
 rw [h2] at s2
 have H2 := mk0 h2
 clear h2
 have HB : Aside0 (Below w.heap.size w ((w.alloc (.cells #[.string x.f0, .slice A1 x.f1.length c1, .slice A2 x.f2.length c2] 86)).alloc (.cells #[.string y.f0, .slice B1 y.f1.length d1, .slice B2 y.f2.length d2] 86))) := ⟨below_alloc (below_alloc (Below.refl _ _) _) _⟩
 have BX : Aside0 (((w.alloc (.cells #[.string x.f0, .slice A1 x.f1.length c1, .slice A2 x.f2.length c2] 86)).alloc (.cells #[.string y.f0, .slice B1 y.f1.length d1, .slice B2 y.f2.length d2] 86)).heap[w.heap.size]? = some (.cells #[.string x.f0, .slice A1 x.f1.length c1, .slice A2 x.f2.length c2] 86 (0, 0))) := ⟨blk_alloc (new1 _ _) _⟩
 have BY : Aside0 (((w.alloc (.cells #[.string x.f0, .slice A1 x.f1.length c1, .slice A2 x.f2.length c2] 86)).alloc (.cells #[.string y.f0, .slice B1 y.f1.length d1, .slice B2 y.f2.length d2] 86)).heap[w.heap.size + 1]? = some (.cells #[.string y.f0, .slice B1 y.f1.length d1, .slice B2 y.f2.length d2] 86 (0, 0))) := ⟨new2 _ _ _⟩
 obtain ⟨R, hR⟩ : ∃ r, eqB x y = r := ⟨_, rfl⟩
 have key : (b0 = false ∧ R = false) ∨ (b0 = true ∧ b1 = false ∧ R = false) ∨ (b0 = true ∧ b1 = true ∧ b2 = false ∧ R = false) ∨ (b0 = true ∧ b1 = true ∧ b2 = true ∧ R = true) := by
  rw [← hR]
  cases b0
  · exact .inl (⟨rfl, eqB_field (fun z : S86 => z.f0) H0.out⟩)
  cases b1
  · exact .inr (.inl (⟨rfl, rfl, eqB_field (fun z : S86 => z.f1) H1.out⟩))
  cases b2
  · exact .inr (.inr (.inl (⟨rfl, rfl, rfl, eqB_field (fun z : S86 => z.f2) H2.out⟩)))
  exact .inr (.inr (.inr (⟨rfl, rfl, rfl, eqB_t (extOneof x y (eqB_of H0.out) (eqB_of H1.out) (eqB_of H2.out))⟩)))
 have HR := mk0 hR
 clear hR
 clear H0 H1 H2
 rcases key with ⟨rfl, rfl⟩ | ⟨rfl, rfl, rfl⟩ | ⟨rfl, rfl, rfl, rfl⟩ | ⟨rfl, rfl, rfl, rfl⟩
 all_goals
  go_enter Try.func40, Try.ntmps40
  go_wp2_with (first | (go_at_call 20; (with_reducible refine (s1 _ HB.out).mono ?_); rintro e w1 ⟨rfl, rfl⟩) | (go_at_call 20; (with_reducible refine (s2 _ HB.out).mono ?_); rintro e w1 ⟨rfl, rfl⟩))
  go_ret
  exact ⟨by rw [HR.out]; rfl, (by repeat (first | (with_reducible first | exact HB.out | apply below_alloc | apply pw_below_drewN | apply below_drew1) | exact HB.out))⟩
set_option maxHeartbeats 8000000 in
set_option maxRecDepth 100000 in
theorem eqfOneof (a b : List S86) (hcn : ∀ x ∈ a, ∀ y ∈ b, ∀ (W : World) (cs ds : List Value), k86.K W x cs → k86.K W y ds → Calls Try.prog 40 #[.agg cs.toArray, .agg ds.toArray] W fun e w' => Eq_ (eqB x y) W e w') (hla : a.length ≤ 9223372036854775807) (A B : Option Addr) (ca cb : Nat) (w : World) (CA : Kd.C k86 w A a.length a) (CB : Kd.C k86 w B b.length b) :
 Calls Try.prog 42 #[.slice A a.length ca, .slice B b.length cb, .func (.func 40) #[] #[]] w fun e w' => Eq_ (eqB a b) w e w' := by
 have HB0 := mk0 (Below.refl w.heap.size w)
 have HA := mk0 CA
 have HC := mk0 CB
 by_cases hl : a.length = b.length
 · have HL := mk0 hl
   have hn := len_beq hl
   clear hl
   go_enter Try.func42, Try.ntmps42
   go_wp2
   go_loopg [17] a.length (fun kq v17 w' => ∃ i : Nat, v17 = .int .i64 (i : Int) ∧ Aside0 (i + kq = a.length) ∧ Aside0 (Below w.heap.size w w') ∧ Aside0 (a.take i = b.take i))
   case atStart =>
    exact ⟨0, rfl, ⟨by omega⟩, ⟨HB0.out⟩, ⟨by simp⟩⟩
   case round =>
    obtain ⟨i, rfl, HI, HB, HT⟩ := hrel
    by_cases hlt : i < a.length
    · have hwp : wrap64 ((i : Int) + 1) = ((i + 1 : Nat) : Int) := by unfold wrap64; omega
      have hlb : i < b.length := by have := HL.out; omega
      have d0 : decide ((i : Int) < (a.length : Int)) = true := decide_eq_true (by omega)
      have p0 : (0 ≤ (i : Int)) = True := eq_true (by omega)
      have q0 : ((i : Int) < (a.length : Int)) = True := eq_true (by omega)
      have q1 : ((i : Int) < (b.length : Int)) = True := eq_true (by omega)
      obtain ⟨x, hx⟩ : ∃ x, a.getD i z86 = x := ⟨_, rfl⟩
      obtain ⟨y, hy⟩ : ∃ y, b.getD i z86 = y := ⟨_, rfl⟩
      have hmx : x ∈ a := by rw [← hx]; simp [hlt]
      have hmy : y ∈ b := by rw [← hy]; simp [hlb]
      have hc := hcn x hmx y hmy
      have hok : x = y → Aside0 (a.take (i + 1) = b.take (i + 1)) := fun h => ⟨take_eq z86 a b HL.out i hlt HT.out (by rw [hx, hy, h])⟩
      have hno : ¬ x = y → Aside0 (eqB a b = false) := fun h => ⟨take_ne z86 a b i (by rw [hx, hy]; exact h)⟩
      obtain ⟨ad, cx, ea, _, hKx, hcx⟩ := Kd.C_get (Kd.C_below HA.out HB.out) z86 (i : Int) (by omega) (by omega)
      obtain ⟨bd, cy, eb, _, hKy, hcy⟩ := Kd.C_get (Kd.C_below HC.out HB.out) z86 (i : Int) (by omega) (by omega)
      rw [Int.toNat_natCast] at hKx hcx hKy hcy
      rw [hx] at hKx
      rw [hy] at hKy
      obtain ⟨A1, c1, A2, c2, ecx, lc1, gc1, lc2, gc2⟩ := k86_open hKx
      obtain ⟨B1, d1, B2, d2, ecy, ld1, gd1, ld2, gd2⟩ := k86_open hKy
      subst ecx ecy
      have e0_ : wr.cell? (ad.add (i * 3)) = some (.string x.f0) := by have := hcx 0 _ rfl; rwa [show i * k86.sz + 0 = i * 3 from rfl] at this
      have e1_ : wr.cell? ⟨(ad.add (i * 3)).block, (ad.add (i * 3)).off + 1, none⟩ = some (.slice A1 x.f1.length c1) := by have := hcx 1 _ rfl; rw [show i * k86.sz + 1 = i * 3 + 1 from rfl] at this; rw [← add_field _ _ 1 (by omega)]; exact this
      have e2_ : wr.cell? ⟨(ad.add (i * 3)).block, (ad.add (i * 3)).off + 2, none⟩ = some (.slice A2 x.f2.length c2) := by have := hcx 2 _ rfl; rw [show i * k86.sz + 2 = i * 3 + 2 from rfl] at this; rw [← add_field _ _ 2 (by omega)]; exact this
      have f0_ : wr.cell? (bd.add (i * 3)) = some (.string y.f0) := by have := hcy 0 _ rfl; rwa [show i * k86.sz + 0 = i * 3 from rfl] at this
      have f1_ : wr.cell? ⟨(bd.add (i * 3)).block, (bd.add (i * 3)).off + 1, none⟩ = some (.slice B1 y.f1.length d1) := by have := hcy 1 _ rfl; rw [show i * k86.sz + 1 = i * 3 + 1 from rfl] at this; rw [← add_field _ _ 1 (by omega)]; exact this
      have f2_ : wr.cell? ⟨(bd.add (i * 3)).block, (bd.add (i * 3)).off + 2, none⟩ = some (.slice B2 y.f2.length d2) := by have := hcy 2 _ rfl; rw [show i * k86.sz + 2 = i * 3 + 2 from rfl] at this; rw [← add_field _ _ 2 (by omega)]; exact this
      clear CA CB
      subst ea eb
      clear hx hy hcx hcy hmx hmy
      obtain ⟨r, hr⟩ : ∃ r, eqB x y = r := ⟨_, rfl⟩
      rw [hr] at hc
      have hok' : r = true → Aside0 (a.take (i + 1) = b.take (i + 1)) := fun h => hok (eqB_of (hr.trans h))
      have hno' : r = false → Aside0 (eqB a b = false) := fun h => hno (fun e => by rw [eqB_t e] at hr; rw [← hr] at h; cases h)
      clear hok hno hr
      cases gk with
      | zero => exact absurd HI.out (by omega)
      | succ k1 =>
       cases r
       · replace hno := hno' rfl
         clear hok' hno'
         go_wp2_with (first | ((with_reducible refine gate_dst (N := 8) rfl ?_); (try (refine gate_guard (by rfl) ?_; dsimp only)); refine box_event ?hg (N := 8) ?hd (cs := #[.string (⟨#[]⟩ : ByteArray), .slice none 0 0, .slice none 0 0]) (t := 86) ?hr ?_; (case hd => rfl); (case hg => rfl); (case hr => first | (go_simp; done) | (go_simp; rfl)); intro gx hg9 w9x hbox hb9; have HNx := mk0 hb9; have BNx := mk0 hbox; have HGx := mk0 hg9; clear hb9 hbox hg9) | ((with_reducible refine gate_store (t := 86) (p := 8) rfl ?_); refine Go.Proofs.Yticnihfjnjliiaa.Sw.store_whole rfl rfl rfl gx 86 _ _ rfl rfl BNx.out (by kernel_rfl) rfl rfl ?_; intro wx hS_ hbS_ hkS_; have HSx := mk0 (hbS_ wr.heap.size wr (Nat.le_of_eq HGx.out.symm) HNx.out); have BSx := mk0 hS_; clear hS_ hbS_ hkS_ BNx; have f0_n := pw_cell_below HSx.out f0_; have f1_n := pw_cell_below HSx.out f1_; have f2_n := pw_cell_below HSx.out f2_) | ((with_reducible refine gate_dst (N := 9) rfl ?_); (try (refine gate_guard (by rfl) ?_; dsimp only)); refine box_event ?hg (N := 9) ?hd (cs := #[.string (⟨#[]⟩ : ByteArray), .slice none 0 0, .slice none 0 0]) (t := 86) ?hr ?_; (case hd => rfl); (case hg => rfl); (case hr => first | (go_simp; done) | (go_simp; rfl)); intro gy hg9 w9y hbox hb9; have HNy := mk0 hb9; have BNy := mk0 hbox; have HGy := mk0 hg9; clear hb9 hbox hg9) | ((with_reducible refine gate_store (t := 86) (p := 9) rfl ?_); refine Go.Proofs.Yticnihfjnjliiaa.Sw.store_whole rfl rfl rfl gy 86 _ _ rfl rfl BNy.out (by kernel_rfl) rfl rfl ?_; intro wy hS_ hbS_ hkS_; have HSy := mk0 (hbS_ wx.heap.size wx (Nat.le_of_eq HGy.out.symm) HNy.out); have BSy := mk0 hS_; clear hS_ hbS_ hkS_ BNy; have BZx := mk0 (blk_below BSx.out HSy.out); have HZ := mk0 (below_then HSx.out HSx.out.size HSy.out); have p0 : _ = some ((.string x.f0) : Value) := (blk_cell BZx.out 0).trans rfl; have p1 : _ = some ((.slice A1 x.f1.length c1) : Value) := (blk_cell BZx.out 1).trans rfl; have p2 : _ = some ((.slice A2 x.f2.length c2) : Value) := (blk_cell BZx.out 2).trans rfl; have q0 : _ = some ((.string y.f0) : Value) := (blk_cell BSy.out 0).trans rfl; have q1 : _ = some ((.slice B1 y.f1.length d1) : Value) := (blk_cell BSy.out 1).trans rfl; have q2 : _ = some ((.slice B2 y.f2.length d2) : Value) := (blk_cell BSy.out 2).trans rfl) | (go_at_call 40; (with_reducible refine (hc _ [.string x.f0, .slice A1 x.f1.length c1, .slice A2 x.f2.length c2] [.string y.f0, .slice B1 y.f1.length d1, .slice B2 y.f2.length d2] (k86_mk _ x lc1 (Kd.C_below gc1 HZ.out) lc2 (Kd.C_below gc2 HZ.out)) (k86_mk _ y ld1 (Kd.C_below gd1 HZ.out) ld2 (Kd.C_below gd2 HZ.out))).mono ?_); rintro e w1 ⟨rfl, hb⟩; have HE_ := mk0 (below_then HZ.out HZ.out.size hb); clear hb))
         go_ret
         exact ⟨by rw [hno.out]; rfl, below_then HB.out HB.out.size HE_.out⟩
       · replace hok := hok' rfl
         clear hok' hno'
         go_wp2_with (first | ((with_reducible refine gate_dst (N := 8) rfl ?_); (try (refine gate_guard (by rfl) ?_; dsimp only)); refine box_event ?hg (N := 8) ?hd (cs := #[.string (⟨#[]⟩ : ByteArray), .slice none 0 0, .slice none 0 0]) (t := 86) ?hr ?_; (case hd => rfl); (case hg => rfl); (case hr => first | (go_simp; done) | (go_simp; rfl)); intro gx hg9 w9x hbox hb9; have HNx := mk0 hb9; have BNx := mk0 hbox; have HGx := mk0 hg9; clear hb9 hbox hg9) | ((with_reducible refine gate_store (t := 86) (p := 8) rfl ?_); refine Go.Proofs.Yticnihfjnjliiaa.Sw.store_whole rfl rfl rfl gx 86 _ _ rfl rfl BNx.out (by kernel_rfl) rfl rfl ?_; intro wx hS_ hbS_ hkS_; have HSx := mk0 (hbS_ wr.heap.size wr (Nat.le_of_eq HGx.out.symm) HNx.out); have BSx := mk0 hS_; clear hS_ hbS_ hkS_ BNx; have f0_n := pw_cell_below HSx.out f0_; have f1_n := pw_cell_below HSx.out f1_; have f2_n := pw_cell_below HSx.out f2_) | ((with_reducible refine gate_dst (N := 9) rfl ?_); (try (refine gate_guard (by rfl) ?_; dsimp only)); refine box_event ?hg (N := 9) ?hd (cs := #[.string (⟨#[]⟩ : ByteArray), .slice none 0 0, .slice none 0 0]) (t := 86) ?hr ?_; (case hd => rfl); (case hg => rfl); (case hr => first | (go_simp; done) | (go_simp; rfl)); intro gy hg9 w9y hbox hb9; have HNy := mk0 hb9; have BNy := mk0 hbox; have HGy := mk0 hg9; clear hb9 hbox hg9) | ((with_reducible refine gate_store (t := 86) (p := 9) rfl ?_); refine Go.Proofs.Yticnihfjnjliiaa.Sw.store_whole rfl rfl rfl gy 86 _ _ rfl rfl BNy.out (by kernel_rfl) rfl rfl ?_; intro wy hS_ hbS_ hkS_; have HSy := mk0 (hbS_ wx.heap.size wx (Nat.le_of_eq HGy.out.symm) HNy.out); have BSy := mk0 hS_; clear hS_ hbS_ hkS_ BNy; have BZx := mk0 (blk_below BSx.out HSy.out); have HZ := mk0 (below_then HSx.out HSx.out.size HSy.out); have p0 : _ = some ((.string x.f0) : Value) := (blk_cell BZx.out 0).trans rfl; have p1 : _ = some ((.slice A1 x.f1.length c1) : Value) := (blk_cell BZx.out 1).trans rfl; have p2 : _ = some ((.slice A2 x.f2.length c2) : Value) := (blk_cell BZx.out 2).trans rfl; have q0 : _ = some ((.string y.f0) : Value) := (blk_cell BSy.out 0).trans rfl; have q1 : _ = some ((.slice B1 y.f1.length d1) : Value) := (blk_cell BSy.out 1).trans rfl; have q2 : _ = some ((.slice B2 y.f2.length d2) : Value) := (blk_cell BSy.out 2).trans rfl) | (go_at_call 40; (with_reducible refine (hc _ [.string x.f0, .slice A1 x.f1.length c1, .slice A2 x.f2.length c2] [.string y.f0, .slice B1 y.f1.length d1, .slice B2 y.f2.length d2] (k86_mk _ x lc1 (Kd.C_below gc1 HZ.out) lc2 (Kd.C_below gc2 HZ.out)) (k86_mk _ y ld1 (Kd.C_below gd1 HZ.out) ld2 (Kd.C_below gd2 HZ.out))).mono ?_); rintro e w1 ⟨rfl, hb⟩; have HE_ := mk0 (below_then HZ.out HZ.out.size hb); clear hb))
         go_roundg k1
         case measure => exact Nat.lt_succ_self k1
         case rel => exact ⟨i + 1, (by first | rfl | (rw [hwp]) | (simp [hwp]; done)), ⟨by have := HI.out; omega⟩, ⟨below_then HB.out HB.out.size HE_.out⟩, hok⟩
    · have d0 : decide ((i : Int) < (a.length : Int)) = false := decide_eq_false (by omega)
      have HE := mk0 (take_all a b HL.out i hlt HT.out)
      go_wp2
      go_ret
      exact ⟨by rw [HE.out]; rfl, HB.out⟩
 · have hn := len_bne hl
   have HE := mk0 (len_ne a b hl)
   clear hl
   go_enter Try.func42, Try.ntmps42
   go_wp2
   go_ret
   exact ⟨by rw [HE.out]; rfl, HB0.out⟩
theorem extMethod (x y : S97) (h0 : x.f0 = y.f0) (h1 : x.f1 = y.f1) (h2 : x.f2 = y.f2) (h3 : x.f3 = y.f3) (h4 : x.f4 = y.f4) (h5 : x.f5 = y.f5) (h6 : x.f6 = y.f6) : x = y := by
 cases x; cases y
 dsimp only at h0 h1 h2 h3 h4 h5 h6
 subst h0 h1 h2 h3 h4 h5 h6
 rfl
set_option maxHeartbeats 8000000 in
set_option maxRecDepth 100000 in
theorem sameMethod (x y : S97) (gx : good97 x) (gy : good97 y) (w : World) (cs ds : List Value) (hx : k97.K w x cs) (hy : k97.K w y ds) : Calls Try.prog 45 #[.agg cs.toArray, .agg ds.toArray] w fun e w' => Eq_ (eqB x y) w e w' := by
 obtain ⟨A5, c5, A6, c6, rfl, lc5, gc5, lc6, gc6⟩ := k97_open hx
 obtain ⟨B5, d5, B6, d6, rfl, ld5, gd5, ld6, gd6⟩ := k97_open hy
 obtain ⟨b0, h0⟩ : ∃ b, eqB x.f0 y.f0 = b := ⟨_, rfl⟩
 have s0 := str_eqB x.f0 y.f0
 rw [h0] at s0
 have H0 := mk0 h0
 clear h0
 obtain ⟨b1, h1⟩ : ∃ b, eqB x.f1 y.f1 = b := ⟨_, rfl⟩
 have s1 := str_eqB x.f1 y.f1
 rw [h1] at s1
 have H1 := mk0 h1
 clear h1
 obtain ⟨b2, h2⟩ : ∃ b, eqB x.f2 y.f2 = b := ⟨_, rfl⟩
 have s2 := str_eqB x.f2 y.f2
 rw [h2] at s2
 have H2 := mk0 h2
 clear h2
 obtain ⟨b3, h3⟩ : ∃ b, eqB x.f3 y.f3 = b := ⟨_, rfl⟩
 have s3 := bool_eqB x.f3 y.f3
 rw [h3] at s3
 have H3 := mk0 h3
 clear h3
 obtain ⟨b4, h4⟩ : ∃ b, eqB x.f4 y.f4 = b := ⟨_, rfl⟩
 have s4 := bool_eqB x.f4 y.f4
 rw [h4] at s4
 have H4 := mk0 h4
 clear h4
 obtain ⟨b5, h5⟩ : ∃ b, eqB x.f5 y.f5 = b := ⟨_, rfl⟩
 have s5 := fun (W : World) (hW : Below w.heap.size w W) => eq20 x.f5 y.f5 (bytes_of_wf gx.2.2.2.2.2.1.2) (bytes_of_wf gy.2.2.2.2.2.1.2) A5 B5 c5 d5 W (Kd.C_below gc5 hW) (Kd.C_below gd5 hW)
 rw [h5] at s5
 have H5 := mk0 h5
 clear h5
 obtain ⟨b6, h6⟩ : ∃ b, eqB x.f6 y.f6 = b := ⟨_, rfl⟩
 have s6 := fun (W : World) (hW : Below w.heap.size w W) => eq20 x.f6 y.f6 (bytes_of_wf gx.2.2.2.2.2.2.2) (bytes_of_wf gy.2.2.2.2.2.2.2) A6 B6 c6 d6 W (Kd.C_below gc6 hW) (Kd.C_below gd6 hW)
 rw [h6] at s6
 have H6 := mk0 h6
 clear h6
 have HB : Aside0 (Below w.heap.size w ((w.alloc (.cells #[.string x.f0, .string x.f1, .string x.f2, .bool x.f3, .bool x.f4, .slice A5 x.f5.length c5, .slice A6 x.f6.length c6] 97)).alloc (.cells #[.string y.f0, .string y.f1, .string y.f2, .bool y.f3, .bool y.f4, .slice B5 y.f5.length d5, .slice B6 y.f6.length d6] 97))) := ⟨below_alloc (below_alloc (Below.refl _ _) _) _⟩
 have BX : Aside0 (((w.alloc (.cells #[.string x.f0, .string x.f1, .string x.f2, .bool x.f3, .bool x.f4, .slice A5 x.f5.length c5, .slice A6 x.f6.length c6] 97)).alloc (.cells #[.string y.f0, .string y.f1, .string y.f2, .bool y.f3, .bool y.f4, .slice B5 y.f5.length d5, .slice B6 y.f6.length d6] 97)).heap[w.heap.size]? = some (.cells #[.string x.f0, .string x.f1, .string x.f2, .bool x.f3, .bool x.f4, .slice A5 x.f5.length c5, .slice A6 x.f6.length c6] 97 (0, 0))) := ⟨blk_alloc (new1 _ _) _⟩
 have BY : Aside0 (((w.alloc (.cells #[.string x.f0, .string x.f1, .string x.f2, .bool x.f3, .bool x.f4, .slice A5 x.f5.length c5, .slice A6 x.f6.length c6] 97)).alloc (.cells #[.string y.f0, .string y.f1, .string y.f2, .bool y.f3, .bool y.f4, .slice B5 y.f5.length d5, .slice B6 y.f6.length d6] 97)).heap[w.heap.size + 1]? = some (.cells #[.string y.f0, .string y.f1, .string y.f2, .bool y.f3, .bool y.f4, .slice B5 y.f5.length d5, .slice B6 y.f6.length d6] 97 (0, 0))) := ⟨new2 _ _ _⟩
 obtain ⟨R, hR⟩ : ∃ r, eqB x y = r := ⟨_, rfl⟩
 have key : (b0 = false ∧ R = false) ∨ (b0 = true ∧ b1 = false ∧ R = false) ∨ (b0 = true ∧ b1 = true ∧ b2 = false ∧ R = false) ∨ (b0 = true ∧ b1 = true ∧ b2 = true ∧ b3 = false ∧ R = false) ∨ (b0 = true ∧ b1 = true ∧ b2 = true ∧ b3 = true ∧ b4 = false ∧ R = false) ∨ (b0 = true ∧ b1 = true ∧ b2 = true ∧ b3 = true ∧ b4 = true ∧ b5 = false ∧ R = false) ∨ (b0 = true ∧ b1 = true ∧ b2 = true ∧ b3 = true ∧ b4 = true ∧ b5 = true ∧ b6 = false ∧ R = false) ∨ (b0 = true ∧ b1 = true ∧ b2 = true ∧ b3 = true ∧ b4 = true ∧ b5 = true ∧ b6 = true ∧ R = true) := by
  rw [← hR]
  cases b0
  · exact .inl (⟨rfl, eqB_field (fun z : S97 => z.f0) H0.out⟩)
  cases b1
  · exact .inr (.inl (⟨rfl, rfl, eqB_field (fun z : S97 => z.f1) H1.out⟩))
  cases b2
  · exact .inr (.inr (.inl (⟨rfl, rfl, rfl, eqB_field (fun z : S97 => z.f2) H2.out⟩)))
  cases b3
  · exact .inr (.inr (.inr (.inl (⟨rfl, rfl, rfl, rfl, eqB_field (fun z : S97 => z.f3) H3.out⟩))))
  cases b4
  · exact .inr (.inr (.inr (.inr (.inl (⟨rfl, rfl, rfl, rfl, rfl, eqB_field (fun z : S97 => z.f4) H4.out⟩)))))
  cases b5
  · exact .inr (.inr (.inr (.inr (.inr (.inl (⟨rfl, rfl, rfl, rfl, rfl, rfl, eqB_field (fun z : S97 => z.f5) H5.out⟩))))))
  cases b6
  · exact .inr (.inr (.inr (.inr (.inr (.inr (.inl (⟨rfl, rfl, rfl, rfl, rfl, rfl, rfl, eqB_field (fun z : S97 => z.f6) H6.out⟩)))))))
  exact .inr (.inr (.inr (.inr (.inr (.inr (.inr (⟨rfl, rfl, rfl, rfl, rfl, rfl, rfl, eqB_t (extMethod x y (eqB_of H0.out) (eqB_of H1.out) (eqB_of H2.out) (eqB_of H3.out) (eqB_of H4.out) (eqB_of H5.out) (eqB_of H6.out))⟩)))))))
 have HR := mk0 hR
 clear hR
 clear H0 H1 H2 H3 H4 H5 H6
 rcases key with ⟨rfl, rfl⟩ | ⟨rfl, rfl, rfl⟩ | ⟨rfl, rfl, rfl, rfl⟩ | ⟨rfl, rfl, rfl, rfl, rfl⟩ | ⟨rfl, rfl, rfl, rfl, rfl, rfl⟩ | ⟨rfl, rfl, rfl, rfl, rfl, rfl, rfl⟩ | ⟨rfl, rfl, rfl, rfl, rfl, rfl, rfl, rfl⟩ | ⟨rfl, rfl, rfl, rfl, rfl, rfl, rfl, rfl⟩
 all_goals
  go_enter Try.func45, Try.ntmps45
  go_wp2_with (first | (go_at_call 20; (with_reducible refine (s5 _ HB.out).mono ?_); rintro e w1 ⟨rfl, rfl⟩) | (go_at_call 20; (with_reducible refine (s6 _ HB.out).mono ?_); rintro e w1 ⟨rfl, rfl⟩))
  go_ret
  exact ⟨by rw [HR.out]; rfl, (by repeat (first | (with_reducible first | exact HB.out | apply below_alloc | apply pw_below_drewN | apply below_drew1) | exact HB.out))⟩
set_option maxHeartbeats 8000000 in
set_option maxRecDepth 100000 in
theorem eqfMethod (a b : List S97) (hcn : ∀ x ∈ a, ∀ y ∈ b, ∀ (W : World) (cs ds : List Value), k97.K W x cs → k97.K W y ds → Calls Try.prog 45 #[.agg cs.toArray, .agg ds.toArray] W fun e w' => Eq_ (eqB x y) W e w') (hla : a.length ≤ 9223372036854775807) (A B : Option Addr) (ca cb : Nat) (w : World) (CA : Kd.C k97 w A a.length a) (CB : Kd.C k97 w B b.length b) :
 Calls Try.prog 46 #[.slice A a.length ca, .slice B b.length cb, .func (.func 45) #[] #[]] w fun e w' => Eq_ (eqB a b) w e w' := by
 have HB0 := mk0 (Below.refl w.heap.size w)
 have HA := mk0 CA
 have HC := mk0 CB
 by_cases hl : a.length = b.length
 · have HL := mk0 hl
   have hn := len_beq hl
   clear hl
   go_enter Try.func46, Try.ntmps46
   go_wp2
   go_loopg [17] a.length (fun kq v17 w' => ∃ i : Nat, v17 = .int .i64 (i : Int) ∧ Aside0 (i + kq = a.length) ∧ Aside0 (Below w.heap.size w w') ∧ Aside0 (a.take i = b.take i))
   case atStart =>
    exact ⟨0, rfl, ⟨by omega⟩, ⟨HB0.out⟩, ⟨by simp⟩⟩
   case round =>
    obtain ⟨i, rfl, HI, HB, HT⟩ := hrel
    by_cases hlt : i < a.length
    · have hwp : wrap64 ((i : Int) + 1) = ((i + 1 : Nat) : Int) := by unfold wrap64; omega
      have hlb : i < b.length := by have := HL.out; omega
      have d0 : decide ((i : Int) < (a.length : Int)) = true := decide_eq_true (by omega)
      have p0 : (0 ≤ (i : Int)) = True := eq_true (by omega)
      have q0 : ((i : Int) < (a.length : Int)) = True := eq_true (by omega)
      have q1 : ((i : Int) < (b.length : Int)) = True := eq_true (by omega)
      obtain ⟨x, hx⟩ : ∃ x, a.getD i z97 = x := ⟨_, rfl⟩
      obtain ⟨y, hy⟩ : ∃ y, b.getD i z97 = y := ⟨_, rfl⟩
      have hmx : x ∈ a := by rw [← hx]; simp [hlt]
      have hmy : y ∈ b := by rw [← hy]; simp [hlb]
      have hc := hcn x hmx y hmy
      have hok : x = y → Aside0 (a.take (i + 1) = b.take (i + 1)) := fun h => ⟨take_eq z97 a b HL.out i hlt HT.out (by rw [hx, hy, h])⟩
      have hno : ¬ x = y → Aside0 (eqB a b = false) := fun h => ⟨take_ne z97 a b i (by rw [hx, hy]; exact h)⟩
      obtain ⟨ad, cx, ea, _, hKx, hcx⟩ := Kd.C_get (Kd.C_below HA.out HB.out) z97 (i : Int) (by omega) (by omega)
      obtain ⟨bd, cy, eb, _, hKy, hcy⟩ := Kd.C_get (Kd.C_below HC.out HB.out) z97 (i : Int) (by omega) (by omega)
      rw [Int.toNat_natCast] at hKx hcx hKy hcy
      rw [hx] at hKx
      rw [hy] at hKy
      obtain ⟨A5, c5, A6, c6, ecx, lc5, gc5, lc6, gc6⟩ := k97_open hKx
      obtain ⟨B5, d5, B6, d6, ecy, ld5, gd5, ld6, gd6⟩ := k97_open hKy
      subst ecx ecy
      have e0_ : wr.cell? (ad.add (i * 7)) = some (.string x.f0) := by have := hcx 0 _ rfl; rwa [show i * k97.sz + 0 = i * 7 from rfl] at this
      have e1_ : wr.cell? ⟨(ad.add (i * 7)).block, (ad.add (i * 7)).off + 1, none⟩ = some (.string x.f1) := by have := hcx 1 _ rfl; rw [show i * k97.sz + 1 = i * 7 + 1 from rfl] at this; rw [← add_field _ _ 1 (by omega)]; exact this
      have e2_ : wr.cell? ⟨(ad.add (i * 7)).block, (ad.add (i * 7)).off + 2, none⟩ = some (.string x.f2) := by have := hcx 2 _ rfl; rw [show i * k97.sz + 2 = i * 7 + 2 from rfl] at this; rw [← add_field _ _ 2 (by omega)]; exact this
      have e3_ : wr.cell? ⟨(ad.add (i * 7)).block, (ad.add (i * 7)).off + 3, none⟩ = some (.bool x.f3) := by have := hcx 3 _ rfl; rw [show i * k97.sz + 3 = i * 7 + 3 from rfl] at this; rw [← add_field _ _ 3 (by omega)]; exact this
      have e4_ : wr.cell? ⟨(ad.add (i * 7)).block, (ad.add (i * 7)).off + 4, none⟩ = some (.bool x.f4) := by have := hcx 4 _ rfl; rw [show i * k97.sz + 4 = i * 7 + 4 from rfl] at this; rw [← add_field _ _ 4 (by omega)]; exact this
      have e5_ : wr.cell? ⟨(ad.add (i * 7)).block, (ad.add (i * 7)).off + 5, none⟩ = some (.slice A5 x.f5.length c5) := by have := hcx 5 _ rfl; rw [show i * k97.sz + 5 = i * 7 + 5 from rfl] at this; rw [← add_field _ _ 5 (by omega)]; exact this
      have e6_ : wr.cell? ⟨(ad.add (i * 7)).block, (ad.add (i * 7)).off + 6, none⟩ = some (.slice A6 x.f6.length c6) := by have := hcx 6 _ rfl; rw [show i * k97.sz + 6 = i * 7 + 6 from rfl] at this; rw [← add_field _ _ 6 (by omega)]; exact this
      have f0_ : wr.cell? (bd.add (i * 7)) = some (.string y.f0) := by have := hcy 0 _ rfl; rwa [show i * k97.sz + 0 = i * 7 from rfl] at this
      have f1_ : wr.cell? ⟨(bd.add (i * 7)).block, (bd.add (i * 7)).off + 1, none⟩ = some (.string y.f1) := by have := hcy 1 _ rfl; rw [show i * k97.sz + 1 = i * 7 + 1 from rfl] at this; rw [← add_field _ _ 1 (by omega)]; exact this
      have f2_ : wr.cell? ⟨(bd.add (i * 7)).block, (bd.add (i * 7)).off + 2, none⟩ = some (.string y.f2) := by have := hcy 2 _ rfl; rw [show i * k97.sz + 2 = i * 7 + 2 from rfl] at this; rw [← add_field _ _ 2 (by omega)]; exact this
      have f3_ : wr.cell? ⟨(bd.add (i * 7)).block, (bd.add (i * 7)).off + 3, none⟩ = some (.bool y.f3) := by have := hcy 3 _ rfl; rw [show i * k97.sz + 3 = i * 7 + 3 from rfl] at this; rw [← add_field _ _ 3 (by omega)]; exact this
      have f4_ : wr.cell? ⟨(bd.add (i * 7)).block, (bd.add (i * 7)).off + 4, none⟩ = some (.bool y.f4) := by have := hcy 4 _ rfl; rw [show i * k97.sz + 4 = i * 7 + 4 from rfl] at this; rw [← add_field _ _ 4 (by omega)]; exact this
      have f5_ : wr.cell? ⟨(bd.add (i * 7)).block, (bd.add (i * 7)).off + 5, none⟩ = some (.slice B5 y.f5.length d5) := by have := hcy 5 _ rfl; rw [show i * k97.sz + 5 = i * 7 + 5 from rfl] at this; rw [← add_field _ _ 5 (by omega)]; exact this
      have f6_ : wr.cell? ⟨(bd.add (i * 7)).block, (bd.add (i * 7)).off + 6, none⟩ = some (.slice B6 y.f6.length d6) := by have := hcy 6 _ rfl; rw [show i * k97.sz + 6 = i * 7 + 6 from rfl] at this; rw [← add_field _ _ 6 (by omega)]; exact this
      clear CA CB
      subst ea eb
      clear hx hy hcx hcy hmx hmy
      obtain ⟨r, hr⟩ : ∃ r, eqB x y = r := ⟨_, rfl⟩
      rw [hr] at hc
      have hok' : r = true → Aside0 (a.take (i + 1) = b.take (i + 1)) := fun h => hok (eqB_of (hr.trans h))
      have hno' : r = false → Aside0 (eqB a b = false) := fun h => hno (fun e => by rw [eqB_t e] at hr; rw [← hr] at h; cases h)
      clear hok hno hr
      cases gk with
      | zero => exact absurd HI.out (by omega)
      | succ k1 =>
       cases r
       · replace hno := hno' rfl
         clear hok' hno'
         go_wp2_with (first | ((with_reducible refine gate_dst (N := 8) rfl ?_); (try (refine gate_guard (by rfl) ?_; dsimp only)); refine box_event ?hg (N := 8) ?hd (cs := #[.string (⟨#[]⟩ : ByteArray), .string (⟨#[]⟩ : ByteArray), .string (⟨#[]⟩ : ByteArray), .bool false, .bool false, .slice none 0 0, .slice none 0 0]) (t := 97) ?hr ?_; (case hd => rfl); (case hg => rfl); (case hr => first | (go_simp; done) | (go_simp; rfl)); intro gx hg9 w9x hbox hb9; have HNx := mk0 hb9; have BNx := mk0 hbox; have HGx := mk0 hg9; clear hb9 hbox hg9) | ((with_reducible refine gate_store (t := 97) (p := 8) rfl ?_); refine Go.Proofs.Yticnihfjnjliiaa.Sw.store_whole rfl rfl rfl gx 97 _ _ rfl rfl BNx.out (by kernel_rfl) rfl rfl ?_; intro wx hS_ hbS_ hkS_; have HSx := mk0 (hbS_ wr.heap.size wr (Nat.le_of_eq HGx.out.symm) HNx.out); have BSx := mk0 hS_; clear hS_ hbS_ hkS_ BNx; have f0_n := pw_cell_below HSx.out f0_; have f1_n := pw_cell_below HSx.out f1_; have f2_n := pw_cell_below HSx.out f2_; have f3_n := pw_cell_below HSx.out f3_; have f4_n := pw_cell_below HSx.out f4_; have f5_n := pw_cell_below HSx.out f5_; have f6_n := pw_cell_below HSx.out f6_) | ((with_reducible refine gate_dst (N := 9) rfl ?_); (try (refine gate_guard (by rfl) ?_; dsimp only)); refine box_event ?hg (N := 9) ?hd (cs := #[.string (⟨#[]⟩ : ByteArray), .string (⟨#[]⟩ : ByteArray), .string (⟨#[]⟩ : ByteArray), .bool false, .bool false, .slice none 0 0, .slice none 0 0]) (t := 97) ?hr ?_; (case hd => rfl); (case hg => rfl); (case hr => first | (go_simp; done) | (go_simp; rfl)); intro gy hg9 w9y hbox hb9; have HNy := mk0 hb9; have BNy := mk0 hbox; have HGy := mk0 hg9; clear hb9 hbox hg9) | ((with_reducible refine gate_store (t := 97) (p := 9) rfl ?_); refine Go.Proofs.Yticnihfjnjliiaa.Sw.store_whole rfl rfl rfl gy 97 _ _ rfl rfl BNy.out (by kernel_rfl) rfl rfl ?_; intro wy hS_ hbS_ hkS_; have HSy := mk0 (hbS_ wx.heap.size wx (Nat.le_of_eq HGy.out.symm) HNy.out); have BSy := mk0 hS_; clear hS_ hbS_ hkS_ BNy; have BZx := mk0 (blk_below BSx.out HSy.out); have HZ := mk0 (below_then HSx.out HSx.out.size HSy.out); have p0 : _ = some ((.string x.f0) : Value) := (blk_cell BZx.out 0).trans rfl; have p1 : _ = some ((.string x.f1) : Value) := (blk_cell BZx.out 1).trans rfl; have p2 : _ = some ((.string x.f2) : Value) := (blk_cell BZx.out 2).trans rfl; have p3 : _ = some ((.bool x.f3) : Value) := (blk_cell BZx.out 3).trans rfl; have p4 : _ = some ((.bool x.f4) : Value) := (blk_cell BZx.out 4).trans rfl; have p5 : _ = some ((.slice A5 x.f5.length c5) : Value) := (blk_cell BZx.out 5).trans rfl; have p6 : _ = some ((.slice A6 x.f6.length c6) : Value) := (blk_cell BZx.out 6).trans rfl; have q0 : _ = some ((.string y.f0) : Value) := (blk_cell BSy.out 0).trans rfl; have q1 : _ = some ((.string y.f1) : Value) := (blk_cell BSy.out 1).trans rfl; have q2 : _ = some ((.string y.f2) : Value) := (blk_cell BSy.out 2).trans rfl; have q3 : _ = some ((.bool y.f3) : Value) := (blk_cell BSy.out 3).trans rfl; have q4 : _ = some ((.bool y.f4) : Value) := (blk_cell BSy.out 4).trans rfl; have q5 : _ = some ((.slice B5 y.f5.length d5) : Value) := (blk_cell BSy.out 5).trans rfl; have q6 : _ = some ((.slice B6 y.f6.length d6) : Value) := (blk_cell BSy.out 6).trans rfl) | (go_at_call 45; (with_reducible refine (hc _ [.string x.f0, .string x.f1, .string x.f2, .bool x.f3, .bool x.f4, .slice A5 x.f5.length c5, .slice A6 x.f6.length c6] [.string y.f0, .string y.f1, .string y.f2, .bool y.f3, .bool y.f4, .slice B5 y.f5.length d5, .slice B6 y.f6.length d6] (k97_mk _ x lc5 (Kd.C_below gc5 HZ.out) lc6 (Kd.C_below gc6 HZ.out)) (k97_mk _ y ld5 (Kd.C_below gd5 HZ.out) ld6 (Kd.C_below gd6 HZ.out))).mono ?_); rintro e w1 ⟨rfl, hb⟩; have HE_ := mk0 (below_then HZ.out HZ.out.size hb); clear hb))
         go_ret
         exact ⟨by rw [hno.out]; rfl, below_then HB.out HB.out.size HE_.out⟩
       · replace hok := hok' rfl
         clear hok' hno'
         go_wp2_with (first | ((with_reducible refine gate_dst (N := 8) rfl ?_); (try (refine gate_guard (by rfl) ?_; dsimp only)); refine box_event ?hg (N := 8) ?hd (cs := #[.string (⟨#[]⟩ : ByteArray), .string (⟨#[]⟩ : ByteArray), .string (⟨#[]⟩ : ByteArray), .bool false, .bool false, .slice none 0 0, .slice none 0 0]) (t := 97) ?hr ?_; (case hd => rfl); (case hg => rfl); (case hr => first | (go_simp; done) | (go_simp; rfl)); intro gx hg9 w9x hbox hb9; have HNx := mk0 hb9; have BNx := mk0 hbox; have HGx := mk0 hg9; clear hb9 hbox hg9) | ((with_reducible refine gate_store (t := 97) (p := 8) rfl ?_); refine Go.Proofs.Yticnihfjnjliiaa.Sw.store_whole rfl rfl rfl gx 97 _ _ rfl rfl BNx.out (by kernel_rfl) rfl rfl ?_; intro wx hS_ hbS_ hkS_; have HSx := mk0 (hbS_ wr.heap.size wr (Nat.le_of_eq HGx.out.symm) HNx.out); have BSx := mk0 hS_; clear hS_ hbS_ hkS_ BNx; have f0_n := pw_cell_below HSx.out f0_; have f1_n := pw_cell_below HSx.out f1_; have f2_n := pw_cell_below HSx.out f2_; have f3_n := pw_cell_below HSx.out f3_; have f4_n := pw_cell_below HSx.out f4_; have f5_n := pw_cell_below HSx.out f5_; have f6_n := pw_cell_below HSx.out f6_) | ((with_reducible refine gate_dst (N := 9) rfl ?_); (try (refine gate_guard (by rfl) ?_; dsimp only)); refine box_event ?hg (N := 9) ?hd (cs := #[.string (⟨#[]⟩ : ByteArray), .string (⟨#[]⟩ : ByteArray), .string (⟨#[]⟩ : ByteArray), .bool false, .bool false, .slice none 0 0, .slice none 0 0]) (t := 97) ?hr ?_; (case hd => rfl); (case hg => rfl); (case hr => first | (go_simp; done) | (go_simp; rfl)); intro gy hg9 w9y hbox hb9; have HNy := mk0 hb9; have BNy := mk0 hbox; have HGy := mk0 hg9; clear hb9 hbox hg9) | ((with_reducible refine gate_store (t := 97) (p := 9) rfl ?_); refine Go.Proofs.Yticnihfjnjliiaa.Sw.store_whole rfl rfl rfl gy 97 _ _ rfl rfl BNy.out (by kernel_rfl) rfl rfl ?_; intro wy hS_ hbS_ hkS_; have HSy := mk0 (hbS_ wx.heap.size wx (Nat.le_of_eq HGy.out.symm) HNy.out); have BSy := mk0 hS_; clear hS_ hbS_ hkS_ BNy; have BZx := mk0 (blk_below BSx.out HSy.out); have HZ := mk0 (below_then HSx.out HSx.out.size HSy.out); have p0 : _ = some ((.string x.f0) : Value) := (blk_cell BZx.out 0).trans rfl; have p1 : _ = some ((.string x.f1) : Value) := (blk_cell BZx.out 1).trans rfl; have p2 : _ = some ((.string x.f2) : Value) := (blk_cell BZx.out 2).trans rfl; have p3 : _ = some ((.bool x.f3) : Value) := (blk_cell BZx.out 3).trans rfl; have p4 : _ = some ((.bool x.f4) : Value) := (blk_cell BZx.out 4).trans rfl; have p5 : _ = some ((.slice A5 x.f5.length c5) : Value) := (blk_cell BZx.out 5).trans rfl; have p6 : _ = some ((.slice A6 x.f6.length c6) : Value) := (blk_cell BZx.out 6).trans rfl; have q0 : _ = some ((.string y.f0) : Value) := (blk_cell BSy.out 0).trans rfl; have q1 : _ = some ((.string y.f1) : Value) := (blk_cell BSy.out 1).trans rfl; have q2 : _ = some ((.string y.f2) : Value) := (blk_cell BSy.out 2).trans rfl; have q3 : _ = some ((.bool y.f3) : Value) := (blk_cell BSy.out 3).trans rfl; have q4 : _ = some ((.bool y.f4) : Value) := (blk_cell BSy.out 4).trans rfl; have q5 : _ = some ((.slice B5 y.f5.length d5) : Value) := (blk_cell BSy.out 5).trans rfl; have q6 : _ = some ((.slice B6 y.f6.length d6) : Value) := (blk_cell BSy.out 6).trans rfl) | (go_at_call 45; (with_reducible refine (hc _ [.string x.f0, .string x.f1, .string x.f2, .bool x.f3, .bool x.f4, .slice A5 x.f5.length c5, .slice A6 x.f6.length c6] [.string y.f0, .string y.f1, .string y.f2, .bool y.f3, .bool y.f4, .slice B5 y.f5.length d5, .slice B6 y.f6.length d6] (k97_mk _ x lc5 (Kd.C_below gc5 HZ.out) lc6 (Kd.C_below gc6 HZ.out)) (k97_mk _ y ld5 (Kd.C_below gd5 HZ.out) ld6 (Kd.C_below gd6 HZ.out))).mono ?_); rintro e w1 ⟨rfl, hb⟩; have HE_ := mk0 (below_then HZ.out HZ.out.size hb); clear hb))
         go_roundg k1
         case measure => exact Nat.lt_succ_self k1
         case rel => exact ⟨i + 1, (by first | rfl | (rw [hwp]) | (simp [hwp]; done)), ⟨by have := HI.out; omega⟩, ⟨below_then HB.out HB.out.size HE_.out⟩, hok⟩
    · have d0 : decide ((i : Int) < (a.length : Int)) = false := decide_eq_false (by omega)
      have HE := mk0 (take_all a b HL.out i hlt HT.out)
      go_wp2
      go_ret
      exact ⟨by rw [HE.out]; rfl, HB.out⟩
 · have hn := len_bne hl
   have HE := mk0 (len_ne a b hl)
   clear hl
   go_enter Try.func46, Try.ntmps46
   go_wp2
   go_ret
   exact ⟨by rw [HE.out]; rfl, HB0.out⟩
theorem extEnum (x y : S60) (h0 : x.f0 = y.f0) (h1 : x.f1 = y.f1) (h2 : x.f2 = y.f2) (h3 : x.f3 = y.f3) : x = y := by
 cases x; cases y
 dsimp only at h0 h1 h2 h3
 subst h0 h1 h2 h3
 rfl
set_option maxHeartbeats 8000000 in
set_option maxRecDepth 100000 in
theorem sameEnum (x y : S60) (gx : good60 x) (gy : good60 y) (w : World) (cs ds : List Value) (hx : k60.K w x cs) (hy : k60.K w y ds) : Calls Try.prog 26 #[.agg cs.toArray, .agg ds.toArray] w fun e w' => Eq_ (eqB x y) w e w' := by
 obtain ⟨A1, c1, A2, c2, A3, c3, rfl, lc1, gc1, lc2, gc2, lc3, gc3⟩ := k60_open hx
 obtain ⟨B1, d1, B2, d2, B3, d3, rfl, ld1, gd1, ld2, gd2, ld3, gd3⟩ := k60_open hy
 obtain ⟨b0, h0⟩ : ∃ b, eqB x.f0 y.f0 = b := ⟨_, rfl⟩
 have s0 := str_eqB x.f0 y.f0
 rw [h0] at s0
 have H0 := mk0 h0
 clear h0
 obtain ⟨b2, h2⟩ : ∃ b, eqB x.f2 y.f2 = b := ⟨_, rfl⟩
 have s2 := fun (W : World) (hW : Below w.heap.size w W) => eq20 x.f2 y.f2 (bytes_of_wf gx.2.2.1.2) (bytes_of_wf gy.2.2.1.2) A2 B2 c2 d2 W (Kd.C_below gc2 hW) (Kd.C_below gd2 hW)
 rw [h2] at s2
 have H2 := mk0 h2
 clear h2
 obtain ⟨b3, h3⟩ : ∃ b, eqB x.f3 y.f3 = b := ⟨_, rfl⟩
 have s3 := fun (W : World) (hW : Below w.heap.size w W) => eq20 x.f3 y.f3 (bytes_of_wf gx.2.2.2.2) (bytes_of_wf gy.2.2.2.2) A3 B3 c3 d3 W (Kd.C_below gc3 hW) (Kd.C_below gd3 hW)
 rw [h3] at s3
 have H3 := mk0 h3
 clear h3
 obtain ⟨b1, h1⟩ : ∃ b, eqB x.f1 y.f1 = b := ⟨_, rfl⟩
 have s1 := fun (W : World) (hW : Below w.heap.size w W) => eqfValue x.f1 y.f1 (fun p hp q_ hq W2 cs ds hx hy => sameValue p q_ (gx.2.1.2 p hp) (gy.2.1.2 q_ hq) W2 cs ds hx hy) (len62 gx.2.1.1) A1 B1 c1 d1 W (Kd.C_below gc1 hW) (Kd.C_below gd1 hW)
 rw [h1] at s1
 have H1 := mk0 h1
 clear h1
 have HB : Aside0 (Below w.heap.size w ((w.alloc (.cells #[.string x.f0, .slice A1 x.f1.length c1, .slice A2 x.f2.length c2, .slice A3 x.f3.length c3] 60)).alloc (.cells #[.string y.f0, .slice B1 y.f1.length d1, .slice B2 y.f2.length d2, .slice B3 y.f3.length d3] 60))) := ⟨below_alloc (below_alloc (Below.refl _ _) _) _⟩
 have BX : Aside0 (((w.alloc (.cells #[.string x.f0, .slice A1 x.f1.length c1, .slice A2 x.f2.length c2, .slice A3 x.f3.length c3] 60)).alloc (.cells #[.string y.f0, .slice B1 y.f1.length d1, .slice B2 y.f2.length d2, .slice B3 y.f3.length d3] 60)).heap[w.heap.size]? = some (.cells #[.string x.f0, .slice A1 x.f1.length c1, .slice A2 x.f2.length c2, .slice A3 x.f3.length c3] 60 (0, 0))) := ⟨blk_alloc (new1 _ _) _⟩
 have BY : Aside0 (((w.alloc (.cells #[.string x.f0, .slice A1 x.f1.length c1, .slice A2 x.f2.length c2, .slice A3 x.f3.length c3] 60)).alloc (.cells #[.string y.f0, .slice B1 y.f1.length d1, .slice B2 y.f2.length d2, .slice B3 y.f3.length d3] 60)).heap[w.heap.size + 1]? = some (.cells #[.string y.f0, .slice B1 y.f1.length d1, .slice B2 y.f2.length d2, .slice B3 y.f3.length d3] 60 (0, 0))) := ⟨new2 _ _ _⟩
 obtain ⟨R, hR⟩ : ∃ r, eqB x y = r := ⟨_, rfl⟩
 have key : (b0 = false ∧ R = false) ∨ (b0 = true ∧ b2 = false ∧ R = false) ∨ (b0 = true ∧ b2 = true ∧ b3 = false ∧ R = false) ∨ (b0 = true ∧ b2 = true ∧ b3 = true ∧ b1 = false ∧ R = false) ∨ (b0 = true ∧ b2 = true ∧ b3 = true ∧ b1 = true ∧ R = true) := by
  rw [← hR]
  cases b0
  · exact .inl (⟨rfl, eqB_field (fun z : S60 => z.f0) H0.out⟩)
  cases b2
  · exact .inr (.inl (⟨rfl, rfl, eqB_field (fun z : S60 => z.f2) H2.out⟩))
  cases b3
  · exact .inr (.inr (.inl (⟨rfl, rfl, rfl, eqB_field (fun z : S60 => z.f3) H3.out⟩)))
  cases b1
  · exact .inr (.inr (.inr (.inl (⟨rfl, rfl, rfl, rfl, eqB_field (fun z : S60 => z.f1) H1.out⟩))))
  exact .inr (.inr (.inr (.inr (⟨rfl, rfl, rfl, rfl, eqB_t (extEnum x y (eqB_of H0.out) (eqB_of H1.out) (eqB_of H2.out) (eqB_of H3.out))⟩))))
 have HR := mk0 hR
 clear hR
 clear H0 H2 H3 H1
 rcases key with ⟨rfl, rfl⟩ | ⟨rfl, rfl, rfl⟩ | ⟨rfl, rfl, rfl, rfl⟩ | ⟨rfl, rfl, rfl, rfl, rfl⟩ | ⟨rfl, rfl, rfl, rfl, rfl⟩
 all_goals
  go_enter Try.func26, Try.ntmps26
  go_wp2_with (first | (go_at_call 20; (with_reducible refine (s2 _ HB.out).mono ?_); rintro e w1 ⟨rfl, rfl⟩) | (go_at_call 20; (with_reducible refine (s3 _ HB.out).mono ?_); rintro e w1 ⟨rfl, rfl⟩) | (go_at_call 44; (with_reducible refine (s1 _ HB.out).mono ?_); rintro e w1 ⟨rfl, hb⟩; have n0_ := mk0 (below_then HB.out HB.out.size hb); have n1_ := mk0 (blk_below BX.out hb); have n2_ := mk0 (blk_below BY.out hb); clear HB BX BY; (try clear p0 q0); (try clear p1 q1); (try clear p2 q2); (try clear p3 q3); have HB := n0_; have BX := n1_; have BY := n2_; clear n0_ n1_ n2_ hb; have p0 : _ = some ((.string x.f0) : Value) := (blk_cell BX.out 0).trans rfl; have q0 : _ = some ((.string y.f0) : Value) := (blk_cell BY.out 0).trans rfl; have p1 : _ = some ((.slice A1 x.f1.length c1) : Value) := (blk_cell BX.out 1).trans rfl; have q1 : _ = some ((.slice B1 y.f1.length d1) : Value) := (blk_cell BY.out 1).trans rfl; have p2 : _ = some ((.slice A2 x.f2.length c2) : Value) := (blk_cell BX.out 2).trans rfl; have q2 : _ = some ((.slice B2 y.f2.length d2) : Value) := (blk_cell BY.out 2).trans rfl; have p3 : _ = some ((.slice A3 x.f3.length c3) : Value) := (blk_cell BX.out 3).trans rfl; have q3 : _ = some ((.slice B3 y.f3.length d3) : Value) := (blk_cell BY.out 3).trans rfl))
  go_ret
  exact ⟨by rw [HR.out]; rfl, (by repeat (first | (with_reducible first | exact HB.out | apply below_alloc | apply pw_below_drewN | apply below_drew1) | exact HB.out))⟩
set_option maxHeartbeats 8000000 in
set_option maxRecDepth 100000 in
theorem eqfEnum (a b : List S60) (hcn : ∀ x ∈ a, ∀ y ∈ b, ∀ (W : World) (cs ds : List Value), k60.K W x cs → k60.K W y ds → Calls Try.prog 26 #[.agg cs.toArray, .agg ds.toArray] W fun e w' => Eq_ (eqB x y) W e w') (hla : a.length ≤ 9223372036854775807) (A B : Option Addr) (ca cb : Nat) (w : World) (CA : Kd.C k60 w A a.length a) (CB : Kd.C k60 w B b.length b) :
 Calls Try.prog 25 #[.slice A a.length ca, .slice B b.length cb, .func (.func 26) #[] #[]] w fun e w' => Eq_ (eqB a b) w e w' := by
 have HB0 := mk0 (Below.refl w.heap.size w)
 have HA := mk0 CA
 have HC := mk0 CB
 by_cases hl : a.length = b.length
 · have HL := mk0 hl
   have hn := len_beq hl
   clear hl
   go_enter Try.func25, Try.ntmps25
   go_wp2
   go_loopg [17] a.length (fun kq v17 w' => ∃ i : Nat, v17 = .int .i64 (i : Int) ∧ Aside0 (i + kq = a.length) ∧ Aside0 (Below w.heap.size w w') ∧ Aside0 (a.take i = b.take i))
   case atStart =>
    exact ⟨0, rfl, ⟨by omega⟩, ⟨HB0.out⟩, ⟨by simp⟩⟩
   case round =>
    obtain ⟨i, rfl, HI, HB, HT⟩ := hrel
    by_cases hlt : i < a.length
    · have hwp : wrap64 ((i : Int) + 1) = ((i + 1 : Nat) : Int) := by unfold wrap64; omega
      have hlb : i < b.length := by have := HL.out; omega
      have d0 : decide ((i : Int) < (a.length : Int)) = true := decide_eq_true (by omega)
      have p0 : (0 ≤ (i : Int)) = True := eq_true (by omega)
      have q0 : ((i : Int) < (a.length : Int)) = True := eq_true (by omega)
      have q1 : ((i : Int) < (b.length : Int)) = True := eq_true (by omega)
      obtain ⟨x, hx⟩ : ∃ x, a.getD i z60 = x := ⟨_, rfl⟩
      obtain ⟨y, hy⟩ : ∃ y, b.getD i z60 = y := ⟨_, rfl⟩
      have hmx : x ∈ a := by rw [← hx]; simp [hlt]
      have hmy : y ∈ b := by rw [← hy]; simp [hlb]
      have hc := hcn x hmx y hmy
      have hok : x = y → Aside0 (a.take (i + 1) = b.take (i + 1)) := fun h => ⟨take_eq z60 a b HL.out i hlt HT.out (by rw [hx, hy, h])⟩
      have hno : ¬ x = y → Aside0 (eqB a b = false) := fun h => ⟨take_ne z60 a b i (by rw [hx, hy]; exact h)⟩
      obtain ⟨ad, cx, ea, _, hKx, hcx⟩ := Kd.C_get (Kd.C_below HA.out HB.out) z60 (i : Int) (by omega) (by omega)
      obtain ⟨bd, cy, eb, _, hKy, hcy⟩ := Kd.C_get (Kd.C_below HC.out HB.out) z60 (i : Int) (by omega) (by omega)
      rw [Int.toNat_natCast] at hKx hcx hKy hcy
      rw [hx] at hKx
      rw [hy] at hKy
      obtain ⟨A1, c1, A2, c2, A3, c3, ecx, lc1, gc1, lc2, gc2, lc3, gc3⟩ := k60_open hKx
      obtain ⟨B1, d1, B2, d2, B3, d3, ecy, ld1, gd1, ld2, gd2, ld3, gd3⟩ := k60_open hKy
      subst ecx ecy
      have e0_ : wr.cell? (ad.add (i * 4)) = some (.string x.f0) := by have := hcx 0 _ rfl; rwa [show i * k60.sz + 0 = i * 4 from rfl] at this
      have e1_ : wr.cell? ⟨(ad.add (i * 4)).block, (ad.add (i * 4)).off + 1, none⟩ = some (.slice A1 x.f1.length c1) := by have := hcx 1 _ rfl; rw [show i * k60.sz + 1 = i * 4 + 1 from rfl] at this; rw [← add_field _ _ 1 (by omega)]; exact this
      have e2_ : wr.cell? ⟨(ad.add (i * 4)).block, (ad.add (i * 4)).off + 2, none⟩ = some (.slice A2 x.f2.length c2) := by have := hcx 2 _ rfl; rw [show i * k60.sz + 2 = i * 4 + 2 from rfl] at this; rw [← add_field _ _ 2 (by omega)]; exact this
      have e3_ : wr.cell? ⟨(ad.add (i * 4)).block, (ad.add (i * 4)).off + 3, none⟩ = some (.slice A3 x.f3.length c3) := by have := hcx 3 _ rfl; rw [show i * k60.sz + 3 = i * 4 + 3 from rfl] at this; rw [← add_field _ _ 3 (by omega)]; exact this
      have f0_ : wr.cell? (bd.add (i * 4)) = some (.string y.f0) := by have := hcy 0 _ rfl; rwa [show i * k60.sz + 0 = i * 4 from rfl] at this
      have f1_ : wr.cell? ⟨(bd.add (i * 4)).block, (bd.add (i * 4)).off + 1, none⟩ = some (.slice B1 y.f1.length d1) := by have := hcy 1 _ rfl; rw [show i * k60.sz + 1 = i * 4 + 1 from rfl] at this; rw [← add_field _ _ 1 (by omega)]; exact this
      have f2_ : wr.cell? ⟨(bd.add (i * 4)).block, (bd.add (i * 4)).off + 2, none⟩ = some (.slice B2 y.f2.length d2) := by have := hcy 2 _ rfl; rw [show i * k60.sz + 2 = i * 4 + 2 from rfl] at this; rw [← add_field _ _ 2 (by omega)]; exact this
      have f3_ : wr.cell? ⟨(bd.add (i * 4)).block, (bd.add (i * 4)).off + 3, none⟩ = some (.slice B3 y.f3.length d3) := by have := hcy 3 _ rfl; rw [show i * k60.sz + 3 = i * 4 + 3 from rfl] at this; rw [← add_field _ _ 3 (by omega)]; exact this
      clear CA CB
      subst ea eb
      clear hx hy hcx hcy hmx hmy
      obtain ⟨r, hr⟩ : ∃ r, eqB x y = r := ⟨_, rfl⟩
      rw [hr] at hc
      have hok' : r = true → Aside0 (a.take (i + 1) = b.take (i + 1)) := fun h => hok (eqB_of (hr.trans h))
      have hno' : r = false → Aside0 (eqB a b = false) := fun h => hno (fun e => by rw [eqB_t e] at hr; rw [← hr] at h; cases h)
      clear hok hno hr
      cases gk with
      | zero => exact absurd HI.out (by omega)
      | succ k1 =>
       cases r
       · replace hno := hno' rfl
         clear hok' hno'
         go_wp2_with (first | ((with_reducible refine gate_dst (N := 8) rfl ?_); (try (refine gate_guard (by rfl) ?_; dsimp only)); refine box_event ?hg (N := 8) ?hd (cs := #[.string (⟨#[]⟩ : ByteArray), .slice none 0 0, .slice none 0 0, .slice none 0 0]) (t := 60) ?hr ?_; (case hd => rfl); (case hg => rfl); (case hr => first | (go_simp; done) | (go_simp; rfl)); intro gx hg9 w9x hbox hb9; have HNx := mk0 hb9; have BNx := mk0 hbox; have HGx := mk0 hg9; clear hb9 hbox hg9) | ((with_reducible refine gate_store (t := 60) (p := 8) rfl ?_); refine Go.Proofs.Yticnihfjnjliiaa.Sw.store_whole rfl rfl rfl gx 60 _ _ rfl rfl BNx.out (by kernel_rfl) rfl rfl ?_; intro wx hS_ hbS_ hkS_; have HSx := mk0 (hbS_ wr.heap.size wr (Nat.le_of_eq HGx.out.symm) HNx.out); have BSx := mk0 hS_; clear hS_ hbS_ hkS_ BNx; have f0_n := pw_cell_below HSx.out f0_; have f1_n := pw_cell_below HSx.out f1_; have f2_n := pw_cell_below HSx.out f2_; have f3_n := pw_cell_below HSx.out f3_) | ((with_reducible refine gate_dst (N := 9) rfl ?_); (try (refine gate_guard (by rfl) ?_; dsimp only)); refine box_event ?hg (N := 9) ?hd (cs := #[.string (⟨#[]⟩ : ByteArray), .slice none 0 0, .slice none 0 0, .slice none 0 0]) (t := 60) ?hr ?_; (case hd => rfl); (case hg => rfl); (case hr => first | (go_simp; done) | (go_simp; rfl)); intro gy hg9 w9y hbox hb9; have HNy := mk0 hb9; have BNy := mk0 hbox; have HGy := mk0 hg9; clear hb9 hbox hg9) | ((with_reducible refine gate_store (t := 60) (p := 9) rfl ?_); refine Go.Proofs.Yticnihfjnjliiaa.Sw.store_whole rfl rfl rfl gy 60 _ _ rfl rfl BNy.out (by kernel_rfl) rfl rfl ?_; intro wy hS_ hbS_ hkS_; have HSy := mk0 (hbS_ wx.heap.size wx (Nat.le_of_eq HGy.out.symm) HNy.out); have BSy := mk0 hS_; clear hS_ hbS_ hkS_ BNy; have BZx := mk0 (blk_below BSx.out HSy.out); have HZ := mk0 (below_then HSx.out HSx.out.size HSy.out); have p0 : _ = some ((.string x.f0) : Value) := (blk_cell BZx.out 0).trans rfl; have p1 : _ = some ((.slice A1 x.f1.length c1) : Value) := (blk_cell BZx.out 1).trans rfl; have p2 : _ = some ((.slice A2 x.f2.length c2) : Value) := (blk_cell BZx.out 2).trans rfl; have p3 : _ = some ((.slice A3 x.f3.length c3) : Value) := (blk_cell BZx.out 3).trans rfl; have q0 : _ = some ((.string y.f0) : Value) := (blk_cell BSy.out 0).trans rfl; have q1 : _ = some ((.slice B1 y.f1.length d1) : Value) := (blk_cell BSy.out 1).trans rfl; have q2 : _ = some ((.slice B2 y.f2.length d2) : Value) := (blk_cell BSy.out 2).trans rfl; have q3 : _ = some ((.slice B3 y.f3.length d3) : Value) := (blk_cell BSy.out 3).trans rfl) | (go_at_call 26; (with_reducible refine (hc _ [.string x.f0, .slice A1 x.f1.length c1, .slice A2 x.f2.length c2, .slice A3 x.f3.length c3] [.string y.f0, .slice B1 y.f1.length d1, .slice B2 y.f2.length d2, .slice B3 y.f3.length d3] (k60_mk _ x lc1 (Kd.C_below gc1 HZ.out) lc2 (Kd.C_below gc2 HZ.out) lc3 (Kd.C_below gc3 HZ.out)) (k60_mk _ y ld1 (Kd.C_below gd1 HZ.out) ld2 (Kd.C_below gd2 HZ.out) ld3 (Kd.C_below gd3 HZ.out))).mono ?_); rintro e w1 ⟨rfl, hb⟩; have HE_ := mk0 (below_then HZ.out HZ.out.size hb); clear hb))
         go_ret
         exact ⟨by rw [hno.out]; rfl, below_then HB.out HB.out.size HE_.out⟩
       · replace hok := hok' rfl
         clear hok' hno'
         go_wp2_with (first | ((with_reducible refine gate_dst (N := 8) rfl ?_); (try (refine gate_guard (by rfl) ?_; dsimp only)); refine box_event ?hg (N := 8) ?hd (cs := #[.string (⟨#[]⟩ : ByteArray), .slice none 0 0, .slice none 0 0, .slice none 0 0]) (t := 60) ?hr ?_; (case hd => rfl); (case hg => rfl); (case hr => first | (go_simp; done) | (go_simp; rfl)); intro gx hg9 w9x hbox hb9; have HNx := mk0 hb9; have BNx := mk0 hbox; have HGx := mk0 hg9; clear hb9 hbox hg9) | ((with_reducible refine gate_store (t := 60) (p := 8) rfl ?_); refine Go.Proofs.Yticnihfjnjliiaa.Sw.store_whole rfl rfl rfl gx 60 _ _ rfl rfl BNx.out (by kernel_rfl) rfl rfl ?_; intro wx hS_ hbS_ hkS_; have HSx := mk0 (hbS_ wr.heap.size wr (Nat.le_of_eq HGx.out.symm) HNx.out); have BSx := mk0 hS_; clear hS_ hbS_ hkS_ BNx; have f0_n := pw_cell_below HSx.out f0_; have f1_n := pw_cell_below HSx.out f1_; have f2_n := pw_cell_below HSx.out f2_; have f3_n := pw_cell_below HSx.out f3_) | ((with_reducible refine gate_dst (N := 9) rfl ?_); (try (refine gate_guard (by rfl) ?_; dsimp only)); refine box_event ?hg (N := 9) ?hd (cs := #[.string (⟨#[]⟩ : ByteArray), .slice none 0 0, .slice none 0 0, .slice none 0 0]) (t := 60) ?hr ?_; (case hd => rfl); (case hg => rfl); (case hr => first | (go_simp; done) | (go_simp; rfl)); intro gy hg9 w9y hbox hb9; have HNy := mk0 hb9; have BNy := mk0 hbox; have HGy := mk0 hg9; clear hb9 hbox hg9) | ((with_reducible refine gate_store (t := 60) (p := 9) rfl ?_); refine Go.Proofs.Yticnihfjnjliiaa.Sw.store_whole rfl rfl rfl gy 60 _ _ rfl rfl BNy.out (by kernel_rfl) rfl rfl ?_; intro wy hS_ hbS_ hkS_; have HSy := mk0 (hbS_ wx.heap.size wx (Nat.le_of_eq HGy.out.symm) HNy.out); have BSy := mk0 hS_; clear hS_ hbS_ hkS_ BNy; have BZx := mk0 (blk_below BSx.out HSy.out); have HZ := mk0 (below_then HSx.out HSx.out.size HSy.out); have p0 : _ = some ((.string x.f0) : Value) := (blk_cell BZx.out 0).trans rfl; have p1 : _ = some ((.slice A1 x.f1.length c1) : Value) := (blk_cell BZx.out 1).trans rfl; have p2 : _ = some ((.slice A2 x.f2.length c2) : Value) := (blk_cell BZx.out 2).trans rfl; have p3 : _ = some ((.slice A3 x.f3.length c3) : Value) := (blk_cell BZx.out 3).trans rfl; have q0 : _ = some ((.string y.f0) : Value) := (blk_cell BSy.out 0).trans rfl; have q1 : _ = some ((.slice B1 y.f1.length d1) : Value) := (blk_cell BSy.out 1).trans rfl; have q2 : _ = some ((.slice B2 y.f2.length d2) : Value) := (blk_cell BSy.out 2).trans rfl; have q3 : _ = some ((.slice B3 y.f3.length d3) : Value) := (blk_cell BSy.out 3).trans rfl) | (go_at_call 26; (with_reducible refine (hc _ [.string x.f0, .slice A1 x.f1.length c1, .slice A2 x.f2.length c2, .slice A3 x.f3.length c3] [.string y.f0, .slice B1 y.f1.length d1, .slice B2 y.f2.length d2, .slice B3 y.f3.length d3] (k60_mk _ x lc1 (Kd.C_below gc1 HZ.out) lc2 (Kd.C_below gc2 HZ.out) lc3 (Kd.C_below gc3 HZ.out)) (k60_mk _ y ld1 (Kd.C_below gd1 HZ.out) ld2 (Kd.C_below gd2 HZ.out) ld3 (Kd.C_below gd3 HZ.out))).mono ?_); rintro e w1 ⟨rfl, hb⟩; have HE_ := mk0 (below_then HZ.out HZ.out.size hb); clear hb))
         go_roundg k1
         case measure => exact Nat.lt_succ_self k1
         case rel => exact ⟨i + 1, (by first | rfl | (rw [hwp]) | (simp [hwp]; done)), ⟨by have := HI.out; omega⟩, ⟨below_then HB.out HB.out.size HE_.out⟩, hok⟩
    · have d0 : decide ((i : Int) < (a.length : Int)) = false := decide_eq_false (by omega)
      have HE := mk0 (take_all a b HL.out i hlt HT.out)
      go_wp2
      go_ret
      exact ⟨by rw [HE.out]; rfl, HB.out⟩
 · have hn := len_bne hl
   have HE := mk0 (len_ne a b hl)
   clear hl
   go_enter Try.func25, Try.ntmps25
   go_wp2
   go_ret
   exact ⟨by rw [HE.out]; rfl, HB0.out⟩
theorem extService (x y : S65) (h0 : x.f0 = y.f0) (h1 : x.f1 = y.f1) (h2 : x.f2 = y.f2) (h3 : x.f3 = y.f3) : x = y := by
 cases x; cases y
 dsimp only at h0 h1 h2 h3
 subst h0 h1 h2 h3
 rfl
set_option maxHeartbeats 8000000 in
set_option maxRecDepth 100000 in
theorem sameService (x y : S65) (gx : good65 x) (gy : good65 y) (w : World) (cs ds : List Value) (hx : k65.K w x cs) (hy : k65.K w y ds) : Calls Try.prog 28 #[.agg cs.toArray, .agg ds.toArray] w fun e w' => Eq_ (eqB x y) w e w' := by
 obtain ⟨A1, c1, A2, c2, A3, c3, rfl, lc1, gc1, lc2, gc2, lc3, gc3⟩ := k65_open hx
 obtain ⟨B1, d1, B2, d2, B3, d3, rfl, ld1, gd1, ld2, gd2, ld3, gd3⟩ := k65_open hy
 obtain ⟨b0, h0⟩ : ∃ b, eqB x.f0 y.f0 = b := ⟨_, rfl⟩
 have s0 := str_eqB x.f0 y.f0
 rw [h0] at s0
 have H0 := mk0 h0
 clear h0
 obtain ⟨b2, h2⟩ : ∃ b, eqB x.f2 y.f2 = b := ⟨_, rfl⟩
 have s2 := fun (W : World) (hW : Below w.heap.size w W) => eq20 x.f2 y.f2 (bytes_of_wf gx.2.2.1.2) (bytes_of_wf gy.2.2.1.2) A2 B2 c2 d2 W (Kd.C_below gc2 hW) (Kd.C_below gd2 hW)
 rw [h2] at s2
 have H2 := mk0 h2
 clear h2
 obtain ⟨b3, h3⟩ : ∃ b, eqB x.f3 y.f3 = b := ⟨_, rfl⟩
 have s3 := fun (W : World) (hW : Below w.heap.size w W) => eq20 x.f3 y.f3 (bytes_of_wf gx.2.2.2.2) (bytes_of_wf gy.2.2.2.2) A3 B3 c3 d3 W (Kd.C_below gc3 hW) (Kd.C_below gd3 hW)
 rw [h3] at s3
 have H3 := mk0 h3
 clear h3
 obtain ⟨b1, h1⟩ : ∃ b, eqB x.f1 y.f1 = b := ⟨_, rfl⟩
 have s1 := fun (W : World) (hW : Below w.heap.size w W) => eqfMethod x.f1 y.f1 (fun p hp q_ hq W2 cs ds hx hy => sameMethod p q_ (gx.2.1.2 p hp) (gy.2.1.2 q_ hq) W2 cs ds hx hy) (len62 gx.2.1.1) A1 B1 c1 d1 W (Kd.C_below gc1 hW) (Kd.C_below gd1 hW)
 rw [h1] at s1
 have H1 := mk0 h1
 clear h1
 have HB : Aside0 (Below w.heap.size w ((w.alloc (.cells #[.string x.f0, .slice A1 x.f1.length c1, .slice A2 x.f2.length c2, .slice A3 x.f3.length c3] 65)).alloc (.cells #[.string y.f0, .slice B1 y.f1.length d1, .slice B2 y.f2.length d2, .slice B3 y.f3.length d3] 65))) := ⟨below_alloc (below_alloc (Below.refl _ _) _) _⟩
 have BX : Aside0 (((w.alloc (.cells #[.string x.f0, .slice A1 x.f1.length c1, .slice A2 x.f2.length c2, .slice A3 x.f3.length c3] 65)).alloc (.cells #[.string y.f0, .slice B1 y.f1.length d1, .slice B2 y.f2.length d2, .slice B3 y.f3.length d3] 65)).heap[w.heap.size]? = some (.cells #[.string x.f0, .slice A1 x.f1.length c1, .slice A2 x.f2.length c2, .slice A3 x.f3.length c3] 65 (0, 0))) := ⟨blk_alloc (new1 _ _) _⟩
 have BY : Aside0 (((w.alloc (.cells #[.string x.f0, .slice A1 x.f1.length c1, .slice A2 x.f2.length c2, .slice A3 x.f3.length c3] 65)).alloc (.cells #[.string y.f0, .slice B1 y.f1.length d1, .slice B2 y.f2.length d2, .slice B3 y.f3.length d3] 65)).heap[w.heap.size + 1]? = some (.cells #[.string y.f0, .slice B1 y.f1.length d1, .slice B2 y.f2.length d2, .slice B3 y.f3.length d3] 65 (0, 0))) := ⟨new2 _ _ _⟩
 obtain ⟨R, hR⟩ : ∃ r, eqB x y = r := ⟨_, rfl⟩
 have key : (b0 = false ∧ R = false) ∨ (b0 = true ∧ b2 = false ∧ R = false) ∨ (b0 = true ∧ b2 = true ∧ b3 = false ∧ R = false) ∨ (b0 = true ∧ b2 = true ∧ b3 = true ∧ b1 = false ∧ R = false) ∨ (b0 = true ∧ b2 = true ∧ b3 = true ∧ b1 = true ∧ R = true) := by
  rw [← hR]
  cases b0
  · exact .inl (⟨rfl, eqB_field (fun z : S65 => z.f0) H0.out⟩)
  cases b2
  · exact .inr (.inl (⟨rfl, rfl, eqB_field (fun z : S65 => z.f2) H2.out⟩))
  cases b3
  · exact .inr (.inr (.inl (⟨rfl, rfl, rfl, eqB_field (fun z : S65 => z.f3) H3.out⟩)))
  cases b1
  · exact .inr (.inr (.inr (.inl (⟨rfl, rfl, rfl, rfl, eqB_field (fun z : S65 => z.f1) H1.out⟩))))
  exact .inr (.inr (.inr (.inr (⟨rfl, rfl, rfl, rfl, eqB_t (extService x y (eqB_of H0.out) (eqB_of H1.out) (eqB_of H2.out) (eqB_of H3.out))⟩))))
 have HR := mk0 hR
 clear hR
 clear H0 H2 H3 H1
 rcases key with ⟨rfl, rfl⟩ | ⟨rfl, rfl, rfl⟩ | ⟨rfl, rfl, rfl, rfl⟩ | ⟨rfl, rfl, rfl, rfl, rfl⟩ | ⟨rfl, rfl, rfl, rfl, rfl⟩
 all_goals
  go_enter Try.func28, Try.ntmps28
  go_wp2_with (first | (go_at_call 20; (with_reducible refine (s2 _ HB.out).mono ?_); rintro e w1 ⟨rfl, rfl⟩) | (go_at_call 20; (with_reducible refine (s3 _ HB.out).mono ?_); rintro e w1 ⟨rfl, rfl⟩) | (go_at_call 46; (with_reducible refine (s1 _ HB.out).mono ?_); rintro e w1 ⟨rfl, hb⟩; have n0_ := mk0 (below_then HB.out HB.out.size hb); have n1_ := mk0 (blk_below BX.out hb); have n2_ := mk0 (blk_below BY.out hb); clear HB BX BY; (try clear p0 q0); (try clear p1 q1); (try clear p2 q2); (try clear p3 q3); have HB := n0_; have BX := n1_; have BY := n2_; clear n0_ n1_ n2_ hb; have p0 : _ = some ((.string x.f0) : Value) := (blk_cell BX.out 0).trans rfl; have q0 : _ = some ((.string y.f0) : Value) := (blk_cell BY.out 0).trans rfl; have p1 : _ = some ((.slice A1 x.f1.length c1) : Value) := (blk_cell BX.out 1).trans rfl; have q1 : _ = some ((.slice B1 y.f1.length d1) : Value) := (blk_cell BY.out 1).trans rfl; have p2 : _ = some ((.slice A2 x.f2.length c2) : Value) := (blk_cell BX.out 2).trans rfl; have q2 : _ = some ((.slice B2 y.f2.length d2) : Value) := (blk_cell BY.out 2).trans rfl; have p3 : _ = some ((.slice A3 x.f3.length c3) : Value) := (blk_cell BX.out 3).trans rfl; have q3 : _ = some ((.slice B3 y.f3.length d3) : Value) := (blk_cell BY.out 3).trans rfl))
  go_ret
  exact ⟨by rw [HR.out]; rfl, (by repeat (first | (with_reducible first | exact HB.out | apply below_alloc | apply pw_below_drewN | apply below_drew1) | exact HB.out))⟩
set_option maxHeartbeats 8000000 in
set_option maxRecDepth 100000 in
theorem eqfService (a b : List S65) (hcn : ∀ x ∈ a, ∀ y ∈ b, ∀ (W : World) (cs ds : List Value), k65.K W x cs → k65.K W y ds → Calls Try.prog 28 #[.agg cs.toArray, .agg ds.toArray] W fun e w' => Eq_ (eqB x y) W e w') (hla : a.length ≤ 9223372036854775807) (A B : Option Addr) (ca cb : Nat) (w : World) (CA : Kd.C k65 w A a.length a) (CB : Kd.C k65 w B b.length b) :
 Calls Try.prog 27 #[.slice A a.length ca, .slice B b.length cb, .func (.func 28) #[] #[]] w fun e w' => Eq_ (eqB a b) w e w' := by
 have HB0 := mk0 (Below.refl w.heap.size w)
 have HA := mk0 CA
 have HC := mk0 CB
 by_cases hl : a.length = b.length
 · have HL := mk0 hl
   have hn := len_beq hl
   clear hl
   go_enter Try.func27, Try.ntmps27
   go_wp2
   go_loopg [17] a.length (fun kq v17 w' => ∃ i : Nat, v17 = .int .i64 (i : Int) ∧ Aside0 (i + kq = a.length) ∧ Aside0 (Below w.heap.size w w') ∧ Aside0 (a.take i = b.take i))
   case atStart =>
    exact ⟨0, rfl, ⟨by omega⟩, ⟨HB0.out⟩, ⟨by simp⟩⟩
   case round =>
    obtain ⟨i, rfl, HI, HB, HT⟩ := hrel
    by_cases hlt : i < a.length
    · have hwp : wrap64 ((i : Int) + 1) = ((i + 1 : Nat) : Int) := by unfold wrap64; omega
      have hlb : i < b.length := by have := HL.out; omega
      have d0 : decide ((i : Int) < (a.length : Int)) = true := decide_eq_true (by omega)
      have p0 : (0 ≤ (i : Int)) = True := eq_true (by omega)
      have q0 : ((i : Int) < (a.length : Int)) = True := eq_true (by omega)
      have q1 : ((i : Int) < (b.length : Int)) = True := eq_true (by omega)
      obtain ⟨x, hx⟩ : ∃ x, a.getD i z65 = x := ⟨_, rfl⟩
      obtain ⟨y, hy⟩ : ∃ y, b.getD i z65 = y := ⟨_, rfl⟩
      have hmx : x ∈ a := by rw [← hx]; simp [hlt]
      have hmy : y ∈ b := by rw [← hy]; simp [hlb]
      have hc := hcn x hmx y hmy
      have hok : x = y → Aside0 (a.take (i + 1) = b.take (i + 1)) := fun h => ⟨take_eq z65 a b HL.out i hlt HT.out (by rw [hx, hy, h])⟩
      have hno : ¬ x = y → Aside0 (eqB a b = false) := fun h => ⟨take_ne z65 a b i (by rw [hx, hy]; exact h)⟩
      obtain ⟨ad, cx, ea, _, hKx, hcx⟩ := Kd.C_get (Kd.C_below HA.out HB.out) z65 (i : Int) (by omega) (by omega)
      obtain ⟨bd, cy, eb, _, hKy, hcy⟩ := Kd.C_get (Kd.C_below HC.out HB.out) z65 (i : Int) (by omega) (by omega)
      rw [Int.toNat_natCast] at hKx hcx hKy hcy
      rw [hx] at hKx
      rw [hy] at hKy
      obtain ⟨A1, c1, A2, c2, A3, c3, ecx, lc1, gc1, lc2, gc2, lc3, gc3⟩ := k65_open hKx
      obtain ⟨B1, d1, B2, d2, B3, d3, ecy, ld1, gd1, ld2, gd2, ld3, gd3⟩ := k65_open hKy
      subst ecx ecy
      have e0_ : wr.cell? (ad.add (i * 4)) = some (.string x.f0) := by have := hcx 0 _ rfl; rwa [show i * k65.sz + 0 = i * 4 from rfl] at this
      have e1_ : wr.cell? ⟨(ad.add (i * 4)).block, (ad.add (i * 4)).off + 1, none⟩ = some (.slice A1 x.f1.length c1) := by have := hcx 1 _ rfl; rw [show i * k65.sz + 1 = i * 4 + 1 from rfl] at this; rw [← add_field _ _ 1 (by omega)]; exact this
      have e2_ : wr.cell? ⟨(ad.add (i * 4)).block, (ad.add (i * 4)).off + 2, none⟩ = some (.slice A2 x.f2.length c2) := by have := hcx 2 _ rfl; rw [show i * k65.sz + 2 = i * 4 + 2 from rfl] at this; rw [← add_field _ _ 2 (by omega)]; exact this
      have e3_ : wr.cell? ⟨(ad.add (i * 4)).block, (ad.add (i * 4)).off + 3, none⟩ = some (.slice A3 x.f3.length c3) := by have := hcx 3 _ rfl; rw [show i * k65.sz + 3 = i * 4 + 3 from rfl] at this; rw [← add_field _ _ 3 (by omega)]; exact this
      have f0_ : wr.cell? (bd.add (i * 4)) = some (.string y.f0) := by have := hcy 0 _ rfl; rwa [show i * k65.sz + 0 = i * 4 from rfl] at this
      have f1_ : wr.cell? ⟨(bd.add (i * 4)).block, (bd.add (i * 4)).off + 1, none⟩ = some (.slice B1 y.f1.length d1) := by have := hcy 1 _ rfl; rw [show i * k65.sz + 1 = i * 4 + 1 from rfl] at this; rw [← add_field _ _ 1 (by omega)]; exact this
      have f2_ : wr.cell? ⟨(bd.add (i * 4)).block, (bd.add (i * 4)).off + 2, none⟩ = some (.slice B2 y.f2.length d2) := by have := hcy 2 _ rfl; rw [show i * k65.sz + 2 = i * 4 + 2 from rfl] at this; rw [← add_field _ _ 2 (by omega)]; exact this
      have f3_ : wr.cell? ⟨(bd.add (i * 4)).block, (bd.add (i * 4)).off + 3, none⟩ = some (.slice B3 y.f3.length d3) := by have := hcy 3 _ rfl; rw [show i * k65.sz + 3 = i * 4 + 3 from rfl] at this; rw [← add_field _ _ 3 (by omega)]; exact this
      clear CA CB
      subst ea eb
      clear hx hy hcx hcy hmx hmy
      obtain ⟨r, hr⟩ : ∃ r, eqB x y = r := ⟨_, rfl⟩
      rw [hr] at hc
      have hok' : r = true → Aside0 (a.take (i + 1) = b.take (i + 1)) := fun h => hok (eqB_of (hr.trans h))
      have hno' : r = false → Aside0 (eqB a b = false) := fun h => hno (fun e => by rw [eqB_t e] at hr; rw [← hr] at h; cases h)
      clear hok hno hr
      cases gk with
      | zero => exact absurd HI.out (by omega)
      | succ k1 =>
       cases r
       · replace hno := hno' rfl
         clear hok' hno'
         go_wp2_with (first | ((with_reducible refine gate_dst (N := 8) rfl ?_); (try (refine gate_guard (by rfl) ?_; dsimp only)); refine box_event ?hg (N := 8) ?hd (cs := #[.string (⟨#[]⟩ : ByteArray), .slice none 0 0, .slice none 0 0, .slice none 0 0]) (t := 65) ?hr ?_; (case hd => rfl); (case hg => rfl); (case hr => first | (go_simp; done) | (go_simp; rfl)); intro gx hg9 w9x hbox hb9; have HNx := mk0 hb9; have BNx := mk0 hbox; have HGx := mk0 hg9; clear hb9 hbox hg9) | ((with_reducible refine gate_store (t := 65) (p := 8) rfl ?_); refine Go.Proofs.Yticnihfjnjliiaa.Sw.store_whole rfl rfl rfl gx 65 _ _ rfl rfl BNx.out (by kernel_rfl) rfl rfl ?_; intro wx hS_ hbS_ hkS_; have HSx := mk0 (hbS_ wr.heap.size wr (Nat.le_of_eq HGx.out.symm) HNx.out); have BSx := mk0 hS_; clear hS_ hbS_ hkS_ BNx; have f0_n := pw_cell_below HSx.out f0_; have f1_n := pw_cell_below HSx.out f1_; have f2_n := pw_cell_below HSx.out f2_; have f3_n := pw_cell_below HSx.out f3_) | ((with_reducible refine gate_dst (N := 9) rfl ?_); (try (refine gate_guard (by rfl) ?_; dsimp only)); refine box_event ?hg (N := 9) ?hd (cs := #[.string (⟨#[]⟩ : ByteArray), .slice none 0 0, .slice none 0 0, .slice none 0 0]) (t := 65) ?hr ?_; (case hd => rfl); (case hg => rfl); (case hr => first | (go_simp; done) | (go_simp; rfl)); intro gy hg9 w9y hbox hb9; have HNy := mk0 hb9; have BNy := mk0 hbox; have HGy := mk0 hg9; clear hb9 hbox hg9) | ((with_reducible refine gate_store (t := 65) (p := 9) rfl ?_); refine Go.Proofs.Yticnihfjnjliiaa.Sw.store_whole rfl rfl rfl gy 65 _ _ rfl rfl BNy.out (by kernel_rfl) rfl rfl ?_; intro wy hS_ hbS_ hkS_; have HSy := mk0 (hbS_ wx.heap.size wx (Nat.le_of_eq HGy.out.symm) HNy.out); have BSy := mk0 hS_; clear hS_ hbS_ hkS_ BNy; have BZx := mk0 (blk_below BSx.out HSy.out); have HZ := mk0 (below_then HSx.out HSx.out.size HSy.out); have p0 : _ = some ((.string x.f0) : Value) := (blk_cell BZx.out 0).trans rfl; have p1 : _ = some ((.slice A1 x.f1.length c1) : Value) := (blk_cell BZx.out 1).trans rfl; have p2 : _ = some ((.slice A2 x.f2.length c2) : Value) := (blk_cell BZx.out 2).trans rfl; have p3 : _ = some ((.slice A3 x.f3.length c3) : Value) := (blk_cell BZx.out 3).trans rfl; have q0 : _ = some ((.string y.f0) : Value) := (blk_cell BSy.out 0).trans rfl; have q1 : _ = some ((.slice B1 y.f1.length d1) : Value) := (blk_cell BSy.out 1).trans rfl; have q2 : _ = some ((.slice B2 y.f2.length d2) : Value) := (blk_cell BSy.out 2).trans rfl; have q3 : _ = some ((.slice B3 y.f3.length d3) : Value) := (blk_cell BSy.out 3).trans rfl) | (go_at_call 28; (with_reducible refine (hc _ [.string x.f0, .slice A1 x.f1.length c1, .slice A2 x.f2.length c2, .slice A3 x.f3.length c3] [.string y.f0, .slice B1 y.f1.length d1, .slice B2 y.f2.length d2, .slice B3 y.f3.length d3] (k65_mk _ x lc1 (Kd.C_below gc1 HZ.out) lc2 (Kd.C_below gc2 HZ.out) lc3 (Kd.C_below gc3 HZ.out)) (k65_mk _ y ld1 (Kd.C_below gd1 HZ.out) ld2 (Kd.C_below gd2 HZ.out) ld3 (Kd.C_below gd3 HZ.out))).mono ?_); rintro e w1 ⟨rfl, hb⟩; have HE_ := mk0 (below_then HZ.out HZ.out.size hb); clear hb))
         go_ret
         exact ⟨by rw [hno.out]; rfl, below_then HB.out HB.out.size HE_.out⟩
       · replace hok := hok' rfl
         clear hok' hno'
         go_wp2_with (first | ((with_reducible refine gate_dst (N := 8) rfl ?_); (try (refine gate_guard (by rfl) ?_; dsimp only)); refine box_event ?hg (N := 8) ?hd (cs := #[.string (⟨#[]⟩ : ByteArray), .slice none 0 0, .slice none 0 0, .slice none 0 0]) (t := 65) ?hr ?_; (case hd => rfl); (case hg => rfl); (case hr => first | (go_simp; done) | (go_simp; rfl)); intro gx hg9 w9x hbox hb9; have HNx := mk0 hb9; have BNx := mk0 hbox; have HGx := mk0 hg9; clear hb9 hbox hg9) | ((with_reducible refine gate_store (t := 65) (p := 8) rfl ?_); refine Go.Proofs.Yticnihfjnjliiaa.Sw.store_whole rfl rfl rfl gx 65 _ _ rfl rfl BNx.out (by kernel_rfl) rfl rfl ?_; intro wx hS_ hbS_ hkS_; have HSx := mk0 (hbS_ wr.heap.size wr (Nat.le_of_eq HGx.out.symm) HNx.out); have BSx := mk0 hS_; clear hS_ hbS_ hkS_ BNx; have f0_n := pw_cell_below HSx.out f0_; have f1_n := pw_cell_below HSx.out f1_; have f2_n := pw_cell_below HSx.out f2_; have f3_n := pw_cell_below HSx.out f3_) | ((with_reducible refine gate_dst (N := 9) rfl ?_); (try (refine gate_guard (by rfl) ?_; dsimp only)); refine box_event ?hg (N := 9) ?hd (cs := #[.string (⟨#[]⟩ : ByteArray), .slice none 0 0, .slice none 0 0, .slice none 0 0]) (t := 65) ?hr ?_; (case hd => rfl); (case hg => rfl); (case hr => first | (go_simp; done) | (go_simp; rfl)); intro gy hg9 w9y hbox hb9; have HNy := mk0 hb9; have BNy := mk0 hbox; have HGy := mk0 hg9; clear hb9 hbox hg9) | ((with_reducible refine gate_store (t := 65) (p := 9) rfl ?_); refine Go.Proofs.Yticnihfjnjliiaa.Sw.store_whole rfl rfl rfl gy 65 _ _ rfl rfl BNy.out (by kernel_rfl) rfl rfl ?_; intro wy hS_ hbS_ hkS_; have HSy := mk0 (hbS_ wx.heap.size wx (Nat.le_of_eq HGy.out.symm) HNy.out); have BSy := mk0 hS_; clear hS_ hbS_ hkS_ BNy; have BZx := mk0 (blk_below BSx.out HSy.out); have HZ := mk0 (below_then HSx.out HSx.out.size HSy.out); have p0 : _ = some ((.string x.f0) : Value) := (blk_cell BZx.out 0).trans rfl; have p1 : _ = some ((.slice A1 x.f1.length c1) : Value) := (blk_cell BZx.out 1).trans rfl; have p2 : _ = some ((.slice A2 x.f2.length c2) : Value) := (blk_cell BZx.out 2).trans rfl; have p3 : _ = some ((.slice A3 x.f3.length c3) : Value) := (blk_cell BZx.out 3).trans rfl; have q0 : _ = some ((.string y.f0) : Value) := (blk_cell BSy.out 0).trans rfl; have q1 : _ = some ((.slice B1 y.f1.length d1) : Value) := (blk_cell BSy.out 1).trans rfl; have q2 : _ = some ((.slice B2 y.f2.length d2) : Value) := (blk_cell BSy.out 2).trans rfl; have q3 : _ = some ((.slice B3 y.f3.length d3) : Value) := (blk_cell BSy.out 3).trans rfl) | (go_at_call 28; (with_reducible refine (hc _ [.string x.f0, .slice A1 x.f1.length c1, .slice A2 x.f2.length c2, .slice A3 x.f3.length c3] [.string y.f0, .slice B1 y.f1.length d1, .slice B2 y.f2.length d2, .slice B3 y.f3.length d3] (k65_mk _ x lc1 (Kd.C_below gc1 HZ.out) lc2 (Kd.C_below gc2 HZ.out) lc3 (Kd.C_below gc3 HZ.out)) (k65_mk _ y ld1 (Kd.C_below gd1 HZ.out) ld2 (Kd.C_below gd2 HZ.out) ld3 (Kd.C_below gd3 HZ.out))).mono ?_); rintro e w1 ⟨rfl, hb⟩; have HE_ := mk0 (below_then HZ.out HZ.out.size hb); clear hb))
         go_roundg k1
         case measure => exact Nat.lt_succ_self k1
         case rel => exact ⟨i + 1, (by first | rfl | (rw [hwp]) | (simp [hwp]; done)), ⟨by have := HI.out; omega⟩, ⟨below_then HB.out HB.out.size HE_.out⟩, hok⟩
    · have d0 : decide ((i : Int) < (a.length : Int)) = false := decide_eq_false (by omega)
      have HE := mk0 (take_all a b HL.out i hlt HT.out)
      go_wp2
      go_ret
      exact ⟨by rw [HE.out]; rfl, HB.out⟩
 · have hn := len_bne hl
   have HE := mk0 (len_ne a b hl)
   clear hl
   go_enter Try.func27, Try.ntmps27
   go_wp2
   go_ret
   exact ⟨by rw [HE.out]; rfl, HB0.out⟩
end Go.Proofs.Yticnihfjnjliiaa.E1
