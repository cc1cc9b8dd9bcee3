/- Lists of messages that are alike. -/
import Derived.Test.YticnihfjnjliiaaKE3
import Derived.Test.YticnihfjnjliiaaKSw
import Derived.Deep.QuietTactic
import Derived.BigQuiet
namespace Go.Proofs.Yticnihfjnjliiaa.E1
open Go.RowKit Go.Proofs.Yticnihfjnjliiaa.GDescGrows Go.Proofs.YticnihfjnjliiaaW.PrintWords Go.Proofs.YticnihfjnjliiaaW.PrintLast Go.Proofs.YticnihfjnjliiaaW.PrintMore Go.Proofs.Yticnihfjnjliiaa.Vb Go.Proofs.Yticnihfjnjliiaa.Rk
set_option linter.unusedVariables false
set_option linter.unusedSimpArgs false
set_option maxHeartbeats 8000000 in
set_option maxRecDepth 100000 in
theorem eqfMessage (a b : List S37) (hcn : ∀ x ∈ a, ∀ y ∈ b, ∀ (W : World) (cs ds : List Value), k37.K W x cs → k37.K W y ds → Calls Try.prog 24 #[.agg cs.toArray, .agg ds.toArray] W fun e w' => Eq_ (eqB x y) W e w') (hla : a.length ≤ 9223372036854775807) (A B : Option Addr) (ca cb : Nat) (w : World) (CA : Kd.C k37 w A a.length a) (CB : Kd.C k37 w B b.length b) :
 Calls Try.prog 23 #[.slice A a.length ca, .slice B b.length cb, .func (.func 24) #[] #[]] w fun e w' => Eq_ (eqB a b) w e w' := by
 have HB0 := mk0 (Below.refl w.heap.size w)
 have HA := mk0 CA
 have HC := mk0 CB
 by_cases hl : a.length = b.length
 · have HL := mk0 hl
   have hn := len_beq hl
   clear hl
   go_enter Try.func23, Try.ntmps23
   go_wp2
   go_loopg [17] a.length (fun kq v17 w' => ∃ i : Nat, v17 = .int .i64 (i : Int) ∧ Aside0 (i + kq = a.length) ∧ Aside0 (Below w.heap.size w w') ∧ Aside0 (a.take i = b.take i))
   case atStart =>
    exact ⟨0, rfl, ⟨by omega⟩, ⟨HB0.out⟩, ⟨by simp⟩⟩
   case round =>
    obtain ⟨i, rfl, HI, HB, HT⟩ := hrel
    by_cases hlt : i < a.length
    · have hwp : wrap64 ((i : Int) + 1) = ((i + 1 : Nat) : Int) := by unfold wrap64; omega
      have hlb : i < b.length := by have := HL.out; omega
      have d0 : decide ((i : Int) < (a.length : Int)) = true := decide_eq_true (by omega)
      have p0 : (0 ≤ (i : Int)) = True := eq_true (by omega)
      have q0 : ((i : Int) < (a.length : Int)) = True := eq_true (by omega)
      have q1 : ((i : Int) < (b.length : Int)) = True := eq_true (by omega)
      obtain ⟨x, hx⟩ : ∃ x, a.getD i z37 = x := ⟨_, rfl⟩
      obtain ⟨y, hy⟩ : ∃ y, b.getD i z37 = y := ⟨_, rfl⟩
      have hmx : x ∈ a := by rw [← hx]; simp [hlt]
      have hmy : y ∈ b := by rw [← hy]; simp [hlb]
      have hc := hcn x hmx y hmy
      have hok : x = y → Aside0 (a.take (i + 1) = b.take (i + 1)) := fun h => ⟨take_eq z37 a b HL.out i hlt HT.out (by rw [hx, hy, h])⟩
      have hno : ¬ x = y → Aside0 (eqB a b = false) := fun h => ⟨take_ne z37 a b i (by rw [hx, hy]; exact h)⟩
      obtain ⟨ad, cx, ea, _, hKx, hcx⟩ := Kd.C_get (Kd.C_below HA.out HB.out) z37 (i : Int) (by omega) (by omega)
      obtain ⟨bd, cy, eb, _, hKy, hcy⟩ := Kd.C_get (Kd.C_below HC.out HB.out) z37 (i : Int) (by omega) (by omega)
      rw [Int.toNat_natCast] at hKx hcx hKy hcy
      rw [hx] at hKx
      rw [hy] at hKy
      obtain ⟨A1, c1, A2, c2, A3, c3, A4, c4, A5, c5, A6, c6, A7, c7, A8, c8, A9, c9, A10, c10, ecx, lc1, gc1, lc2, gc2, lc3, gc3, lc4, gc4, lc5, gc5, lc6, gc6, lc7, gc7, lc8, gc8, lc9, gc9, lc10, gc10⟩ := k37_open hKx
      obtain ⟨B1, d1, B2, d2, B3, d3, B4, d4, B5, d5, B6, d6, B7, d7, B8, d8, B9, d9, B10, d10, ecy, ld1, gd1, ld2, gd2, ld3, gd3, ld4, gd4, ld5, gd5, ld6, gd6, ld7, gd7, ld8, gd8, ld9, gd9, ld10, gd10⟩ := k37_open hKy
      subst ecx ecy
      have e0_ : wr.cell? (ad.add (i * 11)) = some (.string x.f0) := by have := hcx 0 _ rfl; rwa [show i * k37.sz + 0 = i * 11 from rfl] at this
      have e1_ : wr.cell? ⟨(ad.add (i * 11)).block, (ad.add (i * 11)).off + 1, none⟩ = some (.slice A1 x.f1.length c1) := by have := hcx 1 _ rfl; rw [show i * k37.sz + 1 = i * 11 + 1 from rfl] at this; rw [← add_field _ _ 1 (by omega)]; exact this
      have e2_ : wr.cell? ⟨(ad.add (i * 11)).block, (ad.add (i * 11)).off + 2, none⟩ = some (.slice A2 x.f2.length c2) := by have := hcx 2 _ rfl; rw [show i * k37.sz + 2 = i * 11 + 2 from rfl] at this; rw [← add_field _ _ 2 (by omega)]; exact this
      have e3_ : wr.cell? ⟨(ad.add (i * 11)).block, (ad.add (i * 11)).off + 3, none⟩ = some (.slice A3 x.f3.length c3) := by have := hcx 3 _ rfl; rw [show i * k37.sz + 3 = i * 11 + 3 from rfl] at this; rw [← add_field _ _ 3 (by omega)]; exact this
      have e4_ : wr.cell? ⟨(ad.add (i * 11)).block, (ad.add (i * 11)).off + 4, none⟩ = some (.slice A4 x.f4.length c4) := by have := hcx 4 _ rfl; rw [show i * k37.sz + 4 = i * 11 + 4 from rfl] at this; rw [← add_field _ _ 4 (by omega)]; exact this
      have e5_ : wr.cell? ⟨(ad.add (i * 11)).block, (ad.add (i * 11)).off + 5, none⟩ = some (.slice A5 x.f5.length c5) := by have := hcx 5 _ rfl; rw [show i * k37.sz + 5 = i * 11 + 5 from rfl] at this; rw [← add_field _ _ 5 (by omega)]; exact this
      have e6_ : wr.cell? ⟨(ad.add (i * 11)).block, (ad.add (i * 11)).off + 6, none⟩ = some (.slice A6 x.f6.length c6) := by have := hcx 6 _ rfl; rw [show i * k37.sz + 6 = i * 11 + 6 from rfl] at this; rw [← add_field _ _ 6 (by omega)]; exact this
      have e7_ : wr.cell? ⟨(ad.add (i * 11)).block, (ad.add (i * 11)).off + 7, none⟩ = some (.slice A7 x.f7.length c7) := by have := hcx 7 _ rfl; rw [show i * k37.sz + 7 = i * 11 + 7 from rfl] at this; rw [← add_field _ _ 7 (by omega)]; exact this
      have e8_ : wr.cell? ⟨(ad.add (i * 11)).block, (ad.add (i * 11)).off + 8, none⟩ = some (.slice A8 x.f8.length c8) := by have := hcx 8 _ rfl; rw [show i * k37.sz + 8 = i * 11 + 8 from rfl] at this; rw [← add_field _ _ 8 (by omega)]; exact this
      have e9_ : wr.cell? ⟨(ad.add (i * 11)).block, (ad.add (i * 11)).off + 9, none⟩ = some (.slice A9 x.f9.length c9) := by have := hcx 9 _ rfl; rw [show i * k37.sz + 9 = i * 11 + 9 from rfl] at this; rw [← add_field _ _ 9 (by omega)]; exact this
      have e10_ : wr.cell? ⟨(ad.add (i * 11)).block, (ad.add (i * 11)).off + 10, none⟩ = some (.slice A10 x.f10.length c10) := by have := hcx 10 _ rfl; rw [show i * k37.sz + 10 = i * 11 + 10 from rfl] at this; rw [← add_field _ _ 10 (by omega)]; exact this
      have f0_ : wr.cell? (bd.add (i * 11)) = some (.string y.f0) := by have := hcy 0 _ rfl; rwa [show i * k37.sz + 0 = i * 11 from rfl] at this
      have f1_ : wr.cell? ⟨(bd.add (i * 11)).block, (bd.add (i * 11)).off + 1, none⟩ = some (.slice B1 y.f1.length d1) := by have := hcy 1 _ rfl; rw [show i * k37.sz + 1 = i * 11 + 1 from rfl] at this; rw [← add_field _ _ 1 (by omega)]; exact this
      have f2_ : wr.cell? ⟨(bd.add (i * 11)).block, (bd.add (i * 11)).off + 2, none⟩ = some (.slice B2 y.f2.length d2) := by have := hcy 2 _ rfl; rw [show i * k37.sz + 2 = i * 11 + 2 from rfl] at this; rw [← add_field _ _ 2 (by omega)]; exact this
      have f3_ : wr.cell? ⟨(bd.add (i * 11)).block, (bd.add (i * 11)).off + 3, none⟩ = some (.slice B3 y.f3.length d3) := by have := hcy 3 _ rfl; rw [show i * k37.sz + 3 = i * 11 + 3 from rfl] at this; rw [← add_field _ _ 3 (by omega)]; exact this
      have f4_ : wr.cell? ⟨(bd.add (i * 11)).block, (bd.add (i * 11)).off + 4, none⟩ = some (.slice B4 y.f4.length d4) := by have := hcy 4 _ rfl; rw [show i * k37.sz + 4 = i * 11 + 4 from rfl] at this; rw [← add_field _ _ 4 (by omega)]; exact this
      have f5_ : wr.cell? ⟨(bd.add (i * 11)).block, (bd.add (i * 11)).off + 5, none⟩ = some (.slice B5 y.f5.length d5) := by have := hcy 5 _ rfl; rw [show i * k37.sz + 5 = i * 11 + 5 from rfl] at this; rw [← add_field _ _ 5 (by omega)]; exact this
      have f6_ : wr.cell? ⟨(bd.add (i * 11)).block, (bd.add (i * 11)).off + 6, none⟩ = some (.slice B6 y.f6.length d6) := by have := hcy 6 _ rfl; rw [show i * k37.sz + 6 = i * 11 + 6 from rfl] at this; rw [← add_field _ _ 6 (by omega)]; exact this
      have f7_ : wr.cell? ⟨(bd.add (i * 11)).block, (bd.add (i * 11)).off + 7, none⟩ = some (.slice B7 y.f7.length d7) := by have := hcy 7 _ rfl; rw [show i * k37.sz + 7 = i * 11 + 7 from rfl] at this; rw [← add_field _ _ 7 (by omega)]; exact this
      have f8_ : wr.cell? ⟨(bd.add (i * 11)).block, (bd.add (i * 11)).off + 8, none⟩ = some (.slice B8 y.f8.length d8) := by have := hcy 8 _ rfl; rw [show i * k37.sz + 8 = i * 11 + 8 from rfl] at this; rw [← add_field _ _ 8 (by omega)]; exact this
      have f9_ : wr.cell? ⟨(bd.add (i * 11)).block, (bd.add (i * 11)).off + 9, none⟩ = some (.slice B9 y.f9.length d9) := by have := hcy 9 _ rfl; rw [show i * k37.sz + 9 = i * 11 + 9 from rfl] at this; rw [← add_field _ _ 9 (by omega)]; exact this
      have f10_ : wr.cell? ⟨(bd.add (i * 11)).block, (bd.add (i * 11)).off + 10, none⟩ = some (.slice B10 y.f10.length d10) := by have := hcy 10 _ rfl; rw [show i * k37.sz + 10 = i * 11 + 10 from rfl] at this; rw [← add_field _ _ 10 (by omega)]; exact this
      clear CA CB
      subst ea eb
      clear hx hy hcx hcy hmx hmy
      obtain ⟨r, hr⟩ : ∃ r, eqB x y = r := ⟨_, rfl⟩
      rw [hr] at hc
      have hok' : r = true → Aside0 (a.take (i + 1) = b.take (i + 1)) := fun h => hok (eqB_of (hr.trans h))
      have hno' : r = false → Aside0 (eqB a b = false) := fun h => hno (fun e => by rw [eqB_t e] at hr; rw [← hr] at h; cases h)
      clear hok hno hr
      cases gk with
      | zero => exact absurd HI.out (by omega)
      | succ k1 =>
       cases r
       · replace hno := hno' rfl
         clear hok' hno'
         go_wp2_with (first | ((with_reducible refine gate_dst (N := 8) rfl ?_); (try (refine gate_guard (by rfl) ?_; dsimp only)); refine box_event ?hg (N := 8) ?hd (cs := #[.string (⟨#[]⟩ : ByteArray), .slice none 0 0, .slice none 0 0, .slice none 0 0, .slice none 0 0, .slice none 0 0, .slice none 0 0, .slice none 0 0, .slice none 0 0, .slice none 0 0, .slice none 0 0]) (t := 37) ?hr ?_; (case hd => rfl); (case hg => rfl); (case hr => first | (go_simp; done) | (go_simp; rfl)); intro gx hg9 w9x hbox hb9; have HNx := mk0 hb9; have BNx := mk0 hbox; have HGx := mk0 hg9; clear hb9 hbox hg9) | ((with_reducible refine gate_store (t := 37) (p := 8) rfl ?_); refine Go.Proofs.Yticnihfjnjliiaa.Sw.store_whole rfl rfl rfl gx 37 _ _ rfl rfl BNx.out (by kernel_rfl) rfl rfl ?_; intro wx hS_ hbS_ hkS_; have HSx := mk0 (hbS_ wr.heap.size wr (Nat.le_of_eq HGx.out.symm) HNx.out); have BSx := mk0 hS_; clear hS_ hbS_ hkS_ BNx; have f0_n := pw_cell_below HSx.out f0_; have f1_n := pw_cell_below HSx.out f1_; have f2_n := pw_cell_below HSx.out f2_; have f3_n := pw_cell_below HSx.out f3_; have f4_n := pw_cell_below HSx.out f4_; have f5_n := pw_cell_below HSx.out f5_; have f6_n := pw_cell_below HSx.out f6_; have f7_n := pw_cell_below HSx.out f7_; have f8_n := pw_cell_below HSx.out f8_; have f9_n := pw_cell_below HSx.out f9_; have f10_n := pw_cell_below HSx.out f10_) | ((with_reducible refine gate_dst (N := 9) rfl ?_); (try (refine gate_guard (by rfl) ?_; dsimp only)); refine box_event ?hg (N := 9) ?hd (cs := #[.string (⟨#[]⟩ : ByteArray), .slice none 0 0, .slice none 0 0, .slice none 0 0, .slice none 0 0, .slice none 0 0, .slice none 0 0, .slice none 0 0, .slice none 0 0, .slice none 0 0, .slice none 0 0]) (t := 37) ?hr ?_; (case hd => rfl); (case hg => rfl); (case hr => first | (go_simp; done) | (go_simp; rfl)); intro gy hg9 w9y hbox hb9; have HNy := mk0 hb9; have BNy := mk0 hbox; have HGy := mk0 hg9; clear hb9 hbox hg9) | ((with_reducible refine gate_store (t := 37) (p := 9) rfl ?_); refine Go.Proofs.Yticnihfjnjliiaa.Sw.store_whole rfl rfl rfl gy 37 _ _ rfl rfl BNy.out (by kernel_rfl) rfl rfl ?_; intro wy hS_ hbS_ hkS_; have HSy := mk0 (hbS_ wx.heap.size wx (Nat.le_of_eq HGy.out.symm) HNy.out); have BSy := mk0 hS_; clear hS_ hbS_ hkS_ BNy; have BZx := mk0 (blk_below BSx.out HSy.out); have HZ := mk0 (below_then HSx.out HSx.out.size HSy.out); have p0 : _ = some ((.string x.f0) : Value) := (blk_cell BZx.out 0).trans rfl; have p1 : _ = some ((.slice A1 x.f1.length c1) : Value) := (blk_cell BZx.out 1).trans rfl; have p2 : _ = some ((.slice A2 x.f2.length c2) : Value) := (blk_cell BZx.out 2).trans rfl; have p3 : _ = some ((.slice A3 x.f3.length c3) : Value) := (blk_cell BZx.out 3).trans rfl; have p4 : _ = some ((.slice A4 x.f4.length c4) : Value) := (blk_cell BZx.out 4).trans rfl; have p5 : _ = some ((.slice A5 x.f5.length c5) : Value) := (blk_cell BZx.out 5).trans rfl; have p6 : _ = some ((.slice A6 x.f6.length c6) : Value) := (blk_cell BZx.out 6).trans rfl; have p7 : _ = some ((.slice A7 x.f7.length c7) : Value) := (blk_cell BZx.out 7).trans rfl; have p8 : _ = some ((.slice A8 x.f8.length c8) : Value) := (blk_cell BZx.out 8).trans rfl; have p9 : _ = some ((.slice A9 x.f9.length c9) : Value) := (blk_cell BZx.out 9).trans rfl; have p10 : _ = some ((.slice A10 x.f10.length c10) : Value) := (blk_cell BZx.out 10).trans rfl; have q0 : _ = some ((.string y.f0) : Value) := (blk_cell BSy.out 0).trans rfl; have q1 : _ = some ((.slice B1 y.f1.length d1) : Value) := (blk_cell BSy.out 1).trans rfl; have q2 : _ = some ((.slice B2 y.f2.length d2) : Value) := (blk_cell BSy.out 2).trans rfl; have q3 : _ = some ((.slice B3 y.f3.length d3) : Value) := (blk_cell BSy.out 3).trans rfl; have q4 : _ = some ((.slice B4 y.f4.length d4) : Value) := (blk_cell BSy.out 4).trans rfl; have q5 : _ = some ((.slice B5 y.f5.length d5) : Value) := (blk_cell BSy.out 5).trans rfl; have q6 : _ = some ((.slice B6 y.f6.length d6) : Value) := (blk_cell BSy.out 6).trans rfl; have q7 : _ = some ((.slice B7 y.f7.length d7) : Value) := (blk_cell BSy.out 7).trans rfl; have q8 : _ = some ((.slice B8 y.f8.length d8) : Value) := (blk_cell BSy.out 8).trans rfl; have q9 : _ = some ((.slice B9 y.f9.length d9) : Value) := (blk_cell BSy.out 9).trans rfl; have q10 : _ = some ((.slice B10 y.f10.length d10) : Value) := (blk_cell BSy.out 10).trans rfl) | (go_at_call 24; (with_reducible refine (hc _ [.string x.f0, .slice A1 x.f1.length c1, .slice A2 x.f2.length c2, .slice A3 x.f3.length c3, .slice A4 x.f4.length c4, .slice A5 x.f5.length c5, .slice A6 x.f6.length c6, .slice A7 x.f7.length c7, .slice A8 x.f8.length c8, .slice A9 x.f9.length c9, .slice A10 x.f10.length c10] [.string y.f0, .slice B1 y.f1.length d1, .slice B2 y.f2.length d2, .slice B3 y.f3.length d3, .slice B4 y.f4.length d4, .slice B5 y.f5.length d5, .slice B6 y.f6.length d6, .slice B7 y.f7.length d7, .slice B8 y.f8.length d8, .slice B9 y.f9.length d9, .slice B10 y.f10.length d10] (k37_mk _ x lc1 (Kd.C_below gc1 HZ.out) lc2 (Kd.C_below gc2 HZ.out) lc3 (Kd.C_below gc3 HZ.out) lc4 (Kd.C_below gc4 HZ.out) lc5 (Kd.C_below gc5 HZ.out) lc6 (Kd.C_below gc6 HZ.out) lc7 (Kd.C_below gc7 HZ.out) lc8 (Kd.C_below gc8 HZ.out) lc9 (Kd.C_below gc9 HZ.out) lc10 (Kd.C_below gc10 HZ.out)) (k37_mk _ y ld1 (Kd.C_below gd1 HZ.out) ld2 (Kd.C_below gd2 HZ.out) ld3 (Kd.C_below gd3 HZ.out) ld4 (Kd.C_below gd4 HZ.out) ld5 (Kd.C_below gd5 HZ.out) ld6 (Kd.C_below gd6 HZ.out) ld7 (Kd.C_below gd7 HZ.out) ld8 (Kd.C_below gd8 HZ.out) ld9 (Kd.C_below gd9 HZ.out) ld10 (Kd.C_below gd10 HZ.out))).mono ?_); rintro e w1 ⟨rfl, hb⟩; have HE_ := mk0 (below_then HZ.out HZ.out.size hb); clear hb))
         go_ret
         exact ⟨by rw [hno.out]; rfl, below_then HB.out HB.out.size HE_.out⟩
       · replace hok := hok' rfl
         clear hok' hno'
         go_wp2_with (first | ((with_reducible refine gate_dst (N := 8) rfl ?_); (try (refine gate_guard (by rfl) ?_; dsimp only)); refine box_event ?hg (N := 8) ?hd (cs := #[.string (⟨#[]⟩ : ByteArray), .slice none 0 0, .slice none 0 0, .slice none 0 0, .slice none 0 0, .slice none 0 0, .slice none 0 0, .slice none 0 0, .slice none 0 0, .slice none 0 0, .slice none 0 0]) (t := 37) ?hr ?_; (case hd => rfl); (case hg => rfl); (case hr => first | (go_simp; done) | (go_simp; rfl)); intro gx hg9 w9x hbox hb9; have HNx := mk0 hb9; have BNx := mk0 hbox; have HGx := mk0 hg9; clear hb9 hbox hg9) | ((with_reducible refine gate_store (t := 37) (p := 8) rfl ?_); refine Go.Proofs.Yticnihfjnjliiaa.Sw.store_whole rfl rfl rfl gx 37 _ _ rfl rfl BNx.out (by kernel_rfl) rfl rfl ?_; intro wx hS_ hbS_ hkS_; have HSx := mk0 (hbS_ wr.heap.size wr (Nat.le_of_eq HGx.out.symm) HNx.out); have BSx := mk0 hS_; clear hS_ hbS_ hkS_ BNx; have f0_n := pw_cell_below HSx.out f0_; have f1_n := pw_cell_below HSx.out f1_; have f2_n := pw_cell_below HSx.out f2_; have f3_n := pw_cell_below HSx.out f3_; have f4_n := pw_cell_below HSx.out f4_; have f5_n := pw_cell_below HSx.out f5_; have f6_n := pw_cell_below HSx.out f6_; have f7_n := pw_cell_below HSx.out f7_; have f8_n := pw_cell_below HSx.out f8_; have f9_n := pw_cell_below HSx.out f9_; have f10_n := pw_cell_below HSx.out f10_) | ((with_reducible refine gate_dst (N := 9) rfl ?_); (try (refine gate_guard (by rfl) ?_; dsimp only)); refine box_event ?hg (N := 9) ?hd (cs := #[.string (⟨#[]⟩ : ByteArray), .slice none 0 0, .slice none 0 0, .slice none 0 0, .slice none 0 0, .slice none 0 0, .slice none 0 0, .slice none 0 0, .slice none 0 0, .slice none 0 0, .slice none 0 0]) (t := 37) ?hr ?_; (case hd => rfl); (case hg => rfl); (case hr => first | (go_simp; done) | (go_simp; rfl)); intro gy hg9 w9y hbox hb9; have HNy := mk0 hb9; have BNy := mk0 hbox; have HGy := mk0 hg9; clear hb9 hbox hg9) | ((with_reducible refine gate_store (t := 37) (p := 9) rfl ?_); refine Go.Proofs.Yticnihfjnjliiaa.Sw.store_whole rfl rfl rfl gy 37 _ _ rfl rfl BNy.out (by kernel_rfl) rfl rfl ?_; intro wy hS_ hbS_ hkS_; have HSy := mk0 (hbS_ wx.heap.size wx (Nat.le_of_eq HGy.out.symm) HNy.out); have BSy := mk0 hS_; clear hS_ hbS_ hkS_ BNy; have BZx := mk0 (blk_below BSx.out HSy.out); have HZ := mk0 (below_then HSx.out HSx.out.size HSy.out); have p0 : _ = some ((.string x.f0) : Value) := (blk_cell BZx.out 0).trans rfl; have p1 : _ = some ((.slice A1 x.f1.length c1) : Value) := (blk_cell BZx.out 1).trans rfl; have p2 : _ = some ((.slice A2 x.f2.length c2) : Value) := (blk_cell BZx.out 2).trans rfl; have p3 : _ = some ((.slice A3 x.f3.length c3) : Value) := (blk_cell BZx.out 3).trans rfl; have p4 : _ = some ((.slice A4 x.f4.length c4) : Value) := (blk_cell BZx.out 4).trans rfl; have p5 : _ = some ((.slice A5 x.f5.length c5) : Value) := (blk_cell BZx.out 5).trans rfl; have p6 : _ = some ((.slice A6 x.f6.length c6) : Value) := (blk_cell BZx.out 6).trans rfl; have p7 : _ = some ((.slice A7 x.f7.length c7) : Value) := (blk_cell BZx.out 7).trans rfl; have p8 : _ = some ((.slice A8 x.f8.length c8) : Value) := (blk_cell BZx.out 8).trans rfl; have p9 : _ = some ((.slice A9 x.f9.length c9) : Value) := (blk_cell BZx.out 9).trans rfl; have p10 : _ = some ((.slice A10 x.f10.length c10) : Value) := (blk_cell BZx.out 10).trans rfl; have q0 : _ = some ((.string y.f0) : Value) := (blk_cell BSy.out 0).trans rfl; have q1 : _ = some ((.slice B1 y.f1.length d1) : Value) := (blk_cell BSy.out 1).trans rfl; have q2 : _ = some ((.slice B2 y.f2.length d2) : Value) := (blk_cell BSy.out 2).trans rfl; have q3 : _ = some ((.slice B3 y.f3.length d3) : Value) := (blk_cell BSy.out 3).trans rfl; have q4 : _ = some ((.slice B4 y.f4.length d4) : Value) := (blk_cell BSy.out 4).trans rfl; have q5 : _ = some ((.slice B5 y.f5.length d5) : Value) := (blk_cell BSy.out 5).trans rfl; have q6 : _ = some ((.slice B6 y.f6.length d6) : Value) := (blk_cell BSy.out 6).trans rfl; have q7 : _ = some ((.slice B7 y.f7.length d7) : Value) := (blk_cell BSy.out 7).trans rfl; have q8 : _ = some ((.slice B8 y.f8.length d8) : Value) := (blk_cell BSy.out 8).trans rfl; have q9 : _ = some ((.slice B9 y.f9.length d9) : Value) := (blk_cell BSy.out 9).trans rfl; have q10 : _ = some ((.slice B10 y.f10.length d10) : Value) := (blk_cell BSy.out 10).trans rfl) | (go_at_call 24; (with_reducible refine (hc _ [.string x.f0, .slice A1 x.f1.length c1, .slice A2 x.f2.length c2, .slice A3 x.f3.length c3, .slice A4 x.f4.length c4, .slice A5 x.f5.length c5, .slice A6 x.f6.length c6, .slice A7 x.f7.length c7, .slice A8 x.f8.length c8, .slice A9 x.f9.length c9, .slice A10 x.f10.length c10] [.string y.f0, .slice B1 y.f1.length d1, .slice B2 y.f2.length d2, .slice B3 y.f3.length d3, .slice B4 y.f4.length d4, .slice B5 y.f5.length d5, .slice B6 y.f6.length d6, .slice B7 y.f7.length d7, .slice B8 y.f8.length d8, .slice B9 y.f9.length d9, .slice B10 y.f10.length d10] (k37_mk _ x lc1 (Kd.C_below gc1 HZ.out) lc2 (Kd.C_below gc2 HZ.out) lc3 (Kd.C_below gc3 HZ.out) lc4 (Kd.C_below gc4 HZ.out) lc5 (Kd.C_below gc5 HZ.out) lc6 (Kd.C_below gc6 HZ.out) lc7 (Kd.C_below gc7 HZ.out) lc8 (Kd.C_below gc8 HZ.out) lc9 (Kd.C_below gc9 HZ.out) lc10 (Kd.C_below gc10 HZ.out)) (k37_mk _ y ld1 (Kd.C_below gd1 HZ.out) ld2 (Kd.C_below gd2 HZ.out) ld3 (Kd.C_below gd3 HZ.out) ld4 (Kd.C_below gd4 HZ.out) ld5 (Kd.C_below gd5 HZ.out) ld6 (Kd.C_below gd6 HZ.out) ld7 (Kd.C_below gd7 HZ.out) ld8 (Kd.C_below gd8 HZ.out) ld9 (Kd.C_below gd9 HZ.out) ld10 (Kd.C_below gd10 HZ.out))).mono ?_); rintro e w1 ⟨rfl, hb⟩; have HE_ := mk0 (below_then HZ.out HZ.out.size hb); clear hb))
         go_roundg k1
         case measure => exact Nat.lt_succ_self k1
         case rel => exact ⟨i + 1, (by first | rfl | (rw [hwp]) | (simp [hwp]; done)), ⟨by have := HI.out; omega⟩, ⟨below_then HB.out HB.out.size HE_.out⟩, hok⟩
    · have d0 : decide ((i : Int) < (a.length : Int)) = false := decide_eq_false (by omega)
      have HE := mk0 (take_all a b HL.out i hlt HT.out)
      go_wp2
      go_ret
      exact ⟨by rw [HE.out]; rfl, HB.out⟩
 · have hn := len_bne hl
   have HE := mk0 (len_ne a b hl)
   clear hl
   go_enter Try.func23, Try.ntmps23
   go_wp2
   go_ret
   exact ⟨by rw [HE.out]; rfl, HB0.out⟩
end Go.Proofs.Yticnihfjnjliiaa.E1
