/- Messages that are alike, by the reference. -/
import Derived.Test.YticnihfjnjliiaaKS2
import Derived.LoopN
import Derived.RegionTactic
namespace Go.Proofs.Yticnihfjnjliiaa.R1
open Go.RowKit Go.Proofs.Yticnihfjnjliiaa.GDescGrows Go.Proofs.YticnihfjnjliiaaW.PrintWords Go.Proofs.YticnihfjnjliiaaW.PrintLast Go.Proofs.YticnihfjnjliiaaW.PrintMore Go.Proofs.Yticnihfjnjliiaa.Vb Go.Proofs.Yticnihfjnjliiaa.Wr Go.Proofs.Yticnihfjnjliiaa.Wp Go.Proofs.Yticnihfjnjliiaa.Rk Go.Proofs.Yticnihfjnjliiaa.Sp Go.Proofs.Yticnihfjnjliiaa.E1
set_option linter.unusedVariables false
set_option linter.unusedSimpArgs false
def bl (x : S37) : S37 := ⟨x.f0, x.f1, x.f2.attach.map (fun y => bl y.1), x.f3, x.f4.map (fun _ => z90), x.f5, x.f6, x.f7.map (fun _ => z90), x.f8.map (fun _ => (⟨#[]⟩ : ByteArray)), x.f9, x.f10⟩
termination_by SizeOf.sizeOf x
decreasing_by (have h1 := List.sizeOf_lt_of_mem y.2; have h2 := szMessage x; omega)
theorem bl_eq (x : S37) : bl x = ⟨x.f0, x.f1, x.f2.map bl, x.f3, x.f4.map (fun _ => z90), x.f5, x.f6, x.f7.map (fun _ => z90), x.f8.map (fun _ => (⟨#[]⟩ : ByteArray)), x.f9, x.f10⟩ := by
 rw [bl, List.attach_map_val (l := x.f2) (f := bl)]
theorem const_len {α β : Type} (z : β) (a b : List α) (h : a.length = b.length) : a.map (fun _ => z) = b.map (fun _ => z) := by
 rw [List.map_const', List.map_const', h]
theorem const_len' {α β : Type} (z : β) {a b : List α} (h : a.map (fun _ => z) = b.map (fun _ => z)) : a.length = b.length := by
 have := congrArg List.length h
 rwa [List.length_map, List.length_map] at this
theorem bl_ext (x y : S37) (h0 : x.f0 = y.f0) (h1 : x.f1 = y.f1) (h2 : x.f2.map bl = y.f2.map bl) (h3 : x.f3 = y.f3) (h4 : x.f4.length = y.f4.length) (h5 : x.f5 = y.f5) (h6 : x.f6 = y.f6) (h7 : x.f7.length = y.f7.length) (h8 : x.f8.length = y.f8.length) (h9 : x.f9 = y.f9) (h10 : x.f10 = y.f10) : bl x = bl y := by
 rw [bl_eq, bl_eq, h0, h1, h2, h3, const_len z90 x.f4 y.f4 h4, h5, h6, const_len z90 x.f7 y.f7 h7, const_len (⟨#[]⟩ : ByteArray) x.f8 y.f8 h8, h9, h10]
theorem bl_no {β : Type} (f : S37 → β) (g : S37 → β) (hf : ∀ x, g (bl x) = f x) {x y : S37} (h : eqB (f x) (f y) = false) : eqB (bl x) (bl y) = false := eqB_f (fun e => by
 have := congrArg g e
 rw [hf, hf] at this
 rw [eqB_t this] at h
 cases h)
theorem bl_len {x y : S37} (f : S37 → Nat) (hf : ∀ x, f (bl x) = f x) (h : ¬ f x = f y) : eqB (bl x) (bl y) = false := eqB_f (fun e => h (by rw [← hf x, ← hf y, e]))
theorem len_b (a b : Nat) : ∃ r, ((a : Int) != (b : Int)) = r ∧ (r = false → a = b) ∧ (r = true → ¬ a = b) := by
 by_cases h : a = b
 · exact ⟨false, len_beq h, fun _ => h, (fun e => by cases e)⟩
 · exact ⟨true, len_bne h, (fun e => by cases e), fun _ => h⟩
theorem xt_Oneof (x y : S86) (h0 : x.f0 = y.f0) (h1 : x.f1 = y.f1) (h2 : x.f2 = y.f2) : x = y := by
 cases x; cases y
 dsimp only at h0 h1 h2
 subst h0 h1 h2
 rfl
def sm_t.T6 : Bool × List (List Nat × List Nat) := (true, [([], []), ([], []), ([0, 1], [0, 1]), ([2], [2]), ([], []), ([], []), ([4, 5], [4, 5]), ([6], [6]), ([], []), ([], []), ([8, 3, 0, 1, 2, 3, 8, 9], [3, 8]), ([9, 7, 10, 0, 1, 2, 3, 4, 5, 6, 7, 8, 9, 10], [7, 9])])
def sm_t.B6 : List Nat := [0, 0, 3, 7, 0, 0, 48, 112, 0, 0, 783, 2047]
theorem sm_t.tab6 : rtab .any (opsOf Try.f32 6) = sm_t.T6 := by kernel_rfl
theorem sm_t.bits6 : waitsOk sm_t.T6.2 sm_t.B6 = true := by kernel_rfl
def SMs (x : S37) : Prop := good37 x → ∀ (b : List S37) (hgb : ∀ y ∈ b, good37 y) (A0 B0 : Option Addr) (ca cb : Nat) (w : World), Kd.C k37 w A0 x.f2.length x.f2 → Kd.C k37 w B0 b.length b →
 Calls Try.prog 32 #[.slice A0 x.f2.length ca, .slice B0 b.length cb] w fun e w' => Eq_ (eqB (x.f2.map bl) (b.map bl)) w e w'
set_option maxHeartbeats 64000000 in
set_option maxRecDepth 100000 in
theorem sameMessages1_c (a b : List S37) (hga : ∀ y ∈ a, good37 y) (hgb : ∀ y ∈ b, good37 y) (ih : ∀ y ∈ a, SMs y) (hla : a.length ≤ 9223372036854775807) (A0 B0 : Option Addr) (ca cb : Nat) (w : World) (CA : Kd.C k37 w A0 a.length a) (CB : Kd.C k37 w B0 b.length b) :
 Calls Try.prog 32 #[.slice A0 a.length ca, .slice B0 b.length cb] w fun e w' => Eq_ (eqB (a.map bl) (b.map bl)) w e w' := by
 have HB0 := mk0 (Below.refl w.heap.size w)
 have HA := mk0 CA
 have HC := mk0 CB
 by_cases hl : a.length = b.length
 · have HL := mk0 hl
   have hn := len_beq hl
   clear hl
   go_enter Try.func32, Try.ntmps32
   go_wp2
   go_loopg [16] a.length (fun kq v16 w' => ∃ i : Nat, v16 = .int .i64 (i : Int) ∧ Aside0 (i + kq = a.length) ∧ Aside0 (Below w.heap.size w w') ∧ Aside0 ((a.map bl).take i = (b.map bl).take i))
   case atStart =>
    exact ⟨0, rfl, ⟨by omega⟩, ⟨HB0.out⟩, ⟨by simp⟩⟩
   case round =>
    obtain ⟨i, rfl, HI, HB, HT⟩ := hrel
    by_cases hlt : i < a.length
    · have hlb : i < b.length := by have := HL.out; omega
      have d0 := dec_lt hlt
      have p0 : (0 ≤ (i : Int)) = True := eq_true (Int.natCast_nonneg i)
      have q0 : ((i : Int) < (a.length : Int)) = True := eq_true (Int.ofNat_lt.2 hlt)
      have q1 : ((i : Int) < (b.length : Int)) = True := eq_true (Int.ofNat_lt.2 hlb)
      obtain ⟨x, hx⟩ : ∃ x, a.getD i z37 = x := ⟨_, rfl⟩
      obtain ⟨y, hy⟩ : ∃ y, b.getD i z37 = y := ⟨_, rfl⟩
      have gx_ := hga x (by rw [← hx]; simp [hlt])
      have gy_ := hgb y (by rw [← hy]; simp [hlb])
      have hix := ih x (by rw [← hx]; simp [hlt]) gx_
      have hxm : (a.map bl).getD i z37 = bl x := by rw [← hx]; simp [hlt]
      have hym : (b.map bl).getD i z37 = bl y := by rw [← hy]; simp [hlb]
      have hok : eqB (bl x) (bl y) = true → Aside0 ((a.map bl).take (i + 1) = (b.map bl).take (i + 1)) := fun h => ⟨take_eq z37 (a.map bl) (b.map bl) (by rw [List.length_map, List.length_map]; exact HL.out) i (by rw [List.length_map]; exact hlt) HT.out (by rw [hxm, hym, eqB_of h])⟩
      have hno : eqB (bl x) (bl y) = false → Aside0 (eqB (a.map bl) (b.map bl) = false) := fun h => ⟨take_ne z37 (a.map bl) (b.map bl) i (by rw [hxm, hym]; intro e; rw [eqB_t e] at h; cases h)⟩
      rw [good37] at gx_ gy_
      have hwp := mk0 (wrap_le i a.length hlt hla)
      have HLA := mk0 hla
      clear hla
      have hCa := Kd.C_below HA.out HB.out
      have hCb := Kd.C_below HC.out HB.out
      have hxe := hx
      obtain ⟨ad, cc, ea, _, hKx, hcc⟩ := Kd.C_get hCa z37 (i : Int) (Int.natCast_nonneg _) (Int.ofNat_lt.2 hlt)
      rw [Int.toNat_natCast] at hKx hcc
      rw [hxe] at hKx
      obtain ⟨A1, c1, A2, c2, A3, c3, A4, c4, A5, c5, A6, c6, A7, c7, A8, c8, A9, c9, A10, c10, ecc, lc1, gc1, lc2, gc2, lc3, gc3, lc4, gc4, lc5, gc5, lc6, gc6, lc7, gc7, lc8, gc8, lc9, gc9, lc10, gc10⟩ := k37_open hKx
      subst ecc
      have ex0 : wr.cell? (ad.add (i * 11)) = some (.string x.f0) := by have := hcc 0 _ rfl; rwa [show i * k37.sz + 0 = i * 11 from rfl] at this
      have ex1 : wr.cell? ⟨(ad.add (i * 11)).block, (ad.add (i * 11)).off + 1, none⟩ = some (.slice A1 x.f1.length c1) := by have := hcc 1 _ rfl; rw [show i * k37.sz + 1 = i * 11 + 1 from rfl] at this; rw [← add_field _ _ 1 (by omega)]; exact this
      have ex2 : wr.cell? ⟨(ad.add (i * 11)).block, (ad.add (i * 11)).off + 2, none⟩ = some (.slice A2 x.f2.length c2) := by have := hcc 2 _ rfl; rw [show i * k37.sz + 2 = i * 11 + 2 from rfl] at this; rw [← add_field _ _ 2 (by omega)]; exact this
      have ex3 : wr.cell? ⟨(ad.add (i * 11)).block, (ad.add (i * 11)).off + 3, none⟩ = some (.slice A3 x.f3.length c3) := by have := hcc 3 _ rfl; rw [show i * k37.sz + 3 = i * 11 + 3 from rfl] at this; rw [← add_field _ _ 3 (by omega)]; exact this
      have ex4 : wr.cell? ⟨(ad.add (i * 11)).block, (ad.add (i * 11)).off + 4, none⟩ = some (.slice A4 x.f4.length c4) := by have := hcc 4 _ rfl; rw [show i * k37.sz + 4 = i * 11 + 4 from rfl] at this; rw [← add_field _ _ 4 (by omega)]; exact this
      have ex5 : wr.cell? ⟨(ad.add (i * 11)).block, (ad.add (i * 11)).off + 5, none⟩ = some (.slice A5 x.f5.length c5) := by have := hcc 5 _ rfl; rw [show i * k37.sz + 5 = i * 11 + 5 from rfl] at this; rw [← add_field _ _ 5 (by omega)]; exact this
      have ex6 : wr.cell? ⟨(ad.add (i * 11)).block, (ad.add (i * 11)).off + 6, none⟩ = some (.slice A6 x.f6.length c6) := by have := hcc 6 _ rfl; rw [show i * k37.sz + 6 = i * 11 + 6 from rfl] at this; rw [← add_field _ _ 6 (by omega)]; exact this
      have ex7 : wr.cell? ⟨(ad.add (i * 11)).block, (ad.add (i * 11)).off + 7, none⟩ = some (.slice A7 x.f7.length c7) := by have := hcc 7 _ rfl; rw [show i * k37.sz + 7 = i * 11 + 7 from rfl] at this; rw [← add_field _ _ 7 (by omega)]; exact this
      have ex8 : wr.cell? ⟨(ad.add (i * 11)).block, (ad.add (i * 11)).off + 8, none⟩ = some (.slice A8 x.f8.length c8) := by have := hcc 8 _ rfl; rw [show i * k37.sz + 8 = i * 11 + 8 from rfl] at this; rw [← add_field _ _ 8 (by omega)]; exact this
      have ex9 : wr.cell? ⟨(ad.add (i * 11)).block, (ad.add (i * 11)).off + 9, none⟩ = some (.slice A9 x.f9.length c9) := by have := hcc 9 _ rfl; rw [show i * k37.sz + 9 = i * 11 + 9 from rfl] at this; rw [← add_field _ _ 9 (by omega)]; exact this
      have ex10 : wr.cell? ⟨(ad.add (i * 11)).block, (ad.add (i * 11)).off + 10, none⟩ = some (.slice A10 x.f10.length c10) := by have := hcc 10 _ rfl; rw [show i * k37.sz + 10 = i * 11 + 10 from rfl] at this; rw [← add_field _ _ 10 (by omega)]; exact this
      subst ea
      clear hcc hKx hxe
      have hxe := hy
      obtain ⟨bd, cc, ea, _, hKx, hcc⟩ := Kd.C_get hCb z37 (i : Int) (Int.natCast_nonneg _) (Int.ofNat_lt.2 hlb)
      rw [Int.toNat_natCast] at hKx hcc
      rw [hxe] at hKx
      obtain ⟨B1, d1, B2, d2, B3, d3, B4, d4, B5, d5, B6, d6, B7, d7, B8, d8, B9, d9, B10, d10, ecc, ld1, gd1, ld2, gd2, ld3, gd3, ld4, gd4, ld5, gd5, ld6, gd6, ld7, gd7, ld8, gd8, ld9, gd9, ld10, gd10⟩ := k37_open hKx
      subst ecc
      have ey0 : wr.cell? (bd.add (i * 11)) = some (.string y.f0) := by have := hcc 0 _ rfl; rwa [show i * k37.sz + 0 = i * 11 from rfl] at this
      have ey1 : wr.cell? ⟨(bd.add (i * 11)).block, (bd.add (i * 11)).off + 1, none⟩ = some (.slice B1 y.f1.length d1) := by have := hcc 1 _ rfl; rw [show i * k37.sz + 1 = i * 11 + 1 from rfl] at this; rw [← add_field _ _ 1 (by omega)]; exact this
      have ey2 : wr.cell? ⟨(bd.add (i * 11)).block, (bd.add (i * 11)).off + 2, none⟩ = some (.slice B2 y.f2.length d2) := by have := hcc 2 _ rfl; rw [show i * k37.sz + 2 = i * 11 + 2 from rfl] at this; rw [← add_field _ _ 2 (by omega)]; exact this
      have ey3 : wr.cell? ⟨(bd.add (i * 11)).block, (bd.add (i * 11)).off + 3, none⟩ = some (.slice B3 y.f3.length d3) := by have := hcc 3 _ rfl; rw [show i * k37.sz + 3 = i * 11 + 3 from rfl] at this; rw [← add_field _ _ 3 (by omega)]; exact this
      have ey4 : wr.cell? ⟨(bd.add (i * 11)).block, (bd.add (i * 11)).off + 4, none⟩ = some (.slice B4 y.f4.length d4) := by have := hcc 4 _ rfl; rw [show i * k37.sz + 4 = i * 11 + 4 from rfl] at this; rw [← add_field _ _ 4 (by omega)]; exact this
      have ey5 : wr.cell? ⟨(bd.add (i * 11)).block, (bd.add (i * 11)).off + 5, none⟩ = some (.slice B5 y.f5.length d5) := by have := hcc 5 _ rfl; rw [show i * k37.sz + 5 = i * 11 + 5 from rfl] at this; rw [← add_field _ _ 5 (by omega)]; exact this
      have ey6 : wr.cell? ⟨(bd.add (i * 11)).block, (bd.add (i * 11)).off + 6, none⟩ = some (.slice B6 y.f6.length d6) := by have := hcc 6 _ rfl; rw [show i * k37.sz + 6 = i * 11 + 6 from rfl] at this; rw [← add_field _ _ 6 (by omega)]; exact this
      have ey7 : wr.cell? ⟨(bd.add (i * 11)).block, (bd.add (i * 11)).off + 7, none⟩ = some (.slice B7 y.f7.length d7) := by have := hcc 7 _ rfl; rw [show i * k37.sz + 7 = i * 11 + 7 from rfl] at this; rw [← add_field _ _ 7 (by omega)]; exact this
      have ey8 : wr.cell? ⟨(bd.add (i * 11)).block, (bd.add (i * 11)).off + 8, none⟩ = some (.slice B8 y.f8.length d8) := by have := hcc 8 _ rfl; rw [show i * k37.sz + 8 = i * 11 + 8 from rfl] at this; rw [← add_field _ _ 8 (by omega)]; exact this
      have ey9 : wr.cell? ⟨(bd.add (i * 11)).block, (bd.add (i * 11)).off + 9, none⟩ = some (.slice B9 y.f9.length d9) := by have := hcc 9 _ rfl; rw [show i * k37.sz + 9 = i * 11 + 9 from rfl] at this; rw [← add_field _ _ 9 (by omega)]; exact this
      have ey10 : wr.cell? ⟨(bd.add (i * 11)).block, (bd.add (i * 11)).off + 10, none⟩ = some (.slice B10 y.f10.length d10) := by have := hcc 10 _ rfl; rw [show i * k37.sz + 10 = i * 11 + 10 from rfl] at this; rw [← add_field _ _ 10 (by omega)]; exact this
      subst ea
      clear hcc hKx hxe
      clear CA CB hx hy hxm hym
      obtain ⟨b0, h0⟩ : ∃ b, eqB x.f0 y.f0 = b := ⟨_, rfl⟩
      have s0 := str_eqB x.f0 y.f0
      have t0 := str_ne x.f0 y.f0
      rw [h0] at s0 t0
      have H0 := mk0 h0
      clear h0
      obtain ⟨b9, h9⟩ : ∃ b, eqB x.f9 y.f9 = b := ⟨_, rfl⟩
      have s9 := strOf_eqB (bytes_of_wf gx_.2.2.2.2.2.2.2.2.2.1.2) (bytes_of_wf gy_.2.2.2.2.2.2.2.2.2.1.2)
      have t9 := strOf_ne (bytes_of_wf gx_.2.2.2.2.2.2.2.2.2.1.2) (bytes_of_wf gy_.2.2.2.2.2.2.2.2.2.1.2)
      rw [h9] at s9 t9
      have H9 := mk0 h9
      clear h9
      obtain ⟨b10, h10⟩ : ∃ b, eqB x.f10 y.f10 = b := ⟨_, rfl⟩
      have s10 := strOf_eqB (bytes_of_wf gx_.2.2.2.2.2.2.2.2.2.2.2) (bytes_of_wf gy_.2.2.2.2.2.2.2.2.2.2.2)
      have t10 := strOf_ne (bytes_of_wf gx_.2.2.2.2.2.2.2.2.2.2.2) (bytes_of_wf gy_.2.2.2.2.2.2.2.2.2.2.2)
      rw [h10] at s10 t10
      have H10 := mk0 h10
      clear h10
      obtain ⟨b1, h1⟩ : ∃ b, eqB x.f1 y.f1 = b := ⟨_, rfl⟩
      have s1 := fun (W : World) (hW : Below wr.heap.size wr W) => sameFields_c x.f1 y.f1 gx_.2.1.2 gy_.2.1.2 (by have := gx_.2.1.1; unfold maxLen at this; exact this) A1 B1 c1 d1 W (Kd.C_below gc1 hW) (Kd.C_below gd1 hW)
      rw [h1] at s1
      have H1 := mk0 h1
      clear h1
      obtain ⟨b5, h5⟩ : ∃ b, eqB x.f5 y.f5 = b := ⟨_, rfl⟩
      have s5 := fun (W : World) (hW : Below wr.heap.size wr W) => sameFields_c x.f5 y.f5 gx_.2.2.2.2.2.1.2 gy_.2.2.2.2.2.1.2 (by have := gx_.2.2.2.2.2.1.1; unfold maxLen at this; exact this) A5 B5 c5 d5 W (Kd.C_below gc5 hW) (Kd.C_below gd5 hW)
      rw [h5] at s5
      have H5 := mk0 h5
      clear h5
      obtain ⟨b3, h3⟩ : ∃ b, eqB x.f3 y.f3 = b := ⟨_, rfl⟩
      have s3 := fun (W : World) (hW : Below wr.heap.size wr W) => sameEnums_c x.f3 y.f3 gx_.2.2.2.1.2 gy_.2.2.2.1.2 (by have := gx_.2.2.2.1.1; unfold maxLen at this; exact this) A3 B3 c3 d3 W (Kd.C_below gc3 hW) (Kd.C_below gd3 hW)
      rw [h3] at s3
      have H3 := mk0 h3
      clear h3
      obtain ⟨b2, h2⟩ : ∃ b, eqB (x.f2.map bl) (y.f2.map bl) = b := ⟨_, rfl⟩
      have s2 := fun (W : World) (hW : Below wr.heap.size wr W) => hix y.f2 gy_.2.2.1.2 A2 B2 c2 d2 W (Kd.C_below gc2 hW) (Kd.C_below gd2 hW)
      rw [h2] at s2
      have H2 := mk0 h2
      clear h2 hix
      obtain ⟨e6, he6, hef6, het6⟩ := len_b x.f6.length y.f6.length
      have EF6 := mk0 hef6
      have ET6 := mk0 het6
      clear hef6 het6
      obtain ⟨e4, he4, hef4, het4⟩ := len_b x.f4.length y.f4.length
      have EF4 := mk0 hef4
      have ET4 := mk0 het4
      clear hef4 het4
      obtain ⟨e7, he7, hef7, het7⟩ := len_b x.f7.length y.f7.length
      have EF7 := mk0 hef7
      have ET7 := mk0 het7
      clear hef7 het7
      obtain ⟨e8, he8, hef8, het8⟩ := len_b x.f8.length y.f8.length
      have EF8 := mk0 hef8
      have ET8 := mk0 het8
      clear hef8 het8
      have HGX2 := mk0 gx_.2.2.2.2.2.2.1
      have HGY2 := mk0 gy_.2.2.2.2.2.2.1
      clear gx_ gy_
      have HOK := mk0 hok
      have HNO := mk0 hno
      clear hok hno
      obtain ⟨R, hR⟩ : ∃ r, (eqB (bl x) (bl y) = r) := ⟨_, rfl⟩
      have HR := mk0 hR
      clear hR
      have key : ((b0 = false ∧ R = false) ∨ (b0 = true ∧ b9 = false ∧ R = false) ∨ (b0 = true ∧ b9 = true ∧ b10 = false ∧ R = false) ∨ (b0 = true ∧ b9 = true ∧ b10 = true ∧ b1 = false ∧ R = false) ∨ (b0 = true ∧ b9 = true ∧ b10 = true ∧ b1 = true ∧ b5 = false ∧ R = false) ∨ (b0 = true ∧ b9 = true ∧ b10 = true ∧ b1 = true ∧ b5 = true ∧ b3 = false ∧ R = false) ∨ (b0 = true ∧ b9 = true ∧ b10 = true ∧ b1 = true ∧ b5 = true ∧ b3 = true ∧ b2 = false ∧ R = false) ∨ (b0 = true ∧ b9 = true ∧ b10 = true ∧ b1 = true ∧ b5 = true ∧ b3 = true ∧ b2 = true ∧ e6 = true ∧ R = false) ∨ (b0 = true ∧ b9 = true ∧ b10 = true ∧ b1 = true ∧ b5 = true ∧ b3 = true ∧ b2 = true ∧ e6 = false ∧ e4 = true ∧ R = false) ∨ (b0 = true ∧ b9 = true ∧ b10 = true ∧ b1 = true ∧ b5 = true ∧ b3 = true ∧ b2 = true ∧ e6 = false ∧ e4 = false ∧ e7 = true ∧ R = false) ∨ (b0 = true ∧ b9 = true ∧ b10 = true ∧ b1 = true ∧ b5 = true ∧ b3 = true ∧ b2 = true ∧ e6 = false ∧ e4 = false ∧ e7 = false ∧ e8 = true ∧ R = false)) ∨ (b0 = true ∧ b9 = true ∧ b10 = true ∧ b1 = true ∧ b5 = true ∧ b3 = true ∧ b2 = true ∧ e6 = false ∧ e4 = false ∧ e7 = false ∧ e8 = false) := by
       rw [← HR.out]
       cases b0
       · exact .inl (.inl ⟨rfl, bl_no (fun z : S37 => z.f0) (fun z : S37 => z.f0) (fun z => by rw [bl_eq]) H0.out⟩)
       cases b9
       · exact .inl (.inr (.inl ⟨rfl, rfl, bl_no (fun z : S37 => z.f9) (fun z : S37 => z.f9) (fun z => by rw [bl_eq]) H9.out⟩))
       cases b10
       · exact .inl (.inr (.inr (.inl ⟨rfl, rfl, rfl, bl_no (fun z : S37 => z.f10) (fun z : S37 => z.f10) (fun z => by rw [bl_eq]) H10.out⟩)))
       cases b1
       · exact .inl (.inr (.inr (.inr (.inl ⟨rfl, rfl, rfl, rfl, bl_no (fun z : S37 => z.f1) (fun z : S37 => z.f1) (fun z => by rw [bl_eq]) H1.out⟩))))
       cases b5
       · exact .inl (.inr (.inr (.inr (.inr (.inl ⟨rfl, rfl, rfl, rfl, rfl, bl_no (fun z : S37 => z.f5) (fun z : S37 => z.f5) (fun z => by rw [bl_eq]) H5.out⟩)))))
       cases b3
       · exact .inl (.inr (.inr (.inr (.inr (.inr (.inl ⟨rfl, rfl, rfl, rfl, rfl, rfl, bl_no (fun z : S37 => z.f3) (fun z : S37 => z.f3) (fun z => by rw [bl_eq]) H3.out⟩))))))
       cases b2
       · exact .inl (.inr (.inr (.inr (.inr (.inr (.inr (.inl ⟨rfl, rfl, rfl, rfl, rfl, rfl, rfl, bl_no (fun z : S37 => z.f2.map bl) (fun z : S37 => z.f2) (fun z => by rw [bl_eq]) H2.out⟩)))))))
       cases e6
       rotate_left
       · exact .inl (.inr (.inr (.inr (.inr (.inr (.inr (.inr (.inl ⟨rfl, rfl, rfl, rfl, rfl, rfl, rfl, rfl, bl_len (fun z : S37 => z.f6.length) (fun z => by rw [bl_eq]) (ET6.out rfl)⟩))))))))
       cases e4
       rotate_left
       · exact .inl (.inr (.inr (.inr (.inr (.inr (.inr (.inr (.inr (.inl ⟨rfl, rfl, rfl, rfl, rfl, rfl, rfl, rfl, rfl, bl_len (fun z : S37 => z.f4.length) (fun z => by rw [bl_eq]; exact List.length_map _) (ET4.out rfl)⟩)))))))))
       cases e7
       rotate_left
       · exact .inl (.inr (.inr (.inr (.inr (.inr (.inr (.inr (.inr (.inr (.inl ⟨rfl, rfl, rfl, rfl, rfl, rfl, rfl, rfl, rfl, rfl, bl_len (fun z : S37 => z.f7.length) (fun z => by rw [bl_eq]; exact List.length_map _) (ET7.out rfl)⟩))))))))))
       cases e8
       rotate_left
       · exact .inl (.inr (.inr (.inr (.inr (.inr (.inr (.inr (.inr (.inr (.inr (⟨rfl, rfl, rfl, rfl, rfl, rfl, rfl, rfl, rfl, rfl, rfl, bl_len (fun z : S37 => z.f8.length) (fun z => by rw [bl_eq]; exact List.length_map _) (ET8.out rfl)⟩)))))))))))
       exact .inr ⟨rfl, rfl, rfl, rfl, rfl, rfl, rfl, rfl, rfl, rfl, rfl⟩
      have HBr := mk0 (Below.refl wr.heap.size wr)
      cases gk with
      | zero => exact absurd HI.out (fun h => Nat.ne_of_lt hlt h)
      | succ k1 =>
       go_wp2
       have n_ := mk0 (below_drew1 HBr.out)
       clear HBr
       have HBr := n_
       clear n_
       refine start_ (n := 12) (S := fun w' => w'.cell? (ad.add (i * 11)) = some (.string x.f0) ∧ w'.cell? ⟨(ad.add (i * 11)).block, (ad.add (i * 11)).off + 1, none⟩ = some (.slice A1 x.f1.length c1) ∧ w'.cell? ⟨(ad.add (i * 11)).block, (ad.add (i * 11)).off + 2, none⟩ = some (.slice A2 x.f2.length c2) ∧ w'.cell? ⟨(ad.add (i * 11)).block, (ad.add (i * 11)).off + 3, none⟩ = some (.slice A3 x.f3.length c3) ∧ w'.cell? ⟨(ad.add (i * 11)).block, (ad.add (i * 11)).off + 4, none⟩ = some (.slice A4 x.f4.length c4) ∧ w'.cell? ⟨(ad.add (i * 11)).block, (ad.add (i * 11)).off + 5, none⟩ = some (.slice A5 x.f5.length c5) ∧ w'.cell? ⟨(ad.add (i * 11)).block, (ad.add (i * 11)).off + 6, none⟩ = some (.slice A6 x.f6.length c6) ∧ w'.cell? ⟨(ad.add (i * 11)).block, (ad.add (i * 11)).off + 7, none⟩ = some (.slice A7 x.f7.length c7) ∧ w'.cell? ⟨(ad.add (i * 11)).block, (ad.add (i * 11)).off + 8, none⟩ = some (.slice A8 x.f8.length c8) ∧ w'.cell? ⟨(ad.add (i * 11)).block, (ad.add (i * 11)).off + 9, none⟩ = some (.slice A9 x.f9.length c9) ∧ w'.cell? ⟨(ad.add (i * 11)).block, (ad.add (i * 11)).off + 10, none⟩ = some (.slice A10 x.f10.length c10) ∧ w'.cell? (bd.add (i * 11)) = some (.string y.f0) ∧ w'.cell? ⟨(bd.add (i * 11)).block, (bd.add (i * 11)).off + 1, none⟩ = some (.slice B1 y.f1.length d1) ∧ w'.cell? ⟨(bd.add (i * 11)).block, (bd.add (i * 11)).off + 2, none⟩ = some (.slice B2 y.f2.length d2) ∧ w'.cell? ⟨(bd.add (i * 11)).block, (bd.add (i * 11)).off + 3, none⟩ = some (.slice B3 y.f3.length d3) ∧ w'.cell? ⟨(bd.add (i * 11)).block, (bd.add (i * 11)).off + 4, none⟩ = some (.slice B4 y.f4.length d4) ∧ w'.cell? ⟨(bd.add (i * 11)).block, (bd.add (i * 11)).off + 5, none⟩ = some (.slice B5 y.f5.length d5) ∧ w'.cell? ⟨(bd.add (i * 11)).block, (bd.add (i * 11)).off + 6, none⟩ = some (.slice B6 y.f6.length d6) ∧ w'.cell? ⟨(bd.add (i * 11)).block, (bd.add (i * 11)).off + 7, none⟩ = some (.slice B7 y.f7.length d7) ∧ w'.cell? ⟨(bd.add (i * 11)).block, (bd.add (i * 11)).off + 8, none⟩ = some (.slice B8 y.f8.length d8) ∧ w'.cell? ⟨(bd.add (i * 11)).block, (bd.add (i * 11)).off + 9, none⟩ = some (.slice B9 y.f9.length d9) ∧ w'.cell? ⟨(bd.add (i * 11)).block, (bd.add (i * 11)).off + 10, none⟩ = some (.slice B10 y.f10.length d10)) (ds := []) #[false, false, false, false, false, false, false, false, false, false, false, false] (by kernel_rfl) rfl rfl ⟨pw_cell_below HBr.out ex0, pw_cell_below HBr.out ex1, pw_cell_below HBr.out ex2, pw_cell_below HBr.out ex3, pw_cell_below HBr.out ex4, pw_cell_below HBr.out ex5, pw_cell_below HBr.out ex6, pw_cell_below HBr.out ex7, pw_cell_below HBr.out ex8, pw_cell_below HBr.out ex9, pw_cell_below HBr.out ex10, pw_cell_below HBr.out ey0, pw_cell_below HBr.out ey1, pw_cell_below HBr.out ey2, pw_cell_below HBr.out ey3, pw_cell_below HBr.out ey4, pw_cell_below HBr.out ey5, pw_cell_below HBr.out ey6, pw_cell_below HBr.out ey7, pw_cell_below HBr.out ey8, pw_cell_below HBr.out ey9, pw_cell_below HBr.out ey10⟩ (fun hHeld => ?_)
       refine with_tabW sm_t.tab6 sm_t.bits6 (fun HT_ HW_ => ?_)
       generalize wr.drew = wq at HBr hHeld ⊢
       refine pure_ (i := 0) (N := some 19) (v := ?_) (a' := ?_) #[true, false, false, false, false, false, false, false, false, false, false, false] rfl rfl (any_of HT_.out (by kernel_rfl)) (fun _ _ _ h => h) (Or.inl ⟨by rfl, ?_⟩) ?_ ?_
       rotate_left
       · intro w'
         go_simp
         with_reducible rfl
       rotate_left
       · simp only [Act.put, List.setIfInBounds_toArray, List.set_cons_zero, List.set_cons_succ, i64_w, i32_w]
         rfl
       refine pure_ (i := 1) (N := some 20) (v := ?_) (a' := ?_) #[true, true, false, false, false, false, false, false, false, false, false, false] rfl rfl (any_of HT_.out (by kernel_rfl)) (fun _ _ _ h => h) (Or.inl ⟨by rfl, ?_⟩) ?_ ?_
       rotate_left
       · intro w'
         go_simp
         with_reducible rfl
       rotate_left
       · simp only [Act.put, List.setIfInBounds_toArray, List.set_cons_zero, List.set_cons_succ, i64_w, i32_w]
         rfl
       refine pure_ (i := 4) (N := some 23) (v := ?_) (a' := ?_) #[true, true, false, false, true, false, false, false, false, false, false, false] rfl rfl (any_of HT_.out (by kernel_rfl)) (fun _ _ _ h => h) (Or.inl ⟨by rfl, ?_⟩) ?_ ?_
       rotate_left
       · intro w'
         go_simp
         with_reducible rfl
       rotate_left
       · simp only [Act.put, List.setIfInBounds_toArray, List.set_cons_zero, List.set_cons_succ, i64_w, i32_w]
         rfl
       refine pure_ (i := 5) (N := some 24) (v := ?_) (a' := ?_) #[true, true, false, false, true, true, false, false, false, false, false, false] rfl rfl (any_of HT_.out (by kernel_rfl)) (fun _ _ _ h => h) (Or.inl ⟨by rfl, ?_⟩) ?_ ?_
       rotate_left
       · intro w'
         go_simp
         with_reducible rfl
       rotate_left
       · simp only [Act.put, List.setIfInBounds_toArray, List.set_cons_zero, List.set_cons_succ, i64_w, i32_w]
         rfl
       refine take_ (i := 2) (N := some 21) (v := ?_) (a' := ?_) #[true, true, true, false, true, true, false, false, false, false, false, false] rfl rfl (take_ofW HT_.out HW_.out (by kernel_rfl)) (fun _ _ _ h => h) (Or.inl ⟨by rfl, ?_⟩) hHeld ?_ ?_
       rotate_left
       · rintro w' ⟨s0, s1, s2, s3, s4, s5, s6, s7, s8, s9, s10, s11, s12, s13, s14, s15, s16, s17, s18, s19, s20, s21⟩
         go_simp
         with_reducible rfl
       rotate_left
       · simp only [Act.put, List.setIfInBounds_toArray, List.set_cons_zero, List.set_cons_succ, i64_w, i32_w]
         rfl
       refine take_ (i := 3) (N := some 22) (v := ?_) (a' := ?_) #[true, true, true, true, true, true, false, false, false, false, false, false] rfl rfl (take_ofW HT_.out HW_.out (by kernel_rfl)) (fun _ _ _ h => h) (Or.inl ⟨by rfl, ?_⟩) hHeld ?_ ?_
       rotate_left
       · rintro w' ⟨s0, s1, s2, s3, s4, s5, s6, s7, s8, s9, s10, s11, s12, s13, s14, s15, s16, s17, s18, s19, s20, s21⟩
         go_simp
         with_reducible rfl
       rotate_left
       · simp only [Act.put, List.setIfInBounds_toArray, List.set_cons_zero, List.set_cons_succ, i64_w, i32_w]
         rfl
       refine take_ (i := 6) (N := some 25) (v := ?_) (a' := ?_) #[true, true, true, true, true, true, true, false, false, false, false, false] rfl rfl (take_ofW HT_.out HW_.out (by kernel_rfl)) (fun _ _ _ h => h) (Or.inl ⟨by rfl, ?_⟩) hHeld ?_ ?_
       rotate_left
       · rintro w' ⟨s0, s1, s2, s3, s4, s5, s6, s7, s8, s9, s10, s11, s12, s13, s14, s15, s16, s17, s18, s19, s20, s21⟩
         go_simp
         with_reducible rfl
       rotate_left
       · simp only [Act.put, List.setIfInBounds_toArray, List.set_cons_zero, List.set_cons_succ, i64_w, i32_w]
         rfl
       refine take_ (i := 7) (N := some 26) (v := ?_) (a' := ?_) #[true, true, true, true, true, true, true, true, false, false, false, false] rfl rfl (take_ofW HT_.out HW_.out (by kernel_rfl)) (fun _ _ _ h => h) (Or.inl ⟨by rfl, ?_⟩) hHeld ?_ ?_
       rotate_left
       · rintro w' ⟨s0, s1, s2, s3, s4, s5, s6, s7, s8, s9, s10, s11, s12, s13, s14, s15, s16, s17, s18, s19, s20, s21⟩
         go_simp
         with_reducible rfl
       rotate_left
       · simp only [Act.put, List.setIfInBounds_toArray, List.set_cons_zero, List.set_cons_succ, i64_w, i32_w]
         rfl
       refine join_ (σ := Nat × Nat) 2 #[true, true, true, true, true, true, true, true, true, true, false, false] (fun s_ => [(6, .pointer (some ⟨s_.1, 0, none⟩)), (7, .pointer (some ⟨s_.2, 0, none⟩))]) (fun s_ w' => w'.heap[s_.1]? = some (.cells #[.string (⟨#[]⟩ : ByteArray), .slice none 0 0, .slice none 0 0, .slice none 0 0, .slice none 0 0, .slice none 0 0, .slice none 0 0, .slice none 0 0, .slice none 0 0, .slice none 0 0, .slice none 0 0] 37 (0, 0)) ∧ w'.heap[s_.2]? = some (.cells #[.string (⟨#[]⟩ : ByteArray), .slice none 0 0, .slice none 0 0, .slice none 0 0, .slice none 0 0, .slice none 0 0, .slice none 0 0, .slice none 0 0, .slice none 0 0, .slice none 0 0, .slice none 0 0] 37 (0, 0)) ∧ s_.1 ≠ s_.2 ∧ wr.heap.size ≤ s_.1 ∧ wr.heap.size ≤ s_.2 ∧ Below wr.heap.size wr w') ?_ ?_
       rotate_left
       · intro hCont
         refine two_ (i := 8) (j := 9) (Ni := some 6) (Nj := some 7) #[true, true, true, true, true, true, true, true, true, false, false, false] #[true, true, true, true, true, true, true, true, false, true, false, false] rfl rfl rfl rfl (two_of HT_.out (by kernel_rfl)) (by decide) (by decide) (fun K hK => ?_) (fun K hK => ?_)
         · skip
           refine box_step ?hg (N := 6) ?hd (cs := #[.string (⟨#[]⟩ : ByteArray), .slice none 0 0, .slice none 0 0, .slice none 0 0, .slice none 0 0, .slice none 0 0, .slice none 0 0, .slice none 0 0, .slice none 0 0, .slice none 0 0, .slice none 0 0]) (t := 37) ?hr ?_; (case hd => rfl); (case hg => rfl); (case hr => first | (go_simp; done) | (go_simp; rfl))
           intro gx hg wq hbox hb
           have HG1 := mk0 (show wr.heap.size ≤ gx from hg ▸ HBr.out.size)
           have n_ := mk0 (below_then HBr.out HBr.out.size hb)
           clear HBr
           have HBr := n_
           clear n_
           have B1 := mk0 hbox
           clear hg hbox hb
           refine hK.out _ _ ⟨pw_cell_below HBr.out ex0, pw_cell_below HBr.out ex1, pw_cell_below HBr.out ex2, pw_cell_below HBr.out ex3, pw_cell_below HBr.out ex4, pw_cell_below HBr.out ex5, pw_cell_below HBr.out ex6, pw_cell_below HBr.out ex7, pw_cell_below HBr.out ex8, pw_cell_below HBr.out ex9, pw_cell_below HBr.out ex10, pw_cell_below HBr.out ey0, pw_cell_below HBr.out ey1, pw_cell_below HBr.out ey2, pw_cell_below HBr.out ey3, pw_cell_below HBr.out ey4, pw_cell_below HBr.out ey5, pw_cell_below HBr.out ey6, pw_cell_below HBr.out ey7, pw_cell_below HBr.out ey8, pw_cell_below HBr.out ey9, pw_cell_below HBr.out ey10⟩ (fun hHeld => ?_)
           clear hK K
           refine norm_ (a' := ?_) ?_ ?_
           rotate_left
           · show Act.put _ (some 6) _ = _
             simp only [Act.put, List.setIfInBounds_toArray, List.set_cons_zero, List.set_cons_succ, i64_w, i32_w]
             rfl
           refine one_ (i := 9) (N := some 7) #[true, true, true, true, true, true, true, true, true, true, false, false] rfl rfl (one_of HT_.out (by kernel_rfl)) (by decide) (fun K hK => ?_)
           refine box_step ?hg (N := 7) ?hd (cs := #[.string (⟨#[]⟩ : ByteArray), .slice none 0 0, .slice none 0 0, .slice none 0 0, .slice none 0 0, .slice none 0 0, .slice none 0 0, .slice none 0 0, .slice none 0 0, .slice none 0 0, .slice none 0 0]) (t := 37) ?hr ?_; (case hd => rfl); (case hg => rfl); (case hr => first | (go_simp; done) | (go_simp; rfl))
           intro gy hg wq hbox hb
           have HG2 := mk0 (show wr.heap.size ≤ gy from hg ▸ HBr.out.size)
           have HNE := mk0 (show gx ≠ gy from hg ▸ Nat.ne_of_lt (blk_lt B1.out))
           have n_ := mk0 (below_then HBr.out HBr.out.size hb)
           clear HBr
           have HBr := n_
           clear n_
           have n_ := mk0 (blk_below B1.out hb)
           clear B1
           have B1 := n_
           have B2 := mk0 hbox
           clear hg hbox hb n_
           refine hK.out _ _ ⟨pw_cell_below HBr.out ex0, pw_cell_below HBr.out ex1, pw_cell_below HBr.out ex2, pw_cell_below HBr.out ex3, pw_cell_below HBr.out ex4, pw_cell_below HBr.out ex5, pw_cell_below HBr.out ex6, pw_cell_below HBr.out ex7, pw_cell_below HBr.out ex8, pw_cell_below HBr.out ex9, pw_cell_below HBr.out ex10, pw_cell_below HBr.out ey0, pw_cell_below HBr.out ey1, pw_cell_below HBr.out ey2, pw_cell_below HBr.out ey3, pw_cell_below HBr.out ey4, pw_cell_below HBr.out ey5, pw_cell_below HBr.out ey6, pw_cell_below HBr.out ey7, pw_cell_below HBr.out ey8, pw_cell_below HBr.out ey9, pw_cell_below HBr.out ey10⟩ (fun hHeld => ?_)
           clear hK K
           refine norm_ (a' := ?_) ?_ ?_
           rotate_left
           · show Act.put _ (some 7) _ = _
             simp only [Act.put, List.setIfInBounds_toArray, List.set_cons_zero, List.set_cons_succ, i64_w, i32_w]
             rfl
           exact norm_ (by simp only [putAll, Act.put, List.setIfInBounds_toArray, List.set_cons_zero, List.set_cons_succ]) (hCont (gx, gy) _ ⟨B1.out, B2.out, HNE.out, HG1.out, HG2.out, HBr.out⟩)
         · skip
           refine box_step ?hg (N := 7) ?hd (cs := #[.string (⟨#[]⟩ : ByteArray), .slice none 0 0, .slice none 0 0, .slice none 0 0, .slice none 0 0, .slice none 0 0, .slice none 0 0, .slice none 0 0, .slice none 0 0, .slice none 0 0, .slice none 0 0]) (t := 37) ?hr ?_; (case hd => rfl); (case hg => rfl); (case hr => first | (go_simp; done) | (go_simp; rfl))
           intro gy hg wq hbox hb
           have HG1 := mk0 (show wr.heap.size ≤ gy from hg ▸ HBr.out.size)
           have n_ := mk0 (below_then HBr.out HBr.out.size hb)
           clear HBr
           have HBr := n_
           clear n_
           have B1 := mk0 hbox
           clear hg hbox hb
           refine hK.out _ _ ⟨pw_cell_below HBr.out ex0, pw_cell_below HBr.out ex1, pw_cell_below HBr.out ex2, pw_cell_below HBr.out ex3, pw_cell_below HBr.out ex4, pw_cell_below HBr.out ex5, pw_cell_below HBr.out ex6, pw_cell_below HBr.out ex7, pw_cell_below HBr.out ex8, pw_cell_below HBr.out ex9, pw_cell_below HBr.out ex10, pw_cell_below HBr.out ey0, pw_cell_below HBr.out ey1, pw_cell_below HBr.out ey2, pw_cell_below HBr.out ey3, pw_cell_below HBr.out ey4, pw_cell_below HBr.out ey5, pw_cell_below HBr.out ey6, pw_cell_below HBr.out ey7, pw_cell_below HBr.out ey8, pw_cell_below HBr.out ey9, pw_cell_below HBr.out ey10⟩ (fun hHeld => ?_)
           clear hK K
           refine norm_ (a' := ?_) ?_ ?_
           rotate_left
           · show Act.put _ (some 7) _ = _
             simp only [Act.put, List.setIfInBounds_toArray, List.set_cons_zero, List.set_cons_succ, i64_w, i32_w]
             rfl
           refine one_ (i := 8) (N := some 6) #[true, true, true, true, true, true, true, true, true, true, false, false] rfl rfl (one_of HT_.out (by kernel_rfl)) (by decide) (fun K hK => ?_)
           refine box_step ?hg (N := 6) ?hd (cs := #[.string (⟨#[]⟩ : ByteArray), .slice none 0 0, .slice none 0 0, .slice none 0 0, .slice none 0 0, .slice none 0 0, .slice none 0 0, .slice none 0 0, .slice none 0 0, .slice none 0 0, .slice none 0 0]) (t := 37) ?hr ?_; (case hd => rfl); (case hg => rfl); (case hr => first | (go_simp; done) | (go_simp; rfl))
           intro gx hg wq hbox hb
           have HG2 := mk0 (show wr.heap.size ≤ gx from hg ▸ HBr.out.size)
           have HNE := mk0 (show gy ≠ gx from hg ▸ Nat.ne_of_lt (blk_lt B1.out))
           have n_ := mk0 (below_then HBr.out HBr.out.size hb)
           clear HBr
           have HBr := n_
           clear n_
           have n_ := mk0 (blk_below B1.out hb)
           clear B1
           have B1 := n_
           have B2 := mk0 hbox
           clear hg hbox hb n_
           refine hK.out _ _ ⟨pw_cell_below HBr.out ex0, pw_cell_below HBr.out ex1, pw_cell_below HBr.out ex2, pw_cell_below HBr.out ex3, pw_cell_below HBr.out ex4, pw_cell_below HBr.out ex5, pw_cell_below HBr.out ex6, pw_cell_below HBr.out ex7, pw_cell_below HBr.out ex8, pw_cell_below HBr.out ex9, pw_cell_below HBr.out ex10, pw_cell_below HBr.out ey0, pw_cell_below HBr.out ey1, pw_cell_below HBr.out ey2, pw_cell_below HBr.out ey3, pw_cell_below HBr.out ey4, pw_cell_below HBr.out ey5, pw_cell_below HBr.out ey6, pw_cell_below HBr.out ey7, pw_cell_below HBr.out ey8, pw_cell_below HBr.out ey9, pw_cell_below HBr.out ey10⟩ (fun hHeld => ?_)
           clear hK K
           refine norm_ (a' := ?_) ?_ ?_
           rotate_left
           · show Act.put _ (some 6) _ = _
             simp only [Act.put, List.setIfInBounds_toArray, List.set_cons_zero, List.set_cons_succ, i64_w, i32_w]
             rfl
           exact norm_ (by simp only [putAll, Act.put, List.setIfInBounds_toArray, List.set_cons_zero, List.set_cons_succ]) (hCont (gx, gy) _ ⟨B2.out, B1.out, (HNE.out).symm, HG2.out, HG1.out, HBr.out⟩)
       clear HBr hHeld
       rintro ⟨gx, gy⟩ wq ⟨hBX_, hBY_, hne_, hGX_, hGY_, hB_⟩
       have BX := mk0 hBX_
       have BY := mk0 hBY_
       have HNE := mk0 hne_
       have HGX := mk0 hGX_
       have HGY := mk0 hGY_
       have HBr := mk0 hB_
       clear hBX_ hBY_ hne_ hGX_ hGY_ hB_
       refine norm_ (a' := ?_) ?_ ?_
       rotate_left
       · simp only [putAll, Act.put, List.setIfInBounds_toArray, List.set_cons_zero, List.set_cons_succ]
         rfl
       refine one_ (i := 10) (N := none) #[true, true, true, true, true, true, true, true, true, true, true, false] rfl rfl (one_of HT_.out (by kernel_rfl)) (by decide) (fun K hK => ?_)
       refine skip_ (w1 := wq.setRow gx #[.string x.f0, .slice A1 x.f1.length c1, .slice A2 x.f2.length c2, .slice A3 x.f3.length c3, .slice A4 x.f4.length c4, .slice A5 x.f5.length c5, .slice A6 x.f6.length c6, .slice A7 x.f7.length c7, .slice A8 x.f8.length c8, .slice A9 x.f9.length c9, .slice A10 x.f10.length c10]) (by rfl) rfl (store_skip rfl gx 37 _ _ rfl rfl BX.out (by kernel_rfl) rfl rfl) ?_
       have n0_ := mk0 (setRow_heap wq gx _ #[.string x.f0, .slice A1 x.f1.length c1, .slice A2 x.f2.length c2, .slice A3 x.f3.length c3, .slice A4 x.f4.length c4, .slice A5 x.f5.length c5, .slice A6 x.f6.length c6, .slice A7 x.f7.length c7, .slice A8 x.f8.length c8, .slice A9 x.f9.length c9, .slice A10 x.f10.length c10] 37 (0, 0) BX.out)
       have n1_ := mk0 ((setRow_other wq gx gy #[.string x.f0, .slice A1 x.f1.length c1, .slice A2 x.f2.length c2, .slice A3 x.f3.length c3, .slice A4 x.f4.length c4, .slice A5 x.f5.length c5, .slice A6 x.f6.length c6, .slice A7 x.f7.length c7, .slice A8 x.f8.length c8, .slice A9 x.f9.length c9, .slice A10 x.f10.length c10] HNE.out.symm).trans BY.out)
       have n2_ := mk0 (below_setRow HBr.out HGX.out #[.string x.f0, .slice A1 x.f1.length c1, .slice A2 x.f2.length c2, .slice A3 x.f3.length c3, .slice A4 x.f4.length c4, .slice A5 x.f5.length c5, .slice A6 x.f6.length c6, .slice A7 x.f7.length c7, .slice A8 x.f8.length c8, .slice A9 x.f9.length c9, .slice A10 x.f10.length c10])
       clear BX BY HBr
       generalize wq.setRow gx #[.string x.f0, .slice A1 x.f1.length c1, .slice A2 x.f2.length c2, .slice A3 x.f3.length c3, .slice A4 x.f4.length c4, .slice A5 x.f5.length c5, .slice A6 x.f6.length c6, .slice A7 x.f7.length c7, .slice A8 x.f8.length c8, .slice A9 x.f9.length c9, .slice A10 x.f10.length c10] = wq at n0_ n1_ n2_ ⊢
       have BX := n0_
       have BY := n1_
       have HBr := n2_
       clear n0_ n1_ n2_
       refine hK.out _ _ ⟨pw_cell_below HBr.out ex0, pw_cell_below HBr.out ex1, pw_cell_below HBr.out ex2, pw_cell_below HBr.out ex3, pw_cell_below HBr.out ex4, pw_cell_below HBr.out ex5, pw_cell_below HBr.out ex6, pw_cell_below HBr.out ex7, pw_cell_below HBr.out ex8, pw_cell_below HBr.out ex9, pw_cell_below HBr.out ex10, pw_cell_below HBr.out ey0, pw_cell_below HBr.out ey1, pw_cell_below HBr.out ey2, pw_cell_below HBr.out ey3, pw_cell_below HBr.out ey4, pw_cell_below HBr.out ey5, pw_cell_below HBr.out ey6, pw_cell_below HBr.out ey7, pw_cell_below HBr.out ey8, pw_cell_below HBr.out ey9, pw_cell_below HBr.out ey10⟩ (fun hHeld => ?_)
       clear hK K
       refine one_ (i := 11) (N := none) #[true, true, true, true, true, true, true, true, true, true, true, true] rfl rfl (one_of HT_.out (by kernel_rfl)) (by decide) (fun K hK => ?_)
       refine skip_ (w1 := wq.setRow gy #[.string y.f0, .slice B1 y.f1.length d1, .slice B2 y.f2.length d2, .slice B3 y.f3.length d3, .slice B4 y.f4.length d4, .slice B5 y.f5.length d5, .slice B6 y.f6.length d6, .slice B7 y.f7.length d7, .slice B8 y.f8.length d8, .slice B9 y.f9.length d9, .slice B10 y.f10.length d10]) (by rfl) rfl (store_skip rfl gy 37 _ _ rfl rfl BY.out (by kernel_rfl) rfl rfl) ?_
       have n0_ := mk0 (setRow_heap wq gy _ #[.string y.f0, .slice B1 y.f1.length d1, .slice B2 y.f2.length d2, .slice B3 y.f3.length d3, .slice B4 y.f4.length d4, .slice B5 y.f5.length d5, .slice B6 y.f6.length d6, .slice B7 y.f7.length d7, .slice B8 y.f8.length d8, .slice B9 y.f9.length d9, .slice B10 y.f10.length d10] 37 (0, 0) BY.out)
       have n1_ := mk0 ((setRow_other wq gy gx #[.string y.f0, .slice B1 y.f1.length d1, .slice B2 y.f2.length d2, .slice B3 y.f3.length d3, .slice B4 y.f4.length d4, .slice B5 y.f5.length d5, .slice B6 y.f6.length d6, .slice B7 y.f7.length d7, .slice B8 y.f8.length d8, .slice B9 y.f9.length d9, .slice B10 y.f10.length d10] HNE.out).trans BX.out)
       have n2_ := mk0 (below_setRow HBr.out HGY.out #[.string y.f0, .slice B1 y.f1.length d1, .slice B2 y.f2.length d2, .slice B3 y.f3.length d3, .slice B4 y.f4.length d4, .slice B5 y.f5.length d5, .slice B6 y.f6.length d6, .slice B7 y.f7.length d7, .slice B8 y.f8.length d8, .slice B9 y.f9.length d9, .slice B10 y.f10.length d10])
       clear BY BX HBr
       generalize wq.setRow gy #[.string y.f0, .slice B1 y.f1.length d1, .slice B2 y.f2.length d2, .slice B3 y.f3.length d3, .slice B4 y.f4.length d4, .slice B5 y.f5.length d5, .slice B6 y.f6.length d6, .slice B7 y.f7.length d7, .slice B8 y.f8.length d8, .slice B9 y.f9.length d9, .slice B10 y.f10.length d10] = wq at n0_ n1_ n2_ ⊢
       have BY := n0_
       have BX := n1_
       have HBr := n2_
       clear n0_ n1_ n2_
       refine hK.out _ _ ⟨pw_cell_below HBr.out ex0, pw_cell_below HBr.out ex1, pw_cell_below HBr.out ex2, pw_cell_below HBr.out ex3, pw_cell_below HBr.out ex4, pw_cell_below HBr.out ex5, pw_cell_below HBr.out ex6, pw_cell_below HBr.out ex7, pw_cell_below HBr.out ex8, pw_cell_below HBr.out ex9, pw_cell_below HBr.out ex10, pw_cell_below HBr.out ey0, pw_cell_below HBr.out ey1, pw_cell_below HBr.out ey2, pw_cell_below HBr.out ey3, pw_cell_below HBr.out ey4, pw_cell_below HBr.out ey5, pw_cell_below HBr.out ey6, pw_cell_below HBr.out ey7, pw_cell_below HBr.out ey8, pw_cell_below HBr.out ey9, pw_cell_below HBr.out ey10⟩ (fun hHeld => ?_)
       clear hK K
       refine done_ (done_of HT_.out (by kernel_rfl)) ?_
       have p0_ : _ = some ((.string x.f0) : Value) := (blk_cell BX.out 0).trans rfl
       have p1_ : _ = some ((.slice A1 x.f1.length c1) : Value) := (blk_cell BX.out 1).trans rfl
       have p2_ : _ = some ((.slice A2 x.f2.length c2) : Value) := (blk_cell BX.out 2).trans rfl
       have p3_ : _ = some ((.slice A3 x.f3.length c3) : Value) := (blk_cell BX.out 3).trans rfl
       have p4_ : _ = some ((.slice A4 x.f4.length c4) : Value) := (blk_cell BX.out 4).trans rfl
       have p5_ : _ = some ((.slice A5 x.f5.length c5) : Value) := (blk_cell BX.out 5).trans rfl
       have p6_ : _ = some ((.slice A6 x.f6.length c6) : Value) := (blk_cell BX.out 6).trans rfl
       have p7_ : _ = some ((.slice A7 x.f7.length c7) : Value) := (blk_cell BX.out 7).trans rfl
       have p8_ : _ = some ((.slice A8 x.f8.length c8) : Value) := (blk_cell BX.out 8).trans rfl
       have p9_ : _ = some ((.slice A9 x.f9.length c9) : Value) := (blk_cell BX.out 9).trans rfl
       have p10_ : _ = some ((.slice A10 x.f10.length c10) : Value) := (blk_cell BX.out 10).trans rfl
       have q0_ : _ = some ((.string y.f0) : Value) := (blk_cell BY.out 0).trans rfl
       have q1_ : _ = some ((.slice B1 y.f1.length d1) : Value) := (blk_cell BY.out 1).trans rfl
       have q2_ : _ = some ((.slice B2 y.f2.length d2) : Value) := (blk_cell BY.out 2).trans rfl
       have q3_ : _ = some ((.slice B3 y.f3.length d3) : Value) := (blk_cell BY.out 3).trans rfl
       have q4_ : _ = some ((.slice B4 y.f4.length d4) : Value) := (blk_cell BY.out 4).trans rfl
       have q5_ : _ = some ((.slice B5 y.f5.length d5) : Value) := (blk_cell BY.out 5).trans rfl
       have q6_ : _ = some ((.slice B6 y.f6.length d6) : Value) := (blk_cell BY.out 6).trans rfl
       have q7_ : _ = some ((.slice B7 y.f7.length d7) : Value) := (blk_cell BY.out 7).trans rfl
       have q8_ : _ = some ((.slice B8 y.f8.length d8) : Value) := (blk_cell BY.out 8).trans rfl
       have q9_ : _ = some ((.slice B9 y.f9.length d9) : Value) := (blk_cell BY.out 9).trans rfl
       have q10_ : _ = some ((.slice B10 y.f10.length d10) : Value) := (blk_cell BY.out 10).trans rfl
       have cx9 := Kd.C_string (P := Try.prog) (c := c9) Try.underlying28 Try.underlying5 Try.underlying9 (Kd.C_below gc9 HBr.out)
       have cy9 := Kd.C_string (P := Try.prog) (c := d9) Try.underlying28 Try.underlying5 Try.underlying9 (Kd.C_below gd9 HBr.out)
       have cx10 := Kd.C_string (P := Try.prog) (c := c10) Try.underlying28 Try.underlying5 Try.underlying9 (Kd.C_below gc10 HBr.out)
       have cy10 := Kd.C_string (P := Try.prog) (c := d10) Try.underlying28 Try.underlying5 Try.underlying9 (Kd.C_below gd10 HBr.out)
       clear ex0 ey0 ex1 ey1 ex2 ey2 ex3 ey3 ex4 ey4 ex5 ey5 ex6 ey6 ex7 ey7 ex8 ey8 ex9 ey9 ex10 ey10
       rcases key with key | key
       · rcases key with ⟨rfl, hR_⟩ | ⟨rfl, rfl, hR_⟩ | ⟨rfl, rfl, rfl, hR_⟩ | ⟨rfl, rfl, rfl, rfl, hR_⟩ | ⟨rfl, rfl, rfl, rfl, rfl, hR_⟩ | ⟨rfl, rfl, rfl, rfl, rfl, rfl, hR_⟩ | ⟨rfl, rfl, rfl, rfl, rfl, rfl, rfl, hR_⟩ | ⟨rfl, rfl, rfl, rfl, rfl, rfl, rfl, rfl, hR_⟩ | ⟨rfl, rfl, rfl, rfl, rfl, rfl, rfl, rfl, rfl, hR_⟩ | ⟨rfl, rfl, rfl, rfl, rfl, rfl, rfl, rfl, rfl, rfl, hR_⟩ | ⟨rfl, rfl, rfl, rfl, rfl, rfl, rfl, rfl, rfl, rfl, rfl, hR_⟩
         all_goals
          as_aux_lemma =>
           have HR_ := mk0 hR_
           clear hR_
           go_wp2_with (first | (go_at_call 34; (with_reducible refine (s1 _ HBr.out).mono ?_); rintro e wq ⟨rfl, hb⟩; have n0_ := mk0 (below_then HBr.out HBr.out.size hb); have n1_ := mk0 (blk_below BX.out hb); have n2_ := mk0 (blk_below BY.out hb); clear HBr BX BY; (try clear p0_ q0_); (try clear p1_ q1_); (try clear p2_ q2_); (try clear p3_ q3_); (try clear p4_ q4_); (try clear p5_ q5_); (try clear p6_ q6_); (try clear p7_ q7_); (try clear p8_ q8_); (try clear p9_ q9_); (try clear p10_ q10_); have HBr := n0_; have BX := n1_; have BY := n2_; clear n0_ n1_ n2_ hb; have p0_ : _ = some ((.string x.f0) : Value) := (blk_cell BX.out 0).trans rfl; have p1_ : _ = some ((.slice A1 x.f1.length c1) : Value) := (blk_cell BX.out 1).trans rfl; have p2_ : _ = some ((.slice A2 x.f2.length c2) : Value) := (blk_cell BX.out 2).trans rfl; have p3_ : _ = some ((.slice A3 x.f3.length c3) : Value) := (blk_cell BX.out 3).trans rfl; have p4_ : _ = some ((.slice A4 x.f4.length c4) : Value) := (blk_cell BX.out 4).trans rfl; have p5_ : _ = some ((.slice A5 x.f5.length c5) : Value) := (blk_cell BX.out 5).trans rfl; have p6_ : _ = some ((.slice A6 x.f6.length c6) : Value) := (blk_cell BX.out 6).trans rfl; have p7_ : _ = some ((.slice A7 x.f7.length c7) : Value) := (blk_cell BX.out 7).trans rfl; have p8_ : _ = some ((.slice A8 x.f8.length c8) : Value) := (blk_cell BX.out 8).trans rfl; have p9_ : _ = some ((.slice A9 x.f9.length c9) : Value) := (blk_cell BX.out 9).trans rfl; have p10_ : _ = some ((.slice A10 x.f10.length c10) : Value) := (blk_cell BX.out 10).trans rfl; have q0_ : _ = some ((.string y.f0) : Value) := (blk_cell BY.out 0).trans rfl; have q1_ : _ = some ((.slice B1 y.f1.length d1) : Value) := (blk_cell BY.out 1).trans rfl; have q2_ : _ = some ((.slice B2 y.f2.length d2) : Value) := (blk_cell BY.out 2).trans rfl; have q3_ : _ = some ((.slice B3 y.f3.length d3) : Value) := (blk_cell BY.out 3).trans rfl; have q4_ : _ = some ((.slice B4 y.f4.length d4) : Value) := (blk_cell BY.out 4).trans rfl; have q5_ : _ = some ((.slice B5 y.f5.length d5) : Value) := (blk_cell BY.out 5).trans rfl; have q6_ : _ = some ((.slice B6 y.f6.length d6) : Value) := (blk_cell BY.out 6).trans rfl; have q7_ : _ = some ((.slice B7 y.f7.length d7) : Value) := (blk_cell BY.out 7).trans rfl; have q8_ : _ = some ((.slice B8 y.f8.length d8) : Value) := (blk_cell BY.out 8).trans rfl; have q9_ : _ = some ((.slice B9 y.f9.length d9) : Value) := (blk_cell BY.out 9).trans rfl; have q10_ : _ = some ((.slice B10 y.f10.length d10) : Value) := (blk_cell BY.out 10).trans rfl) | (go_at_call 34; (with_reducible refine (s5 _ HBr.out).mono ?_); rintro e wq ⟨rfl, hb⟩; have n0_ := mk0 (below_then HBr.out HBr.out.size hb); have n1_ := mk0 (blk_below BX.out hb); have n2_ := mk0 (blk_below BY.out hb); clear HBr BX BY; (try clear p0_ q0_); (try clear p1_ q1_); (try clear p2_ q2_); (try clear p3_ q3_); (try clear p4_ q4_); (try clear p5_ q5_); (try clear p6_ q6_); (try clear p7_ q7_); (try clear p8_ q8_); (try clear p9_ q9_); (try clear p10_ q10_); have HBr := n0_; have BX := n1_; have BY := n2_; clear n0_ n1_ n2_ hb; have p0_ : _ = some ((.string x.f0) : Value) := (blk_cell BX.out 0).trans rfl; have p1_ : _ = some ((.slice A1 x.f1.length c1) : Value) := (blk_cell BX.out 1).trans rfl; have p2_ : _ = some ((.slice A2 x.f2.length c2) : Value) := (blk_cell BX.out 2).trans rfl; have p3_ : _ = some ((.slice A3 x.f3.length c3) : Value) := (blk_cell BX.out 3).trans rfl; have p4_ : _ = some ((.slice A4 x.f4.length c4) : Value) := (blk_cell BX.out 4).trans rfl; have p5_ : _ = some ((.slice A5 x.f5.length c5) : Value) := (blk_cell BX.out 5).trans rfl; have p6_ : _ = some ((.slice A6 x.f6.length c6) : Value) := (blk_cell BX.out 6).trans rfl; have p7_ : _ = some ((.slice A7 x.f7.length c7) : Value) := (blk_cell BX.out 7).trans rfl; have p8_ : _ = some ((.slice A8 x.f8.length c8) : Value) := (blk_cell BX.out 8).trans rfl; have p9_ : _ = some ((.slice A9 x.f9.length c9) : Value) := (blk_cell BX.out 9).trans rfl; have p10_ : _ = some ((.slice A10 x.f10.length c10) : Value) := (blk_cell BX.out 10).trans rfl; have q0_ : _ = some ((.string y.f0) : Value) := (blk_cell BY.out 0).trans rfl; have q1_ : _ = some ((.slice B1 y.f1.length d1) : Value) := (blk_cell BY.out 1).trans rfl; have q2_ : _ = some ((.slice B2 y.f2.length d2) : Value) := (blk_cell BY.out 2).trans rfl; have q3_ : _ = some ((.slice B3 y.f3.length d3) : Value) := (blk_cell BY.out 3).trans rfl; have q4_ : _ = some ((.slice B4 y.f4.length d4) : Value) := (blk_cell BY.out 4).trans rfl; have q5_ : _ = some ((.slice B5 y.f5.length d5) : Value) := (blk_cell BY.out 5).trans rfl; have q6_ : _ = some ((.slice B6 y.f6.length d6) : Value) := (blk_cell BY.out 6).trans rfl; have q7_ : _ = some ((.slice B7 y.f7.length d7) : Value) := (blk_cell BY.out 7).trans rfl; have q8_ : _ = some ((.slice B8 y.f8.length d8) : Value) := (blk_cell BY.out 8).trans rfl; have q9_ : _ = some ((.slice B9 y.f9.length d9) : Value) := (blk_cell BY.out 9).trans rfl; have q10_ : _ = some ((.slice B10 y.f10.length d10) : Value) := (blk_cell BY.out 10).trans rfl) | (go_at_call 33; (with_reducible refine (s3 _ HBr.out).mono ?_); rintro e wq ⟨rfl, hb⟩; have n0_ := mk0 (below_then HBr.out HBr.out.size hb); have n1_ := mk0 (blk_below BX.out hb); have n2_ := mk0 (blk_below BY.out hb); clear HBr BX BY; (try clear p0_ q0_); (try clear p1_ q1_); (try clear p2_ q2_); (try clear p3_ q3_); (try clear p4_ q4_); (try clear p5_ q5_); (try clear p6_ q6_); (try clear p7_ q7_); (try clear p8_ q8_); (try clear p9_ q9_); (try clear p10_ q10_); have HBr := n0_; have BX := n1_; have BY := n2_; clear n0_ n1_ n2_ hb; have p0_ : _ = some ((.string x.f0) : Value) := (blk_cell BX.out 0).trans rfl; have p1_ : _ = some ((.slice A1 x.f1.length c1) : Value) := (blk_cell BX.out 1).trans rfl; have p2_ : _ = some ((.slice A2 x.f2.length c2) : Value) := (blk_cell BX.out 2).trans rfl; have p3_ : _ = some ((.slice A3 x.f3.length c3) : Value) := (blk_cell BX.out 3).trans rfl; have p4_ : _ = some ((.slice A4 x.f4.length c4) : Value) := (blk_cell BX.out 4).trans rfl; have p5_ : _ = some ((.slice A5 x.f5.length c5) : Value) := (blk_cell BX.out 5).trans rfl; have p6_ : _ = some ((.slice A6 x.f6.length c6) : Value) := (blk_cell BX.out 6).trans rfl; have p7_ : _ = some ((.slice A7 x.f7.length c7) : Value) := (blk_cell BX.out 7).trans rfl; have p8_ : _ = some ((.slice A8 x.f8.length c8) : Value) := (blk_cell BX.out 8).trans rfl; have p9_ : _ = some ((.slice A9 x.f9.length c9) : Value) := (blk_cell BX.out 9).trans rfl; have p10_ : _ = some ((.slice A10 x.f10.length c10) : Value) := (blk_cell BX.out 10).trans rfl; have q0_ : _ = some ((.string y.f0) : Value) := (blk_cell BY.out 0).trans rfl; have q1_ : _ = some ((.slice B1 y.f1.length d1) : Value) := (blk_cell BY.out 1).trans rfl; have q2_ : _ = some ((.slice B2 y.f2.length d2) : Value) := (blk_cell BY.out 2).trans rfl; have q3_ : _ = some ((.slice B3 y.f3.length d3) : Value) := (blk_cell BY.out 3).trans rfl; have q4_ : _ = some ((.slice B4 y.f4.length d4) : Value) := (blk_cell BY.out 4).trans rfl; have q5_ : _ = some ((.slice B5 y.f5.length d5) : Value) := (blk_cell BY.out 5).trans rfl; have q6_ : _ = some ((.slice B6 y.f6.length d6) : Value) := (blk_cell BY.out 6).trans rfl; have q7_ : _ = some ((.slice B7 y.f7.length d7) : Value) := (blk_cell BY.out 7).trans rfl; have q8_ : _ = some ((.slice B8 y.f8.length d8) : Value) := (blk_cell BY.out 8).trans rfl; have q9_ : _ = some ((.slice B9 y.f9.length d9) : Value) := (blk_cell BY.out 9).trans rfl; have q10_ : _ = some ((.slice B10 y.f10.length d10) : Value) := (blk_cell BY.out 10).trans rfl) | (go_at_call 32; (with_reducible refine (s2 _ HBr.out).mono ?_); rintro e wq ⟨rfl, hb⟩; have n0_ := mk0 (below_then HBr.out HBr.out.size hb); have n1_ := mk0 (blk_below BX.out hb); have n2_ := mk0 (blk_below BY.out hb); clear HBr BX BY; (try clear p0_ q0_); (try clear p1_ q1_); (try clear p2_ q2_); (try clear p3_ q3_); (try clear p4_ q4_); (try clear p5_ q5_); (try clear p6_ q6_); (try clear p7_ q7_); (try clear p8_ q8_); (try clear p9_ q9_); (try clear p10_ q10_); have HBr := n0_; have BX := n1_; have BY := n2_; clear n0_ n1_ n2_ hb; have p0_ : _ = some ((.string x.f0) : Value) := (blk_cell BX.out 0).trans rfl; have p1_ : _ = some ((.slice A1 x.f1.length c1) : Value) := (blk_cell BX.out 1).trans rfl; have p2_ : _ = some ((.slice A2 x.f2.length c2) : Value) := (blk_cell BX.out 2).trans rfl; have p3_ : _ = some ((.slice A3 x.f3.length c3) : Value) := (blk_cell BX.out 3).trans rfl; have p4_ : _ = some ((.slice A4 x.f4.length c4) : Value) := (blk_cell BX.out 4).trans rfl; have p5_ : _ = some ((.slice A5 x.f5.length c5) : Value) := (blk_cell BX.out 5).trans rfl; have p6_ : _ = some ((.slice A6 x.f6.length c6) : Value) := (blk_cell BX.out 6).trans rfl; have p7_ : _ = some ((.slice A7 x.f7.length c7) : Value) := (blk_cell BX.out 7).trans rfl; have p8_ : _ = some ((.slice A8 x.f8.length c8) : Value) := (blk_cell BX.out 8).trans rfl; have p9_ : _ = some ((.slice A9 x.f9.length c9) : Value) := (blk_cell BX.out 9).trans rfl; have p10_ : _ = some ((.slice A10 x.f10.length c10) : Value) := (blk_cell BX.out 10).trans rfl; have q0_ : _ = some ((.string y.f0) : Value) := (blk_cell BY.out 0).trans rfl; have q1_ : _ = some ((.slice B1 y.f1.length d1) : Value) := (blk_cell BY.out 1).trans rfl; have q2_ : _ = some ((.slice B2 y.f2.length d2) : Value) := (blk_cell BY.out 2).trans rfl; have q3_ : _ = some ((.slice B3 y.f3.length d3) : Value) := (blk_cell BY.out 3).trans rfl; have q4_ : _ = some ((.slice B4 y.f4.length d4) : Value) := (blk_cell BY.out 4).trans rfl; have q5_ : _ = some ((.slice B5 y.f5.length d5) : Value) := (blk_cell BY.out 5).trans rfl; have q6_ : _ = some ((.slice B6 y.f6.length d6) : Value) := (blk_cell BY.out 6).trans rfl; have q7_ : _ = some ((.slice B7 y.f7.length d7) : Value) := (blk_cell BY.out 7).trans rfl; have q8_ : _ = some ((.slice B8 y.f8.length d8) : Value) := (blk_cell BY.out 8).trans rfl; have q9_ : _ = some ((.slice B9 y.f9.length d9) : Value) := (blk_cell BY.out 9).trans rfl; have q10_ : _ = some ((.slice B10 y.f10.length d10) : Value) := (blk_cell BY.out 10).trans rfl))
           go_ret
           exact ⟨by rw [(HNO.out (HR.out.trans HR_.out)).out]; rfl, below_then HB.out HB.out.size HBr.out⟩
       · as_aux_lemma =>
         obtain ⟨rfl, rfl, rfl, rfl, rfl, rfl, rfl, rfl, rfl, rfl, rfl⟩ := key
         have hle := mk0 (EF6.out rfl)
         have E4_ := mk0 (EF4.out rfl)
         have E7_ := mk0 (EF7.out rfl)
         have E8_ := mk0 (EF8.out rfl)
         go_wp2_with (first | (go_at_call 34; (with_reducible refine (s1 _ HBr.out).mono ?_); rintro e wq ⟨rfl, hb⟩; have n0_ := mk0 (below_then HBr.out HBr.out.size hb); have n1_ := mk0 (blk_below BX.out hb); have n2_ := mk0 (blk_below BY.out hb); clear HBr BX BY; (try clear p0_ q0_); (try clear p1_ q1_); (try clear p2_ q2_); (try clear p3_ q3_); (try clear p4_ q4_); (try clear p5_ q5_); (try clear p6_ q6_); (try clear p7_ q7_); (try clear p8_ q8_); (try clear p9_ q9_); (try clear p10_ q10_); have HBr := n0_; have BX := n1_; have BY := n2_; clear n0_ n1_ n2_ hb; have p0_ : _ = some ((.string x.f0) : Value) := (blk_cell BX.out 0).trans rfl; have p1_ : _ = some ((.slice A1 x.f1.length c1) : Value) := (blk_cell BX.out 1).trans rfl; have p2_ : _ = some ((.slice A2 x.f2.length c2) : Value) := (blk_cell BX.out 2).trans rfl; have p3_ : _ = some ((.slice A3 x.f3.length c3) : Value) := (blk_cell BX.out 3).trans rfl; have p4_ : _ = some ((.slice A4 x.f4.length c4) : Value) := (blk_cell BX.out 4).trans rfl; have p5_ : _ = some ((.slice A5 x.f5.length c5) : Value) := (blk_cell BX.out 5).trans rfl; have p6_ : _ = some ((.slice A6 x.f6.length c6) : Value) := (blk_cell BX.out 6).trans rfl; have p7_ : _ = some ((.slice A7 x.f7.length c7) : Value) := (blk_cell BX.out 7).trans rfl; have p8_ : _ = some ((.slice A8 x.f8.length c8) : Value) := (blk_cell BX.out 8).trans rfl; have p9_ : _ = some ((.slice A9 x.f9.length c9) : Value) := (blk_cell BX.out 9).trans rfl; have p10_ : _ = some ((.slice A10 x.f10.length c10) : Value) := (blk_cell BX.out 10).trans rfl; have q0_ : _ = some ((.string y.f0) : Value) := (blk_cell BY.out 0).trans rfl; have q1_ : _ = some ((.slice B1 y.f1.length d1) : Value) := (blk_cell BY.out 1).trans rfl; have q2_ : _ = some ((.slice B2 y.f2.length d2) : Value) := (blk_cell BY.out 2).trans rfl; have q3_ : _ = some ((.slice B3 y.f3.length d3) : Value) := (blk_cell BY.out 3).trans rfl; have q4_ : _ = some ((.slice B4 y.f4.length d4) : Value) := (blk_cell BY.out 4).trans rfl; have q5_ : _ = some ((.slice B5 y.f5.length d5) : Value) := (blk_cell BY.out 5).trans rfl; have q6_ : _ = some ((.slice B6 y.f6.length d6) : Value) := (blk_cell BY.out 6).trans rfl; have q7_ : _ = some ((.slice B7 y.f7.length d7) : Value) := (blk_cell BY.out 7).trans rfl; have q8_ : _ = some ((.slice B8 y.f8.length d8) : Value) := (blk_cell BY.out 8).trans rfl; have q9_ : _ = some ((.slice B9 y.f9.length d9) : Value) := (blk_cell BY.out 9).trans rfl; have q10_ : _ = some ((.slice B10 y.f10.length d10) : Value) := (blk_cell BY.out 10).trans rfl) | (go_at_call 34; (with_reducible refine (s5 _ HBr.out).mono ?_); rintro e wq ⟨rfl, hb⟩; have n0_ := mk0 (below_then HBr.out HBr.out.size hb); have n1_ := mk0 (blk_below BX.out hb); have n2_ := mk0 (blk_below BY.out hb); clear HBr BX BY; (try clear p0_ q0_); (try clear p1_ q1_); (try clear p2_ q2_); (try clear p3_ q3_); (try clear p4_ q4_); (try clear p5_ q5_); (try clear p6_ q6_); (try clear p7_ q7_); (try clear p8_ q8_); (try clear p9_ q9_); (try clear p10_ q10_); have HBr := n0_; have BX := n1_; have BY := n2_; clear n0_ n1_ n2_ hb; have p0_ : _ = some ((.string x.f0) : Value) := (blk_cell BX.out 0).trans rfl; have p1_ : _ = some ((.slice A1 x.f1.length c1) : Value) := (blk_cell BX.out 1).trans rfl; have p2_ : _ = some ((.slice A2 x.f2.length c2) : Value) := (blk_cell BX.out 2).trans rfl; have p3_ : _ = some ((.slice A3 x.f3.length c3) : Value) := (blk_cell BX.out 3).trans rfl; have p4_ : _ = some ((.slice A4 x.f4.length c4) : Value) := (blk_cell BX.out 4).trans rfl; have p5_ : _ = some ((.slice A5 x.f5.length c5) : Value) := (blk_cell BX.out 5).trans rfl; have p6_ : _ = some ((.slice A6 x.f6.length c6) : Value) := (blk_cell BX.out 6).trans rfl; have p7_ : _ = some ((.slice A7 x.f7.length c7) : Value) := (blk_cell BX.out 7).trans rfl; have p8_ : _ = some ((.slice A8 x.f8.length c8) : Value) := (blk_cell BX.out 8).trans rfl; have p9_ : _ = some ((.slice A9 x.f9.length c9) : Value) := (blk_cell BX.out 9).trans rfl; have p10_ : _ = some ((.slice A10 x.f10.length c10) : Value) := (blk_cell BX.out 10).trans rfl; have q0_ : _ = some ((.string y.f0) : Value) := (blk_cell BY.out 0).trans rfl; have q1_ : _ = some ((.slice B1 y.f1.length d1) : Value) := (blk_cell BY.out 1).trans rfl; have q2_ : _ = some ((.slice B2 y.f2.length d2) : Value) := (blk_cell BY.out 2).trans rfl; have q3_ : _ = some ((.slice B3 y.f3.length d3) : Value) := (blk_cell BY.out 3).trans rfl; have q4_ : _ = some ((.slice B4 y.f4.length d4) : Value) := (blk_cell BY.out 4).trans rfl; have q5_ : _ = some ((.slice B5 y.f5.length d5) : Value) := (blk_cell BY.out 5).trans rfl; have q6_ : _ = some ((.slice B6 y.f6.length d6) : Value) := (blk_cell BY.out 6).trans rfl; have q7_ : _ = some ((.slice B7 y.f7.length d7) : Value) := (blk_cell BY.out 7).trans rfl; have q8_ : _ = some ((.slice B8 y.f8.length d8) : Value) := (blk_cell BY.out 8).trans rfl; have q9_ : _ = some ((.slice B9 y.f9.length d9) : Value) := (blk_cell BY.out 9).trans rfl; have q10_ : _ = some ((.slice B10 y.f10.length d10) : Value) := (blk_cell BY.out 10).trans rfl) | (go_at_call 33; (with_reducible refine (s3 _ HBr.out).mono ?_); rintro e wq ⟨rfl, hb⟩; have n0_ := mk0 (below_then HBr.out HBr.out.size hb); have n1_ := mk0 (blk_below BX.out hb); have n2_ := mk0 (blk_below BY.out hb); clear HBr BX BY; (try clear p0_ q0_); (try clear p1_ q1_); (try clear p2_ q2_); (try clear p3_ q3_); (try clear p4_ q4_); (try clear p5_ q5_); (try clear p6_ q6_); (try clear p7_ q7_); (try clear p8_ q8_); (try clear p9_ q9_); (try clear p10_ q10_); have HBr := n0_; have BX := n1_; have BY := n2_; clear n0_ n1_ n2_ hb; have p0_ : _ = some ((.string x.f0) : Value) := (blk_cell BX.out 0).trans rfl; have p1_ : _ = some ((.slice A1 x.f1.length c1) : Value) := (blk_cell BX.out 1).trans rfl; have p2_ : _ = some ((.slice A2 x.f2.length c2) : Value) := (blk_cell BX.out 2).trans rfl; have p3_ : _ = some ((.slice A3 x.f3.length c3) : Value) := (blk_cell BX.out 3).trans rfl; have p4_ : _ = some ((.slice A4 x.f4.length c4) : Value) := (blk_cell BX.out 4).trans rfl; have p5_ : _ = some ((.slice A5 x.f5.length c5) : Value) := (blk_cell BX.out 5).trans rfl; have p6_ : _ = some ((.slice A6 x.f6.length c6) : Value) := (blk_cell BX.out 6).trans rfl; have p7_ : _ = some ((.slice A7 x.f7.length c7) : Value) := (blk_cell BX.out 7).trans rfl; have p8_ : _ = some ((.slice A8 x.f8.length c8) : Value) := (blk_cell BX.out 8).trans rfl; have p9_ : _ = some ((.slice A9 x.f9.length c9) : Value) := (blk_cell BX.out 9).trans rfl; have p10_ : _ = some ((.slice A10 x.f10.length c10) : Value) := (blk_cell BX.out 10).trans rfl; have q0_ : _ = some ((.string y.f0) : Value) := (blk_cell BY.out 0).trans rfl; have q1_ : _ = some ((.slice B1 y.f1.length d1) : Value) := (blk_cell BY.out 1).trans rfl; have q2_ : _ = some ((.slice B2 y.f2.length d2) : Value) := (blk_cell BY.out 2).trans rfl; have q3_ : _ = some ((.slice B3 y.f3.length d3) : Value) := (blk_cell BY.out 3).trans rfl; have q4_ : _ = some ((.slice B4 y.f4.length d4) : Value) := (blk_cell BY.out 4).trans rfl; have q5_ : _ = some ((.slice B5 y.f5.length d5) : Value) := (blk_cell BY.out 5).trans rfl; have q6_ : _ = some ((.slice B6 y.f6.length d6) : Value) := (blk_cell BY.out 6).trans rfl; have q7_ : _ = some ((.slice B7 y.f7.length d7) : Value) := (blk_cell BY.out 7).trans rfl; have q8_ : _ = some ((.slice B8 y.f8.length d8) : Value) := (blk_cell BY.out 8).trans rfl; have q9_ : _ = some ((.slice B9 y.f9.length d9) : Value) := (blk_cell BY.out 9).trans rfl; have q10_ : _ = some ((.slice B10 y.f10.length d10) : Value) := (blk_cell BY.out 10).trans rfl) | (go_at_call 32; (with_reducible refine (s2 _ HBr.out).mono ?_); rintro e wq ⟨rfl, hb⟩; have n0_ := mk0 (below_then HBr.out HBr.out.size hb); have n1_ := mk0 (blk_below BX.out hb); have n2_ := mk0 (blk_below BY.out hb); clear HBr BX BY; (try clear p0_ q0_); (try clear p1_ q1_); (try clear p2_ q2_); (try clear p3_ q3_); (try clear p4_ q4_); (try clear p5_ q5_); (try clear p6_ q6_); (try clear p7_ q7_); (try clear p8_ q8_); (try clear p9_ q9_); (try clear p10_ q10_); have HBr := n0_; have BX := n1_; have BY := n2_; clear n0_ n1_ n2_ hb; have p0_ : _ = some ((.string x.f0) : Value) := (blk_cell BX.out 0).trans rfl; have p1_ : _ = some ((.slice A1 x.f1.length c1) : Value) := (blk_cell BX.out 1).trans rfl; have p2_ : _ = some ((.slice A2 x.f2.length c2) : Value) := (blk_cell BX.out 2).trans rfl; have p3_ : _ = some ((.slice A3 x.f3.length c3) : Value) := (blk_cell BX.out 3).trans rfl; have p4_ : _ = some ((.slice A4 x.f4.length c4) : Value) := (blk_cell BX.out 4).trans rfl; have p5_ : _ = some ((.slice A5 x.f5.length c5) : Value) := (blk_cell BX.out 5).trans rfl; have p6_ : _ = some ((.slice A6 x.f6.length c6) : Value) := (blk_cell BX.out 6).trans rfl; have p7_ : _ = some ((.slice A7 x.f7.length c7) : Value) := (blk_cell BX.out 7).trans rfl; have p8_ : _ = some ((.slice A8 x.f8.length c8) : Value) := (blk_cell BX.out 8).trans rfl; have p9_ : _ = some ((.slice A9 x.f9.length c9) : Value) := (blk_cell BX.out 9).trans rfl; have p10_ : _ = some ((.slice A10 x.f10.length c10) : Value) := (blk_cell BX.out 10).trans rfl; have q0_ : _ = some ((.string y.f0) : Value) := (blk_cell BY.out 0).trans rfl; have q1_ : _ = some ((.slice B1 y.f1.length d1) : Value) := (blk_cell BY.out 1).trans rfl; have q2_ : _ = some ((.slice B2 y.f2.length d2) : Value) := (blk_cell BY.out 2).trans rfl; have q3_ : _ = some ((.slice B3 y.f3.length d3) : Value) := (blk_cell BY.out 3).trans rfl; have q4_ : _ = some ((.slice B4 y.f4.length d4) : Value) := (blk_cell BY.out 4).trans rfl; have q5_ : _ = some ((.slice B5 y.f5.length d5) : Value) := (blk_cell BY.out 5).trans rfl; have q6_ : _ = some ((.slice B6 y.f6.length d6) : Value) := (blk_cell BY.out 6).trans rfl; have q7_ : _ = some ((.slice B7 y.f7.length d7) : Value) := (blk_cell BY.out 7).trans rfl; have q8_ : _ = some ((.slice B8 y.f8.length d8) : Value) := (blk_cell BY.out 8).trans rfl; have q9_ : _ = some ((.slice B9 y.f9.length d9) : Value) := (blk_cell BY.out 9).trans rfl; have q10_ : _ = some ((.slice B10 y.f10.length d10) : Value) := (blk_cell BY.out 10).trans rfl))
         obtain ⟨wo, hwo_⟩ : ∃ q : World, q = wr := ⟨_, rfl⟩
         subst hwo_
         have HI1 := HI
         have hwp1 := hwp
         have HB1 := HB
         have HL2 := mk0 (show x.f6.length ≤ 9223372036854775807 from HGX2.out.1)
         clear HI hwp HB s1 s5 s3 s2
         go_loopg [121] x.f6.length (fun kq v121 w' => ∃ k : Nat, v121 = .int .i64 (k : Int) ∧ Aside0 (k + kq = x.f6.length) ∧ Aside0 (Below wo.heap.size wo w') ∧ Aside0 (x.f6.take k = y.f6.take k) ∧ Aside0 (w'.heap[gx]? = some (.cells #[.string x.f0, .slice A1 x.f1.length c1, .slice A2 x.f2.length c2, .slice A3 x.f3.length c3, .slice A4 x.f4.length c4, .slice A5 x.f5.length c5, .slice A6 x.f6.length c6, .slice A7 x.f7.length c7, .slice A8 x.f8.length c8, .slice A9 x.f9.length c9, .slice A10 x.f10.length c10] 37 (0, 0))) ∧ Aside0 (w'.heap[gy]? = some (.cells #[.string y.f0, .slice B1 y.f1.length d1, .slice B2 y.f2.length d2, .slice B3 y.f3.length d3, .slice B4 y.f4.length d4, .slice B5 y.f5.length d5, .slice B6 y.f6.length d6, .slice B7 y.f7.length d7, .slice B8 y.f8.length d8, .slice B9 y.f9.length d9, .slice B10 y.f10.length d10] 37 (0, 0))))
         case atStart => exact ⟨0, rfl, ⟨by omega⟩, ⟨HBr.out⟩, ⟨by simp⟩, ⟨BX.out⟩, ⟨BY.out⟩⟩
         case round =>
          clear HBr BX BY p0_ q0_ p1_ q1_ p2_ q2_ p3_ q3_ p4_ q4_ p5_ q5_ p6_ q6_ p7_ q7_ p8_ q8_ p9_ q9_ p10_ q10_
          obtain ⟨k, rfl, HI2, HBi, HT2, BX, BY⟩ := hrel
          by_cases hlt2 : k < x.f6.length
          · have hlb2 : k < y.f6.length := by have := hle.out; omega
            have hwp := mk0 (wrap_le k x.f6.length hlt2 HL2.out)
            have dd1_ := dec_lt hlt2
            have p1 : (0 ≤ (k : Int)) = True := eq_true (Int.natCast_nonneg k)
            have q2 : ((k : Int) < (x.f6.length : Int)) = True := eq_true (Int.ofNat_lt.2 hlt2)
            have q3 : ((k : Int) < (y.f6.length : Int)) = True := eq_true (Int.ofNat_lt.2 hlb2)
            obtain ⟨u, hu⟩ : ∃ u, x.f6.getD k z86 = u := ⟨_, rfl⟩
            obtain ⟨v, hv⟩ : ∃ v, y.f6.getD k z86 = v := ⟨_, rfl⟩
            have gu_ := HGX2.out.2 u (by rw [← hu]; simp [hlt2])
            have gv_ := HGY2.out.2 v (by rw [← hv]; simp [hlb2])
            have hok : eqB u v = true → Aside0 (x.f6.take (k + 1) = y.f6.take (k + 1)) := fun h => ⟨take_eq z86 x.f6 y.f6 hle.out k hlt2 HT2.out (by rw [hu, hv, eqB_of h])⟩
            have hno : eqB u v = false → Aside0 (eqB (bl x) (bl y) = false) := fun h => ⟨bl_no (fun z : S37 => z.f6) (fun z : S37 => z.f6) (fun z => by rw [bl_eq]) (take_ne z86 x.f6 y.f6 k (by rw [hu, hv]; intro e; rw [eqB_t e] at h; cases h))⟩
            have hCu := Kd.C_below gc6 HBi.out
            have hCv := Kd.C_below gd6 HBi.out
            have p6_ : _ = some ((.slice A6 x.f6.length c6) : Value) := (blk_cell BX.out 6).trans rfl
            have q6_ : _ = some ((.slice B6 y.f6.length d6) : Value) := (blk_cell BY.out 6).trans rfl
            have hxe := hu
            obtain ⟨ud, cc, ea, _, hKx, hcc⟩ := Kd.C_get hCu z86 (k : Int) (Int.natCast_nonneg _) (Int.ofNat_lt.2 hlt2)
            rw [Int.toNat_natCast] at hKx hcc
            rw [hxe] at hKx
            obtain ⟨E1, m1, E2, m2, ecc, lm1, gm1, lm2, gm2⟩ := k86_open hKx
            subst ecc
            have eu0 : wr.cell? (ud.add (k * 3)) = some (.string u.f0) := by have := hcc 0 _ rfl; rwa [show k * k86.sz + 0 = k * 3 from rfl] at this
            have eu1 : wr.cell? ⟨(ud.add (k * 3)).block, (ud.add (k * 3)).off + 1, none⟩ = some (.slice E1 u.f1.length m1) := by have := hcc 1 _ rfl; rw [show k * k86.sz + 1 = k * 3 + 1 from rfl] at this; rw [← add_field _ _ 1 (by omega)]; exact this
            have eu2 : wr.cell? ⟨(ud.add (k * 3)).block, (ud.add (k * 3)).off + 2, none⟩ = some (.slice E2 u.f2.length m2) := by have := hcc 2 _ rfl; rw [show k * k86.sz + 2 = k * 3 + 2 from rfl] at this; rw [← add_field _ _ 2 (by omega)]; exact this
            subst ea
            clear hcc hKx hxe
            have hxe := hv
            obtain ⟨vd, cc, ea, _, hKx, hcc⟩ := Kd.C_get hCv z86 (k : Int) (Int.natCast_nonneg _) (Int.ofNat_lt.2 hlb2)
            rw [Int.toNat_natCast] at hKx hcc
            rw [hxe] at hKx
            obtain ⟨G1, o1, G2, o2, ecc, lo1, go1, lo2, go2⟩ := k86_open hKx
            subst ecc
            have ev0 : wr.cell? (vd.add (k * 3)) = some (.string v.f0) := by have := hcc 0 _ rfl; rwa [show k * k86.sz + 0 = k * 3 from rfl] at this
            have ev1 : wr.cell? ⟨(vd.add (k * 3)).block, (vd.add (k * 3)).off + 1, none⟩ = some (.slice G1 v.f1.length o1) := by have := hcc 1 _ rfl; rw [show k * k86.sz + 1 = k * 3 + 1 from rfl] at this; rw [← add_field _ _ 1 (by omega)]; exact this
            have ev2 : wr.cell? ⟨(vd.add (k * 3)).block, (vd.add (k * 3)).off + 2, none⟩ = some (.slice G2 v.f2.length o2) := by have := hcc 2 _ rfl; rw [show k * k86.sz + 2 = k * 3 + 2 from rfl] at this; rw [← add_field _ _ 2 (by omega)]; exact this
            subst ea
            clear hcc hKx hxe
            clear hu hv
            obtain ⟨f0, h0⟩ : ∃ b, eqB u.f0 v.f0 = b := ⟨_, rfl⟩
            have si0 := str_eqB u.f0 v.f0
            have ti0 := str_ne u.f0 v.f0
            rw [h0] at si0 ti0
            have J0 := mk0 h0
            clear h0
            obtain ⟨f1, h1⟩ : ∃ b, eqB u.f1 v.f1 = b := ⟨_, rfl⟩
            have si1 := strOf_eqB (bytes_of_wf gu_.2.1.2) (bytes_of_wf gv_.2.1.2)
            have ti1 := strOf_ne (bytes_of_wf gu_.2.1.2) (bytes_of_wf gv_.2.1.2)
            rw [h1] at si1 ti1
            have J1 := mk0 h1
            clear h1
            obtain ⟨f2, h2⟩ : ∃ b, eqB u.f2 v.f2 = b := ⟨_, rfl⟩
            have si2 := strOf_eqB (bytes_of_wf gu_.2.2.2) (bytes_of_wf gv_.2.2.2)
            have ti2 := strOf_ne (bytes_of_wf gu_.2.2.2) (bytes_of_wf gv_.2.2.2)
            rw [h2] at si2 ti2
            have J2 := mk0 h2
            clear h2
            have cu1 := fun (nd_ : Nat) => Kd.C_string (P := Try.prog) (c := m1) Try.underlying28 Try.underlying5 Try.underlying9 (Kd.C_drewN gm1 nd_)
            have cu2 := fun (nd_ : Nat) => Kd.C_string (P := Try.prog) (c := m2) Try.underlying28 Try.underlying5 Try.underlying9 (Kd.C_drewN gm2 nd_)
            have cv1 := fun (nd_ : Nat) => Kd.C_string (P := Try.prog) (c := o1) Try.underlying28 Try.underlying5 Try.underlying9 (Kd.C_drewN go1 nd_)
            have cv2 := fun (nd_ : Nat) => Kd.C_string (P := Try.prog) (c := o2) Try.underlying28 Try.underlying5 Try.underlying9 (Kd.C_drewN go2 nd_)
            clear gu_ gv_
            have HOK2 := mk0 hok
            have HNO2 := mk0 hno
            clear hok hno
            obtain ⟨R2, hR2⟩ : ∃ r, (eqB u v = r) := ⟨_, rfl⟩
            have HR2 := mk0 hR2
            clear hR2
            have key : ((f0 = false ∧ R2 = false) ∨ (f0 = true ∧ f1 = false ∧ R2 = false) ∨ (f0 = true ∧ f1 = true ∧ f2 = false ∧ R2 = false)) ∨ (f0 = true ∧ f1 = true ∧ f2 = true ∧ R2 = true) := by
             rw [← HR2.out]
             cases f0
             · exact .inl (.inl ⟨rfl, eqB_field (fun z : S86 => z.f0) J0.out⟩)
             cases f1
             · exact .inl (.inr (.inl ⟨rfl, rfl, eqB_field (fun z : S86 => z.f1) J1.out⟩))
             cases f2
             · exact .inl (.inr (.inr (⟨rfl, rfl, rfl, eqB_field (fun z : S86 => z.f2) J2.out⟩)))
             exact .inr ⟨rfl, rfl, rfl, eqB_t (xt_Oneof u v (eqB_of J0.out) (eqB_of J1.out) (eqB_of J2.out))⟩
            cases gk with
            | zero => exact absurd HI2.out (fun h => Nat.ne_of_lt hlt2 h)
            | succ k2 =>
             rcases key with key | key
             · rcases key with ⟨rfl, hR_⟩ | ⟨rfl, rfl, hR_⟩ | ⟨rfl, rfl, rfl, hR_⟩
               all_goals
                as_aux_lemma =>
                 have HR_ := mk0 hR_
                 clear hR_
                 go_wp2
                 go_quiet (fail)
                 go_wp2
                 go_ret
                 exact ⟨by rw [(HNO.out (HNO2.out (HR2.out.trans HR_.out)).out).out]; rfl, (by apply pw_below_drewN; exact below_then HB1.out HB1.out.size HBi.out)⟩
             · as_aux_lemma =>
               obtain ⟨rfl, rfl, rfl, hR_⟩ := key
               have HR_ := mk0 hR_
               clear hR_
               have hwp2 := hwp.out
               go_wp2
               go_quiet (fail)
               go_wp2
               go_roundg k2
               case measure => exact Nat.lt_succ_self k2
               case rel => exact ⟨k + 1, (by first | rfl | (rw [hwp2]) | (simp [hwp2]; done)), ⟨(Nat.add_right_comm k 1 k2).trans HI2.out⟩, ⟨by apply pw_below_drewN; exact HBi.out⟩, HOK2.out (HR2.out.trans HR_.out), ⟨blk_drewN BX.out _⟩, ⟨blk_drewN BY.out _⟩⟩
          · as_aux_lemma =>
            have dd1_ := dec_ge hlt2
            have HE2 := mk0 (eqB_of (take_all x.f6 y.f6 hle.out k hlt2 HT2.out))
            have HXY := mk0 (eqB_t (bl_ext x y (eqB_of H0.out) (eqB_of H1.out) (eqB_of H2.out) (eqB_of H3.out) E4_.out (eqB_of H5.out) HE2.out E7_.out E8_.out (eqB_of H9.out) (eqB_of H10.out)))
            have hwp2 := hwp1.out
            go_wp2
            go_roundg k1
            case measure => exact Nat.lt_succ_self k1
            case rel => exact ⟨i + 1, (by first | rfl | (rw [hwp2]) | (simp [hwp2]; done)), ⟨(Nat.add_right_comm i 1 k1).trans HI1.out⟩, ⟨below_then HB1.out HB1.out.size HBi.out⟩, HOK.out HXY.out⟩
    · have d0 := dec_ge hlt
      have HE := mk0 (take_all (a.map bl) (b.map bl) (by rw [List.length_map, List.length_map]; exact HL.out) i (by rw [List.length_map]; exact hlt) HT.out)
      go_wp2
      go_ret
      exact ⟨by rw [HE.out]; rfl, HB.out⟩
 · have hn := len_bne hl
   have HE := mk0 (len_ne (a.map bl) (b.map bl) (by rw [List.length_map, List.length_map]; exact hl))
   clear hl
   go_enter Try.func32, Try.ntmps32
   go_wp2
   go_ret
   exact ⟨by rw [HE.out]; rfl, HB0.out⟩
theorem sms_all : ∀ x : S37, SMs x := by
 refine S37.ind fun x ih g b hgb A0 B0 ca cb w CA CB => ?_
 rw [good37] at g
 exact sameMessages1_c x.f2 b g.2.2.1.2 hgb ih (by have := g.2.2.1.1; unfold maxLen at this; exact this) A0 B0 ca cb w CA CB
theorem sameMessages_c (a b : List S37) (hga : ∀ y ∈ a, good37 y) (hgb : ∀ y ∈ b, good37 y) (hla : a.length ≤ 9223372036854775807) (A0 B0 : Option Addr) (ca cb : Nat) (w : World) (CA : Kd.C k37 w A0 a.length a) (CB : Kd.C k37 w B0 b.length b) :
 Calls Try.prog 32 #[.slice A0 a.length ca, .slice B0 b.length cb] w fun e w' => Eq_ (eqB (a.map bl) (b.map bl)) w e w' := sameMessages1_c a b hga hgb (fun y _ => sms_all y) hla A0 B0 ca cb w CA CB
end Go.Proofs.Yticnihfjnjliiaa.R1
