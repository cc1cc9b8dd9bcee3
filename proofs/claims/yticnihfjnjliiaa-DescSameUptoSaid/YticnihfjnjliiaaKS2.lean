/- Enums that are alike, by the reference. -/
import Derived.Test.YticnihfjnjliiaaKS1
import Derived.LoopN
import Derived.RegionTactic
namespace Go.Proofs.Yticnihfjnjliiaa.R1
open Go.RowKit Go.Proofs.Yticnihfjnjliiaa.GDescGrows Go.Proofs.YticnihfjnjliiaaW.PrintWords Go.Proofs.YticnihfjnjliiaaW.PrintLast Go.Proofs.YticnihfjnjliiaaW.PrintMore Go.Proofs.Yticnihfjnjliiaa.Vb Go.Proofs.Yticnihfjnjliiaa.Wr Go.Proofs.Yticnihfjnjliiaa.Wp Go.Proofs.Yticnihfjnjliiaa.Rk Go.Proofs.Yticnihfjnjliiaa.Sp Go.Proofs.Yticnihfjnjliiaa.E1
set_option linter.unusedVariables false
set_option linter.unusedSimpArgs false
theorem xt_Enum (x y : S60) (h0 : x.f0 = y.f0) (h1 : x.f1 = y.f1) (h2 : x.f2 = y.f2) (h3 : x.f3 = y.f3) : x = y := by
 cases x; cases y
 dsimp only at h0 h1 h2 h3
 subst h0 h1 h2 h3
 rfl
theorem xt_Value (x y : S93) (h0 : x.f0 = y.f0) (h1 : x.f1 = y.f1) (h2 : x.f2 = y.f2) (h3 : x.f3 = y.f3) : x = y := by
 cases x; cases y
 dsimp only at h0 h1 h2 h3
 subst h0 h1 h2 h3
 rfl
def sameEnums_t.T11 : Bool × List (List Nat × List Nat) := (true, [([], []), ([], []), ([0, 1], [0, 1]), ([2], [2]), ([3], [3]), ([], []), ([4, 5], [4, 5]), ([6], [6]), ([], []), ([], []), ([8, 9], [8, 9]), ([10], [10]), ([11], [11]), ([], []), ([12, 13], [12, 13]), ([14], [14]), ([], []), ([], []), ([16, 7, 0, 1, 2, 3, 4, 5, 6, 7, 16, 17], [7, 16]), ([17, 15, 18, 0, 1, 2, 3, 4, 5, 6, 7, 8, 9, 10, 11, 12, 13, 14, 15, 16, 17, 18], [15, 17])])
def sameEnums_t.B11 : List Nat := [0, 0, 3, 7, 15, 0, 63, 127, 0, 0, 768, 1792, 3840, 0, 16128, 32512, 0, 0, 196863, 524287]
theorem sameEnums_t.tab11 : rtab .any (opsOf Try.f33 11) = sameEnums_t.T11 := by kernel_rfl
theorem sameEnums_t.bits11 : waitsOk sameEnums_t.T11.2 sameEnums_t.B11 = true := by kernel_rfl
set_option maxHeartbeats 8000000 in
set_option maxRecDepth 100000 in
theorem sameEnums_c (a b : List S60) (hga : ∀ y ∈ a, good60 y) (hgb : ∀ y ∈ b, good60 y) (hla : a.length ≤ 9223372036854775807) (A0 B0 : Option Addr) (ca cb : Nat) (w : World) (CA : Kd.C k60 w A0 a.length a) (CB : Kd.C k60 w B0 b.length b) :
 Calls Try.prog 33 #[.slice A0 a.length ca, .slice B0 b.length cb] w fun e w' => Eq_ (eqB a b) w e w' := by
 have HB0 := mk0 (Below.refl w.heap.size w)
 have HA := mk0 CA
 have HC := mk0 CB
 by_cases hl : a.length = b.length
 · have HL := mk0 hl
   have hn := len_beq hl
   clear hl
   go_enter Try.func33, Try.ntmps33
   go_wp2
   go_loopg [16] a.length (fun kq v16 w' => ∃ i : Nat, v16 = .int .i64 (i : Int) ∧ Aside0 (i + kq = a.length) ∧ Aside0 (Below w.heap.size w w') ∧ Aside0 (a.take i = b.take i))
   case atStart =>
    exact ⟨0, rfl, ⟨by omega⟩, ⟨HB0.out⟩, ⟨by simp⟩⟩
   case round =>
    obtain ⟨i, rfl, HI, HB, HT⟩ := hrel
    by_cases hlt : i < a.length
    · have hlb : i < b.length := by have := HL.out; omega
      have d0 := dec_lt hlt
      have p0 : (0 ≤ (i : Int)) = True := eq_true (Int.natCast_nonneg i)
      have q0 : ((i : Int) < (a.length : Int)) = True := eq_true (Int.ofNat_lt.2 hlt)
      have q1 : ((i : Int) < (b.length : Int)) = True := eq_true (Int.ofNat_lt.2 hlb)
      obtain ⟨x, hx⟩ : ∃ x, a.getD i z60 = x := ⟨_, rfl⟩
      obtain ⟨y, hy⟩ : ∃ y, b.getD i z60 = y := ⟨_, rfl⟩
      have gx_ := hga x (by rw [← hx]; simp [hlt])
      have gy_ := hgb y (by rw [← hy]; simp [hlb])
      have hok : eqB x y = true → Aside0 (a.take (i + 1) = b.take (i + 1)) := fun h => ⟨take_eq z60 a b HL.out i hlt HT.out (by rw [hx, hy, eqB_of h])⟩
      have hno : eqB x y = false → Aside0 (eqB a b = false) := fun h => ⟨take_ne z60 a b i (by rw [hx, hy]; intro e; rw [eqB_t e] at h; cases h)⟩
      have hwp := mk0 (wrap_le i a.length hlt hla)
      have HLA := mk0 hla
      clear hla
      have hCa := Kd.C_below HA.out HB.out
      have hCb := Kd.C_below HC.out HB.out
      have hxe := hx
      obtain ⟨ad, cc, ea, _, hKx, hcc⟩ := Kd.C_get hCa z60 (i : Int) (Int.natCast_nonneg _) (Int.ofNat_lt.2 hlt)
      rw [Int.toNat_natCast] at hKx hcc
      rw [hxe] at hKx
      obtain ⟨A1, c1, A2, c2, A3, c3, ecc, lc1, gc1, lc2, gc2, lc3, gc3⟩ := k60_open hKx
      subst ecc
      have ex0 : wr.cell? (ad.add (i * 4)) = some (.string x.f0) := by have := hcc 0 _ rfl; rwa [show i * k60.sz + 0 = i * 4 from rfl] at this
      have ex1 : wr.cell? ⟨(ad.add (i * 4)).block, (ad.add (i * 4)).off + 1, none⟩ = some (.slice A1 x.f1.length c1) := by have := hcc 1 _ rfl; rw [show i * k60.sz + 1 = i * 4 + 1 from rfl] at this; rw [← add_field _ _ 1 (by omega)]; exact this
      have ex2 : wr.cell? ⟨(ad.add (i * 4)).block, (ad.add (i * 4)).off + 2, none⟩ = some (.slice A2 x.f2.length c2) := by have := hcc 2 _ rfl; rw [show i * k60.sz + 2 = i * 4 + 2 from rfl] at this; rw [← add_field _ _ 2 (by omega)]; exact this
      have ex3 : wr.cell? ⟨(ad.add (i * 4)).block, (ad.add (i * 4)).off + 3, none⟩ = some (.slice A3 x.f3.length c3) := by have := hcc 3 _ rfl; rw [show i * k60.sz + 3 = i * 4 + 3 from rfl] at this; rw [← add_field _ _ 3 (by omega)]; exact this
      subst ea
      clear hcc hKx hxe
      have hxe := hy
      obtain ⟨bd, cc, ea, _, hKx, hcc⟩ := Kd.C_get hCb z60 (i : Int) (Int.natCast_nonneg _) (Int.ofNat_lt.2 hlb)
      rw [Int.toNat_natCast] at hKx hcc
      rw [hxe] at hKx
      obtain ⟨B1, d1, B2, d2, B3, d3, ecc, ld1, gd1, ld2, gd2, ld3, gd3⟩ := k60_open hKx
      subst ecc
      have ey0 : wr.cell? (bd.add (i * 4)) = some (.string y.f0) := by have := hcc 0 _ rfl; rwa [show i * k60.sz + 0 = i * 4 from rfl] at this
      have ey1 : wr.cell? ⟨(bd.add (i * 4)).block, (bd.add (i * 4)).off + 1, none⟩ = some (.slice B1 y.f1.length d1) := by have := hcc 1 _ rfl; rw [show i * k60.sz + 1 = i * 4 + 1 from rfl] at this; rw [← add_field _ _ 1 (by omega)]; exact this
      have ey2 : wr.cell? ⟨(bd.add (i * 4)).block, (bd.add (i * 4)).off + 2, none⟩ = some (.slice B2 y.f2.length d2) := by have := hcc 2 _ rfl; rw [show i * k60.sz + 2 = i * 4 + 2 from rfl] at this; rw [← add_field _ _ 2 (by omega)]; exact this
      have ey3 : wr.cell? ⟨(bd.add (i * 4)).block, (bd.add (i * 4)).off + 3, none⟩ = some (.slice B3 y.f3.length d3) := by have := hcc 3 _ rfl; rw [show i * k60.sz + 3 = i * 4 + 3 from rfl] at this; rw [← add_field _ _ 3 (by omega)]; exact this
      subst ea
      clear hcc hKx hxe
      clear CA CB hx hy
      obtain ⟨b0, h0⟩ : ∃ b, eqB x.f0 y.f0 = b := ⟨_, rfl⟩
      have s0 := str_eqB x.f0 y.f0
      have t0 := str_ne x.f0 y.f0
      rw [h0] at s0 t0
      have H0 := mk0 h0
      clear h0
      obtain ⟨b2, h2⟩ : ∃ b, eqB x.f2 y.f2 = b := ⟨_, rfl⟩
      have s2 := strOf_eqB (bytes_of_wf gx_.2.2.1.2) (bytes_of_wf gy_.2.2.1.2)
      have t2 := strOf_ne (bytes_of_wf gx_.2.2.1.2) (bytes_of_wf gy_.2.2.1.2)
      rw [h2] at s2 t2
      have H2 := mk0 h2
      clear h2
      obtain ⟨b3, h3⟩ : ∃ b, eqB x.f3 y.f3 = b := ⟨_, rfl⟩
      have s3 := strOf_eqB (bytes_of_wf gx_.2.2.2.2) (bytes_of_wf gy_.2.2.2.2)
      have t3 := strOf_ne (bytes_of_wf gx_.2.2.2.2) (bytes_of_wf gy_.2.2.2.2)
      rw [h3] at s3 t3
      have H3 := mk0 h3
      clear h3
      have HGX2 := mk0 gx_.2.1
      have HGY2 := mk0 gy_.2.1
      clear gx_ gy_
      have cx2 := fun (nd_ : Nat) => Kd.C_string (P := Try.prog) (c := c2) Try.underlying28 Try.underlying5 Try.underlying9 (Kd.C_drewN gc2 nd_)
      have cx3 := fun (nd_ : Nat) => Kd.C_string (P := Try.prog) (c := c3) Try.underlying28 Try.underlying5 Try.underlying9 (Kd.C_drewN gc3 nd_)
      have cy2 := fun (nd_ : Nat) => Kd.C_string (P := Try.prog) (c := d2) Try.underlying28 Try.underlying5 Try.underlying9 (Kd.C_drewN gd2 nd_)
      have cy3 := fun (nd_ : Nat) => Kd.C_string (P := Try.prog) (c := d3) Try.underlying28 Try.underlying5 Try.underlying9 (Kd.C_drewN gd3 nd_)
      have HOK := mk0 hok
      have HNO := mk0 hno
      clear hok hno
      obtain ⟨bl, hbl⟩ : ∃ b, ((x.f1.length : Int) != (y.f1.length : Int)) = b := ⟨_, rfl⟩
      have HBL := mk0 hbl
      obtain ⟨R, hR⟩ : ∃ r, (eqB x y = r) := ⟨_, rfl⟩
      have HR := mk0 hR
      clear hR
      have key : ((b0 = false ∧ R = false) ∨ (b0 = true ∧ b2 = false ∧ R = false) ∨ (b0 = true ∧ b2 = true ∧ b3 = false ∧ R = false) ∨ (b0 = true ∧ b2 = true ∧ b3 = true ∧ bl = true ∧ R = false)) ∨ (b0 = true ∧ b2 = true ∧ b3 = true ∧ bl = false) := by
       rw [← HR.out]
       cases b0
       · exact .inl (.inl ⟨rfl, eqB_field (fun z : S60 => z.f0) H0.out⟩)
       cases b2
       · exact .inl (.inr (.inl ⟨rfl, rfl, eqB_field (fun z : S60 => z.f2) H2.out⟩))
       cases b3
       · exact .inl (.inr (.inr (.inl ⟨rfl, rfl, rfl, eqB_field (fun z : S60 => z.f3) H3.out⟩)))
       cases bl
       · exact .inr ⟨rfl, rfl, rfl, rfl⟩
       · exact .inl (.inr (.inr (.inr (⟨rfl, rfl, rfl, rfl, eqB_f (fun e => by rw [e] at hbl; simp at hbl)⟩))))
      cases gk with
      | zero => exact absurd HI.out (fun h => Nat.ne_of_lt hlt h)
      | succ k1 =>
       rcases key with key | key
       · rcases key with ⟨rfl, hR_⟩ | ⟨rfl, rfl, hR_⟩ | ⟨rfl, rfl, rfl, hR_⟩ | ⟨rfl, rfl, rfl, rfl, hR_⟩
         all_goals
          have HR_ := mk0 hR_
          clear hR_
          go_wp2
          go_quiet (fail)
          go_wp2
          go_ret
          exact ⟨by rw [(HNO.out (HR.out.trans HR_.out)).out]; rfl, by apply pw_below_drewN; exact HB.out⟩
       · obtain ⟨rfl, rfl, rfl, rfl⟩ := key
         have hle := mk0 (show x.f1.length = y.f1.length from by have h := HBL.out; have h2 := bne_eq_false_iff_eq.mp h; omega)
         go_wp2
         go_quiet (fail)
         go_wp2
         obtain ⟨wo, hwo_⟩ : ∃ q : World, q = wr := ⟨_, rfl⟩
         subst hwo_
         have HI1 := HI
         have hwp1 := hwp
         have HB1 := HB
         have HL2 := mk0 (show x.f1.length ≤ 9223372036854775807 from HGX2.out.1)
         clear HI hwp HB
         go_loopg [81] x.f1.length (fun kq v81 w' => ∃ k : Nat, v81 = .int .i64 (k : Int) ∧ Aside0 (k + kq = x.f1.length) ∧ Aside0 (Below wo.heap.size wo w') ∧ Aside0 (x.f1.take k = y.f1.take k))
         case atStart => exact ⟨0, rfl, ⟨by omega⟩, ⟨by apply pw_below_drewN; exact Below.refl _ _⟩, ⟨by simp⟩⟩
         case round =>
          obtain ⟨k, rfl, HI2, HBi, HT2⟩ := hrel
          by_cases hlt2 : k < x.f1.length
          · have hlb2 : k < y.f1.length := by have := hle.out; omega
            have hwp := mk0 (wrap_le k x.f1.length hlt2 HL2.out)
            have dd1_ := dec_lt hlt2
            have p1 : (0 ≤ (k : Int)) = True := eq_true (Int.natCast_nonneg k)
            have q2 : ((k : Int) < (x.f1.length : Int)) = True := eq_true (Int.ofNat_lt.2 hlt2)
            have q3 : ((k : Int) < (y.f1.length : Int)) = True := eq_true (Int.ofNat_lt.2 hlb2)
            obtain ⟨u, hu⟩ : ∃ u, x.f1.getD k z93 = u := ⟨_, rfl⟩
            obtain ⟨v, hv⟩ : ∃ v, y.f1.getD k z93 = v := ⟨_, rfl⟩
            have gu_ := HGX2.out.2 u (by rw [← hu]; simp [hlt2])
            have gv_ := HGY2.out.2 v (by rw [← hv]; simp [hlb2])
            have hok : eqB u v = true → Aside0 (x.f1.take (k + 1) = y.f1.take (k + 1)) := fun h => ⟨take_eq z93 x.f1 y.f1 hle.out k hlt2 HT2.out (by rw [hu, hv, eqB_of h])⟩
            have hno : eqB u v = false → Aside0 (eqB x y = false) := fun h => ⟨eqB_field (fun z : S60 => z.f1) (take_ne z93 x.f1 y.f1 k (by rw [hu, hv]; intro e; rw [eqB_t e] at h; cases h))⟩
            have hCu := Kd.C_below gc1 HBi.out
            have hCv := Kd.C_below gd1 HBi.out
            have hxe := hu
            obtain ⟨ud, cc, ea, _, hKx, hcc⟩ := Kd.C_get hCu z93 (k : Int) (Int.natCast_nonneg _) (Int.ofNat_lt.2 hlt2)
            rw [Int.toNat_natCast] at hKx hcc
            rw [hxe] at hKx
            obtain ⟨E2, m2, E3, m3, ecc, lm2, gm2, lm3, gm3⟩ := k93_open hKx
            subst ecc
            have eu0 : wr.cell? (ud.add (k * 4)) = some (.string u.f0) := by have := hcc 0 _ rfl; rwa [show k * k93.sz + 0 = k * 4 from rfl] at this
            have eu1 : wr.cell? ⟨(ud.add (k * 4)).block, (ud.add (k * 4)).off + 1, none⟩ = some (.int .i64 u.f1) := by have := hcc 1 _ rfl; rw [show k * k93.sz + 1 = k * 4 + 1 from rfl] at this; rw [← add_field _ _ 1 (by omega)]; exact this
            have eu2 : wr.cell? ⟨(ud.add (k * 4)).block, (ud.add (k * 4)).off + 2, none⟩ = some (.slice E2 u.f2.length m2) := by have := hcc 2 _ rfl; rw [show k * k93.sz + 2 = k * 4 + 2 from rfl] at this; rw [← add_field _ _ 2 (by omega)]; exact this
            have eu3 : wr.cell? ⟨(ud.add (k * 4)).block, (ud.add (k * 4)).off + 3, none⟩ = some (.slice E3 u.f3.length m3) := by have := hcc 3 _ rfl; rw [show k * k93.sz + 3 = k * 4 + 3 from rfl] at this; rw [← add_field _ _ 3 (by omega)]; exact this
            subst ea
            clear hcc hKx hxe
            have hxe := hv
            obtain ⟨vd, cc, ea, _, hKx, hcc⟩ := Kd.C_get hCv z93 (k : Int) (Int.natCast_nonneg _) (Int.ofNat_lt.2 hlb2)
            rw [Int.toNat_natCast] at hKx hcc
            rw [hxe] at hKx
            obtain ⟨G2, o2, G3, o3, ecc, lo2, go2, lo3, go3⟩ := k93_open hKx
            subst ecc
            have ev0 : wr.cell? (vd.add (k * 4)) = some (.string v.f0) := by have := hcc 0 _ rfl; rwa [show k * k93.sz + 0 = k * 4 from rfl] at this
            have ev1 : wr.cell? ⟨(vd.add (k * 4)).block, (vd.add (k * 4)).off + 1, none⟩ = some (.int .i64 v.f1) := by have := hcc 1 _ rfl; rw [show k * k93.sz + 1 = k * 4 + 1 from rfl] at this; rw [← add_field _ _ 1 (by omega)]; exact this
            have ev2 : wr.cell? ⟨(vd.add (k * 4)).block, (vd.add (k * 4)).off + 2, none⟩ = some (.slice G2 v.f2.length o2) := by have := hcc 2 _ rfl; rw [show k * k93.sz + 2 = k * 4 + 2 from rfl] at this; rw [← add_field _ _ 2 (by omega)]; exact this
            have ev3 : wr.cell? ⟨(vd.add (k * 4)).block, (vd.add (k * 4)).off + 3, none⟩ = some (.slice G3 v.f3.length o3) := by have := hcc 3 _ rfl; rw [show k * k93.sz + 3 = k * 4 + 3 from rfl] at this; rw [← add_field _ _ 3 (by omega)]; exact this
            subst ea
            clear hcc hKx hxe
            clear hu hv
            obtain ⟨f0, h0⟩ : ∃ b, eqB u.f0 v.f0 = b := ⟨_, rfl⟩
            have si0 := str_eqB u.f0 v.f0
            have ti0 := str_ne u.f0 v.f0
            rw [h0] at si0 ti0
            have J0 := mk0 h0
            clear h0
            obtain ⟨f1, h1⟩ : ∃ b, eqB u.f1 v.f1 = b := ⟨_, rfl⟩
            have si1 := int_eqB u.f1 v.f1
            have ti1 := int_ne u.f1 v.f1
            rw [h1] at si1 ti1
            have J1 := mk0 h1
            clear h1
            obtain ⟨f2, h2⟩ : ∃ b, eqB u.f2 v.f2 = b := ⟨_, rfl⟩
            have si2 := strOf_eqB (bytes_of_wf gu_.2.2.1.2) (bytes_of_wf gv_.2.2.1.2)
            have ti2 := strOf_ne (bytes_of_wf gu_.2.2.1.2) (bytes_of_wf gv_.2.2.1.2)
            rw [h2] at si2 ti2
            have J2 := mk0 h2
            clear h2
            obtain ⟨f3, h3⟩ : ∃ b, eqB u.f3 v.f3 = b := ⟨_, rfl⟩
            have si3 := strOf_eqB (bytes_of_wf gu_.2.2.2.2) (bytes_of_wf gv_.2.2.2.2)
            have ti3 := strOf_ne (bytes_of_wf gu_.2.2.2.2) (bytes_of_wf gv_.2.2.2.2)
            rw [h3] at si3 ti3
            have J3 := mk0 h3
            clear h3
            clear gu_ gv_
            have HOK2 := mk0 hok
            have HNO2 := mk0 hno
            clear hok hno
            obtain ⟨R2, hR2⟩ : ∃ r, (eqB u v = r) := ⟨_, rfl⟩
            have HR2 := mk0 hR2
            clear hR2
            have key : ((f0 = false ∧ R2 = false) ∨ (f0 = true ∧ f1 = false ∧ R2 = false) ∨ (f0 = true ∧ f1 = true ∧ f2 = false ∧ R2 = false) ∨ (f0 = true ∧ f1 = true ∧ f2 = true ∧ f3 = false ∧ R2 = false)) ∨ (f0 = true ∧ f1 = true ∧ f2 = true ∧ f3 = true ∧ R2 = true) := by
             rw [← HR2.out]
             cases f0
             · exact .inl (.inl ⟨rfl, eqB_field (fun z : S93 => z.f0) J0.out⟩)
             cases f1
             · exact .inl (.inr (.inl ⟨rfl, rfl, eqB_field (fun z : S93 => z.f1) J1.out⟩))
             cases f2
             · exact .inl (.inr (.inr (.inl ⟨rfl, rfl, rfl, eqB_field (fun z : S93 => z.f2) J2.out⟩)))
             cases f3
             · exact .inl (.inr (.inr (.inr (⟨rfl, rfl, rfl, rfl, eqB_field (fun z : S93 => z.f3) J3.out⟩))))
             exact .inr ⟨rfl, rfl, rfl, rfl, eqB_t (xt_Value u v (eqB_of J0.out) (eqB_of J1.out) (eqB_of J2.out) (eqB_of J3.out))⟩
            have ex1_ := pw_cell_below HBi.out ex1
            have ey1_ := pw_cell_below HBi.out ey1
            have HBr := mk0 (Below.refl wr.heap.size wr)
            cases gk with
            | zero => exact absurd HI2.out (fun h => Nat.ne_of_lt hlt2 h)
            | succ k2 =>
             go_wp2
             have n_ := mk0 (below_drew1 HBr.out)
             clear HBr
             have HBr := n_
             clear n_
             refine start_ (n := 20) (S := fun w' => w'.cell? ⟨(ad.add (i * 4)).block, (ad.add (i * 4)).off + 1, none⟩ = some (.slice (some ud) x.f1.length c1) ∧ w'.cell? ⟨(bd.add (i * 4)).block, (bd.add (i * 4)).off + 1, none⟩ = some (.slice (some vd) y.f1.length d1) ∧ w'.cell? (ud.add (k * 4)) = some (.string u.f0) ∧ w'.cell? ⟨(ud.add (k * 4)).block, (ud.add (k * 4)).off + 1, none⟩ = some (.int .i64 u.f1) ∧ w'.cell? ⟨(ud.add (k * 4)).block, (ud.add (k * 4)).off + 2, none⟩ = some (.slice E2 u.f2.length m2) ∧ w'.cell? ⟨(ud.add (k * 4)).block, (ud.add (k * 4)).off + 3, none⟩ = some (.slice E3 u.f3.length m3) ∧ w'.cell? (vd.add (k * 4)) = some (.string v.f0) ∧ w'.cell? ⟨(vd.add (k * 4)).block, (vd.add (k * 4)).off + 1, none⟩ = some (.int .i64 v.f1) ∧ w'.cell? ⟨(vd.add (k * 4)).block, (vd.add (k * 4)).off + 2, none⟩ = some (.slice G2 v.f2.length o2) ∧ w'.cell? ⟨(vd.add (k * 4)).block, (vd.add (k * 4)).off + 3, none⟩ = some (.slice G3 v.f3.length o3)) (ds := []) #[false, false, false, false, false, false, false, false, false, false, false, false, false, false, false, false, false, false, false, false] (by kernel_rfl) rfl rfl ⟨pw_cell_below HBr.out ex1_, pw_cell_below HBr.out ey1_, pw_cell_below HBr.out eu0, pw_cell_below HBr.out eu1, pw_cell_below HBr.out eu2, pw_cell_below HBr.out eu3, pw_cell_below HBr.out ev0, pw_cell_below HBr.out ev1, pw_cell_below HBr.out ev2, pw_cell_below HBr.out ev3⟩ (fun hHeld => ?_)
             refine with_tabW sameEnums_t.tab11 sameEnums_t.bits11 (fun HT_ HW_ => ?_)
             generalize wr.drew = wq at HBr hHeld ⊢
             refine pure_ (i := 0) (N := some 84) (v := ?_) (a' := ?_) #[true, false, false, false, false, false, false, false, false, false, false, false, false, false, false, false, false, false, false, false] rfl rfl (any_of HT_.out (by kernel_rfl)) (fun _ _ _ h => h) (Or.inl ⟨by rfl, ?_⟩) ?_ ?_
             rotate_left
             · intro w'
               go_simp
               with_reducible rfl
             rotate_left
             · simp only [Act.put, List.setIfInBounds_toArray, List.set_cons_zero, List.set_cons_succ, i64_w, i32_w]
               rfl
             refine pure_ (i := 1) (N := some 85) (v := ?_) (a' := ?_) #[true, true, false, false, false, false, false, false, false, false, false, false, false, false, false, false, false, false, false, false] rfl rfl (any_of HT_.out (by kernel_rfl)) (fun _ _ _ h => h) (Or.inl ⟨by rfl, ?_⟩) ?_ ?_
             rotate_left
             · intro w'
               go_simp
               with_reducible rfl
             rotate_left
             · simp only [Act.put, List.setIfInBounds_toArray, List.set_cons_zero, List.set_cons_succ, i64_w, i32_w]
               rfl
             refine pure_ (i := 5) (N := some 89) (v := ?_) (a' := ?_) #[true, true, false, false, false, true, false, false, false, false, false, false, false, false, false, false, false, false, false, false] rfl rfl (any_of HT_.out (by kernel_rfl)) (fun _ _ _ h => h) (Or.inl ⟨by rfl, ?_⟩) ?_ ?_
             rotate_left
             · intro w'
               go_simp
               with_reducible rfl
             rotate_left
             · simp only [Act.put, List.setIfInBounds_toArray, List.set_cons_zero, List.set_cons_succ, i64_w, i32_w]
               rfl
             refine pure_ (i := 8) (N := some 92) (v := ?_) (a' := ?_) #[true, true, false, false, false, true, false, false, true, false, false, false, false, false, false, false, false, false, false, false] rfl rfl (any_of HT_.out (by kernel_rfl)) (fun _ _ _ h => h) (Or.inl ⟨by rfl, ?_⟩) ?_ ?_
             rotate_left
             · intro w'
               go_simp
               with_reducible rfl
             rotate_left
             · simp only [Act.put, List.setIfInBounds_toArray, List.set_cons_zero, List.set_cons_succ, i64_w, i32_w]
               rfl
             refine pure_ (i := 9) (N := some 93) (v := ?_) (a' := ?_) #[true, true, false, false, false, true, false, false, true, true, false, false, false, false, false, false, false, false, false, false] rfl rfl (any_of HT_.out (by kernel_rfl)) (fun _ _ _ h => h) (Or.inl ⟨by rfl, ?_⟩) ?_ ?_
             rotate_left
             · intro w'
               go_simp
               with_reducible rfl
             rotate_left
             · simp only [Act.put, List.setIfInBounds_toArray, List.set_cons_zero, List.set_cons_succ, i64_w, i32_w]
               rfl
             refine pure_ (i := 13) (N := some 97) (v := ?_) (a' := ?_) #[true, true, false, false, false, true, false, false, true, true, false, false, false, true, false, false, false, false, false, false] rfl rfl (any_of HT_.out (by kernel_rfl)) (fun _ _ _ h => h) (Or.inl ⟨by rfl, ?_⟩) ?_ ?_
             rotate_left
             · intro w'
               go_simp
               with_reducible rfl
             rotate_left
             · simp only [Act.put, List.setIfInBounds_toArray, List.set_cons_zero, List.set_cons_succ, i64_w, i32_w]
               rfl
             refine take_ (i := 2) (N := some 86) (v := ?_) (a' := ?_) #[true, true, true, false, false, true, false, false, true, true, false, false, false, true, false, false, false, false, false, false] rfl rfl (take_ofW HT_.out HW_.out (by kernel_rfl)) (fun _ _ _ h => h) (Or.inl ⟨by rfl, ?_⟩) hHeld ?_ ?_
             rotate_left
             · rintro w' ⟨s0, s1, s2, s3, s4, s5, s6, s7, s8, s9⟩
               go_simp
               with_reducible rfl
             rotate_left
             · simp only [Act.put, List.setIfInBounds_toArray, List.set_cons_zero, List.set_cons_succ, i64_w, i32_w]
               rfl
             refine pure_ (i := 3) (N := some 87) (v := ?_) (a' := ?_) #[true, true, true, true, false, true, false, false, true, true, false, false, false, true, false, false, false, false, false, false] rfl rfl (any_of HT_.out (by kernel_rfl)) (fun _ _ _ h => h) (Or.inl ⟨by rfl, ?_⟩) ?_ ?_
             rotate_left
             · intro w'
               go_simp
               with_reducible rfl
             rotate_left
             · simp only [Act.put, List.setIfInBounds_toArray, List.set_cons_zero, List.set_cons_succ, i64_w, i32_w]
               rfl
             refine take_ (i := 4) (N := some 88) (v := ?_) (a' := ?_) #[true, true, true, true, true, true, false, false, true, true, false, false, false, true, false, false, false, false, false, false] rfl rfl (take_ofW HT_.out HW_.out (by kernel_rfl)) (fun _ _ _ h => h) (Or.inl ⟨by rfl, ?_⟩) hHeld ?_ ?_
             rotate_left
             · rintro w' ⟨s0, s1, s2, s3, s4, s5, s6, s7, s8, s9⟩
               go_simp
               with_reducible rfl
             rotate_left
             · simp only [Act.put, List.setIfInBounds_toArray, List.set_cons_zero, List.set_cons_succ, i64_w, i32_w]
               rfl
             refine take_ (i := 6) (N := some 90) (v := ?_) (a' := ?_) #[true, true, true, true, true, true, true, false, true, true, false, false, false, true, false, false, false, false, false, false] rfl rfl (take_ofW HT_.out HW_.out (by kernel_rfl)) (fun _ _ _ h => h) (Or.inl ⟨by rfl, ?_⟩) hHeld ?_ ?_
             rotate_left
             · rintro w' ⟨s0, s1, s2, s3, s4, s5, s6, s7, s8, s9⟩
               go_simp
               with_reducible rfl
             rotate_left
             · simp only [Act.put, List.setIfInBounds_toArray, List.set_cons_zero, List.set_cons_succ, i64_w, i32_w]
               rfl
             refine take_ (i := 7) (N := some 91) (v := ?_) (a' := ?_) #[true, true, true, true, true, true, true, true, true, true, false, false, false, true, false, false, false, false, false, false] rfl rfl (take_ofW HT_.out HW_.out (by kernel_rfl)) (fun _ _ _ h => h) (Or.inl ⟨by rfl, ?_⟩) hHeld ?_ ?_
             rotate_left
             · rintro w' ⟨s0, s1, s2, s3, s4, s5, s6, s7, s8, s9⟩
               go_simp
               with_reducible rfl
             rotate_left
             · simp only [Act.put, List.setIfInBounds_toArray, List.set_cons_zero, List.set_cons_succ, i64_w, i32_w]
               rfl
             refine take_ (i := 10) (N := some 94) (v := ?_) (a' := ?_) #[true, true, true, true, true, true, true, true, true, true, true, false, false, true, false, false, false, false, false, false] rfl rfl (take_ofW HT_.out HW_.out (by kernel_rfl)) (fun _ _ _ h => h) (Or.inl ⟨by rfl, ?_⟩) hHeld ?_ ?_
             rotate_left
             · rintro w' ⟨s0, s1, s2, s3, s4, s5, s6, s7, s8, s9⟩
               go_simp
               with_reducible rfl
             rotate_left
             · simp only [Act.put, List.setIfInBounds_toArray, List.set_cons_zero, List.set_cons_succ, i64_w, i32_w]
               rfl
             refine pure_ (i := 11) (N := some 95) (v := ?_) (a' := ?_) #[true, true, true, true, true, true, true, true, true, true, true, true, false, true, false, false, false, false, false, false] rfl rfl (any_of HT_.out (by kernel_rfl)) (fun _ _ _ h => h) (Or.inl ⟨by rfl, ?_⟩) ?_ ?_
             rotate_left
             · intro w'
               go_simp
               with_reducible rfl
             rotate_left
             · simp only [Act.put, List.setIfInBounds_toArray, List.set_cons_zero, List.set_cons_succ, i64_w, i32_w]
               rfl
             refine take_ (i := 12) (N := some 96) (v := ?_) (a' := ?_) #[true, true, true, true, true, true, true, true, true, true, true, true, true, true, false, false, false, false, false, false] rfl rfl (take_ofW HT_.out HW_.out (by kernel_rfl)) (fun _ _ _ h => h) (Or.inl ⟨by rfl, ?_⟩) hHeld ?_ ?_
             rotate_left
             · rintro w' ⟨s0, s1, s2, s3, s4, s5, s6, s7, s8, s9⟩
               go_simp
               with_reducible rfl
             rotate_left
             · simp only [Act.put, List.setIfInBounds_toArray, List.set_cons_zero, List.set_cons_succ, i64_w, i32_w]
               rfl
             refine take_ (i := 14) (N := some 98) (v := ?_) (a' := ?_) #[true, true, true, true, true, true, true, true, true, true, true, true, true, true, true, false, false, false, false, false] rfl rfl (take_ofW HT_.out HW_.out (by kernel_rfl)) (fun _ _ _ h => h) (Or.inl ⟨by rfl, ?_⟩) hHeld ?_ ?_
             rotate_left
             · rintro w' ⟨s0, s1, s2, s3, s4, s5, s6, s7, s8, s9⟩
               go_simp
               with_reducible rfl
             rotate_left
             · simp only [Act.put, List.setIfInBounds_toArray, List.set_cons_zero, List.set_cons_succ, i64_w, i32_w]
               rfl
             refine take_ (i := 15) (N := some 99) (v := ?_) (a' := ?_) #[true, true, true, true, true, true, true, true, true, true, true, true, true, true, true, true, false, false, false, false] rfl rfl (take_ofW HT_.out HW_.out (by kernel_rfl)) (fun _ _ _ h => h) (Or.inl ⟨by rfl, ?_⟩) hHeld ?_ ?_
             rotate_left
             · rintro w' ⟨s0, s1, s2, s3, s4, s5, s6, s7, s8, s9⟩
               go_simp
               with_reducible rfl
             rotate_left
             · simp only [Act.put, List.setIfInBounds_toArray, List.set_cons_zero, List.set_cons_succ, i64_w, i32_w]
               rfl
             refine join_ (σ := Nat × Nat) 2 #[true, true, true, true, true, true, true, true, true, true, true, true, true, true, true, true, true, true, false, false] (fun s_ => [(7, .pointer (some ⟨s_.1, 0, none⟩)), (8, .pointer (some ⟨s_.2, 0, none⟩))]) (fun s_ w' => w'.heap[s_.1]? = some (.cells #[.string (⟨#[]⟩ : ByteArray), .int .i64 0, .slice none 0 0, .slice none 0 0] 93 (0, 0)) ∧ w'.heap[s_.2]? = some (.cells #[.string (⟨#[]⟩ : ByteArray), .int .i64 0, .slice none 0 0, .slice none 0 0] 93 (0, 0)) ∧ s_.1 ≠ s_.2 ∧ wr.heap.size ≤ s_.1 ∧ wr.heap.size ≤ s_.2 ∧ Below wr.heap.size wr w') ?_ ?_
             rotate_left
             · intro hCont
               refine two_ (i := 16) (j := 17) (Ni := some 7) (Nj := some 8) #[true, true, true, true, true, true, true, true, true, true, true, true, true, true, true, true, true, false, false, false] #[true, true, true, true, true, true, true, true, true, true, true, true, true, true, true, true, false, true, false, false] rfl rfl rfl rfl (two_of HT_.out (by kernel_rfl)) (by decide) (by decide) (fun K hK => ?_) (fun K hK => ?_)
               · skip
                 refine box_step ?hg (N := 7) ?hd (cs := #[.string (⟨#[]⟩ : ByteArray), .int .i64 0, .slice none 0 0, .slice none 0 0]) (t := 93) ?hr ?_; (case hd => rfl); (case hg => rfl); (case hr => first | (go_simp; done) | (go_simp; rfl))
                 intro gx hg wq hbox hb
                 have HG1 := mk0 (show wr.heap.size ≤ gx from hg ▸ HBr.out.size)
                 have n_ := mk0 (below_then HBr.out HBr.out.size hb)
                 clear HBr
                 have HBr := n_
                 clear n_
                 have B1 := mk0 hbox
                 clear hg hbox hb
                 refine hK.out _ _ ⟨pw_cell_below HBr.out ex1_, pw_cell_below HBr.out ey1_, pw_cell_below HBr.out eu0, pw_cell_below HBr.out eu1, pw_cell_below HBr.out eu2, pw_cell_below HBr.out eu3, pw_cell_below HBr.out ev0, pw_cell_below HBr.out ev1, pw_cell_below HBr.out ev2, pw_cell_below HBr.out ev3⟩ (fun hHeld => ?_)
                 clear hK K
                 refine norm_ (a' := ?_) ?_ ?_
                 rotate_left
                 · show Act.put _ (some 7) _ = _
                   simp only [Act.put, List.setIfInBounds_toArray, List.set_cons_zero, List.set_cons_succ, i64_w, i32_w]
                   rfl
                 refine one_ (i := 17) (N := some 8) #[true, true, true, true, true, true, true, true, true, true, true, true, true, true, true, true, true, true, false, false] rfl rfl (one_of HT_.out (by kernel_rfl)) (by decide) (fun K hK => ?_)
                 refine box_step ?hg (N := 8) ?hd (cs := #[.string (⟨#[]⟩ : ByteArray), .int .i64 0, .slice none 0 0, .slice none 0 0]) (t := 93) ?hr ?_; (case hd => rfl); (case hg => rfl); (case hr => first | (go_simp; done) | (go_simp; rfl))
                 intro gy hg wq hbox hb
                 have HG2 := mk0 (show wr.heap.size ≤ gy from hg ▸ HBr.out.size)
                 have HNE := mk0 (show gx ≠ gy from hg ▸ Nat.ne_of_lt (blk_lt B1.out))
                 have n_ := mk0 (below_then HBr.out HBr.out.size hb)
                 clear HBr
                 have HBr := n_
                 clear n_
                 have n_ := mk0 (blk_below B1.out hb)
                 clear B1
                 have B1 := n_
                 have B2 := mk0 hbox
                 clear hg hbox hb n_
                 refine hK.out _ _ ⟨pw_cell_below HBr.out ex1_, pw_cell_below HBr.out ey1_, pw_cell_below HBr.out eu0, pw_cell_below HBr.out eu1, pw_cell_below HBr.out eu2, pw_cell_below HBr.out eu3, pw_cell_below HBr.out ev0, pw_cell_below HBr.out ev1, pw_cell_below HBr.out ev2, pw_cell_below HBr.out ev3⟩ (fun hHeld => ?_)
                 clear hK K
                 refine norm_ (a' := ?_) ?_ ?_
                 rotate_left
                 · show Act.put _ (some 8) _ = _
                   simp only [Act.put, List.setIfInBounds_toArray, List.set_cons_zero, List.set_cons_succ, i64_w, i32_w]
                   rfl
                 exact norm_ (by simp only [putAll, Act.put, List.setIfInBounds_toArray, List.set_cons_zero, List.set_cons_succ]) (hCont (gx, gy) _ ⟨B1.out, B2.out, HNE.out, HG1.out, HG2.out, HBr.out⟩)
               · skip
                 refine box_step ?hg (N := 8) ?hd (cs := #[.string (⟨#[]⟩ : ByteArray), .int .i64 0, .slice none 0 0, .slice none 0 0]) (t := 93) ?hr ?_; (case hd => rfl); (case hg => rfl); (case hr => first | (go_simp; done) | (go_simp; rfl))
                 intro gy hg wq hbox hb
                 have HG1 := mk0 (show wr.heap.size ≤ gy from hg ▸ HBr.out.size)
                 have n_ := mk0 (below_then HBr.out HBr.out.size hb)
                 clear HBr
                 have HBr := n_
                 clear n_
                 have B1 := mk0 hbox
                 clear hg hbox hb
                 refine hK.out _ _ ⟨pw_cell_below HBr.out ex1_, pw_cell_below HBr.out ey1_, pw_cell_below HBr.out eu0, pw_cell_below HBr.out eu1, pw_cell_below HBr.out eu2, pw_cell_below HBr.out eu3, pw_cell_below HBr.out ev0, pw_cell_below HBr.out ev1, pw_cell_below HBr.out ev2, pw_cell_below HBr.out ev3⟩ (fun hHeld => ?_)
                 clear hK K
                 refine norm_ (a' := ?_) ?_ ?_
                 rotate_left
                 · show Act.put _ (some 8) _ = _
                   simp only [Act.put, List.setIfInBounds_toArray, List.set_cons_zero, List.set_cons_succ, i64_w, i32_w]
                   rfl
                 refine one_ (i := 16) (N := some 7) #[true, true, true, true, true, true, true, true, true, true, true, true, true, true, true, true, true, true, false, false] rfl rfl (one_of HT_.out (by kernel_rfl)) (by decide) (fun K hK => ?_)
                 refine box_step ?hg (N := 7) ?hd (cs := #[.string (⟨#[]⟩ : ByteArray), .int .i64 0, .slice none 0 0, .slice none 0 0]) (t := 93) ?hr ?_; (case hd => rfl); (case hg => rfl); (case hr => first | (go_simp; done) | (go_simp; rfl))
                 intro gx hg wq hbox hb
                 have HG2 := mk0 (show wr.heap.size ≤ gx from hg ▸ HBr.out.size)
                 have HNE := mk0 (show gy ≠ gx from hg ▸ Nat.ne_of_lt (blk_lt B1.out))
                 have n_ := mk0 (below_then HBr.out HBr.out.size hb)
                 clear HBr
                 have HBr := n_
                 clear n_
                 have n_ := mk0 (blk_below B1.out hb)
                 clear B1
                 have B1 := n_
                 have B2 := mk0 hbox
                 clear hg hbox hb n_
                 refine hK.out _ _ ⟨pw_cell_below HBr.out ex1_, pw_cell_below HBr.out ey1_, pw_cell_below HBr.out eu0, pw_cell_below HBr.out eu1, pw_cell_below HBr.out eu2, pw_cell_below HBr.out eu3, pw_cell_below HBr.out ev0, pw_cell_below HBr.out ev1, pw_cell_below HBr.out ev2, pw_cell_below HBr.out ev3⟩ (fun hHeld => ?_)
                 clear hK K
                 refine norm_ (a' := ?_) ?_ ?_
                 rotate_left
                 · show Act.put _ (some 7) _ = _
                   simp only [Act.put, List.setIfInBounds_toArray, List.set_cons_zero, List.set_cons_succ, i64_w, i32_w]
                   rfl
                 exact norm_ (by simp only [putAll, Act.put, List.setIfInBounds_toArray, List.set_cons_zero, List.set_cons_succ]) (hCont (gx, gy) _ ⟨B2.out, B1.out, (HNE.out).symm, HG2.out, HG1.out, HBr.out⟩)
             clear HBr hHeld
             rintro ⟨gx, gy⟩ wq ⟨hBX_, hBY_, hne_, hGX_, hGY_, hB_⟩
             have BX := mk0 hBX_
             have BY := mk0 hBY_
             have HNE := mk0 hne_
             have HGX := mk0 hGX_
             have HGY := mk0 hGY_
             have HBr := mk0 hB_
             clear hBX_ hBY_ hne_ hGX_ hGY_ hB_
             refine norm_ (a' := ?_) ?_ ?_
             rotate_left
             · simp only [putAll, Act.put, List.setIfInBounds_toArray, List.set_cons_zero, List.set_cons_succ]
               rfl
             refine one_ (i := 18) (N := none) #[true, true, true, true, true, true, true, true, true, true, true, true, true, true, true, true, true, true, true, false] rfl rfl (one_of HT_.out (by kernel_rfl)) (by decide) (fun K hK => ?_)
             refine skip_ (w1 := wq.setRow gx #[.string u.f0, .int .i64 u.f1, .slice E2 u.f2.length m2, .slice E3 u.f3.length m3]) (by rfl) rfl (store_skip rfl gx 93 _ _ rfl rfl BX.out (by kernel_rfl) rfl rfl) ?_
             have n0_ := mk0 (setRow_heap wq gx _ #[.string u.f0, .int .i64 u.f1, .slice E2 u.f2.length m2, .slice E3 u.f3.length m3] 93 (0, 0) BX.out)
             have n1_ := mk0 ((setRow_other wq gx gy #[.string u.f0, .int .i64 u.f1, .slice E2 u.f2.length m2, .slice E3 u.f3.length m3] HNE.out.symm).trans BY.out)
             have n2_ := mk0 (below_setRow HBr.out HGX.out #[.string u.f0, .int .i64 u.f1, .slice E2 u.f2.length m2, .slice E3 u.f3.length m3])
             clear BX BY HBr
             generalize wq.setRow gx #[.string u.f0, .int .i64 u.f1, .slice E2 u.f2.length m2, .slice E3 u.f3.length m3] = wq at n0_ n1_ n2_ ⊢
             have BX := n0_
             have BY := n1_
             have HBr := n2_
             clear n0_ n1_ n2_
             refine hK.out _ _ ⟨pw_cell_below HBr.out ex1_, pw_cell_below HBr.out ey1_, pw_cell_below HBr.out eu0, pw_cell_below HBr.out eu1, pw_cell_below HBr.out eu2, pw_cell_below HBr.out eu3, pw_cell_below HBr.out ev0, pw_cell_below HBr.out ev1, pw_cell_below HBr.out ev2, pw_cell_below HBr.out ev3⟩ (fun hHeld => ?_)
             clear hK K
             refine one_ (i := 19) (N := none) #[true, true, true, true, true, true, true, true, true, true, true, true, true, true, true, true, true, true, true, true] rfl rfl (one_of HT_.out (by kernel_rfl)) (by decide) (fun K hK => ?_)
             refine skip_ (w1 := wq.setRow gy #[.string v.f0, .int .i64 v.f1, .slice G2 v.f2.length o2, .slice G3 v.f3.length o3]) (by rfl) rfl (store_skip rfl gy 93 _ _ rfl rfl BY.out (by kernel_rfl) rfl rfl) ?_
             have n0_ := mk0 (setRow_heap wq gy _ #[.string v.f0, .int .i64 v.f1, .slice G2 v.f2.length o2, .slice G3 v.f3.length o3] 93 (0, 0) BY.out)
             have n1_ := mk0 ((setRow_other wq gy gx #[.string v.f0, .int .i64 v.f1, .slice G2 v.f2.length o2, .slice G3 v.f3.length o3] HNE.out).trans BX.out)
             have n2_ := mk0 (below_setRow HBr.out HGY.out #[.string v.f0, .int .i64 v.f1, .slice G2 v.f2.length o2, .slice G3 v.f3.length o3])
             clear BY BX HBr
             generalize wq.setRow gy #[.string v.f0, .int .i64 v.f1, .slice G2 v.f2.length o2, .slice G3 v.f3.length o3] = wq at n0_ n1_ n2_ ⊢
             have BY := n0_
             have BX := n1_
             have HBr := n2_
             clear n0_ n1_ n2_
             refine hK.out _ _ ⟨pw_cell_below HBr.out ex1_, pw_cell_below HBr.out ey1_, pw_cell_below HBr.out eu0, pw_cell_below HBr.out eu1, pw_cell_below HBr.out eu2, pw_cell_below HBr.out eu3, pw_cell_below HBr.out ev0, pw_cell_below HBr.out ev1, pw_cell_below HBr.out ev2, pw_cell_below HBr.out ev3⟩ (fun hHeld => ?_)
             clear hK K
             refine done_ (done_of HT_.out (by kernel_rfl)) ?_
             have p0_ : _ = some ((.string u.f0) : Value) := (blk_cell BX.out 0).trans rfl
             have p1_ : _ = some ((.int .i64 u.f1) : Value) := (blk_cell BX.out 1).trans rfl
             have p2_ : _ = some ((.slice E2 u.f2.length m2) : Value) := (blk_cell BX.out 2).trans rfl
             have p3_ : _ = some ((.slice E3 u.f3.length m3) : Value) := (blk_cell BX.out 3).trans rfl
             have q0_ : _ = some ((.string v.f0) : Value) := (blk_cell BY.out 0).trans rfl
             have q1_ : _ = some ((.int .i64 v.f1) : Value) := (blk_cell BY.out 1).trans rfl
             have q2_ : _ = some ((.slice G2 v.f2.length o2) : Value) := (blk_cell BY.out 2).trans rfl
             have q3_ : _ = some ((.slice G3 v.f3.length o3) : Value) := (blk_cell BY.out 3).trans rfl
             have cu2 := Kd.C_string (P := Try.prog) (c := m2) Try.underlying28 Try.underlying5 Try.underlying9 (Kd.C_below gm2 HBr.out)
             have cu3 := Kd.C_string (P := Try.prog) (c := m3) Try.underlying28 Try.underlying5 Try.underlying9 (Kd.C_below gm3 HBr.out)
             have cv2 := Kd.C_string (P := Try.prog) (c := o2) Try.underlying28 Try.underlying5 Try.underlying9 (Kd.C_below go2 HBr.out)
             have cv3 := Kd.C_string (P := Try.prog) (c := o3) Try.underlying28 Try.underlying5 Try.underlying9 (Kd.C_below go3 HBr.out)
             clear eu0 ev0 eu1 ev1 eu2 ev2 eu3 ev3
             rcases key with key | key
             · rcases key with ⟨rfl, hR_⟩ | ⟨rfl, rfl, hR_⟩ | ⟨rfl, rfl, rfl, hR_⟩ | ⟨rfl, rfl, rfl, rfl, hR_⟩
               all_goals
                have HR_ := mk0 hR_
                clear hR_
                go_wp2
                go_ret
                exact ⟨by rw [(HNO.out (HNO2.out (HR2.out.trans HR_.out)).out).out]; rfl, below_then HB1.out HB1.out.size (below_then HBi.out HBi.out.size HBr.out)⟩
             · obtain ⟨rfl, rfl, rfl, rfl, hR_⟩ := key
               have HR_ := mk0 hR_
               clear hR_
               have hwp2 := hwp.out
               go_wp2
               go_roundg k2
               case measure => exact Nat.lt_succ_self k2
               case rel => exact ⟨k + 1, (by first | rfl | (rw [hwp2]) | (simp [hwp2]; done)), ⟨(Nat.add_right_comm k 1 k2).trans HI2.out⟩, ⟨below_then HBi.out HBi.out.size HBr.out⟩, HOK2.out (HR2.out.trans HR_.out)⟩
          · have dd1_ := dec_ge hlt2
            have HE2 := mk0 (eqB_of (take_all x.f1 y.f1 hle.out k hlt2 HT2.out))
            have HXY := mk0 (eqB_t (xt_Enum x y (eqB_of H0.out) HE2.out (eqB_of H2.out) (eqB_of H3.out)))
            have hwp2 := hwp1.out
            go_wp2
            go_roundg k1
            case measure => exact Nat.lt_succ_self k1
            case rel => exact ⟨i + 1, (by first | rfl | (rw [hwp2]) | (simp [hwp2]; done)), ⟨(Nat.add_right_comm i 1 k1).trans HI1.out⟩, ⟨below_then HB1.out HB1.out.size HBi.out⟩, HOK.out HXY.out⟩
    · have d0 := dec_ge hlt
      have HE := mk0 (take_all a b HL.out i hlt HT.out)
      go_wp2
      go_ret
      exact ⟨by rw [HE.out]; rfl, HB.out⟩
 · have hn := len_bne hl
   have HE := mk0 (len_ne a b hl)
   clear hl
   go_enter Try.func33, Try.ntmps33
   go_wp2
   go_ret
   exact ⟨by rw [HE.out]; rfl, HB0.out⟩
end Go.Proofs.Yticnihfjnjliiaa.R1
