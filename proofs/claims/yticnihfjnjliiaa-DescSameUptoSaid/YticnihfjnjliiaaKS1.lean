/- Fields that are alike, by the reference. -/
import Derived.Test.YticnihfjnjliiaaKR2
import Derived.Test.YticnihfjnjliiaaKE3
import Derived.LoopN
import Derived.RegionTactic
namespace Go.Proofs.Yticnihfjnjliiaa.R1
open Go.RowKit Go.Proofs.Yticnihfjnjliiaa.GDescGrows Go.Proofs.YticnihfjnjliiaaW.PrintWords Go.Proofs.YticnihfjnjliiaaW.PrintLast Go.Proofs.YticnihfjnjliiaaW.PrintMore Go.Proofs.Yticnihfjnjliiaa.Vb Go.Proofs.Yticnihfjnjliiaa.Wr Go.Proofs.Yticnihfjnjliiaa.Wp Go.Proofs.Yticnihfjnjliiaa.Rk Go.Proofs.Yticnihfjnjliiaa.Sp Go.Proofs.Yticnihfjnjliiaa.E1
set_option linter.unusedVariables false
set_option linter.unusedSimpArgs false
theorem store_skip {P : Program} {W : World} {a : Act} {o : Oper} {t : TypeId} {p : Tmp} {v : Operand} (ho : o.op = .store t (.tmp p) v) (g : Nat) (et : TypeId) (old cells : Array Value)
 (hp : a.eval (.tmp p) = .pointer (some ⟨g, 0, none⟩)) (hv : a.eval v = .agg cells) (hb : W.heap[g]? = some (.cells old et (0, 0))) (hi : (P.info? t).map (·.size) = some cells.size) (hs : old.size = cells.size) (h1 : cells.toList.all (·.oneCell') = true) :
 (execOp a.eval o).run P W = .ok .skip (W.setRow g cells) := by
 have hr := run_storeVar_row (P := P) W g et t old cells hb hi hs (by rw [← Array.all_toList]; exact h1)
 simp only [execOp, ho, hp, hv, Instr.storeAt]
 have hs2 : Sem.run P (Instr.sureAddr (Value.pointer (some ⟨g, 0, none⟩))) W = .ok ⟨g, 0, none⟩ W := rfl
 simp [Sem.run_bind, hs2, hr, Result.andThen]
theorem bool_ne (s t : Bool) : (s != t) = !eqB s t := by rw [← bool_eqB]; rfl
theorem strOf_ne {a b : List Int} (ha : Bytes a) (hb : Bytes b) : ((strOfNums a).toList != (strOfNums b).toList) = !eqB a b := by rw [← strOf_eqB ha hb]; rfl
theorem wrap_le (i n : Nat) (h : i < n) (hn : n ≤ 9223372036854775807) : wrap64 ((i : Int) + 1) = ((i + 1 : Nat) : Int) := by unfold wrap64; omega
theorem xt_Field (x y : S69) (h0 : x.f0 = y.f0) (h1 : x.f1 = y.f1) (h2 : x.f2 = y.f2) (h3 : x.f3 = y.f3) (h4 : x.f4 = y.f4) (h5 : x.f5 = y.f5) (h6 : x.f6 = y.f6) (h7 : x.f7 = y.f7) (h8 : x.f8 = y.f8) (h9 : x.f9 = y.f9) (h10 : x.f10 = y.f10) (h11 : x.f11 = y.f11) (h12 : x.f12 = y.f12) : x = y := by
 cases x; cases y
 dsimp only at h0 h1 h2 h3 h4 h5 h6 h7 h8 h9 h10 h11 h12
 subst h0 h1 h2 h3 h4 h5 h6 h7 h8 h9 h10 h11 h12
 rfl
def sameFields_t.T6 : Bool × List (List Nat × List Nat) := (true, [([], []), ([], []), ([0, 1], [0, 1]), ([2], [2]), ([], []), ([], []), ([4, 5], [4, 5]), ([6], [6]), ([], []), ([], []), ([8, 3, 0, 1, 2, 3, 8, 9], [3, 8]), ([9, 7, 10, 0, 1, 2, 3, 4, 5, 6, 7, 8, 9, 10], [7, 9])])
def sameFields_t.B6 : List Nat := [0, 0, 3, 7, 0, 0, 48, 112, 0, 0, 783, 2047]
theorem sameFields_t.tab6 : rtab .any (opsOf Try.f34 6) = sameFields_t.T6 := by kernel_rfl
theorem sameFields_t.bits6 : waitsOk sameFields_t.T6.2 sameFields_t.B6 = true := by kernel_rfl
set_option maxHeartbeats 64000000 in
set_option maxRecDepth 100000 in
theorem sameFields_c (a b : List S69) (hga : ∀ y ∈ a, good69 y) (hgb : ∀ y ∈ b, good69 y) (hla : a.length ≤ 9223372036854775807) (A0 B0 : Option Addr) (ca cb : Nat) (w : World) (CA : Kd.C k69 w A0 a.length a) (CB : Kd.C k69 w B0 b.length b) :
 Calls Try.prog 34 #[.slice A0 a.length ca, .slice B0 b.length cb] w fun e w' => Eq_ (eqB a b) w e w' := by
 have HB0 := mk0 (Below.refl w.heap.size w)
 have HA := mk0 CA
 have HC := mk0 CB
 by_cases hl : a.length = b.length
 · have HL := mk0 hl
   have hn := len_beq hl
   clear hl
   go_enter Try.func34, Try.ntmps34
   go_wp2
   go_loopg [15] a.length (fun kq v15 w' => ∃ i : Nat, v15 = .int .i64 (i : Int) ∧ Aside0 (i + kq = a.length) ∧ Aside0 (Below w.heap.size w w') ∧ Aside0 (a.take i = b.take i))
   case atStart =>
    exact ⟨0, rfl, ⟨by omega⟩, ⟨HB0.out⟩, ⟨by simp⟩⟩
   case round =>
    obtain ⟨i, rfl, HI, HB, HT⟩ := hrel
    by_cases hlt : i < a.length
    · have hlb : i < b.length := by have := HL.out; omega
      have d0 := dec_lt hlt
      have p0 : (0 ≤ (i : Int)) = True := eq_true (Int.natCast_nonneg i)
      have q0 : ((i : Int) < (a.length : Int)) = True := eq_true (Int.ofNat_lt.2 hlt)
      have q1 : ((i : Int) < (b.length : Int)) = True := eq_true (Int.ofNat_lt.2 hlb)
      obtain ⟨x, hx⟩ : ∃ x, a.getD i z69 = x := ⟨_, rfl⟩
      obtain ⟨y, hy⟩ : ∃ y, b.getD i z69 = y := ⟨_, rfl⟩
      have gx_ := hga x (by rw [← hx]; simp [hlt])
      have gy_ := hgb y (by rw [← hy]; simp [hlb])
      have hok : eqB x y = true → Aside0 (a.take (i + 1) = b.take (i + 1)) := fun h => ⟨take_eq z69 a b HL.out i hlt HT.out (by rw [hx, hy, eqB_of h])⟩
      have hno : eqB x y = false → Aside0 (eqB a b = false) := fun h => ⟨take_ne z69 a b i (by rw [hx, hy]; intro e; rw [eqB_t e] at h; cases h)⟩
      have hwp := mk0 (wrap_le i a.length hlt hla)
      have HLA := mk0 hla
      clear hla
      have hCa := Kd.C_below HA.out HB.out
      have hCb := Kd.C_below HC.out HB.out
      have hxe := hx
      obtain ⟨ad, cc, ea, _, hKx, hcc⟩ := Kd.C_get hCa z69 (i : Int) (Int.natCast_nonneg _) (Int.ofNat_lt.2 hlt)
      rw [Int.toNat_natCast] at hKx hcc
      rw [hxe] at hKx
      obtain ⟨A11, c11, A12, c12, ecc, lc11, gc11, lc12, gc12⟩ := k69_open hKx
      subst ecc
      have ex0 : wr.cell? (ad.add (i * 13)) = some (.string x.f0) := by have := hcc 0 _ rfl; rwa [show i * k69.sz + 0 = i * 13 from rfl] at this
      have ex1 : wr.cell? ⟨(ad.add (i * 13)).block, (ad.add (i * 13)).off + 1, none⟩ = some (.int .i64 x.f1) := by have := hcc 1 _ rfl; rw [show i * k69.sz + 1 = i * 13 + 1 from rfl] at this; rw [← add_field _ _ 1 (by omega)]; exact this
      have ex2 : wr.cell? ⟨(ad.add (i * 13)).block, (ad.add (i * 13)).off + 2, none⟩ = some (.int .i64 x.f2) := by have := hcc 2 _ rfl; rw [show i * k69.sz + 2 = i * 13 + 2 from rfl] at this; rw [← add_field _ _ 2 (by omega)]; exact this
      have ex3 : wr.cell? ⟨(ad.add (i * 13)).block, (ad.add (i * 13)).off + 3, none⟩ = some (.int .i64 x.f3) := by have := hcc 3 _ rfl; rw [show i * k69.sz + 3 = i * 13 + 3 from rfl] at this; rw [← add_field _ _ 3 (by omega)]; exact this
      have ex4 : wr.cell? ⟨(ad.add (i * 13)).block, (ad.add (i * 13)).off + 4, none⟩ = some (.string x.f4) := by have := hcc 4 _ rfl; rw [show i * k69.sz + 4 = i * 13 + 4 from rfl] at this; rw [← add_field _ _ 4 (by omega)]; exact this
      have ex5 : wr.cell? ⟨(ad.add (i * 13)).block, (ad.add (i * 13)).off + 5, none⟩ = some (.string x.f5) := by have := hcc 5 _ rfl; rw [show i * k69.sz + 5 = i * 13 + 5 from rfl] at this; rw [← add_field _ _ 5 (by omega)]; exact this
      have ex6 : wr.cell? ⟨(ad.add (i * 13)).block, (ad.add (i * 13)).off + 6, none⟩ = some (.string x.f6) := by have := hcc 6 _ rfl; rw [show i * k69.sz + 6 = i * 13 + 6 from rfl] at this; rw [← add_field _ _ 6 (by omega)]; exact this
      have ex7 : wr.cell? ⟨(ad.add (i * 13)).block, (ad.add (i * 13)).off + 7, none⟩ = some (.bool x.f7) := by have := hcc 7 _ rfl; rw [show i * k69.sz + 7 = i * 13 + 7 from rfl] at this; rw [← add_field _ _ 7 (by omega)]; exact this
      have ex8 : wr.cell? ⟨(ad.add (i * 13)).block, (ad.add (i * 13)).off + 8, none⟩ = some (.int .i64 x.f8) := by have := hcc 8 _ rfl; rw [show i * k69.sz + 8 = i * 13 + 8 from rfl] at this; rw [← add_field _ _ 8 (by omega)]; exact this
      have ex9 : wr.cell? ⟨(ad.add (i * 13)).block, (ad.add (i * 13)).off + 9, none⟩ = some (.string x.f9) := by have := hcc 9 _ rfl; rw [show i * k69.sz + 9 = i * 13 + 9 from rfl] at this; rw [← add_field _ _ 9 (by omega)]; exact this
      have ex10 : wr.cell? ⟨(ad.add (i * 13)).block, (ad.add (i * 13)).off + 10, none⟩ = some (.bool x.f10) := by have := hcc 10 _ rfl; rw [show i * k69.sz + 10 = i * 13 + 10 from rfl] at this; rw [← add_field _ _ 10 (by omega)]; exact this
      have ex11 : wr.cell? ⟨(ad.add (i * 13)).block, (ad.add (i * 13)).off + 11, none⟩ = some (.slice A11 x.f11.length c11) := by have := hcc 11 _ rfl; rw [show i * k69.sz + 11 = i * 13 + 11 from rfl] at this; rw [← add_field _ _ 11 (by omega)]; exact this
      have ex12 : wr.cell? ⟨(ad.add (i * 13)).block, (ad.add (i * 13)).off + 12, none⟩ = some (.slice A12 x.f12.length c12) := by have := hcc 12 _ rfl; rw [show i * k69.sz + 12 = i * 13 + 12 from rfl] at this; rw [← add_field _ _ 12 (by omega)]; exact this
      subst ea
      clear hcc hKx hxe
      have hxe := hy
      obtain ⟨bd, cc, ea, _, hKx, hcc⟩ := Kd.C_get hCb z69 (i : Int) (Int.natCast_nonneg _) (Int.ofNat_lt.2 hlb)
      rw [Int.toNat_natCast] at hKx hcc
      rw [hxe] at hKx
      obtain ⟨B11, d11, B12, d12, ecc, ld11, gd11, ld12, gd12⟩ := k69_open hKx
      subst ecc
      have ey0 : wr.cell? (bd.add (i * 13)) = some (.string y.f0) := by have := hcc 0 _ rfl; rwa [show i * k69.sz + 0 = i * 13 from rfl] at this
      have ey1 : wr.cell? ⟨(bd.add (i * 13)).block, (bd.add (i * 13)).off + 1, none⟩ = some (.int .i64 y.f1) := by have := hcc 1 _ rfl; rw [show i * k69.sz + 1 = i * 13 + 1 from rfl] at this; rw [← add_field _ _ 1 (by omega)]; exact this
      have ey2 : wr.cell? ⟨(bd.add (i * 13)).block, (bd.add (i * 13)).off + 2, none⟩ = some (.int .i64 y.f2) := by have := hcc 2 _ rfl; rw [show i * k69.sz + 2 = i * 13 + 2 from rfl] at this; rw [← add_field _ _ 2 (by omega)]; exact this
      have ey3 : wr.cell? ⟨(bd.add (i * 13)).block, (bd.add (i * 13)).off + 3, none⟩ = some (.int .i64 y.f3) := by have := hcc 3 _ rfl; rw [show i * k69.sz + 3 = i * 13 + 3 from rfl] at this; rw [← add_field _ _ 3 (by omega)]; exact this
      have ey4 : wr.cell? ⟨(bd.add (i * 13)).block, (bd.add (i * 13)).off + 4, none⟩ = some (.string y.f4) := by have := hcc 4 _ rfl; rw [show i * k69.sz + 4 = i * 13 + 4 from rfl] at this; rw [← add_field _ _ 4 (by omega)]; exact this
      have ey5 : wr.cell? ⟨(bd.add (i * 13)).block, (bd.add (i * 13)).off + 5, none⟩ = some (.string y.f5) := by have := hcc 5 _ rfl; rw [show i * k69.sz + 5 = i * 13 + 5 from rfl] at this; rw [← add_field _ _ 5 (by omega)]; exact this
      have ey6 : wr.cell? ⟨(bd.add (i * 13)).block, (bd.add (i * 13)).off + 6, none⟩ = some (.string y.f6) := by have := hcc 6 _ rfl; rw [show i * k69.sz + 6 = i * 13 + 6 from rfl] at this; rw [← add_field _ _ 6 (by omega)]; exact this
      have ey7 : wr.cell? ⟨(bd.add (i * 13)).block, (bd.add (i * 13)).off + 7, none⟩ = some (.bool y.f7) := by have := hcc 7 _ rfl; rw [show i * k69.sz + 7 = i * 13 + 7 from rfl] at this; rw [← add_field _ _ 7 (by omega)]; exact this
      have ey8 : wr.cell? ⟨(bd.add (i * 13)).block, (bd.add (i * 13)).off + 8, none⟩ = some (.int .i64 y.f8) := by have := hcc 8 _ rfl; rw [show i * k69.sz + 8 = i * 13 + 8 from rfl] at this; rw [← add_field _ _ 8 (by omega)]; exact this
      have ey9 : wr.cell? ⟨(bd.add (i * 13)).block, (bd.add (i * 13)).off + 9, none⟩ = some (.string y.f9) := by have := hcc 9 _ rfl; rw [show i * k69.sz + 9 = i * 13 + 9 from rfl] at this; rw [← add_field _ _ 9 (by omega)]; exact this
      have ey10 : wr.cell? ⟨(bd.add (i * 13)).block, (bd.add (i * 13)).off + 10, none⟩ = some (.bool y.f10) := by have := hcc 10 _ rfl; rw [show i * k69.sz + 10 = i * 13 + 10 from rfl] at this; rw [← add_field _ _ 10 (by omega)]; exact this
      have ey11 : wr.cell? ⟨(bd.add (i * 13)).block, (bd.add (i * 13)).off + 11, none⟩ = some (.slice B11 y.f11.length d11) := by have := hcc 11 _ rfl; rw [show i * k69.sz + 11 = i * 13 + 11 from rfl] at this; rw [← add_field _ _ 11 (by omega)]; exact this
      have ey12 : wr.cell? ⟨(bd.add (i * 13)).block, (bd.add (i * 13)).off + 12, none⟩ = some (.slice B12 y.f12.length d12) := by have := hcc 12 _ rfl; rw [show i * k69.sz + 12 = i * 13 + 12 from rfl] at this; rw [← add_field _ _ 12 (by omega)]; exact this
      subst ea
      clear hcc hKx hxe
      clear CA CB hx hy
      have HBr := mk0 (Below.refl wr.heap.size wr)
      obtain ⟨b0, h0⟩ : ∃ b, eqB x.f0 y.f0 = b := ⟨_, rfl⟩
      have s0 := str_eqB x.f0 y.f0
      have t0 := str_ne x.f0 y.f0
      rw [h0] at s0 t0
      have H0 := mk0 h0
      clear h0
      obtain ⟨b1, h1⟩ : ∃ b, eqB x.f1 y.f1 = b := ⟨_, rfl⟩
      have s1 := int_eqB x.f1 y.f1
      have t1 := int_ne x.f1 y.f1
      rw [h1] at s1 t1
      have H1 := mk0 h1
      clear h1
      obtain ⟨b2, h2⟩ : ∃ b, eqB x.f2 y.f2 = b := ⟨_, rfl⟩
      have s2 := int_eqB x.f2 y.f2
      have t2 := int_ne x.f2 y.f2
      rw [h2] at s2 t2
      have H2 := mk0 h2
      clear h2
      obtain ⟨b3, h3⟩ : ∃ b, eqB x.f3 y.f3 = b := ⟨_, rfl⟩
      have s3 := int_eqB x.f3 y.f3
      have t3 := int_ne x.f3 y.f3
      rw [h3] at s3 t3
      have H3 := mk0 h3
      clear h3
      obtain ⟨b4, h4⟩ : ∃ b, eqB x.f4 y.f4 = b := ⟨_, rfl⟩
      have s4 := str_eqB x.f4 y.f4
      have t4 := str_ne x.f4 y.f4
      rw [h4] at s4 t4
      have H4 := mk0 h4
      clear h4
      obtain ⟨b5, h5⟩ : ∃ b, eqB x.f5 y.f5 = b := ⟨_, rfl⟩
      have s5 := str_eqB x.f5 y.f5
      have t5 := str_ne x.f5 y.f5
      rw [h5] at s5 t5
      have H5 := mk0 h5
      clear h5
      obtain ⟨b6, h6⟩ : ∃ b, eqB x.f6 y.f6 = b := ⟨_, rfl⟩
      have s6 := str_eqB x.f6 y.f6
      have t6 := str_ne x.f6 y.f6
      rw [h6] at s6 t6
      have H6 := mk0 h6
      clear h6
      obtain ⟨b7, h7⟩ : ∃ b, eqB x.f7 y.f7 = b := ⟨_, rfl⟩
      have s7 := bool_eqB x.f7 y.f7
      have t7 := bool_ne x.f7 y.f7
      rw [h7] at s7 t7
      have H7 := mk0 h7
      clear h7
      obtain ⟨b8, h8⟩ : ∃ b, eqB x.f8 y.f8 = b := ⟨_, rfl⟩
      have s8 := int_eqB x.f8 y.f8
      have t8 := int_ne x.f8 y.f8
      rw [h8] at s8 t8
      have H8 := mk0 h8
      clear h8
      obtain ⟨b9, h9⟩ : ∃ b, eqB x.f9 y.f9 = b := ⟨_, rfl⟩
      have s9 := str_eqB x.f9 y.f9
      have t9 := str_ne x.f9 y.f9
      rw [h9] at s9 t9
      have H9 := mk0 h9
      clear h9
      obtain ⟨b10, h10⟩ : ∃ b, eqB x.f10 y.f10 = b := ⟨_, rfl⟩
      have s10 := bool_eqB x.f10 y.f10
      have t10 := bool_ne x.f10 y.f10
      rw [h10] at s10 t10
      have H10 := mk0 h10
      clear h10
      obtain ⟨b11, h11⟩ : ∃ b, eqB x.f11 y.f11 = b := ⟨_, rfl⟩
      have s11 := strOf_eqB (bytes_of_wf gx_.2.2.2.2.2.2.2.2.2.2.2.1.2) (bytes_of_wf gy_.2.2.2.2.2.2.2.2.2.2.2.1.2)
      have t11 := strOf_ne (bytes_of_wf gx_.2.2.2.2.2.2.2.2.2.2.2.1.2) (bytes_of_wf gy_.2.2.2.2.2.2.2.2.2.2.2.1.2)
      rw [h11] at s11 t11
      have H11 := mk0 h11
      clear h11
      obtain ⟨b12, h12⟩ : ∃ b, eqB x.f12 y.f12 = b := ⟨_, rfl⟩
      have s12 := strOf_eqB (bytes_of_wf gx_.2.2.2.2.2.2.2.2.2.2.2.2.2) (bytes_of_wf gy_.2.2.2.2.2.2.2.2.2.2.2.2.2)
      have t12 := strOf_ne (bytes_of_wf gx_.2.2.2.2.2.2.2.2.2.2.2.2.2) (bytes_of_wf gy_.2.2.2.2.2.2.2.2.2.2.2.2.2)
      rw [h12] at s12 t12
      have H12 := mk0 h12
      clear h12
      have HGx := mk0 gx_
      have HGy := mk0 gy_
      clear gx_ gy_
      obtain ⟨R, hR⟩ : ∃ r, (eqB x y = r) := ⟨_, rfl⟩
      have HR := mk0 hR
      clear hR
      have key : ((b0 = false ∧ R = false) ∨ (b0 = true ∧ b1 = false ∧ R = false) ∨ (b0 = true ∧ b1 = true ∧ b2 = false ∧ R = false) ∨ (b0 = true ∧ b1 = true ∧ b2 = true ∧ b3 = false ∧ R = false) ∨ (b0 = true ∧ b1 = true ∧ b2 = true ∧ b3 = true ∧ b4 = false ∧ R = false) ∨ (b0 = true ∧ b1 = true ∧ b2 = true ∧ b3 = true ∧ b4 = true ∧ b5 = false ∧ R = false) ∨ (b0 = true ∧ b1 = true ∧ b2 = true ∧ b3 = true ∧ b4 = true ∧ b5 = true ∧ b6 = false ∧ R = false) ∨ (b0 = true ∧ b1 = true ∧ b2 = true ∧ b3 = true ∧ b4 = true ∧ b5 = true ∧ b6 = true ∧ b7 = false ∧ R = false) ∨ (b0 = true ∧ b1 = true ∧ b2 = true ∧ b3 = true ∧ b4 = true ∧ b5 = true ∧ b6 = true ∧ b7 = true ∧ b8 = false ∧ R = false) ∨ (b0 = true ∧ b1 = true ∧ b2 = true ∧ b3 = true ∧ b4 = true ∧ b5 = true ∧ b6 = true ∧ b7 = true ∧ b8 = true ∧ b9 = false ∧ R = false) ∨ (b0 = true ∧ b1 = true ∧ b2 = true ∧ b3 = true ∧ b4 = true ∧ b5 = true ∧ b6 = true ∧ b7 = true ∧ b8 = true ∧ b9 = true ∧ b10 = false ∧ R = false) ∨ (b0 = true ∧ b1 = true ∧ b2 = true ∧ b3 = true ∧ b4 = true ∧ b5 = true ∧ b6 = true ∧ b7 = true ∧ b8 = true ∧ b9 = true ∧ b10 = true ∧ b11 = false ∧ R = false) ∨ (b0 = true ∧ b1 = true ∧ b2 = true ∧ b3 = true ∧ b4 = true ∧ b5 = true ∧ b6 = true ∧ b7 = true ∧ b8 = true ∧ b9 = true ∧ b10 = true ∧ b11 = true ∧ b12 = false ∧ R = false)) ∨ (b0 = true ∧ b1 = true ∧ b2 = true ∧ b3 = true ∧ b4 = true ∧ b5 = true ∧ b6 = true ∧ b7 = true ∧ b8 = true ∧ b9 = true ∧ b10 = true ∧ b11 = true ∧ b12 = true ∧ R = true) := by
       rw [← HR.out]
       cases b0
       · exact .inl (.inl ⟨rfl, eqB_field (fun z : S69 => z.f0) H0.out⟩)
       cases b1
       · exact .inl (.inr (.inl ⟨rfl, rfl, eqB_field (fun z : S69 => z.f1) H1.out⟩))
       cases b2
       · exact .inl (.inr (.inr (.inl ⟨rfl, rfl, rfl, eqB_field (fun z : S69 => z.f2) H2.out⟩)))
       cases b3
       · exact .inl (.inr (.inr (.inr (.inl ⟨rfl, rfl, rfl, rfl, eqB_field (fun z : S69 => z.f3) H3.out⟩))))
       cases b4
       · exact .inl (.inr (.inr (.inr (.inr (.inl ⟨rfl, rfl, rfl, rfl, rfl, eqB_field (fun z : S69 => z.f4) H4.out⟩)))))
       cases b5
       · exact .inl (.inr (.inr (.inr (.inr (.inr (.inl ⟨rfl, rfl, rfl, rfl, rfl, rfl, eqB_field (fun z : S69 => z.f5) H5.out⟩))))))
       cases b6
       · exact .inl (.inr (.inr (.inr (.inr (.inr (.inr (.inl ⟨rfl, rfl, rfl, rfl, rfl, rfl, rfl, eqB_field (fun z : S69 => z.f6) H6.out⟩)))))))
       cases b7
       · exact .inl (.inr (.inr (.inr (.inr (.inr (.inr (.inr (.inl ⟨rfl, rfl, rfl, rfl, rfl, rfl, rfl, rfl, eqB_field (fun z : S69 => z.f7) H7.out⟩))))))))
       cases b8
       · exact .inl (.inr (.inr (.inr (.inr (.inr (.inr (.inr (.inr (.inl ⟨rfl, rfl, rfl, rfl, rfl, rfl, rfl, rfl, rfl, eqB_field (fun z : S69 => z.f8) H8.out⟩)))))))))
       cases b9
       · exact .inl (.inr (.inr (.inr (.inr (.inr (.inr (.inr (.inr (.inr (.inl ⟨rfl, rfl, rfl, rfl, rfl, rfl, rfl, rfl, rfl, rfl, eqB_field (fun z : S69 => z.f9) H9.out⟩))))))))))
       cases b10
       · exact .inl (.inr (.inr (.inr (.inr (.inr (.inr (.inr (.inr (.inr (.inr (.inl ⟨rfl, rfl, rfl, rfl, rfl, rfl, rfl, rfl, rfl, rfl, rfl, eqB_field (fun z : S69 => z.f10) H10.out⟩)))))))))))
       cases b11
       · exact .inl (.inr (.inr (.inr (.inr (.inr (.inr (.inr (.inr (.inr (.inr (.inr (.inl ⟨rfl, rfl, rfl, rfl, rfl, rfl, rfl, rfl, rfl, rfl, rfl, rfl, eqB_field (fun z : S69 => z.f11) H11.out⟩))))))))))))
       cases b12
       · exact .inl (.inr (.inr (.inr (.inr (.inr (.inr (.inr (.inr (.inr (.inr (.inr (.inr (⟨rfl, rfl, rfl, rfl, rfl, rfl, rfl, rfl, rfl, rfl, rfl, rfl, rfl, eqB_field (fun z : S69 => z.f12) H12.out⟩)))))))))))))
       exact .inr ⟨rfl, rfl, rfl, rfl, rfl, rfl, rfl, rfl, rfl, rfl, rfl, rfl, rfl, eqB_t (xt_Field x y (eqB_of H0.out) (eqB_of H1.out) (eqB_of H2.out) (eqB_of H3.out) (eqB_of H4.out) (eqB_of H5.out) (eqB_of H6.out) (eqB_of H7.out) (eqB_of H8.out) (eqB_of H9.out) (eqB_of H10.out) (eqB_of H11.out) (eqB_of H12.out))⟩
      clear H0 H1 H2 H3 H4 H5 H6 H7 H8 H9 H10 H11 H12
      have HOK := mk0 hok
      have HNO := mk0 hno
      clear hok hno
      cases gk with
      | zero => exact absurd HI.out (fun h => Nat.ne_of_lt hlt h)
      | succ k1 =>
       go_wp2
       have n_ := mk0 (below_drew1 HBr.out)
       clear HBr
       have HBr := n_
       clear n_
       refine start_ (n := 12) (S := fun w' => w'.cell? (ad.add (i * 13)) = some (.string x.f0) ∧ w'.cell? ⟨(ad.add (i * 13)).block, (ad.add (i * 13)).off + 1, none⟩ = some (.int .i64 x.f1) ∧ w'.cell? ⟨(ad.add (i * 13)).block, (ad.add (i * 13)).off + 2, none⟩ = some (.int .i64 x.f2) ∧ w'.cell? ⟨(ad.add (i * 13)).block, (ad.add (i * 13)).off + 3, none⟩ = some (.int .i64 x.f3) ∧ w'.cell? ⟨(ad.add (i * 13)).block, (ad.add (i * 13)).off + 4, none⟩ = some (.string x.f4) ∧ w'.cell? ⟨(ad.add (i * 13)).block, (ad.add (i * 13)).off + 5, none⟩ = some (.string x.f5) ∧ w'.cell? ⟨(ad.add (i * 13)).block, (ad.add (i * 13)).off + 6, none⟩ = some (.string x.f6) ∧ w'.cell? ⟨(ad.add (i * 13)).block, (ad.add (i * 13)).off + 7, none⟩ = some (.bool x.f7) ∧ w'.cell? ⟨(ad.add (i * 13)).block, (ad.add (i * 13)).off + 8, none⟩ = some (.int .i64 x.f8) ∧ w'.cell? ⟨(ad.add (i * 13)).block, (ad.add (i * 13)).off + 9, none⟩ = some (.string x.f9) ∧ w'.cell? ⟨(ad.add (i * 13)).block, (ad.add (i * 13)).off + 10, none⟩ = some (.bool x.f10) ∧ w'.cell? ⟨(ad.add (i * 13)).block, (ad.add (i * 13)).off + 11, none⟩ = some (.slice A11 x.f11.length c11) ∧ w'.cell? ⟨(ad.add (i * 13)).block, (ad.add (i * 13)).off + 12, none⟩ = some (.slice A12 x.f12.length c12) ∧ w'.cell? (bd.add (i * 13)) = some (.string y.f0) ∧ w'.cell? ⟨(bd.add (i * 13)).block, (bd.add (i * 13)).off + 1, none⟩ = some (.int .i64 y.f1) ∧ w'.cell? ⟨(bd.add (i * 13)).block, (bd.add (i * 13)).off + 2, none⟩ = some (.int .i64 y.f2) ∧ w'.cell? ⟨(bd.add (i * 13)).block, (bd.add (i * 13)).off + 3, none⟩ = some (.int .i64 y.f3) ∧ w'.cell? ⟨(bd.add (i * 13)).block, (bd.add (i * 13)).off + 4, none⟩ = some (.string y.f4) ∧ w'.cell? ⟨(bd.add (i * 13)).block, (bd.add (i * 13)).off + 5, none⟩ = some (.string y.f5) ∧ w'.cell? ⟨(bd.add (i * 13)).block, (bd.add (i * 13)).off + 6, none⟩ = some (.string y.f6) ∧ w'.cell? ⟨(bd.add (i * 13)).block, (bd.add (i * 13)).off + 7, none⟩ = some (.bool y.f7) ∧ w'.cell? ⟨(bd.add (i * 13)).block, (bd.add (i * 13)).off + 8, none⟩ = some (.int .i64 y.f8) ∧ w'.cell? ⟨(bd.add (i * 13)).block, (bd.add (i * 13)).off + 9, none⟩ = some (.string y.f9) ∧ w'.cell? ⟨(bd.add (i * 13)).block, (bd.add (i * 13)).off + 10, none⟩ = some (.bool y.f10) ∧ w'.cell? ⟨(bd.add (i * 13)).block, (bd.add (i * 13)).off + 11, none⟩ = some (.slice B11 y.f11.length d11) ∧ w'.cell? ⟨(bd.add (i * 13)).block, (bd.add (i * 13)).off + 12, none⟩ = some (.slice B12 y.f12.length d12)) (ds := []) #[false, false, false, false, false, false, false, false, false, false, false, false] (by kernel_rfl) rfl rfl ⟨pw_cell_below HBr.out ex0, pw_cell_below HBr.out ex1, pw_cell_below HBr.out ex2, pw_cell_below HBr.out ex3, pw_cell_below HBr.out ex4, pw_cell_below HBr.out ex5, pw_cell_below HBr.out ex6, pw_cell_below HBr.out ex7, pw_cell_below HBr.out ex8, pw_cell_below HBr.out ex9, pw_cell_below HBr.out ex10, pw_cell_below HBr.out ex11, pw_cell_below HBr.out ex12, pw_cell_below HBr.out ey0, pw_cell_below HBr.out ey1, pw_cell_below HBr.out ey2, pw_cell_below HBr.out ey3, pw_cell_below HBr.out ey4, pw_cell_below HBr.out ey5, pw_cell_below HBr.out ey6, pw_cell_below HBr.out ey7, pw_cell_below HBr.out ey8, pw_cell_below HBr.out ey9, pw_cell_below HBr.out ey10, pw_cell_below HBr.out ey11, pw_cell_below HBr.out ey12⟩ (fun hHeld => ?_)
       refine with_tabW sameFields_t.tab6 sameFields_t.bits6 (fun HT_ HW_ => ?_)
       generalize wr.drew = wq at HBr hHeld ⊢
       refine pure_ (i := 0) (N := some 18) (v := ?_) (a' := ?_) #[true, false, false, false, false, false, false, false, false, false, false, false] rfl rfl (any_of HT_.out (by kernel_rfl)) (fun _ _ _ h => h) (Or.inl ⟨by rfl, ?_⟩) ?_ ?_
       rotate_left
       · intro w'
         go_simp
         with_reducible rfl
       rotate_left
       · simp only [Act.put, List.setIfInBounds_toArray, List.set_cons_zero, List.set_cons_succ, i64_w, i32_w]
         rfl
       refine pure_ (i := 1) (N := some 19) (v := ?_) (a' := ?_) #[true, true, false, false, false, false, false, false, false, false, false, false] rfl rfl (any_of HT_.out (by kernel_rfl)) (fun _ _ _ h => h) (Or.inl ⟨by rfl, ?_⟩) ?_ ?_
       rotate_left
       · intro w'
         go_simp
         with_reducible rfl
       rotate_left
       · simp only [Act.put, List.setIfInBounds_toArray, List.set_cons_zero, List.set_cons_succ, i64_w, i32_w]
         rfl
       refine pure_ (i := 4) (N := some 22) (v := ?_) (a' := ?_) #[true, true, false, false, true, false, false, false, false, false, false, false] rfl rfl (any_of HT_.out (by kernel_rfl)) (fun _ _ _ h => h) (Or.inl ⟨by rfl, ?_⟩) ?_ ?_
       rotate_left
       · intro w'
         go_simp
         with_reducible rfl
       rotate_left
       · simp only [Act.put, List.setIfInBounds_toArray, List.set_cons_zero, List.set_cons_succ, i64_w, i32_w]
         rfl
       refine pure_ (i := 5) (N := some 23) (v := ?_) (a' := ?_) #[true, true, false, false, true, true, false, false, false, false, false, false] rfl rfl (any_of HT_.out (by kernel_rfl)) (fun _ _ _ h => h) (Or.inl ⟨by rfl, ?_⟩) ?_ ?_
       rotate_left
       · intro w'
         go_simp
         with_reducible rfl
       rotate_left
       · simp only [Act.put, List.setIfInBounds_toArray, List.set_cons_zero, List.set_cons_succ, i64_w, i32_w]
         rfl
       refine take_ (i := 2) (N := some 20) (v := ?_) (a' := ?_) #[true, true, true, false, true, true, false, false, false, false, false, false] rfl rfl (take_ofW HT_.out HW_.out (by kernel_rfl)) (fun _ _ _ h => h) (Or.inl ⟨by rfl, ?_⟩) hHeld ?_ ?_
       rotate_left
       · rintro w' ⟨s0, s1, s2, s3, s4, s5, s6, s7, s8, s9, s10, s11, s12, s13, s14, s15, s16, s17, s18, s19, s20, s21, s22, s23, s24, s25⟩
         go_simp
         with_reducible rfl
       rotate_left
       · simp only [Act.put, List.setIfInBounds_toArray, List.set_cons_zero, List.set_cons_succ, i64_w, i32_w]
         rfl
       refine take_ (i := 3) (N := some 21) (v := ?_) (a' := ?_) #[true, true, true, true, true, true, false, false, false, false, false, false] rfl rfl (take_ofW HT_.out HW_.out (by kernel_rfl)) (fun _ _ _ h => h) (Or.inl ⟨by rfl, ?_⟩) hHeld ?_ ?_
       rotate_left
       · rintro w' ⟨s0, s1, s2, s3, s4, s5, s6, s7, s8, s9, s10, s11, s12, s13, s14, s15, s16, s17, s18, s19, s20, s21, s22, s23, s24, s25⟩
         go_simp
         with_reducible rfl
       rotate_left
       · simp only [Act.put, List.setIfInBounds_toArray, List.set_cons_zero, List.set_cons_succ, i64_w, i32_w]
         rfl
       refine take_ (i := 6) (N := some 24) (v := ?_) (a' := ?_) #[true, true, true, true, true, true, true, false, false, false, false, false] rfl rfl (take_ofW HT_.out HW_.out (by kernel_rfl)) (fun _ _ _ h => h) (Or.inl ⟨by rfl, ?_⟩) hHeld ?_ ?_
       rotate_left
       · rintro w' ⟨s0, s1, s2, s3, s4, s5, s6, s7, s8, s9, s10, s11, s12, s13, s14, s15, s16, s17, s18, s19, s20, s21, s22, s23, s24, s25⟩
         go_simp
         with_reducible rfl
       rotate_left
       · simp only [Act.put, List.setIfInBounds_toArray, List.set_cons_zero, List.set_cons_succ, i64_w, i32_w]
         rfl
       refine take_ (i := 7) (N := some 25) (v := ?_) (a' := ?_) #[true, true, true, true, true, true, true, true, false, false, false, false] rfl rfl (take_ofW HT_.out HW_.out (by kernel_rfl)) (fun _ _ _ h => h) (Or.inl ⟨by rfl, ?_⟩) hHeld ?_ ?_
       rotate_left
       · rintro w' ⟨s0, s1, s2, s3, s4, s5, s6, s7, s8, s9, s10, s11, s12, s13, s14, s15, s16, s17, s18, s19, s20, s21, s22, s23, s24, s25⟩
         go_simp
         with_reducible rfl
       rotate_left
       · simp only [Act.put, List.setIfInBounds_toArray, List.set_cons_zero, List.set_cons_succ, i64_w, i32_w]
         rfl
       refine join_ (σ := Nat × Nat) 2 #[true, true, true, true, true, true, true, true, true, true, false, false] (fun s_ => [(6, .pointer (some ⟨s_.1, 0, none⟩)), (7, .pointer (some ⟨s_.2, 0, none⟩))]) (fun s_ w' => w'.heap[s_.1]? = some (.cells #[.string (⟨#[]⟩ : ByteArray), .int .i64 0, .int .i64 0, .int .i64 0, .string (⟨#[]⟩ : ByteArray), .string (⟨#[]⟩ : ByteArray), .string (⟨#[]⟩ : ByteArray), .bool false, .int .i64 0, .string (⟨#[]⟩ : ByteArray), .bool false, .slice none 0 0, .slice none 0 0] 69 (0, 0)) ∧ w'.heap[s_.2]? = some (.cells #[.string (⟨#[]⟩ : ByteArray), .int .i64 0, .int .i64 0, .int .i64 0, .string (⟨#[]⟩ : ByteArray), .string (⟨#[]⟩ : ByteArray), .string (⟨#[]⟩ : ByteArray), .bool false, .int .i64 0, .string (⟨#[]⟩ : ByteArray), .bool false, .slice none 0 0, .slice none 0 0] 69 (0, 0)) ∧ s_.1 ≠ s_.2 ∧ wr.heap.size ≤ s_.1 ∧ wr.heap.size ≤ s_.2 ∧ Below wr.heap.size wr w') ?_ ?_
       rotate_left
       · intro hCont
         refine two_ (i := 8) (j := 9) (Ni := some 6) (Nj := some 7) #[true, true, true, true, true, true, true, true, true, false, false, false] #[true, true, true, true, true, true, true, true, false, true, false, false] rfl rfl rfl rfl (two_of HT_.out (by kernel_rfl)) (by decide) (by decide) (fun K hK => ?_) (fun K hK => ?_)
         · skip
           refine box_step ?hg (N := 6) ?hd (cs := #[.string (⟨#[]⟩ : ByteArray), .int .i64 0, .int .i64 0, .int .i64 0, .string (⟨#[]⟩ : ByteArray), .string (⟨#[]⟩ : ByteArray), .string (⟨#[]⟩ : ByteArray), .bool false, .int .i64 0, .string (⟨#[]⟩ : ByteArray), .bool false, .slice none 0 0, .slice none 0 0]) (t := 69) ?hr ?_; (case hd => rfl); (case hg => rfl); (case hr => first | (go_simp; done) | (go_simp; rfl))
           intro gx hg wq hbox hb
           have HG1 := mk0 (show wr.heap.size ≤ gx from hg ▸ HBr.out.size)
           have n_ := mk0 (below_then HBr.out HBr.out.size hb)
           clear HBr
           have HBr := n_
           clear n_
           have B1 := mk0 hbox
           clear hg hbox hb
           refine hK.out _ _ ⟨pw_cell_below HBr.out ex0, pw_cell_below HBr.out ex1, pw_cell_below HBr.out ex2, pw_cell_below HBr.out ex3, pw_cell_below HBr.out ex4, pw_cell_below HBr.out ex5, pw_cell_below HBr.out ex6, pw_cell_below HBr.out ex7, pw_cell_below HBr.out ex8, pw_cell_below HBr.out ex9, pw_cell_below HBr.out ex10, pw_cell_below HBr.out ex11, pw_cell_below HBr.out ex12, pw_cell_below HBr.out ey0, pw_cell_below HBr.out ey1, pw_cell_below HBr.out ey2, pw_cell_below HBr.out ey3, pw_cell_below HBr.out ey4, pw_cell_below HBr.out ey5, pw_cell_below HBr.out ey6, pw_cell_below HBr.out ey7, pw_cell_below HBr.out ey8, pw_cell_below HBr.out ey9, pw_cell_below HBr.out ey10, pw_cell_below HBr.out ey11, pw_cell_below HBr.out ey12⟩ (fun hHeld => ?_)
           clear hK K
           refine norm_ (a' := ?_) ?_ ?_
           rotate_left
           · show Act.put _ (some 6) _ = _
             simp only [Act.put, List.setIfInBounds_toArray, List.set_cons_zero, List.set_cons_succ, i64_w, i32_w]
             rfl
           refine one_ (i := 9) (N := some 7) #[true, true, true, true, true, true, true, true, true, true, false, false] rfl rfl (one_of HT_.out (by kernel_rfl)) (by decide) (fun K hK => ?_)
           refine box_step ?hg (N := 7) ?hd (cs := #[.string (⟨#[]⟩ : ByteArray), .int .i64 0, .int .i64 0, .int .i64 0, .string (⟨#[]⟩ : ByteArray), .string (⟨#[]⟩ : ByteArray), .string (⟨#[]⟩ : ByteArray), .bool false, .int .i64 0, .string (⟨#[]⟩ : ByteArray), .bool false, .slice none 0 0, .slice none 0 0]) (t := 69) ?hr ?_; (case hd => rfl); (case hg => rfl); (case hr => first | (go_simp; done) | (go_simp; rfl))
           intro gy hg wq hbox hb
           have HG2 := mk0 (show wr.heap.size ≤ gy from hg ▸ HBr.out.size)
           have HNE := mk0 (show gx ≠ gy from hg ▸ Nat.ne_of_lt (blk_lt B1.out))
           have n_ := mk0 (below_then HBr.out HBr.out.size hb)
           clear HBr
           have HBr := n_
           clear n_
           have n_ := mk0 (blk_below B1.out hb)
           clear B1
           have B1 := n_
           have B2 := mk0 hbox
           clear hg hbox hb n_
           refine hK.out _ _ ⟨pw_cell_below HBr.out ex0, pw_cell_below HBr.out ex1, pw_cell_below HBr.out ex2, pw_cell_below HBr.out ex3, pw_cell_below HBr.out ex4, pw_cell_below HBr.out ex5, pw_cell_below HBr.out ex6, pw_cell_below HBr.out ex7, pw_cell_below HBr.out ex8, pw_cell_below HBr.out ex9, pw_cell_below HBr.out ex10, pw_cell_below HBr.out ex11, pw_cell_below HBr.out ex12, pw_cell_below HBr.out ey0, pw_cell_below HBr.out ey1, pw_cell_below HBr.out ey2, pw_cell_below HBr.out ey3, pw_cell_below HBr.out ey4, pw_cell_below HBr.out ey5, pw_cell_below HBr.out ey6, pw_cell_below HBr.out ey7, pw_cell_below HBr.out ey8, pw_cell_below HBr.out ey9, pw_cell_below HBr.out ey10, pw_cell_below HBr.out ey11, pw_cell_below HBr.out ey12⟩ (fun hHeld => ?_)
           clear hK K
           refine norm_ (a' := ?_) ?_ ?_
           rotate_left
           · show Act.put _ (some 7) _ = _
             simp only [Act.put, List.setIfInBounds_toArray, List.set_cons_zero, List.set_cons_succ, i64_w, i32_w]
             rfl
           exact norm_ (by simp only [putAll, Act.put, List.setIfInBounds_toArray, List.set_cons_zero, List.set_cons_succ]) (hCont (gx, gy) _ ⟨B1.out, B2.out, HNE.out, HG1.out, HG2.out, HBr.out⟩)
         · skip
           refine box_step ?hg (N := 7) ?hd (cs := #[.string (⟨#[]⟩ : ByteArray), .int .i64 0, .int .i64 0, .int .i64 0, .string (⟨#[]⟩ : ByteArray), .string (⟨#[]⟩ : ByteArray), .string (⟨#[]⟩ : ByteArray), .bool false, .int .i64 0, .string (⟨#[]⟩ : ByteArray), .bool false, .slice none 0 0, .slice none 0 0]) (t := 69) ?hr ?_; (case hd => rfl); (case hg => rfl); (case hr => first | (go_simp; done) | (go_simp; rfl))
           intro gy hg wq hbox hb
           have HG1 := mk0 (show wr.heap.size ≤ gy from hg ▸ HBr.out.size)
           have n_ := mk0 (below_then HBr.out HBr.out.size hb)
           clear HBr
           have HBr := n_
           clear n_
           have B1 := mk0 hbox
           clear hg hbox hb
           refine hK.out _ _ ⟨pw_cell_below HBr.out ex0, pw_cell_below HBr.out ex1, pw_cell_below HBr.out ex2, pw_cell_below HBr.out ex3, pw_cell_below HBr.out ex4, pw_cell_below HBr.out ex5, pw_cell_below HBr.out ex6, pw_cell_below HBr.out ex7, pw_cell_below HBr.out ex8, pw_cell_below HBr.out ex9, pw_cell_below HBr.out ex10, pw_cell_below HBr.out ex11, pw_cell_below HBr.out ex12, pw_cell_below HBr.out ey0, pw_cell_below HBr.out ey1, pw_cell_below HBr.out ey2, pw_cell_below HBr.out ey3, pw_cell_below HBr.out ey4, pw_cell_below HBr.out ey5, pw_cell_below HBr.out ey6, pw_cell_below HBr.out ey7, pw_cell_below HBr.out ey8, pw_cell_below HBr.out ey9, pw_cell_below HBr.out ey10, pw_cell_below HBr.out ey11, pw_cell_below HBr.out ey12⟩ (fun hHeld => ?_)
           clear hK K
           refine norm_ (a' := ?_) ?_ ?_
           rotate_left
           · show Act.put _ (some 7) _ = _
             simp only [Act.put, List.setIfInBounds_toArray, List.set_cons_zero, List.set_cons_succ, i64_w, i32_w]
             rfl
           refine one_ (i := 8) (N := some 6) #[true, true, true, true, true, true, true, true, true, true, false, false] rfl rfl (one_of HT_.out (by kernel_rfl)) (by decide) (fun K hK => ?_)
           refine box_step ?hg (N := 6) ?hd (cs := #[.string (⟨#[]⟩ : ByteArray), .int .i64 0, .int .i64 0, .int .i64 0, .string (⟨#[]⟩ : ByteArray), .string (⟨#[]⟩ : ByteArray), .string (⟨#[]⟩ : ByteArray), .bool false, .int .i64 0, .string (⟨#[]⟩ : ByteArray), .bool false, .slice none 0 0, .slice none 0 0]) (t := 69) ?hr ?_; (case hd => rfl); (case hg => rfl); (case hr => first | (go_simp; done) | (go_simp; rfl))
           intro gx hg wq hbox hb
           have HG2 := mk0 (show wr.heap.size ≤ gx from hg ▸ HBr.out.size)
           have HNE := mk0 (show gy ≠ gx from hg ▸ Nat.ne_of_lt (blk_lt B1.out))
           have n_ := mk0 (below_then HBr.out HBr.out.size hb)
           clear HBr
           have HBr := n_
           clear n_
           have n_ := mk0 (blk_below B1.out hb)
           clear B1
           have B1 := n_
           have B2 := mk0 hbox
           clear hg hbox hb n_
           refine hK.out _ _ ⟨pw_cell_below HBr.out ex0, pw_cell_below HBr.out ex1, pw_cell_below HBr.out ex2, pw_cell_below HBr.out ex3, pw_cell_below HBr.out ex4, pw_cell_below HBr.out ex5, pw_cell_below HBr.out ex6, pw_cell_below HBr.out ex7, pw_cell_below HBr.out ex8, pw_cell_below HBr.out ex9, pw_cell_below HBr.out ex10, pw_cell_below HBr.out ex11, pw_cell_below HBr.out ex12, pw_cell_below HBr.out ey0, pw_cell_below HBr.out ey1, pw_cell_below HBr.out ey2, pw_cell_below HBr.out ey3, pw_cell_below HBr.out ey4, pw_cell_below HBr.out ey5, pw_cell_below HBr.out ey6, pw_cell_below HBr.out ey7, pw_cell_below HBr.out ey8, pw_cell_below HBr.out ey9, pw_cell_below HBr.out ey10, pw_cell_below HBr.out ey11, pw_cell_below HBr.out ey12⟩ (fun hHeld => ?_)
           clear hK K
           refine norm_ (a' := ?_) ?_ ?_
           rotate_left
           · show Act.put _ (some 6) _ = _
             simp only [Act.put, List.setIfInBounds_toArray, List.set_cons_zero, List.set_cons_succ, i64_w, i32_w]
             rfl
           exact norm_ (by simp only [putAll, Act.put, List.setIfInBounds_toArray, List.set_cons_zero, List.set_cons_succ]) (hCont (gx, gy) _ ⟨B2.out, B1.out, (HNE.out).symm, HG2.out, HG1.out, HBr.out⟩)
       clear HBr hHeld
       rintro ⟨gx, gy⟩ wq ⟨hBX_, hBY_, hne_, hGX_, hGY_, hB_⟩
       have BX := mk0 hBX_
       have BY := mk0 hBY_
       have HNE := mk0 hne_
       have HGX := mk0 hGX_
       have HGY := mk0 hGY_
       have HBr := mk0 hB_
       clear hBX_ hBY_ hne_ hGX_ hGY_ hB_
       refine norm_ (a' := ?_) ?_ ?_
       rotate_left
       · simp only [putAll, Act.put, List.setIfInBounds_toArray, List.set_cons_zero, List.set_cons_succ]
         rfl
       refine one_ (i := 10) (N := none) #[true, true, true, true, true, true, true, true, true, true, true, false] rfl rfl (one_of HT_.out (by kernel_rfl)) (by decide) (fun K hK => ?_)
       refine skip_ (w1 := wq.setRow gx #[.string x.f0, .int .i64 x.f1, .int .i64 x.f2, .int .i64 x.f3, .string x.f4, .string x.f5, .string x.f6, .bool x.f7, .int .i64 x.f8, .string x.f9, .bool x.f10, .slice A11 x.f11.length c11, .slice A12 x.f12.length c12]) (by rfl) rfl (store_skip rfl gx 69 _ _ rfl rfl BX.out (by kernel_rfl) rfl rfl) ?_
       have n0_ := mk0 (setRow_heap wq gx _ #[.string x.f0, .int .i64 x.f1, .int .i64 x.f2, .int .i64 x.f3, .string x.f4, .string x.f5, .string x.f6, .bool x.f7, .int .i64 x.f8, .string x.f9, .bool x.f10, .slice A11 x.f11.length c11, .slice A12 x.f12.length c12] 69 (0, 0) BX.out)
       have n1_ := mk0 ((setRow_other wq gx gy #[.string x.f0, .int .i64 x.f1, .int .i64 x.f2, .int .i64 x.f3, .string x.f4, .string x.f5, .string x.f6, .bool x.f7, .int .i64 x.f8, .string x.f9, .bool x.f10, .slice A11 x.f11.length c11, .slice A12 x.f12.length c12] HNE.out.symm).trans BY.out)
       have n2_ := mk0 (below_setRow HBr.out HGX.out #[.string x.f0, .int .i64 x.f1, .int .i64 x.f2, .int .i64 x.f3, .string x.f4, .string x.f5, .string x.f6, .bool x.f7, .int .i64 x.f8, .string x.f9, .bool x.f10, .slice A11 x.f11.length c11, .slice A12 x.f12.length c12])
       clear BX BY HBr
       generalize wq.setRow gx #[.string x.f0, .int .i64 x.f1, .int .i64 x.f2, .int .i64 x.f3, .string x.f4, .string x.f5, .string x.f6, .bool x.f7, .int .i64 x.f8, .string x.f9, .bool x.f10, .slice A11 x.f11.length c11, .slice A12 x.f12.length c12] = wq at n0_ n1_ n2_ ⊢
       have BX := n0_
       have BY := n1_
       have HBr := n2_
       clear n0_ n1_ n2_
       refine hK.out _ _ ⟨pw_cell_below HBr.out ex0, pw_cell_below HBr.out ex1, pw_cell_below HBr.out ex2, pw_cell_below HBr.out ex3, pw_cell_below HBr.out ex4, pw_cell_below HBr.out ex5, pw_cell_below HBr.out ex6, pw_cell_below HBr.out ex7, pw_cell_below HBr.out ex8, pw_cell_below HBr.out ex9, pw_cell_below HBr.out ex10, pw_cell_below HBr.out ex11, pw_cell_below HBr.out ex12, pw_cell_below HBr.out ey0, pw_cell_below HBr.out ey1, pw_cell_below HBr.out ey2, pw_cell_below HBr.out ey3, pw_cell_below HBr.out ey4, pw_cell_below HBr.out ey5, pw_cell_below HBr.out ey6, pw_cell_below HBr.out ey7, pw_cell_below HBr.out ey8, pw_cell_below HBr.out ey9, pw_cell_below HBr.out ey10, pw_cell_below HBr.out ey11, pw_cell_below HBr.out ey12⟩ (fun hHeld => ?_)
       clear hK K
       refine one_ (i := 11) (N := none) #[true, true, true, true, true, true, true, true, true, true, true, true] rfl rfl (one_of HT_.out (by kernel_rfl)) (by decide) (fun K hK => ?_)
       refine skip_ (w1 := wq.setRow gy #[.string y.f0, .int .i64 y.f1, .int .i64 y.f2, .int .i64 y.f3, .string y.f4, .string y.f5, .string y.f6, .bool y.f7, .int .i64 y.f8, .string y.f9, .bool y.f10, .slice B11 y.f11.length d11, .slice B12 y.f12.length d12]) (by rfl) rfl (store_skip rfl gy 69 _ _ rfl rfl BY.out (by kernel_rfl) rfl rfl) ?_
       have n0_ := mk0 (setRow_heap wq gy _ #[.string y.f0, .int .i64 y.f1, .int .i64 y.f2, .int .i64 y.f3, .string y.f4, .string y.f5, .string y.f6, .bool y.f7, .int .i64 y.f8, .string y.f9, .bool y.f10, .slice B11 y.f11.length d11, .slice B12 y.f12.length d12] 69 (0, 0) BY.out)
       have n1_ := mk0 ((setRow_other wq gy gx #[.string y.f0, .int .i64 y.f1, .int .i64 y.f2, .int .i64 y.f3, .string y.f4, .string y.f5, .string y.f6, .bool y.f7, .int .i64 y.f8, .string y.f9, .bool y.f10, .slice B11 y.f11.length d11, .slice B12 y.f12.length d12] HNE.out).trans BX.out)
       have n2_ := mk0 (below_setRow HBr.out HGY.out #[.string y.f0, .int .i64 y.f1, .int .i64 y.f2, .int .i64 y.f3, .string y.f4, .string y.f5, .string y.f6, .bool y.f7, .int .i64 y.f8, .string y.f9, .bool y.f10, .slice B11 y.f11.length d11, .slice B12 y.f12.length d12])
       clear BY BX HBr
       generalize wq.setRow gy #[.string y.f0, .int .i64 y.f1, .int .i64 y.f2, .int .i64 y.f3, .string y.f4, .string y.f5, .string y.f6, .bool y.f7, .int .i64 y.f8, .string y.f9, .bool y.f10, .slice B11 y.f11.length d11, .slice B12 y.f12.length d12] = wq at n0_ n1_ n2_ ⊢
       have BY := n0_
       have BX := n1_
       have HBr := n2_
       clear n0_ n1_ n2_
       refine hK.out _ _ ⟨pw_cell_below HBr.out ex0, pw_cell_below HBr.out ex1, pw_cell_below HBr.out ex2, pw_cell_below HBr.out ex3, pw_cell_below HBr.out ex4, pw_cell_below HBr.out ex5, pw_cell_below HBr.out ex6, pw_cell_below HBr.out ex7, pw_cell_below HBr.out ex8, pw_cell_below HBr.out ex9, pw_cell_below HBr.out ex10, pw_cell_below HBr.out ex11, pw_cell_below HBr.out ex12, pw_cell_below HBr.out ey0, pw_cell_below HBr.out ey1, pw_cell_below HBr.out ey2, pw_cell_below HBr.out ey3, pw_cell_below HBr.out ey4, pw_cell_below HBr.out ey5, pw_cell_below HBr.out ey6, pw_cell_below HBr.out ey7, pw_cell_below HBr.out ey8, pw_cell_below HBr.out ey9, pw_cell_below HBr.out ey10, pw_cell_below HBr.out ey11, pw_cell_below HBr.out ey12⟩ (fun hHeld => ?_)
       clear hK K
       refine done_ (done_of HT_.out (by kernel_rfl)) ?_
       have p0_ : _ = some ((.string x.f0) : Value) := (blk_cell BX.out 0).trans rfl
       have p1_ : _ = some ((.int .i64 x.f1) : Value) := (blk_cell BX.out 1).trans rfl
       have p2_ : _ = some ((.int .i64 x.f2) : Value) := (blk_cell BX.out 2).trans rfl
       have p3_ : _ = some ((.int .i64 x.f3) : Value) := (blk_cell BX.out 3).trans rfl
       have p4_ : _ = some ((.string x.f4) : Value) := (blk_cell BX.out 4).trans rfl
       have p5_ : _ = some ((.string x.f5) : Value) := (blk_cell BX.out 5).trans rfl
       have p6_ : _ = some ((.string x.f6) : Value) := (blk_cell BX.out 6).trans rfl
       have p7_ : _ = some ((.bool x.f7) : Value) := (blk_cell BX.out 7).trans rfl
       have p8_ : _ = some ((.int .i64 x.f8) : Value) := (blk_cell BX.out 8).trans rfl
       have p9_ : _ = some ((.string x.f9) : Value) := (blk_cell BX.out 9).trans rfl
       have p10_ : _ = some ((.bool x.f10) : Value) := (blk_cell BX.out 10).trans rfl
       have p11_ : _ = some ((.slice A11 x.f11.length c11) : Value) := (blk_cell BX.out 11).trans rfl
       have p12_ : _ = some ((.slice A12 x.f12.length c12) : Value) := (blk_cell BX.out 12).trans rfl
       have q0_ : _ = some ((.string y.f0) : Value) := (blk_cell BY.out 0).trans rfl
       have q1_ : _ = some ((.int .i64 y.f1) : Value) := (blk_cell BY.out 1).trans rfl
       have q2_ : _ = some ((.int .i64 y.f2) : Value) := (blk_cell BY.out 2).trans rfl
       have q3_ : _ = some ((.int .i64 y.f3) : Value) := (blk_cell BY.out 3).trans rfl
       have q4_ : _ = some ((.string y.f4) : Value) := (blk_cell BY.out 4).trans rfl
       have q5_ : _ = some ((.string y.f5) : Value) := (blk_cell BY.out 5).trans rfl
       have q6_ : _ = some ((.string y.f6) : Value) := (blk_cell BY.out 6).trans rfl
       have q7_ : _ = some ((.bool y.f7) : Value) := (blk_cell BY.out 7).trans rfl
       have q8_ : _ = some ((.int .i64 y.f8) : Value) := (blk_cell BY.out 8).trans rfl
       have q9_ : _ = some ((.string y.f9) : Value) := (blk_cell BY.out 9).trans rfl
       have q10_ : _ = some ((.bool y.f10) : Value) := (blk_cell BY.out 10).trans rfl
       have q11_ : _ = some ((.slice B11 y.f11.length d11) : Value) := (blk_cell BY.out 11).trans rfl
       have q12_ : _ = some ((.slice B12 y.f12.length d12) : Value) := (blk_cell BY.out 12).trans rfl
       have cx11 := Kd.C_string (P := Try.prog) (c := c11) Try.underlying28 Try.underlying5 Try.underlying9 (Kd.C_below gc11 HBr.out)
       have cx12 := Kd.C_string (P := Try.prog) (c := c12) Try.underlying28 Try.underlying5 Try.underlying9 (Kd.C_below gc12 HBr.out)
       have cy11 := Kd.C_string (P := Try.prog) (c := d11) Try.underlying28 Try.underlying5 Try.underlying9 (Kd.C_below gd11 HBr.out)
       have cy12 := Kd.C_string (P := Try.prog) (c := d12) Try.underlying28 Try.underlying5 Try.underlying9 (Kd.C_below gd12 HBr.out)
       clear ex0 ey0 ex1 ey1 ex2 ey2 ex3 ey3 ex4 ey4 ex5 ey5 ex6 ey6 ex7 ey7 ex8 ey8 ex9 ey9 ex10 ey10 ex11 ey11 ex12 ey12
       rcases key with key | key
       · rcases key with ⟨rfl, hR_⟩ | ⟨rfl, rfl, hR_⟩ | ⟨rfl, rfl, rfl, hR_⟩ | ⟨rfl, rfl, rfl, rfl, hR_⟩ | ⟨rfl, rfl, rfl, rfl, rfl, hR_⟩ | ⟨rfl, rfl, rfl, rfl, rfl, rfl, hR_⟩ | ⟨rfl, rfl, rfl, rfl, rfl, rfl, rfl, hR_⟩ | ⟨rfl, rfl, rfl, rfl, rfl, rfl, rfl, rfl, hR_⟩ | ⟨rfl, rfl, rfl, rfl, rfl, rfl, rfl, rfl, rfl, hR_⟩ | ⟨rfl, rfl, rfl, rfl, rfl, rfl, rfl, rfl, rfl, rfl, hR_⟩ | ⟨rfl, rfl, rfl, rfl, rfl, rfl, rfl, rfl, rfl, rfl, rfl, hR_⟩ | ⟨rfl, rfl, rfl, rfl, rfl, rfl, rfl, rfl, rfl, rfl, rfl, rfl, hR_⟩ | ⟨rfl, rfl, rfl, rfl, rfl, rfl, rfl, rfl, rfl, rfl, rfl, rfl, rfl, hR_⟩
         all_goals
          as_aux_lemma =>
           have HR_ := mk0 hR_
           clear hR_
           go_wp2
           go_ret
           exact ⟨by rw [(HNO.out (HR.out.trans HR_.out)).out]; rfl, below_then HB.out HB.out.size HBr.out⟩
       · as_aux_lemma =>
         obtain ⟨rfl, rfl, rfl, rfl, rfl, rfl, rfl, rfl, rfl, rfl, rfl, rfl, rfl, hR_⟩ := key
         have HR_ := mk0 hR_
         clear hR_
         have hwp1 := hwp.out
         go_wp2
         go_roundg k1
         case measure => exact Nat.lt_succ_self k1
         case rel => exact ⟨i + 1, (by first | rfl | (rw [hwp1]) | (simp [hwp1]; done)), ⟨(Nat.add_right_comm i 1 k1).trans HI.out⟩, ⟨below_then HB.out HB.out.size HBr.out⟩, HOK.out (HR.out.trans HR_.out)⟩
    · have d0 := dec_ge hlt
      have HE := mk0 (take_all a b HL.out i hlt HT.out)
      go_wp2
      go_ret
      exact ⟨by rw [HE.out]; rfl, HB.out⟩
 · have hn := len_bne hl
   have HE := mk0 (len_ne a b hl)
   clear hl
   go_enter Try.func34, Try.ntmps34
   go_wp2
   go_ret
   exact ⟨by rw [HE.out]; rfl, HB0.out⟩
end Go.Proofs.Yticnihfjnjliiaa.R1
