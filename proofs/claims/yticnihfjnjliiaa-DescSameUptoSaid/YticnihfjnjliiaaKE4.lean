/- Fields that are alike; lists of them. -/
import Derived.Test.YticnihfjnjliiaaKE3
import Derived.Test.YticnihfjnjliiaaKSw
import Derived.Deep.QuietTactic
import Derived.BigQuiet
namespace Go.Proofs.Yticnihfjnjliiaa.E1
open Go.RowKit Go.Proofs.Yticnihfjnjliiaa.GDescGrows Go.Proofs.YticnihfjnjliiaaW.PrintWords Go.Proofs.YticnihfjnjliiaaW.PrintLast Go.Proofs.YticnihfjnjliiaaW.PrintMore Go.Proofs.Yticnihfjnjliiaa.Vb Go.Proofs.Yticnihfjnjliiaa.Rk
set_option linter.unusedVariables false
set_option linter.unusedSimpArgs false
theorem extField (x y : S69) (h0 : x.f0 = y.f0) (h1 : x.f1 = y.f1) (h2 : x.f2 = y.f2) (h3 : x.f3 = y.f3) (h4 : x.f4 = y.f4) (h5 : x.f5 = y.f5) (h6 : x.f6 = y.f6) (h7 : x.f7 = y.f7) (h8 : x.f8 = y.f8) (h9 : x.f9 = y.f9) (h10 : x.f10 = y.f10) (h11 : x.f11 = y.f11) (h12 : x.f12 = y.f12) : x = y := by
 cases x; cases y
 dsimp only at h0 h1 h2 h3 h4 h5 h6 h7 h8 h9 h10 h11 h12
 subst h0 h1 h2 h3 h4 h5 h6 h7 h8 h9 h10 h11 h12
 rfl
set_option maxHeartbeats 8000000 in
set_option maxRecDepth 100000 in
theorem sameField (x y : S69) (gx : good69 x) (gy : good69 y) (w : World) (cs ds : List Value) (hx : k69.K w x cs) (hy : k69.K w y ds) : Calls Try.prog 30 #[.agg cs.toArray, .agg ds.toArray] w fun e w' => Eq_ (eqB x y) w e w' := by
 obtain ⟨A11, c11, A12, c12, rfl, lc11, gc11, lc12, gc12⟩ := k69_open hx
 obtain ⟨B11, d11, B12, d12, rfl, ld11, gd11, ld12, gd12⟩ := k69_open hy
 obtain ⟨b0, h0⟩ : ∃ b, eqB x.f0 y.f0 = b := ⟨_, rfl⟩
 have s0 := str_eqB x.f0 y.f0
 rw [h0] at s0
 have H0 := mk0 h0
 clear h0
 obtain ⟨b1, h1⟩ : ∃ b, eqB x.f1 y.f1 = b := ⟨_, rfl⟩
 have s1 := int_eqB x.f1 y.f1
 rw [h1] at s1
 have H1 := mk0 h1
 clear h1
 obtain ⟨b2, h2⟩ : ∃ b, eqB x.f2 y.f2 = b := ⟨_, rfl⟩
 have s2 := int_eqB x.f2 y.f2
 rw [h2] at s2
 have H2 := mk0 h2
 clear h2
 obtain ⟨b3, h3⟩ : ∃ b, eqB x.f3 y.f3 = b := ⟨_, rfl⟩
 have s3 := int_eqB x.f3 y.f3
 rw [h3] at s3
 have H3 := mk0 h3
 clear h3
 obtain ⟨b4, h4⟩ : ∃ b, eqB x.f4 y.f4 = b := ⟨_, rfl⟩
 have s4 := str_eqB x.f4 y.f4
 rw [h4] at s4
 have H4 := mk0 h4
 clear h4
 obtain ⟨b5, h5⟩ : ∃ b, eqB x.f5 y.f5 = b := ⟨_, rfl⟩
 have s5 := str_eqB x.f5 y.f5
 rw [h5] at s5
 have H5 := mk0 h5
 clear h5
 obtain ⟨b6, h6⟩ : ∃ b, eqB x.f6 y.f6 = b := ⟨_, rfl⟩
 have s6 := str_eqB x.f6 y.f6
 rw [h6] at s6
 have H6 := mk0 h6
 clear h6
 obtain ⟨b7, h7⟩ : ∃ b, eqB x.f7 y.f7 = b := ⟨_, rfl⟩
 have s7 := bool_eqB x.f7 y.f7
 rw [h7] at s7
 have H7 := mk0 h7
 clear h7
 obtain ⟨b8, h8⟩ : ∃ b, eqB x.f8 y.f8 = b := ⟨_, rfl⟩
 have s8 := int_eqB x.f8 y.f8
 rw [h8] at s8
 have H8 := mk0 h8
 clear h8
 obtain ⟨b9, h9⟩ : ∃ b, eqB x.f9 y.f9 = b := ⟨_, rfl⟩
 have s9 := str_eqB x.f9 y.f9
 rw [h9] at s9
 have H9 := mk0 h9
 clear h9
 obtain ⟨b10, h10⟩ : ∃ b, eqB x.f10 y.f10 = b := ⟨_, rfl⟩
 have s10 := bool_eqB x.f10 y.f10
 rw [h10] at s10
 have H10 := mk0 h10
 clear h10
 obtain ⟨b11, h11⟩ : ∃ b, eqB x.f11 y.f11 = b := ⟨_, rfl⟩
 have s11 := fun (W : World) (hW : Below w.heap.size w W) => eq20 x.f11 y.f11 (bytes_of_wf gx.2.2.2.2.2.2.2.2.2.2.2.1.2) (bytes_of_wf gy.2.2.2.2.2.2.2.2.2.2.2.1.2) A11 B11 c11 d11 W (Kd.C_below gc11 hW) (Kd.C_below gd11 hW)
 rw [h11] at s11
 have H11 := mk0 h11
 clear h11
 obtain ⟨b12, h12⟩ : ∃ b, eqB x.f12 y.f12 = b := ⟨_, rfl⟩
 have s12 := fun (W : World) (hW : Below w.heap.size w W) => eq20 x.f12 y.f12 (bytes_of_wf gx.2.2.2.2.2.2.2.2.2.2.2.2.2) (bytes_of_wf gy.2.2.2.2.2.2.2.2.2.2.2.2.2) A12 B12 c12 d12 W (Kd.C_below gc12 hW) (Kd.C_below gd12 hW)
 rw [h12] at s12
 have H12 := mk0 h12
 clear h12
 have HB : Aside0 (Below w.heap.size w ((w.alloc (.cells #[.string x.f0, .int .i64 x.f1, .int .i64 x.f2, .int .i64 x.f3, .string x.f4, .string x.f5, .string x.f6, .bool x.f7, .int .i64 x.f8, .string x.f9, .bool x.f10, .slice A11 x.f11.length c11, .slice A12 x.f12.length c12] 69)).alloc (.cells #[.string y.f0, .int .i64 y.f1, .int .i64 y.f2, .int .i64 y.f3, .string y.f4, .string y.f5, .string y.f6, .bool y.f7, .int .i64 y.f8, .string y.f9, .bool y.f10, .slice B11 y.f11.length d11, .slice B12 y.f12.length d12] 69))) := ⟨below_alloc (below_alloc (Below.refl _ _) _) _⟩
 have BX : Aside0 (((w.alloc (.cells #[.string x.f0, .int .i64 x.f1, .int .i64 x.f2, .int .i64 x.f3, .string x.f4, .string x.f5, .string x.f6, .bool x.f7, .int .i64 x.f8, .string x.f9, .bool x.f10, .slice A11 x.f11.length c11, .slice A12 x.f12.length c12] 69)).alloc (.cells #[.string y.f0, .int .i64 y.f1, .int .i64 y.f2, .int .i64 y.f3, .string y.f4, .string y.f5, .string y.f6, .bool y.f7, .int .i64 y.f8, .string y.f9, .bool y.f10, .slice B11 y.f11.length d11, .slice B12 y.f12.length d12] 69)).heap[w.heap.size]? = some (.cells #[.string x.f0, .int .i64 x.f1, .int .i64 x.f2, .int .i64 x.f3, .string x.f4, .string x.f5, .string x.f6, .bool x.f7, .int .i64 x.f8, .string x.f9, .bool x.f10, .slice A11 x.f11.length c11, .slice A12 x.f12.length c12] 69 (0, 0))) := ⟨blk_alloc (new1 _ _) _⟩
 have BY : Aside0 (((w.alloc (.cells #[.string x.f0, .int .i64 x.f1, .int .i64 x.f2, .int .i64 x.f3, .string x.f4, .string x.f5, .string x.f6, .bool x.f7, .int .i64 x.f8, .string x.f9, .bool x.f10, .slice A11 x.f11.length c11, .slice A12 x.f12.length c12] 69)).alloc (.cells #[.string y.f0, .int .i64 y.f1, .int .i64 y.f2, .int .i64 y.f3, .string y.f4, .string y.f5, .string y.f6, .bool y.f7, .int .i64 y.f8, .string y.f9, .bool y.f10, .slice B11 y.f11.length d11, .slice B12 y.f12.length d12] 69)).heap[w.heap.size + 1]? = some (.cells #[.string y.f0, .int .i64 y.f1, .int .i64 y.f2, .int .i64 y.f3, .string y.f4, .string y.f5, .string y.f6, .bool y.f7, .int .i64 y.f8, .string y.f9, .bool y.f10, .slice B11 y.f11.length d11, .slice B12 y.f12.length d12] 69 (0, 0))) := ⟨new2 _ _ _⟩
 obtain ⟨R, hR⟩ : ∃ r, eqB x y = r := ⟨_, rfl⟩
 have key : (b0 = false ∧ R = false) ∨ (b0 = true ∧ b1 = false ∧ R = false) ∨ (b0 = true ∧ b1 = true ∧ b2 = false ∧ R = false) ∨ (b0 = true ∧ b1 = true ∧ b2 = true ∧ b3 = false ∧ R = false) ∨ (b0 = true ∧ b1 = true ∧ b2 = true ∧ b3 = true ∧ b4 = false ∧ R = false) ∨ (b0 = true ∧ b1 = true ∧ b2 = true ∧ b3 = true ∧ b4 = true ∧ b5 = false ∧ R = false) ∨ (b0 = true ∧ b1 = true ∧ b2 = true ∧ b3 = true ∧ b4 = true ∧ b5 = true ∧ b6 = false ∧ R = false) ∨ (b0 = true ∧ b1 = true ∧ b2 = true ∧ b3 = true ∧ b4 = true ∧ b5 = true ∧ b6 = true ∧ b7 = false ∧ R = false) ∨ (b0 = true ∧ b1 = true ∧ b2 = true ∧ b3 = true ∧ b4 = true ∧ b5 = true ∧ b6 = true ∧ b7 = true ∧ b8 = false ∧ R = false) ∨ (b0 = true ∧ b1 = true ∧ b2 = true ∧ b3 = true ∧ b4 = true ∧ b5 = true ∧ b6 = true ∧ b7 = true ∧ b8 = true ∧ b9 = false ∧ R = false) ∨ (b0 = true ∧ b1 = true ∧ b2 = true ∧ b3 = true ∧ b4 = true ∧ b5 = true ∧ b6 = true ∧ b7 = true ∧ b8 = true ∧ b9 = true ∧ b10 = false ∧ R = false) ∨ (b0 = true ∧ b1 = true ∧ b2 = true ∧ b3 = true ∧ b4 = true ∧ b5 = true ∧ b6 = true ∧ b7 = true ∧ b8 = true ∧ b9 = true ∧ b10 = true ∧ b11 = false ∧ R = false) ∨ (b0 = true ∧ b1 = true ∧ b2 = true ∧ b3 = true ∧ b4 = true ∧ b5 = true ∧ b6 = true ∧ b7 = true ∧ b8 = true ∧ b9 = true ∧ b10 = true ∧ b11 = true ∧ b12 = false ∧ R = false) ∨ (b0 = true ∧ b1 = true ∧ b2 = true ∧ b3 = true ∧ b4 = true ∧ b5 = true ∧ b6 = true ∧ b7 = true ∧ b8 = true ∧ b9 = true ∧ b10 = true ∧ b11 = true ∧ b12 = true ∧ R = true) := by
  rw [← hR]
  cases b0
  · exact .inl (⟨rfl, eqB_field (fun z : S69 => z.f0) H0.out⟩)
  cases b1
  · exact .inr (.inl (⟨rfl, rfl, eqB_field (fun z : S69 => z.f1) H1.out⟩))
  cases b2
  · exact .inr (.inr (.inl (⟨rfl, rfl, rfl, eqB_field (fun z : S69 => z.f2) H2.out⟩)))
  cases b3
  · exact .inr (.inr (.inr (.inl (⟨rfl, rfl, rfl, rfl, eqB_field (fun z : S69 => z.f3) H3.out⟩))))
  cases b4
  · exact .inr (.inr (.inr (.inr (.inl (⟨rfl, rfl, rfl, rfl, rfl, eqB_field (fun z : S69 => z.f4) H4.out⟩)))))
  cases b5
  · exact .inr (.inr (.inr (.inr (.inr (.inl (⟨rfl, rfl, rfl, rfl, rfl, rfl, eqB_field (fun z : S69 => z.f5) H5.out⟩))))))
  cases b6
  · exact .inr (.inr (.inr (.inr (.inr (.inr (.inl (⟨rfl, rfl, rfl, rfl, rfl, rfl, rfl, eqB_field (fun z : S69 => z.f6) H6.out⟩)))))))
  cases b7
  · exact .inr (.inr (.inr (.inr (.inr (.inr (.inr (.inl (⟨rfl, rfl, rfl, rfl, rfl, rfl, rfl, rfl, eqB_field (fun z : S69 => z.f7) H7.out⟩))))))))
  cases b8
  · exact .inr (.inr (.inr (.inr (.inr (.inr (.inr (.inr (.inl (⟨rfl, rfl, rfl, rfl, rfl, rfl, rfl, rfl, rfl, eqB_field (fun z : S69 => z.f8) H8.out⟩)))))))))
  cases b9
  · exact .inr (.inr (.inr (.inr (.inr (.inr (.inr (.inr (.inr (.inl (⟨rfl, rfl, rfl, rfl, rfl, rfl, rfl, rfl, rfl, rfl, eqB_field (fun z : S69 => z.f9) H9.out⟩))))))))))
  cases b10
  · exact .inr (.inr (.inr (.inr (.inr (.inr (.inr (.inr (.inr (.inr (.inl (⟨rfl, rfl, rfl, rfl, rfl, rfl, rfl, rfl, rfl, rfl, rfl, eqB_field (fun z : S69 => z.f10) H10.out⟩)))))))))))
  cases b11
  · exact .inr (.inr (.inr (.inr (.inr (.inr (.inr (.inr (.inr (.inr (.inr (.inl (⟨rfl, rfl, rfl, rfl, rfl, rfl, rfl, rfl, rfl, rfl, rfl, rfl, eqB_field (fun z : S69 => z.f11) H11.out⟩))))))))))))
  cases b12
  · exact .inr (.inr (.inr (.inr (.inr (.inr (.inr (.inr (.inr (.inr (.inr (.inr (.inl (⟨rfl, rfl, rfl, rfl, rfl, rfl, rfl, rfl, rfl, rfl, rfl, rfl, rfl, eqB_field (fun z : S69 => z.f12) H12.out⟩)))))))))))))
  exact .inr (.inr (.inr (.inr (.inr (.inr (.inr (.inr (.inr (.inr (.inr (.inr (.inr (⟨rfl, rfl, rfl, rfl, rfl, rfl, rfl, rfl, rfl, rfl, rfl, rfl, rfl, eqB_t (extField x y (eqB_of H0.out) (eqB_of H1.out) (eqB_of H2.out) (eqB_of H3.out) (eqB_of H4.out) (eqB_of H5.out) (eqB_of H6.out) (eqB_of H7.out) (eqB_of H8.out) (eqB_of H9.out) (eqB_of H10.out) (eqB_of H11.out) (eqB_of H12.out))⟩)))))))))))))
 have HR := mk0 hR
 clear hR
 clear H0 H1 H2 H3 H4 H5 H6 H7 H8 H9 H10 H11 H12
 rcases key with ⟨rfl, rfl⟩ | ⟨rfl, rfl, rfl⟩ | ⟨rfl, rfl, rfl, rfl⟩ | ⟨rfl, rfl, rfl, rfl, rfl⟩ | ⟨rfl, rfl, rfl, rfl, rfl, rfl⟩ | ⟨rfl, rfl, rfl, rfl, rfl, rfl, rfl⟩ | ⟨rfl, rfl, rfl, rfl, rfl, rfl, rfl, rfl⟩ | ⟨rfl, rfl, rfl, rfl, rfl, rfl, rfl, rfl, rfl⟩ | ⟨rfl, rfl, rfl, rfl, rfl, rfl, rfl, rfl, rfl, rfl⟩ | ⟨rfl, rfl, rfl, rfl, rfl, rfl, rfl, rfl, rfl, rfl, rfl⟩ | ⟨rfl, rfl, rfl, rfl, rfl, rfl, rfl, rfl, rfl, rfl, rfl, rfl⟩ | ⟨rfl, rfl, rfl, rfl, rfl, rfl, rfl, rfl, rfl, rfl, rfl, rfl, rfl⟩ | ⟨rfl, rfl, rfl, rfl, rfl, rfl, rfl, rfl, rfl, rfl, rfl, rfl, rfl, rfl⟩ | ⟨rfl, rfl, rfl, rfl, rfl, rfl, rfl, rfl, rfl, rfl, rfl, rfl, rfl, rfl⟩
 all_goals
  go_enter Try.func30, Try.ntmps30
  go_wp2_with (first | (go_at_call 20; (with_reducible refine (s11 _ HB.out).mono ?_); rintro e w1 ⟨rfl, rfl⟩) | (go_at_call 20; (with_reducible refine (s12 _ HB.out).mono ?_); rintro e w1 ⟨rfl, rfl⟩))
  go_ret
  exact ⟨by rw [HR.out]; rfl, (by repeat (first | (with_reducible first | exact HB.out | apply below_alloc | apply pw_below_drewN | apply below_drew1) | exact HB.out))⟩
set_option maxHeartbeats 8000000 in
set_option maxRecDepth 100000 in
theorem eqfField (a b : List S69) (hcn : ∀ x ∈ a, ∀ y ∈ b, ∀ (W : World) (cs ds : List Value), k69.K W x cs → k69.K W y ds → Calls Try.prog 30 #[.agg cs.toArray, .agg ds.toArray] W fun e w' => Eq_ (eqB x y) W e w') (hla : a.length ≤ 9223372036854775807) (A B : Option Addr) (ca cb : Nat) (w : World) (CA : Kd.C k69 w A a.length a) (CB : Kd.C k69 w B b.length b) :
 Calls Try.prog 29 #[.slice A a.length ca, .slice B b.length cb, .func (.func 30) #[] #[]] w fun e w' => Eq_ (eqB a b) w e w' := by
 have HB0 := mk0 (Below.refl w.heap.size w)
 have HA := mk0 CA
 have HC := mk0 CB
 by_cases hl : a.length = b.length
 · have HL := mk0 hl
   have hn := len_beq hl
   clear hl
   go_enter Try.func29, Try.ntmps29
   go_wp2
   go_loopg [17] a.length (fun kq v17 w' => ∃ i : Nat, v17 = .int .i64 (i : Int) ∧ Aside0 (i + kq = a.length) ∧ Aside0 (Below w.heap.size w w') ∧ Aside0 (a.take i = b.take i))
   case atStart =>
    exact ⟨0, rfl, ⟨by omega⟩, ⟨HB0.out⟩, ⟨by simp⟩⟩
   case round =>
    obtain ⟨i, rfl, HI, HB, HT⟩ := hrel
    by_cases hlt : i < a.length
    · have hwp : wrap64 ((i : Int) + 1) = ((i + 1 : Nat) : Int) := by unfold wrap64; omega
      have hlb : i < b.length := by have := HL.out; omega
      have d0 : decide ((i : Int) < (a.length : Int)) = true := decide_eq_true (by omega)
      have p0 : (0 ≤ (i : Int)) = True := eq_true (by omega)
      have q0 : ((i : Int) < (a.length : Int)) = True := eq_true (by omega)
      have q1 : ((i : Int) < (b.length : Int)) = True := eq_true (by omega)
      obtain ⟨x, hx⟩ : ∃ x, a.getD i z69 = x := ⟨_, rfl⟩
      obtain ⟨y, hy⟩ : ∃ y, b.getD i z69 = y := ⟨_, rfl⟩
      have hmx : x ∈ a := by rw [← hx]; simp [hlt]
      have hmy : y ∈ b := by rw [← hy]; simp [hlb]
      have hc := hcn x hmx y hmy
      have hok : x = y → Aside0 (a.take (i + 1) = b.take (i + 1)) := fun h => ⟨take_eq z69 a b HL.out i hlt HT.out (by rw [hx, hy, h])⟩
      have hno : ¬ x = y → Aside0 (eqB a b = false) := fun h => ⟨take_ne z69 a b i (by rw [hx, hy]; exact h)⟩
      obtain ⟨ad, cx, ea, _, hKx, hcx⟩ := Kd.C_get (Kd.C_below HA.out HB.out) z69 (i : Int) (by omega) (by omega)
      obtain ⟨bd, cy, eb, _, hKy, hcy⟩ := Kd.C_get (Kd.C_below HC.out HB.out) z69 (i : Int) (by omega) (by omega)
      rw [Int.toNat_natCast] at hKx hcx hKy hcy
      rw [hx] at hKx
      rw [hy] at hKy
      obtain ⟨A11, c11, A12, c12, ecx, lc11, gc11, lc12, gc12⟩ := k69_open hKx
      obtain ⟨B11, d11, B12, d12, ecy, ld11, gd11, ld12, gd12⟩ := k69_open hKy
      subst ecx ecy
      have e0_ : wr.cell? (ad.add (i * 13)) = some (.string x.f0) := by have := hcx 0 _ rfl; rwa [show i * k69.sz + 0 = i * 13 from rfl] at this
      have e1_ : wr.cell? ⟨(ad.add (i * 13)).block, (ad.add (i * 13)).off + 1, none⟩ = some (.int .i64 x.f1) := by have := hcx 1 _ rfl; rw [show i * k69.sz + 1 = i * 13 + 1 from rfl] at this; rw [← add_field _ _ 1 (by omega)]; exact this
      have e2_ : wr.cell? ⟨(ad.add (i * 13)).block, (ad.add (i * 13)).off + 2, none⟩ = some (.int .i64 x.f2) := by have := hcx 2 _ rfl; rw [show i * k69.sz + 2 = i * 13 + 2 from rfl] at this; rw [← add_field _ _ 2 (by omega)]; exact this
      have e3_ : wr.cell? ⟨(ad.add (i * 13)).block, (ad.add (i * 13)).off + 3, none⟩ = some (.int .i64 x.f3) := by have := hcx 3 _ rfl; rw [show i * k69.sz + 3 = i * 13 + 3 from rfl] at this; rw [← add_field _ _ 3 (by omega)]; exact this
      have e4_ : wr.cell? ⟨(ad.add (i * 13)).block, (ad.add (i * 13)).off + 4, none⟩ = some (.string x.f4) := by have := hcx 4 _ rfl; rw [show i * k69.sz + 4 = i * 13 + 4 from rfl] at this; rw [← add_field _ _ 4 (by omega)]; exact this
      have e5_ : wr.cell? ⟨(ad.add (i * 13)).block, (ad.add (i * 13)).off + 5, none⟩ = some (.string x.f5) := by have := hcx 5 _ rfl; rw [show i * k69.sz + 5 = i * 13 + 5 from rfl] at this; rw [← add_field _ _ 5 (by omega)]; exact this
      have e6_ : wr.cell? ⟨(ad.add (i * 13)).block, (ad.add (i * 13)).off + 6, none⟩ = some (.string x.f6) := by have := hcx 6 _ rfl; rw [show i * k69.sz + 6 = i * 13 + 6 from rfl] at this; rw [← add_field _ _ 6 (by omega)]; exact this
      have e7_ : wr.cell? ⟨(ad.add (i * 13)).block, (ad.add (i * 13)).off + 7, none⟩ = some (.bool x.f7) := by have := hcx 7 _ rfl; rw [show i * k69.sz + 7 = i * 13 + 7 from rfl] at this; rw [← add_field _ _ 7 (by omega)]; exact this
      have e8_ : wr.cell? ⟨(ad.add (i * 13)).block, (ad.add (i * 13)).off + 8, none⟩ = some (.int .i64 x.f8) := by have := hcx 8 _ rfl; rw [show i * k69.sz + 8 = i * 13 + 8 from rfl] at this; rw [← add_field _ _ 8 (by omega)]; exact this
      have e9_ : wr.cell? ⟨(ad.add (i * 13)).block, (ad.add (i * 13)).off + 9, none⟩ = some (.string x.f9) := by have := hcx 9 _ rfl; rw [show i * k69.sz + 9 = i * 13 + 9 from rfl] at this; rw [← add_field _ _ 9 (by omega)]; exact this
      have e10_ : wr.cell? ⟨(ad.add (i * 13)).block, (ad.add (i * 13)).off + 10, none⟩ = some (.bool x.f10) := by have := hcx 10 _ rfl; rw [show i * k69.sz + 10 = i * 13 + 10 from rfl] at this; rw [← add_field _ _ 10 (by omega)]; exact this
      have e11_ : wr.cell? ⟨(ad.add (i * 13)).block, (ad.add (i * 13)).off + 11, none⟩ = some (.slice A11 x.f11.length c11) := by have := hcx 11 _ rfl; rw [show i * k69.sz + 11 = i * 13 + 11 from rfl] at this; rw [← add_field _ _ 11 (by omega)]; exact this
      have e12_ : wr.cell? ⟨(ad.add (i * 13)).block, (ad.add (i * 13)).off + 12, none⟩ = some (.slice A12 x.f12.length c12) := by have := hcx 12 _ rfl; rw [show i * k69.sz + 12 = i * 13 + 12 from rfl] at this; rw [← add_field _ _ 12 (by omega)]; exact this
      have f0_ : wr.cell? (bd.add (i * 13)) = some (.string y.f0) := by have := hcy 0 _ rfl; rwa [show i * k69.sz + 0 = i * 13 from rfl] at this
      have f1_ : wr.cell? ⟨(bd.add (i * 13)).block, (bd.add (i * 13)).off + 1, none⟩ = some (.int .i64 y.f1) := by have := hcy 1 _ rfl; rw [show i * k69.sz + 1 = i * 13 + 1 from rfl] at this; rw [← add_field _ _ 1 (by omega)]; exact this
      have f2_ : wr.cell? ⟨(bd.add (i * 13)).block, (bd.add (i * 13)).off + 2, none⟩ = some (.int .i64 y.f2) := by have := hcy 2 _ rfl; rw [show i * k69.sz + 2 = i * 13 + 2 from rfl] at this; rw [← add_field _ _ 2 (by omega)]; exact this
      have f3_ : wr.cell? ⟨(bd.add (i * 13)).block, (bd.add (i * 13)).off + 3, none⟩ = some (.int .i64 y.f3) := by have := hcy 3 _ rfl; rw [show i * k69.sz + 3 = i * 13 + 3 from rfl] at this; rw [← add_field _ _ 3 (by omega)]; exact this
      have f4_ : wr.cell? ⟨(bd.add (i * 13)).block, (bd.add (i * 13)).off + 4, none⟩ = some (.string y.f4) := by have := hcy 4 _ rfl; rw [show i * k69.sz + 4 = i * 13 + 4 from rfl] at this; rw [← add_field _ _ 4 (by omega)]; exact this
      have f5_ : wr.cell? ⟨(bd.add (i * 13)).block, (bd.add (i * 13)).off + 5, none⟩ = some (.string y.f5) := by have := hcy 5 _ rfl; rw [show i * k69.sz + 5 = i * 13 + 5 from rfl] at this; rw [← add_field _ _ 5 (by omega)]; exact this
      have f6_ : wr.cell? ⟨(bd.add (i * 13)).block, (bd.add (i * 13)).off + 6, none⟩ = some (.string y.f6) := by have := hcy 6 _ rfl; rw [show i * k69.sz + 6 = i * 13 + 6 from rfl] at this; rw [← add_field _ _ 6 (by omega)]; exact this
      have f7_ : wr.cell? ⟨(bd.add (i * 13)).block, (bd.add (i * 13)).off + 7, none⟩ = some (.bool y.f7) := by have := hcy 7 _ rfl; rw [show i * k69.sz + 7 = i * 13 + 7 from rfl] at this; rw [← add_field _ _ 7 (by omega)]; exact this
      have f8_ : wr.cell? ⟨(bd.add (i * 13)).block, (bd.add (i * 13)).off + 8, none⟩ = some (.int .i64 y.f8) := by have := hcy 8 _ rfl; rw [show i * k69.sz + 8 = i * 13 + 8 from rfl] at this; rw [← add_field _ _ 8 (by omega)]; exact this
      have f9_ : wr.cell? ⟨(bd.add (i * 13)).block, (bd.add (i * 13)).off + 9, none⟩ = some (.string y.f9) := by have := hcy 9 _ rfl; rw [show i * k69.sz + 9 = i * 13 + 9 from rfl] at this; rw [← add_field _ _ 9 (by omega)]; exact this
      have f10_ : wr.cell? ⟨(bd.add (i * 13)).block, (bd.add (i * 13)).off + 10, none⟩ = some (.bool y.f10) := by have := hcy 10 _ rfl; rw [show i * k69.sz + 10 = i * 13 + 10 from rfl] at this; rw [← add_field _ _ 10 (by omega)]; exact this
      have f11_ : wr.cell? ⟨(bd.add (i * 13)).block, (bd.add (i * 13)).off + 11, none⟩ = some (.slice B11 y.f11.length d11) := by have := hcy 11 _ rfl; rw [show i * k69.sz + 11 = i * 13 + 11 from rfl] at this; rw [← add_field _ _ 11 (by omega)]; exact this
      have f12_ : wr.cell? ⟨(bd.add (i * 13)).block, (bd.add (i * 13)).off + 12, none⟩ = some (.slice B12 y.f12.length d12) := by have := hcy 12 _ rfl; rw [show i * k69.sz + 12 = i * 13 + 12 from rfl] at this; rw [← add_field _ _ 12 (by omega)]; exact this
      clear CA CB
      subst ea eb
      clear hx hy hcx hcy hmx hmy
      obtain ⟨r, hr⟩ : ∃ r, eqB x y = r := ⟨_, rfl⟩
      rw [hr] at hc
      have hok' : r = true → Aside0 (a.take (i + 1) = b.take (i + 1)) := fun h => hok (eqB_of (hr.trans h))
      have hno' : r = false → Aside0 (eqB a b = false) := fun h => hno (fun e => by rw [eqB_t e] at hr; rw [← hr] at h; cases h)
      clear hok hno hr
      cases gk with
      | zero => exact absurd HI.out (by omega)
      | succ k1 =>
       cases r
       · replace hno := hno' rfl
         clear hok' hno'
         go_wp2_with (first | ((with_reducible refine gate_dst (N := 8) rfl ?_); (try (refine gate_guard (by rfl) ?_; dsimp only)); refine box_event ?hg (N := 8) ?hd (cs := #[.string (⟨#[]⟩ : ByteArray), .int .i64 0, .int .i64 0, .int .i64 0, .string (⟨#[]⟩ : ByteArray), .string (⟨#[]⟩ : ByteArray), .string (⟨#[]⟩ : ByteArray), .bool false, .int .i64 0, .string (⟨#[]⟩ : ByteArray), .bool false, .slice none 0 0, .slice none 0 0]) (t := 69) ?hr ?_; (case hd => rfl); (case hg => rfl); (case hr => first | (go_simp; done) | (go_simp; rfl)); intro gx hg9 w9x hbox hb9; have HNx := mk0 hb9; have BNx := mk0 hbox; have HGx := mk0 hg9; clear hb9 hbox hg9) | ((with_reducible refine gate_store (t := 69) (p := 8) rfl ?_); refine Go.Proofs.Yticnihfjnjliiaa.Sw.store_whole rfl rfl rfl gx 69 _ _ rfl rfl BNx.out (by kernel_rfl) rfl rfl ?_; intro wx hS_ hbS_ hkS_; have HSx := mk0 (hbS_ wr.heap.size wr (Nat.le_of_eq HGx.out.symm) HNx.out); have BSx := mk0 hS_; clear hS_ hbS_ hkS_ BNx; have f0_n := pw_cell_below HSx.out f0_; have f1_n := pw_cell_below HSx.out f1_; have f2_n := pw_cell_below HSx.out f2_; have f3_n := pw_cell_below HSx.out f3_; have f4_n := pw_cell_below HSx.out f4_; have f5_n := pw_cell_below HSx.out f5_; have f6_n := pw_cell_below HSx.out f6_; have f7_n := pw_cell_below HSx.out f7_; have f8_n := pw_cell_below HSx.out f8_; have f9_n := pw_cell_below HSx.out f9_; have f10_n := pw_cell_below HSx.out f10_; have f11_n := pw_cell_below HSx.out f11_; have f12_n := pw_cell_below HSx.out f12_) | ((with_reducible refine gate_dst (N := 9) rfl ?_); (try (refine gate_guard (by rfl) ?_; dsimp only)); refine box_event ?hg (N := 9) ?hd (cs := #[.string (⟨#[]⟩ : ByteArray), .int .i64 0, .int .i64 0, .int .i64 0, .string (⟨#[]⟩ : ByteArray), .string (⟨#[]⟩ : ByteArray), .string (⟨#[]⟩ : ByteArray), .bool false, .int .i64 0, .string (⟨#[]⟩ : ByteArray), .bool false, .slice none 0 0, .slice none 0 0]) (t := 69) ?hr ?_; (case hd => rfl); (case hg => rfl); (case hr => first | (go_simp; done) | (go_simp; rfl)); intro gy hg9 w9y hbox hb9; have HNy := mk0 hb9; have BNy := mk0 hbox; have HGy := mk0 hg9; clear hb9 hbox hg9) | ((with_reducible refine gate_store (t := 69) (p := 9) rfl ?_); refine Go.Proofs.Yticnihfjnjliiaa.Sw.store_whole rfl rfl rfl gy 69 _ _ rfl rfl BNy.out (by kernel_rfl) rfl rfl ?_; intro wy hS_ hbS_ hkS_; have HSy := mk0 (hbS_ wx.heap.size wx (Nat.le_of_eq HGy.out.symm) HNy.out); have BSy := mk0 hS_; clear hS_ hbS_ hkS_ BNy; have BZx := mk0 (blk_below BSx.out HSy.out); have HZ := mk0 (below_then HSx.out HSx.out.size HSy.out); have p0 : _ = some ((.string x.f0) : Value) := (blk_cell BZx.out 0).trans rfl; have p1 : _ = some ((.int .i64 x.f1) : Value) := (blk_cell BZx.out 1).trans rfl; have p2 : _ = some ((.int .i64 x.f2) : Value) := (blk_cell BZx.out 2).trans rfl; have p3 : _ = some ((.int .i64 x.f3) : Value) := (blk_cell BZx.out 3).trans rfl; have p4 : _ = some ((.string x.f4) : Value) := (blk_cell BZx.out 4).trans rfl; have p5 : _ = some ((.string x.f5) : Value) := (blk_cell BZx.out 5).trans rfl; have p6 : _ = some ((.string x.f6) : Value) := (blk_cell BZx.out 6).trans rfl; have p7 : _ = some ((.bool x.f7) : Value) := (blk_cell BZx.out 7).trans rfl; have p8 : _ = some ((.int .i64 x.f8) : Value) := (blk_cell BZx.out 8).trans rfl; have p9 : _ = some ((.string x.f9) : Value) := (blk_cell BZx.out 9).trans rfl; have p10 : _ = some ((.bool x.f10) : Value) := (blk_cell BZx.out 10).trans rfl; have p11 : _ = some ((.slice A11 x.f11.length c11) : Value) := (blk_cell BZx.out 11).trans rfl; have p12 : _ = some ((.slice A12 x.f12.length c12) : Value) := (blk_cell BZx.out 12).trans rfl; have q0 : _ = some ((.string y.f0) : Value) := (blk_cell BSy.out 0).trans rfl; have q1 : _ = some ((.int .i64 y.f1) : Value) := (blk_cell BSy.out 1).trans rfl; have q2 : _ = some ((.int .i64 y.f2) : Value) := (blk_cell BSy.out 2).trans rfl; have q3 : _ = some ((.int .i64 y.f3) : Value) := (blk_cell BSy.out 3).trans rfl; have q4 : _ = some ((.string y.f4) : Value) := (blk_cell BSy.out 4).trans rfl; have q5 : _ = some ((.string y.f5) : Value) := (blk_cell BSy.out 5).trans rfl; have q6 : _ = some ((.string y.f6) : Value) := (blk_cell BSy.out 6).trans rfl; have q7 : _ = some ((.bool y.f7) : Value) := (blk_cell BSy.out 7).trans rfl; have q8 : _ = some ((.int .i64 y.f8) : Value) := (blk_cell BSy.out 8).trans rfl; have q9 : _ = some ((.string y.f9) : Value) := (blk_cell BSy.out 9).trans rfl; have q10 : _ = some ((.bool y.f10) : Value) := (blk_cell BSy.out 10).trans rfl; have q11 : _ = some ((.slice B11 y.f11.length d11) : Value) := (blk_cell BSy.out 11).trans rfl; have q12 : _ = some ((.slice B12 y.f12.length d12) : Value) := (blk_cell BSy.out 12).trans rfl) | (go_at_call 30; (with_reducible refine (hc _ [.string x.f0, .int .i64 x.f1, .int .i64 x.f2, .int .i64 x.f3, .string x.f4, .string x.f5, .string x.f6, .bool x.f7, .int .i64 x.f8, .string x.f9, .bool x.f10, .slice A11 x.f11.length c11, .slice A12 x.f12.length c12] [.string y.f0, .int .i64 y.f1, .int .i64 y.f2, .int .i64 y.f3, .string y.f4, .string y.f5, .string y.f6, .bool y.f7, .int .i64 y.f8, .string y.f9, .bool y.f10, .slice B11 y.f11.length d11, .slice B12 y.f12.length d12] (k69_mk _ x lc11 (Kd.C_below gc11 HZ.out) lc12 (Kd.C_below gc12 HZ.out)) (k69_mk _ y ld11 (Kd.C_below gd11 HZ.out) ld12 (Kd.C_below gd12 HZ.out))).mono ?_); rintro e w1 ⟨rfl, hb⟩; have HE_ := mk0 (below_then HZ.out HZ.out.size hb); clear hb))
         go_ret
         exact ⟨by rw [hno.out]; rfl, below_then HB.out HB.out.size HE_.out⟩
       · replace hok := hok' rfl
         clear hok' hno'
         go_wp2_with (first | ((with_reducible refine gate_dst (N := 8) rfl ?_); (try (refine gate_guard (by rfl) ?_; dsimp only)); refine box_event ?hg (N := 8) ?hd (cs := #[.string (⟨#[]⟩ : ByteArray), .int .i64 0, .int .i64 0, .int .i64 0, .string (⟨#[]⟩ : ByteArray), .string (⟨#[]⟩ : ByteArray), .string (⟨#[]⟩ : ByteArray), .bool false, .int .i64 0, .string (⟨#[]⟩ : ByteArray), .bool false, .slice none 0 0, .slice none 0 0]) (t := 69) ?hr ?_; (case hd => rfl); (case hg => rfl); (case hr => first | (go_simp; done) | (go_simp; rfl)); intro gx hg9 w9x hbox hb9; have HNx := mk0 hb9; have BNx := mk0 hbox; have HGx := mk0 hg9; clear hb9 hbox hg9) | ((with_reducible refine gate_store (t := 69) (p := 8) rfl ?_); refine Go.Proofs.Yticnihfjnjliiaa.Sw.store_whole rfl rfl rfl gx 69 _ _ rfl rfl BNx.out (by kernel_rfl) rfl rfl ?_; intro wx hS_ hbS_ hkS_; have HSx := mk0 (hbS_ wr.heap.size wr (Nat.le_of_eq HGx.out.symm) HNx.out); have BSx := mk0 hS_; clear hS_ hbS_ hkS_ BNx; have f0_n := pw_cell_below HSx.out f0_; have f1_n := pw_cell_below HSx.out f1_; have f2_n := pw_cell_below HSx.out f2_; have f3_n := pw_cell_below HSx.out f3_; have f4_n := pw_cell_below HSx.out f4_; have f5_n := pw_cell_below HSx.out f5_; have f6_n := pw_cell_below HSx.out f6_; have f7_n := pw_cell_below HSx.out f7_; have f8_n := pw_cell_below HSx.out f8_; have f9_n := pw_cell_below HSx.out f9_; have f10_n := pw_cell_below HSx.out f10_; have f11_n := pw_cell_below HSx.out f11_; have f12_n := pw_cell_below HSx.out f12_) | ((with_reducible refine gate_dst (N := 9) rfl ?_); (try (refine gate_guard (by rfl) ?_; dsimp only)); refine box_event ?hg (N := 9) ?hd (cs := #[.string (⟨#[]⟩ : ByteArray), .int .i64 0, .int .i64 0, .int .i64 0, .string (⟨#[]⟩ : ByteArray), .string (⟨#[]⟩ : ByteArray), .string (⟨#[]⟩ : ByteArray), .bool false, .int .i64 0, .string (⟨#[]⟩ : ByteArray), .bool false, .slice none 0 0, .slice none 0 0]) (t := 69) ?hr ?_; (case hd => rfl); (case hg => rfl); (case hr => first | (go_simp; done) | (go_simp; rfl)); intro gy hg9 w9y hbox hb9; have HNy := mk0 hb9; have BNy := mk0 hbox; have HGy := mk0 hg9; clear hb9 hbox hg9) | ((with_reducible refine gate_store (t := 69) (p := 9) rfl ?_); refine Go.Proofs.Yticnihfjnjliiaa.Sw.store_whole rfl rfl rfl gy 69 _ _ rfl rfl BNy.out (by kernel_rfl) rfl rfl ?_; intro wy hS_ hbS_ hkS_; have HSy := mk0 (hbS_ wx.heap.size wx (Nat.le_of_eq HGy.out.symm) HNy.out); have BSy := mk0 hS_; clear hS_ hbS_ hkS_ BNy; have BZx := mk0 (blk_below BSx.out HSy.out); have HZ := mk0 (below_then HSx.out HSx.out.size HSy.out); have p0 : _ = some ((.string x.f0) : Value) := (blk_cell BZx.out 0).trans rfl; have p1 : _ = some ((.int .i64 x.f1) : Value) := (blk_cell BZx.out 1).trans rfl; have p2 : _ = some ((.int .i64 x.f2) : Value) := (blk_cell BZx.out 2).trans rfl; have p3 : _ = some ((.int .i64 x.f3) : Value) := (blk_cell BZx.out 3).trans rfl; have p4 : _ = some ((.string x.f4) : Value) := (blk_cell BZx.out 4).trans rfl; have p5 : _ = some ((.string x.f5) : Value) := (blk_cell BZx.out 5).trans rfl; have p6 : _ = some ((.string x.f6) : Value) := (blk_cell BZx.out 6).trans rfl; have p7 : _ = some ((.bool x.f7) : Value) := (blk_cell BZx.out 7).trans rfl; have p8 : _ = some ((.int .i64 x.f8) : Value) := (blk_cell BZx.out 8).trans rfl; have p9 : _ = some ((.string x.f9) : Value) := (blk_cell BZx.out 9).trans rfl; have p10 : _ = some ((.bool x.f10) : Value) := (blk_cell BZx.out 10).trans rfl; have p11 : _ = some ((.slice A11 x.f11.length c11) : Value) := (blk_cell BZx.out 11).trans rfl; have p12 : _ = some ((.slice A12 x.f12.length c12) : Value) := (blk_cell BZx.out 12).trans rfl; have q0 : _ = some ((.string y.f0) : Value) := (blk_cell BSy.out 0).trans rfl; have q1 : _ = some ((.int .i64 y.f1) : Value) := (blk_cell BSy.out 1).trans rfl; have q2 : _ = some ((.int .i64 y.f2) : Value) := (blk_cell BSy.out 2).trans rfl; have q3 : _ = some ((.int .i64 y.f3) : Value) := (blk_cell BSy.out 3).trans rfl; have q4 : _ = some ((.string y.f4) : Value) := (blk_cell BSy.out 4).trans rfl; have q5 : _ = some ((.string y.f5) : Value) := (blk_cell BSy.out 5).trans rfl; have q6 : _ = some ((.string y.f6) : Value) := (blk_cell BSy.out 6).trans rfl; have q7 : _ = some ((.bool y.f7) : Value) := (blk_cell BSy.out 7).trans rfl; have q8 : _ = some ((.int .i64 y.f8) : Value) := (blk_cell BSy.out 8).trans rfl; have q9 : _ = some ((.string y.f9) : Value) := (blk_cell BSy.out 9).trans rfl; have q10 : _ = some ((.bool y.f10) : Value) := (blk_cell BSy.out 10).trans rfl; have q11 : _ = some ((.slice B11 y.f11.length d11) : Value) := (blk_cell BSy.out 11).trans rfl; have q12 : _ = some ((.slice B12 y.f12.length d12) : Value) := (blk_cell BSy.out 12).trans rfl) | (go_at_call 30; (with_reducible refine (hc _ [.string x.f0, .int .i64 x.f1, .int .i64 x.f2, .int .i64 x.f3, .string x.f4, .string x.f5, .string x.f6, .bool x.f7, .int .i64 x.f8, .string x.f9, .bool x.f10, .slice A11 x.f11.length c11, .slice A12 x.f12.length c12] [.string y.f0, .int .i64 y.f1, .int .i64 y.f2, .int .i64 y.f3, .string y.f4, .string y.f5, .string y.f6, .bool y.f7, .int .i64 y.f8, .string y.f9, .bool y.f10, .slice B11 y.f11.length d11, .slice B12 y.f12.length d12] (k69_mk _ x lc11 (Kd.C_below gc11 HZ.out) lc12 (Kd.C_below gc12 HZ.out)) (k69_mk _ y ld11 (Kd.C_below gd11 HZ.out) ld12 (Kd.C_below gd12 HZ.out))).mono ?_); rintro e w1 ⟨rfl, hb⟩; have HE_ := mk0 (below_then HZ.out HZ.out.size hb); clear hb))
         go_roundg k1
         case measure => exact Nat.lt_succ_self k1
         case rel => exact ⟨i + 1, (by first | rfl | (rw [hwp]) | (simp [hwp]; done)), ⟨by have := HI.out; omega⟩, ⟨below_then HB.out HB.out.size HE_.out⟩, hok⟩
    · have d0 : decide ((i : Int) < (a.length : Int)) = false := decide_eq_false (by omega)
      have HE := mk0 (take_all a b HL.out i hlt HT.out)
      go_wp2
      go_ret
      exact ⟨by rw [HE.out]; rfl, HB.out⟩
 · have hn := len_bne hl
   have HE := mk0 (len_ne a b hl)
   clear hl
   go_enter Try.func29, Try.ntmps29
   go_wp2
   go_ret
   exact ⟨by rw [HE.out]; rfl, HB0.out⟩
end Go.Proofs.Yticnihfjnjliiaa.E1
