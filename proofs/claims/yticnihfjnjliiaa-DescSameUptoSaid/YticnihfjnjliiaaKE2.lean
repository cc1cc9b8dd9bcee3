/- Lists of texts, numbers, ranges that are alike. -/
import Derived.Test.YticnihfjnjliiaaKE1
import Derived.Test.YticnihfjnjliiaaKW
import Derived.Deep.QuietTactic
import Derived.BigQuiet
namespace Go.Proofs.Yticnihfjnjliiaa.E1
open Go.RowKit Go.Proofs.Yticnihfjnjliiaa.GDescGrows Go.Proofs.YticnihfjnjliiaaW.PrintWords Go.Proofs.YticnihfjnjliiaaW.PrintLast Go.Proofs.YticnihfjnjliiaaW.PrintMore Go.Proofs.Yticnihfjnjliiaa.Vb Go.Proofs.Yticnihfjnjliiaa.Rk Go.Proofs.Yticnihfjnjliiaa.Sp
set_option linter.unusedVariables false
set_option linter.unusedSimpArgs false
theorem take_eq {α : Type} (d : α) (a b : List α) (hl : a.length = b.length) (i : Nat) (h : i < a.length) (ht : a.take i = b.take i) (hx : a.getD i d = b.getD i d) : a.take (i + 1) = b.take (i + 1) := by
 have h2 : i < b.length := by omega
 rw [List.take_add_one, List.take_add_one, ht, List.getElem?_eq_getElem h, List.getElem?_eq_getElem h2]
 simp only [List.getD_eq_getElem?_getD, List.getElem?_eq_getElem h, List.getElem?_eq_getElem h2, Option.getD_some] at hx
 rw [hx]
theorem take_ne {α : Type} (d : α) (a b : List α) (i : Nat) (hx : ¬ a.getD i d = b.getD i d) : eqB a b = false := eqB_f (fun h => hx (by rw [h]))
theorem take_all {α : Type} (a b : List α) (hl : a.length = b.length) (i : Nat) (h : ¬ i < a.length) (ht : a.take i = b.take i) : eqB a b = true := eqB_t (by
 rw [List.take_of_length_le (by omega), List.take_of_length_le (by omega)] at ht
 exact ht)
theorem len_ne {α : Type} (a b : List α) (h : ¬ a.length = b.length) : eqB a b = false := eqB_f (fun e => h (by rw [e]))
theorem len_bne {a b : Nat} (h : ¬ a = b) : ((a : Int) != (b : Int)) = true := bne_iff_ne.mpr (by omega)
theorem len_beq {a b : Nat} (h : a = b) : ((a : Int) != (b : Int)) = false := bne_eq_false_iff_eq.mpr (by omega)
theorem str_ne (s t : ByteArray) : (s.toList != t.toList) = !eqB s t := by rw [← str_eqB]; rfl
theorem int_ne (s t : Int) : (s != t) = !eqB s t := by
 by_cases h : s = t
 · rw [eqB_t h, h]; simp
 · rw [eqB_f h]; exact bne_iff_ne.mpr h
theorem range_beq (x y : S90) : ((x.f0 == y.f0) && (x.f1 == y.f1)) = eqB x y := by
 by_cases h : x = y
 · rw [eqB_t h, h]; simp
 · rw [eqB_f h]
   by_cases h0 : x.f0 = y.f0
   · by_cases h1 : x.f1 = y.f1
     · exact absurd (by cases x; cases y; simp_all) h
     · rw [beq_eq_false_iff_ne.mpr h1, Bool.and_false]
   · rw [beq_eq_false_iff_ne.mpr h0, Bool.false_and]
set_option maxHeartbeats 8000000 in
set_option maxRecDepth 100000 in
theorem eqStr (a b : List ByteArray) (hla : a.length ≤ 9223372036854775807) (A B : Option Addr) (ca cb : Nat) (w : World) (CA : Kd.C Kd.string w A a.length a) (CB : Kd.C Kd.string w B b.length b) :
 Calls Try.prog 21 #[.slice A a.length ca, .slice B b.length cb] w fun e w' => Eq_ (eqB a b) w e w' := by
 have HB0 := mk0 (Below.refl w.heap.size w)
 have HA := mk0 CA
 have HC := mk0 CB
 by_cases hl : a.length = b.length
 · have HL := mk0 hl
   have hn := len_beq hl
   clear hl
   go_enter Try.func21, Try.ntmps21
   go_wp2
   go_loopg [13] a.length (fun kq v13 w' => ∃ i : Nat, v13 = .int .i64 (i : Int) ∧ Aside0 (i + kq = a.length) ∧ Aside0 (Below w.heap.size w w') ∧ Aside0 (a.take i = b.take i))
   case atStart =>
    exact ⟨0, rfl, ⟨by omega⟩, ⟨HB0.out⟩, ⟨by simp⟩⟩
   case round =>
    obtain ⟨i, rfl, HI, HB, HT⟩ := hrel
    by_cases hlt : i < a.length
    · have hwp : wrap64 ((i : Int) + 1) = ((i + 1 : Nat) : Int) := by unfold wrap64; omega
      have hlb : i < b.length := by have := HL.out; omega
      have d0 : decide ((i : Int) < (a.length : Int)) = true := decide_eq_true (by omega)
      have p0 : (0 ≤ (i : Int)) = True := eq_true (by omega)
      have q0 : ((i : Int) < (a.length : Int)) = True := eq_true (by omega)
      have q1 : ((i : Int) < (b.length : Int)) = True := eq_true (by omega)
      obtain ⟨x, hx⟩ : ∃ x, a.getD i (⟨#[]⟩ : ByteArray) = x := ⟨_, rfl⟩
      obtain ⟨y, hy⟩ : ∃ y, b.getD i (⟨#[]⟩ : ByteArray) = y := ⟨_, rfl⟩
      have hok : x = y → Aside0 (a.take (i + 1) = b.take (i + 1)) := fun h => ⟨take_eq (⟨#[]⟩ : ByteArray) a b HL.out i hlt HT.out (by rw [hx, hy, h])⟩
      have hno : ¬ x = y → Aside0 (eqB a b = false) := fun h => ⟨take_ne (⟨#[]⟩ : ByteArray) a b i (by rw [hx, hy]; exact h)⟩
      obtain ⟨ad, cx, ea, _, hKx, hcx⟩ := Kd.C_get (Kd.C_below HA.out HB.out) (⟨#[]⟩ : ByteArray) (i : Int) (by omega) (by omega)
      obtain ⟨bd, cy, eb, _, hKy, hcy⟩ := Kd.C_get (Kd.C_below HC.out HB.out) (⟨#[]⟩ : ByteArray) (i : Int) (by omega) (by omega)
      rw [Int.toNat_natCast] at hKx hcx hKy hcy
      rw [hx] at hKx
      rw [hy] at hKy
      obtain rfl : cx = [.string x] := hKx
      obtain rfl : cy = [.string y] := hKy
      have e0 : wr.cell? (ad.add i) = some (.string x) := by have := hcx 0 _ rfl; rwa [show i * (Kd.string).sz + 0 = i from by show i * 1 + 0 = i; omega] at this
      have f0 : wr.cell? (bd.add i) = some (.string y) := by have := hcy 0 _ rfl; rwa [show i * (Kd.string).sz + 0 = i from by show i * 1 + 0 = i; omega] at this
      clear CA CB
      subst ea eb
      clear hx hy hcx hcy
      by_cases hxy : x = y
      · replace hok := hok hxy
        clear hno
        cases gk with
        | zero => exact absurd HI.out (by omega)
        | succ k1 =>
         have hne : (x.toList != y.toList) = false := by subst hxy; simp
         have hnf : (x.toList == y.toList) = true := by subst hxy; simp
         clear hxy
         go_wp2
         go_quiet (fail)
         go_wp2
         go_roundg k1
         case measure => exact Nat.lt_succ_self k1
         case rel => exact ⟨i + 1, (by first | rfl | (rw [hwp]) | (simp [hwp]; done)), ⟨by have := HI.out; omega⟩, ⟨by apply pw_below_drewN; exact HB.out⟩, hok⟩
      · replace hno := hno hxy
        clear hok
        have hne : (x.toList != y.toList) = true := by rw [str_ne, eqB_f hxy]; rfl
        have hnf : (x.toList == y.toList) = false := by rw [str_eqB, eqB_f hxy]
        clear hxy
        go_wp2
        go_quiet (fail)
        go_wp2
        go_ret
        exact ⟨by rw [hno.out]; rfl, by apply pw_below_drewN; exact HB.out⟩
    · have d0 : decide ((i : Int) < (a.length : Int)) = false := decide_eq_false (by omega)
      have HE := mk0 (take_all a b HL.out i hlt HT.out)
      go_wp2
      go_ret
      exact ⟨by rw [HE.out]; rfl, HB.out⟩
 · have hn := len_bne hl
   have HE := mk0 (len_ne a b hl)
   clear hl
   go_enter Try.func21, Try.ntmps21
   go_wp2
   go_ret
   exact ⟨by rw [HE.out]; rfl, HB0.out⟩
set_option maxHeartbeats 8000000 in
set_option maxRecDepth 100000 in
theorem eqInt (a b : List Int) (hla : a.length ≤ 9223372036854775807) (A B : Option Addr) (ca cb : Nat) (w : World) (CA : Kd.C (Kd.int .i64) w A a.length a) (CB : Kd.C (Kd.int .i64) w B b.length b) :
 Calls Try.prog 22 #[.slice A a.length ca, .slice B b.length cb] w fun e w' => Eq_ (eqB a b) w e w' := by
 have HB0 := mk0 (Below.refl w.heap.size w)
 have HA := mk0 CA
 have HC := mk0 CB
 by_cases hl : a.length = b.length
 · have HL := mk0 hl
   have hn := len_beq hl
   clear hl
   go_enter Try.func22, Try.ntmps22
   go_wp2
   go_loopg [13] a.length (fun kq v13 w' => ∃ i : Nat, v13 = .int .i64 (i : Int) ∧ Aside0 (i + kq = a.length) ∧ Aside0 (Below w.heap.size w w') ∧ Aside0 (a.take i = b.take i))
   case atStart =>
    exact ⟨0, rfl, ⟨by omega⟩, ⟨HB0.out⟩, ⟨by simp⟩⟩
   case round =>
    obtain ⟨i, rfl, HI, HB, HT⟩ := hrel
    by_cases hlt : i < a.length
    · have hwp : wrap64 ((i : Int) + 1) = ((i + 1 : Nat) : Int) := by unfold wrap64; omega
      have hlb : i < b.length := by have := HL.out; omega
      have d0 : decide ((i : Int) < (a.length : Int)) = true := decide_eq_true (by omega)
      have p0 : (0 ≤ (i : Int)) = True := eq_true (by omega)
      have q0 : ((i : Int) < (a.length : Int)) = True := eq_true (by omega)
      have q1 : ((i : Int) < (b.length : Int)) = True := eq_true (by omega)
      obtain ⟨x, hx⟩ : ∃ x, a.getD i (0 : Int) = x := ⟨_, rfl⟩
      obtain ⟨y, hy⟩ : ∃ y, b.getD i (0 : Int) = y := ⟨_, rfl⟩
      have hok : x = y → Aside0 (a.take (i + 1) = b.take (i + 1)) := fun h => ⟨take_eq (0 : Int) a b HL.out i hlt HT.out (by rw [hx, hy, h])⟩
      have hno : ¬ x = y → Aside0 (eqB a b = false) := fun h => ⟨take_ne (0 : Int) a b i (by rw [hx, hy]; exact h)⟩
      obtain ⟨ad, cx, ea, _, hKx, hcx⟩ := Kd.C_get (Kd.C_below HA.out HB.out) (0 : Int) (i : Int) (by omega) (by omega)
      obtain ⟨bd, cy, eb, _, hKy, hcy⟩ := Kd.C_get (Kd.C_below HC.out HB.out) (0 : Int) (i : Int) (by omega) (by omega)
      rw [Int.toNat_natCast] at hKx hcx hKy hcy
      rw [hx] at hKx
      rw [hy] at hKy
      obtain rfl : cx = [.int .i64 x] := hKx
      obtain rfl : cy = [.int .i64 y] := hKy
      have e0 : wr.cell? (ad.add i) = some (.int .i64 x) := by have := hcx 0 _ rfl; rwa [show i * (Kd.int .i64).sz + 0 = i from by show i * 1 + 0 = i; omega] at this
      have f0 : wr.cell? (bd.add i) = some (.int .i64 y) := by have := hcy 0 _ rfl; rwa [show i * (Kd.int .i64).sz + 0 = i from by show i * 1 + 0 = i; omega] at this
      clear CA CB
      subst ea eb
      clear hx hy hcx hcy
      by_cases hxy : x = y
      · replace hok := hok hxy
        clear hno
        cases gk with
        | zero => exact absurd HI.out (by omega)
        | succ k1 =>
         have hne : (x != y) = false := by subst hxy; simp
         have hnf : (x == y) = true := by subst hxy; simp
         clear hxy
         go_wp2
         go_quiet (fail)
         go_wp2
         go_roundg k1
         case measure => exact Nat.lt_succ_self k1
         case rel => exact ⟨i + 1, (by first | rfl | (rw [hwp]) | (simp [hwp]; done)), ⟨by have := HI.out; omega⟩, ⟨by apply pw_below_drewN; exact HB.out⟩, hok⟩
      · replace hno := hno hxy
        clear hok
        have hne : (x != y) = true := bne_iff_ne.mpr hxy
        have hnf : (x == y) = false := beq_eq_false_iff_ne.mpr hxy
        clear hxy
        go_wp2
        go_quiet (fail)
        go_wp2
        go_ret
        exact ⟨by rw [hno.out]; rfl, by apply pw_below_drewN; exact HB.out⟩
    · have d0 : decide ((i : Int) < (a.length : Int)) = false := decide_eq_false (by omega)
      have HE := mk0 (take_all a b HL.out i hlt HT.out)
      go_wp2
      go_ret
      exact ⟨by rw [HE.out]; rfl, HB.out⟩
 · have hn := len_bne hl
   have HE := mk0 (len_ne a b hl)
   clear hl
   go_enter Try.func22, Try.ntmps22
   go_wp2
   go_ret
   exact ⟨by rw [HE.out]; rfl, HB0.out⟩
theorem eqA (d : Nat) (w : World) (x0 y0 x1 y1 : Int) :
 (Op.equalIn (d + 2) 90 (.agg #[.int .i64 x0, .int .i64 x1]) (.agg #[.int .i64 y0, .int .i64 y1])).run Try.prog w = .ok (x0 == y0 && (x1 == y1)) w := by
 refine eqA_of Try.underlying90 (by kernel_rfl) ?_
 refine eqf_cons (by rfl) (by go_simp; rfl) (by go_simp; rfl) (by go_simp) ?_
 exact eqf_last (by rfl) (by go_simp; rfl) (by go_simp; rfl) (by go_simp)
set_option maxHeartbeats 8000000 in
set_option maxRecDepth 100000 in
theorem eqRange (a b : List S90) (hla : a.length ≤ 9223372036854775807) (A B : Option Addr) (ca cb : Nat) (w : World) (CA : Kd.C k90 w A a.length a) (CB : Kd.C k90 w B b.length b) :
 Calls Try.prog 41 #[.slice A a.length ca, .slice B b.length cb] w fun e w' => Eq_ (eqB a b) w e w' := by
 have HB0 := mk0 (Below.refl w.heap.size w)
 have HA := mk0 CA
 have HC := mk0 CB
 by_cases hl : a.length = b.length
 · have HL := mk0 hl
   have hn := len_beq hl
   clear hl
   go_enter Try.func41, Try.ntmps41
   go_wp2
   go_loopg [13] a.length (fun kq v13 w' => ∃ i : Nat, v13 = .int .i64 (i : Int) ∧ Aside0 (i + kq = a.length) ∧ Aside0 (Below w.heap.size w w') ∧ Aside0 (a.take i = b.take i))
   case atStart =>
    exact ⟨0, rfl, ⟨by omega⟩, ⟨HB0.out⟩, ⟨by simp⟩⟩
   case round =>
    obtain ⟨i, rfl, HI, HB, HT⟩ := hrel
    by_cases hlt : i < a.length
    · have hwp : wrap64 ((i : Int) + 1) = ((i + 1 : Nat) : Int) := by unfold wrap64; omega
      have hlb : i < b.length := by have := HL.out; omega
      have d0 : decide ((i : Int) < (a.length : Int)) = true := decide_eq_true (by omega)
      have p0 : (0 ≤ (i : Int)) = True := eq_true (by omega)
      have q0 : ((i : Int) < (a.length : Int)) = True := eq_true (by omega)
      have q1 : ((i : Int) < (b.length : Int)) = True := eq_true (by omega)
      obtain ⟨x, hx⟩ : ∃ x, a.getD i z90 = x := ⟨_, rfl⟩
      obtain ⟨y, hy⟩ : ∃ y, b.getD i z90 = y := ⟨_, rfl⟩
      have hok : x = y → Aside0 (a.take (i + 1) = b.take (i + 1)) := fun h => ⟨take_eq z90 a b HL.out i hlt HT.out (by rw [hx, hy, h])⟩
      have hno : ¬ x = y → Aside0 (eqB a b = false) := fun h => ⟨take_ne z90 a b i (by rw [hx, hy]; exact h)⟩
      obtain ⟨ad, cx, ea, _, hKx, hcx⟩ := Kd.C_get (Kd.C_below HA.out HB.out) z90 (i : Int) (by omega) (by omega)
      obtain ⟨bd, cy, eb, _, hKy, hcy⟩ := Kd.C_get (Kd.C_below HC.out HB.out) z90 (i : Int) (by omega) (by omega)
      rw [Int.toNat_natCast] at hKx hcx hKy hcy
      rw [hx] at hKx
      rw [hy] at hKy
      have HE := fun d w => eqA d w x.f0 y.f0 x.f1 y.f1
      have ecx := k90_open hKx
      have ecy := k90_open hKy
      subst ecx ecy
      have e0 : wr.cell? (ad.add (i * 2)) = some (.int .i64 x.f0) := by have := hcx 0 _ rfl; rwa [show i * k90.sz + 0 = i * 2 from rfl] at this
      have e1 : wr.cell? ⟨(ad.add (i * 2)).block, (ad.add (i * 2)).off + 1, none⟩ = some (.int .i64 x.f1) := by have := hcx 1 _ rfl; rw [show i * k90.sz + 1 = i * 2 + 1 from rfl] at this; rw [← add_field _ _ 1 (by omega)]; exact this
      have f0 : wr.cell? (bd.add (i * 2)) = some (.int .i64 y.f0) := by have := hcy 0 _ rfl; rwa [show i * k90.sz + 0 = i * 2 from rfl] at this
      have f1 : wr.cell? ⟨(bd.add (i * 2)).block, (bd.add (i * 2)).off + 1, none⟩ = some (.int .i64 y.f1) := by have := hcy 1 _ rfl; rw [show i * k90.sz + 1 = i * 2 + 1 from rfl] at this; rw [← add_field _ _ 1 (by omega)]; exact this
      clear CA CB
      subst ea eb
      clear hx hy hcx hcy
      by_cases hxy : x = y
      · replace hok := hok hxy
        clear hno
        cases gk with
        | zero => exact absurd HI.out (by omega)
        | succ k1 =>
         have hne : (!((x.f0 == y.f0) && (x.f1 == y.f1))) = false := by subst hxy; simp
         have hnf : ((x.f0 == y.f0) && (x.f1 == y.f1)) = true := by subst hxy; simp
         simp only [hnf] at HE
         clear hxy
         go_wp2
         go_quiet (fail)
         go_wp2
         go_roundg k1
         case measure => exact Nat.lt_succ_self k1
         case rel => exact ⟨i + 1, (by first | rfl | (rw [hwp]) | (simp [hwp]; done)), ⟨by have := HI.out; omega⟩, ⟨by apply pw_below_drewN; exact HB.out⟩, hok⟩
      · replace hno := hno hxy
        clear hok
        have hne : (!((x.f0 == y.f0) && (x.f1 == y.f1))) = true := by rw [range_beq, eqB_f hxy]; rfl
        have hnf : ((x.f0 == y.f0) && (x.f1 == y.f1)) = false := by rw [range_beq, eqB_f hxy]
        simp only [hnf] at HE
        clear hxy
        go_wp2
        go_quiet (fail)
        go_wp2
        go_ret
        exact ⟨by rw [hno.out]; rfl, by apply pw_below_drewN; exact HB.out⟩
    · have d0 : decide ((i : Int) < (a.length : Int)) = false := decide_eq_false (by omega)
      have HE := mk0 (take_all a b HL.out i hlt HT.out)
      go_wp2
      go_ret
      exact ⟨by rw [HE.out]; rfl, HB.out⟩
 · have hn := len_bne hl
   have HE := mk0 (len_ne a b hl)
   clear hl
   go_enter Try.func41, Try.ntmps41
   go_wp2
   go_ret
   exact ⟨by rw [HE.out]; rfl, HB0.out⟩
end Go.Proofs.Yticnihfjnjliiaa.E1
