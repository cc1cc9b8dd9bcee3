/- How deep a file's messages stand; that counting ends. -/
import Derived.Test.YticnihfjnjliiaaKGDescGrowsx2
import Derived.Test.YticnihfjnjliiaaKRk
namespace Go.Proofs.Yticnihfjnjliiaa.Dp
open Go.RowKit Go.Proofs.Yticnihfjnjliiaa.GDescGrows Go.Proofs.YticnihfjnjliiaaW.PrintWords Go.Proofs.YticnihfjnjliiaaW.PrintLast Go.Proofs.YticnihfjnjliiaaW.PrintMore Go.Proofs.Yticnihfjnjliiaa.Rk
theorem sz_f2 (y : S37) : SizeOf.sizeOf y.f2 < SizeOf.sizeOf y := by
 cases y
 simp only [S37.mk.sizeOf_spec]
 omega
def LenOk (l : List S37) : Prop := l.length ≤ maxLen ∧ ∀ y ∈ l, good37 y
theorem lenOk_in {l : List S37} {y : S37} (h : LenOk l) (hy : y ∈ l) : LenOk y.f2 := by
 have g := h.2 y hy
 rw [good37] at g
 exact g.2.2.1
theorem lenOk_wrap {l : List S37} (h : LenOk l) {i : Nat} (hi : i < l.length) : wrap64 ((i : Int) + 1) = ((i + 1 : Nat) : Int) := by
 have := h.1
 unfold maxLen at this
 unfold wrap64
 omega
theorem rd_at {l : List S37} {i : Nat} (hi : i < l.length) : rd_T37 l (i : Int) = l[i] := by simp [rd_T37, hi]
def hL : List S37 → Nat
 | [] => 0
 | y :: r => max (1 + hL y.f2) (hL r)
termination_by l => SizeOf.sizeOf l
decreasing_by
 · have := sz_f2 y
   simp only [List.cons.sizeOf_spec]
   omega
 · simp only [List.cons.sizeOf_spec]
   omega
theorem hL_nil : hL [] = 0 := by rw [hL]
theorem hL_cons (y : S37) (r : List S37) : hL (y :: r) = max (1 + hL y.f2) (hL r) := by rw [hL]
theorem count_tot (N : Nat) : ∀ (l : List S37), SizeOf.sizeOf l ≤ N → LenOk l → ∀ (a d : Int), ∃ v k0, ∀ k, k0 ≤ k → glossarylaw11_count.f k l a d = some v := by
 induction N with
 | zero => intro l h; exfalso; cases l <;> simp at h
 | succ N ih =>
  intro l hl ok
  have loop : ∀ (n i : Nat), i + n = l.length → ∀ (a d : Int), ∃ v k0, ∀ k, k0 ≤ k → glossarylaw11_count.l0 k a d l (l.length : Int) (i : Int) = some v := by
   intro n
   induction n with
   | zero =>
    intro i hi a d
    refine ⟨a, 1, fun k hk => ?_⟩
    obtain ⟨k, rfl⟩ : ∃ q, k = q + 1 := ⟨k - 1, by omega⟩
    simp only [glossarylaw11_count.l0]
    rw [if_neg (by omega)]
   | succ n ihn =>
    intro i hi a d
    have hlt : i < l.length := by omega
    have hmem := List.getElem_mem hlt
    have hs := List.sizeOf_lt_of_mem hmem
    have hs2 := sz_f2 l[i]
    by_cases h1 : wrap64 (a + 1) > 100
    · refine ⟨1000, 1, fun k hk => ?_⟩
      obtain ⟨k, rfl⟩ : ∃ q, k = q + 1 := ⟨k - 1, by omega⟩
      simp only [glossarylaw11_count.l0]
      rw [if_pos (by omega), if_pos (by omega), if_pos (by omega), if_pos h1]
    obtain ⟨t, k1, ht⟩ := ih l[i].f2 (by omega) (lenOk_in ok hmem) (wrap64 (a + 1)) (wrap64 (d + 1))
    obtain ⟨v, k2, hv⟩ := ihn (i + 1) (by omega) t d
    have step : ∃ B : Int, ∀ k, glossarylaw11_count.l0 (k + 1) a d l (l.length : Int) (i : Int) = if B > 100 then some 1000 else (glossarylaw11_count.f k l[i].f2 (wrap64 (a + 1)) (wrap64 (d + 1))).bind fun t => glossarylaw11_count.l0 k t d l (l.length : Int) ((i + 1 : Nat) : Int) := by
     exact ⟨_, fun k => by
      simp only [glossarylaw11_count.l0]
      rw [if_pos (by omega), if_pos (by omega), if_pos (by omega), if_neg h1, lenOk_wrap ok hlt, rd_at hlt]⟩
    obtain ⟨B, hB⟩ := step
    by_cases h2 : B > 100
    · refine ⟨1000, 1, fun k hk => ?_⟩
      obtain ⟨k, rfl⟩ : ∃ q, k = q + 1 := ⟨k - 1, by omega⟩
      rw [hB, if_pos h2]
    · refine ⟨v, max k1 k2 + 1, fun k hk => ?_⟩
      obtain ⟨k, rfl⟩ : ∃ q, k = q + 1 := ⟨k - 1, by omega⟩
      rw [hB, if_neg h2, ht k (by omega), Option.bind_some, hv k (by omega)]
  intro a d
  by_cases h : d > 70
  · refine ⟨1000, 1, fun k hk => ?_⟩
    obtain ⟨k, rfl⟩ : ∃ q, k = q + 1 := ⟨k - 1, by omega⟩
    simp only [glossarylaw11_count.f]
    rw [if_pos h]
  · obtain ⟨v, k1, hv⟩ := loop l.length 0 (by omega) a d
    refine ⟨v, k1 + 1, fun k hk => ?_⟩
    obtain ⟨k, rfl⟩ : ∃ q, k = q + 1 := ⟨k - 1, by omega⟩
    simp only [glossarylaw11_count.f]
    rw [if_neg h]
    exact hv k (by omega)
theorem mx_int (x y : Int) : mx x y = max x y := by
 unfold mx
 split <;> omega
theorem ddeep_tot (N : Nat) : ∀ (l : List S37), SizeOf.sizeOf l ≤ N → LenOk l → ∀ (a : Nat), a ≤ 64 → ∃ v : Int, (∃ k0, ∀ k, k0 ≤ k → desc_Deep_1.f k l (a : Int) = some v) ∧ (a + hL l ≤ 64 → v = ((a + hL l : Nat) : Int)) ∧ (64 < a + hL l → 64 < v) := by
 induction N with
 | zero => intro l h; exfalso; cases l <;> simp at h
 | succ N ih =>
  intro l hl ok a ha
  have loop : ∀ (n i : Nat), i + n = l.length → ∀ (d : Int), (a : Int) + 1 ≤ d → ∃ v : Int, (∃ k0, ∀ k, k0 ≤ k → desc_Deep_1.l0 k (a : Int) d l (l.length : Int) (i : Int) = some v) ∧ (max d ((a + hL (l.drop i) : Nat) : Int) ≤ 64 → v = max d ((a + hL (l.drop i) : Nat) : Int)) ∧ (64 < max d ((a + hL (l.drop i) : Nat) : Int) → 64 < v) := by
   intro n
   induction n with
   | zero =>
    intro i hi d hd
    rw [List.drop_of_length_le (by omega), hL_nil]
    refine ⟨d, ⟨1, fun k hk => ?_⟩, fun _ => by omega, fun _ => by omega⟩
    obtain ⟨k, rfl⟩ : ∃ q, k = q + 1 := ⟨k - 1, by omega⟩
    simp only [desc_Deep_1.l0]
    rw [if_neg (by omega)]
   | succ n ihn =>
    intro i hi d had
    have hlt : i < l.length := by omega
    have hmem := List.getElem_mem hlt
    have hs := List.sizeOf_lt_of_mem hmem
    have hs2 := sz_f2 l[i]
    by_cases h64 : d > 64
    · refine ⟨d, ⟨1, fun k hk => ?_⟩, fun h => by omega, fun _ => by omega⟩
      obtain ⟨k, rfl⟩ : ∃ q, k = q + 1 := ⟨k - 1, by omega⟩
      simp only [desc_Deep_1.l0]
      rw [if_pos (by omega), if_pos (by omega), if_pos (by omega), if_pos h64]
    obtain ⟨t, ⟨k1, ht⟩, t1, t2⟩ := ih l[i].f2 (by omega) (lenOk_in ok hmem) (a + 1) (by omega)
    have hw : wrap64 ((a : Int) + 1) = ((a + 1 : Nat) : Int) := by unfold wrap64; omega
    obtain ⟨v, ⟨k2, hv⟩, v1, v2⟩ := ihn (i + 1) (by omega) (max d t) (by omega)
    rw [List.drop_eq_getElem_cons hlt, hL_cons]
    refine ⟨v, ⟨max k1 k2 + 1, fun k hk => ?_⟩, fun h1 => ?_, fun h1 => ?_⟩
    · obtain ⟨k, rfl⟩ : ∃ q, k = q + 1 := ⟨k - 1, by omega⟩
      simp only [desc_Deep_1.l0]
      rw [if_pos (by omega), if_pos (by omega), if_pos (by omega), if_neg h64, lenOk_wrap ok hlt, rd_at hlt, hw, ht k (by omega), Option.bind_some, mx_int]
      exact hv k (by omega)
    · have e := t1 (by omega)
      have := v1 (by omega)
      omega
    · by_cases hc : a + 1 + hL l[i].f2 ≤ 64
      · have e := t1 hc
        exact v2 (by omega)
      · have e := t2 (by omega)
        exact v2 (by omega)
  cases l with
  | nil =>
   refine ⟨a, ⟨1, fun k hk => ?_⟩, fun _ => by rw [hL_nil]; omega, fun h => by rw [hL_nil] at h; omega⟩
   obtain ⟨k, rfl⟩ : ∃ q, k = q + 1 := ⟨k - 1, by omega⟩
   simp only [desc_Deep_1.f]
   rw [if_pos (by simp)]
  | cons y r =>
   have hp : 1 ≤ hL (y :: r) := by rw [hL_cons]; omega
   have hw : wrap64 ((a : Int) + 1) = (a : Int) + 1 := by unfold wrap64; omega
   obtain ⟨v, ⟨k1, hv⟩, v1, v2⟩ := loop (y :: r).length 0 (by omega) ((a : Int) + 1) (Int.le_refl _)
   rw [List.drop_zero] at v1 v2
   refine ⟨v, ⟨k1 + 1, fun k hk => ?_⟩, fun h => ?_, fun h => v2 (by omega)⟩
   · obtain ⟨k, rfl⟩ : ∃ q, k = q + 1 := ⟨k - 1, by omega⟩
     simp only [desc_Deep_1.f]
     rw [if_neg (by simp only [List.length_cons]; omega), hw]
     exact hv k (by omega)
   · have := v1 (by omega)
     omega
def dp (l : List S37) : Int := if hL l ≤ 64 then (hL l : Int) else 100
theorem dp_le (l : List S37) : (dp l > 64) ↔ ¬ hL l ≤ 64 := by
 unfold dp
 split <;> omega
theorem deep_c (x : S30) (g : good30 x) (w : World) (cs : List Value) (hK : k30.K w x cs) : Calls Try.prog 10 #[.agg cs.toArray] w fun e w' => e = .returned (.int .i64 (dp x.f4)) ∧ Below w.heap.size w w' := by
 obtain ⟨A2, c2, A3, c3, A4, c4, A5, c5, A6, c6, A7, c7, A9, c9, A10, c10, rfl, l2, g2, l3, g3, l4, g4, l5, g5, l6, g6, l7, g7, l9, g9, l10, g10⟩ := k30_open hK
 obtain ⟨v, ⟨k, hk⟩, v1, v2⟩ := ddeep_tot _ x.f4 (Nat.le_refl _) g.2.2.2.2.1 0 (by omega)
 have hv : desc_Deep.f k x.f0 x.f1 x.f2 x.f3 x.f4 x.f5 x.f6 x.f7 x.f8 x.f9 x.f10 = some (dp x.f4) := by
  unfold desc_Deep.f dp
  rw [show (0 : Int) = ((0 : Nat) : Int) from rfl, hk k (Nat.le_refl _), Option.bind_some]
  by_cases h : hL x.f4 ≤ 64
  · have := v1 (by omega)
    rw [if_pos h, if_pos (by omega), this, Nat.zero_add]
  · have := v2 (by omega)
    rw [if_neg h, if_neg (by omega)]
 exact desc_Deep.calls k x.f0 x.f1 A2 c2 x.f2 A3 c3 x.f3 A4 c4 x.f4 A5 c5 x.f5 A6 c6 x.f6 A7 c7 x.f7 x.f8 A9 c9 x.f9 A10 c10 x.f10 (dp x.f4) w g2 l2 g3 l3 g4 l4 g5 l5 g6 l6 g7 l7 g9 l9 g10 l10 hv
theorem few_e (x : S30) (g : good30 x) : ∃ b, ∀ (w : World) (cs : List Value), k30.K w x cs → Calls Try.prog 8 #[.agg cs.toArray] w fun e w' => e = .returned (.bool b) ∧ Below w.heap.size w w' := by
 obtain ⟨c, k, hc⟩ := count_tot _ x.f4 (Nat.le_refl _) g.2.2.2.2.1 0 0
 have few : ∃ b, glossarylaw11_Few.f k x.f0 x.f1 x.f2 x.f3 x.f4 x.f5 x.f6 x.f7 x.f8 x.f9 x.f10 = some b := by
  unfold glossarylaw11_Few.f
  rw [hc k (Nat.le_refl _)]
  simp only [Option.bind_some]
  repeat' split
  all_goals exact ⟨_, rfl⟩
 obtain ⟨b, hb⟩ := few
 refine ⟨b, fun w cs hK => ?_⟩
 obtain ⟨A2, c2, A3, c3, A4, c4, A5, c5, A6, c6, A7, c7, A9, c9, A10, c10, rfl, l2, g2, l3, g3, l4, g4, l5, g5, l6, g6, l7, g7, l9, g9, l10, g10⟩ := k30_open hK
 exact (glossarylaw11_Few.calls k x.f0 x.f1 A2 c2 x.f2 A3 c3 x.f3 A4 c4 x.f4 A5 c5 x.f5 A6 c6 x.f6 A7 c7 x.f7 x.f8 A9 c9 x.f9 A10 c10 x.f10 b w g2 l2 g3 l3 g4 l4 g5 l5 g6 l6 g7 l7 g9 l9 g10 l10 hb)
end Go.Proofs.Yticnihfjnjliiaa.Dp
