/- A message around all that a file has stands one deeper. -/
import Derived.Test.YticnihfjnjliiaaGDescGrowsx0
import Derived.Test.YticnihfjnjliiaaGDescGrowsx1
import Derived.Test.YticnihfjnjliiaaGDescGrowsx2
import Derived.Test.YticnihfjnjliiaaGDescGrowsx3
import Derived.Test.YticnihfjnjliiaaRdDescGrows
import Derived.Test.YticnihfjnjliiaaPt
namespace Go.Proofs.Yticnihfjnjliiaa.Pure
open Go.RowKit Go.Proofs.Yticnihfjnjliiaa.GDescGrows Go.Proofs.YticnihfjnjliiaaW.PrintWords Go.Proofs.YticnihfjnjliiaaW.PrintLast Go.Proofs.YticnihfjnjliiaaW.PrintMore Go.Proofs.Yticnihfjnjliiaa.Pt
namespace DescGrows
theorem sz_f2 (y : S37) : SizeOf.sizeOf y.f2 < SizeOf.sizeOf y := by
  cases y
  simp only [S37.mk.sizeOf_spec]
  omega
/-- A list of messages whose lists are none too long to count. -/
def LenOk (l : List S37) : Prop := l.length ≤ maxLen ∧ ∀ y ∈ l, good37 y
theorem lenOk_in {l : List S37} {y : S37} (h : LenOk l) (hy : y ∈ l) : LenOk y.f2 := by
  have g := h.2 y hy
  rw [good37] at g
  exact g.2.2.1
theorem lenOk_wrap {l : List S37} (h : LenOk l) {i : Nat} (hi : i < l.length) : wrap64 ((i : Int) + 1) = ((i + 1 : Nat) : Int) := by
  have := h.1
  unfold maxLen at this
  unfold wrap64
  omega
theorem rd_at {l : List S37} {i : Nat} (hi : i < l.length) : rd_T37 l (i : Int) = l[i] := by simp [rd_T37, hi]
/-- How deep messages stand within one another. -/
def hL : List S37 → Nat
  | [] => 0
  | y :: r => max (1 + hL y.f2) (hL r)
termination_by l => SizeOf.sizeOf l
decreasing_by
  · have := sz_f2 y
    simp only [List.cons.sizeOf_spec]
    omega
  · simp only [List.cons.sizeOf_spec]
    omega
theorem hL_nil : hL [] = 0 := by rw [hL]
theorem hL_cons (y : S37) (r : List S37) : hL (y :: r) = max (1 + hL y.f2) (hL r) := by rw [hL]
theorem count_tot (N : Nat) : ∀ (l : List S37), SizeOf.sizeOf l ≤ N → LenOk l → ∀ (a d : Int), ∃ v k0, ∀ k, k0 ≤ k → glossarylaw11_count.f k l a d = some v := by
  induction N with
  | zero => intro l h; exfalso; cases l <;> simp at h
  | succ N ih =>
    intro l hl ok
    have loop : ∀ (n i : Nat), i + n = l.length → ∀ (a d : Int), ∃ v k0, ∀ k, k0 ≤ k → glossarylaw11_count.l0 k a d l (l.length : Int) (i : Int) = some v := by
      intro n
      induction n with
      | zero =>
        intro i hi a d
        refine ⟨a, 1, fun k hk => ?_⟩
        obtain ⟨k, rfl⟩ : ∃ q, k = q + 1 := ⟨k - 1, by omega⟩
        simp only [glossarylaw11_count.l0]
        rw [if_neg (by omega)]
      | succ n ihn =>
        intro i hi a d
        have hlt : i < l.length := by omega
        have hmem := List.getElem_mem hlt
        have hs := List.sizeOf_lt_of_mem hmem
        have hs2 := sz_f2 l[i]
        by_cases h1 : wrap64 (a + 1) > 100
        · refine ⟨1000, 1, fun k hk => ?_⟩
          obtain ⟨k, rfl⟩ : ∃ q, k = q + 1 := ⟨k - 1, by omega⟩
          simp only [glossarylaw11_count.l0]
          rw [if_pos (by omega), if_pos (by omega), if_pos (by omega), if_pos h1]
        obtain ⟨t, k1, ht⟩ := ih l[i].f2 (by omega) (lenOk_in ok hmem) (wrap64 (a + 1)) (wrap64 (d + 1))
        obtain ⟨v, k2, hv⟩ := ihn (i + 1) (by omega) t d
        have step : ∃ B : Int, ∀ k, glossarylaw11_count.l0 (k + 1) a d l (l.length : Int) (i : Int) = if B > 100 then some 1000 else (glossarylaw11_count.f k l[i].f2 (wrap64 (a + 1)) (wrap64 (d + 1))).bind fun t => glossarylaw11_count.l0 k t d l (l.length : Int) ((i + 1 : Nat) : Int) := by
          exact ⟨_, fun k => by
            simp only [glossarylaw11_count.l0]
            rw [if_pos (by omega), if_pos (by omega), if_pos (by omega), if_neg h1, lenOk_wrap ok hlt, rd_at hlt]⟩
        obtain ⟨B, hB⟩ := step
        by_cases h2 : B > 100
        · refine ⟨1000, 1, fun k hk => ?_⟩
          obtain ⟨k, rfl⟩ : ∃ q, k = q + 1 := ⟨k - 1, by omega⟩
          rw [hB, if_pos h2]
        · refine ⟨v, max k1 k2 + 1, fun k hk => ?_⟩
          obtain ⟨k, rfl⟩ : ∃ q, k = q + 1 := ⟨k - 1, by omega⟩
          rw [hB, if_neg h2, ht k (by omega), Option.bind_some, hv k (by omega)]
    intro a d
    by_cases h : d > 70
    · refine ⟨1000, 1, fun k hk => ?_⟩
      obtain ⟨k, rfl⟩ : ∃ q, k = q + 1 := ⟨k - 1, by omega⟩
      simp only [glossarylaw11_count.f]
      rw [if_pos h]
    · obtain ⟨v, k1, hv⟩ := loop l.length 0 (by omega) a d
      refine ⟨v, k1 + 1, fun k hk => ?_⟩
      obtain ⟨k, rfl⟩ : ∃ q, k = q + 1 := ⟨k - 1, by omega⟩
      simp only [glossarylaw11_count.f]
      rw [if_neg h]
      exact hv k (by omega)
theorem mx_int (x y : Int) : mx x y = max x y := by
  unfold mx
  split <;> omega
theorem rdeep_tot (N : Nat) : ∀ (l : List S37), SizeOf.sizeOf l ≤ N → LenOk l → ∀ (a : Nat), a ≤ 64 → ∃ v : Int, (∃ k0, ∀ k, k0 ≤ k → glossaryref11_deep.f k l (a : Int) = some v) ∧ (a + hL l ≤ 64 → v = ((a + hL l : Nat) : Int)) ∧ (64 < a + hL l → 64 < v) := by
  induction N with
  | zero => intro l h; exfalso; cases l <;> simp at h
  | succ N ih =>
    intro l hl ok a ha
    have loop : ∀ (n i : Nat), i + n = l.length → ∀ (d : Nat), a + 1 ≤ d ∨ n = 0 → d ≤ 64 → ∃ v : Int, (∃ k0, ∀ k, k0 ≤ k → glossaryref11_deep.l0 k (a : Int) (d : Int) l (l.length : Int) (i : Int) = some v) ∧ (max d (a + hL (l.drop i)) ≤ 64 → a ≤ d → v = ((max d (a + hL (l.drop i)) : Nat) : Int)) ∧ (64 < max d (a + hL (l.drop i)) → 64 < v) := by
      intro n
      induction n with
      | zero =>
        intro i hi d _ hd
        rw [List.drop_of_length_le (by omega), hL_nil]
        refine ⟨d, ⟨1, fun k hk => ?_⟩, fun _ _ => by omega, fun _ => by omega⟩
        obtain ⟨k, rfl⟩ : ∃ q, k = q + 1 := ⟨k - 1, by omega⟩
        simp only [glossaryref11_deep.l0]
        rw [if_neg (by omega)]
      | succ n ihn =>
        intro i hi d had hd
        have had : a + 1 ≤ d := by omega
        have hlt : i < l.length := by omega
        have hmem := List.getElem_mem hlt
        have hs := List.sizeOf_lt_of_mem hmem
        have hs2 := sz_f2 l[i]
        obtain ⟨t, ⟨k1, ht⟩, t1, t2⟩ := ih l[i].f2 (by omega) (lenOk_in ok hmem) (a + 1) (by omega)
        have hw : wrap64 ((a : Int) + 1) = ((a + 1 : Nat) : Int) := by unfold wrap64; omega
        have step : ∀ k, k1 ≤ k → glossaryref11_deep.l0 (k + 1) (a : Int) (d : Int) l (l.length : Int) (i : Int) = if max (d : Int) t > 64 then some (max (d : Int) t) else glossaryref11_deep.l0 k (a : Int) (max (d : Int) t) l (l.length : Int) ((i + 1 : Nat) : Int) := by
          intro k hk
          simp only [glossaryref11_deep.l0]
          rw [if_pos (by omega), if_pos (by omega), if_pos (by omega), lenOk_wrap ok hlt, rd_at hlt, hw, ht k hk, Option.bind_some, mx_int]
        rw [List.drop_eq_getElem_cons hlt, hL_cons]
        by_cases hc : a + 1 + hL l[i].f2 ≤ 64
        · have e := t1 hc
          obtain ⟨v, ⟨k2, hv⟩, v1, v2⟩ := ihn (i + 1) (by omega) (max d (a + 1 + hL l[i].f2)) (by omega) (by omega)
          refine ⟨v, ⟨max k1 k2 + 1, fun k hk => ?_⟩, fun h1 h2 => ?_, fun h1 => v2 (by omega)⟩
          · obtain ⟨k, rfl⟩ : ∃ q, k = q + 1 := ⟨k - 1, by omega⟩
            rw [step k (by omega), if_neg (by omega), show max (d : Int) t = ((max d (a + 1 + hL l[i].f2) : Nat) : Int) from by omega]
            exact hv k (by omega)
          · have := v1 (by omega) (by omega)
            omega
        · have e := t2 (by omega)
          refine ⟨max (d : Int) t, ⟨k1 + 1, fun k hk => ?_⟩, fun h1 _ => by omega, fun _ => by omega⟩
          obtain ⟨k, rfl⟩ : ∃ q, k = q + 1 := ⟨k - 1, by omega⟩
          rw [step k (by omega), if_pos (by omega)]
    cases l with
    | nil =>
      obtain ⟨v, ⟨k1, hv⟩, v1, v2⟩ := loop 0 0 rfl a (.inr rfl) ha
      refine ⟨v, ⟨k1 + 2, fun k hk => ?_⟩, fun h => ?_, fun h => v2 (by simp only [List.drop_nil]; omega)⟩
      · obtain ⟨k, rfl⟩ : ∃ q, k = q + 2 := ⟨k - 2, by omega⟩
        simp only [glossaryref11_deep.f, glossaryref11_deep.j0]
        rw [if_neg (by simp), if_neg (by omega)]
        exact hv k (by omega)
      · have := v1 (by rw [List.drop_nil]; omega) (Nat.le_refl a)
        rw [List.drop_nil] at this
        rw [this, hL_nil]
        omega
    | cons y r =>
      have hp : 1 ≤ hL (y :: r) := by rw [hL_cons]; omega
      have hw : wrap64 ((a : Int) + 1) = ((a + 1 : Nat) : Int) := by unfold wrap64; omega
      by_cases h64 : a = 64
      · refine ⟨65, ⟨2, fun k hk => ?_⟩, fun h => by omega, fun _ => by omega⟩
        obtain ⟨k, rfl⟩ : ∃ q, k = q + 2 := ⟨k - 2, by omega⟩
        simp only [glossaryref11_deep.f, glossaryref11_deep.j0]
        rw [if_pos (by simp only [List.length_cons]; omega), hw, if_pos (by omega), h64]
        rfl
      · obtain ⟨v, ⟨k1, hv⟩, v1, v2⟩ := loop (y :: r).length 0 (by omega) (a + 1) (.inl (Nat.le_refl _)) (by omega)
        rw [List.drop_zero] at v1 v2
        refine ⟨v, ⟨k1 + 2, fun k hk => ?_⟩, fun h => ?_, fun h => v2 (by omega)⟩
        · obtain ⟨k, rfl⟩ : ∃ q, k = q + 2 := ⟨k - 2, by omega⟩
          simp only [glossaryref11_deep.f, glossaryref11_deep.j0]
          rw [if_pos (by simp only [List.length_cons]; omega), hw, if_neg (by omega)]
          exact hv k (by omega)
        · have := v1 (by omega) (by omega)
          omega
theorem ddeep_tot (N : Nat) : ∀ (l : List S37), SizeOf.sizeOf l ≤ N → LenOk l → ∀ (a : Nat), a ≤ 64 → ∃ v : Int, (∃ k0, ∀ k, k0 ≤ k → desc_Deep_1.f k l (a : Int) = some v) ∧ (a + hL l ≤ 64 → v = ((a + hL l : Nat) : Int)) ∧ (64 < a + hL l → 64 < v) := by
  induction N with
  | zero => intro l h; exfalso; cases l <;> simp at h
  | succ N ih =>
    intro l hl ok a ha
    have loop : ∀ (n i : Nat), i + n = l.length → ∀ (d : Int), (a : Int) + 1 ≤ d → ∃ v : Int, (∃ k0, ∀ k, k0 ≤ k → desc_Deep_1.l0 k (a : Int) d l (l.length : Int) (i : Int) = some v) ∧ (max d ((a + hL (l.drop i) : Nat) : Int) ≤ 64 → v = max d ((a + hL (l.drop i) : Nat) : Int)) ∧ (64 < max d ((a + hL (l.drop i) : Nat) : Int) → 64 < v) := by
      intro n
      induction n with
      | zero =>
        intro i hi d hd
        rw [List.drop_of_length_le (by omega), hL_nil]
        refine ⟨d, ⟨1, fun k hk => ?_⟩, fun _ => by omega, fun _ => by omega⟩
        obtain ⟨k, rfl⟩ : ∃ q, k = q + 1 := ⟨k - 1, by omega⟩
        simp only [desc_Deep_1.l0]
        rw [if_neg (by omega)]
      | succ n ihn =>
        intro i hi d had
        have hlt : i < l.length := by omega
        have hmem := List.getElem_mem hlt
        have hs := List.sizeOf_lt_of_mem hmem
        have hs2 := sz_f2 l[i]
        by_cases h64 : d > 64
        · refine ⟨d, ⟨1, fun k hk => ?_⟩, fun h => by omega, fun _ => by omega⟩
          obtain ⟨k, rfl⟩ : ∃ q, k = q + 1 := ⟨k - 1, by omega⟩
          simp only [desc_Deep_1.l0]
          rw [if_pos (by omega), if_pos (by omega), if_pos (by omega), if_pos h64]
        obtain ⟨t, ⟨k1, ht⟩, t1, t2⟩ := ih l[i].f2 (by omega) (lenOk_in ok hmem) (a + 1) (by omega)
        have hw : wrap64 ((a : Int) + 1) = ((a + 1 : Nat) : Int) := by unfold wrap64; omega
        obtain ⟨v, ⟨k2, hv⟩, v1, v2⟩ := ihn (i + 1) (by omega) (max d t) (by omega)
        rw [List.drop_eq_getElem_cons hlt, hL_cons]
        refine ⟨v, ⟨max k1 k2 + 1, fun k hk => ?_⟩, fun h1 => ?_, fun h1 => ?_⟩
        · obtain ⟨k, rfl⟩ : ∃ q, k = q + 1 := ⟨k - 1, by omega⟩
          simp only [desc_Deep_1.l0]
          rw [if_pos (by omega), if_pos (by omega), if_pos (by omega), if_neg h64, lenOk_wrap ok hlt, rd_at hlt, hw, ht k (by omega), Option.bind_some, mx_int]
          exact hv k (by omega)
        · have e := t1 (by omega)
          have := v1 (by omega)
          omega
        · by_cases hc : a + 1 + hL l[i].f2 ≤ 64
          · have e := t1 hc
            exact v2 (by omega)
          · have e := t2 (by omega)
            exact v2 (by omega)
    cases l with
    | nil =>
      refine ⟨a, ⟨1, fun k hk => ?_⟩, fun _ => by rw [hL_nil]; omega, fun h => by rw [hL_nil] at h; omega⟩
      obtain ⟨k, rfl⟩ : ∃ q, k = q + 1 := ⟨k - 1, by omega⟩
      simp only [desc_Deep_1.f]
      rw [if_pos (by simp)]
    | cons y r =>
      have hp : 1 ≤ hL (y :: r) := by rw [hL_cons]; omega
      have hw : wrap64 ((a : Int) + 1) = (a : Int) + 1 := by unfold wrap64; omega
      obtain ⟨v, ⟨k1, hv⟩, v1, v2⟩ := loop (y :: r).length 0 (by omega) ((a : Int) + 1) (Int.le_refl _)
      rw [List.drop_zero] at v1 v2
      refine ⟨v, ⟨k1 + 1, fun k hk => ?_⟩, fun h => ?_, fun h => v2 (by omega)⟩
      · obtain ⟨k, rfl⟩ : ∃ q, k = q + 1 := ⟨k - 1, by omega⟩
        simp only [desc_Deep_1.f]
        rw [if_neg (by simp only [List.length_cons]; omega), hw]
        exact hv k (by omega)
      · have := v1 (by omega)
        omega

end DescGrows
open DescGrows
theorem DescGrows : glossarylaw11_DescGrows.Pure := by
  intro x n g hn _ _
  have ok : LenOk x.f4 := g.2.2.2.2.1
  obtain ⟨c, k1, hc⟩ := count_tot _ x.f4 (Nat.le_refl _) ok 0 0
  obtain ⟨u, ⟨k2, hu⟩, u1, u2⟩ := rdeep_tot _ x.f4 (Nat.le_refl _) ok 0 (by omega)
  have ok2 : LenOk [(⟨n, [], x.f4, [], [], [], [], [], [], [], []⟩ : S37)] := by
    refine ⟨by unfold maxLen; simp, fun y hy => ?_⟩
    obtain rfl := List.mem_singleton.1 hy
    rw [good37]
    exact ⟨hn, ⟨Nat.zero_le _, fun _ h => (List.not_mem_nil h).elim⟩, ok, ⟨Nat.zero_le _, fun _ h => (List.not_mem_nil h).elim⟩, ⟨Nat.zero_le _, fun _ h => (List.not_mem_nil h).elim⟩, ⟨Nat.zero_le _, fun _ h => (List.not_mem_nil h).elim⟩, ⟨Nat.zero_le _, fun _ h => (List.not_mem_nil h).elim⟩, ⟨Nat.zero_le _, fun _ h => (List.not_mem_nil h).elim⟩, ⟨Nat.zero_le _, fun _ h => (List.not_mem_nil h).elim⟩, ⟨Nat.zero_le _, fun _ h => (List.not_mem_nil h).elim⟩, ⟨Nat.zero_le _, fun _ h => (List.not_mem_nil h).elim⟩⟩
  obtain ⟨v, ⟨k3, hv⟩, v1, v2⟩ := ddeep_tot _ _ (Nat.le_refl _) ok2 0 (by omega)
  rw [hL_cons, hL_nil] at v1 v2
  dsimp only at v1 v2
  have hK : ∃ K, k1 ≤ K ∧ k2 ≤ K ∧ k3 ≤ K := ⟨max k1 (max k2 k3), by omega, by omega, by omega⟩
  obtain ⟨K, h1, h2, h3⟩ := hK
  refine ⟨K + 1, ?_⟩
  have rd : ∀ k, K ≤ k → ∀ a0 a1 a2 a3 a5 a6 a7 a8 a9 a10, glossaryref11_Deep.f k a0 a1 a2 a3 x.f4 a5 a6 a7 a8 a9 a10 = some (if u ≤ 64 then u else 100) := by
    intro k hk a0 a1 a2 a3 a5 a6 a7 a8 a9 a10
    unfold glossaryref11_Deep.f
    rw [show (0 : Int) = ((0 : Nat) : Int) from rfl, hu k (by omega), Option.bind_some]
    by_cases h : u ≤ 64
    · rw [if_pos h, if_pos h]
    · rw [if_neg h, if_neg h]
  have dd : ∀ a0 a1 a2 a3 a5 a6 a7 a8 a9 a10, desc_Deep.f K a0 a1 a2 a3 [(⟨n, [], x.f4, [], [], [], [], [], [], [], []⟩ : S37)] a5 a6 a7 a8 a9 a10 = some (if v ≤ 64 then v else 100) := by
    intro a0 a1 a2 a3 a5 a6 a7 a8 a9 a10
    unfold desc_Deep.f
    rw [show (0 : Int) = ((0 : Nat) : Int) from rfl, hv K h3, Option.bind_some]
    by_cases h : v ≤ 64
    · rw [if_pos h, if_pos h]
    · rw [if_neg h, if_neg h]
  have bad : glossarylaw11_DescGrows.j0 (K + 1) n true x.f0 x.f1 x.f2 x.f3 x.f4 x.f5 x.f6 x.f7 x.f8 x.f9 x.f10 = some true := by simp only [glossarylaw11_DescGrows.j0, if_true]
  have few : ∃ b, glossarylaw11_Few.f (K + 1) x.f0 x.f1 x.f2 x.f3 x.f4 x.f5 x.f6 x.f7 x.f8 x.f9 x.f10 = some b := by
    unfold glossarylaw11_Few.f
    rw [hc (K + 1) (by omega)]
    simp only [Option.bind_some]
    repeat' split
    all_goals exact ⟨_, rfl⟩
  obtain ⟨b, hb⟩ := few
  unfold glossarylaw11_DescGrows.f glossarylaw11_awake.f
  rw [hb, rd (K + 1) (by omega)]
  simp only [Option.bind_some, if_true]
  cases b with
  | false => exact bad
  | true =>
    rw [if_pos rfl]
    by_cases h64 : u ≤ 64
    · have hh : hL x.f4 ≤ 64 := by
        by_cases h : 64 < 0 + hL x.f4
        · have := u2 h; omega
        · omega
      have eu := u1 (by omega)
      rw [if_pos h64, decide_eq_false (by omega)]
      simp only [glossarylaw11_DescGrows.j0, Bool.false_eq_true, if_false]
      rw [dd, rd K (Nat.le_refl _), if_pos h64]
      simp only [Option.bind_some]
      by_cases h65 : hL x.f4 = 64
      · have := v2 (by omega)
        rw [if_neg (show ¬ v ≤ 64 by omega), if_neg (by unfold wrap64; omega), if_pos rfl, eu, h65]
        rfl
      · have := v1 (by omega)
        rw [if_pos (show v ≤ 64 by omega), if_pos (by unfold wrap64; omega)]
    · rw [if_neg h64, decide_eq_true (by omega)]
      exact bad
end Go.Proofs.Yticnihfjnjliiaa.Pure
