/- Fields of two pieces: what is read of the one, and then of the other. -/
import Derived.Test.YteopaifokfmnjaaWt
namespace Go.Proofs.Yteopaifokfmnjaa.Wj
open Go.RowKit Go.Proofs.YteopaifokfmnjaaW.PrintWords Go.Proofs.YteopaifokfmnjaaW.PrintLast Go.Proofs.YteopaifokfmnjaaW.PrintMore Go.Proofs.Yteopaifokfmnjaa.Vb Go.Proofs.Yteopaifokfmnjaa.Fx Go.Proofs.Yteopaifokfmnjaa.Wr Go.Proofs.Yteopaifokfmnjaa.Wt

theorem tr_more (more : List Int) (l : List Int) : ∀ i v, tr l i = some v → tr (l ++ more) i = some v := by
  induction l with
  | nil => intro i v h; simp [tr] at h
  | cons c r ih =>
    intro i v h
    simp only [tr, List.cons_append] at h ⊢
    by_cases h1 : 10 ≤ i
    · rw [if_pos h1] at h; cases h
    rw [if_neg h1] at h ⊢
    by_cases h2 : i = 9 ∧ 1 < c
    · rw [if_pos h2] at h; cases h
    rw [if_neg h2] at h ⊢
    by_cases h3 : c < 128
    · rw [if_pos h3] at h ⊢; exact h
    rw [if_neg h3] at h ⊢
    cases e : tr r (i + 1) with
    | none => rw [e] at h; cases h
    | some u => rw [e] at h; rw [ih _ _ e]; exact h
theorem tkRest_more (more : List Int) {num kind : Int} {used : Nat} {rest : List Int} (hb : Bytes rest) (h : (tkRest num kind (used : Int) rest).2.2.2.2.2 = 0) : tkRest num kind (used : Int) (rest ++ more) = tkRest num kind (used : Int) rest := by
  have hl : (rest ++ more).length = rest.length + more.length := List.length_append
  unfold tkRest at h ⊢
  by_cases h1 : kind = 1
  · rw [if_pos h1] at h; rw [if_pos h1, if_pos h1]
    by_cases h8 : (rest.length : Int) < 8
    · rw [if_pos h8] at h; exact absurd h (by decide)
    · rw [if_neg h8, if_neg (by omega), List.take_append_of_le_length (by omega)]
  rw [if_neg h1] at h; rw [if_neg h1, if_neg h1]
  by_cases h5 : kind = 5
  · rw [if_pos h5] at h; rw [if_pos h5, if_pos h5]
    by_cases h8 : (rest.length : Int) < 4
    · rw [if_pos h8] at h; exact absurd h (by decide)
    · rw [if_neg h8, if_neg (by omega), List.take_append_of_le_length (by omega)]
  rw [if_neg h5] at h; rw [if_neg h5, if_neg h5]
  cases e : tr rest 0 with
  | none => rw [e] at h; exact absurd (show (10 : Int) = 0 from h) (by decide)
  | some v =>
    obtain ⟨v0, v1, v2, v3, v4⟩ := tr_64 hb e
    rw [tr_more more rest 0 v e]
    rw [e] at h
    dsimp only at h ⊢
    by_cases h0 : kind = 0
    · rw [if_pos h0, if_pos h0]
    rw [if_neg h0] at h; rw [if_neg h0, if_neg h0]
    by_cases h3 : (rest.length : Int) - (v.2 : Int) < v.1
    · rw [if_pos h3] at h; exact absurd h (by decide)
    · rw [if_neg h3, if_neg (by omega), List.drop_append_of_le_length v3, List.take_append_of_le_length (by rw [List.length_drop]; omega)]
theorem tk_more (more : List Int) {l : List Int} (hb : Bytes l) (h : (tk l).2.2.2.2.2 = 0) : tk (l ++ more) = tk l := by
  unfold tk at h ⊢
  cases e : tr l 0 with
  | none => rw [e] at h; exact absurd (show (10 : Int) = 0 from h) (by decide)
  | some v =>
    obtain ⟨v0, v1, v2, v3, v4⟩ := tr_64 hb e
    rw [tr_more more l 0 v e]
    rw [e] at h
    dsimp only at h ⊢
    by_cases hc : 4294967296 ≤ v.1 ∨ v.1 < 8 ∨ ¬ okKind (v.1 % 8)
    · rw [if_pos hc] at h; exact absurd h (by decide)
    · rw [if_neg hc] at h; rw [if_neg hc, if_neg hc, List.drop_append_of_le_length v3]
      exact tkRest_more more (bytes_drop hb v.2) h
theorem rr_fuel {β : Type} (mk : Int → Int → Int → List Int → β) (l : List Int) (hb : Bytes l) : ∀ (d d' i : Nat) (acc : List β), i ≤ l.length → l.length ≤ i + d → l.length ≤ i + d' → rr mk l d i acc = rr mk l d' i acc
  | 0, 0, _, _, _, _, _ => rfl
  | 0, d' + 1, i, acc, h, h1, h2 => by simp only [rr]; rw [if_neg (by omega)]
  | d + 1, 0, i, acc, h, h1, h2 => by simp only [rr]; rw [if_neg (by omega)]
  | d + 1, d' + 1, i, acc, h, h1, h2 => by
    simp only [rr]
    by_cases hi : i < l.length
    · rw [if_pos hi, if_pos hi]
      by_cases he : (tk (l.drop i)).2.2.2.2.2 = 0
      · have hm := tk_ok (bytes_drop hb i) he
        rw [List.length_drop] at hm
        rw [if_pos he, if_pos he]
        exact rr_fuel mk l hb d d' _ _ (by omega) (by omega) (by omega)
      · rw [if_neg he, if_neg he]
    · rw [if_neg hi, if_neg hi]
theorem rr_bad {β : Type} (mk : Int → Int → Int → List Int → β) (l : List Int) (d : Nat) : ∀ (i : Nat) (acc : List β), (rr mk l d i acc).2.2 ≠ 0 → (rr mk l d i acc).1 = [] := by
  induction d with
  | zero => intro i acc h; exact absurd rfl h
  | succ d ih =>
    intro i acc h
    simp only [rr] at h ⊢
    by_cases hi : i < l.length
    · rw [if_pos hi] at h ⊢
      by_cases he : (tk (l.drop i)).2.2.2.2.2 = 0
      · rw [if_pos he] at h ⊢
        exact ih _ _ h
      · rw [if_neg he]
    · rw [if_neg hi] at h; exact absurd rfl h
theorem rr_acc {β : Type} (mk : Int → Int → Int → List Int → β) (l : List Int) (p : List β) (d : Nat) : ∀ (i : Nat) (acc : List β), rr mk l d i (p ++ acc) = if (rr mk l d i acc).2.2 = 0 then (p ++ (rr mk l d i acc).1, 0, 0) else rr mk l d i acc := by
  induction d with
  | zero => intro i acc; exact (if_pos rfl).symm
  | succ d ih =>
    intro i acc
    by_cases hi : i < l.length
    · by_cases he : (tk (l.drop i)).2.2.2.2.2 = 0
      · have e1 : ∀ acc : List β, rr mk l (d + 1) i acc = rr mk l d (i + (tk (l.drop i)).2.2.2.2.1.toNat) (acc ++ [mk (tk (l.drop i)).1 (tk (l.drop i)).2.1 (tk (l.drop i)).2.2.1 (tk (l.drop i)).2.2.2.1]) := by intro acc; rw [rr, if_pos hi, if_pos he]
        rw [e1 (p ++ acc), e1 acc, List.append_assoc, ih]
      · have e1 : ∀ acc : List β, rr mk l (d + 1) i acc = ([], (i : Int), (tk (l.drop i)).2.2.2.2.2) := by intro acc; rw [rr, if_pos hi, if_neg he]
        rw [e1 (p ++ acc), e1 acc, if_neg he]
    · have e1 : ∀ acc : List β, rr mk l (d + 1) i acc = (acc, 0, 0) := by intro acc; rw [rr, if_neg hi]
      rw [e1 (p ++ acc), e1 acc, if_pos rfl]
theorem rr_shift {β : Type} (mk : Int → Int → Int → List Int → β) (a b : List Int) (d : Nat) : ∀ (i : Nat) (acc : List β), rr mk (a ++ b) d (a.length + i) acc = ((rr mk b d i acc).1, (if (rr mk b d i acc).2.2 = 0 then (rr mk b d i acc).2.1 else (a.length : Int) + (rr mk b d i acc).2.1), (rr mk b d i acc).2.2) := by
  induction d with
  | zero => intro i acc; exact congrArg (fun x => (acc, x, (0 : Int))) (if_pos rfl).symm
  | succ d ih =>
    intro i acc
    have hd : (a ++ b).drop (a.length + i) = b.drop i := by simp [List.drop_append]
    have hl : (a ++ b).length = a.length + b.length := List.length_append
    by_cases hi : i < b.length
    · by_cases he : (tk (b.drop i)).2.2.2.2.2 = 0
      · have e1 : rr mk b (d + 1) i acc = rr mk b d (i + (tk (b.drop i)).2.2.2.2.1.toNat) (acc ++ [mk (tk (b.drop i)).1 (tk (b.drop i)).2.1 (tk (b.drop i)).2.2.1 (tk (b.drop i)).2.2.2.1]) := by rw [rr, if_pos hi, if_pos he]
        have e2 : rr mk (a ++ b) (d + 1) (a.length + i) acc = rr mk (a ++ b) d (a.length + i + (tk (b.drop i)).2.2.2.2.1.toNat) (acc ++ [mk (tk (b.drop i)).1 (tk (b.drop i)).2.1 (tk (b.drop i)).2.2.1 (tk (b.drop i)).2.2.2.1]) := by rw [rr, hd, if_pos (by omega), if_pos he]
        rw [e2, e1, Nat.add_assoc, ih]
      · have e1 : rr mk b (d + 1) i acc = ([], (i : Int), (tk (b.drop i)).2.2.2.2.2) := by rw [rr, if_pos hi, if_neg he]
        have e2 : rr mk (a ++ b) (d + 1) (a.length + i) acc = ([], ((a.length + i : Nat) : Int), (tk (b.drop i)).2.2.2.2.2) := by rw [rr, hd, if_pos (by omega), if_neg he]
        rw [e2, e1, if_neg he, Int.natCast_add]
    · have e1 : rr mk b (d + 1) i acc = (acc, 0, 0) := by rw [rr, if_neg hi]
      have e2 : rr mk (a ++ b) (d + 1) (a.length + i) acc = (acc, 0, 0) := by rw [rr, if_neg (by omega)]
      rw [e2, e1, if_pos rfl]
theorem rr_front {β : Type} (mk : Int → Int → Int → List Int → β) (a b : List Int) (ha : Bytes a) (hab : Bytes (a ++ b)) (d : Nat) : ∀ (i : Nat) (acc : List β) (D : Nat), i ≤ a.length → a.length ≤ i + d → (a ++ b).length ≤ i + D → (rr mk a d i acc).2.2 = 0 → rr mk (a ++ b) D i acc = rr mk (a ++ b) D a.length (rr mk a d i acc).1 := by
  have hl : (a ++ b).length = a.length + b.length := List.length_append
  induction d with
  | zero =>
    intro i acc D h1 h2 h3 h
    obtain rfl : i = a.length := by omega
    rfl
  | succ d ih =>
    intro i acc D h1 h2 h3 h
    by_cases hi : i < a.length
    · obtain ⟨D, rfl⟩ : ∃ q, D = q + 1 := ⟨D - 1, by omega⟩
      have e1 : rr mk (a ++ b) (D + 1) i acc = rr mk (a ++ b) D (i + (tk (a.drop i)).2.2.2.2.1.toNat) (acc ++ [mk (tk (a.drop i)).1 (tk (a.drop i)).2.1 (tk (a.drop i)).2.2.1 (tk (a.drop i)).2.2.2.1]) ∧ rr mk a (d + 1) i acc = rr mk a d (i + (tk (a.drop i)).2.2.2.2.1.toNat) (acc ++ [mk (tk (a.drop i)).1 (tk (a.drop i)).2.1 (tk (a.drop i)).2.2.1 (tk (a.drop i)).2.2.2.1]) ∧ (tk (a.drop i)).2.2.2.2.2 = 0 := by
        simp only [rr] at h
        rw [if_pos hi] at h
        by_cases he : (tk (a.drop i)).2.2.2.2.2 = 0
        · have hd : tk ((a ++ b).drop i) = tk (a.drop i) := by rw [List.drop_append_of_le_length h1]; exact tk_more b (bytes_drop ha i) he
          refine ⟨?_, ?_, he⟩
          · rw [rr, hd, if_pos (by omega), if_pos he]
          · rw [rr, if_pos hi, if_pos he]
        · rw [if_neg he] at h; exact absurd h he
      obtain ⟨e1, e2, he⟩ := e1
      have hm := tk_ok (bytes_drop ha i) he
      rw [List.length_drop] at hm
      rw [e2] at h ⊢
      rw [e1, ih _ _ D (by omega) (by omega) (by omega) h]
      exact rr_fuel mk _ hab D (D + 1) _ _ (by omega) (by omega) (by omega)
    · have e2 : rr mk a (d + 1) i acc = (acc, 0, 0) := by rw [rr, if_neg hi]
      obtain rfl : i = a.length := by omega
      rw [e2]
theorem bytes_append {a b : List Int} (ha : Bytes a) (hb : Bytes b) : Bytes (a ++ b) := fun x hx => (List.mem_append.1 hx).elim (ha x) (hb x)
/-- The fields of two pieces. -/
theorem rr_joined {β : Type} (mk : Int → Int → Int → List Int → β) (a b : List Int) (ha : Bytes a) (hb : Bytes b) (h : (rr mk a a.length 0 []).2.2 = 0) : rr mk (a ++ b) (a ++ b).length 0 [] = if (rr mk b b.length 0 []).2.2 = 0 then ((rr mk a a.length 0 []).1 ++ (rr mk b b.length 0 []).1, 0, 0) else ([], (a.length : Int) + (rr mk b b.length 0 []).2.1, (rr mk b b.length 0 []).2.2) := by
  have hl : (a ++ b).length = a.length + b.length := List.length_append
  have hab := bytes_append ha hb
  rw [rr_front mk a b ha hab a.length 0 [] (a ++ b).length (by omega) (by omega) (by omega) h, rr_fuel mk (a ++ b) hab (a ++ b).length b.length a.length _ (by omega) (by omega) (by omega)]
  have hs := rr_shift mk a b b.length 0 (rr mk a a.length 0 []).1
  rw [Nat.add_zero] at hs
  have hc := rr_acc mk b (rr mk a a.length 0 []).1 b.length 0 []
  rw [List.append_nil] at hc
  rw [hs, hc]
  by_cases he : (rr mk b b.length 0 []).2.2 = 0
  · rw [if_pos he, if_pos he, if_pos rfl]
  · rw [if_neg he, if_neg he, if_neg he, rr_bad mk b _ _ _ he]
/-- A place is none below nothing. -/
theorem rr_at {β : Type} (mk : Int → Int → Int → List Int → β) (l : List Int) (d : Nat) : ∀ (i : Nat) (acc : List β), 0 ≤ (rr mk l d i acc).2.1 := by
  induction d with
  | zero => intro i acc; exact Int.le_refl 0
  | succ d ih =>
    intro i acc
    simp only [rr]
    by_cases hi : i < l.length
    · rw [if_pos hi]
      by_cases he : (tk (l.drop i)).2.2.2.2.2 = 0
      · rw [if_pos he]; exact ih _ _
      · rw [if_neg he]; exact Int.natCast_nonneg _
    · rw [if_neg hi]; exact Int.le_refl 0
end Go.Proofs.Yteopaifokfmnjaa.Wj
