/- Characters are counted alike. -/
import Derived.Test.YtkjppjbeajhbfaaGUtfCountsx0
import Derived.Test.YtkjppjbeajhbfaaGUtfCountsx1
import Derived.Test.YtkjppjbeajhbfaaGUtfCountsx2
import Derived.Test.YtkjppjbeajhbfaaGUtfCountsx3
import Derived.Test.YtkjppjbeajhbfaaLst
import Derived.Test.YtkjppjbeajhbfaaRn
import Derived.Test.YtkjppjbeajhbfaaVb
import Derived.Test.YtkjppjbeajhbfaaUt
namespace Go.Proofs.Ytkjppjbeajhbfaa.Pure
open Go.RowKit Go.Proofs.Ytkjppjbeajhbfaa.GUtfCounts Go.Proofs.YtkjppjbeajhbfaaW.PrintWords Go.Proofs.YtkjppjbeajhbfaaW.PrintLast Go.Proofs.YtkjppjbeajhbfaaW.PrintMore Go.Proofs.Ytkjppjbeajhbfaa.Lst Go.Proofs.Ytkjppjbeajhbfaa.Rn Go.Proofs.Ytkjppjbeajhbfaa.Vb Go.Proofs.Ytkjppjbeajhbfaa.Ut
namespace UtfCounts
theorem rune_i32and (x : Int) (h0 : 0 ≤ x) (h1 : x < 256) : wrap32 x = x := by unfold wrap32; omega
theorem rune_step (k : Nat) (l : List Int) (sz x i : Int) (h : 1 ≤ i ∧ i < sz ∧ (sz = 2 ∨ sz = 3 ∨ sz = 4) ∧ 0 ≤ x ∧ x < 32768) (hi : i < (l.length : Int)) (hb : 0 ≤ rd l i ∧ rd l i < 256) :
    utf_Rune.l0 (k + 1) l sz x i = if rd l i / 64 = 2 then (if i + 1 < sz then utf_Rune.l0 k l sz (x * 64 + rd l i % 64) (i + 1) else utf_Rune.fin sz (x * 64 + rd l i % 64)) else some (-1, 0) := by
  simp only [utf_Rune.l0]
  rw [if_pos h, if_neg (by omega), if_pos hi, Go.u8_and63 _ hb.1 hb.2, wrap32_in _ (by omega) (by omega), Go.i32_or6 _ _ (by omega) (by omega) (by omega) (by omega) (by omega)]
theorem rune_end (k : Nat) (l : List Int) (sz x i : Int) (h : 1 ≤ i ∧ i < sz ∧ (sz = 2 ∨ sz = 3 ∨ sz = 4) ∧ 0 ≤ x ∧ x < 32768) (hi : i = (l.length : Int)) :
    utf_Rune.l0 (k + 1) l sz x i = some (-1, 0) := by
  simp only [utf_Rune.l0]
  rw [if_pos h, if_pos hi]
theorem rune_fin (sz least x : Int) (h : utf_Rune.least sz = least) : utf_Rune.fin sz x = some (fin sz least x) := by
  unfold utf_Rune.fin fin
  rw [h]
  by_cases h0 : x < least
  · rw [if_pos h0, if_pos h0]
  · rw [if_neg h0, if_neg h0]
    by_cases h1 : 1114111 < x
    · rw [if_pos h1, if_pos h1]
    · rw [if_neg h1, if_neg h1]
      by_cases h2 : x / 2048 = 27
      · rw [if_pos h2, if_pos h2]
      · rw [if_neg h2, if_neg h2]
theorem rune_f (k : Nat) (l : List Int) (hb : Bytes l) (hk : 4 ≤ k) : utf_Rune.f k l = some (de l) := by
  obtain ⟨k, rfl⟩ : ∃ q, k = q + 3 := ⟨k - 3, by omega⟩
  unfold utf_Rune.f
  cases l with
  | nil => rfl
  | cons c t =>
    have hc := hb c (List.mem_cons_self ..)
    have ht : Bytes t := fun x hx => hb x (List.mem_cons_of_mem _ hx)
    rw [if_neg (by simp only [List.length_cons]; omega), if_pos (by simp only [List.length_cons]; omega), rd_0]
    simp only [de]
    by_cases h1 : c < 128
    · rw [if_pos h1, if_pos h1, wrap32_in _ (by omega) (by omega)]
    rw [if_neg h1, if_neg h1]
    by_cases h2 : c / 32 = 6
    · rw [if_pos h2, if_pos h2, Go.u8_and31 _ (by omega) (by omega), wrap32_in _ (by omega) (by omega)]
      match t, ht with
      | [], _ => rw [rune_end _ _ _ _ _ (by omega) (by rfl)]; rfl
      | b :: t, ht =>
        have h3 := ht b (List.mem_cons_self ..)
        rw [rune_step _ _ _ _ _ (by omega) (by simp only [List.length_cons]; omega) (by rw [rd_1]; exact h3), rd_1]
        simp only [de2]
        by_cases h4 : b / 64 = 2
        · rw [if_pos h4, if_pos h4, if_neg (by omega), rune_fin 2 128 _ rfl]
        · rw [if_neg h4, if_neg h4]
    rw [if_neg h2, if_neg h2]
    by_cases h3 : c / 16 = 14
    · rw [if_pos h3, if_pos h3, Go.u8_and15 _ (by omega) (by omega), wrap32_in _ (by omega) (by omega)]
      match t, ht with
      | [], _ => rw [rune_end _ _ _ _ _ (by omega) (by rfl)]; rfl
      | [b], ht =>
        have k3 := ht b (List.mem_cons_self ..)
        rw [rune_step _ _ _ _ _ (by omega) (by simp only [List.length_cons]; omega) (by rw [rd_1]; exact k3), rd_1, if_pos (show (1 : Int) + 1 < 3 by decide), rune_end _ _ _ _ _ (by omega) (by rfl)]
        by_cases h4 : b / 64 = 2
        · rw [if_pos h4]; rfl
        · rw [if_neg h4]; rfl
      | b :: b2 :: t, ht =>
        have k3 := ht b (List.mem_cons_self ..)
        have k4 := ht b2 (List.mem_cons_of_mem _ (List.mem_cons_self ..))
        simp only [de3]
        rw [rune_step _ _ _ _ _ (by omega) (by simp only [List.length_cons]; omega) (by rw [rd_1]; exact k3), rd_1, if_pos (show (1 : Int) + 1 < 3 by decide), show (1 : Int) + 1 = 2 from rfl, rune_step _ _ _ _ _ (by omega) (by simp only [List.length_cons]; omega) (by rw [rd_2]; exact k4), rd_2, if_neg (show ¬ (2 : Int) + 1 < 3 by decide)]
        by_cases h4 : b / 64 = 2
        · rw [if_pos h4]
          by_cases h5 : b2 / 64 = 2
          · rw [if_pos h5, if_pos ⟨h4, h5⟩, rune_fin 3 2048 _ rfl]
          · rw [if_neg h5, if_neg fun h => h5 h.2]
        · rw [if_neg h4, if_neg fun h => h4 h.1]
    rw [if_neg h3, if_neg h3]
    by_cases h4 : c / 8 = 30
    · rw [if_pos h4, if_pos h4, Go.u8_and7 _ (by omega) (by omega), wrap32_in _ (by omega) (by omega)]
      match t, ht with
      | [], _ => rw [rune_end _ _ _ _ _ (by omega) (by rfl)]; rfl
      | [b], ht =>
        have k3 := ht b (List.mem_cons_self ..)
        rw [rune_step _ _ _ _ _ (by omega) (by simp only [List.length_cons]; omega) (by rw [rd_1]; exact k3), rd_1, if_pos (show (1 : Int) + 1 < 4 by decide), rune_end _ _ _ _ _ (by omega) (by rfl)]
        by_cases h4 : b / 64 = 2
        · rw [if_pos h4]; rfl
        · rw [if_neg h4]; rfl
      | [b, b2], ht =>
        have k3 := ht b (List.mem_cons_self ..)
        have k4 := ht b2 (List.mem_cons_of_mem _ (List.mem_cons_self ..))
        rw [rune_step _ _ _ _ _ (by omega) (by simp only [List.length_cons]; omega) (by rw [rd_1]; exact k3), rd_1, if_pos (show (1 : Int) + 1 < 4 by decide), show (1 : Int) + 1 = 2 from rfl, rune_step _ _ _ _ _ (by omega) (by simp only [List.length_cons]; omega) (by rw [rd_2]; exact k4), rd_2, if_pos (show (2 : Int) + 1 < 4 by decide), rune_end _ _ _ _ _ (by omega) (by rfl)]
        by_cases h4 : b / 64 = 2
        · rw [if_pos h4]
          by_cases h5 : b2 / 64 = 2
          · rw [if_pos h5]; rfl
          · rw [if_neg h5]; rfl
        · rw [if_neg h4]; rfl
      | b :: b2 :: b3 :: t, ht =>
        have k3 := ht b (List.mem_cons_self ..)
        have k4 := ht b2 (List.mem_cons_of_mem _ (List.mem_cons_self ..))
        have k5 := ht b3 (List.mem_cons_of_mem _ (List.mem_cons_of_mem _ (List.mem_cons_self ..)))
        simp only [de4]
        rw [rune_step _ _ _ _ _ (by omega) (by simp only [List.length_cons]; omega) (by rw [rd_1]; exact k3), rd_1, if_pos (show (1 : Int) + 1 < 4 by decide), show (1 : Int) + 1 = 2 from rfl, rune_step _ _ _ _ _ (by omega) (by simp only [List.length_cons]; omega) (by rw [rd_2]; exact k4), rd_2, if_pos (show (2 : Int) + 1 < 4 by decide), show (2 : Int) + 1 = 3 from rfl, rune_step _ _ _ _ _ (by omega) (by simp only [List.length_cons]; omega) (by rw [rd_3]; exact k5), rd_3, if_neg (show ¬ (3 : Int) + 1 < 4 by decide)]
        by_cases h4 : b / 64 = 2
        · rw [if_pos h4]
          by_cases h5 : b2 / 64 = 2
          · rw [if_pos h5]
            by_cases h6 : b3 / 64 = 2
            · rw [if_pos h6, if_pos ⟨h4, h5, h6⟩, rune_fin 4 65536 _ rfl]
            · rw [if_neg h6, if_neg fun h => h6 h.2.2]
          · rw [if_neg h5, if_neg fun h => h5 h.2.1]
        · rw [if_neg h4, if_neg fun h => h4 h.1]
    rw [if_neg h4, if_neg h4]

theorem put_shl2 : shl .u8 240 (wrap64 (4 - 2)) = 192 := by decide +kernel
theorem put_shl3 : shl .u8 240 (wrap64 (4 - 3)) = 224 := by decide +kernel
theorem put_shl4 : shl .u8 240 (wrap64 (4 - 4)) = 240 := by decide +kernel
theorem put_step (k : Nat) (x s i : Int) (a : List Int) (h0 : 0 ≤ x) (h1 : x < 2147483648) (hi : 0 < i) (hl : i < (a.length : Int)) (hs : i < 100) :
    utf_Put.l0 (k + 1) x s a i = utf_Put.l0 k (x / 64) s (a.set i.toNat (128 + x % 64)) (i - 1) := by
  simp only [utf_Put.l0]
  rw [if_pos (by omega), if_pos (by omega), if_pos hl, i32_and63 x h0 h1, show x % 64 % 256 = x % 64 from by omega, Go.u8_or128 _ (by omega) (by omega), wrap64_in _ (by omega) (by omega)]
theorem put_f (k : Nat) (r : Int) (h0 : -2147483648 ≤ r) (h1 : r < 2147483648) (hk : 8 ≤ k) : utf_Put.f k r = some (en r) := by
  obtain ⟨k, rfl⟩ : ∃ q, k = q + 8 := ⟨k - 8, by omega⟩
  have no : ∀ x, utf_Put.j0 (k + 8) x 4 true = some [] := fun x => by simp only [utf_Put.j0]; rfl
  unfold utf_Put.f
  by_cases ha : r < 0
  · rw [if_pos ha, no, en_none (by unfold chr; omega)]
  rw [if_neg ha]
  by_cases hb : r > 1114111
  · rw [if_pos hb, no, en_none (by unfold chr; omega)]
  rw [if_neg hb]
  by_cases hc : r / 2048 = 27
  · rw [hc, show ((27 : Int) == 27) = true from rfl, no, en_none (by unfold chr; omega)]
  have hr : chr r := by unfold chr; omega
  rw [show (r / 2048 == 27) = false from beq_false_of_ne hc]
  simp only [utf_Put.j0]
  rw [if_neg (by decide)]
  rcases en_sizes hr with k1 | ⟨k0, k1⟩ | ⟨k0, k1⟩ | k0
  · rw [if_pos k1, en_1 hr k1, show r % 256 = r from by omega]
  · rw [if_neg (by omega), if_pos k1, en_2 hr k0 k1]
    simp only [utf_Put.j1]
    rw [if_pos (by decide), if_pos (by decide), show List.replicate (2 : Int).toNat (0 : Int) = [0, 0] from rfl, show wrap64 (2 - 1) = 1 from by decide +kernel, put_step _ _ _ _ _ (by omega) (by omega) (by omega) (by simp) (by omega)]
    simp only [utf_Put.l0]
    rw [if_neg (by omega), if_pos (by decide +kernel), if_pos (by simp), put_shl2, show r / 64 % 256 = r / 64 from by omega, Go.u8_or192 _ (by omega) (by omega)]
    rfl
  · rw [if_neg (by omega), if_neg (by omega), if_pos k1, en_3 hr k0 k1]
    simp only [utf_Put.j1]
    rw [if_pos (by decide), if_pos (by decide), show List.replicate (3 : Int).toNat (0 : Int) = [0, 0, 0] from rfl, show wrap64 (3 - 1) = 2 from by decide +kernel, put_step _ _ _ _ _ (by omega) (by omega) (by omega) (by simp) (by omega), put_step _ _ _ _ _ (by omega) (by omega) (by omega) (by simp) (by omega)]
    simp only [utf_Put.l0]
    rw [if_neg (by omega), if_pos (by decide +kernel), if_pos (by simp), put_shl3, show r / 64 / 64 % 256 = r / 4096 from by omega, Go.u8_or224 _ (by omega) (by omega)]
    rfl
  · rw [if_neg (by omega), if_neg (by omega), if_neg (by omega), en_4 hr k0]
    simp only [utf_Put.j1]
    rw [if_pos (by decide), if_pos (by decide), show List.replicate (4 : Int).toNat (0 : Int) = [0, 0, 0, 0] from rfl, show wrap64 (4 - 1) = 3 from by decide +kernel, put_step _ _ _ _ _ (by omega) (by omega) (by omega) (by simp) (by omega), put_step _ _ _ _ _ (by omega) (by omega) (by omega) (by simp) (by omega), put_step _ _ _ _ _ (by omega) (by omega) (by omega) (by simp) (by omega)]
    simp only [utf_Put.l0]
    rw [if_neg (by omega), if_pos (by decide +kernel), if_pos (by simp), put_shl4, show r / 64 / 64 / 64 % 256 = r / 262144 from by omega, show r / 64 / 64 % 64 = r / 4096 % 64 from by omega, Go.u8_or240 _ (by omega) (by omega)]
    rfl

theorem count_l (n : Nat) : ∀ (k : Nat) (l : List Int) (c : Int), l.length ≤ n → Bytes l → n + 8 ≤ k → 0 ≤ c → c + (l.length : Int) < 4611686018427387904 →
    utf_count.l0 k l c = some (c + ((ct l).1 : Int), (ct l).2) := by
  induction n with
  | zero =>
    intro k l c hl _ hk _ _
    obtain ⟨k, rfl⟩ : ∃ q, k = q + 1 := ⟨k - 1, by omega⟩
    have : l = [] := List.length_eq_zero_iff.1 (by omega)
    rw [this, ct_nil]
    simp only [utf_count.l0]
    simp
  | succ n ih =>
    intro k l c hl hb hk c0 c1
    obtain ⟨k, rfl⟩ : ∃ q, k = q + 1 := ⟨k - 1, by omega⟩
    by_cases h0 : l = []
    · rw [h0, ct_nil]
      simp only [utf_count.l0]
      simp
    have hp : 0 < l.length := by
      rcases Nat.eq_zero_or_pos l.length with h | h
      · exact absurd (List.length_eq_zero_iff.1 h) h0
      · exact h
    simp only [utf_count.l0]
    rw [if_pos (by omega), rune_f k l hb (by omega)]
    simp only [Option.bind_some]
    rcases de_two hb with hd | ⟨r, more, hr, e⟩
    · rw [hd, if_pos rfl, ct_bad h0 (by rw [hd]; decide)]
      simp
    · have hl' := en_len hr
      have hd := de_en hr more
      rw [← e] at hd
      have e2 : l.length = (en r).length + more.length := by rw [e, List.length_append]
      rw [hd, if_neg (by show ¬ (((en r).length : Int) = 0); omega), if_pos (by show 0 ≤ ((en r).length : Int); omega), if_pos (by show ((en r).length : Int) ≤ _; omega), e, ct_en hr]
      show utf_count.l0 k ((en r ++ more).drop ((en r).length : Int).toNat) _ = _
      rw [Int.toNat_natCast, List.drop_left, wrap64_in _ (by omega) (by omega), ih k more (c + 1) (by omega) (fun x hx => hb x (by rw [e]; exact List.mem_append_right _ hx)) (by omega) (by omega) (by omega)]
      congr 2
      show c + 1 + ((ct more).1 : Int) = c + (((ct more).1 + 1 : Nat) : Int)
      omega
theorem count_f (k : Nat) (l : List Int) (hb : Bytes l) (h : l.length + 8 ≤ k) (h1 : (l.length : Int) < 4611686018427387904) : utf_count.f k l = some (((ct l).1 : Int), (ct l).2) := by
  unfold utf_count.f
  rw [count_l l.length k l 0 (by omega) hb (by omega) (by omega) (by omega), Int.zero_add]
theorem valid_f (k : Nat) (l : List Int) (hb : Bytes l) (h : l.length + 8 ≤ k) (h1 : (l.length : Int) < 4611686018427387904) : utf_Valid.f k l = some (ct l).2 := by
  unfold utf_Valid.f
  rw [count_f k l hb h h1]
  rfl

theorem awake_f (k : Nat) (hk : 10 ≤ k) : glossarylaw03_awake.f k = some true := by
  have b1 : Bytes [192, 128] := by
    intro x hx
    simp only [List.mem_cons, List.not_mem_nil, or_false] at hx
    omega
  have b0 : Bytes [] := fun x hx => by cases hx
  unfold glossarylaw03_awake.f
  rw [rune_f k _ b1 (by omega), put_f k 8364 (by omega) (by omega) (by omega), valid_f k [] b0 (by simp; omega) (by simp), ct_nil]
  simp only [Option.bind_some]
  rw [show en 8364 = [226, 130, 172] from by decide, Go.Lib.strOfNums_toList, if_pos (by decide), show de [192, 128] = (-1, 0) from by decide]
  rfl

theorem rchar_f (r : Int) : glossaryref01_character.f r = some (decide (chr r)) := by
  have e : decide (chr r) = decide (0 ≤ r ∧ r ≤ 1114111 ∧ (r < 55296 ∨ 57343 < r)) := decide_eq_decide.2 Iff.rfl
  rw [e]
  unfold glossaryref01_character.f
  by_cases h0 : r ≥ 0
  · rw [if_pos h0]
    by_cases h1 : r ≤ 1114111
    · rw [if_pos h1]
      by_cases h2 : r < 55296
      · rw [if_pos h2, decide_eq_true (⟨h0, h1, .inl h2⟩ : 0 ≤ r ∧ r ≤ 1114111 ∧ (r < 55296 ∨ 57343 < r))]
      · rw [if_neg h2]
        congr 1
        apply decide_eq_decide.2
        constructor
        · intro h3; exact ⟨h0, h1, .inr h3⟩
        · intro h3; rcases h3.2.2 with h | h
          · exact absurd h h2
          · exact h
    · rw [if_neg h1, decide_eq_false (fun h : 0 ≤ r ∧ r ≤ 1114111 ∧ (r < 55296 ∨ 57343 < r) => h1 h.2.1)]
  · rw [if_neg h0, decide_eq_false (fun h : 0 ≤ r ∧ r ≤ 1114111 ∧ (r < 55296 ∨ 57343 < r) => h0 h.1)]
theorem rputrune_f (r : Int) (h0 : -2147483648 ≤ r) (h1 : r < 2147483648) : glossaryref01_PutRune.f r = some (en r) := by
  unfold glossaryref01_PutRune.f
  rw [wrap64_in r (by omega) (by omega), rchar_f]
  simp only [Option.bind_some]
  by_cases hc : chr r
  · have hc' := hc
    unfold chr at hc'
    rw [decide_eq_true hc, if_pos rfl, Int.tdiv_eq_ediv_of_nonneg (by omega), Int.tdiv_eq_ediv_of_nonneg (by omega), Int.tdiv_eq_ediv_of_nonneg (by omega), Int.tmod_eq_emod_of_nonneg (by omega), wrap64_in (r / 64) (by omega) (by omega), wrap64_in (r / 4096) (by omega) (by omega), wrap64_in (r / 262144) (by omega) (by omega), Int.tmod_eq_emod_of_nonneg (by omega), Int.tmod_eq_emod_of_nonneg (by omega)]
    rcases en_sizes hc with k1 | ⟨k0, k1⟩ | ⟨k0, k1⟩ | k0
    · rw [if_pos k1, en_1 hc k1, show r % 256 = r from by omega]
    · rw [if_neg (by omega), if_pos k1, en_2 hc k0 k1, wrap64_in _ (by omega) (by omega), wrap64_in _ (by omega) (by omega), show (192 + r / 64) % 256 = 192 + r / 64 from by omega, show (128 + r % 64) % 256 = 128 + r % 64 from by omega]
    · rw [if_neg (by omega), if_neg (by omega), if_pos k1, en_3 hc k0 k1, wrap64_in (224 + _) (by omega) (by omega), wrap64_in (128 + r / 64 % 64) (by omega) (by omega), wrap64_in (128 + r % 64) (by omega) (by omega), show (224 + r / 4096) % 256 = 224 + r / 4096 from by omega, show (128 + r / 64 % 64) % 256 = 128 + r / 64 % 64 from by omega, show (128 + r % 64) % 256 = 128 + r % 64 from by omega]
    · rw [if_neg (by omega), if_neg (by omega), if_neg (by omega), en_4 hc k0, wrap64_in (240 + _) (by omega) (by omega), wrap64_in (128 + r / 4096 % 64) (by omega) (by omega), wrap64_in (128 + r / 64 % 64) (by omega) (by omega), wrap64_in (128 + r % 64) (by omega) (by omega), show (240 + r / 262144) % 256 = 240 + r / 262144 from by omega, show (128 + r / 4096 % 64) % 256 = 128 + r / 4096 % 64 from by omega, show (128 + r / 64 % 64) % 256 = 128 + r / 64 % 64 from by omega, show (128 + r % 64) % 256 = 128 + r % 64 from by omega]
  · rw [decide_eq_false hc, if_neg (by decide), en_none hc]

theorem rrune_step (k : Nat) (l : List Int) (s x i : Int) (h0 : 0 ≤ i) (h1 : i < s) (h2 : s ≤ (l.length : Int)) (h3 : s ≤ 4) (x0 : -1073741824 ≤ x) (x1 : x < 1073741824) (hb : 0 ≤ rd l i ∧ rd l i < 256) :
    glossaryref01_Rune.l1 (k + 1) l s x i = glossaryref01_Rune.l1 k l s (x * 64 + rd l i - 128) (i + 1) := by
  simp only [glossaryref01_Rune.l1]
  rw [if_pos h1, if_pos h0, if_pos (by omega), wrap64_in (x * 64) (by omega) (by omega), wrap64_in (rd l i) (by omega) (by omega), wrap64_in (x * 64 + rd l i) (by omega) (by omega), wrap64_in (x * 64 + rd l i - 128) (by omega) (by omega), wrap64_in (i + 1) (by omega) (by omega)]
theorem rrune_end (k : Nat) (l : List Int) (s x : Int) (hb : Bytes l) (h0 : 1 ≤ s) (h2 : s ≤ (l.length : Int)) (h3 : s ≤ 4) (x0 : -1073741824 ≤ x) (x1 : x < 1073741824) :
    glossaryref01_Rune.l1 (k + 1) l s x s = if chr x ∧ en x = l.take s.toNat then some (x, s) else glossaryref01_Rune.l0 k l (s + 1) := by
  simp only [glossaryref01_Rune.l1]
  rw [if_neg (by omega), wrap32_in x (by omega) (by omega), rputrune_f x (by omega) (by omega), rchar_f, wrap64_in (s + 1) (by omega) (by omega)]
  simp only [Option.bind_some]
  by_cases hc : chr x
  · rw [decide_eq_true hc, if_pos rfl, if_pos (by omega), if_pos h2]
    by_cases he : en x = l.take s.toNat
    · rw [if_pos ((strOf_inj (en_bytes x) (bytes_take hb _)).2 he), if_pos ⟨hc, he⟩]
    · rw [if_neg fun h => he ((strOf_inj (en_bytes x) (bytes_take hb _)).1 h), if_neg fun h => he h.2]
  · rw [decide_eq_false hc, if_neg (by decide), if_neg fun h => hc h.1]
/-- What s bytes come to. -/
def worthOf (l : List Int) (s : Int) : Int :=
  if s = 1 then rd l 0 else if s = 2 then (rd l 0 - 192) * 64 + rd l 1 - 128 else if s = 3 then ((rd l 0 - 224) * 64 + rd l 1 - 128) * 64 + rd l 2 - 128
  else (((rd l 0 - 240) * 64 + rd l 1 - 128) * 64 + rd l 2 - 128) * 64 + rd l 3 - 128
theorem worthOf_en {r : Int} (h : chr r) (more : List Int) : worthOf (en r ++ more) ((en r).length : Int) = r := by
  have h' := h
  unfold chr at h'
  rcases en_sizes h with h1 | ⟨h0, h1⟩ | ⟨h0, h1⟩ | h0
  · rw [en_1 h h1]; rfl
  · rw [en_2 h h0 h1]
    show (192 + r / 64 - 192) * 64 + (128 + r % 64) - 128 = r
    omega
  · rw [en_3 h h0 h1]
    show ((224 + r / 4096 - 224) * 64 + (128 + r / 64 % 64) - 128) * 64 + (128 + r % 64) - 128 = r
    omega
  · rw [en_4 h h0]
    show (((240 + r / 262144 - 240) * 64 + (128 + r / 4096 % 64) - 128) * 64 + (128 + r / 64 % 64) - 128) * 64 + (128 + r % 64) - 128 = r
    omega
theorem rd_byte {l : List Int} (hb : Bytes l) (i : Int) : 0 ≤ rd l i ∧ rd l i < 256 := by
  unfold rd
  by_cases h : i.toNat < l.length
  · rw [List.getD_eq_getElem?_getD, List.getElem?_eq_getElem h]; exact hb _ (List.getElem_mem h)
  · rw [List.getD_eq_getElem?_getD, List.getElem?_eq_none (by omega)]; decide
theorem rrune_at (k : Nat) (l : List Int) (s : Int) (hb : Bytes l) (h0 : 1 ≤ s) (h2 : s ≤ (l.length : Int)) (h3 : s ≤ 4) :
    glossaryref01_Rune.l0 (k + 7) l s = if chr (worthOf l s) ∧ en (worthOf l s) = l.take s.toNat then some (worthOf l s, s) else glossaryref01_Rune.l0 (k + 4 - s.toNat) l (s + 1) := by
  have b0 := rd_byte hb 0
  have b1 := rd_byte hb 1
  have b2 := rd_byte hb 2
  have b3 := rd_byte hb 3
  simp only [glossaryref01_Rune.l0]
  rw [if_pos h3, decide_eq_true h2]
  simp only [glossaryref01_Rune.j1, if_true]
  rw [if_pos (by omega), wrap64_in (rd l 0) (by omega) (by omega), wrap64_in (rd l 0 - 192) (by omega) (by omega), wrap64_in (rd l 0 - 224) (by omega) (by omega), wrap64_in (rd l 0 - 240) (by omega) (by omega)]
  have hs : s = 1 ∨ s = 2 ∨ s = 3 ∨ s = 4 := by omega
  rcases hs with rfl | rfl | rfl | rfl
  · rw [if_neg (by omega), if_neg (by omega), if_neg (by omega)]
    simp only [glossaryref01_Rune.j2]
    rw [rrune_end _ _ _ _ hb (by omega) h2 h3 (by omega) (by omega)]
    rfl
  · rw [if_pos rfl]
    simp only [glossaryref01_Rune.j2]
    rw [rrune_step _ _ _ _ _ (by omega) (by omega) h2 h3 (by omega) (by omega) b1, show (1 : Int) + 1 = 2 from rfl, rrune_end _ _ _ _ hb (by omega) h2 h3 (by omega) (by omega)]
    rfl
  · rw [if_neg (by omega), if_pos rfl]
    simp only [glossaryref01_Rune.j2]
    rw [rrune_step _ _ _ _ _ (by omega) (by omega) h2 h3 (by omega) (by omega) b1, show (1 : Int) + 1 = 2 from rfl, rrune_step _ _ _ _ _ (by omega) (by omega) h2 h3 (by omega) (by omega) b2, show (2 : Int) + 1 = 3 from rfl, rrune_end _ _ _ _ hb (by omega) h2 h3 (by omega) (by omega)]
    rfl
  · rw [if_neg (by omega), if_neg (by omega), if_pos rfl]
    simp only [glossaryref01_Rune.j2]
    rw [rrune_step _ _ _ _ _ (by omega) (by omega) h2 h3 (by omega) (by omega) b1, show (1 : Int) + 1 = 2 from rfl, rrune_step _ _ _ _ _ (by omega) (by omega) h2 h3 (by omega) (by omega) b2, show (2 : Int) + 1 = 3 from rfl, rrune_step _ _ _ _ _ (by omega) (by omega) h2 h3 (by omega) (by omega) b3, show (3 : Int) + 1 = 4 from rfl, rrune_end _ _ _ _ hb (by omega) h2 h3 (by omega) (by omega)]
    rfl
theorem rrune_l (n : Nat) : ∀ (k : Nat) (l : List Int) (s : Int), s + n = 5 → 1 ≤ s → Bytes l → 7 * n + 3 ≤ k → (de l = (-1, 0) ∨ s ≤ (de l).2) → glossaryref01_Rune.l0 k l s = some (de l) := by
  induction n with
  | zero =>
    intro k l s hs h1 hb hk hd
    obtain ⟨k, rfl⟩ : ∃ q, k = q + 2 := ⟨k - 2, by omega⟩
    simp only [glossaryref01_Rune.l0]
    rw [if_neg (by omega)]
    simp only [glossaryref01_Rune.j1]
    rcases de_two hb with h | ⟨r, more, hr, e⟩
    · rw [h]; rfl
    · exfalso
      have := en_len hr
      have hde := de_en hr more
      rw [← e] at hde
      rcases hd with h | h
      · rw [h] at hde
        have := congrArg Prod.snd hde
        have : (0 : Int) = ((en r).length : Int) := this
        omega
      · rw [hde] at h
        have h : s ≤ ((en r).length : Int) := h
        omega
  | succ n ih =>
    intro k l s hs h1 hb hk hd
    obtain ⟨k, rfl⟩ : ∃ q, k = q + 7 := ⟨k - 7, by omega⟩
    by_cases h2 : s ≤ (l.length : Int)
    · rw [rrune_at k l s hb h1 h2 (by omega)]
      by_cases hc : chr (worthOf l s) ∧ en (worthOf l s) = l.take s.toNat
      · rw [if_pos hc]
        have e : l = en (worthOf l s) ++ l.drop s.toNat := by rw [hc.2, List.take_append_drop]
        have hde := de_en hc.1 (l.drop s.toNat)
        rw [← e] at hde
        rw [hde, hc.2, List.length_take]
        congr 2
        omega
      · rw [if_neg hc]
        apply ih _ l (s + 1) (by omega) (by omega) hb (by omega)
        rcases de_two hb with h | ⟨r, more, hr, e⟩
        · exact .inl h
        · right
          have hde := de_en hr more
          rw [← e] at hde
          have hl := en_len hr
          rcases hd with h | h
          · rw [h] at hde
            have := congrArg Prod.snd hde
            have : (0 : Int) = ((en r).length : Int) := this
            omega
          · rw [hde] at h ⊢
            have h : s ≤ ((en r).length : Int) := h
            show s + 1 ≤ ((en r).length : Int)
            rcases Int.lt_or_le s ((en r).length : Int) with h4 | h4
            · omega
            · exfalso
              have hs : s = ((en r).length : Int) := by omega
              apply hc
              have w : worthOf l s = r := by rw [hs, e]; exact worthOf_en hr more
              rw [w]
              refine ⟨hr, ?_⟩
              rw [hs, Int.toNat_natCast, e, List.take_left]
    · simp only [glossaryref01_Rune.l0]
      rw [if_pos (by omega), decide_eq_false h2]
      simp only [glossaryref01_Rune.j1]
      rcases de_two hb with h | ⟨r, more, hr, e⟩
      · rw [h]; rfl
      · exfalso
        have hl := en_len hr
        have hde := de_en hr more
        rw [← e] at hde
        have e2 : l.length = (en r).length + more.length := by rw [e, List.length_append]
        rcases hd with h | h
        · rw [h] at hde
          have := congrArg Prod.snd hde
          have : (0 : Int) = ((en r).length : Int) := this
          omega
        · rw [hde] at h
          have h : s ≤ ((en r).length : Int) := h
          omega
theorem rrune_f (k : Nat) (l : List Int) (hb : Bytes l) (hk : 40 ≤ k) : glossaryref01_Rune.f k l = some (de l) := by
  unfold glossaryref01_Rune.f
  apply rrune_l 4 k l 1 (by omega) (by omega) hb (by omega)
  rcases de_two hb with h | ⟨r, more, hr, e⟩
  · exact .inl h
  · right
    have := en_len hr
    rw [e, de_en hr]
    show (1 : Int) ≤ ((en r).length : Int)
    omega

theorem ucount_f (k : Nat) (l : List Int) (hb : Bytes l) (h : l.length + 8 ≤ k) (h1 : (l.length : Int) < 4611686018427387904) : utf_Count.f k l = some ((ct l).1 : Int) := by
  unfold utf_Count.f
  rw [count_f k l hb h h1]
  rfl

theorem rcount_l (n : Nat) : ∀ (k : Nat) (l : List Int) (c : Int), l.length ≤ n → Bytes l → n + 48 ≤ k → 0 ≤ c → c + (l.length : Int) < 4611686018427387904 →
    glossaryref01_Count.l0 k l c = some (c + ((ct l).1 : Int), (ct l).2) := by
  induction n with
  | zero =>
    intro k l c hl _ hk _ _
    obtain ⟨k, rfl⟩ : ∃ q, k = q + 1 := ⟨k - 1, by omega⟩
    have : l = [] := List.length_eq_zero_iff.1 (by omega)
    rw [this, ct_nil]
    simp only [glossaryref01_Count.l0]
    simp
  | succ n ih =>
    intro k l c hl hb hk c0 c1
    obtain ⟨k, rfl⟩ : ∃ q, k = q + 1 := ⟨k - 1, by omega⟩
    by_cases h0 : l = []
    · rw [h0, ct_nil]
      simp only [glossaryref01_Count.l0]
      simp
    have hp : 0 < l.length := by
      rcases Nat.eq_zero_or_pos l.length with h | h
      · exact absurd (List.length_eq_zero_iff.1 h) h0
      · exact h
    simp only [glossaryref01_Count.l0]
    rw [if_pos (by omega), rrune_f k l hb (by omega)]
    simp only [Option.bind_some]
    rcases de_two hb with hd | ⟨r, more, hr, e⟩
    · rw [hd, if_pos rfl, ct_bad h0 (by rw [hd]; decide)]
      simp
    · have hl' := en_len hr
      have hd := de_en hr more
      rw [← e] at hd
      have e2 : l.length = (en r).length + more.length := by rw [e, List.length_append]
      rw [hd, if_neg (by show ¬ (((en r).length : Int) = 0); omega), if_pos (by show 0 ≤ ((en r).length : Int); omega), if_pos (by show ((en r).length : Int) ≤ _; omega), e, ct_en hr]
      show glossaryref01_Count.l0 k ((en r ++ more).drop ((en r).length : Int).toNat) _ = _
      rw [Int.toNat_natCast, List.drop_left, wrap64_in _ (by omega) (by omega), ih k more (c + 1) (by omega) (fun x hx => hb x (by rw [e]; exact List.mem_append_right _ hx)) (by omega) (by omega) (by omega)]
      congr 2
      show c + 1 + ((ct more).1 : Int) = c + (((ct more).1 + 1 : Nat) : Int)
      omega
theorem rcount_f (k : Nat) (l : List Int) (hb : Bytes l) (h : l.length + 48 ≤ k) (h1 : (l.length : Int) < 4611686018427387904) : glossaryref01_Count.f k l = some (((ct l).1 : Int), (ct l).2) := by
  unfold glossaryref01_Count.f
  rw [rcount_l l.length k l 0 (by omega) hb (by omega) (by omega) (by omega), Int.zero_add]

end UtfCounts
open UtfCounts
theorem UtfCounts : glossarylaw03_UtfCounts.Pure := by
  intro l _ _ hm
  have hb : Bytes l := fun x hx => wf_u8 (hm x hx)
  refine ⟨600, ?_⟩
  unfold glossarylaw03_UtfCounts.f
  rw [awake_f 600 (by omega)]
  simp only [Option.bind_some, if_true]
  by_cases h : (l.length : Int) > 500
  · rw [if_pos h]
  · rw [if_neg h, rcount_f 600 l hb (by omega) (by omega), ucount_f 600 l hb (by omega) (by omega), valid_f 600 l hb (by omega) (by omega)]
    simp
end Go.Proofs.Ytkjppjbeajhbfaa.Pure
