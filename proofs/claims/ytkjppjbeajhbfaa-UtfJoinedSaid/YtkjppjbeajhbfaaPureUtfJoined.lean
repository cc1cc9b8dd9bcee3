/- Two characters are two, and a part of one is none. -/
import Derived.Test.YtkjppjbeajhbfaaGUtfJoinedx0
import Derived.Test.YtkjppjbeajhbfaaGUtfJoinedx1
import Derived.Test.YtkjppjbeajhbfaaGUtfJoinedx2
import Derived.Test.YtkjppjbeajhbfaaLst
import Derived.Test.YtkjppjbeajhbfaaRn
import Derived.Test.YtkjppjbeajhbfaaVb
import Derived.Test.YtkjppjbeajhbfaaUt
namespace Go.Proofs.Ytkjppjbeajhbfaa.Pure
open Go.RowKit Go.Proofs.Ytkjppjbeajhbfaa.GUtfJoined Go.Proofs.YtkjppjbeajhbfaaW.PrintWords Go.Proofs.YtkjppjbeajhbfaaW.PrintLast Go.Proofs.YtkjppjbeajhbfaaW.PrintMore Go.Proofs.Ytkjppjbeajhbfaa.Lst Go.Proofs.Ytkjppjbeajhbfaa.Rn Go.Proofs.Ytkjppjbeajhbfaa.Vb Go.Proofs.Ytkjppjbeajhbfaa.Ut
namespace UtfJoined
theorem rune_i32and (x : Int) (h0 : 0 ≤ x) (h1 : x < 256) : wrap32 x = x := by unfold wrap32; omega
theorem rune_step (k : Nat) (l : List Int) (sz x i : Int) (h : 1 ≤ i ∧ i < sz ∧ (sz = 2 ∨ sz = 3 ∨ sz = 4) ∧ 0 ≤ x ∧ x < 32768) (hi : i < (l.length : Int)) (hb : 0 ≤ rd l i ∧ rd l i < 256) :
    utf_Rune.l0 (k + 1) l sz x i = if rd l i / 64 = 2 then (if i + 1 < sz then utf_Rune.l0 k l sz (x * 64 + rd l i % 64) (i + 1) else utf_Rune.fin sz (x * 64 + rd l i % 64)) else some (-1, 0) := by
  simp only [utf_Rune.l0]
  rw [if_pos h, if_neg (by omega), if_pos hi, Go.u8_and63 _ hb.1 hb.2, wrap32_in _ (by omega) (by omega), Go.i32_or6 _ _ (by omega) (by omega) (by omega) (by omega) (by omega)]
theorem rune_end (k : Nat) (l : List Int) (sz x i : Int) (h : 1 ≤ i ∧ i < sz ∧ (sz = 2 ∨ sz = 3 ∨ sz = 4) ∧ 0 ≤ x ∧ x < 32768) (hi : i = (l.length : Int)) :
    utf_Rune.l0 (k + 1) l sz x i = some (-1, 0) := by
  simp only [utf_Rune.l0]
  rw [if_pos h, if_pos hi]
theorem rune_fin (sz least x : Int) (h : utf_Rune.least sz = least) : utf_Rune.fin sz x = some (fin sz least x) := by
  unfold utf_Rune.fin fin
  rw [h]
  by_cases h0 : x < least
  · rw [if_pos h0, if_pos h0]
  · rw [if_neg h0, if_neg h0]
    by_cases h1 : 1114111 < x
    · rw [if_pos h1, if_pos h1]
    · rw [if_neg h1, if_neg h1]
      by_cases h2 : x / 2048 = 27
      · rw [if_pos h2, if_pos h2]
      · rw [if_neg h2, if_neg h2]
theorem rune_f (k : Nat) (l : List Int) (hb : Bytes l) (hk : 4 ≤ k) : utf_Rune.f k l = some (de l) := by
  obtain ⟨k, rfl⟩ : ∃ q, k = q + 3 := ⟨k - 3, by omega⟩
  unfold utf_Rune.f
  cases l with
  | nil => rfl
  | cons c t =>
    have hc := hb c (List.mem_cons_self ..)
    have ht : Bytes t := fun x hx => hb x (List.mem_cons_of_mem _ hx)
    rw [if_neg (by simp only [List.length_cons]; omega), if_pos (by simp only [List.length_cons]; omega), rd_0]
    simp only [de]
    by_cases h1 : c < 128
    · rw [if_pos h1, if_pos h1, wrap32_in _ (by omega) (by omega)]
    rw [if_neg h1, if_neg h1]
    by_cases h2 : c / 32 = 6
    · rw [if_pos h2, if_pos h2, Go.u8_and31 _ (by omega) (by omega), wrap32_in _ (by omega) (by omega)]
      match t, ht with
      | [], _ => rw [rune_end _ _ _ _ _ (by omega) (by rfl)]; rfl
      | b :: t, ht =>
        have h3 := ht b (List.mem_cons_self ..)
        rw [rune_step _ _ _ _ _ (by omega) (by simp only [List.length_cons]; omega) (by rw [rd_1]; exact h3), rd_1]
        simp only [de2]
        by_cases h4 : b / 64 = 2
        · rw [if_pos h4, if_pos h4, if_neg (by omega), rune_fin 2 128 _ rfl]
        · rw [if_neg h4, if_neg h4]
    rw [if_neg h2, if_neg h2]
    by_cases h3 : c / 16 = 14
    · rw [if_pos h3, if_pos h3, Go.u8_and15 _ (by omega) (by omega), wrap32_in _ (by omega) (by omega)]
      match t, ht with
      | [], _ => rw [rune_end _ _ _ _ _ (by omega) (by rfl)]; rfl
      | [b], ht =>
        have k3 := ht b (List.mem_cons_self ..)
        rw [rune_step _ _ _ _ _ (by omega) (by simp only [List.length_cons]; omega) (by rw [rd_1]; exact k3), rd_1, if_pos (show (1 : Int) + 1 < 3 by decide), rune_end _ _ _ _ _ (by omega) (by rfl)]
        by_cases h4 : b / 64 = 2
        · rw [if_pos h4]; rfl
        · rw [if_neg h4]; rfl
      | b :: b2 :: t, ht =>
        have k3 := ht b (List.mem_cons_self ..)
        have k4 := ht b2 (List.mem_cons_of_mem _ (List.mem_cons_self ..))
        simp only [de3]
        rw [rune_step _ _ _ _ _ (by omega) (by simp only [List.length_cons]; omega) (by rw [rd_1]; exact k3), rd_1, if_pos (show (1 : Int) + 1 < 3 by decide), show (1 : Int) + 1 = 2 from rfl, rune_step _ _ _ _ _ (by omega) (by simp only [List.length_cons]; omega) (by rw [rd_2]; exact k4), rd_2, if_neg (show ¬ (2 : Int) + 1 < 3 by decide)]
        by_cases h4 : b / 64 = 2
        · rw [if_pos h4]
          by_cases h5 : b2 / 64 = 2
          · rw [if_pos h5, if_pos ⟨h4, h5⟩, rune_fin 3 2048 _ rfl]
          · rw [if_neg h5, if_neg fun h => h5 h.2]
        · rw [if_neg h4, if_neg fun h => h4 h.1]
    rw [if_neg h3, if_neg h3]
    by_cases h4 : c / 8 = 30
    · rw [if_pos h4, if_pos h4, Go.u8_and7 _ (by omega) (by omega), wrap32_in _ (by omega) (by omega)]
      match t, ht with
      | [], _ => rw [rune_end _ _ _ _ _ (by omega) (by rfl)]; rfl
      | [b], ht =>
        have k3 := ht b (List.mem_cons_self ..)
        rw [rune_step _ _ _ _ _ (by omega) (by simp only [List.length_cons]; omega) (by rw [rd_1]; exact k3), rd_1, if_pos (show (1 : Int) + 1 < 4 by decide), rune_end _ _ _ _ _ (by omega) (by rfl)]
        by_cases h4 : b / 64 = 2
        · rw [if_pos h4]; rfl
        · rw [if_neg h4]; rfl
      | [b, b2], ht =>
        have k3 := ht b (List.mem_cons_self ..)
        have k4 := ht b2 (List.mem_cons_of_mem _ (List.mem_cons_self ..))
        rw [rune_step _ _ _ _ _ (by omega) (by simp only [List.length_cons]; omega) (by rw [rd_1]; exact k3), rd_1, if_pos (show (1 : Int) + 1 < 4 by decide), show (1 : Int) + 1 = 2 from rfl, rune_step _ _ _ _ _ (by omega) (by simp only [List.length_cons]; omega) (by rw [rd_2]; exact k4), rd_2, if_pos (show (2 : Int) + 1 < 4 by decide), rune_end _ _ _ _ _ (by omega) (by rfl)]
        by_cases h4 : b / 64 = 2
        · rw [if_pos h4]
          by_cases h5 : b2 / 64 = 2
          · rw [if_pos h5]; rfl
          · rw [if_neg h5]; rfl
        · rw [if_neg h4]; rfl
      | b :: b2 :: b3 :: t, ht =>
        have k3 := ht b (List.mem_cons_self ..)
        have k4 := ht b2 (List.mem_cons_of_mem _ (List.mem_cons_self ..))
        have k5 := ht b3 (List.mem_cons_of_mem _ (List.mem_cons_of_mem _ (List.mem_cons_self ..)))
        simp only [de4]
        rw [rune_step _ _ _ _ _ (by omega) (by simp only [List.length_cons]; omega) (by rw [rd_1]; exact k3), rd_1, if_pos (show (1 : Int) + 1 < 4 by decide), show (1 : Int) + 1 = 2 from rfl, rune_step _ _ _ _ _ (by omega) (by simp only [List.length_cons]; omega) (by rw [rd_2]; exact k4), rd_2, if_pos (show (2 : Int) + 1 < 4 by decide), show (2 : Int) + 1 = 3 from rfl, rune_step _ _ _ _ _ (by omega) (by simp only [List.length_cons]; omega) (by rw [rd_3]; exact k5), rd_3, if_neg (show ¬ (3 : Int) + 1 < 4 by decide)]
        by_cases h4 : b / 64 = 2
        · rw [if_pos h4]
          by_cases h5 : b2 / 64 = 2
          · rw [if_pos h5]
            by_cases h6 : b3 / 64 = 2
            · rw [if_pos h6, if_pos ⟨h4, h5, h6⟩, rune_fin 4 65536 _ rfl]
            · rw [if_neg h6, if_neg fun h => h6 h.2.2]
          · rw [if_neg h5, if_neg fun h => h5 h.2.1]
        · rw [if_neg h4, if_neg fun h => h4 h.1]
    rw [if_neg h4, if_neg h4]

theorem put_shl2 : shl .u8 240 (wrap64 (4 - 2)) = 192 := by decide +kernel
theorem put_shl3 : shl .u8 240 (wrap64 (4 - 3)) = 224 := by decide +kernel
theorem put_shl4 : shl .u8 240 (wrap64 (4 - 4)) = 240 := by decide +kernel
theorem put_step (k : Nat) (x s i : Int) (a : List Int) (h0 : 0 ≤ x) (h1 : x < 2147483648) (hi : 0 < i) (hl : i < (a.length : Int)) (hs : i < 100) :
    utf_Put.l0 (k + 1) x s a i = utf_Put.l0 k (x / 64) s (a.set i.toNat (128 + x % 64)) (i - 1) := by
  simp only [utf_Put.l0]
  rw [if_pos (by omega), if_pos (by omega), if_pos hl, i32_and63 x h0 h1, show x % 64 % 256 = x % 64 from by omega, Go.u8_or128 _ (by omega) (by omega), wrap64_in _ (by omega) (by omega)]
theorem put_f (k : Nat) (r : Int) (h0 : -2147483648 ≤ r) (h1 : r < 2147483648) (hk : 8 ≤ k) : utf_Put.f k r = some (en r) := by
  obtain ⟨k, rfl⟩ : ∃ q, k = q + 8 := ⟨k - 8, by omega⟩
  have no : ∀ x, utf_Put.j0 (k + 8) x 4 true = some [] := fun x => by simp only [utf_Put.j0]; rfl
  unfold utf_Put.f
  by_cases ha : r < 0
  · rw [if_pos ha, no, en_none (by unfold chr; omega)]
  rw [if_neg ha]
  by_cases hb : r > 1114111
  · rw [if_pos hb, no, en_none (by unfold chr; omega)]
  rw [if_neg hb]
  by_cases hc : r / 2048 = 27
  · rw [hc, show ((27 : Int) == 27) = true from rfl, no, en_none (by unfold chr; omega)]
  have hr : chr r := by unfold chr; omega
  rw [show (r / 2048 == 27) = false from beq_false_of_ne hc]
  simp only [utf_Put.j0]
  rw [if_neg (by decide)]
  rcases en_sizes hr with k1 | ⟨k0, k1⟩ | ⟨k0, k1⟩ | k0
  · rw [if_pos k1, en_1 hr k1, show r % 256 = r from by omega]
  · rw [if_neg (by omega), if_pos k1, en_2 hr k0 k1]
    simp only [utf_Put.j1]
    rw [if_pos (by decide), if_pos (by decide), show List.replicate (2 : Int).toNat (0 : Int) = [0, 0] from rfl, show wrap64 (2 - 1) = 1 from by decide +kernel, put_step _ _ _ _ _ (by omega) (by omega) (by omega) (by simp) (by omega)]
    simp only [utf_Put.l0]
    rw [if_neg (by omega), if_pos (by decide +kernel), if_pos (by simp), put_shl2, show r / 64 % 256 = r / 64 from by omega, Go.u8_or192 _ (by omega) (by omega)]
    rfl
  · rw [if_neg (by omega), if_neg (by omega), if_pos k1, en_3 hr k0 k1]
    simp only [utf_Put.j1]
    rw [if_pos (by decide), if_pos (by decide), show List.replicate (3 : Int).toNat (0 : Int) = [0, 0, 0] from rfl, show wrap64 (3 - 1) = 2 from by decide +kernel, put_step _ _ _ _ _ (by omega) (by omega) (by omega) (by simp) (by omega), put_step _ _ _ _ _ (by omega) (by omega) (by omega) (by simp) (by omega)]
    simp only [utf_Put.l0]
    rw [if_neg (by omega), if_pos (by decide +kernel), if_pos (by simp), put_shl3, show r / 64 / 64 % 256 = r / 4096 from by omega, Go.u8_or224 _ (by omega) (by omega)]
    rfl
  · rw [if_neg (by omega), if_neg (by omega), if_neg (by omega), en_4 hr k0]
    simp only [utf_Put.j1]
    rw [if_pos (by decide), if_pos (by decide), show List.replicate (4 : Int).toNat (0 : Int) = [0, 0, 0, 0] from rfl, show wrap64 (4 - 1) = 3 from by decide +kernel, put_step _ _ _ _ _ (by omega) (by omega) (by omega) (by simp) (by omega), put_step _ _ _ _ _ (by omega) (by omega) (by omega) (by simp) (by omega), put_step _ _ _ _ _ (by omega) (by omega) (by omega) (by simp) (by omega)]
    simp only [utf_Put.l0]
    rw [if_neg (by omega), if_pos (by decide +kernel), if_pos (by simp), put_shl4, show r / 64 / 64 / 64 % 256 = r / 262144 from by omega, show r / 64 / 64 % 64 = r / 4096 % 64 from by omega, Go.u8_or240 _ (by omega) (by omega)]
    rfl

theorem count_l (n : Nat) : ∀ (k : Nat) (l : List Int) (c : Int), l.length ≤ n → Bytes l → n + 8 ≤ k → 0 ≤ c → c + (l.length : Int) < 4611686018427387904 →
    utf_count.l0 k l c = some (c + ((ct l).1 : Int), (ct l).2) := by
  induction n with
  | zero =>
    intro k l c hl _ hk _ _
    obtain ⟨k, rfl⟩ : ∃ q, k = q + 1 := ⟨k - 1, by omega⟩
    have : l = [] := List.length_eq_zero_iff.1 (by omega)
    rw [this, ct_nil]
    simp only [utf_count.l0]
    simp
  | succ n ih =>
    intro k l c hl hb hk c0 c1
    obtain ⟨k, rfl⟩ : ∃ q, k = q + 1 := ⟨k - 1, by omega⟩
    by_cases h0 : l = []
    · rw [h0, ct_nil]
      simp only [utf_count.l0]
      simp
    have hp : 0 < l.length := by
      rcases Nat.eq_zero_or_pos l.length with h | h
      · exact absurd (List.length_eq_zero_iff.1 h) h0
      · exact h
    simp only [utf_count.l0]
    rw [if_pos (by omega), rune_f k l hb (by omega)]
    simp only [Option.bind_some]
    rcases de_two hb with hd | ⟨r, more, hr, e⟩
    · rw [hd, if_pos rfl, ct_bad h0 (by rw [hd]; decide)]
      simp
    · have hl' := en_len hr
      have hd := de_en hr more
      rw [← e] at hd
      have e2 : l.length = (en r).length + more.length := by rw [e, List.length_append]
      rw [hd, if_neg (by show ¬ (((en r).length : Int) = 0); omega), if_pos (by show 0 ≤ ((en r).length : Int); omega), if_pos (by show ((en r).length : Int) ≤ _; omega), e, ct_en hr]
      show utf_count.l0 k ((en r ++ more).drop ((en r).length : Int).toNat) _ = _
      rw [Int.toNat_natCast, List.drop_left, wrap64_in _ (by omega) (by omega), ih k more (c + 1) (by omega) (fun x hx => hb x (by rw [e]; exact List.mem_append_right _ hx)) (by omega) (by omega) (by omega)]
      congr 2
      show c + 1 + ((ct more).1 : Int) = c + (((ct more).1 + 1 : Nat) : Int)
      omega
theorem count_f (k : Nat) (l : List Int) (hb : Bytes l) (h : l.length + 8 ≤ k) (h1 : (l.length : Int) < 4611686018427387904) : utf_count.f k l = some (((ct l).1 : Int), (ct l).2) := by
  unfold utf_count.f
  rw [count_l l.length k l 0 (by omega) hb (by omega) (by omega) (by omega), Int.zero_add]
theorem valid_f (k : Nat) (l : List Int) (hb : Bytes l) (h : l.length + 8 ≤ k) (h1 : (l.length : Int) < 4611686018427387904) : utf_Valid.f k l = some (ct l).2 := by
  unfold utf_Valid.f
  rw [count_f k l hb h h1]
  rfl

theorem awake_f (k : Nat) (hk : 10 ≤ k) : glossarylaw03_awake.f k = some true := by
  have b1 : Bytes [192, 128] := by
    intro x hx
    simp only [List.mem_cons, List.not_mem_nil, or_false] at hx
    omega
  have b0 : Bytes [] := fun x hx => by cases hx
  unfold glossarylaw03_awake.f
  rw [rune_f k _ b1 (by omega), put_f k 8364 (by omega) (by omega) (by omega), valid_f k [] b0 (by simp; omega) (by simp), ct_nil]
  simp only [Option.bind_some]
  rw [show en 8364 = [226, 130, 172] from by decide, Go.Lib.strOfNums_toList, if_pos (by decide), show de [192, 128] = (-1, 0) from by decide]
  rfl

theorem ucount_f (k : Nat) (l : List Int) (hb : Bytes l) (h : l.length + 8 ≤ k) (h1 : (l.length : Int) < 4611686018427387904) : utf_Count.f k l = some ((ct l).1 : Int) := by
  unfold utf_Count.f
  rw [count_f k l hb h h1]
  rfl

end UtfJoined
open UtfJoined
theorem wf_i32' {r : Int} (hr : (Lit.int .i32 r).wf = true) : -2147483648 ≤ r ∧ r < 2147483648 := by
  simp [Lit.wf, IntKind.min, IntKind.max, IntKind.signed, IntKind.bits] at hr
  omega
theorem UtfJoined : glossarylaw03_UtfJoined.Pure := by
  intro r q m hr hq hm
  obtain ⟨r0, r1⟩ := wf_i32' hr
  obtain ⟨q0, q1⟩ := wf_i32' hq
  have no : ∀ k, glossarylaw03_UtfJoined.j0 (k + 1) m (en r) (en q) true = some true := fun k => by simp only [glossarylaw03_UtfJoined.j0, if_true]
  refine ⟨60, ?_⟩
  unfold glossarylaw03_UtfJoined.f
  rw [awake_f 60 (by omega), put_f 60 r r0 r1 (by omega), put_f 60 q q0 q1 (by omega)]
  simp only [Option.bind_some, if_true]
  by_cases hc : chr r
  · have hl := en_len hc
    rw [if_neg (by omega)]
    by_cases hd : chr q
    · have hl2 := en_len hd
      rw [show (((en q).length : Int) == 0) = false from beq_false_of_ne (by omega)]
      have hcat : (en r ++ en q).length = (en r).length + (en q).length := List.length_append
      have hb := bytes_append (en_bytes r) (en_bytes q)
      simp only [glossarylaw03_UtfJoined.j0, Bool.false_eq_true, if_false]
      rw [if_pos (by simp only [List.length_nil]; omega)]
      simp only [Option.bind_some, List.nil_append]
      have hct : ct (en r ++ en q) = (2, true) := by
        rw [ct_en hc]
        have := ct_en hd []
        rw [List.append_nil, ct_nil] at this
        rw [this]
      rw [if_pos (by omega), valid_f 59 _ hb (by omega) (by omega), ucount_f 59 _ hb (by omega) (by omega), hct]
      simp only [Option.bind_some, if_true]
      rw [show (((2 : Nat) : Int) != 2) = false from by decide]
      simp only [glossarylaw03_UtfJoined.j1, Bool.false_eq_true, if_false]
      by_cases m1 : m < 1
      · rw [if_pos m1]
      rw [if_neg m1]
      by_cases m2 : m ≥ ((en r).length : Int)
      · rw [if_pos m2]
      rw [if_neg m2, if_pos (by omega), if_pos (by omega)]
      have tl : ((en r).take m.toNat).length = m.toNat := by rw [List.length_take]; omega
      have tb := bytes_take (en_bytes r) m.toNat
      have hne : (en r).take m.toNat ≠ [] := fun h => by rw [h, List.length_nil] at tl; omega
      have hpt : ct ((en r).take m.toNat) = (0, false) := ct_bad hne (by rw [de_part hc (by omega)]; decide)
      simp only [Option.bind_some]
      rw [valid_f 58 _ tb (by omega) (by omega), ucount_f 58 _ tb (by omega) (by omega), hpt]
      simp
    · rw [en_none hd]
      rw [en_none hd] at no
      exact no 59
  · have : en r = [] := en_none hc
    rw [this] at no ⊢
    rw [if_pos (show (([] : List Int).length : Int) = 0 from rfl)]
    exact no 59
end Go.Proofs.Ytkjppjbeajhbfaa.Pure
