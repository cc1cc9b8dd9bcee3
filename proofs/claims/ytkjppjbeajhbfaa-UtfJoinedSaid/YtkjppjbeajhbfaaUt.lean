/- Characters as bytes: the bytes of a character, and the character that bytes begin with. -/
import Derived.Lib.Bytes
import Derived.Laws.BitsLemmas
import Derived.Test.YtkjppjbeajhbfaaVb
namespace Go.Proofs.Ytkjppjbeajhbfaa.Ut
open Go.RowKit Go.Proofs.YtkjppjbeajhbfaaW.PrintWords Go.Proofs.YtkjppjbeajhbfaaW.PrintLast Go.Proofs.YtkjppjbeajhbfaaW.PrintMore Go.Proofs.Ytkjppjbeajhbfaa.Vb

def chr (r : Int) : Prop := 0 ≤ r ∧ r ≤ 1114111 ∧ (r < 55296 ∨ 57343 < r)
instance (r : Int) : Decidable (chr r) := by unfold chr; infer_instance
/-- A character's bytes. -/
def en (r : Int) : List Int :=
  if chr r then
    if r < 128 then [r] else if r < 2048 then [192 + r / 64, 128 + r % 64] else if r < 65536 then [224 + r / 4096, 128 + r / 64 % 64, 128 + r % 64]
    else [240 + r / 262144, 128 + r / 4096 % 64, 128 + r / 64 % 64, 128 + r % 64]
  else []
def fin (sz least x : Int) : Int × Int := if x < least then (-1, 0) else if 1114111 < x then (-1, 0) else if x / 2048 = 27 then (-1, 0) else (x, sz)
def de2 (c : Int) : List Int → Int × Int
  | b :: _ => if b / 64 = 2 then fin 2 128 (c % 32 * 64 + b % 64) else (-1, 0)
  | _ => (-1, 0)
def de3 (c : Int) : List Int → Int × Int
  | b :: b2 :: _ => if b / 64 = 2 ∧ b2 / 64 = 2 then fin 3 2048 ((c % 16 * 64 + b % 64) * 64 + b2 % 64) else (-1, 0)
  | _ => (-1, 0)
def de4 (c : Int) : List Int → Int × Int
  | b :: b2 :: b3 :: _ => if b / 64 = 2 ∧ b2 / 64 = 2 ∧ b3 / 64 = 2 then fin 4 65536 (((c % 8 * 64 + b % 64) * 64 + b2 % 64) * 64 + b3 % 64) else (-1, 0)
  | _ => (-1, 0)
/-- The character that bytes begin with, and how many bytes it has. -/
def de : List Int → Int × Int
  | [] => (-1, 0)
  | c :: t => if c < 128 then (c, 1) else if c / 32 = 6 then de2 c t else if c / 16 = 14 then de3 c t else if c / 8 = 30 then de4 c t else (-1, 0)

theorem fin_yes {sz least x : Int} (h0 : least ≤ x) (h1 : x ≤ 1114111) (h2 : x / 2048 ≠ 27) : fin sz least x = (x, sz) := by
  unfold fin
  rw [if_neg (by omega), if_neg (by omega), if_neg h2]
theorem fin_two (sz least x : Int) : fin sz least x = (-1, 0) ∨ (fin sz least x = (x, sz) ∧ least ≤ x ∧ x ≤ 1114111 ∧ x / 2048 ≠ 27) := by
  unfold fin
  by_cases h0 : x < least
  · rw [if_pos h0]; exact .inl rfl
  · rw [if_neg h0]
    by_cases h1 : 1114111 < x
    · rw [if_pos h1]; exact .inl rfl
    · rw [if_neg h1]
      by_cases h2 : x / 2048 = 27
      · rw [if_pos h2]; exact .inl rfl
      · rw [if_neg h2]; exact .inr ⟨rfl, by omega, by omega, h2⟩
theorem en_none {r : Int} (h : ¬ chr r) : en r = [] := by unfold en; rw [if_neg h]
theorem en_1 {r : Int} (h : chr r) (h1 : r < 128) : en r = [r] := by unfold en; rw [if_pos h, if_pos h1]
theorem en_2 {r : Int} (h : chr r) (h0 : 128 ≤ r) (h1 : r < 2048) : en r = [192 + r / 64, 128 + r % 64] := by unfold en; rw [if_pos h, if_neg (by omega), if_pos h1]
theorem en_3 {r : Int} (h : chr r) (h0 : 2048 ≤ r) (h1 : r < 65536) : en r = [224 + r / 4096, 128 + r / 64 % 64, 128 + r % 64] := by unfold en; rw [if_pos h, if_neg (by omega), if_neg (by omega), if_pos h1]
theorem en_4 {r : Int} (h : chr r) (h0 : 65536 ≤ r) : en r = [240 + r / 262144, 128 + r / 4096 % 64, 128 + r / 64 % 64, 128 + r % 64] := by unfold en; rw [if_pos h, if_neg (by omega), if_neg (by omega), if_neg (by omega)]
theorem en_sizes {r : Int} (_h : chr r) : (r < 128) ∨ (128 ≤ r ∧ r < 2048) ∨ (2048 ≤ r ∧ r < 65536) ∨ 65536 ≤ r := by omega
/-- A character that is put is found, whatever stands behind. -/
theorem de_en {r : Int} (h : chr r) (more : List Int) : de (en r ++ more) = (r, ((en r).length : Int)) := by
  have h' := h
  unfold chr at h'
  rcases en_sizes h with h1 | ⟨h0, h1⟩ | ⟨h0, h1⟩ | h0
  · rw [en_1 h h1]
    simp only [List.cons_append, List.nil_append, de]
    rw [if_pos h1]; rfl
  · rw [en_2 h h0 h1]
    simp only [List.cons_append, List.nil_append, de, de2]
    rw [if_neg (by omega), if_pos (by omega), if_pos (by omega), show (192 + r / 64) % 32 * 64 + (128 + r % 64) % 64 = r from by omega, fin_yes (by omega) (by omega) (by omega)]
    rfl
  · rw [en_3 h h0 h1]
    simp only [List.cons_append, List.nil_append, de, de3]
    rw [if_neg (by omega), if_neg (by omega), if_pos (by omega), if_pos (by omega), show ((224 + r / 4096) % 16 * 64 + (128 + r / 64 % 64) % 64) * 64 + (128 + r % 64) % 64 = r from by omega, fin_yes (by omega) (by omega) (by omega)]
    rfl
  · rw [en_4 h h0]
    simp only [List.cons_append, List.nil_append, de, de4]
    rw [if_neg (by omega), if_neg (by omega), if_neg (by omega), if_pos (by omega), if_pos (by omega), show (((240 + r / 262144) % 8 * 64 + (128 + r / 4096 % 64) % 64) * 64 + (128 + r / 64 % 64) % 64) * 64 + (128 + r % 64) % 64 = r from by omega, fin_yes (by omega) (by omega) (by omega)]
    rfl
/-- What is found is a character whose bytes stand there; or nothing is found. -/
theorem de_two {l : List Int} (hb : Bytes l) : de l = (-1, 0) ∨ ∃ r more, chr r ∧ l = en r ++ more := by
  cases l with
  | nil => exact .inl rfl
  | cons c t =>
    have hc := hb c (List.mem_cons_self ..)
    have ht : Bytes t := fun x hx => hb x (List.mem_cons_of_mem _ hx)
    simp only [de]
    by_cases h1 : c < 128
    · right
      have hr : chr c := by unfold chr; omega
      exact ⟨c, t, hr, by rw [en_1 hr h1]; rfl⟩
    rw [if_neg h1]
    by_cases h2 : c / 32 = 6
    · rw [if_pos h2]
      match t, ht with
      | [], _ => exact .inl rfl
      | b :: t, ht =>
        have h3 := ht b (List.mem_cons_self ..)
        simp only [de2]
        by_cases h4 : b / 64 = 2
        · rw [if_pos h4]
          rcases fin_two 2 128 (c % 32 * 64 + b % 64) with h | ⟨_, k0, k1, k2⟩
          · exact .inl h
          · right
            have hr : chr (c % 32 * 64 + b % 64) := by unfold chr; omega
            refine ⟨_, t, hr, ?_⟩
            rw [en_2 hr k0 (by omega), show 192 + (c % 32 * 64 + b % 64) / 64 = c from by omega, show 128 + (c % 32 * 64 + b % 64) % 64 = b from by omega]
            rfl
        · rw [if_neg h4]; exact .inl rfl
    rw [if_neg h2]
    by_cases h3 : c / 16 = 14
    · rw [if_pos h3]
      match t, ht with
      | [], _ => exact .inl rfl
      | [_], _ => exact .inl rfl
      | b :: b2 :: t, ht =>
        have k3 := ht b (List.mem_cons_self ..)
        have k4 := ht b2 (List.mem_cons_of_mem _ (List.mem_cons_self ..))
        simp only [de3]
        by_cases h4 : b / 64 = 2 ∧ b2 / 64 = 2
        · rw [if_pos h4]
          rcases fin_two 3 2048 ((c % 16 * 64 + b % 64) * 64 + b2 % 64) with h | ⟨_, k0, k1, k2⟩
          · exact .inl h
          · right
            have hr : chr ((c % 16 * 64 + b % 64) * 64 + b2 % 64) := by unfold chr; omega
            refine ⟨_, t, hr, ?_⟩
            rw [en_3 hr k0 (by omega), show 224 + ((c % 16 * 64 + b % 64) * 64 + b2 % 64) / 4096 = c from by omega, show 128 + ((c % 16 * 64 + b % 64) * 64 + b2 % 64) / 64 % 64 = b from by omega, show 128 + ((c % 16 * 64 + b % 64) * 64 + b2 % 64) % 64 = b2 from by omega]
            rfl
        · rw [if_neg h4]; exact .inl rfl
    rw [if_neg h3]
    by_cases h4 : c / 8 = 30
    · rw [if_pos h4]
      match t, ht with
      | [], _ => exact .inl rfl
      | [_], _ => exact .inl rfl
      | [_, _], _ => exact .inl rfl
      | b :: b2 :: b3 :: t, ht =>
        have k3 := ht b (List.mem_cons_self ..)
        have k4 := ht b2 (List.mem_cons_of_mem _ (List.mem_cons_self ..))
        have k5 := ht b3 (List.mem_cons_of_mem _ (List.mem_cons_of_mem _ (List.mem_cons_self ..)))
        simp only [de4]
        by_cases h5 : b / 64 = 2 ∧ b2 / 64 = 2 ∧ b3 / 64 = 2
        · rw [if_pos h5]
          rcases fin_two 4 65536 (((c % 8 * 64 + b % 64) * 64 + b2 % 64) * 64 + b3 % 64) with h | ⟨_, k0, k1, k2⟩
          · exact .inl h
          · right
            have hr : chr (((c % 8 * 64 + b % 64) * 64 + b2 % 64) * 64 + b3 % 64) := by unfold chr; omega
            refine ⟨_, t, hr, ?_⟩
            rw [en_4 hr k0, show 240 + (((c % 8 * 64 + b % 64) * 64 + b2 % 64) * 64 + b3 % 64) / 262144 = c from by omega, show 128 + (((c % 8 * 64 + b % 64) * 64 + b2 % 64) * 64 + b3 % 64) / 4096 % 64 = b from by omega, show 128 + (((c % 8 * 64 + b % 64) * 64 + b2 % 64) * 64 + b3 % 64) / 64 % 64 = b2 from by omega, show 128 + (((c % 8 * 64 + b % 64) * 64 + b2 % 64) * 64 + b3 % 64) % 64 = b3 from by omega]
            rfl
        · rw [if_neg h5]; exact .inl rfl
    rw [if_neg h4]
    exact .inl rfl
theorem en_len {r : Int} (h : chr r) : 1 ≤ (en r).length ∧ (en r).length ≤ 4 := by
  rcases en_sizes h with h1 | ⟨h0, h1⟩ | ⟨h0, h1⟩ | h0
  · rw [en_1 h h1]; simp
  · rw [en_2 h h0 h1]; simp
  · rw [en_3 h h0 h1]; simp
  · rw [en_4 h h0]; simp
theorem en_bytes (r : Int) : Bytes (en r) := by
  by_cases h : chr r
  · have h' := h
    unfold chr at h'
    rcases en_sizes h with h1 | ⟨h0, h1⟩ | ⟨h0, h1⟩ | h0
    · rw [en_1 h h1]
      intro x hx
      simp only [List.mem_cons, List.not_mem_nil, or_false] at hx
      omega
    · rw [en_2 h h0 h1]
      intro x hx
      simp only [List.mem_cons, List.not_mem_nil, or_false] at hx
      omega
    · rw [en_3 h h0 h1]
      intro x hx
      simp only [List.mem_cons, List.not_mem_nil, or_false] at hx
      omega
    · rw [en_4 h h0]
      intro x hx
      simp only [List.mem_cons, List.not_mem_nil, or_false] at hx
      omega
  · rw [en_none h]; intro x hx; cases hx
theorem bytes_append {a b : List Int} (ha : Bytes a) (hb : Bytes b) : Bytes (a ++ b) := fun x hx => by
  rcases List.mem_append.1 hx with h | h
  · exact ha x h
  · exact hb x h
/-- Texts of bytes that are equal are equal byte by byte. -/
theorem strOf_inj {a b : List Int} (ha : Bytes a) (hb : Bytes b) : ((strOfNums a).toList = (strOfNums b).toList) ↔ a = b := by
  constructor
  · intro h
    rw [Go.Lib.strOfNums_toList, Go.Lib.strOfNums_toList] at h
    unfold Go.Lib.bytesOf at h
    have e : ∀ l : List Int, Bytes l → (l.map fun n => UInt8.ofNat n.toNat).map (fun x => (x.toNat : Int)) = l := by
      intro l hl
      rw [List.map_map]
      conv => rhs; rw [← List.map_id l]
      apply List.map_congr_left
      intro x hx
      have := hl x hx
      simp only [Function.comp, UInt8.toNat_ofNat', id_eq]
      omega
    rw [← e a ha, ← e b hb, h]
  · intro h; rw [h]
theorem rd_0 (c : Int) (t : List Int) : rd (c :: t) 0 = c := rfl
theorem rd_1 (c b : Int) (t : List Int) : rd (c :: b :: t) 1 = b := rfl
theorem rd_2 (c b d : Int) (t : List Int) : rd (c :: b :: d :: t) 2 = d := rfl
theorem rd_3 (c b d e : Int) (t : List Int) : rd (c :: b :: d :: e :: t) 3 = e := rfl
theorem i32_and63 (x : Int) (h0 : 0 ≤ x) (h1 : x < 2147483648) : Go.bits .and .i32 x 63 = x % 64 := Go.bits_mask .i32 31 (by decide) Go.wraps_i32 6 (by decide) x h0 h1
theorem wrap32_in (x : Int) (h0 : -2147483648 ≤ x) (h1 : x < 2147483648) : wrap32 x = x := by unfold wrap32; omega
theorem wrap64_in (x : Int) (h0 : -9223372036854775808 ≤ x) (h1 : x < 9223372036854775808) : wrap64 x = x := by unfold wrap64; omega
theorem bytes_drop {l : List Int} (h : Bytes l) (n : Nat) : Bytes (l.drop n) := fun x hx => h x (List.mem_of_mem_drop hx)
theorem bytes_take {l : List Int} (h : Bytes l) (n : Nat) : Bytes (l.take n) := fun x hx => h x (List.mem_of_mem_take hx)
/-- How many characters stand in front, and whether they are all. -/
def ct (l : List Int) : Nat × Bool :=
  if h : l = [] then (0, true) else if h2 : (de l).2 ≤ 0 then (0, false) else ((ct (l.drop (de l).2.toNat)).1 + 1, (ct (l.drop (de l).2.toNat)).2)
termination_by l.length
decreasing_by
  all_goals
    have : l.length ≠ 0 := fun k => h (List.length_eq_zero_iff.1 k)
    simp only [List.length_drop]; omega
theorem ct_nil : ct [] = (0, true) := by rw [ct, dif_pos rfl]
theorem ct_bad {l : List Int} (h : l ≠ []) (h2 : (de l).2 ≤ 0) : ct l = (0, false) := by rw [ct, dif_neg h, dif_pos h2]
theorem ct_go {l : List Int} (h : l ≠ []) (h2 : ¬ (de l).2 ≤ 0) : ct l = ((ct (l.drop (de l).2.toNat)).1 + 1, (ct (l.drop (de l).2.toNat)).2) := by rw [ct, dif_neg h, dif_neg h2]
theorem ct_en {r : Int} (h : chr r) (more : List Int) : ct (en r ++ more) = ((ct more).1 + 1, (ct more).2) := by
  have hl := en_len h
  have hd := de_en h more
  have e : (de (en r ++ more)).2 = ((en r).length : Int) := by rw [hd]
  rw [ct_go (by intro k; have := congrArg List.length k; simp only [List.length_append, List.length_nil] at this; omega) (by rw [e]; omega), e, Int.toNat_natCast, List.drop_left]
theorem ct_len (n : Nat) : ∀ l : List Int, l.length ≤ n → (ct l).1 ≤ l.length := by
  induction n with
  | zero =>
    intro l hl
    have : l = [] := List.length_eq_zero_iff.1 (by omega)
    rw [this, ct_nil]; exact Nat.le_refl _
  | succ n ih =>
    intro l hl
    by_cases h : l = []
    · rw [h, ct_nil]; exact Nat.le_refl _
    by_cases h2 : (de l).2 ≤ 0
    · rw [ct_bad h h2]; exact Nat.zero_le _
    rw [ct_go h h2]
    have k : l.length ≠ 0 := fun k => h (List.length_eq_zero_iff.1 k)
    have := ih (l.drop (de l).2.toNat) (by simp only [List.length_drop]; omega)
    simp only [List.length_drop] at this
    show (ct (l.drop (de l).2.toNat)).1 + 1 ≤ _
    omega
/-- Bytes that are characters and nothing else, and more bytes behind them. -/
theorem ct_append (n : Nat) : ∀ a : List Int, a.length ≤ n → Bytes a → (ct a).2 = true → ∀ b, ct (a ++ b) = ((ct a).1 + (ct b).1, (ct b).2) := by
  induction n with
  | zero =>
    intro a hl _ _ b
    have : a = [] := List.length_eq_zero_iff.1 (by omega)
    rw [this, ct_nil, List.nil_append]
    simp
  | succ n ih =>
    intro a hl hb h b
    by_cases h0 : a = []
    · rw [h0, ct_nil, List.nil_append]
      simp
    rcases de_two hb with hd | ⟨r, more, hr, e⟩
    · rw [ct_bad h0 (by rw [hd]; decide)] at h
      exact absurd h (by decide)
    · have hl' := en_len hr
      rw [e, ct_en hr] at h
      rw [e, List.length_append] at hl
      rw [e, List.append_assoc, ct_en hr, ct_en hr, ih more (by omega) (fun x hx => hb x (by rw [e]; exact List.mem_append_right _ hx)) h b]
      simp only [Prod.mk.injEq, and_true]
      omega
/-- A part of a character is no character. -/
theorem de_part {r : Int} (h : chr r) {m : Nat} (h1 : m < (en r).length) : de ((en r).take m) = (-1, 0) := by
  rcases de_two (bytes_take (en_bytes r) m) with hd | ⟨q, more, hq, e⟩
  · exact hd
  · exfalso
    have e1 : en r = en q ++ (more ++ (en r).drop m) := by
      rw [← List.append_assoc, ← e, List.take_append_drop]
    have d1 := de_en h []
    rw [List.append_nil] at d1
    have d2 := de_en hq (more ++ (en r).drop m)
    rw [← e1, d1] at d2
    have d3 := congrArg Prod.snd d2
    have d4 : (en r).length = (en q).length := Int.ofNat.inj d3
    have := congrArg List.length e
    simp only [List.length_take, List.length_append] at this
    omega
end Go.Proofs.Ytkjppjbeajhbfaa.Ut
