/- What is written is read again. -/
import Derived.Test.YteopaifokfmnjaaGWireBackx0
import Derived.Test.YteopaifokfmnjaaGWireBackx1
import Derived.Test.YteopaifokfmnjaaGWireBackx2
import Derived.Test.YteopaifokfmnjaaGWireBackx3
import Derived.Test.YteopaifokfmnjaaRdWireBack
import Derived.Test.YteopaifokfmnjaaPt
import Derived.Test.YteopaifokfmnjaaTk
import Derived.Test.YteopaifokfmnjaaCl
import Derived.Test.YteopaifokfmnjaaRf
import Derived.Test.YteopaifokfmnjaaAp
import Derived.Test.YteopaifokfmnjaaFl
import Derived.Test.YteopaifokfmnjaaVb
import Derived.Test.YteopaifokfmnjaaFx
import Derived.Test.YteopaifokfmnjaaWr
import Derived.Test.YteopaifokfmnjaaWt
import Derived.Test.YteopaifokfmnjaaWj
import Derived.Test.YteopaifokfmnjaaWb
namespace Go.Proofs.Yteopaifokfmnjaa.Pure
open Go.RowKit Go.Proofs.Yteopaifokfmnjaa.GWireBack Go.Proofs.YteopaifokfmnjaaW.PrintWords Go.Proofs.YteopaifokfmnjaaW.PrintLast Go.Proofs.YteopaifokfmnjaaW.PrintMore Go.Proofs.Yteopaifokfmnjaa.Pt Go.Proofs.Yteopaifokfmnjaa.Tk Go.Proofs.Yteopaifokfmnjaa.Cl Go.Proofs.Yteopaifokfmnjaa.Rf Go.Proofs.Yteopaifokfmnjaa.Ap Go.Proofs.Yteopaifokfmnjaa.Fl Go.Proofs.Yteopaifokfmnjaa.Vb Go.Proofs.Yteopaifokfmnjaa.Fx Go.Proofs.Yteopaifokfmnjaa.Wr Go.Proofs.Yteopaifokfmnjaa.Wt Go.Proofs.Yteopaifokfmnjaa.Wj Go.Proofs.Yteopaifokfmnjaa.Wb
namespace WireBack
theorem put_l0 (d : Nat) : ∀ (k : Nat) (x : Int) (acc : List Int), 0 ≤ x → (vb x.toNat).length ≤ d + 1 → d < k → acc.length + d < 140737488355328 →
    varint_Put.l0 k x acc = some (acc ++ vb x.toNat) := by
  induction d with
  | zero =>
    intro k x acc h0 hl hk ha
    obtain ⟨k, rfl⟩ : ∃ m, k = m + 1 := ⟨k - 1, by omega⟩
    have hx : x < 128 := by
      rcases Int.lt_or_le x 128 with h | h
      · exact h
      · rw [vb_large (by omega)] at hl
        have := vb_pos (x.toNat / 128)
        simp only [List.length_cons] at hl
        omega
    simp only [varint_Put.l0]
    rw [if_pos (by omega), if_pos hx, vb_small (by omega)]
    congr 3
    omega
  | succ d ih =>
    intro k x acc h0 hl hk ha
    obtain ⟨k, rfl⟩ : ∃ m, k = m + 1 := ⟨k - 1, by omega⟩
    simp only [varint_Put.l0]
    rw [if_pos (by omega)]
    rcases Int.lt_or_le x 128 with hx | hx
    · rw [if_pos hx, vb_small (by omega)]
      congr 3
      omega
    · rw [if_neg (by omega)]
      have hv := vb_large (n := x.toNat) (by omega)
      have e : (x / 128).toNat = x.toNat / 128 := by omega
      rw [ih k (x / 128) _ (by omega) (by rw [hv] at hl; rw [e]; simpa using hl) (by omega) (by simp only [List.length_append, List.length_cons, List.length_nil]; omega), e, hv, or128 x h0]
      simp

theorem put_f (k : Nat) (x : Int) (h0 : 0 ≤ x) (h1 : x < 18446744073709551616) (hk : 10 ≤ k) : varint_Put.f k x = some (vb x.toNat) := by
  have := vb_ten x.toNat (by omega)
  have h := put_l0 9 k x [] h0 (by omega) (by omega) (by simp)
  simpa [varint_Put.f] using h

theorem fixed_l0 (n : Int) (m : Nat) (hm : m ≤ 8) (d : Nat) : ∀ (k i : Nat), i + d = m → d < k →
    varint_Fixed.l0 k n (fx n i ++ List.replicate (m - i) 0) (m : Int) (i : Int) = some (fx n m) := by
  induction d with
  | zero =>
    intro k i hd hk
    obtain ⟨k, rfl⟩ : ∃ q, k = q + 1 := ⟨k - 1, by omega⟩
    obtain rfl : i = m := by omega
    simp only [varint_Fixed.l0]
    rw [if_neg (by omega), Nat.sub_self]
    simp
  | succ d ih =>
    intro k i hd hk
    obtain ⟨k, rfl⟩ : ∃ q, k = q + 1 := ⟨k - 1, by omega⟩
    have hl : (fx n i ++ List.replicate (m - i) 0).length = m := by rw [List.length_append, fx_length, List.length_replicate]; omega
    have ew : wrap64 (8 * (i : Int)) = ((8 * i : Nat) : Int) := by unfold wrap64; omega
    have ei : wrap64 ((i : Int) + 1) = ((i + 1 : Nat) : Int) := by unfold wrap64; omega
    simp only [varint_Fixed.l0]
    rw [if_pos (by omega), ew, ei, if_pos (by omega), if_pos (by omega), if_pos (by omega)]
    have es : shr .u64 n ((8 * i : Nat) : Int) % 256 = fxb n i := by
      unfold shr fxb
      rw [Int.toNat_natCast, show min (8 * i) IntKind.u64.bits = 8 * i from Nat.min_eq_left (by show 8 * i ≤ 64; omega)]
    rw [es, Int.toNat_natCast, fx_set n m i (by omega)]
    exact ih k (i + 1) (by omega) (by omega)

theorem fixed_f (k : Nat) (n s : Int) (hk : 9 ≤ k) : varint_Fixed.f k n s = some (fx n (mn (mx s 0) 8).toNat) := by
  have hb : 0 ≤ mn (mx s 0) 8 ∧ mn (mx s 0) 8 ≤ 8 := by unfold mn mx; split <;> split <;> omega
  unfold varint_Fixed.f
  rw [if_pos hb.1, if_pos (by omega)]
  simp only [Option.bind_some]
  have h := fixed_l0 n (mn (mx s 0) 8).toNat (by omega) (mn (mx s 0) 8).toNat k 0 (by omega) (by omega)
  rw [List.length_replicate]
  simpa [fx] using h

theorem put_wire (k : Nat) (num kind n : Int) (b : List Int) (m0 : -9223372036854775808 ≤ num) (m1 : num < 9223372036854775808) (n0 : 0 ≤ n) (n1 : n < 18446744073709551616) (hb : b.length ≤ 140737488351232) (hk : 11 ≤ k) :
    wire_Put.f k num kind n b = some (pt num kind n b) := by
  obtain ⟨k, rfl⟩ : ∃ q, k = q + 1 := ⟨k - 1, by omega⟩
  have hj : ∀ x4 : Int, wire_Put.j0 (k + 1) x4 true num kind n b = some ([], 20) := fun x4 => by simp only [wire_Put.j0]; rfl
  have hv := vb_ten n.toNat (by omega)
  have hvb := vb_ten b.length (by omega)
  unfold wire_Put.f
  by_cases hkd : okKind kind
  · by_cases hn : 1 ≤ num ∧ num ≤ 536870911
    · have hok : okField num kind := ⟨hn.1, hn.2, hkd⟩
      have ht : ∀ x4 : Int, (kind = 1 → x4 = 8) → (kind = 5 → x4 = 4) → (kind = 0 → x4 = 0) → (kind = 2 → x4 = 0) → wire_Put.j0 (k + 1) x4 false num kind n b = some (pt num kind n b) := by
        intro x4 h1 h5 h0 h2
        have kb : 0 ≤ kind ∧ kind < 8 := by unfold okKind at hkd; omega
        have hT := vb_ten (8 * num + kind).toNat (by omega)
        simp only [wire_Put.j0]
        rw [if_neg (by decide), or8 num kind (by omega) hn.2 kb.1 kb.2, put_f k _ (by omega) (by omega) (by omega)]
        simp only [Option.bind_some, pt, if_pos hok, field, worth]
        rcases hkd with rfl | rfl | rfl | rfl
        · rw [h0 rfl, if_neg (by omega), if_pos rfl, if_pos rfl, put_f k n n0 n1 (by omega)]
          simp only [Option.bind_some]
          rw [if_pos (by omega)]
        · rw [h1 rfl, if_pos (by omega), if_neg (by omega), if_pos rfl, fixed_f k n 8 (by omega)]
          simp only [Option.bind_some]
          rw [show (mn (mx 8 0) 8).toNat = 8 from by decide, if_pos (by rw [fx_length]; omega)]
        · rw [h2 rfl, if_neg (by omega), if_neg (by omega), if_neg (by omega), if_neg (by omega), if_neg (by omega), wrap_u64_in _ (by omega) (by omega), put_f k _ (by omega) (by omega) (by omega)]
          simp only [Option.bind_some, Int.toNat_natCast]
          rw [if_pos (by omega)]
          rw [if_pos (by rw [List.length_append]; omega), List.append_assoc]
        · rw [h5 rfl, if_pos (by omega), if_neg (by omega), if_neg (by omega), if_pos rfl, fixed_f k n 4 (by omega)]
          simp only [Option.bind_some]
          rw [show (mn (mx 4 0) 8).toNat = 4 from by decide, if_pos (by rw [fx_length]; omega)]
      unfold wire_kind.f
      rcases hkd with rfl | rfl | rfl | rfl
      all_goals
        simp only [if_true, if_false, Option.bind_some, Int.reduceEq]
        rw [if_neg (show ¬ num < 1 by omega), show decide (num > 536870911) = false from decide_eq_false (by omega)]
        exact ht _ (by simp) (by simp) (by simp) (by simp)
    · have hno : ¬ okField num kind := fun h => hn ⟨h.1, h.2.1⟩
      have hp : pt num kind n b = ([], 20) := by unfold pt; rw [if_neg hno]
      rw [hp]
      have hx : ∀ x4 : Int, (if num < 1 then wire_Put.j0 (k + 1) x4 true num kind n b else wire_Put.j0 (k + 1) x4 (decide (num > 536870911)) num kind n b) = some ([], 20) := by
        intro x4
        by_cases h1 : num < 1
        · rw [if_pos h1]; exact hj x4
        · rw [if_neg h1, show decide (num > 536870911) = true from decide_eq_true (by omega)]; exact hj x4
      unfold wire_kind.f
      rcases hkd with rfl | rfl | rfl | rfl
      all_goals
        simp only [if_true, if_false, Option.bind_some, Int.reduceEq]
        exact hx _
  · have hno : ¬ okField num kind := fun h => hkd h.2.2
    have hp : pt num kind n b = ([], 20) := by unfold pt; rw [if_neg hno]
    unfold okKind at hkd
    unfold wire_kind.f
    rw [hp, if_neg (by omega), if_neg (by omega), if_neg (by omega), if_neg (by omega)]
    simp only [Option.bind_some]
    rw [if_neg (by decide)]
    exact hj _

theorem awake_f (k : Nat) (hk : 11 ≤ k) : glossarylaw02_awake.f k = some true := by
  unfold glossarylaw02_awake.f
  rw [put_wire k 1 0 150 [] (by omega) (by omega) (by omega) (by omega) (by simp) hk]
  have e1 : pt 1 0 150 [] = ([8, 150, 1], 0) := by
    unfold pt
    rw [if_pos (by decide)]
    unfold field worth
    rw [if_pos rfl, show (8 * 1 + 0 : Int).toNat = 8 from rfl, show (150 : Int).toNat = 150 from rfl, vb_small (by omega), vb_large (by omega), vb_small (by omega)]
    rfl
  rw [e1]
  simp only [Option.bind_some, if_true]
  decide +kernel

theorem few_l0 (l : List S25) (hl : l.length ≤ 30) (d : Nat) : ∀ (k i : Nat), i + d = l.length → d < k →
    ∃ b, glossarylaw02_few.l0 k l (l.length : Int) (i : Int) = some b ∧ (b = true → ∀ x ∈ l.drop i, x.f3.length ≤ 200) := by
  induction d with
  | zero =>
    intro k i hd hk
    obtain ⟨k, rfl⟩ : ∃ q, k = q + 1 := ⟨k - 1, by omega⟩
    refine ⟨true, ?_, fun _ x hx => ?_⟩
    · simp only [glossarylaw02_few.l0]
      rw [if_neg (by omega)]
    · rw [List.drop_of_length_le (by omega)] at hx; cases hx
  | succ d ih =>
    intro k i hd hk
    obtain ⟨k, rfl⟩ : ∃ q, k = q + 1 := ⟨k - 1, by omega⟩
    simp only [glossarylaw02_few.l0]
    rw [if_pos (by omega), if_pos (by omega), if_pos (by omega), show wrap64 ((i : Int) + 1) = ((i + 1 : Nat) : Int) from by unfold wrap64; omega]
    have hi : i < l.length := by omega
    have hr : rd_T25 l (i : Int) = l[i] := by simp [rd_T25, hi]
    by_cases h : ((rd_T25 l (i : Int)).f3.length : Int) > 200
    · rw [if_pos h]
      exact ⟨false, rfl, fun h => by cases h⟩
    · rw [if_neg h]
      obtain ⟨b, hb, hx⟩ := ih k (i + 1) (by omega) (by omega)
      refine ⟨b, hb, fun h1 x hm => ?_⟩
      rw [List.drop_eq_getElem_cons hi] at hm
      rcases List.mem_cons.1 hm with rfl | hm
      · rw [hr] at h; omega
      · exact hx h1 x hm
theorem few_f (k : Nat) (l : List S25) (hk : 31 ≤ k) : ∃ b, glossarylaw02_few.f k l = some b ∧ (b = true → l.length ≤ 30 ∧ ∀ x ∈ l, x.f3.length ≤ 200) := by
  unfold glossarylaw02_few.f
  by_cases h : (l.length : Int) > 30
  · rw [if_pos h]; exact ⟨false, rfl, fun h => by cases h⟩
  · rw [if_neg h]
    obtain ⟨b, hb, hx⟩ := few_l0 l (by omega) l.length k 0 (by omega) (by omega)
    exact ⟨b, hb, fun h1 => ⟨by omega, by simpa using hx h1⟩⟩

/-- Bytes ahead of what was answered, or its refusal. -/
def after (acc : List Int) (p : List Int × Int) : List Int × Int := if p.2 = 0 then (acc ++ p.1, 0) else ([], 20)
/-- Fields one behind the other, or the first one's refusal. -/
def wrs : List S25 → List Int × Int
  | [] => ([], 0)
  | r :: l => if okField r.f0 r.f1 then after (field r.f0 r.f1 r.f2 r.f3) (wrs l) else ([], 20)
theorem wrs_ok {r : S25} (l : List S25) (h : okField r.f0 r.f1) : wrs (r :: l) = after (field r.f0 r.f1 r.f2 r.f3) (wrs l) := by simp only [wrs]; rw [if_pos h]
theorem wrs_no {r : S25} (l : List S25) (h : ¬ okField r.f0 r.f1) : wrs (r :: l) = ([], 20) := by simp only [wrs]; rw [if_neg h]
theorem after_two (acc : List Int) (p : List Int × Int) : (after acc p).2 = 0 ∨ after acc p = ([], 20) := by
  unfold after
  split
  · exact .inl rfl
  · exact .inr rfl
theorem after_after (a b : List Int) (p : List Int × Int) : after a (after b p) = after (a ++ b) p := by
  unfold after
  by_cases h : p.2 = 0
  · rw [if_pos h, if_pos h, if_pos rfl, List.append_assoc]
  · rw [if_neg h, if_neg h, if_neg (by decide)]
theorem wrs_two (l : List S25) : (wrs l).2 = 0 ∨ wrs l = ([], 20) := by
  cases l with
  | nil => exact .inl rfl
  | cons r l =>
    by_cases h : okField r.f0 r.f1
    · rw [wrs_ok l h]; exact after_two _ _
    · rw [wrs_no l h]; exact .inr rfl
theorem after_nil (l : List S25) : after [] (wrs l) = wrs l := by
  rcases wrs_two l with h | h
  · unfold after; rw [if_pos h, List.nil_append, ← h]
  · rw [h]; rfl
def goodF (r : S25) : Prop := (-9223372036854775808 ≤ r.f0 ∧ r.f0 < 9223372036854775808) ∧ (0 ≤ r.f2 ∧ r.f2 < 18446744073709551616) ∧ r.f3.length ≤ 200
theorem goodF_len {r : S25} (h : goodF r) (h1 : okField r.f0 r.f1) : (field r.f0 r.f1 r.f2 r.f3).length ≤ 220 := by
  have h2 := field_length r.f0 r.f1 r.f2 r.f3 h1 h.2.1.1 h.2.1.2 (by have := h.2.2; omega)
  have := h.2.2
  omega

theorem wire_Write_l0 (l : List S25) (hl : l.length ≤ 30) (hg : ∀ r ∈ l, goodF r) (d : Nat) : ∀ (k i : Nat) (acc : List Int), i + d = l.length → acc.length ≤ 220 * i → d + 11 < k →
    wire_Write.l0 k acc l (l.length : Int) (i : Int) = some (after acc (wrs (l.drop i))) := by
  induction d with
  | zero =>
    intro k i acc hd ha hk
    obtain ⟨k, rfl⟩ : ∃ q, k = q + 1 := ⟨k - 1, by omega⟩
    simp only [wire_Write.l0]
    rw [if_neg (by omega), List.drop_of_length_le (by omega)]
    simp [wrs, after]
  | succ d ih =>
    intro k i acc hd ha hk
    obtain ⟨k, rfl⟩ : ∃ q, k = q + 1 := ⟨k - 1, by omega⟩
    have hi : i < l.length := by omega
    have hr : rd_T25 l (i : Int) = l[i] := by simp [rd_T25, hi]
    have hgi := hg _ (List.getElem_mem hi)
    have hlen := goodF_len hgi
    simp only [wire_Write.l0]
    rw [if_pos (by omega), if_pos (by omega), if_pos (by omega), hr, put_wire k _ _ _ _ hgi.1.1 hgi.1.2 hgi.2.1.1 hgi.2.1.2 (by have := hgi.2.2; omega) (by omega)]
    simp only [Option.bind_some]
    rw [List.drop_eq_getElem_cons hi]
    unfold pt
    by_cases hok : okField l[i].f0 l[i].f1
    · have h220 := hlen hok
      rw [if_pos hok, wrs_ok _ hok, if_pos rfl, if_pos (by show acc.length + (field l[i].f0 l[i].f1 l[i].f2 l[i].f3).length < _; omega), show wrap64 ((i : Int) + 1) = ((i + 1 : Nat) : Int) from by unfold wrap64; omega, ih k (i + 1) _ (by omega) (by rw [List.length_append]; show _ + (field l[i].f0 l[i].f1 l[i].f2 l[i].f3).length ≤ _; omega) (by omega), after_after]
    · rw [if_neg hok, wrs_no _ hok, if_neg (by decide)]
      rfl
theorem wire_Write_f (k : Nat) (l : List S25) (hl : l.length ≤ 30) (hg : ∀ r ∈ l, goodF r) (hk : 50 ≤ k) : wire_Write.f k l = some (wrs l) := by
  have h := wire_Write_l0 l hl hg l.length k 0 [] (by omega) (by simp) (by omega)
  rw [List.drop_zero, after_nil] at h
  exact h

theorem take_l0 (l : List Int) (hb : Bytes l) (d : Nat) : ∀ (k i : Nat) (x : Int), i + d = 10 → i ≤ l.length → 0 ≤ x → x < 128 ^ i → d < k →
    varint_Take.l0 k l x (i : Int) = some (told x (tr (l.drop i) i)) := by
  induction d with
  | zero =>
    intro k i x hd hi h0 h1 hk
    obtain ⟨k, rfl⟩ : ∃ m, k = m + 1 := ⟨k - 1, by omega⟩
    simp only [varint_Take.l0]
    rw [if_pos (by omega), if_pos (by omega)]
    rcases Nat.lt_or_ge i l.length with h | h
    · rw [if_neg (by omega), if_pos (by omega), rd_drop h]
      simp only [tr]
      rw [if_pos (by omega)]
      rfl
    · rw [if_pos (by omega), List.drop_of_length_le h]
      rfl
  | succ d ih =>
    intro k i x hd hi h0 h1 hk
    obtain ⟨k, rfl⟩ : ∃ m, k = m + 1 := ⟨k - 1, by omega⟩
    simp only [varint_Take.l0]
    rw [if_pos (by omega), if_pos (by omega)]
    rcases Nat.lt_or_ge i l.length with h | h
    · have hc := hb.rd (i : Int)
      rw [if_neg (by omega), if_neg (by omega), if_pos (by omega), rd_drop h]
      simp only [tr]
      rw [if_neg (show ¬ 10 ≤ i by omega)]
      by_cases h9 : i = 9 ∧ 1 < rd l (i : Int)
      · rw [if_pos (by omega), if_pos h9]; rfl
      · rw [if_neg (by omega), if_neg h9]
        obtain ⟨e1, e2, e3⟩ := or_add x (rd l (i : Int)) i h0 h1 hc.1 hc.2 (by omega) (fun h => by omega)
        have e7 : (7 * (i : Int)).toNat = 7 * i := by omega
        rw [e7, e1]
        have h128 := and128 (rd l (i : Int)) hc.1 hc.2
        by_cases hs : rd l (i : Int) < 128
        · rw [if_pos (by rw [h128]; exact hs), if_pos hs]
          simp only [told]
          rw [Int.emod_eq_of_lt hc.1 hs]
          rfl
        · rw [if_neg (by rw [h128]; exact hs), if_neg hs]
          have hge : 0 ≤ rd l (i : Int) % 128 * 128 ^ i := Int.mul_nonneg (by omega) (Int.le_of_lt (Int.pow_pos (by decide)))
          rw [show (i : Int) + 1 = ((i + 1 : Nat) : Int) from rfl, ih k (i + 1) _ (by omega) (by omega) (by omega) e2 (by omega)]
          cases tr (l.drop (i + 1)) (i + 1) with
          | none => rfl
          | some v => simp [told, Int.add_assoc]
    · rw [if_pos (by omega), List.drop_of_length_le h]
      rfl

theorem take_f (k : Nat) (l : List Int) (hb : Bytes l) (hk : 11 ≤ k) : varint_Take.f k l = some (told 0 (tr l 0)) := by
  have h := take_l0 l hb 10 k 0 0 (by omega) (by omega) (by omega) (by simp) (by omega)
  simpa [varint_Take.f] using h

theorem unfixed_l0 (l : List Int) (hb : Bytes l) (m : Nat) (hm : m ≤ 8) (hl : m ≤ l.length) (h8 : m = 8 ∨ m = l.length) (d : Nat) : ∀ (k i : Nat) (x : Int), i + d = m → 0 ≤ x → x < 256 ^ i → d < k →
    varint_Unfixed.l0 k l x (m : Int) (i : Int) = some (x + un (l.drop i) i) := by
  induction d with
  | zero =>
    intro k i x hd h0 h1 hk
    obtain ⟨k, rfl⟩ : ∃ q, k = q + 1 := ⟨k - 1, by omega⟩
    obtain rfl : i = m := by omega
    simp only [varint_Unfixed.l0]
    rw [if_neg (by omega)]
    rcases h8 with h | h
    · rw [un_nine _ _ (by omega), Int.add_zero]
    · rw [List.drop_of_length_le (by omega)]
      simp [un]
  | succ d ih =>
    intro k i x hd h0 h1 hk
    obtain ⟨k, rfl⟩ : ∃ q, k = q + 1 := ⟨k - 1, by omega⟩
    have hc := hb.rd (i : Int)
    have ew : wrap64 (8 * (i : Int)) = ((8 * i : Nat) : Int) := by unfold wrap64; omega
    have ei : wrap64 ((i : Int) + 1) = ((i + 1 : Nat) : Int) := by unfold wrap64; omega
    simp only [varint_Unfixed.l0]
    rw [if_pos (by omega), if_pos (by omega), if_pos (by omega), ew, ei, if_pos (by omega)]
    have es : shl .u64 (IntKind.u64.wrap (rd l (i : Int))) ((8 * i : Nat) : Int) = IntKind.u64.wrap (IntKind.u64.wrap (rd l (i : Int)) * 2 ^ (8 * i)) := by
      unfold shl
      rw [Int.toNat_natCast, show min (8 * i) IntKind.u64.bits = 8 * i from Nat.min_eq_left (by show 8 * i ≤ 64; omega)]
    obtain ⟨e1, e2, e3⟩ := or_fix x (rd l (i : Int)) i h0 h1 hc.1 hc.2 (by omega)
    rw [es, e1, ih k (i + 1) _ (by omega) e3 e2 (by omega), rd_drop (l := l) (i := i) (by omega)]
    simp only [un]
    rw [if_neg (by omega), Int.add_assoc]

theorem unfixed_f (k : Nat) (l : List Int) (hb : Bytes l) (hk : 9 ≤ k) : varint_Unfixed.f k l = some (un l 0) := by
  obtain ⟨m, e, h1, h2, h3⟩ : ∃ m : Nat, mn (l.length : Int) 8 = (m : Int) ∧ m ≤ 8 ∧ m ≤ l.length ∧ (m = 8 ∨ m = l.length) := by
    unfold mn
    split
    · exact ⟨8, rfl, by omega, by omega, .inl rfl⟩
    · exact ⟨l.length, rfl, by omega, by omega, .inr rfl⟩
  have h := unfixed_l0 l hb m h1 h2 h3 m k 0 0 (by omega) (by omega) (by simp) (by omega)
  unfold varint_Unfixed.f
  rw [e]
  simpa using h

def ks (kind : Int) : Int := if kind = 1 then 8 else if kind = 5 then 4 else 0
theorem wkind_f (kind : Int) : wire_kind.f kind = some (ks kind, decide (okKind kind)) := by
  unfold wire_kind.f ks
  have e : decide (okKind kind) = decide (kind = 0 ∨ kind = 1 ∨ kind = 2 ∨ kind = 5) := decide_eq_decide.2 Iff.rfl
  rw [e]
  by_cases h1 : kind = 1
  · subst h1; rfl
  by_cases h5 : kind = 5
  · subst h5; rfl
  by_cases h0 : kind = 0
  · subst h0; rfl
  by_cases h2 : kind = 2
  · subst h2; rfl
  rw [if_neg h1, if_neg h5, if_neg h0, if_neg h2, if_neg h1, if_neg h5, decide_eq_false (by omega)]
theorem wtake_j0 (k : Nat) (l : List Int) (hb : Bytes l) (hl : l.length < 140737488355328) (m : Nat) (hm : m ≤ l.length) (num kind : Int) (_hkind : okKind kind) (hk : 12 ≤ k) :
    wire_Take.j0 (k + 1) l (m : Int) (ks kind) false num kind 0 = some (tkRest num kind (m : Int) (l.drop m)) := by
  have hbd := bytes_drop hb m
  have hld : (l.drop m).length = l.length - m := List.length_drop
  simp only [wire_Take.j0, Bool.false_eq_true, if_false, Int.toNat_natCast]
  rw [if_pos (by omega), if_pos (by omega)]
  simp only [Option.bind_some]
  unfold tkRest ks
  generalize hrest : l.drop m = rest at hbd hld ⊢
  by_cases h1 : kind = 1
  · rw [if_pos h1, if_pos h1, if_pos (by omega)]
    by_cases h8 : (rest.length : Int) < 8
    · rw [if_pos h8, if_pos h8]; rfl
    · rw [if_neg h8, if_neg h8, if_pos (by omega), if_pos (by omega), show (8 : Int).toNat = 8 from rfl, unfixed_f k _ (bytes_take hbd 8) (by omega), wrap64_in _ (by omega) (by omega)]
      rfl
  rw [if_neg h1, if_neg h1]
  by_cases h5 : kind = 5
  · rw [if_pos h5, if_pos h5, if_pos (by omega)]
    by_cases h8 : (rest.length : Int) < 4
    · rw [if_pos h8, if_pos h8]; rfl
    · rw [if_neg h8, if_neg h8, if_pos (by omega), if_pos (by omega), show (4 : Int).toNat = 4 from rfl, unfixed_f k _ (bytes_take hbd 4) (by omega), wrap64_in _ (by omega) (by omega)]
      rfl
  rw [if_neg h5, if_neg h5, if_neg (by omega), take_f k rest hbd (by omega)]
  cases e : tr rest 0 with
  | none => rfl
  | some v =>
    obtain ⟨v0, v1, v2, v3, v4⟩ := tr_64 hbd e
    rw [show told 0 (some v) = (v.1, (v.2 : Int), 0) from by rw [told, Int.zero_add], Option.bind_some]
    dsimp only
    rw [if_pos rfl]
    by_cases h0 : kind = 0
    · rw [if_pos h0, if_pos h0, wrap64_in _ (by omega) (by omega)]
    rw [if_neg h0, if_neg h0, wrap64_in ((rest.length : Int) - (v.2 : Int)) (by omega) (by omega), wrap_u64_in _ (by omega) (by omega)]
    by_cases h3 : (rest.length : Int) - (v.2 : Int) < v.1
    · rw [if_pos h3, if_pos h3]; rfl
    · rw [if_neg h3, if_neg h3, wrap64_in v.1 (by omega) (by omega), wrap64_in ((v.2 : Int) + v.1) (by omega) (by omega), if_pos (by omega), if_pos (by omega), if_pos (by omega)]
      unfold bytes_Clone.f
      simp only [Option.bind_some, List.nil_append, Int.toNat_natCast, List.length_nil]
      rw [if_pos (by rw [List.length_drop, List.length_take]; omega), wrap64_in ((m : Int) + (v.2 : Int)) (by omega) (by omega), wrap64_in ((m : Int) + (v.2 : Int) + v.1) (by omega) (by omega), List.drop_take, show ((v.2 : Int) + v.1).toNat - v.2 = v.1.toNat from by omega]
      simp only [Option.bind_some]
theorem wtake_f (k : Nat) (l : List Int) (hb : Bytes l) (hl : l.length < 140737488355328) (hk : 14 ≤ k) : wire_Take.f k l = some (tk l) := by
  obtain ⟨k, rfl⟩ : ∃ q, k = q + 1 := ⟨k - 1, by omega⟩
  unfold wire_Take.f tk
  rw [take_f (k + 1) l hb (by omega)]
  cases e : tr l 0 with
  | none =>
    simp only [Option.bind_some, told]
    rw [if_neg (by decide)]
    rfl
  | some v =>
    obtain ⟨v0, v1, v2, v3, v4⟩ := tr_64 hb e
    rw [show told 0 (some v) = (v.1, (v.2 : Int), 0) from by rw [told, Int.zero_add], Option.bind_some]
    dsimp only
    rw [if_pos rfl, and7 _ v0 v1, wrap64_in (v.1 % 8) (by omega) (by omega), wkind_f, wrap64_in (v.1 / 8) (by omega) (by omega)]
    simp only [Option.bind_some]
    have bad : ∀ a, wire_Take.j0 (k + 1) l (v.2 : Int) a true (v.1 / 8) (v.1 % 8) 0 = some (no 20) := fun a => by simp only [wire_Take.j0, if_true, no]
    by_cases h1 : 4294967296 ≤ v.1
    · rw [if_neg (by omega), bad, if_pos (.inl h1)]
    rw [if_pos (by omega)]
    by_cases h2 : v.1 < 8
    · rw [if_pos (by omega), bad, if_pos (.inr (.inl h2))]
    rw [if_neg (by omega)]
    by_cases h3 : okKind (v.1 % 8)
    · rw [decide_eq_true h3, Bool.not_true, wtake_j0 k l hb hl v.2 v3 _ _ h3 (by omega), if_neg (fun h => h.elim h1 (fun h => h.elim h2 (fun h => h h3)))]
    · rw [decide_eq_false h3, Bool.not_false, bad, if_pos (.inr (.inr h3))]

theorem rdl_rr {β : Type} (mk : Int → Int → Int → List Int → β) (tf : Nat → List Int → Option (Int × Int × Int × List Int × Int × Int)) (ht : ∀ k l, Bytes l → l.length < 140737488355328 → 36 ≤ k → tf k l = some (tk l)) (l : List Int) (hb : Bytes l) (hl : l.length < 1000000) (d : Nat) :
    ∀ (k i : Nat) (acc : List β), i ≤ l.length → l.length ≤ i + d → d + 40 ≤ k → acc.length ≤ i → In.rdl mk tf l k acc (i : Int) = some (rr mk l d i acc) := by
  induction d with
  | zero =>
    intro k i acc h1 h2 h3 h4
    obtain ⟨k, rfl⟩ : ∃ q, k = q + 1 := ⟨k - 1, by omega⟩
    simp only [In.rdl, rr]
    rw [if_neg (by omega)]
  | succ d ih =>
    intro k i acc h1 h2 h3 h4
    obtain ⟨k, rfl⟩ : ∃ q, k = q + 1 := ⟨k - 1, by omega⟩
    simp only [In.rdl, rr]
    by_cases h : i < l.length
    · rw [if_pos (by omega), if_pos (by omega), if_pos h, Int.toNat_natCast, ht k _ (bytes_drop hb i) (by rw [List.length_drop]; omega) (by omega)]
      simp only [Option.bind_some]
      by_cases he : (tk (l.drop i)).2.2.2.2.2 = 0
      · have hm := tk_ok (bytes_drop hb i) he
        rw [List.length_drop] at hm
        rw [if_pos he, if_pos he, if_pos (by omega), wrap64_in _ (by omega) (by omega), show (i : Int) + (tk (l.drop i)).2.2.2.2.1 = ((i + (tk (l.drop i)).2.2.2.2.1.toNat : Nat) : Int) from by omega]
        exact ih k _ _ (by omega) (by omega) (by omega) (by rw [List.length_append, List.length_singleton]; omega)
      · rw [if_neg he, if_neg he]
    · rw [if_neg (by omega), if_neg h]
theorem wread_f (k : Nat) (l : List Int) (hb : Bytes l) (hl : l.length < 1000000) (hk : l.length + 40 ≤ k) : wire_Read.f k l = some (rr (fun a b c d => (⟨a, b, c, d⟩ : S25)) l l.length 0 []) :=
  rdl_rr _ _ (fun k l hb hl hk => wtake_f k l hb hl (by omega)) l hb hl l.length k 0 [] (by omega) (by omega) (by omega) (by simp)

theorem rr_len {β : Type} (mk : Int → Int → Int → List Int → β) (l : List Int) (hb : Bytes l) (d : Nat) : ∀ (i : Nat) (acc : List β), acc.length ≤ i → i ≤ l.length → (rr mk l d i acc).1.length ≤ l.length := by
  induction d with
  | zero => intro i acc h h2; simp only [rr]; omega
  | succ d ih =>
    intro i acc h h2
    simp only [rr]
    by_cases h1 : i < l.length
    · rw [if_pos h1]
      by_cases he : (tk (l.drop i)).2.2.2.2.2 = 0
      · have hm := tk_ok (bytes_drop hb i) he
        rw [List.length_drop] at hm
        rw [if_pos he]
        exact ih _ _ (by rw [List.length_append, List.length_singleton]; omega) (by omega)
      · rw [if_neg he]; simp
    · rw [if_neg h1]
      show acc.length ≤ _
      omega

theorem same_l (x : List S25) (d : Nat) : ∀ (k i : Nat), i + d = x.length → d < k → x.length < 4611686018427387904 → glossarylaw02_same.l0 k x x (x.length : Int) (i : Int) = some true := by
  induction d with
  | zero =>
    intro k i h hk hx
    obtain ⟨k, rfl⟩ : ∃ q, k = q + 1 := ⟨k - 1, by omega⟩
    simp only [glossarylaw02_same.l0]
    rw [if_neg (by omega)]
  | succ d ih =>
    intro k i h hk hx
    obtain ⟨k, rfl⟩ : ∃ q, k = q + 1 := ⟨k - 1, by omega⟩
    simp only [glossarylaw02_same.l0]
    rw [if_pos (by omega), if_pos (by omega), if_pos (by omega), if_pos (by omega)]
    have e : glossaryref01_Same.f ((rd_T25 x (i : Int)).f0) ((rd_T25 x (i : Int)).f1) ((rd_T25 x (i : Int)).f2) ((rd_T25 x (i : Int)).f3) ((rd_T25 x (i : Int)).f0) ((rd_T25 x (i : Int)).f1) ((rd_T25 x (i : Int)).f2) ((rd_T25 x (i : Int)).f3) = some true := by
      unfold glossaryref01_Same.f
      simp
    rw [e]
    simp only [Option.bind_some, if_true]
    rw [wrap64_in _ (by omega) (by omega)]
    exact ih k (i + 1) (by omega) (by omega) hx
theorem same_f (k : Nat) (x : List S25) (hk : x.length < k) (hx : x.length < 4611686018427387904) : glossarylaw02_same.f k x x = some true := by
  unfold glossarylaw02_same.f
  rw [if_pos rfl]
  exact same_l x x.length k 0 (by omega) hk hx

/-- A field with nothing but what its kind has. -/
def bare (r : S25) : S25 := ⟨r.f0, r.f1, pn r.f1 r.f2, pb r.f1 r.f3⟩
theorem bare_f (r : S25) (h : goodF r) : glossarylaw02_pure.f r.f0 r.f1 r.f2 r.f3 = some (r.f0, r.f1, pn r.f1 r.f2, pb r.f1 r.f3) := by
  unfold glossarylaw02_pure.f pn pb
  by_cases h2 : r.f1 = 2
  · rw [if_pos h2, if_pos h2, if_pos h2]
  rw [if_neg h2, if_neg h2, if_neg h2]
  by_cases h5 : r.f1 = 5
  · rw [if_pos h5, if_pos h5, and32 _ h.2.1.1 h.2.1.2]
  · rw [if_neg h5, if_neg h5]
/-- What is written of fields that are all well. -/
theorem wrs_all (l : List S25) (h : (wrs l).2 = 0) : (∀ r ∈ l, okField r.f0 r.f1) ∧ (wrs l).1 = l.flatMap (fun r => field r.f0 r.f1 r.f2 r.f3) := by
  induction l with
  | nil => exact ⟨fun _ h => (List.not_mem_nil h).elim, rfl⟩
  | cons r l ih =>
    by_cases hr : okField r.f0 r.f1
    · rw [wrs_ok l hr] at h ⊢
      unfold after at h ⊢
      by_cases hl : (wrs l).2 = 0
      · obtain ⟨i1, i2⟩ := ih hl
        rw [if_pos hl]
        refine ⟨fun x hx => ?_, ?_⟩
        · rcases List.mem_cons.1 hx with rfl | hx
          · exact hr
          · exact i1 x hx
        · rw [List.flatMap_cons, ← i2]
      · rw [if_neg hl] at h; exact absurd h (by decide)
    · rw [wrs_no l hr] at h; exact absurd h (by decide)
theorem cat_len (l : List S25) (hg : ∀ r ∈ l, goodF r) (ho : ∀ r ∈ l, okField r.f0 r.f1) : (l.flatMap (fun r => field r.f0 r.f1 r.f2 r.f3)).length ≤ 220 * l.length := by
  induction l with
  | nil => exact Nat.zero_le _
  | cons r l ih =>
    have h1 := goodF_len (hg r (List.mem_cons_self ..)) (ho r (List.mem_cons_self ..))
    have h2 := ih (fun x hx => hg x (List.mem_cons_of_mem _ hx)) (fun x hx => ho x (List.mem_cons_of_mem _ hx))
    rw [List.flatMap_cons, List.length_append, List.length_cons]
    omega
theorem cat_bytes (l : List S25) (hb : ∀ r ∈ l, Bytes r.f3) : Bytes (l.flatMap (fun r => field r.f0 r.f1 r.f2 r.f3)) := by
  intro x hx
  obtain ⟨r, hr, hx⟩ := List.mem_flatMap.1 hx
  exact field_bytes r.f0 r.f1 r.f2 r.f3 (hb r hr) x hx
/-- What is written is read again. -/
theorem rr_cat (l : List S25) (hg : ∀ r ∈ l, goodF r) (ho : ∀ r ∈ l, okField r.f0 r.f1) : ∀ (d : Nat) (acc : List S25), (l.flatMap (fun r => field r.f0 r.f1 r.f2 r.f3)).length ≤ d →
    rr (fun a b c d => (⟨a, b, c, d⟩ : S25)) (l.flatMap (fun r => field r.f0 r.f1 r.f2 r.f3)) d 0 acc = (acc ++ l.map bare, 0, 0) := by
  induction l with
  | nil =>
    intro d acc _
    rw [List.map_nil, List.append_nil, List.flatMap_nil]
    cases d with
    | zero => rfl
    | succ d => rw [rr, if_neg (by simp)]
  | cons r l ih =>
    intro d acc hd
    rw [List.flatMap_cons] at hd ⊢
    have hr := hg r (List.mem_cons_self ..)
    have hp := field_pos r.f0 r.f1 r.f2 r.f3
    have hl : (field r.f0 r.f1 r.f2 r.f3 ++ l.flatMap (fun r => field r.f0 r.f1 r.f2 r.f3)).length = (field r.f0 r.f1 r.f2 r.f3).length + (l.flatMap (fun r => field r.f0 r.f1 r.f2 r.f3)).length := List.length_append
    obtain ⟨d, rfl⟩ : ∃ q, d = q + 1 := ⟨d - 1, by omega⟩
    have ht := tk_field r.f0 r.f1 r.f2 r.f3 (l.flatMap (fun r => field r.f0 r.f1 r.f2 r.f3)) (ho r (List.mem_cons_self ..)) hr.2.1.1 hr.2.1.2 (by have := hr.2.2; omega)
    have e : rr (fun a b c d => (⟨a, b, c, d⟩ : S25)) (field r.f0 r.f1 r.f2 r.f3 ++ l.flatMap (fun r => field r.f0 r.f1 r.f2 r.f3)) (d + 1) 0 acc = rr (fun a b c d => (⟨a, b, c, d⟩ : S25)) (field r.f0 r.f1 r.f2 r.f3 ++ l.flatMap (fun r => field r.f0 r.f1 r.f2 r.f3)) d ((field r.f0 r.f1 r.f2 r.f3).length + 0) (acc ++ [bare r]) := by
      rw [rr, if_pos (by omega), List.drop_zero, ht]
      dsimp only
      rw [if_pos rfl, Int.toNat_natCast, Nat.zero_add, Nat.add_zero]
      rfl
    rw [e, rr_shift, ih (fun x hx => hg x (List.mem_cons_of_mem _ hx)) (fun x hx => ho x (List.mem_cons_of_mem _ hx)) d _ (by omega), if_pos rfl, List.map_cons, List.append_assoc]
    rfl
theorem back_l0 (x l : List S25) (hg : ∀ r ∈ l, goodF r) (hl : l.length ≤ 30) (d : Nat) : ∀ (k i : Nat) (acc : List S25), i + d = l.length → acc.length ≤ i → 100 + d ≤ k →
    glossarylaw02_WireBack.l0 k x 0 acc l (l.length : Int) (i : Int) = (glossarylaw02_same.f (k - d - 1) x (acc ++ (l.drop i).map bare)).bind fun t => some t := by
  induction d with
  | zero =>
    intro k i acc h ha hk
    obtain ⟨k, rfl⟩ : ∃ q, k = q + 1 := ⟨k - 1, by omega⟩
    simp only [glossarylaw02_WireBack.l0]
    rw [if_neg (by omega), List.drop_of_length_le (by omega), List.map_nil, List.append_nil]
    rw [if_pos (by trivial)]
    rfl
  | succ d ih =>
    intro k i acc h ha hk
    obtain ⟨k, rfl⟩ : ∃ q, k = q + 1 := ⟨k - 1, by omega⟩
    have hi : i < l.length := by omega
    have hr : rd_T25 l (i : Int) = l[i] := by simp [rd_T25, hi]
    simp only [glossarylaw02_WireBack.l0]
    rw [if_pos (by omega), if_pos (by omega), if_pos (by omega), hr, bare_f _ (hg _ (List.getElem_mem hi))]
    simp only [Option.bind_some]
    rw [if_pos (by omega), show wrap64 ((i : Int) + 1) = ((i + 1 : Nat) : Int) from by unfold wrap64; omega]
    rw [ih k (i + 1) _ (by omega) (by rw [List.length_append, List.length_singleton]; omega) (by omega), List.drop_eq_getElem_cons hi, List.map_cons, List.append_assoc, show k + 1 - (d + 1) - 1 = k - d - 1 from by omega]
    rfl

end WireBack
open WireBack
theorem WireBack : glossarylaw02_WireBack.Pure := by
  rintro l ⟨-, g⟩ -
  obtain ⟨b, hb, hf⟩ := few_f 7000 l (by omega)
  refine ⟨7000, ?_⟩
  unfold glossarylaw02_WireBack.f
  rw [awake_f 7000 (by omega), hb]
  simp only [Option.bind_some, if_true]
  cases b with
  | false => rfl
  | true =>
    obtain ⟨h1, h2⟩ := hf rfl
    have hg : ∀ r ∈ l, goodF r := fun r hr => by
      obtain ⟨g0, -, g2, -⟩ := g r hr
      exact ⟨wf_i64 g0, wf_u64 g2, h2 r hr⟩
    have hby : ∀ r ∈ l, Bytes r.f3 := fun r hr => bytes_of_wf (g r hr).2.2.2.2
    rw [if_pos rfl, wire_Write_f 7000 l h1 hg (by omega), Option.bind_some]
    by_cases he : (wrs l).2 = 0
    · obtain ⟨ho, hw⟩ := wrs_all l he
      have hlen := cat_len l hg ho
      rw [if_pos he, hw, wread_f 7000 _ (cat_bytes l hby) (by omega) (by omega), rr_cat l hg ho _ [] (Nat.le_refl _), Option.bind_some]
      have hl0 := back_l0 (l.map bare) l hg h1 l.length 7000 0 [] (by omega) (by simp) (by omega)
      rw [List.drop_zero, List.nil_append, same_f _ _ (by rw [List.length_map]; omega) (by rw [List.length_map]; omega)] at hl0
      exact hl0
    · rw [if_neg he]
      rcases wrs_two l with h | h
      · exact absurd h he
      · rw [h]; rfl
end Go.Proofs.Yteopaifokfmnjaa.Pure
