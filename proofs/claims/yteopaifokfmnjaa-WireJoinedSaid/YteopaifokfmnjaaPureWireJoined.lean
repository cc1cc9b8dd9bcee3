/- The fields of two pieces are those of the one, and then those of the other. -/
import Derived.Test.YteopaifokfmnjaaGWireJoinedx0
import Derived.Test.YteopaifokfmnjaaGWireJoinedx1
import Derived.Test.YteopaifokfmnjaaGWireJoinedx2
import Derived.Test.YteopaifokfmnjaaGWireJoinedx3
import Derived.Test.YteopaifokfmnjaaPt
import Derived.Test.YteopaifokfmnjaaTk
import Derived.Test.YteopaifokfmnjaaCl
import Derived.Test.YteopaifokfmnjaaRf
import Derived.Test.YteopaifokfmnjaaAp
import Derived.Test.YteopaifokfmnjaaFl
import Derived.Test.YteopaifokfmnjaaVb
import Derived.Test.YteopaifokfmnjaaFx
import Derived.Test.YteopaifokfmnjaaWr
import Derived.Test.YteopaifokfmnjaaWt
import Derived.Test.YteopaifokfmnjaaWj
namespace Go.Proofs.Yteopaifokfmnjaa.Pure
open Go.RowKit Go.Proofs.Yteopaifokfmnjaa.GWireJoined Go.Proofs.YteopaifokfmnjaaW.PrintWords Go.Proofs.YteopaifokfmnjaaW.PrintLast Go.Proofs.YteopaifokfmnjaaW.PrintMore Go.Proofs.Yteopaifokfmnjaa.Pt Go.Proofs.Yteopaifokfmnjaa.Tk Go.Proofs.Yteopaifokfmnjaa.Cl Go.Proofs.Yteopaifokfmnjaa.Rf Go.Proofs.Yteopaifokfmnjaa.Ap Go.Proofs.Yteopaifokfmnjaa.Fl Go.Proofs.Yteopaifokfmnjaa.Vb Go.Proofs.Yteopaifokfmnjaa.Fx Go.Proofs.Yteopaifokfmnjaa.Wr Go.Proofs.Yteopaifokfmnjaa.Wt Go.Proofs.Yteopaifokfmnjaa.Wj
namespace WireJoined
theorem put_l0 (d : Nat) : ∀ (k : Nat) (x : Int) (acc : List Int), 0 ≤ x → (vb x.toNat).length ≤ d + 1 → d < k → acc.length + d < 140737488355328 →
    varint_Put.l0 k x acc = some (acc ++ vb x.toNat) := by
  induction d with
  | zero =>
    intro k x acc h0 hl hk ha
    obtain ⟨k, rfl⟩ : ∃ m, k = m + 1 := ⟨k - 1, by omega⟩
    have hx : x < 128 := by
      rcases Int.lt_or_le x 128 with h | h
      · exact h
      · rw [vb_large (by omega)] at hl
        have := vb_pos (x.toNat / 128)
        simp only [List.length_cons] at hl
        omega
    simp only [varint_Put.l0]
    rw [if_pos (by omega), if_pos hx, vb_small (by omega)]
    congr 3
    omega
  | succ d ih =>
    intro k x acc h0 hl hk ha
    obtain ⟨k, rfl⟩ : ∃ m, k = m + 1 := ⟨k - 1, by omega⟩
    simp only [varint_Put.l0]
    rw [if_pos (by omega)]
    rcases Int.lt_or_le x 128 with hx | hx
    · rw [if_pos hx, vb_small (by omega)]
      congr 3
      omega
    · rw [if_neg (by omega)]
      have hv := vb_large (n := x.toNat) (by omega)
      have e : (x / 128).toNat = x.toNat / 128 := by omega
      rw [ih k (x / 128) _ (by omega) (by rw [hv] at hl; rw [e]; simpa using hl) (by omega) (by simp only [List.length_append, List.length_cons, List.length_nil]; omega), e, hv, or128 x h0]
      simp

theorem put_f (k : Nat) (x : Int) (h0 : 0 ≤ x) (h1 : x < 18446744073709551616) (hk : 10 ≤ k) : varint_Put.f k x = some (vb x.toNat) := by
  have := vb_ten x.toNat (by omega)
  have h := put_l0 9 k x [] h0 (by omega) (by omega) (by simp)
  simpa [varint_Put.f] using h

theorem fixed_l0 (n : Int) (m : Nat) (hm : m ≤ 8) (d : Nat) : ∀ (k i : Nat), i + d = m → d < k →
    varint_Fixed.l0 k n (fx n i ++ List.replicate (m - i) 0) (m : Int) (i : Int) = some (fx n m) := by
  induction d with
  | zero =>
    intro k i hd hk
    obtain ⟨k, rfl⟩ : ∃ q, k = q + 1 := ⟨k - 1, by omega⟩
    obtain rfl : i = m := by omega
    simp only [varint_Fixed.l0]
    rw [if_neg (by omega), Nat.sub_self]
    simp
  | succ d ih =>
    intro k i hd hk
    obtain ⟨k, rfl⟩ : ∃ q, k = q + 1 := ⟨k - 1, by omega⟩
    have hl : (fx n i ++ List.replicate (m - i) 0).length = m := by rw [List.length_append, fx_length, List.length_replicate]; omega
    have ew : wrap64 (8 * (i : Int)) = ((8 * i : Nat) : Int) := by unfold wrap64; omega
    have ei : wrap64 ((i : Int) + 1) = ((i + 1 : Nat) : Int) := by unfold wrap64; omega
    simp only [varint_Fixed.l0]
    rw [if_pos (by omega), ew, ei, if_pos (by omega), if_pos (by omega), if_pos (by omega)]
    have es : shr .u64 n ((8 * i : Nat) : Int) % 256 = fxb n i := by
      unfold shr fxb
      rw [Int.toNat_natCast, show min (8 * i) IntKind.u64.bits = 8 * i from Nat.min_eq_left (by show 8 * i ≤ 64; omega)]
    rw [es, Int.toNat_natCast, fx_set n m i (by omega)]
    exact ih k (i + 1) (by omega) (by omega)

theorem fixed_f (k : Nat) (n s : Int) (hk : 9 ≤ k) : varint_Fixed.f k n s = some (fx n (mn (mx s 0) 8).toNat) := by
  have hb : 0 ≤ mn (mx s 0) 8 ∧ mn (mx s 0) 8 ≤ 8 := by unfold mn mx; split <;> split <;> omega
  unfold varint_Fixed.f
  rw [if_pos hb.1, if_pos (by omega)]
  simp only [Option.bind_some]
  have h := fixed_l0 n (mn (mx s 0) 8).toNat (by omega) (mn (mx s 0) 8).toNat k 0 (by omega) (by omega)
  rw [List.length_replicate]
  simpa [fx] using h

theorem put_wire (k : Nat) (num kind n : Int) (b : List Int) (m0 : -9223372036854775808 ≤ num) (m1 : num < 9223372036854775808) (n0 : 0 ≤ n) (n1 : n < 18446744073709551616) (hb : b.length ≤ 140737488351232) (hk : 11 ≤ k) :
    wire_Put.f k num kind n b = some (pt num kind n b) := by
  obtain ⟨k, rfl⟩ : ∃ q, k = q + 1 := ⟨k - 1, by omega⟩
  have hj : ∀ x4 : Int, wire_Put.j0 (k + 1) x4 true num kind n b = some ([], 20) := fun x4 => by simp only [wire_Put.j0]; rfl
  have hv := vb_ten n.toNat (by omega)
  have hvb := vb_ten b.length (by omega)
  unfold wire_Put.f
  by_cases hkd : okKind kind
  · by_cases hn : 1 ≤ num ∧ num ≤ 536870911
    · have hok : okField num kind := ⟨hn.1, hn.2, hkd⟩
      have ht : ∀ x4 : Int, (kind = 1 → x4 = 8) → (kind = 5 → x4 = 4) → (kind = 0 → x4 = 0) → (kind = 2 → x4 = 0) → wire_Put.j0 (k + 1) x4 false num kind n b = some (pt num kind n b) := by
        intro x4 h1 h5 h0 h2
        have kb : 0 ≤ kind ∧ kind < 8 := by unfold okKind at hkd; omega
        have hT := vb_ten (8 * num + kind).toNat (by omega)
        simp only [wire_Put.j0]
        rw [if_neg (by decide), or8 num kind (by omega) hn.2 kb.1 kb.2, put_f k _ (by omega) (by omega) (by omega)]
        simp only [Option.bind_some, pt, if_pos hok, field, worth]
        rcases hkd with rfl | rfl | rfl | rfl
        · rw [h0 rfl, if_neg (by omega), if_pos rfl, if_pos rfl, put_f k n n0 n1 (by omega)]
          simp only [Option.bind_some]
          rw [if_pos (by omega)]
        · rw [h1 rfl, if_pos (by omega), if_neg (by omega), if_pos rfl, fixed_f k n 8 (by omega)]
          simp only [Option.bind_some]
          rw [show (mn (mx 8 0) 8).toNat = 8 from by decide, if_pos (by rw [fx_length]; omega)]
        · rw [h2 rfl, if_neg (by omega), if_neg (by omega), if_neg (by omega), if_neg (by omega), if_neg (by omega), wrap_u64_in _ (by omega) (by omega), put_f k _ (by omega) (by omega) (by omega)]
          simp only [Option.bind_some, Int.toNat_natCast]
          rw [if_pos (by omega)]
          rw [if_pos (by rw [List.length_append]; omega), List.append_assoc]
        · rw [h5 rfl, if_pos (by omega), if_neg (by omega), if_neg (by omega), if_pos rfl, fixed_f k n 4 (by omega)]
          simp only [Option.bind_some]
          rw [show (mn (mx 4 0) 8).toNat = 4 from by decide, if_pos (by rw [fx_length]; omega)]
      unfold wire_kind.f
      rcases hkd with rfl | rfl | rfl | rfl
      all_goals
        simp only [if_true, if_false, Option.bind_some, Int.reduceEq]
        rw [if_neg (show ¬ num < 1 by omega), show decide (num > 536870911) = false from decide_eq_false (by omega)]
        exact ht _ (by simp) (by simp) (by simp) (by simp)
    · have hno : ¬ okField num kind := fun h => hn ⟨h.1, h.2.1⟩
      have hp : pt num kind n b = ([], 20) := by unfold pt; rw [if_neg hno]
      rw [hp]
      have hx : ∀ x4 : Int, (if num < 1 then wire_Put.j0 (k + 1) x4 true num kind n b else wire_Put.j0 (k + 1) x4 (decide (num > 536870911)) num kind n b) = some ([], 20) := by
        intro x4
        by_cases h1 : num < 1
        · rw [if_pos h1]; exact hj x4
        · rw [if_neg h1, show decide (num > 536870911) = true from decide_eq_true (by omega)]; exact hj x4
      unfold wire_kind.f
      rcases hkd with rfl | rfl | rfl | rfl
      all_goals
        simp only [if_true, if_false, Option.bind_some, Int.reduceEq]
        exact hx _
  · have hno : ¬ okField num kind := fun h => hkd h.2.2
    have hp : pt num kind n b = ([], 20) := by unfold pt; rw [if_neg hno]
    unfold okKind at hkd
    unfold wire_kind.f
    rw [hp, if_neg (by omega), if_neg (by omega), if_neg (by omega), if_neg (by omega)]
    simp only [Option.bind_some]
    rw [if_neg (by decide)]
    exact hj _

theorem awake_f (k : Nat) (hk : 11 ≤ k) : glossarylaw02_awake.f k = some true := by
  unfold glossarylaw02_awake.f
  rw [put_wire k 1 0 150 [] (by omega) (by omega) (by omega) (by omega) (by simp) hk]
  have e1 : pt 1 0 150 [] = ([8, 150, 1], 0) := by
    unfold pt
    rw [if_pos (by decide)]
    unfold field worth
    rw [if_pos rfl, show (8 * 1 + 0 : Int).toNat = 8 from rfl, show (150 : Int).toNat = 150 from rfl, vb_small (by omega), vb_large (by omega), vb_small (by omega)]
    rfl
  rw [e1]
  simp only [Option.bind_some, if_true]
  decide +kernel

theorem take_l0 (l : List Int) (hb : Bytes l) (d : Nat) : ∀ (k i : Nat) (x : Int), i + d = 10 → i ≤ l.length → 0 ≤ x → x < 128 ^ i → d < k →
    varint_Take.l0 k l x (i : Int) = some (told x (tr (l.drop i) i)) := by
  induction d with
  | zero =>
    intro k i x hd hi h0 h1 hk
    obtain ⟨k, rfl⟩ : ∃ m, k = m + 1 := ⟨k - 1, by omega⟩
    simp only [varint_Take.l0]
    rw [if_pos (by omega), if_pos (by omega)]
    rcases Nat.lt_or_ge i l.length with h | h
    · rw [if_neg (by omega), if_pos (by omega), rd_drop h]
      simp only [tr]
      rw [if_pos (by omega)]
      rfl
    · rw [if_pos (by omega), List.drop_of_length_le h]
      rfl
  | succ d ih =>
    intro k i x hd hi h0 h1 hk
    obtain ⟨k, rfl⟩ : ∃ m, k = m + 1 := ⟨k - 1, by omega⟩
    simp only [varint_Take.l0]
    rw [if_pos (by omega), if_pos (by omega)]
    rcases Nat.lt_or_ge i l.length with h | h
    · have hc := hb.rd (i : Int)
      rw [if_neg (by omega), if_neg (by omega), if_pos (by omega), rd_drop h]
      simp only [tr]
      rw [if_neg (show ¬ 10 ≤ i by omega)]
      by_cases h9 : i = 9 ∧ 1 < rd l (i : Int)
      · rw [if_pos (by omega), if_pos h9]; rfl
      · rw [if_neg (by omega), if_neg h9]
        obtain ⟨e1, e2, e3⟩ := or_add x (rd l (i : Int)) i h0 h1 hc.1 hc.2 (by omega) (fun h => by omega)
        have e7 : (7 * (i : Int)).toNat = 7 * i := by omega
        rw [e7, e1]
        have h128 := and128 (rd l (i : Int)) hc.1 hc.2
        by_cases hs : rd l (i : Int) < 128
        · rw [if_pos (by rw [h128]; exact hs), if_pos hs]
          simp only [told]
          rw [Int.emod_eq_of_lt hc.1 hs]
          rfl
        · rw [if_neg (by rw [h128]; exact hs), if_neg hs]
          have hge : 0 ≤ rd l (i : Int) % 128 * 128 ^ i := Int.mul_nonneg (by omega) (Int.le_of_lt (Int.pow_pos (by decide)))
          rw [show (i : Int) + 1 = ((i + 1 : Nat) : Int) from rfl, ih k (i + 1) _ (by omega) (by omega) (by omega) e2 (by omega)]
          cases tr (l.drop (i + 1)) (i + 1) with
          | none => rfl
          | some v => simp [told, Int.add_assoc]
    · rw [if_pos (by omega), List.drop_of_length_le h]
      rfl

theorem take_f (k : Nat) (l : List Int) (hb : Bytes l) (hk : 11 ≤ k) : varint_Take.f k l = some (told 0 (tr l 0)) := by
  have h := take_l0 l hb 10 k 0 0 (by omega) (by omega) (by omega) (by simp) (by omega)
  simpa [varint_Take.f] using h

theorem unfixed_l0 (l : List Int) (hb : Bytes l) (m : Nat) (hm : m ≤ 8) (hl : m ≤ l.length) (h8 : m = 8 ∨ m = l.length) (d : Nat) : ∀ (k i : Nat) (x : Int), i + d = m → 0 ≤ x → x < 256 ^ i → d < k →
    varint_Unfixed.l0 k l x (m : Int) (i : Int) = some (x + un (l.drop i) i) := by
  induction d with
  | zero =>
    intro k i x hd h0 h1 hk
    obtain ⟨k, rfl⟩ : ∃ q, k = q + 1 := ⟨k - 1, by omega⟩
    obtain rfl : i = m := by omega
    simp only [varint_Unfixed.l0]
    rw [if_neg (by omega)]
    rcases h8 with h | h
    · rw [un_nine _ _ (by omega), Int.add_zero]
    · rw [List.drop_of_length_le (by omega)]
      simp [un]
  | succ d ih =>
    intro k i x hd h0 h1 hk
    obtain ⟨k, rfl⟩ : ∃ q, k = q + 1 := ⟨k - 1, by omega⟩
    have hc := hb.rd (i : Int)
    have ew : wrap64 (8 * (i : Int)) = ((8 * i : Nat) : Int) := by unfold wrap64; omega
    have ei : wrap64 ((i : Int) + 1) = ((i + 1 : Nat) : Int) := by unfold wrap64; omega
    simp only [varint_Unfixed.l0]
    rw [if_pos (by omega), if_pos (by omega), if_pos (by omega), ew, ei, if_pos (by omega)]
    have es : shl .u64 (IntKind.u64.wrap (rd l (i : Int))) ((8 * i : Nat) : Int) = IntKind.u64.wrap (IntKind.u64.wrap (rd l (i : Int)) * 2 ^ (8 * i)) := by
      unfold shl
      rw [Int.toNat_natCast, show min (8 * i) IntKind.u64.bits = 8 * i from Nat.min_eq_left (by show 8 * i ≤ 64; omega)]
    obtain ⟨e1, e2, e3⟩ := or_fix x (rd l (i : Int)) i h0 h1 hc.1 hc.2 (by omega)
    rw [es, e1, ih k (i + 1) _ (by omega) e3 e2 (by omega), rd_drop (l := l) (i := i) (by omega)]
    simp only [un]
    rw [if_neg (by omega), Int.add_assoc]

theorem unfixed_f (k : Nat) (l : List Int) (hb : Bytes l) (hk : 9 ≤ k) : varint_Unfixed.f k l = some (un l 0) := by
  obtain ⟨m, e, h1, h2, h3⟩ : ∃ m : Nat, mn (l.length : Int) 8 = (m : Int) ∧ m ≤ 8 ∧ m ≤ l.length ∧ (m = 8 ∨ m = l.length) := by
    unfold mn
    split
    · exact ⟨8, rfl, by omega, by omega, .inl rfl⟩
    · exact ⟨l.length, rfl, by omega, by omega, .inr rfl⟩
  have h := unfixed_l0 l hb m h1 h2 h3 m k 0 0 (by omega) (by omega) (by simp) (by omega)
  unfold varint_Unfixed.f
  rw [e]
  simpa using h

def ks (kind : Int) : Int := if kind = 1 then 8 else if kind = 5 then 4 else 0
theorem wkind_f (kind : Int) : wire_kind.f kind = some (ks kind, decide (okKind kind)) := by
  unfold wire_kind.f ks
  have e : decide (okKind kind) = decide (kind = 0 ∨ kind = 1 ∨ kind = 2 ∨ kind = 5) := decide_eq_decide.2 Iff.rfl
  rw [e]
  by_cases h1 : kind = 1
  · subst h1; rfl
  by_cases h5 : kind = 5
  · subst h5; rfl
  by_cases h0 : kind = 0
  · subst h0; rfl
  by_cases h2 : kind = 2
  · subst h2; rfl
  rw [if_neg h1, if_neg h5, if_neg h0, if_neg h2, if_neg h1, if_neg h5, decide_eq_false (by omega)]
theorem wtake_j0 (k : Nat) (l : List Int) (hb : Bytes l) (hl : l.length < 140737488355328) (m : Nat) (hm : m ≤ l.length) (num kind : Int) (_hkind : okKind kind) (hk : 12 ≤ k) :
    wire_Take.j0 (k + 1) l (m : Int) (ks kind) false num kind 0 = some (tkRest num kind (m : Int) (l.drop m)) := by
  have hbd := bytes_drop hb m
  have hld : (l.drop m).length = l.length - m := List.length_drop
  simp only [wire_Take.j0, Bool.false_eq_true, if_false, Int.toNat_natCast]
  rw [if_pos (by omega), if_pos (by omega)]
  simp only [Option.bind_some]
  unfold tkRest ks
  generalize hrest : l.drop m = rest at hbd hld ⊢
  by_cases h1 : kind = 1
  · rw [if_pos h1, if_pos h1, if_pos (by omega)]
    by_cases h8 : (rest.length : Int) < 8
    · rw [if_pos h8, if_pos h8]; rfl
    · rw [if_neg h8, if_neg h8, if_pos (by omega), if_pos (by omega), show (8 : Int).toNat = 8 from rfl, unfixed_f k _ (bytes_take hbd 8) (by omega), wrap64_in _ (by omega) (by omega)]
      rfl
  rw [if_neg h1, if_neg h1]
  by_cases h5 : kind = 5
  · rw [if_pos h5, if_pos h5, if_pos (by omega)]
    by_cases h8 : (rest.length : Int) < 4
    · rw [if_pos h8, if_pos h8]; rfl
    · rw [if_neg h8, if_neg h8, if_pos (by omega), if_pos (by omega), show (4 : Int).toNat = 4 from rfl, unfixed_f k _ (bytes_take hbd 4) (by omega), wrap64_in _ (by omega) (by omega)]
      rfl
  rw [if_neg h5, if_neg h5, if_neg (by omega), take_f k rest hbd (by omega)]
  cases e : tr rest 0 with
  | none => rfl
  | some v =>
    obtain ⟨v0, v1, v2, v3, v4⟩ := tr_64 hbd e
    rw [show told 0 (some v) = (v.1, (v.2 : Int), 0) from by rw [told, Int.zero_add], Option.bind_some]
    dsimp only
    rw [if_pos rfl]
    by_cases h0 : kind = 0
    · rw [if_pos h0, if_pos h0, wrap64_in _ (by omega) (by omega)]
    rw [if_neg h0, if_neg h0, wrap64_in ((rest.length : Int) - (v.2 : Int)) (by omega) (by omega), wrap_u64_in _ (by omega) (by omega)]
    by_cases h3 : (rest.length : Int) - (v.2 : Int) < v.1
    · rw [if_pos h3, if_pos h3]; rfl
    · rw [if_neg h3, if_neg h3, wrap64_in v.1 (by omega) (by omega), wrap64_in ((v.2 : Int) + v.1) (by omega) (by omega), if_pos (by omega), if_pos (by omega), if_pos (by omega)]
      unfold bytes_Clone.f
      simp only [Option.bind_some, List.nil_append, Int.toNat_natCast, List.length_nil]
      rw [if_pos (by rw [List.length_drop, List.length_take]; omega), wrap64_in ((m : Int) + (v.2 : Int)) (by omega) (by omega), wrap64_in ((m : Int) + (v.2 : Int) + v.1) (by omega) (by omega), List.drop_take, show ((v.2 : Int) + v.1).toNat - v.2 = v.1.toNat from by omega]
      simp only [Option.bind_some]
theorem wtake_f (k : Nat) (l : List Int) (hb : Bytes l) (hl : l.length < 140737488355328) (hk : 14 ≤ k) : wire_Take.f k l = some (tk l) := by
  obtain ⟨k, rfl⟩ : ∃ q, k = q + 1 := ⟨k - 1, by omega⟩
  unfold wire_Take.f tk
  rw [take_f (k + 1) l hb (by omega)]
  cases e : tr l 0 with
  | none =>
    simp only [Option.bind_some, told]
    rw [if_neg (by decide)]
    rfl
  | some v =>
    obtain ⟨v0, v1, v2, v3, v4⟩ := tr_64 hb e
    rw [show told 0 (some v) = (v.1, (v.2 : Int), 0) from by rw [told, Int.zero_add], Option.bind_some]
    dsimp only
    rw [if_pos rfl, and7 _ v0 v1, wrap64_in (v.1 % 8) (by omega) (by omega), wkind_f, wrap64_in (v.1 / 8) (by omega) (by omega)]
    simp only [Option.bind_some]
    have bad : ∀ a, wire_Take.j0 (k + 1) l (v.2 : Int) a true (v.1 / 8) (v.1 % 8) 0 = some (no 20) := fun a => by simp only [wire_Take.j0, if_true, no]
    by_cases h1 : 4294967296 ≤ v.1
    · rw [if_neg (by omega), bad, if_pos (.inl h1)]
    rw [if_pos (by omega)]
    by_cases h2 : v.1 < 8
    · rw [if_pos (by omega), bad, if_pos (.inr (.inl h2))]
    rw [if_neg (by omega)]
    by_cases h3 : okKind (v.1 % 8)
    · rw [decide_eq_true h3, Bool.not_true, wtake_j0 k l hb hl v.2 v3 _ _ h3 (by omega), if_neg (fun h => h.elim h1 (fun h => h.elim h2 (fun h => h h3)))]
    · rw [decide_eq_false h3, Bool.not_false, bad, if_pos (.inr (.inr h3))]

theorem rdl_rr {β : Type} (mk : Int → Int → Int → List Int → β) (tf : Nat → List Int → Option (Int × Int × Int × List Int × Int × Int)) (ht : ∀ k l, Bytes l → l.length < 140737488355328 → 36 ≤ k → tf k l = some (tk l)) (l : List Int) (hb : Bytes l) (hl : l.length < 1000000) (d : Nat) :
    ∀ (k i : Nat) (acc : List β), i ≤ l.length → l.length ≤ i + d → d + 40 ≤ k → acc.length ≤ i → In.rdl mk tf l k acc (i : Int) = some (rr mk l d i acc) := by
  induction d with
  | zero =>
    intro k i acc h1 h2 h3 h4
    obtain ⟨k, rfl⟩ : ∃ q, k = q + 1 := ⟨k - 1, by omega⟩
    simp only [In.rdl, rr]
    rw [if_neg (by omega)]
  | succ d ih =>
    intro k i acc h1 h2 h3 h4
    obtain ⟨k, rfl⟩ : ∃ q, k = q + 1 := ⟨k - 1, by omega⟩
    simp only [In.rdl, rr]
    by_cases h : i < l.length
    · rw [if_pos (by omega), if_pos (by omega), if_pos h, Int.toNat_natCast, ht k _ (bytes_drop hb i) (by rw [List.length_drop]; omega) (by omega)]
      simp only [Option.bind_some]
      by_cases he : (tk (l.drop i)).2.2.2.2.2 = 0
      · have hm := tk_ok (bytes_drop hb i) he
        rw [List.length_drop] at hm
        rw [if_pos he, if_pos he, if_pos (by omega), wrap64_in _ (by omega) (by omega), show (i : Int) + (tk (l.drop i)).2.2.2.2.1 = ((i + (tk (l.drop i)).2.2.2.2.1.toNat : Nat) : Int) from by omega]
        exact ih k _ _ (by omega) (by omega) (by omega) (by rw [List.length_append, List.length_singleton]; omega)
      · rw [if_neg he, if_neg he]
    · rw [if_neg (by omega), if_neg h]
theorem wread_f (k : Nat) (l : List Int) (hb : Bytes l) (hl : l.length < 1000000) (hk : l.length + 40 ≤ k) : wire_Read.f k l = some (rr (fun a b c d => (⟨a, b, c, d⟩ : S25)) l l.length 0 []) :=
  rdl_rr _ _ (fun k l hb hl hk => wtake_f k l hb hl (by omega)) l hb hl l.length k 0 [] (by omega) (by omega) (by omega) (by simp)

theorem rr_len {β : Type} (mk : Int → Int → Int → List Int → β) (l : List Int) (hb : Bytes l) (d : Nat) : ∀ (i : Nat) (acc : List β), acc.length ≤ i → i ≤ l.length → (rr mk l d i acc).1.length ≤ l.length := by
  induction d with
  | zero => intro i acc h h2; simp only [rr]; omega
  | succ d ih =>
    intro i acc h h2
    simp only [rr]
    by_cases h1 : i < l.length
    · rw [if_pos h1]
      by_cases he : (tk (l.drop i)).2.2.2.2.2 = 0
      · have hm := tk_ok (bytes_drop hb i) he
        rw [List.length_drop] at hm
        rw [if_pos he]
        exact ih _ _ (by rw [List.length_append, List.length_singleton]; omega) (by omega)
      · rw [if_neg he]; simp
    · rw [if_neg h1]
      show acc.length ≤ _
      omega

theorem same_l (x : List S25) (d : Nat) : ∀ (k i : Nat), i + d = x.length → d < k → x.length < 4611686018427387904 → glossarylaw02_same.l0 k x x (x.length : Int) (i : Int) = some true := by
  induction d with
  | zero =>
    intro k i h hk hx
    obtain ⟨k, rfl⟩ : ∃ q, k = q + 1 := ⟨k - 1, by omega⟩
    simp only [glossarylaw02_same.l0]
    rw [if_neg (by omega)]
  | succ d ih =>
    intro k i h hk hx
    obtain ⟨k, rfl⟩ : ∃ q, k = q + 1 := ⟨k - 1, by omega⟩
    simp only [glossarylaw02_same.l0]
    rw [if_pos (by omega), if_pos (by omega), if_pos (by omega), if_pos (by omega)]
    have e : glossaryref01_Same.f ((rd_T25 x (i : Int)).f0) ((rd_T25 x (i : Int)).f1) ((rd_T25 x (i : Int)).f2) ((rd_T25 x (i : Int)).f3) ((rd_T25 x (i : Int)).f0) ((rd_T25 x (i : Int)).f1) ((rd_T25 x (i : Int)).f2) ((rd_T25 x (i : Int)).f3) = some true := by
      unfold glossaryref01_Same.f
      simp
    rw [e]
    simp only [Option.bind_some, if_true]
    rw [wrap64_in _ (by omega) (by omega)]
    exact ih k (i + 1) (by omega) (by omega) hx
theorem same_f (k : Nat) (x : List S25) (hk : x.length < k) (hx : x.length < 4611686018427387904) : glossarylaw02_same.f k x x = some true := by
  unfold glossarylaw02_same.f
  rw [if_pos rfl]
  exact same_l x x.length k 0 (by omega) hk hx

end WireJoined
open WireJoined
theorem WireJoined : glossarylaw02_WireJoined.Pure := by
  intro a b _ _ ha' _ _ hb'
  have ha : Bytes a := bytes_of_wf ha'
  have hb : Bytes b := bytes_of_wf hb'
  refine ⟨1001, ?_⟩
  have bad : glossarylaw02_WireJoined.j0 1001 a b true = some true := by simp only [glossarylaw02_WireJoined.j0, if_true]
  unfold glossarylaw02_WireJoined.f
  rw [awake_f 1001 (by omega)]
  simp only [Option.bind_some, if_true]
  by_cases h1 : (a.length : Int) > 300
  · rw [if_pos h1, bad]
  rw [if_neg h1]
  by_cases h2 : (b.length : Int) > 300
  · rw [decide_eq_true h2, bad]
  rw [decide_eq_false h2]
  have hl : (a ++ b).length = a.length + b.length := List.length_append
  have hx := rr_len (fun a b c d => (⟨a, b, c, d⟩ : S25)) a ha a.length 0 [] (by simp) (by omega)
  have hy := rr_len (fun a b c d => (⟨a, b, c, d⟩ : S25)) b hb b.length 0 [] (by simp) (by omega)
  have hja := rr_joined (fun a b c d => (⟨a, b, c, d⟩ : S25)) a b ha hb
  have hba := rr_bad (fun a b c d => (⟨a, b, c, d⟩ : S25)) a a.length 0 []
  have hat := rr_at (fun a b c d => (⟨a, b, c, d⟩ : S25)) b b.length 0 []
  simp only [glossarylaw02_WireJoined.j0, Bool.false_eq_true, if_false]
  rw [wread_f 1000 a ha (by omega) (by omega), wread_f 1000 b hb (by omega) (by omega)]
  simp only [Option.bind_some, List.length_nil, List.nil_append]
  rw [if_pos (by omega), if_pos (by omega), wread_f 1000 (a ++ b) (bytes_append ha hb) (by omega) (by omega)]
  simp only [Option.bind_some]
  generalize rr (fun a b c d => (⟨a, b, c, d⟩ : S25)) a a.length 0 [] = x at hx hja hba ⊢
  generalize rr (fun a b c d => (⟨a, b, c, d⟩ : S25)) b b.length 0 [] = y at hy hja hat ⊢
  by_cases he : x.2.2 = 0
  · rw [hja he, if_pos he]
    by_cases hf : y.2.2 = 0
    · rw [if_pos hf, if_pos hf]
      dsimp only
      rw [if_pos rfl, if_pos (by omega), if_pos (by omega), same_f 1000 _ (by rw [List.length_append]; omega) (by rw [List.length_append]; omega)]
      rfl
    · rw [if_neg hf, if_neg hf]
      dsimp only
      rw [if_neg hf, if_pos (by omega)]
      rfl
  · rw [if_neg he, hba he]
    rfl
end Go.Proofs.Yteopaifokfmnjaa.Pure
