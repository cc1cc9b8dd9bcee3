/- Any fields, one behind the other, or refused: wire.Write answers what the document's answer does. -/
import Derived.Test.YteopaifokfmnjaaGWireWritesx0
import Derived.Test.YteopaifokfmnjaaGWireWritesx1
import Derived.Test.YteopaifokfmnjaaGWireWritesx2
import Derived.Test.YteopaifokfmnjaaGWireWritesx3
import Derived.Test.YteopaifokfmnjaaRdWireWrites
import Derived.Test.YteopaifokfmnjaaVb
import Derived.Test.YteopaifokfmnjaaFx
import Derived.Test.YteopaifokfmnjaaWr
import Derived.Test.YteopaifokfmnjaaPt
namespace Go.Proofs.Yteopaifokfmnjaa.Pure
open Go.RowKit Go.Proofs.Yteopaifokfmnjaa.GWireWrites Go.Proofs.YteopaifokfmnjaaW.PrintWords Go.Proofs.YteopaifokfmnjaaW.PrintLast Go.Proofs.YteopaifokfmnjaaW.PrintMore Go.Proofs.Yteopaifokfmnjaa.Vb Go.Proofs.Yteopaifokfmnjaa.Fx Go.Proofs.Yteopaifokfmnjaa.Wr Go.Proofs.Yteopaifokfmnjaa.Pt
namespace WireWrites
theorem put_l0 (d : Nat) : ∀ (k : Nat) (x : Int) (acc : List Int), 0 ≤ x → (vb x.toNat).length ≤ d + 1 → d < k → acc.length + d < 140737488355328 →
    varint_Put.l0 k x acc = some (acc ++ vb x.toNat) := by
  induction d with
  | zero =>
    intro k x acc h0 hl hk ha
    obtain ⟨k, rfl⟩ : ∃ m, k = m + 1 := ⟨k - 1, by omega⟩
    have hx : x < 128 := by
      rcases Int.lt_or_le x 128 with h | h
      · exact h
      · rw [vb_large (by omega)] at hl
        have := vb_pos (x.toNat / 128)
        simp only [List.length_cons] at hl
        omega
    simp only [varint_Put.l0]
    rw [if_pos (by omega), if_pos hx, vb_small (by omega)]
    congr 3
    omega
  | succ d ih =>
    intro k x acc h0 hl hk ha
    obtain ⟨k, rfl⟩ : ∃ m, k = m + 1 := ⟨k - 1, by omega⟩
    simp only [varint_Put.l0]
    rw [if_pos (by omega)]
    rcases Int.lt_or_le x 128 with hx | hx
    · rw [if_pos hx, vb_small (by omega)]
      congr 3
      omega
    · rw [if_neg (by omega)]
      have hv := vb_large (n := x.toNat) (by omega)
      have e : (x / 128).toNat = x.toNat / 128 := by omega
      rw [ih k (x / 128) _ (by omega) (by rw [hv] at hl; rw [e]; simpa using hl) (by omega) (by simp only [List.length_append, List.length_cons, List.length_nil]; omega), e, hv, or128 x h0]
      simp

theorem put_f (k : Nat) (x : Int) (h0 : 0 ≤ x) (h1 : x < 18446744073709551616) (hk : 10 ≤ k) : varint_Put.f k x = some (vb x.toNat) := by
  have := vb_ten x.toNat (by omega)
  have h := put_l0 9 k x [] h0 (by omega) (by omega) (by simp)
  simpa [varint_Put.f] using h

theorem fixed_l0 (n : Int) (m : Nat) (hm : m ≤ 8) (d : Nat) : ∀ (k i : Nat), i + d = m → d < k →
    varint_Fixed.l0 k n (fx n i ++ List.replicate (m - i) 0) (m : Int) (i : Int) = some (fx n m) := by
  induction d with
  | zero =>
    intro k i hd hk
    obtain ⟨k, rfl⟩ : ∃ q, k = q + 1 := ⟨k - 1, by omega⟩
    obtain rfl : i = m := by omega
    simp only [varint_Fixed.l0]
    rw [if_neg (by omega), Nat.sub_self]
    simp
  | succ d ih =>
    intro k i hd hk
    obtain ⟨k, rfl⟩ : ∃ q, k = q + 1 := ⟨k - 1, by omega⟩
    have hl : (fx n i ++ List.replicate (m - i) 0).length = m := by rw [List.length_append, fx_length, List.length_replicate]; omega
    have ew : wrap64 (8 * (i : Int)) = ((8 * i : Nat) : Int) := by unfold wrap64; omega
    have ei : wrap64 ((i : Int) + 1) = ((i + 1 : Nat) : Int) := by unfold wrap64; omega
    simp only [varint_Fixed.l0]
    rw [if_pos (by omega), ew, ei, if_pos (by omega), if_pos (by omega), if_pos (by omega)]
    have es : shr .u64 n ((8 * i : Nat) : Int) % 256 = fxb n i := by
      unfold shr fxb
      rw [Int.toNat_natCast, show min (8 * i) IntKind.u64.bits = 8 * i from Nat.min_eq_left (by show 8 * i ≤ 64; omega)]
    rw [es, Int.toNat_natCast, fx_set n m i (by omega)]
    exact ih k (i + 1) (by omega) (by omega)

theorem fixed_f (k : Nat) (n s : Int) (hk : 9 ≤ k) : varint_Fixed.f k n s = some (fx n (mn (mx s 0) 8).toNat) := by
  have hb : 0 ≤ mn (mx s 0) 8 ∧ mn (mx s 0) 8 ≤ 8 := by unfold mn mx; split <;> split <;> omega
  unfold varint_Fixed.f
  rw [if_pos hb.1, if_pos (by omega)]
  simp only [Option.bind_some]
  have h := fixed_l0 n (mn (mx s 0) 8).toNat (by omega) (mn (mx s 0) 8).toNat k 0 (by omega) (by omega)
  rw [List.length_replicate]
  simpa [fx] using h

theorem rvarint_l0 (d : Nat) : ∀ (k : Nat) (x : Int) (acc : List Int), 0 ≤ x → x < 18446744073709551616 → (vb x.toNat).length ≤ d + 1 → d < k → acc.length + d < 140737488355328 →
    glossaryref01_Varint.l0 k x acc = some (acc ++ vb x.toNat) := by
  induction d with
  | zero =>
    intro k x acc h0 h1 hl hk ha
    obtain ⟨k, rfl⟩ : ∃ m, k = m + 1 := ⟨k - 1, by omega⟩
    have hx : x < 128 := by
      rcases Int.lt_or_le x 128 with h | h
      · exact h
      · rw [vb_large (by omega)] at hl
        have := vb_pos (x.toNat / 128)
        simp only [List.length_cons] at hl
        omega
    simp only [glossaryref01_Varint.l0]
    rw [if_neg (by omega), if_pos (by omega), vb_small (by omega)]
    congr 3
    omega
  | succ d ih =>
    intro k x acc h0 h1 hl hk ha
    obtain ⟨k, rfl⟩ : ∃ m, k = m + 1 := ⟨k - 1, by omega⟩
    simp only [glossaryref01_Varint.l0]
    rcases Int.lt_or_le x 128 with hx | hx
    · rw [if_neg (by omega), if_pos (by omega), vb_small (by omega)]
      congr 3
      omega
    · rw [if_pos (by omega), if_pos (by omega)]
      have hv := vb_large (n := x.toNat) (by omega)
      have e1 : IntKind.u64.wrap (Int.tdiv x 128) = x / 128 := by
        rw [Int.tdiv_eq_ediv_of_nonneg h0]
        simp only [IntKind.wrap, IntKind.bits, IntKind.signed, Bool.false_and, Bool.false_eq_true, if_false]
        exact Int.emod_eq_of_lt (by omega) (by omega)
      have e2 : (Int.tmod x 128 + 128) % 256 = ((x.toNat % 128 + 128 : Nat) : Int) := by
        rw [Int.tmod_eq_emod_of_nonneg h0]
        omega
      have e : (x / 128).toNat = x.toNat / 128 := by omega
      rw [e1, e2, ih k (x / 128) _ (by omega) (by omega) (by rw [hv] at hl; rw [e]; simpa using hl) (by omega) (by simp only [List.length_append, List.length_cons, List.length_nil]; omega), e, hv]
      simp

theorem rvarint_f (k : Nat) (x : Int) (h0 : 0 ≤ x) (h1 : x < 18446744073709551616) (hk : 10 ≤ k) : glossaryref01_Varint.f k x = some (vb x.toNat) := by
  have := vb_ten x.toNat (by omega)
  have h := rvarint_l0 9 k x [] h0 h1 (by omega) (by omega) (by simp)
  simpa [glossaryref01_Varint.f] using h

theorem rfixed_l0 (n s : Int) (d : Nat) : ∀ (k i : Nat), i + d = (mn (mx s 0) 8).toNat → d < k →
    glossaryref01_Fixed.l0 k n s (fx n i) (i : Int) = some (fx n (mn (mx s 0) 8).toNat) := by
  have hb : 0 ≤ mn (mx s 0) 8 ∧ mn (mx s 0) 8 ≤ 8 := by unfold mn mx; split <;> split <;> omega
  have hs : ∀ i : Nat, i < (mn (mx s 0) 8).toNat ↔ ((i : Int) < s ∧ i < 8) := by unfold mn mx; intro i; split <;> split <;> omega
  induction d with
  | zero =>
    intro k i hd hk
    obtain ⟨k, rfl⟩ : ∃ q, k = q + 1 := ⟨k - 1, by omega⟩
    obtain rfl : i = (mn (mx s 0) 8).toNat := by omega
    have h := hs (mn (mx s 0) 8).toNat
    simp only [glossaryref01_Fixed.l0]
    by_cases h1 : (((mn (mx s 0) 8).toNat : Nat) : Int) < s
    · rw [if_pos h1, if_neg (by omega)]
    · rw [if_neg h1]
  | succ d ih =>
    intro k i hd hk
    obtain ⟨k, rfl⟩ : ∃ q, k = q + 1 := ⟨k - 1, by omega⟩
    have h := hs i
    have ew : wrap64 (8 * (i : Int)) = ((8 * i : Nat) : Int) := by unfold wrap64; omega
    have ei : wrap64 ((i : Int) + 1) = ((i + 1 : Nat) : Int) := by unfold wrap64; omega
    simp only [glossaryref01_Fixed.l0]
    rw [if_pos (by omega), if_pos (by omega), ew, ei, wrap_u64_in ((8 * i : Nat) : Int) (by omega) (by omega), if_pos (by omega), if_pos (by rw [fx_length]; omega)]
    have es : shr .u64 n ((8 * i : Nat) : Int) % 256 = fxb n i := by
      unfold shr fxb
      rw [Int.toNat_natCast, show min (8 * i) IntKind.u64.bits = 8 * i from Nat.min_eq_left (by show 8 * i ≤ 64; omega)]
    rw [es, ← fx_succ]
    exact ih k (i + 1) (by omega) (by omega)

theorem rfixed_f (k : Nat) (n s : Int) (hk : 9 ≤ k) : glossaryref01_Fixed.f k n s = some (fx n (mn (mx s 0) 8).toNat) := by
  have hb : 0 ≤ mn (mx s 0) 8 ∧ mn (mx s 0) 8 ≤ 8 := by unfold mn mx; split <;> split <;> omega
  have h := rfixed_l0 n s (mn (mx s 0) 8).toNat k 0 (by omega) (by omega)
  simpa [glossaryref01_Fixed.f, fx] using h

theorem put_wire (k : Nat) (num kind n : Int) (b : List Int) (m0 : -9223372036854775808 ≤ num) (m1 : num < 9223372036854775808) (n0 : 0 ≤ n) (n1 : n < 18446744073709551616) (hb : b.length ≤ 140737488351232) (hk : 11 ≤ k) :
    wire_Put.f k num kind n b = some (pt num kind n b) := by
  obtain ⟨k, rfl⟩ : ∃ q, k = q + 1 := ⟨k - 1, by omega⟩
  have hj : ∀ x4 : Int, wire_Put.j0 (k + 1) x4 true num kind n b = some ([], 20) := fun x4 => by simp only [wire_Put.j0]; rfl
  have hv := vb_ten n.toNat (by omega)
  have hvb := vb_ten b.length (by omega)
  unfold wire_Put.f
  by_cases hkd : okKind kind
  · by_cases hn : 1 ≤ num ∧ num ≤ 536870911
    · have hok : okField num kind := ⟨hn.1, hn.2, hkd⟩
      have ht : ∀ x4 : Int, (kind = 1 → x4 = 8) → (kind = 5 → x4 = 4) → (kind = 0 → x4 = 0) → (kind = 2 → x4 = 0) → wire_Put.j0 (k + 1) x4 false num kind n b = some (pt num kind n b) := by
        intro x4 h1 h5 h0 h2
        have kb : 0 ≤ kind ∧ kind < 8 := by unfold okKind at hkd; omega
        have hT := vb_ten (8 * num + kind).toNat (by omega)
        simp only [wire_Put.j0]
        rw [if_neg (by decide), or8 num kind (by omega) hn.2 kb.1 kb.2, put_f k _ (by omega) (by omega) (by omega)]
        simp only [Option.bind_some, pt, if_pos hok, field, worth]
        rcases hkd with rfl | rfl | rfl | rfl
        · rw [h0 rfl, if_neg (by omega), if_pos rfl, if_pos rfl, put_f k n n0 n1 (by omega)]
          simp only [Option.bind_some]
          rw [if_pos (by omega)]
        · rw [h1 rfl, if_pos (by omega), if_neg (by omega), if_pos rfl, fixed_f k n 8 (by omega)]
          simp only [Option.bind_some]
          rw [show (mn (mx 8 0) 8).toNat = 8 from by decide, if_pos (by rw [fx_length]; omega)]
        · rw [h2 rfl, if_neg (by omega), if_neg (by omega), if_neg (by omega), if_neg (by omega), if_neg (by omega), wrap_u64_in _ (by omega) (by omega), put_f k _ (by omega) (by omega) (by omega)]
          simp only [Option.bind_some, Int.toNat_natCast]
          rw [if_pos (by omega)]
          rw [if_pos (by rw [List.length_append]; omega), List.append_assoc]
        · rw [h5 rfl, if_pos (by omega), if_neg (by omega), if_neg (by omega), if_pos rfl, fixed_f k n 4 (by omega)]
          simp only [Option.bind_some]
          rw [show (mn (mx 4 0) 8).toNat = 4 from by decide, if_pos (by rw [fx_length]; omega)]
      unfold wire_kind.f
      rcases hkd with rfl | rfl | rfl | rfl
      all_goals
        simp only [if_true, if_false, Option.bind_some, Int.reduceEq]
        rw [if_neg (show ¬ num < 1 by omega), show decide (num > 536870911) = false from decide_eq_false (by omega)]
        exact ht _ (by simp) (by simp) (by simp) (by simp)
    · have hno : ¬ okField num kind := fun h => hn ⟨h.1, h.2.1⟩
      have hp : pt num kind n b = ([], 20) := by unfold pt; rw [if_neg hno]
      rw [hp]
      have hx : ∀ x4 : Int, (if num < 1 then wire_Put.j0 (k + 1) x4 true num kind n b else wire_Put.j0 (k + 1) x4 (decide (num > 536870911)) num kind n b) = some ([], 20) := by
        intro x4
        by_cases h1 : num < 1
        · rw [if_pos h1]; exact hj x4
        · rw [if_neg h1, show decide (num > 536870911) = true from decide_eq_true (by omega)]; exact hj x4
      unfold wire_kind.f
      rcases hkd with rfl | rfl | rfl | rfl
      all_goals
        simp only [if_true, if_false, Option.bind_some, Int.reduceEq]
        exact hx _
  · have hno : ¬ okField num kind := fun h => hkd h.2.2
    have hp : pt num kind n b = ([], 20) := by unfold pt; rw [if_neg hno]
    unfold okKind at hkd
    unfold wire_kind.f
    rw [hp, if_neg (by omega), if_neg (by omega), if_neg (by omega), if_neg (by omega)]
    simp only [Option.bind_some]
    rw [if_neg (by decide)]
    exact hj _

theorem rput_wire (k : Nat) (num kind n : Int) (b : List Int) (m0 : -9223372036854775808 ≤ num) (m1 : num < 9223372036854775808) (n0 : 0 ≤ n) (n1 : n < 18446744073709551616) (hb : b.length ≤ 140737488351232) (hk : 11 ≤ k) :
    glossaryref01_Put.f k num kind n b = some (pt num kind n b) := by
  obtain ⟨k, rfl⟩ : ∃ q, k = q + 1 := ⟨k - 1, by omega⟩
  have hj : glossaryref01_Put.j0 (k + 1) true num kind n b = some ([], 20) := by simp only [glossaryref01_Put.j0]; rfl
  have hv := vb_ten n.toNat (by omega)
  have hvb := vb_ten b.length (by omega)
  unfold glossaryref01_Put.f
  by_cases hn : 1 ≤ num ∧ num ≤ 536870911
  · rw [if_neg (by omega), if_neg (by omega)]
    by_cases hkd : okKind kind
    · have hok : okField num kind := ⟨hn.1, hn.2, hkd⟩
      have kb : 0 ≤ kind ∧ kind < 8 := by unfold okKind at hkd; omega
      have hT := vb_ten (8 * num + kind).toNat (by omega)
      have hkf : glossaryref01_kind.f kind = some true := by
        unfold glossaryref01_kind.f
        rcases hkd with rfl | rfl | rfl | rfl <;> rfl
      rw [hkf]
      simp only [Option.bind_some, Bool.not_true, glossaryref01_Put.j0]
      have ew : IntKind.u64.wrap (wrap64 (wrap64 (8 * num) + kind)) = 8 * num + kind := by
        rw [show wrap64 (8 * num) = 8 * num from by unfold wrap64; omega, show wrap64 (8 * num + kind) = 8 * num + kind from by unfold wrap64; omega, wrap_u64_in _ (by omega) (by omega)]
      rw [if_neg (by decide), ew, rvarint_f k _ (by omega) (by omega) (by omega)]
      simp only [Option.bind_some, pt, if_pos hok, field, worth]
      rcases hkd with rfl | rfl | rfl | rfl
      · rw [if_pos rfl, if_pos rfl, rvarint_f k n n0 n1 (by omega)]
        simp only [Option.bind_some]
        rw [if_pos (by omega)]
      · rw [if_neg (by omega), if_pos rfl, if_neg (by omega), if_pos rfl, rfixed_f k n 8 (by omega)]
        simp only [Option.bind_some]
        rw [show (mn (mx 8 0) 8).toNat = 8 from by decide, if_pos (by rw [fx_length]; omega)]
      · rw [if_neg (by omega), if_neg (by omega), if_neg (by omega), if_pos rfl, if_neg (by omega), if_neg (by omega), if_neg (by omega), wrap_u64_in _ (by omega) (by omega), rvarint_f k _ (by omega) (by omega) (by omega)]
        simp only [Option.bind_some, Int.toNat_natCast]
        rw [if_pos (by omega)]
        rw [if_pos (by rw [List.length_append]; omega), List.append_assoc]
      · rw [if_neg (by omega), if_neg (by omega), if_pos rfl, if_neg (by omega), if_neg (by omega), if_pos rfl, rfixed_f k n 4 (by omega)]
        simp only [Option.bind_some]
        rw [show (mn (mx 4 0) 8).toNat = 4 from by decide, if_pos (by rw [fx_length]; omega)]
    · have hno : ¬ okField num kind := fun h => hkd h.2.2
      have hkf : glossaryref01_kind.f kind = some false := by
        unfold okKind at hkd
        unfold glossaryref01_kind.f
        rw [if_neg (by omega), if_neg (by omega), if_neg (by omega), beq_eq_false_iff_ne.2 (by omega)]
      rw [hkf]
      simp only [Option.bind_some, Bool.not_false, pt]
      rw [if_neg hno]
      exact hj
  · have hno : ¬ okField num kind := fun h => hn ⟨h.1, h.2.1⟩
    unfold pt
    rw [if_neg hno]
    by_cases h1 : num < 1
    · rw [if_pos h1]; exact hj
    · rw [if_neg h1, if_pos (by omega)]; exact hj

theorem awake_f (k : Nat) (hk : 11 ≤ k) : glossarylaw02_awake.f k = some true := by
  unfold glossarylaw02_awake.f
  rw [put_wire k 1 0 150 [] (by omega) (by omega) (by omega) (by omega) (by simp) hk]
  have e1 : pt 1 0 150 [] = ([8, 150, 1], 0) := by
    unfold pt
    rw [if_pos (by decide)]
    unfold field worth
    rw [if_pos rfl, show (8 * 1 + 0 : Int).toNat = 8 from rfl, show (150 : Int).toNat = 150 from rfl, vb_small (by omega), vb_large (by omega), vb_small (by omega)]
    rfl
  rw [e1]
  simp only [Option.bind_some, if_true]
  decide +kernel

theorem few_l0 (l : List S25) (hl : l.length ≤ 30) (d : Nat) : ∀ (k i : Nat), i + d = l.length → d < k →
    ∃ b, glossarylaw02_few.l0 k l (l.length : Int) (i : Int) = some b ∧ (b = true → ∀ x ∈ l.drop i, x.f3.length ≤ 200) := by
  induction d with
  | zero =>
    intro k i hd hk
    obtain ⟨k, rfl⟩ : ∃ q, k = q + 1 := ⟨k - 1, by omega⟩
    refine ⟨true, ?_, fun _ x hx => ?_⟩
    · simp only [glossarylaw02_few.l0]
      rw [if_neg (by omega)]
    · rw [List.drop_of_length_le (by omega)] at hx; cases hx
  | succ d ih =>
    intro k i hd hk
    obtain ⟨k, rfl⟩ : ∃ q, k = q + 1 := ⟨k - 1, by omega⟩
    simp only [glossarylaw02_few.l0]
    rw [if_pos (by omega), if_pos (by omega), if_pos (by omega), show wrap64 ((i : Int) + 1) = ((i + 1 : Nat) : Int) from by unfold wrap64; omega]
    have hi : i < l.length := by omega
    have hr : rd_T25 l (i : Int) = l[i] := by simp [rd_T25, hi]
    by_cases h : ((rd_T25 l (i : Int)).f3.length : Int) > 200
    · rw [if_pos h]
      exact ⟨false, rfl, fun h => by cases h⟩
    · rw [if_neg h]
      obtain ⟨b, hb, hx⟩ := ih k (i + 1) (by omega) (by omega)
      refine ⟨b, hb, fun h1 x hm => ?_⟩
      rw [List.drop_eq_getElem_cons hi] at hm
      rcases List.mem_cons.1 hm with rfl | hm
      · rw [hr] at h; omega
      · exact hx h1 x hm
theorem few_f (k : Nat) (l : List S25) (hk : 31 ≤ k) : ∃ b, glossarylaw02_few.f k l = some b ∧ (b = true → l.length ≤ 30 ∧ ∀ x ∈ l, x.f3.length ≤ 200) := by
  unfold glossarylaw02_few.f
  by_cases h : (l.length : Int) > 30
  · rw [if_pos h]; exact ⟨false, rfl, fun h => by cases h⟩
  · rw [if_neg h]
    obtain ⟨b, hb, hx⟩ := few_l0 l (by omega) l.length k 0 (by omega) (by omega)
    exact ⟨b, hb, fun h1 => ⟨by omega, by simpa using hx h1⟩⟩

/-- Bytes ahead of what was answered, or its refusal. -/
def after (acc : List Int) (p : List Int × Int) : List Int × Int := if p.2 = 0 then (acc ++ p.1, 0) else ([], 20)
/-- Fields one behind the other, or the first one's refusal. -/
def wrs : List S25 → List Int × Int
  | [] => ([], 0)
  | r :: l => if okField r.f0 r.f1 then after (field r.f0 r.f1 r.f2 r.f3) (wrs l) else ([], 20)
theorem wrs_ok {r : S25} (l : List S25) (h : okField r.f0 r.f1) : wrs (r :: l) = after (field r.f0 r.f1 r.f2 r.f3) (wrs l) := by simp only [wrs]; rw [if_pos h]
theorem wrs_no {r : S25} (l : List S25) (h : ¬ okField r.f0 r.f1) : wrs (r :: l) = ([], 20) := by simp only [wrs]; rw [if_neg h]
theorem after_two (acc : List Int) (p : List Int × Int) : (after acc p).2 = 0 ∨ after acc p = ([], 20) := by
  unfold after
  split
  · exact .inl rfl
  · exact .inr rfl
theorem after_after (a b : List Int) (p : List Int × Int) : after a (after b p) = after (a ++ b) p := by
  unfold after
  by_cases h : p.2 = 0
  · rw [if_pos h, if_pos h, if_pos rfl, List.append_assoc]
  · rw [if_neg h, if_neg h, if_neg (by decide)]
theorem wrs_two (l : List S25) : (wrs l).2 = 0 ∨ wrs l = ([], 20) := by
  cases l with
  | nil => exact .inl rfl
  | cons r l =>
    by_cases h : okField r.f0 r.f1
    · rw [wrs_ok l h]; exact after_two _ _
    · rw [wrs_no l h]; exact .inr rfl
theorem after_nil (l : List S25) : after [] (wrs l) = wrs l := by
  rcases wrs_two l with h | h
  · unfold after; rw [if_pos h, List.nil_append, ← h]
  · rw [h]; rfl
def goodF (r : S25) : Prop := (-9223372036854775808 ≤ r.f0 ∧ r.f0 < 9223372036854775808) ∧ (0 ≤ r.f2 ∧ r.f2 < 18446744073709551616) ∧ r.f3.length ≤ 200
theorem goodF_len {r : S25} (h : goodF r) (h1 : okField r.f0 r.f1) : (field r.f0 r.f1 r.f2 r.f3).length ≤ 220 := by
  have h2 := field_length r.f0 r.f1 r.f2 r.f3 h1 h.2.1.1 h.2.1.2 (by have := h.2.2; omega)
  have := h.2.2
  omega

theorem wire_Write_l0 (l : List S25) (hl : l.length ≤ 30) (hg : ∀ r ∈ l, goodF r) (d : Nat) : ∀ (k i : Nat) (acc : List Int), i + d = l.length → acc.length ≤ 220 * i → d + 11 < k →
    wire_Write.l0 k acc l (l.length : Int) (i : Int) = some (after acc (wrs (l.drop i))) := by
  induction d with
  | zero =>
    intro k i acc hd ha hk
    obtain ⟨k, rfl⟩ : ∃ q, k = q + 1 := ⟨k - 1, by omega⟩
    simp only [wire_Write.l0]
    rw [if_neg (by omega), List.drop_of_length_le (by omega)]
    simp [wrs, after]
  | succ d ih =>
    intro k i acc hd ha hk
    obtain ⟨k, rfl⟩ : ∃ q, k = q + 1 := ⟨k - 1, by omega⟩
    have hi : i < l.length := by omega
    have hr : rd_T25 l (i : Int) = l[i] := by simp [rd_T25, hi]
    have hgi := hg _ (List.getElem_mem hi)
    have hlen := goodF_len hgi
    simp only [wire_Write.l0]
    rw [if_pos (by omega), if_pos (by omega), if_pos (by omega), hr, put_wire k _ _ _ _ hgi.1.1 hgi.1.2 hgi.2.1.1 hgi.2.1.2 (by have := hgi.2.2; omega) (by omega)]
    simp only [Option.bind_some]
    rw [List.drop_eq_getElem_cons hi]
    unfold pt
    by_cases hok : okField l[i].f0 l[i].f1
    · have h220 := hlen hok
      rw [if_pos hok, wrs_ok _ hok, if_pos rfl, if_pos (by show acc.length + (field l[i].f0 l[i].f1 l[i].f2 l[i].f3).length < _; omega), show wrap64 ((i : Int) + 1) = ((i + 1 : Nat) : Int) from by unfold wrap64; omega, ih k (i + 1) _ (by omega) (by rw [List.length_append]; show _ + (field l[i].f0 l[i].f1 l[i].f2 l[i].f3).length ≤ _; omega) (by omega), after_after]
    · rw [if_neg hok, wrs_no _ hok, if_neg (by decide)]
      rfl
theorem wire_Write_f (k : Nat) (l : List S25) (hl : l.length ≤ 30) (hg : ∀ r ∈ l, goodF r) (hk : 50 ≤ k) : wire_Write.f k l = some (wrs l) := by
  have h := wire_Write_l0 l hl hg l.length k 0 [] (by omega) (by simp) (by omega)
  rw [List.drop_zero, after_nil] at h
  exact h

theorem glossaryref01_Write_l0 (l : List S25) (hl : l.length ≤ 30) (hg : ∀ r ∈ l, goodF r) (d : Nat) : ∀ (k i : Nat) (acc : List Int), i + d = l.length → acc.length ≤ 220 * i → d + 11 < k →
    glossaryref01_Write.l0 k acc l (l.length : Int) (i : Int) = some (after acc (wrs (l.drop i))) := by
  induction d with
  | zero =>
    intro k i acc hd ha hk
    obtain ⟨k, rfl⟩ : ∃ q, k = q + 1 := ⟨k - 1, by omega⟩
    simp only [glossaryref01_Write.l0]
    rw [if_neg (by omega), List.drop_of_length_le (by omega)]
    simp [wrs, after]
  | succ d ih =>
    intro k i acc hd ha hk
    obtain ⟨k, rfl⟩ : ∃ q, k = q + 1 := ⟨k - 1, by omega⟩
    have hi : i < l.length := by omega
    have hr : rd_T25 l (i : Int) = l[i] := by simp [rd_T25, hi]
    have hgi := hg _ (List.getElem_mem hi)
    have hlen := goodF_len hgi
    simp only [glossaryref01_Write.l0]
    rw [if_pos (by omega), if_pos (by omega), if_pos (by omega), hr, rput_wire k _ _ _ _ hgi.1.1 hgi.1.2 hgi.2.1.1 hgi.2.1.2 (by have := hgi.2.2; omega) (by omega)]
    simp only [Option.bind_some]
    rw [List.drop_eq_getElem_cons hi]
    unfold pt
    by_cases hok : okField l[i].f0 l[i].f1
    · have h220 := hlen hok
      rw [if_pos hok, wrs_ok _ hok, if_pos rfl, if_pos (by show acc.length + (field l[i].f0 l[i].f1 l[i].f2 l[i].f3).length < _; omega), show wrap64 ((i : Int) + 1) = ((i + 1 : Nat) : Int) from by unfold wrap64; omega, ih k (i + 1) _ (by omega) (by rw [List.length_append]; show _ + (field l[i].f0 l[i].f1 l[i].f2 l[i].f3).length ≤ _; omega) (by omega), after_after]
    · rw [if_neg hok, wrs_no _ hok, if_neg (by decide)]
      rfl
theorem glossaryref01_Write_f (k : Nat) (l : List S25) (hl : l.length ≤ 30) (hg : ∀ r ∈ l, goodF r) (hk : 50 ≤ k) : glossaryref01_Write.f k l = some (wrs l) := by
  have h := glossaryref01_Write_l0 l hl hg l.length k 0 [] (by omega) (by simp) (by omega)
  rw [List.drop_zero, after_nil] at h
  exact h

end WireWrites
open WireWrites
theorem WireWrites : glossarylaw02_WireWrites.Pure := by
  rintro l ⟨-, g⟩ -
  obtain ⟨b, hb, hf⟩ := few_f 50 l (by omega)
  refine ⟨50, ?_⟩
  unfold glossarylaw02_WireWrites.f
  rw [awake_f 50 (by omega), hb]
  simp only [Option.bind_some, if_true]
  cases b with
  | false => rfl
  | true =>
    obtain ⟨h1, h2⟩ := hf rfl
    have hg : ∀ r ∈ l, goodF r := fun r hr => by
      obtain ⟨g0, -, g2, -⟩ := g r hr
      exact ⟨wf_i64 g0, wf_u64 g2, h2 r hr⟩
    rw [wire_Write_f 50 l h1 hg (by omega), glossaryref01_Write_f 50 l h1 hg (by omega)]
    simp
end Go.Proofs.Yteopaifokfmnjaa.Pure
