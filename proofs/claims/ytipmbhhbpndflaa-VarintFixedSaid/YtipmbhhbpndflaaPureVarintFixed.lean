/- A number in so many bytes, and the number of bytes: both programs agree, and a number in eight bytes is read back. -/
import Derived.Test.YtipmbhhbpndflaaGVarintFixedx0
import Derived.Test.YtipmbhhbpndflaaGVarintFixedx1
import Derived.Test.YtipmbhhbpndflaaGVarintFixedx2
import Derived.Test.YtipmbhhbpndflaaVb
import Derived.Test.YtipmbhhbpndflaaFx
namespace Go.Proofs.Ytipmbhhbpndflaa.Pure
open Go.RowKit Go.Proofs.Ytipmbhhbpndflaa.GVarintFixed Go.Proofs.YtipmbhhbpndflaaW.PrintWords Go.Proofs.YtipmbhhbpndflaaW.PrintLast Go.Proofs.YtipmbhhbpndflaaW.PrintMore Go.Proofs.Ytipmbhhbpndflaa.Vb Go.Proofs.Ytipmbhhbpndflaa.Fx
namespace VarintFixed
theorem put_l0 (d : Nat) : ∀ (k : Nat) (x : Int) (acc : List Int), 0 ≤ x → (vb x.toNat).length ≤ d + 1 → d < k → acc.length + d < 140737488355328 →
    varint_Put.l0 k x acc = some (acc ++ vb x.toNat) := by
  induction d with
  | zero =>
    intro k x acc h0 hl hk ha
    obtain ⟨k, rfl⟩ : ∃ m, k = m + 1 := ⟨k - 1, by omega⟩
    have hx : x < 128 := by
      rcases Int.lt_or_le x 128 with h | h
      · exact h
      · rw [vb_large (by omega)] at hl
        have := vb_pos (x.toNat / 128)
        simp only [List.length_cons] at hl
        omega
    simp only [varint_Put.l0]
    rw [if_pos (by omega), if_pos hx, vb_small (by omega)]
    congr 3
    omega
  | succ d ih =>
    intro k x acc h0 hl hk ha
    obtain ⟨k, rfl⟩ : ∃ m, k = m + 1 := ⟨k - 1, by omega⟩
    simp only [varint_Put.l0]
    rw [if_pos (by omega)]
    rcases Int.lt_or_le x 128 with hx | hx
    · rw [if_pos hx, vb_small (by omega)]
      congr 3
      omega
    · rw [if_neg (by omega)]
      have hv := vb_large (n := x.toNat) (by omega)
      have e : (x / 128).toNat = x.toNat / 128 := by omega
      rw [ih k (x / 128) _ (by omega) (by rw [hv] at hl; rw [e]; simpa using hl) (by omega) (by simp only [List.length_append, List.length_cons, List.length_nil]; omega), e, hv, or128 x h0]
      simp

theorem put_f (k : Nat) (x : Int) (h0 : 0 ≤ x) (h1 : x < 18446744073709551616) (hk : 10 ≤ k) : varint_Put.f k x = some (vb x.toNat) := by
  have := vb_ten x.toNat (by omega)
  have h := put_l0 9 k x [] h0 (by omega) (by omega) (by simp)
  simpa [varint_Put.f] using h

theorem size_l0 (d : Nat) : ∀ (k : Nat) (x c : Int), 0 ≤ x → (vb x.toNat).length ≤ d + 1 → d < k → 0 ≤ c → c + d < 1000000 →
    varint_Size.l0 k x c = some (c + (vb x.toNat).length - 1) := by
  induction d with
  | zero =>
    intro k x c h0 hl hk hc hd
    obtain ⟨k, rfl⟩ : ∃ m, k = m + 1 := ⟨k - 1, by omega⟩
    have hx : x < 128 := by
      rcases Int.lt_or_le x 128 with h | h
      · exact h
      · rw [vb_large (by omega)] at hl
        have := vb_pos (x.toNat / 128)
        simp only [List.length_cons] at hl
        omega
    simp only [varint_Size.l0]
    rw [if_neg (by omega), vb_small (by omega)]
    simp only [List.length_cons, List.length_nil]
    congr 1
    omega
  | succ d ih =>
    intro k x c h0 hl hk hc hd
    obtain ⟨k, rfl⟩ : ∃ m, k = m + 1 := ⟨k - 1, by omega⟩
    simp only [varint_Size.l0]
    rcases Int.lt_or_le x 128 with hx | hx
    · rw [if_neg (by omega), vb_small (by omega)]
      simp only [List.length_cons, List.length_nil]
      congr 1
      omega
    · rw [if_pos (by omega)]
      have hv := vb_large (n := x.toNat) (by omega)
      have e : (x / 128).toNat = x.toNat / 128 := by omega
      have ew : wrap64 (c + 1) = c + 1 := by unfold wrap64; omega
      rw [ew, ih k (x / 128) (c + 1) (by omega) (by rw [hv] at hl; rw [e]; simpa using hl) (by omega) (by omega) (by omega), e, hv]
      simp only [List.length_cons]
      congr 1
      omega

theorem size_f (k : Nat) (x : Int) (h0 : 0 ≤ x) (h1 : x < 18446744073709551616) (hk : 10 ≤ k) : varint_Size.f k x = some ((vb x.toNat).length : Int) := by
  have := vb_ten x.toNat (by omega)
  have h := size_l0 9 k x 1 h0 (by omega) (by omega) (by omega) (by omega)
  rw [varint_Size.f, h]
  congr 1
  omega

theorem awake_f (k : Nat) (hk : 10 ≤ k) : glossarylaw01_awake.f k = some true := by
  have e1 : vb 300 = [172, 2] := by rw [vb_large (by omega), vb_small (by omega)]; rfl
  have e0 : vb 0 = [0] := by rw [vb_small (by omega)]; rfl
  have ez : varint_Zig.f (-1) = some 1 := by unfold varint_Zig.f; decide +kernel
  unfold glossarylaw01_awake.f
  rw [put_f k 300 (by omega) (by omega) hk, size_f k 0 (by omega) (by omega) hk, ez]
  simp only [Option.bind_some]
  rw [show (300 : Int).toNat = 300 from rfl, e1, show (0 : Int).toNat = 0 from rfl, e0]
  rfl

theorem fixed_l0 (n : Int) (m : Nat) (hm : m ≤ 8) (d : Nat) : ∀ (k i : Nat), i + d = m → d < k →
    varint_Fixed.l0 k n (fx n i ++ List.replicate (m - i) 0) (m : Int) (i : Int) = some (fx n m) := by
  induction d with
  | zero =>
    intro k i hd hk
    obtain ⟨k, rfl⟩ : ∃ q, k = q + 1 := ⟨k - 1, by omega⟩
    obtain rfl : i = m := by omega
    simp only [varint_Fixed.l0]
    rw [if_neg (by omega), Nat.sub_self]
    simp
  | succ d ih =>
    intro k i hd hk
    obtain ⟨k, rfl⟩ : ∃ q, k = q + 1 := ⟨k - 1, by omega⟩
    have hl : (fx n i ++ List.replicate (m - i) 0).length = m := by rw [List.length_append, fx_length, List.length_replicate]; omega
    have ew : wrap64 (8 * (i : Int)) = ((8 * i : Nat) : Int) := by unfold wrap64; omega
    have ei : wrap64 ((i : Int) + 1) = ((i + 1 : Nat) : Int) := by unfold wrap64; omega
    simp only [varint_Fixed.l0]
    rw [if_pos (by omega), ew, ei, if_pos (by omega), if_pos (by omega), if_pos (by omega)]
    have es : shr .u64 n ((8 * i : Nat) : Int) % 256 = fxb n i := by
      unfold shr fxb
      rw [Int.toNat_natCast, show min (8 * i) IntKind.u64.bits = 8 * i from Nat.min_eq_left (by show 8 * i ≤ 64; omega)]
    rw [es, Int.toNat_natCast, fx_set n m i (by omega)]
    exact ih k (i + 1) (by omega) (by omega)

theorem fixed_f (k : Nat) (n s : Int) (hk : 9 ≤ k) : varint_Fixed.f k n s = some (fx n (mn (mx s 0) 8).toNat) := by
  have hb : 0 ≤ mn (mx s 0) 8 ∧ mn (mx s 0) 8 ≤ 8 := by unfold mn mx; split <;> split <;> omega
  unfold varint_Fixed.f
  rw [if_pos hb.1, if_pos (by omega)]
  simp only [Option.bind_some]
  have h := fixed_l0 n (mn (mx s 0) 8).toNat (by omega) (mn (mx s 0) 8).toNat k 0 (by omega) (by omega)
  rw [List.length_replicate]
  simpa [fx] using h

theorem rfixed_l0 (n s : Int) (d : Nat) : ∀ (k i : Nat), i + d = (mn (mx s 0) 8).toNat → d < k →
    glossaryref01_Fixed.l0 k n s (fx n i) (i : Int) = some (fx n (mn (mx s 0) 8).toNat) := by
  have hb : 0 ≤ mn (mx s 0) 8 ∧ mn (mx s 0) 8 ≤ 8 := by unfold mn mx; split <;> split <;> omega
  have hs : ∀ i : Nat, i < (mn (mx s 0) 8).toNat ↔ ((i : Int) < s ∧ i < 8) := by unfold mn mx; intro i; split <;> split <;> omega
  induction d with
  | zero =>
    intro k i hd hk
    obtain ⟨k, rfl⟩ : ∃ q, k = q + 1 := ⟨k - 1, by omega⟩
    obtain rfl : i = (mn (mx s 0) 8).toNat := by omega
    have h := hs (mn (mx s 0) 8).toNat
    simp only [glossaryref01_Fixed.l0]
    by_cases h1 : (((mn (mx s 0) 8).toNat : Nat) : Int) < s
    · rw [if_pos h1, if_neg (by omega)]
    · rw [if_neg h1]
  | succ d ih =>
    intro k i hd hk
    obtain ⟨k, rfl⟩ : ∃ q, k = q + 1 := ⟨k - 1, by omega⟩
    have h := hs i
    have ew : wrap64 (8 * (i : Int)) = ((8 * i : Nat) : Int) := by unfold wrap64; omega
    have ei : wrap64 ((i : Int) + 1) = ((i + 1 : Nat) : Int) := by unfold wrap64; omega
    simp only [glossaryref01_Fixed.l0]
    rw [if_pos (by omega), if_pos (by omega), ew, ei, wrap_u64_in ((8 * i : Nat) : Int) (by omega) (by omega), if_pos (by omega), if_pos (by rw [fx_length]; omega)]
    have es : shr .u64 n ((8 * i : Nat) : Int) % 256 = fxb n i := by
      unfold shr fxb
      rw [Int.toNat_natCast, show min (8 * i) IntKind.u64.bits = 8 * i from Nat.min_eq_left (by show 8 * i ≤ 64; omega)]
    rw [es, ← fx_succ]
    exact ih k (i + 1) (by omega) (by omega)

theorem rfixed_f (k : Nat) (n s : Int) (hk : 9 ≤ k) : glossaryref01_Fixed.f k n s = some (fx n (mn (mx s 0) 8).toNat) := by
  have hb : 0 ≤ mn (mx s 0) 8 ∧ mn (mx s 0) 8 ≤ 8 := by unfold mn mx; split <;> split <;> omega
  have h := rfixed_l0 n s (mn (mx s 0) 8).toNat k 0 (by omega) (by omega)
  simpa [glossaryref01_Fixed.f, fx] using h

theorem unfixed_l0 (l : List Int) (hb : Bytes l) (m : Nat) (hm : m ≤ 8) (hl : m ≤ l.length) (h8 : m = 8 ∨ m = l.length) (d : Nat) : ∀ (k i : Nat) (x : Int), i + d = m → 0 ≤ x → x < 256 ^ i → d < k →
    varint_Unfixed.l0 k l x (m : Int) (i : Int) = some (x + un (l.drop i) i) := by
  induction d with
  | zero =>
    intro k i x hd h0 h1 hk
    obtain ⟨k, rfl⟩ : ∃ q, k = q + 1 := ⟨k - 1, by omega⟩
    obtain rfl : i = m := by omega
    simp only [varint_Unfixed.l0]
    rw [if_neg (by omega)]
    rcases h8 with h | h
    · rw [un_nine _ _ (by omega), Int.add_zero]
    · rw [List.drop_of_length_le (by omega)]
      simp [un]
  | succ d ih =>
    intro k i x hd h0 h1 hk
    obtain ⟨k, rfl⟩ : ∃ q, k = q + 1 := ⟨k - 1, by omega⟩
    have hc := hb.rd (i : Int)
    have ew : wrap64 (8 * (i : Int)) = ((8 * i : Nat) : Int) := by unfold wrap64; omega
    have ei : wrap64 ((i : Int) + 1) = ((i + 1 : Nat) : Int) := by unfold wrap64; omega
    simp only [varint_Unfixed.l0]
    rw [if_pos (by omega), if_pos (by omega), if_pos (by omega), ew, ei, if_pos (by omega)]
    have es : shl .u64 (IntKind.u64.wrap (rd l (i : Int))) ((8 * i : Nat) : Int) = IntKind.u64.wrap (IntKind.u64.wrap (rd l (i : Int)) * 2 ^ (8 * i)) := by
      unfold shl
      rw [Int.toNat_natCast, show min (8 * i) IntKind.u64.bits = 8 * i from Nat.min_eq_left (by show 8 * i ≤ 64; omega)]
    obtain ⟨e1, e2, e3⟩ := or_fix x (rd l (i : Int)) i h0 h1 hc.1 hc.2 (by omega)
    rw [es, e1, ih k (i + 1) _ (by omega) e3 e2 (by omega), rd_drop (l := l) (i := i) (by omega)]
    simp only [un]
    rw [if_neg (by omega), Int.add_assoc]

theorem unfixed_f (k : Nat) (l : List Int) (hb : Bytes l) (hk : 9 ≤ k) : varint_Unfixed.f k l = some (un l 0) := by
  obtain ⟨m, e, h1, h2, h3⟩ : ∃ m : Nat, mn (l.length : Int) 8 = (m : Int) ∧ m ≤ 8 ∧ m ≤ l.length ∧ (m = 8 ∨ m = l.length) := by
    unfold mn
    split
    · exact ⟨8, rfl, by omega, by omega, .inl rfl⟩
    · exact ⟨l.length, rfl, by omega, by omega, .inr rfl⟩
  have h := unfixed_l0 l hb m h1 h2 h3 m k 0 0 (by omega) (by omega) (by simp) (by omega)
  unfold varint_Unfixed.f
  rw [e]
  simpa using h

theorem runfixed_l0 (l : List Int) (hb : Bytes l) (d : Nat) : ∀ (k i : Nat) (x : Int), i + d = 8 → i ≤ l.length → 0 ≤ x → x < 256 ^ i → d < k →
    glossaryref01_Unfixed.l0 k l x (i : Int) = some (x + un (l.drop i) i) := by
  induction d with
  | zero =>
    intro k i x hd hi h0 h1 hk
    obtain ⟨k, rfl⟩ : ∃ q, k = q + 1 := ⟨k - 1, by omega⟩
    simp only [glossaryref01_Unfixed.l0]
    rw [un_nine _ _ (by omega), Int.add_zero]
    by_cases h : (i : Int) < (l.length : Int)
    · rw [if_pos h, if_neg (by omega)]
    · rw [if_neg h]
  | succ d ih =>
    intro k i x hd hi h0 h1 hk
    obtain ⟨k, rfl⟩ : ∃ q, k = q + 1 := ⟨k - 1, by omega⟩
    simp only [glossaryref01_Unfixed.l0]
    by_cases h : i < l.length
    · have hc := hb.rd (i : Int)
      have ew : wrap64 (8 * (i : Int)) = ((8 * i : Nat) : Int) := by unfold wrap64; omega
      have ei : wrap64 ((i : Int) + 1) = ((i + 1 : Nat) : Int) := by unfold wrap64; omega
      rw [if_pos (by omega), if_pos (by omega), if_pos (by omega), ew, ei, wrap_u64_in ((8 * i : Nat) : Int) (by omega) (by omega), if_pos (by omega)]
      have es : shl .u64 (IntKind.u64.wrap (rd l (i : Int))) ((8 * i : Nat) : Int) = IntKind.u64.wrap (IntKind.u64.wrap (rd l (i : Int)) * 2 ^ (8 * i)) := by
        unfold shl
        rw [Int.toNat_natCast, show min (8 * i) IntKind.u64.bits = 8 * i from Nat.min_eq_left (by show 8 * i ≤ 64; omega)]
      obtain ⟨e1, e2, e3⟩ := or_fix x (rd l (i : Int)) i h0 h1 hc.1 hc.2 (by omega)
      rw [es, e1, ih k (i + 1) _ (by omega) (by omega) e3 e2 (by omega), rd_drop (l := l) (i := i) (by omega)]
      simp only [un]
      rw [if_neg (by omega), Int.add_assoc]
    · rw [if_neg (by omega), List.drop_of_length_le (by omega)]
      simp [un]

theorem runfixed_f (k : Nat) (l : List Int) (hb : Bytes l) (hk : 9 ≤ k) : glossaryref01_Unfixed.f k l = some (un l 0) := by
  have h := runfixed_l0 l hb 8 k 0 0 (by omega) (by omega) (by omega) (by simp) (by omega)
  simpa [glossaryref01_Unfixed.f] using h

end VarintFixed
open VarintFixed
theorem VarintFixed : glossarylaw01_VarintFixed.Pure := by
  intro n s l hn hs hm hl hw
  obtain ⟨n0, n1⟩ := wf_u64 hn
  have hb := bytes_of_wf hw
  refine ⟨12, ?_⟩
  unfold glossarylaw01_VarintFixed.f
  rw [awake_f 12 (by omega)]
  simp only [Option.bind_some, if_true]
  by_cases h : (l.length : Int) > 500
  · rw [if_pos h]
  · rw [if_neg h, fixed_f 12 n s (by omega), rfixed_f 12 n s (by omega), unfixed_f 12 l hb (by omega), runfixed_f 12 l hb (by omega), fixed_f 12 n 8 (by omega)]
    simp only [Option.bind_some, if_true]
    rw [show (mn (mx 8 0) 8).toNat = 8 from by decide, unfixed_f 12 _ (fx_bytes n 8) (by omega), un_fx n n0 n1]
    simp
end Go.Proofs.Ytipmbhhbpndflaa.Pure
