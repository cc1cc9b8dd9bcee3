/- Numbers with a sign as numbers without, and back: both programs agree, and each is the other's inverse, for every number. -/
import Derived.Test.YtipmbhhbpndflaaGVarintZigsx0
import Derived.Test.YtipmbhhbpndflaaGVarintZigsx1
import Derived.Test.YtipmbhhbpndflaaVb
namespace Go.Proofs.Ytipmbhhbpndflaa.Pure
open Go.RowKit Go.Proofs.Ytipmbhhbpndflaa.GVarintZigs Go.Proofs.YtipmbhhbpndflaaW.PrintWords Go.Proofs.YtipmbhhbpndflaaW.PrintLast Go.Proofs.YtipmbhhbpndflaaW.PrintMore Go.Proofs.Ytipmbhhbpndflaa.Vb
namespace VarintZigs
theorem put_l0 (d : Nat) : ∀ (k : Nat) (x : Int) (acc : List Int), 0 ≤ x → (vb x.toNat).length ≤ d + 1 → d < k → acc.length + d < 140737488355328 →
    varint_Put.l0 k x acc = some (acc ++ vb x.toNat) := by
  induction d with
  | zero =>
    intro k x acc h0 hl hk ha
    obtain ⟨k, rfl⟩ : ∃ m, k = m + 1 := ⟨k - 1, by omega⟩
    have hx : x < 128 := by
      rcases Int.lt_or_le x 128 with h | h
      · exact h
      · rw [vb_large (by omega)] at hl
        have := vb_pos (x.toNat / 128)
        simp only [List.length_cons] at hl
        omega
    simp only [varint_Put.l0]
    rw [if_pos (by omega), if_pos hx, vb_small (by omega)]
    congr 3
    omega
  | succ d ih =>
    intro k x acc h0 hl hk ha
    obtain ⟨k, rfl⟩ : ∃ m, k = m + 1 := ⟨k - 1, by omega⟩
    simp only [varint_Put.l0]
    rw [if_pos (by omega)]
    rcases Int.lt_or_le x 128 with hx | hx
    · rw [if_pos hx, vb_small (by omega)]
      congr 3
      omega
    · rw [if_neg (by omega)]
      have hv := vb_large (n := x.toNat) (by omega)
      have e : (x / 128).toNat = x.toNat / 128 := by omega
      rw [ih k (x / 128) _ (by omega) (by rw [hv] at hl; rw [e]; simpa using hl) (by omega) (by simp only [List.length_append, List.length_cons, List.length_nil]; omega), e, hv, or128 x h0]
      simp

theorem put_f (k : Nat) (x : Int) (h0 : 0 ≤ x) (h1 : x < 18446744073709551616) (hk : 10 ≤ k) : varint_Put.f k x = some (vb x.toNat) := by
  have := vb_ten x.toNat (by omega)
  have h := put_l0 9 k x [] h0 (by omega) (by omega) (by simp)
  simpa [varint_Put.f] using h

theorem size_l0 (d : Nat) : ∀ (k : Nat) (x c : Int), 0 ≤ x → (vb x.toNat).length ≤ d + 1 → d < k → 0 ≤ c → c + d < 1000000 →
    varint_Size.l0 k x c = some (c + (vb x.toNat).length - 1) := by
  induction d with
  | zero =>
    intro k x c h0 hl hk hc hd
    obtain ⟨k, rfl⟩ : ∃ m, k = m + 1 := ⟨k - 1, by omega⟩
    have hx : x < 128 := by
      rcases Int.lt_or_le x 128 with h | h
      · exact h
      · rw [vb_large (by omega)] at hl
        have := vb_pos (x.toNat / 128)
        simp only [List.length_cons] at hl
        omega
    simp only [varint_Size.l0]
    rw [if_neg (by omega), vb_small (by omega)]
    simp only [List.length_cons, List.length_nil]
    congr 1
    omega
  | succ d ih =>
    intro k x c h0 hl hk hc hd
    obtain ⟨k, rfl⟩ : ∃ m, k = m + 1 := ⟨k - 1, by omega⟩
    simp only [varint_Size.l0]
    rcases Int.lt_or_le x 128 with hx | hx
    · rw [if_neg (by omega), vb_small (by omega)]
      simp only [List.length_cons, List.length_nil]
      congr 1
      omega
    · rw [if_pos (by omega)]
      have hv := vb_large (n := x.toNat) (by omega)
      have e : (x / 128).toNat = x.toNat / 128 := by omega
      have ew : wrap64 (c + 1) = c + 1 := by unfold wrap64; omega
      rw [ew, ih k (x / 128) (c + 1) (by omega) (by rw [hv] at hl; rw [e]; simpa using hl) (by omega) (by omega) (by omega), e, hv]
      simp only [List.length_cons]
      congr 1
      omega

theorem size_f (k : Nat) (x : Int) (h0 : 0 ≤ x) (h1 : x < 18446744073709551616) (hk : 10 ≤ k) : varint_Size.f k x = some ((vb x.toNat).length : Int) := by
  have := vb_ten x.toNat (by omega)
  have h := size_l0 9 k x 1 h0 (by omega) (by omega) (by omega) (by omega)
  rw [varint_Size.f, h]
  congr 1
  omega

theorem awake_f (k : Nat) (hk : 10 ≤ k) : glossarylaw01_awake.f k = some true := by
  have e1 : vb 300 = [172, 2] := by rw [vb_large (by omega), vb_small (by omega)]; rfl
  have e0 : vb 0 = [0] := by rw [vb_small (by omega)]; rfl
  have ez : varint_Zig.f (-1) = some 1 := by unfold varint_Zig.f; decide +kernel
  unfold glossarylaw01_awake.f
  rw [put_f k 300 (by omega) (by omega) hk, size_f k 0 (by omega) (by omega) hk, ez]
  simp only [Option.bind_some]
  rw [show (300 : Int).toNat = 300 from rfl, e1, show (0 : Int).toNat = 0 from rfl, e0]
  rfl

end VarintZigs
open VarintZigs
theorem wf_i64 {a : Int} (h : (Lit.int .i64 a).wf = true) : -9223372036854775808 ≤ a ∧ a < 9223372036854775808 := by
  simp [Lit.wf, IntKind.min, IntKind.max, IntKind.signed, IntKind.bits] at h
  omega
theorem wrap_u64 (x : Int) : IntKind.u64.wrap x = x % 18446744073709551616 := by
  simp only [IntKind.wrap, IntKind.bits, IntKind.signed, Bool.false_and, Bool.false_eq_true, if_false]
  rfl
theorem xor_ones (n : Nat) (h : n < 18446744073709551616) : n ^^^ 18446744073709551615 = 18446744073709551615 - n := by
  have h1 : (BitVec.ofNat 64 n ^^^ BitVec.allOnes 64).toNat = 18446744073709551615 - n := by
    rw [BitVec.xor_allOnes, BitVec.toNat_not, BitVec.toNat_ofNat]
    omega
  rw [BitVec.toNat_xor, BitVec.toNat_ofNat, BitVec.toNat_allOnes] at h1
  rw [Nat.mod_eq_of_lt (by omega)] at h1
  exact h1
theorem xor_u64_ones (a : Int) (h0 : 0 ≤ a) (h1 : a < 18446744073709551616) : Go.bits .xor .u64 a 18446744073709551615 = 18446744073709551615 - a := by
  rw [Go.u64_xor a _ h0 h1 (by omega) (by omega)]
  show ((a.toNat ^^^ 18446744073709551615 : Nat) : Int) = _
  rw [xor_ones _ (by omega)]
  omega
theorem xor_u64_zero (a : Int) (h0 : 0 ≤ a) (h1 : a < 18446744073709551616) : Go.bits .xor .u64 a 0 = a := by
  rw [Go.u64_xor a _ h0 h1 (by omega) (by omega)]
  show ((a.toNat ^^^ 0 : Nat) : Int) = _
  rw [Nat.xor_zero]
  omega
theorem xor_i64_ones (x : Int) (h0 : 0 ≤ x) (h1 : x < 9223372036854775808) : Go.bits .xor .i64 x (-1) = -x - 1 := by
  have e1 : (BitVec.ofInt 64 x ^^^ BitVec.ofInt 64 (-1)).toNat = 18446744073709551615 - x.toNat := by
    rw [show BitVec.ofInt 64 (-1) = BitVec.allOnes 64 from by decide, BitVec.xor_allOnes, BitVec.toNat_not, BitVec.toNat_ofInt]
    omega
  show IntKind.i64.wrap (((BitVec.ofInt 64 x ^^^ BitVec.ofInt 64 (-1) : BitVec 64).toNat : Nat) : Int) = _
  rw [e1]
  rw [i64_w]
  unfold wrap64
  omega
theorem xor_i64_zero (x : Int) (h0 : 0 ≤ x) (h1 : x < 9223372036854775808) : Go.bits .xor .i64 x 0 = x := by
  have e1 : (BitVec.ofInt 64 x ^^^ BitVec.ofInt 64 0).toNat = x.toNat := by
    rw [show BitVec.ofInt 64 0 = 0#64 from by decide, BitVec.xor_zero, BitVec.toNat_ofInt]
    omega
  show IntKind.i64.wrap (((BitVec.ofInt 64 x ^^^ BitVec.ofInt 64 0 : BitVec 64).toNat : Nat) : Int) = _
  rw [e1]
  rw [i64_w]
  unfold wrap64
  omega
theorem and_u64_one (a : Int) (h0 : 0 ≤ a) (h1 : a < 18446744073709551616) : Go.bits .and .u64 a 1 = a % 2 := by
  rw [Go.u64_and a _ h0 h1 (by omega) (by omega)]
  show ((a.toNat &&& 1 : Nat) : Int) = _
  rw [Nat.and_one_is_mod]
  omega
def zigN (n : Int) : Int := if n < 0 then -2 * n - 1 else 2 * n
def zagN (n : Int) : Int := if n % 2 = 1 then -(n / 2) - 1 else n / 2
theorem zig_f (n : Int) (h0 : -9223372036854775808 ≤ n) (h1 : n < 9223372036854775808) : varint_Zig.f n = some (zigN n) := by
  unfold varint_Zig.f zigN
  rw [wrap_u64, wrap_u64, wrap_u64]
  by_cases h : n < 0
  · rw [if_pos h, show n / 9223372036854775808 % 18446744073709551616 = 18446744073709551615 from by omega, xor_u64_ones _ (by omega) (by omega)]
    congr 1
    omega
  · rw [if_neg h, show n / 9223372036854775808 % 18446744073709551616 = 0 from by omega, xor_u64_zero _ (by omega) (by omega)]
    congr 1
    omega
theorem rzig_f (n : Int) (h0 : -9223372036854775808 ≤ n) (h1 : n < 9223372036854775808) : glossaryref01_Zig.f n = some (zigN n) := by
  unfold glossaryref01_Zig.f zigN
  by_cases h : n < 0
  · rw [if_pos h, if_pos h, show wrap64 (n + 1) = n + 1 from by unfold wrap64; omega, show wrap64 (-(n + 1)) = -(n + 1) from by unfold wrap64; omega]
    simp only [wrap_u64]
    congr 1
    omega
  · rw [if_neg h, if_neg h]
    simp only [wrap_u64]
    congr 1
    omega
theorem zag_f (m : Int) (h0 : 0 ≤ m) (h1 : m < 18446744073709551616) : varint_Zag.f m = some (zagN m) := by
  unfold varint_Zag.f zagN
  rw [and_u64_one m h0 h1, show wrap64 (m / 2) = m / 2 from by unfold wrap64; omega, show wrap64 (m % 2) = m % 2 from by unfold wrap64; omega]
  by_cases h : m % 2 = 1
  · rw [if_pos h, h, show wrap64 (-1) = -1 from by unfold wrap64; omega, xor_i64_ones _ (by omega) (by omega)]
  · rw [if_neg h, show m % 2 = 0 from by omega, show wrap64 (-0) = 0 from by unfold wrap64; omega, xor_i64_zero _ (by omega) (by omega)]
theorem rzag_f (m : Int) (h0 : 0 ≤ m) (h1 : m < 18446744073709551616) : glossaryref01_Zag.f m = some (zagN m) := by
  unfold glossaryref01_Zag.f zagN
  rw [Int.tmod_eq_emod_of_nonneg h0, Int.tdiv_eq_ediv_of_nonneg h0, wrap_u64, Int.emod_eq_of_lt (a := m / 2) (by omega) (by omega)]
  rw [show wrap64 (m / 2) = m / 2 from by unfold wrap64; omega]
  by_cases h : m % 2 = 1
  · rw [if_pos h, if_pos h, show wrap64 (-(m / 2)) = -(m / 2) from by unfold wrap64; omega, show wrap64 (-(m / 2) - 1) = -(m / 2) - 1 from by unfold wrap64; omega]
  · rw [if_neg h, if_neg h]
theorem VarintZigs : glossarylaw01_VarintZigs.Pure := by
  intro n m hn hm
  obtain ⟨n0, n1⟩ := wf_i64 hn
  obtain ⟨m0, m1⟩ := wf_u64 hm
  refine ⟨10, ?_⟩
  have z1 : 0 ≤ zigN n ∧ zigN n < 18446744073709551616 ∧ zagN (zigN n) = n := by
    unfold zigN zagN
    split <;> split <;> omega
  have z2 : -9223372036854775808 ≤ zagN m ∧ zagN m < 9223372036854775808 ∧ zigN (zagN m) = m := by
    unfold zigN zagN
    split <;> split <;> omega
  unfold glossarylaw01_VarintZigs.f
  rw [awake_f 10 (by omega), zig_f n n0 n1, rzig_f n n0 n1, zag_f m m0 m1, rzag_f m m0 m1]
  simp only [Option.bind_some, if_true]
  rw [zag_f _ z1.1 z1.2.1, z1.2.2, zig_f _ z2.1 z2.2.1, z2.2.2]
  simp
end Go.Proofs.Ytipmbhhbpndflaa.Pure
