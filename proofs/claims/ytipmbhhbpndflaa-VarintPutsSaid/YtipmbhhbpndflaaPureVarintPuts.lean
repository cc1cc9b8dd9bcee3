/- Put answers the bytes that the document's answer has, and Size how many these are, for every number. -/
import Derived.Test.YtipmbhhbpndflaaGVarintPutsx0
import Derived.Test.YtipmbhhbpndflaaGVarintPutsx1
import Derived.Test.YtipmbhhbpndflaaVb
namespace Go.Proofs.Ytipmbhhbpndflaa.Pure
open Go.RowKit Go.Proofs.Ytipmbhhbpndflaa.GVarintPuts Go.Proofs.YtipmbhhbpndflaaW.PrintWords Go.Proofs.YtipmbhhbpndflaaW.PrintLast Go.Proofs.YtipmbhhbpndflaaW.PrintMore Go.Proofs.Ytipmbhhbpndflaa.Vb
namespace VarintPuts
theorem put_l0 (d : Nat) : ∀ (k : Nat) (x : Int) (acc : List Int), 0 ≤ x → (vb x.toNat).length ≤ d + 1 → d < k → acc.length + d < 140737488355328 →
    varint_Put.l0 k x acc = some (acc ++ vb x.toNat) := by
  induction d with
  | zero =>
    intro k x acc h0 hl hk ha
    obtain ⟨k, rfl⟩ : ∃ m, k = m + 1 := ⟨k - 1, by omega⟩
    have hx : x < 128 := by
      rcases Int.lt_or_le x 128 with h | h
      · exact h
      · rw [vb_large (by omega)] at hl
        have := vb_pos (x.toNat / 128)
        simp only [List.length_cons] at hl
        omega
    simp only [varint_Put.l0]
    rw [if_pos (by omega), if_pos hx, vb_small (by omega)]
    congr 3
    omega
  | succ d ih =>
    intro k x acc h0 hl hk ha
    obtain ⟨k, rfl⟩ : ∃ m, k = m + 1 := ⟨k - 1, by omega⟩
    simp only [varint_Put.l0]
    rw [if_pos (by omega)]
    rcases Int.lt_or_le x 128 with hx | hx
    · rw [if_pos hx, vb_small (by omega)]
      congr 3
      omega
    · rw [if_neg (by omega)]
      have hv := vb_large (n := x.toNat) (by omega)
      have e : (x / 128).toNat = x.toNat / 128 := by omega
      rw [ih k (x / 128) _ (by omega) (by rw [hv] at hl; rw [e]; simpa using hl) (by omega) (by simp only [List.length_append, List.length_cons, List.length_nil]; omega), e, hv, or128 x h0]
      simp

theorem put_f (k : Nat) (x : Int) (h0 : 0 ≤ x) (h1 : x < 18446744073709551616) (hk : 10 ≤ k) : varint_Put.f k x = some (vb x.toNat) := by
  have := vb_ten x.toNat (by omega)
  have h := put_l0 9 k x [] h0 (by omega) (by omega) (by simp)
  simpa [varint_Put.f] using h

theorem size_l0 (d : Nat) : ∀ (k : Nat) (x c : Int), 0 ≤ x → (vb x.toNat).length ≤ d + 1 → d < k → 0 ≤ c → c + d < 1000000 →
    varint_Size.l0 k x c = some (c + (vb x.toNat).length - 1) := by
  induction d with
  | zero =>
    intro k x c h0 hl hk hc hd
    obtain ⟨k, rfl⟩ : ∃ m, k = m + 1 := ⟨k - 1, by omega⟩
    have hx : x < 128 := by
      rcases Int.lt_or_le x 128 with h | h
      · exact h
      · rw [vb_large (by omega)] at hl
        have := vb_pos (x.toNat / 128)
        simp only [List.length_cons] at hl
        omega
    simp only [varint_Size.l0]
    rw [if_neg (by omega), vb_small (by omega)]
    simp only [List.length_cons, List.length_nil]
    congr 1
    omega
  | succ d ih =>
    intro k x c h0 hl hk hc hd
    obtain ⟨k, rfl⟩ : ∃ m, k = m + 1 := ⟨k - 1, by omega⟩
    simp only [varint_Size.l0]
    rcases Int.lt_or_le x 128 with hx | hx
    · rw [if_neg (by omega), vb_small (by omega)]
      simp only [List.length_cons, List.length_nil]
      congr 1
      omega
    · rw [if_pos (by omega)]
      have hv := vb_large (n := x.toNat) (by omega)
      have e : (x / 128).toNat = x.toNat / 128 := by omega
      have ew : wrap64 (c + 1) = c + 1 := by unfold wrap64; omega
      rw [ew, ih k (x / 128) (c + 1) (by omega) (by rw [hv] at hl; rw [e]; simpa using hl) (by omega) (by omega) (by omega), e, hv]
      simp only [List.length_cons]
      congr 1
      omega

theorem size_f (k : Nat) (x : Int) (h0 : 0 ≤ x) (h1 : x < 18446744073709551616) (hk : 10 ≤ k) : varint_Size.f k x = some ((vb x.toNat).length : Int) := by
  have := vb_ten x.toNat (by omega)
  have h := size_l0 9 k x 1 h0 (by omega) (by omega) (by omega) (by omega)
  rw [varint_Size.f, h]
  congr 1
  omega

theorem rvarint_l0 (d : Nat) : ∀ (k : Nat) (x : Int) (acc : List Int), 0 ≤ x → x < 18446744073709551616 → (vb x.toNat).length ≤ d + 1 → d < k → acc.length + d < 140737488355328 →
    glossaryref01_Varint.l0 k x acc = some (acc ++ vb x.toNat) := by
  induction d with
  | zero =>
    intro k x acc h0 h1 hl hk ha
    obtain ⟨k, rfl⟩ : ∃ m, k = m + 1 := ⟨k - 1, by omega⟩
    have hx : x < 128 := by
      rcases Int.lt_or_le x 128 with h | h
      · exact h
      · rw [vb_large (by omega)] at hl
        have := vb_pos (x.toNat / 128)
        simp only [List.length_cons] at hl
        omega
    simp only [glossaryref01_Varint.l0]
    rw [if_neg (by omega), if_pos (by omega), vb_small (by omega)]
    congr 3
    omega
  | succ d ih =>
    intro k x acc h0 h1 hl hk ha
    obtain ⟨k, rfl⟩ : ∃ m, k = m + 1 := ⟨k - 1, by omega⟩
    simp only [glossaryref01_Varint.l0]
    rcases Int.lt_or_le x 128 with hx | hx
    · rw [if_neg (by omega), if_pos (by omega), vb_small (by omega)]
      congr 3
      omega
    · rw [if_pos (by omega), if_pos (by omega)]
      have hv := vb_large (n := x.toNat) (by omega)
      have e1 : IntKind.u64.wrap (Int.tdiv x 128) = x / 128 := by
        rw [Int.tdiv_eq_ediv_of_nonneg h0]
        simp only [IntKind.wrap, IntKind.bits, IntKind.signed, Bool.false_and, Bool.false_eq_true, if_false]
        exact Int.emod_eq_of_lt (by omega) (by omega)
      have e2 : (Int.tmod x 128 + 128) % 256 = ((x.toNat % 128 + 128 : Nat) : Int) := by
        rw [Int.tmod_eq_emod_of_nonneg h0]
        omega
      have e : (x / 128).toNat = x.toNat / 128 := by omega
      rw [e1, e2, ih k (x / 128) _ (by omega) (by omega) (by rw [hv] at hl; rw [e]; simpa using hl) (by omega) (by simp only [List.length_append, List.length_cons, List.length_nil]; omega), e, hv]
      simp

theorem rvarint_f (k : Nat) (x : Int) (h0 : 0 ≤ x) (h1 : x < 18446744073709551616) (hk : 10 ≤ k) : glossaryref01_Varint.f k x = some (vb x.toNat) := by
  have := vb_ten x.toNat (by omega)
  have h := rvarint_l0 9 k x [] h0 h1 (by omega) (by omega) (by simp)
  simpa [glossaryref01_Varint.f] using h

theorem awake_f (k : Nat) (hk : 10 ≤ k) : glossarylaw01_awake.f k = some true := by
  have e1 : vb 300 = [172, 2] := by rw [vb_large (by omega), vb_small (by omega)]; rfl
  have e0 : vb 0 = [0] := by rw [vb_small (by omega)]; rfl
  have ez : varint_Zig.f (-1) = some 1 := by unfold varint_Zig.f; decide +kernel
  unfold glossarylaw01_awake.f
  rw [put_f k 300 (by omega) (by omega) hk, size_f k 0 (by omega) (by omega) hk, ez]
  simp only [Option.bind_some]
  rw [show (300 : Int).toNat = 300 from rfl, e1, show (0 : Int).toNat = 0 from rfl, e0]
  rfl

end VarintPuts
open VarintPuts
theorem VarintPuts : glossarylaw01_VarintPuts.Pure := by
  intro x hw
  obtain ⟨h0, h1⟩ := wf_u64 hw
  refine ⟨10, ?_⟩
  unfold glossarylaw01_VarintPuts.f
  rw [awake_f 10 (by omega), put_f 10 x h0 h1 (by omega), rvarint_f 10 x h0 h1 (by omega), size_f 10 x h0 h1 (by omega)]
  simp
end Go.Proofs.Ytipmbhhbpndflaa.Pure
