/- A greater number has no fewer bytes, and seven bits more are one byte more, for every number. -/
import Derived.Test.YtipmbhhbpndflaaGVarintSizesx0
import Derived.Test.YtipmbhhbpndflaaGVarintSizesx1
import Derived.Test.YtipmbhhbpndflaaVb
namespace Go.Proofs.Ytipmbhhbpndflaa.Pure
open Go.RowKit Go.Proofs.Ytipmbhhbpndflaa.GVarintSizes Go.Proofs.YtipmbhhbpndflaaW.PrintWords Go.Proofs.YtipmbhhbpndflaaW.PrintLast Go.Proofs.YtipmbhhbpndflaaW.PrintMore Go.Proofs.Ytipmbhhbpndflaa.Vb
namespace VarintSizes
theorem put_l0 (d : Nat) : ∀ (k : Nat) (x : Int) (acc : List Int), 0 ≤ x → (vb x.toNat).length ≤ d + 1 → d < k → acc.length + d < 140737488355328 →
    varint_Put.l0 k x acc = some (acc ++ vb x.toNat) := by
  induction d with
  | zero =>
    intro k x acc h0 hl hk ha
    obtain ⟨k, rfl⟩ : ∃ m, k = m + 1 := ⟨k - 1, by omega⟩
    have hx : x < 128 := by
      rcases Int.lt_or_le x 128 with h | h
      · exact h
      · rw [vb_large (by omega)] at hl
        have := vb_pos (x.toNat / 128)
        simp only [List.length_cons] at hl
        omega
    simp only [varint_Put.l0]
    rw [if_pos (by omega), if_pos hx, vb_small (by omega)]
    congr 3
    omega
  | succ d ih =>
    intro k x acc h0 hl hk ha
    obtain ⟨k, rfl⟩ : ∃ m, k = m + 1 := ⟨k - 1, by omega⟩
    simp only [varint_Put.l0]
    rw [if_pos (by omega)]
    rcases Int.lt_or_le x 128 with hx | hx
    · rw [if_pos hx, vb_small (by omega)]
      congr 3
      omega
    · rw [if_neg (by omega)]
      have hv := vb_large (n := x.toNat) (by omega)
      have e : (x / 128).toNat = x.toNat / 128 := by omega
      rw [ih k (x / 128) _ (by omega) (by rw [hv] at hl; rw [e]; simpa using hl) (by omega) (by simp only [List.length_append, List.length_cons, List.length_nil]; omega), e, hv, or128 x h0]
      simp

theorem put_f (k : Nat) (x : Int) (h0 : 0 ≤ x) (h1 : x < 18446744073709551616) (hk : 10 ≤ k) : varint_Put.f k x = some (vb x.toNat) := by
  have := vb_ten x.toNat (by omega)
  have h := put_l0 9 k x [] h0 (by omega) (by omega) (by simp)
  simpa [varint_Put.f] using h

theorem size_l0 (d : Nat) : ∀ (k : Nat) (x c : Int), 0 ≤ x → (vb x.toNat).length ≤ d + 1 → d < k → 0 ≤ c → c + d < 1000000 →
    varint_Size.l0 k x c = some (c + (vb x.toNat).length - 1) := by
  induction d with
  | zero =>
    intro k x c h0 hl hk hc hd
    obtain ⟨k, rfl⟩ : ∃ m, k = m + 1 := ⟨k - 1, by omega⟩
    have hx : x < 128 := by
      rcases Int.lt_or_le x 128 with h | h
      · exact h
      · rw [vb_large (by omega)] at hl
        have := vb_pos (x.toNat / 128)
        simp only [List.length_cons] at hl
        omega
    simp only [varint_Size.l0]
    rw [if_neg (by omega), vb_small (by omega)]
    simp only [List.length_cons, List.length_nil]
    congr 1
    omega
  | succ d ih =>
    intro k x c h0 hl hk hc hd
    obtain ⟨k, rfl⟩ : ∃ m, k = m + 1 := ⟨k - 1, by omega⟩
    simp only [varint_Size.l0]
    rcases Int.lt_or_le x 128 with hx | hx
    · rw [if_neg (by omega), vb_small (by omega)]
      simp only [List.length_cons, List.length_nil]
      congr 1
      omega
    · rw [if_pos (by omega)]
      have hv := vb_large (n := x.toNat) (by omega)
      have e : (x / 128).toNat = x.toNat / 128 := by omega
      have ew : wrap64 (c + 1) = c + 1 := by unfold wrap64; omega
      rw [ew, ih k (x / 128) (c + 1) (by omega) (by rw [hv] at hl; rw [e]; simpa using hl) (by omega) (by omega) (by omega), e, hv]
      simp only [List.length_cons]
      congr 1
      omega

theorem size_f (k : Nat) (x : Int) (h0 : 0 ≤ x) (h1 : x < 18446744073709551616) (hk : 10 ≤ k) : varint_Size.f k x = some ((vb x.toNat).length : Int) := by
  have := vb_ten x.toNat (by omega)
  have h := size_l0 9 k x 1 h0 (by omega) (by omega) (by omega) (by omega)
  rw [varint_Size.f, h]
  congr 1
  omega

theorem awake_f (k : Nat) (hk : 10 ≤ k) : glossarylaw01_awake.f k = some true := by
  have e1 : vb 300 = [172, 2] := by rw [vb_large (by omega), vb_small (by omega)]; rfl
  have e0 : vb 0 = [0] := by rw [vb_small (by omega)]; rfl
  have ez : varint_Zig.f (-1) = some 1 := by unfold varint_Zig.f; decide +kernel
  unfold glossarylaw01_awake.f
  rw [put_f k 300 (by omega) (by omega) hk, size_f k 0 (by omega) (by omega) hk, ez]
  simp only [Option.bind_some]
  rw [show (300 : Int).toNat = 300 from rfl, e1, show (0 : Int).toNat = 0 from rfl, e0]
  rfl

end VarintSizes
open VarintSizes
theorem vb_mono (d : Nat) : ∀ n m : Nat, n ≤ m → (vb m).length ≤ d → (vb n).length ≤ (vb m).length := by
  induction d with
  | zero => intro n m _ h; have := vb_pos m; omega
  | succ d ih =>
    intro n m h hd
    by_cases h1 : n < 128
    · rw [vb_small h1]; have := vb_pos m; simpa using this
    · rw [vb_large h1]
      have h2 : ¬ m < 128 := by omega
      rw [vb_large h2] at hd ⊢
      simp only [List.length_cons] at hd ⊢
      have := ih (n / 128) (m / 128) (by omega) (by omega)
      omega

theorem vb_shift (n : Nat) (h : n ≠ 0) : (vb (n * 128)).length = (vb n).length + 1 := by
  rw [vb_large (by omega)]
  simp only [List.length_cons]
  rw [show n * 128 / 128 = n from by omega]

theorem VarintSizes : glossarylaw01_VarintSizes.Pure := by
  intro n m hn hm
  obtain ⟨n0, n1⟩ := wf_u64 hn
  obtain ⟨m0, m1⟩ := wf_u64 hm
  refine ⟨11, ?_⟩
  have hj : glossarylaw01_VarintSizes.j0 11 n false = some true := by
    simp only [glossarylaw01_VarintSizes.j0]
    rw [if_neg (by decide)]
    by_cases h0 : n = 0
    · rw [if_pos h0]
    · rw [if_neg h0]
      by_cases h1 : n ≥ 144115188075855872
      · rw [if_pos h1]
      · rw [if_neg h1]
        have e : IntKind.u64.wrap (n * 128) = n * 128 := by
          simp only [IntKind.wrap, IntKind.bits, IntKind.signed, Bool.false_and, Bool.false_eq_true, if_false]
          exact Int.emod_eq_of_lt (by omega) (by omega)
        rw [e, size_f 10 (n * 128) (by omega) (by omega) (by omega), size_f 10 n n0 n1 (by omega)]
        simp only [Option.bind_some]
        have h2 := vb_shift n.toNat (by omega)
        have h3 : (n * 128).toNat = n.toNat * 128 := by omega
        have h4 := vb_ten n.toNat (by omega)
        have ew : wrap64 (((vb n.toNat).length : Int) + 1) = ((vb n.toNat).length : Int) + 1 := by unfold wrap64; omega
        rw [ew, h3, h2]
        simp
  unfold glossarylaw01_VarintSizes.f
  rw [awake_f 11 (by omega)]
  simp only [Option.bind_some, if_true]
  by_cases h : n ≤ m
  · rw [if_pos h, size_f 11 n n0 n1 (by omega), size_f 11 m m0 m1 (by omega)]
    simp only [Option.bind_some]
    have := vb_mono _ n.toNat m.toNat (by omega) (Nat.le_refl _)
    rw [show decide (((vb n.toNat).length : Int) > ((vb m.toNat).length : Int)) = false from decide_eq_false (by omega)]
    exact hj
  · rw [if_neg h]; exact hj
end Go.Proofs.Ytipmbhhbpndflaa.Pure
