/- A number of which bytes are cut off at the end is none. -/
import Derived.Test.YtipmbhhbpndflaaGVarintCutsx0
import Derived.Test.YtipmbhhbpndflaaGVarintCutsx1
import Derived.Test.YtipmbhhbpndflaaVb
namespace Go.Proofs.Ytipmbhhbpndflaa.Pure
open Go.RowKit Go.Proofs.Ytipmbhhbpndflaa.GVarintCuts Go.Proofs.YtipmbhhbpndflaaW.PrintWords Go.Proofs.YtipmbhhbpndflaaW.PrintLast Go.Proofs.YtipmbhhbpndflaaW.PrintMore Go.Proofs.Ytipmbhhbpndflaa.Vb
namespace VarintCuts
theorem put_l0 (d : Nat) : ∀ (k : Nat) (x : Int) (acc : List Int), 0 ≤ x → (vb x.toNat).length ≤ d + 1 → d < k → acc.length + d < 140737488355328 →
    varint_Put.l0 k x acc = some (acc ++ vb x.toNat) := by
  induction d with
  | zero =>
    intro k x acc h0 hl hk ha
    obtain ⟨k, rfl⟩ : ∃ m, k = m + 1 := ⟨k - 1, by omega⟩
    have hx : x < 128 := by
      rcases Int.lt_or_le x 128 with h | h
      · exact h
      · rw [vb_large (by omega)] at hl
        have := vb_pos (x.toNat / 128)
        simp only [List.length_cons] at hl
        omega
    simp only [varint_Put.l0]
    rw [if_pos (by omega), if_pos hx, vb_small (by omega)]
    congr 3
    omega
  | succ d ih =>
    intro k x acc h0 hl hk ha
    obtain ⟨k, rfl⟩ : ∃ m, k = m + 1 := ⟨k - 1, by omega⟩
    simp only [varint_Put.l0]
    rw [if_pos (by omega)]
    rcases Int.lt_or_le x 128 with hx | hx
    · rw [if_pos hx, vb_small (by omega)]
      congr 3
      omega
    · rw [if_neg (by omega)]
      have hv := vb_large (n := x.toNat) (by omega)
      have e : (x / 128).toNat = x.toNat / 128 := by omega
      rw [ih k (x / 128) _ (by omega) (by rw [hv] at hl; rw [e]; simpa using hl) (by omega) (by simp only [List.length_append, List.length_cons, List.length_nil]; omega), e, hv, or128 x h0]
      simp

theorem put_f (k : Nat) (x : Int) (h0 : 0 ≤ x) (h1 : x < 18446744073709551616) (hk : 10 ≤ k) : varint_Put.f k x = some (vb x.toNat) := by
  have := vb_ten x.toNat (by omega)
  have h := put_l0 9 k x [] h0 (by omega) (by omega) (by simp)
  simpa [varint_Put.f] using h

theorem size_l0 (d : Nat) : ∀ (k : Nat) (x c : Int), 0 ≤ x → (vb x.toNat).length ≤ d + 1 → d < k → 0 ≤ c → c + d < 1000000 →
    varint_Size.l0 k x c = some (c + (vb x.toNat).length - 1) := by
  induction d with
  | zero =>
    intro k x c h0 hl hk hc hd
    obtain ⟨k, rfl⟩ : ∃ m, k = m + 1 := ⟨k - 1, by omega⟩
    have hx : x < 128 := by
      rcases Int.lt_or_le x 128 with h | h
      · exact h
      · rw [vb_large (by omega)] at hl
        have := vb_pos (x.toNat / 128)
        simp only [List.length_cons] at hl
        omega
    simp only [varint_Size.l0]
    rw [if_neg (by omega), vb_small (by omega)]
    simp only [List.length_cons, List.length_nil]
    congr 1
    omega
  | succ d ih =>
    intro k x c h0 hl hk hc hd
    obtain ⟨k, rfl⟩ : ∃ m, k = m + 1 := ⟨k - 1, by omega⟩
    simp only [varint_Size.l0]
    rcases Int.lt_or_le x 128 with hx | hx
    · rw [if_neg (by omega), vb_small (by omega)]
      simp only [List.length_cons, List.length_nil]
      congr 1
      omega
    · rw [if_pos (by omega)]
      have hv := vb_large (n := x.toNat) (by omega)
      have e : (x / 128).toNat = x.toNat / 128 := by omega
      have ew : wrap64 (c + 1) = c + 1 := by unfold wrap64; omega
      rw [ew, ih k (x / 128) (c + 1) (by omega) (by rw [hv] at hl; rw [e]; simpa using hl) (by omega) (by omega) (by omega), e, hv]
      simp only [List.length_cons]
      congr 1
      omega

theorem size_f (k : Nat) (x : Int) (h0 : 0 ≤ x) (h1 : x < 18446744073709551616) (hk : 10 ≤ k) : varint_Size.f k x = some ((vb x.toNat).length : Int) := by
  have := vb_ten x.toNat (by omega)
  have h := size_l0 9 k x 1 h0 (by omega) (by omega) (by omega) (by omega)
  rw [varint_Size.f, h]
  congr 1
  omega

theorem awake_f (k : Nat) (hk : 10 ≤ k) : glossarylaw01_awake.f k = some true := by
  have e1 : vb 300 = [172, 2] := by rw [vb_large (by omega), vb_small (by omega)]; rfl
  have e0 : vb 0 = [0] := by rw [vb_small (by omega)]; rfl
  have ez : varint_Zig.f (-1) = some 1 := by unfold varint_Zig.f; decide +kernel
  unfold glossarylaw01_awake.f
  rw [put_f k 300 (by omega) (by omega) hk, size_f k 0 (by omega) (by omega) hk, ez]
  simp only [Option.bind_some]
  rw [show (300 : Int).toNat = 300 from rfl, e1, show (0 : Int).toNat = 0 from rfl, e0]
  rfl

theorem take_l0 (l : List Int) (hb : Bytes l) (d : Nat) : ∀ (k i : Nat) (x : Int), i + d = 10 → i ≤ l.length → 0 ≤ x → x < 128 ^ i → d < k →
    varint_Take.l0 k l x (i : Int) = some (told x (tr (l.drop i) i)) := by
  induction d with
  | zero =>
    intro k i x hd hi h0 h1 hk
    obtain ⟨k, rfl⟩ : ∃ m, k = m + 1 := ⟨k - 1, by omega⟩
    simp only [varint_Take.l0]
    rw [if_pos (by omega), if_pos (by omega)]
    rcases Nat.lt_or_ge i l.length with h | h
    · rw [if_neg (by omega), if_pos (by omega), rd_drop h]
      simp only [tr]
      rw [if_pos (by omega)]
      rfl
    · rw [if_pos (by omega), List.drop_of_length_le h]
      rfl
  | succ d ih =>
    intro k i x hd hi h0 h1 hk
    obtain ⟨k, rfl⟩ : ∃ m, k = m + 1 := ⟨k - 1, by omega⟩
    simp only [varint_Take.l0]
    rw [if_pos (by omega), if_pos (by omega)]
    rcases Nat.lt_or_ge i l.length with h | h
    · have hc := hb.rd (i : Int)
      rw [if_neg (by omega), if_neg (by omega), if_pos (by omega), rd_drop h]
      simp only [tr]
      rw [if_neg (show ¬ 10 ≤ i by omega)]
      by_cases h9 : i = 9 ∧ 1 < rd l (i : Int)
      · rw [if_pos (by omega), if_pos h9]; rfl
      · rw [if_neg (by omega), if_neg h9]
        obtain ⟨e1, e2, e3⟩ := or_add x (rd l (i : Int)) i h0 h1 hc.1 hc.2 (by omega) (fun h => by omega)
        have e7 : (7 * (i : Int)).toNat = 7 * i := by omega
        rw [e7, e1]
        have h128 := and128 (rd l (i : Int)) hc.1 hc.2
        by_cases hs : rd l (i : Int) < 128
        · rw [if_pos (by rw [h128]; exact hs), if_pos hs]
          simp only [told]
          rw [Int.emod_eq_of_lt hc.1 hs]
          rfl
        · rw [if_neg (by rw [h128]; exact hs), if_neg hs]
          have hge : 0 ≤ rd l (i : Int) % 128 * 128 ^ i := Int.mul_nonneg (by omega) (Int.le_of_lt (Int.pow_pos (by decide)))
          rw [show (i : Int) + 1 = ((i + 1 : Nat) : Int) from rfl, ih k (i + 1) _ (by omega) (by omega) (by omega) e2 (by omega)]
          cases tr (l.drop (i + 1)) (i + 1) with
          | none => rfl
          | some v => simp [told, Int.add_assoc]
    · rw [if_pos (by omega), List.drop_of_length_le h]
      rfl

theorem take_f (k : Nat) (l : List Int) (hb : Bytes l) (hk : 11 ≤ k) : varint_Take.f k l = some (told 0 (tr l 0)) := by
  have h := take_l0 l hb 10 k 0 0 (by omega) (by omega) (by omega) (by simp) (by omega)
  simpa [varint_Take.f] using h

end VarintCuts
open VarintCuts
theorem VarintCuts : glossarylaw01_VarintCuts.Pure := by
  intro n c hn hc
  obtain ⟨n0, n1⟩ := wf_u64 hn
  refine ⟨11, ?_⟩
  unfold glossarylaw01_VarintCuts.f
  rw [awake_f 11 (by omega), put_f 11 n n0 n1 (by omega)]
  simp only [Option.bind_some, if_true]
  by_cases h : c < 0
  · rw [if_pos h]
  · rw [if_neg h]
    by_cases h1 : c ≥ ((vb n.toNat).length : Int)
    · rw [if_pos h1]
    · rw [if_neg h1, if_pos (by omega), if_pos (by omega)]
      have hall : Bytes ((vb n.toNat).take c.toNat) := fun x hx => vb_bytes _ x (List.mem_of_mem_take hx)
      rw [take_f 11 _ hall (by omega), tr_cut n.toNat 0 c.toNat (by omega)]
      rfl
end Go.Proofs.Ytipmbhhbpndflaa.Pure
