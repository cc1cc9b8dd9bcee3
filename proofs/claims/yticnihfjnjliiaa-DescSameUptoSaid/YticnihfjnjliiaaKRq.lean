/- What the reference's Put appends, in plain words. -/
import Derived.Test.YticnihfjnjliiaaKRp
import Derived.Test.YticnihfjnjliiaaKWp
namespace Go.Proofs.Yticnihfjnjliiaa.Rq
open Go.RowKit Go.Proofs.Yticnihfjnjliiaa.GDescGrows Go.Proofs.Yticnihfjnjliiaa.Rp Go.Proofs.YticnihfjnjliiaaW.PrintWords Go.Proofs.YticnihfjnjliiaaW.PrintLast Go.Proofs.YticnihfjnjliiaaW.PrintMore Go.Proofs.Yticnihfjnjliiaa.Pt Go.Proofs.Yticnihfjnjliiaa.Vb Go.Proofs.Yticnihfjnjliiaa.Fx Go.Proofs.Yticnihfjnjliiaa.Wr Go.Proofs.Yticnihfjnjliiaa.Wp
theorem rvarint_l0 (d : Nat) : ∀ (k : Nat) (x : Int) (acc : List Int), 0 ≤ x → x < 18446744073709551616 → (vb x.toNat).length ≤ d + 1 → d < k → acc.length + d < 140737488355328 →
 glossaryref01_Varint.l0 k x acc = some (acc ++ vb x.toNat) := by
 induction d with
 | zero =>
  intro k x acc h0 h1 hl hk ha
  obtain ⟨k, rfl⟩ : ∃ m, k = m + 1 := ⟨k - 1, by omega⟩
  have hx : x < 128 := by
   rcases Int.lt_or_le x 128 with h | h
   · exact h
   · rw [vb_large (by omega)] at hl
     have := vb_pos (x.toNat / 128)
     simp only [List.length_cons] at hl
     omega
  simp only [glossaryref01_Varint.l0]
  rw [if_neg (by omega), if_pos (by omega), vb_small (by omega)]
  congr 3
  omega
 | succ d ih =>
  intro k x acc h0 h1 hl hk ha
  obtain ⟨k, rfl⟩ : ∃ m, k = m + 1 := ⟨k - 1, by omega⟩
  simp only [glossaryref01_Varint.l0]
  rcases Int.lt_or_le x 128 with hx | hx
  · rw [if_neg (by omega), if_pos (by omega), vb_small (by omega)]
    congr 3
    omega
  · rw [if_pos (by omega), if_pos (by omega)]
    have hv := vb_large (n := x.toNat) (by omega)
    have e1 : IntKind.u64.wrap (Int.tdiv x 128) = x / 128 := by
     rw [Int.tdiv_eq_ediv_of_nonneg h0]
     simp only [IntKind.wrap, IntKind.bits, IntKind.signed, Bool.false_and, Bool.false_eq_true, if_false]
     exact Int.emod_eq_of_lt (by omega) (by omega)
    have e2 : (Int.tmod x 128 + 128) % 256 = ((x.toNat % 128 + 128 : Nat) : Int) := by
     rw [Int.tmod_eq_emod_of_nonneg h0]
     omega
    have e : (x / 128).toNat = x.toNat / 128 := by omega
    rw [e1, e2, ih k (x / 128) _ (by omega) (by omega) (by rw [hv] at hl; rw [e]; simpa using hl) (by omega) (by simp only [List.length_append, List.length_cons, List.length_nil]; omega), e, hv]
    simp
theorem rvarint_f (k : Nat) (x : Int) (h0 : 0 ≤ x) (h1 : x < 18446744073709551616) (hk : 10 ≤ k) : glossaryref01_Varint.f k x = some (vb x.toNat) := by
 have := vb_ten x.toNat (by omega)
 have h := rvarint_l0 9 k x [] h0 h1 (by omega) (by omega) (by simp)
 simpa [glossaryref01_Varint.f] using h
end Go.Proofs.Yticnihfjnjliiaa.Rq
