/- Numbers as bytes, seven bits a byte: what the two programs' loops come to. -/
import Derived.Laws.BitsAllLaws
import Derived.Laws.Bits128
import Derived.Test.YtipmbhhbpndflaaWMore
import Derived.Test.YtipmbhhbpndflaaWLast
namespace Go.Proofs.Ytipmbhhbpndflaa.Vb
open Go.RowKit Go.Proofs.YtipmbhhbpndflaaW.PrintWords Go.Proofs.YtipmbhhbpndflaaW.PrintLast Go.Proofs.YtipmbhhbpndflaaW.PrintMore

/-- n as bytes. -/
def vb (n : Nat) : List Int := if n < 128 then [(n : Int)] else ((n % 128 + 128 : Nat) : Int) :: vb (n / 128)
termination_by n
decreasing_by omega

theorem vb_small {n : Nat} (h : n < 128) : vb n = [(n : Int)] := by rw [vb, if_pos h]
theorem vb_large {n : Nat} (h : ¬ n < 128) : vb n = ((n % 128 + 128 : Nat) : Int) :: vb (n / 128) := by rw [vb, if_neg h]

theorem vb_pos (n : Nat) : 1 ≤ (vb n).length := by
  by_cases h : n < 128
  · rw [vb_small h]; simp
  · rw [vb_large h]; simp

theorem vb_le (k : Nat) : ∀ n : Nat, n < 128 ^ (k + 1) → (vb n).length ≤ k + 1 := by
  induction k with
  | zero => intro n h; rw [vb_small (by simpa using h)]; simp
  | succ k ih =>
    intro n h
    by_cases h1 : n < 128
    · rw [vb_small h1]; simp
    · rw [vb_large h1]
      have := ih (n / 128) (by rw [Nat.pow_succ] at h; omega)
      simp only [List.length_cons]; omega

theorem vb_ten (n : Nat) (h : n < 18446744073709551616) : (vb n).length ≤ 10 := vb_le 9 n (by omega)

theorem or128 (x : Int) (h : 0 ≤ x) : Go.bits .or .u8 (x % 256) 128 = ((x.toNat % 128 + 128 : Nat) : Int) := by
  rw [Go.u8_or (x % 256) 128 (by omega) (by omega) (by omega) (by omega)]
  have key : ∀ y : Nat, y < 256 → y ||| 128 = y % 128 + 128 := by decide +kernel
  have e : (x % 256).toNat = x.toNat % 256 := by omega
  rw [e]
  show ((x.toNat % 256 ||| 128 : Nat) : Int) = _
  rw [key _ (by omega)]
  congr 1
  omega

theorem wf_u64 {a : Int} (h : (Lit.int .u64 a).wf = true) : 0 ≤ a ∧ a < 18446744073709551616 := by
  simp [Lit.wf, IntKind.min, IntKind.max, IntKind.signed, IntKind.bits] at h
  omega
end Go.Proofs.Ytipmbhhbpndflaa.Vb
