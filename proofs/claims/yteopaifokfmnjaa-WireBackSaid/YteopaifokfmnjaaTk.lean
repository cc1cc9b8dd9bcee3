/- glossary/varint.Take, proved by hand. -/
import Derived.Test.YteopaifokfmnjaaProg
import Derived.Below
import Derived.Deep.Draws
import Derived.Deep.AppendLies
import Derived.Maps.AppendAt
import Derived.OwnWalk
import Derived.Laws.BytesArg
import Derived.Laws.MakeOwn
import Derived.Laws.OwnMore
import Derived.Deep.OwnRows
import Derived.Tactics
import Derived.Lib.ConvBytes
import Derived.Laws.Slices
import Derived.WalkKit
import Derived.KernelRfl
import Derived.RowKit3
import Derived.Deep.LoopGhost
import Derived.Deep.QuietTactic
import Derived.BigQuiet
import Derived.WideLaws
import Derived.Deep.DeepCutAuto
import Derived.Deep.CutBlock
import Derived.Deep.RegionHeld3
import Derived.Laws.Rows
import Derived.Lib.AppendStr
import Derived.ArgAppend
import Derived.Laws.IdiomCopy
import Derived.OrdersHeld
import Derived.Laws.BitsLemmas
import Derived.RowKit
import Derived.Test.YteopaifokfmnjaaWWords
import Derived.Test.YteopaifokfmnjaaWLast
import Derived.Test.YteopaifokfmnjaaWTab
import Derived.Test.YteopaifokfmnjaaWFour
import Derived.Test.YteopaifokfmnjaaWQPut
import Derived.Test.YteopaifokfmnjaaWApart
import Derived.Test.YteopaifokfmnjaaWArr
import Derived.Test.YteopaifokfmnjaaWZeros
import Derived.Test.YteopaifokfmnjaaWFoot
import Derived.Test.YteopaifokfmnjaaWKept
import Derived.Test.YteopaifokfmnjaaWShare
import Derived.Test.YteopaifokfmnjaaWN
import Derived.Test.YteopaifokfmnjaaWFootNe
import Derived.Test.YteopaifokfmnjaaWAt
import Derived.Test.YteopaifokfmnjaaWEqStruct
import Derived.Test.YteopaifokfmnjaaWRepsOne
import Derived.Test.YteopaifokfmnjaaWInv
import Derived.Test.YteopaifokfmnjaaWInvWords
import Derived.Test.YteopaifokfmnjaaWGuard
import Derived.Test.YteopaifokfmnjaaWNEv
import Derived.Test.YteopaifokfmnjaaWMore
import Derived.Test.YteopaifokfmnjaaBase
namespace Go.Proofs.Yteopaifokfmnjaa.Tk
open Go.RowKit Go.Proofs.YteopaifokfmnjaaW.PrintWords Go.Proofs.YteopaifokfmnjaaW.PrintLast Go.Proofs.YteopaifokfmnjaaW.PrintMore
attribute [local go_sem] max2_int min2_int max_two min_two max_three min_three max_four min_four   -- for this text's walks alone
set_option linter.unusedVariables false
set_option linter.unusedSimpArgs false

def varint_Take.l0 : Nat → List Int → Int → Int → Option (Int × Int × Int)
  | 0, _, _, _ => none
  | k + 1, l0, x5, x6 => if 0 ≤ x6 then (if x6 ≤ 10 then (if x6 = (l0.length : Int) then some (0, 0, 10) else (if x6 = 10 then some (0, 0, 10) else (if x6 < (l0.length : Int) then (if (x6 = 9 ∧ 1 < rd l0 x6) then some (0, 0, 10) else (if Go.bits .and .u8 (rd l0 x6) 128 = 0 then some (Go.bits .or .u64 x5 (IntKind.u64.wrap (IntKind.u64.wrap (Go.bits .and .u8 (rd l0 x6) 127) * 2 ^ (7 * x6).toNat)), x6 + 1, 0) else varint_Take.l0 k l0 (Go.bits .or .u64 x5 (IntKind.u64.wrap (IntKind.u64.wrap (Go.bits .and .u8 (rd l0 x6) 127) * 2 ^ (7 * x6).toNat))) (x6 + 1))) else none))) else none) else none
def varint_Take.f (k : Nat) (l0 : List Int) : Option (Int × Int × Int) := varint_Take.l0 k l0 0 0
theorem varint_Take.mono_l : ∀ k y0 y1 y2, LeO (varint_Take.l0 k y0 y1 y2) (varint_Take.l0 (k + 1) y0 y1 y2)
  | 0 => fun _ _ _ r h => by simp [varint_Take.l0] at h
  | k + 1 => by
    have ih0 := varint_Take.mono_l k
    intro y0 y1 y2
    unfold varint_Take.l0
    exact LeO.ite (LeO.ite (LeO.ite (LeO.refl _) (LeO.ite (LeO.refl _) (LeO.ite (LeO.ite (LeO.refl _) (LeO.ite (LeO.refl _) (ih0 _ _ _))) (LeO.refl _)))) (LeO.refl _)) (LeO.refl _)
theorem varint_Take.mono : ∀ a0 k, LeO (varint_Take.f k a0) (varint_Take.f (k + 1) a0) := fun a0 k => varint_Take.mono_l k a0 0 0
set_option maxHeartbeats 8000000 in
set_option maxRecDepth 100000 in
theorem varint_Take.calls (k : Nat) (A0 : Option Addr) (c0 : Nat) (l0 : List Int) (r1 : Int) (r2 : Int) (r3 : Int) (w : World) (hr0 : Kd.C (Kd.int .u8) w A0 l0.length l0) (hc0 : l0.length ≤ c0) (h : varint_Take.f k l0 = some (r1, r2, r3)) :
    Calls Try.prog 31 #[.slice A0 l0.length c0] w fun e w' => e = .returned (.tuple #[.int .u64 r1, .int .i64 r2, .int .i64 r3]) ∧ Drawn0 w w' := by
  have HR0 := Aside0.mk hr0
  clear hr0 hc0
  have H' := Aside0.mk h
  clear h
  go_enter Try.func31, Try.ntmps31
  go_wp2
  refine Base.wp_scope_loop 0 (fun n a' w' => ∃ (x5 x6 : Int) (u1 u2 u3 u4 u7 u8 u9 u10 u11 u12 u13 u14 u15 u16 u17 u18 u19 u20 u21 u22 u23 u24 u25 u26 u27 u28 u29 u30 u31 u32 u33 u34 u35 u36 u37 u38 u39 u40 : Value), a' = { tmps := #[.slice A0 l0.length c0, u1, u2, u3, u4, .int .u64 x5, .int .i64 x6, u7, u8, u9, u10, u11, u12, u13, u14, u15, u16, u17, u18, u19, u20, u21, u22, u23, u24, u25, u26, u27, u28, u29, u30, u31, u32, u33, u34, u35, u36, u37, u38, u39, u40], defers := [] } ∧ Aside0 (varint_Take.l0 n l0 x5 x6 = some (r1, r2, r3)) ∧ w' = w) rfl ?pass ?first
  case first =>
    intro hpass
    go_wp2
    go_step3
    rename_i K hK
    exact hK _ _ (hpass k _ _ ⟨0, 0, _, _, _, _, _, _, _, _, _, _, _, _, _, _, _, _, _, _, _, _, _, _, _, _, _, _, _, _, _, _, _, _, _, _, _, _, _, _, rfl, H', rfl⟩)
  case pass =>
    clear H'
    rintro n a' w' ⟨x5, x6, u1, u2, u3, u4, u7, u8, u9, u10, u11, u12, u13, u14, u15, u16, u17, u18, u19, u20, u21, u22, u23, u24, u25, u26, u27, u28, u29, u30, u31, u32, u33, u34, u35, u36, u37, u38, u39, u40, rfl, HA, rfl⟩
    cases n with
    | zero => exact absurd HA.out (by simp [varint_Take.l0])
    | succ k1 =>
      have H := HA.out
      clear HA
      simp only [varint_Take.l0] at H
      by_cases c0 : 0 ≤ x6
      case neg => rw [if_neg c0] at H; exact absurd H (by simp)
      rw [if_pos c0] at H
      by_cases c1 : x6 ≤ 10
      case neg => rw [if_neg c1] at H; exact absurd H (by simp)
      rw [if_pos c1] at H
      by_cases c2 : x6 = (l0.length : Int)
      · rw [if_pos c2] at H
        have c2b : (x6 == (l0.length : Int)) = true := beq_iff_eq.mpr c2
        clear c2
        simp only [Option.some.injEq, Prod.mk.injEq] at H
        obtain ⟨rfl, rfl, rfl⟩ := H
        go_wp2
        simp only [Exit.jump]
        go_ret3
        exact ⟨rfl, Drawn0.refl _⟩
      rw [if_neg c2] at H
      have c2b : (x6 == (l0.length : Int)) = false := beq_eq_false_iff_ne.mpr c2
      clear c2
      by_cases c3 : x6 = 10
      · rw [if_pos c3] at H
        have c3b : (x6 == 10) = true := beq_iff_eq.mpr c3
        clear c3
        simp only [Option.some.injEq, Prod.mk.injEq] at H
        obtain ⟨rfl, rfl, rfl⟩ := H
        go_wp2
        simp only [Exit.jump]
        go_ret3
        exact ⟨rfl, Drawn0.refl _⟩
      rw [if_neg c3] at H
      have c3b : (x6 == 10) = false := beq_eq_false_iff_ne.mpr c3
      have c9 : x6 ≤ 9 := by omega
      clear c3 c1
      by_cases c4 : x6 < (l0.length : Int)
      case neg => rw [if_neg c4] at H; exact absurd H (by simp)
      rw [if_pos c4] at H
      obtain ⟨ad, e, hx⟩ := Kd.at_int HR0.out x6 c0 c4
      subst e
      by_cases c5 : x6 = 9 ∧ 1 < rd l0 x6
      · rw [if_pos c5] at H
        have c5b : (x6 == 9) = true := beq_iff_eq.mpr c5.1
        have c6b : decide (1 < rd l0 x6) = true := decide_eq_true c5.2
        clear c5
        simp only [Option.some.injEq, Prod.mk.injEq] at H
        obtain ⟨rfl, rfl, rfl⟩ := H
        go_wp2
        simp only [Exit.jump]
        go_ret3
        exact ⟨rfl, Drawn0.refl _⟩
      rw [if_neg c5] at H
      have c5c : (x6 == 9) = false ∨ ((x6 == 9) = true ∧ decide (1 < rd l0 x6) = false) := by
        by_cases h9 : x6 = 9
        · exact .inr ⟨beq_iff_eq.mpr h9, decide_eq_false fun h => c5 ⟨h9, h⟩⟩
        · exact .inl (beq_eq_false_iff_ne.mpr h9)
      clear c5
      by_cases c7 : Go.bits .and .u8 (rd l0 x6) 128 = 0
      · rw [if_pos c7] at H
        have c7b : (Go.bits .and .u8 (rd l0 x6) 128 != 0) = false := bne_eq_false_iff_eq.mpr c7
        clear c7
        simp only [Option.some.injEq, Prod.mk.injEq] at H
        obtain ⟨rfl, rfl, rfl⟩ := H
        rcases c5c with c5b | ⟨c5b, c6b⟩
        all_goals
          go_wp2
          simp only [Exit.jump]
          go_ret3
          exact ⟨rfl, Drawn0.refl _⟩
      · rw [if_neg c7] at H
        have c7b : (Go.bits .and .u8 (rd l0 x6) 128 != 0) = true := bne_iff_ne.mpr c7
        clear c7
        have H2 := Aside0.mk H
        clear H
        rcases c5c with c5b | ⟨c5b, c6b⟩
        all_goals
          go_wp2
          go_step3
          exact ⟨rfl, k1, Nat.lt_succ_self _, _, x6 + 1, _, _, _, _, _, _, _, _, _, _, _, _, _, _, _, _, _, _, _, _, _, _, _, _, _, _, _, _, _, _, _, _, _, _, _, _, _, _, rfl, H2, rfl⟩
end Go.Proofs.Yteopaifokfmnjaa.Tk
