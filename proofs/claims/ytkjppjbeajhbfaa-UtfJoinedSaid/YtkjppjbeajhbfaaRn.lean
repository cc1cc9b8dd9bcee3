/- glossary/utf.Rune, proved by hand. -/
import Derived.Test.YtkjppjbeajhbfaaProg
import Derived.Below
import Derived.Deep.Draws
import Derived.Deep.AppendLies
import Derived.Maps.AppendAt
import Derived.OwnWalk
import Derived.Laws.BytesArg
import Derived.Laws.MakeOwn
import Derived.Laws.OwnMore
import Derived.Deep.OwnRows
import Derived.Tactics
import Derived.Lib.ConvBytes
import Derived.Laws.Slices
import Derived.WalkKit
import Derived.KernelRfl
import Derived.RowKit3
import Derived.Deep.LoopGhost
import Derived.Deep.QuietTactic
import Derived.BigQuiet
import Derived.WideLaws
import Derived.Deep.DeepCutAuto
import Derived.Deep.CutBlock
import Derived.Deep.RegionHeld3
import Derived.Laws.Rows
import Derived.Lib.AppendStr
import Derived.ArgAppend
import Derived.Laws.IdiomCopy
import Derived.OrdersHeld
import Derived.Laws.BitsLemmas
import Derived.RowKit
import Derived.Test.YtkjppjbeajhbfaaWWords
import Derived.Test.YtkjppjbeajhbfaaWLast
import Derived.Test.YtkjppjbeajhbfaaWTab
import Derived.Test.YtkjppjbeajhbfaaWFour
import Derived.Test.YtkjppjbeajhbfaaWQPut
import Derived.Test.YtkjppjbeajhbfaaWApart
import Derived.Test.YtkjppjbeajhbfaaWArr
import Derived.Test.YtkjppjbeajhbfaaWZeros
import Derived.Test.YtkjppjbeajhbfaaWFoot
import Derived.Test.YtkjppjbeajhbfaaWKept
import Derived.Test.YtkjppjbeajhbfaaWShare
import Derived.Test.YtkjppjbeajhbfaaWN
import Derived.Test.YtkjppjbeajhbfaaWFootNe
import Derived.Test.YtkjppjbeajhbfaaWAt
import Derived.Test.YtkjppjbeajhbfaaWEqStruct
import Derived.Test.YtkjppjbeajhbfaaWRepsOne
import Derived.Test.YtkjppjbeajhbfaaWInv
import Derived.Test.YtkjppjbeajhbfaaWInvWords
import Derived.Test.YtkjppjbeajhbfaaWGuard
import Derived.Test.YtkjppjbeajhbfaaWNEv
import Derived.Test.YtkjppjbeajhbfaaWMore
import Derived.Test.YtkjppjbeajhbfaaBase
import Derived.Test.YtkjppjbeajhbfaaLst
namespace Go.Proofs.Ytkjppjbeajhbfaa.Rn
open Go.RowKit Go.Proofs.YtkjppjbeajhbfaaW.PrintWords Go.Proofs.YtkjppjbeajhbfaaW.PrintLast Go.Proofs.YtkjppjbeajhbfaaW.PrintMore
attribute [local go_sem] max2_int min2_int max_two min_two max_three min_three max_four min_four   -- for this text's walks alone
set_option linter.unusedVariables false
set_option linter.unusedSimpArgs false

open Go.Proofs.Ytkjppjbeajhbfaa.Lst
def utf_Rune.least (sz : Int) : Int := if sz = 2 then 128 else if sz = 3 then 2048 else 65536
def utf_Rune.fin (sz x : Int) : Option (Int × Int) := if x < utf_Rune.least sz then some (-1, 0) else if 1114111 < x then some (-1, 0) else if x / 2048 = 27 then some (-1, 0) else some (x, sz)
def utf_Rune.l0 : Nat → List Int → Int → Int → Int → Option (Int × Int)
  | 0, _, _, _, _ => none
  | k + 1, l0, sz, x, i => if 1 ≤ i ∧ i < sz ∧ (sz = 2 ∨ sz = 3 ∨ sz = 4) ∧ 0 ≤ x ∧ x < 32768 then
      (if i = (l0.length : Int) then some (-1, 0) else (if i < (l0.length : Int) then (if rd l0 i / 64 = 2 then
        (if i + 1 < sz then utf_Rune.l0 k l0 sz (Go.bits .or .i32 (x * 64) (wrap32 (Go.bits .and .u8 (rd l0 i) 63))) (i + 1) else utf_Rune.fin sz (Go.bits .or .i32 (x * 64) (wrap32 (Go.bits .and .u8 (rd l0 i) 63)))) else some (-1, 0)) else none)) else none
def utf_Rune.f (k : Nat) (l0 : List Int) : Option (Int × Int) :=
  if (l0.length : Int) = 0 then some (-1, 0) else (if 0 < (l0.length : Int) then (if rd l0 0 < 128 then some (wrap32 (rd l0 0), 1) else (if rd l0 0 / 32 = 6 then utf_Rune.l0 k l0 2 (wrap32 (Go.bits .and .u8 (rd l0 0) 31)) 1 else (if rd l0 0 / 16 = 14 then utf_Rune.l0 k l0 3 (wrap32 (Go.bits .and .u8 (rd l0 0) 15)) 1 else (if rd l0 0 / 8 = 30 then utf_Rune.l0 k l0 4 (wrap32 (Go.bits .and .u8 (rd l0 0) 7)) 1 else some (-1, 0))))) else none)
theorem utf_Rune.mono_l : ∀ k y0 y1 y2 y3, LeO (utf_Rune.l0 k y0 y1 y2 y3) (utf_Rune.l0 (k + 1) y0 y1 y2 y3)
  | 0 => fun _ _ _ _ r h => by simp [utf_Rune.l0] at h
  | k + 1 => by
    have ih0 := utf_Rune.mono_l k
    intro y0 y1 y2 y3
    unfold utf_Rune.l0
    exact LeO.ite (LeO.ite (LeO.refl _) (LeO.ite (LeO.ite (LeO.ite (ih0 _ _ _ _) (LeO.refl _)) (LeO.refl _)) (LeO.refl _))) (LeO.refl _)
theorem utf_Rune.mono : ∀ a0 k, LeO (utf_Rune.f k a0) (utf_Rune.f (k + 1) a0) := fun a0 k => LeO.ite (LeO.refl _) (LeO.ite (LeO.ite (LeO.refl _) (LeO.ite (utf_Rune.mono_l _ _ _ _ _) (LeO.ite (utf_Rune.mono_l _ _ _ _ _) (LeO.ite (utf_Rune.mono_l _ _ _ _ _) (LeO.refl _))))) (LeO.refl _))
set_option maxHeartbeats 8000000 in
set_option maxRecDepth 100000 in
theorem utf_Rune.calls (k : Nat) (A0 : Option Addr) (c0 : Nat) (l0 : List Int) (r1 : Int) (r2 : Int) (w : World) (hr0 : Kd.C (Kd.int .u8) w A0 l0.length l0) (hc0 : l0.length ≤ c0) (h : utf_Rune.f k l0 = some (r1, r2)) :
    Calls Try.prog 10 #[.slice A0 l0.length c0] w fun e w' => e = .returned (.tuple #[.int .i32 r1, .int .i64 r2]) ∧ Below w.heap.size w w' := by
  have HR0 := Aside0.mk hr0
  clear hr0 hc0
  have ix2 : ∀ w, (Instr.index 36 (.agg #[.int .i32 0, .int .i32 0, .int .i32 128, .int .i32 2048, .int .i32 65536]) (.int .i64 2)).run Try.prog w = .ok (.int .i32 128) w := fun _ => by kernel_rfl
  have ix3 : ∀ w, (Instr.index 36 (.agg #[.int .i32 0, .int .i32 0, .int .i32 128, .int .i32 2048, .int .i32 65536]) (.int .i64 3)).run Try.prog w = .ok (.int .i32 2048) w := fun _ => by kernel_rfl
  have ix4 : ∀ w, (Instr.index 36 (.agg #[.int .i32 0, .int .i32 0, .int .i32 128, .int .i32 2048, .int .i32 65536]) (.int .i64 4)).run Try.prog w = .ok (.int .i32 65536) w := fun _ => by kernel_rfl
  go_enter Try.func10, Try.ntmps10
  go_wp2
  refine Base.wp_scope_loop 0 (fun n a' w' => ∃ (sz x i : Int) (u1 u2 u3 u4 u8 u9 u10 u11 u12 u13 u14 u15 u16 u17 u18 u19 u20 u21 u22 u23 u24 u25 u26 u27 u28 u29 u30 u31 u32 u33 u34 u35 u36 u37 u38 u39 u40 u41 u42 u43 u44 u45 u46 u47 u48 u49 u50 u51 u52 u53 u54 u55 u56 u57 u58 u59 u60 u61 u62 u63 u64 u65 u66 u67 u68 u69 u70 u71 u72 u73 u74 u75 u76 u77 u78 u79 u80 u81 u82 : Value), a' = { tmps := #[.slice A0 l0.length c0, u1, u2, u3, u4, .int .i64 sz, .int .i32 x, .int .i64 i, u8, u9, u10, u11, u12, u13, u14, u15, u16, u17, u18, u19, u20, u21, u22, u23, u24, u25, u26, u27, u28, u29, u30, u31, u32, u33, u34, u35, u36, u37, u38, u39, u40, u41, u42, u43, u44, u45, u46, u47, u48, u49, u50, u51, u52, u53, u54, u55, u56, u57, u58, u59, u60, u61, u62, u63, u64, u65, u66, u67, u68, u69, u70, u71, u72, u73, u74, u75, u76, u77, u78, u79, u80, u81, u82], defers := [] } ∧ Aside0 (utf_Rune.l0 n l0 sz x i = some (r1, r2)) ∧ w' = w) rfl ?pass ?first
  case first =>
    clear ix2 ix3 ix4
    intro hpass
    simp only [utf_Rune.f] at h
    by_cases c1 : (l0.length : Int) = 0
    · rw [if_pos c1] at h
      have c1b : ((l0.length : Int) == 0) = true := beq_iff_eq.mpr c1
      clear c1
      simp only [Option.some.injEq, Prod.mk.injEq] at h
      obtain ⟨rfl, rfl⟩ := h
      go_wp2
      simp only [Exit.jump]
      go_ret2
      exact ⟨rfl, Below.refl _ _⟩
    rw [if_neg c1] at h
    have c1b : ((l0.length : Int) == 0) = false := beq_eq_false_iff_ne.mpr c1
    clear c1
    by_cases c2 : 0 < (l0.length : Int)
    case neg => rw [if_neg c2] at h; exact absurd h (by simp)
    rw [if_pos c2] at h
    obtain ⟨ad, e, hx⟩ := Kd.at_int HR0.out 0 (by omega) c2
    subst e
    rw [show ((0 : Int)).toNat = 0 from rfl, Addr.add_zero'] at hx
    have c2b : (0 < l0.length) = True := eq_true (by omega)
    by_cases c3 : rd l0 0 < 128
    · rw [if_pos c3] at h
      have c3b : decide (rd l0 0 < 128) = true := decide_eq_true c3
      clear c3
      simp only [Option.some.injEq, Prod.mk.injEq] at h
      obtain ⟨rfl, rfl⟩ := h
      go_wp2
      simp only [Exit.jump]
      go_ret2
      exact ⟨rfl, Below.refl _ _⟩
    rw [if_neg c3] at h
    have c3b : decide (rd l0 0 < 128) = false := decide_eq_false c3
    clear c3
    by_cases c4 : rd l0 0 / 32 = 6
    · rw [if_pos c4] at h
      have c4b : (rd l0 0 / 32 == 6) = true := beq_iff_eq.mpr c4
      clear c4
      have H := Aside0.mk h
      clear h
      go_wp2
      go_step3
      rename_i K hK
      exact hK _ _ (hpass k _ _ ⟨_, _, _, _, _, _, _, _, _, _, _, _, _, _, _, _, _, _, _, _, _, _, _, _, _, _, _, _, _, _, _, _, _, _, _, _, _, _, _, _, _, _, _, _, _, _, _, _, _, _, _, _, _, _, _, _, _, _, _, _, _, _, _, _, _, _, _, _, _, _, _, _, _, _, _, _, _, _, _, _, _, _, rfl, H, rfl⟩)
    rw [if_neg c4] at h
    have c4b : (rd l0 0 / 32 == 6) = false := beq_eq_false_iff_ne.mpr c4
    clear c4
    by_cases c5 : rd l0 0 / 16 = 14
    · rw [if_pos c5] at h
      have c5b : (rd l0 0 / 16 == 14) = true := beq_iff_eq.mpr c5
      clear c5
      have H := Aside0.mk h
      clear h
      go_wp2
      go_step3
      rename_i K hK
      exact hK _ _ (hpass k _ _ ⟨_, _, _, _, _, _, _, _, _, _, _, _, _, _, _, _, _, _, _, _, _, _, _, _, _, _, _, _, _, _, _, _, _, _, _, _, _, _, _, _, _, _, _, _, _, _, _, _, _, _, _, _, _, _, _, _, _, _, _, _, _, _, _, _, _, _, _, _, _, _, _, _, _, _, _, _, _, _, _, _, _, _, rfl, H, rfl⟩)
    rw [if_neg c5] at h
    have c5b : (rd l0 0 / 16 == 14) = false := beq_eq_false_iff_ne.mpr c5
    clear c5
    by_cases c6 : rd l0 0 / 8 = 30
    · rw [if_pos c6] at h
      have c6b : (rd l0 0 / 8 == 30) = true := beq_iff_eq.mpr c6
      clear c6
      have H := Aside0.mk h
      clear h
      go_wp2
      go_step3
      rename_i K hK
      exact hK _ _ (hpass k _ _ ⟨_, _, _, _, _, _, _, _, _, _, _, _, _, _, _, _, _, _, _, _, _, _, _, _, _, _, _, _, _, _, _, _, _, _, _, _, _, _, _, _, _, _, _, _, _, _, _, _, _, _, _, _, _, _, _, _, _, _, _, _, _, _, _, _, _, _, _, _, _, _, _, _, _, _, _, _, _, _, _, _, _, _, rfl, H, rfl⟩)
    rw [if_neg c6] at h
    have c6b : (rd l0 0 / 8 == 30) = false := beq_eq_false_iff_ne.mpr c6
    clear c6
    simp only [Option.some.injEq, Prod.mk.injEq] at h
    obtain ⟨rfl, rfl⟩ := h
    go_wp2
    simp only [Exit.jump]
    go_ret2
    exact ⟨rfl, Below.refl _ _⟩
  case pass =>
    clear h
    rintro n a' w' ⟨sz, x, i, u1, u2, u3, u4, u8, u9, u10, u11, u12, u13, u14, u15, u16, u17, u18, u19, u20, u21, u22, u23, u24, u25, u26, u27, u28, u29, u30, u31, u32, u33, u34, u35, u36, u37, u38, u39, u40, u41, u42, u43, u44, u45, u46, u47, u48, u49, u50, u51, u52, u53, u54, u55, u56, u57, u58, u59, u60, u61, u62, u63, u64, u65, u66, u67, u68, u69, u70, u71, u72, u73, u74, u75, u76, u77, u78, u79, u80, u81, u82, rfl, HA, rfl⟩
    cases n with
    | zero => exact absurd HA.out (by simp [utf_Rune.l0])
    | succ k1 =>
      have H := HA.out
      clear HA
      simp only [utf_Rune.l0] at H
      by_cases c0 : 1 ≤ i ∧ i < sz ∧ (sz = 2 ∨ sz = 3 ∨ sz = 4) ∧ 0 ≤ x ∧ x < 32768
      case neg => rw [if_neg c0] at H; exact absurd H (by simp)
      rw [if_pos c0] at H
      obtain ⟨i1, i2, hsz, x0, x1⟩ := c0
      have i4 : i ≤ 3 := by omega
      by_cases c2 : i = (l0.length : Int)
      · rw [if_pos c2] at H
        have c2b : (i == (l0.length : Int)) = true := beq_iff_eq.mpr c2
        clear c2
        simp only [Option.some.injEq, Prod.mk.injEq] at H
        obtain ⟨rfl, rfl⟩ := H
        clear hsz ix2 ix3 ix4
        go_wp2
        simp only [Exit.jump]
        go_ret2
        exact ⟨rfl, Below.refl _ _⟩
      rw [if_neg c2] at H
      have c2b : (i == (l0.length : Int)) = false := beq_eq_false_iff_ne.mpr c2
      clear c2
      by_cases c4 : i < (l0.length : Int)
      case neg => rw [if_neg c4] at H; exact absurd H (by simp)
      rw [if_pos c4] at H
      obtain ⟨ad, e, hx⟩ := Kd.at_int HR0.out i (by omega) c4
      subst e
      have i0 : 0 ≤ i := by omega
      by_cases c5 : rd l0 i / 64 = 2
      case neg =>
        rw [if_neg c5] at H
        have c5b : (rd l0 i / 64 != 2) = true := bne_iff_ne.mpr c5
        clear c5
        simp only [Option.some.injEq, Prod.mk.injEq] at H
        obtain ⟨rfl, rfl⟩ := H
        clear hsz ix2 ix3 ix4
        go_wp2
        simp only [Exit.jump]
        go_ret2
        exact ⟨rfl, Below.refl _ _⟩
      rw [if_pos c5] at H
      have c5b : (rd l0 i / 64 != 2) = false := bne_eq_false_iff_eq.mpr c5
      clear c5
      by_cases c6 : i + 1 < sz
      · rw [if_pos c6] at H
        have c6b : decide (i + 1 < sz) = true := decide_eq_true c6
        clear c6
        have H2 := Aside0.mk H
        clear H hsz ix2 ix3 ix4
        go_wp2
        go_step3
        exact ⟨rfl, k1, Nat.lt_succ_self _, _, _, i + 1, _, _, _, _, _, _, _, _, _, _, _, _, _, _, _, _, _, _, _, _, _, _, _, _, _, _, _, _, _, _, _, _, _, _, _, _, _, _, _, _, _, _, _, _, _, _, _, _, _, _, _, _, _, _, _, _, _, _, _, _, _, _, _, _, _, _, _, _, _, _, _, _, _, _, _, _, _, _, _, rfl, H2, rfl⟩
      rw [if_neg c6] at H
      have c6b : decide (i + 1 < sz) = false := decide_eq_false c6
      clear c6
      obtain ⟨y, hy⟩ : ∃ y, y = Go.bits .or .i32 (x * 64) (wrap32 (Go.bits .and .u8 (rd l0 i) 63)) := ⟨_, rfl⟩
      rw [← hy] at H
      have Hy := Aside0.mk hy
      clear hy
      have hls : ∃ ls : Int, utf_Rune.least sz = ls ∧ ∀ w, (Instr.index 36 (.agg #[.int .i32 0, .int .i32 0, .int .i32 128, .int .i32 2048, .int .i32 65536]) (.int .i64 sz)).run Try.prog w = .ok (.int .i32 ls) w := by
        rcases hsz with rfl | rfl | rfl
        · exact ⟨128, by decide, ix2⟩
        · exact ⟨2048, by decide, ix3⟩
        · exact ⟨65536, by decide, ix4⟩
      obtain ⟨ls, hl, ixs⟩ := hls
      clear hsz ix2 ix3 ix4
      simp only [utf_Rune.fin, hl] at H
      clear hl
      go_upto_region 20 with (fail)
      rw [← Hy.out]
      by_cases d1 : y < ls
      · rw [if_pos d1] at H
        have d1b : decide (y < ls) = true := decide_eq_true d1
        clear d1
        simp only [Option.some.injEq, Prod.mk.injEq] at H
        obtain ⟨rfl, rfl⟩ := H
        go_wp2_with (go_at_call 17; (with_reducible refine (utf_least.calls _).mono ?_); rintro e w' ⟨rfl, hb⟩)
        simp only [Exit.jump]
        go_ret2
        exact ⟨rfl, hb⟩
      rw [if_neg d1] at H
      have d1b : decide (y < ls) = false := decide_eq_false d1
      clear d1
      by_cases d2 : 1114111 < y
      · rw [if_pos d2] at H
        have d2b : decide (1114111 < y) = true := decide_eq_true d2
        clear d2
        simp only [Option.some.injEq, Prod.mk.injEq] at H
        obtain ⟨rfl, rfl⟩ := H
        go_wp2_with (go_at_call 17; (with_reducible refine (utf_least.calls _).mono ?_); rintro e w' ⟨rfl, hb⟩)
        simp only [Exit.jump]
        go_ret2
        exact ⟨rfl, hb⟩
      rw [if_neg d2] at H
      have d2b : decide (1114111 < y) = false := decide_eq_false d2
      clear d2
      by_cases d3 : y / 2048 = 27
      · rw [if_pos d3] at H
        have d3b : (y / 2048 == 27) = true := beq_iff_eq.mpr d3
        clear d3
        simp only [Option.some.injEq, Prod.mk.injEq] at H
        obtain ⟨rfl, rfl⟩ := H
        go_wp2_with (go_at_call 17; (with_reducible refine (utf_least.calls _).mono ?_); rintro e w' ⟨rfl, hb⟩)
        simp only [Exit.jump]
        go_ret2
        exact ⟨rfl, hb⟩
      rw [if_neg d3] at H
      have d3b : (y / 2048 == 27) = false := beq_eq_false_iff_ne.mpr d3
      clear d3
      simp only [Option.some.injEq, Prod.mk.injEq] at H
      obtain ⟨rfl, rfl⟩ := H
      go_wp2_with (go_at_call 17; (with_reducible refine (utf_least.calls _).mono ?_); rintro e w' ⟨rfl, hb⟩)
      simp only [Exit.jump]
      go_ret2
      exact ⟨rfl, hb⟩
end Go.Proofs.Ytkjppjbeajhbfaa.Rn
