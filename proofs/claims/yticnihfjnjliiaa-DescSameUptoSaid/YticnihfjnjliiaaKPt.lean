/- glossary/varint.Put, proved by hand. -/
import Derived.Test.YticnihfjnjliiaaProg
import Derived.Below
import Derived.Deep.Draws
import Derived.Deep.AppendLies
import Derived.Maps.AppendAt
import Derived.OwnWalk
import Derived.Laws.BytesArg
import Derived.Laws.MakeOwn
import Derived.Laws.OwnMore
import Derived.Deep.OwnRows
import Derived.Tactics
import Derived.Lib.ConvBytes
import Derived.Laws.Slices
import Derived.WalkKit
import Derived.KernelRfl
import Derived.RowKit3
import Derived.Deep.LoopGhost
import Derived.Deep.QuietTactic
import Derived.BigQuiet
import Derived.WideLaws
import Derived.Deep.DeepCutAuto
import Derived.Deep.CutBlock
import Derived.Deep.RegionHeld3
import Derived.Laws.Rows
import Derived.Lib.AppendStr
import Derived.ArgAppend
import Derived.Laws.IdiomCopy
import Derived.OrdersHeld
import Derived.Laws.BitsLemmas
import Derived.RowKit
import Derived.Test.YticnihfjnjliiaaKW
import Derived.Test.YticnihfjnjliiaaKBase
namespace Go.Proofs.Yticnihfjnjliiaa.Pt
open Go.RowKit Go.Proofs.YticnihfjnjliiaaW.PrintWords Go.Proofs.YticnihfjnjliiaaW.PrintLast Go.Proofs.YticnihfjnjliiaaW.PrintMore
attribute [local go_sem] max2_int min2_int max_two min_two max_three min_three max_four min_four
set_option linter.unusedVariables false
set_option linter.unusedSimpArgs false
theorem info5 : (Try.prog.info? 5).map (fun i => (i.zero, i.size, i.bytes)) = some (some (.int .u8 0), 1, 1) := by kernel_rfl
def varint_Put.l0 : Nat → Int → List Int → Option (List Int)
 | 0, _, _ => none
 | k + 1, x0, x3 => if x3.length < 140737488355328 then (if x0 < 128 then some (x3 ++ [x0 % 256]) else varint_Put.l0 k (x0 / 128) (x3 ++ [Go.bits .or .u8 (x0 % 256) 128])) else none
def varint_Put.f (k : Nat) (a0 : Int) : Option (List Int) := varint_Put.l0 k a0 ([] : List Int)
set_option maxHeartbeats 8000000 in
set_option maxRecDepth 100000 in
theorem varint_Put.calls (k : Nat) (a0 : Int) (r : List Int) (w : World) (h : varint_Put.f k a0 = some r) :
 Calls Try.prog 91 #[.int .u64 a0] w fun e w' => ∃ v0_ : Value, e = .returned (v0_) ∧ Kd.R (Kd.int .u8) 5 w' w.heap.size (fun _ => True) v0_ r ∧ Below w.heap.size w w' := by
 have H' := mk0 h
 clear h
 go_enter Try.func91, Try.ntmps91
 go_wp2
 refine Base.wp_scope_loop 0 (fun n a' w' => ∃ (x0 : Int) (x3 : List Int) (v3 u1 u2 u4 u5 u6 u7 u8 u9 u10 u11 u12 u13 u14 u15 u16 u17 u18 : Value), a' = { tmps := #[.int .u64 x0, u1, u2, v3, u4, u5, u6, u7, u8, u9, u10, u11, u12, u13, u14, u15, u16, u17, u18], defers := [] } ∧ Aside0 (varint_Put.l0 n x0 x3 = some r) ∧ Aside0 (Kd.R (Kd.int .u8) 5 w' w.heap.size (fun _ => True) v3 x3) ∧ Aside0 (Below w.heap.size w w')) rfl ?pass ?first
 case first =>
  intro hpass
  go_wp2
  go_step3
  rename_i K hK
  exact hK _ _ (hpass k _ _ ⟨a0, [], .slice none 0 0, _, _, _, _, _, _, _, _, _, _, _, _, _, _, _, _, _, rfl, H', ⟨Kd.R_nil _ _ _ _ _⟩, ⟨Below.refl _ _⟩⟩)
 case pass =>
  rintro n a' w' ⟨x0, x3, v3, u1, u2, u4, u5, u6, u7, u8, u9, u10, u11, u12, u13, u14, u15, u16, u17, u18, rfl, HA, HO, HB⟩
  cases n with
  | zero => exact absurd HA.out (by simp [varint_Put.l0])
  | succ k1 =>
   have H := HA.out
   clear HA
   simp only [varint_Put.l0] at H
   by_cases c3 : x3.length < 140737488355328
   · rw [if_pos c3] at H
     have LMc3 := mk0 c3
     clear c3
     by_cases c2 : x0 < 128
     · rw [if_pos c2] at H
       have c2b0 : decide (x0 < 128) = true := decide_eq_true c2
       clear c2
       obtain ⟨y101, hy101⟩ : ∃ y_ : List Int, y_ = (x3 ++ [(x0) % 256]) := ⟨_, rfl⟩
       replace H : (some y101) = some r := by rw [hy101]; exact H
       have Ny101 := mk0 hy101
       clear hy101
       obtain rfl := Option.some.inj H
       clear H
       go_wp2_with (first | ((with_reducible refine gate_builtin (b := .append) (xs := #[.tmp 6, .tmp 9]) rfl ?_); at_builtin; refine Kd.R_append (Kd.int .u8) (w0 := w) w.heap.size rfl (.tmp 6) (.tmp 9) 28 5 (.int .u8 0) 1 rfl Try.underlying28 info5 rfl (by decide) (by omega) v3 x3 ((x0) % 256) [.int .u8 ((x0) % 256)] (fun _ => True) (fun _ => False) rfl rfl ?aP (fun _ hk => hk.elim) ?aF ?aO ?aB ?aS ?aL ?_; (case aP => exact rfl); (case aB => exact (by repeat (first | (with_reducible first | exact HB.out | apply below_alloc | apply pw_below_drewN | apply below_drew1) | exact HB.out))); (case aF => exact (fun _ _ => trivial)); (case aO => exact (by (with_reducible repeat (first | apply Kd.R_alloc | apply Kd.R_drewN | apply Kd.R_drew)); exact HO.out)); (case aS => exact (below_size (by repeat (first | (with_reducible first | exact HB.out | apply below_alloc | apply pw_below_drewN | apply below_drew1) | exact HB.out)))); (case aL => have := LMc3.out; omega); intro v105 w6 ho hb hg hat; rw [← Ny101.out] at ho; have n0_ := mk0 (hb); have n1_ := mk0 (ho); clear HB; clear HO; have HB := n0_; have HO106 := n1_; clear n0_ n1_; clear ho hb hg hat))
       simp only [Exit.jump]
       go_ret
       exact ⟨_, rfl, HO106.out, HB.out⟩
     · rw [if_neg c2] at H
       have c2b0 : decide (x0 < 128) = false := decide_eq_false c2
       clear c2
       obtain ⟨y101, hy101⟩ : ∃ y_ : List Int, y_ = (x3 ++ [Go.bits .or .u8 (x0 % 256) 128]) := ⟨_, rfl⟩
       replace H : varint_Put.l0 k1 (x0 / 128) y101 = some r := by rw [hy101]; exact H
       have Ny101 := mk0 hy101
       clear hy101
       have H2 := mk0 H
       clear H
       go_wp2_with (first | ((with_reducible refine gate_builtin (b := .append) (xs := #[.tmp 11, .tmp 15]) rfl ?_); at_builtin; refine Kd.R_append (Kd.int .u8) (w0 := w) w.heap.size rfl (.tmp 11) (.tmp 15) 28 5 (.int .u8 0) 1 rfl Try.underlying28 info5 rfl (by decide) (by omega) v3 x3 (Go.bits .or .u8 (x0 % 256) 128) [.int .u8 (Go.bits .or .u8 (x0 % 256) 128)] (fun _ => True) (fun _ => False) rfl rfl ?aP (fun _ hk => hk.elim) ?aF ?aO ?aB ?aS ?aL ?_; (case aP => exact rfl); (case aB => exact (by repeat (first | (with_reducible first | exact HB.out | apply below_alloc | apply pw_below_drewN | apply below_drew1) | exact HB.out))); (case aF => exact (fun _ _ => trivial)); (case aO => exact (by (with_reducible repeat (first | apply Kd.R_alloc | apply Kd.R_drewN | apply Kd.R_drew)); exact HO.out)); (case aS => exact (below_size (by repeat (first | (with_reducible first | exact HB.out | apply below_alloc | apply pw_below_drewN | apply below_drew1) | exact HB.out)))); (case aL => have := LMc3.out; omega); intro v105 w6 ho hb hg hat; rw [← Ny101.out] at ho; have n0_ := mk0 (hb); have n1_ := mk0 (ho); clear HB; clear HO; have HB := n0_; have HO106 := n1_; clear n0_ n1_; clear ho hb hg hat))
       go_step3
       exact ⟨rfl, k1, Nat.lt_succ_self _, x0 / 128, y101, v105, _, _, _, _, _, _, _, _, _, _, _, _, _, _, _, _, _, rfl, H2, HO106, HB⟩
   · rw [if_neg c3] at H
     exact absurd H (by simp)
end Go.Proofs.Yticnihfjnjliiaa.Pt
