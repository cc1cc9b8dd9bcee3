/- glossary/wire.fields, proved by hand. -/
import Derived.Test.YteopaifokfmnjaaProg
import Derived.Below
import Derived.Deep.Draws
import Derived.Deep.AppendLies
import Derived.Maps.AppendAt
import Derived.OwnWalk
import Derived.Laws.BytesArg
import Derived.Laws.MakeOwn
import Derived.Laws.OwnMore
import Derived.Deep.OwnRows
import Derived.Tactics
import Derived.Lib.ConvBytes
import Derived.Laws.Slices
import Derived.WalkKit
import Derived.KernelRfl
import Derived.RowKit3
import Derived.Deep.LoopGhost
import Derived.Deep.QuietTactic
import Derived.BigQuiet
import Derived.WideLaws
import Derived.Deep.DeepCutAuto
import Derived.Deep.CutBlock
import Derived.Deep.RegionHeld3
import Derived.Laws.Rows
import Derived.Lib.AppendStr
import Derived.ArgAppend
import Derived.Laws.IdiomCopy
import Derived.OrdersHeld
import Derived.Laws.BitsLemmas
import Derived.RowKit
import Derived.Test.YteopaifokfmnjaaWWords
import Derived.Test.YteopaifokfmnjaaWLast
import Derived.Test.YteopaifokfmnjaaWTab
import Derived.Test.YteopaifokfmnjaaWFour
import Derived.Test.YteopaifokfmnjaaWQPut
import Derived.Test.YteopaifokfmnjaaWApart
import Derived.Test.YteopaifokfmnjaaWArr
import Derived.Test.YteopaifokfmnjaaWZeros
import Derived.Test.YteopaifokfmnjaaWFoot
import Derived.Test.YteopaifokfmnjaaWKept
import Derived.Test.YteopaifokfmnjaaWShare
import Derived.Test.YteopaifokfmnjaaWN
import Derived.Test.YteopaifokfmnjaaWFootNe
import Derived.Test.YteopaifokfmnjaaWAt
import Derived.Test.YteopaifokfmnjaaWEqStruct
import Derived.Test.YteopaifokfmnjaaWRepsOne
import Derived.Test.YteopaifokfmnjaaWInv
import Derived.Test.YteopaifokfmnjaaWInvWords
import Derived.Test.YteopaifokfmnjaaWGuard
import Derived.Test.YteopaifokfmnjaaWNEv
import Derived.Test.YteopaifokfmnjaaWMore
import Derived.Test.YteopaifokfmnjaaBase
import Derived.Test.YteopaifokfmnjaaRf
import Derived.Test.YteopaifokfmnjaaAp
namespace Go.Proofs.Yteopaifokfmnjaa.Fl
open Go.RowKit Go.Proofs.YteopaifokfmnjaaW.PrintWords Go.Proofs.YteopaifokfmnjaaW.PrintLast Go.Proofs.YteopaifokfmnjaaW.PrintMore
attribute [local go_sem] max2_int min2_int max_two min_two max_three min_three max_four min_four   -- for this text's walks alone
set_option linter.unusedVariables false
set_option linter.unusedSimpArgs false

open Go.Proofs.Yteopaifokfmnjaa.Rf Go.Proofs.Yteopaifokfmnjaa.Ap
attribute [local go_sem] Oper.semAt_some
open Go.Shelf
namespace In
theorem info_byte : (Try.prog.info? 5).map (fun i => (i.zero, i.size, i.bytes)) = some (some (.int .u8 0), 1, 1) := by kernel_rfl

theorem wpIn_loop_ghost {F : Fence} {n : Nat} {P : Program} {Q : Exit → Act → World → Prop} {a : Act} {w : World} {c : Code} (I : Nat → Act → World → Prop) (m : Nat) (h0 : I m a w)
    (zero : ∀ a w, ¬ I 0 a w) (round : ∀ m a w, I (m + 1) a w → c.wpIn F n P (Exit.then (I m) Q) a w) : (Code.loop c).wpIn F n P Q a w := by
  have key : ∀ m a w, I m a w → Code.roundsIn F n P c Q m a w := by
    intro m
    induction m with
    | zero => intro a w h; exact (zero a w h).elim
    | succ m ih =>
      intro a w h
      refine wpIn_mono (round m a w h) ?_
      intro e a' w' hq
      cases e with
      | normal => exact ih a' w' hq
      | _ => exact hq
  exact wpIn_loop_rounds m (key m a w h0)

/-- A field as the iterator hands it over, and what the iterator has beside it. -/
structure Y where
  at_ : Int
  num : Int
  kind : Int
  n : Int
  v : Value
  b : List Int
  m : Int
  bad : Int
/-- Where the reading stands. -/
structure St (β : Type) where
  acc : List β
  at_ : Int
  bad : Int
def encs (x : Y) : Array Value := #[.int .i64 x.at_, .agg #[.int .i64 x.num, .int .i64 x.kind, .int .u64 x.n, x.v]]
section
variable {β : Type} (mk : Int → Int → Int → List Int → β)
def nx (s : St β) (x : Y) : St β := if x.bad = 0 then ⟨s.acc ++ [mk x.num x.kind x.n x.b], wrap64 (s.at_ + x.m), 0⟩ else ⟨s.acc, s.at_, x.bad⟩
/-- What is read, in so many rounds. -/
def rdl (tf : Nat → List Int → Option (Int × Int × Int × List Int × Int × Int)) (l : List Int) : Nat → List β → Int → Option (List β × Int × Int)
  | 0, _, _ => none
  | k + 1, acc, i => if i < (l.length : Int) then (if 0 ≤ i then (tf k (l.drop i.toNat)).bind fun r => if r.2.2.2.2.2 = 0 then (if acc.length < 2932031007402 then rdl tf l k (acc ++ [mk r.1 r.2.1 r.2.2.1 r.2.2.2.1]) (wrap64 (i + r.2.2.2.2.1)) else none) else some ([], i, r.2.2.2.2.2) else none) else some (acc, 0, 0)
end
theorem rdl_mono {β : Type} (mk : Int → Int → Int → List Int → β) (tf : Nat → List Int → Option (Int × Int × Int × List Int × Int × Int)) (hm : ∀ l k, LeO (tf k l) (tf (k + 1) l)) (l : List Int) : ∀ k acc i, LeO (rdl mk tf l k acc i) (rdl mk tf l (k + 1) acc i)
  | 0 => fun _ _ r h => by simp [rdl] at h
  | k + 1 => by
    have ih := rdl_mono mk tf hm l k
    intro acc i
    unfold rdl
    exact LeO.ite (LeO.ite (LeO.bind (hm _ _) (fun r => LeO.ite (LeO.ite (ih _ _) (LeO.refl _)) (LeO.refl _))) (LeO.refl _)) (LeO.refl _)
def box (W : World) (g t : Nat) (v : Value) : Prop := W.heap[g]? = some (.cells #[v] t (0, 0))
section
variable {β : Type} (mk : Int → Int → Int → List Int → β) (kd : Kd β) (A0 : Option Addr) (c0 : Nat) (l0 : List Int) (w : World) (r1 : List β) (r2 r3 : Int)
/-- The variables' boxes: the answer's three, l, e, and the iterator's two. -/
def Boxes (v : Value) (e : Int) (W : World) : Prop :=
  (box W w.heap.size 28 (.slice none 0 0) ∧ box W (w.heap.size + 1) 3 (.int .i64 0) ∧ box W (w.heap.size + 2) 29 (.int .i64 0)) ∧ box W (w.heap.size + 3) 28 v ∧ box W (w.heap.size + 4) 29 (.int .i64 e) ∧
    box W (w.heap.size + 5) 23 (.slice A0 l0.length c0) ∧ box W (w.heap.size + 6) 65 (.pointer (some ⟨w.heap.size + 4, 0, none⟩)) ∧ Below w.heap.size w W ∧ w.heap.size + 7 ≤ W.heap.size
def I (s : St β) (W : World) : Prop := s.bad = 0 ∧ ∃ v, Boxes A0 c0 l0 w v 0 W ∧ Kd.S kd 25 W (w.heap.size + 7) (fun _ => True) v s.acc
def B (s : St β) (x : Y) (W : World) : Prop := (x.at_ = s.at_ ∧ (x.bad = 0 → s.acc.length < 2932031007402) ∧ (x.bad ≠ 0 → r1 = [] ∧ r2 = s.at_ ∧ r3 = x.bad)) ∧
  ∃ v, Boxes A0 c0 l0 w v x.bad W ∧ Kd.S kd 25 W (w.heap.size + 7) (fun k => some k ≠ x.v.ownBlock) v s.acc ∧ (Kd.int .u8).R 5 W (w.heap.size + 7) (fun _ => True) x.v x.b
/-- A round has left by a return. -/
def Ix (s : St β) (W : World) : Prop := (r1 = [] ∧ r2 = s.at_ ∧ r3 = s.bad) ∧ box W w.heap.size 28 (.slice none 0 0) ∧ box W (w.heap.size + 1) 3 (.int .i64 s.at_) ∧ box W (w.heap.size + 2) 29 (.int .i64 s.bad) ∧ Below w.heap.size w W

theorem box_cell {W : World} {g t : Nat} {v : Value} (h : box W g t v) : W.cell? ⟨g, 0, none⟩ = some v := (blk_cell h 0).trans rfl
theorem box_frozen {W : World} {g t : Nat} {v : Value} (h : box W g t v) : W.frozen? ⟨g, 0, none⟩ = false := blk_frozen h 0
theorem box_below {W W' : World} {g t : Nat} {v : Value} {n : Nat} (h : box W g t v) (hb : Below n W W') (hg : g < n) : box W' g t v := (hb.block g hg).trans h

theorem box_alloc {W : World} {g t : Nat} {v : Value} (o : Obj) (h : box W g t v) : box (W.alloc o) g t v := (Below.heap_alloc W o g (Array.getElem?_eq_some_iff.1 h).1).trans h
theorem box_set2 {W : World} {g t : Nat} {v : Value} (h : box W g t v) (p : Addr) (u : Value) (hne : g ≠ p.block) : box (W.setCell p u) g t v := (Below.heap_setCell W p u g hne).trans h
theorem box_drew {W : World} {g t : Nat} {v : Value} (h : box W g t v) : box W.drew g t v := h
theorem box_put {W : World} {g t : Nat} {u v : Value} (h : box W g t u) : box (W.setCell ⟨g, 0, none⟩ v) g t v := blk_put (cs := #[u]) h 0 _ rfl
def has (W : World) (g t : Nat) : Prop := ∃ v, box W g t v
theorem has_box {W : World} {g t : Nat} {v : Value} (h : box W g t v) : has W g t := ⟨v, h⟩
theorem box_hit {W : World} {g t : Nat} {v : Value} (h : has W g t) : box (W.setCell ⟨g, 0, none⟩ v) g t v := by
  obtain ⟨u, h⟩ := h
  exact box_put h
theorem has_set {W : World} {g t : Nat} (h : has W g t) (p : Addr) (u : Value) (hne : g ≠ p.block) : has (W.setCell p u) g t := by
  obtain ⟨v, h⟩ := h
  exact ⟨v, box_set2 h p u hne⟩
theorem box_obj {W : World} {g t : Nat} {v : Value} (D : Nat) (o : Obj) (h : box W g t v) (hne : g ≠ D) : box (W.putObj D o) g t v := (World.putObj_heap_other hne).trans h
theorem results_three {P : Program} {fn : Func} {p p' p2 : Tmp} {ty ty' ty2 : TypeId} (h : fn.results = #[.cell p ty, .cell p' ty', .cell p2 ty2]) (tmps : Array Value) (w : World) (g g' g2 : Nat) (t t' t2 : TypeId) (v v' v2 : Value)
    (hp : tmps.getD p undef = .pointer (some ⟨g, 0, none⟩)) (hg : box w g t v) (hp' : tmps.getD p' undef = .pointer (some ⟨g', 0, none⟩)) (hg' : box w g' t' v') (hp2 : tmps.getD p2 undef = .pointer (some ⟨g2, 0, none⟩)) (hg2 : box w g2 t2 v2)
    (hu : ∀ x ∈ [ty, ty', ty2], ∃ d, P.underlying x = some d ∧ (match d with | .struct _ | .array _ _ => false | _ => true) = true) :
    (results fn tmps).run P w = .ok (.tuple #[v, v', v2]) w := by
  have h1 : tmps[p]?.getD undef = .pointer (some ⟨g, 0, none⟩) := by simpa using hp
  have h2 : tmps[p']?.getD undef = .pointer (some ⟨g', 0, none⟩) := by simpa using hp'
  have h3 : tmps[p2]?.getD undef = .pointer (some ⟨g2, 0, none⟩) := by simpa using hp2
  have c1 := box_cell hg
  have c2 := box_cell hg'
  have c3 := box_cell hg2
  obtain ⟨d, u1, k1⟩ := hu ty (by simp)
  obtain ⟨d', u2, k2⟩ := hu ty' (by simp)
  obtain ⟨d2, u3, k3⟩ := hu ty2 (by simp)
  have l1 : ∀ {x : TypeId} {g0 : Nat} {d0 : TypeDesc} {v0 : Value}, P.underlying x = some d0 → (match d0 with | .struct _ | .array _ _ => false | _ => true) = true → w.cell? ⟨g0, 0, none⟩ = some v0 → (loadVar x ⟨g0, 0, none⟩).run P w = .ok v0 w := by
    intro x g0 d0 v0 hu0 hk0 hc0
    have hagg : (isAgg x).run P w = .ok false w := by
      unfold isAgg
      rw [Sem.run_bind, run_underlying hu0 w]
      cases d0 <;> simp_all
    simp [loadVar, Sem.run_bind, hagg, go_sem, hc0]
  simp [results, h, h1, h2, h3, asAddr, l1 u1 k1 c1, l1 u2 k2 c2, l1 u3 k3 c3, Result.andThen]
/-- **THE ITERATOR.** -/
theorem iter_in (n : Nat) (tf : Nat → List Int → Option (Int × Int × Int × List Int × Int × Int))
    (hT : ∀ k A c l a1 a2 a3 a4 a5 a6 W, Kd.C (Kd.int .u8) W A l.length l → l.length ≤ c → tf k l = some (a1, a2, a3, a4, a5, a6) → Calls Try.prog 18 #[.slice A l.length c] W fun e w' => ∃ v3_ : Value, e = .returned (.tuple #[.agg #[.int .i64 a1, .int .i64 a2, .int .u64 a3, v3_], .int .i64 a5, .int .i64 a6]) ∧ Kd.R (Kd.int .u8) 5 w' W.heap.size (fun _ => True) v3_ a4 ∧ Below W.heap.size W w')
    (hr0 : Kd.C (Kd.int .u8) w A0 l0.length l0) (hc0 : l0.length ≤ c0) (K : Nat) (l : Nat) (J Jx : St β → World → Prop) (W1 : World)
    (hR : Rounds Fence.wide n Try.prog l encs (I kd A0 c0 l0 w) (Ix w r1 r2 r3) (B kd A0 c0 l0 w r1 r2 r3) (nx mk) J Jx) (h0 : J ⟨[], 0, 0⟩ W1) (hk : rdl mk tf l0 K [] 0 = some (r1, r2, r3)) :
    CallsIn Fence.wide (n + 1) Try.prog 37 #[.func (.yield l) #[] #[], .pointer (some ⟨w.heap.size + 5, 0, none⟩), .pointer (some ⟨w.heap.size + 6, 0, none⟩)] W1 fun e W' =>
      (∃ v, e = .returned v) ∧ ((∃ s, (r1 = s.acc ∧ r2 = 0 ∧ r3 = 0) ∧ J s W') ∨ (∃ s, Jx s W')) := by
  obtain ⟨hJI, hJJ, hJxx, hY⟩ := hR
  refine callsIn_of_wp Try.func37 rfl trivial ?_ rfl
  simp only [Try.ntmps37, List.size_toArray, List.length_cons, List.length_nil, Nat.reduceAdd, Nat.reduceSub, Array.replicate_succ, Array.replicate_zero, List.push_toArray, List.append_toArray, List.nil_append, List.cons_append]
  gi_wp2
  refine wpIn_loop_ghost (fun m a' w' => ∃ (s : St β) (u5 u6 u7 u8 u9 u10 u11 u12 u13 u14 u15 u16 u17 u18 u19 u20 u21 u22 u23 u24 u25 u26 u27 u28 u29 u30 u31 u32 u33 u34 : Value), a' = { tmps := #[.func (.yield l) #[] #[], .pointer (some ⟨w.heap.size + 5, 0, none⟩), .pointer (some ⟨w.heap.size + 6, 0, none⟩), undef, .int .i64 s.at_, u5, u6, u7, u8, u9, u10, u11, u12, u13, u14, u15, u16, u17, u18, u19, u20, u21, u22, u23, u24, u25, u26, u27, u28, u29, u30, u31, u32, u33, u34], defers := [] } ∧ J s w' ∧ rdl mk tf l0 m s.acc s.at_ = some (r1, r2, r3)) K ⟨⟨[], 0, 0⟩, _, _, _, _, _, _, _, _, _, _, _, _, _, _, _, _, _, _, _, _, _, _, _, _, _, _, _, _, _, _, rfl, h0, hk⟩ ?zero ?round
  case zero =>
    rintro a w' ⟨s, u5, u6, u7, u8, u9, u10, u11, u12, u13, u14, u15, u16, u17, u18, u19, u20, u21, u22, u23, u24, u25, u26, u27, u28, u29, u30, u31, u32, u33, u34, -, -, h⟩
    simp [rdl] at h
  case round =>
    rintro m a w2 ⟨s, u5, u6, u7, u8, u9, u10, u11, u12, u13, u14, u15, u16, u17, u18, u19, u20, u21, u22, u23, u24, u25, u26, u27, u28, u29, u30, u31, u32, u33, u34, rfl, hJ, hk⟩
    obtain ⟨hbad, v, ⟨⟨b0, b1, b2⟩, b3, b4, b5, b6, hB, hsz⟩, hS⟩ := hJI _ _ hJ
    have c5 := box_cell b5
    have c6 := box_cell b6
    simp only [rdl] at hk
    by_cases k1 : s.at_ < (l0.length : Int)
    · rw [if_pos k1] at hk
      by_cases k2 : 0 ≤ s.at_
      · rw [if_pos k2] at hk
        obtain ⟨⟨a1, a2, a3, a4, a5, a6⟩, htf, hk⟩ := Option.bind_eq_some_iff.mp hk
        have d1 : decide (s.at_ < (l0.length : Int)) = true := decide_eq_true k1
        obtain ⟨i0, hi, _, hsi, _⟩ := info_parts info_byte
        obtain ⟨A8, hcut, hA8, hC8⟩ := print_drop_of (P := Try.prog) (Value.int .u8) 0 23 5 .i64 Try.underlying23 hi hsi A0 c0 l0 s.at_ k2 (by omega) hc0
        have HR := Kd.C_of_reads (h1 := fun _ => rfl) (hA8 _ (Kd.reads_of_C (Kd.C_below hr0 hB)))
        have hcall := callsIn_wide (n := n) |>.2 (hT m A8 (c0 - s.at_.toNat) (l0.drop s.at_.toNat) a1 a2 a3 a4 a5 a6 w2 HR hC8 htf)
        rw [List.length_drop] at hcall
        gi_wp2
        refine ⟨trivial, ?_⟩
        refine hcall.mono ?_
        rintro e w3 ⟨v3, rfl, hR3, hb3⟩
        obtain ⟨Av, cv, ev⟩ := Kd.R_slice hR3
        subst ev
        have hs3 : w2.heap.size ≤ w3.heap.size := hb3.size
        have e6 := box_alloc (.cells #[.int .i64 a1, .int .i64 a2, .int .u64 a3, .slice Av a4.length cv] 25) (box_below b6 hb3 (by omega))
        have e4 := box_alloc (.cells #[.int .i64 a1, .int .i64 a2, .int .u64 a3, .slice Av a4.length cv] 25) (box_below b4 hb3 (by omega))
        have q6 := box_cell e6
        have q4 := box_cell e4
        have g4 := box_frozen e4
        have hne : w3.heap.size ≠ w.heap.size + 4 := by omega
        gi_wp2
        have hB3 : Below w.heap.size w w3 := hB.trans (hb3.mono hB.size)
        have hk3 : KeepsOthers w2 w3 := ⟨hb3.size, fun k o hk _ => (hb3.block k (Array.getElem?_eq_some_iff.1 hk).1).trans hk⟩
        have hBx : B kd A0 c0 l0 w r1 r2 r3 s ⟨s.at_, a1, a2, a3, .slice Av a4.length cv, a4, a5, a6⟩ ((w3.alloc (.cells #[.int .i64 a1, .int .i64 a2, .int .u64 a3, .slice Av a4.length cv] 25)).setCell ⟨w.heap.size + 4, 0, none⟩ (.int .i64 a6)) := by
          have lt3 : w.heap.size + 7 ≤ w3.heap.size := by omega
          have up : ∀ {g t : Nat} {u : Value}, box w2 g t u → g < w.heap.size + 7 → g ≠ w.heap.size + 4 → box ((w3.alloc (.cells #[.int .i64 a1, .int .i64 a2, .int .u64 a3, .slice Av a4.length cv] 25)).setCell ⟨w.heap.size + 4, 0, none⟩ (.int .i64 a6)) g t u :=
            fun h hg hne => (Below.heap_setCell _ _ _ _ hne).trans (box_alloc _ (box_below h hb3 (by omega)))
          refine ⟨⟨rfl, fun h => ?_, fun h => ?_⟩, v, ⟨⟨up b0 (by omega) (by omega), up b1 (by omega) (by omega), up b2 (by omega) (by omega)⟩, up b3 (by omega) (by omega), blk_put (cs := #[.int .i64 0]) e4 0 _ rfl, up b5 (by omega) (by omega), up b6 (by omega) (by omega), (hB3.alloc hB3.size _).setCell (p := ⟨w.heap.size + 4, 0, none⟩) (by simp) _, by rw [World.size_setCell, World.size_alloc]; omega⟩, ?_, ?_⟩
          · have h : a6 = 0 := h
            rw [if_pos h] at hk
            by_cases h2 : s.acc.length < 2932031007402
            · exact h2
            · rw [if_neg h2] at hk; cases hk
          · have h : ¬ a6 = 0 := h
            rw [if_neg h] at hk
            have hr := Option.some.inj hk
            rw [Prod.mk.injEq, Prod.mk.injEq] at hr
            exact ⟨hr.1.symm, hr.2.1.symm, hr.2.2.symm⟩
          · exact Kd.S_mono (Kd.S_far (p := ⟨w.heap.size + 4, 0, none⟩) (Kd.S_bound (Kd.S_alloc (Kd.S_elder' hS (Kd.R_base hR3) hb3) _)) (fun k hk e => by have := hk.2.1; simp at e; omega) _) (fun k hk => hk.1.2)
          · exact Kd.R_mono (Kd.R_far (p := ⟨w.heap.size + 4, 0, none⟩) (Kd.R_bound (Kd.R_alloc (Kd.R_lower hR3 hsz) _)) (fun k hk e => by have := hk.2.1; simp at e; omega) _) (fun _ _ => trivial)
        obtain ⟨fn, tmps, assign, body, hy, hRd⟩ := hY s _ w2 _ hJ ((hk3.trans (KeepsOthers.alloc _ _)).trans (KeepsOthers.setCell _ _ _)) hBx
        simp only [encs] at hy
        rw [hy]
        gi_wp2
        refine hRd.mono ?_
        rintro e W6 (⟨rfl, hJ6⟩ | ⟨rfl, hJx6⟩)
        · have h6 : a6 = 0 := by
            have h := (hJI _ _ hJ6).1
            unfold nx at h
            by_cases h6 : a6 = 0
            · exact h6
            · rw [if_neg h6] at h; exact h
          subst h6
          rw [if_pos rfl] at hk
          by_cases h2 : s.acc.length < 2932031007402
          · rw [if_pos h2] at hk
            gi_wp2
            exact ⟨⟨s.acc ++ [mk a1 a2 a3 a4], wrap64 (s.at_ + a5), 0⟩, _, _, _, _, _, _, _, _, _, _, _, _, _, _, _, _, _, _, _, _, _, _, _, _, _, _, _, _, _, _, rfl, hJ6, hk⟩
          · rw [if_neg h2] at hk; cases hk
        · gi_wp2
          refine bodyPost_ret (results_none rfl _ _ _) rfl ?_
          exact ⟨⟨_, rfl⟩, .inr ⟨_, hJx6⟩⟩
      · rw [if_neg k2] at hk
        cases hk
    · rw [if_neg k1] at hk
      have d1 : decide (s.at_ < (l0.length : Int)) = false := decide_eq_false k1
      have hr := Option.some.inj hk
      rw [Prod.mk.injEq, Prod.mk.injEq] at hr
      gi_wp2
      go_end0
      exact ⟨⟨_, rfl⟩, .inl ⟨s, by simp [← hr.1, ← hr.2.1, ← hr.2.2], hJ⟩⟩

theorem maker_in (n : Nat) (A : Option Addr) (m c : Nat) (pe : Option Addr) (w : World) :
    CallsIn Fence.wide n Try.prog 36 #[.slice A m c, .pointer pe] w fun e w' => e = .returned (.func (.func 37) #[] #[.pointer (some ⟨w.heap.size, 0, none⟩), .pointer (some ⟨w.heap.size + 1, 0, none⟩)]) ∧
      w' = (w.alloc (.cells #[.slice A m c] 23)).alloc (.cells #[.pointer pe] 65) := by
  refine callsIn_of_wp Try.func36 rfl trivial ?_ rfl
  simp only [Try.ntmps36, List.size_toArray, List.length_cons, List.length_nil, Nat.reduceAdd, Nat.reduceSub, Array.replicate_succ, Array.replicate_zero, List.push_toArray, List.append_toArray, List.nil_append, List.cons_append]
  gi_wp2
  go_ret
  exact ⟨rfl, rfl⟩

theorem info_raw : (Try.prog.info? 25).map (fun i => (i.zero, i.size, i.bytes)) = some (some (.agg #[(.int .i64 0), (.int .i64 0), (.int .u64 0), (.slice none 0 0)]), 4, 48) := by kernel_rfl
theorem box_grown {W W' : World} {g t : Nat} {v : Value} {row : Option Nat} (h : box W g t v) (hg : W.grownBy W' row) (hne : some g ≠ row) : box W' g t v := (hg.block g (Array.getElem?_eq_some_iff.1 h).1 hne).trans h
theorem box_set {W : World} {g t : Nat} {v : Value} (h : box W g t v) (p : Addr) (u : Value) (hne : g ≠ p.block) : box (W.setCell p u) g t v := (Below.heap_setCell W p u g hne).trans h
theorem Boxes_alloc {v : Value} {e : Int} {W : World} (h : Boxes A0 c0 l0 w v e W) (o : Obj) : Boxes A0 c0 l0 w v e (W.alloc o) := by
  obtain ⟨⟨b0, b1, b2⟩, b3, b4, b5, b6, hB, hsz⟩ := h
  exact ⟨⟨box_alloc o b0, box_alloc o b1, box_alloc o b2⟩, box_alloc o b3, box_alloc o b4, box_alloc o b5, box_alloc o b6, hB.alloc hB.size _, by rw [World.size_alloc]; omega⟩
/-- What a turn of what is no cells leaves as it was. -/
theorem box_turn {W W' : World} {g t : Nat} {v : Value} {row : Option Nat} (h : box W g t v) (hg : W.grownBy W' row) (hr : ∀ r, row = some r → ∃ o : Obj, W.heap[r]? = some o ∧ o.isCells = false) : box W' g t v := by
  refine (hg.block g (Array.getElem?_eq_some_iff.1 h).1 ?_).trans h
  intro e
  obtain ⟨o, ho, hc⟩ := hr g e.symm
  rw [h] at ho
  cases ho
  cases hc
theorem S_turn {α : Type} {d : Kd α} {e base : Nat} {ok : Nat → Prop} {W W' : World} {v : Value} {xs : List α} {row : Option Nat} (h : Kd.S d e W base ok v xs) (hg : W.grownBy W' row) (hr : ∀ r, row = some r → ∃ o : Obj, W.heap[r]? = some o ∧ o.isCells = false) : Kd.S d e W' base ok v xs := by
  refine Kd.S_mono (Kd.S_grown (Kd.S_bound h) hg ?_) (fun _ hk => hk.1)
  rintro k ⟨_, _, _, q, _, cells, hc⟩ e
  obtain ⟨o, ho, hc2⟩ := hr k e.symm
  rw [hc] at ho
  cases ho
  cases hc2
theorem R_turn {α : Type} {d : Kd α} {e base : Nat} {ok : Nat → Prop} {W W' : World} {v : Value} {xs : List α} {row : Option Nat} (h : Kd.R d e W base ok v xs) (hg : W.grownBy W' row) (hr : ∀ r, row = some r → ∃ o : Obj, W.heap[r]? = some o ∧ o.isCells = false) : Kd.R d e W' base ok v xs := by
  refine Kd.R_mono (Kd.R_grown (Kd.R_bound h) hg ?_) (fun _ hk => hk.1)
  rintro k ⟨_, _, _, q, _, cells, hc⟩ e
  obtain ⟨o, ho, hc2⟩ := hr k e.symm
  rw [hc] at ho
  cases ho
  cases hc2
theorem Boxes_turn {v : Value} {e : Int} {W W' : World} {row : Option Nat} {b : Nat} (hb : w.heap.size ≤ b) (h : Boxes A0 c0 l0 w v e W) (hg : W.grownBy W' row) (hr : ∀ r, row = some r → b ≤ r ∧ ∃ o : Obj, W.heap[r]? = some o ∧ o.isCells = false) : Boxes A0 c0 l0 w v e W' := by
  obtain ⟨⟨b0, b1, b2⟩, b3, b4, b5, b6, hB, hsz⟩ := h
  have hr' := fun r e => (hr r e).2
  exact ⟨⟨box_turn b0 hg hr', box_turn b1 hg hr', box_turn b2 hg hr'⟩, box_turn b3 hg hr', box_turn b4 hg hr', box_turn b5 hg hr', box_turn b6 hg hr', hB.grown hg hB.size (fun k e => Nat.le_trans hb (hr k e).1), Nat.le_trans hsz hg.size⟩
theorem I_turn {b : Nat} (hb : w.heap.size ≤ b) : OwnFrom b (I kd A0 c0 l0 w) := by
  rintro s W W' row ⟨h0, v, hbx, hS⟩ hg hr
  exact ⟨h0, v, Boxes_turn A0 c0 l0 w hb hbx hg hr, S_turn hS hg (fun r e => (hr r e).2)⟩
theorem Ix_turn {b : Nat} (hb : w.heap.size ≤ b) : OwnFrom b (Ix w r1 r2 r3) := by
  rintro s W W' row ⟨h0, b0, b1, b2, hB⟩ hg hr
  have hr' := fun r e => (hr r e).2
  exact ⟨h0, box_turn b0 hg hr', box_turn b1 hg hr', box_turn b2 hg hr', hB.grown hg hB.size (fun k e => Nat.le_trans hb (hr k e).1)⟩
/-- Behind the loop's assignments: the loop's second variable has a box of its own. -/
def A (s : St β) (x : Y) (a : Act) (W : World) : Prop := (x.at_ = s.at_ ∧ (x.bad = 0 → s.acc.length < 2932031007402) ∧ (x.bad ≠ 0 → r1 = [] ∧ r2 = s.at_ ∧ r3 = x.bad)) ∧
  ∃ v gb, a = { tmps := #[.slice A0 l0.length c0, undef, .pointer (some ⟨w.heap.size, 0, none⟩), .pointer (some ⟨w.heap.size + 1, 0, none⟩), .pointer (some ⟨w.heap.size + 2, 0, none⟩), .pointer (some ⟨w.heap.size + 3, 0, none⟩), .pointer (some ⟨w.heap.size + 4, 0, none⟩), .int .i64 x.at_, .pointer (some ⟨gb, 0, none⟩), .slice A0 l0.length c0, .func (.func 37) #[] #[.pointer (some ⟨w.heap.size + 5, 0, none⟩), .pointer (some ⟨w.heap.size + 6, 0, none⟩)], .int .i64 x.at_, .agg #[.int .i64 x.num, .int .i64 x.kind, .int .u64 x.n, x.v], undef, undef, undef, undef, undef, undef, undef, undef, undef], defers := [] } ∧
    Boxes A0 c0 l0 w v x.bad W ∧ w.heap.size + 7 ≤ gb ∧ W.heap[gb]? = some (.cells #[.int .i64 x.num, .int .i64 x.kind, .int .u64 x.n, x.v] 25 (0, 0)) ∧
    Kd.S kd 25 W (w.heap.size + 7) (fun k => some k ≠ x.v.ownBlock ∧ k ≠ gb) v s.acc ∧ (Kd.int .u8).R 5 W (w.heap.size + 7) (fun _ => True) x.v x.b
theorem A_turn {b : Nat} (hb : w.heap.size ≤ b) (x : Y) (a : Act) : OwnFrom b (fun s W => A kd A0 c0 l0 w r1 r2 r3 s x a W) := by
  rintro s W W' row ⟨h0, v, gb, ha, hbx, hgb, hbb, hS, hR⟩ hg hr
  refine ⟨h0, v, gb, ha, Boxes_turn A0 c0 l0 w hb hbx hg hr, hgb, ?_, S_turn hS hg (fun r e => (hr r e).2), R_turn hR hg (fun r e => (hr r e).2)⟩
  refine (hg.block gb (Array.getElem?_eq_some_iff.1 hbb).1 ?_).trans hbb
  intro e
  obtain ⟨_, o, ho, hc⟩ := hr gb e.symm
  rw [hbb] at ho
  cases ho
  cases hc

theorem three : ∀ x ∈ ([28, 3, 29] : List TypeId), ∃ d, Try.prog.underlying x = some d ∧ (match d with | .struct _ | .array _ _ => false | _ => true) = true := by
  intro x hx
  simp only [List.mem_cons, List.not_mem_nil, or_false] at hx
  rcases hx with rfl | rfl | rfl
  · exact ⟨_, Try.underlying28, rfl⟩
  · exact ⟨_, Try.underlying3, rfl⟩
  · exact ⟨_, Try.underlying29, rfl⟩
/-- **wire.Read.** -/
theorem read_calls (tf : Nat → List Int → Option (Int × Int × Int × List Int × Int × Int))
    (hT : ∀ k A c l a1 a2 a3 a4 a5 a6 W, Kd.C (Kd.int .u8) W A l.length l → l.length ≤ c → tf k l = some (a1, a2, a3, a4, a5, a6) → Calls Try.prog 18 #[.slice A l.length c] W fun e w' => ∃ v3_ : Value, e = .returned (.tuple #[.agg #[.int .i64 a1, .int .i64 a2, .int .u64 a3, v3_], .int .i64 a5, .int .i64 a6]) ∧ Kd.R (Kd.int .u8) 5 w' W.heap.size (fun _ => True) v3_ a4 ∧ Below W.heap.size W w')
    (hsz : kd.sz = 4) (hmk : ∀ W base ok a1 a2 a3 a4 v, (Kd.int .u8).R 5 W base ok v a4 → kd.M W base ok (mk a1 a2 a3 a4) [.int .i64 a1, .int .i64 a2, .int .u64 a3, v])
    (hr0 : Kd.C (Kd.int .u8) w A0 l0.length l0) (hc0 : l0.length ≤ c0) (K : Nat) (hk : rdl mk tf l0 K [] 0 = some (r1, r2, r3)) :
    Calls Try.prog 20 #[.slice A0 l0.length c0] w fun e w' => ∃ v0_ : Value, e = .returned (.tuple #[v0_, .int .i64 r2, .int .i64 r3]) ∧ Kd.S kd 25 w' w.heap.size (fun _ => True) v0_ r1 ∧ Below w.heap.size w w' := by
  refine (callsIn_wide (n := 3)).1 ?_
  refine callsIn_of_wp_marks Try.func20 rfl trivial ?_ rfl
  simp only [Try.ntmps20, List.size_toArray, List.length_cons, List.length_nil, Nat.reduceAdd, Nat.reduceSub, Array.replicate_succ, Array.replicate_zero, List.push_toArray, List.append_toArray, List.nil_append, List.cons_append]
  gi_wp2_with (refine ⟨trivial, ?_⟩; gi_at_call 36; refine (maker_in _ _ _ _ _ _).mono ?_; rintro e w' ⟨rfl, rfl⟩)
  -- the world where the loop begins
  obtain ⟨w1, hw1⟩ : ∃ w1, (((((((w.alloc (.cells #[.slice none 0 0] 28)).alloc (.cells #[.int .i64 0] 3)).alloc (.cells #[.int .i64 0] 29)).alloc (.cells #[.slice none 0 0] 28)).alloc (.cells #[.int .i64 0] 29)).alloc (.cells #[.slice A0 l0.length c0] 23)).alloc (.cells #[.pointer (some ⟨w.heap.size + 1 + 1 + 1 + 1, 0, none⟩)] 65)) = w1 := ⟨_, rfl⟩
  have new : ∀ (W : World) (t : Nat) (v : Value) (g : Nat), g = W.heap.size → box (W.alloc (.cells #[v] t)) g t v := by
    intro W t v g hg
    rw [hg]
    exact World.alloc_heap_new W _
  have hB1 : Below w.heap.size w w1 := by
    rw [← hw1]
    exact (((((((Below.refl _ w).alloc (Nat.le_refl _) _).alloc (by simp) _).alloc (by simp; omega) _).alloc (by simp; omega) _).alloc (by simp; omega) _).alloc (by simp; omega) _).alloc (by simp; omega) _
  have hbx : Boxes A0 c0 l0 w (.slice none 0 0) 0 w1 := by
    rw [← hw1] at hB1 ⊢
    refine ⟨⟨?_, ?_, ?_⟩, ?_, ?_, ?_, ?_, hB1, by simp⟩
    · exact box_alloc _ (box_alloc _ (box_alloc _ (box_alloc _ (box_alloc _ (box_alloc _ (new _ _ _ _ rfl))))))
    · exact box_alloc _ (box_alloc _ (box_alloc _ (box_alloc _ (box_alloc _ (new _ _ _ _ (by simp))))))
    · exact box_alloc _ (box_alloc _ (box_alloc _ (box_alloc _ (new _ _ _ _ (by simp)))))
    · exact box_alloc _ (box_alloc _ (box_alloc _ (new _ _ _ _ (by simp))))
    · exact box_alloc _ (box_alloc _ (new _ _ _ _ (by simp)))
    · exact box_alloc _ (new _ _ _ _ (by simp))
    · exact new _ _ _ _ (by simp)
  have hs1 : w1.heap.size = w.heap.size + 7 := by rw [← hw1]; simp
  rw [hw1]
  clear new
  simp only [Nat.add_assoc, Nat.reduceAdd]
  refine range_writes (F := Fence.wide) (n := 3) rfl (by omega) (gf := 37) (lb := #[.pointer (some ⟨w.heap.size + 5, 0, none⟩), .pointer (some ⟨w.heap.size + 6, 0, none⟩)]) rfl trivial (enters_of Try.func37 (by kernel_rfl) rfl) encs (fun _ => rfl)
    (I kd A0 c0 l0 w) (Ix w r1 r2 r3) (B kd A0 c0 l0 w r1 r2 r3) (A kd A0 c0 l0 w r1 r2 r3) (fun s => r1 = s.acc ∧ r2 = 0 ∧ r3 = 0) (nx mk)
    (I_turn kd A0 c0 l0 w (by omega)) (Ix_turn w r1 r2 r3 (by omega)) (fun x a => A_turn kd A0 c0 l0 w r1 r2 r3 (by omega) x a) ⟨[], 0, 0⟩ ⟨rfl, _, hbx, Kd.S_nil _ _ _ _ _⟩ ?assign ?body ?iter ?done ?stop
  case iter =>
    intro l J Jx W1 _ hR h0
    exact iter_in mk kd A0 c0 l0 w r1 r2 r3 1 tf hT hr0 hc0 K l J Jx W1 hR h0 hk
  case assign =>
    rintro l s ⟨xa, xn, xk, xv, v3, xb, xm, xbad⟩ W ⟨hp, v, hb, hS, hR⟩
    obtain ⟨Av, cv, ev⟩ := Kd.R_slice hR
    dsimp only at ev
    subst ev
    simp only [encs]
    obtain ⟨rfl, hp1, hp2⟩ := hp
    have HP1 := Aside0.mk hp1
    have HP2 := Aside0.mk hp2
    clear hp1 hp2
    gi_wp2
    have hsz7 := hb.2.2.2.2.2.2
    exact ⟨KeepsOthers.alloc _ _, ⟨rfl, HP1.out, HP2.out⟩, v, W.heap.size, rfl, Boxes_alloc A0 c0 l0 w hb _, hsz7, World.alloc_heap_new W _, Kd.S_alloc (Kd.S_elderB hS _ (Nat.le_refl _)) _, Kd.R_alloc hR _⟩
  case body =>
    rintro l s ⟨xa, xn, xk, xv, v3, xb, xm, xbad⟩ a W ⟨hp, v, gb, rfl, hb, hgb, hbb, hS, hR⟩
    obtain ⟨Av, cv, ev⟩ := Kd.R_slice hR
    obtain ⟨Aw, cw, ev2⟩ := Kd.S_slice hS
    dsimp only at ev hp hb hbb hS hR
    subst ev
    subst ev2
    obtain ⟨⟨b0, b1, b2⟩, b3, b4, b5, b6, hB, hsz7⟩ := hb
    have q4 := box_cell b4
    have q3 := box_cell b3
    have g3 := box_frozen b3
    have q0 := box_cell b0
    have g0 := box_frozen b0
    have q1 := box_cell b1
    have g1 := box_frozen b1
    have q2 := box_cell b2
    have g2 := box_frozen b2
    by_cases hbad : xbad = 0
    · subst hbad
      have HL := hp.2.1 rfl
      have hcz0 : W.cell? ⟨gb, 0, none⟩ = some (.int .i64 xn) := (blk_cell hbb 0).trans rfl
      have hcz1 : W.cell? ⟨gb, 1, none⟩ = some (.int .i64 xk) := (blk_cell hbb 1).trans rfl
      have hcz2 : W.cell? ⟨gb, 2, none⟩ = some (.int .u64 xv) := (blk_cell hbb 2).trans rfl
      have hcz3 : W.cell? ⟨gb, 3, none⟩ = some (.slice Av xb.length cv) := (blk_cell hbb 3).trans rfl
      have hne : ∀ g, g < w.heap.size + 7 → some g ≠ (Value.slice Aw s.acc.length cw).ownBlock := fun g hg e => by
        have := Kd.S_base hS g e.symm
        omega
      have hko : ∀ w1, W.grownBy w1 (Value.slice Aw s.acc.length cw).ownBlock → KeepsOthers W w1 := fun w1 hg => ⟨hg.size, fun k o hk ho => by
        refine (hg.block k (Array.getElem?_eq_some_iff.1 hk).1 ?_).trans hk
        intro e
        obtain ⟨cells, hc⟩ := Kd.S_typed hS k e.symm
        rw [hk] at hc
        cases hc
        cases ho⟩
      clear hp
      gi_wp2_with (gi_at_builtin; refine wpListIn_append_S kd (W := W) (w.heap.size + 7) rfl (.tmp 17) (.tmp 19) 28 25 (.agg #[(.int .i64 0), (.int .i64 0), (.int .u64 0), (.slice none 0 0)]) 48 rfl Try.underlying28 (by rw [hsz]; exact info_raw) (by rw [hsz]; rfl) (by omega) (by decide) (.slice Aw s.acc.length cw) s.acc (mk xn xk xv xb) [.int .i64 xn, .int .i64 xk, .int .u64 xv, .slice Av xb.length cv] (fun _ => True) (fun k => some k = (Value.slice Av xb.length cv).ownBlock) rfl rfl (hmk W _ _ xn xk xv xb _ (Kd.R_tight rfl hR)) (fun k hk => ⟨trivial, fun e => ((Kd.S_R hS).1 k e.symm).1 hk⟩) (fun _ _ => trivial) (Kd.S_mono hS (fun k hk => ⟨trivial, hk.1⟩)) (by omega) (by omega) ?_; intro v1 w1 hS1 hg1; obtain ⟨A1, c1, ev⟩ := Kd.S_slice hS1; rw [List.length_append, List.length_singleton] at ev; subst ev; have e3 := box_grown b3 hg1 (hne _ (by omega)); have q3' := box_cell e3; have g3' := box_frozen e3)
      have up : ∀ {g t : Nat} {u : Value}, box W g t u → g < w.heap.size + 7 → g ≠ w.heap.size + 3 → box (w1.setCell ⟨w.heap.size + 3, 0, none⟩ (.slice A1 (s.acc.length + 1) c1)) g t u :=
        fun h hg hn => box_set (box_grown h hg1 (hne _ hg)) _ _ hn
      refine ⟨(hko w1 hg1).trans (KeepsOthers.setCell _ _ _), rfl, _, ⟨⟨up b0 (by omega) (by omega), up b1 (by omega) (by omega), up b2 (by omega) (by omega)⟩, blk_put (cs := #[.slice Aw s.acc.length cw]) e3 0 _ rfl, up b4 (by omega) (by omega), up b5 (by omega) (by omega), up b6 (by omega) (by omega), ?_, ?_⟩, ?_⟩
      · exact (hB.grown hg1 hB.size (fun k e => Nat.le_trans (by omega) (Kd.S_base hS k e))).setCell (p := ⟨w.heap.size + 3, 0, none⟩) (by simp) _
      · have := hg1.size
        rw [World.size_setCell]; omega
      · exact Kd.S_mono (Kd.S_far (p := ⟨w.heap.size + 3, 0, none⟩) (Kd.S_bound hS1) (fun k hk e => by have := hk.2.1; simp at e; omega) _) (fun _ _ => trivial)
    · have d1 : (xbad != 0) = true := bne_iff_ne.mpr hbad
      have HP := Aside0.mk (hp.2.2 hbad)
      have HA := Aside0.mk hp.1
      clear hp
      have hf : Try.prog.follows .mixedOrders = true := by kernel_rfl
      gi_wp2
      gi_region_with_o (fail)
      all_goals gi_wp2
      all_goals
        rw [show nx mk s ⟨xa, xn, xk, xv, .slice Av xb.length cv, xb, xm, xbad⟩ = (⟨s.acc, s.at_, xbad⟩ : St β) from if_neg hbad]
        have ea := HA.out
        subst ea
        refine ⟨?k, HP.out, ?b0, ?b1, ?b2, ?B⟩
        case k => repeat (first | exact KeepsOthers.refl _ | refine KeepsOthers.trans ?_ (KeepsOthers.drew _) | refine KeepsOthers.trans ?_ (KeepsOthers.setCell _ _ _))
        case b0 => with_reducible repeat (first | exact b0 | exact has_box b0 | refine box_drew ?_ | refine box_hit ?_ | refine box_set ?_ _ _ (by simp) | refine has_set ?_ _ _ (by simp))
        case b1 =>
          show box _ (w.heap.size + 1) 3 (.int .i64 s.at_)
          with_reducible repeat (first | exact b1 | exact has_box b1 | refine box_drew ?_ | refine box_hit ?_ | refine box_set ?_ _ _ (by simp) | refine has_set ?_ _ _ (by simp))
        case b2 =>
          show box _ (w.heap.size + 2) 29 (.int .i64 xbad)
          with_reducible repeat (first | exact b2 | exact has_box b2 | refine box_drew ?_ | refine box_hit ?_ | refine box_set ?_ _ _ (by simp) | refine has_set ?_ _ _ (by simp))
        case B => repeat (first | exact hB | refine below_drew ?_ | refine Below.setCell ?_ (by simp) _)
  case done =>
    rintro D s W hD ⟨rfl, rfl, rfl⟩ ⟨-, v, ⟨⟨b0, b1, b2⟩, b3, b4, b5, b6, hB, hsz7⟩, hS⟩ hK
    obtain ⟨Aw, cw, rfl⟩ := Kd.S_slice hS
    have q3 := box_cell b3
    have q0 := box_cell b0
    have g0 := box_frozen b0
    have q1 := box_cell b1
    have g1 := box_frozen b1
    have q2 := box_cell b2
    have g2 := box_frozen b2
    gi_wp2
    have hk3 : KeepsOthers W (((W.setCell ⟨w.heap.size, 0, none⟩ (.slice Aw s.acc.length cw)).setCell ⟨w.heap.size + 1, 0, none⟩ (.int .i64 0)).setCell ⟨w.heap.size + 2, 0, none⟩ (.int .i64 0)) := ((KeepsOthers.setCell _ _ _).trans (KeepsOthers.setCell _ _ _)).trans (KeepsOthers.setCell _ _ _)
    have hK3 := hk3.same D _ hK rfl
    have hS3 := Kd.S_far (p := ⟨w.heap.size + 2, 0, none⟩) (Kd.S_far (p := ⟨w.heap.size + 1, 0, none⟩) (Kd.S_far (p := ⟨w.heap.size, 0, none⟩) (Kd.S_bound hS) (fun k hk e => by have := hk.2.1; simp at e; omega) (.slice Aw s.acc.length cw)) (fun k hk e => by have := hk.2.1; simp at e; omega) (.int .i64 0)) (fun k hk e => by have := hk.2.1; simp at e; omega) (.int .i64 0)
    have hB3 : Below w.heap.size w (((W.setCell ⟨w.heap.size, 0, none⟩ (.slice Aw s.acc.length cw)).setCell ⟨w.heap.size + 1, 0, none⟩ (.int .i64 0)).setCell ⟨w.heap.size + 2, 0, none⟩ (.int .i64 0)) := ((hB.setCell (p := ⟨w.heap.size, 0, none⟩) (by simp) _).setCell (p := ⟨w.heap.size + 1, 0, none⟩) (by simp) _).setCell (p := ⟨w.heap.size + 2, 0, none⟩) (by simp) _
    have r0 : box (((W.setCell ⟨w.heap.size, 0, none⟩ (.slice Aw s.acc.length cw)).setCell ⟨w.heap.size + 1, 0, none⟩ (.int .i64 0)).setCell ⟨w.heap.size + 2, 0, none⟩ (.int .i64 0)) w.heap.size 28 (.slice Aw s.acc.length cw) := box_set (box_set (box_put b0) _ _ (by simp)) _ _ (by simp)
    have r1 : box (((W.setCell ⟨w.heap.size, 0, none⟩ (.slice Aw s.acc.length cw)).setCell ⟨w.heap.size + 1, 0, none⟩ (.int .i64 0)).setCell ⟨w.heap.size + 2, 0, none⟩ (.int .i64 0)) (w.heap.size + 1) 3 (.int .i64 0) := box_set (box_put (box_set b1 _ _ (by simp))) _ _ (by simp)
    have r2 : box (((W.setCell ⟨w.heap.size, 0, none⟩ (.slice Aw s.acc.length cw)).setCell ⟨w.heap.size + 1, 0, none⟩ (.int .i64 0)).setCell ⟨w.heap.size + 2, 0, none⟩ (.int .i64 0)) (w.heap.size + 2) 29 (.int .i64 0) := box_put (box_set (box_set b2 _ _ (by simp)) _ _ (by simp))
    refine ⟨by simp, .inl ⟨_, _, rfl, run_takeDeferred hK3, ?_⟩⟩
    exact ⟨_, results_three rfl _ _ w.heap.size (w.heap.size + 1) (w.heap.size + 2) 28 3 29 _ _ _ rfl (box_obj D _ r0 (by omega)) rfl (box_obj D _ r1 (by omega)) rfl (box_obj D _ r2 (by omega)) three, _, rfl,
      Kd.S_mono (Kd.S_lower (S_turn hS3 (grownBy_putObj' _ D (.deferred none)) (fun r e => by cases e; exact ⟨_, hK3, rfl⟩)) (by omega)) (fun _ _ => trivial), hB3.trans (belowK_b (w := w) (Nat.le_refl _) _ D _ _ (by omega) hK3 rfl rfl)⟩
  case stop =>
    rintro D s W hD ⟨⟨rfl, rfl, rfl⟩, b0, b1, b2, hB⟩ hK
    gi_wp2
    refine ⟨by simp, .inl ⟨_, _, rfl, run_takeDeferred hK, ?_⟩⟩
    exact ⟨_, results_three rfl _ _ w.heap.size (w.heap.size + 1) (w.heap.size + 2) 28 3 29 _ _ _ rfl (box_obj D _ b0 (by omega)) rfl (box_obj D _ b1 (by omega)) rfl (box_obj D _ b2 (by omega)) three, _, rfl, Kd.S_nil _ _ _ _ _, hB.trans (belowK_b (w := w) (Nat.le_refl _) W D _ _ (by omega) hK rfl rfl)⟩
end
end In
end Go.Proofs.Yteopaifokfmnjaa.Fl
