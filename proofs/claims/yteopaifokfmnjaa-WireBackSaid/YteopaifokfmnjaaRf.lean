/- A range over a function whose iterator writes the caller's variables between two rounds: the kit's law on the statement, over one invariant that the two sides share. -/
import Derived.RangeFuncNested
import Derived.RangeFuncBound
import Derived.RangeFuncCalls
import Derived.RangeFuncLeaves
import Derived.RangeFuncFrom
import Derived.Maps.AppendAt
import Derived.OwnWalkIn
import Derived.Shelf.Abstract
import Derived.Shelf.RegionOpen
import Derived.WalkKit
import Derived.TacticsInMore
import Derived.LoopNIn
import Derived.LoopIn
namespace Go.Proofs.Yteopaifokfmnjaa.Rf
open Go Go.RowKit

/-- How a round's body may be left: off its end, or by a return. -/
def rpost {σ : Type} (I Ix : σ → World → Prop) (s : σ) (W : World) : Exit → Act → World → Prop
  | .normal, _, W' => KeepsOthers W W' ∧ I s W'
  | .ret, _, W' => KeepsOthers W W' ∧ Ix s W'
  | .exit _, _, _ => False
  | .goto _, _, _ => False
  | .panic _, _, _ => False
  | .outgrown, _, _ => False

/-- What the loop's side promises the iterator, at record l: J: between two rounds; Jx: a round has left. -/
def Rounds {σ α : Type} (F : Fence) (n : Nat) (P : Program) (l : Nat) (encs : α → Array Value) (I Ix : σ → World → Prop) (B : σ → α → World → Prop) (nx : σ → α → σ) (J Jx : σ → World → Prop) : Prop :=
  (∀ s W, J s W → I s W) ∧ (∀ s W W', J s W → KeepsOthers W W' → I s W' → J s W') ∧ (∀ s W W', Jx s W → KeepsOthers W W' → (Ix s W → Ix s W') → Jx s W') ∧
  (∀ s x W W', J s W → KeepsOthers W W' → B s x W' → YieldAt F n P l (encs x) W' fun e W2 => (e = .returned (.bool true) ∧ J (nx s x) W2) ∨ (e = .returned (.bool false) ∧ Jx (nx s x) W2))

variable {F : Fence} {n : Nat} {P : Program}

theorem range_writes {σ α : Type} {g : Operand} {ps : Array Tmp} {assign body : Code} {Q : Exit → Act → World → Prop} {a : Act} {w : World}
    (hro : F.round = none) (h1 : 1 ≤ n) {gf : Nat} {lb : Array Value} (hg : a.eval g = .func (.func gf) #[] lb) (hFg : F.fn gf) (eg : ∀ args w, (callFunc gf args).run P w = .ok (.enter gf args) w)
    (encs : α → Array Value) (hps : ∀ x, (encs x).size = ps.size)
    (I Ix : σ → World → Prop) (B : σ → α → World → Prop) (A : σ → α → Act → World → Prop) (S : σ → Prop) (nx : σ → α → σ)
    (hI : OwnFrom w.heap.size I) (hIx : OwnFrom w.heap.size Ix) (hA : ∀ x a₁, OwnFrom w.heap.size (fun s W => A s x a₁ W)) (s0 : σ) (h0 : I s0 w)
    (hassign : ∀ l s x W, B s x W → assign.wpIn (F.inRound l) (n - 1 - 1) P (Exit.then (fun a₁ W1 => KeepsOthers W W1 ∧ A s x a₁ W1) (fun _ _ _ => False))
      { tmps := (ps.zip (encs x)).foldl (fun t (p, v) => t.setIfInBounds p v) a.tmps, defers := [] } W)
    (hbody : ∀ l s x a₁ W, A s x a₁ W → body.wpIn (F.inRound l) (n - 1 - 1) P (rpost I Ix (nx s x) W) a₁ W)
    (hiter : ∀ (l : Nat) (J Jx : σ → World → Prop) (W1 : World), Below w.heap.size w W1 → Rounds F (n - 1 - 1) P l encs I Ix B nx J Jx → J s0 W1 →
      CallsIn F (n - 1) P gf (#[.func (.yield l) #[] #[]] ++ lb) W1 fun e W' => (∃ v, e = .returned v) ∧ ((∃ s, S s ∧ J s W') ∨ (∃ s, Jx s W')))
    (hdone : ∀ D s W, w.heap.size ≤ D → S s → I s W → W.heap[D]? = some (.deferred (some [])) → Q .normal { a with defers := { target := .collected D, args := #[] } :: a.defers } W)
    (hstop : ∀ D s W, w.heap.size ≤ D → Ix s W → W.heap[D]? = some (.deferred (some [])) → Code.ret.wpIn F n P Q { a with defers := { target := .collected D, args := #[] } :: a.defers } W) :
    (Code.rangeFunc g ps assign body).wpIn F n P Q a w := by
  refine wpIn_rangeFunc fun fn hfn => ?_
  rw [hro]
  -- the loop's record, by its state and the jump that is pending
  let rec0 : LoopState → Option Code → Loop := fun st pe => { state := st, pending := pe, fn := fn, tmps := a.tmps, params := ps, assign := assign, body := body, defers := w.heap.size }
  have henter := run_enterLoop_outer (P := P) (w := w) fn a.tmps ps assign body
  generalize hW1 : (w.alloc (.deferred (some []))).alloc (.loop { state := .ready, pending := none, fn, tmps := a.tmps, params := ps, assign, body, defers := w.heap.size }) = W1 at henter
  have hD1 : W1.heap[w.heap.size]? = some (.deferred (some [])) := by
    rw [← hW1]; exact (Below.heap_alloc _ _ _ (by simp)).trans (World.alloc_heap_new w _)
  have hL1 : W1.heap[w.heap.size + 1]? = some (.loop (rec0 .ready none)) := by
    rw [← hW1]
    have h := World.alloc_heap_new (w.alloc (.deferred (some []))) (.loop (rec0 .ready none))
    rwa [World.size_alloc] at h
  have hB1 : Below w.heap.size w W1 := by
    rw [← hW1]; exact ((Below.refl _ w).alloc (Nat.le_refl _) _).alloc (by simp) _
  have hi1 : I s0 W1 := by rw [← hW1]; exact hI.alloc _ (hI.alloc _ h0)
  have hgr : ∀ (W : World) (o' : Obj) (s : σ) {T : σ → World → Prop}, OwnFrom w.heap.size T → T s W → (∃ o, W.heap[w.heap.size + 1]? = some (.loop o)) → T s (W.putObj (w.heap.size + 1) o') := by
    rintro W o' s T hT h ⟨o, ho⟩
    exact hT.putObj o' h (by omega) ho rfl
  have hD2 : ∀ (W : World) (o' : Obj), W.heap[w.heap.size]? = some (.deferred (some [])) → (W.putObj (w.heap.size + 1) o').heap[w.heap.size]? = some (.deferred (some [])) := fun W o' h => (World.putObj_heap_other (by omega)).trans h
  refine ⟨w.heap.size + 1, [{ target := .collected w.heap.size, args := #[] }], W1, { target := .fn (.func gf) lb, args := #[.func (.yield (w.heap.size + 1)) #[] #[]] }, W1, gf, #[.func (.yield (w.heap.size + 1)) #[] #[]] ++ lb, W1, henter, ?_, ?_, ?_, fun _ => h1, ?_⟩
  · simp only [resolve, hg]
    simp [go_sem]
  · intro f' hf'
    simp [Target.leads] at hf'
    subst hf'
    exact hFg
  · simp [invoke, go_sem, eg]
  · refine (hiter (w.heap.size + 1)
      (fun s W => I s W ∧ W.heap[w.heap.size + 1]? = some (.loop (rec0 .ready none)) ∧ W.heap[w.heap.size]? = some (.deferred (some [])))
      (fun s W => Ix s W ∧ W.heap[w.heap.size + 1]? = some (.loop (rec0 .done (some .ret))) ∧ W.heap[w.heap.size]? = some (.deferred (some [])))
      W1 hB1 ⟨fun s W h => h.1, fun s W W' h hk hi => ⟨hi, hk.same _ _ h.2.1 rfl, hk.same _ _ h.2.2 rfl⟩, fun s W W' h hk hi => ⟨hi h.1, hk.same _ _ h.2.1 rfl, hk.same _ _ h.2.2 rfl⟩, ?_⟩ ⟨hi1, hL1, hD1⟩).mono ?_
    · rintro s x W W' ⟨-, hl0, hd0⟩ hk hb
      have hl := hk.same _ _ hl0 rfl
      have hd := hk.same _ _ hd0 rfl
      refine ⟨fn, _, assign, body, run_yield (P := P) (args := encs x) hl (hps x), roundIn_of_wpIn hfn (wpIn_mono (hassign _ s x W' hb) ?_)⟩
      intro e a₁ W2 h
      cases e with
      | normal =>
        obtain ⟨hk2, ha2⟩ := h
        have hl2 := hk2.same _ _ hl rfl
        have hd2 := hk2.same _ _ hd rfl
        refine ⟨_, run_beginRound hl2 rfl, wpIn_mono (hbody _ s x a₁ _ (hgr _ _ s (hA x a₁) ha2 ⟨_, hl2⟩)) ?_⟩
        have hl3 : (W2.putObj (w.heap.size + 1) (.loop { rec0 .ready none with state := .busy })).heap[w.heap.size + 1]? = some (.loop { rec0 .ready none with state := .busy }) := World.putObj_heap_same (Array.getElem?_eq_some_iff.1 hl2).1
        have hd3 := hD2 W2 (.loop { rec0 .ready none with state := .busy }) hd2
        intro e a3 W3 h
        cases e with
        | normal =>
          obtain ⟨hk3, hi3⟩ := h
          have hl4 := hk3.same _ _ hl3 rfl
          exact ⟨_, _, run_endRound none hl4, .inl ⟨rfl, hgr _ _ _ hI hi3 ⟨_, hl4⟩, World.putObj_heap_same (Array.getElem?_eq_some_iff.1 hl4).1, hD2 _ _ (hk3.same _ _ hd3 rfl)⟩⟩
        | ret =>
          obtain ⟨hk3, hi3⟩ := h
          have hl4 := hk3.same _ _ hl3 rfl
          exact ⟨_, _, run_endRound (some .ret) hl4, .inr ⟨rfl, hgr _ _ _ hIx hi3 ⟨_, hl4⟩, World.putObj_heap_same (Array.getElem?_eq_some_iff.1 hl4).1, hD2 _ _ (hk3.same _ _ hd3 rfl)⟩⟩
        | exit id => exact h.elim
        | goto t => exact h.elim
        | panic ch => exact h.elim
        | outgrown => exact h.elim
      | ret => exact h.elim
      | exit id => exact h.elim
      | goto t => exact h.elim
      | panic ch => exact h.elim
      | outgrown => exact h.elim
    · rintro e W2 ⟨⟨v, rfl⟩, (⟨s, hS, hi, hl, hd⟩ | ⟨s, hi, hl, hd⟩)⟩
      · exact ⟨none, _, run_endLoop (P := P) hl (by simp [rec0]), hdone _ s _ (Nat.le_refl _) hS (hgr _ _ s hI hi ⟨_, hl⟩) (hD2 _ _ hd)⟩
      · exact ⟨some .ret, _, run_endLoop (P := P) hl (by simp [rec0]), hstop _ s _ (Nat.le_refl _) (hgr _ _ s hIx hi ⟨_, hl⟩) (hD2 _ _ hd)⟩
end Go.Proofs.Yteopaifokfmnjaa.Rf
