/- The arguments of glossary/glossarylaw02.WireBack as values; what is left to prove. -/
import Derived.Test.YteopaifokfmnjaaGWireBackx3
import Derived.Test.YteopaifokfmnjaaRdz
namespace Go.Proofs.Yteopaifokfmnjaa.GWireBack
open Go.RowKit Go.Proofs.YteopaifokfmnjaaW.PrintWords Go.Proofs.YteopaifokfmnjaaW.PrintLast Go.Proofs.YteopaifokfmnjaaW.PrintMore
set_option maxRecDepth 100000
set_option linter.unusedVariables false
def good25 (y : S25) : Prop := ((Lit.int .i64 y.f0).wf = true) ∧ ((Lit.int .i64 y.f1).wf = true) ∧ ((Lit.int .u64 y.f2).wf = true) ∧ (y.f3.length ≤ maxLen ∧ ∀ y_ ∈ y.f3, (Lit.int .u8 y_).wf = true)
def len25 (y : S25) : Prop := (True) ∧ (True) ∧ (True) ∧ (y.f3.length * 1 ≤ reachBytes ∧ ∀ y_ ∈ y.f3, True)
def sz25 (y : S25) : Nat := ((1) + ((1) + ((1) + (((y.f3.map fun y_ => 1).sum + 1))))) + 1
theorem opens25 (n : Nat) : Rdz.Opens Try.prog n 25 k25 good25 len25 sz25 :=
  Rdz.opens_struct (fun y : S25 => (y.f0, y.f1, y.f2, y.f3)) (fun y => ⟨y.1, y.2.1, y.2.2.1, y.2.2.2⟩) (fun _ => rfl) Try.underlying25 (by kernel_rfl) (fun _ _ => (Rdz.opensFs_cons rfl (by kernel_rfl) (Rdz.opens_int Try.underlying3) (Rdz.opensFs_cons rfl (by kernel_rfl) (Rdz.opens_int Try.underlying3) (Rdz.opensFs_cons rfl (by kernel_rfl) (Rdz.opens_int Try.underlying22) (Rdz.opensFs_one rfl (by kernel_rfl) (Rdz.opens_slice 5 1 Try.underlying23 (by kernel_rfl) (by kernel_rfl) (fun _ _ => (Rdz.opens_int Try.underlying5))))))))

def glossarylaw02_WireBack.Pure : Prop := ∀ (x0 : List (S25)), (x0.length ≤ maxLen ∧ ∀ y_ ∈ x0, good25 y_) → (x0.length * 48 ≤ reachBytes ∧ ∀ y_ ∈ x0, len25 y_) → ∃ k, glossarylaw02_WireBack.f k x0 = some true
def glossarylaw02_WireBack.PureUpto : Prop := ∀ (x0 : List (S25)), (x0.length ≤ maxLen ∧ ∀ y_ ∈ x0, good25 y_) → (x0.length * 48 ≤ reachBytes ∧ ∀ y_ ∈ x0, len25 y_) → ((x0.map fun y_ => sz25 y_).sum + 1) ≤ 1048576 → ∃ k, glossarylaw02_WireBack.f k x0 = some true
end Go.Proofs.Yteopaifokfmnjaa.GWireBack
