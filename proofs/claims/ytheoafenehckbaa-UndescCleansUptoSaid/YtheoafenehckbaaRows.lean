/-
  NARROWER THAN 'FOR EVERY INPUT', by the rows' own cells (each row's printed sentence says how): UndescBack: loops · UndescCleans: loops.
  DERIVED. THE GIVEN ROWS OF THIS SEAT. 3 by the template 'for every input the law returns true; each argument reads behind the call as it read before'; 0 by the template 'total and deterministic' (their statements: YtheoafenehckbaaTotals.lean).
  GIVEN WITH THE SEED: the statements are not yours to turn. If you find one false, say at which input.
  Laid BY PROGRAM, IN A SANDBOX (cutbox-rows.mjs): the forced cells as the released guide's own fill.sh prints them over the translation a98992c33b7d5d65… (all of the seat's roots in one cut). By AI agents, Wed Nov 11 2026. No macro, syntax, notation, axiom, sorry.
-/
import Derived.Test.YtheoafenehckbaaChecked
import GoSem.Claim
import GoSem.ClaimJoined
import GoSem.ClaimMapViews
import Derived.JoinedTies
import Derived.KernelRfl
namespace Go.Proofs.Ytheoafenehckbaa
/- THE CELL 'sum', in the pinned program and in every row, IS THE sha256 OF THE DUMP (.gsa) THAT YtheoafenehckbaaProg.lean LOADS. Nothing in Lean hashes anything: it is a label: what it is worth is what the hold of that sum in a sandbox is worth. -/
noncomputable def Try.pinned : Pinned := { name := "ytheoafenehckbaa", sum := "a98992c33b7d5d65cbdfd555f986fc2aae09ce733cd820de91b4d3a59bfb2a67", checked := Try.checked }
namespace Rows
def none {H : Type} : Left H := { results := [], args := [] }

/-- 'glossarylaw12.UndescBack': WHATEVER THE INPUT: true; the input reads as it did. -/
def undescBackSpec : ChangeSpec := { name := "undescBack", fn := fun _ => fun
  | [d] => { results := [.lit (.bool true)], args := [d] }
  | _ => none }
def undescBackRow : OpenClaim := { program := "ytheoafenehckbaa", sum := "a98992c33b7d5d65cbdfd555f986fc2aae09ce733cd820de91b4d3a59bfb2a67", func := "glossary/glossarylaw12.UndescBack", spec := "undescBack", unfollowed := true, recurses := true, loops := true, apart := false }
def UndescBackSaid : Prop := undescBackRow.holds Try.pinned (OpenSpec.ofChange undescBackSpec)

/-- ITS FALSE NEIGHBOUR: 'it returns false'. Refute it at one input. -/
def undescBackWrong : ChangeSpec := { name := "undescBack", fn := fun _ => fun
  | [d] => { results := [.lit (.bool false)], args := [d] }
  | _ => none }
def UndescBackWrongFalsely : Prop := undescBackRow.holds Try.pinned (OpenSpec.ofChange undescBackWrong)

/-- 'glossarylaw12.UndescKeeps': WHATEVER THE INPUT: true; the input reads as it did. -/
def undescKeepsSpec : ChangeSpec := { name := "undescKeeps", fn := fun _ => fun
  | [d] => { results := [.lit (.bool true)], args := [d] }
  | _ => none }
def undescKeepsRow : OpenClaim := { program := "ytheoafenehckbaa", sum := "a98992c33b7d5d65cbdfd555f986fc2aae09ce733cd820de91b4d3a59bfb2a67", func := "glossary/glossarylaw12.UndescKeeps", spec := "undescKeeps", unfollowed := true, recurses := true, apart := false }
def UndescKeepsSaid : Prop := undescKeepsRow.holds Try.pinned (OpenSpec.ofChange undescKeepsSpec)

/-- ITS FALSE NEIGHBOUR: 'it returns false'. Refute it at one input. -/
def undescKeepsWrong : ChangeSpec := { name := "undescKeeps", fn := fun _ => fun
  | [d] => { results := [.lit (.bool false)], args := [d] }
  | _ => none }
def UndescKeepsWrongFalsely : Prop := undescKeepsRow.holds Try.pinned (OpenSpec.ofChange undescKeepsWrong)

/-- 'glossarylaw12.UndescCleans': WHATEVER THE INPUT: true; the input reads as it did. -/
def undescCleansSpec : ChangeSpec := { name := "undescCleans", fn := fun _ => fun
  | [d] => { results := [.lit (.bool true)], args := [d] }
  | _ => none }
def undescCleansRow : OpenClaim := { program := "ytheoafenehckbaa", sum := "a98992c33b7d5d65cbdfd555f986fc2aae09ce733cd820de91b4d3a59bfb2a67", func := "glossary/glossarylaw12.UndescCleans", spec := "undescCleans", unfollowed := true, recurses := true, loops := true, apart := false }
def UndescCleansSaid : Prop := undescCleansRow.holds Try.pinned (OpenSpec.ofChange undescCleansSpec)

/-- ITS FALSE NEIGHBOUR: 'it returns false'. Refute it at one input. -/
def undescCleansWrong : ChangeSpec := { name := "undescCleans", fn := fun _ => fun
  | [d] => { results := [.lit (.bool false)], args := [d] }
  | _ => none }
def UndescCleansWrongFalsely : Prop := undescCleansRow.holds Try.pinned (OpenSpec.ofChange undescCleansWrong)

/- THE SECOND FORM. 'bulk': how many values and letters a reading holds, each counted each time it is reached (what is shared counts as often as it is met; a slice's spare places count too). A statement '..UptoSaid' is the law's where the arguments, and the package variables that the reading takes, are together of bulk at most 1048576: NARROWER than '..Said'. Prove '..Said' where nothing that the law and all that it calls make is longer than what came in: it says more and counts as full. Else prove '..UptoSaid'. A law counts once. -/
mutual
def uptoBulk {H : Type} : DataW H → Nat
  | .lit (.string bytes) => bytes.length + 1
  | .lit _ => 1
  | .nil => 1
  | .ptr d => uptoBulk d + 1
  | .slice elems spare => uptoBulkAll elems + uptoBulkAll spare + 1
  | .agg parts => uptoBulkAll parts + 1
  | .iface _ d => uptoBulk d + 1
  | .map entries => uptoBulkEntries entries + 1
  | .held _ => 1
def uptoBulkAll {H : Type} : List (DataW H) → Nat
  | [] => 0
  | d :: r => uptoBulk d + uptoBulkAll r
def uptoBulkEntries {H : Type} : List (Lit × DataW H) → Nat
  | [] => 0
  | x :: r => uptoBulkEntry x + uptoBulkEntries r
def uptoBulkEntry {H : Type} : Lit × DataW H → Nat
  | (.string bytes, d) => bytes.length + uptoBulk d + 1
  | (_, d) => uptoBulk d + 1
 end
def uptoSmall : (H : Type) → List (DataW H) → Bool := fun _ ds => decide (uptoBulkAll ds ≤ 1048576)
def OpenSpec.upto (s : _root_.Go.ChangeSpec) : _root_.Go.OpenSpec := { _root_.Go.OpenSpec.ofChange s with cond := some uptoSmall }

/-- 'glossarylaw12.UndescBack', WHERE WHAT IT READS IS OF BULK AT MOST 1048576: true; the input reads as it did. -/
def undescBackUptoRow : OpenClaim := { program := "ytheoafenehckbaa", sum := "a98992c33b7d5d65cbdfd555f986fc2aae09ce733cd820de91b4d3a59bfb2a67", func := "glossary/glossarylaw12.UndescBack", spec := "undescBack", unfollowed := true, recurses := true, loops := true, apart := false, narrowed := true }
def UndescBackUptoSaid : Prop := undescBackUptoRow.holds Try.pinned (OpenSpec.upto undescBackSpec)

/-- 'glossarylaw12.UndescKeeps', WHERE WHAT IT READS IS OF BULK AT MOST 1048576: true; the input reads as it did. -/
def undescKeepsUptoRow : OpenClaim := { program := "ytheoafenehckbaa", sum := "a98992c33b7d5d65cbdfd555f986fc2aae09ce733cd820de91b4d3a59bfb2a67", func := "glossary/glossarylaw12.UndescKeeps", spec := "undescKeeps", unfollowed := true, recurses := true, apart := false, narrowed := true }
def UndescKeepsUptoSaid : Prop := undescKeepsUptoRow.holds Try.pinned (OpenSpec.upto undescKeepsSpec)

/-- 'glossarylaw12.UndescCleans', WHERE WHAT IT READS IS OF BULK AT MOST 1048576: true; the input reads as it did. -/
def undescCleansUptoRow : OpenClaim := { program := "ytheoafenehckbaa", sum := "a98992c33b7d5d65cbdfd555f986fc2aae09ce733cd820de91b4d3a59bfb2a67", func := "glossary/glossarylaw12.UndescCleans", spec := "undescCleans", unfollowed := true, recurses := true, loops := true, apart := false, narrowed := true }
def UndescCleansUptoSaid : Prop := undescCleansUptoRow.holds Try.pinned (OpenSpec.upto undescCleansSpec)

end Rows
end Go.Proofs.Ytheoafenehckbaa
