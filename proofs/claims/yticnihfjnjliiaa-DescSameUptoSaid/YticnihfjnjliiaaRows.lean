/-
  NARROWER THAN 'FOR EVERY INPUT', by the rows' own cells (each row's printed sentence says how): DescGrows: loops · DescJoined: loops · DescSame: loops · DescOnce: loops.
  DERIVED. THE GIVEN ROWS OF THIS SEAT. 4 by the template 'for every input the law returns true; each argument reads behind the call as it read before'; 0 by the template 'total and deterministic' (their statements: YticnihfjnjliiaaTotals.lean).
  GIVEN WITH THE SEED: the statements are not yours to turn. If you find one false, say at which input.
  Laid BY PROGRAM, IN A SANDBOX (cutbox-rows.mjs): the forced cells as the released guide's own fill.sh prints them over the translation 937c8b464afe30ac… (all of the seat's roots in one cut). By AI agents, Wed Nov 11 2026. No macro, syntax, notation, axiom, sorry.
-/
import Derived.Test.YticnihfjnjliiaaChecked
import GoSem.Claim
import GoSem.ClaimJoined
import GoSem.ClaimMapViews
import Derived.JoinedTies
import Derived.KernelRfl
namespace Go.Proofs.Yticnihfjnjliiaa
/- THE CELL 'sum', in the pinned program and in every row, IS THE sha256 OF THE DUMP (.gsa) THAT YticnihfjnjliiaaProg.lean LOADS. Nothing in Lean hashes anything: it is a label: what it is worth is what the hold of that sum in a sandbox is worth. -/
noncomputable def Try.pinned : Pinned := { name := "yticnihfjnjliiaa", sum := "937c8b464afe30acac85e8d1d25df0d3a5fe1f5b15d03fd3532e94789cb4af74", checked := Try.checked }
namespace Rows
def none {H : Type} : Left H := { results := [], args := [] }

/-- 'glossarylaw11.DescGrows': WHATEVER THE INPUT: true; the input reads as it did. -/
def descGrowsSpec : ChangeSpec := { name := "descGrows", fn := fun _ => fun
  | [d1, d2] => { results := [.lit (.bool true)], args := [d1, d2] }
  | _ => none }
def descGrowsRow : OpenClaim := { program := "yticnihfjnjliiaa", sum := "937c8b464afe30acac85e8d1d25df0d3a5fe1f5b15d03fd3532e94789cb4af74", func := "glossary/glossarylaw11.DescGrows", spec := "descGrows", unfollowed := true, recurses := true, loops := true, apart := false }
def DescGrowsSaid : Prop := descGrowsRow.holds Try.pinned (OpenSpec.ofChange descGrowsSpec)

/-- ITS FALSE NEIGHBOUR: 'it returns false'. Refute it at one input. -/
def descGrowsWrong : ChangeSpec := { name := "descGrows", fn := fun _ => fun
  | [d1, d2] => { results := [.lit (.bool false)], args := [d1, d2] }
  | _ => none }
def DescGrowsWrongFalsely : Prop := descGrowsRow.holds Try.pinned (OpenSpec.ofChange descGrowsWrong)

/-- 'glossarylaw11.DescJoined': WHATEVER THE INPUT: true; the input reads as it did. -/
def descJoinedSpec : ChangeSpec := { name := "descJoined", fn := fun _ => fun
  | [d1, d2] => { results := [.lit (.bool true)], args := [d1, d2] }
  | _ => none }
def descJoinedRow : OpenClaim := { program := "yticnihfjnjliiaa", sum := "937c8b464afe30acac85e8d1d25df0d3a5fe1f5b15d03fd3532e94789cb4af74", func := "glossary/glossarylaw11.DescJoined", spec := "descJoined", unfollowed := true, recurses := true, loops := true, apart := false }
def DescJoinedSaid : Prop := descJoinedRow.holds Try.pinned (OpenSpec.ofChange descJoinedSpec)

/-- ITS FALSE NEIGHBOUR: 'it returns false'. Refute it at one input. -/
def descJoinedWrong : ChangeSpec := { name := "descJoined", fn := fun _ => fun
  | [d1, d2] => { results := [.lit (.bool false)], args := [d1, d2] }
  | _ => none }
def DescJoinedWrongFalsely : Prop := descJoinedRow.holds Try.pinned (OpenSpec.ofChange descJoinedWrong)

/-- 'glossarylaw11.DescSame': WHATEVER THE INPUT: true; the input reads as it did. -/
def descSameSpec : ChangeSpec := { name := "descSame", fn := fun _ => fun
  | [d1, d2] => { results := [.lit (.bool true)], args := [d1, d2] }
  | _ => none }
def descSameRow : OpenClaim := { program := "yticnihfjnjliiaa", sum := "937c8b464afe30acac85e8d1d25df0d3a5fe1f5b15d03fd3532e94789cb4af74", func := "glossary/glossarylaw11.DescSame", spec := "descSame", unfollowed := true, recurses := true, loops := true, apart := false }
def DescSameSaid : Prop := descSameRow.holds Try.pinned (OpenSpec.ofChange descSameSpec)

/-- ITS FALSE NEIGHBOUR: 'it returns false'. Refute it at one input. -/
def descSameWrong : ChangeSpec := { name := "descSame", fn := fun _ => fun
  | [d1, d2] => { results := [.lit (.bool false)], args := [d1, d2] }
  | _ => none }
def DescSameWrongFalsely : Prop := descSameRow.holds Try.pinned (OpenSpec.ofChange descSameWrong)

/-- 'glossarylaw11.DescOnce': WHATEVER THE INPUT: true; the input reads as it did. -/
def descOnceSpec : ChangeSpec := { name := "descOnce", fn := fun _ => fun
  | [d1, d2] => { results := [.lit (.bool true)], args := [d1, d2] }
  | _ => none }
def descOnceRow : OpenClaim := { program := "yticnihfjnjliiaa", sum := "937c8b464afe30acac85e8d1d25df0d3a5fe1f5b15d03fd3532e94789cb4af74", func := "glossary/glossarylaw11.DescOnce", spec := "descOnce", unfollowed := true, recurses := true, loops := true, apart := false }
def DescOnceSaid : Prop := descOnceRow.holds Try.pinned (OpenSpec.ofChange descOnceSpec)

/-- ITS FALSE NEIGHBOUR: 'it returns false'. Refute it at one input. -/
def descOnceWrong : ChangeSpec := { name := "descOnce", fn := fun _ => fun
  | [d1, d2] => { results := [.lit (.bool false)], args := [d1, d2] }
  | _ => none }
def DescOnceWrongFalsely : Prop := descOnceRow.holds Try.pinned (OpenSpec.ofChange descOnceWrong)

/- THE SECOND FORM. 'bulk': how many values and letters a reading holds, each counted each time it is reached (what is shared counts as often as it is met; a slice's spare places count too). A statement '..UptoSaid' is the law's where the arguments, and the package variables that the reading takes, are together of bulk at most 1048576: NARROWER than '..Said'. Prove '..Said' where nothing that the law and all that it calls make is longer than what came in: it says more and counts as full. Else prove '..UptoSaid'. A law counts once. -/
mutual
def uptoBulk {H : Type} : DataW H → Nat
  | .lit (.string bytes) => bytes.length + 1
  | .lit _ => 1
  | .nil => 1
  | .ptr d => uptoBulk d + 1
  | .slice elems spare => uptoBulkAll elems + uptoBulkAll spare + 1
  | .agg parts => uptoBulkAll parts + 1
  | .iface _ d => uptoBulk d + 1
  | .map entries => uptoBulkEntries entries + 1
  | .held _ => 1
def uptoBulkAll {H : Type} : List (DataW H) → Nat
  | [] => 0
  | d :: r => uptoBulk d + uptoBulkAll r
def uptoBulkEntries {H : Type} : List (Lit × DataW H) → Nat
  | [] => 0
  | x :: r => uptoBulkEntry x + uptoBulkEntries r
def uptoBulkEntry {H : Type} : Lit × DataW H → Nat
  | (.string bytes, d) => bytes.length + uptoBulk d + 1
  | (_, d) => uptoBulk d + 1
 end
def uptoSmall : (H : Type) → List (DataW H) → Bool := fun _ ds => decide (uptoBulkAll ds ≤ 1048576)
def OpenSpec.upto (s : _root_.Go.ChangeSpec) : _root_.Go.OpenSpec := { _root_.Go.OpenSpec.ofChange s with cond := some uptoSmall }

/-- 'glossarylaw11.DescGrows', WHERE WHAT IT READS IS OF BULK AT MOST 1048576: true; the input reads as it did. -/
def descGrowsUptoRow : OpenClaim := { program := "yticnihfjnjliiaa", sum := "937c8b464afe30acac85e8d1d25df0d3a5fe1f5b15d03fd3532e94789cb4af74", func := "glossary/glossarylaw11.DescGrows", spec := "descGrows", unfollowed := true, recurses := true, loops := true, apart := false, narrowed := true }
def DescGrowsUptoSaid : Prop := descGrowsUptoRow.holds Try.pinned (OpenSpec.upto descGrowsSpec)

/-- 'glossarylaw11.DescJoined', WHERE WHAT IT READS IS OF BULK AT MOST 1048576: true; the input reads as it did. -/
def descJoinedUptoRow : OpenClaim := { program := "yticnihfjnjliiaa", sum := "937c8b464afe30acac85e8d1d25df0d3a5fe1f5b15d03fd3532e94789cb4af74", func := "glossary/glossarylaw11.DescJoined", spec := "descJoined", unfollowed := true, recurses := true, loops := true, apart := false, narrowed := true }
def DescJoinedUptoSaid : Prop := descJoinedUptoRow.holds Try.pinned (OpenSpec.upto descJoinedSpec)

/-- 'glossarylaw11.DescSame', WHERE WHAT IT READS IS OF BULK AT MOST 1048576: true; the input reads as it did. -/
def descSameUptoRow : OpenClaim := { program := "yticnihfjnjliiaa", sum := "937c8b464afe30acac85e8d1d25df0d3a5fe1f5b15d03fd3532e94789cb4af74", func := "glossary/glossarylaw11.DescSame", spec := "descSame", unfollowed := true, recurses := true, loops := true, apart := false, narrowed := true }
def DescSameUptoSaid : Prop := descSameUptoRow.holds Try.pinned (OpenSpec.upto descSameSpec)

/-- 'glossarylaw11.DescOnce', WHERE WHAT IT READS IS OF BULK AT MOST 1048576: true; the input reads as it did. -/
def descOnceUptoRow : OpenClaim := { program := "yticnihfjnjliiaa", sum := "937c8b464afe30acac85e8d1d25df0d3a5fe1f5b15d03fd3532e94789cb4af74", func := "glossary/glossarylaw11.DescOnce", spec := "descOnce", unfollowed := true, recurses := true, loops := true, apart := false, narrowed := true }
def DescOnceUptoSaid : Prop := descOnceUptoRow.holds Try.pinned (OpenSpec.upto descOnceSpec)

end Rows
end Go.Proofs.Yticnihfjnjliiaa
