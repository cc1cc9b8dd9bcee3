/- Words of the kit's print for this seat, cut down to what its texts use. -/
import Derived.Test.YticnihfjnjliiaaKWTab
/-! ### 56. Four, five, six operations that may come up next, in any order -/
namespace Go.Proofs.YticnihfjnjliiaaW.PrintLast
section
variable {P : Program} {ops : Array Oper} {Q : Exit → Act → World → Prop} {md : Region.Mode} {S : World → Prop} {ds : List Nat} {T : Bool × List (List Nat × List Nat)}
end
end Go.Proofs.YticnihfjnjliiaaW.PrintLast
