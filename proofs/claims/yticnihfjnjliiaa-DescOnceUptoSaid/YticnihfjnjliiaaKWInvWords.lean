/- Words of the kit's print for this seat, cut down to what its texts use. -/
import Derived.Test.YticnihfjnjliiaaKWInv
import Derived.Test.YticnihfjnjliiaaKWFootNe
namespace Go.Proofs.YticnihfjnjliiaaW.PrintWords
open Go.RowKit
end Go.Proofs.YticnihfjnjliiaaW.PrintWords
namespace Go.Proofs.YticnihfjnjliiaaW.PrintLast
section
variable {ops : Array Oper} {a : Act} {o og : Oper} {g : Nat} {t : Tmp} {u : Bool}
end
end Go.Proofs.YticnihfjnjliiaaW.PrintLast
