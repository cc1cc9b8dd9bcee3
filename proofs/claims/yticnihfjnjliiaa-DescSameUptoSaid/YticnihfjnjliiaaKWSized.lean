/- Words of the kit's print for this seat, cut down to what its texts use. -/
import Derived.SizedLaws
import Derived.ChangeSlices
namespace Go.Proofs.YticnihfjnjliiaaW.PrintWords
open Go.ChangeShapes Go.WideShapes
end Go.Proofs.YticnihfjnjliiaaW.PrintWords
