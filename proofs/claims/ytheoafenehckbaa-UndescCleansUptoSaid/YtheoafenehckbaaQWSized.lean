/- Words of the kit's print for this seat, cut down to what its texts use. -/
import Derived.SizedLaws
import Derived.ChangeSlices
namespace Go.Proofs.YtheoafenehckbaaW.PrintWords
open Go.ChangeShapes Go.WideShapes
end Go.Proofs.YtheoafenehckbaaW.PrintWords
