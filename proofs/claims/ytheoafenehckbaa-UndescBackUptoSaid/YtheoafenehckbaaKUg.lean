/- What is well formed is good. -/
import Derived.Test.YtheoafenehckbaaKUf
import Derived.Test.YtheoafenehckbaaKA4
import Derived.WalkLawsBesides
namespace Go.Proofs.Ytheoafenehckbaa.Ur
open Wb Dp Rk Sp Go.RowKit GUndescBack YtheoafenehckbaaW.PrintWords YtheoafenehckbaaW.PrintLast YtheoafenehckbaaW.PrintMore Vb Fx Wr Wt Wj Wp Uq
set_option linter.unusedVariables false
set_option linter.unusedSimpArgs false
end Go.Proofs.Ytheoafenehckbaa.Ur
