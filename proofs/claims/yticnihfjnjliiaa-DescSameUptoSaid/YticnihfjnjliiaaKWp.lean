/- What wire.Put appends, in plain words. -/
import Derived.Test.YticnihfjnjliiaaKGDescGrowsx1
import Derived.Test.YticnihfjnjliiaaKPt
import Derived.Test.YticnihfjnjliiaaKVb
import Derived.Test.YticnihfjnjliiaaKFx
import Derived.Test.YticnihfjnjliiaaKWr
namespace Go.Proofs.Yticnihfjnjliiaa.Wp
open Go.RowKit Go.Proofs.Yticnihfjnjliiaa.GDescGrows Go.Proofs.YticnihfjnjliiaaW.PrintWords Go.Proofs.YticnihfjnjliiaaW.PrintLast Go.Proofs.YticnihfjnjliiaaW.PrintMore Go.Proofs.Yticnihfjnjliiaa.Pt Go.Proofs.Yticnihfjnjliiaa.Vb Go.Proofs.Yticnihfjnjliiaa.Fx Go.Proofs.Yticnihfjnjliiaa.Wr
end Go.Proofs.Yticnihfjnjliiaa.Wp
