-- Out of the kit's printer, driven by this repo's wip/gp.py with hand-written contracts beside it. Lean checks it.
import Derived.Test.YtnaeekahmbilnaaFixx0
import Derived.Test.YtnaeekahmbilnaaFixx1
import Derived.Test.YtnaeekahmbilnaaFixx2
import Derived.Test.YtnaeekahmbilnaaFixx3
import Derived.Test.YtnaeekahmbilnaaFixx4
import Derived.Test.YtnaeekahmbilnaaFixx5
import Derived.Test.YtnaeekahmbilnaaFixx6
import Derived.Test.YtnaeekahmbilnaaFixx7
import Derived.Test.YtnaeekahmbilnaaFixx8
import Derived.Test.YtnaeekahmbilnaaFixx9
import Derived.Test.YtnaeekahmbilnaaFixx10
import Derived.Test.YtnaeekahmbilnaaFixx11
import Derived.Test.YtnaeekahmbilnaaFixx12
namespace Go.Proofs.Ytnaeekahmbilnaa.Fix
open Go.RowKit Go.Proofs.YtnaeekahmbilnaaW.PrintWords Go.Proofs.YtnaeekahmbilnaaW.PrintLast Go.Proofs.YtnaeekahmbilnaaW.PrintMore
attribute [local go_sem] max2_int min2_int max_two min_two max_three min_three max_four min_four   -- for this text's walks alone
set_option linter.unusedVariables false
set_option linter.unusedSimpArgs false

end Go.Proofs.Ytnaeekahmbilnaa.Fix
