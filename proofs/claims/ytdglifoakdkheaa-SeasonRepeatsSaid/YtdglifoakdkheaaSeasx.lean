-- Out of the kit's printer, driven by this repo's wip/gp.py with hand-written contracts beside it. Lean checks it.
import Derived.Test.YtdglifoakdkheaaSeasx0
import Derived.Test.YtdglifoakdkheaaSeasx1
import Derived.Test.YtdglifoakdkheaaSeasx2
import Derived.Test.YtdglifoakdkheaaSeasx3
import Derived.Test.YtdglifoakdkheaaSeasx4
namespace Go.Proofs.Ytdglifoakdkheaa.Seas
open Go.RowKit Go.Proofs.YtdglifoakdkheaaW.PrintWords Go.Proofs.YtdglifoakdkheaaW.PrintLast Go.Proofs.YtdglifoakdkheaaW.PrintMore
attribute [local go_sem] max2_int min2_int max_two min_two max_three min_three max_four min_four   -- for this text's walks alone
set_option linter.unusedVariables false
set_option linter.unusedSimpArgs false

end Go.Proofs.Ytdglifoakdkheaa.Seas
