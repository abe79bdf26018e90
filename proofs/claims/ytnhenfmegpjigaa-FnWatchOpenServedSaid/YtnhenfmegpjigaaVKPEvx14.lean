import Derived.Test.YtnhenfmegpjigaaVKPEvx0
import Derived.Test.YtnhenfmegpjigaaVKPEvx1
import Derived.Test.YtnhenfmegpjigaaVKPEvx3
namespace Go.Proofs.Ytnhenfmegpjigaa.PEv
open Go.RowKit Go.Proofs.YtnhenfmegpjigaaW.PrintWords Go.Proofs.YtnhenfmegpjigaaW.PrintLast Go.Proofs.YtnhenfmegpjigaaW.PrintMore
attribute [local go_sem] max2_int min2_int max_two min_two max_three min_three max_four min_four
set_option linter.unusedVariables false
set_option linter.unusedSimpArgs false

-- NOT PRINTED: function 67 (impl_Event)

end Go.Proofs.Ytnhenfmegpjigaa.PEv
