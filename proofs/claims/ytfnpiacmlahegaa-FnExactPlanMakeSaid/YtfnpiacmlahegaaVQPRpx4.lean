import Derived.Test.YtfnpiacmlahegaaVQPRpx0
import Derived.Test.YtfnpiacmlahegaaVQPRpx3
import Derived.Test.YtfnpiacmlahegaaVQPRpx15
import Derived.Deep.LoopGhost
import Derived.Deep.Draws
import Derived.Lib.SlBy
import Derived.Lib.Walk
import Derived.WalkKit
import Derived.IntWalk
import Derived.Shelf.Abstract
namespace Go.Proofs.Ytfnpiacmlahegaa.PRp
open Go.RowKit Go.Proofs.YtfnpiacmlahegaaW.PrintWords Go.Proofs.YtfnpiacmlahegaaW.PrintLast Go.Proofs.YtfnpiacmlahegaaW.PrintMore
attribute [local go_sem] max2_int min2_int max_two min_two max_three min_three max_four min_four
set_option linter.unusedVariables false
set_option linter.unusedSimpArgs false

end Go.Proofs.Ytfnpiacmlahegaa.PRp
