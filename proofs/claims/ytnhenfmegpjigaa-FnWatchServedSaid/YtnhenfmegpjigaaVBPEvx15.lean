import Derived.Test.YtnhenfmegpjigaaVBPEvx0
import Derived.RangeFuncNested
import Derived.RangeFuncBound
import Derived.RangeFuncCalls
import Derived.RangeFuncLeaves
import Derived.RangeFuncBox
import Derived.Shelf.Abstract
import Derived.OwnWalkIn
import Derived.TacticsInMore
import Derived.LoopNIn
import Derived.LoopIn
import Derived.Lib.Hide
import Derived.Shelf.RegionOpen
namespace Go.Proofs.Ytnhenfmegpjigaa.PEv
open Go.RowKit Go.Proofs.YtnhenfmegpjigaaW.PrintWords Go.Proofs.YtnhenfmegpjigaaW.PrintLast Go.Proofs.YtnhenfmegpjigaaW.PrintMore
attribute [local go_sem] max2_int min2_int max_two min_two max_three min_three max_four min_four
set_option linter.unusedVariables false
set_option linter.unusedSimpArgs false

-- HAND rounds=0 making=1
-- HANDIMPORT Derived.RangeFuncNested
-- HANDIMPORT Derived.RangeFuncBound
-- HANDIMPORT Derived.RangeFuncCalls
-- HANDIMPORT Derived.RangeFuncLeaves
-- HANDIMPORT Derived.RangeFuncBox
-- HANDIMPORT Derived.Shelf.Abstract
-- HANDIMPORT Derived.OwnWalkIn
-- HANDIMPORT Derived.TacticsInMore
-- HANDIMPORT Derived.LoopNIn
-- HANDIMPORT Derived.LoopIn
-- HANDIMPORT Derived.Lib.Hide
-- HANDIMPORT Derived.Shelf.RegionOpen
open Go.Shelf
attribute [local go_sem] Oper.semAt_some

def isMk (b : Int) (x : S27) : Prop := x.f2 = b ∧ x.f0 ≠ 2
instance (b : Int) (x : S27) : Decidable (isMk b x) := by unfold isMk; infer_instance
end Go.Proofs.Ytnhenfmegpjigaa.PEv
