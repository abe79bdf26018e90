import Derived.Test.YtfnpiacmlahegaaVSPRpx0
namespace Go.Proofs.Ytfnpiacmlahegaa.PRp
open Go.RowKit Go.Proofs.YtfnpiacmlahegaaW.PrintWords Go.Proofs.YtfnpiacmlahegaaW.PrintLast Go.Proofs.YtfnpiacmlahegaaW.PrintMore
attribute [local go_sem] max2_int min2_int max_two min_two max_three min_three max_four min_four
set_option linter.unusedVariables false
set_option linter.unusedSimpArgs false

-- HAND rounds=0 making=1
def impl_PlanMake_1.f (a0 : Int) : Option (Bool) := some true
theorem impl_PlanMake_1.calls (a0 : Int) (r : Bool) (w : World) (h : impl_PlanMake_1.f a0 = some r) :
    Calls Try.prog 51 #[.int .i64 a0] w fun e w' => e = .returned (.bool r) ∧ Below w.heap.size w w' := by
 obtain rfl := oI_q h
 go_enter Try.func51, Try.ntmps51
 go_wp2
 go_ret
 exact ⟨rfl, bR_q _ _⟩

end Go.Proofs.Ytfnpiacmlahegaa.PRp
