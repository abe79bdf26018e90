/- PlanDelay returns what the reference's returns, for all arguments. No condition beyond the statement's own. -/
import Derived.Test.YtjnagefogjkbbaaPlIntsEx
import Derived.Test.YtjnagefogjkbbaaPlArith
import Derived.Test.YtjnagefogjkbbaaPPlx2
namespace Go.Proofs.Ytjnagefogjkbbaa.Pure
open Go.RowKit Go.Proofs.Ytjnagefogjkbbaa.PPl Go.Proofs.Ytjnagefogjkbbaa.BPl Go.Proofs.YtjnagefogjkbbaaW.PrintWords Go.Proofs.YtjnagefogjkbbaaW.PrintLast Go.Proofs.YtjnagefogjkbbaaW.PrintMore
set_option linter.unusedVariables false
set_option linter.unusedSimpArgs false

theorem FnExactPlanDelay : laws_FnExactPlanDelay.Pure := by
  intro l m _ _ _ _ _ _
  refine Ev.rounds ?_
  unfold laws_FnExactPlanDelay.f
  refine ev_ite (fun _ => Ev.now _) (fun h1 => ev_ite (fun _ => Ev.now _) (fun h2 => ?_))
  have tl := toInt_ev l (by omega)
  have tm := toInt_ev m (by omega)
  have el := eqInt_ev l (by omega)
  have em := eqInt_ev m (by omega)
  exact Ev.bind tl (Ev.bind tm (Ev.bind (spec_delay l m (by omega)) (Ev.bind tl (Ev.bind tm (Ev.bind (impl_delay l m (by omega)) (ev_pos rfl (Ev.bind tl (Ev.bind el (ev_pos rfl (Ev.bind tm (Ev.bind em (ev_pos rfl (Ev.now _)))))))))))))

end Go.Proofs.Ytjnagefogjkbbaa.Pure
