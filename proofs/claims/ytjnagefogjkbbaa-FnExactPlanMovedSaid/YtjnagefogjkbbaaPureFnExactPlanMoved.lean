/- PlanMoved returns what the reference's returns, for all arguments. No condition beyond the statement's own. -/
import Derived.Test.YtjnagefogjkbbaaPlIntsEx
import Derived.Test.YtjnagefogjkbbaaPlArith
import Derived.Test.YtjnagefogjkbbaaPPlx4
namespace Go.Proofs.Ytjnagefogjkbbaa.Pure
open Go.RowKit Go.Proofs.Ytjnagefogjkbbaa.PPl Go.Proofs.Ytjnagefogjkbbaa.BPl Go.Proofs.YtjnagefogjkbbaaW.PrintWords Go.Proofs.YtjnagefogjkbbaaW.PrintLast Go.Proofs.YtjnagefogjkbbaaW.PrintMore
set_option linter.unusedVariables false
set_option linter.unusedSimpArgs false

theorem FnExactPlanMoved : laws_FnExactPlanMoved.Pure := by
  intro l m _ _ _ _ _ _
  refine Ev.rounds ?_
  unfold laws_FnExactPlanMoved.f
  refine ev_ite (fun _ => Ev.now _) (fun h1 => ev_ite (fun _ => Ev.now _) (fun h2 => ?_))
  have tl := toInt_ev l (by omega)
  have tm := toInt_ev m (by omega)
  have el := eqInt_ev l (by omega)
  have em := eqInt_ev m (by omega)
  have ho : (movedF l m).length ≤ 1073741824 := by
    unfold movedF; split
    · have := moved_len l m 0; omega
    · simp
  have eo := eqInt_ev (movedF l m) (by omega)
  have ml := mark_ev l 1 (by omega) (by omega) (by omega)
  have mm := mark_ev m (1 + l.length) (by omega) (by omega) (by omega)
  have mo := mark_ev (movedF l m) 1 (by omega) (by omega) (by omega)
  have hh := held_ev (movedF l m).length 1 (by omega) (by omega) (by omega)
  refine Ev.bind tl (Ev.bind tm (Ev.bind (spec_moved l m (by omega)) (Ev.bind tl (Ev.bind tm (Ev.bind (impl_moved l m (by omega)) (Ev.bind eo (ev_pos rfl (Ev.bind tl (Ev.bind el (ev_pos rfl (Ev.bind tm (Ev.bind em (ev_pos rfl (Ev.bind ml (Ev.bind mm ?_)))))))))))))))
  refine ev_neg (by simp; omega) (Ev.bind eo (ev_succ ?_))
  simp only [laws_FnExactPlanMoved.j0]
  refine ev_neg (by simp) (Ev.bind mo (Ev.bind hh (ev_neg (by omega) (ev_pos rfl (Ev.bind tl (Ev.bind tm (Ev.bind (impl_moved l m (by omega)) (Ev.bind eo (ev_pos rfl (Ev.bind hh (ev_neg (by omega) (ev_pos rfl (Ev.now _)))))))))))))

end Go.Proofs.Ytjnagefogjkbbaa.Pure
