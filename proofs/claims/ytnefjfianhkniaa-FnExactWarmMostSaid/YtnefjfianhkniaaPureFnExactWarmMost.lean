/- WarmMost returns what the reference's returns, for all arguments. No condition beyond the statement's own. -/
import Derived.Test.YtnefjfianhkniaaWmMin
import Derived.Test.YtnefjfianhkniaaWmEx
import Derived.Test.YtnefjfianhkniaaPWmx9
namespace Go.Proofs.Ytnefjfianhkniaa.Pure
open Go.RowKit Go.Proofs.Ytnefjfianhkniaa.PWm Go.Proofs.Ytnefjfianhkniaa.BWm Go.Proofs.YtnefjfianhkniaaW.PrintWords Go.Proofs.YtnefjfianhkniaaW.PrintLast Go.Proofs.YtnefjfianhkniaaW.PrintMore
set_option linter.unusedVariables false
set_option linter.unusedSimpArgs false

theorem FnExactWarmMost : laws_FnExactWarmMost.Pure := by
  intro l hm
  have hm' : l.length ≤ 9223372036854775807 := by unfold maxLen at hm; exact hm
  refine Ev.rounds ?_
  unfold laws_FnExactWarmMost.f
  rcases sz_ev l hm' with ⟨hl, e⟩ | e
  · rw [e]; simp only [Option.bind_some]
    refine ev_neg (by omega) ?_
    have hb : (l.map conv).length ≤ 1099511627776 := by simp; omega
    refine Ev.bind (to_ev l hl) (Ev.bind (spec_most _ hb) (Ev.bind (to_ev l hl) (Ev.bind (impl_most _ hb) ?_)))
    refine ev_pos rfl (ev_pos rfl (ev_succ ?_))
    simp only [laws_FnExactWarmMost.j0]
    exact ev_neg (by simp) (Ev.bind (to_ev l hl) (Ev.bind (eq_ev _ hb) (ev_pos rfl (Ev.now _))))
  · rw [e]; simp only [Option.bind_some]; exact ev_pos (by omega) (Ev.now _)

end Go.Proofs.Ytnefjfianhkniaa.Pure
