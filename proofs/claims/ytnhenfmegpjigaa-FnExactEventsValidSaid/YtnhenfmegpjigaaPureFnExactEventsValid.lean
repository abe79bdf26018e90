/- EventsValid returns what the reference's returns, for all arguments. No condition beyond the statement's own. -/
import Derived.Test.YtnhenfmegpjigaaEvEx
import Derived.Test.YtnhenfmegpjigaaPEvx6
namespace Go.Proofs.Ytnhenfmegpjigaa.Pure
open Go.RowKit Go.Proofs.Ytnhenfmegpjigaa.PEv Go.Proofs.Ytnhenfmegpjigaa.BEv Go.Proofs.YtnhenfmegpjigaaW.PrintWords Go.Proofs.YtnhenfmegpjigaaW.PrintLast Go.Proofs.YtnhenfmegpjigaaW.PrintMore
set_option linter.unusedVariables false
set_option linter.unusedSimpArgs false

theorem FnExactEventsValid : laws_FnExactEventsValid.Pure := by
  intro l hm
  have hm' : l.length ≤ 9223372036854775807 := by unfold maxLen at hm; exact hm
  refine Ev.rounds ?_
  unfold laws_FnExactEventsValid.f
  rcases sz_ev l 1048576 hm' (by omega) with ⟨hl, e⟩ | e
  · rw [e]; simp only [Option.bind_some]
    refine ev_neg (by omega) ?_
    have hb : (l.map conv).length ≤ 1099511627776 := by simp; omega
    have ht := to_ev l (by omega)
    refine Ev.bind ht (Ev.bind (spec_valid _ hb) (Ev.bind ht (Ev.bind (impl_valid _ hb) ?_)))
    exact ev_neg (by simp) (Ev.bind ht (Ev.bind (eq_ev _ hb) (ev_pos rfl (Ev.now _))))
  · rw [e]; simp only [Option.bind_some]; exact ev_pos (by omega) (Ev.now _)

end Go.Proofs.Ytnhenfmegpjigaa.Pure
