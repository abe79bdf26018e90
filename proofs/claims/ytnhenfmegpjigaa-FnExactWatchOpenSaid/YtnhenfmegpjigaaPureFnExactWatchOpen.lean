/- WatchOpen returns what the reference's returns, for all arguments. No condition beyond the statement's own. -/
import Derived.Test.YtnhenfmegpjigaaEvEx
import Derived.Test.YtnhenfmegpjigaaEvOpen
import Derived.Test.YtnhenfmegpjigaaEvIntsEx
import Derived.Test.YtnhenfmegpjigaaPEvx13
namespace Go.Proofs.Ytnhenfmegpjigaa.Pure
open Go.RowKit Go.Proofs.Ytnhenfmegpjigaa.PEv Go.Proofs.Ytnhenfmegpjigaa.BEv Go.Proofs.YtnhenfmegpjigaaW.PrintWords Go.Proofs.YtnhenfmegpjigaaW.PrintLast Go.Proofs.YtnhenfmegpjigaaW.PrintMore
set_option linter.unusedVariables false
set_option linter.unusedSimpArgs false

theorem FnExactWatchOpen : laws_FnExactWatchOpen.Pure := by
  intro l g hm _
  have hm' : l.length ≤ 9223372036854775807 := by unfold maxLen at hm; exact hm
  refine Ev.rounds ?_
  unfold laws_FnExactWatchOpen.f
  rcases sz_ev l 1048576 hm' (by omega) with ⟨hl, e⟩ | e
  · rw [e]; simp only [Option.bind_some]
    refine ev_neg (by omega) ?_
    have hb : (l.map conv).length ≤ 1099511627776 := by simp; omega
    have ht := to_ev l (by omega)
    have ho : (openF (l.map conv) g).length ≤ 1048576 := by have := open_len (l.map conv) g; omega
    have eo := eqInt_ev (openF (l.map conv) g) (by omega)
    have mo := mark_ev (openF (l.map conv) g) 1 (by omega) (by omega) (by omega)
    have hh := held_ev (openF (l.map conv) g).length 1 (by omega) (by omega) (by omega)
    obtain ⟨r, ys, hr, _, hk⟩ := markE_ev (l.map conv) 1 (by omega) (by omega) hb
    refine Ev.bind ht (Ev.bind (spec_open _ hb g) (Ev.bind ht (Ev.bind (impl_open _ hb g) (Ev.bind eo (ev_pos rfl (Ev.bind ht (Ev.bind (eq_ev _ hb) (ev_pos rfl (Ev.bind hk ?_)))))))))
    refine ev_neg (by simp; omega) (Ev.bind eo (ev_succ ?_))
    simp only [laws_FnExactWatchOpen.j0]
    refine ev_neg (by simp) (Ev.bind mo (Ev.bind hh (ev_neg (by omega) (ev_pos rfl (Ev.bind ht (Ev.bind (impl_open _ hb g) (Ev.bind eo (ev_pos rfl (Ev.bind hh (ev_neg (by omega) (ev_pos rfl (Ev.now _))))))))))))
  · rw [e]; simp only [Option.bind_some]; exact ev_pos (by omega) (Ev.now _)

end Go.Proofs.Ytnhenfmegpjigaa.Pure
