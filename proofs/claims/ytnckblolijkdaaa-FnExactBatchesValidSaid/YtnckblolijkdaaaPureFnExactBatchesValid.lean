/- BatchesValid returns what the reference's returns, for all arguments. No condition beyond the statement's own. -/
import Derived.Test.YtnckblolijkdaaaBtEx
import Derived.Test.YtnckblolijkdaaaPBtx7
namespace Go.Proofs.Ytnckblolijkdaaa.Pure
open Go.RowKit Go.Proofs.Ytnckblolijkdaaa.PBt Go.Proofs.Ytnckblolijkdaaa.BBt Go.Proofs.YtnckblolijkdaaaW.PrintWords Go.Proofs.YtnckblolijkdaaaW.PrintLast Go.Proofs.YtnckblolijkdaaaW.PrintMore
set_option linter.unusedVariables false
set_option linter.unusedSimpArgs false

theorem FnExactBatchesValid : laws_FnExactBatchesValid.Pure := by
  intro l hm hi
  have hm' : l.length ≤ 9223372036854775807 := by unfold maxLen at hm; exact hm
  have hi' : ∀ x ∈ l, x.f1.length ≤ 9223372036854775807 := by unfold maxLen at hi; exact hi
  refine Ev.rounds ?_
  unfold laws_FnExactBatchesValid.f
  obtain ⟨r, hr, hc⟩ := sz_ev l 1048576 (by omega) hm' hi'
  refine Ev.bind hr ?_
  rcases hc with hc | ⟨h0, _, hf⟩
  · exact ev_pos hc (Ev.now _)
  · have hs := fit_small hf
    have ht := to_ev l hf
    refine ev_neg (by omega) (Ev.bind ht (Ev.bind (spec_valid _ hs) (Ev.bind ht (Ev.bind (impl_valid _ hs) ?_))))
    exact ev_neg (by simp) (Ev.bind ht (Ev.bind (eq_ev _ hs) (ev_pos rfl (Ev.now _))))

end Go.Proofs.Ytnckblolijkdaaa.Pure
