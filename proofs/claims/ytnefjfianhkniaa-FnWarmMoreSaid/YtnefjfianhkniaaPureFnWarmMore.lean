/- Time does not run backwards: WarmMinutes is the same or one more for the next minute, and 0 up to the first reading. No condition beyond the statement's own. -/
import Derived.Test.YtnefjfianhkniaaWmMin
import Derived.Test.YtnefjfianhkniaaPWmx17
namespace Go.Proofs.Ytnefjfianhkniaa.Pure
open Go.RowKit Go.Proofs.Ytnefjfianhkniaa.PWm Go.Proofs.Ytnefjfianhkniaa.BWm Go.Proofs.YtnefjfianhkniaaW.PrintWords Go.Proofs.YtnefjfianhkniaaW.PrintLast Go.Proofs.YtnefjfianhkniaaW.PrintMore
set_option linter.unusedVariables false
set_option linter.unusedSimpArgs false

theorem FnWarmMore : laws_FnWarmMore.Pure := by
  intro l _ _ hl
  refine Ev.rounds ?_
  unfold laws_FnWarmMore.f
  refine ev_ite (fun _ => Ev.now _) (fun _ => ?_)
  obtain ⟨xs, e, hxs, he0, he1, hdr⟩ := draw_minutes l hl
  refine Ev.bind hdr (Ev.bind (impl_warm xs (by omega) e) (Ev.bind (spec_warm xs (by omega) e) (ev_pos rfl (ev_succ ?_))))
  simp only [laws_FnWarmMore.j0]
  refine ev_ite (fun _ => ev_const (by simp)) (fun h => ?_)
  simp only [decide_eq_true_eq] at h
  by_cases hc : rvalid xs = true ∧ 0 ≤ e ∧ e ≤ 1440
  · obtain ⟨hv, ha, hh, h1, h12⟩ := valid_parts hc.1
    have e0 : warmF xs e = cnt e xs := by rw [warmF, if_pos hc]
    have e1 : wrap64 (e + 1) = e + 1 := w64 (by omega) (by omega)
    have hc0 := cnt_nonneg e xs
    have hcl := cnt_le e hc.2.2 xs (fun x hx => (hv x hx).1.1)
    have e2 : wrap64 (warmF xs e + 1) = cnt e xs + 1 := by rw [e0]; exact w64 (by omega) (by omega)
    rw [e1, e2, e0]
    refine Ev.bind (impl_warm xs (by omega) (e + 1)) ?_
    have hlast : Ev (fun k => if 0 < (xs.length : Int) then ((impl_WarmMinutes.f k xs ((rd_T34 xs 0).f0)).bind fun t => some (t == 0)) else none) true := by
      refine ev_pos (by omega) (Ev.bind (impl_warm xs (by omega) _) (ev_const ?_))
      cases xs with
      | nil => simp at h1
      | cons x r =>
        have ex : rd_T34 (x :: r) 0 = x := rfl
        have hx := (hv x (List.mem_cons_self)).1
        rw [ex, warmF, if_pos ⟨hc.1, hx.1, by omega⟩, cnt_zero x.f0 _ ha (by simp [hd])]; rfl
    by_cases hn : e + 1 ≤ 1440
    · have e3 : warmF xs (e + 1) = cnt (e + 1) xs := by rw [warmF, if_pos ⟨hc.1, by omega, hn⟩]
      have hs := cnt_succ e xs ha
      have hr := b2i_range (lastw e false xs)
      rw [e3]
      refine ev_neg (by omega) (ev_ite (fun _ => hlast) (fun h2 => ev_pos (by omega) hlast))
    · have e3 : warmF xs (e + 1) = -1 := by rw [warmF, if_neg (by omega)]
      rw [e3]
      exact ev_pos (by omega) hlast
  · rw [warmF, if_neg hc] at h; omega

end Go.Proofs.Ytnefjfianhkniaa.Pure
