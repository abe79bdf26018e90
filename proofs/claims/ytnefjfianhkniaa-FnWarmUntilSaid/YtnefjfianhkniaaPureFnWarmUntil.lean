/- Food is good as long as it was not warm too long: WarmMinutes up to WarmUntil is one more than the limit, and up to the minute before it is the limit. No condition beyond the statement's own. -/
import Derived.Test.YtnefjfianhkniaaWmMin
import Derived.Test.YtnefjfianhkniaaPWmx21
namespace Go.Proofs.Ytnefjfianhkniaa.Pure
open Go.RowKit Go.Proofs.Ytnefjfianhkniaa.PWm Go.Proofs.Ytnefjfianhkniaa.BWm Go.Proofs.YtnefjfianhkniaaW.PrintWords Go.Proofs.YtnefjfianhkniaaW.PrintLast Go.Proofs.YtnefjfianhkniaaW.PrintMore
set_option linter.unusedVariables false
set_option linter.unusedSimpArgs false

theorem ufrom_lo (l : List S34) (lim : Int) : ∀ (n : Nat) (m : Int), 0 ≤ m → ufrom l lim n m = -1 ∨ (m ≤ ufrom l lim n m ∧ ufrom l lim n m < m + n ∧ cnt (ufrom l lim n m) l > lim ∧ ∀ j, m ≤ j → j < ufrom l lim n m → ¬ cnt j l > lim)
  | 0, m, _ => .inl rfl
  | n + 1, m, h0 => by
    rw [ufrom]
    by_cases h : cnt m l > lim
    · rw [if_pos h]; exact .inr ⟨Int.le_refl _, by omega, h, fun j h1 h2 => by omega⟩
    · rw [if_neg h]
      rcases ufrom_lo l lim n (m + 1) (by omega) with h1 | ⟨h1, h2, h3, h4⟩
      · exact .inl h1
      · refine .inr ⟨by omega, by omega, h3, fun j hj1 hj2 => ?_⟩
        by_cases e : j = m
        · subst e; exact h
        · exact h4 j (by omega) hj2
theorem ufrom_none (l : List S34) (lim : Int) : ∀ (n : Nat) (m : Int), 0 ≤ m → ufrom l lim n m = -1 → ∀ j, m ≤ j → j < m + n → ¬ cnt j l > lim
  | 0, m, _, _, j, h1, h2 => by omega
  | n + 1, m, h0, h, j, h1, h2 => by
    rw [ufrom] at h
    by_cases hc : cnt m l > lim
    · rw [if_pos hc] at h; omega
    · rw [if_neg hc] at h
      by_cases e : j = m
      · subst e; exact hc
      · exact ufrom_none l lim n (m + 1) (by omega) h j (by omega) (by omega)

theorem FnWarmUntil : laws_FnWarmUntil.Pure := by
  intro l _ _ hl
  refine Ev.rounds ?_
  unfold laws_FnWarmUntil.f
  refine ev_ite (fun _ => Ev.now _) (fun _ => ?_)
  obtain ⟨xs, lim, hxs, he0, he1, hd⟩ := draw_until l hl
  refine Ev.bind hd (Ev.bind (impl_until xs (by omega) lim) (Ev.bind (spec_until xs (by omega) lim) (ev_pos rfl (ev_succ ?_))))
  simp only [laws_FnWarmUntil.j0]
  refine ev_ite (fun _ => ev_const (by simp)) (fun h => ?_)
  simp only [decide_eq_true_eq] at h
  by_cases hc : rvalid xs = true ∧ 0 ≤ lim
  · rw [untilF, if_pos hc] at h ⊢
    obtain ⟨hv, ha, hh, h1, h12⟩ := valid_parts hc.1
    rcases ufrom_lo xs lim 1441 0 (by omega) with h2 | ⟨h2, h3, h4, h5⟩
    · omega
    · generalize ufrom xs lim 1441 0 = u at *
      have hz := cnt_zero 0 xs ha hh
      have hu : u ≠ 0 := fun e => by subst e; omega
      have h6 := h5 (u - 1) (by omega) (by omega)
      have h7 := cnt_succ (u - 1) xs ha
      have h8 := b2i_range (lastw (u - 1) false xs)
      have e9 : u - 1 + 1 = u := by omega
      rw [e9] at h7
      have ew : warmF xs u = cnt u xs := by rw [warmF, if_pos ⟨hc.1, by omega, by omega⟩]
      have ew1 : warmF xs (u - 1) = cnt (u - 1) xs := by rw [warmF, if_pos ⟨hc.1, by omega, by omega⟩]
      refine Ev.bind (impl_warm xs (by omega) u) ?_
      rw [w64 (x := lim + 1) (by omega) (by omega), w64 (x := u - 1) (by omega) (by omega), ew]
      refine ev_pos (by omega) (Ev.bind (impl_warm xs (by omega) (u - 1)) (ev_const ?_))
      rw [ew1]; simp; omega
  · rw [untilF, if_neg hc] at h; omega

end Go.Proofs.Ytnefjfianhkniaa.Pure
