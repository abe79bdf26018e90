/- Food that is good all day has no end: WarmUntil is -1 exactly if WarmMinutes of the whole day is at most the limit. No condition beyond the statement's own. -/
import Derived.Test.YtnefjfianhkniaaWmMin
import Derived.Test.YtnefjfianhkniaaPWmx22
namespace Go.Proofs.Ytnefjfianhkniaa.Pure
open Go.RowKit Go.Proofs.Ytnefjfianhkniaa.PWm Go.Proofs.Ytnefjfianhkniaa.BWm Go.Proofs.YtnefjfianhkniaaW.PrintWords Go.Proofs.YtnefjfianhkniaaW.PrintLast Go.Proofs.YtnefjfianhkniaaW.PrintMore
set_option linter.unusedVariables false
set_option linter.unusedSimpArgs false

theorem ufrom_lo (l : List S34) (lim : Int) : ∀ (n : Nat) (m : Int), 0 ≤ m → ufrom l lim n m = -1 ∨ (m ≤ ufrom l lim n m ∧ ufrom l lim n m < m + n ∧ cnt (ufrom l lim n m) l > lim ∧ ∀ j, m ≤ j → j < ufrom l lim n m → ¬ cnt j l > lim)
  | 0, m, _ => .inl rfl
  | n + 1, m, h0 => by
    rw [ufrom]
    by_cases h : cnt m l > lim
    · rw [if_pos h]; exact .inr ⟨Int.le_refl _, by omega, h, fun j h1 h2 => by omega⟩
    · rw [if_neg h]
      rcases ufrom_lo l lim n (m + 1) (by omega) with h1 | ⟨h1, h2, h3, h4⟩
      · exact .inl h1
      · refine .inr ⟨by omega, by omega, h3, fun j hj1 hj2 => ?_⟩
        by_cases e : j = m
        · subst e; exact h
        · exact h4 j (by omega) hj2
theorem ufrom_none (l : List S34) (lim : Int) : ∀ (n : Nat) (m : Int), 0 ≤ m → ufrom l lim n m = -1 → ∀ j, m ≤ j → j < m + n → ¬ cnt j l > lim
  | 0, m, _, _, j, h1, h2 => by omega
  | n + 1, m, h0, h, j, h1, h2 => by
    rw [ufrom] at h
    by_cases hc : cnt m l > lim
    · rw [if_pos hc] at h; omega
    · rw [if_neg hc] at h
      by_cases e : j = m
      · subst e; exact hc
      · exact ufrom_none l lim n (m + 1) (by omega) h j (by omega) (by omega)

theorem FnWarmUntilNone : laws_FnWarmUntilNone.Pure := by
  intro l _ _ hl
  refine Ev.rounds ?_
  unfold laws_FnWarmUntilNone.f
  refine ev_ite (fun _ => Ev.now _) (fun _ => ?_)
  obtain ⟨xs, lim, hxs, he0, he1, hd⟩ := draw_until l hl
  refine Ev.bind hd (Ev.bind (impl_until xs (by omega) lim) (Ev.bind (spec_until xs (by omega) lim) (ev_pos rfl (Ev.bind (spec_valid xs (by omega)) ?_))))
  refine ev_ite (fun hv => ev_ite (fun _ => ev_const (by simp)) (fun h => ?_)) (fun _ => ev_const (by simp))
  refine Ev.bind (impl_warm xs (by omega) 1440) (ev_const ?_)
  obtain ⟨_, ha, hh, h1, h12⟩ := valid_parts hv
  rw [untilF, if_pos ⟨hv, by omega⟩, warmF, if_pos ⟨hv, by omega, by omega⟩]
  rcases ufrom_lo xs lim 1441 0 (by omega) with h2 | ⟨h2, h3, h4, h5⟩
  · have := ufrom_none xs lim 1441 0 (by omega) h2 1440 (by omega) (by omega)
    rw [h2]; simp; omega
  · generalize ufrom xs lim 1441 0 = u at *
    have hm := cnt_mono xs ha u (1440 - u).toNat
    have e1 : u + ((1440 - u).toNat : Int) = 1440 := by omega
    rw [e1] at hm
    have e2 : (u == -1) = false := by simp; omega
    have e3 : decide (cnt 1440 xs ≤ lim) = false := by simp; omega
    rw [e2, e3]; rfl

end Go.Proofs.Ytnefjfianhkniaa.Pure
