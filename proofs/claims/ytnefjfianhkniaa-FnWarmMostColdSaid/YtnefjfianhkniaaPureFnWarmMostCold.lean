/- What was never warm has no warm minutes: where the greatest temperature is cold, or the least one hot, WarmMinutes of the whole day is 0. No condition beyond the statement's own. -/
import Derived.Test.YtnefjfianhkniaaWmMin
import Derived.Test.YtnefjfianhkniaaPWmx11
namespace Go.Proofs.Ytnefjfianhkniaa.Pure
open Go.RowKit Go.Proofs.Ytnefjfianhkniaa.PWm Go.Proofs.Ytnefjfianhkniaa.BWm Go.Proofs.YtnefjfianhkniaaW.PrintWords Go.Proofs.YtnefjfianhkniaaW.PrintLast Go.Proofs.YtnefjfianhkniaaW.PrintMore
set_option linter.unusedVariables false
set_option linter.unusedSimpArgs false

theorem high_all : ∀ (l : List S34) (a : Int), a ≤ high a l ∧ ∀ x ∈ l, x.f1 ≤ high a l
  | [], a => ⟨Int.le_refl _, fun _ h => (by cases h)⟩
  | y :: r, a => by
    obtain ⟨h1, h2⟩ := high_all r (max a y.f1)
    simp only [high]
    refine ⟨by omega, fun x hx => ?_⟩
    rcases List.mem_cons.1 hx with rfl | hx
    · omega
    · exact h2 x hx
theorem low_all : ∀ (l : List S34) (a : Int), low a l ≤ a ∧ ∀ x ∈ l, low a l ≤ x.f1
  | [], a => ⟨Int.le_refl _, fun _ h => (by cases h)⟩
  | y :: r, a => by
    obtain ⟨h1, h2⟩ := low_all r (min a y.f1)
    simp only [low]
    refine ⟨by omega, fun x hx => ?_⟩
    rcases List.mem_cons.1 hx with rfl | hx
    · omega
    · exact h2 x hx
theorem cnt_never (e : Int) : ∀ l : List S34, (∀ x ∈ l, wt x.f1 = false) → cnt e l = 0
  | [], _ => rfl
  | x :: r, h => by rw [cnt_cons, h x (List.mem_cons_self), cnt_never e r (fun y hy => h y (List.mem_cons_of_mem _ hy))]; simp

theorem FnWarmMostCold : laws_FnWarmMostCold.Pure := by
  intro l _ _ hl
  refine Ev.rounds ?_
  unfold laws_FnWarmMostCold.f
  refine ev_ite (fun _ => Ev.now _) (fun _ => ?_)
  obtain ⟨xs, hxs, hd⟩ := draw_most l hl
  refine Ev.bind hd (Ev.bind (impl_most xs (by omega)) (Ev.bind (spec_most xs (by omega)) (ev_neg (by simp) (ev_pos rfl (ev_pos rfl ?_)))))
  refine ev_ite (fun h => ?_) (fun h => ?_)
  · cases xs with
    | nil => simp [mostF] at h
    | cons x r =>
      by_cases hv : rvalid (x :: r) = true
      · have e : mostF (x :: r) = (high x.f1 r, low x.f1 r, true) := by simp [mostF, hv]
        rw [e]; dsimp only
        obtain ⟨a1, a2⟩ := high_all r x.f1
        obtain ⟨b1, b2⟩ := low_all r x.f1
        have fin : (¬ high x.f1 r > 5 ∨ ¬ low x.f1 r < 60) → Ev (fun k => (impl_WarmMinutes.f k (x :: r) 1440).bind fun t => some (t == 0)) true := by
          intro hc
          refine Ev.bind (impl_warm _ (by omega) 1440) (ev_const ?_)
          rw [warmF, if_pos ⟨hv, by omega, by omega⟩, cnt_never]
          · rfl
          · intro y hy
            refine wt_no _ ?_
            rcases List.mem_cons.1 hy with rfl | hy
            · omega
            · have := a2 y hy; have := b2 y hy; omega
        exact ev_ite (fun h1 => ev_ite (fun h2 => Ev.now _) (fun h2 => fin (.inr h2))) (fun h1 => fin (.inl h1))
      · simp [mostF, hv] at h
  · first
    | exact ev_pos (by simp) (ev_const (by simp))
    | exact ev_const (by simp)
    | exact Ev.now _

end Go.Proofs.Ytnefjfianhkniaa.Pure
