/- Extremes are temperatures: no reading is warmer than the first or colder than the second number of WarmMost, and both are temperatures of readings. No condition beyond the statement's own. -/
import Derived.Test.YtnefjfianhkniaaWmMin
import Derived.Test.YtnefjfianhkniaaPWmx8
namespace Go.Proofs.Ytnefjfianhkniaa.Pure
open Go.RowKit Go.Proofs.Ytnefjfianhkniaa.PWm Go.Proofs.Ytnefjfianhkniaa.BWm Go.Proofs.YtnefjfianhkniaaW.PrintWords Go.Proofs.YtnefjfianhkniaaW.PrintLast Go.Proofs.YtnefjfianhkniaaW.PrintMore
set_option linter.unusedVariables false
set_option linter.unusedSimpArgs false

theorem high_ge : ∀ (l : List S34) (a : Int), a ≤ high a l ∧ (∀ x ∈ l, x.f1 ≤ high a l) ∧ (high a l = a ∨ ∃ x ∈ l, x.f1 = high a l)
  | [], a => ⟨Int.le_refl _, fun _ h => (by cases h), .inl rfl⟩
  | y :: r, a => by
    obtain ⟨h1, h2, h3⟩ := high_ge r (max a y.f1)
    simp only [high]
    refine ⟨by omega, fun x hx => ?_, ?_⟩
    · rcases List.mem_cons.1 hx with rfl | hx
      · omega
      · exact h2 x hx
    · rcases h3 with h3 | ⟨x, hx, h3⟩
      · by_cases hc : a < y.f1
        · exact .inr ⟨y, List.mem_cons_self, by omega⟩
        · exact .inl (by omega)
      · exact .inr ⟨x, List.mem_cons_of_mem _ hx, h3⟩
theorem low_le : ∀ (l : List S34) (a : Int), low a l ≤ a ∧ (∀ x ∈ l, low a l ≤ x.f1) ∧ (low a l = a ∨ ∃ x ∈ l, x.f1 = low a l)
  | [], a => ⟨Int.le_refl _, fun _ h => (by cases h), .inl rfl⟩
  | y :: r, a => by
    obtain ⟨h1, h2, h3⟩ := low_le r (min a y.f1)
    simp only [low]
    refine ⟨by omega, fun x hx => ?_, ?_⟩
    · rcases List.mem_cons.1 hx with rfl | hx
      · omega
      · exact h2 x hx
    · rcases h3 with h3 | ⟨x, hx, h3⟩
      · by_cases hc : y.f1 < a
        · exact .inr ⟨y, List.mem_cons_self, by omega⟩
        · exact .inl (by omega)
      · exact .inr ⟨x, List.mem_cons_of_mem _ hx, h3⟩

theorem most_loop (xs : List S34) (hb : xs.length ≤ 13) (hi lo : Int) (h1 : ∀ x ∈ xs, x.f1 ≤ hi) (h2 : ∀ x ∈ xs, lo ≤ x.f1) : ∀ (s p : List S34) (a b : Bool), xs = p ++ s →
    (a = true ∨ ∃ x ∈ s, x.f1 = hi) → (b = true ∨ ∃ x ∈ s, x.f1 = lo) → Ev (fun k => laws_FnWarmMost.l0 k xs hi lo a b (p.length : Int)) true := by
  intro s
  induction s with
  | nil =>
    intro p a b hx ha hb'
    refine ev_succ ?_; simp only [laws_FnWarmMost.l0]
    have ea : a = true := by rcases ha with h | ⟨_, h, _⟩; exact h; cases h
    have eb : b = true := by rcases hb' with h | ⟨_, h, _⟩; exact h; cases h
    subst ea; subst eb
    exact ev_neg (by subst hx; simp) (ev_pos (by simp) (Ev.now _))
  | cons x s ih =>
    intro p a b hx ha hb'
    refine ev_succ ?_; simp only [laws_FnWarmMost.l0, rd34s hx, wlen hx (by omega)]
    have m1 := h1 x (by subst hx; simp)
    have m2 := h2 x (by subst hx; simp)
    refine ev_pos (len_at hx) (ev_pos (by omega) (ev_neg (by omega) (ev_neg (by omega) ?_)))
    have hi' := ih (p ++ [x])
    have ka : ∀ c : Bool, (c = true ↔ (a = true ∨ x.f1 = hi)) → (c = true ∨ ∃ y ∈ s, y.f1 = hi) := by
      intro c hc
      rcases ha with h | ⟨y, hy, h⟩
      · exact .inl (hc.2 (.inl h))
      · rcases List.mem_cons.1 hy with rfl | hy
        · exact .inl (hc.2 (.inr h))
        · exact .inr ⟨y, hy, h⟩
    have kb : ∀ c : Bool, (c = true ↔ (b = true ∨ x.f1 = lo)) → (c = true ∨ ∃ y ∈ s, y.f1 = lo) := by
      intro c hc
      rcases hb' with h | ⟨y, hy, h⟩
      · exact .inl (hc.2 (.inl h))
      · rcases List.mem_cons.1 hy with rfl | hy
        · exact .inl (hc.2 (.inr h))
        · exact .inr ⟨y, hy, h⟩
    refine ev_ite (fun ea => ev_ite (fun eb => ?_) (fun eb => ?_)) (fun ea => ev_ite (fun eb => ?_) (fun eb => ?_))
    · exact hi' _ _ (snoc_at hx) (.inl rfl) (.inl rfl)
    · exact hi' _ _ (snoc_at hx) (.inl rfl) (kb _ (by simp [eb]))
    · exact hi' _ _ (snoc_at hx) (ka _ (by simp [ea])) (.inl rfl)
    · exact hi' _ _ (snoc_at hx) (ka _ (by simp [ea])) (kb _ (by simp [eb]))

theorem FnWarmMost : laws_FnWarmMost.Pure := by
  intro l _ _ hl
  refine Ev.rounds ?_
  unfold laws_FnWarmMost.f
  refine ev_ite (fun _ => Ev.now _) (fun _ => ?_)
  obtain ⟨xs, hxs, hd⟩ := draw_most l hl
  refine Ev.bind hd (Ev.bind (impl_most xs (by omega)) (Ev.bind (spec_most xs (by omega)) (ev_neg (by simp) (ev_pos rfl (ev_pos rfl (ev_succ ?_))))))
  simp only [laws_FnWarmMost.j0]
  refine ev_ite (fun h => ev_pos (by simp) (ev_pos (by simp) (ev_const (by simp)))) (fun h => ?_)
  cases xs with
  | nil => simp [mostF] at h
  | cons x r =>
    by_cases hv : rvalid (x :: r) = true
    · have e : mostF (x :: r) = (high x.f1 r, low x.f1 r, true) := by simp [mostF, hv]
      rw [e]; dsimp only
      obtain ⟨a1, a2, a3⟩ := high_ge r x.f1
      obtain ⟨b1, b2, b3⟩ := low_le r x.f1
      refine most_loop (x :: r) hxs _ _ (fun y hy => ?_) (fun y hy => ?_) (x :: r) [] false false rfl (.inr ?_) (.inr ?_)
      · rcases List.mem_cons.1 hy with rfl | hy
        · exact a1
        · exact a2 y hy
      · rcases List.mem_cons.1 hy with rfl | hy
        · exact b1
        · exact b2 y hy
      · rcases a3 with h | ⟨y, hy, h⟩
        · exact ⟨x, List.mem_cons_self, h.symm⟩
        · exact ⟨y, List.mem_cons_of_mem _ hy, h⟩
      · rcases b3 with h | ⟨y, hy, h⟩
        · exact ⟨x, List.mem_cons_self, h.symm⟩
        · exact ⟨y, List.mem_cons_of_mem _ hy, h⟩
    · simp [mostF, hv] at h

end Go.Proofs.Ytnefjfianhkniaa.Pure
