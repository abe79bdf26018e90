/- Delays and moved steps: what the functions compute, over plain lists. Condition: fewer than 2^30 starts. -/
import Derived.Test.YtjnagefogjkbbaaPlBase
import Derived.Test.YtjnagefogjkbbaaPPlx1
import Derived.Test.YtjnagefogjkbbaaPPlx3
namespace Go.Proofs.Ytjnagefogjkbbaa.BPl
open Go.RowKit Go.Proofs.Ytjnagefogjkbbaa.PPl Go.Proofs.YtjnagefogjkbbaaW.PrintWords Go.Proofs.YtjnagefogjkbbaaW.PrintLast Go.Proofs.YtjnagefogjkbbaaW.PrintMore
set_option linter.unusedVariables false
set_option linter.unusedSimpArgs false
theorem in_ev (a b c : Int) : spec_l6In.f a b c = some (decide (b ≤ a ∧ a ≤ c)) := by
  unfold spec_l6In.f
  by_cases h : a ≥ b
  · rw [if_pos h]; simp; omega
  · rw [if_neg h]; simp; omega
theorem within_ev (a b c : Int) : impl_within.f a b c = some (decide (b ≤ a ∧ a ≤ c)) := by
  unfold impl_within.f
  by_cases h : a ≥ b
  · rw [if_pos h]; simp; omega
  · rw [if_neg h]; simp; omega
theorem start_ev (a : Int) : impl_isStart.f a = some (decide (0 ≤ a ∧ a ≤ 999)) := by unfold impl_isStart.f; rw [within_ev]; rfl
/-- the sum of the differences, or -1 -/
def delay : List Int → List Int → Int → Int
  | x :: r, y :: s, acc => if (0 ≤ x ∧ x ≤ 999) ∧ (x ≤ y ∧ y ≤ 999) then delay r s (acc + (y - x)) else -1
  | _, _, acc => acc
def delayF (l m : List Int) : Int := if l.length = m.length then delay l m 0 else -1
theorem spec_delay_loop (xs ys : List Int) (hl : xs.length = ys.length) (hb : xs.length ≤ 1073741824) : ∀ (s t p q : List Int) (acc : Int), xs = p ++ s → ys = q ++ t → p.length = q.length → 0 ≤ acc → acc ≤ 999 * p.length →
    Ev (fun k => spec_PlanDelay.l0 k xs ys acc (p.length : Int)) (delay s t acc) := by
  intro s
  induction s with
  | nil => intro t p q acc hx hy hpq h0 h1; refine ev_succ ?_; simp only [spec_PlanDelay.l0]; exact ev_neg (by subst hx; simp) (ev_const (by simp [delay]))
  | cons x s ih =>
    intro t p q acc hx hy hpq h0 h1
    cases t with
    | nil => exfalso; subst hx; subst hy; simp at hl; omega
    | cons y t =>
      refine ev_succ ?_
      have ey : rd ys (p.length : Int) = y := by rw [hpq]; exact rds hy
      have hy' : (p.length : Int) < (ys.length : Int) := by rw [hpq]; exact len_at hy
      have hp : p.length + 1 ≤ 1073741824 := by subst hx; simp at hb; omega
      simp only [spec_PlanDelay.l0, rds hx, ey, wlen hx (by omega), in_ev, Option.bind_some]
      refine ev_pos (len_at hx) (ev_pos (by omega) ?_)
      rw [delay]
      refine ev_ite (fun h2 => ev_pos hy' (ev_ite (fun h3 => ?_) (fun h3 => ?_))) (fun h2 => ?_)
      · simp only [decide_eq_true_eq] at h2 h3
        have e : wrap64 (wrap64 (acc + y) - x) = acc + (y - x) := by rw [w64 (x := acc + y) (by omega) (by omega), w64 (by omega) (by omega)]; omega
        rw [e, if_pos ⟨h2, h3⟩]
        exact ih t (p ++ [x]) (q ++ [y]) _ (snoc_at hx) (snoc_at hy) (by simp [hpq]) (by omega) (by simp; omega)
      · simp only [decide_eq_true_eq] at h2 h3; rw [if_neg (fun h => h3 h.2)]; exact Ev.now _
      · simp only [decide_eq_true_eq] at h2; rw [if_neg (fun h => h2 h.1)]; exact Ev.now _
theorem impl_delay_loop (xs ys : List Int) (hl : xs.length = ys.length) (hb : xs.length ≤ 1073741824) : ∀ (s t p q : List Int) (acc : Int), xs = p ++ s → ys = q ++ t → p.length = q.length → 0 ≤ acc → acc ≤ 999 * p.length →
    Ev (fun k => impl_PlanDelay.l0 k xs acc ys (ys.length : Int) (p.length : Int)) (delay s t acc) := by
  intro s
  induction s with
  | nil => intro t p q acc hx hy hpq h0 h1; refine ev_succ ?_; simp only [impl_PlanDelay.l0]; exact ev_neg (by subst hx; simp at hl ⊢; omega) (ev_const (by simp [delay]))
  | cons x s ih =>
    intro t p q acc hx hy hpq h0 h1
    cases t with
    | nil => exfalso; subst hx; subst hy; simp at hl; omega
    | cons y t =>
      refine ev_succ ?_
      have ey : rd ys (p.length : Int) = y := by rw [hpq]; exact rds hy
      have hy' : (p.length : Int) < (ys.length : Int) := by rw [hpq]; exact len_at hy
      have hp : p.length + 1 ≤ 1073741824 := by subst hx; simp at hb; omega
      simp only [impl_PlanDelay.l0, rds hx, ey, wlen hx (by omega), start_ev, Option.bind_some]
      refine ev_pos hy' (ev_pos (by omega) (ev_pos hy' (ev_pos (len_at hx) ?_)))
      rw [delay]
      refine ev_ite (fun h2 => ev_ite (fun h3 => ev_ite (fun h4 => ?_) (fun h4 => ?_)) (fun h3 => ?_)) (fun h2 => ?_)
      · rw [if_neg (fun h => by omega)]; exact Ev.now _
      · simp only [decide_eq_true_eq] at h2 h3
        have e : wrap64 (acc + wrap64 (y - x)) = acc + (y - x) := by rw [w64 (x := y - x) (by omega) (by omega), w64 (by omega) (by omega)]
        rw [e, if_pos ⟨h2, by omega, h3.2⟩]
        exact ih t (p ++ [x]) (q ++ [y]) _ (snoc_at hx) (snoc_at hy) (by simp [hpq]) (by omega) (by simp; omega)
      · simp only [decide_eq_true_eq] at h2 h3; rw [if_neg (fun h => h3 ⟨by omega, h.2.2⟩)]; exact Ev.now _
      · simp only [decide_eq_true_eq] at h2; rw [if_neg (fun h => h2 h.1)]; exact Ev.now _
theorem spec_delay (xs ys : List Int) (hb : xs.length ≤ 1073741824) : Ev (fun k => spec_PlanDelay.f k xs ys) (delayF xs ys) := by
  unfold spec_PlanDelay.f delayF
  by_cases h : xs.length = ys.length
  · rw [if_pos h]; exact ev_pos (by omega) (spec_delay_loop xs ys h hb xs ys [] [] 0 rfl rfl rfl (by omega) (by simp))
  · rw [if_neg h]; exact ev_neg (by omega) (Ev.now _)
theorem impl_delay (xs ys : List Int) (hb : xs.length ≤ 1073741824) : Ev (fun k => impl_PlanDelay.f k xs ys) (delayF xs ys) := by
  unfold impl_PlanDelay.f delayF
  by_cases h : xs.length = ys.length
  · rw [if_pos h]; exact ev_pos (by omega) (impl_delay_loop xs ys h hb xs ys [] [] 0 rfl rfl rfl (by omega) (by simp))
  · rw [if_neg h]; exact ev_neg (by omega) (Ev.now _)
/-- where two lists differ, from a place on -/
def moved : List Int → List Int → Int → List Int
  | x :: r, y :: s, i => if x = y then moved r s (i + 1) else i :: moved r s (i + 1)
  | _, _, _ => []
def movedF (l m : List Int) : List Int := if l.length = m.length then moved l m 0 else []
theorem spec_moved_loop (xs ys : List Int) (hl : xs.length = ys.length) (hb : xs.length ≤ 1073741824) : ∀ (s t p q : List Int) (out : List Int), xs = p ++ s → ys = q ++ t → p.length = q.length → out.length ≤ p.length →
    Ev (fun k => spec_PlanMoved.l0 k xs ys out (p.length : Int)) (out ++ moved s t p.length) := by
  intro s
  induction s with
  | nil =>
    intro t p q out hx hy hpq h0; refine ev_succ ?_; simp only [spec_PlanMoved.l0]
    refine ev_neg (by subst hx; simp) (ev_succ ?_); simp only [spec_PlanMoved.j1]; exact ev_neg (by simp) (ev_const (by simp [moved]))
  | cons x s ih =>
    intro t p q out hx hy hpq h0
    cases t with
    | nil => exfalso; subst hx; subst hy; simp at hl; omega
    | cons y t =>
      refine ev_succ ?_
      have ey : rd ys (p.length : Int) = y := by rw [hpq]; exact rds hy
      have hy' : (p.length : Int) < (ys.length : Int) := by rw [hpq]; exact len_at hy
      have hp : p.length + 1 ≤ 1073741824 := by subst hx; simp at hb; omega
      simp only [spec_PlanMoved.l0]
      refine ev_pos (len_at hx) (ev_succ ?_)
      simp only [spec_PlanMoved.j1, rds hx, ey, wlen hx (by omega)]
      refine ev_pos (by simp [hl]) (ev_pos (by omega) (ev_pos (len_at hx) (ev_pos hy' ?_)))
      have e1 : ((p ++ [x]).length : Int) = (p.length : Int) + 1 := by simp
      have h3 := fun o => ih t (p ++ [x]) (q ++ [y]) o (snoc_at hx) (snoc_at hy) (by simp [hpq])
      rw [e1] at h3
      rw [e1, moved]
      refine ev_ite (fun h => ?_) (fun h => ev_pos (by omega) ?_)
      · rw [if_pos h]; exact h3 out (by simp; omega)
      · rw [if_neg h]; exact ev_eq (h3 (out ++ [(p.length : Int)]) (by simp; omega)) (by simp)
theorem impl_moved_loop (xs ys : List Int) (hl : xs.length = ys.length) (hb : xs.length ≤ 1073741824) : ∀ (s t p q : List Int) (out : List Int), xs = p ++ s → ys = q ++ t → p.length = q.length → out.length ≤ p.length →
    Ev (fun k => impl_PlanMoved.l0 k xs out ys (ys.length : Int) (p.length : Int)) (out ++ moved s t p.length) := by
  intro s
  induction s with
  | nil => intro t p q out hx hy hpq h0; refine ev_succ ?_; simp only [impl_PlanMoved.l0]; exact ev_neg (by subst hx; simp at hl ⊢; omega) (ev_const (by simp [moved]))
  | cons x s ih =>
    intro t p q out hx hy hpq h0
    cases t with
    | nil => exfalso; subst hx; subst hy; simp at hl; omega
    | cons y t =>
      refine ev_succ ?_
      have ey : rd ys (p.length : Int) = y := by rw [hpq]; exact rds hy
      have hy' : (p.length : Int) < (ys.length : Int) := by rw [hpq]; exact len_at hy
      have hp : p.length + 1 ≤ 1073741824 := by subst hx; simp at hb; omega
      simp only [impl_PlanMoved.l0, rds hx, ey, wlen hx (by omega)]
      refine ev_pos hy' (ev_pos (by omega) (ev_pos hy' (ev_pos (len_at hx) ?_)))
      have e1 : ((p ++ [x]).length : Int) = (p.length : Int) + 1 := by simp
      have h3 := fun o => ih t (p ++ [x]) (q ++ [y]) o (snoc_at hx) (snoc_at hy) (by simp [hpq])
      rw [e1] at h3
      rw [e1, moved]
      refine ev_ite (fun h => ?_) (fun h => ev_pos (by omega) ?_)
      · rw [if_pos h.symm]; exact h3 out (by simp; omega)
      · rw [if_neg (fun e => h e.symm)]; exact ev_eq (h3 (out ++ [(p.length : Int)]) (by simp; omega)) (by simp)
theorem spec_moved (xs ys : List Int) (hb : xs.length ≤ 1073741824) : Ev (fun k => spec_PlanMoved.f k xs ys) (movedF xs ys) := by
  unfold spec_PlanMoved.f movedF
  by_cases h : xs.length = ys.length
  · rw [if_pos h]; exact spec_moved_loop xs ys h hb xs ys [] [] [] rfl rfl rfl (by simp)
  · rw [if_neg h]
    refine ev_succ ?_; simp only [spec_PlanMoved.l0]
    have e : ((xs.length : Int) == (ys.length : Int)) = false := by simp; omega
    rw [e]
    refine ev_ite (fun _ => ev_succ ?_) (fun _ => ev_succ ?_) <;> (simp only [spec_PlanMoved.j1]; exact ev_neg (by simp) (Ev.now _))
theorem impl_moved (xs ys : List Int) (hb : xs.length ≤ 1073741824) : Ev (fun k => impl_PlanMoved.f k xs ys) (movedF xs ys) := by
  unfold impl_PlanMoved.f movedF
  simp only [Option.bind_some]
  by_cases h : xs.length = ys.length
  · rw [if_pos h]; exact ev_pos (by omega) (impl_moved_loop xs ys h hb xs ys [] [] [] rfl rfl rfl (by simp))
  · rw [if_neg h]; exact ev_neg (by omega) (Ev.now _)
theorem moved_len : ∀ (s t : List Int) (i : Int), (moved s t i).length ≤ s.length
  | [], _, _ => by simp [moved]
  | x :: r, [], _ => by simp [moved]
  | x :: r, y :: s, i => by
    have := moved_len r s (i + 1)
    rw [moved]; split <;> simp <;> omega
end Go.Proofs.Ytjnagefogjkbbaa.BPl
