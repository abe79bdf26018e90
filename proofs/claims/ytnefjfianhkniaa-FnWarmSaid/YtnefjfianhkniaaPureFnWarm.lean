/- Warm minutes are counted: WarmMinutes is the number of minutes before the end at which the last reading is neither cold nor hot. No condition beyond the statement's own. -/
import Derived.Test.YtnefjfianhkniaaWmMin
import Derived.Test.YtnefjfianhkniaaPWmx15
namespace Go.Proofs.Ytnefjfianhkniaa.Pure
open Go.RowKit Go.Proofs.Ytnefjfianhkniaa.PWm Go.Proofs.Ytnefjfianhkniaa.BWm Go.Proofs.YtnefjfianhkniaaW.PrintWords Go.Proofs.YtnefjfianhkniaaW.PrintLast Go.Proofs.YtnefjfianhkniaaW.PrintMore
set_option linter.unusedVariables false
set_option linter.unusedSimpArgs false

theorem warm_inner (xs : List S34) (hb : xs.length ≤ 12) (e out n m : Int) : ∀ (s p : List S34) (b : Bool), xs = p ++ s →
    (∀ c, Ev (fun k => laws_FnWarm.l0 k xs e out (if c = true then wrap64 (n + 1) else n) (wrap64 (m + 1))) true → lastw m b s = c → Ev (fun k => laws_FnWarm.l1 k xs e out n m b (p.length : Int)) true) := by
  intro s
  induction s with
  | nil =>
    intro p b hx c hc hl
    refine ev_succ ?_
    simp only [laws_FnWarm.l1]
    refine ev_neg (by subst hx; simp) ?_
    simp only [lastw] at hl; subst hl
    refine ev_ite (fun h => ?_) (fun h => ?_)
    · rw [if_pos h] at hc; exact hc
    · rw [if_neg h] at hc; exact hc
  | cons x s ih =>
    intro p b hx c hc hl
    refine ev_succ ?_
    simp only [laws_FnWarm.l1, rd34s hx, wlen hx (by omega)]
    refine ev_pos (len_at hx) (ev_pos (by omega) ?_)
    rw [lastw_cons] at hl
    refine ev_ite (fun h => ?_) (fun h => ?_)
    · rw [if_pos h] at hl
      refine ev_ite (fun h5 => ?_) (fun h5 => ?_)
      · have e1 : decide (x.f1 < 60) = wt x.f1 := by simp [wt]; intro _; omega
        rw [e1]; exact ih (p ++ [x]) _ (snoc_at hx) c hc hl
      · have e1 : wt x.f1 = false := wt_no _ (by omega)
        rw [e1] at hl; exact ih (p ++ [x]) _ (snoc_at hx) c hc hl
    · rw [if_neg h] at hl; exact ih (p ++ [x]) _ (snoc_at hx) c hc hl

theorem warm_outer (xs : List S34) (hb : xs.length ≤ 12) (e out : Int) (he : e ≤ 1440) : ∀ (d : Nat) (m : Nat), (m : Int) + d = e → out = many xs e.toNat →
    Ev (fun k => laws_FnWarm.l0 k xs e out (many xs m) (m : Int)) true := by
  intro d
  induction d with
  | zero =>
    intro m hm ho
    refine ev_succ ?_; simp only [laws_FnWarm.l0]
    refine ev_neg (by omega) (ev_const ?_)
    have : e.toNat = m := by omega
    rw [ho, this]; simp
  | succ d ih =>
    intro m hm ho
    refine ev_succ ?_; simp only [laws_FnWarm.l0]
    refine ev_pos (by omega) ?_
    have hr := b2i_range (lastw m false xs)
    have hbd : ∀ j : Nat, 0 ≤ many xs j ∧ many xs j ≤ j := by
      intro j; induction j with
      | zero => simp [many]
      | succ j ihj => have := b2i_range (lastw j false xs); simp only [many]; omega
    have hbm := hbd m
    refine warm_inner xs hb e out (many xs m) m xs [] false rfl (lastw m false xs) ?_ rfl
    have e1 : (if lastw m false xs = true then wrap64 (many xs m + 1) else many xs m) = many xs (m + 1) := by
      rw [many]
      cases h : lastw m false xs with
      | true => rw [if_pos rfl, w64 (by omega) (by omega)]; simp [b2i]
      | false => rw [if_neg (by simp)]; simp [b2i]
    have e2 : wrap64 ((m : Int) + 1) = ((m + 1 : Nat) : Int) := by rw [w64 (by omega) (by omega)]; omega
    rw [e1, e2]
    exact ih (m + 1) (by omega) ho

theorem FnWarm : laws_FnWarm.Pure := by
  intro l _ _ hl
  refine Ev.rounds ?_
  unfold laws_FnWarm.f
  refine ev_ite (fun _ => Ev.now _) (fun _ => ?_)
  obtain ⟨xs, e, hxs, he0, he1, hd⟩ := draw_minutes l hl
  refine Ev.bind hd (Ev.bind (impl_warm xs (by omega) e) (Ev.bind (spec_warm xs (by omega) e) (ev_pos rfl (ev_succ ?_))))
  simp only [laws_FnWarm.j0]
  refine ev_ite (fun _ => ev_const (by simp)) (fun h => ?_)
  simp only [decide_eq_true_eq] at h
  by_cases hc : rvalid xs = true ∧ 0 ≤ e ∧ e ≤ 1440
  · rw [warmF, if_pos hc]
    obtain ⟨hv, ha, hh, h1, h12⟩ := valid_parts hc.1
    obtain ⟨n, hn⟩ := Int.eq_ofNat_of_zero_le hc.2.1
    have := warm_outer xs h12 e (cnt e xs) hc.2.2 n 0 (by omega) (by rw [hn]; exact cnt_many xs ha hh n)
    exact this
  · rw [warmF, if_neg hc] at h; omega

end Go.Proofs.Ytnefjfianhkniaa.Pure
