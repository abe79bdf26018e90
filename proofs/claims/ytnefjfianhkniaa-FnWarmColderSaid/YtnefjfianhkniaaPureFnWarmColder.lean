/- Cold food is not warm: WarmMinutes is not greater with any one reading replaced by a cold one. No condition beyond the statement's own. -/
import Derived.Test.YtnefjfianhkniaaWmMin
import Derived.Test.YtnefjfianhkniaaPWmx16
namespace Go.Proofs.Ytnefjfianhkniaa.Pure
open Go.RowKit Go.Proofs.Ytnefjfianhkniaa.PWm Go.Proofs.Ytnefjfianhkniaa.BWm Go.Proofs.YtnefjfianhkniaaW.PrintWords Go.Proofs.YtnefjfianhkniaaW.PrintLast Go.Proofs.YtnefjfianhkniaaW.PrintMore
set_option linter.unusedVariables false
set_option linter.unusedSimpArgs false

theorem rok_set (k : Nat) (t : Int) (ht : -40 ≤ t ∧ t ≤ 300) : ∀ (l : List S34) (q : Option Int), rok q l = true → rok q (l.set k ⟨(l.getD k z34).f0, t⟩) = true := by
  induction k with
  | zero =>
    intro l q h
    cases l with
    | nil => exact h
    | cons x r =>
      simp only [List.set_cons_zero, List.getD_cons_zero, rok, Bool.and_eq_true, decide_eq_true_eq] at h ⊢
      exact ⟨h.1, ht, h.2.2⟩
  | succ k ih =>
    intro l q h
    cases l with
    | nil => exact h
    | cons x r =>
      simp only [List.set_cons_succ, List.getD_cons_succ, rok, Bool.and_eq_true, decide_eq_true_eq] at h ⊢
      exact ⟨h.1, h.2.1, h.2.2.1, ih r _ h.2.2.2⟩

theorem FnWarmColder : laws_FnWarmColder.Pure := by
  intro l more _ _ hl _ _ hm
  refine Ev.rounds ?_
  unfold laws_FnWarmColder.f
  have key : ∀ b, Ev (fun k => laws_FnWarmColder.j0 k l more b) true := by
    intro b
    refine ev_succ ?_
    simp only [laws_FnWarmColder.j0, Option.bind_some, List.nil_append]
    refine ev_ite (fun _ => Ev.now _) (fun _ => ?_)
    obtain ⟨xs, e, hxs, he0, he1, hd⟩ := draw_minutes l hl
    refine Ev.bind hd (Ev.bind (impl_warm xs (by omega) e) (Ev.bind (spec_warm xs (by omega) e) (ev_pos rfl ?_)))
    refine ev_ite (fun _ => ev_const (by simp)) (fun h => ?_)
    by_cases hc : rvalid xs = true ∧ 0 ≤ e ∧ e ≤ 1440
    · obtain ⟨hv, ha, hh, h1, h12⟩ := valid_parts hc.1
      have hq : 0 ≤ (more.length : Int) % (xs.length : Int) ∧ (more.length : Int) % (xs.length : Int) < xs.length := ⟨Int.emod_nonneg _ (by omega), Int.emod_lt_of_pos _ (by omega)⟩
      dsimp only
      refine ev_pos (by simp; omega) (ev_neg (by omega) (ev_pos hq.1 (ev_pos hq.2 ?_)))
      generalize (more.length : Int) % (xs.length : Int) = i at hq
      have e5 : rd_T34 xs i = xs.getD i.toNat z34 := rfl
      have hrv : rvalid (xs.set i.toNat ⟨(rd_T34 xs i).f0, 2⟩) = true := by
        have h0 := hc.1
        simp only [rvalid, Bool.and_eq_true, decide_eq_true_eq, List.length_set] at h0 ⊢
        rw [e5]
        exact ⟨rok_set _ 2 (by omega) xs none h0.1, h0.2⟩
      refine Ev.bind (impl_warm _ (by simp; omega) e) ?_
      have e6 : warmF (xs.set i.toNat ⟨(rd_T34 xs i).f0, 2⟩) e = cnt e (xs.set i.toNat ⟨(rd_T34 xs i).f0, 2⟩) := by rw [warmF, if_pos ⟨hrv, hc.2⟩]
      have e7 : warmF xs e = cnt e xs := by rw [warmF, if_pos hc]
      have h8 := cnt_nonneg e (xs.set i.toNat ⟨(rd_T34 xs i).f0, 2⟩)
      have h9 := cnt_cold e i.toNat (rd_T34 xs i).f0 2 (by decide) xs (fun h => by rw [e5, List.getD_eq_getElem?_getD, List.getElem?_eq_getElem h]; rfl)
      rw [e6, e7]
      exact ev_pos h8 (ev_const (by simpa using h9))
    · rw [warmF, if_neg hc] at h; omega
  exact ev_ite (fun _ => key _) (fun _ => key _)

end Go.Proofs.Ytnefjfianhkniaa.Pure
