/- Plates of a guest: what WatchServed computes, over plain lists. Condition: fewer than 2^40 events. -/
import Derived.Test.YtnhenfmegpjigaaEvEvents
import Derived.Test.YtnhenfmegpjigaaPEvx7
namespace Go.Proofs.Ytnhenfmegpjigaa.BEv
open Go.RowKit Go.Proofs.Ytnhenfmegpjigaa.PEv Go.Proofs.YtnhenfmegpjigaaW.PrintWords Go.Proofs.YtnhenfmegpjigaaW.PrintLast Go.Proofs.YtnhenfmegpjigaaW.PrintMore
set_option linter.unusedVariables false
set_option linter.unusedSimpArgs false
/-- the batches of the plates of a guest -/
def served (g : Int) : List S27 → List Int
  | [] => []
  | x :: r => if x.f0 = 2 ∧ x.f3 = g then x.f2 :: served g r else served g r
def servedF (l : List S27) (g : Int) : List Int := if EValid l then served g l else []
theorem served_len (g : Int) : ∀ l, (served g l).length ≤ l.length
  | [] => Nat.le_refl _
  | x :: r => by have := served_len g r; rw [served]; split <;> simp <;> omega
theorem impl_served_loop (xs : List S27) (hb : xs.length ≤ 1099511627776) (g : Int) : ∀ (s p : List S27) (out : List Int), xs = p ++ s → out.length ≤ p.length →
    Ev (fun k => impl_WatchServed.l0 k g out xs (xs.length : Int) (p.length : Int)) (out ++ served g s) := by
  intro s
  induction s with
  | nil => intro p out hx ho; refine ev_succ ?_; simp only [impl_WatchServed.l0]; exact ev_neg (by subst hx; simp) (ev_const (by simp [served]))
  | cons x s ih =>
    intro p out hx ho; refine ev_succ ?_
    have hp : p.length + 1 ≤ 1099511627776 := by subst hx; simp at hb; omega
    simp only [impl_WatchServed.l0, rd27s hx, wlen hx hb]
    refine ev_pos (len_at hx) (ev_pos (by omega) (ev_pos (len_at hx) ?_))
    have no : ¬ (x.f0 = 2 ∧ x.f3 = g) → Ev (fun k => impl_WatchServed.l0 k g out xs (xs.length : Int) ((p ++ [x]).length : Int)) (out ++ served g (x :: s)) :=
      fun h => ev_eq (ih (p ++ [x]) out (snoc_at hx) (by simp; omega)) (by rw [served, if_neg h])
    refine ev_ite (fun h1 => ev_ite (fun h2 => ev_pos (by omega) ?_) (fun h2 => no (fun h => h2 h.2))) (fun h1 => no (fun h => h1 h.1))
    exact ev_eq (ih (p ++ [x]) _ (snoc_at hx) (by simp; omega)) (by rw [served, if_pos ⟨h1, h2⟩]; simp)
theorem impl_served (xs : List S27) (hb : xs.length ≤ 1099511627776) (g : Int) : Ev (fun k => impl_WatchServed.f k xs g) (servedF xs g) := by
  unfold impl_WatchServed.f
  simp only [Option.bind_some]
  refine Ev.bind (impl_valid xs hb) (ev_ite (fun h => ?_) (fun h => ev_const ?_))
  · rw [servedF, if_pos (of_decide_eq_true h)]; exact impl_served_loop xs hb g xs [] [] rfl (Nat.le_refl _)
  · rw [servedF, if_neg (fun h2 => h (decide_eq_true h2))]
theorem spec_served_loop (xs : List S27) (hb : xs.length ≤ 1099511627776) (hv : EValid xs) (g : Int) : ∀ (s p : List S27) (out : List Int), xs = p ++ s → out.length ≤ p.length →
    Ev (fun k => spec_WatchServed.l0 k xs g out (p.length : Int)) (out ++ served g s) := by
  intro s
  induction s with
  | nil =>
    intro p out hx ho; refine ev_succ ?_; simp only [spec_WatchServed.l0]
    refine ev_neg (by subst hx; simp) (ev_succ ?_); simp only [spec_WatchServed.j1]; exact ev_neg (by simp) (ev_const (by simp [served]))
  | cons x s ih =>
    intro p out hx ho; refine ev_succ ?_
    have hp : p.length + 1 ≤ 1099511627776 := by subst hx; simp at hb; omega
    simp only [spec_WatchServed.l0]
    refine ev_pos (len_at hx) (Ev.bind (spec_valid xs hb) (ev_succ ?_))
    simp only [spec_WatchServed.j1, rd27s hx, wlen hx hb]
    refine ev_pos (decide_eq_true hv) (ev_pos (by omega) (ev_pos (len_at hx) ?_))
    have no : ¬ (x.f0 = 2 ∧ x.f3 = g) → Ev (fun k => spec_WatchServed.l0 k xs g out ((p ++ [x]).length : Int)) (out ++ served g (x :: s)) :=
      fun h => ev_eq (ih (p ++ [x]) out (snoc_at hx) (by simp; omega)) (by rw [served, if_neg h])
    refine ev_ite (fun h1 => ev_ite (fun h2 => ev_pos (by omega) ?_) (fun h2 => no (fun h => h2 h.2))) (fun h1 => no (fun h => h1 h.1))
    exact ev_eq (ih (p ++ [x]) _ (snoc_at hx) (by simp; omega)) (by rw [served, if_pos ⟨h1, h2⟩]; simp)
theorem spec_served (xs : List S27) (hb : xs.length ≤ 1099511627776) (g : Int) : Ev (fun k => spec_WatchServed.f k xs g) (servedF xs g) := by
  unfold spec_WatchServed.f
  by_cases hv : EValid xs
  · rw [servedF, if_pos hv]; exact spec_served_loop xs hb hv g xs [] [] rfl (Nat.le_refl _)
  · rw [servedF, if_neg hv]
    refine ev_succ ?_; simp only [spec_WatchServed.l0]
    refine ev_ite (fun _ => Ev.bind (spec_valid xs hb) (ev_succ ?_)) (fun _ => ev_succ ?_) <;> simp only [spec_WatchServed.j1]
    · exact ev_neg (by simp [hv]) (Ev.now _)
    · exact ev_neg (by simp) (Ev.now _)
end Go.Proofs.Ytnhenfmegpjigaa.BEv
