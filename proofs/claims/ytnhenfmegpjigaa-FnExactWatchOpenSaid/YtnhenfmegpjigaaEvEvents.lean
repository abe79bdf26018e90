/- Events: validity, as the program and the reference compute it, over plain lists. Condition: fewer than 2^40 events. -/
import Derived.Test.YtnhenfmegpjigaaEvBase
import Derived.Test.YtnhenfmegpjigaaPEvx1
import Derived.Test.YtnhenfmegpjigaaPEvx2
import Derived.Test.YtnhenfmegpjigaaPEvx3
namespace Go.Proofs.Ytnhenfmegpjigaa.BEv
open Go.RowKit Go.Proofs.Ytnhenfmegpjigaa.PEv Go.Proofs.YtnhenfmegpjigaaW.PrintWords Go.Proofs.YtnhenfmegpjigaaW.PrintLast Go.Proofs.YtnhenfmegpjigaaW.PrintMore
set_option linter.unusedVariables false
set_option linter.unusedSimpArgs false
theorem in_ev (a b c : Int) : spec_l6In.f a b c = some (decide (b ≤ a ∧ a ≤ c)) := by
  unfold spec_l6In.f
  by_cases h : a ≥ b
  · rw [if_pos h]; simp; omega
  · rw [if_neg h]; simp; omega
theorem within_ev (a b c : Int) : impl_within.f a b c = some (decide (b ≤ a ∧ a ≤ c)) := by
  unfold impl_within.f
  by_cases h : a ≥ b
  · rw [if_pos h]; simp; omega
  · rw [if_neg h]; simp; omega
theorem minute_ev (a : Int) : impl_isMinute.f a = some (decide (0 ≤ a ∧ a ≤ 1439)) := by unfold impl_isMinute.f; rw [within_ev]; rfl
theorem set_ev (a : Int) : impl_isSet.f a = some (decide (0 ≤ a ∧ a ≤ 255)) := by unfold impl_isSet.f; rw [within_ev]; rfl
theorem id_ev (a : Int) : impl_isId.f a = some (decide (1 ≤ a ∧ a ≤ 20)) := by unfold impl_isId.f; rw [within_ev]; rfl
theorem kind_ev (a : Int) : impl_isKind.f a = some (decide (1 ≤ a ∧ a ≤ 5)) := by unfold impl_isKind.f; rw [within_ev]; rfl
theorem sset_ev (a : Int) : spec_l3Set.f a = some (decide (0 ≤ a ∧ a ≤ 255)) := by unfold spec_l3Set.f; rw [in_ev]; rfl
/-- one event is in range -/
def E1 (x : S27) : Prop := (0 ≤ x.f1 ∧ x.f1 ≤ 1439) ∧ (1 ≤ x.f2 ∧ x.f2 ≤ 20)
def E2 (x : S27) : Prop := (x.f0 = 1 ∧ x.f3 = 0 ∧ (0 ≤ x.f4 ∧ x.f4 ≤ 255) ∧ (1 ≤ x.f5 ∧ x.f5 ≤ 5)) ∨ (x.f0 = 2 ∧ (1 ≤ x.f3 ∧ x.f3 ≤ 99) ∧ x.f4 = 0 ∧ x.f5 = 0) ∨ (x.f0 = 3 ∧ x.f3 = 0 ∧ x.f4 = 0 ∧ x.f5 = 0)
instance (x : S27) : Decidable (E1 x) := by unfold E1; infer_instance
instance (x : S27) : Decidable (E2 x) := by unfold E2; infer_instance
def notAfter (q : Option Int) (m : Int) : Prop := match q with | none => True | some y => y ≤ m
instance (q : Option Int) (m : Int) : Decidable (notAfter q m) := by unfold notAfter; cases q <;> infer_instance
/-- the events are in range, and no minute is less than the one before -/
def EOk : Option Int → List S27 → Prop
  | _, [] => True
  | q, x :: r => E1 x ∧ E2 x ∧ notAfter q x.f1 ∧ EOk (some x.f1) r
def decEOk : (q : Option Int) → (l : List S27) → Decidable (EOk q l)
  | _, [] => isTrue trivial
  | q, x :: r => by
    unfold EOk
    have := decEOk (some x.f1) r
    infer_instance
instance (q : Option Int) (l : List S27) : Decidable (EOk q l) := decEOk q l
def EValid (l : List S27) : Prop := EOk none l ∧ (l.length : Int) ≤ 24
instance (l : List S27) : Decidable (EValid l) := by unfold EValid; infer_instance
def Last (p : List S27) (q : Option Int) : Prop := (p = [] ∧ q = none) ∨ ∃ p' y, p = p' ++ [y] ∧ q = some y.f1
theorem last_snoc (p : List S27) (x : S27) : Last (p ++ [x]) (some x.f1) := .inr ⟨p, x, rfl, rfl⟩
theorem rd27s {xs p : List S27} {x : S27} {q : List S27} (h : xs = p ++ x :: q) : rd_T27 xs (p.length : Int) = x := by subst h; exact getD_at p x q z27
theorem dec_eq {p q : Prop} [Decidable p] [Decidable q] (h : p ↔ q) : decide p = decide q := by simp [h]

theorem eventValid_ev (x : S27) : Ev (fun k => impl_eventValid.f k x.f0 x.f1 x.f2 x.f3 x.f4 x.f5) (decide (E1 x ∧ E2 x)) := by
  have h0 : ∀ b : Bool, b = true → Ev (fun k => impl_eventValid.j0 k b x.f0 x.f1 x.f2 x.f3 x.f4 x.f5) false := by
    intro b hb; refine ev_succ ?_; simp only [impl_eventValid.j0]; exact ev_pos hb (Ev.now _)
  have h1 : Ev (fun k => impl_eventValid.j0 k false x.f0 x.f1 x.f2 x.f3 x.f4 x.f5) (decide (E2 x)) := by
    refine ev_succ ?_; simp only [impl_eventValid.j0, set_ev, kind_ev, within_ev, Option.bind_some]
    refine ev_neg (by simp) (ev_ite (fun k1 => ?_) (fun k1 => ev_ite (fun k2 => ?_) (fun k2 => ev_ite (fun k3 => ?_) (fun k3 => ?_))))
    · refine ev_ite (fun a => ev_ite (fun b => ev_const ?_) (fun b => ev_const ?_)) (fun a => ev_const ?_) <;> clear h0 <;> (rw [Bool.eq_iff_iff]; (try simp only [decide_eq_true_eq, beq_iff_eq, Bool.false_eq_true, false_iff] at *); simp only [E2]; omega)
    · refine ev_ite (fun a => ev_ite (fun b => ev_const ?_) (fun b => ev_const ?_)) (fun a => ev_const ?_) <;> clear h0 <;> (rw [Bool.eq_iff_iff]; (try simp only [decide_eq_true_eq, beq_iff_eq, Bool.false_eq_true, false_iff] at *); simp only [E2]; omega)
    · refine ev_ite (fun a => ev_ite (fun b => ev_const ?_) (fun b => ev_const ?_)) (fun a => ev_const ?_) <;> clear h0 <;> (rw [Bool.eq_iff_iff]; (try simp only [decide_eq_true_eq, beq_iff_eq, Bool.false_eq_true, false_iff] at *); simp only [E2]; omega)
    · refine ev_const ?_; clear h0; (rw [Bool.eq_iff_iff]; (try simp only [decide_eq_true_eq, beq_iff_eq, Bool.false_eq_true, false_iff] at *); simp only [E2]; omega)
  unfold impl_eventValid.f
  simp only [minute_ev, id_ev, Option.bind_some]
  refine ev_ite (fun a => ?_) (fun a => ev_eq (h0 true rfl) ?_)
  · by_cases hb : 1 ≤ x.f2 ∧ x.f2 ≤ 20
    · have e : (!decide (1 ≤ x.f2 ∧ x.f2 ≤ 20)) = false := by simp [hb]
      rw [e]; refine ev_eq h1 (dec_eq ⟨fun h => ⟨⟨of_decide_eq_true a, hb⟩, h⟩, fun h => h.2⟩)
    · refine ev_eq (h0 _ (by simp [hb])) ?_
      symm; exact decide_eq_false (fun h => hb h.1.2)
  · symm; exact decide_eq_false (fun h => a (decide_eq_true h.1.1))

theorem impl_ev_loop (xs : List S27) (hb : xs.length ≤ 1099511627776) : ∀ (s p : List S27) (q : Option Int), xs = p ++ s → Last p q →
    Ev (fun k => impl_EventsValid.l0 k xs xs (xs.length : Int) (p.length : Int)) (decide (EOk q s ∧ (xs.length : Int) ≤ 24)) := by
  intro s
  induction s with
  | nil =>
    intro p q hx hq; refine ev_succ ?_; simp only [impl_EventsValid.l0]
    exact ev_neg (by subst hx; simp) (ev_const (dec_eq (by simp [EOk])))
  | cons x s ih =>
    intro p q hx hq; refine ev_succ ?_
    simp only [impl_EventsValid.l0, rd27s hx, wlen hx hb]
    refine ev_pos (len_at hx) (ev_pos (by omega) (ev_pos (len_at hx) (Ev.bind (eventValid_ev x) ?_)))
    have hi := ih (p ++ [x]) (some x.f1) (snoc_at hx) (last_snoc p x)
    refine ev_ite (fun h1 => ?_) (fun h1 => ev_const ?_)
    · have h1' := of_decide_eq_true h1
      rcases hq with ⟨rfl, rfl⟩ | ⟨p', y, rfl, rfl⟩
      · refine ev_neg (by simp) (ev_eq hi (dec_eq ?_))
        simp only [EOk, notAfter]; exact ⟨fun h => ⟨⟨h1'.1, h1'.2, trivial, h.1⟩, h.2⟩, fun h => ⟨h.1.2.2.2, h.2⟩⟩
      · have e1 : wrap64 (((p' ++ [y]).length : Int) - 1) = (p'.length : Int) := by
          rw [w64 (by omega) (by subst hx; simp at hb ⊢; omega)]; simp
        have e2 : rd_T27 xs (p'.length : Int) = y := rd27s (q := x :: s) (by subst hx; simp)
        rw [e1, e2]
        refine ev_pos (by simp <;> omega) (ev_pos (by omega) (ev_pos (by subst hx; simp <;> omega) (ev_ite (fun h3 => ev_const ?_) (fun h3 => ev_eq hi (dec_eq ?_)))))
        · symm; refine decide_eq_false (fun h => ?_)
          have := h.1.2.2.1; simp only [notAfter] at this; omega
        · simp only [EOk, notAfter]; exact ⟨fun h => ⟨⟨h1'.1, h1'.2, by omega, h.1⟩, h.2⟩, fun h => ⟨h.1.2.2.2, h.2⟩⟩
    · symm; refine decide_eq_false (fun h => h1 (decide_eq_true ⟨h.1.1, h.1.2.1⟩))
theorem impl_valid (xs : List S27) (hb : xs.length ≤ 1099511627776) : Ev (fun k => impl_EventsValid.f k xs) (decide (EValid xs)) :=
  ev_eq (impl_ev_loop xs hb xs [] none rfl (.inl ⟨rfl, rfl⟩)) rfl

theorem spec_j1_true (xs : List S27) (i : Int) (x : S27) : Ev (fun k => spec_EventsValid.j1 k xs i true x.f0 x.f1 x.f2 x.f3 x.f4 x.f5) false := by
  refine ev_succ ?_; simp only [spec_EventsValid.j1]; exact ev_pos (by simp) (Ev.now _)
theorem spec_j1 (xs : List S27) (i : Int) (x : S27) (b : Bool) (hi : Ev (fun k => spec_EventsValid.l0 k xs (wrap64 (i + 1))) b) :
    Ev (fun k => spec_EventsValid.j1 k xs i false x.f0 x.f1 x.f2 x.f3 x.f4 x.f5) (decide (E2 x) && b) := by
  have yes : E2 x → Ev (fun k => spec_EventsValid.l0 k xs (wrap64 (i + 1))) (decide (E2 x) && b) := fun h => ev_eq hi (by simp [h])
  have no : ¬ E2 x → Ev (fun _ => some false) (decide (E2 x) && b) := fun h => ev_const (by simp [h])
  refine ev_succ ?_; simp only [spec_EventsValid.j1, sset_ev, in_ev, Option.bind_some]
  refine ev_neg (by simp) (ev_ite (fun k1 => ?_) (fun k1 => ev_ite (fun k2 => ?_) (fun k2 => ev_ite (fun k3 => ?_) (fun k3 => ?_))))
  · refine ev_ite (fun a => ev_ite (fun c => ev_ite (fun d => yes ?_) (fun d => no ?_)) (fun c => no ?_)) (fun a => no ?_) <;> (clear yes no hi; (try simp only [decide_eq_true_eq, beq_iff_eq, Bool.false_eq_true, false_iff] at *); simp only [E2]; omega)
  · refine ev_ite (fun a => ev_ite (fun c => ev_ite (fun d => yes ?_) (fun d => no ?_)) (fun c => no ?_)) (fun a => no ?_) <;> (clear yes no hi; (try simp only [decide_eq_true_eq, beq_iff_eq, Bool.false_eq_true, false_iff] at *); simp only [E2]; omega)
  · refine ev_ite (fun a => ev_ite (fun c => ev_ite (fun d => yes ?_) (fun d => no ?_)) (fun c => no ?_)) (fun a => no ?_) <;> (clear yes no hi; (try simp only [decide_eq_true_eq, beq_iff_eq, Bool.false_eq_true, false_iff] at *); simp only [E2]; omega)
  · refine no ?_; clear yes no hi; simp only [E2]; omega
theorem spec_ev_loop (xs : List S27) (hb : xs.length ≤ 1099511627776) : ∀ (s p : List S27) (q : Option Int), xs = p ++ s → Last p q →
    Ev (fun k => spec_EventsValid.l0 k xs (p.length : Int)) (decide (EOk q s ∧ (xs.length : Int) ≤ 24)) := by
  intro s
  induction s with
  | nil =>
    intro p q hx hq; refine ev_succ ?_; simp only [spec_EventsValid.l0]
    exact ev_neg (by subst hx; simp) (ev_const (dec_eq (by simp [EOk])))
  | cons x s ih =>
    intro p q hx hq; refine ev_succ ?_
    simp only [spec_EventsValid.l0, rd27s hx, in_ev, Option.bind_some]
    refine ev_pos (len_at hx) (ev_pos (by omega) ?_)
    have hi := ih (p ++ [x]) (some x.f1) (snoc_at hx) (last_snoc p x)
    have hj := spec_j1 xs (p.length : Int) x _ (by rw [wlen hx hb]; exact hi)
    refine ev_ite (fun h1 => ev_ite (fun h2 => ?_) (fun h2 => ev_eq (spec_j1_true xs _ x) ?_)) (fun h1 => ev_eq (spec_j1_true xs _ x) ?_)
    · have h1' : E1 x := ⟨of_decide_eq_true h1, of_decide_eq_true h2⟩
      rcases hq with ⟨rfl, rfl⟩ | ⟨p', y, rfl, rfl⟩
      · refine ev_neg (by simp) (ev_eq hj ?_)
        by_cases h3 : E2 x
        · rw [decide_eq_true h3, Bool.true_and]; refine dec_eq ?_
          simp only [EOk, notAfter]; exact ⟨fun h => ⟨⟨h1', h3, trivial, h.1⟩, h.2⟩, fun h => ⟨h.1.2.2.2, h.2⟩⟩
        · rw [decide_eq_false h3, Bool.false_and]; symm; exact decide_eq_false (fun h => h3 h.1.2.1)
      · have e1 : wrap64 (((p' ++ [y]).length : Int) - 1) = (p'.length : Int) := by
          rw [w64 (by omega) (by subst hx; simp at hb ⊢; omega)]; simp
        have e2 : rd_T27 xs (p'.length : Int) = y := rd27s (q := x :: s) (by subst hx; simp)
        rw [e1, e2]
        refine ev_pos (by simp <;> omega) (ev_pos (by omega) (ev_pos (by subst hx; simp <;> omega) ?_))
        by_cases h4 : y.f1 > x.f1
        · rw [decide_eq_true h4]; refine ev_eq (spec_j1_true xs _ x) ?_
          symm; refine decide_eq_false (fun h => ?_)
          have := h.1.2.2.1; simp only [notAfter] at this; omega
        · rw [decide_eq_false h4]; refine ev_eq hj ?_
          by_cases h3 : E2 x
          · rw [decide_eq_true h3, Bool.true_and]; refine dec_eq ?_
            simp only [EOk, notAfter]; exact ⟨fun h => ⟨⟨h1', h3, by omega, h.1⟩, h.2⟩, fun h => ⟨h.1.2.2.2, h.2⟩⟩
          · rw [decide_eq_false h3, Bool.false_and]; symm; exact decide_eq_false (fun h => h3 h.1.2.1)
    · symm; exact decide_eq_false (fun h => h2 (decide_eq_true h.1.1.2))
    · symm; exact decide_eq_false (fun h => h1 (decide_eq_true h.1.1.1))
theorem spec_valid (xs : List S27) (hb : xs.length ≤ 1099511627776) : Ev (fun k => spec_EventsValid.f k xs) (decide (EValid xs)) :=
  ev_eq (spec_ev_loop xs hb xs [] none rfl (.inl ⟨rfl, rfl⟩)) rfl
end Go.Proofs.Ytnhenfmegpjigaa.BEv
