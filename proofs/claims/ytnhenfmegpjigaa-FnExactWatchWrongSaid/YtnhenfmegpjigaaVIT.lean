import Derived.Test.YtnhenfmegpjigaaVIWMore
import Derived.Test.YtnhenfmegpjigaaVIWNEv
import Derived.Laws.BitsLemmas
import Derived.Test.YtnhenfmegpjigaaVIPEvx4
import Derived.Test.YtnhenfmegpjigaaVIPEvx5
import Derived.Test.YtnhenfmegpjigaaVIPEvx6
import Derived.Test.YtnhenfmegpjigaaVIPEvx8
import Derived.Test.YtnhenfmegpjigaaVIPEvx12
import Derived.Test.YtnhenfmegpjigaaVIPEvx1
import Derived.Test.YtnhenfmegpjigaaVIPEvx3
import Derived.Test.YtnhenfmegpjigaaVIPEvx10
import Derived.Test.YtnhenfmegpjigaaVIPEvx14
import Derived.Test.YtnhenfmegpjigaaVIPEvx20
import Derived.Test.YtnhenfmegpjigaaVIPEvx21
import Derived.Test.YtnhenfmegpjigaaVIPEvx22
import Derived.Test.YtnhenfmegpjigaaVIPEvx25
import Derived.Test.YtnhenfmegpjigaaVIPEvx26
import Derived.Test.YtnhenfmegpjigaaVIPEvx27
import Derived.Test.YtnhenfmegpjigaaVIPEvx35
import Derived.Test.YtnhenfmegpjigaaVIPEvx15
import Derived.Test.YtnhenfmegpjigaaVIPEvx16
import Derived.Test.YtnhenfmegpjigaaVIPEvx17
import Derived.Test.YtnhenfmegpjigaaVIPEvx23
import Derived.Test.YtnhenfmegpjigaaVIPEvx24
import Derived.Test.YtnhenfmegpjigaaVIPEvx28
import Derived.Test.YtnhenfmegpjigaaVIPEvx29
import Derived.Test.YtnhenfmegpjigaaVIPEvx36
import Derived.Test.YtnhenfmegpjigaaVIWWords
import Derived.Deep.Slices
import Derived.Deep.Fields
import Derived.ChangeSame
import Derived.ChangeArms
import Derived.Below
import Derived.ChangeSlices
namespace Go.Proofs.Ytnhenfmegpjigaa.BEv
open Go.RowKit Go.Proofs.YtnhenfmegpjigaaW.PrintWords Go.Proofs.YtnhenfmegpjigaaW.PrintLast Go.Proofs.YtnhenfmegpjigaaW.PrintMore
set_option linter.unusedVariables false
set_option linter.unusedSimpArgs false
theorem ev_succ {α : Type} {g : Nat → Option α} {r : α} (h : Ev (fun k => g (k + 1)) r) : Ev g r := Ev.step (fun _ => rfl) h
theorem ev_const {α : Type} {r s : α} (h : r = s) : Ev (fun _ => some r) s := by subst h; exact Ev.now r
theorem ev_pos {α : Type} {c : Prop} [Decidable c] {a b : Nat → Option α} {r : α} (hc : c) (h : Ev a r) : Ev (fun k => if c then a k else b k) r :=
  Ev.congr (fun k => if_pos hc) h
theorem ev_neg {α : Type} {c : Prop} [Decidable c] {a b : Nat → Option α} {r : α} (hc : ¬ c) (h : Ev b r) : Ev (fun k => if c then a k else b k) r :=
  Ev.congr (fun k => if_neg hc) h
theorem ev_ite {α : Type} {c : Prop} [Decidable c] {a b : Nat → Option α} {r : α} (h1 : c → Ev a r) (h2 : ¬ c → Ev b r) : Ev (fun k => if c then a k else b k) r := by
  by_cases hc : c
  · exact ev_pos hc (h1 hc)
  · exact ev_neg hc (h2 hc)
theorem ev_eq {α : Type} {g : Nat → Option α} {r s : α} (h : Ev g r) (e : r = s) : Ev g s := e ▸ h
theorem ev_some {α β : Type} {f : Nat → α → Option β} {a : α} {r : β} (h : Ev (fun n => f n a) r) : Ev (fun n => (some a).bind (f n)) r := h
theorem w64 {x : Int} (h0 : -9223372036854775808 ≤ x) (h1 : x ≤ 9223372036854775807) : wrap64 x = x := by unfold wrap64; omega
theorem getD_at {α : Type} (p : List α) (x : α) (q : List α) (d : α) : (p ++ x :: q).getD p.length d = x := by simp [List.getD]
theorem rd_at (p : List Int) (x : Int) (q : List Int) : rd (p ++ x :: q) (p.length : Int) = x := getD_at p x q 0
theorem rds {xs p : List Int} {x : Int} {q : List Int} (h : xs = p ++ x :: q) : rd xs (p.length : Int) = x := by subst h; exact rd_at p x q
theorem len_at {α : Type} {xs p : List α} {x : α} {q : List α} (h : xs = p ++ x :: q) : (p.length : Int) < (xs.length : Int) := by subst h; simp; omega
theorem snoc_at {α : Type} {xs p : List α} {x : α} {q : List α} (h : xs = p ++ x :: q) : xs = (p ++ [x]) ++ q := by subst h; simp
theorem wlen {α : Type} {xs p : List α} {x : α} {q : List α} (h : xs = p ++ x :: q) (hb : xs.length ≤ 1099511627776) : wrap64 ((p.length : Int) + 1) = ((p ++ [x]).length : Int) := by
  subst h; rw [w64 (by omega) (by simp at hb; omega)]; simp
theorem set_at {α : Type} (p : List α) (a b : α) (q : List α) : (p ++ a :: q).set p.length b = p ++ b :: q := by simp
end Go.Proofs.Ytnhenfmegpjigaa.BEv
namespace Go.Proofs.Ytnhenfmegpjigaa.BEv
open Go.RowKit Go.Proofs.Ytnhenfmegpjigaa.PEv Go.Proofs.YtnhenfmegpjigaaW.PrintWords Go.Proofs.YtnhenfmegpjigaaW.PrintLast Go.Proofs.YtnhenfmegpjigaaW.PrintMore
set_option linter.unusedVariables false
set_option linter.unusedSimpArgs false
theorem in_ev (a b c : Int) : spec_l6In.f a b c = some (decide (b ≤ a ∧ a ≤ c)) := by
  unfold spec_l6In.f
  by_cases h : a ≥ b
  · rw [if_pos h]; simp; omega
  · rw [if_neg h]; simp; omega
theorem within_ev (a b c : Int) : impl_within.f a b c = some (decide (b ≤ a ∧ a ≤ c)) := by
  unfold impl_within.f
  by_cases h : a ≥ b
  · rw [if_pos h]; simp; omega
  · rw [if_neg h]; simp; omega
theorem minute_ev (a : Int) : impl_isMinute.f a = some (decide (0 ≤ a ∧ a ≤ 1439)) := by unfold impl_isMinute.f; rw [within_ev]; rfl
theorem set_ev (a : Int) : impl_isSet.f a = some (decide (0 ≤ a ∧ a ≤ 255)) := by unfold impl_isSet.f; rw [within_ev]; rfl
theorem id_ev (a : Int) : impl_isId.f a = some (decide (1 ≤ a ∧ a ≤ 20)) := by unfold impl_isId.f; rw [within_ev]; rfl
theorem kind_ev (a : Int) : impl_isKind.f a = some (decide (1 ≤ a ∧ a ≤ 5)) := by unfold impl_isKind.f; rw [within_ev]; rfl
theorem sset_ev (a : Int) : spec_l3Set.f a = some (decide (0 ≤ a ∧ a ≤ 255)) := by unfold spec_l3Set.f; rw [in_ev]; rfl
def E1 (x : S27) : Prop := (0 ≤ x.f1 ∧ x.f1 ≤ 1439) ∧ (1 ≤ x.f2 ∧ x.f2 ≤ 20)
def E2 (x : S27) : Prop := (x.f0 = 1 ∧ x.f3 = 0 ∧ (0 ≤ x.f4 ∧ x.f4 ≤ 255) ∧ (1 ≤ x.f5 ∧ x.f5 ≤ 5)) ∨ (x.f0 = 2 ∧ (1 ≤ x.f3 ∧ x.f3 ≤ 99) ∧ x.f4 = 0 ∧ x.f5 = 0) ∨ (x.f0 = 3 ∧ x.f3 = 0 ∧ x.f4 = 0 ∧ x.f5 = 0)
instance (x : S27) : Decidable (E1 x) := by unfold E1; infer_instance
instance (x : S27) : Decidable (E2 x) := by unfold E2; infer_instance
def notAfter (q : Option Int) (m : Int) : Prop := match q with | none => True | some y => y ≤ m
instance (q : Option Int) (m : Int) : Decidable (notAfter q m) := by unfold notAfter; cases q <;> infer_instance
def EOk : Option Int → List S27 → Prop
  | _, [] => True
  | q, x :: r => E1 x ∧ E2 x ∧ notAfter q x.f1 ∧ EOk (some x.f1) r
def decEOk : (q : Option Int) → (l : List S27) → Decidable (EOk q l)
  | _, [] => isTrue trivial
  | q, x :: r => by
    unfold EOk
    have := decEOk (some x.f1) r
    infer_instance
instance (q : Option Int) (l : List S27) : Decidable (EOk q l) := decEOk q l
def EValid (l : List S27) : Prop := EOk none l ∧ (l.length : Int) ≤ 24
instance (l : List S27) : Decidable (EValid l) := by unfold EValid; infer_instance
def Last (p : List S27) (q : Option Int) : Prop := (p = [] ∧ q = none) ∨ ∃ p' y, p = p' ++ [y] ∧ q = some y.f1
theorem last_snoc (p : List S27) (x : S27) : Last (p ++ [x]) (some x.f1) := .inr ⟨p, x, rfl, rfl⟩
theorem rd27s {xs p : List S27} {x : S27} {q : List S27} (h : xs = p ++ x :: q) : rd_T27 xs (p.length : Int) = x := by subst h; exact getD_at p x q z27
theorem dec_eq {p q : Prop} [Decidable p] [Decidable q] (h : p ↔ q) : decide p = decide q := by simp [h]
theorem eventValid_ev (x : S27) : Ev (fun k => impl_eventValid.f k x.f0 x.f1 x.f2 x.f3 x.f4 x.f5) (decide (E1 x ∧ E2 x)) := by
  have h0 : ∀ b : Bool, b = true → Ev (fun k => impl_eventValid.j0 k b x.f0 x.f1 x.f2 x.f3 x.f4 x.f5) false := by
    intro b hb; refine ev_succ ?_; simp only [impl_eventValid.j0]; exact ev_pos hb (Ev.now _)
  have h1 : Ev (fun k => impl_eventValid.j0 k false x.f0 x.f1 x.f2 x.f3 x.f4 x.f5) (decide (E2 x)) := by
    refine ev_succ ?_; simp only [impl_eventValid.j0, set_ev, kind_ev, within_ev, Option.bind_some]
    refine ev_neg (by simp) (ev_ite (fun k1 => ?_) (fun k1 => ev_ite (fun k2 => ?_) (fun k2 => ev_ite (fun k3 => ?_) (fun k3 => ?_))))
    · refine ev_ite (fun a => ev_ite (fun b => ev_const ?_) (fun b => ev_const ?_)) (fun a => ev_const ?_) <;> clear h0 <;> (rw [Bool.eq_iff_iff]; (try simp only [decide_eq_true_eq, beq_iff_eq, Bool.false_eq_true, false_iff] at *); simp only [E2]; omega)
    · refine ev_ite (fun a => ev_ite (fun b => ev_const ?_) (fun b => ev_const ?_)) (fun a => ev_const ?_) <;> clear h0 <;> (rw [Bool.eq_iff_iff]; (try simp only [decide_eq_true_eq, beq_iff_eq, Bool.false_eq_true, false_iff] at *); simp only [E2]; omega)
    · refine ev_ite (fun a => ev_ite (fun b => ev_const ?_) (fun b => ev_const ?_)) (fun a => ev_const ?_) <;> clear h0 <;> (rw [Bool.eq_iff_iff]; (try simp only [decide_eq_true_eq, beq_iff_eq, Bool.false_eq_true, false_iff] at *); simp only [E2]; omega)
    · refine ev_const ?_; clear h0; (rw [Bool.eq_iff_iff]; (try simp only [decide_eq_true_eq, beq_iff_eq, Bool.false_eq_true, false_iff] at *); simp only [E2]; omega)
  unfold impl_eventValid.f
  simp only [minute_ev, id_ev, Option.bind_some]
  refine ev_ite (fun a => ?_) (fun a => ev_eq (h0 true rfl) ?_)
  · by_cases hb : 1 ≤ x.f2 ∧ x.f2 ≤ 20
    · have e : (!decide (1 ≤ x.f2 ∧ x.f2 ≤ 20)) = false := by simp [hb]
      rw [e]; refine ev_eq h1 (dec_eq ⟨fun h => ⟨⟨of_decide_eq_true a, hb⟩, h⟩, fun h => h.2⟩)
    · refine ev_eq (h0 _ (by simp [hb])) ?_
      symm; exact decide_eq_false (fun h => hb h.1.2)
  · symm; exact decide_eq_false (fun h => a (decide_eq_true h.1.1))
theorem impl_ev_loop (xs : List S27) (hb : xs.length ≤ 1099511627776) : ∀ (s p : List S27) (q : Option Int), xs = p ++ s → Last p q →
    Ev (fun k => impl_EventsValid.l0 k xs xs (xs.length : Int) (p.length : Int)) (decide (EOk q s ∧ (xs.length : Int) ≤ 24)) := by
  intro s
  induction s with
  | nil =>
    intro p q hx hq; refine ev_succ ?_; simp only [impl_EventsValid.l0]
    exact ev_neg (by subst hx; simp) (ev_const (dec_eq (by simp [EOk])))
  | cons x s ih =>
    intro p q hx hq; refine ev_succ ?_
    simp only [impl_EventsValid.l0, rd27s hx, wlen hx hb]
    refine ev_pos (len_at hx) (ev_pos (by omega) (ev_pos (len_at hx) (Ev.bind (eventValid_ev x) ?_)))
    have hi := ih (p ++ [x]) (some x.f1) (snoc_at hx) (last_snoc p x)
    refine ev_ite (fun h1 => ?_) (fun h1 => ev_const ?_)
    · have h1' := of_decide_eq_true h1
      rcases hq with ⟨rfl, rfl⟩ | ⟨p', y, rfl, rfl⟩
      · refine ev_neg (by simp) (ev_eq hi (dec_eq ?_))
        simp only [EOk, notAfter]; exact ⟨fun h => ⟨⟨h1'.1, h1'.2, trivial, h.1⟩, h.2⟩, fun h => ⟨h.1.2.2.2, h.2⟩⟩
      · have e1 : wrap64 (((p' ++ [y]).length : Int) - 1) = (p'.length : Int) := by
          rw [w64 (by omega) (by subst hx; simp at hb ⊢; omega)]; simp
        have e2 : rd_T27 xs (p'.length : Int) = y := rd27s (q := x :: s) (by subst hx; simp)
        rw [e1, e2]
        refine ev_pos (by simp <;> omega) (ev_pos (by omega) (ev_pos (by subst hx; simp <;> omega) (ev_ite (fun h3 => ev_const ?_) (fun h3 => ev_eq hi (dec_eq ?_)))))
        · symm; refine decide_eq_false (fun h => ?_)
          have := h.1.2.2.1; simp only [notAfter] at this; omega
        · simp only [EOk, notAfter]; exact ⟨fun h => ⟨⟨h1'.1, h1'.2, by omega, h.1⟩, h.2⟩, fun h => ⟨h.1.2.2.2, h.2⟩⟩
    · symm; refine decide_eq_false (fun h => h1 (decide_eq_true ⟨h.1.1, h.1.2.1⟩))
theorem impl_valid (xs : List S27) (hb : xs.length ≤ 1099511627776) : Ev (fun k => impl_EventsValid.f k xs) (decide (EValid xs)) :=
  ev_eq (impl_ev_loop xs hb xs [] none rfl (.inl ⟨rfl, rfl⟩)) rfl
theorem spec_j1_true (xs : List S27) (i : Int) (x : S27) : Ev (fun k => spec_EventsValid.j1 k xs i true x.f0 x.f1 x.f2 x.f3 x.f4 x.f5) false := by
  refine ev_succ ?_; simp only [spec_EventsValid.j1]; exact ev_pos (by simp) (Ev.now _)
theorem spec_j1 (xs : List S27) (i : Int) (x : S27) (b : Bool) (hi : Ev (fun k => spec_EventsValid.l0 k xs (wrap64 (i + 1))) b) :
    Ev (fun k => spec_EventsValid.j1 k xs i false x.f0 x.f1 x.f2 x.f3 x.f4 x.f5) (decide (E2 x) && b) := by
  have yes : E2 x → Ev (fun k => spec_EventsValid.l0 k xs (wrap64 (i + 1))) (decide (E2 x) && b) := fun h => ev_eq hi (by simp [h])
  have no : ¬ E2 x → Ev (fun _ => some false) (decide (E2 x) && b) := fun h => ev_const (by simp [h])
  refine ev_succ ?_; simp only [spec_EventsValid.j1, sset_ev, in_ev, Option.bind_some]
  refine ev_neg (by simp) (ev_ite (fun k1 => ?_) (fun k1 => ev_ite (fun k2 => ?_) (fun k2 => ev_ite (fun k3 => ?_) (fun k3 => ?_))))
  · refine ev_ite (fun a => ev_ite (fun c => ev_ite (fun d => yes ?_) (fun d => no ?_)) (fun c => no ?_)) (fun a => no ?_) <;> (clear yes no hi; (try simp only [decide_eq_true_eq, beq_iff_eq, Bool.false_eq_true, false_iff] at *); simp only [E2]; omega)
  · refine ev_ite (fun a => ev_ite (fun c => ev_ite (fun d => yes ?_) (fun d => no ?_)) (fun c => no ?_)) (fun a => no ?_) <;> (clear yes no hi; (try simp only [decide_eq_true_eq, beq_iff_eq, Bool.false_eq_true, false_iff] at *); simp only [E2]; omega)
  · refine ev_ite (fun a => ev_ite (fun c => ev_ite (fun d => yes ?_) (fun d => no ?_)) (fun c => no ?_)) (fun a => no ?_) <;> (clear yes no hi; (try simp only [decide_eq_true_eq, beq_iff_eq, Bool.false_eq_true, false_iff] at *); simp only [E2]; omega)
  · refine no ?_; clear yes no hi; simp only [E2]; omega
theorem spec_ev_loop (xs : List S27) (hb : xs.length ≤ 1099511627776) : ∀ (s p : List S27) (q : Option Int), xs = p ++ s → Last p q →
    Ev (fun k => spec_EventsValid.l0 k xs (p.length : Int)) (decide (EOk q s ∧ (xs.length : Int) ≤ 24)) := by
  intro s
  induction s with
  | nil =>
    intro p q hx hq; refine ev_succ ?_; simp only [spec_EventsValid.l0]
    exact ev_neg (by subst hx; simp) (ev_const (dec_eq (by simp [EOk])))
  | cons x s ih =>
    intro p q hx hq; refine ev_succ ?_
    simp only [spec_EventsValid.l0, rd27s hx, in_ev, Option.bind_some]
    refine ev_pos (len_at hx) (ev_pos (by omega) ?_)
    have hi := ih (p ++ [x]) (some x.f1) (snoc_at hx) (last_snoc p x)
    have hj := spec_j1 xs (p.length : Int) x _ (by rw [wlen hx hb]; exact hi)
    refine ev_ite (fun h1 => ev_ite (fun h2 => ?_) (fun h2 => ev_eq (spec_j1_true xs _ x) ?_)) (fun h1 => ev_eq (spec_j1_true xs _ x) ?_)
    · have h1' : E1 x := ⟨of_decide_eq_true h1, of_decide_eq_true h2⟩
      rcases hq with ⟨rfl, rfl⟩ | ⟨p', y, rfl, rfl⟩
      · refine ev_neg (by simp) (ev_eq hj ?_)
        by_cases h3 : E2 x
        · rw [decide_eq_true h3, Bool.true_and]; refine dec_eq ?_
          simp only [EOk, notAfter]; exact ⟨fun h => ⟨⟨h1', h3, trivial, h.1⟩, h.2⟩, fun h => ⟨h.1.2.2.2, h.2⟩⟩
        · rw [decide_eq_false h3, Bool.false_and]; symm; exact decide_eq_false (fun h => h3 h.1.2.1)
      · have e1 : wrap64 (((p' ++ [y]).length : Int) - 1) = (p'.length : Int) := by
          rw [w64 (by omega) (by subst hx; simp at hb ⊢; omega)]; simp
        have e2 : rd_T27 xs (p'.length : Int) = y := rd27s (q := x :: s) (by subst hx; simp)
        rw [e1, e2]
        refine ev_pos (by simp <;> omega) (ev_pos (by omega) (ev_pos (by subst hx; simp <;> omega) ?_))
        by_cases h4 : y.f1 > x.f1
        · rw [decide_eq_true h4]; refine ev_eq (spec_j1_true xs _ x) ?_
          symm; refine decide_eq_false (fun h => ?_)
          have := h.1.2.2.1; simp only [notAfter] at this; omega
        · rw [decide_eq_false h4]; refine ev_eq hj ?_
          by_cases h3 : E2 x
          · rw [decide_eq_true h3, Bool.true_and]; refine dec_eq ?_
            simp only [EOk, notAfter]; exact ⟨fun h => ⟨⟨h1', h3, by omega, h.1⟩, h.2⟩, fun h => ⟨h.1.2.2.2, h.2⟩⟩
          · rw [decide_eq_false h3, Bool.false_and]; symm; exact decide_eq_false (fun h => h3 h.1.2.1)
    · symm; exact decide_eq_false (fun h => h2 (decide_eq_true h.1.1.2))
    · symm; exact decide_eq_false (fun h => h1 (decide_eq_true h.1.1.1))
theorem spec_valid (xs : List S27) (hb : xs.length ≤ 1099511627776) : Ev (fun k => spec_EventsValid.f k xs) (decide (EValid xs)) :=
  ev_eq (spec_ev_loop xs hb xs [] none rfl (.inl ⟨rfl, rfl⟩)) rfl
def conv (x : S65) : S27 := ⟨x.f0, x.f1, x.f2, x.f3, x.f4, x.f5⟩
theorem rd65s {xs p : List S65} {x : S65} {q : List S65} (h : xs = p ++ x :: q) : rd_T65 xs (p.length : Int) = x := by subst h; exact getD_at p x q z65
theorem to_loop (xs : List S65) (hb : xs.length ≤ 1099511627776) : ∀ (s p : List S65), xs = p ++ s →
    Ev (fun k => laws_toEventS.l0 k xs (p.map conv ++ List.replicate s.length z27) (p.length : Int)) (xs.map conv) := by
  intro s
  induction s with
  | nil => intro p hx; refine ev_succ ?_; simp only [laws_toEventS.l0]; exact ev_neg (by subst hx; simp) (ev_const (by subst hx; simp))
  | cons x s ih =>
    intro p hx; refine ev_succ ?_
    simp only [laws_toEventS.l0, rd65s hx, wlen hx hb, laws_toEvent.f, Option.bind_some]
    refine ev_pos (len_at hx) (ev_pos (by omega) (ev_pos (by simp; omega) ?_))
    have e : (p.map conv ++ List.replicate (x :: s).length z27).set ((p.length : Int)).toNat ⟨x.f0, x.f1, x.f2, x.f3, x.f4, x.f5⟩ = (p ++ [x]).map conv ++ List.replicate s.length z27 := by
      have h1 : ((p.length : Int)).toNat = (p.map conv).length := by simp
      rw [h1, List.length_cons, List.replicate_succ, set_at]; simp [conv]
    rw [e]; exact ih (p ++ [x]) (snoc_at hx)
theorem to_ev (xs : List S65) (hb : xs.length ≤ 1048576) : Ev (fun k => laws_toEventS.f k xs) (xs.map conv) := by
  unfold laws_toEventS.f
  refine ev_pos (by omega) (ev_pos (by omega) ?_)
  exact to_loop xs (by omega) xs [] rfl
theorem eq_loop (xs : List S27) (hb : xs.length ≤ 1099511627776) : ∀ (s p : List S27), xs = p ++ s → Ev (fun k => laws_eqEventS.l0 k xs xs (p.length : Int)) true := by
  intro s
  induction s with
  | nil => intro p hx; refine ev_succ ?_; simp only [laws_eqEventS.l0]; exact ev_neg (by subst hx; simp) (Ev.now _)
  | cons x s ih =>
    intro p hx; refine ev_succ ?_
    simp only [laws_eqEventS.l0, rd27s hx, wlen hx hb, laws_eqEvent.f, if_true, Option.bind_some]
    exact ev_pos (len_at hx) (ev_pos (by omega) (ev_pos (len_at hx) (ih (p ++ [x]) (snoc_at hx))))
theorem eq_ev (xs : List S27) (hb : xs.length ≤ 1099511627776) : Ev (fun k => laws_eqEventS.f k xs xs) true := by
  unfold laws_eqEventS.f
  exact ev_pos rfl (eq_loop xs hb xs [] rfl)
theorem sz_ev (xs : List S65) (a : Int) (h : xs.length ≤ 9223372036854775807) (ha : 0 ≤ a ∧ a ≤ 1048576) : ((xs.length : Int) ≤ a ∧ laws_szEventS.f xs a = some (a - (xs.length : Int))) ∨ laws_szEventS.f xs a = some (-1) := by
  unfold laws_szEventS.f
  rw [w64 (x := a - (xs.length : Int)) (by omega) (by omega)]
  by_cases h0 : a - (xs.length : Int) < 0
  · rw [if_pos h0]; exact .inr rfl
  · rw [if_neg h0]; exact .inl ⟨by omega, rfl⟩
theorem markE_loop : ∀ (d : Nat) (xs : List S27) (q i : Int), 0 ≤ i → i + d = xs.length → 0 ≤ q → q + 6 * d ≤ 4611686018427387904 → xs.length ≤ 1099511627776 →
    ∃ r ys, 0 ≤ r ∧ r = q + 6 * d ∧ Ev (fun k => laws_markEventS.l0 k xs q i) (r, ys) := by
  intro d
  induction d with
  | zero => intro xs q i h0 h1 h2 h3 h4; exact ⟨q, xs, h2, by omega, ev_succ (by simp only [laws_markEventS.l0]; exact ev_neg (by omega) (Ev.now _))⟩
  | succ d ih =>
    intro xs q i h0 h1 h2 h3 h4
    have e1 : wrap64 (q + 1) = q + 1 := w64 (by omega) (by omega)
    have e2 : wrap64 (q + 1 + 1) = q + 2 := by rw [w64 (by omega) (by omega)]; omega
    have e3 : wrap64 (q + 2 + 1) = q + 3 := by rw [w64 (by omega) (by omega)]; omega
    have e4 : wrap64 (q + 3 + 1) = q + 4 := by rw [w64 (by omega) (by omega)]; omega
    have e5 : wrap64 (q + 4 + 1) = q + 5 := by rw [w64 (by omega) (by omega)]; omega
    have e6 : wrap64 (q + 5 + 1) = q + 6 := by rw [w64 (by omega) (by omega)]; omega
    have e7 : wrap64 (i + 1) = i + 1 := w64 (by omega) (by omega)
    have key : ∀ zs : List S27, zs.length = xs.length → ∃ r ys, 0 ≤ r ∧ r = q + 6 * (d + 1 : Nat) ∧ Ev (fun k => laws_markEventS.l0 k zs (q + 6) (i + 1)) (r, ys) := by
      intro zs hz
      obtain ⟨r, ys, hr, hr2, h⟩ := ih zs (q + 6) (i + 1) (by omega) (by omega) (by omega) (by omega) (by omega)
      exact ⟨r, ys, hr, by omega, h⟩
    have fin : ∃ r ys, 0 ≤ r ∧ r = q + 6 * (d + 1 : Nat) ∧ Ev (fun k => laws_markEventS.l0 (k + 1) xs q i) (r, ys) := by
      simp only [laws_markEventS.l0, Option.bind_some, e1, e2, e3, e4, e5, e6, e7]
      refine (key _ ?hz).elim (fun r h => h.elim (fun ys h => ⟨r, ys, h.1, h.2.1, ev_pos (by omega) (ev_pos h0 h.2.2)⟩))
      simp only [List.length_set]
    obtain ⟨r, ys, hr, hr2, h⟩ := fin
    exact ⟨r, ys, hr, hr2, ev_succ h⟩
theorem markE_ev (xs : List S27) (q : Int) (hq : 0 ≤ q) (hq1 : q ≤ 1099511627776) (h : xs.length ≤ 1099511627776) : ∃ r ys, 0 ≤ r ∧ r = q + 6 * xs.length ∧ Ev (fun k => laws_markEventS.f k xs q) (r, ys) :=
  markE_loop xs.length xs q 0 (by omega) (by omega) hq (by omega) h
theorem tdiv_eq (a b : Int) (h : 0 ≤ a) : Int.tdiv a b = a / b := Int.tdiv_eq_ediv_of_nonneg h
theorem tmod_eq (a b : Int) (h : 0 ≤ a) : Int.tmod a b = a % b := Int.tmod_eq_emod_of_nonneg h
theorem p2le (a b : Nat) (h : a ≤ b) : (2 : Int) ^ a ≤ 2 ^ b := by
  have h1 := Nat.pow_le_pow_right (n := 2) (by omega) h
  have e : ∀ n : Nat, (2 : Int) ^ n = ((2 ^ n : Nat) : Int) := fun n => by simp
  rw [e, e]; omega
theorem weight_loop (n : Int) : ∀ (d : Nat) (x i : Int), 0 ≤ i → i + d = n → n ≤ 62 → 0 ≤ x → x * 2 ^ d ≤ 4611686018427387904 → Ev (fun k => spec_l3Weight.l0 k n x i) (x * 2 ^ d) := by
  intro d
  induction d with
  | zero => intro x i h0 h1 h2 h3 h4; refine ev_succ ?_; simp only [spec_l3Weight.l0]; exact ev_neg (by omega) (ev_const (by simp))
  | succ d ih =>
    intro x i h0 h1 h2 h3 h4; refine ev_succ ?_; simp only [spec_l3Weight.l0]
    have e : x * 2 ^ (d + 1) = 2 * x * 2 ^ d := by rw [Int.pow_succ, Int.mul_comm 2 x, Int.mul_assoc, Int.mul_comm 2 (2 ^ d)]
    have h5 : 2 * x ≤ 2 * x * 2 ^ d := by
      have : (1 : Int) ≤ 2 ^ d := by have := Int.pow_pos (n := 2) (m := d) (by omega); omega
      have := Int.mul_le_mul_of_nonneg_left this (show 0 ≤ 2 * x by omega)
      omega
    rw [e] at h4 ⊢
    rw [w64 (x := 2 * x) (by omega) (by omega), w64 (x := i + 1) (by omega) (by omega)]
    exact ev_pos (by omega) (ih (2 * x) (i + 1) (by omega) (by omega) h2 (by omega) h4)
theorem weight_ev (n : Nat) (h : n ≤ 8) : Ev (fun k => spec_l3Weight.f k (n : Int)) (2 ^ n) := by
  have h2 : (1 : Int) * 2 ^ n ≤ 4611686018427387904 := by
    have : (2 : Int) ^ n ≤ 2 ^ 8 := p2le n 8 h
    omega
  exact ev_eq (weight_loop n n 1 0 (by omega) (by omega) (by omega) (by omega) h2) (by simp)
def G1 (x : S50) : Prop := (1 ≤ x.f0 ∧ x.f0 ≤ 99) ∧ (1 ≤ x.f1 ∧ x.f1 ≤ 4) ∧ (0 ≤ x.f2 ∧ x.f2 ≤ 255)
instance (x : S50) : Decidable (G1 x) := by unfold G1; infer_instance
def above (q : Option Int) (m : Int) : Prop := match q with | none => True | some y => y < m
instance (q : Option Int) (m : Int) : Decidable (above q m) := by unfold above; cases q <;> infer_instance
def GOk : Option Int → List S50 → Prop
  | _, [] => True
  | q, x :: r => G1 x ∧ above q x.f0 ∧ GOk (some x.f0) r
def decGOk : (q : Option Int) → (l : List S50) → Decidable (GOk q l)
  | _, [] => isTrue trivial
  | q, x :: r => by
    unfold GOk
    have := decGOk (some x.f0) r
    infer_instance
instance (q : Option Int) (l : List S50) : Decidable (GOk q l) := decGOk q l
def GValid (l : List S50) : Prop := GOk none l ∧ (l.length : Int) ≤ 10
instance (l : List S50) : Decidable (GValid l) := by unfold GValid; infer_instance
def LastG (p : List S50) (q : Option Int) : Prop := (p = [] ∧ q = none) ∨ ∃ p' y, p = p' ++ [y] ∧ q = some y.f0
theorem lastG_snoc (p : List S50) (x : S50) : LastG (p ++ [x]) (some x.f0) := .inr ⟨p, x, rfl, rfl⟩
theorem rd50s {xs p : List S50} {x : S50} {q : List S50} (h : xs = p ++ x :: q) : rd_T50 xs (p.length : Int) = x := by subst h; exact getD_at p x q z50
theorem guestValid_ev (x : S50) : impl_guestValid.f x.f0 x.f1 x.f2 = some (decide (G1 x)) := by
  unfold impl_guestValid.f
  simp only [within_ev, set_ev, Option.bind_some]
  by_cases a : 1 ≤ x.f0 ∧ x.f0 ≤ 99
  · rw [if_pos (decide_eq_true a)]
    by_cases b : 1 ≤ x.f1 ∧ x.f1 ≤ 4
    · rw [if_pos (decide_eq_true b)]; congr 1; exact dec_eq ⟨fun h => ⟨a, b, h⟩, fun h => h.2.2⟩
    · rw [if_neg (by simpa using b), decide_eq_false (fun h => b h.2.1)]
  · rw [if_neg (by simpa using a), decide_eq_false (fun h => a h.1)]
theorem sguestValid_ev (x : S50) : spec_l12Guest.f x.f0 x.f1 x.f2 = some (decide (G1 x)) := by
  unfold spec_l12Guest.f
  simp only [in_ev, sset_ev, Option.bind_some]
  by_cases a : 1 ≤ x.f0 ∧ x.f0 ≤ 99
  · rw [if_pos (decide_eq_true a)]
    by_cases b : 1 ≤ x.f1 ∧ x.f1 ≤ 4
    · rw [if_pos (decide_eq_true b)]; congr 1; exact dec_eq ⟨fun h => ⟨a, b, h⟩, fun h => h.2.2⟩
    · rw [if_neg (by simpa using b), decide_eq_false (fun h => b h.2.1)]
  · rw [if_neg (by simpa using a), decide_eq_false (fun h => a h.1)]
theorem impl_g_loop (xs : List S50) (hb : xs.length ≤ 1099511627776) : ∀ (s p : List S50) (q : Option Int), xs = p ++ s → LastG p q →
    Ev (fun k => impl_GuestsValid.l0 k xs xs (xs.length : Int) (p.length : Int)) (decide (GOk q s ∧ (xs.length : Int) ≤ 10)) := by
  intro s
  induction s with
  | nil =>
    intro p q hx hq; refine ev_succ ?_; simp only [impl_GuestsValid.l0]
    exact ev_neg (by subst hx; simp) (ev_const (dec_eq (by simp [GOk])))
  | cons x s ih =>
    intro p q hx hq; refine ev_succ ?_
    simp only [impl_GuestsValid.l0, rd50s hx, wlen hx hb, guestValid_ev, Option.bind_some]
    refine ev_pos (len_at hx) (ev_pos (by omega) (ev_pos (len_at hx) ?_))
    have hi := ih (p ++ [x]) (some x.f0) (snoc_at hx) (lastG_snoc p x)
    refine ev_ite (fun h1 => ?_) (fun h1 => ev_const ?_)
    · have h1' := of_decide_eq_true h1
      rcases hq with ⟨rfl, rfl⟩ | ⟨p', y, rfl, rfl⟩
      · refine ev_neg (by simp) (ev_eq hi (dec_eq ?_))
        simp only [GOk, above]; exact ⟨fun h => ⟨⟨h1', trivial, h.1⟩, h.2⟩, fun h => ⟨h.1.2.2, h.2⟩⟩
      · have e1 : wrap64 (((p' ++ [y]).length : Int) - 1) = (p'.length : Int) := by
          rw [w64 (by omega) (by subst hx; simp at hb ⊢; omega)]; simp
        have e2 : rd_T50 xs (p'.length : Int) = y := rd50s (q := x :: s) (by subst hx; simp)
        rw [e1, e2]
        refine ev_pos (by simp <;> omega) (ev_pos (by omega) (ev_pos (by subst hx; simp <;> omega) (ev_ite (fun h3 => ev_const ?_) (fun h3 => ev_eq hi (dec_eq ?_)))))
        · symm; refine decide_eq_false (fun h => ?_)
          have := h.1.2.1; simp only [above] at this; omega
        · simp only [GOk, above]; exact ⟨fun h => ⟨⟨h1', by omega, h.1⟩, h.2⟩, fun h => ⟨h.1.2.2, h.2⟩⟩
    · symm; refine decide_eq_false (fun h => h1 (decide_eq_true h.1.1))
theorem impl_gvalid (xs : List S50) (hb : xs.length ≤ 1099511627776) : Ev (fun k => impl_GuestsValid.f k xs) (decide (GValid xs)) :=
  ev_eq (impl_g_loop xs hb xs [] none rfl (.inl ⟨rfl, rfl⟩)) rfl
theorem spec_g_loop (xs : List S50) (hb : xs.length ≤ 1099511627776) : ∀ (s p : List S50) (q : Option Int), xs = p ++ s → LastG p q →
    Ev (fun k => spec_GuestsValid.l0 k xs (p.length : Int)) (decide (GOk q s ∧ (xs.length : Int) ≤ 10)) := by
  intro s
  induction s with
  | nil =>
    intro p q hx hq; refine ev_succ ?_; simp only [spec_GuestsValid.l0]
    exact ev_neg (by subst hx; simp) (ev_const (dec_eq (by simp [GOk])))
  | cons x s ih =>
    intro p q hx hq; refine ev_succ ?_
    simp only [spec_GuestsValid.l0, rd50s hx, wlen hx hb, sguestValid_ev, Option.bind_some]
    refine ev_pos (len_at hx) (ev_pos (by omega) ?_)
    have hi := ih (p ++ [x]) (some x.f0) (snoc_at hx) (lastG_snoc p x)
    refine ev_ite (fun h1 => ?_) (fun h1 => ev_const ?_)
    · have h1' := of_decide_eq_true h1
      rcases hq with ⟨rfl, rfl⟩ | ⟨p', y, rfl, rfl⟩
      · refine ev_neg (by simp) (ev_eq hi (dec_eq ?_))
        simp only [GOk, above]; exact ⟨fun h => ⟨⟨h1', trivial, h.1⟩, h.2⟩, fun h => ⟨h.1.2.2, h.2⟩⟩
      · have e1 : wrap64 (((p' ++ [y]).length : Int) - 1) = (p'.length : Int) := by
          rw [w64 (by omega) (by subst hx; simp at hb ⊢; omega)]; simp
        have e2 : rd_T50 xs (p'.length : Int) = y := rd50s (q := x :: s) (by subst hx; simp)
        rw [e1, e2]
        refine ev_pos (by simp <;> omega) (ev_pos (by omega) (ev_pos (by subst hx; simp <;> omega) (ev_ite (fun h3 => ev_const ?_) (fun h3 => ev_eq hi (dec_eq ?_)))))
        · symm; refine decide_eq_false (fun h => ?_)
          have := h.1.2.1; simp only [above] at this; omega
        · simp only [GOk, above]; exact ⟨fun h => ⟨⟨h1', by omega, h.1⟩, h.2⟩, fun h => ⟨h.1.2.2, h.2⟩⟩
    · symm; refine decide_eq_false (fun h => h1 (decide_eq_true h.1.1))
theorem spec_gvalid (xs : List S50) (hb : xs.length ≤ 1099511627776) : Ev (fun k => spec_GuestsValid.f k xs) (decide (GValid xs)) :=
  ev_eq (spec_g_loop xs hb xs [] none rfl (.inl ⟨rfl, rfl⟩)) rfl
def dietP (d c : Int) : Prop := (1 ≤ c ∧ c ≤ 5) ∧ (d = 1 ∨ (d = 2 ∧ c ≠ 5) ∨ (d = 3 ∧ c ≠ 5 ∧ c ≠ 4) ∨ (d = 4 ∧ c = 1))
instance (d c : Int) : Decidable (dietP d c) := by unfold dietP; infer_instance
theorem diet_ev (d c : Int) : impl_DietAllows.f d c = some (decide (dietP d c)) := by
  unfold impl_DietAllows.f
  simp only [kind_ev, Option.bind_some]
  by_cases a : 1 ≤ c ∧ c ≤ 5
  · rw [if_pos (decide_eq_true a)]
    by_cases h1 : d = 1
    · rw [if_pos h1, decide_eq_true (show dietP d c from ⟨a, .inl h1⟩)]
    · rw [if_neg h1]
      by_cases h2 : d = 2
      · rw [if_pos h2]; congr 1; rw [Bool.eq_iff_iff]; simp only [bne_iff_ne, decide_eq_true_eq]; simp only [dietP]; omega
      · rw [if_neg h2]
        by_cases h3 : d = 3
        · rw [if_pos h3]
          by_cases h5 : c = 5
          · rw [if_pos h5, decide_eq_false (fun h : dietP d c => by simp only [dietP] at h; omega)]
          · rw [if_neg h5]; congr 1; rw [Bool.eq_iff_iff]; simp only [bne_iff_ne, decide_eq_true_eq]; simp only [dietP]; omega
        · rw [if_neg h3]
          by_cases h4 : d = 4
          · rw [if_pos h4]; congr 1; rw [Bool.eq_iff_iff]; simp only [beq_iff_eq, decide_eq_true_eq]; simp only [dietP]; omega
          · rw [if_neg h4, decide_eq_false (fun h : dietP d c => by simp only [dietP] at h; omega)]
  · rw [if_neg (by simpa using a), decide_eq_false (fun h : dietP d c => a h.1)]
theorem sdiet_ev (d c : Int) : spec_DietAllows.f d c = some (decide (dietP d c)) := by
  unfold spec_DietAllows.f
  simp only [in_ev, Option.bind_some]
  by_cases b : 1 ≤ d ∧ d ≤ 4
  · rw [if_pos (decide_eq_true b)]
    by_cases a : 1 ≤ c ∧ c ≤ 5
    · rw [if_pos (decide_eq_true a)]
      unfold spec_l12Last.f
      simp only [Option.bind_some]
      rw [if_pos (by omega), if_pos (by simp; omega)]
      simp only [Option.bind_some]
      have h : d = 1 ∨ d = 2 ∨ d = 3 ∨ d = 4 := by omega
      congr 1; refine dec_eq ?_
      rcases h with rfl | rfl | rfl | rfl <;> simp only [dietP, rd] <;> simp <;> omega
    · rw [if_neg (by simpa using a), decide_eq_false (fun h : dietP d c => a h.1)]
  · rw [if_neg (by simpa using b), decide_eq_false (fun h : dietP d c => by simp only [dietP] at h; omega)]
def meetS (n m : Nat) : Nat → Nat → Int
  | _, 0 => 0
  | i, d + 1 => (if n.testBit i && m.testBit i then 2 ^ i else 0) + meetS n m (i + 1) d
theorem meetS_nonneg (n m : Nat) : ∀ d i, 0 ≤ meetS n m i d
  | 0, i => Int.le_refl _
  | d + 1, i => by
    have := meetS_nonneg n m d (i + 1)
    have h2 : (0 : Int) < 2 ^ i := Int.pow_pos (by omega)
    rw [meetS]; split <;> omega
theorem meetS_zero (n m : Nat) : ∀ d i, meetS n m i d = 0 ↔ ∀ j, i ≤ j → j < i + d → (n.testBit j && m.testBit j) = false
  | 0, i => by simp [meetS]; intro j h1 h2; omega
  | d + 1, i => by
    have ih := meetS_zero n m d (i + 1)
    have h0 := meetS_nonneg n m d (i + 1)
    have h2 : (0 : Int) < 2 ^ i := Int.pow_pos (by omega)
    rw [meetS]
    constructor
    · intro h j h3 h4
      by_cases hb : (n.testBit i && m.testBit i) = true
      · rw [if_pos hb] at h; omega
      · rw [if_neg hb] at h
        by_cases e : j = i
        · subst e; simpa using hb
        · exact ih.1 (by omega) j (by omega) (by omega)
    · intro h
      rw [if_neg (by rw [h i (Nat.le_refl _) (by omega)]; simp), ih.2 (fun j h3 h4 => h j (by omega) (by omega))]; rfl
theorem meet_and (n m : Nat) (hn : n < 256) : meetS n m 0 8 = 0 ↔ n &&& m = 0 := by
  rw [meetS_zero]
  constructor
  · intro h
    refine Nat.eq_of_testBit_eq (fun i => ?_)
    rw [Nat.testBit_and, Nat.zero_testBit]
    by_cases hi : i < 8
    · exact h i (Nat.zero_le _) (by omega)
    · have : n.testBit i = false := Nat.testBit_lt_two_pow (Nat.lt_of_lt_of_le hn (show 2 ^ 8 ≤ 2 ^ i from Nat.pow_le_pow_right (by omega) (by omega)))
      rw [this]; rfl
  · intro h j h1 h2
    rw [← Nat.testBit_and, h, Nat.zero_testBit]
theorem bits_and (n m : Nat) (hn : n < 256) (hm : m < 256) : Go.bits .and .i64 (n : Int) (m : Int) = ((n &&& m : Nat) : Int) := by
  have h0 : n &&& m ≤ n := Nat.and_le_left
  have h1 : n % 2 ^ IntKind.i64.bits = n := Nat.mod_eq_of_lt (by show n < 2 ^ 64; omega)
  have h2 : m % 2 ^ IntKind.i64.bits = m := Nat.mod_eq_of_lt (by show m < 2 ^ 64; omega)
  simp only [Go.bits, BitVec.ofInt_natCast, BitVec.toNat_and, BitVec.toNat_ofNat, h1, h2]
  rw [IntKind.wrap_i64]; omega
theorem l3has_ev (n i : Nat) (hn : n < 256) (hi : i ≤ 8) : Ev (fun k => spec_l3Has.f k (n : Int) (i : Int)) (n.testBit i) := by
  unfold spec_l3Has.f
  refine Ev.bind (weight_ev i hi) ?_
  have hp : (0 : Int) < 2 ^ i := Int.pow_pos (by omega)
  refine ev_neg (by omega) (ev_const ?_)
  have e1 : ((2 : Int) ^ i) = ((2 ^ i : Nat) : Int) := by simp
  have h1 : n / 2 ^ i ≤ n := Nat.div_le_self _ _
  have e2 : Int.tdiv (n : Int) (2 ^ i) = ((n / 2 ^ i : Nat) : Int) := by
    rw [tdiv_eq _ _ (by omega), e1, ← Int.natCast_ediv]
  rw [e2, Nat.testBit_eq_decide_div_mod_eq]
  clear e2
  generalize n / 2 ^ i = q at h1
  rw [w64 (by omega) (by omega), tmod_eq _ _ (by omega), Bool.eq_iff_iff]
  simp only [beq_iff_eq, decide_eq_true_eq]; omega
theorem meet_loop (n m : Nat) (hn : n < 256) (hm : m < 256) : ∀ (d i : Nat) (s : Int), i + d = 8 → 0 ≤ s → s ≤ 2 ^ i - 1 → Ev (fun k => spec_l3Meet.l0 k (n : Int) (m : Int) s (i : Int)) (s + meetS n m i d) := by
  intro d
  induction d with
  | zero => intro i s h0 h1 h2; refine ev_succ ?_; simp only [spec_l3Meet.l0]; exact ev_neg (by omega) (ev_const (by simp [meetS]))
  | succ d ih =>
    intro i s h0 h1 h2; refine ev_succ ?_; simp only [spec_l3Meet.l0]
    have e : wrap64 ((i : Int) + 1) = ((i + 1 : Nat) : Int) := by rw [w64 (by omega) (by omega)]; omega
    have hp : (0 : Int) < 2 ^ i := Int.pow_pos (by omega)
    have hp8 : (2 : Int) ^ i ≤ 2 ^ 8 := p2le i 8 (by omega)
    have hps : (2 : Int) ^ (i + 1) = 2 * 2 ^ i := by rw [Int.pow_succ]; omega
    rw [e, meetS]
    refine ev_pos (by omega) (Ev.bind (l3has_ev n i hn (by omega)) (ev_ite (fun h3 => Ev.bind (l3has_ev m i hm (by omega)) (ev_ite (fun h4 => Ev.bind (weight_ev i (by omega)) ?_) (fun h4 => ?_))) (fun h3 => ?_)))
    · rw [w64 (x := s + 2 ^ i) (by omega) (by omega)]
      refine ev_eq (ih (i + 1) (s + 2 ^ i) (by omega) (by omega) (by omega)) ?_
      rw [if_pos (by rw [h3, h4]; rfl)]; omega
    · refine ev_eq (ih (i + 1) s (by omega) h1 (by omega)) ?_
      rw [if_neg (by intro z; rw [Bool.and_eq_true] at z; exact h4 z.2)]; omega
    · refine ev_eq (ih (i + 1) s (by omega) h1 (by omega)) ?_
      rw [if_neg (by intro z; rw [Bool.and_eq_true] at z; exact h3 z.1)]; omega
def mayB (g : S50) (a c : Int) : Bool := decide (G1 g ∧ (0 ≤ a ∧ a ≤ 255) ∧ g.f2.toNat &&& a.toNat = 0 ∧ dietP g.f1 c)
theorem may_ev (g : S50) (a c : Int) : impl_GuestMay.f g.f0 g.f1 g.f2 a c = some (mayB g a c) := by
  unfold impl_GuestMay.f mayB
  simp only [guestValid_ev, set_ev, diet_ev, Option.bind_some]
  by_cases h1 : G1 g
  · rw [if_pos (decide_eq_true h1)]
    by_cases h2 : 0 ≤ a ∧ a ≤ 255
    · rw [if_pos (decide_eq_true h2)]
      have h3 := h1.2.2
      have e : Go.bits .and .i64 g.f2 a = ((g.f2.toNat &&& a.toNat : Nat) : Int) := by
        have := bits_and g.f2.toNat a.toNat (by omega) (by omega)
        rw [Int.toNat_of_nonneg h3.1, Int.toNat_of_nonneg h2.1] at this
        exact this
      rw [e]
      by_cases h4 : g.f2.toNat &&& a.toNat = 0
      · rw [if_pos (by omega)]; congr 1; exact dec_eq ⟨fun h => ⟨h1, h2, h4, h⟩, fun h => h.2.2.2⟩
      · rw [if_neg (by omega), decide_eq_false (fun h => h4 h.2.2.1)]
    · rw [if_neg (by simpa using h2), decide_eq_false (fun h => h2 h.2.1)]
  · rw [if_neg (by simpa using h1), decide_eq_false (fun h => h1 h.1)]
theorem smay_ev (g : S50) (a c : Int) : Ev (fun k => spec_GuestMay.f k g.f0 g.f1 g.f2 a c) (mayB g a c) := by
  unfold spec_GuestMay.f mayB
  simp only [sguestValid_ev, sset_ev, sdiet_ev, Option.bind_some]
  refine ev_ite (fun h1 => ev_ite (fun h2 => ev_ite (fun h4 => ?_) (fun h4 => ev_const ?_)) (fun h2 => ev_const ?_)) (fun h1 => ev_const ?_)
  · have h1' := of_decide_eq_true h1
    have h2' := of_decide_eq_true h2
    have h4' := of_decide_eq_true h4
    have h3 := h1'.2.2
    have e := meet_loop g.f2.toNat a.toNat (by omega) (by omega) 8 0 0 rfl (by omega) (by omega)
    rw [Int.toNat_of_nonneg h3.1, Int.toNat_of_nonneg h2'.1] at e
    refine Ev.bind (show Ev (fun k => spec_l3Meet.f k g.f2 a) _ from e) (ev_const ?_)
    rw [Bool.eq_iff_iff]
    simp only [beq_iff_eq, decide_eq_true_eq, Int.zero_add]
    rw [meet_and _ _ (by omega)]
    exact ⟨fun h => ⟨h1', h2', h, h4'⟩, fun h => h.2.2.1⟩
  · symm; exact decide_eq_false (fun h => h4 (decide_eq_true h.2.2.2))
  · symm; exact decide_eq_false (fun h => h2 (decide_eq_true h.2.1))
  · symm; exact decide_eq_false (fun h => h1 (decide_eq_true h.1))
def convG (x : S77) : S50 := ⟨x.f0, x.f1, x.f2⟩
theorem rd77s {xs p : List S77} {x : S77} {q : List S77} (h : xs = p ++ x :: q) : rd_T77 xs (p.length : Int) = x := by subst h; exact getD_at p x q z77
theorem toG_loop (xs : List S77) (hb : xs.length ≤ 1099511627776) : ∀ (s p : List S77), xs = p ++ s →
    Ev (fun k => laws_toGuestS.l0 k xs (p.map convG ++ List.replicate s.length z50) (p.length : Int)) (xs.map convG) := by
  intro s
  induction s with
  | nil => intro p hx; refine ev_succ ?_; simp only [laws_toGuestS.l0]; exact ev_neg (by subst hx; simp) (ev_const (by subst hx; simp))
  | cons x s ih =>
    intro p hx; refine ev_succ ?_
    simp only [laws_toGuestS.l0, rd77s hx, wlen hx hb, laws_toGuest.f, Option.bind_some]
    refine ev_pos (len_at hx) (ev_pos (by omega) (ev_pos (by simp; omega) ?_))
    have e : (p.map convG ++ List.replicate (x :: s).length z50).set ((p.length : Int)).toNat ⟨x.f0, x.f1, x.f2⟩ = (p ++ [x]).map convG ++ List.replicate s.length z50 := by
      have h1 : ((p.length : Int)).toNat = (p.map convG).length := by simp
      rw [h1, List.length_cons, List.replicate_succ, set_at]; simp [convG]
    rw [e]; exact ih (p ++ [x]) (snoc_at hx)
theorem toG_ev (xs : List S77) (hb : xs.length ≤ 1048576) : Ev (fun k => laws_toGuestS.f k xs) (xs.map convG) := by
  unfold laws_toGuestS.f
  refine ev_pos (by omega) (ev_pos (by omega) ?_)
  exact toG_loop xs (by omega) xs [] rfl
theorem eqG_loop (xs : List S50) (hb : xs.length ≤ 1099511627776) : ∀ (s p : List S50), xs = p ++ s → Ev (fun k => laws_eqGuestS.l0 k xs xs (p.length : Int)) true := by
  intro s
  induction s with
  | nil => intro p hx; refine ev_succ ?_; simp only [laws_eqGuestS.l0]; exact ev_neg (by subst hx; simp) (Ev.now _)
  | cons x s ih =>
    intro p hx; refine ev_succ ?_
    simp only [laws_eqGuestS.l0, rd50s hx, wlen hx hb, laws_eqGuest.f, if_true, Option.bind_some]
    exact ev_pos (len_at hx) (ev_pos (by omega) (ev_pos (len_at hx) (ih (p ++ [x]) (snoc_at hx))))
theorem eqG_ev (xs : List S50) (hb : xs.length ≤ 1099511627776) : Ev (fun k => laws_eqGuestS.f k xs xs) true := by
  unfold laws_eqGuestS.f
  exact ev_pos rfl (eqG_loop xs hb xs [] rfl)
theorem szG_ev (xs : List S77) (a : Int) (h : xs.length ≤ 9223372036854775807) (ha : 0 ≤ a ∧ a ≤ 1048576) : ((xs.length : Int) ≤ a ∧ laws_szGuestS.f xs a = some (a - (xs.length : Int))) ∨ laws_szGuestS.f xs a = some (-1) := by
  unfold laws_szGuestS.f
  rw [w64 (x := a - (xs.length : Int)) (by omega) (by omega)]
  by_cases h0 : a - (xs.length : Int) < 0
  · rw [if_pos h0]; exact .inr rfl
  · rw [if_neg h0]; exact .inl ⟨by omega, rfl⟩
theorem markG_loop : ∀ (d : Nat) (xs : List S50) (q i : Int), 0 ≤ i → i + d = xs.length → 0 ≤ q → q + 3 * d ≤ 4611686018427387904 → xs.length ≤ 1099511627776 →
    ∃ r ys, 0 ≤ r ∧ r = q + 3 * d ∧ Ev (fun k => laws_markGuestS.l0 k xs q i) (r, ys) := by
  intro d
  induction d with
  | zero => intro xs q i h0 h1 h2 h3 h4; exact ⟨q, xs, h2, by omega, ev_succ (by simp only [laws_markGuestS.l0]; exact ev_neg (by omega) (Ev.now _))⟩
  | succ d ih =>
    intro xs q i h0 h1 h2 h3 h4
    have e1 : wrap64 (q + 1) = q + 1 := w64 (by omega) (by omega)
    have e2 : wrap64 (q + 1 + 1) = q + 2 := by rw [w64 (by omega) (by omega)]; omega
    have e3 : wrap64 (q + 2 + 1) = q + 3 := by rw [w64 (by omega) (by omega)]; omega
    have e7 : wrap64 (i + 1) = i + 1 := w64 (by omega) (by omega)
    have key : ∀ zs : List S50, zs.length = xs.length → ∃ r ys, 0 ≤ r ∧ r = q + 3 * (d + 1 : Nat) ∧ Ev (fun k => laws_markGuestS.l0 k zs (q + 3) (i + 1)) (r, ys) := by
      intro zs hz
      obtain ⟨r, ys, hr, hr2, h⟩ := ih zs (q + 3) (i + 1) (by omega) (by omega) (by omega) (by omega) (by omega)
      exact ⟨r, ys, hr, by omega, h⟩
    have fin : ∃ r ys, 0 ≤ r ∧ r = q + 3 * (d + 1 : Nat) ∧ Ev (fun k => laws_markGuestS.l0 (k + 1) xs q i) (r, ys) := by
      simp only [laws_markGuestS.l0, Option.bind_some, e1, e2, e3, e7]
      refine (key _ ?hz).elim (fun r h => h.elim (fun ys h => ⟨r, ys, h.1, h.2.1, ev_pos (by omega) (ev_pos h0 h.2.2)⟩))
      simp only [List.length_set]
    obtain ⟨r, ys, hr, hr2, h⟩ := fin
    exact ⟨r, ys, hr, hr2, ev_succ h⟩
theorem markG_ev (xs : List S50) (q : Int) (hq : 0 ≤ q) (hq1 : q ≤ 1099511627776) (h : xs.length ≤ 1099511627776) : ∃ r ys, 0 ≤ r ∧ r = q + 3 * xs.length ∧ Ev (fun k => laws_markGuestS.f k xs q) (r, ys) :=
  markG_loop xs.length xs q 0 (by omega) (by omega) hq (by omega) h
def lk (b : Int) : List S27 → Option S27
  | [] => none
  | x :: r => if isMk b x then some x else lk b r
theorem go_lk (b : Int) : ∀ l : List S27, impl_made.go b l = match lk b l with | none => (0, 0, 0, 0, 0, 0, false) | some x => (x.f0, x.f1, x.f2, x.f3, x.f4, x.f5, x.f0 == 1)
  | [] => rfl
  | x :: r => by
    rw [impl_made.go, lk]
    by_cases h : isMk b x
    · rw [if_pos h, if_pos h]
    · rw [if_neg h, if_neg h]; exact go_lk b r
theorem lk_mem (b : Int) : ∀ (l : List S27) (x : S27), lk b l = some x → x ∈ l
  | [], x, h => by simp [lk] at h
  | y :: r, x, h => by
    rw [lk] at h
    by_cases hm : isMk b y
    · rw [if_pos hm] at h; cases h; simp
    · rw [if_neg hm] at h; exact List.mem_cons_of_mem _ (lk_mem b r x h)
theorem EOk.all : ∀ {q : Option Int} {l : List S27}, EOk q l → ∀ x ∈ l, E1 x ∧ E2 x
  | _, [], _, x, h => by cases h
  | q, y :: r, hh, x, h => by
    rcases List.mem_cons.1 h with rfl | h
    · exact ⟨hh.1, hh.2.1⟩
    · exact EOk.all hh.2.2.2 x h
def Inv (l : List S27) (b : Int) (p : List S27) (out : Int) : Prop := match lk b p.reverse with
  | none => out = -1
  | some x => (x.f0 = 1 → 0 ≤ out ∧ out < (p.length : Int) ∧ rd_T27 l out = x) ∧ (x.f0 ≠ 1 → out = -1)
theorem made_loop (xs : List S27) (hb : xs.length ≤ 1099511627776) (hv : EValid xs) (b : Int) (n : Nat) (hn : n ≤ xs.length) : ∀ (s p : List S27) (out : Int), xs.take n = p ++ s → Inv xs b p out →
    ∃ r, Ev (fun k => spec_l43Made.l0 k xs (n : Int) b out (p.length : Int)) r ∧ Inv xs b (xs.take n) r := by
  intro s
  induction s with
  | nil =>
    intro p out hx hi
    have hp : p.length = n := by have := congrArg List.length hx; simp at this; omega
    refine ⟨out, ev_succ ?_, by rw [hx]; simpa using hi⟩
    simp only [spec_l43Made.l0]; exact ev_neg (by omega) (Ev.now _)
  | cons x s ih =>
    intro p out hx hi
    have hx2 : xs = p ++ x :: (s ++ xs.drop n) := by
      have e := (List.take_append_drop n xs).symm
      rw [hx] at e
      exact e.trans (by simp)
    have hpn : p.length < n := by have := congrArg List.length hx; simp at this; omega
    have hE := (EOk.all hv.1 x (by rw [hx2]; simp)).2
    have erev : (p ++ [x]).reverse = x :: p.reverse := by simp
    have hstep : ∀ out', Inv xs b (p ++ [x]) out' → (∀ r, Ev (fun k => spec_l43Made.l0 k xs (n : Int) b out' ((p ++ [x]).length : Int)) r → Ev (fun k => spec_l43Made.l0 (k + 1) xs (n : Int) b out (p.length : Int)) r) →
        ∃ r, Ev (fun k => spec_l43Made.l0 k xs (n : Int) b out (p.length : Int)) r ∧ Inv xs b (xs.take n) r := by
      intro out' h1 h2
      obtain ⟨r, h3, h4⟩ := ih (p ++ [x]) out' (by rw [hx]; simp) h1
      exact ⟨r, ev_succ (h2 r h3), h4⟩
    by_cases hbx : x.f2 = b
    · by_cases h1 : x.f0 = 1
      · refine hstep (p.length : Int) ?_ (fun r hr => ?_)
        · unfold Inv; rw [erev, lk, if_pos ⟨hbx, by omega⟩]
          exact ⟨fun _ => ⟨by omega, by simp; omega, rd27s hx2⟩, fun h => absurd h1 h⟩
        · simp only [spec_l43Made.l0, rd27s hx2, wlen hx2 hb]
          exact ev_pos (by omega) (ev_pos (by omega) (ev_pos (by omega) (ev_pos hbx (ev_pos h1 hr))))
      · by_cases h3 : x.f0 = 3
        · refine hstep (-1) ?_ (fun r hr => ?_)
          · unfold Inv; rw [erev, lk, if_pos ⟨hbx, by omega⟩]
            exact ⟨fun h => absurd h h1, fun _ => rfl⟩
          · simp only [spec_l43Made.l0, rd27s hx2, wlen hx2 hb]
            exact ev_pos (by omega) (ev_pos (by omega) (ev_pos (by omega) (ev_pos hbx (ev_neg h1 (ev_pos h3 hr)))))
        · have h2 : x.f0 = 2 := by
            have hE' := hE
            simp only [E2] at hE'; omega
          refine hstep out ?_ (fun r hr => ?_)
          · unfold Inv at hi ⊢
            rw [erev, lk, if_neg (fun h => h.2 h2)]
            cases hl : lk b p.reverse with
            | none => rw [hl] at hi; exact hi
            | some y => rw [hl] at hi; exact ⟨fun h => ⟨(hi.1 h).1, by have := (hi.1 h).2.1; simp; omega, (hi.1 h).2.2⟩, hi.2⟩
          · simp only [spec_l43Made.l0, rd27s hx2, wlen hx2 hb]
            exact ev_pos (by omega) (ev_pos (by omega) (ev_pos (by omega) (ev_pos hbx (ev_neg h1 (ev_neg h3 hr)))))
    · refine hstep out ?_ (fun r hr => ?_)
      · unfold Inv at hi ⊢
        rw [erev, lk, if_neg (fun h => hbx h.1)]
        cases hl : lk b p.reverse with
        | none => rw [hl] at hi; exact hi
        | some y => rw [hl] at hi; exact ⟨fun h => ⟨(hi.1 h).1, by have := (hi.1 h).2.1; simp; omega, (hi.1 h).2.2⟩, hi.2⟩
      · simp only [spec_l43Made.l0, rd27s hx2, wlen hx2 hb]
        exact ev_pos (by omega) (ev_pos (by omega) (ev_pos (by omega) (ev_neg hbx hr)))
theorem go_range (a : Int) (gs : List S50) : ∀ (s p : List S50), gs = p ++ s → impl_Guest.go a p.length s = -1 ∨ (0 ≤ impl_Guest.go a p.length s ∧ impl_Guest.go a p.length s < (gs.length : Int) ∧ (rd_T50 gs (impl_Guest.go a p.length s)).f0 = a) := by
  intro s
  induction s with
  | nil => intro p h; exact .inl rfl
  | cons x s ih =>
    intro p h
    rw [impl_Guest.go]
    by_cases hx : x.f0 = a
    · rw [if_pos hx]; exact .inr ⟨by omega, len_at h, by rw [rd50s h]; exact hx⟩
    · rw [if_neg hx]
      have := ih (p ++ [x]) (snoc_at h)
      simpa using this
theorem sguest_loop (gs : List S50) (hb : gs.length ≤ 1099511627776) (a : Int) : ∀ (s p : List S50), gs = p ++ s → Ev (fun k => spec_l43Guest.l0 k gs a (p.length : Int)) (impl_Guest.go a p.length s) := by
  intro s
  induction s with
  | nil => intro p h; refine ev_succ ?_; simp only [spec_l43Guest.l0]; exact ev_neg (by subst h; simp) (ev_const (by rw [impl_Guest.go]))
  | cons x s ih =>
    intro p h; refine ev_succ ?_
    simp only [spec_l43Guest.l0, rd50s h, wlen h hb]
    rw [impl_Guest.go]
    refine ev_pos (len_at h) (ev_pos (by omega) (ev_ite (fun hx => ?_) (fun hx => ?_)))
    · rw [if_pos hx]; exact Ev.now _
    · rw [if_neg hx]; have := ih (p ++ [x]) (snoc_at h); simpa using this
def badPlate (gs : List S50) (x e : S27) : Bool :=
  decide (e.f1 > x.f1 + 120) || (decide (impl_Guest.go e.f3 0 gs < 0) || !mayB (rd_T50 gs (impl_Guest.go e.f3 0 gs)) x.f4 x.f5)
def wrongB (gs : List S50) (pre : List S27) (e : S27) : Bool :=
  match lk e.f2 pre.reverse with
  | none => if e.f0 = 1 then false else true
  | some x => if e.f0 = 1 then decide (x.f0 = 1) else if e.f0 = 3 then !decide (x.f0 = 1) else if x.f0 = 1 then badPlate gs x e else true
theorem iwrong_ev (gs : List S50) (hg : gs.length ≤ 1099511627776) (pre : List S27) (e : S27) (hp : ∀ x ∈ pre, E1 x) (he : E1 e) :
    impl_isWrong.f gs pre e.f0 e.f1 e.f2 e.f3 e.f4 e.f5 = some (wrongB gs pre e) := by
  unfold impl_isWrong.f impl_made.f impl_Guest.f wrongB
  have hr := go_range e.f3 gs gs [] rfl
  simp only [List.length_nil] at hr
  simp only [Option.bind_some, go_lk]
  have hmem := lk_mem e.f2 pre.reverse
  cases hl : lk e.f2 pre.reverse with
  | none =>
    dsimp only
    by_cases h1 : e.f0 = 1
    · rw [if_pos h1, if_pos h1]
    · rw [if_neg h1, if_neg h1]
      by_cases h3 : e.f0 = 3
      · rw [if_pos h3]; rfl
      · rw [if_neg h3]; rfl
  | some x =>
    have hx := hp x (List.mem_reverse.1 (hmem x hl))
    dsimp only
    by_cases h1 : e.f0 = 1
    · rw [if_pos h1, if_pos h1]; rfl
    · rw [if_neg h1, if_neg h1]
      by_cases h3 : e.f0 = 3
      · rw [if_pos h3, if_pos h3]; rfl
      · rw [if_neg h3, if_neg h3]
        by_cases h4 : x.f0 = 1
        · rw [if_pos h4, if_pos (by simpa using h4), w64 (x := e.f1 - x.f1) (by have := hx.1; have := he.1; omega) (by have := hx.1; have := he.1; omega), badPlate]
          by_cases h5 : e.f1 - x.f1 > 120
          · rw [if_pos h5, decide_eq_true (show e.f1 > x.f1 + 120 by omega)]; rfl
          · rw [if_neg h5, decide_eq_false (show ¬ e.f1 > x.f1 + 120 by omega)]
            generalize hq : impl_Guest.go e.f3 0 gs = q at hr
            by_cases h6 : q < 0
            · rw [if_pos h6, decide_eq_true h6]; rfl
            · rw [if_neg h6, decide_eq_false h6, if_pos (by omega), if_pos (by omega), may_ev]; rfl
        · rw [if_neg h4, if_neg (by simpa using h4)]
theorem swrong_ev (gs : List S50) (hg : gs.length ≤ 1099511627776) (l : List S27) (hb : l.length ≤ 1099511627776) (hv : EValid l) (p : List S27) (e : S27) (q : List S27) (hx : l = p ++ e :: q) :
    Ev (fun k => spec_l43Wrong.f k gs l (p.length : Int)) (wrongB gs p e) := by
  have htk : l.take p.length = p := by subst hx; simp
  obtain ⟨r, hr, hi⟩ := made_loop l hb hv e.f2 p.length (by subst hx; simp) p [] (-1) (by simpa using htk) (by simp [Inv, lk])
  have hall := EOk.all hv.1
  have he := hall e (by subst hx; simp)
  have hgr := go_range e.f3 gs gs [] rfl
  have hsg : Ev (fun k => spec_l43Guest.f k gs e.f3) (impl_Guest.go e.f3 0 gs) := sguest_loop gs hg e.f3 gs [] rfl
  simp only [List.length_nil] at hgr
  unfold spec_l43Wrong.f wrongB
  simp only [rd27s hx]
  refine ev_pos (by omega) (ev_pos (len_at hx) (Ev.bind (show Ev (fun k => spec_l43Made.f k l (p.length : Int) e.f2) r from hr) ?_))
  rw [htk] at hi
  unfold Inv at hi
  have hmem := lk_mem e.f2 p.reverse
  cases hl : lk e.f2 p.reverse with
  | none =>
    rw [hl] at hi
    dsimp only at hi ⊢
    refine ev_ite (fun h1 => ?_) (fun h1 => ?_)
    · rw [if_pos h1]; exact ev_const (by simp; omega)
    · rw [if_neg h1]
      refine ev_ite (fun h3 => ev_const (by simp; omega)) (fun h3 => Ev.bind hsg (ev_pos (by omega) (Ev.now _)))
  | some x =>
    rw [hl] at hi
    dsimp only at hi ⊢
    have hxm := hall x (by subst hx; exact List.mem_append_left _ (List.mem_reverse.1 (hmem x hl)))
    have b1 := hxm.1.1
    have b2 := he.1.1
    by_cases h4 : x.f0 = 1
    · obtain ⟨i1, i2, i3⟩ := hi.1 h4
      have i4 : r < (l.length : Int) := by
        have : p.length ≤ l.length := by subst hx; simp
        omega
      refine ev_ite (fun h1 => ?_) (fun h1 => ?_)
      · rw [if_pos h1]; exact ev_const (by rw [decide_eq_true h4]; simp; omega)
      · rw [if_neg h1]
        refine ev_ite (fun h3 => ?_) (fun h3 => ?_)
        · rw [if_pos h3]; exact ev_const (by rw [decide_eq_true h4]; simp; omega)
        · rw [if_neg h3, if_pos h4, badPlate]
          refine Ev.bind hsg (ev_neg (by omega) ?_)
          generalize impl_Guest.go e.f3 0 gs = u at hgr
          refine ev_ite (fun h6 => ev_const (by rw [decide_eq_true h6]; simp)) (fun h6 => ev_pos i1 (ev_pos i4 ?_))
          rw [i3, w64 (x := x.f1 + 120) (by omega) (by omega), decide_eq_false h6]
          refine ev_ite (fun h7 => ev_const (by rw [decide_eq_true h7]; rfl)) (fun h7 => ev_pos (by omega) (ev_pos (by omega) (Ev.bind (smay_ev _ _ _) (ev_const (by rw [decide_eq_false h7]; rfl)))))
    · have i1 := hi.2 h4
      refine ev_ite (fun h1 => ?_) (fun h1 => ?_)
      · rw [if_pos h1]; exact ev_const (by rw [decide_eq_false h4]; simp; omega)
      · rw [if_neg h1]
        refine ev_ite (fun h3 => ?_) (fun h3 => ?_)
        · rw [if_pos h3]; exact ev_const (by rw [decide_eq_false h4]; simp; omega)
        · rw [if_neg h3, if_neg h4]
          exact Ev.bind hsg (ev_pos (by omega) (Ev.now _))
def wr (gs : List S50) : List S27 → List S27 → List Int
  | _, [] => []
  | pre, e :: s => if wrongB gs pre e = true then (pre.length : Int) :: wr gs (pre ++ [e]) s else wr gs (pre ++ [e]) s
theorem wr_len (gs : List S50) : ∀ s pre, (wr gs pre s).length ≤ s.length
  | [], _ => by simp [wr]
  | x :: r, pre => by have := wr_len gs r (pre ++ [x]); rw [wr]; split <;> simp <;> omega
def wrongF (gs : List S50) (l : List S27) : List Int := if GValid gs ∧ EValid l then wr gs [] l else []
theorem wrong_len (gs : List S50) (l : List S27) : (wrongF gs l).length ≤ l.length := by
  unfold wrongF; split
  · exact wr_len gs l []
  · simp
theorem impl_wrong_loop (gs : List S50) (hg : gs.length ≤ 1099511627776) (xs : List S27) (hb : xs.length ≤ 1099511627776) (hE : ∀ x ∈ xs, E1 x) : ∀ (s p : List S27) (out : List Int), xs = p ++ s → out.length ≤ p.length →
    Ev (fun k => impl_WatchWrong.l0 k gs xs out xs (xs.length : Int) (p.length : Int)) (out ++ wr gs p s) := by
  intro s
  induction s with
  | nil => intro p out hx ho; refine ev_succ ?_; simp only [impl_WatchWrong.l0]; exact ev_neg (by subst hx; simp) (ev_const (by simp [wr]))
  | cons x s ih =>
    intro p out hx ho; refine ev_succ ?_
    have hp : p.length + 1 ≤ 1099511627776 := by subst hx; simp at hb; omega
    have htk : xs.take ((p.length : Int)).toNat = p := by subst hx; simp
    simp only [impl_WatchWrong.l0, rd27s hx, wlen hx hb, htk]
    rw [iwrong_ev gs hg p x (fun y hy => hE y (by subst hx; simp [hy])) (hE x (by subst hx; simp))]
    refine ev_pos (len_at hx) (ev_pos (by omega) (ev_pos (len_at hx) (ev_pos (by have := len_at hx; omega) (ev_some ?_))))
    rw [wr]
    refine ev_ite (fun h1 => ev_pos (by omega) ?_) (fun h1 => ?_)
    · rw [if_pos h1]; exact ev_eq (ih (p ++ [x]) _ (snoc_at hx) (by simp; omega)) (by simp)
    · rw [if_neg h1]; exact ih (p ++ [x]) _ (snoc_at hx) (by simp; omega)
theorem impl_wrong (gs : List S50) (hg : gs.length ≤ 1099511627776) (xs : List S27) (hb : xs.length ≤ 1099511627776) : Ev (fun k => impl_WatchWrong.f k gs xs) (wrongF gs xs) := by
  have no : ∀ t, t = true → Ev (fun k => impl_WatchWrong.j0 k gs xs [] t) [] := by
    intro t ht; refine ev_succ ?_; simp only [impl_WatchWrong.j0]; exact ev_pos ht (Ev.now _)
  unfold impl_WatchWrong.f wrongF
  simp only [Option.bind_some]
  refine Ev.bind (impl_gvalid gs hg) (ev_ite (fun h1 => Ev.bind (impl_valid xs hb) ?_) (fun h1 => ?_))
  · have h1' := of_decide_eq_true h1
    by_cases h2 : EValid xs
    · rw [if_pos ⟨h1', h2⟩]
      refine ev_succ ?_; simp only [impl_WatchWrong.j0]
      exact ev_neg (by simp [h2]) (ev_eq (impl_wrong_loop gs hg xs hb (fun x hx => (EOk.all h2.1 x hx).1) xs [] [] rfl (Nat.le_refl _)) (by simp))
    · rw [if_neg (fun z => h2 z.2)]; exact no _ (by simp [h2])
  · rw [if_neg (fun z => h1 (decide_eq_true z.1))]; exact no _ rfl
theorem spec_wrong_loop (gs : List S50) (hg : gs.length ≤ 1099511627776) (xs : List S27) (hb : xs.length ≤ 1099511627776) (hG : GValid gs) (hv : EValid xs) : ∀ (s p : List S27) (out : List Int), xs = p ++ s → out.length ≤ p.length →
    Ev (fun k => spec_WatchWrong.l0 k gs xs out (p.length : Int)) (out ++ wr gs p s) := by
  intro s
  induction s with
  | nil =>
    intro p out hx ho; refine ev_succ ?_; simp only [spec_WatchWrong.l0]
    refine ev_neg (by subst hx; simp) (ev_succ ?_); simp only [spec_WatchWrong.j1]; exact ev_neg (by simp) (ev_const (by simp [wr]))
  | cons x s ih =>
    intro p out hx ho; refine ev_succ ?_
    have hp : p.length + 1 ≤ 1099511627776 := by subst hx; simp at hb; omega
    simp only [spec_WatchWrong.l0]
    refine ev_pos (len_at hx) (Ev.bind (spec_valid xs hb) (ev_pos (decide_eq_true hv) (Ev.bind (spec_gvalid gs hg) (ev_succ ?_))))
    simp only [spec_WatchWrong.j1, wlen hx hb]
    refine ev_pos (decide_eq_true hG) (Ev.bind (swrong_ev gs hg xs hb hv p x s hx) ?_)
    rw [wr]
    refine ev_ite (fun h1 => ev_pos (by omega) ?_) (fun h1 => ?_)
    · rw [if_pos h1]; exact ev_eq (ih (p ++ [x]) _ (snoc_at hx) (by simp; omega)) (by simp)
    · rw [if_neg h1]; exact ih (p ++ [x]) _ (snoc_at hx) (by simp; omega)
theorem spec_wrong (gs : List S50) (hg : gs.length ≤ 1099511627776) (xs : List S27) (hb : xs.length ≤ 1099511627776) : Ev (fun k => spec_WatchWrong.f k gs xs) (wrongF gs xs) := by
  unfold spec_WatchWrong.f
  by_cases hv : GValid gs ∧ EValid xs
  · rw [wrongF, if_pos hv]; exact spec_wrong_loop gs hg xs hb hv.1 hv.2 xs [] [] rfl (Nat.le_refl _)
  · rw [wrongF, if_neg hv]
    have no : Ev (fun k => spec_WatchWrong.j1 k gs xs [] 0 false) [] := by
      refine ev_succ ?_; simp only [spec_WatchWrong.j1]; exact ev_neg (by simp) (Ev.now _)
    refine ev_succ ?_; simp only [spec_WatchWrong.l0]
    refine ev_ite (fun _ => Ev.bind (spec_valid xs hb) (ev_ite (fun h2 => Ev.bind (spec_gvalid gs hg) ?_) (fun h2 => no))) (fun _ => no)
    rw [decide_eq_false (fun h1 => hv ⟨h1, of_decide_eq_true h2⟩)]; exact no
theorem eqInt_loop (xs : List Int) (hb : xs.length ≤ 1099511627776) : ∀ (s p : List Int), xs = p ++ s → Ev (fun k => laws_eqIntS.l0 k xs xs (p.length : Int)) true := by
  intro s
  induction s with
  | nil => intro p hx; refine ev_succ ?_; simp only [laws_eqIntS.l0]; exact ev_neg (by subst hx; simp) (Ev.now _)
  | cons x s ih =>
    intro p hx; refine ev_succ ?_
    simp only [laws_eqIntS.l0, rds hx, wlen hx hb, if_true]
    exact ev_pos (len_at hx) (ev_pos (by omega) (ev_pos (len_at hx) (ih (p ++ [x]) (snoc_at hx))))
theorem eqInt_ev (xs : List Int) (hb : xs.length ≤ 1099511627776) : Ev (fun k => laws_eqIntS.f k xs xs) true := by
  unfold laws_eqIntS.f
  exact ev_pos rfl (eqInt_loop xs hb xs [] rfl)
def run (q : Int) : Nat → List Int
  | 0 => []
  | n + 1 => q :: run (q + 1) n
theorem run_len : ∀ (n : Nat) (q : Int), (run q n).length = n
  | 0, _ => rfl
  | n + 1, q => by simp [run, run_len n]
theorem mark_loop : ∀ (s p : List Int) (q : Int), 0 ≤ q → q + s.length ≤ 4611686018427387904 → p.length + s.length ≤ 1099511627776 →
    Ev (fun k => laws_markIntS.l0 k (p ++ s) q (p.length : Int)) (q + s.length, p ++ run q s.length) := by
  intro s
  induction s with
  | nil => intro p q h0 h1 h2; refine ev_succ ?_; simp only [laws_markIntS.l0]; exact ev_neg (by simp) (ev_const (by simp [run]))
  | cons x s ih =>
    intro p q h0 h1 h2; refine ev_succ ?_
    simp only [List.length_cons] at h1 h2
    simp only [laws_markIntS.l0]
    refine ev_pos (by simp; omega) (ev_pos (by omega) ?_)
    have e1 : ((p.length : Int)).toNat = p.length := by simp
    rw [e1, set_at, w64 (x := q + 1) (by omega) (by omega), w64 (x := (p.length : Int) + 1) (by omega) (by omega)]
    have h3 := ih (p ++ [q]) (q + 1) (by omega) (by omega) (by simp; omega)
    have e2 : ((p ++ [q]).length : Int) = (p.length : Int) + 1 := by simp
    rw [e2] at h3
    have e3 : p ++ [q] ++ s = p ++ q :: s := by simp
    rw [e3] at h3
    refine ev_eq h3 ?_
    simp [run]; omega
theorem mark_ev (s : List Int) (q : Int) (h0 : 0 ≤ q) (h1 : q ≤ 1099511627776) (h2 : s.length ≤ 1099511627776) : Ev (fun k => laws_markIntS.f k s q) (q + s.length, run q s.length) :=
  mark_loop s [] q h0 (by omega) (by simp; omega)
theorem held_loop (xs : List Int) (hb : xs.length ≤ 1099511627776) : ∀ (n : Nat) (p : List Int) (q : Int), 0 ≤ q → q + n ≤ 4611686018427387904 → xs = p ++ run q n →
    Ev (fun k => laws_heldIntS.l0 k xs q (p.length : Int)) (q + n) := by
  intro n
  induction n with
  | zero => intro p q h0 h1 hx; refine ev_succ ?_; simp only [laws_heldIntS.l0]; exact ev_neg (by subst hx; simp [run]) (ev_const (by simp))
  | succ n ih =>
    intro p q h0 h1 hx; refine ev_succ ?_
    have hx' : xs = p ++ q :: run (q + 1) n := hx
    simp only [laws_heldIntS.l0, rds hx', wlen hx' hb, if_true]
    refine ev_pos (len_at hx') (ev_pos (by omega) ?_)
    rw [w64 (x := q + 1) (by omega) (by omega)]
    exact ev_eq (ih (p ++ [q]) (q + 1) (by omega) (by omega) (snoc_at hx')) (by omega)
theorem held_ev (n : Nat) (q : Int) (h0 : 0 ≤ q) (h1 : q ≤ 1099511627776) (h2 : n ≤ 1099511627776) : Ev (fun k => laws_heldIntS.f k (run q n) q) (q + n) :=
  held_loop (run q n) (by rw [run_len]; exact h2) n [] q h0 (by omega) rfl
end Go.Proofs.Ytnhenfmegpjigaa.BEv
/- WatchWrong returns what the reference's returns, for all arguments. No condition beyond the statement's own. -/
namespace Go.Proofs.Ytnhenfmegpjigaa.Pure
open Go.RowKit Go.Proofs.Ytnhenfmegpjigaa.PEv Go.Proofs.Ytnhenfmegpjigaa.BEv Go.Proofs.YtnhenfmegpjigaaW.PrintWords Go.Proofs.YtnhenfmegpjigaaW.PrintLast Go.Proofs.YtnhenfmegpjigaaW.PrintMore
set_option linter.unusedVariables false
set_option linter.unusedSimpArgs false
theorem FnExactWatchWrong : laws_FnExactWatchWrong.Pure := by
  intro a l hma hm
  have hm' : l.length ≤ 9223372036854775807 := by unfold maxLen at hm; exact hm
  have hma' : a.length ≤ 9223372036854775807 := by unfold maxLen at hma; exact hma
  refine Ev.rounds ?_
  unfold laws_FnExactWatchWrong.f
  rcases szG_ev a 1048576 hma' (by omega) with ⟨hla, e⟩ | e
  · rw [e]; simp only [Option.bind_some]
    refine ev_neg (by omega) ?_
    rcases sz_ev l (1048576 - (a.length : Int)) hm' (by omega) with ⟨hl, e⟩ | e
    · rw [e]; simp only [Option.bind_some]
      refine ev_neg (by omega) ?_
      have hb : (l.map conv).length ≤ 1099511627776 := by simp; omega
      have hg : (a.map convG).length ≤ 1099511627776 := by simp; omega
      have ht := to_ev l (by omega)
      have hta := toG_ev a (by omega)
      have ho : (wrongF (a.map convG) (l.map conv)).length ≤ 1048576 := by have := wrong_len (a.map convG) (l.map conv); simp at this; omega
      have eo := eqInt_ev (wrongF (a.map convG) (l.map conv)) (by omega)
      have mo := mark_ev (wrongF (a.map convG) (l.map conv)) 1 (by omega) (by omega) (by omega)
      have hh := held_ev (wrongF (a.map convG) (l.map conv)).length 1 (by omega) (by omega) (by omega)
      have hS := spec_wrong _ hg _ hb
      have hI := impl_wrong _ hg _ hb
      obtain ⟨r0, ys0, hr0, hr0e, hk0⟩ := markG_ev (a.map convG) 1 (by omega) (by omega) hg
      have hr0b : r0 ≤ 1099511627776 := by simp at hr0e; omega
      obtain ⟨r, ys, hr, _, hk⟩ := markE_ev (l.map conv) r0 hr0 hr0b hb
      refine Ev.bind hta (Ev.bind ht (Ev.bind hS (Ev.bind hta (Ev.bind ht (Ev.bind hI (Ev.bind eo (ev_pos rfl (Ev.bind hta (Ev.bind (eqG_ev _ hg) (ev_pos rfl (Ev.bind ht (Ev.bind (eq_ev _ hb) (ev_pos rfl (Ev.bind hk0 (Ev.bind hk ?_)))))))))))))))
      refine ev_neg (by simp; omega) (Ev.bind eo (ev_succ ?_))
      simp only [laws_FnExactWatchWrong.j0]
      refine ev_neg (by simp) (Ev.bind mo (Ev.bind hh (ev_neg (by omega) (ev_pos rfl (Ev.bind hta (Ev.bind ht (Ev.bind hI (Ev.bind eo (ev_pos rfl (Ev.bind hh (ev_neg (by omega) (ev_pos rfl (Ev.now _)))))))))))))
    · rw [e]; simp only [Option.bind_some]; exact ev_pos (by omega) (Ev.now _)
  · rw [e]; simp only [Option.bind_some]; exact ev_pos (by omega) (Ev.now _)
end Go.Proofs.Ytnhenfmegpjigaa.Pure
namespace Go.Proofs.Ytnhenfmegpjigaa.Op
open Go.RowKit Go.Proofs.YtnhenfmegpjigaaW.PrintWords Go.ChangeShapes Go.WideShapes Go.Deep
set_option linter.unusedVariables false
def Opens {α : Type} (P : Program) (d : Kd α) (e : TypeId) : Prop :=
  ∀ (H : Type) (enc : TypeId × Value → H) (w : World) (base : Nat) (spare : Nat → Bool) (held : Bool) (fuel : Nat) (cs : List Value) (x : DataW H × List MemPlace),
    DataW.trod enc P w base spare held fuel e cs = some x → ∃ a : α, d.K w a cs
theorem opens_int {P : Program} {k : IntKind} {e : TypeId} (ht : P.underlying e = some (.int k)) : Opens P (Kd.int k) e := by
  intro H enc w base spare held fuel cs x h
  obtain ⟨n, rfl, _, _⟩ := DataW.trod_int ht h
  exact ⟨n, rfl⟩
theorem list_of {α : Type} {Q : Nat → α → Prop} : ∀ n : Nat, (∀ i, i < n → ∃ y, Q i y) → ∃ xs : List α, xs.length = n ∧ ∀ i p, xs[i]? = some p → Q i p
  | 0, _ => ⟨[], rfl, fun i p h => by simp at h⟩
  | n + 1, h => by
    obtain ⟨xs, hl, hx⟩ := list_of n (fun i hi => h i (by omega))
    obtain ⟨y, hy⟩ := h n (by omega)
    refine ⟨xs ++ [y], by simp [hl], fun i p hp => ?_⟩
    by_cases hi : i < n
    · rw [List.getElem?_append_left (by omega)] at hp; exact hx i p hp
    · rw [List.getElem?_append_right (by omega)] at hp
      by_cases e : i = n
      · subst e; rw [hl, Nat.sub_self] at hp; simp at hp; subst hp; exact hy
      · have : i - xs.length = (i - xs.length - 1) + 1 := by omega
        rw [this] at hp; simp at hp
theorem opens_row {α : Type} {P : Program} {d : Kd α} {t e : TypeId} (ht : P.underlying t = some (.slice e)) (hC : P.cellsOf e = d.sz) (hd : Opens P d e)
    {H : Type} {enc : TypeId × Value → H} {w : World} {base : Nat} {spare : Nat → Bool} {held : Bool} {fuel : Nat} {cs : List Value} {x : DataW H × List MemPlace}
    (h : DataW.trod enc P w base spare held fuel t cs = some x) : ∃ (A : Option Addr) (xs : List α) (c : Nat), cs = [.slice A xs.length c] ∧ xs.length ≤ c ∧ xs.length ≤ maxLen ∧ d.C w A xs.length xs := by
  rcases open_slice ht h with ⟨rfl, _⟩ | ⟨a, len, cap, m, n, D, Pl, rfl, _, hl, hm, hmm, _, hi⟩
  · exact ⟨none, [], 0, rfl, Nat.le_refl _, Nat.zero_le _, rfl, by simp, fun h => absurd h (Nat.lt_irrefl 0)⟩
  · have hlm : len ≤ m := by rw [hmm]; split <;> omega
    obtain ⟨xs, hlen, hx⟩ := list_of (Q := fun i (y : α) => ∃ cs', w.cells? base (a.add (i * P.cellsOf e)) (P.cellsOf e) = some cs' ∧ d.K w y cs') len (fun i hlt => by
      obtain ⟨cs', hc, ht'⟩ := hi i (by omega)
      obtain ⟨y, hy⟩ := hd _ _ _ _ _ _ _ _ _ ht'
      exact ⟨y, cs', hc, hy⟩)
    subst hlen
    have hmx : xs.length ≤ maxLen := by omega
    refine ⟨some a, xs, cap, rfl, hl, hmx, rfl, by unfold maxLen at hmx; exact hmx, fun _ => ⟨a, rfl, fun j p hj => ?_⟩⟩
    obtain ⟨cs', hc, hK⟩ := hx j p hj
    obtain ⟨_, hcl, hat⟩ := World.cells?_some hc
    have hs := d.K_len hK
    refine ⟨cs', hs, hK, fun i u hu => ?_⟩
    have hil : i < P.cellsOf e := by
      rw [hC, ← hs]; exact (List.getElem?_eq_some_iff.1 hu).1
    have := hat i hil
    rw [← hu, ← this, Go.Deep.add_add, hC]
def OpensL {α : Type} (P : Program) (d : Kd α) (ts : List TypeId) : Prop :=
  ∀ (H : Type) (enc : TypeId × Value → H) (w : World) (base : Nat) (spare : Nat → Bool) (held : Bool) (fuel : Nat) (cs : List Value), cs.length = ts.length →
    (∀ i t, ts[i]? = some t → ∃ y, DataW.trod enc P w base spare held fuel t ((cs.drop i).take 1) = some y) → ∃ a : α, d.K w a cs
theorem opensL_one {α : Type} {P : Program} {d : Kd α} {t : TypeId} (h : Opens P d t) : OpensL P d [t] := by
  intro H enc w base spare held fuel cs hl hf
  obtain ⟨y, hy⟩ := hf 0 t rfl
  match cs, hl with
  | [c], _ => exact h _ _ _ _ _ _ _ _ _ hy
theorem opensL_cons {α β : Type} {P : Program} {d : Kd α} {d' : Kd β} {t : TypeId} {ts : List TypeId} (h : Opens P d t) (hl : OpensL P d' ts) : OpensL P (Kd.pair d d') (t :: ts) := by
  intro H enc w base spare held fuel cs hlen hf
  match cs, hlen with
  | c :: cs, hlen =>
    obtain ⟨y, hy⟩ := hf 0 t rfl
    obtain ⟨a, ha⟩ := h _ _ _ _ _ _ _ _ _ hy
    obtain ⟨b, hb⟩ := hl H enc w base spare held fuel cs (by simpa using hlen) (fun i t' ht' => hf (i + 1) t' (by simpa using ht'))
    exact ⟨(a, b), [c], cs, rfl, by simpa using ha, hb⟩
theorem opens_struct {α β : Type} {P : Program} {d : Kd α} {f : β → α} {g : α → β} {t : TypeId} {fs : Array Field} {ts : List TypeId} (hfg : ∀ a, f (g a) = a) (ht : P.underlying t = some (.struct fs)) (hone : oneCellFields P fs = true) (hC : P.cellsOf t = ts.length)
    (hts : fs.toList.map (·.type) = ts) (hl : OpensL P d ts) : Opens P (Kd.iso d f) t := by
  intro H enc w base spare held fuel cs x h
  obtain ⟨ys, n, _, _, hlen, hyl, hf⟩ := DataW.trod_struct ht h
  have key : ∃ a : α, d.K w a cs := by
    refine hl H enc w base spare held n cs (by rw [hlen, hC]) (fun i t' ht' => ?_)
    have hlt : i < ts.length := (List.getElem?_eq_some_iff.1 ht').1
    have hfl : fs.size = ts.length := by rw [← hts]; simp
    have hfi : fs[i]? = some (fs[i]'(by omega)) := Array.getElem?_eq_getElem (by omega)
    obtain ⟨ho, hk⟩ := hone_of hone i _ hfi
    have he : (fs[i]'(by omega)).type = t' := by
      have : (fs.toList.map (·.type))[i]? = some t' := by rw [hts]; exact ht'
      rw [List.getElem?_map, Array.getElem?_toList, hfi] at this
      simpa using this
    have h1 := hf i _ hfi
    rw [ho, hk, he] at h1
    have hyi : ys[i]? = some (ys[i]'(by omega)) := List.getElem?_eq_getElem (by omega)
    exact ⟨_, h1.trans hyi⟩
  obtain ⟨a, ha⟩ := key
  exact ⟨g a, by show d.K w (f (g a)) cs; rw [hfg]; exact ha⟩
end Go.Proofs.Ytnhenfmegpjigaa.Op

