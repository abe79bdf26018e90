import Derived.Test.YtnhenfmegpjigaaVKWMore
import Derived.Test.YtnhenfmegpjigaaVKWNEv
import Derived.Laws.BitsLemmas
import Derived.Test.YtnhenfmegpjigaaVKPEvx4
import Derived.Test.YtnhenfmegpjigaaVKPEvx5
import Derived.Test.YtnhenfmegpjigaaVKPEvx6
import Derived.Test.YtnhenfmegpjigaaVKPEvx15
import Derived.Test.YtnhenfmegpjigaaVKPEvx16
import Derived.Test.YtnhenfmegpjigaaVKPEvx17
import Derived.Test.YtnhenfmegpjigaaVKPEvx1
import Derived.Test.YtnhenfmegpjigaaVKPEvx3
import Derived.Test.YtnhenfmegpjigaaVKPEvx10
import Derived.Test.YtnhenfmegpjigaaVKPEvx14
import Derived.Test.YtnhenfmegpjigaaVKPEvx20
import Derived.Test.YtnhenfmegpjigaaVKPEvx21
import Derived.Test.YtnhenfmegpjigaaVKPEvx22
import Derived.Test.YtnhenfmegpjigaaVKPEvx25
import Derived.Test.YtnhenfmegpjigaaVKPEvx26
import Derived.Test.YtnhenfmegpjigaaVKPEvx27
import Derived.Test.YtnhenfmegpjigaaVKPEvx23
import Derived.Test.YtnhenfmegpjigaaVKPEvx24
import Derived.Test.YtnhenfmegpjigaaVKPEvx28
import Derived.Test.YtnhenfmegpjigaaVKPEvx29
import Derived.Test.YtnhenfmegpjigaaVKPEvx34
namespace Go.Proofs.Ytnhenfmegpjigaa.BEv
open Go.RowKit Go.Proofs.YtnhenfmegpjigaaW.PrintWords Go.Proofs.YtnhenfmegpjigaaW.PrintLast Go.Proofs.YtnhenfmegpjigaaW.PrintMore
set_option linter.unusedVariables false
set_option linter.unusedSimpArgs false
theorem ev_succ {α : Type} {g : Nat → Option α} {r : α} (h : Ev (fun k => g (k + 1)) r) : Ev g r := Ev.step (fun _ => rfl) h
theorem ev_const {α : Type} {r s : α} (h : r = s) : Ev (fun _ => some r) s := by subst h; exact Ev.now r
theorem ev_pos {α : Type} {c : Prop} [Decidable c] {a b : Nat → Option α} {r : α} (hc : c) (h : Ev a r) : Ev (fun k => if c then a k else b k) r :=
  Ev.congr (fun k => if_pos hc) h
theorem ev_neg {α : Type} {c : Prop} [Decidable c] {a b : Nat → Option α} {r : α} (hc : ¬ c) (h : Ev b r) : Ev (fun k => if c then a k else b k) r :=
  Ev.congr (fun k => if_neg hc) h
theorem ev_ite {α : Type} {c : Prop} [Decidable c] {a b : Nat → Option α} {r : α} (h1 : c → Ev a r) (h2 : ¬ c → Ev b r) : Ev (fun k => if c then a k else b k) r := by
  by_cases hc : c
  · exact ev_pos hc (h1 hc)
  · exact ev_neg hc (h2 hc)
theorem ev_eq {α : Type} {g : Nat → Option α} {r s : α} (h : Ev g r) (e : r = s) : Ev g s := e ▸ h
theorem ev_some {α β : Type} {f : Nat → α → Option β} {a : α} {r : β} (h : Ev (fun n => f n a) r) : Ev (fun n => (some a).bind (f n)) r := h
theorem w64 {x : Int} (h0 : -9223372036854775808 ≤ x) (h1 : x ≤ 9223372036854775807) : wrap64 x = x := by unfold wrap64; omega
theorem getD_at {α : Type} (p : List α) (x : α) (q : List α) (d : α) : (p ++ x :: q).getD p.length d = x := by simp [List.getD]
theorem rd_at (p : List Int) (x : Int) (q : List Int) : rd (p ++ x :: q) (p.length : Int) = x := getD_at p x q 0
theorem rd_lt (l : List Int) (i : Int) (h0 : 0 ≤ i) (h1 : i < l.length) : rd l i ∈ l := by
  unfold rd; rw [List.getD_eq_getElem?_getD, List.getElem?_eq_getElem (by omega)]; exact List.getElem_mem _
theorem rds {xs p : List Int} {x : Int} {q : List Int} (h : xs = p ++ x :: q) : rd xs (p.length : Int) = x := by subst h; exact rd_at p x q
theorem len_at {α : Type} {xs p : List α} {x : α} {q : List α} (h : xs = p ++ x :: q) : (p.length : Int) < (xs.length : Int) := by subst h; simp; omega
theorem snoc_at {α : Type} {xs p : List α} {x : α} {q : List α} (h : xs = p ++ x :: q) : xs = (p ++ [x]) ++ q := by subst h; simp
theorem wlen {α : Type} {xs p : List α} {x : α} {q : List α} (h : xs = p ++ x :: q) (hb : xs.length ≤ 1099511627776) : wrap64 ((p.length : Int) + 1) = ((p ++ [x]).length : Int) := by
  subst h; rw [w64 (by omega) (by simp at hb; omega)]; simp
end Go.Proofs.Ytnhenfmegpjigaa.BEv
namespace Go.Proofs.Ytnhenfmegpjigaa.BEv
open Go.RowKit Go.Proofs.Ytnhenfmegpjigaa.PEv Go.Proofs.YtnhenfmegpjigaaW.PrintWords Go.Proofs.YtnhenfmegpjigaaW.PrintLast Go.Proofs.YtnhenfmegpjigaaW.PrintMore
set_option linter.unusedVariables false
set_option linter.unusedSimpArgs false
theorem in_ev (a b c : Int) : spec_l6In.f a b c = some (decide (b ≤ a ∧ a ≤ c)) := by
  unfold spec_l6In.f
  by_cases h : a ≥ b
  · rw [if_pos h]; simp; omega
  · rw [if_neg h]; simp; omega
theorem within_ev (a b c : Int) : impl_within.f a b c = some (decide (b ≤ a ∧ a ≤ c)) := by
  unfold impl_within.f
  by_cases h : a ≥ b
  · rw [if_pos h]; simp; omega
  · rw [if_neg h]; simp; omega
theorem minute_ev (a : Int) : impl_isMinute.f a = some (decide (0 ≤ a ∧ a ≤ 1439)) := by unfold impl_isMinute.f; rw [within_ev]; rfl
theorem set_ev (a : Int) : impl_isSet.f a = some (decide (0 ≤ a ∧ a ≤ 255)) := by unfold impl_isSet.f; rw [within_ev]; rfl
theorem id_ev (a : Int) : impl_isId.f a = some (decide (1 ≤ a ∧ a ≤ 20)) := by unfold impl_isId.f; rw [within_ev]; rfl
theorem kind_ev (a : Int) : impl_isKind.f a = some (decide (1 ≤ a ∧ a ≤ 5)) := by unfold impl_isKind.f; rw [within_ev]; rfl
theorem sset_ev (a : Int) : spec_l3Set.f a = some (decide (0 ≤ a ∧ a ≤ 255)) := by unfold spec_l3Set.f; rw [in_ev]; rfl
def E1 (x : S27) : Prop := (0 ≤ x.f1 ∧ x.f1 ≤ 1439) ∧ (1 ≤ x.f2 ∧ x.f2 ≤ 20)
def E2 (x : S27) : Prop := (x.f0 = 1 ∧ x.f3 = 0 ∧ (0 ≤ x.f4 ∧ x.f4 ≤ 255) ∧ (1 ≤ x.f5 ∧ x.f5 ≤ 5)) ∨ (x.f0 = 2 ∧ (1 ≤ x.f3 ∧ x.f3 ≤ 99) ∧ x.f4 = 0 ∧ x.f5 = 0) ∨ (x.f0 = 3 ∧ x.f3 = 0 ∧ x.f4 = 0 ∧ x.f5 = 0)
instance (x : S27) : Decidable (E1 x) := by unfold E1; infer_instance
instance (x : S27) : Decidable (E2 x) := by unfold E2; infer_instance
def notAfter (q : Option Int) (m : Int) : Prop := match q with | none => True | some y => y ≤ m
instance (q : Option Int) (m : Int) : Decidable (notAfter q m) := by unfold notAfter; cases q <;> infer_instance
def EOk : Option Int → List S27 → Prop
  | _, [] => True
  | q, x :: r => E1 x ∧ E2 x ∧ notAfter q x.f1 ∧ EOk (some x.f1) r
def decEOk : (q : Option Int) → (l : List S27) → Decidable (EOk q l)
  | _, [] => isTrue trivial
  | q, x :: r => by
    unfold EOk
    have := decEOk (some x.f1) r
    infer_instance
instance (q : Option Int) (l : List S27) : Decidable (EOk q l) := decEOk q l
def EValid (l : List S27) : Prop := EOk none l ∧ (l.length : Int) ≤ 24
instance (l : List S27) : Decidable (EValid l) := by unfold EValid; infer_instance
def Last (p : List S27) (q : Option Int) : Prop := (p = [] ∧ q = none) ∨ ∃ p' y, p = p' ++ [y] ∧ q = some y.f1
theorem last_snoc (p : List S27) (x : S27) : Last (p ++ [x]) (some x.f1) := .inr ⟨p, x, rfl, rfl⟩
theorem rd27s {xs p : List S27} {x : S27} {q : List S27} (h : xs = p ++ x :: q) : rd_T27 xs (p.length : Int) = x := by subst h; exact getD_at p x q z27
theorem dec_eq {p q : Prop} [Decidable p] [Decidable q] (h : p ↔ q) : decide p = decide q := by simp [h]
theorem eventValid_ev (x : S27) : Ev (fun k => impl_eventValid.f k x.f0 x.f1 x.f2 x.f3 x.f4 x.f5) (decide (E1 x ∧ E2 x)) := by
  have h0 : ∀ b : Bool, b = true → Ev (fun k => impl_eventValid.j0 k b x.f0 x.f1 x.f2 x.f3 x.f4 x.f5) false := by
    intro b hb; refine ev_succ ?_; simp only [impl_eventValid.j0]; exact ev_pos hb (Ev.now _)
  have h1 : Ev (fun k => impl_eventValid.j0 k false x.f0 x.f1 x.f2 x.f3 x.f4 x.f5) (decide (E2 x)) := by
    refine ev_succ ?_; simp only [impl_eventValid.j0, set_ev, kind_ev, within_ev, Option.bind_some]
    refine ev_neg (by simp) (ev_ite (fun k1 => ?_) (fun k1 => ev_ite (fun k2 => ?_) (fun k2 => ev_ite (fun k3 => ?_) (fun k3 => ?_))))
    · refine ev_ite (fun a => ev_ite (fun b => ev_const ?_) (fun b => ev_const ?_)) (fun a => ev_const ?_) <;> clear h0 <;> (rw [Bool.eq_iff_iff]; (try simp only [decide_eq_true_eq, beq_iff_eq, Bool.false_eq_true, false_iff] at *); simp only [E2]; omega)
    · refine ev_ite (fun a => ev_ite (fun b => ev_const ?_) (fun b => ev_const ?_)) (fun a => ev_const ?_) <;> clear h0 <;> (rw [Bool.eq_iff_iff]; (try simp only [decide_eq_true_eq, beq_iff_eq, Bool.false_eq_true, false_iff] at *); simp only [E2]; omega)
    · refine ev_ite (fun a => ev_ite (fun b => ev_const ?_) (fun b => ev_const ?_)) (fun a => ev_const ?_) <;> clear h0 <;> (rw [Bool.eq_iff_iff]; (try simp only [decide_eq_true_eq, beq_iff_eq, Bool.false_eq_true, false_iff] at *); simp only [E2]; omega)
    · refine ev_const ?_; clear h0; (rw [Bool.eq_iff_iff]; (try simp only [decide_eq_true_eq, beq_iff_eq, Bool.false_eq_true, false_iff] at *); simp only [E2]; omega)
  unfold impl_eventValid.f
  simp only [minute_ev, id_ev, Option.bind_some]
  refine ev_ite (fun a => ?_) (fun a => ev_eq (h0 true rfl) ?_)
  · by_cases hb : 1 ≤ x.f2 ∧ x.f2 ≤ 20
    · have e : (!decide (1 ≤ x.f2 ∧ x.f2 ≤ 20)) = false := by simp [hb]
      rw [e]; refine ev_eq h1 (dec_eq ⟨fun h => ⟨⟨of_decide_eq_true a, hb⟩, h⟩, fun h => h.2⟩)
    · refine ev_eq (h0 _ (by simp [hb])) ?_
      symm; exact decide_eq_false (fun h => hb h.1.2)
  · symm; exact decide_eq_false (fun h => a (decide_eq_true h.1.1))
theorem impl_ev_loop (xs : List S27) (hb : xs.length ≤ 1099511627776) : ∀ (s p : List S27) (q : Option Int), xs = p ++ s → Last p q →
    Ev (fun k => impl_EventsValid.l0 k xs xs (xs.length : Int) (p.length : Int)) (decide (EOk q s ∧ (xs.length : Int) ≤ 24)) := by
  intro s
  induction s with
  | nil =>
    intro p q hx hq; refine ev_succ ?_; simp only [impl_EventsValid.l0]
    exact ev_neg (by subst hx; simp) (ev_const (dec_eq (by simp [EOk])))
  | cons x s ih =>
    intro p q hx hq; refine ev_succ ?_
    simp only [impl_EventsValid.l0, rd27s hx, wlen hx hb]
    refine ev_pos (len_at hx) (ev_pos (by omega) (ev_pos (len_at hx) (Ev.bind (eventValid_ev x) ?_)))
    have hi := ih (p ++ [x]) (some x.f1) (snoc_at hx) (last_snoc p x)
    refine ev_ite (fun h1 => ?_) (fun h1 => ev_const ?_)
    · have h1' := of_decide_eq_true h1
      rcases hq with ⟨rfl, rfl⟩ | ⟨p', y, rfl, rfl⟩
      · refine ev_neg (by simp) (ev_eq hi (dec_eq ?_))
        simp only [EOk, notAfter]; exact ⟨fun h => ⟨⟨h1'.1, h1'.2, trivial, h.1⟩, h.2⟩, fun h => ⟨h.1.2.2.2, h.2⟩⟩
      · have e1 : wrap64 (((p' ++ [y]).length : Int) - 1) = (p'.length : Int) := by
          rw [w64 (by omega) (by subst hx; simp at hb ⊢; omega)]; simp
        have e2 : rd_T27 xs (p'.length : Int) = y := rd27s (q := x :: s) (by subst hx; simp)
        rw [e1, e2]
        refine ev_pos (by simp <;> omega) (ev_pos (by omega) (ev_pos (by subst hx; simp <;> omega) (ev_ite (fun h3 => ev_const ?_) (fun h3 => ev_eq hi (dec_eq ?_)))))
        · symm; refine decide_eq_false (fun h => ?_)
          have := h.1.2.2.1; simp only [notAfter] at this; omega
        · simp only [EOk, notAfter]; exact ⟨fun h => ⟨⟨h1'.1, h1'.2, by omega, h.1⟩, h.2⟩, fun h => ⟨h.1.2.2.2, h.2⟩⟩
    · symm; refine decide_eq_false (fun h => h1 (decide_eq_true ⟨h.1.1, h.1.2.1⟩))
theorem impl_valid (xs : List S27) (hb : xs.length ≤ 1099511627776) : Ev (fun k => impl_EventsValid.f k xs) (decide (EValid xs)) :=
  ev_eq (impl_ev_loop xs hb xs [] none rfl (.inl ⟨rfl, rfl⟩)) rfl
theorem spec_j1_true (xs : List S27) (i : Int) (x : S27) : Ev (fun k => spec_EventsValid.j1 k xs i true x.f0 x.f1 x.f2 x.f3 x.f4 x.f5) false := by
  refine ev_succ ?_; simp only [spec_EventsValid.j1]; exact ev_pos (by simp) (Ev.now _)
theorem spec_j1 (xs : List S27) (i : Int) (x : S27) (b : Bool) (hi : Ev (fun k => spec_EventsValid.l0 k xs (wrap64 (i + 1))) b) :
    Ev (fun k => spec_EventsValid.j1 k xs i false x.f0 x.f1 x.f2 x.f3 x.f4 x.f5) (decide (E2 x) && b) := by
  have yes : E2 x → Ev (fun k => spec_EventsValid.l0 k xs (wrap64 (i + 1))) (decide (E2 x) && b) := fun h => ev_eq hi (by simp [h])
  have no : ¬ E2 x → Ev (fun _ => some false) (decide (E2 x) && b) := fun h => ev_const (by simp [h])
  refine ev_succ ?_; simp only [spec_EventsValid.j1, sset_ev, in_ev, Option.bind_some]
  refine ev_neg (by simp) (ev_ite (fun k1 => ?_) (fun k1 => ev_ite (fun k2 => ?_) (fun k2 => ev_ite (fun k3 => ?_) (fun k3 => ?_))))
  · refine ev_ite (fun a => ev_ite (fun c => ev_ite (fun d => yes ?_) (fun d => no ?_)) (fun c => no ?_)) (fun a => no ?_) <;> (clear yes no hi; (try simp only [decide_eq_true_eq, beq_iff_eq, Bool.false_eq_true, false_iff] at *); simp only [E2]; omega)
  · refine ev_ite (fun a => ev_ite (fun c => ev_ite (fun d => yes ?_) (fun d => no ?_)) (fun c => no ?_)) (fun a => no ?_) <;> (clear yes no hi; (try simp only [decide_eq_true_eq, beq_iff_eq, Bool.false_eq_true, false_iff] at *); simp only [E2]; omega)
  · refine ev_ite (fun a => ev_ite (fun c => ev_ite (fun d => yes ?_) (fun d => no ?_)) (fun c => no ?_)) (fun a => no ?_) <;> (clear yes no hi; (try simp only [decide_eq_true_eq, beq_iff_eq, Bool.false_eq_true, false_iff] at *); simp only [E2]; omega)
  · refine no ?_; clear yes no hi; simp only [E2]; omega
theorem spec_ev_loop (xs : List S27) (hb : xs.length ≤ 1099511627776) : ∀ (s p : List S27) (q : Option Int), xs = p ++ s → Last p q →
    Ev (fun k => spec_EventsValid.l0 k xs (p.length : Int)) (decide (EOk q s ∧ (xs.length : Int) ≤ 24)) := by
  intro s
  induction s with
  | nil =>
    intro p q hx hq; refine ev_succ ?_; simp only [spec_EventsValid.l0]
    exact ev_neg (by subst hx; simp) (ev_const (dec_eq (by simp [EOk])))
  | cons x s ih =>
    intro p q hx hq; refine ev_succ ?_
    simp only [spec_EventsValid.l0, rd27s hx, in_ev, Option.bind_some]
    refine ev_pos (len_at hx) (ev_pos (by omega) ?_)
    have hi := ih (p ++ [x]) (some x.f1) (snoc_at hx) (last_snoc p x)
    have hj := spec_j1 xs (p.length : Int) x _ (by rw [wlen hx hb]; exact hi)
    refine ev_ite (fun h1 => ev_ite (fun h2 => ?_) (fun h2 => ev_eq (spec_j1_true xs _ x) ?_)) (fun h1 => ev_eq (spec_j1_true xs _ x) ?_)
    · have h1' : E1 x := ⟨of_decide_eq_true h1, of_decide_eq_true h2⟩
      rcases hq with ⟨rfl, rfl⟩ | ⟨p', y, rfl, rfl⟩
      · refine ev_neg (by simp) (ev_eq hj ?_)
        by_cases h3 : E2 x
        · rw [decide_eq_true h3, Bool.true_and]; refine dec_eq ?_
          simp only [EOk, notAfter]; exact ⟨fun h => ⟨⟨h1', h3, trivial, h.1⟩, h.2⟩, fun h => ⟨h.1.2.2.2, h.2⟩⟩
        · rw [decide_eq_false h3, Bool.false_and]; symm; exact decide_eq_false (fun h => h3 h.1.2.1)
      · have e1 : wrap64 (((p' ++ [y]).length : Int) - 1) = (p'.length : Int) := by
          rw [w64 (by omega) (by subst hx; simp at hb ⊢; omega)]; simp
        have e2 : rd_T27 xs (p'.length : Int) = y := rd27s (q := x :: s) (by subst hx; simp)
        rw [e1, e2]
        refine ev_pos (by simp <;> omega) (ev_pos (by omega) (ev_pos (by subst hx; simp <;> omega) ?_))
        by_cases h4 : y.f1 > x.f1
        · rw [decide_eq_true h4]; refine ev_eq (spec_j1_true xs _ x) ?_
          symm; refine decide_eq_false (fun h => ?_)
          have := h.1.2.2.1; simp only [notAfter] at this; omega
        · rw [decide_eq_false h4]; refine ev_eq hj ?_
          by_cases h3 : E2 x
          · rw [decide_eq_true h3, Bool.true_and]; refine dec_eq ?_
            simp only [EOk, notAfter]; exact ⟨fun h => ⟨⟨h1', h3, by omega, h.1⟩, h.2⟩, fun h => ⟨h.1.2.2.2, h.2⟩⟩
          · rw [decide_eq_false h3, Bool.false_and]; symm; exact decide_eq_false (fun h => h3 h.1.2.1)
    · symm; exact decide_eq_false (fun h => h2 (decide_eq_true h.1.1.2))
    · symm; exact decide_eq_false (fun h => h1 (decide_eq_true h.1.1.1))
theorem spec_valid (xs : List S27) (hb : xs.length ≤ 1099511627776) : Ev (fun k => spec_EventsValid.f k xs) (decide (EValid xs)) :=
  ev_eq (spec_ev_loop xs hb xs [] none rfl (.inl ⟨rfl, rfl⟩)) rfl
def lk (b : Int) : List S27 → Option S27
  | [] => none
  | x :: r => if isMk b x then some x else lk b r
theorem go_lk (b : Int) : ∀ l : List S27, impl_made.go b l = match lk b l with | none => (0, 0, 0, 0, 0, 0, false) | some x => (x.f0, x.f1, x.f2, x.f3, x.f4, x.f5, x.f0 == 1)
  | [] => rfl
  | x :: r => by
    rw [impl_made.go, lk]
    by_cases h : isMk b x
    · rw [if_pos h, if_pos h]
    · rw [if_neg h, if_neg h]; exact go_lk b r
theorem lk_mem (b : Int) : ∀ (l : List S27) (x : S27), lk b l = some x → x ∈ l
  | [], x, h => by simp [lk] at h
  | y :: r, x, h => by
    rw [lk] at h
    by_cases hm : isMk b y
    · rw [if_pos hm] at h; cases h; simp
    · rw [if_neg hm] at h; exact List.mem_cons_of_mem _ (lk_mem b r x h)
def there (pre : List S27) (m b : Int) : Bool := match lk b pre.reverse with | none => false | some x => decide (x.f0 = 1 ∧ m - x.f1 ≤ 120)
def opn (pre : List S27) (m : Int) : Nat → Int → List Int
  | 0, _ => []
  | n + 1, b => if there pre m b = true then b :: opn pre m n (b + 1) else opn pre m n (b + 1)
theorem opn_len (pre : List S27) (m : Int) : ∀ n b, (opn pre m n b).length ≤ n
  | 0, b => by simp [opn]
  | n + 1, b => by have := opn_len pre m n (b + 1); rw [opn]; split <;> simp <;> omega
def manyF (m : Int) : List S27 → Nat
  | [] => 0
  | x :: r => if x.f1 ≤ m then manyF m r + 1 else 0
theorem many_le (m : Int) : ∀ l, manyF m l ≤ l.length
  | [] => by simp [manyF]
  | x :: r => by have := many_le m r; rw [manyF]; split <;> simp <;> omega
def openF (l : List S27) (m : Int) : List Int := if EValid l ∧ (0 ≤ m ∧ m ≤ 1439) then opn (l.take (manyF m l)) m 20 1 else []
theorem EOk.all : ∀ {q : Option Int} {l : List S27}, EOk q l → ∀ x ∈ l, E1 x ∧ E2 x
  | _, [], _, x, h => by cases h
  | q, y :: r, hh, x, h => by
    rcases List.mem_cons.1 h with rfl | h
    · exact ⟨hh.1, hh.2.1⟩
    · exact EOk.all hh.2.2.2 x h
theorem impl_many (xs : List S27) (hb : xs.length ≤ 1099511627776) (m : Int) (out r : List Int) : ∀ (s p : List S27), xs = p ++ s → Ev (fun k => impl_WatchOpen.j2 k xs m out ((p.length + manyF m s : Nat) : Int)) r → Ev (fun k => impl_WatchOpen.l0 k xs m out (p.length : Int)) r := by
  intro s
  induction s with
  | nil => intro p hx hr; refine ev_succ ?_; simp only [impl_WatchOpen.l0]; exact ev_neg (by subst hx; simp) (by simpa [manyF] using hr)
  | cons x s ih =>
    intro p hx hr; refine ev_succ ?_
    simp only [impl_WatchOpen.l0, rd27s hx, wlen hx hb]
    refine ev_pos (len_at hx) (ev_pos (by omega) (ev_ite (fun h => ih (p ++ [x]) (snoc_at hx) ?_) (fun h => ?_)))
    · rw [manyF, if_pos h] at hr
      have e : (p ++ [x]).length + manyF m s = p.length + (manyF m s + 1) := by simp; omega
      rw [e]; exact hr
    · rw [manyF, if_neg h] at hr; exact hr
theorem impl_open_loop (xs : List S27) (hv : EValid xs) (m : Int) (hm : 0 ≤ m ∧ m ≤ 1439) (n : Nat) (hn : n ≤ xs.length) : ∀ (d : Nat) (b : Int) (out : List Int), b + d = 21 → 1 ≤ b → (out.length : Int) ≤ b →
    Ev (fun k => impl_WatchOpen.l1 k xs m out (n : Int) b) (out ++ opn (xs.take n) m d b) := by
  intro d
  induction d with
  | zero => intro b out hb h1 ho; refine ev_succ ?_; simp only [impl_WatchOpen.l1]; exact ev_neg (by omega) (ev_const (by simp [opn]))
  | succ d ih =>
    intro b out hb h1 ho; refine ev_succ ?_
    simp only [impl_WatchOpen.l1, impl_made.f, Option.bind_some, go_lk]
    rw [w64 (x := b + 1) (by omega) (by omega), opn, there]
    have e : ((n : Int)).toNat = n := by simp
    rw [e]
    refine ev_pos (by omega) (ev_pos (by omega) (ev_pos (by omega) ?_))
    have hmem := lk_mem b (xs.take n).reverse
    cases hl : lk b (xs.take n).reverse with
    | none => exact ev_neg (by simp) (ev_eq (ih (b + 1) out (by omega) (by omega) (by omega)) (by simp))
    | some x =>
      have hx := EOk.all hv.1 x (List.mem_of_mem_take (List.mem_reverse.1 (hmem x hl)))
      have h2 := hx.1.1
      dsimp only
      rw [w64 (x := m - x.f1) (by omega) (by omega)]
      refine ev_ite (fun h3 => ev_ite (fun h4 => ev_pos (by omega) (ev_eq (ih (b + 1) (out ++ [b]) (by omega) (by omega) (by simp; omega)) ?_)) (fun h4 => ev_eq (ih (b + 1) out (by omega) (by omega) (by omega)) ?_)) (fun h3 => ev_eq (ih (b + 1) out (by omega) (by omega) (by omega)) ?_)
      · have h5 : x.f0 = 1 := by simpa using h3
        rw [if_pos (decide_eq_true ⟨h5, h4⟩)]; simp
      · rw [if_neg (by simp only [decide_eq_true_eq]; exact fun z => h4 z.2)]
      · have h5 : ¬ x.f0 = 1 := by simpa using h3
        rw [if_neg (by simp only [decide_eq_true_eq]; exact fun z => h5 z.1)]
def Inv (l : List S27) (b : Int) (p : List S27) (out : Int) : Prop := match lk b p.reverse with
  | none => out = -1
  | some x => (x.f0 = 1 → 0 ≤ out ∧ out < (p.length : Int) ∧ rd_T27 l out = x) ∧ (x.f0 ≠ 1 → out = -1)
theorem made_loop (xs : List S27) (hb : xs.length ≤ 1099511627776) (hv : EValid xs) (b : Int) (n : Nat) (hn : n ≤ xs.length) : ∀ (s p : List S27) (out : Int), xs.take n = p ++ s → Inv xs b p out →
    ∃ r, Ev (fun k => spec_l43Made.l0 k xs (n : Int) b out (p.length : Int)) r ∧ Inv xs b (xs.take n) r := by
  intro s
  induction s with
  | nil =>
    intro p out hx hi
    have hp : p.length = n := by have := congrArg List.length hx; simp at this; omega
    refine ⟨out, ev_succ ?_, by rw [hx]; simpa using hi⟩
    simp only [spec_l43Made.l0]; exact ev_neg (by omega) (Ev.now _)
  | cons x s ih =>
    intro p out hx hi
    have hx2 : xs = p ++ x :: (s ++ xs.drop n) := by
      have e := (List.take_append_drop n xs).symm
      rw [hx] at e
      exact e.trans (by simp)
    have hpn : p.length < n := by have := congrArg List.length hx; simp at this; omega
    have hE := (EOk.all hv.1 x (by rw [hx2]; simp)).2
    have erev : (p ++ [x]).reverse = x :: p.reverse := by simp
    have hstep : ∀ out', Inv xs b (p ++ [x]) out' → (∀ r, Ev (fun k => spec_l43Made.l0 k xs (n : Int) b out' ((p ++ [x]).length : Int)) r → Ev (fun k => spec_l43Made.l0 (k + 1) xs (n : Int) b out (p.length : Int)) r) →
        ∃ r, Ev (fun k => spec_l43Made.l0 k xs (n : Int) b out (p.length : Int)) r ∧ Inv xs b (xs.take n) r := by
      intro out' h1 h2
      obtain ⟨r, h3, h4⟩ := ih (p ++ [x]) out' (by rw [hx]; simp) h1
      exact ⟨r, ev_succ (h2 r h3), h4⟩
    by_cases hbx : x.f2 = b
    · by_cases h1 : x.f0 = 1
      · refine hstep (p.length : Int) ?_ (fun r hr => ?_)
        · unfold Inv; rw [erev, lk, if_pos ⟨hbx, by omega⟩]
          exact ⟨fun _ => ⟨by omega, by simp; omega, rd27s hx2⟩, fun h => absurd h1 h⟩
        · simp only [spec_l43Made.l0, rd27s hx2, wlen hx2 hb]
          exact ev_pos (by omega) (ev_pos (by omega) (ev_pos (by omega) (ev_pos hbx (ev_pos h1 hr))))
      · by_cases h3 : x.f0 = 3
        · refine hstep (-1) ?_ (fun r hr => ?_)
          · unfold Inv; rw [erev, lk, if_pos ⟨hbx, by omega⟩]
            exact ⟨fun h => absurd h h1, fun _ => rfl⟩
          · simp only [spec_l43Made.l0, rd27s hx2, wlen hx2 hb]
            exact ev_pos (by omega) (ev_pos (by omega) (ev_pos (by omega) (ev_pos hbx (ev_neg h1 (ev_pos h3 hr)))))
        · have h2 : x.f0 = 2 := by
            have hE' := hE
            simp only [E2] at hE'; omega
          refine hstep out ?_ (fun r hr => ?_)
          · unfold Inv at hi ⊢
            rw [erev, lk, if_neg (fun h => h.2 h2)]
            cases hl : lk b p.reverse with
            | none => rw [hl] at hi; exact hi
            | some y => rw [hl] at hi; exact ⟨fun h => ⟨(hi.1 h).1, by have := (hi.1 h).2.1; simp; omega, (hi.1 h).2.2⟩, hi.2⟩
          · simp only [spec_l43Made.l0, rd27s hx2, wlen hx2 hb]
            exact ev_pos (by omega) (ev_pos (by omega) (ev_pos (by omega) (ev_pos hbx (ev_neg h1 (ev_neg h3 hr)))))
    · refine hstep out ?_ (fun r hr => ?_)
      · unfold Inv at hi ⊢
        rw [erev, lk, if_neg (fun h => hbx h.1)]
        cases hl : lk b p.reverse with
        | none => rw [hl] at hi; exact hi
        | some y => rw [hl] at hi; exact ⟨fun h => ⟨(hi.1 h).1, by have := (hi.1 h).2.1; simp; omega, (hi.1 h).2.2⟩, hi.2⟩
      · simp only [spec_l43Made.l0, rd27s hx2, wlen hx2 hb]
        exact ev_pos (by omega) (ev_pos (by omega) (ev_pos (by omega) (ev_neg hbx hr)))
theorem impl_open (xs : List S27) (hb : xs.length ≤ 1099511627776) (m : Int) : Ev (fun k => impl_WatchOpen.f k xs m) (openF xs m) := by
  have no : ∀ t, t = true → Ev (fun k => impl_WatchOpen.j0 k xs m [] t) [] := by
    intro t ht; refine ev_succ ?_; simp only [impl_WatchOpen.j0]; exact ev_pos ht (Ev.now _)
  unfold impl_WatchOpen.f openF
  simp only [Option.bind_some, minute_ev]
  refine Ev.bind (impl_valid xs hb) (ev_ite (fun h1 => ?_) (fun h1 => ?_))
  · have h1' := of_decide_eq_true h1
    by_cases h2 : 0 ≤ m ∧ m ≤ 1439
    · rw [if_pos ⟨h1', h2⟩]
      refine ev_succ ?_; simp only [impl_WatchOpen.j0]
      refine ev_neg (by simp [h2]) (impl_many xs hb m [] _ xs [] rfl (ev_succ ?_))
      simp only [impl_WatchOpen.j2]
      have := impl_open_loop xs h1' m h2 (manyF m xs) (many_le m xs) 20 1 [] (by omega) (by omega) (by simp)
      simpa using this
    · rw [if_neg (fun z => h2 z.2)]; exact no _ (by simp [h2])
  · rw [if_neg (fun z => h1 (decide_eq_true z.1))]; exact no _ rfl
theorem open_len (l : List S27) (m : Int) : (openF l m).length ≤ 20 := by
  unfold openF; split
  · exact opn_len _ _ _ _
  · simp
theorem xor_nonneg (a b : Int) (ha : 0 ≤ a) (ha1 : a < 2 ^ 40) (hb : 0 ≤ b) (hb1 : b < 2 ^ 40) : 0 ≤ Go.bits .xor .i64 a b := by
  obtain ⟨a, rfl⟩ := Int.eq_ofNat_of_zero_le ha
  obtain ⟨b, rfl⟩ := Int.eq_ofNat_of_zero_le hb
  have ha' : a < 2 ^ 40 := by omega
  have hb' : b < 2 ^ 40 := by omega
  have e : Go.bits .xor .i64 (a : Int) (b : Int) = (((a ^^^ b : Nat)) : Int) := by
    have hx : a ^^^ b < 2 ^ 40 := Nat.xor_lt_two_pow ha' hb'
    have h1 : a % 2 ^ IntKind.i64.bits = a := Nat.mod_eq_of_lt (by show a < 2 ^ 64; omega)
    have h2 : b % 2 ^ IntKind.i64.bits = b := Nat.mod_eq_of_lt (by show b < 2 ^ 64; omega)
    simp only [Go.bits, BitVec.ofInt_natCast, BitVec.toNat_xor, BitVec.toNat_ofNat, h1, h2]
    rw [IntKind.wrap_i64]; omega
  rw [e]; exact Int.natCast_nonneg _
def Tape (s : List Int) : Prop := s.length ≤ 2000 ∧ ∀ x ∈ s, 0 ≤ x ∧ x ≤ 255
theorem tdiv_eq (a b : Int) (h : 0 ≤ a) : Int.tdiv a b = a / b := Int.tdiv_eq_ediv_of_nonneg h
theorem tmod_eq (a b : Int) (h : 0 ≤ a) : Int.tmod a b = a % b := Int.tmod_eq_emod_of_nonneg h
theorem tmod_lt (a b : Int) (h : 0 ≤ a) (hb : 0 < b) : 0 ≤ Int.tmod a b ∧ Int.tmod a b < b := by
  rw [tmod_eq a b h]; exact ⟨Int.emod_nonneg _ (by omega), Int.emod_lt_of_pos _ hb⟩
theorem pick_ev (s : List Int) (hs : Tape s) (p n : Int) (hp : 0 ≤ p) (hp1 : p ≤ 1073741824) (hn : 1 ≤ n) :
    ∃ v, 0 ≤ v ∧ v < n ∧ Ev (fun k => spec_l6Rd_pick.f k s p n) (v, p + 1) := by
  obtain ⟨hl, hb⟩ := hs
  have e1 : wrap64 (p + 1) = p + 1 := w64 (by omega) (by omega)
  have e2 : wrap64 (p + 1 - 1) = p := by rw [w64 (by omega) (by omega)]; omega
  have hneg : ¬ n < 1 := by omega
  by_cases h0 : s.length = 0
  · refine ⟨0, by omega, by omega, ?_⟩
    refine Ev.congr (f := fun k => spec_l6Rd_pick.j0 k n true s (p + 1)) (fun k => ?_) ?_
    · simp only [spec_l6Rd_pick.f, if_neg hneg, e1, h0]; rfl
    · refine ev_succ ?_
      simp only [spec_l6Rd_pick.j0, if_true]
      exact Ev.now _
  · have hlen : ((s.length : Int) == 0) = false := by simp; simpa using h0
    have key : ∃ v, 0 ≤ v ∧ v < n ∧ Ev (fun k => spec_l6Rd_pick.j0 k n false s (p + 1)) (v, p + 1) := by
      by_cases h1 : p < (s.length : Int)
      · have hm := hb _ (rd_lt s p hp h1)
        have e3 : wrap64 (rd s p) = rd s p := w64 (by omega) (by omega)
        obtain ⟨a, b⟩ := tmod_lt (rd s p) n hm.1 (by omega)
        refine ⟨_, a, b, ev_succ ?_⟩
        simp only [spec_l6Rd_pick.j0, e2, e3]
        refine ev_neg (by simp) (ev_pos h1 (ev_pos hp (ev_neg (by omega) (Ev.now _))))
      · have hL : (0 : Int) < s.length := by omega
        have q1 := tmod_lt p (s.length : Int) hp hL
        have e4 : wrap64 (p * 7) = p * 7 := w64 (by omega) (by omega)
        have e5 : wrap64 (p * 7 + 3) = p * 7 + 3 := w64 (by omega) (by omega)
        have q2 := tmod_lt (p * 7 + 3) (s.length : Int) (by omega) hL
        have m1 := hb _ (rd_lt s _ q1.1 q1.2)
        have m2 := hb _ (rd_lt s _ q2.1 q2.2)
        have hd : 0 ≤ p / (s.length : Int) ∧ p / (s.length : Int) ≤ p := ⟨Int.ediv_nonneg hp (by omega), Int.ediv_le_self _ hp⟩
        generalize hA : rd s (Int.tmod p (s.length : Int)) = A at m1
        generalize hB : rd s (Int.tmod (p * 7 + 3) (s.length : Int)) = B at m2
        generalize hD : p / (s.length : Int) = D at hd
        have eD : Int.tdiv p (s.length : Int) = D := by rw [tdiv_eq _ _ hp, hD]
        have f1 : wrap64 A = A := w64 (by omega) (by omega)
        have f2 : wrap64 (A * 131) = A * 131 := w64 (by omega) (by omega)
        have f3 : wrap64 B = B := w64 (by omega) (by omega)
        have f4 : wrap64 (B * 1117) = B * 1117 := w64 (by omega) (by omega)
        have f5 : wrap64 (A * 131 + B * 1117) = A * 131 + B * 1117 := w64 (by omega) (by omega)
        have f6 : wrap64 (p * 29) = p * 29 := w64 (by omega) (by omega)
        have f7 : wrap64 (A * 131 + B * 1117 + p * 29) = A * 131 + B * 1117 + p * 29 := w64 (by omega) (by omega)
        have f8 : wrap64 D = D := w64 (by omega) (by omega)
        have f9 : wrap64 (D * 53) = D * 53 := w64 (by omega) (by omega)
        have f10 : wrap64 (A * 131 + B * 1117 + p * 29 + D * 53) = A * 131 + B * 1117 + p * 29 + D * 53 := w64 (by omega) (by omega)
        generalize hX : A * 131 + B * 1117 + p * 29 + D * 53 = X at f10
        have hX0 : 0 ≤ X ∧ X < 2 ^ 40 := by omega
        have eX : Int.tdiv X 64 = X / 64 := tdiv_eq _ _ hX0.1
        have f11 : wrap64 (X / 64) = X / 64 := w64 (by omega) (by omega)
        have hx := xor_nonneg X (X / 64) hX0.1 hX0.2 (by omega) (by omega)
        obtain ⟨a, b⟩ := tmod_lt (Go.bits .xor .i64 X (X / 64)) n hx (by omega)
        refine ⟨_, a, b, ev_succ ?_⟩
        simp only [spec_l6Rd_pick.j0, e2, e4, e5, hA, hB, eD, f1, f2, f3, f4, f5, f6, f7, f8, f9, hX, f10, eX, f11]
        exact ev_neg (by simp) (ev_neg h1 (ev_neg (by omega) (ev_pos q1.1 (ev_pos q1.2 (ev_pos q2.1 (ev_pos q2.2 (ev_neg (by omega) (Ev.now _))))))))
    obtain ⟨v, a, b, h⟩ := key
    refine ⟨v, a, b, Ev.congr (fun k => ?_) h⟩
    simp only [spec_l6Rd_pick.f, if_neg hneg, e1, hlen]
theorem open_tape (l : List Int) (hl : ∀ x ∈ l, (Lit.int .u8 x).wf = true) : ∃ s, Tape s ∧ spec_l6Open.f l = some (s, 0) := by
  have hw : ∀ x ∈ l, 0 ≤ x ∧ x ≤ 255 := fun x hx => by
    have := hl x hx
    simp [Lit.wf, IntKind.min, IntKind.max, IntKind.signed, IntKind.bits] at this
    omega
  unfold spec_l6Open.f
  by_cases h : (l.length : Int) > 2000
  · rw [if_pos h, if_pos (by omega)]
    exact ⟨_, ⟨by simp; omega, fun x hx => hw x (List.mem_of_mem_take hx)⟩, rfl⟩
  · rw [if_neg h]
    exact ⟨l, ⟨by omega, hw⟩, rfl⟩
theorem p2le (a b : Nat) (h : a ≤ b) : (2 : Int) ^ a ≤ 2 ^ b := by
  have h1 := Nat.pow_le_pow_right (n := 2) (by omega) h
  have e : ∀ n : Nat, (2 : Int) ^ n = ((2 ^ n : Nat) : Int) := fun n => by simp
  rw [e, e]; omega
theorem weight_loop (n : Int) : ∀ (d : Nat) (x i : Int), 0 ≤ i → i + d = n → n ≤ 62 → 0 ≤ x → x * 2 ^ d ≤ 4611686018427387904 → Ev (fun k => spec_l3Weight.l0 k n x i) (x * 2 ^ d) := by
  intro d
  induction d with
  | zero => intro x i h0 h1 h2 h3 h4; refine ev_succ ?_; simp only [spec_l3Weight.l0]; exact ev_neg (by omega) (ev_const (by simp))
  | succ d ih =>
    intro x i h0 h1 h2 h3 h4; refine ev_succ ?_; simp only [spec_l3Weight.l0]
    have e : x * 2 ^ (d + 1) = 2 * x * 2 ^ d := by rw [Int.pow_succ, Int.mul_comm 2 x, Int.mul_assoc, Int.mul_comm 2 (2 ^ d)]
    have h5 : 2 * x ≤ 2 * x * 2 ^ d := by
      have : (1 : Int) ≤ 2 ^ d := by have := Int.pow_pos (n := 2) (m := d) (by omega); omega
      have := Int.mul_le_mul_of_nonneg_left this (show 0 ≤ 2 * x by omega)
      omega
    rw [e] at h4 ⊢
    rw [w64 (x := 2 * x) (by omega) (by omega), w64 (x := i + 1) (by omega) (by omega)]
    exact ev_pos (by omega) (ih (2 * x) (i + 1) (by omega) (by omega) h2 (by omega) h4)
theorem weight_ev (n : Nat) (h : n ≤ 8) : Ev (fun k => spec_l3Weight.f k (n : Int)) (2 ^ n) := by
  have h2 : (1 : Int) * 2 ^ n ≤ 4611686018427387904 := by
    have : (2 : Int) ^ n ≤ 2 ^ 8 := p2le n 8 h
    omega
  exact ev_eq (weight_loop n n 1 0 (by omega) (by omega) (by omega) (by omega) h2) (by simp)
theorem weight_ex (v : Int) (h0 : 0 ≤ v) (h : v < 8) : ∃ t, Ev (fun k => spec_l3Weight.f k v) t := by
  obtain ⟨n, rfl⟩ := Int.eq_ofNat_of_zero_le h0
  exact ⟨_, weight_ev n (by omega)⟩
theorem event_ev (s : List Int) (hs : BEv.Tape s) (p m : Int) (hp : 0 ≤ p) (hp1 : p ≤ 100000) :
    ∃ a b c d e f q, q ≤ p + 6 ∧ p ≤ q ∧ Ev (fun k => spec_l92Event.f k s p m) (a, b, c, d, e, f, q) := by
  obtain ⟨v1, x1, y1, g1⟩ := pick_ev s hs p 5 hp (by omega) (by omega)
  obtain ⟨v2, x2, y2, g2⟩ := pick_ev s hs (p + 1) 4 (by omega) (by omega) (by omega)
  obtain ⟨v3, x3, y3, g3⟩ := pick_ev s hs (p + 2) 5 (by omega) (by omega) (by omega)
  obtain ⟨v4, x4, y4, g4⟩ := pick_ev s hs (p + 3) 2 (by omega) (by omega) (by omega)
  obtain ⟨v5, x5, y5, g5⟩ := pick_ev s hs (p + 4) 8 (by omega) (by omega) (by omega)
  obtain ⟨v6, x6, y6, g6⟩ := pick_ev s hs (p + 2) 8 (by omega) (by omega) (by omega)
  have e1 : p + 1 + 1 = p + 2 := by omega
  have e2 : p + 2 + 1 = p + 3 := by omega
  have e3 : p + 3 + 1 = p + 4 := by omega
  rw [e1] at g2; rw [e2] at g3 g6; rw [e3] at g4
  have go : ∀ r : Int × Int × Int × Int × Int × Int × Int, Ev (fun k => spec_l92Event.f k s p m) r → r.2.2.2.2.2.2 ≤ p + 6 → p ≤ r.2.2.2.2.2.2 → ∃ a b c d e f q, q ≤ p + 6 ∧ p ≤ q ∧ Ev (fun k => spec_l92Event.f k s p m) (a, b, c, d, e, f, q) :=
    fun r h h1 h2 => ⟨_, _, _, _, _, _, _, h1, h2, h⟩
  by_cases k1 : rd [1, 2, 2, 2, 3] v1 = 1
  · by_cases k2 : v4 = 0
    · obtain ⟨t, ht⟩ := weight_ex v5 x5 y5
      refine go _ (ev_some (Ev.bind g1 (ev_pos x1 (ev_pos (by simpa using y1) (Ev.bind g2 (ev_pos k1 (Ev.bind g3 (Ev.bind g4 (ev_pos k2 (Ev.bind g5 (Ev.bind ht (Ev.now _)))))))))) )) ?_ ?_ <;> dsimp only <;> omega
    · refine go _ (ev_some (Ev.bind g1 (ev_pos x1 (ev_pos (by simpa using y1) (Ev.bind g2 (ev_pos k1 (Ev.bind g3 (Ev.bind g4 (ev_neg k2 (Ev.now _)))))))) )) ?_ ?_ <;> dsimp only <;> omega
  · by_cases k3 : rd [1, 2, 2, 2, 3] v1 = 2
    · refine go _ (ev_some (Ev.bind g1 (ev_pos x1 (ev_pos (by simpa using y1) (Ev.bind g2 (ev_neg k1 (ev_pos k3 (Ev.bind g6 (Ev.now _))))))) )) ?_ ?_ <;> dsimp only <;> omega
    · refine go _ (ev_some (Ev.bind g1 (ev_pos x1 (ev_pos (by simpa using y1) (Ev.bind g2 (ev_neg k1 (ev_neg k3 (Ev.now _)))))) )) ?_ ?_ <;> dsimp only <;> omega
theorem events_end (s : List Int) (hs : BEv.Tape s) (out : List S27) (n m i p : Int) (hn : n = out.length) (hn1 : out.length ≤ 25) (hi : ¬ i < n) (hp : 0 ≤ p) (hp1 : p ≤ 10000) :
    ∃ l q, l.length = out.length ∧ 0 ≤ q ∧ q ≤ p + 3 ∧ Ev (fun k => spec_l92Events.l0 k out n m i s p) (l, q) := by
  by_cases h0 : n > 0
  · obtain ⟨v1, x1, y1, g1⟩ := pick_ev s hs p n hp (by omega) (by omega)
    obtain ⟨v2, x2, y2, g2⟩ := pick_ev s hs (p + 1) 30 (by omega) (by omega) (by omega)
    obtain ⟨v3, x3, y3, g3⟩ := pick_ev s hs (p + 2) 2 (by omega) (by omega) (by omega)
    have e1 : p + 1 + 1 = p + 2 := by omega
    rw [e1] at g2
    have i1 : v1 < (out.length : Int) := by omega
    have go : ∀ (l : List S27) (q : Int), Ev (fun k => spec_l92Events.l0 (k + 1) out n m i s p) (l, q) → l.length = out.length → 0 ≤ q → q ≤ p + 3 → ∃ l q, l.length = out.length ∧ 0 ≤ q ∧ q ≤ p + 3 ∧ Ev (fun k => spec_l92Events.l0 k out n m i s p) (l, q) :=
      fun l q h h1 h2 h3 => ⟨l, q, h1, h2, h3, ev_succ h⟩
    by_cases k0 : v2 = 0
    · refine go _ _ (by simp only [spec_l92Events.l0]; exact ev_neg hi (ev_pos h0 (Ev.bind g1 (Ev.bind g2 (ev_pos k0 (Ev.bind g3 (ev_pos x1 (ev_pos i1 (Ev.now _))))))))) ?_ ?_ ?_
      · simp
      · dsimp only; omega
      · dsimp only; omega
    · by_cases k1 : v2 = 1
      · refine go _ _ (by simp only [spec_l92Events.l0]; exact ev_neg hi (ev_pos h0 (Ev.bind g1 (Ev.bind g2 (ev_neg k0 (ev_pos k1 (ev_pos x1 (ev_pos i1 (Ev.bind g3 (Ev.now _)))))))))) ?_ ?_ ?_
        · simp
        · dsimp only; omega
        · dsimp only; omega
      · by_cases k2 : v2 = 2
        · refine go _ _ (by simp only [spec_l92Events.l0]; exact ev_neg hi (ev_pos h0 (Ev.bind g1 (Ev.bind g2 (ev_neg k0 (ev_neg k1 (ev_pos k2 (ev_some (Ev.bind g3 (ev_pos x3 (ev_pos (by simpa using y3) (ev_pos x1 (ev_pos i1 (Ev.now _))))))))))))) ) ?_ ?_ ?_
          · simp
          · dsimp only; omega
          · dsimp only; omega
        · refine go _ _ (by simp only [spec_l92Events.l0]; exact ev_neg hi (ev_pos h0 (Ev.bind g1 (Ev.bind g2 (ev_neg k0 (ev_neg k1 (ev_neg k2 (Ev.now _)))))))) ?_ ?_ ?_
          · rfl
          · omega
          · omega
  · refine ⟨out, p, rfl, hp, by omega, ev_succ ?_⟩
    simp only [spec_l92Events.l0]
    exact ev_neg hi (ev_neg h0 (Ev.now _))
theorem events_loop (s : List Int) (hs : BEv.Tape s) (n : Nat) (hn : n ≤ 25) : ∀ (d : Nat) (out : List S27) (m p : Int), out.length + d = n → 0 ≤ p → p + 10 * d ≤ 9000 →
    ∃ l q, l.length = n ∧ 0 ≤ q ∧ q ≤ p + 10 * d + 3 ∧ Ev (fun k => spec_l92Events.l0 k out (n : Int) m (out.length : Int) s p) (l, q) := by
  intro d
  induction d with
  | zero =>
    intro out m p h1 h2 h3
    obtain ⟨l, q, a, b, c, h⟩ := events_end s hs out n m out.length p (by omega) (by omega) (by omega) h2 (by omega)
    exact ⟨l, q, by omega, b, by omega, h⟩
  | succ d ih =>
    intro out m p h1 h2 h3
    obtain ⟨a, b, c, d', e, f, q, hq1, hq2, hE⟩ := event_ev s hs p m h2 (by omega)
    obtain ⟨v, x1, y1, g1⟩ := pick_ev s hs q 40 (by omega) (by omega) (by omega)
    obtain ⟨l, q', r1, r2, r3, r4⟩ := ih (out ++ [⟨a, b, c, d', e, f⟩]) (wrap64 (m + v)) (q + 1) (by simp; omega) (by omega) (by omega)
    refine ⟨l, q', r1, r2, by omega, ev_succ ?_⟩
    simp only [spec_l92Events.l0]
    have ei : wrap64 ((out.length : Int) + 1) = ((out ++ [(⟨a, b, c, d', e, f⟩ : S27)]).length : Int) := by rw [w64 (by omega) (by omega)]; simp
    refine ev_pos (by omega) (Ev.bind hE (ev_pos (by omega) (Ev.bind g1 ?_)))
    dsimp only
    rw [ei]; exact r4
theorem events_ev (s : List Int) (hs : BEv.Tape s) (p : Int) (hp : 0 ≤ p) (hp1 : p ≤ 5000) : ∃ l q, l.length ≤ 25 ∧ 0 ≤ q ∧ q ≤ p + 300 ∧ Ev (fun k => spec_l92Events.f k s p) (l, q) := by
  obtain ⟨v1, x1, y1, g1⟩ := pick_ev s hs p 14 hp (by omega) (by omega)
  obtain ⟨v2, x2, y2, g2⟩ := pick_ev s hs (p + 1) 20 (by omega) (by omega) (by omega)
  obtain ⟨v3, x3, y3, g3⟩ := pick_ev s hs (p + 1 + 1) 2 (by omega) (by omega) (by omega)
  have key : ∀ (n : Nat) (q : Int), n ≤ 25 → 0 ≤ q → q ≤ p + 3 → ∃ l q', l.length ≤ 25 ∧ 0 ≤ q' ∧ q' ≤ p + 300 ∧ Ev (fun k => spec_l92Events.j0 k [] (n : Int) s q) (l, q') := by
    intro n q hn hq0 hq
    obtain ⟨v4, x4, y4, g4⟩ := pick_ev s hs q 200 hq0 (by omega) (by omega)
    obtain ⟨l, q', a, b, c, h⟩ := events_loop s hs n hn n [] v4 (q + 1) (by simp) (by omega) (by omega)
    refine ⟨l, q', by omega, b, by omega, ev_succ ?_⟩
    simp only [spec_l92Events.j0]
    exact Ev.bind g4 h
  unfold spec_l92Events.f
  by_cases k0 : v2 = 0
  · obtain ⟨l, q', a, b, c, h⟩ := key (24 + v3).toNat (p + 1 + 1 + 1) (by omega) (by omega) (by omega)
    refine ⟨l, q', a, b, c, ev_some (Ev.bind g1 (Ev.bind g2 (ev_pos k0 (Ev.bind g3 ?_))))⟩
    have e : wrap64 (24 + v3) = (((24 + v3).toNat : Nat) : Int) := by rw [w64 (by omega) (by omega)]; omega
    dsimp only; rw [e]; exact h
  · obtain ⟨l, q', a, b, c, h⟩ := key v1.toNat (p + 1 + 1) (by omega) (by omega) (by omega)
    refine ⟨l, q', a, b, c, ev_some (Ev.bind g1 (Ev.bind g2 (ev_neg k0 ?_)))⟩
    have e : v1 = ((v1.toNat : Nat) : Int) := by omega
    dsimp only; rw [← e] at h; exact h
theorem guest_loop (s : List Int) (hs : BEv.Tape s) (a b : Int) : ∀ (d : Nat) (i p c : Int), i + d = 8 → 0 ≤ i → 0 ≤ p → p + d ≤ 10000 →
    ∃ x y z q, p ≤ q ∧ q ≤ p + d + 2 ∧ Ev (fun k => spec_l91Guest.l0 k i s p a b c) (x, y, z, q) := by
  intro d
  induction d with
  | zero =>
    intro i p c h0 h1 h2 h3
    obtain ⟨v1, x1, y1, g1⟩ := pick_ev s hs p 60 h2 (by omega) (by omega)
    obtain ⟨v2, x2, y2, g2⟩ := pick_ev s hs (p + 1) 2 (by omega) (by omega) (by omega)
    obtain ⟨v3, x3, y3, g3⟩ := pick_ev s hs (p + 1) 3 (by omega) (by omega) (by omega)
    by_cases k0 : v1 = 0
    · refine ⟨a, wrap64 (v2 * 5), c, p + 1 + 1, by omega, by omega, ev_succ ?_⟩
      simp only [spec_l91Guest.l0]
      exact ev_neg (by omega) (Ev.bind g1 (ev_pos k0 (Ev.bind g2 (Ev.now _))))
    · by_cases k1 : v1 = 1
      · refine ⟨rd [0, 99, 100] v3, b, c, p + 1 + 1, by omega, by omega, ev_succ ?_⟩
        simp only [spec_l91Guest.l0]
        exact ev_neg (by omega) (Ev.bind g1 (ev_neg k0 (ev_pos k1 (ev_some (Ev.bind g3 (ev_pos x3 (ev_pos (by simpa using y3) (Ev.now _))))))))
      · refine ⟨a, b, c, p + 1, by omega, by omega, ev_succ ?_⟩
        simp only [spec_l91Guest.l0]
        exact ev_neg (by omega) (Ev.bind g1 (ev_neg k0 (ev_neg k1 (Ev.now _))))
  | succ d ih =>
    intro i p c h0 h1 h2 h3
    obtain ⟨v1, x1, y1, g1⟩ := pick_ev s hs p 6 h2 (by omega) (by omega)
    obtain ⟨t, ht⟩ := weight_ex i h1 (by omega)
    have e : wrap64 (i + 1) = i + 1 := w64 (by omega) (by omega)
    by_cases k0 : v1 = 0
    · obtain ⟨x, y, z, q, r1, r2, r3⟩ := ih (i + 1) (p + 1) (wrap64 (c + t)) (by omega) (by omega) (by omega) (by omega)
      refine ⟨x, y, z, q, by omega, by omega, ev_succ ?_⟩
      simp only [spec_l91Guest.l0, e]
      exact ev_pos (by omega) (Ev.bind g1 (ev_pos k0 (Ev.bind ht r3)))
    · obtain ⟨x, y, z, q, r1, r2, r3⟩ := ih (i + 1) (p + 1) c (by omega) (by omega) (by omega) (by omega)
      refine ⟨x, y, z, q, by omega, by omega, ev_succ ?_⟩
      simp only [spec_l91Guest.l0, e]
      exact ev_pos (by omega) (Ev.bind g1 (ev_neg k0 r3))
theorem guests_loop (s : List Int) (hs : BEv.Tape s) (n : Nat) (hn : n ≤ 11) : ∀ (d : Nat) (out : List S50) (p : Int), out.length + d = n → 0 ≤ p → p + 20 * d ≤ 9000 →
    ∃ l q, l.length = n ∧ 0 ≤ q ∧ q ≤ p + 20 * d ∧ Ev (fun k => spec_l91Guests.l0 k out (n : Int) (out.length : Int) s p) (l, q) := by
  intro d
  induction d with
  | zero => intro out p h1 h2 h3; refine ⟨out, p, by omega, h2, by omega, ev_succ ?_⟩; simp only [spec_l91Guests.l0]; exact ev_neg (by omega) (Ev.now _)
  | succ d ih =>
    intro out p h1 h2 h3
    obtain ⟨v1, x1, y1, g1⟩ := pick_ev s hs p 2 h2 (by omega) (by omega)
    obtain ⟨v2, x2, y2, g2⟩ := pick_ev s hs (p + 1) 4 (by omega) (by omega) (by omega)
    obtain ⟨x, y, z, q, q1, q2, q3⟩ := guest_loop s hs (wrap64 ((wrap64 ((wrap64 (2 * (out.length : Int))) + 1)) + v1)) (wrap64 (1 + v2)) 8 0 (p + 1 + 1) 0 (by omega) (by omega) (by omega) (by omega)
    obtain ⟨l, q', r1, r2, r3, r4⟩ := ih (out ++ [⟨x, y, z⟩]) q (by simp; omega) (by omega) (by omega)
    refine ⟨l, q', r1, r2, by omega, ev_succ ?_⟩
    simp only [spec_l91Guests.l0]
    have ei : wrap64 ((out.length : Int) + 1) = ((out ++ [(⟨x, y, z⟩ : S50)]).length : Int) := by rw [w64 (by omega) (by omega)]; simp
    refine ev_pos (by omega) (Ev.bind g1 (Ev.bind (Ev.bind g2 q3) (ev_pos (by omega) ?_)))
    dsimp only
    rw [ei]; exact r4
theorem guests_ev (s : List Int) (hs : BEv.Tape s) (p : Int) (hp : 0 ≤ p) (hp1 : p ≤ 5000) : ∃ l q, l.length ≤ 11 ∧ 0 ≤ q ∧ q ≤ p + 300 ∧ Ev (fun k => spec_l91Guests.f k s p) (l, q) := by
  obtain ⟨v1, x1, y1, g1⟩ := pick_ev s hs p 8 hp (by omega) (by omega)
  obtain ⟨v2, x2, y2, g2⟩ := pick_ev s hs (p + 1) 20 (by omega) (by omega) (by omega)
  obtain ⟨v3, x3, y3, g3⟩ := pick_ev s hs (p + 1 + 1) 2 (by omega) (by omega) (by omega)
  have key : ∀ (n : Nat) (q : Int), n ≤ 11 → 0 ≤ q → q ≤ p + 3 → ∃ l q', l.length ≤ 11 ∧ 0 ≤ q' ∧ q' ≤ p + 300 ∧ Ev (fun k => spec_l91Guests.j0 k [] (n : Int) s q) (l, q') := by
    intro n q hn hq0 hq
    obtain ⟨l, q', a, b, c, h⟩ := guests_loop s hs n hn n [] q (by simp) (by omega) (by omega)
    refine ⟨l, q', by omega, b, by omega, ev_succ ?_⟩
    simp only [spec_l91Guests.j0]
    exact h
  unfold spec_l91Guests.f
  by_cases k0 : v2 = 0
  · obtain ⟨l, q', a, b, c, h⟩ := key (10 + v3).toNat (p + 1 + 1 + 1) (by omega) (by omega) (by omega)
    refine ⟨l, q', a, b, c, ev_some (Ev.bind g1 (Ev.bind g2 (ev_pos k0 (Ev.bind g3 ?_))))⟩
    have e : wrap64 (10 + v3) = (((10 + v3).toNat : Nat) : Int) := by rw [w64 (by omega) (by omega)]; omega
    dsimp only; rw [e]; exact h
  · obtain ⟨l, q', a, b, c, h⟩ := key v1.toNat (p + 1 + 1) (by omega) (by omega) (by omega)
    refine ⟨l, q', a, b, c, ev_some (Ev.bind g1 (Ev.bind g2 (ev_neg k0 ?_)))⟩
    have e : v1 = ((v1.toNat : Nat) : Int) := by omega
    dsimp only; rw [← e] at h; exact h
theorem draw_wrong (l : List Int) (hl : ∀ x ∈ l, (Lit.int .u8 x).wf = true) : ∃ gs es, gs.length ≤ 11 ∧ es.length ≤ 25 ∧ Ev (fun k => spec_DrawWatchWrong.f k l) (gs, es) := by
  obtain ⟨s, hs, ho⟩ := open_tape l hl
  obtain ⟨gs, q, h1, h2, h3, h4⟩ := guests_ev s hs 0 (by omega) (by omega)
  obtain ⟨es, q', r1, r2, r3, r4⟩ := events_ev s hs q h2 (by omega)
  refine ⟨gs, es, h1, r1, ?_⟩
  simp only [spec_DrawWatchWrong.f, ho]
  exact ev_some (Ev.bind h4 (Ev.bind r4 (Ev.now _)))
def G1 (x : S50) : Prop := (1 ≤ x.f0 ∧ x.f0 ≤ 99) ∧ (1 ≤ x.f1 ∧ x.f1 ≤ 4) ∧ (0 ≤ x.f2 ∧ x.f2 ≤ 255)
instance (x : S50) : Decidable (G1 x) := by unfold G1; infer_instance
def above (q : Option Int) (m : Int) : Prop := match q with | none => True | some y => y < m
instance (q : Option Int) (m : Int) : Decidable (above q m) := by unfold above; cases q <;> infer_instance
def GOk : Option Int → List S50 → Prop
  | _, [] => True
  | q, x :: r => G1 x ∧ above q x.f0 ∧ GOk (some x.f0) r
def decGOk : (q : Option Int) → (l : List S50) → Decidable (GOk q l)
  | _, [] => isTrue trivial
  | q, x :: r => by
    unfold GOk
    have := decGOk (some x.f0) r
    infer_instance
instance (q : Option Int) (l : List S50) : Decidable (GOk q l) := decGOk q l
def GValid (l : List S50) : Prop := GOk none l ∧ (l.length : Int) ≤ 10
instance (l : List S50) : Decidable (GValid l) := by unfold GValid; infer_instance
def LastG (p : List S50) (q : Option Int) : Prop := (p = [] ∧ q = none) ∨ ∃ p' y, p = p' ++ [y] ∧ q = some y.f0
theorem lastG_snoc (p : List S50) (x : S50) : LastG (p ++ [x]) (some x.f0) := .inr ⟨p, x, rfl, rfl⟩
theorem rd50s {xs p : List S50} {x : S50} {q : List S50} (h : xs = p ++ x :: q) : rd_T50 xs (p.length : Int) = x := by subst h; exact getD_at p x q z50
theorem guestValid_ev (x : S50) : impl_guestValid.f x.f0 x.f1 x.f2 = some (decide (G1 x)) := by
  unfold impl_guestValid.f
  simp only [within_ev, set_ev, Option.bind_some]
  by_cases a : 1 ≤ x.f0 ∧ x.f0 ≤ 99
  · rw [if_pos (decide_eq_true a)]
    by_cases b : 1 ≤ x.f1 ∧ x.f1 ≤ 4
    · rw [if_pos (decide_eq_true b)]; congr 1; exact dec_eq ⟨fun h => ⟨a, b, h⟩, fun h => h.2.2⟩
    · rw [if_neg (by simpa using b), decide_eq_false (fun h => b h.2.1)]
  · rw [if_neg (by simpa using a), decide_eq_false (fun h => a h.1)]
theorem sguestValid_ev (x : S50) : spec_l12Guest.f x.f0 x.f1 x.f2 = some (decide (G1 x)) := by
  unfold spec_l12Guest.f
  simp only [in_ev, sset_ev, Option.bind_some]
  by_cases a : 1 ≤ x.f0 ∧ x.f0 ≤ 99
  · rw [if_pos (decide_eq_true a)]
    by_cases b : 1 ≤ x.f1 ∧ x.f1 ≤ 4
    · rw [if_pos (decide_eq_true b)]; congr 1; exact dec_eq ⟨fun h => ⟨a, b, h⟩, fun h => h.2.2⟩
    · rw [if_neg (by simpa using b), decide_eq_false (fun h => b h.2.1)]
  · rw [if_neg (by simpa using a), decide_eq_false (fun h => a h.1)]
theorem impl_g_loop (xs : List S50) (hb : xs.length ≤ 1099511627776) : ∀ (s p : List S50) (q : Option Int), xs = p ++ s → LastG p q →
    Ev (fun k => impl_GuestsValid.l0 k xs xs (xs.length : Int) (p.length : Int)) (decide (GOk q s ∧ (xs.length : Int) ≤ 10)) := by
  intro s
  induction s with
  | nil =>
    intro p q hx hq; refine ev_succ ?_; simp only [impl_GuestsValid.l0]
    exact ev_neg (by subst hx; simp) (ev_const (dec_eq (by simp [GOk])))
  | cons x s ih =>
    intro p q hx hq; refine ev_succ ?_
    simp only [impl_GuestsValid.l0, rd50s hx, wlen hx hb, guestValid_ev, Option.bind_some]
    refine ev_pos (len_at hx) (ev_pos (by omega) (ev_pos (len_at hx) ?_))
    have hi := ih (p ++ [x]) (some x.f0) (snoc_at hx) (lastG_snoc p x)
    refine ev_ite (fun h1 => ?_) (fun h1 => ev_const ?_)
    · have h1' := of_decide_eq_true h1
      rcases hq with ⟨rfl, rfl⟩ | ⟨p', y, rfl, rfl⟩
      · refine ev_neg (by simp) (ev_eq hi (dec_eq ?_))
        simp only [GOk, above]; exact ⟨fun h => ⟨⟨h1', trivial, h.1⟩, h.2⟩, fun h => ⟨h.1.2.2, h.2⟩⟩
      · have e1 : wrap64 (((p' ++ [y]).length : Int) - 1) = (p'.length : Int) := by
          rw [w64 (by omega) (by subst hx; simp at hb ⊢; omega)]; simp
        have e2 : rd_T50 xs (p'.length : Int) = y := rd50s (q := x :: s) (by subst hx; simp)
        rw [e1, e2]
        refine ev_pos (by simp <;> omega) (ev_pos (by omega) (ev_pos (by subst hx; simp <;> omega) (ev_ite (fun h3 => ev_const ?_) (fun h3 => ev_eq hi (dec_eq ?_)))))
        · symm; refine decide_eq_false (fun h => ?_)
          have := h.1.2.1; simp only [above] at this; omega
        · simp only [GOk, above]; exact ⟨fun h => ⟨⟨h1', by omega, h.1⟩, h.2⟩, fun h => ⟨h.1.2.2, h.2⟩⟩
    · symm; refine decide_eq_false (fun h => h1 (decide_eq_true h.1.1))
theorem impl_gvalid (xs : List S50) (hb : xs.length ≤ 1099511627776) : Ev (fun k => impl_GuestsValid.f k xs) (decide (GValid xs)) :=
  ev_eq (impl_g_loop xs hb xs [] none rfl (.inl ⟨rfl, rfl⟩)) rfl
theorem spec_g_loop (xs : List S50) (hb : xs.length ≤ 1099511627776) : ∀ (s p : List S50) (q : Option Int), xs = p ++ s → LastG p q →
    Ev (fun k => spec_GuestsValid.l0 k xs (p.length : Int)) (decide (GOk q s ∧ (xs.length : Int) ≤ 10)) := by
  intro s
  induction s with
  | nil =>
    intro p q hx hq; refine ev_succ ?_; simp only [spec_GuestsValid.l0]
    exact ev_neg (by subst hx; simp) (ev_const (dec_eq (by simp [GOk])))
  | cons x s ih =>
    intro p q hx hq; refine ev_succ ?_
    simp only [spec_GuestsValid.l0, rd50s hx, wlen hx hb, sguestValid_ev, Option.bind_some]
    refine ev_pos (len_at hx) (ev_pos (by omega) ?_)
    have hi := ih (p ++ [x]) (some x.f0) (snoc_at hx) (lastG_snoc p x)
    refine ev_ite (fun h1 => ?_) (fun h1 => ev_const ?_)
    · have h1' := of_decide_eq_true h1
      rcases hq with ⟨rfl, rfl⟩ | ⟨p', y, rfl, rfl⟩
      · refine ev_neg (by simp) (ev_eq hi (dec_eq ?_))
        simp only [GOk, above]; exact ⟨fun h => ⟨⟨h1', trivial, h.1⟩, h.2⟩, fun h => ⟨h.1.2.2, h.2⟩⟩
      · have e1 : wrap64 (((p' ++ [y]).length : Int) - 1) = (p'.length : Int) := by
          rw [w64 (by omega) (by subst hx; simp at hb ⊢; omega)]; simp
        have e2 : rd_T50 xs (p'.length : Int) = y := rd50s (q := x :: s) (by subst hx; simp)
        rw [e1, e2]
        refine ev_pos (by simp <;> omega) (ev_pos (by omega) (ev_pos (by subst hx; simp <;> omega) (ev_ite (fun h3 => ev_const ?_) (fun h3 => ev_eq hi (dec_eq ?_)))))
        · symm; refine decide_eq_false (fun h => ?_)
          have := h.1.2.1; simp only [above] at this; omega
        · simp only [GOk, above]; exact ⟨fun h => ⟨⟨h1', by omega, h.1⟩, h.2⟩, fun h => ⟨h.1.2.2, h.2⟩⟩
    · symm; refine decide_eq_false (fun h => h1 (decide_eq_true h.1.1))
theorem spec_gvalid (xs : List S50) (hb : xs.length ≤ 1099511627776) : Ev (fun k => spec_GuestsValid.f k xs) (decide (GValid xs)) :=
  ev_eq (spec_g_loop xs hb xs [] none rfl (.inl ⟨rfl, rfl⟩)) rfl
def dietP (d c : Int) : Prop := (1 ≤ c ∧ c ≤ 5) ∧ (d = 1 ∨ (d = 2 ∧ c ≠ 5) ∨ (d = 3 ∧ c ≠ 5 ∧ c ≠ 4) ∨ (d = 4 ∧ c = 1))
instance (d c : Int) : Decidable (dietP d c) := by unfold dietP; infer_instance
theorem diet_ev (d c : Int) : impl_DietAllows.f d c = some (decide (dietP d c)) := by
  unfold impl_DietAllows.f
  simp only [kind_ev, Option.bind_some]
  by_cases a : 1 ≤ c ∧ c ≤ 5
  · rw [if_pos (decide_eq_true a)]
    by_cases h1 : d = 1
    · rw [if_pos h1, decide_eq_true (show dietP d c from ⟨a, .inl h1⟩)]
    · rw [if_neg h1]
      by_cases h2 : d = 2
      · rw [if_pos h2]; congr 1; rw [Bool.eq_iff_iff]; simp only [bne_iff_ne, decide_eq_true_eq]; simp only [dietP]; omega
      · rw [if_neg h2]
        by_cases h3 : d = 3
        · rw [if_pos h3]
          by_cases h5 : c = 5
          · rw [if_pos h5, decide_eq_false (fun h : dietP d c => by simp only [dietP] at h; omega)]
          · rw [if_neg h5]; congr 1; rw [Bool.eq_iff_iff]; simp only [bne_iff_ne, decide_eq_true_eq]; simp only [dietP]; omega
        · rw [if_neg h3]
          by_cases h4 : d = 4
          · rw [if_pos h4]; congr 1; rw [Bool.eq_iff_iff]; simp only [beq_iff_eq, decide_eq_true_eq]; simp only [dietP]; omega
          · rw [if_neg h4, decide_eq_false (fun h : dietP d c => by simp only [dietP] at h; omega)]
  · rw [if_neg (by simpa using a), decide_eq_false (fun h : dietP d c => a h.1)]
theorem sdiet_ev (d c : Int) : spec_DietAllows.f d c = some (decide (dietP d c)) := by
  unfold spec_DietAllows.f
  simp only [in_ev, Option.bind_some]
  by_cases b : 1 ≤ d ∧ d ≤ 4
  · rw [if_pos (decide_eq_true b)]
    by_cases a : 1 ≤ c ∧ c ≤ 5
    · rw [if_pos (decide_eq_true a)]
      unfold spec_l12Last.f
      simp only [Option.bind_some]
      rw [if_pos (by omega), if_pos (by simp; omega)]
      simp only [Option.bind_some]
      have h : d = 1 ∨ d = 2 ∨ d = 3 ∨ d = 4 := by omega
      congr 1; refine dec_eq ?_
      rcases h with rfl | rfl | rfl | rfl <;> simp only [dietP, rd] <;> simp <;> omega
    · rw [if_neg (by simpa using a), decide_eq_false (fun h : dietP d c => a h.1)]
  · rw [if_neg (by simpa using b), decide_eq_false (fun h : dietP d c => by simp only [dietP] at h; omega)]
def meetS (n m : Nat) : Nat → Nat → Int
  | _, 0 => 0
  | i, d + 1 => (if n.testBit i && m.testBit i then 2 ^ i else 0) + meetS n m (i + 1) d
theorem meetS_nonneg (n m : Nat) : ∀ d i, 0 ≤ meetS n m i d
  | 0, i => Int.le_refl _
  | d + 1, i => by
    have := meetS_nonneg n m d (i + 1)
    have h2 : (0 : Int) < 2 ^ i := Int.pow_pos (by omega)
    rw [meetS]; split <;> omega
theorem meetS_zero (n m : Nat) : ∀ d i, meetS n m i d = 0 ↔ ∀ j, i ≤ j → j < i + d → (n.testBit j && m.testBit j) = false
  | 0, i => by simp [meetS]; intro j h1 h2; omega
  | d + 1, i => by
    have ih := meetS_zero n m d (i + 1)
    have h0 := meetS_nonneg n m d (i + 1)
    have h2 : (0 : Int) < 2 ^ i := Int.pow_pos (by omega)
    rw [meetS]
    constructor
    · intro h j h3 h4
      by_cases hb : (n.testBit i && m.testBit i) = true
      · rw [if_pos hb] at h; omega
      · rw [if_neg hb] at h
        by_cases e : j = i
        · subst e; simpa using hb
        · exact ih.1 (by omega) j (by omega) (by omega)
    · intro h
      rw [if_neg (by rw [h i (Nat.le_refl _) (by omega)]; simp), ih.2 (fun j h3 h4 => h j (by omega) (by omega))]; rfl
theorem meet_and (n m : Nat) (hn : n < 256) : meetS n m 0 8 = 0 ↔ n &&& m = 0 := by
  rw [meetS_zero]
  constructor
  · intro h
    refine Nat.eq_of_testBit_eq (fun i => ?_)
    rw [Nat.testBit_and, Nat.zero_testBit]
    by_cases hi : i < 8
    · exact h i (Nat.zero_le _) (by omega)
    · have : n.testBit i = false := Nat.testBit_lt_two_pow (Nat.lt_of_lt_of_le hn (show 2 ^ 8 ≤ 2 ^ i from Nat.pow_le_pow_right (by omega) (by omega)))
      rw [this]; rfl
  · intro h j h1 h2
    rw [← Nat.testBit_and, h, Nat.zero_testBit]
theorem bits_and (n m : Nat) (hn : n < 256) (hm : m < 256) : Go.bits .and .i64 (n : Int) (m : Int) = ((n &&& m : Nat) : Int) := by
  have h0 : n &&& m ≤ n := Nat.and_le_left
  have h1 : n % 2 ^ IntKind.i64.bits = n := Nat.mod_eq_of_lt (by show n < 2 ^ 64; omega)
  have h2 : m % 2 ^ IntKind.i64.bits = m := Nat.mod_eq_of_lt (by show m < 2 ^ 64; omega)
  simp only [Go.bits, BitVec.ofInt_natCast, BitVec.toNat_and, BitVec.toNat_ofNat, h1, h2]
  rw [IntKind.wrap_i64]; omega
theorem l3has_ev (n i : Nat) (hn : n < 256) (hi : i ≤ 8) : Ev (fun k => spec_l3Has.f k (n : Int) (i : Int)) (n.testBit i) := by
  unfold spec_l3Has.f
  refine Ev.bind (weight_ev i hi) ?_
  have hp : (0 : Int) < 2 ^ i := Int.pow_pos (by omega)
  refine ev_neg (by omega) (ev_const ?_)
  have e1 : ((2 : Int) ^ i) = ((2 ^ i : Nat) : Int) := by simp
  have h1 : n / 2 ^ i ≤ n := Nat.div_le_self _ _
  have e2 : Int.tdiv (n : Int) (2 ^ i) = ((n / 2 ^ i : Nat) : Int) := by
    rw [tdiv_eq _ _ (by omega), e1, ← Int.natCast_ediv]
  rw [e2, Nat.testBit_eq_decide_div_mod_eq]
  clear e2
  generalize n / 2 ^ i = q at h1
  rw [w64 (by omega) (by omega), tmod_eq _ _ (by omega), Bool.eq_iff_iff]
  simp only [beq_iff_eq, decide_eq_true_eq]; omega
theorem meet_loop (n m : Nat) (hn : n < 256) (hm : m < 256) : ∀ (d i : Nat) (s : Int), i + d = 8 → 0 ≤ s → s ≤ 2 ^ i - 1 → Ev (fun k => spec_l3Meet.l0 k (n : Int) (m : Int) s (i : Int)) (s + meetS n m i d) := by
  intro d
  induction d with
  | zero => intro i s h0 h1 h2; refine ev_succ ?_; simp only [spec_l3Meet.l0]; exact ev_neg (by omega) (ev_const (by simp [meetS]))
  | succ d ih =>
    intro i s h0 h1 h2; refine ev_succ ?_; simp only [spec_l3Meet.l0]
    have e : wrap64 ((i : Int) + 1) = ((i + 1 : Nat) : Int) := by rw [w64 (by omega) (by omega)]; omega
    have hp : (0 : Int) < 2 ^ i := Int.pow_pos (by omega)
    have hp8 : (2 : Int) ^ i ≤ 2 ^ 8 := p2le i 8 (by omega)
    have hps : (2 : Int) ^ (i + 1) = 2 * 2 ^ i := by rw [Int.pow_succ]; omega
    rw [e, meetS]
    refine ev_pos (by omega) (Ev.bind (l3has_ev n i hn (by omega)) (ev_ite (fun h3 => Ev.bind (l3has_ev m i hm (by omega)) (ev_ite (fun h4 => Ev.bind (weight_ev i (by omega)) ?_) (fun h4 => ?_))) (fun h3 => ?_)))
    · rw [w64 (x := s + 2 ^ i) (by omega) (by omega)]
      refine ev_eq (ih (i + 1) (s + 2 ^ i) (by omega) (by omega) (by omega)) ?_
      rw [if_pos (by rw [h3, h4]; rfl)]; omega
    · refine ev_eq (ih (i + 1) s (by omega) h1 (by omega)) ?_
      rw [if_neg (by intro z; rw [Bool.and_eq_true] at z; exact h4 z.2)]; omega
    · refine ev_eq (ih (i + 1) s (by omega) h1 (by omega)) ?_
      rw [if_neg (by intro z; rw [Bool.and_eq_true] at z; exact h3 z.1)]; omega
def mayB (g : S50) (a c : Int) : Bool := decide (G1 g ∧ (0 ≤ a ∧ a ≤ 255) ∧ g.f2.toNat &&& a.toNat = 0 ∧ dietP g.f1 c)
theorem may_ev (g : S50) (a c : Int) : impl_GuestMay.f g.f0 g.f1 g.f2 a c = some (mayB g a c) := by
  unfold impl_GuestMay.f mayB
  simp only [guestValid_ev, set_ev, diet_ev, Option.bind_some]
  by_cases h1 : G1 g
  · rw [if_pos (decide_eq_true h1)]
    by_cases h2 : 0 ≤ a ∧ a ≤ 255
    · rw [if_pos (decide_eq_true h2)]
      have h3 := h1.2.2
      have e : Go.bits .and .i64 g.f2 a = ((g.f2.toNat &&& a.toNat : Nat) : Int) := by
        have := bits_and g.f2.toNat a.toNat (by omega) (by omega)
        rw [Int.toNat_of_nonneg h3.1, Int.toNat_of_nonneg h2.1] at this
        exact this
      rw [e]
      by_cases h4 : g.f2.toNat &&& a.toNat = 0
      · rw [if_pos (by omega)]; congr 1; exact dec_eq ⟨fun h => ⟨h1, h2, h4, h⟩, fun h => h.2.2.2⟩
      · rw [if_neg (by omega), decide_eq_false (fun h => h4 h.2.2.1)]
    · rw [if_neg (by simpa using h2), decide_eq_false (fun h => h2 h.2.1)]
  · rw [if_neg (by simpa using h1), decide_eq_false (fun h => h1 h.1)]
theorem smay_ev (g : S50) (a c : Int) : Ev (fun k => spec_GuestMay.f k g.f0 g.f1 g.f2 a c) (mayB g a c) := by
  unfold spec_GuestMay.f mayB
  simp only [sguestValid_ev, sset_ev, sdiet_ev, Option.bind_some]
  refine ev_ite (fun h1 => ev_ite (fun h2 => ev_ite (fun h4 => ?_) (fun h4 => ev_const ?_)) (fun h2 => ev_const ?_)) (fun h1 => ev_const ?_)
  · have h1' := of_decide_eq_true h1
    have h2' := of_decide_eq_true h2
    have h4' := of_decide_eq_true h4
    have h3 := h1'.2.2
    have e := meet_loop g.f2.toNat a.toNat (by omega) (by omega) 8 0 0 rfl (by omega) (by omega)
    rw [Int.toNat_of_nonneg h3.1, Int.toNat_of_nonneg h2'.1] at e
    refine Ev.bind (show Ev (fun k => spec_l3Meet.f k g.f2 a) _ from e) (ev_const ?_)
    rw [Bool.eq_iff_iff]
    simp only [beq_iff_eq, decide_eq_true_eq, Int.zero_add]
    rw [meet_and _ _ (by omega)]
    exact ⟨fun h => ⟨h1', h2', h, h4'⟩, fun h => h.2.2.1⟩
  · symm; exact decide_eq_false (fun h => h4 (decide_eq_true h.2.2.2))
  · symm; exact decide_eq_false (fun h => h2 (decide_eq_true h.2.1))
  · symm; exact decide_eq_false (fun h => h1 (decide_eq_true h.1))
theorem go_range (a : Int) (gs : List S50) : ∀ (s p : List S50), gs = p ++ s → impl_Guest.go a p.length s = -1 ∨ (0 ≤ impl_Guest.go a p.length s ∧ impl_Guest.go a p.length s < (gs.length : Int) ∧ (rd_T50 gs (impl_Guest.go a p.length s)).f0 = a) := by
  intro s
  induction s with
  | nil => intro p h; exact .inl rfl
  | cons x s ih =>
    intro p h
    rw [impl_Guest.go]
    by_cases hx : x.f0 = a
    · rw [if_pos hx]; exact .inr ⟨by omega, len_at h, by rw [rd50s h]; exact hx⟩
    · rw [if_neg hx]
      have := ih (p ++ [x]) (snoc_at h)
      simpa using this
theorem sguest_loop (gs : List S50) (hb : gs.length ≤ 1099511627776) (a : Int) : ∀ (s p : List S50), gs = p ++ s → Ev (fun k => spec_l43Guest.l0 k gs a (p.length : Int)) (impl_Guest.go a p.length s) := by
  intro s
  induction s with
  | nil => intro p h; refine ev_succ ?_; simp only [spec_l43Guest.l0]; exact ev_neg (by subst h; simp) (ev_const (by rw [impl_Guest.go]))
  | cons x s ih =>
    intro p h; refine ev_succ ?_
    simp only [spec_l43Guest.l0, rd50s h, wlen h hb]
    rw [impl_Guest.go]
    refine ev_pos (len_at h) (ev_pos (by omega) (ev_ite (fun hx => ?_) (fun hx => ?_)))
    · rw [if_pos hx]; exact Ev.now _
    · rw [if_neg hx]; have := ih (p ++ [x]) (snoc_at h); simpa using this
def badPlate (gs : List S50) (x e : S27) : Bool :=
  decide (e.f1 > x.f1 + 120) || (decide (impl_Guest.go e.f3 0 gs < 0) || !mayB (rd_T50 gs (impl_Guest.go e.f3 0 gs)) x.f4 x.f5)
def wrongB (gs : List S50) (pre : List S27) (e : S27) : Bool :=
  match lk e.f2 pre.reverse with
  | none => if e.f0 = 1 then false else true
  | some x => if e.f0 = 1 then decide (x.f0 = 1) else if e.f0 = 3 then !decide (x.f0 = 1) else if x.f0 = 1 then badPlate gs x e else true
theorem iwrong_ev (gs : List S50) (hg : gs.length ≤ 1099511627776) (pre : List S27) (e : S27) (hp : ∀ x ∈ pre, E1 x) (he : E1 e) :
    impl_isWrong.f gs pre e.f0 e.f1 e.f2 e.f3 e.f4 e.f5 = some (wrongB gs pre e) := by
  unfold impl_isWrong.f impl_made.f impl_Guest.f wrongB
  have hr := go_range e.f3 gs gs [] rfl
  simp only [List.length_nil] at hr
  simp only [Option.bind_some, go_lk]
  have hmem := lk_mem e.f2 pre.reverse
  cases hl : lk e.f2 pre.reverse with
  | none =>
    dsimp only
    by_cases h1 : e.f0 = 1
    · rw [if_pos h1, if_pos h1]
    · rw [if_neg h1, if_neg h1]
      by_cases h3 : e.f0 = 3
      · rw [if_pos h3]; rfl
      · rw [if_neg h3]; rfl
  | some x =>
    have hx := hp x (List.mem_reverse.1 (hmem x hl))
    dsimp only
    by_cases h1 : e.f0 = 1
    · rw [if_pos h1, if_pos h1]; rfl
    · rw [if_neg h1, if_neg h1]
      by_cases h3 : e.f0 = 3
      · rw [if_pos h3, if_pos h3]; rfl
      · rw [if_neg h3, if_neg h3]
        by_cases h4 : x.f0 = 1
        · rw [if_pos h4, if_pos (by simpa using h4), w64 (x := e.f1 - x.f1) (by have := hx.1; have := he.1; omega) (by have := hx.1; have := he.1; omega), badPlate]
          by_cases h5 : e.f1 - x.f1 > 120
          · rw [if_pos h5, decide_eq_true (show e.f1 > x.f1 + 120 by omega)]; rfl
          · rw [if_neg h5, decide_eq_false (show ¬ e.f1 > x.f1 + 120 by omega)]
            generalize hq : impl_Guest.go e.f3 0 gs = q at hr
            by_cases h6 : q < 0
            · rw [if_pos h6, decide_eq_true h6]; rfl
            · rw [if_neg h6, decide_eq_false h6, if_pos (by omega), if_pos (by omega), may_ev]; rfl
        · rw [if_neg h4, if_neg (by simpa using h4)]
theorem swrong_ev (gs : List S50) (hg : gs.length ≤ 1099511627776) (l : List S27) (hb : l.length ≤ 1099511627776) (hv : EValid l) (p : List S27) (e : S27) (q : List S27) (hx : l = p ++ e :: q) :
    Ev (fun k => spec_l43Wrong.f k gs l (p.length : Int)) (wrongB gs p e) := by
  have htk : l.take p.length = p := by subst hx; simp
  obtain ⟨r, hr, hi⟩ := made_loop l hb hv e.f2 p.length (by subst hx; simp) p [] (-1) (by simpa using htk) (by simp [Inv, lk])
  have hall := EOk.all hv.1
  have he := hall e (by subst hx; simp)
  have hgr := go_range e.f3 gs gs [] rfl
  have hsg : Ev (fun k => spec_l43Guest.f k gs e.f3) (impl_Guest.go e.f3 0 gs) := sguest_loop gs hg e.f3 gs [] rfl
  simp only [List.length_nil] at hgr
  unfold spec_l43Wrong.f wrongB
  simp only [rd27s hx]
  refine ev_pos (by omega) (ev_pos (len_at hx) (Ev.bind (show Ev (fun k => spec_l43Made.f k l (p.length : Int) e.f2) r from hr) ?_))
  rw [htk] at hi
  unfold Inv at hi
  have hmem := lk_mem e.f2 p.reverse
  cases hl : lk e.f2 p.reverse with
  | none =>
    rw [hl] at hi
    dsimp only at hi ⊢
    refine ev_ite (fun h1 => ?_) (fun h1 => ?_)
    · rw [if_pos h1]; exact ev_const (by simp; omega)
    · rw [if_neg h1]
      refine ev_ite (fun h3 => ev_const (by simp; omega)) (fun h3 => Ev.bind hsg (ev_pos (by omega) (Ev.now _)))
  | some x =>
    rw [hl] at hi
    dsimp only at hi ⊢
    have hxm := hall x (by subst hx; exact List.mem_append_left _ (List.mem_reverse.1 (hmem x hl)))
    have b1 := hxm.1.1
    have b2 := he.1.1
    by_cases h4 : x.f0 = 1
    · obtain ⟨i1, i2, i3⟩ := hi.1 h4
      have i4 : r < (l.length : Int) := by
        have : p.length ≤ l.length := by subst hx; simp
        omega
      refine ev_ite (fun h1 => ?_) (fun h1 => ?_)
      · rw [if_pos h1]; exact ev_const (by rw [decide_eq_true h4]; simp; omega)
      · rw [if_neg h1]
        refine ev_ite (fun h3 => ?_) (fun h3 => ?_)
        · rw [if_pos h3]; exact ev_const (by rw [decide_eq_true h4]; simp; omega)
        · rw [if_neg h3, if_pos h4, badPlate]
          refine Ev.bind hsg (ev_neg (by omega) ?_)
          generalize impl_Guest.go e.f3 0 gs = u at hgr
          refine ev_ite (fun h6 => ev_const (by rw [decide_eq_true h6]; simp)) (fun h6 => ev_pos i1 (ev_pos i4 ?_))
          rw [i3, w64 (x := x.f1 + 120) (by omega) (by omega), decide_eq_false h6]
          refine ev_ite (fun h7 => ev_const (by rw [decide_eq_true h7]; rfl)) (fun h7 => ev_pos (by omega) (ev_pos (by omega) (Ev.bind (smay_ev _ _ _) (ev_const (by rw [decide_eq_false h7]; rfl)))))
    · have i1 := hi.2 h4
      refine ev_ite (fun h1 => ?_) (fun h1 => ?_)
      · rw [if_pos h1]; exact ev_const (by rw [decide_eq_false h4]; simp; omega)
      · rw [if_neg h1]
        refine ev_ite (fun h3 => ?_) (fun h3 => ?_)
        · rw [if_pos h3]; exact ev_const (by rw [decide_eq_false h4]; simp; omega)
        · rw [if_neg h3, if_neg h4]
          exact Ev.bind hsg (ev_pos (by omega) (Ev.now _))
def wr (gs : List S50) : List S27 → List S27 → List Int
  | _, [] => []
  | pre, e :: s => if wrongB gs pre e = true then (pre.length : Int) :: wr gs (pre ++ [e]) s else wr gs (pre ++ [e]) s
theorem wr_len (gs : List S50) : ∀ s pre, (wr gs pre s).length ≤ s.length
  | [], _ => by simp [wr]
  | x :: r, pre => by have := wr_len gs r (pre ++ [x]); rw [wr]; split <;> simp <;> omega
theorem wr_append (gs : List S50) : ∀ s pre t, wr gs pre (s ++ t) = wr gs pre s ++ wr gs (pre ++ s) t
  | [], pre, t => by simp [wr]
  | x :: r, pre, t => by
    have := wr_append gs r (pre ++ [x]) t
    rw [List.cons_append, wr, wr, this]
    split <;> simp
theorem wr_ge (gs : List S50) : ∀ s pre i, i ∈ wr gs pre s → (pre.length : Int) ≤ i
  | [], pre, i, h => by simp [wr] at h
  | x :: r, pre, i, h => by
    have ih := wr_ge gs r (pre ++ [x]) i
    rw [wr] at h
    split at h
    · rcases List.mem_cons.1 h with rfl | h
      · exact Int.le_refl _
      · have := ih h; simp at this; omega
    · have := ih h; simp at this; omega
theorem wr_lt (gs : List S50) : ∀ s pre i, i ∈ wr gs pre s → i < ((pre.length + s.length : Nat) : Int)
  | [], pre, i, h => by simp [wr] at h
  | x :: r, pre, i, h => by
    have ih := wr_lt gs r (pre ++ [x]) i
    rw [wr] at h
    split at h
    · rcases List.mem_cons.1 h with rfl | h
      · simp; omega
      · have := ih h; simp at this ⊢; omega
    · have := ih h; simp at this ⊢; omega
theorem wr_mem (gs : List S50) (p : List S27) (e : S27) (q : List S27) : ((p.length : Int) ∈ wr gs [] (p ++ e :: q)) ↔ wrongB gs p e = true := by
  rw [wr_append, List.mem_append, List.nil_append, wr]
  constructor
  · rintro (h | h)
    · have := wr_lt gs p [] _ h; simp at this
    · by_cases hw : wrongB gs p e = true
      · exact hw
      · rw [if_neg hw] at h; have := wr_ge gs _ _ _ h; simp at this; omega
  · intro h; rw [if_pos h]; exact .inr (by simp)
def wrongF (gs : List S50) (l : List S27) : List Int := if GValid gs ∧ EValid l then wr gs [] l else []
theorem wrong_len (gs : List S50) (l : List S27) : (wrongF gs l).length ≤ l.length := by
  unfold wrongF; split
  · exact wr_len gs l []
  · simp
theorem impl_wrong_loop (gs : List S50) (hg : gs.length ≤ 1099511627776) (xs : List S27) (hb : xs.length ≤ 1099511627776) (hE : ∀ x ∈ xs, E1 x) : ∀ (s p : List S27) (out : List Int), xs = p ++ s → out.length ≤ p.length →
    Ev (fun k => impl_WatchWrong.l0 k gs xs out xs (xs.length : Int) (p.length : Int)) (out ++ wr gs p s) := by
  intro s
  induction s with
  | nil => intro p out hx ho; refine ev_succ ?_; simp only [impl_WatchWrong.l0]; exact ev_neg (by subst hx; simp) (ev_const (by simp [wr]))
  | cons x s ih =>
    intro p out hx ho; refine ev_succ ?_
    have hp : p.length + 1 ≤ 1099511627776 := by subst hx; simp at hb; omega
    have htk : xs.take ((p.length : Int)).toNat = p := by subst hx; simp
    simp only [impl_WatchWrong.l0, rd27s hx, wlen hx hb, htk]
    rw [iwrong_ev gs hg p x (fun y hy => hE y (by subst hx; simp [hy])) (hE x (by subst hx; simp))]
    refine ev_pos (len_at hx) (ev_pos (by omega) (ev_pos (len_at hx) (ev_pos (by have := len_at hx; omega) (ev_some ?_))))
    rw [wr]
    refine ev_ite (fun h1 => ev_pos (by omega) ?_) (fun h1 => ?_)
    · rw [if_pos h1]; exact ev_eq (ih (p ++ [x]) _ (snoc_at hx) (by simp; omega)) (by simp)
    · rw [if_neg h1]; exact ih (p ++ [x]) _ (snoc_at hx) (by simp; omega)
theorem impl_wrong (gs : List S50) (hg : gs.length ≤ 1099511627776) (xs : List S27) (hb : xs.length ≤ 1099511627776) : Ev (fun k => impl_WatchWrong.f k gs xs) (wrongF gs xs) := by
  have no : ∀ t, t = true → Ev (fun k => impl_WatchWrong.j0 k gs xs [] t) [] := by
    intro t ht; refine ev_succ ?_; simp only [impl_WatchWrong.j0]; exact ev_pos ht (Ev.now _)
  unfold impl_WatchWrong.f wrongF
  simp only [Option.bind_some]
  refine Ev.bind (impl_gvalid gs hg) (ev_ite (fun h1 => Ev.bind (impl_valid xs hb) ?_) (fun h1 => ?_))
  · have h1' := of_decide_eq_true h1
    by_cases h2 : EValid xs
    · rw [if_pos ⟨h1', h2⟩]
      refine ev_succ ?_; simp only [impl_WatchWrong.j0]
      exact ev_neg (by simp [h2]) (ev_eq (impl_wrong_loop gs hg xs hb (fun x hx => (EOk.all h2.1 x hx).1) xs [] [] rfl (Nat.le_refl _)) (by simp))
    · rw [if_neg (fun z => h2 z.2)]; exact no _ (by simp [h2])
  · rw [if_neg (fun z => h1 (decide_eq_true z.1))]; exact no _ rfl
theorem spec_wrong_loop (gs : List S50) (hg : gs.length ≤ 1099511627776) (xs : List S27) (hb : xs.length ≤ 1099511627776) (hG : GValid gs) (hv : EValid xs) : ∀ (s p : List S27) (out : List Int), xs = p ++ s → out.length ≤ p.length →
    Ev (fun k => spec_WatchWrong.l0 k gs xs out (p.length : Int)) (out ++ wr gs p s) := by
  intro s
  induction s with
  | nil =>
    intro p out hx ho; refine ev_succ ?_; simp only [spec_WatchWrong.l0]
    refine ev_neg (by subst hx; simp) (ev_succ ?_); simp only [spec_WatchWrong.j1]; exact ev_neg (by simp) (ev_const (by simp [wr]))
  | cons x s ih =>
    intro p out hx ho; refine ev_succ ?_
    have hp : p.length + 1 ≤ 1099511627776 := by subst hx; simp at hb; omega
    simp only [spec_WatchWrong.l0]
    refine ev_pos (len_at hx) (Ev.bind (spec_valid xs hb) (ev_pos (decide_eq_true hv) (Ev.bind (spec_gvalid gs hg) (ev_succ ?_))))
    simp only [spec_WatchWrong.j1, wlen hx hb]
    refine ev_pos (decide_eq_true hG) (Ev.bind (swrong_ev gs hg xs hb hv p x s hx) ?_)
    rw [wr]
    refine ev_ite (fun h1 => ev_pos (by omega) ?_) (fun h1 => ?_)
    · rw [if_pos h1]; exact ev_eq (ih (p ++ [x]) _ (snoc_at hx) (by simp; omega)) (by simp)
    · rw [if_neg h1]; exact ih (p ++ [x]) _ (snoc_at hx) (by simp; omega)
theorem spec_wrong (gs : List S50) (hg : gs.length ≤ 1099511627776) (xs : List S27) (hb : xs.length ≤ 1099511627776) : Ev (fun k => spec_WatchWrong.f k gs xs) (wrongF gs xs) := by
  unfold spec_WatchWrong.f
  by_cases hv : GValid gs ∧ EValid xs
  · rw [wrongF, if_pos hv]; exact spec_wrong_loop gs hg xs hb hv.1 hv.2 xs [] [] rfl (Nat.le_refl _)
  · rw [wrongF, if_neg hv]
    have no : Ev (fun k => spec_WatchWrong.j1 k gs xs [] 0 false) [] := by
      refine ev_succ ?_; simp only [spec_WatchWrong.j1]; exact ev_neg (by simp) (Ev.now _)
    refine ev_succ ?_; simp only [spec_WatchWrong.l0]
    refine ev_ite (fun _ => Ev.bind (spec_valid xs hb) (ev_ite (fun h2 => Ev.bind (spec_gvalid gs hg) ?_) (fun h2 => no))) (fun _ => no)
    rw [decide_eq_false (fun h1 => hv ⟨h1, of_decide_eq_true h2⟩)]; exact no
theorem same_loop (xs ys : List Int) (hl : xs.length = ys.length) (hb : xs.length ≤ 1099511627776) : ∀ (s t p q : List Int), xs = p ++ s → ys = q ++ t → p.length = q.length →
    Ev (fun k => laws_sameInts.l0 k xs ys (p.length : Int)) (decide (s = t)) := by
  intro s
  induction s with
  | nil =>
    intro t p q h1 h2 h3; refine ev_succ ?_; simp only [laws_sameInts.l0]
    have : t = [] := by subst h1; subst h2; simp at hl; apply List.eq_nil_of_length_eq_zero; omega
    subst this
    exact ev_neg (by subst h1; simp) (ev_const (by simp))
  | cons x s ih =>
    intro t p q h1 h2 h3
    cases t with
    | nil => exfalso; subst h1; subst h2; simp at hl; omega
    | cons y t =>
      refine ev_succ ?_
      have ey : rd ys (p.length : Int) = y := by rw [h3]; exact rds h2
      have hy : (p.length : Int) < (ys.length : Int) := by rw [h3]; exact len_at h2
      simp only [laws_sameInts.l0, rds h1, ey, wlen h1 hb]
      refine ev_pos (len_at h1) (ev_pos (by omega) (ev_pos hy (ev_ite (fun h => ev_eq (ih t (p ++ [x]) (q ++ [y]) (snoc_at h1) (snoc_at h2) (by simp [h3])) (by simp [h])) (fun h => ev_const (by simp [h])))))
theorem same_ev (xs ys : List Int) (hb : xs.length ≤ 1099511627776) : Ev (fun k => laws_sameInts.f k xs ys) (decide (xs = ys)) := by
  unfold laws_sameInts.f
  by_cases h : xs.length = ys.length
  · exact ev_pos (by omega) (same_loop xs ys h hb xs ys [] [] rfl rfl rfl)
  · refine ev_neg (by omega) (ev_const ?_)
    symm; exact decide_eq_false (fun e => h (by rw [e]))
theorem has_loop (xs : List Int) (a : Int) (hb : xs.length ≤ 1099511627776) : ∀ (s p : List Int), xs = p ++ s → Ev (fun k => laws_hasInt.l0 k xs a (p.length : Int)) (decide (a ∈ s)) := by
  intro s
  induction s with
  | nil => intro p h1; refine ev_succ ?_; simp only [laws_hasInt.l0]; exact ev_neg (by subst h1; simp) (ev_const (by simp))
  | cons x s ih =>
    intro p h1; refine ev_succ ?_
    simp only [laws_hasInt.l0, rds h1, wlen h1 hb]
    refine ev_pos (len_at h1) (ev_pos (by omega) (ev_ite (fun h => ev_const (by simp [h])) (fun h => ev_eq (ih (p ++ [x]) (snoc_at h1)) ?_)))
    have : a ≠ x := fun e => h e.symm
    simp [this]
theorem has_ev (xs : List Int) (a : Int) (hb : xs.length ≤ 1099511627776) : Ev (fun k => laws_hasInt.f k xs a) (decide (a ∈ xs)) := has_loop xs a hb xs [] rfl
theorem notAfter_le {q : Option Int} {m n : Int} (h : notAfter q m) (hmn : m ≤ n) : notAfter q n := by
  unfold notAfter at h ⊢; cases q with
  | none => trivial
  | some y => exact Int.le_trans h hmn
theorem EOk.after : ∀ {q : Option Int} {l : List S27}, EOk q l → ∀ x ∈ l, notAfter q x.f1
  | _, [], _, x, h => by cases h
  | q, y :: r, hh, x, h => by
    rcases List.mem_cons.1 h with rfl | h
    · exact hh.2.2.1
    · have := EOk.after hh.2.2.2 x h
      simp only [notAfter] at this
      exact notAfter_le hh.2.2.1 this
theorem EOk.first : ∀ {q q' : Option Int} {l : List S27}, EOk q l → (∀ x ∈ l, notAfter q' x.f1) → EOk q' l
  | _, _, [], _, _ => trivial
  | q, q', y :: r, hh, h => ⟨hh.1, hh.2.1, h y (by simp), hh.2.2.2⟩
theorem EOk.left : ∀ {q : Option Int} {a b : List S27}, EOk q (a ++ b) → EOk q a
  | _, [], _, _ => trivial
  | q, y :: r, b, hh => ⟨hh.1, hh.2.1, hh.2.2.1, EOk.left hh.2.2.2⟩
theorem EOk.right : ∀ {q : Option Int} {a b : List S27}, EOk q (a ++ b) → EOk q b
  | _, [], _, h => h
  | q, y :: r, b, hh => EOk.first (EOk.right hh.2.2.2) (fun x hx => by
      have := EOk.after hh.2.2.2 x (List.mem_append_right _ hx)
      simp only [notAfter] at this
      exact notAfter_le hh.2.2.1 this)
theorem EOk.add : ∀ {q : Option Int} {a b : List S27}, EOk q a → EOk none b → (∀ x ∈ b, notAfter q x.f1) → (∀ x ∈ a, ∀ y ∈ b, x.f1 ≤ y.f1) → EOk q (a ++ b)
  | q, [], b, _, hb, h1, _ => EOk.first hb h1
  | q, x :: r, b, ha, hb, h1, h2 => ⟨ha.1, ha.2.1, ha.2.2.1, EOk.add ha.2.2.2 hb (fun y hy => by simp only [notAfter]; exact h2 x (by simp) y hy) (fun z hz y hy => h2 z (by simp [hz]) y hy)⟩
theorem EOk.le_of {q : Option Int} {a b : List S27} {e : S27} (h : EOk q (a ++ e :: b)) : ∀ x ∈ a, x.f1 ≤ e.f1 := by
  intro x hx
  obtain ⟨a1, a2, rfl⟩ := List.append_of_mem hx
  have h1 : EOk q (a1 ++ (x :: (a2 ++ e :: b))) := by simpa using h
  have h2 := EOk.right h1
  have := EOk.after h2.2.2.2 e (by simp)
  simpa [notAfter] using this
theorem EValid.left {a b : List S27} (h : EValid (a ++ b)) : EValid a := ⟨EOk.left h.1, by have := h.2; simp at this; omega⟩
end Go.Proofs.Ytnhenfmegpjigaa.BEv
/- FnWatchOpenServed holds for all bytes. No condition beyond the statement's own. -/
namespace Go.Proofs.Ytnhenfmegpjigaa.Pure
open Go.RowKit Go.Proofs.Ytnhenfmegpjigaa.PEv Go.Proofs.Ytnhenfmegpjigaa.BEv Go.Proofs.YtnhenfmegpjigaaW.PrintWords Go.Proofs.YtnhenfmegpjigaaW.PrintLast Go.Proofs.YtnhenfmegpjigaaW.PrintMore
set_option linter.unusedVariables false
set_option linter.unusedSimpArgs false
theorem opn_mem2 (pre : List S27) (m : Int) (b : Int) : ∀ (n : Nat) (a : Int), a ≤ b → b < a + n → there pre m b = true → b ∈ opn pre m n a
  | 0, a, h1, h2, _ => by simp at h2; omega
  | n + 1, a, h1, h2, h3 => by
    have ih := opn_mem2 pre m b n (a + 1)
    rw [opn]
    by_cases e : b = a
    · subst e; rw [if_pos h3]; simp
    · have := ih (by omega) (by push_cast at h2; omega) h3
      split
      · exact List.mem_cons_of_mem _ this
      · exact this
theorem many_all (m : Int) : ∀ (l : List S27), (∀ x ∈ l, x.f1 ≤ m) → manyF m l = l.length
  | [], _ => rfl
  | x :: r, h => by rw [manyF, if_pos (h x (by simp)), many_all m r (fun y hy => h y (by simp [hy]))]; rfl
/-- what a right plate is of, is open -/
theorem right_open (gs : List S50) (p : List S27) (e : S27) (h2 : e.f0 = 2) (hv : EValid (p ++ [e])) (hw : wrongB gs p e = false) : e.f2 ∈ openF (p ++ [e]) e.f1 := by
  have he := (EOk.all hv.1 e (by simp)).1
  have hle := EOk.le_of (q := none) (a := p) (b := []) hv.1
  have hm : manyF e.f1 (p ++ [e]) = (p ++ [e]).length := many_all _ _ (fun x hx => by
    rcases List.mem_append.1 hx with hx | hx
    · exact hle x hx
    · rw [List.mem_singleton.1 hx]; exact Int.le_refl _)
  rw [openF, if_pos ⟨hv, he.1⟩, hm, List.take_length]
  refine opn_mem2 _ _ _ 20 1 he.2.1 (by have := he.2.2; omega) ?_
  rw [there, List.reverse_append, List.reverse_singleton, List.singleton_append, lk, if_neg (fun z => z.2 h2)]
  unfold wrongB at hw
  cases hl : lk e.f2 p.reverse with
  | none => rw [hl] at hw; dsimp only at hw; rw [if_neg (by omega)] at hw; cases hw
  | some x =>
    rw [hl] at hw; dsimp only at hw ⊢
    rw [if_neg (by omega), if_neg (by omega)] at hw
    by_cases h4 : x.f0 = 1
    · rw [if_pos h4, badPlate, Bool.or_eq_false_iff] at hw
      have := of_decide_eq_false hw.1
      exact decide_eq_true ⟨h4, by omega⟩
    · rw [if_neg h4] at hw; cases hw
theorem os_loop (gs : List S50) (xs : List S27) (hv : EValid xs) (out : List Int) (ho : out.length ≤ 1099511627776) (hout : out = wr gs [] xs) : ∀ (s p : List S27), xs = p ++ s → Ev (fun k => laws_FnWatchOpenServed.l0 k xs out (p.length : Int)) true := by
  have hb : xs.length ≤ 1099511627776 := by have := hv.2; omega
  intro s
  induction s with
  | nil => intro p hx; refine ev_succ ?_; simp only [laws_FnWatchOpenServed.l0]; exact ev_neg (by subst hx; simp) (Ev.now _)
  | cons x s ih =>
    intro p hx; refine ev_succ ?_; simp only [laws_FnWatchOpenServed.l0, rd27s hx, wlen hx hb]
    have hn := ih (p ++ [x]) (snoc_at hx)
    refine ev_pos (len_at hx) (ev_pos (by omega) (ev_ite (fun h2 => Ev.bind (has_ev out (p.length : Int) ho) (ev_ite (fun _ => hn) (fun h3 => ?_))) (fun _ => hn)))
    have htk : xs.take (((p ++ [x]).length : Int)).toNat = p ++ [x] := by
      have e : xs = (p ++ [x]) ++ s := snoc_at hx
      rw [Int.toNat_natCast]
      conv => lhs; rw [e]
      exact List.take_left
    rw [htk]
    have hvp : EValid (p ++ [x]) := EValid.left (b := s) (by rw [← snoc_at hx]; exact hv)
    have hl : (p ++ [x]).length ≤ xs.length := by rw [hx]; simp
    have hw : wrongB gs p x = false := by
      cases hwb : wrongB gs p x with
      | false => rfl
      | true => exact absurd (decide_eq_true (show (p.length : Int) ∈ out by rw [hout, hx]; exact (wr_mem gs p x s).2 hwb)) h3
    have hol : (openF (p ++ [x]) x.f1).length ≤ 1099511627776 := by have := open_len (p ++ [x]) x.f1; omega
    exact ev_pos (by omega) (ev_pos (by omega) (Ev.bind (impl_open _ (by omega) _) (Ev.bind (has_ev _ _ hol) (ev_pos (decide_eq_true (right_open gs p x h2 hvp hw)) hn))))
theorem FnWatchOpenServed : laws_FnWatchOpenServed.Pure := by
  intro l0 _ _ hw
  refine Ev.rounds ?_
  unfold laws_FnWatchOpenServed.f
  refine ev_ite (fun _ => Ev.now _) (fun _ => ?_)
  obtain ⟨gs, es, hg, he, hd⟩ := draw_wrong l0 hw
  have hb : es.length ≤ 1099511627776 := by omega
  have hgb : gs.length ≤ 1099511627776 := by omega
  have ho : (wrongF gs es).length ≤ 1099511627776 := by have := wrong_len gs es; omega
  have stop : ∀ t, t = true → Ev (fun k => laws_FnWatchOpenServed.j0 k es (wrongF gs es) (wrongF gs es) t) true := by
    intro t ht; refine ev_succ ?_; simp only [laws_FnWatchOpenServed.j0]; exact ev_pos ht (Ev.bind (same_ev _ _ ho) (ev_const (by simp)))
  refine Ev.bind hd (Ev.bind (impl_wrong gs hgb es hb) (Ev.bind (spec_wrong gs hgb es hb) (Ev.bind (same_ev _ _ ho) (ev_pos (by simp) (Ev.bind (spec_gvalid gs hgb) (ev_ite (fun hG => Ev.bind (spec_valid es hb) ?_) (fun _ => stop _ rfl)))))))
  by_cases hv : EValid es
  · refine ev_succ ?_; simp only [laws_FnWatchOpenServed.j0]
    exact ev_neg (by simp [hv]) (os_loop gs es hv _ ho (by rw [wrongF, if_pos ⟨of_decide_eq_true hG, hv⟩]) es [] rfl)
  · exact stop _ (by simp [hv])
end Go.Proofs.Ytnhenfmegpjigaa.Pure

