import Derived.Test.YtnhenfmegpjigaaVCWMore
import Derived.Test.YtnhenfmegpjigaaVCWNEv
import Derived.Laws.BitsLemmas
import Derived.Test.YtnhenfmegpjigaaVCPEvx4
import Derived.Test.YtnhenfmegpjigaaVCPEvx5
import Derived.Test.YtnhenfmegpjigaaVCPEvx6
import Derived.Test.YtnhenfmegpjigaaVCPEvx15
import Derived.Test.YtnhenfmegpjigaaVCPEvx16
import Derived.Test.YtnhenfmegpjigaaVCPEvx17
import Derived.Test.YtnhenfmegpjigaaVCPEvx1
import Derived.Test.YtnhenfmegpjigaaVCPEvx3
import Derived.Test.YtnhenfmegpjigaaVCPEvx10
import Derived.Test.YtnhenfmegpjigaaVCPEvx14
import Derived.Test.YtnhenfmegpjigaaVCPEvx20
import Derived.Test.YtnhenfmegpjigaaVCPEvx21
import Derived.Test.YtnhenfmegpjigaaVCPEvx22
import Derived.Test.YtnhenfmegpjigaaVCPEvx25
import Derived.Test.YtnhenfmegpjigaaVCPEvx26
import Derived.Test.YtnhenfmegpjigaaVCPEvx27
import Derived.Test.YtnhenfmegpjigaaVCPEvx23
import Derived.Test.YtnhenfmegpjigaaVCPEvx24
import Derived.Test.YtnhenfmegpjigaaVCPEvx28
import Derived.Test.YtnhenfmegpjigaaVCPEvx29
import Derived.Test.YtnhenfmegpjigaaVCPEvx18
namespace Go.Proofs.Ytnhenfmegpjigaa.BEv
open Go.RowKit Go.Proofs.YtnhenfmegpjigaaW.PrintWords Go.Proofs.YtnhenfmegpjigaaW.PrintLast Go.Proofs.YtnhenfmegpjigaaW.PrintMore
set_option linter.unusedVariables false
set_option linter.unusedSimpArgs false
theorem ev_succ {α : Type} {g : Nat → Option α} {r : α} (h : Ev (fun k => g (k + 1)) r) : Ev g r := Ev.step (fun _ => rfl) h
theorem ev_const {α : Type} {r s : α} (h : r = s) : Ev (fun _ => some r) s := by subst h; exact Ev.now r
theorem ev_pos {α : Type} {c : Prop} [Decidable c] {a b : Nat → Option α} {r : α} (hc : c) (h : Ev a r) : Ev (fun k => if c then a k else b k) r :=
  Ev.congr (fun k => if_pos hc) h
theorem ev_neg {α : Type} {c : Prop} [Decidable c] {a b : Nat → Option α} {r : α} (hc : ¬ c) (h : Ev b r) : Ev (fun k => if c then a k else b k) r :=
  Ev.congr (fun k => if_neg hc) h
theorem ev_ite {α : Type} {c : Prop} [Decidable c] {a b : Nat → Option α} {r : α} (h1 : c → Ev a r) (h2 : ¬ c → Ev b r) : Ev (fun k => if c then a k else b k) r := by
  by_cases hc : c
  · exact ev_pos hc (h1 hc)
  · exact ev_neg hc (h2 hc)
theorem ev_eq {α : Type} {g : Nat → Option α} {r s : α} (h : Ev g r) (e : r = s) : Ev g s := e ▸ h
theorem ev_some {α β : Type} {f : Nat → α → Option β} {a : α} {r : β} (h : Ev (fun n => f n a) r) : Ev (fun n => (some a).bind (f n)) r := h
theorem w64 {x : Int} (h0 : -9223372036854775808 ≤ x) (h1 : x ≤ 9223372036854775807) : wrap64 x = x := by unfold wrap64; omega
theorem getD_at {α : Type} (p : List α) (x : α) (q : List α) (d : α) : (p ++ x :: q).getD p.length d = x := by simp [List.getD]
theorem rd_at (p : List Int) (x : Int) (q : List Int) : rd (p ++ x :: q) (p.length : Int) = x := getD_at p x q 0
theorem rd_lt (l : List Int) (i : Int) (h0 : 0 ≤ i) (h1 : i < l.length) : rd l i ∈ l := by
  unfold rd; rw [List.getD_eq_getElem?_getD, List.getElem?_eq_getElem (by omega)]; exact List.getElem_mem _
theorem rds {xs p : List Int} {x : Int} {q : List Int} (h : xs = p ++ x :: q) : rd xs (p.length : Int) = x := by subst h; exact rd_at p x q
theorem len_at {α : Type} {xs p : List α} {x : α} {q : List α} (h : xs = p ++ x :: q) : (p.length : Int) < (xs.length : Int) := by subst h; simp; omega
theorem snoc_at {α : Type} {xs p : List α} {x : α} {q : List α} (h : xs = p ++ x :: q) : xs = (p ++ [x]) ++ q := by subst h; simp
theorem wlen {α : Type} {xs p : List α} {x : α} {q : List α} (h : xs = p ++ x :: q) (hb : xs.length ≤ 1099511627776) : wrap64 ((p.length : Int) + 1) = ((p ++ [x]).length : Int) := by
  subst h; rw [w64 (by omega) (by simp at hb; omega)]; simp
end Go.Proofs.Ytnhenfmegpjigaa.BEv
namespace Go.Proofs.Ytnhenfmegpjigaa.BEv
open Go.RowKit Go.Proofs.Ytnhenfmegpjigaa.PEv Go.Proofs.YtnhenfmegpjigaaW.PrintWords Go.Proofs.YtnhenfmegpjigaaW.PrintLast Go.Proofs.YtnhenfmegpjigaaW.PrintMore
set_option linter.unusedVariables false
set_option linter.unusedSimpArgs false
theorem in_ev (a b c : Int) : spec_l6In.f a b c = some (decide (b ≤ a ∧ a ≤ c)) := by
  unfold spec_l6In.f
  by_cases h : a ≥ b
  · rw [if_pos h]; simp; omega
  · rw [if_neg h]; simp; omega
theorem within_ev (a b c : Int) : impl_within.f a b c = some (decide (b ≤ a ∧ a ≤ c)) := by
  unfold impl_within.f
  by_cases h : a ≥ b
  · rw [if_pos h]; simp; omega
  · rw [if_neg h]; simp; omega
theorem minute_ev (a : Int) : impl_isMinute.f a = some (decide (0 ≤ a ∧ a ≤ 1439)) := by unfold impl_isMinute.f; rw [within_ev]; rfl
theorem set_ev (a : Int) : impl_isSet.f a = some (decide (0 ≤ a ∧ a ≤ 255)) := by unfold impl_isSet.f; rw [within_ev]; rfl
theorem id_ev (a : Int) : impl_isId.f a = some (decide (1 ≤ a ∧ a ≤ 20)) := by unfold impl_isId.f; rw [within_ev]; rfl
theorem kind_ev (a : Int) : impl_isKind.f a = some (decide (1 ≤ a ∧ a ≤ 5)) := by unfold impl_isKind.f; rw [within_ev]; rfl
theorem sset_ev (a : Int) : spec_l3Set.f a = some (decide (0 ≤ a ∧ a ≤ 255)) := by unfold spec_l3Set.f; rw [in_ev]; rfl
def E1 (x : S27) : Prop := (0 ≤ x.f1 ∧ x.f1 ≤ 1439) ∧ (1 ≤ x.f2 ∧ x.f2 ≤ 20)
def E2 (x : S27) : Prop := (x.f0 = 1 ∧ x.f3 = 0 ∧ (0 ≤ x.f4 ∧ x.f4 ≤ 255) ∧ (1 ≤ x.f5 ∧ x.f5 ≤ 5)) ∨ (x.f0 = 2 ∧ (1 ≤ x.f3 ∧ x.f3 ≤ 99) ∧ x.f4 = 0 ∧ x.f5 = 0) ∨ (x.f0 = 3 ∧ x.f3 = 0 ∧ x.f4 = 0 ∧ x.f5 = 0)
instance (x : S27) : Decidable (E1 x) := by unfold E1; infer_instance
instance (x : S27) : Decidable (E2 x) := by unfold E2; infer_instance
def notAfter (q : Option Int) (m : Int) : Prop := match q with | none => True | some y => y ≤ m
instance (q : Option Int) (m : Int) : Decidable (notAfter q m) := by unfold notAfter; cases q <;> infer_instance
def EOk : Option Int → List S27 → Prop
  | _, [] => True
  | q, x :: r => E1 x ∧ E2 x ∧ notAfter q x.f1 ∧ EOk (some x.f1) r
def decEOk : (q : Option Int) → (l : List S27) → Decidable (EOk q l)
  | _, [] => isTrue trivial
  | q, x :: r => by
    unfold EOk
    have := decEOk (some x.f1) r
    infer_instance
instance (q : Option Int) (l : List S27) : Decidable (EOk q l) := decEOk q l
def EValid (l : List S27) : Prop := EOk none l ∧ (l.length : Int) ≤ 24
instance (l : List S27) : Decidable (EValid l) := by unfold EValid; infer_instance
def Last (p : List S27) (q : Option Int) : Prop := (p = [] ∧ q = none) ∨ ∃ p' y, p = p' ++ [y] ∧ q = some y.f1
theorem last_snoc (p : List S27) (x : S27) : Last (p ++ [x]) (some x.f1) := .inr ⟨p, x, rfl, rfl⟩
theorem rd27s {xs p : List S27} {x : S27} {q : List S27} (h : xs = p ++ x :: q) : rd_T27 xs (p.length : Int) = x := by subst h; exact getD_at p x q z27
theorem dec_eq {p q : Prop} [Decidable p] [Decidable q] (h : p ↔ q) : decide p = decide q := by simp [h]
theorem eventValid_ev (x : S27) : Ev (fun k => impl_eventValid.f k x.f0 x.f1 x.f2 x.f3 x.f4 x.f5) (decide (E1 x ∧ E2 x)) := by
  have h0 : ∀ b : Bool, b = true → Ev (fun k => impl_eventValid.j0 k b x.f0 x.f1 x.f2 x.f3 x.f4 x.f5) false := by
    intro b hb; refine ev_succ ?_; simp only [impl_eventValid.j0]; exact ev_pos hb (Ev.now _)
  have h1 : Ev (fun k => impl_eventValid.j0 k false x.f0 x.f1 x.f2 x.f3 x.f4 x.f5) (decide (E2 x)) := by
    refine ev_succ ?_; simp only [impl_eventValid.j0, set_ev, kind_ev, within_ev, Option.bind_some]
    refine ev_neg (by simp) (ev_ite (fun k1 => ?_) (fun k1 => ev_ite (fun k2 => ?_) (fun k2 => ev_ite (fun k3 => ?_) (fun k3 => ?_))))
    · refine ev_ite (fun a => ev_ite (fun b => ev_const ?_) (fun b => ev_const ?_)) (fun a => ev_const ?_) <;> clear h0 <;> (rw [Bool.eq_iff_iff]; (try simp only [decide_eq_true_eq, beq_iff_eq, Bool.false_eq_true, false_iff] at *); simp only [E2]; omega)
    · refine ev_ite (fun a => ev_ite (fun b => ev_const ?_) (fun b => ev_const ?_)) (fun a => ev_const ?_) <;> clear h0 <;> (rw [Bool.eq_iff_iff]; (try simp only [decide_eq_true_eq, beq_iff_eq, Bool.false_eq_true, false_iff] at *); simp only [E2]; omega)
    · refine ev_ite (fun a => ev_ite (fun b => ev_const ?_) (fun b => ev_const ?_)) (fun a => ev_const ?_) <;> clear h0 <;> (rw [Bool.eq_iff_iff]; (try simp only [decide_eq_true_eq, beq_iff_eq, Bool.false_eq_true, false_iff] at *); simp only [E2]; omega)
    · refine ev_const ?_; clear h0; (rw [Bool.eq_iff_iff]; (try simp only [decide_eq_true_eq, beq_iff_eq, Bool.false_eq_true, false_iff] at *); simp only [E2]; omega)
  unfold impl_eventValid.f
  simp only [minute_ev, id_ev, Option.bind_some]
  refine ev_ite (fun a => ?_) (fun a => ev_eq (h0 true rfl) ?_)
  · by_cases hb : 1 ≤ x.f2 ∧ x.f2 ≤ 20
    · have e : (!decide (1 ≤ x.f2 ∧ x.f2 ≤ 20)) = false := by simp [hb]
      rw [e]; refine ev_eq h1 (dec_eq ⟨fun h => ⟨⟨of_decide_eq_true a, hb⟩, h⟩, fun h => h.2⟩)
    · refine ev_eq (h0 _ (by simp [hb])) ?_
      symm; exact decide_eq_false (fun h => hb h.1.2)
  · symm; exact decide_eq_false (fun h => a (decide_eq_true h.1.1))
theorem impl_ev_loop (xs : List S27) (hb : xs.length ≤ 1099511627776) : ∀ (s p : List S27) (q : Option Int), xs = p ++ s → Last p q →
    Ev (fun k => impl_EventsValid.l0 k xs xs (xs.length : Int) (p.length : Int)) (decide (EOk q s ∧ (xs.length : Int) ≤ 24)) := by
  intro s
  induction s with
  | nil =>
    intro p q hx hq; refine ev_succ ?_; simp only [impl_EventsValid.l0]
    exact ev_neg (by subst hx; simp) (ev_const (dec_eq (by simp [EOk])))
  | cons x s ih =>
    intro p q hx hq; refine ev_succ ?_
    simp only [impl_EventsValid.l0, rd27s hx, wlen hx hb]
    refine ev_pos (len_at hx) (ev_pos (by omega) (ev_pos (len_at hx) (Ev.bind (eventValid_ev x) ?_)))
    have hi := ih (p ++ [x]) (some x.f1) (snoc_at hx) (last_snoc p x)
    refine ev_ite (fun h1 => ?_) (fun h1 => ev_const ?_)
    · have h1' := of_decide_eq_true h1
      rcases hq with ⟨rfl, rfl⟩ | ⟨p', y, rfl, rfl⟩
      · refine ev_neg (by simp) (ev_eq hi (dec_eq ?_))
        simp only [EOk, notAfter]; exact ⟨fun h => ⟨⟨h1'.1, h1'.2, trivial, h.1⟩, h.2⟩, fun h => ⟨h.1.2.2.2, h.2⟩⟩
      · have e1 : wrap64 (((p' ++ [y]).length : Int) - 1) = (p'.length : Int) := by
          rw [w64 (by omega) (by subst hx; simp at hb ⊢; omega)]; simp
        have e2 : rd_T27 xs (p'.length : Int) = y := rd27s (q := x :: s) (by subst hx; simp)
        rw [e1, e2]
        refine ev_pos (by simp <;> omega) (ev_pos (by omega) (ev_pos (by subst hx; simp <;> omega) (ev_ite (fun h3 => ev_const ?_) (fun h3 => ev_eq hi (dec_eq ?_)))))
        · symm; refine decide_eq_false (fun h => ?_)
          have := h.1.2.2.1; simp only [notAfter] at this; omega
        · simp only [EOk, notAfter]; exact ⟨fun h => ⟨⟨h1'.1, h1'.2, by omega, h.1⟩, h.2⟩, fun h => ⟨h.1.2.2.2, h.2⟩⟩
    · symm; refine decide_eq_false (fun h => h1 (decide_eq_true ⟨h.1.1, h.1.2.1⟩))
theorem impl_valid (xs : List S27) (hb : xs.length ≤ 1099511627776) : Ev (fun k => impl_EventsValid.f k xs) (decide (EValid xs)) :=
  ev_eq (impl_ev_loop xs hb xs [] none rfl (.inl ⟨rfl, rfl⟩)) rfl
theorem spec_j1_true (xs : List S27) (i : Int) (x : S27) : Ev (fun k => spec_EventsValid.j1 k xs i true x.f0 x.f1 x.f2 x.f3 x.f4 x.f5) false := by
  refine ev_succ ?_; simp only [spec_EventsValid.j1]; exact ev_pos (by simp) (Ev.now _)
theorem spec_j1 (xs : List S27) (i : Int) (x : S27) (b : Bool) (hi : Ev (fun k => spec_EventsValid.l0 k xs (wrap64 (i + 1))) b) :
    Ev (fun k => spec_EventsValid.j1 k xs i false x.f0 x.f1 x.f2 x.f3 x.f4 x.f5) (decide (E2 x) && b) := by
  have yes : E2 x → Ev (fun k => spec_EventsValid.l0 k xs (wrap64 (i + 1))) (decide (E2 x) && b) := fun h => ev_eq hi (by simp [h])
  have no : ¬ E2 x → Ev (fun _ => some false) (decide (E2 x) && b) := fun h => ev_const (by simp [h])
  refine ev_succ ?_; simp only [spec_EventsValid.j1, sset_ev, in_ev, Option.bind_some]
  refine ev_neg (by simp) (ev_ite (fun k1 => ?_) (fun k1 => ev_ite (fun k2 => ?_) (fun k2 => ev_ite (fun k3 => ?_) (fun k3 => ?_))))
  · refine ev_ite (fun a => ev_ite (fun c => ev_ite (fun d => yes ?_) (fun d => no ?_)) (fun c => no ?_)) (fun a => no ?_) <;> (clear yes no hi; (try simp only [decide_eq_true_eq, beq_iff_eq, Bool.false_eq_true, false_iff] at *); simp only [E2]; omega)
  · refine ev_ite (fun a => ev_ite (fun c => ev_ite (fun d => yes ?_) (fun d => no ?_)) (fun c => no ?_)) (fun a => no ?_) <;> (clear yes no hi; (try simp only [decide_eq_true_eq, beq_iff_eq, Bool.false_eq_true, false_iff] at *); simp only [E2]; omega)
  · refine ev_ite (fun a => ev_ite (fun c => ev_ite (fun d => yes ?_) (fun d => no ?_)) (fun c => no ?_)) (fun a => no ?_) <;> (clear yes no hi; (try simp only [decide_eq_true_eq, beq_iff_eq, Bool.false_eq_true, false_iff] at *); simp only [E2]; omega)
  · refine no ?_; clear yes no hi; simp only [E2]; omega
theorem spec_ev_loop (xs : List S27) (hb : xs.length ≤ 1099511627776) : ∀ (s p : List S27) (q : Option Int), xs = p ++ s → Last p q →
    Ev (fun k => spec_EventsValid.l0 k xs (p.length : Int)) (decide (EOk q s ∧ (xs.length : Int) ≤ 24)) := by
  intro s
  induction s with
  | nil =>
    intro p q hx hq; refine ev_succ ?_; simp only [spec_EventsValid.l0]
    exact ev_neg (by subst hx; simp) (ev_const (dec_eq (by simp [EOk])))
  | cons x s ih =>
    intro p q hx hq; refine ev_succ ?_
    simp only [spec_EventsValid.l0, rd27s hx, in_ev, Option.bind_some]
    refine ev_pos (len_at hx) (ev_pos (by omega) ?_)
    have hi := ih (p ++ [x]) (some x.f1) (snoc_at hx) (last_snoc p x)
    have hj := spec_j1 xs (p.length : Int) x _ (by rw [wlen hx hb]; exact hi)
    refine ev_ite (fun h1 => ev_ite (fun h2 => ?_) (fun h2 => ev_eq (spec_j1_true xs _ x) ?_)) (fun h1 => ev_eq (spec_j1_true xs _ x) ?_)
    · have h1' : E1 x := ⟨of_decide_eq_true h1, of_decide_eq_true h2⟩
      rcases hq with ⟨rfl, rfl⟩ | ⟨p', y, rfl, rfl⟩
      · refine ev_neg (by simp) (ev_eq hj ?_)
        by_cases h3 : E2 x
        · rw [decide_eq_true h3, Bool.true_and]; refine dec_eq ?_
          simp only [EOk, notAfter]; exact ⟨fun h => ⟨⟨h1', h3, trivial, h.1⟩, h.2⟩, fun h => ⟨h.1.2.2.2, h.2⟩⟩
        · rw [decide_eq_false h3, Bool.false_and]; symm; exact decide_eq_false (fun h => h3 h.1.2.1)
      · have e1 : wrap64 (((p' ++ [y]).length : Int) - 1) = (p'.length : Int) := by
          rw [w64 (by omega) (by subst hx; simp at hb ⊢; omega)]; simp
        have e2 : rd_T27 xs (p'.length : Int) = y := rd27s (q := x :: s) (by subst hx; simp)
        rw [e1, e2]
        refine ev_pos (by simp <;> omega) (ev_pos (by omega) (ev_pos (by subst hx; simp <;> omega) ?_))
        by_cases h4 : y.f1 > x.f1
        · rw [decide_eq_true h4]; refine ev_eq (spec_j1_true xs _ x) ?_
          symm; refine decide_eq_false (fun h => ?_)
          have := h.1.2.2.1; simp only [notAfter] at this; omega
        · rw [decide_eq_false h4]; refine ev_eq hj ?_
          by_cases h3 : E2 x
          · rw [decide_eq_true h3, Bool.true_and]; refine dec_eq ?_
            simp only [EOk, notAfter]; exact ⟨fun h => ⟨⟨h1', h3, by omega, h.1⟩, h.2⟩, fun h => ⟨h.1.2.2.2, h.2⟩⟩
          · rw [decide_eq_false h3, Bool.false_and]; symm; exact decide_eq_false (fun h => h3 h.1.2.1)
    · symm; exact decide_eq_false (fun h => h2 (decide_eq_true h.1.1.2))
    · symm; exact decide_eq_false (fun h => h1 (decide_eq_true h.1.1.1))
theorem spec_valid (xs : List S27) (hb : xs.length ≤ 1099511627776) : Ev (fun k => spec_EventsValid.f k xs) (decide (EValid xs)) :=
  ev_eq (spec_ev_loop xs hb xs [] none rfl (.inl ⟨rfl, rfl⟩)) rfl
def lk (b : Int) : List S27 → Option S27
  | [] => none
  | x :: r => if isMk b x then some x else lk b r
theorem go_lk (b : Int) : ∀ l : List S27, impl_made.go b l = match lk b l with | none => (0, 0, 0, 0, 0, 0, false) | some x => (x.f0, x.f1, x.f2, x.f3, x.f4, x.f5, x.f0 == 1)
  | [] => rfl
  | x :: r => by
    rw [impl_made.go, lk]
    by_cases h : isMk b x
    · rw [if_pos h, if_pos h]
    · rw [if_neg h, if_neg h]; exact go_lk b r
theorem lk_mem (b : Int) : ∀ (l : List S27) (x : S27), lk b l = some x → x ∈ l
  | [], x, h => by simp [lk] at h
  | y :: r, x, h => by
    rw [lk] at h
    by_cases hm : isMk b y
    · rw [if_pos hm] at h; cases h; simp
    · rw [if_neg hm] at h; exact List.mem_cons_of_mem _ (lk_mem b r x h)
def there (pre : List S27) (m b : Int) : Bool := match lk b pre.reverse with | none => false | some x => decide (x.f0 = 1 ∧ m - x.f1 ≤ 120)
def opn (pre : List S27) (m : Int) : Nat → Int → List Int
  | 0, _ => []
  | n + 1, b => if there pre m b = true then b :: opn pre m n (b + 1) else opn pre m n (b + 1)
theorem opn_len (pre : List S27) (m : Int) : ∀ n b, (opn pre m n b).length ≤ n
  | 0, b => by simp [opn]
  | n + 1, b => by have := opn_len pre m n (b + 1); rw [opn]; split <;> simp <;> omega
def manyF (m : Int) : List S27 → Nat
  | [] => 0
  | x :: r => if x.f1 ≤ m then manyF m r + 1 else 0
theorem many_le (m : Int) : ∀ l, manyF m l ≤ l.length
  | [] => by simp [manyF]
  | x :: r => by have := many_le m r; rw [manyF]; split <;> simp <;> omega
def openF (l : List S27) (m : Int) : List Int := if EValid l ∧ (0 ≤ m ∧ m ≤ 1439) then opn (l.take (manyF m l)) m 20 1 else []
theorem EOk.all : ∀ {q : Option Int} {l : List S27}, EOk q l → ∀ x ∈ l, E1 x ∧ E2 x
  | _, [], _, x, h => by cases h
  | q, y :: r, hh, x, h => by
    rcases List.mem_cons.1 h with rfl | h
    · exact ⟨hh.1, hh.2.1⟩
    · exact EOk.all hh.2.2.2 x h
theorem impl_many (xs : List S27) (hb : xs.length ≤ 1099511627776) (m : Int) (out r : List Int) : ∀ (s p : List S27), xs = p ++ s → Ev (fun k => impl_WatchOpen.j2 k xs m out ((p.length + manyF m s : Nat) : Int)) r → Ev (fun k => impl_WatchOpen.l0 k xs m out (p.length : Int)) r := by
  intro s
  induction s with
  | nil => intro p hx hr; refine ev_succ ?_; simp only [impl_WatchOpen.l0]; exact ev_neg (by subst hx; simp) (by simpa [manyF] using hr)
  | cons x s ih =>
    intro p hx hr; refine ev_succ ?_
    simp only [impl_WatchOpen.l0, rd27s hx, wlen hx hb]
    refine ev_pos (len_at hx) (ev_pos (by omega) (ev_ite (fun h => ih (p ++ [x]) (snoc_at hx) ?_) (fun h => ?_)))
    · rw [manyF, if_pos h] at hr
      have e : (p ++ [x]).length + manyF m s = p.length + (manyF m s + 1) := by simp; omega
      rw [e]; exact hr
    · rw [manyF, if_neg h] at hr; exact hr
theorem spec_many (xs : List S27) (hb : xs.length ≤ 1099511627776) (m : Int) (out r : List Int) : ∀ (s p : List S27), xs = p ++ s → Ev (fun k => spec_WatchOpen.j2 k xs m out ((p.length + manyF m s : Nat) : Int)) r → Ev (fun k => spec_WatchOpen.l0 k xs m out (p.length : Int)) r := by
  intro s
  induction s with
  | nil => intro p hx hr; refine ev_succ ?_; simp only [spec_WatchOpen.l0]; exact ev_neg (by subst hx; simp) (by simpa [manyF] using hr)
  | cons x s ih =>
    intro p hx hr; refine ev_succ ?_
    simp only [spec_WatchOpen.l0, rd27s hx, wlen hx hb]
    refine ev_pos (len_at hx) (ev_pos (by omega) (ev_ite (fun h => ih (p ++ [x]) (snoc_at hx) ?_) (fun h => ?_)))
    · rw [manyF, if_pos h] at hr
      have e : (p ++ [x]).length + manyF m s = p.length + (manyF m s + 1) := by simp; omega
      rw [e]; exact hr
    · rw [manyF, if_neg h] at hr; exact hr
theorem impl_open_loop (xs : List S27) (hv : EValid xs) (m : Int) (hm : 0 ≤ m ∧ m ≤ 1439) (n : Nat) (hn : n ≤ xs.length) : ∀ (d : Nat) (b : Int) (out : List Int), b + d = 21 → 1 ≤ b → (out.length : Int) ≤ b →
    Ev (fun k => impl_WatchOpen.l1 k xs m out (n : Int) b) (out ++ opn (xs.take n) m d b) := by
  intro d
  induction d with
  | zero => intro b out hb h1 ho; refine ev_succ ?_; simp only [impl_WatchOpen.l1]; exact ev_neg (by omega) (ev_const (by simp [opn]))
  | succ d ih =>
    intro b out hb h1 ho; refine ev_succ ?_
    simp only [impl_WatchOpen.l1, impl_made.f, Option.bind_some, go_lk]
    rw [w64 (x := b + 1) (by omega) (by omega), opn, there]
    have e : ((n : Int)).toNat = n := by simp
    rw [e]
    refine ev_pos (by omega) (ev_pos (by omega) (ev_pos (by omega) ?_))
    have hmem := lk_mem b (xs.take n).reverse
    cases hl : lk b (xs.take n).reverse with
    | none => exact ev_neg (by simp) (ev_eq (ih (b + 1) out (by omega) (by omega) (by omega)) (by simp))
    | some x =>
      have hx := EOk.all hv.1 x (List.mem_of_mem_take (List.mem_reverse.1 (hmem x hl)))
      have h2 := hx.1.1
      dsimp only
      rw [w64 (x := m - x.f1) (by omega) (by omega)]
      refine ev_ite (fun h3 => ev_ite (fun h4 => ev_pos (by omega) (ev_eq (ih (b + 1) (out ++ [b]) (by omega) (by omega) (by simp; omega)) ?_)) (fun h4 => ev_eq (ih (b + 1) out (by omega) (by omega) (by omega)) ?_)) (fun h3 => ev_eq (ih (b + 1) out (by omega) (by omega) (by omega)) ?_)
      · have h5 : x.f0 = 1 := by simpa using h3
        rw [if_pos (decide_eq_true ⟨h5, h4⟩)]; simp
      · rw [if_neg (by simp only [decide_eq_true_eq]; exact fun z => h4 z.2)]
      · have h5 : ¬ x.f0 = 1 := by simpa using h3
        rw [if_neg (by simp only [decide_eq_true_eq]; exact fun z => h5 z.1)]
def Inv (l : List S27) (b : Int) (p : List S27) (out : Int) : Prop := match lk b p.reverse with
  | none => out = -1
  | some x => (x.f0 = 1 → 0 ≤ out ∧ out < (p.length : Int) ∧ rd_T27 l out = x) ∧ (x.f0 ≠ 1 → out = -1)
theorem made_loop (xs : List S27) (hb : xs.length ≤ 1099511627776) (hv : EValid xs) (b : Int) (n : Nat) (hn : n ≤ xs.length) : ∀ (s p : List S27) (out : Int), xs.take n = p ++ s → Inv xs b p out →
    ∃ r, Ev (fun k => spec_l43Made.l0 k xs (n : Int) b out (p.length : Int)) r ∧ Inv xs b (xs.take n) r := by
  intro s
  induction s with
  | nil =>
    intro p out hx hi
    have hp : p.length = n := by have := congrArg List.length hx; simp at this; omega
    refine ⟨out, ev_succ ?_, by rw [hx]; simpa using hi⟩
    simp only [spec_l43Made.l0]; exact ev_neg (by omega) (Ev.now _)
  | cons x s ih =>
    intro p out hx hi
    have hx2 : xs = p ++ x :: (s ++ xs.drop n) := by
      have e := (List.take_append_drop n xs).symm
      rw [hx] at e
      exact e.trans (by simp)
    have hpn : p.length < n := by have := congrArg List.length hx; simp at this; omega
    have hE := (EOk.all hv.1 x (by rw [hx2]; simp)).2
    have erev : (p ++ [x]).reverse = x :: p.reverse := by simp
    have hstep : ∀ out', Inv xs b (p ++ [x]) out' → (∀ r, Ev (fun k => spec_l43Made.l0 k xs (n : Int) b out' ((p ++ [x]).length : Int)) r → Ev (fun k => spec_l43Made.l0 (k + 1) xs (n : Int) b out (p.length : Int)) r) →
        ∃ r, Ev (fun k => spec_l43Made.l0 k xs (n : Int) b out (p.length : Int)) r ∧ Inv xs b (xs.take n) r := by
      intro out' h1 h2
      obtain ⟨r, h3, h4⟩ := ih (p ++ [x]) out' (by rw [hx]; simp) h1
      exact ⟨r, ev_succ (h2 r h3), h4⟩
    by_cases hbx : x.f2 = b
    · by_cases h1 : x.f0 = 1
      · refine hstep (p.length : Int) ?_ (fun r hr => ?_)
        · unfold Inv; rw [erev, lk, if_pos ⟨hbx, by omega⟩]
          exact ⟨fun _ => ⟨by omega, by simp; omega, rd27s hx2⟩, fun h => absurd h1 h⟩
        · simp only [spec_l43Made.l0, rd27s hx2, wlen hx2 hb]
          exact ev_pos (by omega) (ev_pos (by omega) (ev_pos (by omega) (ev_pos hbx (ev_pos h1 hr))))
      · by_cases h3 : x.f0 = 3
        · refine hstep (-1) ?_ (fun r hr => ?_)
          · unfold Inv; rw [erev, lk, if_pos ⟨hbx, by omega⟩]
            exact ⟨fun h => absurd h h1, fun _ => rfl⟩
          · simp only [spec_l43Made.l0, rd27s hx2, wlen hx2 hb]
            exact ev_pos (by omega) (ev_pos (by omega) (ev_pos (by omega) (ev_pos hbx (ev_neg h1 (ev_pos h3 hr)))))
        · have h2 : x.f0 = 2 := by
            have hE' := hE
            simp only [E2] at hE'; omega
          refine hstep out ?_ (fun r hr => ?_)
          · unfold Inv at hi ⊢
            rw [erev, lk, if_neg (fun h => h.2 h2)]
            cases hl : lk b p.reverse with
            | none => rw [hl] at hi; exact hi
            | some y => rw [hl] at hi; exact ⟨fun h => ⟨(hi.1 h).1, by have := (hi.1 h).2.1; simp; omega, (hi.1 h).2.2⟩, hi.2⟩
          · simp only [spec_l43Made.l0, rd27s hx2, wlen hx2 hb]
            exact ev_pos (by omega) (ev_pos (by omega) (ev_pos (by omega) (ev_pos hbx (ev_neg h1 (ev_neg h3 hr)))))
    · refine hstep out ?_ (fun r hr => ?_)
      · unfold Inv at hi ⊢
        rw [erev, lk, if_neg (fun h => hbx h.1)]
        cases hl : lk b p.reverse with
        | none => rw [hl] at hi; exact hi
        | some y => rw [hl] at hi; exact ⟨fun h => ⟨(hi.1 h).1, by have := (hi.1 h).2.1; simp; omega, (hi.1 h).2.2⟩, hi.2⟩
      · simp only [spec_l43Made.l0, rd27s hx2, wlen hx2 hb]
        exact ev_pos (by omega) (ev_pos (by omega) (ev_pos (by omega) (ev_neg hbx hr)))
theorem spec_open_loop (xs : List S27) (hbx : xs.length ≤ 1099511627776) (hv : EValid xs) (m : Int) (hm : 0 ≤ m ∧ m ≤ 1439) (n : Nat) (hn : n ≤ xs.length) : ∀ (d : Nat) (b : Int) (out : List Int), b + d = 21 → 1 ≤ b → (out.length : Int) ≤ b →
    Ev (fun k => spec_WatchOpen.l1 k xs m out (n : Int) b) (out ++ opn (xs.take n) m d b) := by
  intro d
  induction d with
  | zero => intro b out hb h1 ho; refine ev_succ ?_; simp only [spec_WatchOpen.l1]; exact ev_neg (by omega) (ev_const (by simp [opn]))
  | succ d ih =>
    intro b out hb h1 ho; refine ev_succ ?_
    obtain ⟨r, hr, hi⟩ := made_loop xs hbx hv b n hn (xs.take n) [] (-1) rfl (by simp [Inv, lk])
    simp only [spec_WatchOpen.l1]
    rw [w64 (x := b + 1) (by omega) (by omega), opn, there]
    refine ev_pos (by omega) (Ev.bind (show Ev (fun k => spec_l43Made.f k xs (n : Int) b) r from hr) ?_)
    unfold Inv at hi
    have hmem := lk_mem b (xs.take n).reverse
    cases hl : lk b (xs.take n).reverse with
    | none =>
      rw [hl] at hi
      dsimp only at hi
      exact ev_neg (by omega) (ev_eq (ih (b + 1) out (by omega) (by omega) (by omega)) (by simp))
    | some x =>
      rw [hl] at hi
      dsimp only at hi
      have hx := EOk.all hv.1 x (List.mem_of_mem_take (List.mem_reverse.1 (hmem x hl)))
      have h2 := hx.1.1
      dsimp only
      by_cases h3 : x.f0 = 1
      · obtain ⟨i1, i2, i3⟩ := hi.1 h3
        have i4 : r < (xs.length : Int) := by simp at i2; omega
        rw [i3, w64 (x := x.f1 + 120) (by omega) (by omega)]
        refine ev_pos (by omega) (ev_pos i1 (ev_pos i4 (ev_ite (fun h4 => ev_pos (by omega) (ev_eq (ih (b + 1) (out ++ [b]) (by omega) (by omega) (by simp; omega)) ?_)) (fun h4 => ev_eq (ih (b + 1) out (by omega) (by omega) (by omega)) ?_))))
        · rw [if_pos (decide_eq_true ⟨h3, by omega⟩)]; simp
        · rw [if_neg (by simp only [decide_eq_true_eq]; exact fun z => h4 (by have := z.2; omega))]
      · have := hi.2 h3
        refine ev_neg (by omega) (ev_eq (ih (b + 1) out (by omega) (by omega) (by omega)) ?_)
        rw [if_neg (by simp only [decide_eq_true_eq]; exact fun z => h3 z.1)]
theorem impl_open (xs : List S27) (hb : xs.length ≤ 1099511627776) (m : Int) : Ev (fun k => impl_WatchOpen.f k xs m) (openF xs m) := by
  have no : ∀ t, t = true → Ev (fun k => impl_WatchOpen.j0 k xs m [] t) [] := by
    intro t ht; refine ev_succ ?_; simp only [impl_WatchOpen.j0]; exact ev_pos ht (Ev.now _)
  unfold impl_WatchOpen.f openF
  simp only [Option.bind_some, minute_ev]
  refine Ev.bind (impl_valid xs hb) (ev_ite (fun h1 => ?_) (fun h1 => ?_))
  · have h1' := of_decide_eq_true h1
    by_cases h2 : 0 ≤ m ∧ m ≤ 1439
    · rw [if_pos ⟨h1', h2⟩]
      refine ev_succ ?_; simp only [impl_WatchOpen.j0]
      refine ev_neg (by simp [h2]) (impl_many xs hb m [] _ xs [] rfl (ev_succ ?_))
      simp only [impl_WatchOpen.j2]
      have := impl_open_loop xs h1' m h2 (manyF m xs) (many_le m xs) 20 1 [] (by omega) (by omega) (by simp)
      simpa using this
    · rw [if_neg (fun z => h2 z.2)]; exact no _ (by simp [h2])
  · rw [if_neg (fun z => h1 (decide_eq_true z.1))]; exact no _ rfl
theorem spec_open (xs : List S27) (hb : xs.length ≤ 1099511627776) (m : Int) : Ev (fun k => spec_WatchOpen.f k xs m) (openF xs m) := by
  have no : ∀ t, t = true → Ev (fun k => spec_WatchOpen.j0 k xs m [] t) [] := by
    intro t ht; refine ev_succ ?_; simp only [spec_WatchOpen.j0]; exact ev_pos ht (Ev.now _)
  unfold spec_WatchOpen.f openF
  simp only [Option.bind_some, in_ev]
  refine Ev.bind (spec_valid xs hb) (ev_ite (fun h1 => ?_) (fun h1 => ?_))
  · have h1' := of_decide_eq_true h1
    by_cases h2 : 0 ≤ m ∧ m ≤ 1439
    · rw [if_pos ⟨h1', h2⟩]
      refine ev_succ ?_; simp only [spec_WatchOpen.j0]
      refine ev_neg (by simp [h2]) (spec_many xs hb m [] _ xs [] rfl (ev_succ ?_))
      simp only [spec_WatchOpen.j2]
      have := spec_open_loop xs hb h1' m h2 (manyF m xs) (many_le m xs) 20 1 [] (by omega) (by omega) (by simp)
      simpa using this
    · rw [if_neg (fun z => h2 z.2)]; exact no _ (by simp [h2])
  · rw [if_neg (fun z => h1 (decide_eq_true z.1))]; exact no _ rfl
theorem open_len (l : List S27) (m : Int) : (openF l m).length ≤ 20 := by
  unfold openF; split
  · exact opn_len _ _ _ _
  · simp
theorem xor_nonneg (a b : Int) (ha : 0 ≤ a) (ha1 : a < 2 ^ 40) (hb : 0 ≤ b) (hb1 : b < 2 ^ 40) : 0 ≤ Go.bits .xor .i64 a b := by
  obtain ⟨a, rfl⟩ := Int.eq_ofNat_of_zero_le ha
  obtain ⟨b, rfl⟩ := Int.eq_ofNat_of_zero_le hb
  have ha' : a < 2 ^ 40 := by omega
  have hb' : b < 2 ^ 40 := by omega
  have e : Go.bits .xor .i64 (a : Int) (b : Int) = (((a ^^^ b : Nat)) : Int) := by
    have hx : a ^^^ b < 2 ^ 40 := Nat.xor_lt_two_pow ha' hb'
    have h1 : a % 2 ^ IntKind.i64.bits = a := Nat.mod_eq_of_lt (by show a < 2 ^ 64; omega)
    have h2 : b % 2 ^ IntKind.i64.bits = b := Nat.mod_eq_of_lt (by show b < 2 ^ 64; omega)
    simp only [Go.bits, BitVec.ofInt_natCast, BitVec.toNat_xor, BitVec.toNat_ofNat, h1, h2]
    rw [IntKind.wrap_i64]; omega
  rw [e]; exact Int.natCast_nonneg _
def Tape (s : List Int) : Prop := s.length ≤ 2000 ∧ ∀ x ∈ s, 0 ≤ x ∧ x ≤ 255
theorem tdiv_eq (a b : Int) (h : 0 ≤ a) : Int.tdiv a b = a / b := Int.tdiv_eq_ediv_of_nonneg h
theorem tmod_eq (a b : Int) (h : 0 ≤ a) : Int.tmod a b = a % b := Int.tmod_eq_emod_of_nonneg h
theorem tmod_lt (a b : Int) (h : 0 ≤ a) (hb : 0 < b) : 0 ≤ Int.tmod a b ∧ Int.tmod a b < b := by
  rw [tmod_eq a b h]; exact ⟨Int.emod_nonneg _ (by omega), Int.emod_lt_of_pos _ hb⟩
theorem pick_ev (s : List Int) (hs : Tape s) (p n : Int) (hp : 0 ≤ p) (hp1 : p ≤ 1073741824) (hn : 1 ≤ n) :
    ∃ v, 0 ≤ v ∧ v < n ∧ Ev (fun k => spec_l6Rd_pick.f k s p n) (v, p + 1) := by
  obtain ⟨hl, hb⟩ := hs
  have e1 : wrap64 (p + 1) = p + 1 := w64 (by omega) (by omega)
  have e2 : wrap64 (p + 1 - 1) = p := by rw [w64 (by omega) (by omega)]; omega
  have hneg : ¬ n < 1 := by omega
  by_cases h0 : s.length = 0
  · refine ⟨0, by omega, by omega, ?_⟩
    refine Ev.congr (f := fun k => spec_l6Rd_pick.j0 k n true s (p + 1)) (fun k => ?_) ?_
    · simp only [spec_l6Rd_pick.f, if_neg hneg, e1, h0]; rfl
    · refine ev_succ ?_
      simp only [spec_l6Rd_pick.j0, if_true]
      exact Ev.now _
  · have hlen : ((s.length : Int) == 0) = false := by simp; simpa using h0
    have key : ∃ v, 0 ≤ v ∧ v < n ∧ Ev (fun k => spec_l6Rd_pick.j0 k n false s (p + 1)) (v, p + 1) := by
      by_cases h1 : p < (s.length : Int)
      · have hm := hb _ (rd_lt s p hp h1)
        have e3 : wrap64 (rd s p) = rd s p := w64 (by omega) (by omega)
        obtain ⟨a, b⟩ := tmod_lt (rd s p) n hm.1 (by omega)
        refine ⟨_, a, b, ev_succ ?_⟩
        simp only [spec_l6Rd_pick.j0, e2, e3]
        refine ev_neg (by simp) (ev_pos h1 (ev_pos hp (ev_neg (by omega) (Ev.now _))))
      · have hL : (0 : Int) < s.length := by omega
        have q1 := tmod_lt p (s.length : Int) hp hL
        have e4 : wrap64 (p * 7) = p * 7 := w64 (by omega) (by omega)
        have e5 : wrap64 (p * 7 + 3) = p * 7 + 3 := w64 (by omega) (by omega)
        have q2 := tmod_lt (p * 7 + 3) (s.length : Int) (by omega) hL
        have m1 := hb _ (rd_lt s _ q1.1 q1.2)
        have m2 := hb _ (rd_lt s _ q2.1 q2.2)
        have hd : 0 ≤ p / (s.length : Int) ∧ p / (s.length : Int) ≤ p := ⟨Int.ediv_nonneg hp (by omega), Int.ediv_le_self _ hp⟩
        generalize hA : rd s (Int.tmod p (s.length : Int)) = A at m1
        generalize hB : rd s (Int.tmod (p * 7 + 3) (s.length : Int)) = B at m2
        generalize hD : p / (s.length : Int) = D at hd
        have eD : Int.tdiv p (s.length : Int) = D := by rw [tdiv_eq _ _ hp, hD]
        have f1 : wrap64 A = A := w64 (by omega) (by omega)
        have f2 : wrap64 (A * 131) = A * 131 := w64 (by omega) (by omega)
        have f3 : wrap64 B = B := w64 (by omega) (by omega)
        have f4 : wrap64 (B * 1117) = B * 1117 := w64 (by omega) (by omega)
        have f5 : wrap64 (A * 131 + B * 1117) = A * 131 + B * 1117 := w64 (by omega) (by omega)
        have f6 : wrap64 (p * 29) = p * 29 := w64 (by omega) (by omega)
        have f7 : wrap64 (A * 131 + B * 1117 + p * 29) = A * 131 + B * 1117 + p * 29 := w64 (by omega) (by omega)
        have f8 : wrap64 D = D := w64 (by omega) (by omega)
        have f9 : wrap64 (D * 53) = D * 53 := w64 (by omega) (by omega)
        have f10 : wrap64 (A * 131 + B * 1117 + p * 29 + D * 53) = A * 131 + B * 1117 + p * 29 + D * 53 := w64 (by omega) (by omega)
        generalize hX : A * 131 + B * 1117 + p * 29 + D * 53 = X at f10
        have hX0 : 0 ≤ X ∧ X < 2 ^ 40 := by omega
        have eX : Int.tdiv X 64 = X / 64 := tdiv_eq _ _ hX0.1
        have f11 : wrap64 (X / 64) = X / 64 := w64 (by omega) (by omega)
        have hx := xor_nonneg X (X / 64) hX0.1 hX0.2 (by omega) (by omega)
        obtain ⟨a, b⟩ := tmod_lt (Go.bits .xor .i64 X (X / 64)) n hx (by omega)
        refine ⟨_, a, b, ev_succ ?_⟩
        simp only [spec_l6Rd_pick.j0, e2, e4, e5, hA, hB, eD, f1, f2, f3, f4, f5, f6, f7, f8, f9, hX, f10, eX, f11]
        exact ev_neg (by simp) (ev_neg h1 (ev_neg (by omega) (ev_pos q1.1 (ev_pos q1.2 (ev_pos q2.1 (ev_pos q2.2 (ev_neg (by omega) (Ev.now _))))))))
    obtain ⟨v, a, b, h⟩ := key
    refine ⟨v, a, b, Ev.congr (fun k => ?_) h⟩
    simp only [spec_l6Rd_pick.f, if_neg hneg, e1, hlen]
theorem open_tape (l : List Int) (hl : ∀ x ∈ l, (Lit.int .u8 x).wf = true) : ∃ s, Tape s ∧ spec_l6Open.f l = some (s, 0) := by
  have hw : ∀ x ∈ l, 0 ≤ x ∧ x ≤ 255 := fun x hx => by
    have := hl x hx
    simp [Lit.wf, IntKind.min, IntKind.max, IntKind.signed, IntKind.bits] at this
    omega
  unfold spec_l6Open.f
  by_cases h : (l.length : Int) > 2000
  · rw [if_pos h, if_pos (by omega)]
    exact ⟨_, ⟨by simp; omega, fun x hx => hw x (List.mem_of_mem_take hx)⟩, rfl⟩
  · rw [if_neg h]
    exact ⟨l, ⟨by omega, hw⟩, rfl⟩
theorem p2le (a b : Nat) (h : a ≤ b) : (2 : Int) ^ a ≤ 2 ^ b := by
  have h1 := Nat.pow_le_pow_right (n := 2) (by omega) h
  have e : ∀ n : Nat, (2 : Int) ^ n = ((2 ^ n : Nat) : Int) := fun n => by simp
  rw [e, e]; omega
theorem weight_loop (n : Int) : ∀ (d : Nat) (x i : Int), 0 ≤ i → i + d = n → n ≤ 62 → 0 ≤ x → x * 2 ^ d ≤ 4611686018427387904 → Ev (fun k => spec_l3Weight.l0 k n x i) (x * 2 ^ d) := by
  intro d
  induction d with
  | zero => intro x i h0 h1 h2 h3 h4; refine ev_succ ?_; simp only [spec_l3Weight.l0]; exact ev_neg (by omega) (ev_const (by simp))
  | succ d ih =>
    intro x i h0 h1 h2 h3 h4; refine ev_succ ?_; simp only [spec_l3Weight.l0]
    have e : x * 2 ^ (d + 1) = 2 * x * 2 ^ d := by rw [Int.pow_succ, Int.mul_comm 2 x, Int.mul_assoc, Int.mul_comm 2 (2 ^ d)]
    have h5 : 2 * x ≤ 2 * x * 2 ^ d := by
      have : (1 : Int) ≤ 2 ^ d := by have := Int.pow_pos (n := 2) (m := d) (by omega); omega
      have := Int.mul_le_mul_of_nonneg_left this (show 0 ≤ 2 * x by omega)
      omega
    rw [e] at h4 ⊢
    rw [w64 (x := 2 * x) (by omega) (by omega), w64 (x := i + 1) (by omega) (by omega)]
    exact ev_pos (by omega) (ih (2 * x) (i + 1) (by omega) (by omega) h2 (by omega) h4)
theorem weight_ev (n : Nat) (h : n ≤ 8) : Ev (fun k => spec_l3Weight.f k (n : Int)) (2 ^ n) := by
  have h2 : (1 : Int) * 2 ^ n ≤ 4611686018427387904 := by
    have : (2 : Int) ^ n ≤ 2 ^ 8 := p2le n 8 h
    omega
  exact ev_eq (weight_loop n n 1 0 (by omega) (by omega) (by omega) (by omega) h2) (by simp)
theorem weight_ex (v : Int) (h0 : 0 ≤ v) (h : v < 8) : ∃ t, Ev (fun k => spec_l3Weight.f k v) t := by
  obtain ⟨n, rfl⟩ := Int.eq_ofNat_of_zero_le h0
  exact ⟨_, weight_ev n (by omega)⟩
theorem event_ev (s : List Int) (hs : BEv.Tape s) (p m : Int) (hp : 0 ≤ p) (hp1 : p ≤ 100000) :
    ∃ a b c d e f q, q ≤ p + 6 ∧ p ≤ q ∧ Ev (fun k => spec_l92Event.f k s p m) (a, b, c, d, e, f, q) := by
  obtain ⟨v1, x1, y1, g1⟩ := pick_ev s hs p 5 hp (by omega) (by omega)
  obtain ⟨v2, x2, y2, g2⟩ := pick_ev s hs (p + 1) 4 (by omega) (by omega) (by omega)
  obtain ⟨v3, x3, y3, g3⟩ := pick_ev s hs (p + 2) 5 (by omega) (by omega) (by omega)
  obtain ⟨v4, x4, y4, g4⟩ := pick_ev s hs (p + 3) 2 (by omega) (by omega) (by omega)
  obtain ⟨v5, x5, y5, g5⟩ := pick_ev s hs (p + 4) 8 (by omega) (by omega) (by omega)
  obtain ⟨v6, x6, y6, g6⟩ := pick_ev s hs (p + 2) 8 (by omega) (by omega) (by omega)
  have e1 : p + 1 + 1 = p + 2 := by omega
  have e2 : p + 2 + 1 = p + 3 := by omega
  have e3 : p + 3 + 1 = p + 4 := by omega
  rw [e1] at g2; rw [e2] at g3 g6; rw [e3] at g4
  have go : ∀ r : Int × Int × Int × Int × Int × Int × Int, Ev (fun k => spec_l92Event.f k s p m) r → r.2.2.2.2.2.2 ≤ p + 6 → p ≤ r.2.2.2.2.2.2 → ∃ a b c d e f q, q ≤ p + 6 ∧ p ≤ q ∧ Ev (fun k => spec_l92Event.f k s p m) (a, b, c, d, e, f, q) :=
    fun r h h1 h2 => ⟨_, _, _, _, _, _, _, h1, h2, h⟩
  by_cases k1 : rd [1, 2, 2, 2, 3] v1 = 1
  · by_cases k2 : v4 = 0
    · obtain ⟨t, ht⟩ := weight_ex v5 x5 y5
      refine go _ (ev_some (Ev.bind g1 (ev_pos x1 (ev_pos (by simpa using y1) (Ev.bind g2 (ev_pos k1 (Ev.bind g3 (Ev.bind g4 (ev_pos k2 (Ev.bind g5 (Ev.bind ht (Ev.now _)))))))))) )) ?_ ?_ <;> dsimp only <;> omega
    · refine go _ (ev_some (Ev.bind g1 (ev_pos x1 (ev_pos (by simpa using y1) (Ev.bind g2 (ev_pos k1 (Ev.bind g3 (Ev.bind g4 (ev_neg k2 (Ev.now _)))))))) )) ?_ ?_ <;> dsimp only <;> omega
  · by_cases k3 : rd [1, 2, 2, 2, 3] v1 = 2
    · refine go _ (ev_some (Ev.bind g1 (ev_pos x1 (ev_pos (by simpa using y1) (Ev.bind g2 (ev_neg k1 (ev_pos k3 (Ev.bind g6 (Ev.now _))))))) )) ?_ ?_ <;> dsimp only <;> omega
    · refine go _ (ev_some (Ev.bind g1 (ev_pos x1 (ev_pos (by simpa using y1) (Ev.bind g2 (ev_neg k1 (ev_neg k3 (Ev.now _)))))) )) ?_ ?_ <;> dsimp only <;> omega
theorem events_end (s : List Int) (hs : BEv.Tape s) (out : List S27) (n m i p : Int) (hn : n = out.length) (hn1 : out.length ≤ 25) (hi : ¬ i < n) (hp : 0 ≤ p) (hp1 : p ≤ 10000) :
    ∃ l q, l.length = out.length ∧ 0 ≤ q ∧ q ≤ p + 3 ∧ Ev (fun k => spec_l92Events.l0 k out n m i s p) (l, q) := by
  by_cases h0 : n > 0
  · obtain ⟨v1, x1, y1, g1⟩ := pick_ev s hs p n hp (by omega) (by omega)
    obtain ⟨v2, x2, y2, g2⟩ := pick_ev s hs (p + 1) 30 (by omega) (by omega) (by omega)
    obtain ⟨v3, x3, y3, g3⟩ := pick_ev s hs (p + 2) 2 (by omega) (by omega) (by omega)
    have e1 : p + 1 + 1 = p + 2 := by omega
    rw [e1] at g2
    have i1 : v1 < (out.length : Int) := by omega
    have go : ∀ (l : List S27) (q : Int), Ev (fun k => spec_l92Events.l0 (k + 1) out n m i s p) (l, q) → l.length = out.length → 0 ≤ q → q ≤ p + 3 → ∃ l q, l.length = out.length ∧ 0 ≤ q ∧ q ≤ p + 3 ∧ Ev (fun k => spec_l92Events.l0 k out n m i s p) (l, q) :=
      fun l q h h1 h2 h3 => ⟨l, q, h1, h2, h3, ev_succ h⟩
    by_cases k0 : v2 = 0
    · refine go _ _ (by simp only [spec_l92Events.l0]; exact ev_neg hi (ev_pos h0 (Ev.bind g1 (Ev.bind g2 (ev_pos k0 (Ev.bind g3 (ev_pos x1 (ev_pos i1 (Ev.now _))))))))) ?_ ?_ ?_
      · simp
      · dsimp only; omega
      · dsimp only; omega
    · by_cases k1 : v2 = 1
      · refine go _ _ (by simp only [spec_l92Events.l0]; exact ev_neg hi (ev_pos h0 (Ev.bind g1 (Ev.bind g2 (ev_neg k0 (ev_pos k1 (ev_pos x1 (ev_pos i1 (Ev.bind g3 (Ev.now _)))))))))) ?_ ?_ ?_
        · simp
        · dsimp only; omega
        · dsimp only; omega
      · by_cases k2 : v2 = 2
        · refine go _ _ (by simp only [spec_l92Events.l0]; exact ev_neg hi (ev_pos h0 (Ev.bind g1 (Ev.bind g2 (ev_neg k0 (ev_neg k1 (ev_pos k2 (ev_some (Ev.bind g3 (ev_pos x3 (ev_pos (by simpa using y3) (ev_pos x1 (ev_pos i1 (Ev.now _))))))))))))) ) ?_ ?_ ?_
          · simp
          · dsimp only; omega
          · dsimp only; omega
        · refine go _ _ (by simp only [spec_l92Events.l0]; exact ev_neg hi (ev_pos h0 (Ev.bind g1 (Ev.bind g2 (ev_neg k0 (ev_neg k1 (ev_neg k2 (Ev.now _)))))))) ?_ ?_ ?_
          · rfl
          · omega
          · omega
  · refine ⟨out, p, rfl, hp, by omega, ev_succ ?_⟩
    simp only [spec_l92Events.l0]
    exact ev_neg hi (ev_neg h0 (Ev.now _))
theorem events_loop (s : List Int) (hs : BEv.Tape s) (n : Nat) (hn : n ≤ 25) : ∀ (d : Nat) (out : List S27) (m p : Int), out.length + d = n → 0 ≤ p → p + 10 * d ≤ 9000 →
    ∃ l q, l.length = n ∧ 0 ≤ q ∧ q ≤ p + 10 * d + 3 ∧ Ev (fun k => spec_l92Events.l0 k out (n : Int) m (out.length : Int) s p) (l, q) := by
  intro d
  induction d with
  | zero =>
    intro out m p h1 h2 h3
    obtain ⟨l, q, a, b, c, h⟩ := events_end s hs out n m out.length p (by omega) (by omega) (by omega) h2 (by omega)
    exact ⟨l, q, by omega, b, by omega, h⟩
  | succ d ih =>
    intro out m p h1 h2 h3
    obtain ⟨a, b, c, d', e, f, q, hq1, hq2, hE⟩ := event_ev s hs p m h2 (by omega)
    obtain ⟨v, x1, y1, g1⟩ := pick_ev s hs q 40 (by omega) (by omega) (by omega)
    obtain ⟨l, q', r1, r2, r3, r4⟩ := ih (out ++ [⟨a, b, c, d', e, f⟩]) (wrap64 (m + v)) (q + 1) (by simp; omega) (by omega) (by omega)
    refine ⟨l, q', r1, r2, by omega, ev_succ ?_⟩
    simp only [spec_l92Events.l0]
    have ei : wrap64 ((out.length : Int) + 1) = ((out ++ [(⟨a, b, c, d', e, f⟩ : S27)]).length : Int) := by rw [w64 (by omega) (by omega)]; simp
    refine ev_pos (by omega) (Ev.bind hE (ev_pos (by omega) (Ev.bind g1 ?_)))
    dsimp only
    rw [ei]; exact r4
theorem events_ev (s : List Int) (hs : BEv.Tape s) (p : Int) (hp : 0 ≤ p) (hp1 : p ≤ 5000) : ∃ l q, l.length ≤ 25 ∧ 0 ≤ q ∧ q ≤ p + 300 ∧ Ev (fun k => spec_l92Events.f k s p) (l, q) := by
  obtain ⟨v1, x1, y1, g1⟩ := pick_ev s hs p 14 hp (by omega) (by omega)
  obtain ⟨v2, x2, y2, g2⟩ := pick_ev s hs (p + 1) 20 (by omega) (by omega) (by omega)
  obtain ⟨v3, x3, y3, g3⟩ := pick_ev s hs (p + 1 + 1) 2 (by omega) (by omega) (by omega)
  have key : ∀ (n : Nat) (q : Int), n ≤ 25 → 0 ≤ q → q ≤ p + 3 → ∃ l q', l.length ≤ 25 ∧ 0 ≤ q' ∧ q' ≤ p + 300 ∧ Ev (fun k => spec_l92Events.j0 k [] (n : Int) s q) (l, q') := by
    intro n q hn hq0 hq
    obtain ⟨v4, x4, y4, g4⟩ := pick_ev s hs q 200 hq0 (by omega) (by omega)
    obtain ⟨l, q', a, b, c, h⟩ := events_loop s hs n hn n [] v4 (q + 1) (by simp) (by omega) (by omega)
    refine ⟨l, q', by omega, b, by omega, ev_succ ?_⟩
    simp only [spec_l92Events.j0]
    exact Ev.bind g4 h
  unfold spec_l92Events.f
  by_cases k0 : v2 = 0
  · obtain ⟨l, q', a, b, c, h⟩ := key (24 + v3).toNat (p + 1 + 1 + 1) (by omega) (by omega) (by omega)
    refine ⟨l, q', a, b, c, ev_some (Ev.bind g1 (Ev.bind g2 (ev_pos k0 (Ev.bind g3 ?_))))⟩
    have e : wrap64 (24 + v3) = (((24 + v3).toNat : Nat) : Int) := by rw [w64 (by omega) (by omega)]; omega
    dsimp only; rw [e]; exact h
  · obtain ⟨l, q', a, b, c, h⟩ := key v1.toNat (p + 1 + 1) (by omega) (by omega) (by omega)
    refine ⟨l, q', a, b, c, ev_some (Ev.bind g1 (Ev.bind g2 (ev_neg k0 ?_)))⟩
    have e : v1 = ((v1.toNat : Nat) : Int) := by omega
    dsimp only; rw [← e] at h; exact h
theorem draw_open (l : List Int) (hl : ∀ x ∈ l, (Lit.int .u8 x).wf = true) : ∃ es m, es.length ≤ 25 ∧ Ev (fun k => spec_DrawWatchOpen.f k l) (es, m) := by
  obtain ⟨s, hs, ho⟩ := open_tape l hl
  obtain ⟨es, q, h1, h2, h3, h4⟩ := events_ev s hs 0 (by omega) (by omega)
  obtain ⟨v, x1, y1, g1⟩ := pick_ev s hs q 12 h2 (by omega) (by omega)
  obtain ⟨v2, x2, y2, g2⟩ := pick_ev s hs (q + 1) 4 (by omega) (by omega) (by omega)
  obtain ⟨v3, x3, y3, g3⟩ := pick_ev s hs (q + 1) 240 (by omega) (by omega) (by omega)
  by_cases k0 : v = 0
  · refine ⟨es, rd [-1, 0, 1439, 1440] v2, h1, ?_⟩
    simp only [spec_DrawWatchOpen.f, ho]
    exact ev_some (Ev.bind h4 (Ev.bind g1 (ev_pos k0 (ev_some (Ev.bind g2 (ev_pos x2 (ev_pos (by simpa using y2) (Ev.now _))))))))
  · refine ⟨es, wrap64 (v3 * 2), h1, ?_⟩
    simp only [spec_DrawWatchOpen.f, ho]
    exact ev_some (Ev.bind h4 (Ev.bind g1 (ev_neg k0 (Ev.bind g3 (Ev.now _)))))
def G1 (x : S50) : Prop := (1 ≤ x.f0 ∧ x.f0 ≤ 99) ∧ (1 ≤ x.f1 ∧ x.f1 ≤ 4) ∧ (0 ≤ x.f2 ∧ x.f2 ≤ 255)
instance (x : S50) : Decidable (G1 x) := by unfold G1; infer_instance
def above (q : Option Int) (m : Int) : Prop := match q with | none => True | some y => y < m
instance (q : Option Int) (m : Int) : Decidable (above q m) := by unfold above; cases q <;> infer_instance
def GOk : Option Int → List S50 → Prop
  | _, [] => True
  | q, x :: r => G1 x ∧ above q x.f0 ∧ GOk (some x.f0) r
def decGOk : (q : Option Int) → (l : List S50) → Decidable (GOk q l)
  | _, [] => isTrue trivial
  | q, x :: r => by
    unfold GOk
    have := decGOk (some x.f0) r
    infer_instance
instance (q : Option Int) (l : List S50) : Decidable (GOk q l) := decGOk q l
def GValid (l : List S50) : Prop := GOk none l ∧ (l.length : Int) ≤ 10
instance (l : List S50) : Decidable (GValid l) := by unfold GValid; infer_instance
def dietP (d c : Int) : Prop := (1 ≤ c ∧ c ≤ 5) ∧ (d = 1 ∨ (d = 2 ∧ c ≠ 5) ∨ (d = 3 ∧ c ≠ 5 ∧ c ≠ 4) ∨ (d = 4 ∧ c = 1))
instance (d c : Int) : Decidable (dietP d c) := by unfold dietP; infer_instance
def mayB (g : S50) (a c : Int) : Bool := decide (G1 g ∧ (0 ≤ a ∧ a ≤ 255) ∧ g.f2.toNat &&& a.toNat = 0 ∧ dietP g.f1 c)
def badPlate (gs : List S50) (x e : S27) : Bool :=
  decide (e.f1 > x.f1 + 120) || (decide (impl_Guest.go e.f3 0 gs < 0) || !mayB (rd_T50 gs (impl_Guest.go e.f3 0 gs)) x.f4 x.f5)
def wrongB (gs : List S50) (pre : List S27) (e : S27) : Bool :=
  match lk e.f2 pre.reverse with
  | none => if e.f0 = 1 then false else true
  | some x => if e.f0 = 1 then decide (x.f0 = 1) else if e.f0 = 3 then !decide (x.f0 = 1) else if x.f0 = 1 then badPlate gs x e else true
def wr (gs : List S50) : List S27 → List S27 → List Int
  | _, [] => []
  | pre, e :: s => if wrongB gs pre e = true then (pre.length : Int) :: wr gs (pre ++ [e]) s else wr gs (pre ++ [e]) s
theorem same_loop (xs ys : List Int) (hl : xs.length = ys.length) (hb : xs.length ≤ 1099511627776) : ∀ (s t p q : List Int), xs = p ++ s → ys = q ++ t → p.length = q.length →
    Ev (fun k => laws_sameInts.l0 k xs ys (p.length : Int)) (decide (s = t)) := by
  intro s
  induction s with
  | nil =>
    intro t p q h1 h2 h3; refine ev_succ ?_; simp only [laws_sameInts.l0]
    have : t = [] := by subst h1; subst h2; simp at hl; apply List.eq_nil_of_length_eq_zero; omega
    subst this
    exact ev_neg (by subst h1; simp) (ev_const (by simp))
  | cons x s ih =>
    intro t p q h1 h2 h3
    cases t with
    | nil => exfalso; subst h1; subst h2; simp at hl; omega
    | cons y t =>
      refine ev_succ ?_
      have ey : rd ys (p.length : Int) = y := by rw [h3]; exact rds h2
      have hy : (p.length : Int) < (ys.length : Int) := by rw [h3]; exact len_at h2
      simp only [laws_sameInts.l0, rds h1, ey, wlen h1 hb]
      refine ev_pos (len_at h1) (ev_pos (by omega) (ev_pos hy (ev_ite (fun h => ev_eq (ih t (p ++ [x]) (q ++ [y]) (snoc_at h1) (snoc_at h2) (by simp [h3])) (by simp [h])) (fun h => ev_const (by simp [h])))))
theorem same_ev (xs ys : List Int) (hb : xs.length ≤ 1099511627776) : Ev (fun k => laws_sameInts.f k xs ys) (decide (xs = ys)) := by
  unfold laws_sameInts.f
  by_cases h : xs.length = ys.length
  · exact ev_pos (by omega) (same_loop xs ys h hb xs ys [] [] rfl rfl rfl)
  · refine ev_neg (by omega) (ev_const ?_)
    symm; exact decide_eq_false (fun e => h (by rw [e]))
theorem has_loop (xs : List Int) (a : Int) (hb : xs.length ≤ 1099511627776) : ∀ (s p : List Int), xs = p ++ s → Ev (fun k => laws_hasInt.l0 k xs a (p.length : Int)) (decide (a ∈ s)) := by
  intro s
  induction s with
  | nil => intro p h1; refine ev_succ ?_; simp only [laws_hasInt.l0]; exact ev_neg (by subst h1; simp) (ev_const (by simp))
  | cons x s ih =>
    intro p h1; refine ev_succ ?_
    simp only [laws_hasInt.l0, rds h1, wlen h1 hb]
    refine ev_pos (len_at h1) (ev_pos (by omega) (ev_ite (fun h => ev_const (by simp [h])) (fun h => ev_eq (ih (p ++ [x]) (snoc_at h1)) ?_)))
    have : a ≠ x := fun e => h e.symm
    simp [this]
theorem has_ev (xs : List Int) (a : Int) (hb : xs.length ≤ 1099511627776) : Ev (fun k => laws_hasInt.f k xs a) (decide (a ∈ xs)) := has_loop xs a hb xs [] rfl
theorem notAfter_le {q : Option Int} {m n : Int} (h : notAfter q m) (hmn : m ≤ n) : notAfter q n := by
  unfold notAfter at h ⊢; cases q with
  | none => trivial
  | some y => exact Int.le_trans h hmn
theorem EOk.after : ∀ {q : Option Int} {l : List S27}, EOk q l → ∀ x ∈ l, notAfter q x.f1
  | _, [], _, x, h => by cases h
  | q, y :: r, hh, x, h => by
    rcases List.mem_cons.1 h with rfl | h
    · exact hh.2.2.1
    · have := EOk.after hh.2.2.2 x h
      simp only [notAfter] at this
      exact notAfter_le hh.2.2.1 this
theorem EOk.first : ∀ {q q' : Option Int} {l : List S27}, EOk q l → (∀ x ∈ l, notAfter q' x.f1) → EOk q' l
  | _, _, [], _, _ => trivial
  | q, q', y :: r, hh, h => ⟨hh.1, hh.2.1, h y (by simp), hh.2.2.2⟩
theorem EOk.add : ∀ {q : Option Int} {a b : List S27}, EOk q a → EOk none b → (∀ x ∈ b, notAfter q x.f1) → (∀ x ∈ a, ∀ y ∈ b, x.f1 ≤ y.f1) → EOk q (a ++ b)
  | q, [], b, _, hb, h1, _ => EOk.first hb h1
  | q, x :: r, b, ha, hb, h1, h2 => ⟨ha.1, ha.2.1, ha.2.2.1, EOk.add ha.2.2.2 hb (fun y hy => by simp only [notAfter]; exact h2 x (by simp) y hy) (fun z hz y hy => h2 z (by simp [hz]) y hy)⟩
theorem bne_false_of_eq {a b : Bool} (h : a = b) : (a != b) = false := by subst h; simp
end Go.Proofs.Ytnhenfmegpjigaa.BEv
/- FnWatchOpen holds for all bytes. No condition beyond the statement's own. -/
namespace Go.Proofs.Ytnhenfmegpjigaa.Pure
open Go.RowKit Go.Proofs.Ytnhenfmegpjigaa.PEv Go.Proofs.Ytnhenfmegpjigaa.BEv Go.Proofs.YtnhenfmegpjigaaW.PrintWords Go.Proofs.YtnhenfmegpjigaaW.PrintLast Go.Proofs.YtnhenfmegpjigaaW.PrintMore
set_option linter.unusedVariables false
set_option linter.unusedSimpArgs false
/-- whether a batch is there, by the events up to a minute -/
def opB (m b : Int) (t : Bool) : List S27 → Bool
  | [] => t
  | x :: r => opB m b (if x.f1 ≤ m ∧ x.f2 = b ∧ x.f0 ≠ 2 then decide (x.f0 = 1 ∧ m - x.f1 ≤ 120) else t) r
theorem opB_snoc (m b : Int) (x : S27) : ∀ (l : List S27) (t : Bool), opB m b t (l ++ [x]) = if x.f1 ≤ m ∧ x.f2 = b ∧ x.f0 ≠ 2 then decide (x.f0 = 1 ∧ m - x.f1 ≤ 120) else opB m b t l
  | [], t => by simp [opB]
  | y :: r, t => by rw [List.cons_append, opB, opB_snoc m b x r, opB]
theorem opB_late (m b : Int) : ∀ (l : List S27) (t : Bool), (∀ x ∈ l, m < x.f1) → opB m b t l = t
  | [], t, _ => rfl
  | x :: r, t, h => by
    have h1 := h x (by simp)
    rw [opB, if_neg (fun z => by have := z.1; omega)]
    exact opB_late m b r t (fun y hy => h y (by simp [hy]))
theorem opB_append (m b : Int) : ∀ (l r : List S27) (t : Bool), opB m b t (l ++ r) = opB m b (opB m b t l) r
  | [], r, t => rfl
  | x :: l, r, t => by rw [List.cons_append, opB, opB_append m b l r, opB]
theorem opB_lk (m b : Int) : ∀ (r l : List S27), l = r.reverse → (∀ x ∈ l, x.f1 ≤ m) → opB m b false l = there l m b
  | [], l, hl, _ => by subst hl; rfl
  | x :: r, l, hl, h => by
    have e : l = r.reverse ++ [x] := by rw [hl]; simp
    have e2 : l.reverse = x :: r := by rw [hl]; simp
    have hx := h x (by rw [e]; simp)
    have ih := opB_lk m b r r.reverse rfl (fun y hy => h y (by rw [e]; simp at hy ⊢; exact .inl hy))
    rw [there, List.reverse_reverse] at ih
    rw [there, e2, e, opB_snoc, lk]
    by_cases hk : isMk b x
    · rw [if_pos ⟨hx, hk⟩, if_pos hk]
    · rw [if_neg (fun z => hk z.2), if_neg hk]; exact ih
theorem many_split (m : Int) : ∀ (q : Option Int) (l : List S27), EOk q l → (∀ x ∈ l.take (manyF m l), x.f1 ≤ m) ∧ (∀ x ∈ l.drop (manyF m l), m < x.f1)
  | q, [], _ => by simp
  | q, x :: r, h => by
    obtain ⟨h1, h2⟩ := many_split m (some x.f1) r h.2.2.2
    rw [manyF]
    by_cases hx : x.f1 ≤ m
    · rw [if_pos hx]
      simp only [List.take_succ_cons, List.drop_succ_cons, List.mem_cons]
      exact ⟨fun y hy => hy.elim (fun e => e ▸ hx) (h1 y), h2⟩
    · rw [if_neg hx]
      refine ⟨by simp, fun y hy => ?_⟩
      simp only [List.drop_zero, List.mem_cons] at hy
      rcases hy with rfl | hy
      · omega
      · have := EOk.after h.2.2.2 y hy
        simp only [notAfter] at this; omega
theorem opn_mem (pre : List S27) (m : Int) (b : Int) : ∀ (n : Nat) (a : Int), b ∈ opn pre m n a ↔ (a ≤ b ∧ b < a + n ∧ there pre m b = true)
  | 0, a => by simp [opn]; intro h1 h2; omega
  | n + 1, a => by
    have ih := opn_mem pre m b n (a + 1)
    rw [opn]
    by_cases e : b = a
    · subst e
      by_cases h : there pre m b = true
      · rw [if_pos h]; simp [h]; omega
      · rw [if_neg h, ih]; simp [h]
    · have key : (b ∈ if there pre m a = true then a :: opn pre m n (a + 1) else opn pre m n (a + 1)) ↔ b ∈ opn pre m n (a + 1) := by
        split
        · simp [e]
        · exact Iff.rfl
      rw [key, ih]
      constructor
      · rintro ⟨h1, h2, h3⟩; exact ⟨by omega, by push_cast; omega, h3⟩
      · rintro ⟨h1, h2, h3⟩; push_cast at h2; exact ⟨by omega, by omega, h3⟩
/-- ascending -/
def Asc : List Int → Prop
  | [] => True
  | x :: r => (∀ y ∈ r, x < y) ∧ Asc r
theorem opn_asc (pre : List S27) (m : Int) : ∀ (n : Nat) (a : Int), Asc (opn pre m n a)
  | 0, a => trivial
  | n + 1, a => by
    rw [opn]; split
    · exact ⟨fun y hy => by have := (opn_mem pre m y n (a + 1)).1 hy; omega, opn_asc pre m n (a + 1)⟩
    · exact opn_asc pre m n (a + 1)
theorem asc_at : ∀ (p : List Int) (x y : Int) (q : List Int), Asc (p ++ x :: y :: q) → x < y
  | [], x, y, q, h => h.1 y (by simp)
  | z :: p, x, y, q, h => asc_at p x y q h.2
theorem asc_loop (xs : List Int) (hb : xs.length ≤ 1099511627776) (ha : Asc xs) : ∀ (s p : List Int) (x : Int), xs = p ++ x :: s → Ev (fun k => laws_FnWatchOpen.l2 k xs ((p.length + 1 : Nat) : Int)) true := by
  intro s
  induction s with
  | nil => intro p x hx; refine ev_succ ?_; simp only [laws_FnWatchOpen.l2]; exact ev_neg (by subst hx; simp) (Ev.now _)
  | cons y s ih =>
    intro p x hx; refine ev_succ ?_; simp only [laws_FnWatchOpen.l2]
    have hx2 : xs = (p ++ [x]) ++ y :: s := by rw [hx]; simp
    have hl : p.length + 2 ≤ xs.length := by subst hx; simp
    have e1 : wrap64 (((p.length + 1 : Nat) : Int) - 1) = (p.length : Int) := by rw [w64 (by omega) (by omega)]; omega
    have e2 : ((p.length + 1 : Nat) : Int) = ((p ++ [x]).length : Int) := by simp
    have e3 : wrap64 (((p.length + 1 : Nat) : Int) + 1) = (((p ++ [x]).length + 1 : Nat) : Int) := by rw [w64 (by omega) (by omega)]; simp
    rw [e1, e3, rds hx]
    have h1 := ih (p ++ [x]) y hx2
    refine ev_pos (by omega) (ev_pos (by omega) (ev_pos (by omega) (ev_pos (by omega) (ev_neg ?_ h1))))
    rw [e2, rds hx2]
    have := asc_at p x y s (by rw [← hx]; exact ha)
    omega
theorem asc_all (xs : List Int) (hb : xs.length ≤ 1099511627776) (ha : Asc xs) : Ev (fun k => laws_FnWatchOpen.l2 k xs 1) true := by
  cases xs with
  | nil => refine ev_succ ?_; simp only [laws_FnWatchOpen.l2]; exact ev_neg (by simp) (Ev.now _)
  | cons x s => exact asc_loop (x :: s) hb ha s [] x rfl
theorem op_loop (xs : List S27) (hb : xs.length ≤ 1099511627776) (hE : ∀ x ∈ xs, E1 x) (m : Int) (hm : 0 ≤ m ∧ m ≤ 1439) (out : List Int) (ho : out.length ≤ 1099511627776) (b : Int) (hn : Ev (fun k => laws_FnWatchOpen.l0 k xs m out (wrap64 (b + 1))) true) :
    ∀ (s p : List S27) (t : Bool), xs = p ++ s → opB m b t s = decide (b ∈ out) → Ev (fun k => laws_FnWatchOpen.l1 k xs m out b t (p.length : Int)) true := by
  intro s
  induction s with
  | nil =>
    intro p t hx ht; refine ev_succ ?_; simp only [laws_FnWatchOpen.l1]
    refine ev_neg (by subst hx; simp) (Ev.bind (has_ev out b ho) (ev_neg ?_ hn))
    rw [opB] at ht; rw [bne_false_of_eq ht]; simp
  | cons x s ih =>
    intro p t hx ht; refine ev_succ ?_
    simp only [laws_FnWatchOpen.l1, rd27s hx, wlen hx hb]
    have h1 := (hE x (by subst hx; simp)).1
    have step : ∀ t', t' = (if x.f1 ≤ m ∧ x.f2 = b ∧ x.f0 ≠ 2 then decide (x.f0 = 1 ∧ m - x.f1 ≤ 120) else t) → Ev (fun k => laws_FnWatchOpen.l1 k xs m out b t' ((p ++ [x]).length : Int)) true :=
      fun t' e => ih (p ++ [x]) t' (snoc_at hx) (by rw [opB] at ht; rw [e]; exact ht)
    rw [w64 (x := x.f1 + 120) (by omega) (by omega)]
    refine ev_pos (len_at hx) (ev_pos (by omega) (ev_ite (fun k1 => ev_ite (fun k2 => ev_ite (fun k3 => step _ ?_) (fun k3 => ev_ite (fun k4 => step _ ?_) (fun k4 => step _ ?_))) (fun k2 => step _ ?_)) (fun k1 => step _ ?_)))
    · rw [if_neg (fun z => z.2.2 k3)]
    · rw [if_pos ⟨k1, k2, k3⟩]; exact dec_eq ⟨fun z => ⟨k4, by omega⟩, fun z => by have := z.2; omega⟩
    · rw [if_pos ⟨k1, k2, k3⟩]; symm; exact decide_eq_false (fun z => k4 z.1)
    · rw [if_neg (fun z => k2 z.2.1)]
    · rw [if_neg (fun z => k1 z.1)]
theorem FnWatchOpen : laws_FnWatchOpen.Pure := by
  intro l0 _ _ hw
  refine Ev.rounds ?_
  unfold laws_FnWatchOpen.f
  refine ev_ite (fun _ => Ev.now _) (fun _ => ?_)
  obtain ⟨es, m, he, hd⟩ := draw_open l0 hw
  have hb : es.length ≤ 1099511627776 := by omega
  have ho : (openF es m).length ≤ 1099511627776 := by have := open_len es m; omega
  have stop : ∀ t, t = true → Ev (fun k => laws_FnWatchOpen.j0 k es m (openF es m) (openF es m) t) true := by
    intro t ht; refine ev_succ ?_; simp only [laws_FnWatchOpen.j0]; exact ev_pos ht (Ev.bind (same_ev _ _ ho) (ev_const (by simp)))
  refine Ev.bind hd (Ev.bind (impl_open es hb m) (Ev.bind (spec_open es hb m) (Ev.bind (same_ev _ _ ho) (ev_pos (by simp) (Ev.bind (spec_valid es hb) (ev_ite (fun hv => ev_ite (fun _ => stop _ rfl) (fun h1 => ?_)) (fun _ => stop _ rfl)))))))
  by_cases h2 : m > 1439
  · exact stop _ (by simp [h2])
  · dsimp only at h1
    have hv' := of_decide_eq_true hv
    have hm : 0 ≤ m ∧ m ≤ 1439 := ⟨by omega, by omega⟩
    refine ev_succ ?_; simp only [laws_FnWatchOpen.j0]
    refine ev_neg (by simp [h2]) ?_
    have eo : openF es m = opn (es.take (manyF m es)) m 20 1 := by rw [openF, if_pos ⟨hv', hm⟩]
    have hasc : Asc (openF es m) := by rw [eo]; exact opn_asc _ _ _ _
    obtain ⟨s1, s2⟩ := many_split m none es hv'.1
    have hop : ∀ b, opB m b false es = there (es.take (manyF m es)) m b := fun b => by
      have e := (List.take_append_drop (manyF m es) es).symm
      have h3 := opB_append m b (es.take (manyF m es)) (es.drop (manyF m es)) false
      rw [List.take_append_drop] at h3
      rw [h3, opB_late m b _ _ s2]
      exact opB_lk m b _ _ (by rw [List.reverse_reverse]) s1
    have key : ∀ (d : Nat) (b : Int), b + d = 21 → 1 ≤ b → Ev (fun k => laws_FnWatchOpen.l0 k es m (openF es m) b) true := by
      intro d
      induction d with
      | zero => intro b h3 h4; refine ev_succ ?_; simp only [laws_FnWatchOpen.l0]; exact ev_neg (by omega) (asc_all _ ho hasc)
      | succ d ih =>
        intro b h3 h4; refine ev_succ ?_; simp only [laws_FnWatchOpen.l0]
        refine ev_pos (by omega) (op_loop es hb (fun x hx => (EOk.all hv'.1 x hx).1) m hm _ ho b (by rw [w64 (by omega) (by omega)]; exact ih (b + 1) (by omega) (by omega)) es [] false rfl ?_)
        rw [hop b, Bool.eq_iff_iff, decide_eq_true_eq, eo, opn_mem]
        exact ⟨fun h => ⟨h4, by omega, h⟩, fun h => h.2.2⟩
    exact key 20 1 (by omega) (by omega)
end Go.Proofs.Ytnhenfmegpjigaa.Pure

