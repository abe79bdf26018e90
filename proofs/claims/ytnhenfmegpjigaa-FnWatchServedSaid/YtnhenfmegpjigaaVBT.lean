import Derived.Test.YtnhenfmegpjigaaVBWMore
import Derived.Test.YtnhenfmegpjigaaVBWNEv
import Derived.Laws.BitsLemmas
import Derived.Test.YtnhenfmegpjigaaVBPEvx4
import Derived.Test.YtnhenfmegpjigaaVBPEvx5
import Derived.Test.YtnhenfmegpjigaaVBPEvx6
import Derived.Test.YtnhenfmegpjigaaVBPEvx15
import Derived.Test.YtnhenfmegpjigaaVBPEvx16
import Derived.Test.YtnhenfmegpjigaaVBPEvx17
import Derived.Test.YtnhenfmegpjigaaVBPEvx1
import Derived.Test.YtnhenfmegpjigaaVBPEvx3
import Derived.Test.YtnhenfmegpjigaaVBPEvx10
import Derived.Test.YtnhenfmegpjigaaVBPEvx14
import Derived.Test.YtnhenfmegpjigaaVBPEvx20
import Derived.Test.YtnhenfmegpjigaaVBPEvx21
import Derived.Test.YtnhenfmegpjigaaVBPEvx22
import Derived.Test.YtnhenfmegpjigaaVBPEvx25
import Derived.Test.YtnhenfmegpjigaaVBPEvx26
import Derived.Test.YtnhenfmegpjigaaVBPEvx27
import Derived.Test.YtnhenfmegpjigaaVBPEvx23
import Derived.Test.YtnhenfmegpjigaaVBPEvx24
import Derived.Test.YtnhenfmegpjigaaVBPEvx28
import Derived.Test.YtnhenfmegpjigaaVBPEvx29
import Derived.Test.YtnhenfmegpjigaaVBPEvx11
namespace Go.Proofs.Ytnhenfmegpjigaa.BEv
open Go.RowKit Go.Proofs.YtnhenfmegpjigaaW.PrintWords Go.Proofs.YtnhenfmegpjigaaW.PrintLast Go.Proofs.YtnhenfmegpjigaaW.PrintMore
set_option linter.unusedVariables false
set_option linter.unusedSimpArgs false
theorem ev_succ {α : Type} {g : Nat → Option α} {r : α} (h : Ev (fun k => g (k + 1)) r) : Ev g r := Ev.step (fun _ => rfl) h
theorem ev_const {α : Type} {r s : α} (h : r = s) : Ev (fun _ => some r) s := by subst h; exact Ev.now r
theorem ev_pos {α : Type} {c : Prop} [Decidable c] {a b : Nat → Option α} {r : α} (hc : c) (h : Ev a r) : Ev (fun k => if c then a k else b k) r :=
  Ev.congr (fun k => if_pos hc) h
theorem ev_neg {α : Type} {c : Prop} [Decidable c] {a b : Nat → Option α} {r : α} (hc : ¬ c) (h : Ev b r) : Ev (fun k => if c then a k else b k) r :=
  Ev.congr (fun k => if_neg hc) h
theorem ev_ite {α : Type} {c : Prop} [Decidable c] {a b : Nat → Option α} {r : α} (h1 : c → Ev a r) (h2 : ¬ c → Ev b r) : Ev (fun k => if c then a k else b k) r := by
  by_cases hc : c
  · exact ev_pos hc (h1 hc)
  · exact ev_neg hc (h2 hc)
theorem ev_eq {α : Type} {g : Nat → Option α} {r s : α} (h : Ev g r) (e : r = s) : Ev g s := e ▸ h
theorem ev_some {α β : Type} {f : Nat → α → Option β} {a : α} {r : β} (h : Ev (fun n => f n a) r) : Ev (fun n => (some a).bind (f n)) r := h
theorem w64 {x : Int} (h0 : -9223372036854775808 ≤ x) (h1 : x ≤ 9223372036854775807) : wrap64 x = x := by unfold wrap64; omega
theorem getD_at {α : Type} (p : List α) (x : α) (q : List α) (d : α) : (p ++ x :: q).getD p.length d = x := by simp [List.getD]
theorem rd_at (p : List Int) (x : Int) (q : List Int) : rd (p ++ x :: q) (p.length : Int) = x := getD_at p x q 0
theorem rd_lt (l : List Int) (i : Int) (h0 : 0 ≤ i) (h1 : i < l.length) : rd l i ∈ l := by
  unfold rd; rw [List.getD_eq_getElem?_getD, List.getElem?_eq_getElem (by omega)]; exact List.getElem_mem _
theorem rds {xs p : List Int} {x : Int} {q : List Int} (h : xs = p ++ x :: q) : rd xs (p.length : Int) = x := by subst h; exact rd_at p x q
theorem len_at {α : Type} {xs p : List α} {x : α} {q : List α} (h : xs = p ++ x :: q) : (p.length : Int) < (xs.length : Int) := by subst h; simp; omega
theorem snoc_at {α : Type} {xs p : List α} {x : α} {q : List α} (h : xs = p ++ x :: q) : xs = (p ++ [x]) ++ q := by subst h; simp
theorem wlen {α : Type} {xs p : List α} {x : α} {q : List α} (h : xs = p ++ x :: q) (hb : xs.length ≤ 1099511627776) : wrap64 ((p.length : Int) + 1) = ((p ++ [x]).length : Int) := by
  subst h; rw [w64 (by omega) (by simp at hb; omega)]; simp
end Go.Proofs.Ytnhenfmegpjigaa.BEv
namespace Go.Proofs.Ytnhenfmegpjigaa.BEv
open Go.RowKit Go.Proofs.Ytnhenfmegpjigaa.PEv Go.Proofs.YtnhenfmegpjigaaW.PrintWords Go.Proofs.YtnhenfmegpjigaaW.PrintLast Go.Proofs.YtnhenfmegpjigaaW.PrintMore
set_option linter.unusedVariables false
set_option linter.unusedSimpArgs false
theorem in_ev (a b c : Int) : spec_l6In.f a b c = some (decide (b ≤ a ∧ a ≤ c)) := by
  unfold spec_l6In.f
  by_cases h : a ≥ b
  · rw [if_pos h]; simp; omega
  · rw [if_neg h]; simp; omega
theorem within_ev (a b c : Int) : impl_within.f a b c = some (decide (b ≤ a ∧ a ≤ c)) := by
  unfold impl_within.f
  by_cases h : a ≥ b
  · rw [if_pos h]; simp; omega
  · rw [if_neg h]; simp; omega
theorem minute_ev (a : Int) : impl_isMinute.f a = some (decide (0 ≤ a ∧ a ≤ 1439)) := by unfold impl_isMinute.f; rw [within_ev]; rfl
theorem set_ev (a : Int) : impl_isSet.f a = some (decide (0 ≤ a ∧ a ≤ 255)) := by unfold impl_isSet.f; rw [within_ev]; rfl
theorem id_ev (a : Int) : impl_isId.f a = some (decide (1 ≤ a ∧ a ≤ 20)) := by unfold impl_isId.f; rw [within_ev]; rfl
theorem kind_ev (a : Int) : impl_isKind.f a = some (decide (1 ≤ a ∧ a ≤ 5)) := by unfold impl_isKind.f; rw [within_ev]; rfl
theorem sset_ev (a : Int) : spec_l3Set.f a = some (decide (0 ≤ a ∧ a ≤ 255)) := by unfold spec_l3Set.f; rw [in_ev]; rfl
def E1 (x : S27) : Prop := (0 ≤ x.f1 ∧ x.f1 ≤ 1439) ∧ (1 ≤ x.f2 ∧ x.f2 ≤ 20)
def E2 (x : S27) : Prop := (x.f0 = 1 ∧ x.f3 = 0 ∧ (0 ≤ x.f4 ∧ x.f4 ≤ 255) ∧ (1 ≤ x.f5 ∧ x.f5 ≤ 5)) ∨ (x.f0 = 2 ∧ (1 ≤ x.f3 ∧ x.f3 ≤ 99) ∧ x.f4 = 0 ∧ x.f5 = 0) ∨ (x.f0 = 3 ∧ x.f3 = 0 ∧ x.f4 = 0 ∧ x.f5 = 0)
instance (x : S27) : Decidable (E1 x) := by unfold E1; infer_instance
instance (x : S27) : Decidable (E2 x) := by unfold E2; infer_instance
def notAfter (q : Option Int) (m : Int) : Prop := match q with | none => True | some y => y ≤ m
instance (q : Option Int) (m : Int) : Decidable (notAfter q m) := by unfold notAfter; cases q <;> infer_instance
def EOk : Option Int → List S27 → Prop
  | _, [] => True
  | q, x :: r => E1 x ∧ E2 x ∧ notAfter q x.f1 ∧ EOk (some x.f1) r
def decEOk : (q : Option Int) → (l : List S27) → Decidable (EOk q l)
  | _, [] => isTrue trivial
  | q, x :: r => by
    unfold EOk
    have := decEOk (some x.f1) r
    infer_instance
instance (q : Option Int) (l : List S27) : Decidable (EOk q l) := decEOk q l
def EValid (l : List S27) : Prop := EOk none l ∧ (l.length : Int) ≤ 24
instance (l : List S27) : Decidable (EValid l) := by unfold EValid; infer_instance
def Last (p : List S27) (q : Option Int) : Prop := (p = [] ∧ q = none) ∨ ∃ p' y, p = p' ++ [y] ∧ q = some y.f1
theorem last_snoc (p : List S27) (x : S27) : Last (p ++ [x]) (some x.f1) := .inr ⟨p, x, rfl, rfl⟩
theorem rd27s {xs p : List S27} {x : S27} {q : List S27} (h : xs = p ++ x :: q) : rd_T27 xs (p.length : Int) = x := by subst h; exact getD_at p x q z27
theorem dec_eq {p q : Prop} [Decidable p] [Decidable q] (h : p ↔ q) : decide p = decide q := by simp [h]
theorem eventValid_ev (x : S27) : Ev (fun k => impl_eventValid.f k x.f0 x.f1 x.f2 x.f3 x.f4 x.f5) (decide (E1 x ∧ E2 x)) := by
  have h0 : ∀ b : Bool, b = true → Ev (fun k => impl_eventValid.j0 k b x.f0 x.f1 x.f2 x.f3 x.f4 x.f5) false := by
    intro b hb; refine ev_succ ?_; simp only [impl_eventValid.j0]; exact ev_pos hb (Ev.now _)
  have h1 : Ev (fun k => impl_eventValid.j0 k false x.f0 x.f1 x.f2 x.f3 x.f4 x.f5) (decide (E2 x)) := by
    refine ev_succ ?_; simp only [impl_eventValid.j0, set_ev, kind_ev, within_ev, Option.bind_some]
    refine ev_neg (by simp) (ev_ite (fun k1 => ?_) (fun k1 => ev_ite (fun k2 => ?_) (fun k2 => ev_ite (fun k3 => ?_) (fun k3 => ?_))))
    · refine ev_ite (fun a => ev_ite (fun b => ev_const ?_) (fun b => ev_const ?_)) (fun a => ev_const ?_) <;> clear h0 <;> (rw [Bool.eq_iff_iff]; (try simp only [decide_eq_true_eq, beq_iff_eq, Bool.false_eq_true, false_iff] at *); simp only [E2]; omega)
    · refine ev_ite (fun a => ev_ite (fun b => ev_const ?_) (fun b => ev_const ?_)) (fun a => ev_const ?_) <;> clear h0 <;> (rw [Bool.eq_iff_iff]; (try simp only [decide_eq_true_eq, beq_iff_eq, Bool.false_eq_true, false_iff] at *); simp only [E2]; omega)
    · refine ev_ite (fun a => ev_ite (fun b => ev_const ?_) (fun b => ev_const ?_)) (fun a => ev_const ?_) <;> clear h0 <;> (rw [Bool.eq_iff_iff]; (try simp only [decide_eq_true_eq, beq_iff_eq, Bool.false_eq_true, false_iff] at *); simp only [E2]; omega)
    · refine ev_const ?_; clear h0; (rw [Bool.eq_iff_iff]; (try simp only [decide_eq_true_eq, beq_iff_eq, Bool.false_eq_true, false_iff] at *); simp only [E2]; omega)
  unfold impl_eventValid.f
  simp only [minute_ev, id_ev, Option.bind_some]
  refine ev_ite (fun a => ?_) (fun a => ev_eq (h0 true rfl) ?_)
  · by_cases hb : 1 ≤ x.f2 ∧ x.f2 ≤ 20
    · have e : (!decide (1 ≤ x.f2 ∧ x.f2 ≤ 20)) = false := by simp [hb]
      rw [e]; refine ev_eq h1 (dec_eq ⟨fun h => ⟨⟨of_decide_eq_true a, hb⟩, h⟩, fun h => h.2⟩)
    · refine ev_eq (h0 _ (by simp [hb])) ?_
      symm; exact decide_eq_false (fun h => hb h.1.2)
  · symm; exact decide_eq_false (fun h => a (decide_eq_true h.1.1))
theorem impl_ev_loop (xs : List S27) (hb : xs.length ≤ 1099511627776) : ∀ (s p : List S27) (q : Option Int), xs = p ++ s → Last p q →
    Ev (fun k => impl_EventsValid.l0 k xs xs (xs.length : Int) (p.length : Int)) (decide (EOk q s ∧ (xs.length : Int) ≤ 24)) := by
  intro s
  induction s with
  | nil =>
    intro p q hx hq; refine ev_succ ?_; simp only [impl_EventsValid.l0]
    exact ev_neg (by subst hx; simp) (ev_const (dec_eq (by simp [EOk])))
  | cons x s ih =>
    intro p q hx hq; refine ev_succ ?_
    simp only [impl_EventsValid.l0, rd27s hx, wlen hx hb]
    refine ev_pos (len_at hx) (ev_pos (by omega) (ev_pos (len_at hx) (Ev.bind (eventValid_ev x) ?_)))
    have hi := ih (p ++ [x]) (some x.f1) (snoc_at hx) (last_snoc p x)
    refine ev_ite (fun h1 => ?_) (fun h1 => ev_const ?_)
    · have h1' := of_decide_eq_true h1
      rcases hq with ⟨rfl, rfl⟩ | ⟨p', y, rfl, rfl⟩
      · refine ev_neg (by simp) (ev_eq hi (dec_eq ?_))
        simp only [EOk, notAfter]; exact ⟨fun h => ⟨⟨h1'.1, h1'.2, trivial, h.1⟩, h.2⟩, fun h => ⟨h.1.2.2.2, h.2⟩⟩
      · have e1 : wrap64 (((p' ++ [y]).length : Int) - 1) = (p'.length : Int) := by
          rw [w64 (by omega) (by subst hx; simp at hb ⊢; omega)]; simp
        have e2 : rd_T27 xs (p'.length : Int) = y := rd27s (q := x :: s) (by subst hx; simp)
        rw [e1, e2]
        refine ev_pos (by simp <;> omega) (ev_pos (by omega) (ev_pos (by subst hx; simp <;> omega) (ev_ite (fun h3 => ev_const ?_) (fun h3 => ev_eq hi (dec_eq ?_)))))
        · symm; refine decide_eq_false (fun h => ?_)
          have := h.1.2.2.1; simp only [notAfter] at this; omega
        · simp only [EOk, notAfter]; exact ⟨fun h => ⟨⟨h1'.1, h1'.2, by omega, h.1⟩, h.2⟩, fun h => ⟨h.1.2.2.2, h.2⟩⟩
    · symm; refine decide_eq_false (fun h => h1 (decide_eq_true ⟨h.1.1, h.1.2.1⟩))
theorem impl_valid (xs : List S27) (hb : xs.length ≤ 1099511627776) : Ev (fun k => impl_EventsValid.f k xs) (decide (EValid xs)) :=
  ev_eq (impl_ev_loop xs hb xs [] none rfl (.inl ⟨rfl, rfl⟩)) rfl
theorem spec_j1_true (xs : List S27) (i : Int) (x : S27) : Ev (fun k => spec_EventsValid.j1 k xs i true x.f0 x.f1 x.f2 x.f3 x.f4 x.f5) false := by
  refine ev_succ ?_; simp only [spec_EventsValid.j1]; exact ev_pos (by simp) (Ev.now _)
theorem spec_j1 (xs : List S27) (i : Int) (x : S27) (b : Bool) (hi : Ev (fun k => spec_EventsValid.l0 k xs (wrap64 (i + 1))) b) :
    Ev (fun k => spec_EventsValid.j1 k xs i false x.f0 x.f1 x.f2 x.f3 x.f4 x.f5) (decide (E2 x) && b) := by
  have yes : E2 x → Ev (fun k => spec_EventsValid.l0 k xs (wrap64 (i + 1))) (decide (E2 x) && b) := fun h => ev_eq hi (by simp [h])
  have no : ¬ E2 x → Ev (fun _ => some false) (decide (E2 x) && b) := fun h => ev_const (by simp [h])
  refine ev_succ ?_; simp only [spec_EventsValid.j1, sset_ev, in_ev, Option.bind_some]
  refine ev_neg (by simp) (ev_ite (fun k1 => ?_) (fun k1 => ev_ite (fun k2 => ?_) (fun k2 => ev_ite (fun k3 => ?_) (fun k3 => ?_))))
  · refine ev_ite (fun a => ev_ite (fun c => ev_ite (fun d => yes ?_) (fun d => no ?_)) (fun c => no ?_)) (fun a => no ?_) <;> (clear yes no hi; (try simp only [decide_eq_true_eq, beq_iff_eq, Bool.false_eq_true, false_iff] at *); simp only [E2]; omega)
  · refine ev_ite (fun a => ev_ite (fun c => ev_ite (fun d => yes ?_) (fun d => no ?_)) (fun c => no ?_)) (fun a => no ?_) <;> (clear yes no hi; (try simp only [decide_eq_true_eq, beq_iff_eq, Bool.false_eq_true, false_iff] at *); simp only [E2]; omega)
  · refine ev_ite (fun a => ev_ite (fun c => ev_ite (fun d => yes ?_) (fun d => no ?_)) (fun c => no ?_)) (fun a => no ?_) <;> (clear yes no hi; (try simp only [decide_eq_true_eq, beq_iff_eq, Bool.false_eq_true, false_iff] at *); simp only [E2]; omega)
  · refine no ?_; clear yes no hi; simp only [E2]; omega
theorem spec_ev_loop (xs : List S27) (hb : xs.length ≤ 1099511627776) : ∀ (s p : List S27) (q : Option Int), xs = p ++ s → Last p q →
    Ev (fun k => spec_EventsValid.l0 k xs (p.length : Int)) (decide (EOk q s ∧ (xs.length : Int) ≤ 24)) := by
  intro s
  induction s with
  | nil =>
    intro p q hx hq; refine ev_succ ?_; simp only [spec_EventsValid.l0]
    exact ev_neg (by subst hx; simp) (ev_const (dec_eq (by simp [EOk])))
  | cons x s ih =>
    intro p q hx hq; refine ev_succ ?_
    simp only [spec_EventsValid.l0, rd27s hx, in_ev, Option.bind_some]
    refine ev_pos (len_at hx) (ev_pos (by omega) ?_)
    have hi := ih (p ++ [x]) (some x.f1) (snoc_at hx) (last_snoc p x)
    have hj := spec_j1 xs (p.length : Int) x _ (by rw [wlen hx hb]; exact hi)
    refine ev_ite (fun h1 => ev_ite (fun h2 => ?_) (fun h2 => ev_eq (spec_j1_true xs _ x) ?_)) (fun h1 => ev_eq (spec_j1_true xs _ x) ?_)
    · have h1' : E1 x := ⟨of_decide_eq_true h1, of_decide_eq_true h2⟩
      rcases hq with ⟨rfl, rfl⟩ | ⟨p', y, rfl, rfl⟩
      · refine ev_neg (by simp) (ev_eq hj ?_)
        by_cases h3 : E2 x
        · rw [decide_eq_true h3, Bool.true_and]; refine dec_eq ?_
          simp only [EOk, notAfter]; exact ⟨fun h => ⟨⟨h1', h3, trivial, h.1⟩, h.2⟩, fun h => ⟨h.1.2.2.2, h.2⟩⟩
        · rw [decide_eq_false h3, Bool.false_and]; symm; exact decide_eq_false (fun h => h3 h.1.2.1)
      · have e1 : wrap64 (((p' ++ [y]).length : Int) - 1) = (p'.length : Int) := by
          rw [w64 (by omega) (by subst hx; simp at hb ⊢; omega)]; simp
        have e2 : rd_T27 xs (p'.length : Int) = y := rd27s (q := x :: s) (by subst hx; simp)
        rw [e1, e2]
        refine ev_pos (by simp <;> omega) (ev_pos (by omega) (ev_pos (by subst hx; simp <;> omega) ?_))
        by_cases h4 : y.f1 > x.f1
        · rw [decide_eq_true h4]; refine ev_eq (spec_j1_true xs _ x) ?_
          symm; refine decide_eq_false (fun h => ?_)
          have := h.1.2.2.1; simp only [notAfter] at this; omega
        · rw [decide_eq_false h4]; refine ev_eq hj ?_
          by_cases h3 : E2 x
          · rw [decide_eq_true h3, Bool.true_and]; refine dec_eq ?_
            simp only [EOk, notAfter]; exact ⟨fun h => ⟨⟨h1', h3, by omega, h.1⟩, h.2⟩, fun h => ⟨h.1.2.2.2, h.2⟩⟩
          · rw [decide_eq_false h3, Bool.false_and]; symm; exact decide_eq_false (fun h => h3 h.1.2.1)
    · symm; exact decide_eq_false (fun h => h2 (decide_eq_true h.1.1.2))
    · symm; exact decide_eq_false (fun h => h1 (decide_eq_true h.1.1.1))
theorem spec_valid (xs : List S27) (hb : xs.length ≤ 1099511627776) : Ev (fun k => spec_EventsValid.f k xs) (decide (EValid xs)) :=
  ev_eq (spec_ev_loop xs hb xs [] none rfl (.inl ⟨rfl, rfl⟩)) rfl
def lk (b : Int) : List S27 → Option S27
  | [] => none
  | x :: r => if isMk b x then some x else lk b r
theorem EOk.all : ∀ {q : Option Int} {l : List S27}, EOk q l → ∀ x ∈ l, E1 x ∧ E2 x
  | _, [], _, x, h => by cases h
  | q, y :: r, hh, x, h => by
    rcases List.mem_cons.1 h with rfl | h
    · exact ⟨hh.1, hh.2.1⟩
    · exact EOk.all hh.2.2.2 x h
theorem xor_nonneg (a b : Int) (ha : 0 ≤ a) (ha1 : a < 2 ^ 40) (hb : 0 ≤ b) (hb1 : b < 2 ^ 40) : 0 ≤ Go.bits .xor .i64 a b := by
  obtain ⟨a, rfl⟩ := Int.eq_ofNat_of_zero_le ha
  obtain ⟨b, rfl⟩ := Int.eq_ofNat_of_zero_le hb
  have ha' : a < 2 ^ 40 := by omega
  have hb' : b < 2 ^ 40 := by omega
  have e : Go.bits .xor .i64 (a : Int) (b : Int) = (((a ^^^ b : Nat)) : Int) := by
    have hx : a ^^^ b < 2 ^ 40 := Nat.xor_lt_two_pow ha' hb'
    have h1 : a % 2 ^ IntKind.i64.bits = a := Nat.mod_eq_of_lt (by show a < 2 ^ 64; omega)
    have h2 : b % 2 ^ IntKind.i64.bits = b := Nat.mod_eq_of_lt (by show b < 2 ^ 64; omega)
    simp only [Go.bits, BitVec.ofInt_natCast, BitVec.toNat_xor, BitVec.toNat_ofNat, h1, h2]
    rw [IntKind.wrap_i64]; omega
  rw [e]; exact Int.natCast_nonneg _
def Tape (s : List Int) : Prop := s.length ≤ 2000 ∧ ∀ x ∈ s, 0 ≤ x ∧ x ≤ 255
theorem tdiv_eq (a b : Int) (h : 0 ≤ a) : Int.tdiv a b = a / b := Int.tdiv_eq_ediv_of_nonneg h
theorem tmod_eq (a b : Int) (h : 0 ≤ a) : Int.tmod a b = a % b := Int.tmod_eq_emod_of_nonneg h
theorem tmod_lt (a b : Int) (h : 0 ≤ a) (hb : 0 < b) : 0 ≤ Int.tmod a b ∧ Int.tmod a b < b := by
  rw [tmod_eq a b h]; exact ⟨Int.emod_nonneg _ (by omega), Int.emod_lt_of_pos _ hb⟩
theorem pick_ev (s : List Int) (hs : Tape s) (p n : Int) (hp : 0 ≤ p) (hp1 : p ≤ 1073741824) (hn : 1 ≤ n) :
    ∃ v, 0 ≤ v ∧ v < n ∧ Ev (fun k => spec_l6Rd_pick.f k s p n) (v, p + 1) := by
  obtain ⟨hl, hb⟩ := hs
  have e1 : wrap64 (p + 1) = p + 1 := w64 (by omega) (by omega)
  have e2 : wrap64 (p + 1 - 1) = p := by rw [w64 (by omega) (by omega)]; omega
  have hneg : ¬ n < 1 := by omega
  by_cases h0 : s.length = 0
  · refine ⟨0, by omega, by omega, ?_⟩
    refine Ev.congr (f := fun k => spec_l6Rd_pick.j0 k n true s (p + 1)) (fun k => ?_) ?_
    · simp only [spec_l6Rd_pick.f, if_neg hneg, e1, h0]; rfl
    · refine ev_succ ?_
      simp only [spec_l6Rd_pick.j0, if_true]
      exact Ev.now _
  · have hlen : ((s.length : Int) == 0) = false := by simp; simpa using h0
    have key : ∃ v, 0 ≤ v ∧ v < n ∧ Ev (fun k => spec_l6Rd_pick.j0 k n false s (p + 1)) (v, p + 1) := by
      by_cases h1 : p < (s.length : Int)
      · have hm := hb _ (rd_lt s p hp h1)
        have e3 : wrap64 (rd s p) = rd s p := w64 (by omega) (by omega)
        obtain ⟨a, b⟩ := tmod_lt (rd s p) n hm.1 (by omega)
        refine ⟨_, a, b, ev_succ ?_⟩
        simp only [spec_l6Rd_pick.j0, e2, e3]
        refine ev_neg (by simp) (ev_pos h1 (ev_pos hp (ev_neg (by omega) (Ev.now _))))
      · have hL : (0 : Int) < s.length := by omega
        have q1 := tmod_lt p (s.length : Int) hp hL
        have e4 : wrap64 (p * 7) = p * 7 := w64 (by omega) (by omega)
        have e5 : wrap64 (p * 7 + 3) = p * 7 + 3 := w64 (by omega) (by omega)
        have q2 := tmod_lt (p * 7 + 3) (s.length : Int) (by omega) hL
        have m1 := hb _ (rd_lt s _ q1.1 q1.2)
        have m2 := hb _ (rd_lt s _ q2.1 q2.2)
        have hd : 0 ≤ p / (s.length : Int) ∧ p / (s.length : Int) ≤ p := ⟨Int.ediv_nonneg hp (by omega), Int.ediv_le_self _ hp⟩
        generalize hA : rd s (Int.tmod p (s.length : Int)) = A at m1
        generalize hB : rd s (Int.tmod (p * 7 + 3) (s.length : Int)) = B at m2
        generalize hD : p / (s.length : Int) = D at hd
        have eD : Int.tdiv p (s.length : Int) = D := by rw [tdiv_eq _ _ hp, hD]
        have f1 : wrap64 A = A := w64 (by omega) (by omega)
        have f2 : wrap64 (A * 131) = A * 131 := w64 (by omega) (by omega)
        have f3 : wrap64 B = B := w64 (by omega) (by omega)
        have f4 : wrap64 (B * 1117) = B * 1117 := w64 (by omega) (by omega)
        have f5 : wrap64 (A * 131 + B * 1117) = A * 131 + B * 1117 := w64 (by omega) (by omega)
        have f6 : wrap64 (p * 29) = p * 29 := w64 (by omega) (by omega)
        have f7 : wrap64 (A * 131 + B * 1117 + p * 29) = A * 131 + B * 1117 + p * 29 := w64 (by omega) (by omega)
        have f8 : wrap64 D = D := w64 (by omega) (by omega)
        have f9 : wrap64 (D * 53) = D * 53 := w64 (by omega) (by omega)
        have f10 : wrap64 (A * 131 + B * 1117 + p * 29 + D * 53) = A * 131 + B * 1117 + p * 29 + D * 53 := w64 (by omega) (by omega)
        generalize hX : A * 131 + B * 1117 + p * 29 + D * 53 = X at f10
        have hX0 : 0 ≤ X ∧ X < 2 ^ 40 := by omega
        have eX : Int.tdiv X 64 = X / 64 := tdiv_eq _ _ hX0.1
        have f11 : wrap64 (X / 64) = X / 64 := w64 (by omega) (by omega)
        have hx := xor_nonneg X (X / 64) hX0.1 hX0.2 (by omega) (by omega)
        obtain ⟨a, b⟩ := tmod_lt (Go.bits .xor .i64 X (X / 64)) n hx (by omega)
        refine ⟨_, a, b, ev_succ ?_⟩
        simp only [spec_l6Rd_pick.j0, e2, e4, e5, hA, hB, eD, f1, f2, f3, f4, f5, f6, f7, f8, f9, hX, f10, eX, f11]
        exact ev_neg (by simp) (ev_neg h1 (ev_neg (by omega) (ev_pos q1.1 (ev_pos q1.2 (ev_pos q2.1 (ev_pos q2.2 (ev_neg (by omega) (Ev.now _))))))))
    obtain ⟨v, a, b, h⟩ := key
    refine ⟨v, a, b, Ev.congr (fun k => ?_) h⟩
    simp only [spec_l6Rd_pick.f, if_neg hneg, e1, hlen]
theorem open_tape (l : List Int) (hl : ∀ x ∈ l, (Lit.int .u8 x).wf = true) : ∃ s, Tape s ∧ spec_l6Open.f l = some (s, 0) := by
  have hw : ∀ x ∈ l, 0 ≤ x ∧ x ≤ 255 := fun x hx => by
    have := hl x hx
    simp [Lit.wf, IntKind.min, IntKind.max, IntKind.signed, IntKind.bits] at this
    omega
  unfold spec_l6Open.f
  by_cases h : (l.length : Int) > 2000
  · rw [if_pos h, if_pos (by omega)]
    exact ⟨_, ⟨by simp; omega, fun x hx => hw x (List.mem_of_mem_take hx)⟩, rfl⟩
  · rw [if_neg h]
    exact ⟨l, ⟨by omega, hw⟩, rfl⟩
theorem p2le (a b : Nat) (h : a ≤ b) : (2 : Int) ^ a ≤ 2 ^ b := by
  have h1 := Nat.pow_le_pow_right (n := 2) (by omega) h
  have e : ∀ n : Nat, (2 : Int) ^ n = ((2 ^ n : Nat) : Int) := fun n => by simp
  rw [e, e]; omega
theorem weight_loop (n : Int) : ∀ (d : Nat) (x i : Int), 0 ≤ i → i + d = n → n ≤ 62 → 0 ≤ x → x * 2 ^ d ≤ 4611686018427387904 → Ev (fun k => spec_l3Weight.l0 k n x i) (x * 2 ^ d) := by
  intro d
  induction d with
  | zero => intro x i h0 h1 h2 h3 h4; refine ev_succ ?_; simp only [spec_l3Weight.l0]; exact ev_neg (by omega) (ev_const (by simp))
  | succ d ih =>
    intro x i h0 h1 h2 h3 h4; refine ev_succ ?_; simp only [spec_l3Weight.l0]
    have e : x * 2 ^ (d + 1) = 2 * x * 2 ^ d := by rw [Int.pow_succ, Int.mul_comm 2 x, Int.mul_assoc, Int.mul_comm 2 (2 ^ d)]
    have h5 : 2 * x ≤ 2 * x * 2 ^ d := by
      have : (1 : Int) ≤ 2 ^ d := by have := Int.pow_pos (n := 2) (m := d) (by omega); omega
      have := Int.mul_le_mul_of_nonneg_left this (show 0 ≤ 2 * x by omega)
      omega
    rw [e] at h4 ⊢
    rw [w64 (x := 2 * x) (by omega) (by omega), w64 (x := i + 1) (by omega) (by omega)]
    exact ev_pos (by omega) (ih (2 * x) (i + 1) (by omega) (by omega) h2 (by omega) h4)
theorem weight_ev (n : Nat) (h : n ≤ 8) : Ev (fun k => spec_l3Weight.f k (n : Int)) (2 ^ n) := by
  have h2 : (1 : Int) * 2 ^ n ≤ 4611686018427387904 := by
    have : (2 : Int) ^ n ≤ 2 ^ 8 := p2le n 8 h
    omega
  exact ev_eq (weight_loop n n 1 0 (by omega) (by omega) (by omega) (by omega) h2) (by simp)
theorem weight_ex (v : Int) (h0 : 0 ≤ v) (h : v < 8) : ∃ t, Ev (fun k => spec_l3Weight.f k v) t := by
  obtain ⟨n, rfl⟩ := Int.eq_ofNat_of_zero_le h0
  exact ⟨_, weight_ev n (by omega)⟩
theorem event_ev (s : List Int) (hs : BEv.Tape s) (p m : Int) (hp : 0 ≤ p) (hp1 : p ≤ 100000) :
    ∃ a b c d e f q, q ≤ p + 6 ∧ p ≤ q ∧ Ev (fun k => spec_l92Event.f k s p m) (a, b, c, d, e, f, q) := by
  obtain ⟨v1, x1, y1, g1⟩ := pick_ev s hs p 5 hp (by omega) (by omega)
  obtain ⟨v2, x2, y2, g2⟩ := pick_ev s hs (p + 1) 4 (by omega) (by omega) (by omega)
  obtain ⟨v3, x3, y3, g3⟩ := pick_ev s hs (p + 2) 5 (by omega) (by omega) (by omega)
  obtain ⟨v4, x4, y4, g4⟩ := pick_ev s hs (p + 3) 2 (by omega) (by omega) (by omega)
  obtain ⟨v5, x5, y5, g5⟩ := pick_ev s hs (p + 4) 8 (by omega) (by omega) (by omega)
  obtain ⟨v6, x6, y6, g6⟩ := pick_ev s hs (p + 2) 8 (by omega) (by omega) (by omega)
  have e1 : p + 1 + 1 = p + 2 := by omega
  have e2 : p + 2 + 1 = p + 3 := by omega
  have e3 : p + 3 + 1 = p + 4 := by omega
  rw [e1] at g2; rw [e2] at g3 g6; rw [e3] at g4
  have go : ∀ r : Int × Int × Int × Int × Int × Int × Int, Ev (fun k => spec_l92Event.f k s p m) r → r.2.2.2.2.2.2 ≤ p + 6 → p ≤ r.2.2.2.2.2.2 → ∃ a b c d e f q, q ≤ p + 6 ∧ p ≤ q ∧ Ev (fun k => spec_l92Event.f k s p m) (a, b, c, d, e, f, q) :=
    fun r h h1 h2 => ⟨_, _, _, _, _, _, _, h1, h2, h⟩
  by_cases k1 : rd [1, 2, 2, 2, 3] v1 = 1
  · by_cases k2 : v4 = 0
    · obtain ⟨t, ht⟩ := weight_ex v5 x5 y5
      refine go _ (ev_some (Ev.bind g1 (ev_pos x1 (ev_pos (by simpa using y1) (Ev.bind g2 (ev_pos k1 (Ev.bind g3 (Ev.bind g4 (ev_pos k2 (Ev.bind g5 (Ev.bind ht (Ev.now _)))))))))) )) ?_ ?_ <;> dsimp only <;> omega
    · refine go _ (ev_some (Ev.bind g1 (ev_pos x1 (ev_pos (by simpa using y1) (Ev.bind g2 (ev_pos k1 (Ev.bind g3 (Ev.bind g4 (ev_neg k2 (Ev.now _)))))))) )) ?_ ?_ <;> dsimp only <;> omega
  · by_cases k3 : rd [1, 2, 2, 2, 3] v1 = 2
    · refine go _ (ev_some (Ev.bind g1 (ev_pos x1 (ev_pos (by simpa using y1) (Ev.bind g2 (ev_neg k1 (ev_pos k3 (Ev.bind g6 (Ev.now _))))))) )) ?_ ?_ <;> dsimp only <;> omega
    · refine go _ (ev_some (Ev.bind g1 (ev_pos x1 (ev_pos (by simpa using y1) (Ev.bind g2 (ev_neg k1 (ev_neg k3 (Ev.now _)))))) )) ?_ ?_ <;> dsimp only <;> omega
theorem events_end (s : List Int) (hs : BEv.Tape s) (out : List S27) (n m i p : Int) (hn : n = out.length) (hn1 : out.length ≤ 25) (hi : ¬ i < n) (hp : 0 ≤ p) (hp1 : p ≤ 10000) :
    ∃ l q, l.length = out.length ∧ 0 ≤ q ∧ q ≤ p + 3 ∧ Ev (fun k => spec_l92Events.l0 k out n m i s p) (l, q) := by
  by_cases h0 : n > 0
  · obtain ⟨v1, x1, y1, g1⟩ := pick_ev s hs p n hp (by omega) (by omega)
    obtain ⟨v2, x2, y2, g2⟩ := pick_ev s hs (p + 1) 30 (by omega) (by omega) (by omega)
    obtain ⟨v3, x3, y3, g3⟩ := pick_ev s hs (p + 2) 2 (by omega) (by omega) (by omega)
    have e1 : p + 1 + 1 = p + 2 := by omega
    rw [e1] at g2
    have i1 : v1 < (out.length : Int) := by omega
    have go : ∀ (l : List S27) (q : Int), Ev (fun k => spec_l92Events.l0 (k + 1) out n m i s p) (l, q) → l.length = out.length → 0 ≤ q → q ≤ p + 3 → ∃ l q, l.length = out.length ∧ 0 ≤ q ∧ q ≤ p + 3 ∧ Ev (fun k => spec_l92Events.l0 k out n m i s p) (l, q) :=
      fun l q h h1 h2 h3 => ⟨l, q, h1, h2, h3, ev_succ h⟩
    by_cases k0 : v2 = 0
    · refine go _ _ (by simp only [spec_l92Events.l0]; exact ev_neg hi (ev_pos h0 (Ev.bind g1 (Ev.bind g2 (ev_pos k0 (Ev.bind g3 (ev_pos x1 (ev_pos i1 (Ev.now _))))))))) ?_ ?_ ?_
      · simp
      · dsimp only; omega
      · dsimp only; omega
    · by_cases k1 : v2 = 1
      · refine go _ _ (by simp only [spec_l92Events.l0]; exact ev_neg hi (ev_pos h0 (Ev.bind g1 (Ev.bind g2 (ev_neg k0 (ev_pos k1 (ev_pos x1 (ev_pos i1 (Ev.bind g3 (Ev.now _)))))))))) ?_ ?_ ?_
        · simp
        · dsimp only; omega
        · dsimp only; omega
      · by_cases k2 : v2 = 2
        · refine go _ _ (by simp only [spec_l92Events.l0]; exact ev_neg hi (ev_pos h0 (Ev.bind g1 (Ev.bind g2 (ev_neg k0 (ev_neg k1 (ev_pos k2 (ev_some (Ev.bind g3 (ev_pos x3 (ev_pos (by simpa using y3) (ev_pos x1 (ev_pos i1 (Ev.now _))))))))))))) ) ?_ ?_ ?_
          · simp
          · dsimp only; omega
          · dsimp only; omega
        · refine go _ _ (by simp only [spec_l92Events.l0]; exact ev_neg hi (ev_pos h0 (Ev.bind g1 (Ev.bind g2 (ev_neg k0 (ev_neg k1 (ev_neg k2 (Ev.now _)))))))) ?_ ?_ ?_
          · rfl
          · omega
          · omega
  · refine ⟨out, p, rfl, hp, by omega, ev_succ ?_⟩
    simp only [spec_l92Events.l0]
    exact ev_neg hi (ev_neg h0 (Ev.now _))
theorem events_loop (s : List Int) (hs : BEv.Tape s) (n : Nat) (hn : n ≤ 25) : ∀ (d : Nat) (out : List S27) (m p : Int), out.length + d = n → 0 ≤ p → p + 10 * d ≤ 9000 →
    ∃ l q, l.length = n ∧ 0 ≤ q ∧ q ≤ p + 10 * d + 3 ∧ Ev (fun k => spec_l92Events.l0 k out (n : Int) m (out.length : Int) s p) (l, q) := by
  intro d
  induction d with
  | zero =>
    intro out m p h1 h2 h3
    obtain ⟨l, q, a, b, c, h⟩ := events_end s hs out n m out.length p (by omega) (by omega) (by omega) h2 (by omega)
    exact ⟨l, q, by omega, b, by omega, h⟩
  | succ d ih =>
    intro out m p h1 h2 h3
    obtain ⟨a, b, c, d', e, f, q, hq1, hq2, hE⟩ := event_ev s hs p m h2 (by omega)
    obtain ⟨v, x1, y1, g1⟩ := pick_ev s hs q 40 (by omega) (by omega) (by omega)
    obtain ⟨l, q', r1, r2, r3, r4⟩ := ih (out ++ [⟨a, b, c, d', e, f⟩]) (wrap64 (m + v)) (q + 1) (by simp; omega) (by omega) (by omega)
    refine ⟨l, q', r1, r2, by omega, ev_succ ?_⟩
    simp only [spec_l92Events.l0]
    have ei : wrap64 ((out.length : Int) + 1) = ((out ++ [(⟨a, b, c, d', e, f⟩ : S27)]).length : Int) := by rw [w64 (by omega) (by omega)]; simp
    refine ev_pos (by omega) (Ev.bind hE (ev_pos (by omega) (Ev.bind g1 ?_)))
    dsimp only
    rw [ei]; exact r4
theorem events_ev (s : List Int) (hs : BEv.Tape s) (p : Int) (hp : 0 ≤ p) (hp1 : p ≤ 5000) : ∃ l q, l.length ≤ 25 ∧ 0 ≤ q ∧ q ≤ p + 300 ∧ Ev (fun k => spec_l92Events.f k s p) (l, q) := by
  obtain ⟨v1, x1, y1, g1⟩ := pick_ev s hs p 14 hp (by omega) (by omega)
  obtain ⟨v2, x2, y2, g2⟩ := pick_ev s hs (p + 1) 20 (by omega) (by omega) (by omega)
  obtain ⟨v3, x3, y3, g3⟩ := pick_ev s hs (p + 1 + 1) 2 (by omega) (by omega) (by omega)
  have key : ∀ (n : Nat) (q : Int), n ≤ 25 → 0 ≤ q → q ≤ p + 3 → ∃ l q', l.length ≤ 25 ∧ 0 ≤ q' ∧ q' ≤ p + 300 ∧ Ev (fun k => spec_l92Events.j0 k [] (n : Int) s q) (l, q') := by
    intro n q hn hq0 hq
    obtain ⟨v4, x4, y4, g4⟩ := pick_ev s hs q 200 hq0 (by omega) (by omega)
    obtain ⟨l, q', a, b, c, h⟩ := events_loop s hs n hn n [] v4 (q + 1) (by simp) (by omega) (by omega)
    refine ⟨l, q', by omega, b, by omega, ev_succ ?_⟩
    simp only [spec_l92Events.j0]
    exact Ev.bind g4 h
  unfold spec_l92Events.f
  by_cases k0 : v2 = 0
  · obtain ⟨l, q', a, b, c, h⟩ := key (24 + v3).toNat (p + 1 + 1 + 1) (by omega) (by omega) (by omega)
    refine ⟨l, q', a, b, c, ev_some (Ev.bind g1 (Ev.bind g2 (ev_pos k0 (Ev.bind g3 ?_))))⟩
    have e : wrap64 (24 + v3) = (((24 + v3).toNat : Nat) : Int) := by rw [w64 (by omega) (by omega)]; omega
    dsimp only; rw [e]; exact h
  · obtain ⟨l, q', a, b, c, h⟩ := key v1.toNat (p + 1 + 1) (by omega) (by omega) (by omega)
    refine ⟨l, q', a, b, c, ev_some (Ev.bind g1 (Ev.bind g2 (ev_neg k0 ?_)))⟩
    have e : v1 = ((v1.toNat : Nat) : Int) := by omega
    dsimp only; rw [← e] at h; exact h
theorem draw_served (l : List Int) (hl : ∀ x ∈ l, (Lit.int .u8 x).wf = true) : ∃ es g, es.length ≤ 25 ∧ Ev (fun k => spec_DrawWatchServed.f k l) (es, g) := by
  obtain ⟨s, hs, ho⟩ := open_tape l hl
  obtain ⟨es, q, h1, h2, h3, h4⟩ := events_ev s hs 0 (by omega) (by omega)
  obtain ⟨v, x1, y1, g1⟩ := pick_ev s hs q 10 h2 (by omega) (by omega)
  refine ⟨es, v, h1, ?_⟩
  simp only [spec_DrawWatchServed.f, ho]
  exact ev_some (Ev.bind h4 (Ev.bind g1 (Ev.now _)))
def G1 (x : S50) : Prop := (1 ≤ x.f0 ∧ x.f0 ≤ 99) ∧ (1 ≤ x.f1 ∧ x.f1 ≤ 4) ∧ (0 ≤ x.f2 ∧ x.f2 ≤ 255)
instance (x : S50) : Decidable (G1 x) := by unfold G1; infer_instance
def above (q : Option Int) (m : Int) : Prop := match q with | none => True | some y => y < m
instance (q : Option Int) (m : Int) : Decidable (above q m) := by unfold above; cases q <;> infer_instance
def GOk : Option Int → List S50 → Prop
  | _, [] => True
  | q, x :: r => G1 x ∧ above q x.f0 ∧ GOk (some x.f0) r
def decGOk : (q : Option Int) → (l : List S50) → Decidable (GOk q l)
  | _, [] => isTrue trivial
  | q, x :: r => by
    unfold GOk
    have := decGOk (some x.f0) r
    infer_instance
instance (q : Option Int) (l : List S50) : Decidable (GOk q l) := decGOk q l
def GValid (l : List S50) : Prop := GOk none l ∧ (l.length : Int) ≤ 10
instance (l : List S50) : Decidable (GValid l) := by unfold GValid; infer_instance
def dietP (d c : Int) : Prop := (1 ≤ c ∧ c ≤ 5) ∧ (d = 1 ∨ (d = 2 ∧ c ≠ 5) ∨ (d = 3 ∧ c ≠ 5 ∧ c ≠ 4) ∨ (d = 4 ∧ c = 1))
instance (d c : Int) : Decidable (dietP d c) := by unfold dietP; infer_instance
theorem same_loop (xs ys : List Int) (hl : xs.length = ys.length) (hb : xs.length ≤ 1099511627776) : ∀ (s t p q : List Int), xs = p ++ s → ys = q ++ t → p.length = q.length →
    Ev (fun k => laws_sameInts.l0 k xs ys (p.length : Int)) (decide (s = t)) := by
  intro s
  induction s with
  | nil =>
    intro t p q h1 h2 h3; refine ev_succ ?_; simp only [laws_sameInts.l0]
    have : t = [] := by subst h1; subst h2; simp at hl; apply List.eq_nil_of_length_eq_zero; omega
    subst this
    exact ev_neg (by subst h1; simp) (ev_const (by simp))
  | cons x s ih =>
    intro t p q h1 h2 h3
    cases t with
    | nil => exfalso; subst h1; subst h2; simp at hl; omega
    | cons y t =>
      refine ev_succ ?_
      have ey : rd ys (p.length : Int) = y := by rw [h3]; exact rds h2
      have hy : (p.length : Int) < (ys.length : Int) := by rw [h3]; exact len_at h2
      simp only [laws_sameInts.l0, rds h1, ey, wlen h1 hb]
      refine ev_pos (len_at h1) (ev_pos (by omega) (ev_pos hy (ev_ite (fun h => ev_eq (ih t (p ++ [x]) (q ++ [y]) (snoc_at h1) (snoc_at h2) (by simp [h3])) (by simp [h])) (fun h => ev_const (by simp [h])))))
theorem same_ev (xs ys : List Int) (hb : xs.length ≤ 1099511627776) : Ev (fun k => laws_sameInts.f k xs ys) (decide (xs = ys)) := by
  unfold laws_sameInts.f
  by_cases h : xs.length = ys.length
  · exact ev_pos (by omega) (same_loop xs ys h hb xs ys [] [] rfl rfl rfl)
  · refine ev_neg (by omega) (ev_const ?_)
    symm; exact decide_eq_false (fun e => h (by rw [e]))
theorem notAfter_le {q : Option Int} {m n : Int} (h : notAfter q m) (hmn : m ≤ n) : notAfter q n := by
  unfold notAfter at h ⊢; cases q with
  | none => trivial
  | some y => exact Int.le_trans h hmn
theorem EOk.after : ∀ {q : Option Int} {l : List S27}, EOk q l → ∀ x ∈ l, notAfter q x.f1
  | _, [], _, x, h => by cases h
  | q, y :: r, hh, x, h => by
    rcases List.mem_cons.1 h with rfl | h
    · exact hh.2.2.1
    · have := EOk.after hh.2.2.2 x h
      simp only [notAfter] at this
      exact notAfter_le hh.2.2.1 this
theorem EOk.first : ∀ {q q' : Option Int} {l : List S27}, EOk q l → (∀ x ∈ l, notAfter q' x.f1) → EOk q' l
  | _, _, [], _, _ => trivial
  | q, q', y :: r, hh, h => ⟨hh.1, hh.2.1, h y (by simp), hh.2.2.2⟩
theorem EOk.add : ∀ {q : Option Int} {a b : List S27}, EOk q a → EOk none b → (∀ x ∈ b, notAfter q x.f1) → (∀ x ∈ a, ∀ y ∈ b, x.f1 ≤ y.f1) → EOk q (a ++ b)
  | q, [], b, _, hb, h1, _ => EOk.first hb h1
  | q, x :: r, b, ha, hb, h1, h2 => ⟨ha.1, ha.2.1, ha.2.2.1, EOk.add ha.2.2.2 hb (fun y hy => by simp only [notAfter]; exact h2 x (by simp) y hy) (fun z hz y hy => h2 z (by simp [hz]) y hy)⟩
def served (g : Int) : List S27 → List Int
  | [] => []
  | x :: r => if x.f0 = 2 ∧ x.f3 = g then x.f2 :: served g r else served g r
def servedF (l : List S27) (g : Int) : List Int := if EValid l then served g l else []
theorem served_len (g : Int) : ∀ l, (served g l).length ≤ l.length
  | [] => Nat.le_refl _
  | x :: r => by have := served_len g r; rw [served]; split <;> simp <;> omega
theorem impl_served_loop (xs : List S27) (hb : xs.length ≤ 1099511627776) (g : Int) : ∀ (s p : List S27) (out : List Int), xs = p ++ s → out.length ≤ p.length →
    Ev (fun k => impl_WatchServed.l0 k g out xs (xs.length : Int) (p.length : Int)) (out ++ served g s) := by
  intro s
  induction s with
  | nil => intro p out hx ho; refine ev_succ ?_; simp only [impl_WatchServed.l0]; exact ev_neg (by subst hx; simp) (ev_const (by simp [served]))
  | cons x s ih =>
    intro p out hx ho; refine ev_succ ?_
    have hp : p.length + 1 ≤ 1099511627776 := by subst hx; simp at hb; omega
    simp only [impl_WatchServed.l0, rd27s hx, wlen hx hb]
    refine ev_pos (len_at hx) (ev_pos (by omega) (ev_pos (len_at hx) ?_))
    have no : ¬ (x.f0 = 2 ∧ x.f3 = g) → Ev (fun k => impl_WatchServed.l0 k g out xs (xs.length : Int) ((p ++ [x]).length : Int)) (out ++ served g (x :: s)) :=
      fun h => ev_eq (ih (p ++ [x]) out (snoc_at hx) (by simp; omega)) (by rw [served, if_neg h])
    refine ev_ite (fun h1 => ev_ite (fun h2 => ev_pos (by omega) ?_) (fun h2 => no (fun h => h2 h.2))) (fun h1 => no (fun h => h1 h.1))
    exact ev_eq (ih (p ++ [x]) _ (snoc_at hx) (by simp; omega)) (by rw [served, if_pos ⟨h1, h2⟩]; simp)
theorem impl_served (xs : List S27) (hb : xs.length ≤ 1099511627776) (g : Int) : Ev (fun k => impl_WatchServed.f k xs g) (servedF xs g) := by
  unfold impl_WatchServed.f
  simp only [Option.bind_some]
  refine Ev.bind (impl_valid xs hb) (ev_ite (fun h => ?_) (fun h => ev_const ?_))
  · rw [servedF, if_pos (of_decide_eq_true h)]; exact impl_served_loop xs hb g xs [] [] rfl (Nat.le_refl _)
  · rw [servedF, if_neg (fun h2 => h (decide_eq_true h2))]
theorem spec_served_loop (xs : List S27) (hb : xs.length ≤ 1099511627776) (hv : EValid xs) (g : Int) : ∀ (s p : List S27) (out : List Int), xs = p ++ s → out.length ≤ p.length →
    Ev (fun k => spec_WatchServed.l0 k xs g out (p.length : Int)) (out ++ served g s) := by
  intro s
  induction s with
  | nil =>
    intro p out hx ho; refine ev_succ ?_; simp only [spec_WatchServed.l0]
    refine ev_neg (by subst hx; simp) (ev_succ ?_); simp only [spec_WatchServed.j1]; exact ev_neg (by simp) (ev_const (by simp [served]))
  | cons x s ih =>
    intro p out hx ho; refine ev_succ ?_
    have hp : p.length + 1 ≤ 1099511627776 := by subst hx; simp at hb; omega
    simp only [spec_WatchServed.l0]
    refine ev_pos (len_at hx) (Ev.bind (spec_valid xs hb) (ev_succ ?_))
    simp only [spec_WatchServed.j1, rd27s hx, wlen hx hb]
    refine ev_pos (decide_eq_true hv) (ev_pos (by omega) (ev_pos (len_at hx) ?_))
    have no : ¬ (x.f0 = 2 ∧ x.f3 = g) → Ev (fun k => spec_WatchServed.l0 k xs g out ((p ++ [x]).length : Int)) (out ++ served g (x :: s)) :=
      fun h => ev_eq (ih (p ++ [x]) out (snoc_at hx) (by simp; omega)) (by rw [served, if_neg h])
    refine ev_ite (fun h1 => ev_ite (fun h2 => ev_pos (by omega) ?_) (fun h2 => no (fun h => h2 h.2))) (fun h1 => no (fun h => h1 h.1))
    exact ev_eq (ih (p ++ [x]) _ (snoc_at hx) (by simp; omega)) (by rw [served, if_pos ⟨h1, h2⟩]; simp)
theorem spec_served (xs : List S27) (hb : xs.length ≤ 1099511627776) (g : Int) : Ev (fun k => spec_WatchServed.f k xs g) (servedF xs g) := by
  unfold spec_WatchServed.f
  by_cases hv : EValid xs
  · rw [servedF, if_pos hv]; exact spec_served_loop xs hb hv g xs [] [] rfl (Nat.le_refl _)
  · rw [servedF, if_neg hv]
    refine ev_succ ?_; simp only [spec_WatchServed.l0]
    refine ev_ite (fun _ => Ev.bind (spec_valid xs hb) (ev_succ ?_)) (fun _ => ev_succ ?_) <;> simp only [spec_WatchServed.j1]
    · exact ev_neg (by simp [hv]) (Ev.now _)
    · exact ev_neg (by simp) (Ev.now _)
end Go.Proofs.Ytnhenfmegpjigaa.BEv
/- FnWatchServed holds for all bytes. No condition beyond the statement's own. -/
namespace Go.Proofs.Ytnhenfmegpjigaa.Pure
open Go.RowKit Go.Proofs.Ytnhenfmegpjigaa.PEv Go.Proofs.Ytnhenfmegpjigaa.BEv Go.Proofs.YtnhenfmegpjigaaW.PrintWords Go.Proofs.YtnhenfmegpjigaaW.PrintLast Go.Proofs.YtnhenfmegpjigaaW.PrintMore
set_option linter.unusedVariables false
set_option linter.unusedSimpArgs false
theorem served_loop (xs : List S27) (hb : xs.length ≤ 1099511627776) (g : Int) (out : List Int) (ho : out.length ≤ 1099511627776) : ∀ (s p : List S27) (a : List Int), xs = p ++ s → out = a ++ BEv.served g s →
    Ev (fun k => laws_FnWatchServed.l0 k xs g out (a.length : Int) (p.length : Int)) true := by
  intro s
  induction s with
  | nil =>
    intro p a hx ha; refine ev_succ ?_; simp only [laws_FnWatchServed.l0]
    exact ev_neg (by subst hx; simp) (ev_const (by subst ha; simp [BEv.served]))
  | cons x s ih =>
    intro p a hx ha; refine ev_succ ?_
    simp only [laws_FnWatchServed.l0, rd27s hx]
    have no : ¬ (x.f0 = 2 ∧ x.f3 = g) → Ev (fun k => laws_FnWatchServed.j2 k xs g out (a.length : Int) (p.length : Int) false) true := by
      intro h; refine ev_succ ?_; simp only [laws_FnWatchServed.j2, wlen hx hb]
      exact ev_neg (by simp) (ih (p ++ [x]) a (snoc_at hx) (by rw [ha, BEv.served, if_neg h]))
    refine ev_pos (len_at hx) (ev_pos (by omega) (ev_ite (fun h1 => ?_) (fun h1 => no (fun z => h1 z.1))))
    by_cases h2 : x.f3 = g
    · have e : (x.f3 == g) = true := by simp [h2]
      rw [e]
      rw [BEv.served, if_pos ⟨h1, h2⟩] at ha
      refine ev_succ ?_; simp only [laws_FnWatchServed.j2, wlen hx hb, wlen ha ho, rds ha, rd27s hx]
      have h3 := len_at ha
      exact ev_pos trivial (ev_neg (by omega) (ev_pos (by omega) (ev_pos h3 (ev_pos (by omega) (ev_pos (len_at hx) (ev_pos trivial (ih (p ++ [x]) (a ++ [x.f2]) (snoc_at hx) (by rw [ha]; simp))))))))
    · have e : (x.f3 == g) = false := by simp [h2]
      rw [e]; exact no (fun z => h2 z.2)
theorem FnWatchServed : laws_FnWatchServed.Pure := by
  intro l0 _ _ hw
  refine Ev.rounds ?_
  unfold laws_FnWatchServed.f
  refine ev_ite (fun _ => Ev.now _) (fun _ => ?_)
  obtain ⟨es, g, he, hd⟩ := draw_served l0 hw
  have hb : es.length ≤ 1099511627776 := by omega
  have ho : (servedF es g).length ≤ 1099511627776 := by
    unfold servedF; split
    · have := served_len g es; omega
    · simp
  refine Ev.bind hd (Ev.bind (impl_served es hb g) (Ev.bind (spec_served es hb g) (Ev.bind (same_ev _ _ ho) (ev_pos (by simp) (Ev.bind (spec_valid es hb) (ev_succ ?_))))))
  simp only [laws_FnWatchServed.j0]
  refine ev_ite (fun _ => Ev.bind (same_ev _ _ ho) (ev_const (by simp))) (fun h => ?_)
  have hv : EValid es := by simpa using h
  have e : servedF es g = [] ++ BEv.served g es := by rw [servedF, if_pos hv]; rfl
  exact served_loop es hb g _ ho es [] [] rfl e
end Go.Proofs.Ytnhenfmegpjigaa.Pure

