/- Readings: what the functions of warmth compute, over plain lists. Condition: the list has fewer than 2^40 readings. -/
import Derived.Test.YtnefjfianhkniaaWmBase
import Derived.Test.YtnefjfianhkniaaPWmx2
import Derived.Test.YtnefjfianhkniaaPWmx3
namespace Go.Proofs.Ytnefjfianhkniaa.BWm
open Go.RowKit Go.Proofs.Ytnefjfianhkniaa.PWm Go.Proofs.YtnefjfianhkniaaW.PrintWords Go.Proofs.YtnefjfianhkniaaW.PrintLast Go.Proofs.YtnefjfianhkniaaW.PrintMore
set_option linter.unusedVariables false
set_option linter.unusedSimpArgs false

/-- warm temperature -/
def wt (t : Int) : Bool := decide (5 < t) && decide (t < 60)
def nxt (e : Int) : List S34 → Int
  | [] => e
  | x :: _ => min e x.f0
def cnt (e : Int) : List S34 → Int
  | [] => 0
  | x :: r => (if wt x.f1 then max (nxt e r - x.f0) 0 else 0) + cnt e r
def asc : List S34 → Prop
  | [] => True
  | [_] => True
  | x :: y :: r => x.f0 < y.f0 ∧ asc (y :: r)
def hd (e : Int) : List S34 → Prop
  | [] => True
  | x :: _ => e ≤ x.f0
theorem cnt_zero (e : Int) : ∀ l, asc l → hd e l → cnt e l = 0
  | [], _, _ => rfl
  | [x], _, h => by simp only [cnt, nxt, hd] at *; split <;> omega
  | x :: y :: r, h, h1 => by
    have ih := cnt_zero e (y :: r) h.2 (by have := h.1; simp only [hd] at *; omega)
    rw [cnt, ih]; simp only [nxt, hd] at *; split <;> omega
def lastw (m : Int) (b : Bool) : List S34 → Bool
  | [] => b
  | x :: r => lastw m (if x.f0 ≤ m then wt x.f1 else b) r
theorem lastw_far (m : Int) (b : Bool) : ∀ l, asc l → hd (m+1) l → lastw m b l = b
  | [], _, _ => rfl
  | [x], _, h => by simp only [lastw, hd] at *; rw [if_neg (by omega)]
  | x :: y :: r, h, h1 => by
    rw [lastw]; simp only [hd] at h1; rw [if_neg (by omega)]
    exact lastw_far m b (y :: r) h.2 (by have := h.1; simp only [hd]; omega)
theorem cnt_cons (e : Int) (x : S34) (r : List S34) : cnt e (x :: r) = (if wt x.f1 then max (nxt e r - x.f0) 0 else 0) + cnt e r := rfl
theorem lastw_cons (e : Int) (b : Bool) (x : S34) (r : List S34) : lastw e b (x :: r) = lastw e (if x.f0 ≤ e then wt x.f1 else b) r := rfl
def b2i (b : Bool) : Int := cond b 1 0
theorem cnt_succ (e : Int) : ∀ l, asc l → cnt (e+1) l = cnt e l + b2i (lastw e false l)
  | [], _ => rfl
  | [x], _ => by
    rw [cnt_cons, cnt_cons, lastw_cons]
    simp only [cnt, nxt, lastw]
    by_cases h : x.f0 ≤ e
    · rw [if_pos h]; cases wt x.f1 <;> simp [b2i]; omega
    · rw [if_neg h]; cases wt x.f1 <;> simp [b2i]; omega
  | x :: y :: r, h => by
    have ih := cnt_succ e (y :: r) h.2
    have hxy := h.1
    rw [cnt_cons e, cnt_cons (e+1), lastw_cons]
    by_cases hy : y.f0 ≤ e
    · have e1 : lastw e (if x.f0 ≤ e then wt x.f1 else false) (y :: r) = lastw e false (y :: r) := by
        rw [lastw_cons, lastw_cons, if_pos hy, if_pos hy]
      rw [e1, ih]
      have e2 : nxt (e+1) (y :: r) = nxt e (y :: r) := by simp only [nxt]; omega
      rw [e2]; omega
    · have hf : hd (e+1) (y :: r) := by simp only [hd]; omega
      rw [cnt_zero (e+1) _ h.2 hf, cnt_zero e _ h.2 (by simp only [hd] at *; omega), lastw_far _ _ _ h.2 hf]
      simp only [nxt]
      by_cases hx : x.f0 ≤ e
      · rw [if_pos hx]; cases wt x.f1 <;> simp [b2i]; omega
      · rw [if_neg hx]; cases wt x.f1 <;> simp [b2i]; omega

theorem cnt_nonneg (e : Int) : ∀ l, 0 ≤ cnt e l
  | [] => Int.le_refl _
  | x :: r => by
    have := cnt_nonneg e r
    rw [cnt_cons]; split <;> omega
theorem cnt_cold (e : Int) (k : Nat) (m t : Int) (ht : wt t = false) : ∀ l : List S34, (∀ h : k < l.length, l[k].f0 = m) → cnt e (l.set k (⟨m, t⟩ : S34)) ≤ cnt e l := by
  induction k with
  | zero =>
    intro l h
    cases l with
    | nil => exact Int.le_refl _
    | cons x r =>
      rw [List.set_cons_zero, cnt_cons, cnt_cons, if_neg (by simp [ht])]
      split <;> omega
  | succ k ih =>
    intro l h
    cases l with
    | nil => exact Int.le_refl _
    | cons x r =>
      have := ih r (fun hk => h (by simpa using hk))
      rw [List.set_cons_succ, cnt_cons, cnt_cons]
      have e1 : nxt e (r.set k (⟨m, t⟩ : S34)) = nxt e r := by
        cases r with
        | nil => rfl
        | cons y r =>
          cases k with
          | zero => have := h (by simp); simp at this; simp [nxt, this]
          | succ k => rfl
      rw [e1]; omega
theorem asc_set (k : Nat) (m t : Int) : ∀ l : List S34, (∀ h : k < l.length, l[k].f0 = m) → asc l → asc (l.set k (⟨m, t⟩ : S34)) := by
  induction k with
  | zero =>
    intro l h ha
    match l with
    | [] => exact ha
    | [x] => trivial
    | x :: y :: r =>
      have := h (by simp); simp at this
      exact ⟨by have := ha.1; simp; omega, ha.2⟩
  | succ k ih =>
    intro l h ha
    match l with
    | [] => exact ha
    | [x] => trivial
    | x :: y :: r =>
      have h1 := ih (y :: r) (fun hk => h (by simpa using hk)) ha.2
      cases k with
      | zero => have := h (by simp); simp at this; exact ⟨by have := ha.1; simp; omega, h1⟩
      | succ k => exact ⟨ha.1, h1⟩
/-- how many minutes before e are warm -/
def many (l : List S34) : Nat → Int
  | 0 => 0
  | n + 1 => many l n + b2i (lastw n false l)
theorem cnt_many (l : List S34) (h : asc l) (h0 : hd 0 l) : ∀ n : Nat, cnt n l = many l n
  | 0 => cnt_zero 0 l h h0
  | n + 1 => by
    have := cnt_succ n l h
    rw [many, ← cnt_many l h h0 n]; exact this
theorem b2i_range (b : Bool) : 0 ≤ b2i b ∧ b2i b ≤ 1 := by cases b <;> decide
theorem cnt_mono (l : List S34) (h : asc l) (e : Int) : ∀ n : Nat, cnt e l ≤ cnt (e + n) l
  | 0 => by simp
  | n + 1 => by
    have h1 := cnt_mono l h e n
    have h2 := cnt_succ (e + n) l h
    have := b2i_range (lastw (e + n) false l)
    have e3 : (e + ((n + 1 : Nat) : Int)) = e + n + 1 := by omega
    rw [e3]; omega

theorem in_ev (a b c : Int) : spec_l6In.f a b c = some (decide (b ≤ a ∧ a ≤ c)) := by
  unfold spec_l6In.f
  by_cases h : a ≥ b
  · rw [if_pos h]; simp; omega
  · rw [if_neg h]; simp; omega
theorem within_ev (a b c : Int) : impl_within.f a b c = some (decide (b ≤ a ∧ a ≤ c)) := by
  unfold impl_within.f
  by_cases h : a ≥ b
  · rw [if_pos h]; simp; omega
  · rw [if_neg h]; simp; omega
theorem minute_ev (a : Int) : impl_isMinute.f a = some (decide (0 ≤ a ∧ a ≤ 1439)) := by unfold impl_isMinute.f; rw [within_ev]; rfl

/-- the readings are in range and ascend, behind a minute -/
def before (q : Option Int) (m : Int) : Bool := match q with | none => true | some y => decide (y < m)
def rok : Option Int → List S34 → Bool
  | _, [] => true
  | q, x :: r => decide (0 ≤ x.f0 ∧ x.f0 ≤ 1439) && (decide (-40 ≤ x.f1 ∧ x.f1 ≤ 300) && (before q x.f0 && rok (some x.f0) r))
def rvalid (l : List S34) : Bool := rok none l && decide (1 ≤ (l.length : Int) ∧ (l.length : Int) ≤ 12)
/-- the last minute of what came before -/
def Last (p : List S34) (q : Option Int) : Prop := (p = [] ∧ q = none) ∨ ∃ p' y, p = p' ++ [y] ∧ q = some y.f0
theorem last_snoc (p : List S34) (x : S34) : Last (p ++ [x]) (some x.f0) := .inr ⟨p, x, rfl, rfl⟩
theorem rd34 (p : List S34) (x : S34) (q : List S34) : rd_T34 (p ++ x :: q) (p.length : Int) = x := getD_at p x q z34
theorem rd34s {xs p : List S34} {x : S34} {q : List S34} (h : xs = p ++ x :: q) : rd_T34 xs (p.length : Int) = x := by subst h; exact rd34 p x q
theorem len_at {α : Type} {xs p : List α} {x : α} {q : List α} (h : xs = p ++ x :: q) : (p.length : Int) < (xs.length : Int) := by subst h; simp; omega
theorem snoc_at {α : Type} {xs p : List α} {x : α} {q : List α} (h : xs = p ++ x :: q) : xs = (p ++ [x]) ++ q := by subst h; simp
theorem wlen {α : Type} {xs p : List α} {x : α} {q : List α} (h : xs = p ++ x :: q) (hb : xs.length ≤ 1099511627776) : wrap64 ((p.length : Int) + 1) = ((p ++ [x]).length : Int) := by
  subst h; rw [w64 (by omega) (by simp at hb; omega)]; simp

theorem spec_rv (xs : List S34) (hb : xs.length ≤ 1099511627776) : ∀ (s p : List S34) (q : Option Int), xs = p ++ s → Last p q →
    Ev (fun k => spec_ReadingsValid.l0 k xs (p.length : Int)) (rok q s && decide (1 ≤ (xs.length : Int) ∧ (xs.length : Int) ≤ 12)) := by
  intro s
  induction s with
  | nil =>
    intro p q hx hq
    refine ev_succ ?_
    simp only [spec_ReadingsValid.l0, in_ev]
    refine ev_neg (by subst hx; simp) (ev_const (by simp [rok]))
  | cons x s ih =>
    intro p q hx hq
    refine ev_succ ?_
    simp only [spec_ReadingsValid.l0, in_ev, rd34s hx, wlen hx hb, Option.bind_some]
    refine ev_pos (len_at hx) (ev_pos (by omega) ?_)
    have hi := ih (p ++ [x]) (some x.f0) (snoc_at hx) (last_snoc p x)
    refine ev_ite (fun h1 => ev_ite (fun h2 => ?_) (fun h2 => ?_)) (fun h1 => ?_)
    · rcases hq with ⟨rfl, rfl⟩ | ⟨p', y, rfl, rfl⟩
      · refine ev_neg (by simp) (ev_eq hi ?_)
        rw [rok, h1, h2]; simp [before]
      · have e1 : wrap64 (((p' ++ [y]).length : Int) - 1) = (p'.length : Int) := by
          rw [w64 (by omega) (by subst hx; simp at hb ⊢; omega)]; simp
        have e2 : rd_T34 xs (p'.length : Int) = y := rd34s (q := x :: s) (by subst hx; simp)
        rw [e1, e2]
        refine ev_pos (by simp <;> omega) (ev_pos (by omega) (ev_pos (by subst hx; simp <;> omega) (ev_ite (fun h3 => ev_const ?_) (fun h3 => ev_eq hi ?_))))
        · rw [rok]; simp [before]; omega
        · rw [rok, h1, h2]
          have : before (some y.f0) x.f0 = true := by simp [before]; omega
          rw [this]; simp
    · rw [rok]; rw [Bool.not_eq_true] at h2; refine ev_const ?_; rw [h2]; simp
    · rw [rok]; rw [Bool.not_eq_true] at h1; refine ev_const ?_; rw [h1]; simp

theorem spec_valid (xs : List S34) (hb : xs.length ≤ 1099511627776) : Ev (fun k => spec_ReadingsValid.f k xs) (rvalid xs) :=
  spec_rv xs hb xs [] none rfl (.inl ⟨rfl, rfl⟩)

theorem impl_rv (xs : List S34) (hb : xs.length ≤ 1099511627776) : ∀ (s p : List S34) (q : Option Int), xs = p ++ s → Last p q →
    Ev (fun k => impl_ReadingsValid.l0 k xs xs (xs.length : Int) (p.length : Int)) (rok q s && decide (1 ≤ (xs.length : Int) ∧ (xs.length : Int) ≤ 12)) := by
  intro s
  induction s with
  | nil =>
    intro p q hx hq
    refine ev_succ ?_
    simp only [impl_ReadingsValid.l0, within_ev]
    refine ev_neg (by subst hx; simp) (ev_const (by simp [rok]))
  | cons x s ih =>
    intro p q hx hq
    refine ev_succ ?_
    simp only [impl_ReadingsValid.l0, within_ev, minute_ev, rd34s hx, wlen hx hb, Option.bind_some]
    refine ev_pos (len_at hx) (ev_pos (by omega) (ev_pos (len_at hx) ?_))
    have hi := ih (p ++ [x]) (some x.f0) (snoc_at hx) (last_snoc p x)
    refine ev_ite (fun h1 => ev_ite (fun h2 => ?_) (fun h2 => ?_)) (fun h1 => ?_)
    · rcases hq with ⟨rfl, rfl⟩ | ⟨p', y, rfl, rfl⟩
      · refine ev_neg (by simp) (ev_eq hi ?_)
        rw [rok, h1, h2]; simp [before]
      · have e1 : wrap64 (((p' ++ [y]).length : Int) - 1) = (p'.length : Int) := by
          rw [w64 (by omega) (by subst hx; simp at hb ⊢; omega)]; simp
        have e2 : rd_T34 xs (p'.length : Int) = y := rd34s (q := x :: s) (by subst hx; simp)
        rw [e1, e2]
        refine ev_pos (by simp <;> omega) (ev_pos (by omega) (ev_pos (by subst hx; simp <;> omega) (ev_ite (fun h3 => ev_const ?_) (fun h3 => ev_eq hi ?_))))
        · rw [rok]; simp [before]; omega
        · rw [rok, h1, h2]
          have : before (some y.f0) x.f0 = true := by simp [before]; omega
          rw [this]; simp
    · rw [rok]; rw [Bool.not_eq_true] at h2; refine ev_const ?_; rw [h2]; simp
    · rw [rok]; rw [Bool.not_eq_true] at h1; refine ev_const ?_; rw [h1]; simp

theorem impl_valid (xs : List S34) (hb : xs.length ≤ 1099511627776) : Ev (fun k => impl_ReadingsValid.f k xs) (rvalid xs) :=
  impl_rv xs hb xs [] none rfl (.inl ⟨rfl, rfl⟩)

end Go.Proofs.Ytnefjfianhkniaa.BWm
