/- Warm minutes: the program's and the reference's functions compute the plain count; the draws of readings end. Condition: as stated in each lemma. -/
import Derived.Test.YtnefjfianhkniaaWmWarm
import Derived.Test.YtnefjfianhkniaaPWmx6
import Derived.Test.YtnefjfianhkniaaPWmx7
import Derived.Test.YtnefjfianhkniaaPWmx10
import Derived.Test.YtnefjfianhkniaaPWmx12
import Derived.Test.YtnefjfianhkniaaPWmx14
import Derived.Test.YtnefjfianhkniaaPWmx18
import Derived.Test.YtnefjfianhkniaaPWmx20
namespace Go.Proofs.Ytnefjfianhkniaa.BWm
open Go.RowKit Go.Proofs.Ytnefjfianhkniaa.PWm Go.Proofs.YtnefjfianhkniaaW.PrintWords Go.Proofs.YtnefjfianhkniaaW.PrintLast Go.Proofs.YtnefjfianhkniaaW.PrintMore
set_option linter.unusedVariables false
set_option linter.unusedSimpArgs false

theorem wt_iff (t : Int) : wt t = true ↔ 5 < t ∧ t < 60 := by simp [wt]
theorem wt_no (t : Int) (h : ¬ (5 < t ∧ t < 60)) : wt t = false := by
  cases e : wt t with
  | true => exact absurd ((wt_iff t).1 e) h
  | false => rfl
theorem cnt_le (e : Int) (he : e ≤ 1440) : ∀ l : List S34, (∀ x ∈ l, 0 ≤ x.f0) → cnt e l ≤ 1440 * l.length
  | [], _ => by simp [cnt]
  | x :: r, h => by
    have h1 := cnt_le e he r (fun y hy => h y (List.mem_cons_of_mem _ hy))
    have h2 := h x (List.mem_cons_self)
    have h3 : nxt e r ≤ e := by cases r <;> simp [nxt]; omega
    rw [cnt_cons, List.length_cons]; split <;> omega

theorem impl_cnt (e : Int) (he0 : 0 ≤ e) (he : e ≤ 1440) (xs : List S34) (hv : ∀ x ∈ xs, 0 ≤ x.f0 ∧ x.f0 ≤ 1439) (hb : xs.length ≤ 12) : ∀ (s p : List S34) (acc : Int), xs = p ++ s → 0 ≤ acc → acc ≤ 1440 * p.length →
    Ev (fun k => impl_warmMinutes.l0 k xs e acc xs (xs.length : Int) (p.length : Int)) (acc + cnt e s) := by
  intro s
  induction s with
  | nil =>
    intro p acc hx h0 h1
    refine ev_succ ?_
    simp only [impl_warmMinutes.l0]
    exact ev_neg (by subst hx; simp) (ev_const (by simp [cnt]))
  | cons x s ih =>
    intro p acc hx h0 h1
    have hpl : p.length + 1 ≤ 12 := by subst hx; simp at hb; omega
    have hxm := hv x (by subst hx; simp)
    refine ev_succ ?_
    simp only [impl_warmMinutes.l0, rd34s hx, wlen hx (by omega)]
    refine ev_pos (len_at hx) (ev_pos (by omega) (ev_pos (len_at hx) ?_))
    have hi := fun a => ih (p ++ [x]) a (snoc_at hx)
    cases s with
    | nil =>
      refine ev_neg (by subst hx; simp) ?_
      by_cases hw : 5 < x.f1 ∧ x.f1 < 60
      · refine ev_pos hw.1 (ev_pos hw.2 ?_)
        have e1 : wrap64 (e - x.f0) = e - x.f0 := w64 (by omega) (by omega)
        have e2 : wrap64 (acc + mx (e - x.f0) 0) = acc + max (e - x.f0) 0 := by
          have : mx (e - x.f0) 0 = max (e - x.f0) 0 := by unfold mx; split <;> omega
          rw [this, w64 (by omega) (by omega)]
        rw [e1, e2]
        refine ev_eq (hi _ (by omega) (by simp; omega)) ?_
        rw [cnt_cons, (wt_iff _).2 hw]; simp [cnt, nxt]
      · have hc : cnt e [x] = 0 := by rw [cnt_cons, wt_no _ hw]; simp [cnt]
        have := ev_eq (hi acc h0 (by simp; omega)) (s := acc + cnt e [x]) (by rw [hc]; simp [cnt])
        refine ev_ite (fun h2 => ev_neg (fun h3 => hw ⟨h2, h3⟩) this) (fun h2 => this)
    | cons y s =>
      have hy : rd_T34 xs ((p ++ [x]).length : Int) = y := rd34s (snoc_at hx)
      have hym := hv y (by subst hx; simp)
      refine ev_pos (by subst hx; simp; omega) (ev_pos (by omega) ?_)
      rw [hy]
      by_cases hw : 5 < x.f1 ∧ x.f1 < 60
      · refine ev_pos hw.1 (ev_pos hw.2 ?_)
        have e0 : mn e y.f0 = min e y.f0 := by unfold mn; split <;> omega
        have e1 : wrap64 (min e y.f0 - x.f0) = min e y.f0 - x.f0 := w64 (by omega) (by omega)
        have e2 : wrap64 (acc + mx (min e y.f0 - x.f0) 0) = acc + max (min e y.f0 - x.f0) 0 := by
          have : mx (min e y.f0 - x.f0) 0 = max (min e y.f0 - x.f0) 0 := by unfold mx; split <;> omega
          rw [this, w64 (by omega) (by omega)]
        rw [e0, e1, e2]
        refine ev_eq (hi _ (by omega) (by simp; omega)) ?_
        rw [cnt_cons e x, (wt_iff _).2 hw, if_pos rfl]; simp only [nxt]; omega
      · have hc : cnt e (x :: y :: s) = cnt e (y :: s) := by rw [cnt_cons e x, wt_no _ hw]; simp
        have := ev_eq (hi acc h0 (by simp; omega)) (s := acc + cnt e (x :: y :: s)) (by rw [hc])
        refine ev_ite (fun h2 => ev_neg (fun h3 => hw ⟨h2, h3⟩) this) (fun h2 => this)

theorem warm_ev (t : Int) : spec_l41Warm.f t = some (wt t) := by
  unfold spec_l41Warm.f wt
  by_cases h : t > 5
  · rw [if_pos h]; simp; omega
  · rw [if_neg h]; simp; omega

theorem spec_cnt (e : Int) (he0 : 0 ≤ e) (he : e ≤ 1440) (xs : List S34) (hv : ∀ x ∈ xs, 0 ≤ x.f0 ∧ x.f0 ≤ 1439) (hb : xs.length ≤ 12) : ∀ (s p : List S34) (acc : Int), xs = p ++ s → 0 ≤ acc → acc ≤ 1440 * p.length →
    Ev (fun k => spec_l41Count.l0 k xs e acc (p.length : Int)) (acc + cnt e s) := by
  intro s
  induction s with
  | nil =>
    intro p acc hx h0 h1
    refine ev_succ ?_
    simp only [spec_l41Count.l0]
    exact ev_neg (by subst hx; simp) (ev_const (by simp [cnt]))
  | cons x s ih =>
    intro p acc hx h0 h1
    have hpl : p.length + 1 ≤ 12 := by subst hx; simp at hb; omega
    have hxm := hv x (by subst hx; simp)
    refine ev_succ ?_
    simp only [spec_l41Count.l0, rd34s hx, wlen hx (by omega), warm_ev, Option.bind_some]
    refine ev_pos (len_at hx) ?_
    have hi := fun a => ih (p ++ [x]) a (snoc_at hx)
    cases s with
    | nil =>
      refine ev_neg (by subst hx; simp) (ev_pos (by omega) ?_)
      refine ev_ite (fun hw => ev_ite (fun h2 => ?_) (fun h2 => ?_)) (fun hw => ?_)
      · have e1 : wrap64 (wrap64 (acc + e) - x.f0) = acc + (e - x.f0) := by rw [w64 (x := acc + e) (by omega) (by omega), w64 (by omega) (by omega)]; omega
        rw [e1]
        refine ev_eq (hi _ (by omega) (by simp; omega)) ?_
        rw [cnt_cons, hw]; simp [cnt, nxt]; omega
      · refine ev_eq (hi _ h0 (by simp; omega)) ?_
        rw [cnt_cons, hw]; simp [cnt, nxt]; omega
      · refine ev_eq (hi _ h0 (by simp; omega)) ?_
        rw [cnt_cons]; simp at hw; rw [hw]; simp [cnt]
    | cons y s =>
      have hy : rd_T34 xs ((p ++ [x]).length : Int) = y := rd34s (snoc_at hx)
      have hym := hv y (by subst hx; simp)
      have e0 : mn e y.f0 = min e y.f0 := by unfold mn; split <;> omega
      refine ev_pos (by subst hx; simp; omega) (ev_pos (by omega) (ev_pos (by omega) ?_))
      rw [hy, e0]
      refine ev_ite (fun hw => ev_ite (fun h2 => ?_) (fun h2 => ?_)) (fun hw => ?_)
      · have e1 : wrap64 (wrap64 (acc + min e y.f0) - x.f0) = acc + (min e y.f0 - x.f0) := by rw [w64 (x := acc + min e y.f0) (by omega) (by omega), w64 (by omega) (by omega)]; omega
        rw [e1]
        refine ev_eq (hi _ (by omega) (by simp; omega)) ?_
        rw [cnt_cons e x, hw, if_pos rfl]; simp only [nxt]; omega
      · refine ev_eq (hi _ h0 (by simp; omega)) ?_
        rw [cnt_cons e x, hw, if_pos rfl]; simp only [nxt]; omega
      · refine ev_eq (hi _ h0 (by simp; omega)) ?_
        rw [cnt_cons e x]; simp at hw; rw [hw]; simp

theorem rok_mem : ∀ (l : List S34) (q : Option Int), rok q l = true → ∀ x ∈ l, (0 ≤ x.f0 ∧ x.f0 ≤ 1439) ∧ (-40 ≤ x.f1 ∧ x.f1 ≤ 300)
  | [], _, _, x, hx => by cases hx
  | y :: r, q, h, x, hx => by
    simp only [rok, Bool.and_eq_true, decide_eq_true_eq] at h
    rcases List.mem_cons.1 hx with rfl | hx
    · exact ⟨h.1, h.2.1⟩
    · exact rok_mem r _ h.2.2.2 x hx
theorem rok_asc : ∀ (l : List S34) (q : Option Int), rok q l = true → asc l
  | [], _, _ => trivial
  | [x], _, _ => trivial
  | x :: y :: r, q, h => by
    simp only [rok, Bool.and_eq_true, decide_eq_true_eq] at h
    refine ⟨by have := h.2.2.2.2.2.1; simp [before] at this; exact this, rok_asc (y :: r) (some x.f0) ?_⟩
    simp only [rok, Bool.and_eq_true, decide_eq_true_eq]; exact h.2.2.2
theorem valid_parts {l : List S34} (h : rvalid l = true) : (∀ x ∈ l, (0 ≤ x.f0 ∧ x.f0 ≤ 1439) ∧ (-40 ≤ x.f1 ∧ x.f1 ≤ 300)) ∧ asc l ∧ hd 0 l ∧ 1 ≤ l.length ∧ l.length ≤ 12 := by
  simp only [rvalid, Bool.and_eq_true, decide_eq_true_eq] at h
  refine ⟨rok_mem l _ h.1, rok_asc l _ h.1, ?_, by omega, by omega⟩
  cases l with
  | nil => trivial
  | cons x r => exact (rok_mem _ _ h.1 x (List.mem_cons_self)).1.1

/-- what WarmMinutes answers -/
def warmF (l : List S34) (e : Int) : Int := if rvalid l = true ∧ 0 ≤ e ∧ e ≤ 1440 then cnt e l else -1
theorem impl_warm (xs : List S34) (hb : xs.length ≤ 1099511627776) (e : Int) : Ev (fun k => impl_WarmMinutes.f k xs e) (warmF xs e) := by
  unfold impl_WarmMinutes.f
  refine Ev.bind (impl_valid xs hb) ?_
  simp only [within_ev, Option.bind_some]
  refine ev_ite (fun h1 => ev_ite (fun h2 => ?_) (fun h2 => ?_)) (fun h1 => ?_)
  · simp only [decide_eq_true_eq] at h2
    obtain ⟨hv, _, _, _, hl⟩ := valid_parts h1
    have := impl_cnt e h2.1 h2.2 xs (fun x hx => (hv x hx).1) hl xs [] 0 rfl (by omega) (by simp)
    have h3 : Ev (fun k => impl_warmMinutes.f k xs e) (0 + cnt e xs) := this
    refine Ev.bind h3 (ev_const ?_)
    rw [warmF, if_pos ⟨h1, h2⟩]; omega
  · simp only [decide_eq_true_eq] at h2
    refine ev_const ?_; rw [warmF, if_neg (fun h => h2 h.2)]
  · refine ev_const ?_; rw [warmF, if_neg (fun h => h1 h.1)]
theorem spec_warm (xs : List S34) (hb : xs.length ≤ 1099511627776) (e : Int) : Ev (fun k => spec_WarmMinutes.f k xs e) (warmF xs e) := by
  unfold spec_WarmMinutes.f
  refine Ev.bind (spec_valid xs hb) ?_
  simp only [in_ev, Option.bind_some]
  refine ev_ite (fun h1 => ev_ite (fun h2 => ?_) (fun h2 => ?_)) (fun h1 => ?_)
  · simp only [decide_eq_true_eq] at h2
    obtain ⟨hv, _, _, _, hl⟩ := valid_parts h1
    have := spec_cnt e h2.1 h2.2 xs (fun x hx => (hv x hx).1) hl xs [] 0 rfl (by omega) (by simp)
    have h3 : Ev (fun k => spec_l41Count.f k xs e) (0 + cnt e xs) := this
    refine Ev.bind h3 (ev_const ?_)
    rw [warmF, if_pos ⟨h1, h2⟩]; omega
  · simp only [decide_eq_true_eq] at h2
    refine ev_const ?_; rw [warmF, if_neg (fun h => h2 h.2)]
  · refine ev_const ?_; rw [warmF, if_neg (fun h => h1 h.1)]

/-- the first minute from m on, among n, at which the count is beyond the limit -/
def ufrom (l : List S34) (lim : Int) : Nat → Int → Int
  | 0, _ => -1
  | n + 1, m => if cnt m l > lim then m else ufrom l lim n (m + 1)
def untilF (l : List S34) (lim : Int) : Int := if rvalid l = true ∧ 0 ≤ lim then ufrom l lim 1441 0 else -1
theorem impl_until_loop (xs : List S34) (hv : rvalid xs = true) (lim : Int) : ∀ (n : Nat) (m : Int), 0 ≤ m → m + n = 1441 → Ev (fun k => impl_WarmUntil.l0 k xs lim m) (ufrom xs lim n m) := by
  intro n
  induction n with
  | zero => intro m h0 h1; refine ev_succ ?_; simp only [impl_WarmUntil.l0]; exact ev_neg (by omega) (Ev.now _)
  | succ n ih =>
    intro m h0 h1
    obtain ⟨hv', _, _, _, hl⟩ := valid_parts hv
    refine ev_succ ?_; simp only [impl_WarmUntil.l0]
    refine ev_pos (by omega) ?_
    have h3 : Ev (fun k => impl_warmMinutes.f k xs m) (0 + cnt m xs) := impl_cnt m h0 (by omega) xs (fun x hx => (hv' x hx).1) hl xs [] 0 rfl (by omega) (by simp)
    refine Ev.bind h3 ?_
    rw [w64 (x := m + 1) (by omega) (by omega)]
    refine ev_ite (fun h => ev_const ?_) (fun h => ev_eq (ih (m + 1) (by omega) (by omega)) ?_)
    · rw [ufrom, if_pos (by omega)]
    · rw [ufrom, if_neg (by omega)]
theorem spec_until_loop (xs : List S34) (hv : rvalid xs = true) (hb : xs.length ≤ 1099511627776) (lim : Int) (hlim : 0 ≤ lim) : ∀ (n : Nat) (m : Int), 0 ≤ m → m + n = 1441 → Ev (fun k => spec_WarmUntil.l0 k xs lim m) (ufrom xs lim n m) := by
  intro n
  induction n with
  | zero =>
    intro m h0 h1; refine ev_succ ?_; simp only [spec_WarmUntil.l0]
    refine ev_neg (by omega) (ev_succ ?_); simp only [spec_WarmUntil.j1]
    exact ev_neg (by simp) (Ev.now _)
  | succ n ih =>
    intro m h0 h1
    obtain ⟨hv', _, _, _, hl⟩ := valid_parts hv
    refine ev_succ ?_; simp only [spec_WarmUntil.l0]
    refine ev_pos (by omega) (Ev.bind (spec_valid xs hb) ?_)
    refine ev_pos hv (ev_succ ?_)
    simp only [spec_WarmUntil.j1]
    refine ev_pos (by simp; omega) ?_
    have h3 : Ev (fun k => spec_l41Count.f k xs m) (0 + cnt m xs) := spec_cnt m h0 (by omega) xs (fun x hx => (hv' x hx).1) hl xs [] 0 rfl (by omega) (by simp)
    refine Ev.bind h3 ?_
    rw [w64 (x := m + 1) (by omega) (by omega)]
    refine ev_ite (fun h => ev_const ?_) (fun h => ev_eq (ih (m + 1) (by omega) (by omega)) ?_)
    · rw [ufrom, if_pos (by omega)]
    · rw [ufrom, if_neg (by omega)]
theorem impl_until (xs : List S34) (hb : xs.length ≤ 1099511627776) (lim : Int) : Ev (fun k => impl_WarmUntil.f k xs lim) (untilF xs lim) := by
  unfold impl_WarmUntil.f
  refine Ev.bind (impl_valid xs hb) (ev_ite (fun h1 => ev_succ ?_) (fun h1 => ev_succ ?_))
  · simp only [impl_WarmUntil.j0]
    refine ev_ite (fun h2 => ev_const ?_) (fun h2 => ?_)
    · simp only [decide_eq_true_eq] at h2; rw [untilF, if_neg (by omega)]
    · simp only [decide_eq_true_eq] at h2
      refine ev_eq (impl_until_loop xs h1 lim 1441 0 (by omega) (by omega)) ?_
      rw [untilF, if_pos ⟨h1, by omega⟩]
  · simp only [impl_WarmUntil.j0]
    refine ev_pos (by simp) (ev_const ?_); rw [untilF, if_neg (fun h => h1 h.1)]
theorem spec_until (xs : List S34) (hb : xs.length ≤ 1099511627776) (lim : Int) : Ev (fun k => spec_WarmUntil.f k xs lim) (untilF xs lim) := by
  unfold spec_WarmUntil.f
  by_cases h : rvalid xs = true ∧ 0 ≤ lim
  · rw [untilF, if_pos h]; exact spec_until_loop xs h.1 hb lim h.2 1441 0 (by omega) (by omega)
  · rw [untilF, if_neg h]
    refine ev_succ ?_; simp only [spec_WarmUntil.l0]
    refine ev_pos (by omega) (Ev.bind (spec_valid xs hb) (ev_ite (fun h1 => ev_succ ?_) (fun h1 => ev_succ ?_)))
    · simp only [spec_WarmUntil.j1]; have h3 : ¬ 0 ≤ lim := fun h2 => h ⟨h1, h2⟩
      exact ev_neg (by simp; omega) (Ev.now _)
    · simp only [spec_WarmUntil.j1]; exact ev_neg (by simp) (Ev.now _)

/-- the greatest and the least temperature -/
def high : Int → List S34 → Int
  | a, [] => a
  | a, x :: r => high (max a x.f1) r
def low : Int → List S34 → Int
  | a, [] => a
  | a, x :: r => low (min a x.f1) r
theorem mx_max (a b : Int) : mx a b = max a b := by unfold mx; split <;> omega
theorem mn_min (a b : Int) : mn a b = min a b := by unfold mn; split <;> omega
theorem impl_most_loop (xs : List S34) (hb : xs.length ≤ 1099511627776) : ∀ (s p : List S34) (a b : Int), xs = p ++ s → Ev (fun k => impl_WarmMost.l0 k a b xs (xs.length : Int) (p.length : Int)) (high a s, low b s, true) := by
  intro s
  induction s with
  | nil => intro p a b hx; refine ev_succ ?_; simp only [impl_WarmMost.l0]; exact ev_neg (by subst hx; simp) (Ev.now _)
  | cons x s ih =>
    intro p a b hx; refine ev_succ ?_
    simp only [impl_WarmMost.l0, rd34s hx, wlen hx hb, mx_max, mn_min]
    exact ev_pos (len_at hx) (ev_pos (by omega) (ev_pos (len_at hx) (ih (p ++ [x]) _ _ (snoc_at hx))))
theorem spec_most_loop (xs : List S34) (hb : xs.length ≤ 1099511627776) : ∀ (s p : List S34) (a b : Int), xs = p ++ s → Ev (fun k => spec_WarmMost.l0 k xs a b (p.length : Int)) (high a s, low b s, true) := by
  intro s
  induction s with
  | nil => intro p a b hx; refine ev_succ ?_; simp only [spec_WarmMost.l0]; exact ev_neg (by subst hx; simp) (Ev.now _)
  | cons x s ih =>
    intro p a b hx; refine ev_succ ?_
    simp only [spec_WarmMost.l0, rd34s hx, wlen hx hb, mx_max, mn_min]
    exact ev_pos (len_at hx) (ev_pos (by omega) (ih (p ++ [x]) _ _ (snoc_at hx)))
def mostF (l : List S34) : Int × Int × Bool := match l with | [] => (0, 0, false) | x :: r => if rvalid (x :: r) = true then (high x.f1 r, low x.f1 r, true) else (0, 0, false)
theorem rvalid_nil : rvalid [] = false := by decide
theorem impl_most (xs : List S34) (hb : xs.length ≤ 1099511627776) : Ev (fun k => impl_WarmMost.f k xs) (mostF xs) := by
  unfold impl_WarmMost.f
  refine Ev.bind (impl_valid xs hb) ?_
  cases xs with
  | nil => rw [rvalid_nil]; exact ev_neg (by simp) (Ev.now _)
  | cons x r =>
    refine ev_ite (fun h => ev_pos (by simp <;> omega) ?_) (fun h => ev_const (by simp [mostF, h]))
    have e0 : rd_T34 (x :: r) 0 = x := rfl
    refine ev_eq (impl_most_loop (x :: r) hb (x :: r) [] _ _ rfl) ?_
    simp [mostF, h, high, low, e0]
theorem spec_most (xs : List S34) (hb : xs.length ≤ 1099511627776) : Ev (fun k => spec_WarmMost.f k xs) (mostF xs) := by
  unfold spec_WarmMost.f
  refine Ev.bind (spec_valid xs hb) ?_
  cases xs with
  | nil => rw [rvalid_nil]; exact ev_neg (by simp) (Ev.now _)
  | cons x r =>
    refine ev_ite (fun h => ev_pos (by simp <;> omega) ?_) (fun h => ev_const (by simp [mostF, h]))
    have e0 : rd_T34 (x :: r) 0 = x := rfl
    refine ev_eq (spec_most_loop (x :: r) hb r [x] _ _ rfl) ?_
    simp [mostF, h, e0]

/-! the draws -/
theorem readings_fix (s : List Int) (hs : Tape s) (n : Int) (xs : List S34) (hl : xs.length = n) (hn : 1 ≤ n) (p : Int) (hp : 0 ≤ p) (hp1 : p ≤ 1000000) (b : Bool) :
    ∃ ys p', 0 ≤ p' ∧ p' ≤ p + 10 ∧ ys.length = xs.length ∧ Ev (fun k => spec_l92Readings.j2 k xs n b s p) (ys, p') := by
  cases b with
  | false => exact ⟨xs, p, hp, by omega, rfl, ev_succ (by simp only [spec_l92Readings.j2]; exact ev_neg (by simp) (Ev.now _))⟩
  | true =>
    obtain ⟨v1, a1, b1, h1⟩ := pick_ev s hs p n hp (by omega) hn
    obtain ⟨v2, a2, b2, h2⟩ := pick_ev s hs (p + 1) 3 (by omega) (by omega) (by omega)
    obtain ⟨v3, a3, b3, h3⟩ := pick_ev s hs (p + 1 + 1) 4 (by omega) (by omega) (by omega)
    refine ⟨xs.set v1.toNat ⟨rd [-1, 1439, 1440] v2, rd [-41, 300, 301, 20] v3⟩, p + 1 + 1 + 1, by omega, by omega, by simp, ev_succ ?_⟩
    simp only [spec_l92Readings.j2, Option.bind_some]
    refine ev_pos (by simp) (Ev.bind h1 (Ev.bind h2 ?_))
    dsimp only
    refine ev_pos a2 (ev_pos (by simpa using b2) (Ev.bind h3 ?_))
    dsimp only
    exact ev_pos a3 (ev_pos (by simpa using b3) (ev_pos a1 (ev_pos (by omega) (Ev.now _))))
theorem readings_loop (s : List Int) (hs : Tape s) (n : Int) (hn : n ≤ 13) : ∀ (d : Nat) (xs : List S34) (m i p : Int), xs.length = i → i + d = n → 0 ≤ p → p ≤ 900000 + 2 * i →
    ∃ ys p', 0 ≤ p' ∧ p' ≤ p + 2 * d + 20 ∧ (ys.length : Int) = n ∧ Ev (fun k => spec_l92Readings.l0 k xs n m i s p) (ys, p') := by
  intro d
  induction d with
  | zero =>
    intro xs m i p hl hi hp hp1
    by_cases hn0 : n > 0
    · obtain ⟨v1, a1, b1, h1⟩ := pick_ev s hs p 20 hp (by omega) (by omega)
      obtain ⟨ys, p', q0, q1, q2, h2⟩ := readings_fix s hs n xs (by omega) (by omega) (p + 1) (by omega) (by omega) (v1 == 0)
      refine ⟨ys, p', q0, by omega, by omega, ev_succ ?_⟩
      simp only [spec_l92Readings.l0]
      exact ev_neg (by omega) (ev_pos hn0 (Ev.bind h1 h2))
    · refine ⟨xs, p, hp, by omega, by omega, ev_succ ?_⟩
      simp only [spec_l92Readings.l0]
      refine ev_neg (by omega) (ev_neg hn0 (ev_succ ?_))
      simp only [spec_l92Readings.j2]; exact ev_neg (by simp) (Ev.now _)
  | succ d ih =>
    intro xs m i p hl hi hp hp1
    obtain ⟨v1, a1, b1, h1⟩ := pick_ev s hs p 8 hp (by omega) (by omega)
    obtain ⟨v2, a2, b2, h2⟩ := pick_ev s hs (p + 1) 50 (by omega) (by omega) (by omega)
    obtain ⟨ys, p', q0, q1, q2, h3⟩ := ih (xs ++ [⟨m, rd [2, 5, 6, 30, 59, 60, 80, -18] v1⟩]) (wrap64 (wrap64 (m + 1) + v2)) (i + 1) (p + 1 + 1) (by simp; omega) (by omega) (by omega) (by omega)
    refine ⟨ys, p', q0, by omega, q2, ev_succ ?_⟩
    simp only [spec_l92Readings.l0, Option.bind_some]
    refine ev_pos (by omega) (Ev.bind h1 ?_)
    dsimp only
    refine ev_pos a1 (ev_pos (by simpa using b1) (ev_pos (by omega) (Ev.bind h2 ?_)))
    dsimp only
    rw [w64 (x := i + 1) (by omega) (by omega)]
    exact h3
theorem readings_ev (s : List Int) (hs : Tape s) (p : Int) (hp : 0 ≤ p) (hp1 : p ≤ 1000) :
    ∃ ys p', 0 ≤ p' ∧ p' ≤ p + 1000 ∧ ys.length ≤ 13 ∧ Ev (fun k => spec_l92Readings.f k s p) (ys, p') := by
  obtain ⟨v1, a1, b1, h1⟩ := pick_ev s hs p 7 hp (by omega) (by omega)
  obtain ⟨v2, a2, b2, h2⟩ := pick_ev s hs (p + 1) 20 (by omega) (by omega) (by omega)
  by_cases hv : v2 = 0
  · obtain ⟨v3, a3, b3, h3⟩ := pick_ev s hs (p + 1 + 1) 2 (by omega) (by omega) (by omega)
    obtain ⟨v4, a4, b4, h4⟩ := pick_ev s hs (p + 1 + 1 + 1) 60 (by omega) (by omega) (by omega)
    obtain ⟨d, hd⟩ := Int.eq_ofNat_of_zero_le (show 0 ≤ v3 * 13 by omega)
    obtain ⟨ys, p', q0, q1, q2, h5⟩ := readings_loop s hs (v3 * 13) (by omega) d [] v4 0 (p + 1 + 1 + 1 + 1) rfl (by omega) (by omega) (by omega)
    refine ⟨ys, p', q0, by omega, by omega, ?_⟩
    unfold spec_l92Readings.f
    simp only [Option.bind_some]
    refine Ev.bind h1 (Ev.bind h2 ?_)
    dsimp only
    refine ev_pos hv (Ev.bind h3 (ev_succ ?_))
    dsimp only
    rw [w64 (x := v3 * 13) (by omega) (by omega)]
    simp only [spec_l92Readings.j0]
    exact Ev.bind h4 h5
  · obtain ⟨v4, a4, b4, h4⟩ := pick_ev s hs (p + 1 + 1) 60 (by omega) (by omega) (by omega)
    obtain ⟨d, hd⟩ := Int.eq_ofNat_of_zero_le (show 0 ≤ 1 + v1 by omega)
    obtain ⟨ys, p', q0, q1, q2, h5⟩ := readings_loop s hs (1 + v1) (by omega) d [] v4 0 (p + 1 + 1 + 1) rfl (by omega) (by omega) (by omega)
    refine ⟨ys, p', q0, by omega, by omega, ?_⟩
    unfold spec_l92Readings.f
    simp only [Option.bind_some]
    refine Ev.bind h1 (Ev.bind h2 ?_)
    dsimp only
    refine ev_neg hv (ev_succ ?_)
    rw [w64 (x := 1 + v1) (by omega) (by omega)]
    simp only [spec_l92Readings.j0]
    exact Ev.bind h4 h5
theorem draw_most (l : List Int) (hl : ∀ x ∈ l, (Lit.int .u8 x).wf = true) : ∃ ys, ys.length ≤ 13 ∧ Ev (fun k => spec_DrawWarmMost.f k l) ys := by
  obtain ⟨s, hs, ho⟩ := open_tape l hl
  obtain ⟨ys, p', q0, q1, q2, h⟩ := readings_ev s hs 0 (by omega) (by omega)
  refine ⟨ys, q2, ?_⟩
  unfold spec_DrawWarmMost.f
  rw [ho]; simp only [Option.bind_some]
  exact Ev.bind h (Ev.now _)
theorem draw_minutes (l : List Int) (hl : ∀ x ∈ l, (Lit.int .u8 x).wf = true) : ∃ ys e, ys.length ≤ 13 ∧ -1 ≤ e ∧ e ≤ 1441 ∧ Ev (fun k => spec_DrawWarmMinutes.f k l) (ys, e) := by
  obtain ⟨s, hs, ho⟩ := open_tape l hl
  obtain ⟨ys, p', q0, q1, q2, h⟩ := readings_ev s hs 0 (by omega) (by omega)
  obtain ⟨v1, a1, b1, h1⟩ := pick_ev s hs p' 12 q0 (by omega) (by omega)
  by_cases hv : v1 = 0
  · obtain ⟨v2, a2, b2, h2⟩ := pick_ev s hs (p' + 1) 4 (by omega) (by omega) (by omega)
    have hr : -1 ≤ rd [-1, 0, 1440, 1441] v2 ∧ rd [-1, 0, 1440, 1441] v2 ≤ 1441 := by
      have : v2 = 0 ∨ v2 = 1 ∨ v2 = 2 ∨ v2 = 3 := by omega
      rcases this with rfl | rfl | rfl | rfl <;> decide
    refine ⟨ys, _, q2, hr.1, hr.2, ?_⟩
    unfold spec_DrawWarmMinutes.f
    rw [ho]; simp only [Option.bind_some]
    refine Ev.bind h (Ev.bind h1 ?_)
    dsimp only
    refine ev_pos hv (Ev.bind h2 ?_)
    dsimp only
    exact ev_pos a2 (ev_pos (by simpa using b2) (Ev.now _))
  · obtain ⟨v2, a2, b2, h2⟩ := pick_ev s hs (p' + 1) 240 (by omega) (by omega) (by omega)
    refine ⟨ys, v2 * 2, q2, by omega, by omega, ?_⟩
    unfold spec_DrawWarmMinutes.f
    rw [ho]; simp only [Option.bind_some]
    refine Ev.bind h (Ev.bind h1 ?_)
    dsimp only
    refine ev_neg hv (Ev.bind h2 ?_)
    dsimp only
    rw [w64 (x := v2 * 2) (by omega) (by omega)]
    exact Ev.now _
theorem draw_until (l : List Int) (hl : ∀ x ∈ l, (Lit.int .u8 x).wf = true) : ∃ ys e, ys.length ≤ 13 ∧ -1 ≤ e ∧ e ≤ 89 ∧ Ev (fun k => spec_DrawWarmUntil.f k l) (ys, e) := by
  obtain ⟨s, hs, ho⟩ := open_tape l hl
  obtain ⟨ys, p', q0, q1, q2, h⟩ := readings_ev s hs 0 (by omega) (by omega)
  obtain ⟨v1, a1, b1, h1⟩ := pick_ev s hs p' 90 q0 (by omega) (by omega)
  refine ⟨ys, v1 - 1, q2, by omega, by omega, ?_⟩
  unfold spec_DrawWarmUntil.f
  rw [ho]; simp only [Option.bind_some]
  refine Ev.bind h (Ev.bind h1 ?_)
  dsimp only
  rw [w64 (x := v1 - 1) (by omega) (by omega)]
  exact Ev.now _

end Go.Proofs.Ytnefjfianhkniaa.BWm
