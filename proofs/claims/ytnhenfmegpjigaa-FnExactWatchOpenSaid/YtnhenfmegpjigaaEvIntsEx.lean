/- Copies, marks and comparisons of slices of whole numbers, as the statements' own helpers compute them. Condition: fewer than 2^40 numbers. -/
import Derived.Test.YtnhenfmegpjigaaEvBase
import Derived.Test.YtnhenfmegpjigaaPEvx6
import Derived.Test.YtnhenfmegpjigaaPEvx7
namespace Go.Proofs.Ytnhenfmegpjigaa.BEv
open Go.RowKit Go.Proofs.Ytnhenfmegpjigaa.PEv Go.Proofs.YtnhenfmegpjigaaW.PrintWords Go.Proofs.YtnhenfmegpjigaaW.PrintLast Go.Proofs.YtnhenfmegpjigaaW.PrintMore
set_option linter.unusedVariables false
set_option linter.unusedSimpArgs false
theorem eqInt_loop (xs : List Int) (hb : xs.length ≤ 1099511627776) : ∀ (s p : List Int), xs = p ++ s → Ev (fun k => laws_eqIntS.l0 k xs xs (p.length : Int)) true := by
  intro s
  induction s with
  | nil => intro p hx; refine ev_succ ?_; simp only [laws_eqIntS.l0]; exact ev_neg (by subst hx; simp) (Ev.now _)
  | cons x s ih =>
    intro p hx; refine ev_succ ?_
    simp only [laws_eqIntS.l0, rds hx, wlen hx hb, if_true]
    exact ev_pos (len_at hx) (ev_pos (by omega) (ev_pos (len_at hx) (ih (p ++ [x]) (snoc_at hx))))
theorem eqInt_ev (xs : List Int) (hb : xs.length ≤ 1099511627776) : Ev (fun k => laws_eqIntS.f k xs xs) true := by
  unfold laws_eqIntS.f
  exact ev_pos rfl (eqInt_loop xs hb xs [] rfl)
/-- q, q + 1, .. -/
def run (q : Int) : Nat → List Int
  | 0 => []
  | n + 1 => q :: run (q + 1) n
theorem run_len : ∀ (n : Nat) (q : Int), (run q n).length = n
  | 0, _ => rfl
  | n + 1, q => by simp [run, run_len n]
theorem mark_loop : ∀ (s p : List Int) (q : Int), 0 ≤ q → q + s.length ≤ 4611686018427387904 → p.length + s.length ≤ 1099511627776 →
    Ev (fun k => laws_markIntS.l0 k (p ++ s) q (p.length : Int)) (q + s.length, p ++ run q s.length) := by
  intro s
  induction s with
  | nil => intro p q h0 h1 h2; refine ev_succ ?_; simp only [laws_markIntS.l0]; exact ev_neg (by simp) (ev_const (by simp [run]))
  | cons x s ih =>
    intro p q h0 h1 h2; refine ev_succ ?_
    simp only [List.length_cons] at h1 h2
    simp only [laws_markIntS.l0]
    refine ev_pos (by simp; omega) (ev_pos (by omega) ?_)
    have e1 : ((p.length : Int)).toNat = p.length := by simp
    rw [e1, set_at, w64 (x := q + 1) (by omega) (by omega), w64 (x := (p.length : Int) + 1) (by omega) (by omega)]
    have h3 := ih (p ++ [q]) (q + 1) (by omega) (by omega) (by simp; omega)
    have e2 : ((p ++ [q]).length : Int) = (p.length : Int) + 1 := by simp
    rw [e2] at h3
    have e3 : p ++ [q] ++ s = p ++ q :: s := by simp
    rw [e3] at h3
    refine ev_eq h3 ?_
    simp [run]; omega
theorem mark_ev (s : List Int) (q : Int) (h0 : 0 ≤ q) (h1 : q ≤ 1099511627776) (h2 : s.length ≤ 1099511627776) : Ev (fun k => laws_markIntS.f k s q) (q + s.length, run q s.length) :=
  mark_loop s [] q h0 (by omega) (by simp; omega)
theorem held_loop (xs : List Int) (hb : xs.length ≤ 1099511627776) : ∀ (n : Nat) (p : List Int) (q : Int), 0 ≤ q → q + n ≤ 4611686018427387904 → xs = p ++ run q n →
    Ev (fun k => laws_heldIntS.l0 k xs q (p.length : Int)) (q + n) := by
  intro n
  induction n with
  | zero => intro p q h0 h1 hx; refine ev_succ ?_; simp only [laws_heldIntS.l0]; exact ev_neg (by subst hx; simp [run]) (ev_const (by simp))
  | succ n ih =>
    intro p q h0 h1 hx; refine ev_succ ?_
    have hx' : xs = p ++ q :: run (q + 1) n := hx
    simp only [laws_heldIntS.l0, rds hx', wlen hx' hb, if_true]
    refine ev_pos (len_at hx') (ev_pos (by omega) ?_)
    rw [w64 (x := q + 1) (by omega) (by omega)]
    exact ev_eq (ih (p ++ [q]) (q + 1) (by omega) (by omega) (snoc_at hx')) (by omega)
theorem held_ev (n : Nat) (q : Int) (h0 : 0 ≤ q) (h1 : q ≤ 1099511627776) (h2 : n ≤ 1099511627776) : Ev (fun k => laws_heldIntS.f k (run q n) q) (q + n) :=
  held_loop (run q n) (by rw [run_len]; exact h2) n [] q h0 (by omega) rfl
end Go.Proofs.Ytnhenfmegpjigaa.BEv
