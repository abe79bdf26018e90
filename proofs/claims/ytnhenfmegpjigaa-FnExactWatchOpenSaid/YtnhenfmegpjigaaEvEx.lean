/- Copies and marks of events: what the exact statements' own helpers compute. Condition: the list has fewer than 2^40 events. -/
import Derived.Test.YtnhenfmegpjigaaEvEvents
import Derived.Test.YtnhenfmegpjigaaPEvx3
import Derived.Test.YtnhenfmegpjigaaPEvx4
import Derived.Test.YtnhenfmegpjigaaPEvx6
namespace Go.Proofs.Ytnhenfmegpjigaa.BEv
open Go.RowKit Go.Proofs.Ytnhenfmegpjigaa.PEv Go.Proofs.YtnhenfmegpjigaaW.PrintWords Go.Proofs.YtnhenfmegpjigaaW.PrintLast Go.Proofs.YtnhenfmegpjigaaW.PrintMore
set_option linter.unusedVariables false
set_option linter.unusedSimpArgs false
def conv (x : S65) : S27 := ⟨x.f0, x.f1, x.f2, x.f3, x.f4, x.f5⟩
theorem rd65s {xs p : List S65} {x : S65} {q : List S65} (h : xs = p ++ x :: q) : rd_T65 xs (p.length : Int) = x := by subst h; exact getD_at p x q z65
theorem to_loop (xs : List S65) (hb : xs.length ≤ 1099511627776) : ∀ (s p : List S65), xs = p ++ s →
    Ev (fun k => laws_toEventS.l0 k xs (p.map conv ++ List.replicate s.length z27) (p.length : Int)) (xs.map conv) := by
  intro s
  induction s with
  | nil => intro p hx; refine ev_succ ?_; simp only [laws_toEventS.l0]; exact ev_neg (by subst hx; simp) (ev_const (by subst hx; simp))
  | cons x s ih =>
    intro p hx; refine ev_succ ?_
    simp only [laws_toEventS.l0, rd65s hx, wlen hx hb, laws_toEvent.f, Option.bind_some]
    refine ev_pos (len_at hx) (ev_pos (by omega) (ev_pos (by simp; omega) ?_))
    have e : (p.map conv ++ List.replicate (x :: s).length z27).set ((p.length : Int)).toNat ⟨x.f0, x.f1, x.f2, x.f3, x.f4, x.f5⟩ = (p ++ [x]).map conv ++ List.replicate s.length z27 := by
      have h1 : ((p.length : Int)).toNat = (p.map conv).length := by simp
      rw [h1, List.length_cons, List.replicate_succ, set_at]; simp [conv]
    rw [e]; exact ih (p ++ [x]) (snoc_at hx)
theorem to_ev (xs : List S65) (hb : xs.length ≤ 1048576) : Ev (fun k => laws_toEventS.f k xs) (xs.map conv) := by
  unfold laws_toEventS.f
  refine ev_pos (by omega) (ev_pos (by omega) ?_)
  exact to_loop xs (by omega) xs [] rfl
theorem eq_loop (xs : List S27) (hb : xs.length ≤ 1099511627776) : ∀ (s p : List S27), xs = p ++ s → Ev (fun k => laws_eqEventS.l0 k xs xs (p.length : Int)) true := by
  intro s
  induction s with
  | nil => intro p hx; refine ev_succ ?_; simp only [laws_eqEventS.l0]; exact ev_neg (by subst hx; simp) (Ev.now _)
  | cons x s ih =>
    intro p hx; refine ev_succ ?_
    simp only [laws_eqEventS.l0, rd27s hx, wlen hx hb, laws_eqEvent.f, if_true, Option.bind_some]
    exact ev_pos (len_at hx) (ev_pos (by omega) (ev_pos (len_at hx) (ih (p ++ [x]) (snoc_at hx))))
theorem eq_ev (xs : List S27) (hb : xs.length ≤ 1099511627776) : Ev (fun k => laws_eqEventS.f k xs xs) true := by
  unfold laws_eqEventS.f
  exact ev_pos rfl (eq_loop xs hb xs [] rfl)
theorem sz_ev (xs : List S65) (a : Int) (h : xs.length ≤ 9223372036854775807) (ha : 0 ≤ a ∧ a ≤ 1048576) : ((xs.length : Int) ≤ a ∧ laws_szEventS.f xs a = some (a - (xs.length : Int))) ∨ laws_szEventS.f xs a = some (-1) := by
  unfold laws_szEventS.f
  rw [w64 (x := a - (xs.length : Int)) (by omega) (by omega)]
  by_cases h0 : a - (xs.length : Int) < 0
  · rw [if_pos h0]; exact .inr rfl
  · rw [if_neg h0]; exact .inl ⟨by omega, rfl⟩
theorem markE_loop : ∀ (d : Nat) (xs : List S27) (q i : Int), 0 ≤ i → i + d = xs.length → 0 ≤ q → q + 6 * d ≤ 4611686018427387904 → xs.length ≤ 1099511627776 →
    ∃ r ys, 0 ≤ r ∧ r = q + 6 * d ∧ Ev (fun k => laws_markEventS.l0 k xs q i) (r, ys) := by
  intro d
  induction d with
  | zero => intro xs q i h0 h1 h2 h3 h4; exact ⟨q, xs, h2, by omega, ev_succ (by simp only [laws_markEventS.l0]; exact ev_neg (by omega) (Ev.now _))⟩
  | succ d ih =>
    intro xs q i h0 h1 h2 h3 h4
    have e1 : wrap64 (q + 1) = q + 1 := w64 (by omega) (by omega)
    have e2 : wrap64 (q + 1 + 1) = q + 2 := by rw [w64 (by omega) (by omega)]; omega
    have e3 : wrap64 (q + 2 + 1) = q + 3 := by rw [w64 (by omega) (by omega)]; omega
    have e4 : wrap64 (q + 3 + 1) = q + 4 := by rw [w64 (by omega) (by omega)]; omega
    have e5 : wrap64 (q + 4 + 1) = q + 5 := by rw [w64 (by omega) (by omega)]; omega
    have e6 : wrap64 (q + 5 + 1) = q + 6 := by rw [w64 (by omega) (by omega)]; omega
    have e7 : wrap64 (i + 1) = i + 1 := w64 (by omega) (by omega)
    have key : ∀ zs : List S27, zs.length = xs.length → ∃ r ys, 0 ≤ r ∧ r = q + 6 * (d + 1 : Nat) ∧ Ev (fun k => laws_markEventS.l0 k zs (q + 6) (i + 1)) (r, ys) := by
      intro zs hz
      obtain ⟨r, ys, hr, hr2, h⟩ := ih zs (q + 6) (i + 1) (by omega) (by omega) (by omega) (by omega) (by omega)
      exact ⟨r, ys, hr, by omega, h⟩
    have fin : ∃ r ys, 0 ≤ r ∧ r = q + 6 * (d + 1 : Nat) ∧ Ev (fun k => laws_markEventS.l0 (k + 1) xs q i) (r, ys) := by
      simp only [laws_markEventS.l0, Option.bind_some, e1, e2, e3, e4, e5, e6, e7]
      refine (key _ ?hz).elim (fun r h => h.elim (fun ys h => ⟨r, ys, h.1, h.2.1, ev_pos (by omega) (ev_pos h0 h.2.2)⟩))
      simp only [List.length_set]
    obtain ⟨r, ys, hr, hr2, h⟩ := fin
    exact ⟨r, ys, hr, hr2, ev_succ h⟩
theorem markE_ev (xs : List S27) (q : Int) (hq : 0 ≤ q) (hq1 : q ≤ 1099511627776) (h : xs.length ≤ 1099511627776) : ∃ r ys, 0 ≤ r ∧ r = q + 6 * xs.length ∧ Ev (fun k => laws_markEventS.f k xs q) (r, ys) :=
  markE_loop xs.length xs q 0 (by omega) (by omega) hq (by omega) h
end Go.Proofs.Ytnhenfmegpjigaa.BEv
