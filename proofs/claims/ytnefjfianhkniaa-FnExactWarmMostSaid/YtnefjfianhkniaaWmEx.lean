/- Copies of readings: what the exact statements' own helpers compute. Condition: the list has fewer than 2^40 readings. -/
import Derived.Test.YtnefjfianhkniaaWmMin
import Derived.Test.YtnefjfianhkniaaPWmx1
import Derived.Test.YtnefjfianhkniaaPWmx3
namespace Go.Proofs.Ytnefjfianhkniaa.BWm
open Go.RowKit Go.Proofs.Ytnefjfianhkniaa.PWm Go.Proofs.YtnefjfianhkniaaW.PrintWords Go.Proofs.YtnefjfianhkniaaW.PrintLast Go.Proofs.YtnefjfianhkniaaW.PrintMore
set_option linter.unusedVariables false
set_option linter.unusedSimpArgs false
def conv (x : S43) : S34 := ⟨x.f0, x.f1⟩
theorem rd43s {xs p : List S43} {x : S43} {q : List S43} (h : xs = p ++ x :: q) : rd_T43 xs (p.length : Int) = x := by subst h; exact getD_at p x q z43
theorem set_at {α : Type} (p : List α) (a b : α) (q : List α) : (p ++ a :: q).set p.length b = p ++ b :: q := by simp
theorem to_loop (xs : List S43) (hb : xs.length ≤ 1099511627776) : ∀ (s p : List S43), xs = p ++ s →
    Ev (fun k => laws_toReadingS.l0 k xs (p.map conv ++ List.replicate s.length z34) (p.length : Int)) (xs.map conv) := by
  intro s
  induction s with
  | nil =>
    intro p hx; refine ev_succ ?_; simp only [laws_toReadingS.l0]
    refine ev_neg (by subst hx; simp) (ev_const ?_); subst hx; simp
  | cons x s ih =>
    intro p hx; refine ev_succ ?_
    simp only [laws_toReadingS.l0, rd43s hx, wlen hx hb, laws_toReading.f, Option.bind_some]
    refine ev_pos (len_at hx) (ev_pos (by omega) (ev_pos (by simp; omega) ?_))
    have e : (p.map conv ++ List.replicate (x :: s).length z34).set ((p.length : Int)).toNat ⟨x.f0, x.f1⟩ = (p ++ [x]).map conv ++ List.replicate s.length z34 := by
      have h1 : ((p.length : Int)).toNat = (p.map conv).length := by simp
      rw [h1, List.length_cons, List.replicate_succ, set_at]; simp [conv]
    rw [e]; exact ih (p ++ [x]) (snoc_at hx)
theorem to_ev (xs : List S43) (hb : xs.length ≤ 1048576) : Ev (fun k => laws_toReadingS.f k xs) (xs.map conv) := by
  unfold laws_toReadingS.f
  refine ev_pos (by omega) (ev_pos (by omega) ?_)
  exact to_loop xs (by omega) xs [] rfl
theorem eq_loop (xs : List S34) (hb : xs.length ≤ 1099511627776) : ∀ (s p : List S34), xs = p ++ s → Ev (fun k => laws_eqReadingS.l0 k xs xs (p.length : Int)) true := by
  intro s
  induction s with
  | nil => intro p hx; refine ev_succ ?_; simp only [laws_eqReadingS.l0]; exact ev_neg (by subst hx; simp) (Ev.now _)
  | cons x s ih =>
    intro p hx; refine ev_succ ?_
    simp only [laws_eqReadingS.l0, rd34s hx, wlen hx hb, laws_eqReading.f, if_true, Option.bind_some]
    exact ev_pos (len_at hx) (ev_pos (by omega) (ev_pos (len_at hx) (ih (p ++ [x]) (snoc_at hx))))
theorem eq_ev (xs : List S34) (hb : xs.length ≤ 1099511627776) : Ev (fun k => laws_eqReadingS.f k xs xs) true := by
  unfold laws_eqReadingS.f
  exact ev_pos rfl (eq_loop xs hb xs [] rfl)
theorem sz_ev (xs : List S43) (h : xs.length ≤ 9223372036854775807) : (xs.length ≤ 1048576 ∧ laws_szReadingS.f xs 1048576 = some (1048576 - (xs.length : Int))) ∨ laws_szReadingS.f xs 1048576 = some (-1) := by
  unfold laws_szReadingS.f
  rw [w64 (x := 1048576 - (xs.length : Int)) (by omega) (by omega)]
  by_cases h0 : 1048576 - (xs.length : Int) < 0
  · rw [if_pos h0]; exact .inr rfl
  · rw [if_neg h0]; exact .inl ⟨by omega, rfl⟩
end Go.Proofs.Ytnefjfianhkniaa.BWm
