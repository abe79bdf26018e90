/- Copies, marks and comparisons of slices of whole numbers, as the statements' own helpers compute them. Condition: fewer than 2^40 numbers. -/
import Derived.Test.YtnckblolijkdaaaBtBase
import Derived.Test.YtnckblolijkdaaaPBtx5
namespace Go.Proofs.Ytnckblolijkdaaa.BBt
open Go.RowKit Go.Proofs.Ytnckblolijkdaaa.PBt Go.Proofs.YtnckblolijkdaaaW.PrintWords Go.Proofs.YtnckblolijkdaaaW.PrintLast Go.Proofs.YtnckblolijkdaaaW.PrintMore
set_option linter.unusedVariables false
set_option linter.unusedSimpArgs false
theorem toInt_loop (xs : List Int) (hb : xs.length ≤ 1099511627776) : ∀ (s p : List Int), xs = p ++ s →
    Ev (fun k => laws_toIntS.l0 k xs (p ++ List.replicate s.length 0) (p.length : Int)) xs := by
  intro s
  induction s with
  | nil => intro p hx; refine ev_succ ?_; simp only [laws_toIntS.l0]; exact ev_neg (by subst hx; simp) (ev_const (by subst hx; simp))
  | cons x s ih =>
    intro p hx; refine ev_succ ?_
    simp only [laws_toIntS.l0, rds hx, wlen hx hb]
    refine ev_pos (len_at hx) (ev_pos (by omega) (ev_pos (by simp; omega) ?_))
    have e : (p ++ List.replicate (x :: s).length 0).set ((p.length : Int)).toNat x = (p ++ [x]) ++ List.replicate s.length 0 := by
      have h1 : ((p.length : Int)).toNat = p.length := by simp
      rw [h1, List.length_cons, List.replicate_succ, set_at]; simp
    rw [e]; exact ih (p ++ [x]) (snoc_at hx)
theorem toInt_ev (xs : List Int) (hb : xs.length ≤ 1048576) : Ev (fun k => laws_toIntS.f k xs) xs := by
  unfold laws_toIntS.f
  exact ev_pos (by omega) (ev_pos (by omega) (toInt_loop xs (by omega) xs [] rfl))
theorem eqInt_loop (xs : List Int) (hb : xs.length ≤ 1099511627776) : ∀ (s p : List Int), xs = p ++ s → Ev (fun k => laws_eqIntS.l0 k xs xs (p.length : Int)) true := by
  intro s
  induction s with
  | nil => intro p hx; refine ev_succ ?_; simp only [laws_eqIntS.l0]; exact ev_neg (by subst hx; simp) (Ev.now _)
  | cons x s ih =>
    intro p hx; refine ev_succ ?_
    simp only [laws_eqIntS.l0, rds hx, wlen hx hb, if_true]
    exact ev_pos (len_at hx) (ev_pos (by omega) (ev_pos (len_at hx) (ih (p ++ [x]) (snoc_at hx))))
theorem eqInt_ev (xs : List Int) (hb : xs.length ≤ 1099511627776) : Ev (fun k => laws_eqIntS.f k xs xs) true := by
  unfold laws_eqIntS.f
  exact ev_pos rfl (eqInt_loop xs hb xs [] rfl)
end Go.Proofs.Ytnckblolijkdaaa.BBt
