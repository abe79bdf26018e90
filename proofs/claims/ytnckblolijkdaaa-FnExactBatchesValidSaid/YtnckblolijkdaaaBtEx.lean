/- Copies of batches: what the exact statements' own helpers compute. Condition: as stated in each lemma. -/
import Derived.Test.YtnckblolijkdaaaBtBatches
import Derived.Test.YtnckblolijkdaaaBtIntsEx
import Derived.Test.YtnckblolijkdaaaPBtx5
import Derived.Test.YtnckblolijkdaaaPBtx6
namespace Go.Proofs.Ytnckblolijkdaaa.BBt
open Go.RowKit Go.Proofs.Ytnckblolijkdaaa.PBt Go.Proofs.YtnckblolijkdaaaW.PrintWords Go.Proofs.YtnckblolijkdaaaW.PrintLast Go.Proofs.YtnckblolijkdaaaW.PrintMore
set_option linter.unusedVariables false
set_option linter.unusedSimpArgs false
def conv (x : S69) : S39 := ⟨x.f0, x.f1, x.f2, x.f3⟩
theorem rd69s {xs p : List S69} {x : S69} {q : List S69} (h : xs = p ++ x :: q) : rd_T69 xs (p.length : Int) = x := by subst h; exact getD_at p x q z69
/-- not too large: every list of numbers has at most 2^20 of them -/
def Fit (xs : List S69) : Prop := xs.length ≤ 1048576 ∧ ∀ x ∈ xs, x.f1.length ≤ 1048576
theorem fit_small {xs : List S69} (h : Fit xs) : Small (xs.map conv) := by
  refine ⟨by simp; have := h.1; omega, fun x hx => ?_⟩
  obtain ⟨y, hy, rfl⟩ := List.mem_map.1 hx
  have := h.2 y hy; simp only [conv]; omega
theorem to_loop (xs : List S69) (hf : Fit xs) : ∀ (s p : List S69), xs = p ++ s →
    Ev (fun k => laws_toBatchS.l0 k xs (p.map conv ++ List.replicate s.length z39) (p.length : Int)) (xs.map conv) := by
  intro s
  induction s with
  | nil => intro p hx; refine ev_succ ?_; simp only [laws_toBatchS.l0]; exact ev_neg (by subst hx; simp) (ev_const (by subst hx; simp))
  | cons x s ih =>
    intro p hx; refine ev_succ ?_
    have hb : xs.length ≤ 1099511627776 := by have := hf.1; omega
    simp only [laws_toBatchS.l0, rd69s hx, wlen hx hb]
    have h1 : Ev (fun k => laws_toBatch.f k x.f0 x.f1 x.f2 x.f3) (x.f0, x.f1, x.f2, x.f3) := by
      unfold laws_toBatch.f
      exact Ev.bind (toInt_ev x.f1 (hf.2 x (by subst hx; simp))) (Ev.now _)
    refine ev_pos (len_at hx) (ev_pos (by omega) (Ev.bind h1 ?_))
    dsimp only
    refine ev_pos (by simp; omega) ?_
    have e : (p.map conv ++ List.replicate (x :: s).length z39).set ((p.length : Int)).toNat ⟨x.f0, x.f1, x.f2, x.f3⟩ = (p ++ [x]).map conv ++ List.replicate s.length z39 := by
      have h1 : ((p.length : Int)).toNat = (p.map conv).length := by simp
      rw [h1, List.length_cons, List.replicate_succ, set_at]; simp [conv]
    rw [e]; exact ih (p ++ [x]) (snoc_at hx)
theorem to_ev (xs : List S69) (hf : Fit xs) : Ev (fun k => laws_toBatchS.f k xs) (xs.map conv) := by
  unfold laws_toBatchS.f
  have := hf.1
  refine ev_pos (by omega) (ev_pos (by omega) ?_)
  exact to_loop xs hf xs [] rfl
theorem eq_loop (xs : List S39) (hs : Small xs) : ∀ (s p : List S39), xs = p ++ s → Ev (fun k => laws_eqBatchS.l0 k xs xs (p.length : Int)) true := by
  intro s
  induction s with
  | nil => intro p hx; refine ev_succ ?_; simp only [laws_eqBatchS.l0]; exact ev_neg (by subst hx; simp) (Ev.now _)
  | cons x s ih =>
    intro p hx; refine ev_succ ?_
    simp only [laws_eqBatchS.l0, rd39s hx, wlen hx hs.1]
    have h1 : Ev (fun k => laws_eqBatch.f k x.f0 x.f1 x.f2 x.f3 x.f0 x.f1 x.f2 x.f3) true := by
      unfold laws_eqBatch.f
      exact ev_pos rfl (Ev.bind (eqInt_ev x.f1 (small_at hs hx)) (ev_pos rfl (ev_pos rfl (ev_pos rfl (Ev.now _)))))
    exact ev_pos (len_at hx) (ev_pos (by omega) (ev_pos (len_at hx) (Ev.bind h1 (ev_pos rfl (ih (p ++ [x]) (snoc_at hx))))))
theorem eq_ev (xs : List S39) (hs : Small xs) : Ev (fun k => laws_eqBatchS.f k xs xs) true := by
  unfold laws_eqBatchS.f
  exact ev_pos rfl (eq_loop xs hs xs [] rfl)
theorem szInt_ev (l : List Int) (a : Int) (ha : 0 ≤ a ∧ a ≤ 1048576) (h : l.length ≤ 9223372036854775807) : ((l.length : Int) ≤ a ∧ laws_szIntS.f l a = some (a - (l.length : Int))) ∨ laws_szIntS.f l a = some (-1) := by
  unfold laws_szIntS.f
  rw [w64 (x := a - (l.length : Int)) (by omega) (by omega)]
  by_cases h0 : a - (l.length : Int) < 0
  · rw [if_pos h0]; exact .inr rfl
  · rw [if_neg h0]; exact .inl ⟨by omega, rfl⟩
theorem sz_loop (xs : List S69) (hb : xs.length ≤ 1099511627776) (hi : ∀ x ∈ xs, x.f1.length ≤ 9223372036854775807) : ∀ (s p : List S69) (a : Int), xs = p ++ s → 0 ≤ a → a ≤ 1048576 →
    ∃ r, Ev (fun k => laws_szBatchS.l0 k xs a (p.length : Int)) r ∧ (r < 0 ∨ (0 ≤ r ∧ r ≤ 1048576 ∧ ∀ x ∈ s, x.f1.length ≤ 1048576)) := by
  intro s
  induction s with
  | nil => intro p a hx h0 h1; exact ⟨a, ev_succ (by simp only [laws_szBatchS.l0]; exact ev_neg (by subst hx; simp) (Ev.now _)), .inr ⟨h0, h1, fun _ h => by cases h⟩⟩
  | cons x s ih =>
    intro p a hx h0 h1
    have hstep : Ev (fun k => laws_szBatchS.l0 (k + 1) xs a (p.length : Int)) = Ev (fun k => (laws_szBatch.f x.f0 x.f1 x.f2 x.f3 a).bind fun t => if t < 0 then some (-1) else laws_szBatchS.l0 k xs t ((p ++ [x]).length : Int)) := by
      funext r
      simp only [laws_szBatchS.l0, rd69s hx, wlen hx hb, if_pos (len_at hx), if_pos (show (0 : Int) ≤ (p.length : Int) by omega)]
    rcases szInt_ev x.f1 a ⟨h0, h1⟩ (hi x (by subst hx; simp)) with ⟨hl, e⟩ | e
    · obtain ⟨r, hr, hc⟩ := ih (p ++ [x]) (a - (x.f1.length : Int)) (snoc_at hx) (by omega) (by omega)
      refine ⟨r, ev_succ ?_, hc.imp id (fun h => ⟨h.1, h.2.1, fun y hy => ?_⟩)⟩
      · rw [hstep, laws_szBatch.f, e]; simp only [Option.bind_some]
        rw [if_neg (by omega)]; simp only [Option.bind_some]
        exact ev_neg (by omega) hr
      · rcases List.mem_cons.1 hy with rfl | hy
        · omega
        · exact h.2.2 y hy
    · refine ⟨-1, ev_succ ?_, .inl (by omega)⟩
      rw [hstep, laws_szBatch.f, e]; simp only [Option.bind_some]
      rw [if_pos (by omega)]; simp only [Option.bind_some]
      exact ev_pos (by omega) (Ev.now _)
theorem sz_ev (xs : List S69) (a : Int) (ha : 0 ≤ a ∧ a ≤ 1048576) (h : xs.length ≤ 9223372036854775807) (hi : ∀ x ∈ xs, x.f1.length ≤ 9223372036854775807) :
    ∃ r, Ev (fun k => laws_szBatchS.f k xs a) r ∧ (r < 0 ∨ (0 ≤ r ∧ r ≤ 1048576 ∧ Fit xs)) := by
  unfold laws_szBatchS.f
  rw [w64 (x := a - (xs.length : Int)) (by omega) (by omega)]
  by_cases h0 : a - (xs.length : Int) < 0
  · exact ⟨-1, ev_pos h0 (Ev.now _), .inl (by omega)⟩
  · obtain ⟨r, hr, hc⟩ := sz_loop xs (by omega) hi xs [] (a - (xs.length : Int)) rfl (by omega) (by omega)
    exact ⟨r, ev_neg h0 hr, hc.imp id (fun h => ⟨h.1, h.2.1, by omega, h.2.2⟩)⟩
end Go.Proofs.Ytnckblolijkdaaa.BBt
