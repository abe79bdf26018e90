/- Batches: validity, as the program and the reference compute it, over plain lists. Condition: fewer than 2^40 batches, and foods in each. -/
import Derived.Test.YtnckblolijkdaaaBtBase
import Derived.Test.YtnckblolijkdaaaPBtx1
import Derived.Test.YtnckblolijkdaaaPBtx2
import Derived.Test.YtnckblolijkdaaaPBtx3
import Derived.Test.YtnckblolijkdaaaPBtx4
namespace Go.Proofs.Ytnckblolijkdaaa.BBt
open Go.RowKit Go.Proofs.Ytnckblolijkdaaa.PBt Go.Proofs.YtnckblolijkdaaaW.PrintWords Go.Proofs.YtnckblolijkdaaaW.PrintLast Go.Proofs.YtnckblolijkdaaaW.PrintMore
set_option linter.unusedVariables false
set_option linter.unusedSimpArgs false
theorem in_ev (a b c : Int) : spec_l6In.f a b c = some (decide (b ≤ a ∧ a ≤ c)) := by
  unfold spec_l6In.f
  by_cases h : a ≥ b
  · rw [if_pos h]; simp; omega
  · rw [if_neg h]; simp; omega
theorem within_ev (a b c : Int) : impl_within.f a b c = some (decide (b ≤ a ∧ a ≤ c)) := by
  unfold impl_within.f
  by_cases h : a ≥ b
  · rw [if_pos h]; simp; omega
  · rw [if_neg h]; simp; omega
theorem minute_ev (a : Int) : impl_isMinute.f a = some (decide (0 ≤ a ∧ a ≤ 1439)) := by unfold impl_isMinute.f; rw [within_ev]; rfl
theorem id_ev (a : Int) : impl_isId.f a = some (decide (1 ≤ a ∧ a ≤ 20)) := by unfold impl_isId.f; rw [within_ev]; rfl
theorem dec_eq {p q : Prop} [Decidable p] [Decidable q] (h : p ↔ q) : decide p = decide q := by simp [h]
theorem dec_no {p : Prop} [Decidable p] (h : ¬ p) : false = decide p := by simp [h]
/-- greater than what came before -/
def above (q : Option Int) (m : Int) : Prop := match q with | none => True | some y => y < m
instance (q : Option Int) (m : Int) : Decidable (above q m) := by unfold above; cases q <;> infer_instance
def LastBy {α : Type} (g : α → Int) (p : List α) (q : Option Int) : Prop := (p = [] ∧ q = none) ∨ ∃ p' y, p = p' ++ [y] ∧ q = some (g y)
theorem lastBy_snoc {α : Type} (g : α → Int) (p : List α) (x : α) : LastBy g (p ++ [x]) (some (g x)) := .inr ⟨p, x, rfl, rfl⟩
/-- ascending numbers of foods -/
def Asc : Option Int → List Int → Prop
  | _, [] => True
  | q, x :: r => (1 ≤ x ∧ x ≤ 20) ∧ above q x ∧ Asc (some x) r
def decAsc : (q : Option Int) → (l : List Int) → Decidable (Asc q l)
  | _, [] => isTrue trivial
  | q, x :: r => by
    unfold Asc
    have := decAsc (some x) r
    infer_instance
instance (q : Option Int) (l : List Int) : Decidable (Asc q l) := decAsc q l
theorem prev_at {α : Type} {xs p' : List α} {y x : α} {s : List α} (hx : xs = (p' ++ [y]) ++ x :: s) (hb : xs.length ≤ 1099511627776) : wrap64 (((p' ++ [y]).length : Int) - 1) = (p'.length : Int) ∧ (p'.length : Int) < (xs.length : Int) ∧ xs = p' ++ y :: (x :: s) := by
  refine ⟨?_, by subst hx; simp <;> omega, by subst hx; simp⟩
  rw [w64 (by omega) (by subst hx; simp at hb ⊢; omega)]; simp
theorem asc_loop (xs : List Int) (hb : xs.length ≤ 1099511627776) : ∀ (s p : List Int) (q : Option Int), xs = p ++ s → LastBy id p q →
    Ev (fun k => impl_idsAscend.l0 k xs xs (xs.length : Int) (p.length : Int)) (decide (Asc q s)) := by
  intro s
  induction s with
  | nil => intro p q hx hq; refine ev_succ ?_; simp only [impl_idsAscend.l0]; exact ev_neg (by subst hx; simp) (ev_const (decide_eq_true (p := Asc q []) trivial).symm)
  | cons x s ih =>
    intro p q hx hq; refine ev_succ ?_
    simp only [impl_idsAscend.l0, rds hx, wlen hx hb, id_ev, Option.bind_some]
    refine ev_pos (len_at hx) (ev_pos (by omega) (ev_pos (len_at hx) ?_))
    have hi := ih (p ++ [x]) (some x) (snoc_at hx) (lastBy_snoc id p x)
    refine ev_ite (fun h1 => ?_) (fun h1 => ev_const (dec_no (fun h => h1 (decide_eq_true h.1))))
    have h1' := of_decide_eq_true h1
    rcases hq with ⟨rfl, rfl⟩ | ⟨p', y, rfl, rfl⟩
    · refine ev_neg (by simp) (ev_eq hi (dec_eq ?_))
      simp only [Asc, above]; exact ⟨fun h => ⟨h1', trivial, h⟩, fun h => h.2.2⟩
    · obtain ⟨e1, e2, e3⟩ := prev_at hx hb
      rw [e1, rds e3]
      refine ev_pos (by simp <;> omega) (ev_pos (by omega) (ev_pos e2 (ev_ite (fun h3 => ev_const (dec_no (fun h => ?_))) (fun h3 => ev_eq hi (dec_eq ?_)))))
      · have := h.2.1; simp only [above, id] at this; omega
      · simp only [Asc, above, id]; exact ⟨fun h => ⟨h1', by omega, h⟩, fun h => h.2.2⟩
theorem asc_ev (xs : List Int) (hb : xs.length ≤ 1099511627776) : Ev (fun k => impl_idsAscend.f k xs) (decide (Asc none xs)) :=
  asc_loop xs hb xs [] none rfl (.inl ⟨rfl, rfl⟩)
/-- a batch in range -/
def B1 (x : S39) : Prop := (1 ≤ x.f0 ∧ x.f0 ≤ 20) ∧ Asc none x.f1 ∧ (0 ≤ x.f2 ∧ x.f2 ≤ 1439) ∧ (x.f2 ≤ x.f3 ∧ x.f3 ≤ 1439)
instance (x : S39) : Decidable (B1 x) := by unfold B1; infer_instance
def BOk : Option Int → List S39 → Prop
  | _, [] => True
  | q, x :: r => B1 x ∧ above q x.f0 ∧ BOk (some x.f0) r
def decBOk : (q : Option Int) → (l : List S39) → Decidable (BOk q l)
  | _, [] => isTrue trivial
  | q, x :: r => by
    unfold BOk
    have := decBOk (some x.f0) r
    infer_instance
instance (q : Option Int) (l : List S39) : Decidable (BOk q l) := decBOk q l
def BValid (l : List S39) : Prop := BOk none l ∧ (l.length : Int) ≤ 6
instance (l : List S39) : Decidable (BValid l) := by unfold BValid; infer_instance
theorem rd39s {xs p : List S39} {x : S39} {q : List S39} (h : xs = p ++ x :: q) : rd_T39 xs (p.length : Int) = x := by subst h; exact getD_at p x q z39
/-- lists of a size that no index leaves -/
def Small (xs : List S39) : Prop := xs.length ≤ 1099511627776 ∧ ∀ x ∈ xs, x.f1.length ≤ 1099511627776
theorem small_at {xs p : List S39} {x : S39} {q : List S39} (hs : Small xs) (h : xs = p ++ x :: q) : x.f1.length ≤ 1099511627776 := hs.2 x (by subst h; simp)
theorem impl_b_loop (xs : List S39) (hs : Small xs) : ∀ (s p : List S39) (q : Option Int), xs = p ++ s → LastBy S39.f0 p q →
    Ev (fun k => impl_BatchesValid.l0 k xs xs (xs.length : Int) (p.length : Int)) (decide (BOk q s ∧ (xs.length : Int) ≤ 6)) := by
  intro s
  induction s with
  | nil => intro p q hx hq; refine ev_succ ?_; simp only [impl_BatchesValid.l0]; exact ev_neg (by subst hx; simp) (ev_const (dec_eq (by simp [BOk])))
  | cons x s ih =>
    intro p q hx hq; refine ev_succ ?_
    simp only [impl_BatchesValid.l0, rd39s hx, wlen hx hs.1, id_ev, minute_ev, within_ev, Option.bind_some]
    refine ev_pos (len_at hx) (ev_pos (by omega) (ev_pos (len_at hx) ?_))
    have hi := ih (p ++ [x]) (some x.f0) (snoc_at hx) (lastBy_snoc _ p x)
    refine ev_ite (fun h1 => Ev.bind (asc_ev x.f1 (small_at hs hx)) (ev_ite (fun h2 => ev_ite (fun h3 => ev_ite (fun h4 => ?_) (fun h4 => ?_)) (fun h3 => ?_)) (fun h2 => ?_))) (fun h1 => ?_)
    · have hB : B1 x := ⟨of_decide_eq_true h1, of_decide_eq_true h2, of_decide_eq_true h3, of_decide_eq_true h4⟩
      rcases hq with ⟨rfl, rfl⟩ | ⟨p', y, rfl, rfl⟩
      · refine ev_neg (by simp) (ev_eq hi (dec_eq ?_))
        simp only [BOk, above]; exact ⟨fun h => ⟨⟨hB, trivial, h.1⟩, h.2⟩, fun h => ⟨h.1.2.2, h.2⟩⟩
      · obtain ⟨e1, e2, e3⟩ := prev_at hx hs.1
        rw [e1, rd39s e3]
        refine ev_pos (by simp <;> omega) (ev_pos (by omega) (ev_pos e2 (ev_ite (fun h5 => ev_const (dec_no (fun h => ?_))) (fun h5 => ev_eq hi (dec_eq ?_)))))
        · have := h.1.2.1; simp only [above] at this; omega
        · simp only [BOk, above]; exact ⟨fun h => ⟨⟨hB, by omega, h.1⟩, h.2⟩, fun h => ⟨h.1.2.2, h.2⟩⟩
    · exact ev_const (dec_no (fun h => h4 (decide_eq_true h.1.1.2.2.2)))
    · exact ev_const (dec_no (fun h => h3 (decide_eq_true h.1.1.2.2.1)))
    · exact ev_const (dec_no (fun h => h2 (decide_eq_true h.1.1.2.1)))
    · exact ev_const (dec_no (fun h => h1 (decide_eq_true h.1.1.1)))
theorem impl_valid (xs : List S39) (hs : Small xs) : Ev (fun k => impl_BatchesValid.f k xs) (decide (BValid xs)) :=
  ev_eq (impl_b_loop xs hs xs [] none rfl (.inl ⟨rfl, rfl⟩)) rfl
theorem spec_batch_loop (x : S39) (hb : x.f1.length ≤ 1099511627776) : ∀ (s p : List Int) (q : Option Int), x.f1 = p ++ s → LastBy id p q →
    Ev (fun k => spec_l42Batch.l0 k (p.length : Int) x.f0 x.f1 x.f2 x.f3) (decide (Asc q s ∧ (1 ≤ x.f0 ∧ x.f0 ≤ 20) ∧ (0 ≤ x.f2 ∧ x.f2 ≤ 1439) ∧ (x.f2 ≤ x.f3 ∧ x.f3 ≤ 1439))) := by
  intro s
  induction s with
  | nil =>
    intro p q hx hq; refine ev_succ ?_; simp only [spec_l42Batch.l0, in_ev, Option.bind_some]
    refine ev_neg (by rw [hx]; simp) (ev_ite (fun h1 => ev_ite (fun h2 => ev_const ?_) (fun h2 => ev_const ?_)) (fun h1 => ev_const ?_))
    · refine dec_eq ⟨fun h => ⟨trivial, of_decide_eq_true h1, of_decide_eq_true h2, h⟩, fun h => h.2.2.2⟩
    · exact dec_no (fun h => h2 (decide_eq_true h.2.2.1))
    · exact dec_no (fun h => h1 (decide_eq_true h.2.1))
  | cons y s ih =>
    intro p q hx hq; refine ev_succ ?_
    simp only [spec_l42Batch.l0, rds hx, wlen hx hb, in_ev, Option.bind_some]
    refine ev_pos (len_at hx) (ev_pos (by omega) ?_)
    have hi := ih (p ++ [y]) (some y) (snoc_at hx) (lastBy_snoc id p y)
    refine ev_ite (fun h1 => ?_) (fun h1 => ev_const (dec_no (fun h => h1 (decide_eq_true h.1.1))))
    have h1' := of_decide_eq_true h1
    rcases hq with ⟨rfl, rfl⟩ | ⟨p', z, rfl, rfl⟩
    · refine ev_neg (by simp) (ev_eq hi (dec_eq ?_))
      simp only [Asc, above]; exact ⟨fun h => ⟨⟨h1', trivial, h.1⟩, h.2⟩, fun h => ⟨h.1.2.2, h.2⟩⟩
    · obtain ⟨e1, e2, e3⟩ := prev_at hx hb
      rw [e1, rds e3]
      refine ev_pos (by simp <;> omega) (ev_pos (by omega) (ev_pos e2 (ev_ite (fun h3 => ev_const (dec_no (fun h => ?_))) (fun h3 => ev_eq hi (dec_eq ?_)))))
      · have := h.1.2.1; simp only [above, id] at this; omega
      · simp only [Asc, above, id]; exact ⟨fun h => ⟨⟨h1', by omega, h.1⟩, h.2⟩, fun h => ⟨h.1.2.2, h.2⟩⟩
theorem spec_batch (x : S39) (hb : x.f1.length ≤ 1099511627776) : Ev (fun k => spec_l42Batch.f k x.f0 x.f1 x.f2 x.f3) (decide (B1 x)) := by
  have h := spec_batch_loop x hb x.f1 [] none rfl (.inl ⟨rfl, rfl⟩)
  refine ev_eq h (dec_eq ?_)
  unfold B1; exact ⟨fun h => ⟨h.2.1, h.1, h.2.2⟩, fun h => ⟨h.2.1, h.1, h.2.2⟩⟩
theorem spec_b_loop (xs : List S39) (hs : Small xs) : ∀ (s p : List S39) (q : Option Int), xs = p ++ s → LastBy S39.f0 p q →
    Ev (fun k => spec_BatchesValid.l0 k xs (p.length : Int)) (decide (BOk q s ∧ (xs.length : Int) ≤ 6)) := by
  intro s
  induction s with
  | nil => intro p q hx hq; refine ev_succ ?_; simp only [spec_BatchesValid.l0]; exact ev_neg (by subst hx; simp) (ev_const (dec_eq (by simp [BOk])))
  | cons x s ih =>
    intro p q hx hq; refine ev_succ ?_
    simp only [spec_BatchesValid.l0, rd39s hx, wlen hx hs.1]
    refine ev_pos (len_at hx) (ev_pos (by omega) (Ev.bind (spec_batch x (small_at hs hx)) ?_))
    have hi := ih (p ++ [x]) (some x.f0) (snoc_at hx) (lastBy_snoc _ p x)
    refine ev_ite (fun h1 => ?_) (fun h1 => ev_const (dec_no (fun h => h1 (decide_eq_true h.1.1))))
    have hB := of_decide_eq_true h1
    rcases hq with ⟨rfl, rfl⟩ | ⟨p', y, rfl, rfl⟩
    · refine ev_neg (by simp) (ev_eq hi (dec_eq ?_))
      simp only [BOk, above]; exact ⟨fun h => ⟨⟨hB, trivial, h.1⟩, h.2⟩, fun h => ⟨h.1.2.2, h.2⟩⟩
    · obtain ⟨e1, e2, e3⟩ := prev_at hx hs.1
      rw [e1, rd39s e3]
      refine ev_pos (by simp <;> omega) (ev_pos (by omega) (ev_pos e2 (ev_ite (fun h5 => ev_const (dec_no (fun h => ?_))) (fun h5 => ev_eq hi (dec_eq ?_)))))
      · have := h.1.2.1; simp only [above] at this; omega
      · simp only [BOk, above]; exact ⟨fun h => ⟨⟨hB, by omega, h.1⟩, h.2⟩, fun h => ⟨h.1.2.2, h.2⟩⟩
theorem spec_valid (xs : List S39) (hs : Small xs) : Ev (fun k => spec_BatchesValid.f k xs) (decide (BValid xs)) :=
  ev_eq (spec_b_loop xs hs xs [] none rfl (.inl ⟨rfl, rfl⟩)) rfl
end Go.Proofs.Ytnckblolijkdaaa.BBt
