import Derived.Test.YtnckblolijkdaaaVJWMore
import Derived.Test.YtnckblolijkdaaaVJWNEv
import Derived.Laws.BitsLemmas
import Derived.Test.YtnckblolijkdaaaVJPBtx4
import Derived.Test.YtnckblolijkdaaaVJPBtx5
import Derived.Test.YtnckblolijkdaaaVJPBtx10
import Derived.Test.YtnckblolijkdaaaVJPBtx11
import Derived.Test.YtnckblolijkdaaaVJPBtx1
import Derived.Test.YtnckblolijkdaaaVJPBtx2
import Derived.Test.YtnckblolijkdaaaVJPBtx3
import Derived.Test.YtnckblolijkdaaaVJPBtx7
import Derived.Test.YtnckblolijkdaaaVJPBtx12
import Derived.Test.YtnckblolijkdaaaVJPBtx13
import Derived.Test.YtnckblolijkdaaaVJPBtx15
import Derived.Test.YtnckblolijkdaaaVJPBtx24
import Derived.Test.YtnckblolijkdaaaVJPBtx23
import Derived.Test.YtnckblolijkdaaaVJPBtx25
import Derived.Test.YtnckblolijkdaaaVJWWords
import Derived.Deep.Slices
import Derived.Deep.Fields
import Derived.ChangeSame
import Derived.ChangeArms
import Derived.Below
import Derived.ChangeSlices
namespace Go.Proofs.Ytnckblolijkdaaa.BBt
open Go.RowKit Go.Proofs.YtnckblolijkdaaaW.PrintWords Go.Proofs.YtnckblolijkdaaaW.PrintLast Go.Proofs.YtnckblolijkdaaaW.PrintMore
set_option linter.unusedVariables false
set_option linter.unusedSimpArgs false
theorem ev_succ {α : Type} {g : Nat → Option α} {r : α} (h : Ev (fun k => g (k + 1)) r) : Ev g r := Ev.step (fun _ => rfl) h
theorem ev_const {α : Type} {r s : α} (h : r = s) : Ev (fun _ => some r) s := by subst h; exact Ev.now r
theorem ev_pos {α : Type} {c : Prop} [Decidable c] {a b : Nat → Option α} {r : α} (hc : c) (h : Ev a r) : Ev (fun k => if c then a k else b k) r :=
  Ev.congr (fun k => if_pos hc) h
theorem ev_neg {α : Type} {c : Prop} [Decidable c] {a b : Nat → Option α} {r : α} (hc : ¬ c) (h : Ev b r) : Ev (fun k => if c then a k else b k) r :=
  Ev.congr (fun k => if_neg hc) h
theorem ev_ite {α : Type} {c : Prop} [Decidable c] {a b : Nat → Option α} {r : α} (h1 : c → Ev a r) (h2 : ¬ c → Ev b r) : Ev (fun k => if c then a k else b k) r := by
  by_cases hc : c
  · exact ev_pos hc (h1 hc)
  · exact ev_neg hc (h2 hc)
theorem ev_eq {α : Type} {g : Nat → Option α} {r s : α} (h : Ev g r) (e : r = s) : Ev g s := e ▸ h
theorem ev_some {α β : Type} {f : Nat → α → Option β} {a : α} {r : β} (h : Ev (fun n => f n a) r) : Ev (fun n => (some a).bind (f n)) r := h
theorem w64 {x : Int} (h0 : -9223372036854775808 ≤ x) (h1 : x ≤ 9223372036854775807) : wrap64 x = x := by unfold wrap64; omega
theorem getD_at {α : Type} (p : List α) (x : α) (q : List α) (d : α) : (p ++ x :: q).getD p.length d = x := by simp [List.getD]
theorem rd_at (p : List Int) (x : Int) (q : List Int) : rd (p ++ x :: q) (p.length : Int) = x := getD_at p x q 0
theorem rds {xs p : List Int} {x : Int} {q : List Int} (h : xs = p ++ x :: q) : rd xs (p.length : Int) = x := by subst h; exact rd_at p x q
theorem len_at {α : Type} {xs p : List α} {x : α} {q : List α} (h : xs = p ++ x :: q) : (p.length : Int) < (xs.length : Int) := by subst h; simp; omega
theorem snoc_at {α : Type} {xs p : List α} {x : α} {q : List α} (h : xs = p ++ x :: q) : xs = (p ++ [x]) ++ q := by subst h; simp
theorem wlen {α : Type} {xs p : List α} {x : α} {q : List α} (h : xs = p ++ x :: q) (hb : xs.length ≤ 1099511627776) : wrap64 ((p.length : Int) + 1) = ((p ++ [x]).length : Int) := by
  subst h; rw [w64 (by omega) (by simp at hb; omega)]; simp
theorem set_at {α : Type} (p : List α) (a b : α) (q : List α) : (p ++ a :: q).set p.length b = p ++ b :: q := by simp
end Go.Proofs.Ytnckblolijkdaaa.BBt
namespace Go.Proofs.Ytnckblolijkdaaa.BBt
open Go.RowKit Go.Proofs.Ytnckblolijkdaaa.PBt Go.Proofs.YtnckblolijkdaaaW.PrintWords Go.Proofs.YtnckblolijkdaaaW.PrintLast Go.Proofs.YtnckblolijkdaaaW.PrintMore
set_option linter.unusedVariables false
set_option linter.unusedSimpArgs false
theorem in_ev (a b c : Int) : spec_l6In.f a b c = some (decide (b ≤ a ∧ a ≤ c)) := by
  unfold spec_l6In.f
  by_cases h : a ≥ b
  · rw [if_pos h]; simp; omega
  · rw [if_neg h]; simp; omega
theorem within_ev (a b c : Int) : impl_within.f a b c = some (decide (b ≤ a ∧ a ≤ c)) := by
  unfold impl_within.f
  by_cases h : a ≥ b
  · rw [if_pos h]; simp; omega
  · rw [if_neg h]; simp; omega
theorem minute_ev (a : Int) : impl_isMinute.f a = some (decide (0 ≤ a ∧ a ≤ 1439)) := by unfold impl_isMinute.f; rw [within_ev]; rfl
theorem id_ev (a : Int) : impl_isId.f a = some (decide (1 ≤ a ∧ a ≤ 20)) := by unfold impl_isId.f; rw [within_ev]; rfl
theorem dec_eq {p q : Prop} [Decidable p] [Decidable q] (h : p ↔ q) : decide p = decide q := by simp [h]
theorem dec_no {p : Prop} [Decidable p] (h : ¬ p) : false = decide p := by simp [h]
def above (q : Option Int) (m : Int) : Prop := match q with | none => True | some y => y < m
instance (q : Option Int) (m : Int) : Decidable (above q m) := by unfold above; cases q <;> infer_instance
def LastBy {α : Type} (g : α → Int) (p : List α) (q : Option Int) : Prop := (p = [] ∧ q = none) ∨ ∃ p' y, p = p' ++ [y] ∧ q = some (g y)
theorem lastBy_snoc {α : Type} (g : α → Int) (p : List α) (x : α) : LastBy g (p ++ [x]) (some (g x)) := .inr ⟨p, x, rfl, rfl⟩
def Asc : Option Int → List Int → Prop
  | _, [] => True
  | q, x :: r => (1 ≤ x ∧ x ≤ 20) ∧ above q x ∧ Asc (some x) r
def decAsc : (q : Option Int) → (l : List Int) → Decidable (Asc q l)
  | _, [] => isTrue trivial
  | q, x :: r => by
    unfold Asc
    have := decAsc (some x) r
    infer_instance
instance (q : Option Int) (l : List Int) : Decidable (Asc q l) := decAsc q l
theorem prev_at {α : Type} {xs p' : List α} {y x : α} {s : List α} (hx : xs = (p' ++ [y]) ++ x :: s) (hb : xs.length ≤ 1099511627776) : wrap64 (((p' ++ [y]).length : Int) - 1) = (p'.length : Int) ∧ (p'.length : Int) < (xs.length : Int) ∧ xs = p' ++ y :: (x :: s) := by
  refine ⟨?_, by subst hx; simp <;> omega, by subst hx; simp⟩
  rw [w64 (by omega) (by subst hx; simp at hb ⊢; omega)]; simp
theorem asc_loop (xs : List Int) (hb : xs.length ≤ 1099511627776) : ∀ (s p : List Int) (q : Option Int), xs = p ++ s → LastBy id p q →
    Ev (fun k => impl_idsAscend.l0 k xs xs (xs.length : Int) (p.length : Int)) (decide (Asc q s)) := by
  intro s
  induction s with
  | nil => intro p q hx hq; refine ev_succ ?_; simp only [impl_idsAscend.l0]; exact ev_neg (by subst hx; simp) (ev_const (decide_eq_true (p := Asc q []) trivial).symm)
  | cons x s ih =>
    intro p q hx hq; refine ev_succ ?_
    simp only [impl_idsAscend.l0, rds hx, wlen hx hb, id_ev, Option.bind_some]
    refine ev_pos (len_at hx) (ev_pos (by omega) (ev_pos (len_at hx) ?_))
    have hi := ih (p ++ [x]) (some x) (snoc_at hx) (lastBy_snoc id p x)
    refine ev_ite (fun h1 => ?_) (fun h1 => ev_const (dec_no (fun h => h1 (decide_eq_true h.1))))
    have h1' := of_decide_eq_true h1
    rcases hq with ⟨rfl, rfl⟩ | ⟨p', y, rfl, rfl⟩
    · refine ev_neg (by simp) (ev_eq hi (dec_eq ?_))
      simp only [Asc, above]; exact ⟨fun h => ⟨h1', trivial, h⟩, fun h => h.2.2⟩
    · obtain ⟨e1, e2, e3⟩ := prev_at hx hb
      rw [e1, rds e3]
      refine ev_pos (by simp <;> omega) (ev_pos (by omega) (ev_pos e2 (ev_ite (fun h3 => ev_const (dec_no (fun h => ?_))) (fun h3 => ev_eq hi (dec_eq ?_)))))
      · have := h.2.1; simp only [above, id] at this; omega
      · simp only [Asc, above, id]; exact ⟨fun h => ⟨h1', by omega, h⟩, fun h => h.2.2⟩
theorem asc_ev (xs : List Int) (hb : xs.length ≤ 1099511627776) : Ev (fun k => impl_idsAscend.f k xs) (decide (Asc none xs)) :=
  asc_loop xs hb xs [] none rfl (.inl ⟨rfl, rfl⟩)
def B1 (x : S39) : Prop := (1 ≤ x.f0 ∧ x.f0 ≤ 20) ∧ Asc none x.f1 ∧ (0 ≤ x.f2 ∧ x.f2 ≤ 1439) ∧ (x.f2 ≤ x.f3 ∧ x.f3 ≤ 1439)
instance (x : S39) : Decidable (B1 x) := by unfold B1; infer_instance
def BOk : Option Int → List S39 → Prop
  | _, [] => True
  | q, x :: r => B1 x ∧ above q x.f0 ∧ BOk (some x.f0) r
def decBOk : (q : Option Int) → (l : List S39) → Decidable (BOk q l)
  | _, [] => isTrue trivial
  | q, x :: r => by
    unfold BOk
    have := decBOk (some x.f0) r
    infer_instance
instance (q : Option Int) (l : List S39) : Decidable (BOk q l) := decBOk q l
def BValid (l : List S39) : Prop := BOk none l ∧ (l.length : Int) ≤ 6
instance (l : List S39) : Decidable (BValid l) := by unfold BValid; infer_instance
theorem rd39s {xs p : List S39} {x : S39} {q : List S39} (h : xs = p ++ x :: q) : rd_T39 xs (p.length : Int) = x := by subst h; exact getD_at p x q z39
def Small (xs : List S39) : Prop := xs.length ≤ 1099511627776 ∧ ∀ x ∈ xs, x.f1.length ≤ 1099511627776
theorem small_at {xs p : List S39} {x : S39} {q : List S39} (hs : Small xs) (h : xs = p ++ x :: q) : x.f1.length ≤ 1099511627776 := hs.2 x (by subst h; simp)
theorem impl_b_loop (xs : List S39) (hs : Small xs) : ∀ (s p : List S39) (q : Option Int), xs = p ++ s → LastBy S39.f0 p q →
    Ev (fun k => impl_BatchesValid.l0 k xs xs (xs.length : Int) (p.length : Int)) (decide (BOk q s ∧ (xs.length : Int) ≤ 6)) := by
  intro s
  induction s with
  | nil => intro p q hx hq; refine ev_succ ?_; simp only [impl_BatchesValid.l0]; exact ev_neg (by subst hx; simp) (ev_const (dec_eq (by simp [BOk])))
  | cons x s ih =>
    intro p q hx hq; refine ev_succ ?_
    simp only [impl_BatchesValid.l0, rd39s hx, wlen hx hs.1, id_ev, minute_ev, within_ev, Option.bind_some]
    refine ev_pos (len_at hx) (ev_pos (by omega) (ev_pos (len_at hx) ?_))
    have hi := ih (p ++ [x]) (some x.f0) (snoc_at hx) (lastBy_snoc _ p x)
    refine ev_ite (fun h1 => Ev.bind (asc_ev x.f1 (small_at hs hx)) (ev_ite (fun h2 => ev_ite (fun h3 => ev_ite (fun h4 => ?_) (fun h4 => ?_)) (fun h3 => ?_)) (fun h2 => ?_))) (fun h1 => ?_)
    · have hB : B1 x := ⟨of_decide_eq_true h1, of_decide_eq_true h2, of_decide_eq_true h3, of_decide_eq_true h4⟩
      rcases hq with ⟨rfl, rfl⟩ | ⟨p', y, rfl, rfl⟩
      · refine ev_neg (by simp) (ev_eq hi (dec_eq ?_))
        simp only [BOk, above]; exact ⟨fun h => ⟨⟨hB, trivial, h.1⟩, h.2⟩, fun h => ⟨h.1.2.2, h.2⟩⟩
      · obtain ⟨e1, e2, e3⟩ := prev_at hx hs.1
        rw [e1, rd39s e3]
        refine ev_pos (by simp <;> omega) (ev_pos (by omega) (ev_pos e2 (ev_ite (fun h5 => ev_const (dec_no (fun h => ?_))) (fun h5 => ev_eq hi (dec_eq ?_)))))
        · have := h.1.2.1; simp only [above] at this; omega
        · simp only [BOk, above]; exact ⟨fun h => ⟨⟨hB, by omega, h.1⟩, h.2⟩, fun h => ⟨h.1.2.2, h.2⟩⟩
    · exact ev_const (dec_no (fun h => h4 (decide_eq_true h.1.1.2.2.2)))
    · exact ev_const (dec_no (fun h => h3 (decide_eq_true h.1.1.2.2.1)))
    · exact ev_const (dec_no (fun h => h2 (decide_eq_true h.1.1.2.1)))
    · exact ev_const (dec_no (fun h => h1 (decide_eq_true h.1.1.1)))
theorem impl_valid (xs : List S39) (hs : Small xs) : Ev (fun k => impl_BatchesValid.f k xs) (decide (BValid xs)) :=
  ev_eq (impl_b_loop xs hs xs [] none rfl (.inl ⟨rfl, rfl⟩)) rfl
theorem spec_batch_loop (x : S39) (hb : x.f1.length ≤ 1099511627776) : ∀ (s p : List Int) (q : Option Int), x.f1 = p ++ s → LastBy id p q →
    Ev (fun k => spec_l42Batch.l0 k (p.length : Int) x.f0 x.f1 x.f2 x.f3) (decide (Asc q s ∧ (1 ≤ x.f0 ∧ x.f0 ≤ 20) ∧ (0 ≤ x.f2 ∧ x.f2 ≤ 1439) ∧ (x.f2 ≤ x.f3 ∧ x.f3 ≤ 1439))) := by
  intro s
  induction s with
  | nil =>
    intro p q hx hq; refine ev_succ ?_; simp only [spec_l42Batch.l0, in_ev, Option.bind_some]
    refine ev_neg (by rw [hx]; simp) (ev_ite (fun h1 => ev_ite (fun h2 => ev_const ?_) (fun h2 => ev_const ?_)) (fun h1 => ev_const ?_))
    · refine dec_eq ⟨fun h => ⟨trivial, of_decide_eq_true h1, of_decide_eq_true h2, h⟩, fun h => h.2.2.2⟩
    · exact dec_no (fun h => h2 (decide_eq_true h.2.2.1))
    · exact dec_no (fun h => h1 (decide_eq_true h.2.1))
  | cons y s ih =>
    intro p q hx hq; refine ev_succ ?_
    simp only [spec_l42Batch.l0, rds hx, wlen hx hb, in_ev, Option.bind_some]
    refine ev_pos (len_at hx) (ev_pos (by omega) ?_)
    have hi := ih (p ++ [y]) (some y) (snoc_at hx) (lastBy_snoc id p y)
    refine ev_ite (fun h1 => ?_) (fun h1 => ev_const (dec_no (fun h => h1 (decide_eq_true h.1.1))))
    have h1' := of_decide_eq_true h1
    rcases hq with ⟨rfl, rfl⟩ | ⟨p', z, rfl, rfl⟩
    · refine ev_neg (by simp) (ev_eq hi (dec_eq ?_))
      simp only [Asc, above]; exact ⟨fun h => ⟨⟨h1', trivial, h.1⟩, h.2⟩, fun h => ⟨h.1.2.2, h.2⟩⟩
    · obtain ⟨e1, e2, e3⟩ := prev_at hx hb
      rw [e1, rds e3]
      refine ev_pos (by simp <;> omega) (ev_pos (by omega) (ev_pos e2 (ev_ite (fun h3 => ev_const (dec_no (fun h => ?_))) (fun h3 => ev_eq hi (dec_eq ?_)))))
      · have := h.1.2.1; simp only [above, id] at this; omega
      · simp only [Asc, above, id]; exact ⟨fun h => ⟨⟨h1', by omega, h.1⟩, h.2⟩, fun h => ⟨h.1.2.2, h.2⟩⟩
theorem spec_batch (x : S39) (hb : x.f1.length ≤ 1099511627776) : Ev (fun k => spec_l42Batch.f k x.f0 x.f1 x.f2 x.f3) (decide (B1 x)) := by
  have h := spec_batch_loop x hb x.f1 [] none rfl (.inl ⟨rfl, rfl⟩)
  refine ev_eq h (dec_eq ?_)
  unfold B1; exact ⟨fun h => ⟨h.2.1, h.1, h.2.2⟩, fun h => ⟨h.2.1, h.1, h.2.2⟩⟩
theorem spec_b_loop (xs : List S39) (hs : Small xs) : ∀ (s p : List S39) (q : Option Int), xs = p ++ s → LastBy S39.f0 p q →
    Ev (fun k => spec_BatchesValid.l0 k xs (p.length : Int)) (decide (BOk q s ∧ (xs.length : Int) ≤ 6)) := by
  intro s
  induction s with
  | nil => intro p q hx hq; refine ev_succ ?_; simp only [spec_BatchesValid.l0]; exact ev_neg (by subst hx; simp) (ev_const (dec_eq (by simp [BOk])))
  | cons x s ih =>
    intro p q hx hq; refine ev_succ ?_
    simp only [spec_BatchesValid.l0, rd39s hx, wlen hx hs.1]
    refine ev_pos (len_at hx) (ev_pos (by omega) (Ev.bind (spec_batch x (small_at hs hx)) ?_))
    have hi := ih (p ++ [x]) (some x.f0) (snoc_at hx) (lastBy_snoc _ p x)
    refine ev_ite (fun h1 => ?_) (fun h1 => ev_const (dec_no (fun h => h1 (decide_eq_true h.1.1))))
    have hB := of_decide_eq_true h1
    rcases hq with ⟨rfl, rfl⟩ | ⟨p', y, rfl, rfl⟩
    · refine ev_neg (by simp) (ev_eq hi (dec_eq ?_))
      simp only [BOk, above]; exact ⟨fun h => ⟨⟨hB, trivial, h.1⟩, h.2⟩, fun h => ⟨h.1.2.2, h.2⟩⟩
    · obtain ⟨e1, e2, e3⟩ := prev_at hx hs.1
      rw [e1, rd39s e3]
      refine ev_pos (by simp <;> omega) (ev_pos (by omega) (ev_pos e2 (ev_ite (fun h5 => ev_const (dec_no (fun h => ?_))) (fun h5 => ev_eq hi (dec_eq ?_)))))
      · have := h.1.2.1; simp only [above] at this; omega
      · simp only [BOk, above]; exact ⟨fun h => ⟨⟨hB, by omega, h.1⟩, h.2⟩, fun h => ⟨h.1.2.2, h.2⟩⟩
theorem spec_valid (xs : List S39) (hs : Small xs) : Ev (fun k => spec_BatchesValid.f k xs) (decide (BValid xs)) :=
  ev_eq (spec_b_loop xs hs xs [] none rfl (.inl ⟨rfl, rfl⟩)) rfl
theorem toInt_loop (xs : List Int) (hb : xs.length ≤ 1099511627776) : ∀ (s p : List Int), xs = p ++ s →
    Ev (fun k => laws_toIntS.l0 k xs (p ++ List.replicate s.length 0) (p.length : Int)) xs := by
  intro s
  induction s with
  | nil => intro p hx; refine ev_succ ?_; simp only [laws_toIntS.l0]; exact ev_neg (by subst hx; simp) (ev_const (by subst hx; simp))
  | cons x s ih =>
    intro p hx; refine ev_succ ?_
    simp only [laws_toIntS.l0, rds hx, wlen hx hb]
    refine ev_pos (len_at hx) (ev_pos (by omega) (ev_pos (by simp; omega) ?_))
    have e : (p ++ List.replicate (x :: s).length 0).set ((p.length : Int)).toNat x = (p ++ [x]) ++ List.replicate s.length 0 := by
      have h1 : ((p.length : Int)).toNat = p.length := by simp
      rw [h1, List.length_cons, List.replicate_succ, set_at]; simp
    rw [e]; exact ih (p ++ [x]) (snoc_at hx)
theorem toInt_ev (xs : List Int) (hb : xs.length ≤ 1048576) : Ev (fun k => laws_toIntS.f k xs) xs := by
  unfold laws_toIntS.f
  exact ev_pos (by omega) (ev_pos (by omega) (toInt_loop xs (by omega) xs [] rfl))
theorem eqInt_loop (xs : List Int) (hb : xs.length ≤ 1099511627776) : ∀ (s p : List Int), xs = p ++ s → Ev (fun k => laws_eqIntS.l0 k xs xs (p.length : Int)) true := by
  intro s
  induction s with
  | nil => intro p hx; refine ev_succ ?_; simp only [laws_eqIntS.l0]; exact ev_neg (by subst hx; simp) (Ev.now _)
  | cons x s ih =>
    intro p hx; refine ev_succ ?_
    simp only [laws_eqIntS.l0, rds hx, wlen hx hb, if_true]
    exact ev_pos (len_at hx) (ev_pos (by omega) (ev_pos (len_at hx) (ih (p ++ [x]) (snoc_at hx))))
theorem eqInt_ev (xs : List Int) (hb : xs.length ≤ 1099511627776) : Ev (fun k => laws_eqIntS.f k xs xs) true := by
  unfold laws_eqIntS.f
  exact ev_pos rfl (eqInt_loop xs hb xs [] rfl)
def run (q : Int) : Nat → List Int
  | 0 => []
  | n + 1 => q :: run (q + 1) n
theorem run_len : ∀ (n : Nat) (q : Int), (run q n).length = n
  | 0, _ => rfl
  | n + 1, q => by simp [run, run_len n]
theorem mark_loop : ∀ (s p : List Int) (q : Int), 0 ≤ q → q + s.length ≤ 4611686018427387904 → p.length + s.length ≤ 1099511627776 →
    Ev (fun k => laws_markIntS.l0 k (p ++ s) q (p.length : Int)) (q + s.length, p ++ run q s.length) := by
  intro s
  induction s with
  | nil => intro p q h0 h1 h2; refine ev_succ ?_; simp only [laws_markIntS.l0]; exact ev_neg (by simp) (ev_const (by simp [run]))
  | cons x s ih =>
    intro p q h0 h1 h2; refine ev_succ ?_
    simp only [List.length_cons] at h1 h2
    simp only [laws_markIntS.l0]
    refine ev_pos (by simp; omega) (ev_pos (by omega) ?_)
    have e1 : ((p.length : Int)).toNat = p.length := by simp
    rw [e1, set_at, w64 (x := q + 1) (by omega) (by omega), w64 (x := (p.length : Int) + 1) (by omega) (by omega)]
    have h3 := ih (p ++ [q]) (q + 1) (by omega) (by omega) (by simp; omega)
    have e2 : ((p ++ [q]).length : Int) = (p.length : Int) + 1 := by simp
    rw [e2] at h3
    have e3 : p ++ [q] ++ s = p ++ q :: s := by simp
    rw [e3] at h3
    refine ev_eq h3 ?_
    simp [run]; omega
theorem mark_ev (s : List Int) (q : Int) (h0 : 0 ≤ q) (h1 : q ≤ 1099511627776) (h2 : s.length ≤ 1099511627776) : Ev (fun k => laws_markIntS.f k s q) (q + s.length, run q s.length) :=
  mark_loop s [] q h0 (by omega) (by simp; omega)
theorem held_loop (xs : List Int) (hb : xs.length ≤ 1099511627776) : ∀ (n : Nat) (p : List Int) (q : Int), 0 ≤ q → q + n ≤ 4611686018427387904 → xs = p ++ run q n →
    Ev (fun k => laws_heldIntS.l0 k xs q (p.length : Int)) (q + n) := by
  intro n
  induction n with
  | zero => intro p q h0 h1 hx; refine ev_succ ?_; simp only [laws_heldIntS.l0]; exact ev_neg (by subst hx; simp [run]) (ev_const (by simp))
  | succ n ih =>
    intro p q h0 h1 hx; refine ev_succ ?_
    have hx' : xs = p ++ q :: run (q + 1) n := hx
    simp only [laws_heldIntS.l0, rds hx', wlen hx' hb, if_true]
    refine ev_pos (len_at hx') (ev_pos (by omega) ?_)
    rw [w64 (x := q + 1) (by omega) (by omega)]
    exact ev_eq (ih (p ++ [q]) (q + 1) (by omega) (by omega) (snoc_at hx')) (by omega)
theorem held_ev (n : Nat) (q : Int) (h0 : 0 ≤ q) (h1 : q ≤ 1099511627776) (h2 : n ≤ 1099511627776) : Ev (fun k => laws_heldIntS.f k (run q n) q) (q + n) :=
  held_loop (run q n) (by rw [run_len]; exact h2) n [] q h0 (by omega) rfl
def conv (x : S69) : S39 := ⟨x.f0, x.f1, x.f2, x.f3⟩
theorem rd69s {xs p : List S69} {x : S69} {q : List S69} (h : xs = p ++ x :: q) : rd_T69 xs (p.length : Int) = x := by subst h; exact getD_at p x q z69
def Fit (xs : List S69) : Prop := xs.length ≤ 1048576 ∧ ∀ x ∈ xs, x.f1.length ≤ 1048576
theorem fit_small {xs : List S69} (h : Fit xs) : Small (xs.map conv) := by
  refine ⟨by simp; have := h.1; omega, fun x hx => ?_⟩
  obtain ⟨y, hy, rfl⟩ := List.mem_map.1 hx
  have := h.2 y hy; simp only [conv]; omega
theorem to_loop (xs : List S69) (hf : Fit xs) : ∀ (s p : List S69), xs = p ++ s →
    Ev (fun k => laws_toBatchS.l0 k xs (p.map conv ++ List.replicate s.length z39) (p.length : Int)) (xs.map conv) := by
  intro s
  induction s with
  | nil => intro p hx; refine ev_succ ?_; simp only [laws_toBatchS.l0]; exact ev_neg (by subst hx; simp) (ev_const (by subst hx; simp))
  | cons x s ih =>
    intro p hx; refine ev_succ ?_
    have hb : xs.length ≤ 1099511627776 := by have := hf.1; omega
    simp only [laws_toBatchS.l0, rd69s hx, wlen hx hb]
    have h1 : Ev (fun k => laws_toBatch.f k x.f0 x.f1 x.f2 x.f3) (x.f0, x.f1, x.f2, x.f3) := by
      unfold laws_toBatch.f
      exact Ev.bind (toInt_ev x.f1 (hf.2 x (by subst hx; simp))) (Ev.now _)
    refine ev_pos (len_at hx) (ev_pos (by omega) (Ev.bind h1 ?_))
    dsimp only
    refine ev_pos (by simp; omega) ?_
    have e : (p.map conv ++ List.replicate (x :: s).length z39).set ((p.length : Int)).toNat ⟨x.f0, x.f1, x.f2, x.f3⟩ = (p ++ [x]).map conv ++ List.replicate s.length z39 := by
      have h1 : ((p.length : Int)).toNat = (p.map conv).length := by simp
      rw [h1, List.length_cons, List.replicate_succ, set_at]; simp [conv]
    rw [e]; exact ih (p ++ [x]) (snoc_at hx)
theorem to_ev (xs : List S69) (hf : Fit xs) : Ev (fun k => laws_toBatchS.f k xs) (xs.map conv) := by
  unfold laws_toBatchS.f
  have := hf.1
  refine ev_pos (by omega) (ev_pos (by omega) ?_)
  exact to_loop xs hf xs [] rfl
theorem eq_loop (xs : List S39) (hs : Small xs) : ∀ (s p : List S39), xs = p ++ s → Ev (fun k => laws_eqBatchS.l0 k xs xs (p.length : Int)) true := by
  intro s
  induction s with
  | nil => intro p hx; refine ev_succ ?_; simp only [laws_eqBatchS.l0]; exact ev_neg (by subst hx; simp) (Ev.now _)
  | cons x s ih =>
    intro p hx; refine ev_succ ?_
    simp only [laws_eqBatchS.l0, rd39s hx, wlen hx hs.1]
    have h1 : Ev (fun k => laws_eqBatch.f k x.f0 x.f1 x.f2 x.f3 x.f0 x.f1 x.f2 x.f3) true := by
      unfold laws_eqBatch.f
      exact ev_pos rfl (Ev.bind (eqInt_ev x.f1 (small_at hs hx)) (ev_pos rfl (ev_pos rfl (ev_pos rfl (Ev.now _)))))
    exact ev_pos (len_at hx) (ev_pos (by omega) (ev_pos (len_at hx) (Ev.bind h1 (ev_pos rfl (ih (p ++ [x]) (snoc_at hx))))))
theorem eq_ev (xs : List S39) (hs : Small xs) : Ev (fun k => laws_eqBatchS.f k xs xs) true := by
  unfold laws_eqBatchS.f
  exact ev_pos rfl (eq_loop xs hs xs [] rfl)
theorem szInt_ev (l : List Int) (a : Int) (ha : 0 ≤ a ∧ a ≤ 1048576) (h : l.length ≤ 9223372036854775807) : ((l.length : Int) ≤ a ∧ laws_szIntS.f l a = some (a - (l.length : Int))) ∨ laws_szIntS.f l a = some (-1) := by
  unfold laws_szIntS.f
  rw [w64 (x := a - (l.length : Int)) (by omega) (by omega)]
  by_cases h0 : a - (l.length : Int) < 0
  · rw [if_pos h0]; exact .inr rfl
  · rw [if_neg h0]; exact .inl ⟨by omega, rfl⟩
theorem sz_loop (xs : List S69) (hb : xs.length ≤ 1099511627776) (hi : ∀ x ∈ xs, x.f1.length ≤ 9223372036854775807) : ∀ (s p : List S69) (a : Int), xs = p ++ s → 0 ≤ a → a ≤ 1048576 →
    ∃ r, Ev (fun k => laws_szBatchS.l0 k xs a (p.length : Int)) r ∧ (r < 0 ∨ (0 ≤ r ∧ r ≤ 1048576 ∧ ∀ x ∈ s, x.f1.length ≤ 1048576)) := by
  intro s
  induction s with
  | nil => intro p a hx h0 h1; exact ⟨a, ev_succ (by simp only [laws_szBatchS.l0]; exact ev_neg (by subst hx; simp) (Ev.now _)), .inr ⟨h0, h1, fun _ h => by cases h⟩⟩
  | cons x s ih =>
    intro p a hx h0 h1
    have hstep : Ev (fun k => laws_szBatchS.l0 (k + 1) xs a (p.length : Int)) = Ev (fun k => (laws_szBatch.f x.f0 x.f1 x.f2 x.f3 a).bind fun t => if t < 0 then some (-1) else laws_szBatchS.l0 k xs t ((p ++ [x]).length : Int)) := by
      funext r
      simp only [laws_szBatchS.l0, rd69s hx, wlen hx hb, if_pos (len_at hx), if_pos (show (0 : Int) ≤ (p.length : Int) by omega)]
    rcases szInt_ev x.f1 a ⟨h0, h1⟩ (hi x (by subst hx; simp)) with ⟨hl, e⟩ | e
    · obtain ⟨r, hr, hc⟩ := ih (p ++ [x]) (a - (x.f1.length : Int)) (snoc_at hx) (by omega) (by omega)
      refine ⟨r, ev_succ ?_, hc.imp id (fun h => ⟨h.1, h.2.1, fun y hy => ?_⟩)⟩
      · rw [hstep, laws_szBatch.f, e]; simp only [Option.bind_some]
        rw [if_neg (by omega)]; simp only [Option.bind_some]
        exact ev_neg (by omega) hr
      · rcases List.mem_cons.1 hy with rfl | hy
        · omega
        · exact h.2.2 y hy
    · refine ⟨-1, ev_succ ?_, .inl (by omega)⟩
      rw [hstep, laws_szBatch.f, e]; simp only [Option.bind_some]
      rw [if_pos (by omega)]; simp only [Option.bind_some]
      exact ev_pos (by omega) (Ev.now _)
theorem sz_ev (xs : List S69) (a : Int) (ha : 0 ≤ a ∧ a ≤ 1048576) (h : xs.length ≤ 9223372036854775807) (hi : ∀ x ∈ xs, x.f1.length ≤ 9223372036854775807) :
    ∃ r, Ev (fun k => laws_szBatchS.f k xs a) r ∧ (r < 0 ∨ (0 ≤ r ∧ r ≤ 1048576 ∧ Fit xs)) := by
  unfold laws_szBatchS.f
  rw [w64 (x := a - (xs.length : Int)) (by omega) (by omega)]
  by_cases h0 : a - (xs.length : Int) < 0
  · exact ⟨-1, ev_pos h0 (Ev.now _), .inl (by omega)⟩
  · obtain ⟨r, hr, hc⟩ := sz_loop xs (by omega) hi xs [] (a - (xs.length : Int)) rfl (by omega) (by omega)
    exact ⟨r, ev_neg h0 hr, hc.imp id (fun h => ⟨h.1, h.2.1, by omega, h.2.2⟩)⟩
theorem markN_eq : ∀ (n : Nat) (k : Int), 0 ≤ k → k + n ≤ 4611686018427387904 → markN n k = k + n
  | 0, k, _, _ => by simp [markN]
  | n + 1, k, h0, h1 => by
    rw [markN, markN_eq n k h0 (by omega), w64 (by omega) (by omega)]
    omega
theorem markB_le : ∀ (l : List S39) (k : Int), 0 ≤ k → (∀ x ∈ l, x.f1.length ≤ 1048576) → k + l.length * 1048579 ≤ 4611686018427387904 → 0 ≤ markBatchF l k ∧ markBatchF l k ≤ k + l.length * 1048579
  | [], k, h0, _, _ => by simp [markBatchF, h0]
  | x :: r, k, h0, hx, hk => by
    have h1 := hx x (by simp)
    simp only [List.length_cons] at hk ⊢
    have e1 : wrap64 (k + 1) = k + 1 := w64 (by omega) (by omega)
    have e2 : markN x.f1.length (k + 1) = k + 1 + x.f1.length := markN_eq _ _ (by omega) (by omega)
    have e3 : wrap64 (k + 1 + x.f1.length + 1) = k + x.f1.length + 2 := by rw [w64 (by omega) (by omega)]; omega
    have e4 : wrap64 (k + x.f1.length + 2 + 1) = k + x.f1.length + 3 := by rw [w64 (by omega) (by omega)]; omega
    rw [markBatchF, e1, e2, e3, e4]
    have ih := markB_le r (k + x.f1.length + 3) (by omega) (fun y hy => hx y (by simp [hy])) (by omega)
    omega
theorem mark_fit (l : List S69) (hf : Fit l) : 0 ≤ markBatchF (l.map conv) 1 ∧ markBatchF (l.map conv) 1 ≤ 1099514773505 := by
  have h1 := hf.1
  have h := markB_le (l.map conv) 1 (by omega) (fun x hx => by
    obtain ⟨y, hy, rfl⟩ := List.mem_map.1 hx
    exact hf.2 y hy) (by simp only [List.length_map]; omega)
  simp only [List.length_map] at h
  omega
theorem rd49s {xs p : List S49} {x : S49} {q : List S49} (h : xs = p ++ x :: q) : rd_T49 xs (p.length : Int) = x := by subst h; exact getD_at p x q z49
theorem find_loop (xs : List S39) (a : Int) (hb : xs.length ≤ 1099511627776) : ∀ (s p : List S39), xs = p ++ s → Ev (fun k => spec_l42Find.l0 k xs a (p.length : Int)) (bplace a p.length s) := by
  intro s
  induction s with
  | nil => intro p hx; refine ev_succ ?_; simp only [spec_l42Find.l0]; exact ev_neg (by subst hx; simp) (ev_const rfl)
  | cons x s ih =>
    intro p hx; refine ev_succ ?_
    have hi := ih (p ++ [x]) (snoc_at hx)
    simp only [spec_l42Find.l0, rd39s hx, wlen hx hb]
    refine ev_pos (len_at hx) (ev_pos (by omega) (ev_ite (fun h => ev_const ?_) (fun h => ev_eq hi ?_)))
    · rw [bplace, if_pos h]
    · rw [bplace, if_neg h]; simp
theorem find_ev (xs : List S39) (a : Int) (hb : xs.length ≤ 1099511627776) : Ev (fun k => spec_l42Find.f k xs a) (bplace a 0 xs) := find_loop xs a hb xs [] rfl
def pval (l : List S39) (ps : List S49) : Bool := decide (BValid l) && (decide (ps.length ≤ 16) && !(ps.any (badP l)))
theorem impl_pv (l : List S39) (hs : Small l) (ps : List S49) : Ev (fun k => impl_PlatesValid.f k l ps) (pval l ps) := by
  unfold impl_PlatesValid.f
  exact Ev.bind (impl_valid l hs) (Ev.now _)
theorem spec_pv_loop (l : List S39) (hs : Small l) (ps : List S49) (hb : ps.length ≤ 1099511627776) : ∀ (s p : List S49), ps = p ++ s →
    Ev (fun k => spec_PlatesValid.l0 k l ps (p.length : Int)) (!(s.any (badP l)) && (decide (BValid l) && decide (ps.length ≤ 16))) := by
  intro s
  induction s with
  | nil =>
    intro p hx; refine ev_succ ?_; simp only [spec_PlatesValid.l0]
    refine ev_neg (by subst hx; simp) (Ev.bind (spec_valid l hs) (ev_ite (fun h => ev_const ?_) (fun h => ev_const ?_)))
    · have : decide ((ps.length : Int) ≤ 16) = decide (ps.length ≤ 16) := dec_eq (by omega)
      rw [this, h]; simp
    · simp only [Bool.not_eq_true] at h
      rw [h]; simp
  | cons x s ih =>
    intro p hx; refine ev_succ ?_
    have hi := ih (p ++ [x]) (snoc_at hx)
    simp only [spec_PlatesValid.l0, rd49s hx, wlen hx hb, in_ev, Option.bind_some]
    refine ev_pos (len_at hx) (ev_pos (by omega) (ev_ite (fun h1 => ?_) (fun h1 => ev_const ?_)))
    · refine Ev.bind (find_ev l x.f1 hs.1) (ev_ite (fun h2 => ev_const ?_) (fun h2 => ?_))
      · rw [List.any_cons, badP, decide_eq_true h2]; simp
      · refine ev_ite (fun h3 => ev_eq hi ?_) (fun h3 => ev_const ?_)
        · rw [List.any_cons, badP, h1, decide_eq_false h2, h3]; simp
        · simp only [Bool.not_eq_true] at h3
          rw [List.any_cons, badP, h3]; simp
    · simp only [Bool.not_eq_true] at h1
      rw [List.any_cons, badP, h1]; simp
theorem spec_pv (l : List S39) (hs : Small l) (ps : List S49) (hb : ps.length ≤ 1099511627776) : Ev (fun k => spec_PlatesValid.f k l ps) (pval l ps) := by
  refine ev_eq (spec_pv_loop l hs ps hb ps [] rfl) ?_
  unfold pval
  cases (decide (BValid l)) <;> cases (decide (ps.length ≤ 16)) <;> cases (ps.any (badP l)) <;> rfl
def convP (x : S77) : S49 := ⟨x.f0, x.f1, x.f2⟩
theorem rd77s {xs p : List S77} {x : S77} {q : List S77} (h : xs = p ++ x :: q) : rd_T77 xs (p.length : Int) = x := by subst h; exact getD_at p x q z77
theorem pto_loop (xs : List S77) (hb : xs.length ≤ 1099511627776) : ∀ (s p : List S77), xs = p ++ s →
    Ev (fun k => laws_toPlateS.l0 k xs (p.map convP ++ List.replicate s.length z49) (p.length : Int)) (xs.map convP) := by
  intro s
  induction s with
  | nil => intro p hx; refine ev_succ ?_; simp only [laws_toPlateS.l0]; exact ev_neg (by subst hx; simp) (ev_const (by subst hx; simp))
  | cons x s ih =>
    intro p hx; refine ev_succ ?_
    simp only [laws_toPlateS.l0, rd77s hx, wlen hx hb, laws_toPlate.f, Option.bind_some]
    refine ev_pos (len_at hx) (ev_pos (by omega) (ev_pos (by simp; omega) ?_))
    have e : (p.map convP ++ List.replicate (x :: s).length z49).set ((p.length : Int)).toNat ⟨x.f0, x.f1, x.f2⟩ = (p ++ [x]).map convP ++ List.replicate s.length z49 := by
      have h1 : ((p.length : Int)).toNat = (p.map convP).length := by simp
      rw [h1, List.length_cons, List.replicate_succ, set_at]; simp [convP]
    rw [e]; exact ih (p ++ [x]) (snoc_at hx)
theorem pto_ev (xs : List S77) (hb : xs.length ≤ 1048576) : Ev (fun k => laws_toPlateS.f k xs) (xs.map convP) := by
  unfold laws_toPlateS.f
  refine ev_pos (by omega) (ev_pos (by omega) ?_)
  exact pto_loop xs (by omega) xs [] rfl
theorem peq_loop (xs : List S49) (hb : xs.length ≤ 1099511627776) : ∀ (s p : List S49), xs = p ++ s → Ev (fun k => laws_eqPlateS.l0 k xs xs (p.length : Int)) true := by
  intro s
  induction s with
  | nil => intro p hx; refine ev_succ ?_; simp only [laws_eqPlateS.l0]; exact ev_neg (by subst hx; simp) (Ev.now _)
  | cons x s ih =>
    intro p hx; refine ev_succ ?_
    simp only [laws_eqPlateS.l0, rd49s hx, wlen hx hb, laws_eqPlate.f, if_true, Option.bind_some]
    exact ev_pos (len_at hx) (ev_pos (by omega) (ev_pos (len_at hx) (ih (p ++ [x]) (snoc_at hx))))
theorem peq_ev (xs : List S49) (hb : xs.length ≤ 1099511627776) : Ev (fun k => laws_eqPlateS.f k xs xs) true := by
  unfold laws_eqPlateS.f
  exact ev_pos rfl (peq_loop xs hb xs [] rfl)
theorem psz_ev (xs : List S77) (a : Int) (h : xs.length ≤ 9223372036854775807) (ha : 0 ≤ a ∧ a ≤ 1048576) : ((xs.length : Int) ≤ a ∧ laws_szPlateS.f xs a = some (a - (xs.length : Int))) ∨ laws_szPlateS.f xs a = some (-1) := by
  unfold laws_szPlateS.f
  rw [w64 (x := a - (xs.length : Int)) (by omega) (by omega)]
  by_cases h0 : a - (xs.length : Int) < 0
  · rw [if_pos h0]; exact .inr rfl
  · rw [if_neg h0]; exact .inl ⟨by omega, rfl⟩
theorem markP_loop : ∀ (d : Nat) (xs : List S49) (q i : Int), 0 ≤ i → i + d = xs.length → 0 ≤ q → q + 3 * d ≤ 4611686018427387904 → xs.length ≤ 1099511627776 →
    ∃ r ys, 0 ≤ r ∧ r = q + 3 * d ∧ Ev (fun k => laws_markPlateS.l0 k xs q i) (r, ys) := by
  intro d
  induction d with
  | zero => intro xs q i h0 h1 h2 h3 h4; exact ⟨q, xs, h2, by omega, ev_succ (by simp only [laws_markPlateS.l0]; exact ev_neg (by omega) (Ev.now _))⟩
  | succ d ih =>
    intro xs q i h0 h1 h2 h3 h4
    have e1 : wrap64 (q + 1) = q + 1 := w64 (by omega) (by omega)
    have e2 : wrap64 (q + 1 + 1) = q + 2 := by rw [w64 (by omega) (by omega)]; omega
    have e3 : wrap64 (q + 2 + 1) = q + 3 := by rw [w64 (by omega) (by omega)]; omega
    have e7 : wrap64 (i + 1) = i + 1 := w64 (by omega) (by omega)
    have key : ∀ zs : List S49, zs.length = xs.length → ∃ r ys, 0 ≤ r ∧ r = q + 3 * (d + 1 : Nat) ∧ Ev (fun k => laws_markPlateS.l0 k zs (q + 3) (i + 1)) (r, ys) := by
      intro zs hz
      obtain ⟨r, ys, hr, hr2, h⟩ := ih zs (q + 3) (i + 1) (by omega) (by omega) (by omega) (by omega) (by omega)
      exact ⟨r, ys, hr, by omega, h⟩
    have fin : ∃ r ys, 0 ≤ r ∧ r = q + 3 * (d + 1 : Nat) ∧ Ev (fun k => laws_markPlateS.l0 (k + 1) xs q i) (r, ys) := by
      simp only [laws_markPlateS.l0, Option.bind_some, e1, e2, e3, e7]
      refine (key _ ?hz).elim (fun r h => h.elim (fun ys h => ⟨r, ys, h.1, h.2.1, ev_pos (by omega) (ev_pos h0 h.2.2)⟩))
      simp only [List.length_set]
    obtain ⟨r, ys, hr, hr2, h⟩ := fin
    exact ⟨r, ys, hr, hr2, ev_succ h⟩
theorem markP_ev (xs : List S49) (q : Int) (hq : 0 ≤ q) (hq1 : q ≤ 1099514773505) (h : xs.length ≤ 1099511627776) : ∃ r ys, 0 ≤ r ∧ r = q + 3 * xs.length ∧ Ev (fun k => laws_markPlateS.f k xs q) (r, ys) :=
  markP_loop xs.length xs q 0 (by omega) (by omega) hq (by omega) h
theorem index_loop (xs : List Int) (a : Int) (hb : xs.length ≤ 1099511627776) : ∀ (s p : List Int), xs = p ++ s →
    ∃ i : Int, decide (i ≥ 0) = decide (a ∈ s) ∧ Ev (fun k => slices_Index_int_int.l0 k xs a (xs.length : Int) (p.length : Int)) i := by
  intro s
  induction s with
  | nil => intro p hx; refine ⟨-1, by simp, ev_succ ?_⟩; simp only [slices_Index_int_int.l0]; exact ev_neg (by subst hx; simp) (ev_const rfl)
  | cons x s ih =>
    intro p hx
    by_cases h : a = x
    · refine ⟨p.length, by simp [h], ev_succ ?_⟩
      simp only [slices_Index_int_int.l0, rds hx]
      exact ev_pos (len_at hx) (ev_pos (by omega) (ev_pos (len_at hx) (ev_pos h (ev_const rfl))))
    · obtain ⟨i, e, hi⟩ := ih (p ++ [x]) (snoc_at hx)
      refine ⟨i, by rw [e]; simp [h], ev_succ ?_⟩
      simp only [slices_Index_int_int.l0, rds hx, wlen hx hb]
      exact ev_pos (len_at hx) (ev_pos (by omega) (ev_pos (len_at hx) (ev_neg h hi)))
theorem contains_ev (xs : List Int) (a : Int) (hb : xs.length ≤ 1099511627776) : Ev (fun k => slices_Contains_int_int.f k xs a) (decide (a ∈ xs)) := by
  obtain ⟨i, e, hi⟩ := index_loop xs a hb xs [] rfl
  unfold slices_Contains_int_int.f slices_Index_int_int.f
  exact Ev.bind hi (ev_const e)
theorem l15_loop (xs : List Int) (a : Int) (hb : xs.length ≤ 1099511627776) : ∀ (s p : List Int), xs = p ++ s → Ev (fun k => spec_l15Has.l0 k xs a (p.length : Int)) (decide (a ∈ s)) := by
  intro s
  induction s with
  | nil => intro p hx; refine ev_succ ?_; simp only [spec_l15Has.l0]; exact ev_neg (by subst hx; simp) (ev_const (by simp))
  | cons x s ih =>
    intro p hx; refine ev_succ ?_
    simp only [spec_l15Has.l0, rds hx, wlen hx hb]
    refine ev_pos (len_at hx) (ev_pos (by omega) (ev_ite (fun h => ev_const (by simp [h])) (fun h => ev_eq (ih (p ++ [x]) (snoc_at hx)) ?_)))
    simp [Ne.symm h]
theorem l15_ev (xs : List Int) (a : Int) (hb : xs.length ≤ 1099511627776) : Ev (fun k => spec_l15Has.f k xs a) (decide (a ∈ xs)) := l15_loop xs a hb xs [] rfl
def recl (a : Int) : List S39 → List Int
  | [] => []
  | x :: r => if a ∈ x.f1 then x.f0 :: recl a r else recl a r
theorem recl_len (a : Int) : ∀ (l : List S39), (recl a l).length ≤ l.length
  | [] => Nat.le_refl _
  | x :: r => by
    have := recl_len a r
    rw [recl]
    split <;> simp <;> omega
theorem impl_recall_loop (xs : List S39) (hs : Small xs) (a : Int) : ∀ (s p : List S39) (out : List Int), xs = p ++ s → out.length ≤ p.length →
    Ev (fun k => impl_RecallBatches.l0 k a out xs (xs.length : Int) (p.length : Int)) (out ++ recl a s) := by
  intro s
  induction s with
  | nil => intro p out hx ho; refine ev_succ ?_; simp only [impl_RecallBatches.l0]; exact ev_neg (by subst hx; simp) (ev_const (by simp [recl]))
  | cons x s ih =>
    intro p out hx ho; refine ev_succ ?_
    have hl : p.length ≤ 1099511627776 := by have := hs.1; subst hx; simp at this; omega
    simp only [impl_RecallBatches.l0, rd39s hx, wlen hx hs.1]
    refine ev_pos (len_at hx) (ev_pos (by omega) (ev_pos (len_at hx) (Ev.bind (contains_ev x.f1 a (small_at hs hx)) ?_)))
    refine ev_ite (fun h => ?_) (fun h => ?_)
    · have h' := of_decide_eq_true h
      have := ih (p ++ [x]) (out ++ [x.f0]) (snoc_at hx) (by simp; exact ho)
      refine ev_pos (by omega) (ev_eq this ?_)
      rw [recl, if_pos h', List.append_assoc]; rfl
    · have h' : ¬ a ∈ x.f1 := fun hh => h (decide_eq_true hh)
      have := ih (p ++ [x]) out (snoc_at hx) (by simp; omega)
      refine ev_eq this ?_
      rw [recl, if_neg h']
theorem impl_recall (xs : List S39) (hs : Small xs) (a : Int) : Ev (fun k => impl_RecallBatches.f k xs a) (if BValid xs then recl a xs else []) := by
  unfold impl_RecallBatches.f
  refine ev_some (Ev.bind (impl_valid xs hs) ?_)
  by_cases h : BValid xs
  · rw [if_pos h]
    exact ev_pos (decide_eq_true h) (ev_eq (impl_recall_loop xs hs a xs [] [] rfl (by simp)) (by simp))
  · rw [if_neg h]
    exact ev_neg (by simp [h]) (ev_const rfl)
theorem spec_recall_loop (xs : List S39) (hs : Small xs) (hv : BValid xs) (a : Int) : ∀ (s p : List S39) (out : List Int), xs = p ++ s → out.length ≤ p.length →
    Ev (fun k => spec_RecallBatches.l0 k xs a out (p.length : Int)) (out ++ recl a s) := by
  intro s
  induction s with
  | nil =>
    intro p out hx ho; refine ev_succ ?_; simp only [spec_RecallBatches.l0]
    refine ev_neg (by subst hx; simp) (ev_succ ?_)
    simp only [spec_RecallBatches.j1]
    exact ev_neg (by simp) (ev_const (by simp [recl]))
  | cons x s ih =>
    intro p out hx ho; refine ev_succ ?_
    have hl : p.length ≤ 1099511627776 := by have := hs.1; subst hx; simp at this; omega
    simp only [spec_RecallBatches.l0]
    refine ev_pos (len_at hx) (Ev.bind (spec_valid xs hs) (ev_succ ?_))
    simp only [spec_RecallBatches.j1, rd39s hx, wlen hx hs.1]
    refine ev_pos (decide_eq_true hv) (ev_pos (by omega) (ev_pos (len_at hx) (Ev.bind (l15_ev x.f1 a (small_at hs hx)) ?_)))
    refine ev_ite (fun h => ?_) (fun h => ?_)
    · have h' := of_decide_eq_true h
      have := ih (p ++ [x]) (out ++ [x.f0]) (snoc_at hx) (by simp; exact ho)
      refine ev_pos (by omega) (ev_eq this ?_)
      rw [recl, if_pos h', List.append_assoc]; rfl
    · have h' : ¬ a ∈ x.f1 := fun hh => h (decide_eq_true hh)
      have := ih (p ++ [x]) out (snoc_at hx) (by simp; omega)
      refine ev_eq this ?_
      rw [recl, if_neg h']
theorem spec_recall (xs : List S39) (hs : Small xs) (a : Int) : Ev (fun k => spec_RecallBatches.f k xs a) (if BValid xs then recl a xs else []) := by
  unfold spec_RecallBatches.f
  by_cases h : BValid xs
  · rw [if_pos h]
    exact ev_eq (spec_recall_loop xs hs h a xs [] [] rfl (by simp)) (by simp)
  · rw [if_neg h]
    refine ev_succ ?_
    simp only [spec_RecallBatches.l0]
    refine ev_ite (fun _ => Ev.bind (spec_valid xs hs) (ev_succ ?_)) (fun _ => ev_succ ?_)
    · simp only [spec_RecallBatches.j1]
      exact ev_neg (by simp [h]) (ev_const rfl)
    · simp only [spec_RecallBatches.j1]
      exact ev_neg (by simp) (ev_const rfl)
def gl (bs : List Int) : List S49 → List Int
  | [] => []
  | x :: r => if x.f1 ∈ bs then x.f0 :: gl bs r else gl bs r
theorem gl_mem (bs : List Int) (y : Int) : ∀ (l : List S49), y ∈ gl bs l ↔ ∃ x ∈ l, x.f1 ∈ bs ∧ x.f0 = y
  | [] => by simp [gl]
  | x :: r => by
    rw [gl]
    have ih := gl_mem bs y r
    split
    · rename_i h
      rw [List.mem_cons, ih]
      constructor
      · rintro (rfl | ⟨z, h1, h2⟩)
        · exact ⟨x, by simp, h, rfl⟩
        · exact ⟨z, by simp [h1], h2⟩
      · rintro ⟨z, h1, h2, h3⟩
        rcases List.mem_cons.1 h1 with rfl | h1
        · exact .inl h3.symm
        · exact .inr ⟨z, h1, h2, h3⟩
    · rename_i h
      rw [ih]
      constructor
      · rintro ⟨z, h1, h2⟩; exact ⟨z, by simp [h1], h2⟩
      · rintro ⟨z, h1, h2, h3⟩
        rcases List.mem_cons.1 h1 with rfl | h1
        · exact absurd h2 h
        · exact ⟨z, h1, h2, h3⟩
def srt (xs : List Int) : List Int := Go.Lib.compact (xs.mergeSort fun x y => decide (x ≤ y))
theorem comp_up (d : Array Int) (hs : ∀ i j, i ≤ j → j < d.size → d[i]! ≤ d[j]!) : ∀ m, m ≤ d.size →
    (Go.Lib.compactUpTo d m).Pairwise (· < ·) ∧ ∀ y, y ∈ Go.Lib.compactUpTo d m ↔ ∃ j, j < m ∧ d[j]! = y := by
  intro m
  induction m with
  | zero => intro _; refine ⟨by simp [Go.Lib.compactUpTo], fun y => ?_⟩; simp [Go.Lib.compactUpTo]
  | succ m ih =>
    intro hm
    obtain ⟨h1, h2⟩ := ih (by omega)
    rw [Go.Lib.compactUpTo_succ]
    by_cases hk : m = 0 ∨ d[m]! ≠ d[m - 1]!
    · have e : Go.Lib.keeps d m = true := by unfold Go.Lib.keeps; exact decide_eq_true hk
      rw [if_pos e]
      refine ⟨List.pairwise_append.2 ⟨h1, by simp, fun y hy z hz => ?_⟩, fun y => ?_⟩
      · obtain ⟨j, hj, rfl⟩ := (h2 y).1 hy
        obtain rfl : z = d[m]! := by simpa using hz
        have a1 := hs j (m - 1) (by omega) (by omega)
        have a2 := hs (m - 1) m (by omega) (by omega)
        rcases hk with h0 | h0
        · omega
        · omega
      · rw [List.mem_append, h2 y]
        constructor
        · rintro (⟨j, a, b⟩ | h)
          · exact ⟨j, by omega, b⟩
          · exact ⟨m, by omega, by simpa using (List.mem_singleton.1 h).symm⟩
        · rintro ⟨j, a, b⟩
          by_cases e : j = m
          · subst e; exact .inr (by simp [b])
          · exact .inl ⟨j, by omega, b⟩
    · have e : Go.Lib.keeps d m = false := by unfold Go.Lib.keeps; exact decide_eq_false hk
      have hk' : m ≠ 0 ∧ d[m]! = d[m - 1]! := ⟨fun h => hk (.inl h), Classical.not_not.1 fun h => hk (.inr h)⟩
      rw [if_neg (by rw [e]; simp), List.append_nil]
      refine ⟨h1, fun y => ?_⟩
      rw [h2 y]
      constructor
      · rintro ⟨j, a, b⟩; exact ⟨j, by omega, b⟩
      · rintro ⟨j, a, b⟩
        by_cases e : j = m
        · subst e; exact ⟨j - 1, by omega, by rw [← hk'.2]; exact b⟩
        · exact ⟨j, by omega, b⟩
theorem srt_all (xs : List Int) : (srt xs).Pairwise (· < ·) ∧ ∀ y, y ∈ srt xs ↔ y ∈ xs := by
  have hp : (xs.mergeSort fun x y => decide (x ≤ y)).Pairwise (fun a b => decide (a ≤ b) = true) := List.pairwise_mergeSort (fun a b c h1 h2 => by simp only [decide_eq_true_eq] at *; omega) (fun a b => by simp only [Bool.or_eq_true, decide_eq_true_eq]; omega) xs
  have hm : ∀ y, y ∈ (xs.mergeSort fun x y => decide (x ≤ y)) ↔ y ∈ xs := fun y => List.mem_mergeSort
  unfold srt Go.Lib.compact
  generalize (xs.mergeSort fun x y => decide (x ≤ y)) = zs at hp hm
  obtain ⟨h1, h2⟩ := comp_up zs.toArray (fun i j hij hj => by
    have hj' : j < zs.length := by simpa using hj
    have hi' : i < zs.length := by omega
    simp only [List.getElem!_toArray, getElem!_pos, hi', hj']
    by_cases e : i = j
    · subst e; omega
    · have := List.pairwise_iff_getElem.1 hp i j hi' hj' (by omega)
      simpa using this) zs.length (by simp)
  refine ⟨h1, fun y => ?_⟩
  rw [h2 y, ← hm y]
  constructor
  · rintro ⟨j, a, rfl⟩
    simp only [List.getElem!_toArray, getElem!_pos, a]
    exact List.getElem_mem a
  · intro h
    obtain ⟨j, a, rfl⟩ := List.mem_iff_getElem.1 h
    exact ⟨j, a, by simp only [List.getElem!_toArray, getElem!_pos, a]⟩
theorem asc_eq : ∀ (a b : List Int), a.Pairwise (· < ·) → b.Pairwise (· < ·) → (∀ y, y ∈ a ↔ y ∈ b) → a = b
  | [], [], _, _, _ => rfl
  | [], y :: b, _, _, h => by have := (h y).2 (by simp); simp at this
  | x :: a, [], _, _, h => by have := (h x).1 (by simp); simp at this
  | x :: a, y :: b, ha, hb, h => by
    obtain ⟨ha1, ha2⟩ := List.pairwise_cons.1 ha
    obtain ⟨hb1, hb2⟩ := List.pairwise_cons.1 hb
    have e : x = y := by
      rcases List.mem_cons.1 ((h x).1 (by simp)) with e | h1
      · exact e
      · rcases List.mem_cons.1 ((h y).2 (by simp)) with e | h2
        · exact e.symm
        · have := ha1 y h2; have := hb1 x h1; omega
    subst e
    rw [asc_eq a b ha2 hb2 (fun z => ?_)]
    constructor
    · intro hz
      rcases List.mem_cons.1 ((h z).1 (by simp [hz])) with e | h1
      · subst e; have := ha1 z hz; omega
      · exact h1
    · intro hz
      rcases List.mem_cons.1 ((h z).2 (by simp [hz])) with e | h1
      · subst e; have := hb1 z hz; omega
      · exact h1
def gs (xs : List Int) : Nat → Int → List Int
  | 0, _ => []
  | d + 1, g => if g ∈ xs then g :: gs xs d (g + 1) else gs xs d (g + 1)
theorem gs_mem (xs : List Int) (y : Int) : ∀ (d : Nat) (g : Int), y ∈ gs xs d g ↔ g ≤ y ∧ y < g + d ∧ y ∈ xs
  | 0, g => by simp only [gs, List.not_mem_nil, false_iff]; omega
  | d + 1, g => by
    have ih := gs_mem xs y d (g + 1)
    rw [gs]
    split
    · rename_i h
      rw [List.mem_cons, ih]
      constructor
      · rintro (rfl | ⟨a, b, c⟩)
        · exact ⟨by omega, by omega, h⟩
        · exact ⟨by omega, by omega, c⟩
      · rintro ⟨a, b, c⟩
        by_cases e : y = g
        · exact .inl e
        · exact .inr ⟨by omega, by omega, c⟩
    · rename_i h
      rw [ih]
      constructor
      · rintro ⟨a, b, c⟩; exact ⟨by omega, by omega, c⟩
      · rintro ⟨a, b, c⟩
        by_cases e : y = g
        · subst e; exact absurd c h
        · exact ⟨by omega, by omega, c⟩
theorem gs_asc (xs : List Int) : ∀ (d : Nat) (g : Int), (gs xs d g).Pairwise (· < ·)
  | 0, g => by simp [gs]
  | d + 1, g => by
    have ih := gs_asc xs d (g + 1)
    rw [gs]
    split
    · exact List.pairwise_cons.2 ⟨fun y hy => by have := (gs_mem xs y d (g + 1)).1 hy; omega, ih⟩
    · exact ih
theorem gs_len (xs : List Int) : ∀ (d : Nat) (g : Int), (gs xs d g).length ≤ d
  | 0, g => by simp [gs]
  | d + 1, g => by
    have := gs_len xs d (g + 1)
    rw [gs]
    split <;> simp <;> omega
theorem gs_srt (xs : List Int) (h : ∀ y ∈ xs, 1 ≤ y ∧ y ≤ 99) : gs xs 99 1 = srt xs := by
  obtain ⟨h1, h2⟩ := srt_all xs
  refine asc_eq _ _ (gs_asc xs 99 1) h1 (fun y => ?_)
  rw [gs_mem, h2]
  constructor
  · exact fun h => h.2.2
  · exact fun hy => ⟨(h y hy).1, by have := (h y hy).2; omega, hy⟩
theorem impl_guests_loop (bs : List Int) (hbs : bs.length ≤ 1099511627776) (ps : List S49) (hb : ps.length ≤ 1099511627776) : ∀ (s p : List S49) (out : List Int), ps = p ++ s → out.length ≤ p.length →
    Ev (fun k => impl_RecallGuests.l0 k out bs ps (ps.length : Int) (p.length : Int)) (srt (out ++ gl bs s)) := by
  intro s
  induction s with
  | nil =>
    intro p out hx ho; refine ev_succ ?_; simp only [impl_RecallGuests.l0]
    have hl : out.length ≤ 1099511627776 := by subst hx; simp at hb; omega
    exact ev_neg (by subst hx; simp) (ev_pos (by omega) (ev_const (by simp [gl, srt])))
  | cons x s ih =>
    intro p out hx ho; refine ev_succ ?_
    have hl : p.length ≤ 1099511627776 := by subst hx; simp at hb; omega
    simp only [impl_RecallGuests.l0, rd49s hx, wlen hx hb]
    refine ev_pos (len_at hx) (ev_pos (by omega) (ev_pos (len_at hx) (Ev.bind (contains_ev bs x.f1 hbs) (ev_ite (fun h => ?_) (fun h => ?_)))))
    · have h' := of_decide_eq_true h
      refine ev_pos (by omega) (ev_eq (ih (p ++ [x]) (out ++ [x.f0]) (snoc_at hx) (by simp; exact ho)) ?_)
      rw [gl, if_pos h', List.append_assoc]; rfl
    · have h' : ¬ x.f1 ∈ bs := fun hh => h (decide_eq_true hh)
      refine ev_eq (ih (p ++ [x]) out (snoc_at hx) (by simp; omega)) ?_
      rw [gl, if_neg h']
def gval (l : List S39) (ps : List S49) (a : Int) : List Int := if pval l ps = true then srt (gl (recl a l) ps) else []
theorem pval_b {l : List S39} {ps : List S49} (h : pval l ps = true) : BValid l ∧ ps.length ≤ 16 ∧ ∀ x ∈ ps, badP l x = false := by
  unfold pval at h
  simp only [Bool.and_eq_true, decide_eq_true_eq, Bool.not_eq_true', List.any_eq_false, Bool.not_eq_true] at h
  exact h
theorem impl_guests (l : List S39) (hs : Small l) (ps : List S49) (hb : ps.length ≤ 1099511627776) (a : Int) : Ev (fun k => impl_RecallGuests.f k l ps a) (gval l ps a) := by
  unfold impl_RecallGuests.f gval
  have hr := recl_len a l
  have h1 := hs.1
  refine ev_some (Ev.bind (impl_pv l hs ps) ?_)
  by_cases h : pval l ps = true
  · rw [if_pos h]
    have hi := impl_recall l hs a
    rw [if_pos (pval_b h).1] at hi
    exact ev_pos h (Ev.bind hi (ev_eq (impl_guests_loop (recl a l) (by omega) ps hb ps [] [] rfl (by simp)) (by simp)))
  · rw [if_neg h]
    exact ev_neg h (ev_const rfl)
theorem spec_some_loop (l : List S39) (ps : List S49) (hb : ps.length ≤ 1099511627776) (bs : List Int) (hbs : bs.length ≤ 1099511627776) (out : List Int) (g : Int) (R : List Int) : ∀ (s p : List S49) (b : Bool), ps = p ++ s →
    Ev (fun k => if (b || decide (g ∈ gl bs s)) = true then (if out.length < 17592186044416 then (spec_RecallGuests.l0 k l ps (out ++ [g]) bs (wrap64 (g + 1))) else none) else (spec_RecallGuests.l0 k l ps out bs (wrap64 (g + 1)))) R →
    Ev (fun k => spec_RecallGuests.l1 k l ps out bs g b (p.length : Int)) R := by
  intro s
  induction s with
  | nil =>
    intro p b hx hn; refine ev_succ ?_; simp only [spec_RecallGuests.l1]
    refine ev_neg (by subst hx; simp) ?_
    simp only [gl, List.not_mem_nil, decide_false, Bool.or_false] at hn
    exact hn
  | cons x s ih =>
    intro p b hx hn; refine ev_succ ?_
    simp only [spec_RecallGuests.l1, rd49s hx, wlen hx hb]
    refine ev_pos (len_at hx) (ev_ite (fun h => ?_) (fun h => ev_pos (by omega) (ev_ite (fun h2 => Ev.bind (l15_ev bs x.f1 hbs) ?_) (fun h2 => ?_))))
    · refine ih (p ++ [x]) true (snoc_at hx) ?_
      rw [h] at hn
      simpa only [Bool.true_or] using hn
    · refine ih (p ++ [x]) _ (snoc_at hx) ?_
      have e : (b || decide (g ∈ gl bs (x :: s))) = (decide (x.f1 ∈ bs) || decide (g ∈ gl bs s)) := by
        simp only [Bool.not_eq_true] at h
        rw [h, Bool.false_or, gl]
        by_cases hm : x.f1 ∈ bs
        · simp [hm, h2]
        · simp [hm]
      rw [e] at hn; exact hn
    · refine ih (p ++ [x]) false (snoc_at hx) ?_
      have e : (b || decide (g ∈ gl bs (x :: s))) = (false || decide (g ∈ gl bs s)) := by
        simp only [Bool.not_eq_true] at h
        rw [h, Bool.false_or, Bool.false_or, gl]
        by_cases hm : x.f1 ∈ bs
        · simp [hm]; intro e; exact absurd e.symm h2
        · simp [hm]
      rw [e] at hn; exact hn
theorem spec_guests_loop (l : List S39) (hs : Small l) (ps : List S49) (hb : ps.length ≤ 1099511627776) (hv : pval l ps = true) (bs : List Int) (hbs : bs.length ≤ 1099511627776) : ∀ (d : Nat) (g : Int) (out : List Int), g + d = 100 → 1 ≤ g → out.length + d ≤ 200 →
    Ev (fun k => spec_RecallGuests.l0 k l ps out bs g) (out ++ gs (gl bs ps) d g) := by
  intro d
  induction d with
  | zero =>
    intro g out h1 h2 h3; refine ev_succ ?_; simp only [spec_RecallGuests.l0]
    refine ev_neg (by omega) (ev_succ ?_)
    simp only [spec_RecallGuests.j1]
    exact ev_neg (by simp) (ev_const (by simp [gs]))
  | succ d ih =>
    intro g out h1 h2 h3; refine ev_succ ?_; simp only [spec_RecallGuests.l0]
    refine ev_pos (by omega) (Ev.bind (spec_pv l hs ps hb) (ev_succ ?_))
    simp only [spec_RecallGuests.j1]
    refine ev_pos hv (spec_some_loop l ps hb bs hbs out g _ ps [] false rfl ?_)
    have e : wrap64 (g + 1) = g + 1 := w64 (by omega) (by omega)
    rw [e, Bool.false_or]
    refine ev_ite (fun h => ?_) (fun h => ?_)
    · have h' := of_decide_eq_true h
      refine ev_pos (by omega) (ev_eq (ih (g + 1) (out ++ [g]) (by omega) (by omega) (by simp; omega)) ?_)
      rw [gs, if_pos h', List.append_assoc]; rfl
    · have h' : ¬ g ∈ gl bs ps := fun hh => h (decide_eq_true hh)
      refine ev_eq (ih (g + 1) out (by omega) (by omega) (by omega)) ?_
      rw [gs, if_neg h']
theorem gl_range {l : List S39} {ps : List S49} (hv : ∀ x ∈ ps, badP l x = false) (bs : List Int) : ∀ y ∈ gl bs ps, 1 ≤ y ∧ y ≤ 99 := by
  intro y hy
  obtain ⟨x, h1, h2, rfl⟩ := (gl_mem bs y ps).1 hy
  have h := hv x h1
  unfold badP at h
  simp only [Bool.or_eq_false_iff, Bool.not_eq_false', decide_eq_true_eq] at h
  exact h.1
theorem spec_guests (l : List S39) (hs : Small l) (ps : List S49) (hb : ps.length ≤ 1099511627776) (a : Int) : Ev (fun k => spec_RecallGuests.f k l ps a) (gval l ps a) := by
  unfold spec_RecallGuests.f gval
  have hr := recl_len a l
  have h1 := hs.1
  by_cases h : pval l ps = true
  · rw [if_pos h]
    have hi := spec_recall l hs a
    rw [if_pos (pval_b h).1] at hi
    refine Ev.bind hi (ev_eq (spec_guests_loop l hs ps hb h (recl a l) (by omega) 99 1 [] (by omega) (by omega) (by simp)) ?_)
    rw [List.nil_append]
    exact gs_srt _ (gl_range (pval_b h).2.2 _)
  · rw [if_neg h]
    refine Ev.bind (spec_recall l hs a) (ev_succ ?_)
    simp only [spec_RecallGuests.l0]
    refine ev_pos (by omega) (Ev.bind (spec_pv l hs ps hb) (ev_succ ?_))
    simp only [spec_RecallGuests.j1]
    exact ev_neg h (ev_const rfl)
end Go.Proofs.Ytnckblolijkdaaa.BBt
/- FnExactRecallGuests holds for all arguments. No condition beyond the statement's own. -/
namespace Go.Proofs.Ytnckblolijkdaaa.Pure
open Go.RowKit Go.Proofs.Ytnckblolijkdaaa.PBt Go.Proofs.Ytnckblolijkdaaa.BBt Go.Proofs.YtnckblolijkdaaaW.PrintWords Go.Proofs.YtnckblolijkdaaaW.PrintLast Go.Proofs.YtnckblolijkdaaaW.PrintMore
set_option linter.unusedVariables false
set_option linter.unusedSimpArgs false
theorem FnExactRecallGuests : laws_FnExactRecallGuests.Pure := by
  intro l ps a hm hi hm1 _
  have hm' : l.length ≤ 9223372036854775807 := by unfold maxLen at hm; exact hm
  have hm1' : ps.length ≤ 9223372036854775807 := by unfold maxLen at hm1; exact hm1
  have hi' : ∀ x ∈ l, x.f1.length ≤ 9223372036854775807 := by unfold maxLen at hi; exact hi
  refine Ev.rounds ?_
  unfold laws_FnExactRecallGuests.f
  obtain ⟨r, hr, hc⟩ := sz_ev l 1048576 (by omega) hm' hi'
  refine Ev.bind hr ?_
  rcases hc with hc | ⟨h0, h1, hf⟩
  · exact ev_pos hc (Ev.now _)
  · refine ev_neg (by omega) ?_
    rcases psz_ev ps r hm1' ⟨h0, h1⟩ with ⟨hl, e⟩ | e
    · rw [e]
      have hs := fit_small hf
      have ht := to_ev l hf
      have hp := pto_ev ps (by omega)
      have hb : (ps.map convP).length ≤ 1099511627776 := by simp; omega
      obtain ⟨m0, m1⟩ := mark_fit l hf
      obtain ⟨q, ys, hq, _, hk⟩ := markP_ev (ps.map convP) (markBatchF (l.map conv) 1) m0 m1 hb
      have hS := spec_guests (l.map conv) hs (ps.map convP) hb a
      have hI := impl_guests (l.map conv) hs (ps.map convP) hb a
      have ho : (gval (l.map conv) (ps.map convP) a).length ≤ 1048576 := by
        unfold gval
        split
        · rename_i h
          rw [← gs_srt _ (gl_range (pval_b h).2.2 _)]
          have := gs_len (gl (recl a (l.map conv)) (ps.map convP)) 99 1
          omega
        · simp
      generalize (gval (l.map conv) (ps.map convP) a) = o at hS hI ho
      have eo := eqInt_ev o (by omega)
      have mo := mark_ev o 1 (by omega) (by omega) (by omega)
      have hh := held_ev o.length 1 (by omega) (by omega) (by omega)
      refine ev_some (ev_neg (by omega) (Ev.bind ht (Ev.bind hp (Ev.bind hS (Ev.bind ht (Ev.bind hp (Ev.bind hI (Ev.bind eo (ev_pos rfl (Ev.bind ht (Ev.bind (eq_ev _ hs) (ev_pos rfl (Ev.bind hp (Ev.bind (peq_ev _ hb) (ev_pos rfl (Ev.bind hk (ev_neg (by dsimp only; omega) (Ev.bind eo (ev_succ ?_)))))))))))))))))))
      simp only [laws_FnExactRecallGuests.j0]
      exact ev_neg (by simp) (Ev.bind mo (Ev.bind hh (ev_neg (by omega) (ev_pos rfl (Ev.bind ht (Ev.bind hp (Ev.bind hI (Ev.bind eo (ev_pos rfl (Ev.bind hh (ev_neg (by omega) (ev_pos rfl (Ev.now _)))))))))))))
    · rw [e]
      exact ev_some (ev_pos (by omega) (Ev.now _))
end Go.Proofs.Ytnckblolijkdaaa.Pure
namespace Go.Proofs.Ytnckblolijkdaaa.Op
open Go.RowKit Go.Proofs.YtnckblolijkdaaaW.PrintWords Go.ChangeShapes Go.WideShapes Go.Deep
set_option linter.unusedVariables false
def Opens {α : Type} (P : Program) (d : Kd α) (e : TypeId) : Prop :=
  ∀ (H : Type) (enc : TypeId × Value → H) (w : World) (base : Nat) (spare : Nat → Bool) (held : Bool) (fuel : Nat) (cs : List Value) (x : DataW H × List MemPlace),
    DataW.trod enc P w base spare held fuel e cs = some x → ∃ a : α, d.K w a cs
theorem opens_int {P : Program} {k : IntKind} {e : TypeId} (ht : P.underlying e = some (.int k)) : Opens P (Kd.int k) e := by
  intro H enc w base spare held fuel cs x h
  obtain ⟨n, rfl, _, _⟩ := DataW.trod_int ht h
  exact ⟨n, rfl⟩
theorem list_of {α : Type} {Q : Nat → α → Prop} : ∀ n : Nat, (∀ i, i < n → ∃ y, Q i y) → ∃ xs : List α, xs.length = n ∧ ∀ i p, xs[i]? = some p → Q i p
  | 0, _ => ⟨[], rfl, fun i p h => by simp at h⟩
  | n + 1, h => by
    obtain ⟨xs, hl, hx⟩ := list_of n (fun i hi => h i (by omega))
    obtain ⟨y, hy⟩ := h n (by omega)
    refine ⟨xs ++ [y], by simp [hl], fun i p hp => ?_⟩
    by_cases hi : i < n
    · rw [List.getElem?_append_left (by omega)] at hp; exact hx i p hp
    · rw [List.getElem?_append_right (by omega)] at hp
      by_cases e : i = n
      · subst e; rw [hl, Nat.sub_self] at hp; simp at hp; subst hp; exact hy
      · have : i - xs.length = (i - xs.length - 1) + 1 := by omega
        rw [this] at hp; simp at hp
theorem opens_row {α : Type} {P : Program} {d : Kd α} {t e : TypeId} (ht : P.underlying t = some (.slice e)) (hC : P.cellsOf e = d.sz) (hd : Opens P d e)
    {H : Type} {enc : TypeId × Value → H} {w : World} {base : Nat} {spare : Nat → Bool} {held : Bool} {fuel : Nat} {cs : List Value} {x : DataW H × List MemPlace}
    (h : DataW.trod enc P w base spare held fuel t cs = some x) : ∃ (A : Option Addr) (xs : List α) (c : Nat), cs = [.slice A xs.length c] ∧ xs.length ≤ c ∧ xs.length ≤ maxLen ∧ d.C w A xs.length xs := by
  rcases open_slice ht h with ⟨rfl, _⟩ | ⟨a, len, cap, m, n, D, Pl, rfl, _, hl, hm, hmm, _, hi⟩
  · exact ⟨none, [], 0, rfl, Nat.le_refl _, Nat.zero_le _, rfl, by simp, fun h => absurd h (Nat.lt_irrefl 0)⟩
  · have hlm : len ≤ m := by rw [hmm]; split <;> omega
    obtain ⟨xs, hlen, hx⟩ := list_of (Q := fun i (y : α) => ∃ cs', w.cells? base (a.add (i * P.cellsOf e)) (P.cellsOf e) = some cs' ∧ d.K w y cs') len (fun i hlt => by
      obtain ⟨cs', hc, ht'⟩ := hi i (by omega)
      obtain ⟨y, hy⟩ := hd _ _ _ _ _ _ _ _ _ ht'
      exact ⟨y, cs', hc, hy⟩)
    subst hlen
    have hmx : xs.length ≤ maxLen := by omega
    refine ⟨some a, xs, cap, rfl, hl, hmx, rfl, by unfold maxLen at hmx; exact hmx, fun _ => ⟨a, rfl, fun j p hj => ?_⟩⟩
    obtain ⟨cs', hc, hK⟩ := hx j p hj
    obtain ⟨_, hcl, hat⟩ := World.cells?_some hc
    have hs := d.K_len hK
    refine ⟨cs', hs, hK, fun i u hu => ?_⟩
    have hil : i < P.cellsOf e := by
      rw [hC, ← hs]; exact (List.getElem?_eq_some_iff.1 hu).1
    have := hat i hil
    rw [← hu, ← this, Go.Deep.add_add, hC]
theorem C_all {α : Type} {d : Kd α} {w : World} {A : Option Addr} {n : Nat} {xs : List α} {Q : α → Prop} (h : d.C w A n xs) (hQ : ∀ x cs, d.K w x cs → Q x) : ∀ x ∈ xs, Q x := by
  intro x hx
  obtain ⟨j, hj, he⟩ := List.getElem_of_mem hx
  obtain ⟨ad, _, hc⟩ := h.2.2 (by have := h.1; omega)
  obtain ⟨c, _, hK, _⟩ := hc j x (by rw [List.getElem?_eq_getElem hj, he])
  exact hQ x c hK
theorem opens_slice {α : Type} {P : Program} {d : Kd α} {t e : TypeId} (ht : P.underlying t = some (.slice e)) (hC : P.cellsOf e = d.sz) (hd : Opens P d e) : Opens P (Kd.slice e d) t := by
  intro H enc w base spare held fuel cs x h
  obtain ⟨A, xs, c, rfl, hc, _, hr⟩ := opens_row ht hC hd h
  exact ⟨xs, A, c, rfl, hc, hr⟩
def OpensL {α : Type} (P : Program) (d : Kd α) (ts : List TypeId) : Prop :=
  ∀ (H : Type) (enc : TypeId × Value → H) (w : World) (base : Nat) (spare : Nat → Bool) (held : Bool) (fuel : Nat) (cs : List Value), cs.length = ts.length →
    (∀ i t, ts[i]? = some t → ∃ y, DataW.trod enc P w base spare held fuel t ((cs.drop i).take 1) = some y) → ∃ a : α, d.K w a cs
theorem opensL_one {α : Type} {P : Program} {d : Kd α} {t : TypeId} (h : Opens P d t) : OpensL P d [t] := by
  intro H enc w base spare held fuel cs hl hf
  obtain ⟨y, hy⟩ := hf 0 t rfl
  match cs, hl with
  | [c], _ => exact h _ _ _ _ _ _ _ _ _ hy
theorem opensL_cons {α β : Type} {P : Program} {d : Kd α} {d' : Kd β} {t : TypeId} {ts : List TypeId} (h : Opens P d t) (hl : OpensL P d' ts) : OpensL P (Kd.pair d d') (t :: ts) := by
  intro H enc w base spare held fuel cs hlen hf
  match cs, hlen with
  | c :: cs, hlen =>
    obtain ⟨y, hy⟩ := hf 0 t rfl
    obtain ⟨a, ha⟩ := h _ _ _ _ _ _ _ _ _ hy
    obtain ⟨b, hb⟩ := hl H enc w base spare held fuel cs (by simpa using hlen) (fun i t' ht' => hf (i + 1) t' (by simpa using ht'))
    exact ⟨(a, b), [c], cs, rfl, by simpa using ha, hb⟩
theorem opens_struct {α β : Type} {P : Program} {d : Kd α} {f : β → α} {g : α → β} {t : TypeId} {fs : Array Field} {ts : List TypeId} (hfg : ∀ a, f (g a) = a) (ht : P.underlying t = some (.struct fs)) (hone : oneCellFields P fs = true) (hC : P.cellsOf t = ts.length)
    (hts : fs.toList.map (·.type) = ts) (hl : OpensL P d ts) : Opens P (Kd.iso d f) t := by
  intro H enc w base spare held fuel cs x h
  obtain ⟨ys, n, _, _, hlen, hyl, hf⟩ := DataW.trod_struct ht h
  have key : ∃ a : α, d.K w a cs := by
    refine hl H enc w base spare held n cs (by rw [hlen, hC]) (fun i t' ht' => ?_)
    have hlt : i < ts.length := (List.getElem?_eq_some_iff.1 ht').1
    have hfl : fs.size = ts.length := by rw [← hts]; simp
    have hfi : fs[i]? = some (fs[i]'(by omega)) := Array.getElem?_eq_getElem (by omega)
    obtain ⟨ho, hk⟩ := hone_of hone i _ hfi
    have he : (fs[i]'(by omega)).type = t' := by
      have : (fs.toList.map (·.type))[i]? = some t' := by rw [hts]; exact ht'
      rw [List.getElem?_map, Array.getElem?_toList, hfi] at this
      simpa using this
    have h1 := hf i _ hfi
    rw [ho, hk, he] at h1
    have hyi : ys[i]? = some (ys[i]'(by omega)) := List.getElem?_eq_getElem (by omega)
    exact ⟨_, h1.trans hyi⟩
  obtain ⟨a, ha⟩ := key
  exact ⟨g a, by show d.K w (f (g a)) cs; rw [hfg]; exact ha⟩
end Go.Proofs.Ytnckblolijkdaaa.Op

