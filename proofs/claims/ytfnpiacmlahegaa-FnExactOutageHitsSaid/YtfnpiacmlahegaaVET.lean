import Derived.Test.YtfnpiacmlahegaaVEWMore
import Derived.Test.YtfnpiacmlahegaaVEWNEv
import Derived.Laws.BitsLemmas
import Derived.Test.YtfnpiacmlahegaaVEPRpx1
import Derived.Test.YtfnpiacmlahegaaVEPRpx3
import Derived.Test.YtfnpiacmlahegaaVEPRpx5
import Derived.Test.YtfnpiacmlahegaaVEPRpx6
import Derived.Test.YtfnpiacmlahegaaVEPRpx8
import Derived.Test.YtfnpiacmlahegaaVEPRpx10
import Derived.Test.YtfnpiacmlahegaaVEPRpx14
import Derived.Test.YtfnpiacmlahegaaVEPRpx21
import Derived.Test.YtfnpiacmlahegaaVEPRpx7
import Derived.Test.YtfnpiacmlahegaaVEPRpx11
import Derived.Test.YtfnpiacmlahegaaVEPRpx17
import Derived.Test.YtfnpiacmlahegaaVEPRpx4
import Derived.Test.YtfnpiacmlahegaaVEPRpx2
import Derived.Test.YtfnpiacmlahegaaVEPRpx9
import Derived.Test.YtfnpiacmlahegaaVEWWords
import Derived.Deep.Slices
import Derived.Deep.Fields
import Derived.ChangeSame
import Derived.ChangeArms
import Derived.Below
import Derived.ChangeSlices
namespace Go.Proofs.Ytfnpiacmlahegaa.BRp
open Go.RowKit Go.Proofs.YtfnpiacmlahegaaW.PrintWords Go.Proofs.YtfnpiacmlahegaaW.PrintLast Go.Proofs.YtfnpiacmlahegaaW.PrintMore
set_option linter.unusedVariables false
set_option linter.unusedSimpArgs false
theorem ev_succ {α : Type} {g : Nat → Option α} {r : α} (h : Ev (fun k => g (k + 1)) r) : Ev g r := Ev.step (fun _ => rfl) h
theorem ev_const {α : Type} {r s : α} (h : r = s) : Ev (fun _ => some r) s := by subst h; exact Ev.now r
theorem ev_pos {α : Type} {c : Prop} [Decidable c] {a b : Nat → Option α} {r : α} (hc : c) (h : Ev a r) : Ev (fun k => if c then a k else b k) r :=
  Ev.congr (fun k => if_pos hc) h
theorem ev_neg {α : Type} {c : Prop} [Decidable c] {a b : Nat → Option α} {r : α} (hc : ¬ c) (h : Ev b r) : Ev (fun k => if c then a k else b k) r :=
  Ev.congr (fun k => if_neg hc) h
theorem ev_ite {α : Type} {c : Prop} [Decidable c] {a b : Nat → Option α} {r : α} (h1 : c → Ev a r) (h2 : ¬ c → Ev b r) : Ev (fun k => if c then a k else b k) r := by
  by_cases hc : c
  · exact ev_pos hc (h1 hc)
  · exact ev_neg hc (h2 hc)
theorem ev_eq {α : Type} {g : Nat → Option α} {r s : α} (h : Ev g r) (e : r = s) : Ev g s := e ▸ h
theorem w64 {x : Int} (h0 : -9223372036854775808 ≤ x) (h1 : x ≤ 9223372036854775807) : wrap64 x = x := by unfold wrap64; omega
theorem getD_at {α : Type} (p : List α) (x : α) (q : List α) (d : α) : (p ++ x :: q).getD p.length d = x := by simp [List.getD]
theorem rd_at (p : List Int) (x : Int) (q : List Int) : rd (p ++ x :: q) (p.length : Int) = x := getD_at p x q 0
theorem rds {xs p : List Int} {x : Int} {q : List Int} (h : xs = p ++ x :: q) : rd xs (p.length : Int) = x := by subst h; exact rd_at p x q
theorem len_at {α : Type} {xs p : List α} {x : α} {q : List α} (h : xs = p ++ x :: q) : (p.length : Int) < (xs.length : Int) := by subst h; simp; omega
theorem snoc_at {α : Type} {xs p : List α} {x : α} {q : List α} (h : xs = p ++ x :: q) : xs = (p ++ [x]) ++ q := by subst h; simp
theorem wlen {α : Type} {xs p : List α} {x : α} {q : List α} (h : xs = p ++ x :: q) (hb : xs.length ≤ 1099511627776) : wrap64 ((p.length : Int) + 1) = ((p ++ [x]).length : Int) := by
  subst h; rw [w64 (by omega) (by simp at hb; omega)]; simp
theorem set_at {α : Type} (p : List α) (a b : α) (q : List α) : (p ++ a :: q).set p.length b = p ++ b :: q := by simp
end Go.Proofs.Ytfnpiacmlahegaa.BRp
namespace Go.Proofs.Ytfnpiacmlahegaa.BRp
open Go.RowKit Go.Proofs.Ytfnpiacmlahegaa.PRp Go.Proofs.YtfnpiacmlahegaaW.PrintWords Go.Proofs.YtfnpiacmlahegaaW.PrintLast Go.Proofs.YtfnpiacmlahegaaW.PrintMore
set_option linter.unusedVariables false
set_option linter.unusedSimpArgs false
theorem inn (a b c : Int) : spec_l6In.f a b c = some (decide (b ≤ a ∧ a ≤ c)) := by
  unfold spec_l6In.f
  by_cases h : a ≥ b
  · rw [if_pos h]; simp; omega
  · rw [if_neg h]; simp; omega
theorem rd63s {xs p : List S63} {x : S63} {q : List S63} (h : xs = p ++ x :: q) : rd_T63 xs (p.length : Int) = x := by subst h; exact getD_at p x q z63
def over (q : Option Int) (m : Int) : Prop := match q with | none => True | some y => y < m
instance (q : Option Int) (m : Int) : Decidable (over q m) := by unfold over; cases q <;> infer_instance
def LastI (p : List Int) (q : Option Int) : Prop := (p = [] ∧ q = none) ∨ ∃ p' y, p = p' ++ [y] ∧ q = some y
theorem lastI_snoc (p : List Int) (x : Int) : LastI (p ++ [x]) (some x) := .inr ⟨p, x, rfl, rfl⟩
def AOk (i : Int) : Option Int → List Int → Prop
  | _, [] => True
  | q, a :: r => (0 ≤ a ∧ a ≤ i - 1) ∧ over q a ∧ AOk i (some a) r
def decAOk (i : Int) : (q : Option Int) → (l : List Int) → Decidable (AOk i q l)
  | _, [] => isTrue trivial
  | q, a :: r => by
    unfold AOk
    have := decAOk i (some a) r
    infer_instance
instance (i : Int) (q : Option Int) (l : List Int) : Decidable (AOk i q l) := decAOk i q l
def S1 (x : S63) : Prop := (1 ≤ x.f0 ∧ x.f0 ≤ 99) ∧ (0 ≤ x.f1 ∧ x.f1 ≤ 4) ∧ (0 ≤ x.f2 ∧ x.f2 ≤ 4)
instance (x : S63) : Decidable (S1 x) := by unfold S1; infer_instance
def SOk : Nat → List S63 → Prop
  | _, [] => True
  | i, s :: r => S1 s ∧ AOk i none s.f3 ∧ SOk (i + 1) r
def decSOk : (i : Nat) → (l : List S63) → Decidable (SOk i l)
  | _, [] => isTrue trivial
  | i, s :: r => by
    unfold SOk
    have := decSOk (i + 1) r
    infer_instance
instance (i : Nat) (l : List S63) : Decidable (SOk i l) := decSOk i l
def SV (l : List S63) : Prop := SOk 0 l ∧ (l.length : Int) ≤ 8
instance (l : List S63) : Decidable (SV l) := by unfold SV; infer_instance
theorem dece {p q : Prop} [Decidable p] [Decidable q] (h : p ↔ q) : decide p = decide q := by simp [h]
def Short (l : List S63) : Prop := l.length ≤ 1099511627776 ∧ ∀ x ∈ l, x.f3.length ≤ 1099511627776
theorem spec_sv_inner (xs : List S63) (x : S63) (i : Nat) (hi : i ≤ 1099511627776) (hb : x.f3.length ≤ 1099511627776) (b : Bool) (hk : Ev (fun k => spec_StepsValid.l0 k xs (wrap64 ((i : Int) + 1))) b) :
    ∀ (s p : List Int) (q : Option Int), x.f3 = p ++ s → LastI p q → Ev (fun k => spec_StepsValid.l1 k xs (i : Int) (p.length : Int) x.f0 x.f1 x.f2 x.f3) (decide (AOk i q s) && b) := by
  intro s
  induction s with
  | nil => intro p q hx hq; refine ev_succ ?_; simp only [spec_StepsValid.l1]; exact ev_neg (by rw [hx]; simp) (ev_eq hk (by rw [decide_eq_true (show AOk (i : Int) q [] from trivial), Bool.true_and]))
  | cons a s ih =>
    intro p q hx hq; refine ev_succ ?_
    simp only [spec_StepsValid.l1, rds hx, wlen hx hb, inn, Option.bind_some]
    have hii : wrap64 ((i : Int) - 1) = (i : Int) - 1 := w64 (by omega) (by omega)
    rw [hii]
    refine ev_pos (len_at hx) (ev_pos (by omega) ?_)
    have h := ih (p ++ [a]) (some a) (snoc_at hx) (lastI_snoc p a)
    refine ev_ite (fun h1 => ?_) (fun h1 => ev_const ?_)
    · have h1' := of_decide_eq_true h1
      rcases hq with ⟨rfl, rfl⟩ | ⟨p', y, rfl, rfl⟩
      · refine ev_neg (by simp) (ev_eq h ?_)
        congr 1; refine dece ?_; simp only [AOk, over]; exact ⟨fun h => ⟨h1', trivial, h⟩, fun h => h.2.2⟩
      · have e1 : wrap64 (((p' ++ [y]).length : Int) - 1) = (p'.length : Int) := by
          rw [w64 (by omega) (by rw [hx] at hb; simp at hb ⊢; omega)]; simp
        have hx2 : x.f3 = p' ++ y :: (a :: s) := by rw [hx]; simp
        rw [e1, rds hx2]
        refine ev_pos (by simp <;> omega) (ev_pos (by omega) (ev_pos (len_at hx2) (ev_ite (fun h3 => ev_const ?_) (fun h3 => ev_eq h ?_))))
        · symm; rw [Bool.and_eq_false_iff]; left; refine decide_eq_false (fun h => ?_)
          have := h.2.1; simp only [over] at this; omega
        · congr 1; refine dece ?_; simp only [AOk, over]; exact ⟨fun h => ⟨h1', by omega, h⟩, fun h => h.2.2⟩
    · symm; rw [Bool.and_eq_false_iff]; left; exact decide_eq_false (fun h => h1 (decide_eq_true h.1))
theorem spec_sv_loop (xs : List S63) (hb : Short xs) : ∀ (s p : List S63), xs = p ++ s →
    Ev (fun k => spec_StepsValid.l0 k xs (p.length : Int)) (decide (SOk p.length s ∧ (xs.length : Int) ≤ 8)) := by
  intro s
  induction s with
  | nil => intro p hx; refine ev_succ ?_; simp only [spec_StepsValid.l0]; exact ev_neg (by subst hx; simp) (ev_const (dece (by simp [SOk])))
  | cons x s ih =>
    intro p hx; refine ev_succ ?_
    have hp : p.length ≤ 1099511627776 := by have := hb.1; subst hx; simp at this; omega
    have hi := ih (p ++ [x]) (snoc_at hx)
    rw [← wlen hx hb.1, List.length_append, List.length_singleton] at hi
    have hin := spec_sv_inner xs x p.length hp (hb.2 x (by subst hx; simp)) _ hi x.f3 [] none rfl (.inl ⟨rfl, rfl⟩)
    have hj0 : ∀ t, t = true → ∀ r, r = false → Ev (fun k => spec_StepsValid.j1 k xs (p.length : Int) t x.f0 x.f1 x.f2 x.f3) r := by
      intro t ht r hr; subst hr; refine ev_succ ?_; simp only [spec_StepsValid.j1]; exact ev_pos ht (Ev.now _)
    have hj1 : ∀ t, t = false → Ev (fun k => spec_StepsValid.j1 k xs (p.length : Int) t x.f0 x.f1 x.f2 x.f3) (decide (AOk p.length none x.f3) && decide (SOk (p.length + 1) s ∧ (xs.length : Int) ≤ 8)) := by
      intro t ht; refine ev_succ ?_; simp only [spec_StepsValid.j1]; exact ev_neg (by simp [ht]) hin
    have no : ¬ S1 x → false = decide (SOk p.length (x :: s) ∧ (xs.length : Int) ≤ 8) := fun h => (decide_eq_false (fun z => h z.1.1)).symm
    simp only [spec_StepsValid.l0, rd63s hx, inn, Option.bind_some]
    refine ev_pos (len_at hx) (ev_pos (by omega) (ev_ite (fun h1 => ev_ite (fun h2 => ?_) (fun h2 => ?_)) (fun h1 => ?_)))
    · by_cases h3 : 0 ≤ x.f2 ∧ x.f2 ≤ 4
      · refine ev_eq (hj1 _ (by simp [h3])) ?_
        rw [Bool.eq_iff_iff]; simp only [Bool.and_eq_true, decide_eq_true_eq] at h1 h2 ⊢
        simp only [SOk, S1]; exact ⟨fun h => ⟨⟨⟨h1, h2, h3⟩, h.1, h.2.1⟩, h.2.2⟩, fun h => ⟨h.1.2.1, h.1.2.2, h.2⟩⟩
      · exact hj0 _ (by rw [decide_eq_false h3]; rfl) _ (no (fun z => h3 z.2.2)).symm
    · exact hj0 _ rfl _ (no (fun z => h2 (decide_eq_true z.2.1))).symm
    · exact hj0 _ rfl _ (no (fun z => h1 (decide_eq_true z.1))).symm
theorem spec_sv (xs : List S63) (hb : Short xs) : Ev (fun k => spec_StepsValid.f k xs) (decide (SV xs)) := spec_sv_loop xs hb xs [] rfl
theorem AOk.all {i : Int} : ∀ {q : Option Int} {l : List Int}, AOk i q l → ∀ a ∈ l, 0 ≤ a ∧ a ≤ i - 1
  | _, [], _, a, h => by cases h
  | q, x :: r, hh, a, h => by
    rcases List.mem_cons.1 h with rfl | h
    · exact hh.1
    · exact AOk.all hh.2.2 a h
theorem SOk.at : ∀ {j : Nat} {l : List S63}, SOk j l → ∀ (i : Nat) (h : i < l.length), S1 l[i] ∧ AOk ((j + i : Nat) : Int) none l[i].f3
  | _, [], _, i, h => by simp at h
  | j, s :: r, hh, 0, h => ⟨hh.1, hh.2.1⟩
  | j, s :: r, hh, i + 1, h => by
    have := SOk.at hh.2.2 i (by simpa using h)
    simp only [List.getElem_cons_succ]
    refine ⟨this.1, ?_⟩
    have e : j + 1 + i = j + (i + 1) := by omega
    rw [← e]; exact this.2
theorem SOk.s1 {j : Nat} {l : List S63} (h : SOk j l) : ∀ x ∈ l, S1 x := fun x hx => by
  obtain ⟨i, hi, rfl⟩ := List.mem_iff_getElem.1 hx; exact (h.at i hi).1
theorem toInt_loop (xs : List Int) (hb : xs.length ≤ 1099511627776) : ∀ (s p : List Int), xs = p ++ s →
    Ev (fun k => laws_toIntS.l0 k xs (p ++ List.replicate s.length 0) (p.length : Int)) xs := by
  intro s
  induction s with
  | nil => intro p hx; refine ev_succ ?_; simp only [laws_toIntS.l0]; exact ev_neg (by subst hx; simp) (ev_const (by subst hx; simp))
  | cons x s ih =>
    intro p hx; refine ev_succ ?_
    simp only [laws_toIntS.l0, rds hx, wlen hx hb]
    refine ev_pos (len_at hx) (ev_pos (by omega) (ev_pos (by simp; omega) ?_))
    have e : (p ++ List.replicate (x :: s).length 0).set ((p.length : Int)).toNat x = (p ++ [x]) ++ List.replicate s.length 0 := by
      have h1 : ((p.length : Int)).toNat = p.length := by simp
      rw [h1, List.length_cons, List.replicate_succ, set_at]; simp
    rw [e]; exact ih (p ++ [x]) (snoc_at hx)
theorem toInt_ev (xs : List Int) (hb : xs.length ≤ 1048576) : Ev (fun k => laws_toIntS.f k xs) xs := by
  unfold laws_toIntS.f
  exact ev_pos (by omega) (ev_pos (by omega) (toInt_loop xs (by omega) xs [] rfl))
theorem eqInt_loop (xs : List Int) (hb : xs.length ≤ 1099511627776) : ∀ (s p : List Int), xs = p ++ s → Ev (fun k => laws_eqIntS.l0 k xs xs (p.length : Int)) true := by
  intro s
  induction s with
  | nil => intro p hx; refine ev_succ ?_; simp only [laws_eqIntS.l0]; exact ev_neg (by subst hx; simp) (Ev.now _)
  | cons x s ih =>
    intro p hx; refine ev_succ ?_
    simp only [laws_eqIntS.l0, rds hx, wlen hx hb, if_true]
    exact ev_pos (len_at hx) (ev_pos (by omega) (ev_pos (len_at hx) (ih (p ++ [x]) (snoc_at hx))))
theorem eqInt_ev (xs : List Int) (hb : xs.length ≤ 1099511627776) : Ev (fun k => laws_eqIntS.f k xs xs) true := by
  unfold laws_eqIntS.f
  exact ev_pos rfl (eqInt_loop xs hb xs [] rfl)
def run (q : Int) : Nat → List Int
  | 0 => []
  | n + 1 => q :: run (q + 1) n
theorem run_len : ∀ (n : Nat) (q : Int), (run q n).length = n
  | 0, _ => rfl
  | n + 1, q => by simp [run, run_len n]
theorem mark_loop : ∀ (s p : List Int) (q : Int), 0 ≤ q → q + s.length ≤ 4611686018427387904 → p.length + s.length ≤ 1099511627776 →
    Ev (fun k => laws_markIntS.l0 k (p ++ s) q (p.length : Int)) (q + s.length, p ++ run q s.length) := by
  intro s
  induction s with
  | nil => intro p q h0 h1 h2; refine ev_succ ?_; simp only [laws_markIntS.l0]; exact ev_neg (by simp) (ev_const (by simp [run]))
  | cons x s ih =>
    intro p q h0 h1 h2; refine ev_succ ?_
    simp only [List.length_cons] at h1 h2
    simp only [laws_markIntS.l0]
    refine ev_pos (by simp; omega) (ev_pos (by omega) ?_)
    have e1 : ((p.length : Int)).toNat = p.length := by simp
    rw [e1, set_at, w64 (x := q + 1) (by omega) (by omega), w64 (x := (p.length : Int) + 1) (by omega) (by omega)]
    have h3 := ih (p ++ [q]) (q + 1) (by omega) (by omega) (by simp; omega)
    have e2 : ((p ++ [q]).length : Int) = (p.length : Int) + 1 := by simp
    rw [e2] at h3
    have e3 : p ++ [q] ++ s = p ++ q :: s := by simp
    rw [e3] at h3
    refine ev_eq h3 ?_
    simp [run]; omega
theorem mark_ev (s : List Int) (q : Int) (h0 : 0 ≤ q) (h1 : q ≤ 1099511627776) (h2 : s.length ≤ 1099511627776) : Ev (fun k => laws_markIntS.f k s q) (q + s.length, run q s.length) :=
  mark_loop s [] q h0 (by omega) (by simp; omega)
theorem held_loop (xs : List Int) (hb : xs.length ≤ 1099511627776) : ∀ (n : Nat) (p : List Int) (q : Int), 0 ≤ q → q + n ≤ 4611686018427387904 → xs = p ++ run q n →
    Ev (fun k => laws_heldIntS.l0 k xs q (p.length : Int)) (q + n) := by
  intro n
  induction n with
  | zero => intro p q h0 h1 hx; refine ev_succ ?_; simp only [laws_heldIntS.l0]; exact ev_neg (by subst hx; simp [run]) (ev_const (by simp))
  | succ n ih =>
    intro p q h0 h1 hx; refine ev_succ ?_
    have hx' : xs = p ++ q :: run (q + 1) n := hx
    simp only [laws_heldIntS.l0, rds hx', wlen hx' hb, if_true]
    refine ev_pos (len_at hx') (ev_pos (by omega) ?_)
    rw [w64 (x := q + 1) (by omega) (by omega)]
    exact ev_eq (ih (p ++ [q]) (q + 1) (by omega) (by omega) (snoc_at hx')) (by omega)
theorem held_ev (n : Nat) (q : Int) (h0 : 0 ≤ q) (h1 : q ≤ 1099511627776) (h2 : n ≤ 1099511627776) : Ev (fun k => laws_heldIntS.f k (run q n) q) (q + n) :=
  held_loop (run q n) (by rw [run_len]; exact h2) n [] q h0 (by omega) rfl
def conv (x : S59) : S63 := ⟨x.f0, x.f1, x.f2, x.f3⟩
theorem rd59s {xs p : List S59} {x : S59} {q : List S59} (h : xs = p ++ x :: q) : rd_T59 xs (p.length : Int) = x := by subst h; exact getD_at p x q z59
def FitS (xs : List S59) : Prop := xs.length ≤ 1048576 ∧ ∀ x ∈ xs, x.f3.length ≤ 1048576
theorem fit_small {xs : List S59} (h : FitS xs) : Short (xs.map conv) := by
  refine ⟨by simp; have := h.1; omega, fun x hx => ?_⟩
  obtain ⟨y, hy, rfl⟩ := List.mem_map.1 hx
  have := h.2 y hy; simp only [conv]; omega
theorem to_loop (xs : List S59) (hf : FitS xs) : ∀ (s p : List S59), xs = p ++ s →
    Ev (fun k => laws_toStepS.l0 k xs (p.map conv ++ List.replicate s.length z63) (p.length : Int)) (xs.map conv) := by
  intro s
  induction s with
  | nil => intro p hx; refine ev_succ ?_; simp only [laws_toStepS.l0]; exact ev_neg (by subst hx; simp) (ev_const (by subst hx; simp))
  | cons x s ih =>
    intro p hx; refine ev_succ ?_
    have hb : xs.length ≤ 1099511627776 := by have := hf.1; omega
    simp only [laws_toStepS.l0, rd59s hx, wlen hx hb]
    have h1 : Ev (fun k => laws_toStep.f k x.f0 x.f1 x.f2 x.f3) (x.f0, x.f1, x.f2, x.f3) := by
      unfold laws_toStep.f
      exact Ev.bind (toInt_ev x.f3 (hf.2 x (by subst hx; simp))) (Ev.now _)
    refine ev_pos (len_at hx) (ev_pos (by omega) (Ev.bind h1 ?_))
    dsimp only
    refine ev_pos (by simp; omega) ?_
    have e : (p.map conv ++ List.replicate (x :: s).length z63).set ((p.length : Int)).toNat ⟨x.f0, x.f1, x.f2, x.f3⟩ = (p ++ [x]).map conv ++ List.replicate s.length z63 := by
      have h1 : ((p.length : Int)).toNat = (p.map conv).length := by simp
      rw [h1, List.length_cons, List.replicate_succ, set_at]; simp [conv]
    rw [e]; exact ih (p ++ [x]) (snoc_at hx)
theorem to_ev (xs : List S59) (hf : FitS xs) : Ev (fun k => laws_toStepS.f k xs) (xs.map conv) := by
  unfold laws_toStepS.f
  have := hf.1
  refine ev_pos (by omega) (ev_pos (by omega) ?_)
  exact to_loop xs hf xs [] rfl
theorem eq_loop (xs : List S63) (hs : Short xs) : ∀ (s p : List S63), xs = p ++ s → Ev (fun k => laws_eqStepS.l0 k xs xs (p.length : Int)) true := by
  intro s
  induction s with
  | nil => intro p hx; refine ev_succ ?_; simp only [laws_eqStepS.l0]; exact ev_neg (by subst hx; simp) (Ev.now _)
  | cons x s ih =>
    intro p hx; refine ev_succ ?_
    simp only [laws_eqStepS.l0, rd63s hx, wlen hx hs.1]
    have h1 : Ev (fun k => laws_eqStep.f k x.f0 x.f1 x.f2 x.f3 x.f0 x.f1 x.f2 x.f3) true := by
      unfold laws_eqStep.f
      exact ev_pos rfl (ev_pos rfl (ev_pos rfl (Ev.bind (eqInt_ev x.f3 (hs.2 x (by subst hx; simp))) (ev_pos rfl (Ev.now _)))))
    exact ev_pos (len_at hx) (ev_pos (by omega) (ev_pos (len_at hx) (Ev.bind h1 (ev_pos rfl (ih (p ++ [x]) (snoc_at hx))))))
theorem eq_ev (xs : List S63) (hs : Short xs) : Ev (fun k => laws_eqStepS.f k xs xs) true := by
  unfold laws_eqStepS.f
  exact ev_pos rfl (eq_loop xs hs xs [] rfl)
theorem szInt_ev (l : List Int) (a : Int) (ha : 0 ≤ a ∧ a ≤ 1048576) (h : l.length ≤ 9223372036854775807) : ((l.length : Int) ≤ a ∧ laws_szIntS.f l a = some (a - (l.length : Int))) ∨ laws_szIntS.f l a = some (-1) := by
  unfold laws_szIntS.f
  rw [w64 (x := a - (l.length : Int)) (by omega) (by omega)]
  by_cases h0 : a - (l.length : Int) < 0
  · rw [if_pos h0]; exact .inr rfl
  · rw [if_neg h0]; exact .inl ⟨by omega, rfl⟩
theorem sz_loop (xs : List S59) (hb : xs.length ≤ 1099511627776) (hi : ∀ x ∈ xs, x.f3.length ≤ 9223372036854775807) : ∀ (s p : List S59) (a : Int), xs = p ++ s → 0 ≤ a → a ≤ 1048576 →
    ∃ r, Ev (fun k => laws_szStepS.l0 k xs a (p.length : Int)) r ∧ (r < 0 ∨ (0 ≤ r ∧ r ≤ 1048576 ∧ ∀ x ∈ s, x.f3.length ≤ 1048576)) := by
  intro s
  induction s with
  | nil => intro p a hx h0 h1; exact ⟨a, ev_succ (by simp only [laws_szStepS.l0]; exact ev_neg (by subst hx; simp) (Ev.now _)), .inr ⟨h0, h1, fun _ h => by cases h⟩⟩
  | cons x s ih =>
    intro p a hx h0 h1
    have hstep : Ev (fun k => laws_szStepS.l0 (k + 1) xs a (p.length : Int)) = Ev (fun k => (laws_szStep.f x.f0 x.f1 x.f2 x.f3 a).bind fun t => if t < 0 then some (-1) else laws_szStepS.l0 k xs t ((p ++ [x]).length : Int)) := by
      funext r
      simp only [laws_szStepS.l0, rd59s hx, wlen hx hb, if_pos (len_at hx), if_pos (show (0 : Int) ≤ (p.length : Int) by omega)]
    rcases szInt_ev x.f3 a ⟨h0, h1⟩ (hi x (by subst hx; simp)) with ⟨hl, e⟩ | e
    · obtain ⟨r, hr, hc⟩ := ih (p ++ [x]) (a - (x.f3.length : Int)) (snoc_at hx) (by omega) (by omega)
      refine ⟨r, ev_succ ?_, hc.imp id (fun h => ⟨h.1, h.2.1, fun y hy => ?_⟩)⟩
      · rw [hstep, laws_szStep.f, e]; simp only [Option.bind_some]
        rw [if_neg (by omega)]; simp only [Option.bind_some]
        exact ev_neg (by omega) hr
      · rcases List.mem_cons.1 hy with rfl | hy
        · omega
        · exact h.2.2 y hy
    · refine ⟨-1, ev_succ ?_, .inl (by omega)⟩
      rw [hstep, laws_szStep.f, e]; simp only [Option.bind_some]
      rw [if_pos (by omega)]; simp only [Option.bind_some]
      exact ev_pos (by omega) (Ev.now _)
theorem sz_ev (xs : List S59) (a : Int) (ha : 0 ≤ a ∧ a ≤ 1048576) (h : xs.length ≤ 9223372036854775807) (hi : ∀ x ∈ xs, x.f3.length ≤ 9223372036854775807) :
    ∃ r, Ev (fun k => laws_szStepS.f k xs a) r ∧ (r < 0 ∨ (0 ≤ r ∧ r ≤ 1048576 ∧ FitS xs)) := by
  unfold laws_szStepS.f
  rw [w64 (x := a - (xs.length : Int)) (by omega) (by omega)]
  by_cases h0 : a - (xs.length : Int) < 0
  · exact ⟨-1, ev_pos h0 (Ev.now _), .inl (by omega)⟩
  · obtain ⟨r, hr, hc⟩ := sz_loop xs (by omega) hi xs [] (a - (xs.length : Int)) rfl (by omega) (by omega)
    exact ⟨r, ev_neg h0 hr, hc.imp id (fun h => ⟨h.1, h.2.1, by omega, h.2.2⟩)⟩
theorem markN_eq : ∀ (n : Nat) (k : Int), 0 ≤ k → k + n ≤ 4611686018427387904 → markN n k = k + n
  | 0, k, _, _ => by simp [markN]
  | n + 1, k, h0, h1 => by
    rw [markN, markN_eq n k h0 (by omega), w64 (by omega) (by omega)]
    omega
theorem markS_le : ∀ (l : List S63) (k : Int), 0 ≤ k → (∀ x ∈ l, x.f3.length ≤ 1048576) → k + l.length * 1048579 ≤ 4611686018427387904 → 0 ≤ markStepF l k ∧ markStepF l k ≤ k + l.length * 1048579
  | [], k, h0, _, _ => by simp [markStepF, h0]
  | x :: r, k, h0, hx, hk => by
    have h1 := hx x (by simp)
    simp only [List.length_cons] at hk ⊢
    have e1 : wrap64 (k + 1) = k + 1 := w64 (by omega) (by omega)
    have e2 : wrap64 (k + 1 + 1) = k + 2 := by rw [w64 (by omega) (by omega)]; omega
    have e3 : wrap64 (k + 2 + 1) = k + 3 := by rw [w64 (by omega) (by omega)]; omega
    have e4 : markN x.f3.length (k + 3) = k + 3 + x.f3.length := markN_eq _ _ (by omega) (by omega)
    rw [markStepF, e1, e2, e3, e4]
    have ih := markS_le r (k + 3 + x.f3.length) (by omega) (fun y hy => hx y (by simp [hy])) (by omega)
    omega
theorem mark_fit (l : List S59) (hf : FitS l) : 0 ≤ markStepF (l.map conv) 1 ∧ markStepF (l.map conv) 1 ≤ 1099514773505 := by
  have h1 := hf.1
  have h := markS_le (l.map conv) 1 (by omega) (fun x hx => by
    obtain ⟨y, hy, rfl⟩ := List.mem_map.1 hx
    exact hf.2 y hy) (by simp only [List.length_map]; omega)
  simp only [List.length_map] at h
  omega
theorem mark_more (s : List Int) (q : Int) (h0 : 0 ≤ q) (h1 : q ≤ 1099514773505 + 1099511627776) (h2 : s.length ≤ 1099511627776) : Ev (fun k => laws_markIntS.f k s q) (q + s.length, run q s.length) :=
  mark_loop s [] q h0 (by omega) (by simp; omega)
def onAt (s : S63) (x m : Int) : Prop := x ≤ m ∧ m < x + s.f0
instance (s : S63) (x m : Int) : Decidable (onAt s x m) := by unfold onAt; infer_instance
theorem inw (a b c : Int) : impl_within.f a b c = some (decide (b ≤ a ∧ a ≤ c)) := by
  unfold impl_within.f
  by_cases h : a ≥ b
  · rw [if_pos h]; simp; omega
  · rw [if_neg h]; simp; omega
theorem impl_sv_inner (xs : List S63) (x : S63) (i : Nat) (hi : i ≤ 1099511627776) (hb : x.f3.length ≤ 1099511627776) (b : Bool) (hk : Ev (fun k => impl_StepsValid.l0 k xs xs (xs.length : Int) (wrap64 ((i : Int) + 1))) b) :
    ∀ (s p : List Int) (q : Option Int), x.f3 = p ++ s → LastI p q → Ev (fun k => impl_StepsValid.l1 k xs (i : Int) xs (xs.length : Int) (i : Int) x.f3 (x.f3.length : Int) (p.length : Int) x.f0 x.f1 x.f2 x.f3) (decide (AOk i q s) && b) := by
  intro s
  induction s with
  | nil => intro p q hx hq; refine ev_succ ?_; simp only [impl_StepsValid.l1]; exact ev_neg (by rw [hx]; simp) (ev_eq hk (by rw [decide_eq_true (show AOk (i : Int) q [] from trivial), Bool.true_and]))
  | cons a s ih =>
    intro p q hx hq; refine ev_succ ?_
    simp only [impl_StepsValid.l1, rds hx, wlen hx hb, inw, Option.bind_some]
    have hii : wrap64 ((i : Int) - 1) = (i : Int) - 1 := w64 (by omega) (by omega)
    rw [hii]
    refine ev_pos (len_at hx) (ev_pos (by omega) (ev_pos (len_at hx) ?_))
    have h := ih (p ++ [a]) (some a) (snoc_at hx) (lastI_snoc p a)
    refine ev_ite (fun h1 => ?_) (fun h1 => ev_const ?_)
    · have h1' := of_decide_eq_true h1
      rcases hq with ⟨rfl, rfl⟩ | ⟨p', y, rfl, rfl⟩
      · refine ev_neg (by simp) (ev_eq h ?_)
        congr 1; refine dece ?_; simp only [AOk, over]; exact ⟨fun h => ⟨h1', trivial, h⟩, fun h => h.2.2⟩
      · have e1 : wrap64 (((p' ++ [y]).length : Int) - 1) = (p'.length : Int) := by
          rw [w64 (by omega) (by rw [hx] at hb; simp at hb ⊢; omega)]; simp
        have hx2 : x.f3 = p' ++ y :: (a :: s) := by rw [hx]; simp
        rw [e1, rds hx2]
        refine ev_pos (by simp <;> omega) (ev_pos (by omega) (ev_pos (len_at hx2) (ev_ite (fun h3 => ev_const ?_) (fun h3 => ev_eq h ?_))))
        · symm; rw [Bool.and_eq_false_iff]; left; refine decide_eq_false (fun h => ?_)
          have := h.2.1; simp only [over] at this; omega
        · congr 1; refine dece ?_; simp only [AOk, over]; exact ⟨fun h => ⟨h1', by omega, h⟩, fun h => h.2.2⟩
    · symm; rw [Bool.and_eq_false_iff]; left; exact decide_eq_false (fun h => h1 (decide_eq_true h.1))
theorem impl_sv_loop (xs : List S63) (hb : Short xs) : ∀ (s p : List S63), xs = p ++ s →
    Ev (fun k => impl_StepsValid.l0 k xs xs (xs.length : Int) (p.length : Int)) (decide (SOk p.length s ∧ (xs.length : Int) ≤ 8)) := by
  intro s
  induction s with
  | nil => intro p hx; refine ev_succ ?_; simp only [impl_StepsValid.l0]; exact ev_neg (by subst hx; simp) (ev_const (dece (by simp [SOk])))
  | cons x s ih =>
    intro p hx; refine ev_succ ?_
    have hp : p.length ≤ 1099511627776 := by have := hb.1; subst hx; simp at this; omega
    have hi := ih (p ++ [x]) (snoc_at hx)
    rw [← wlen hx hb.1, List.length_append, List.length_singleton] at hi
    have hin := impl_sv_inner xs x p.length hp (hb.2 x (by subst hx; simp)) _ hi x.f3 [] none rfl (.inl ⟨rfl, rfl⟩)
    have hj0 : ∀ t, t = true → ∀ r, r = false → Ev (fun k => impl_StepsValid.j1 k xs (p.length : Int) xs (xs.length : Int) (p.length : Int) t x.f0 x.f1 x.f2 x.f3) r := by
      intro t ht r hr; subst hr; refine ev_succ ?_; simp only [impl_StepsValid.j1]; exact ev_pos ht (Ev.now _)
    have hj1 : ∀ t, t = false → Ev (fun k => impl_StepsValid.j1 k xs (p.length : Int) xs (xs.length : Int) (p.length : Int) t x.f0 x.f1 x.f2 x.f3) (decide (AOk p.length none x.f3) && decide (SOk (p.length + 1) s ∧ (xs.length : Int) ≤ 8)) := by
      intro t ht; refine ev_succ ?_; simp only [impl_StepsValid.j1]; exact ev_neg (by simp [ht]) hin
    have no : ¬ S1 x → false = decide (SOk p.length (x :: s) ∧ (xs.length : Int) ≤ 8) := fun h => (decide_eq_false (fun z => h z.1.1)).symm
    simp only [impl_StepsValid.l0, rd63s hx, inw, Option.bind_some]
    refine ev_pos (len_at hx) (ev_pos (by omega) (ev_pos (len_at hx) (ev_ite (fun h1 => ev_ite (fun h2 => ?_) (fun h2 => ?_)) (fun h1 => ?_))))
    · by_cases h3 : 0 ≤ x.f2 ∧ x.f2 ≤ 4
      · refine ev_eq (hj1 _ (by simp [h3])) ?_
        rw [Bool.eq_iff_iff]; simp only [Bool.and_eq_true, decide_eq_true_eq] at h1 h2 ⊢
        simp only [SOk, S1]; exact ⟨fun h => ⟨⟨⟨h1, h2, h3⟩, h.1, h.2.1⟩, h.2.2⟩, fun h => ⟨h.1.2.1, h.1.2.2, h.2⟩⟩
      · exact hj0 _ (by rw [decide_eq_false h3]; rfl) _ (no (fun z => h3 z.2.2)).symm
    · exact hj0 _ rfl _ (no (fun z => h2 (decide_eq_true z.2.1))).symm
    · exact hj0 _ rfl _ (no (fun z => h1 (decide_eq_true z.1))).symm
theorem impl_sv (xs : List S63) (hb : Short xs) : Ev (fun k => impl_StepsValid.f k xs) (decide (SV xs)) := impl_sv_loop xs hb xs [] rfl
def StOk (l : List S63) (xs : List Int) : Prop := (∀ x ∈ xs, 0 ≤ x ∧ x ≤ 999) ∧ SV l ∧ xs.length = l.length
instance (l : List S63) (xs : List Int) : Decidable (StOk l xs) := by unfold StOk; infer_instance
theorem any_not (a b : Int) (xs : List Int) : (xs.any fun x => !decide (a ≤ x ∧ x ≤ b)) = !decide (∀ x ∈ xs, a ≤ x ∧ x ≤ b) := by
  rw [Bool.eq_iff_iff]
  simp only [List.any_eq_true, Bool.not_eq_true', decide_eq_false_iff_not]
  constructor
  · rintro ⟨x, h1, h2⟩ h; exact h2 (h x h1)
  · intro h
    exact Classical.byContradiction (fun hn => h (fun x hx => Classical.byContradiction (fun h2 => hn ⟨x, hx, h2⟩)))
theorem impl_st (l : List S63) (hs : Short l) (xs : List Int) : Ev (fun k => impl_startsValid.f k l xs) (decide (StOk l xs)) := by
  unfold impl_startsValid.f
  refine Ev.bind (impl_sv l hs) (ev_const ?_)
  rw [any_not, Bool.not_not, Bool.eq_iff_iff]
  simp only [Bool.and_eq_true, decide_eq_true_eq]
  exact ⟨fun h => ⟨h.2.2, h.1, h.2.1⟩, fun h => ⟨h.2.1, h.2.2, h.1⟩⟩
theorem spec_st_loop (l : List S63) (hs : Short l) (xs : List Int) (hb : xs.length ≤ 1099511627776) : ∀ (s p : List Int), xs = p ++ s →
    Ev (fun k => spec_l32Starts.l0 k l xs (p.length : Int)) (decide ((∀ x ∈ s, 0 ≤ x ∧ x ≤ 999) ∧ SV l ∧ xs.length = l.length)) := by
  intro s
  induction s with
  | nil =>
    intro p hx; refine ev_succ ?_; simp only [spec_l32Starts.l0]
    refine ev_neg (by subst hx; simp) (Ev.bind (spec_sv l hs) (ev_ite (fun h1 => ev_const ?_) (fun h1 => ev_const ?_)))
    · rw [Bool.eq_iff_iff]; simp only [decide_eq_true_eq, beq_iff_eq] at h1 ⊢; simp [h1]; omega
    · symm; exact decide_eq_false (fun z => h1 (decide_eq_true z.2.1))
  | cons x s ih =>
    intro p hx; refine ev_succ ?_
    simp only [spec_l32Starts.l0, rds hx, wlen hx hb, inn, Option.bind_some]
    refine ev_pos (len_at hx) (ev_pos (by omega) (ev_ite (fun h1 => ev_eq (ih (p ++ [x]) (snoc_at hx)) (dece ?_)) (fun h1 => ev_const ?_)))
    · have h1' := of_decide_eq_true h1; simp [h1']
    · symm; exact decide_eq_false (fun z => h1 (decide_eq_true (z.1 x (by simp))))
theorem spec_st (l : List S63) (hs : Short l) (xs : List Int) (hb : xs.length ≤ 1099511627776) : Ev (fun k => spec_l32Starts.f k l xs) (decide (StOk l xs)) := spec_st_loop l hs xs hb xs [] rfl
def hits (s : S63) (x o0 o1 o2 : Int) : Prop := s.f2 = o0 ∧ x < o2 ∧ o1 < x + s.f0
instance (s : S63) (x o0 o1 o2 : Int) : Decidable (hits s x o0 o1 o2) := by unfold hits; infer_instance
theorem hit_ev (s : S63) (hs : S1 s) (x o0 o1 o2 : Int) (hx : -1099511627776 ≤ x ∧ x ≤ 1099511627776) : spec_l33Hit.f s.f0 s.f1 s.f2 s.f3 x o0 o1 o2 = some (decide (hits s x o0 o1 o2)) := by
  unfold spec_l33Hit.f hits
  have := hs.1
  rw [w64 (x := x + s.f0) (by omega) (by omega)]
  by_cases h1 : s.f2 = o0
  · rw [if_pos h1]
    by_cases h2 : x < o2
    · rw [if_pos h2]; simp [h1, h2]
    · rw [if_neg h2]; simp [h2]
  · rw [if_neg h1]; simp [h1]
def OOk (o0 o1 o2 : Int) : Prop := (1 ≤ o0 ∧ o0 ≤ 4) ∧ (0 ≤ o1 ∧ o1 ≤ 999) ∧ (o1 ≤ o2 ∧ o2 ≤ 999)
instance (o0 o1 o2 : Int) : Decidable (OOk o0 o1 o2) := by unfold OOk; infer_instance
theorem spec_oo (o0 o1 o2 : Int) : spec_l33Outage.f o0 o1 o2 = some (decide (OOk o0 o1 o2)) := by
  unfold spec_l33Outage.f
  simp only [inn, Option.bind_some]
  by_cases h1 : 1 ≤ o0 ∧ o0 ≤ 4
  · rw [if_pos (decide_eq_true h1)]
    by_cases h2 : 0 ≤ o1 ∧ o1 ≤ 999
    · rw [if_pos (decide_eq_true h2)]; simp [OOk, h1, h2]
    · rw [if_neg (by simpa using h2)]; congr 1; symm; exact decide_eq_false (fun h => h2 h.2.1)
  · rw [if_neg (by simpa using h1)]; congr 1; symm; exact decide_eq_false (fun h => h1 h.1)
theorem impl_oo (o0 o1 o2 : Int) : impl_outageValid.f o0 o1 o2 = some (decide (OOk o0 o1 o2)) := by
  unfold impl_outageValid.f impl_isTool.f impl_isStart.f
  simp only [inw, Option.bind_some]
  by_cases h1 : 1 ≤ o0 ∧ o0 ≤ 4
  · rw [if_pos (decide_eq_true h1)]
    by_cases h2 : 0 ≤ o1 ∧ o1 ≤ 999
    · rw [if_pos (decide_eq_true h2)]; simp [OOk, h1, h2]
    · rw [if_neg (by simpa using h2)]; congr 1; symm; exact decide_eq_false (fun h => h2 h.2.1)
  · rw [if_neg (by simpa using h1)]; congr 1; symm; exact decide_eq_false (fun h => h1 h.1)
theorem dist_ev (s : S63) (hs : S1 s) (x o0 o1 o2 : Int) (hx : -1099511627776 ≤ x ∧ x ≤ 1099511627776) : impl_Outage_disturbs.f o0 o1 o2 s.f0 s.f1 s.f2 s.f3 x = some (decide (hits s x o0 o1 o2)) := by
  unfold impl_Outage_disturbs.f hits
  have := hs.1
  rw [w64 (x := x + s.f0) (by omega) (by omega)]
  by_cases h1 : s.f2 = o0
  · rw [if_pos h1]
    by_cases h2 : x < o2
    · rw [if_pos h2]; simp [h1, h2]
    · rw [if_neg h2]; simp [h2]
  · rw [if_neg h1]; simp [h1]
def hitL (o0 o1 o2 : Int) : List S63 → List Int → Int → List Int
  | s :: r, x :: q, i => if hits s x o0 o1 o2 then i :: hitL o0 o1 o2 r q (i + 1) else hitL o0 o1 o2 r q (i + 1)
  | _, _, _ => []
theorem hitL_len (o0 o1 o2 : Int) : ∀ (l : List S63) (xs : List Int) (i : Int), (hitL o0 o1 o2 l xs i).length ≤ l.length
  | s :: r, x :: q, i => by
    have := hitL_len o0 o1 o2 r q (i + 1)
    rw [hitL]; split <;> simp <;> omega
  | [], xs, i => by rw [hitL]; simp; simp
  | s :: r, [], i => by rw [hitL]; simp; simp
def hitsF (l : List S63) (xs : List Int) (o0 o1 o2 : Int) : List Int := if StOk l xs ∧ OOk o0 o1 o2 then hitL o0 o1 o2 l xs 0 else []
theorem ihits_loop (l : List S63) (xs : List Int) (hS : StOk l xs) (o0 o1 o2 : Int) : ∀ (r q : List S63) (s p : List Int) (out : List Int), l = q ++ r → xs = p ++ s → p.length = q.length → out.length ≤ p.length →
    Ev (fun k => impl_OutageHits.l0 k xs out l (l.length : Int) (p.length : Int) o0 o1 o2) (out ++ hitL o0 o1 o2 r s (p.length : Int)) := by
  have hl8 : l.length ≤ 8 := by have := hS.2.1.2; omega
  have hxl := hS.2.2
  intro r
  induction r with
  | nil => intro q s p out h1 h2 h3 h4; refine ev_succ ?_; simp only [impl_OutageHits.l0]; exact ev_neg (by subst h1; simp; omega) (ev_const (by rw [hitL]; simp; simp))
  | cons y r ih =>
    intro q s p out h1 h2 h3 h4
    cases s with
    | nil => exfalso; subst h1; subst h2; simp at hxl; omega
    | cons x s =>
      have ey : rd_T63 l (p.length : Int) = y := by rw [h3]; exact rd63s h1
      have hy := hS.2.1.1.s1 y (by subst h1; simp)
      have hx := hS.1 x (by subst h2; simp)
      have hyl : (p.length : Int) < (l.length : Int) := by rw [h3]; exact len_at h1
      refine ev_succ ?_
      simp only [impl_OutageHits.l0, rds h2, ey, dist_ev y hy x o0 o1 o2 (by omega), Option.bind_some, wlen h2 (show xs.length ≤ 1099511627776 by omega)]
      have e1 : ((p ++ [x]).length : Int) = (p.length : Int) + 1 := by simp
      have h := fun o => ih (q ++ [y]) s (p ++ [x]) o (snoc_at h1) (snoc_at h2) (by simp [h3])
      rw [hitL]
      refine ev_pos hyl (ev_pos (by omega) (ev_pos hyl (ev_pos (len_at h2) (ev_ite (fun h5 => ?_) (fun h5 => ?_)))))
      · rw [if_pos (of_decide_eq_true h5)]
        exact ev_pos (by omega) (ev_eq (h (out ++ [(p.length : Int)]) (by simp; omega)) (by rw [e1]; simp))
      · rw [if_neg (fun z => h5 (decide_eq_true z))]
        exact ev_eq (h out (by simp; omega)) (by rw [e1])
theorem impl_hits (l : List S63) (hs : Short l) (xs : List Int) (o0 o1 o2 : Int) : Ev (fun k => impl_OutageHits.f k l xs o0 o1 o2) (hitsF l xs o0 o1 o2) := by
  have no : ∀ t, t = true → Ev (fun k => impl_OutageHits.j0 k l xs [] t o0 o1 o2) [] := by
    intro t ht; refine ev_succ ?_; simp only [impl_OutageHits.j0]; exact ev_pos ht (Ev.now _)
  unfold impl_OutageHits.f hitsF
  simp only [Option.bind_some, impl_oo]
  refine Ev.bind (impl_st l hs xs) (ev_ite (fun h1 => ?_) (fun h1 => ?_))
  · have h1' := of_decide_eq_true h1
    by_cases h2 : OOk o0 o1 o2
    · rw [if_pos ⟨h1', h2⟩]
      refine ev_succ ?_; simp only [impl_OutageHits.j0]
      exact ev_neg (by simp [h2]) (ihits_loop l xs h1' o0 o1 o2 l [] xs [] [] rfl rfl rfl (by simp))
    · rw [if_neg (fun z => h2 z.2)]; exact no _ (by simp [h2])
  · rw [if_neg (fun z => h1 (decide_eq_true z.1))]; exact no _ rfl
theorem shits_loop (l : List S63) (hs : Short l) (xs : List Int) (hS : StOk l xs) (o0 o1 o2 : Int) (hO : OOk o0 o1 o2) : ∀ (r q : List S63) (s p : List Int) (out : List Int), l = q ++ r → xs = p ++ s → p.length = q.length → out.length ≤ p.length →
    Ev (fun k => spec_OutageHits.l0 k l xs out (p.length : Int) o0 o1 o2) (out ++ hitL o0 o1 o2 r s (p.length : Int)) := by
  have hl8 : l.length ≤ 8 := by have := hS.2.1.2; omega
  have hxl := hS.2.2
  intro r
  induction r with
  | nil =>
    intro q s p out h1 h2 h3 h4; refine ev_succ ?_; simp only [spec_OutageHits.l0]
    refine ev_neg (by subst h1; simp; omega) (ev_succ ?_)
    simp only [spec_OutageHits.j1]; exact ev_neg (by simp) (ev_const (by rw [hitL]; simp; simp))
  | cons y r ih =>
    intro q s p out h1 h2 h3 h4
    cases s with
    | nil => exfalso; subst h1; subst h2; simp at hxl; omega
    | cons x s =>
      have ey : rd_T63 l (p.length : Int) = y := by rw [h3]; exact rd63s h1
      have hy := hS.2.1.1.s1 y (by subst h1; simp)
      have hx := hS.1 x (by subst h2; simp)
      have hyl : (p.length : Int) < (l.length : Int) := by rw [h3]; exact len_at h1
      refine ev_succ ?_
      simp only [spec_OutageHits.l0, spec_oo, Option.bind_some]
      refine ev_pos hyl (Ev.bind (spec_st l hs xs (by omega)) (ev_pos (decide_eq_true hS) (ev_succ ?_)))
      simp only [spec_OutageHits.j1, rds h2, ey, hit_ev y hy x o0 o1 o2 (by omega), Option.bind_some, wlen h2 (show xs.length ≤ 1099511627776 by omega)]
      have e1 : ((p ++ [x]).length : Int) = (p.length : Int) + 1 := by simp
      have h := fun o => ih (q ++ [y]) s (p ++ [x]) o (snoc_at h1) (snoc_at h2) (by simp [h3])
      rw [hitL]
      refine ev_pos (decide_eq_true hO) (ev_pos (by omega) (ev_pos hyl (ev_pos (len_at h2) (ev_ite (fun h5 => ?_) (fun h5 => ?_)))))
      · rw [if_pos (of_decide_eq_true h5)]
        exact ev_pos (by omega) (ev_eq (h (out ++ [(p.length : Int)]) (by simp; omega)) (by rw [e1]; simp))
      · rw [if_neg (fun z => h5 (decide_eq_true z))]
        exact ev_eq (h out (by simp; omega)) (by rw [e1])
theorem spec_hits (l : List S63) (hs : Short l) (xs : List Int) (hb : xs.length ≤ 1099511627776) (o0 o1 o2 : Int) : Ev (fun k => spec_OutageHits.f k l xs o0 o1 o2) (hitsF l xs o0 o1 o2) := by
  have no : ∀ t, t = false → Ev (fun k => spec_OutageHits.j1 k l xs [] 0 t o0 o1 o2) [] := by
    intro t ht; refine ev_succ ?_; simp only [spec_OutageHits.j1]; exact ev_neg (by simp [ht]) (Ev.now _)
  unfold spec_OutageHits.f hitsF
  by_cases h : StOk l xs ∧ OOk o0 o1 o2
  · rw [if_pos h]; exact shits_loop l hs xs h.1 o0 o1 o2 h.2 l [] xs [] [] rfl rfl rfl (by simp)
  · rw [if_neg h]
    refine ev_succ ?_; simp only [spec_OutageHits.l0, spec_oo, Option.bind_some]
    refine ev_ite (fun _ => Ev.bind (spec_st l hs xs hb) (ev_ite (fun h1 => no _ ?_) (fun h1 => no _ rfl))) (fun _ => no _ rfl)
    exact decide_eq_false (fun z => h ⟨of_decide_eq_true h1, z⟩)
end Go.Proofs.Ytfnpiacmlahegaa.BRp
/- OutageHits returns what the reference's returns, for all arguments. No condition beyond the statement's own. -/
namespace Go.Proofs.Ytfnpiacmlahegaa.Pure
open Go.RowKit Go.Proofs.Ytfnpiacmlahegaa.PRp Go.Proofs.Ytfnpiacmlahegaa.BRp Go.Proofs.YtfnpiacmlahegaaW.PrintWords Go.Proofs.YtfnpiacmlahegaaW.PrintLast Go.Proofs.YtfnpiacmlahegaaW.PrintMore
set_option linter.unusedVariables false
set_option linter.unusedSimpArgs false
theorem FnExactOutageHits : laws_FnExactOutageHits.Pure := by
  intro l m o0 o1 o2 hm hi hm2 _
  have hm' : l.length ≤ 9223372036854775807 := by unfold maxLen at hm; exact hm
  have hi' : ∀ x ∈ l, x.f3.length ≤ 9223372036854775807 := by unfold maxLen at hi; exact hi
  refine Ev.rounds ?_
  unfold laws_FnExactOutageHits.f
  refine ev_ite (fun _ => Ev.now _) (fun h1 => ?_)
  obtain ⟨r, hr, hc⟩ := sz_ev l 1048576 (by omega) hm' hi'
  refine Ev.bind hr ?_
  rcases hc with hc | ⟨h0, h00, hf⟩
  · exact ev_pos hc (Ev.now _)
  refine ev_neg (by omega) ?_
  have hs := fit_small hf
  have t1 := to_ev l hf
  have t3 := toInt_ev m (by omega)
  obtain ⟨m0, m1⟩ := mark_fit l hf
  have hS := spec_hits (l.map conv) hs m (by omega) o0 o1 o2
  have hI := impl_hits (l.map conv) hs m o0 o1 o2
  have ho : (hitsF (l.map conv) m o0 o1 o2).length ≤ 1048576 := by
    have h2 := hf.1
    have h3 := hitL_len o0 o1 o2 (l.map conv) m 0
    simp only [List.length_map] at h3
    unfold hitsF
    split
    · omega
    · simp
  generalize hitsF (l.map conv) m o0 o1 o2 = o at hS hI ho
  have eo := eqInt_ev o (by omega)
  have em := eqInt_ev m (by omega)
  have km := mark_more m (markStepF (l.map conv) 1) m0 (by omega) (by omega)
  have mo := mark_ev o 1 (by omega) (by omega) (by omega)
  have hh := held_ev o.length 1 (by omega) (by omega) (by omega)
  have hO : laws_toOutage.f o0 o1 o2 = some (o0, o1, o2) := rfl
  simp only [hO, Option.bind_some]
  refine Ev.bind t1 (Ev.bind t3 (Ev.bind hS (Ev.bind t1 (Ev.bind t3 (Ev.bind hI (Ev.bind eo (ev_pos rfl (Ev.bind t1 (Ev.bind (eq_ev _ hs) (ev_pos rfl (Ev.bind t3 (Ev.bind em (ev_pos rfl (Ev.bind km (ev_neg (by dsimp only; omega) (Ev.bind eo (ev_succ ?_)))))))))))))))))
  simp only [laws_FnExactOutageHits.j0, hO, Option.bind_some]
  exact ev_neg (by simp) (Ev.bind mo (Ev.bind hh (ev_neg (by omega) (ev_pos rfl (Ev.bind t1 (Ev.bind t3 (Ev.bind hI (Ev.bind eo (ev_pos rfl (Ev.bind hh (ev_neg (by omega) (ev_pos rfl (Ev.now _)))))))))))))
end Go.Proofs.Ytfnpiacmlahegaa.Pure
namespace Go.Proofs.Ytfnpiacmlahegaa.Op
open Go.RowKit Go.Proofs.YtfnpiacmlahegaaW.PrintWords Go.ChangeShapes Go.WideShapes Go.Deep
set_option linter.unusedVariables false
def Opens {α : Type} (P : Program) (d : Kd α) (e : TypeId) : Prop :=
  ∀ (H : Type) (enc : TypeId × Value → H) (w : World) (base : Nat) (spare : Nat → Bool) (held : Bool) (fuel : Nat) (cs : List Value) (x : DataW H × List MemPlace),
    DataW.trod enc P w base spare held fuel e cs = some x → ∃ a : α, d.K w a cs
theorem opens_int {P : Program} {k : IntKind} {e : TypeId} (ht : P.underlying e = some (.int k)) : Opens P (Kd.int k) e := by
  intro H enc w base spare held fuel cs x h
  obtain ⟨n, rfl, _, _⟩ := DataW.trod_int ht h
  exact ⟨n, rfl⟩
theorem list_of {α : Type} {Q : Nat → α → Prop} : ∀ n : Nat, (∀ i, i < n → ∃ y, Q i y) → ∃ xs : List α, xs.length = n ∧ ∀ i p, xs[i]? = some p → Q i p
  | 0, _ => ⟨[], rfl, fun i p h => by simp at h⟩
  | n + 1, h => by
    obtain ⟨xs, hl, hx⟩ := list_of n (fun i hi => h i (by omega))
    obtain ⟨y, hy⟩ := h n (by omega)
    refine ⟨xs ++ [y], by simp [hl], fun i p hp => ?_⟩
    by_cases hi : i < n
    · rw [List.getElem?_append_left (by omega)] at hp; exact hx i p hp
    · rw [List.getElem?_append_right (by omega)] at hp
      by_cases e : i = n
      · subst e; rw [hl, Nat.sub_self] at hp; simp at hp; subst hp; exact hy
      · have : i - xs.length = (i - xs.length - 1) + 1 := by omega
        rw [this] at hp; simp at hp
theorem opens_row {α : Type} {P : Program} {d : Kd α} {t e : TypeId} (ht : P.underlying t = some (.slice e)) (hC : P.cellsOf e = d.sz) (hd : Opens P d e)
    {H : Type} {enc : TypeId × Value → H} {w : World} {base : Nat} {spare : Nat → Bool} {held : Bool} {fuel : Nat} {cs : List Value} {x : DataW H × List MemPlace}
    (h : DataW.trod enc P w base spare held fuel t cs = some x) : ∃ (A : Option Addr) (xs : List α) (c : Nat), cs = [.slice A xs.length c] ∧ xs.length ≤ c ∧ xs.length ≤ maxLen ∧ d.C w A xs.length xs := by
  rcases open_slice ht h with ⟨rfl, _⟩ | ⟨a, len, cap, m, n, D, Pl, rfl, _, hl, hm, hmm, _, hi⟩
  · exact ⟨none, [], 0, rfl, Nat.le_refl _, Nat.zero_le _, rfl, by simp, fun h => absurd h (Nat.lt_irrefl 0)⟩
  · have hlm : len ≤ m := by rw [hmm]; split <;> omega
    obtain ⟨xs, hlen, hx⟩ := list_of (Q := fun i (y : α) => ∃ cs', w.cells? base (a.add (i * P.cellsOf e)) (P.cellsOf e) = some cs' ∧ d.K w y cs') len (fun i hlt => by
      obtain ⟨cs', hc, ht'⟩ := hi i (by omega)
      obtain ⟨y, hy⟩ := hd _ _ _ _ _ _ _ _ _ ht'
      exact ⟨y, cs', hc, hy⟩)
    subst hlen
    have hmx : xs.length ≤ maxLen := by omega
    refine ⟨some a, xs, cap, rfl, hl, hmx, rfl, by unfold maxLen at hmx; exact hmx, fun _ => ⟨a, rfl, fun j p hj => ?_⟩⟩
    obtain ⟨cs', hc, hK⟩ := hx j p hj
    obtain ⟨_, hcl, hat⟩ := World.cells?_some hc
    have hs := d.K_len hK
    refine ⟨cs', hs, hK, fun i u hu => ?_⟩
    have hil : i < P.cellsOf e := by
      rw [hC, ← hs]; exact (List.getElem?_eq_some_iff.1 hu).1
    have := hat i hil
    rw [← hu, ← this, Go.Deep.add_add, hC]
theorem C_all {α : Type} {d : Kd α} {w : World} {A : Option Addr} {n : Nat} {xs : List α} {Q : α → Prop} (h : d.C w A n xs) (hQ : ∀ x cs, d.K w x cs → Q x) : ∀ x ∈ xs, Q x := by
  intro x hx
  obtain ⟨j, hj, he⟩ := List.getElem_of_mem hx
  obtain ⟨ad, _, hc⟩ := h.2.2 (by have := h.1; omega)
  obtain ⟨c, _, hK, _⟩ := hc j x (by rw [List.getElem?_eq_getElem hj, he])
  exact hQ x c hK
theorem opens_slice {α : Type} {P : Program} {d : Kd α} {t e : TypeId} (ht : P.underlying t = some (.slice e)) (hC : P.cellsOf e = d.sz) (hd : Opens P d e) : Opens P (Kd.slice e d) t := by
  intro H enc w base spare held fuel cs x h
  obtain ⟨A, xs, c, rfl, hc, _, hr⟩ := opens_row ht hC hd h
  exact ⟨xs, A, c, rfl, hc, hr⟩
theorem opens_ints {P : Program} {k : IntKind} {t e : TypeId} (ht : P.underlying t = some (.slice e)) (he : P.underlying e = some (.int k)) (hC : P.cellsOf e = 1)
    {H : Type} {enc : TypeId × Value → H} {w : World} {base : Nat} {held : Bool} {fuel : Nat} {a : Option Addr} {len cap : Nat} {x : DataW H × List MemPlace}
    (h : DataW.trod enc P w base (fun _ => true) held fuel t (Value.slice a len cap).cells.toList = some x) :
    ∃ l : List Int, len = l.length ∧ Kd.C (Kd.int k) w a l.length l ∧ l.length ≤ cap ∧ l.length ≤ maxLen ∧ ∀ y ∈ l, (Lit.int k y).wf = true := by
  have hrow : (a = none ∧ len = 0 ∧ cap = 0 ∧ ([] : List Int) = []) ∨ ∃ (zs : List Int) (x : Addr), a = some x ∧ len ≤ cap ∧ cap ≤ maxLen ∧ zs.length = cap ∧ (∀ i, i < zs.length → w.cell? (x.add i) = some (.int k (zs.getD i 0))) ∧ ∀ n ∈ zs, (Lit.int k n).wf = true := by
    rcases open_ints ht he hC h with ⟨hcs, _⟩ | ⟨x, l, c, zs, hcs, _, hl, hm, hz, _, hcell, hwz⟩
    · simp [Value.cells] at hcs
      obtain ⟨rfl, rfl, rfl⟩ := hcs
      exact .inl ⟨rfl, rfl, rfl, rfl⟩
    · simp [Value.cells] at hcs
      obtain ⟨rfl, rfl, rfl⟩ := hcs
      exact .inr ⟨zs, _, rfl, hl, hm, by simpa using hz, hcell, hwz⟩
  rcases hrow with ⟨rfl, rfl, rfl, _⟩ | ⟨zs, y, h1⟩
  · exact ⟨[], rfl, Kd.C_nil _ _, Nat.le_refl _, Nat.zero_le _, fun _ h => by cases h⟩
  · obtain ⟨l, rfl, hr, hm, hw, hc⟩ := ReadsInt.ofRowC (.inr ⟨y, h1⟩)
    exact ⟨l, rfl, Kd.C_of_reads (d := (0 : Int)) (h1 := fun _ => rfl) hr, hc, hm, hw⟩
def OpensL {α : Type} (P : Program) (d : Kd α) (ts : List TypeId) : Prop :=
  ∀ (H : Type) (enc : TypeId × Value → H) (w : World) (base : Nat) (spare : Nat → Bool) (held : Bool) (fuel : Nat) (cs : List Value), cs.length = ts.length →
    (∀ i t, ts[i]? = some t → ∃ y, DataW.trod enc P w base spare held fuel t ((cs.drop i).take 1) = some y) → ∃ a : α, d.K w a cs
theorem opensL_one {α : Type} {P : Program} {d : Kd α} {t : TypeId} (h : Opens P d t) : OpensL P d [t] := by
  intro H enc w base spare held fuel cs hl hf
  obtain ⟨y, hy⟩ := hf 0 t rfl
  match cs, hl with
  | [c], _ => exact h _ _ _ _ _ _ _ _ _ hy
theorem opensL_cons {α β : Type} {P : Program} {d : Kd α} {d' : Kd β} {t : TypeId} {ts : List TypeId} (h : Opens P d t) (hl : OpensL P d' ts) : OpensL P (Kd.pair d d') (t :: ts) := by
  intro H enc w base spare held fuel cs hlen hf
  match cs, hlen with
  | c :: cs, hlen =>
    obtain ⟨y, hy⟩ := hf 0 t rfl
    obtain ⟨a, ha⟩ := h _ _ _ _ _ _ _ _ _ hy
    obtain ⟨b, hb⟩ := hl H enc w base spare held fuel cs (by simpa using hlen) (fun i t' ht' => hf (i + 1) t' (by simpa using ht'))
    exact ⟨(a, b), [c], cs, rfl, by simpa using ha, hb⟩
theorem opens_struct {α β : Type} {P : Program} {d : Kd α} {f : β → α} {g : α → β} {t : TypeId} {fs : Array Field} {ts : List TypeId} (hfg : ∀ a, f (g a) = a) (ht : P.underlying t = some (.struct fs)) (hone : oneCellFields P fs = true) (hC : P.cellsOf t = ts.length)
    (hts : fs.toList.map (·.type) = ts) (hl : OpensL P d ts) : Opens P (Kd.iso d f) t := by
  intro H enc w base spare held fuel cs x h
  obtain ⟨ys, n, _, _, hlen, hyl, hf⟩ := DataW.trod_struct ht h
  have key : ∃ a : α, d.K w a cs := by
    refine hl H enc w base spare held n cs (by rw [hlen, hC]) (fun i t' ht' => ?_)
    have hlt : i < ts.length := (List.getElem?_eq_some_iff.1 ht').1
    have hfl : fs.size = ts.length := by rw [← hts]; simp
    have hfi : fs[i]? = some (fs[i]'(by omega)) := Array.getElem?_eq_getElem (by omega)
    obtain ⟨ho, hk⟩ := hone_of hone i _ hfi
    have he : (fs[i]'(by omega)).type = t' := by
      have : (fs.toList.map (·.type))[i]? = some t' := by rw [hts]; exact ht'
      rw [List.getElem?_map, Array.getElem?_toList, hfi] at this
      simpa using this
    have h1 := hf i _ hfi
    rw [ho, hk, he] at h1
    have hyi : ys[i]? = some (ys[i]'(by omega)) := List.getElem?_eq_getElem (by omega)
    exact ⟨_, h1.trans hyi⟩
  obtain ⟨a, ha⟩ := key
  exact ⟨g a, by show d.K w (f (g a)) cs; rw [hfg]; exact ha⟩
end Go.Proofs.Ytfnpiacmlahegaa.Op

