import Derived.Test.YtfnpiacmlahegaaVSWMore
import Derived.Test.YtfnpiacmlahegaaVSWNEv
import Derived.Laws.BitsLemmas
import Derived.Test.YtfnpiacmlahegaaVSPRpx1
import Derived.Test.YtfnpiacmlahegaaVSPRpx3
import Derived.Test.YtfnpiacmlahegaaVSPRpx5
import Derived.Test.YtfnpiacmlahegaaVSPRpx6
import Derived.Test.YtfnpiacmlahegaaVSPRpx8
import Derived.Test.YtfnpiacmlahegaaVSPRpx10
import Derived.Test.YtfnpiacmlahegaaVSPRpx14
import Derived.Test.YtfnpiacmlahegaaVSPRpx21
import Derived.Test.YtfnpiacmlahegaaVSPRpx7
import Derived.Test.YtfnpiacmlahegaaVSPRpx11
import Derived.Test.YtfnpiacmlahegaaVSPRpx12
import Derived.Test.YtfnpiacmlahegaaVSPRpx2
import Derived.Test.YtfnpiacmlahegaaVSPRpx24
import Derived.Test.YtfnpiacmlahegaaVSPRpx25
import Derived.Test.YtfnpiacmlahegaaVSPRpx17
import Derived.Test.YtfnpiacmlahegaaVSPRpx18
import Derived.Test.YtfnpiacmlahegaaVSPRpx13
import Derived.Test.YtfnpiacmlahegaaVSPRpx4
import Derived.Test.YtfnpiacmlahegaaVSPRpx15
import Derived.Test.YtfnpiacmlahegaaVSPRpx23
import Derived.Test.YtfnpiacmlahegaaVSPRpx16
import Derived.Test.YtfnpiacmlahegaaVSPRpx19
import Derived.Test.YtfnpiacmlahegaaVSPRpx20
import Derived.Test.YtfnpiacmlahegaaVSPRpx26
import Derived.Test.YtfnpiacmlahegaaVSWWords
import Derived.Deep.Slices
import Derived.Deep.Fields
import Derived.ChangeSame
import Derived.ChangeArms
import Derived.Below
import Derived.ChangeSlices
namespace Go.Proofs.Ytfnpiacmlahegaa.BRp
open Go.RowKit Go.Proofs.YtfnpiacmlahegaaW.PrintWords Go.Proofs.YtfnpiacmlahegaaW.PrintLast Go.Proofs.YtfnpiacmlahegaaW.PrintMore
set_option linter.unusedVariables false
set_option linter.unusedSimpArgs false
theorem ev_succ {α : Type} {g : Nat → Option α} {r : α} (h : Ev (fun k => g (k + 1)) r) : Ev g r := Ev.step (fun _ => rfl) h
theorem ev_const {α : Type} {r s : α} (h : r = s) : Ev (fun _ => some r) s := by subst h; exact Ev.now r
theorem ev_pos {α : Type} {c : Prop} [Decidable c] {a b : Nat → Option α} {r : α} (hc : c) (h : Ev a r) : Ev (fun k => if c then a k else b k) r :=
  Ev.congr (fun k => if_pos hc) h
theorem ev_neg {α : Type} {c : Prop} [Decidable c] {a b : Nat → Option α} {r : α} (hc : ¬ c) (h : Ev b r) : Ev (fun k => if c then a k else b k) r :=
  Ev.congr (fun k => if_neg hc) h
theorem ev_ite {α : Type} {c : Prop} [Decidable c] {a b : Nat → Option α} {r : α} (h1 : c → Ev a r) (h2 : ¬ c → Ev b r) : Ev (fun k => if c then a k else b k) r := by
  by_cases hc : c
  · exact ev_pos hc (h1 hc)
  · exact ev_neg hc (h2 hc)
theorem ev_eq {α : Type} {g : Nat → Option α} {r s : α} (h : Ev g r) (e : r = s) : Ev g s := e ▸ h
theorem w64 {x : Int} (h0 : -9223372036854775808 ≤ x) (h1 : x ≤ 9223372036854775807) : wrap64 x = x := by unfold wrap64; omega
theorem getD_at {α : Type} (p : List α) (x : α) (q : List α) (d : α) : (p ++ x :: q).getD p.length d = x := by simp [List.getD]
theorem rd_at (p : List Int) (x : Int) (q : List Int) : rd (p ++ x :: q) (p.length : Int) = x := getD_at p x q 0
theorem rd_lt (l : List Int) (i : Int) (h0 : 0 ≤ i) (h1 : i < l.length) : rd l i ∈ l := by
  unfold rd; rw [List.getD_eq_getElem?_getD, List.getElem?_eq_getElem (by omega)]; exact List.getElem_mem _
theorem rds {xs p : List Int} {x : Int} {q : List Int} (h : xs = p ++ x :: q) : rd xs (p.length : Int) = x := by subst h; exact rd_at p x q
theorem len_at {α : Type} {xs p : List α} {x : α} {q : List α} (h : xs = p ++ x :: q) : (p.length : Int) < (xs.length : Int) := by subst h; simp; omega
theorem snoc_at {α : Type} {xs p : List α} {x : α} {q : List α} (h : xs = p ++ x :: q) : xs = (p ++ [x]) ++ q := by subst h; simp
theorem wlen {α : Type} {xs p : List α} {x : α} {q : List α} (h : xs = p ++ x :: q) (hb : xs.length ≤ 1099511627776) : wrap64 ((p.length : Int) + 1) = ((p ++ [x]).length : Int) := by
  subst h; rw [w64 (by omega) (by simp at hb; omega)]; simp
theorem set_at {α : Type} (p : List α) (a b : α) (q : List α) : (p ++ a :: q).set p.length b = p ++ b :: q := by simp
theorem mx_max (a b : Int) : mx a b = max a b := by unfold mx; split <;> omega
end Go.Proofs.Ytfnpiacmlahegaa.BRp
namespace Go.Proofs.Ytfnpiacmlahegaa.BRp
open Go.RowKit Go.Proofs.Ytfnpiacmlahegaa.PRp Go.Proofs.YtfnpiacmlahegaaW.PrintWords Go.Proofs.YtfnpiacmlahegaaW.PrintLast Go.Proofs.YtfnpiacmlahegaaW.PrintMore
set_option linter.unusedVariables false
set_option linter.unusedSimpArgs false
theorem inn (a b c : Int) : spec_l6In.f a b c = some (decide (b ≤ a ∧ a ≤ c)) := by
  unfold spec_l6In.f
  by_cases h : a ≥ b
  · rw [if_pos h]; simp; omega
  · rw [if_neg h]; simp; omega
theorem rd63s {xs p : List S63} {x : S63} {q : List S63} (h : xs = p ++ x :: q) : rd_T63 xs (p.length : Int) = x := by subst h; exact getD_at p x q z63
theorem rd63n (xs : List S63) (i : Nat) (h : i < xs.length) : rd_T63 xs (i : Int) = xs[i] := by
  unfold rd_T63; rw [List.getD_eq_getElem?_getD]; simp [h]
theorem rdn (xs : List Int) (i : Nat) (h : i < xs.length) : rd xs (i : Int) = xs[i] := by
  unfold rd; rw [List.getD_eq_getElem?_getD]; simp [h]
def over (q : Option Int) (m : Int) : Prop := match q with | none => True | some y => y < m
instance (q : Option Int) (m : Int) : Decidable (over q m) := by unfold over; cases q <;> infer_instance
def LastI (p : List Int) (q : Option Int) : Prop := (p = [] ∧ q = none) ∨ ∃ p' y, p = p' ++ [y] ∧ q = some y
theorem lastI_snoc (p : List Int) (x : Int) : LastI (p ++ [x]) (some x) := .inr ⟨p, x, rfl, rfl⟩
def AOk (i : Int) : Option Int → List Int → Prop
  | _, [] => True
  | q, a :: r => (0 ≤ a ∧ a ≤ i - 1) ∧ over q a ∧ AOk i (some a) r
def decAOk (i : Int) : (q : Option Int) → (l : List Int) → Decidable (AOk i q l)
  | _, [] => isTrue trivial
  | q, a :: r => by
    unfold AOk
    have := decAOk i (some a) r
    infer_instance
instance (i : Int) (q : Option Int) (l : List Int) : Decidable (AOk i q l) := decAOk i q l
def S1 (x : S63) : Prop := (1 ≤ x.f0 ∧ x.f0 ≤ 99) ∧ (0 ≤ x.f1 ∧ x.f1 ≤ 4) ∧ (0 ≤ x.f2 ∧ x.f2 ≤ 4)
instance (x : S63) : Decidable (S1 x) := by unfold S1; infer_instance
def SOk : Nat → List S63 → Prop
  | _, [] => True
  | i, s :: r => S1 s ∧ AOk i none s.f3 ∧ SOk (i + 1) r
def decSOk : (i : Nat) → (l : List S63) → Decidable (SOk i l)
  | _, [] => isTrue trivial
  | i, s :: r => by
    unfold SOk
    have := decSOk (i + 1) r
    infer_instance
instance (i : Nat) (l : List S63) : Decidable (SOk i l) := decSOk i l
def SV (l : List S63) : Prop := SOk 0 l ∧ (l.length : Int) ≤ 8
instance (l : List S63) : Decidable (SV l) := by unfold SV; infer_instance
theorem dece {p q : Prop} [Decidable p] [Decidable q] (h : p ↔ q) : decide p = decide q := by simp [h]
def Short (l : List S63) : Prop := l.length ≤ 1099511627776 ∧ ∀ x ∈ l, x.f3.length ≤ 1099511627776
theorem spec_sv_inner (xs : List S63) (x : S63) (i : Nat) (hi : i ≤ 1099511627776) (hb : x.f3.length ≤ 1099511627776) (b : Bool) (hk : Ev (fun k => spec_StepsValid.l0 k xs (wrap64 ((i : Int) + 1))) b) :
    ∀ (s p : List Int) (q : Option Int), x.f3 = p ++ s → LastI p q → Ev (fun k => spec_StepsValid.l1 k xs (i : Int) (p.length : Int) x.f0 x.f1 x.f2 x.f3) (decide (AOk i q s) && b) := by
  intro s
  induction s with
  | nil => intro p q hx hq; refine ev_succ ?_; simp only [spec_StepsValid.l1]; exact ev_neg (by rw [hx]; simp) (ev_eq hk (by rw [decide_eq_true (show AOk (i : Int) q [] from trivial), Bool.true_and]))
  | cons a s ih =>
    intro p q hx hq; refine ev_succ ?_
    simp only [spec_StepsValid.l1, rds hx, wlen hx hb, inn, Option.bind_some]
    have hii : wrap64 ((i : Int) - 1) = (i : Int) - 1 := w64 (by omega) (by omega)
    rw [hii]
    refine ev_pos (len_at hx) (ev_pos (by omega) ?_)
    have h := ih (p ++ [a]) (some a) (snoc_at hx) (lastI_snoc p a)
    refine ev_ite (fun h1 => ?_) (fun h1 => ev_const ?_)
    · have h1' := of_decide_eq_true h1
      rcases hq with ⟨rfl, rfl⟩ | ⟨p', y, rfl, rfl⟩
      · refine ev_neg (by simp) (ev_eq h ?_)
        congr 1; refine dece ?_; simp only [AOk, over]; exact ⟨fun h => ⟨h1', trivial, h⟩, fun h => h.2.2⟩
      · have e1 : wrap64 (((p' ++ [y]).length : Int) - 1) = (p'.length : Int) := by
          rw [w64 (by omega) (by rw [hx] at hb; simp at hb ⊢; omega)]; simp
        have hx2 : x.f3 = p' ++ y :: (a :: s) := by rw [hx]; simp
        rw [e1, rds hx2]
        refine ev_pos (by simp <;> omega) (ev_pos (by omega) (ev_pos (len_at hx2) (ev_ite (fun h3 => ev_const ?_) (fun h3 => ev_eq h ?_))))
        · symm; rw [Bool.and_eq_false_iff]; left; refine decide_eq_false (fun h => ?_)
          have := h.2.1; simp only [over] at this; omega
        · congr 1; refine dece ?_; simp only [AOk, over]; exact ⟨fun h => ⟨h1', by omega, h⟩, fun h => h.2.2⟩
    · symm; rw [Bool.and_eq_false_iff]; left; exact decide_eq_false (fun h => h1 (decide_eq_true h.1))
theorem spec_sv_loop (xs : List S63) (hb : Short xs) : ∀ (s p : List S63), xs = p ++ s →
    Ev (fun k => spec_StepsValid.l0 k xs (p.length : Int)) (decide (SOk p.length s ∧ (xs.length : Int) ≤ 8)) := by
  intro s
  induction s with
  | nil => intro p hx; refine ev_succ ?_; simp only [spec_StepsValid.l0]; exact ev_neg (by subst hx; simp) (ev_const (dece (by simp [SOk])))
  | cons x s ih =>
    intro p hx; refine ev_succ ?_
    have hp : p.length ≤ 1099511627776 := by have := hb.1; subst hx; simp at this; omega
    have hi := ih (p ++ [x]) (snoc_at hx)
    rw [← wlen hx hb.1, List.length_append, List.length_singleton] at hi
    have hin := spec_sv_inner xs x p.length hp (hb.2 x (by subst hx; simp)) _ hi x.f3 [] none rfl (.inl ⟨rfl, rfl⟩)
    have hj0 : ∀ t, t = true → ∀ r, r = false → Ev (fun k => spec_StepsValid.j1 k xs (p.length : Int) t x.f0 x.f1 x.f2 x.f3) r := by
      intro t ht r hr; subst hr; refine ev_succ ?_; simp only [spec_StepsValid.j1]; exact ev_pos ht (Ev.now _)
    have hj1 : ∀ t, t = false → Ev (fun k => spec_StepsValid.j1 k xs (p.length : Int) t x.f0 x.f1 x.f2 x.f3) (decide (AOk p.length none x.f3) && decide (SOk (p.length + 1) s ∧ (xs.length : Int) ≤ 8)) := by
      intro t ht; refine ev_succ ?_; simp only [spec_StepsValid.j1]; exact ev_neg (by simp [ht]) hin
    have no : ¬ S1 x → false = decide (SOk p.length (x :: s) ∧ (xs.length : Int) ≤ 8) := fun h => (decide_eq_false (fun z => h z.1.1)).symm
    simp only [spec_StepsValid.l0, rd63s hx, inn, Option.bind_some]
    refine ev_pos (len_at hx) (ev_pos (by omega) (ev_ite (fun h1 => ev_ite (fun h2 => ?_) (fun h2 => ?_)) (fun h1 => ?_)))
    · by_cases h3 : 0 ≤ x.f2 ∧ x.f2 ≤ 4
      · refine ev_eq (hj1 _ (by simp [h3])) ?_
        rw [Bool.eq_iff_iff]; simp only [Bool.and_eq_true, decide_eq_true_eq] at h1 h2 ⊢
        simp only [SOk, S1]; exact ⟨fun h => ⟨⟨⟨h1, h2, h3⟩, h.1, h.2.1⟩, h.2.2⟩, fun h => ⟨h.1.2.1, h.1.2.2, h.2⟩⟩
      · exact hj0 _ (by rw [decide_eq_false h3]; rfl) _ (no (fun z => h3 z.2.2)).symm
    · exact hj0 _ rfl _ (no (fun z => h2 (decide_eq_true z.2.1))).symm
    · exact hj0 _ rfl _ (no (fun z => h1 (decide_eq_true z.1))).symm
theorem spec_sv (xs : List S63) (hb : Short xs) : Ev (fun k => spec_StepsValid.f k xs) (decide (SV xs)) := spec_sv_loop xs hb xs [] rfl
theorem AOk.all {i : Int} : ∀ {q : Option Int} {l : List Int}, AOk i q l → ∀ a ∈ l, 0 ≤ a ∧ a ≤ i - 1
  | _, [], _, a, h => by cases h
  | q, x :: r, hh, a, h => by
    rcases List.mem_cons.1 h with rfl | h
    · exact hh.1
    · exact AOk.all hh.2.2 a h
theorem SOk.at : ∀ {j : Nat} {l : List S63}, SOk j l → ∀ (i : Nat) (h : i < l.length), S1 l[i] ∧ AOk ((j + i : Nat) : Int) none l[i].f3
  | _, [], _, i, h => by simp at h
  | j, s :: r, hh, 0, h => ⟨hh.1, hh.2.1⟩
  | j, s :: r, hh, i + 1, h => by
    have := SOk.at hh.2.2 i (by simpa using h)
    simp only [List.getElem_cons_succ]
    refine ⟨this.1, ?_⟩
    have e : j + 1 + i = j + (i + 1) := by omega
    rw [← e]; exact this.2
theorem SOk.s1 {j : Nat} {l : List S63} (h : SOk j l) : ∀ x ∈ l, S1 x := fun x hx => by
  obtain ⟨i, hi, rfl⟩ := List.mem_iff_getElem.1 hx; exact (h.at i hi).1
theorem toInt_loop (xs : List Int) (hb : xs.length ≤ 1099511627776) : ∀ (s p : List Int), xs = p ++ s →
    Ev (fun k => laws_toIntS.l0 k xs (p ++ List.replicate s.length 0) (p.length : Int)) xs := by
  intro s
  induction s with
  | nil => intro p hx; refine ev_succ ?_; simp only [laws_toIntS.l0]; exact ev_neg (by subst hx; simp) (ev_const (by subst hx; simp))
  | cons x s ih =>
    intro p hx; refine ev_succ ?_
    simp only [laws_toIntS.l0, rds hx, wlen hx hb]
    refine ev_pos (len_at hx) (ev_pos (by omega) (ev_pos (by simp; omega) ?_))
    have e : (p ++ List.replicate (x :: s).length 0).set ((p.length : Int)).toNat x = (p ++ [x]) ++ List.replicate s.length 0 := by
      have h1 : ((p.length : Int)).toNat = p.length := by simp
      rw [h1, List.length_cons, List.replicate_succ, set_at]; simp
    rw [e]; exact ih (p ++ [x]) (snoc_at hx)
theorem toInt_ev (xs : List Int) (hb : xs.length ≤ 1048576) : Ev (fun k => laws_toIntS.f k xs) xs := by
  unfold laws_toIntS.f
  exact ev_pos (by omega) (ev_pos (by omega) (toInt_loop xs (by omega) xs [] rfl))
theorem eqInt_loop (xs : List Int) (hb : xs.length ≤ 1099511627776) : ∀ (s p : List Int), xs = p ++ s → Ev (fun k => laws_eqIntS.l0 k xs xs (p.length : Int)) true := by
  intro s
  induction s with
  | nil => intro p hx; refine ev_succ ?_; simp only [laws_eqIntS.l0]; exact ev_neg (by subst hx; simp) (Ev.now _)
  | cons x s ih =>
    intro p hx; refine ev_succ ?_
    simp only [laws_eqIntS.l0, rds hx, wlen hx hb, if_true]
    exact ev_pos (len_at hx) (ev_pos (by omega) (ev_pos (len_at hx) (ih (p ++ [x]) (snoc_at hx))))
theorem eqInt_ev (xs : List Int) (hb : xs.length ≤ 1099511627776) : Ev (fun k => laws_eqIntS.f k xs xs) true := by
  unfold laws_eqIntS.f
  exact ev_pos rfl (eqInt_loop xs hb xs [] rfl)
def run (q : Int) : Nat → List Int
  | 0 => []
  | n + 1 => q :: run (q + 1) n
theorem run_len : ∀ (n : Nat) (q : Int), (run q n).length = n
  | 0, _ => rfl
  | n + 1, q => by simp [run, run_len n]
theorem mark_loop : ∀ (s p : List Int) (q : Int), 0 ≤ q → q + s.length ≤ 4611686018427387904 → p.length + s.length ≤ 1099511627776 →
    Ev (fun k => laws_markIntS.l0 k (p ++ s) q (p.length : Int)) (q + s.length, p ++ run q s.length) := by
  intro s
  induction s with
  | nil => intro p q h0 h1 h2; refine ev_succ ?_; simp only [laws_markIntS.l0]; exact ev_neg (by simp) (ev_const (by simp [run]))
  | cons x s ih =>
    intro p q h0 h1 h2; refine ev_succ ?_
    simp only [List.length_cons] at h1 h2
    simp only [laws_markIntS.l0]
    refine ev_pos (by simp; omega) (ev_pos (by omega) ?_)
    have e1 : ((p.length : Int)).toNat = p.length := by simp
    rw [e1, set_at, w64 (x := q + 1) (by omega) (by omega), w64 (x := (p.length : Int) + 1) (by omega) (by omega)]
    have h3 := ih (p ++ [q]) (q + 1) (by omega) (by omega) (by simp; omega)
    have e2 : ((p ++ [q]).length : Int) = (p.length : Int) + 1 := by simp
    rw [e2] at h3
    have e3 : p ++ [q] ++ s = p ++ q :: s := by simp
    rw [e3] at h3
    refine ev_eq h3 ?_
    simp [run]; omega
theorem mark_ev (s : List Int) (q : Int) (h0 : 0 ≤ q) (h1 : q ≤ 1099511627776) (h2 : s.length ≤ 1099511627776) : Ev (fun k => laws_markIntS.f k s q) (q + s.length, run q s.length) :=
  mark_loop s [] q h0 (by omega) (by simp; omega)
theorem held_loop (xs : List Int) (hb : xs.length ≤ 1099511627776) : ∀ (n : Nat) (p : List Int) (q : Int), 0 ≤ q → q + n ≤ 4611686018427387904 → xs = p ++ run q n →
    Ev (fun k => laws_heldIntS.l0 k xs q (p.length : Int)) (q + n) := by
  intro n
  induction n with
  | zero => intro p q h0 h1 hx; refine ev_succ ?_; simp only [laws_heldIntS.l0]; exact ev_neg (by subst hx; simp [run]) (ev_const (by simp))
  | succ n ih =>
    intro p q h0 h1 hx; refine ev_succ ?_
    have hx' : xs = p ++ q :: run (q + 1) n := hx
    simp only [laws_heldIntS.l0, rds hx', wlen hx' hb, if_true]
    refine ev_pos (len_at hx') (ev_pos (by omega) ?_)
    rw [w64 (x := q + 1) (by omega) (by omega)]
    exact ev_eq (ih (p ++ [q]) (q + 1) (by omega) (by omega) (snoc_at hx')) (by omega)
theorem held_ev (n : Nat) (q : Int) (h0 : 0 ≤ q) (h1 : q ≤ 1099511627776) (h2 : n ≤ 1099511627776) : Ev (fun k => laws_heldIntS.f k (run q n) q) (q + n) :=
  held_loop (run q n) (by rw [run_len]; exact h2) n [] q h0 (by omega) rfl
def conv (x : S59) : S63 := ⟨x.f0, x.f1, x.f2, x.f3⟩
theorem rd59s {xs p : List S59} {x : S59} {q : List S59} (h : xs = p ++ x :: q) : rd_T59 xs (p.length : Int) = x := by subst h; exact getD_at p x q z59
def FitS (xs : List S59) : Prop := xs.length ≤ 1048576 ∧ ∀ x ∈ xs, x.f3.length ≤ 1048576
theorem fit_small {xs : List S59} (h : FitS xs) : Short (xs.map conv) := by
  refine ⟨by simp; have := h.1; omega, fun x hx => ?_⟩
  obtain ⟨y, hy, rfl⟩ := List.mem_map.1 hx
  have := h.2 y hy; simp only [conv]; omega
theorem to_loop (xs : List S59) (hf : FitS xs) : ∀ (s p : List S59), xs = p ++ s →
    Ev (fun k => laws_toStepS.l0 k xs (p.map conv ++ List.replicate s.length z63) (p.length : Int)) (xs.map conv) := by
  intro s
  induction s with
  | nil => intro p hx; refine ev_succ ?_; simp only [laws_toStepS.l0]; exact ev_neg (by subst hx; simp) (ev_const (by subst hx; simp))
  | cons x s ih =>
    intro p hx; refine ev_succ ?_
    have hb : xs.length ≤ 1099511627776 := by have := hf.1; omega
    simp only [laws_toStepS.l0, rd59s hx, wlen hx hb]
    have h1 : Ev (fun k => laws_toStep.f k x.f0 x.f1 x.f2 x.f3) (x.f0, x.f1, x.f2, x.f3) := by
      unfold laws_toStep.f
      exact Ev.bind (toInt_ev x.f3 (hf.2 x (by subst hx; simp))) (Ev.now _)
    refine ev_pos (len_at hx) (ev_pos (by omega) (Ev.bind h1 ?_))
    dsimp only
    refine ev_pos (by simp; omega) ?_
    have e : (p.map conv ++ List.replicate (x :: s).length z63).set ((p.length : Int)).toNat ⟨x.f0, x.f1, x.f2, x.f3⟩ = (p ++ [x]).map conv ++ List.replicate s.length z63 := by
      have h1 : ((p.length : Int)).toNat = (p.map conv).length := by simp
      rw [h1, List.length_cons, List.replicate_succ, set_at]; simp [conv]
    rw [e]; exact ih (p ++ [x]) (snoc_at hx)
theorem to_ev (xs : List S59) (hf : FitS xs) : Ev (fun k => laws_toStepS.f k xs) (xs.map conv) := by
  unfold laws_toStepS.f
  have := hf.1
  refine ev_pos (by omega) (ev_pos (by omega) ?_)
  exact to_loop xs hf xs [] rfl
theorem eq_loop (xs : List S63) (hs : Short xs) : ∀ (s p : List S63), xs = p ++ s → Ev (fun k => laws_eqStepS.l0 k xs xs (p.length : Int)) true := by
  intro s
  induction s with
  | nil => intro p hx; refine ev_succ ?_; simp only [laws_eqStepS.l0]; exact ev_neg (by subst hx; simp) (Ev.now _)
  | cons x s ih =>
    intro p hx; refine ev_succ ?_
    simp only [laws_eqStepS.l0, rd63s hx, wlen hx hs.1]
    have h1 : Ev (fun k => laws_eqStep.f k x.f0 x.f1 x.f2 x.f3 x.f0 x.f1 x.f2 x.f3) true := by
      unfold laws_eqStep.f
      exact ev_pos rfl (ev_pos rfl (ev_pos rfl (Ev.bind (eqInt_ev x.f3 (hs.2 x (by subst hx; simp))) (ev_pos rfl (Ev.now _)))))
    exact ev_pos (len_at hx) (ev_pos (by omega) (ev_pos (len_at hx) (Ev.bind h1 (ev_pos rfl (ih (p ++ [x]) (snoc_at hx))))))
theorem eq_ev (xs : List S63) (hs : Short xs) : Ev (fun k => laws_eqStepS.f k xs xs) true := by
  unfold laws_eqStepS.f
  exact ev_pos rfl (eq_loop xs hs xs [] rfl)
theorem szInt_ev (l : List Int) (a : Int) (ha : 0 ≤ a ∧ a ≤ 1048576) (h : l.length ≤ 9223372036854775807) : ((l.length : Int) ≤ a ∧ laws_szIntS.f l a = some (a - (l.length : Int))) ∨ laws_szIntS.f l a = some (-1) := by
  unfold laws_szIntS.f
  rw [w64 (x := a - (l.length : Int)) (by omega) (by omega)]
  by_cases h0 : a - (l.length : Int) < 0
  · rw [if_pos h0]; exact .inr rfl
  · rw [if_neg h0]; exact .inl ⟨by omega, rfl⟩
theorem sz_loop (xs : List S59) (hb : xs.length ≤ 1099511627776) (hi : ∀ x ∈ xs, x.f3.length ≤ 9223372036854775807) : ∀ (s p : List S59) (a : Int), xs = p ++ s → 0 ≤ a → a ≤ 1048576 →
    ∃ r, Ev (fun k => laws_szStepS.l0 k xs a (p.length : Int)) r ∧ (r < 0 ∨ (0 ≤ r ∧ r ≤ 1048576 ∧ ∀ x ∈ s, x.f3.length ≤ 1048576)) := by
  intro s
  induction s with
  | nil => intro p a hx h0 h1; exact ⟨a, ev_succ (by simp only [laws_szStepS.l0]; exact ev_neg (by subst hx; simp) (Ev.now _)), .inr ⟨h0, h1, fun _ h => by cases h⟩⟩
  | cons x s ih =>
    intro p a hx h0 h1
    have hstep : Ev (fun k => laws_szStepS.l0 (k + 1) xs a (p.length : Int)) = Ev (fun k => (laws_szStep.f x.f0 x.f1 x.f2 x.f3 a).bind fun t => if t < 0 then some (-1) else laws_szStepS.l0 k xs t ((p ++ [x]).length : Int)) := by
      funext r
      simp only [laws_szStepS.l0, rd59s hx, wlen hx hb, if_pos (len_at hx), if_pos (show (0 : Int) ≤ (p.length : Int) by omega)]
    rcases szInt_ev x.f3 a ⟨h0, h1⟩ (hi x (by subst hx; simp)) with ⟨hl, e⟩ | e
    · obtain ⟨r, hr, hc⟩ := ih (p ++ [x]) (a - (x.f3.length : Int)) (snoc_at hx) (by omega) (by omega)
      refine ⟨r, ev_succ ?_, hc.imp id (fun h => ⟨h.1, h.2.1, fun y hy => ?_⟩)⟩
      · rw [hstep, laws_szStep.f, e]; simp only [Option.bind_some]
        rw [if_neg (by omega)]; simp only [Option.bind_some]
        exact ev_neg (by omega) hr
      · rcases List.mem_cons.1 hy with rfl | hy
        · omega
        · exact h.2.2 y hy
    · refine ⟨-1, ev_succ ?_, .inl (by omega)⟩
      rw [hstep, laws_szStep.f, e]; simp only [Option.bind_some]
      rw [if_pos (by omega)]; simp only [Option.bind_some]
      exact ev_pos (by omega) (Ev.now _)
theorem sz_ev (xs : List S59) (a : Int) (ha : 0 ≤ a ∧ a ≤ 1048576) (h : xs.length ≤ 9223372036854775807) (hi : ∀ x ∈ xs, x.f3.length ≤ 9223372036854775807) :
    ∃ r, Ev (fun k => laws_szStepS.f k xs a) r ∧ (r < 0 ∨ (0 ≤ r ∧ r ≤ 1048576 ∧ FitS xs)) := by
  unfold laws_szStepS.f
  rw [w64 (x := a - (xs.length : Int)) (by omega) (by omega)]
  by_cases h0 : a - (xs.length : Int) < 0
  · exact ⟨-1, ev_pos h0 (Ev.now _), .inl (by omega)⟩
  · obtain ⟨r, hr, hc⟩ := sz_loop xs (by omega) hi xs [] (a - (xs.length : Int)) rfl (by omega) (by omega)
    exact ⟨r, ev_neg h0 hr, hc.imp id (fun h => ⟨h.1, h.2.1, by omega, h.2.2⟩)⟩
theorem toK_ev (h : Int) (t : List Int) (ht : t.length ≤ 1048576) : Ev (fun k => laws_toKitchen.f k h t) (h, t) := by
  unfold laws_toKitchen.f
  exact Ev.bind (toInt_ev t ht) (Ev.now _)
theorem eqK_ev (h : Int) (t : List Int) (ht : t.length ≤ 1048576) : Ev (fun k => laws_eqKitchen.f k h t h t) true := by
  unfold laws_eqKitchen.f
  exact ev_pos rfl (Ev.bind (eqInt_ev t (by omega)) (ev_pos rfl (Ev.now _)))
theorem szK_ev (h : Int) (t : List Int) (a : Int) (ha : 0 ≤ a ∧ a ≤ 1048576) (hb : t.length ≤ 9223372036854775807) : ∃ r, laws_szKitchen.f h t a = some r ∧ (r < 0 ∨ t.length ≤ 1048576) := by
  unfold laws_szKitchen.f
  rcases szInt_ev t a ha hb with ⟨hl, e⟩ | e
  · rw [e]; simp only [Option.bind_some]; rw [if_neg (by omega)]; exact ⟨_, rfl, .inr (by omega)⟩
  · rw [e]; simp only [Option.bind_some]; rw [if_pos (by omega)]; exact ⟨_, rfl, .inl (by omega)⟩
theorem markN_eq : ∀ (n : Nat) (k : Int), 0 ≤ k → k + n ≤ 4611686018427387904 → markN n k = k + n
  | 0, k, _, _ => by simp [markN]
  | n + 1, k, h0, h1 => by
    rw [markN, markN_eq n k h0 (by omega), w64 (by omega) (by omega)]
    omega
theorem markS_le : ∀ (l : List S63) (k : Int), 0 ≤ k → (∀ x ∈ l, x.f3.length ≤ 1048576) → k + l.length * 1048579 ≤ 4611686018427387904 → 0 ≤ markStepF l k ∧ markStepF l k ≤ k + l.length * 1048579
  | [], k, h0, _, _ => by simp [markStepF, h0]
  | x :: r, k, h0, hx, hk => by
    have h1 := hx x (by simp)
    simp only [List.length_cons] at hk ⊢
    have e1 : wrap64 (k + 1) = k + 1 := w64 (by omega) (by omega)
    have e2 : wrap64 (k + 1 + 1) = k + 2 := by rw [w64 (by omega) (by omega)]; omega
    have e3 : wrap64 (k + 2 + 1) = k + 3 := by rw [w64 (by omega) (by omega)]; omega
    have e4 : markN x.f3.length (k + 3) = k + 3 + x.f3.length := markN_eq _ _ (by omega) (by omega)
    rw [markStepF, e1, e2, e3, e4]
    have ih := markS_le r (k + 3 + x.f3.length) (by omega) (fun y hy => hx y (by simp [hy])) (by omega)
    omega
theorem mark_fit (l : List S59) (hf : FitS l) : 0 ≤ markStepF (l.map conv) 1 ∧ markStepF (l.map conv) 1 ≤ 1099514773505 := by
  have h1 := hf.1
  have h := markS_le (l.map conv) 1 (by omega) (fun x hx => by
    obtain ⟨y, hy, rfl⟩ := List.mem_map.1 hx
    exact hf.2 y hy) (by simp only [List.length_map]; omega)
  simp only [List.length_map] at h
  omega
theorem mark_more (s : List Int) (q : Int) (h0 : 0 ≤ q) (h1 : q ≤ 1099514773505 + 1099511627776) (h2 : s.length ≤ 1099511627776) : Ev (fun k => laws_markIntS.f k s q) (q + s.length, run q s.length) :=
  mark_loop s [] q h0 (by omega) (by simp; omega)
def onAt (s : S63) (x m : Int) : Prop := x ≤ m ∧ m < x + s.f0
instance (s : S63) (x m : Int) : Decidable (onAt s x m) := by unfold onAt; infer_instance
def tick (s : S63) (t : List Int) : List Int := if s.f2 > 0 then t.set (s.f2 - 1).toNat (rd t (s.f2 - 1) + 1) else t
def useL : List S63 → List Int → Int → Int → List Int → Int × List Int
  | s :: r, x :: q, m, h, t => if onAt s x m then useL r q m (h + s.f1) (tick s t) else useL r q m h t
  | _, _, _, h, t => (h, t)
theorem tick_len (s : S63) (t : List Int) : (tick s t).length = t.length := by unfold tick; split <;> simp
theorem tick_le (s : S63) (t : List Int) (n : Int) (hn : 0 ≤ n) (h : ∀ x ∈ t, 0 ≤ x ∧ x ≤ n) : ∀ x ∈ tick s t, 0 ≤ x ∧ x ≤ n + 1 := by
  intro x hx
  unfold tick at hx
  split at hx
  · rcases List.mem_or_eq_of_mem_set hx with hx | hx
    · have := h x hx; omega
    · have : 0 ≤ rd t (s.f2 - 1) ∧ rd t (s.f2 - 1) ≤ n := by
        by_cases hz : (s.f2 - 1).toNat < t.length
        · exact h _ (rd_lt t _ (by omega) (by omega))
        · unfold rd; rw [List.getD_eq_getElem?_getD, List.getElem?_eq_none (by omega)]; simp; exact hn
      omega
  · have := h x hx; omega
theorem useL_len : ∀ (l : List S63) (xs : List Int) (m h : Int) (t : List Int), (useL l xs m h t).2.length = t.length
  | s :: r, x :: q, m, h, t => by
    rw [useL]; split
    · rw [useL_len r q m _ _, tick_len]
    · exact useL_len r q m h t
  | [], _, m, h, t => by rw [useL]; simp
  | s :: r, [], m, h, t => by rw [useL]; simp
theorem on_ev (x : S63) (a m : Int) (h0 : 1 ≤ x.f0 ∧ x.f0 ≤ 99) (h1 : -1099511627776 ≤ a ∧ a ≤ 1099511627776) : spec_l32On.f x.f0 x.f1 x.f2 x.f3 a m = some (decide (onAt x a m)) := by
  unfold spec_l32On.f onAt
  rw [w64 (x := a + x.f0) (by omega) (by omega)]
  by_cases h : a ≤ m
  · rw [if_pos h]; simp [h]
  · rw [if_neg h]; simp [h]
theorem spec_use_loop (l : List S63) (hl : ∀ x ∈ l, S1 x) (xs : List Int) (hx : ∀ x ∈ xs, -1099511627776 ≤ x ∧ x ≤ 1099511627776) (hxl : xs.length ≤ l.length) (hb : l.length ≤ 1048576) (m : Int) :
    ∀ (s p : List Int) (r q : List S63) (h : Int) (t : List Int), xs = p ++ s → l = q ++ r → p.length = q.length → t.length = 4 → 0 ≤ h → h ≤ 4 * p.length → (∀ x ∈ t, 0 ≤ x ∧ x ≤ p.length) →
    Ev (fun k => spec_l32Use.l0 k l xs m h t (p.length : Int)) (useL r s m h t) := by
  intro s
  induction s with
  | nil =>
    intro p r q h t h1 h2 h3 h4 h5 h6 h7; refine ev_succ ?_; simp only [spec_l32Use.l0]
    exact ev_neg (by subst h1; simp) (ev_const (by cases r <;> simp [useL]))
  | cons x s ih =>
    intro p r q h t h1 h2 h3 h4 h5 h6 h7
    cases r with
    | nil => exfalso; subst h1; subst h2; simp at hxl; omega
    | cons y r =>
      have hpl : p.length ≤ 1048576 := by subst h1; simp at hxl; omega
      have ey : rd_T63 l (p.length : Int) = y := by rw [h3]; exact rd63s h2
      have hy := hl y (by subst h2; simp)
      have hxx := hx x (by subst h1; simp)
      have hyl : (p.length : Int) < (l.length : Int) := by rw [h3]; exact len_at h2
      have e1 : ((p ++ [x]).length : Int) = (p.length : Int) + 1 := by simp
      refine ev_succ ?_
      simp only [spec_l32Use.l0, rds h1, ey, on_ev y x m hy.1 hxx, Option.bind_some, wlen h1 (by omega)]
      have hw : wrap64 (h + y.f1) = h + y.f1 := by have := hy.2.1; exact w64 (by omega) (by omega)
      have hw2 : wrap64 (y.f2 - 1) = y.f2 - 1 := by have := hy.2.2; exact w64 (by omega) (by omega)
      rw [hw, hw2, useL]
      refine ev_pos (len_at h1) (ev_pos (by omega) (ev_pos hyl (ev_ite (fun h8 => ?_) (fun h8 => ?_))))
      · have h8' := of_decide_eq_true h8
        rw [if_pos h8']
        refine ev_ite (fun h9 => ?_) (fun h9 => ?_)
        · have hy2 := hy.2.2
          have hm := h7 _ (rd_lt t (y.f2 - 1) (by omega) (by omega))
          have e2 : t.set (y.f2 - 1).toNat (wrap64 (rd t (y.f2 - 1) + 1)) = tick y t := by rw [w64 (by omega) (by omega)]; unfold tick; rw [if_pos h9]
          rw [e2]
          refine ev_pos (by omega) (ev_pos (by omega) (ih (p ++ [x]) r (q ++ [y]) _ _ (snoc_at h1) (snoc_at h2) (by simp [h3]) (by rw [tick_len, h4]) (by have := hy.2.1; omega) (by have := hy.2.1; omega) ?_))
          intro z hz; have := tick_le y t p.length (by omega) h7 z hz; omega
        · have e2 : t = tick y t := by unfold tick; rw [if_neg h9]
          rw [← e2]
          refine ih (p ++ [x]) r (q ++ [y]) _ _ (snoc_at h1) (snoc_at h2) (by simp [h3]) h4 (by have := hy.2.1; omega) (by have := hy.2.1; omega) ?_
          intro z hz; have := h7 z hz; omega
      · rw [if_neg (fun z => h8 (decide_eq_true z))]
        refine ih (p ++ [x]) r (q ++ [y]) _ _ (snoc_at h1) (snoc_at h2) (by simp [h3]) h4 h5 (by omega) ?_
        intro z hz; have := h7 z hz; omega
def t0 : List Int := List.replicate 4 0
theorem spec_use (l : List S63) (hl : ∀ x ∈ l, S1 x) (xs : List Int) (hx : ∀ x ∈ xs, -1099511627776 ≤ x ∧ x ≤ 1099511627776) (hxl : xs.length ≤ l.length) (hb : l.length ≤ 1048576) (m : Int) :
    Ev (fun k => spec_l32Use.f k l xs m) (useL l xs m 0 t0) := by
  unfold spec_l32Use.f
  exact ev_pos (by omega) (spec_use_loop l hl xs hx hxl hb m xs [] l [] 0 t0 rfl rfl rfl (by simp [t0]) (by omega) (by simp) (fun x hx => by simp [t0] at hx; subst hx; simp))
def StOk (l : List S63) (xs : List Int) : Prop := (∀ x ∈ xs, 0 ≤ x ∧ x ≤ 999) ∧ SV l ∧ xs.length = l.length
instance (l : List S63) (xs : List Int) : Decidable (StOk l xs) := by unfold StOk; infer_instance
theorem tick_nn (s : S63) (t : List Int) (h : ∀ x ∈ t, 0 ≤ x) : ∀ x ∈ tick s t, 0 ≤ x := by
  intro x hx
  unfold tick at hx
  split at hx
  · rcases List.mem_or_eq_of_mem_set hx with hx | hx
    · exact h x hx
    · have : 0 ≤ rd t (s.f2 - 1) := by
        by_cases hz : (s.f2 - 1).toNat < t.length
        · exact h _ (rd_lt t _ (by omega) (by omega))
        · unfold rd; rw [List.getD_eq_getElem?_getD, List.getElem?_eq_none (by omega)]; simp
      omega
  · exact h x hx
theorem useL_nn : ∀ (l : List S63) (hl : ∀ x ∈ l, S1 x) (xs : List Int) (m h : Int) (t : List Int), 0 ≤ h → (∀ x ∈ t, 0 ≤ x) → 0 ≤ (useL l xs m h t).1 ∧ ∀ x ∈ (useL l xs m h t).2, 0 ≤ x
  | s :: r, hl, x :: q, m, h, t, h0, ht => by
    have hs := hl s (by simp)
    rw [useL]; split
    · exact useL_nn r (fun x hx => hl x (by simp [hx])) q m _ _ (by have := hs.2.1; omega) (tick_nn s t ht)
    · exact useL_nn r (fun x hx => hl x (by simp [hx])) q m _ _ h0 ht
  | [], _, xs, m, h, t, h0, ht => by rw [useL]; exact ⟨h0, ht⟩; simp
  | s :: r, _, [], m, h, t, h0, ht => by rw [useL]; exact ⟨h0, ht⟩; simp
def KOk (h : Int) (t : List Int) : Prop := (∀ x ∈ t, 0 ≤ x ∧ x ≤ 3) ∧ (0 ≤ h ∧ h ≤ 9) ∧ t.length = 4
instance (h : Int) (t : List Int) : Decidable (KOk h t) := by unfold KOk; infer_instance
theorem spec_kv_loop (h : Int) (xs : List Int) (hb : xs.length ≤ 1099511627776) : ∀ (s p : List Int), xs = p ++ s →
    Ev (fun k => spec_KitchenValid.l0 k (p.length : Int) h xs) (decide ((∀ x ∈ s, 0 ≤ x ∧ x ≤ 3) ∧ (0 ≤ h ∧ h ≤ 9) ∧ xs.length = 4)) := by
  intro s
  induction s with
  | nil =>
    intro p hx; refine ev_succ ?_; simp only [spec_KitchenValid.l0, inn, Option.bind_some]
    refine ev_neg (by subst hx; simp) (ev_ite (fun h1 => ev_const ?_) (fun h1 => ev_const ?_))
    · rw [Bool.eq_iff_iff]; simp only [decide_eq_true_eq, beq_iff_eq] at h1 ⊢; simp [h1]; omega
    · symm; exact decide_eq_false (fun z => h1 (decide_eq_true z.2.1))
  | cons x s ih =>
    intro p hx; refine ev_succ ?_
    simp only [spec_KitchenValid.l0, rds hx, wlen hx hb, inn, Option.bind_some]
    refine ev_pos (len_at hx) (ev_pos (by omega) (ev_ite (fun h1 => ev_eq (ih (p ++ [x]) (snoc_at hx)) (dece ?_)) (fun h1 => ev_const ?_)))
    · have h1' := of_decide_eq_true h1; simp [h1']
    · symm; exact decide_eq_false (fun z => h1 (decide_eq_true (z.1 x (by simp))))
theorem spec_kv (h : Int) (xs : List Int) (hb : xs.length ≤ 1099511627776) : Ev (fun k => spec_KitchenValid.f k h xs) (decide (KOk h xs)) := spec_kv_loop h xs hb xs [] rfl
def aft (l : List S63) (out : List Int) : List Int → Int → Int
  | [], n => n
  | a :: r, n => aft l out r (max n (rd out a + (rd_T63 l a).f0))
theorem spec_aft_loop (l : List S63) (hl : ∀ x ∈ l, 1 ≤ x.f0 ∧ x.f0 ≤ 99) (out : List Int) (ho : ∀ x ∈ out, -1099511627776 ≤ x ∧ x ≤ 1099511627776) (i : Nat) (x : S63) (hi : i < l.length) (hx : rd_T63 l (i : Int) = x) (hb : x.f3.length ≤ 1099511627776)
    (ha : ∀ a ∈ x.f3, 0 ≤ a ∧ a < (out.length : Int) ∧ a < (l.length : Int)) : ∀ (s p : List Int) (n : Int), x.f3 = p ++ s →
    Ev (fun k => spec_l32After.l0 k l out (i : Int) n (p.length : Int)) (aft l out s n) := by
  intro s
  induction s with
  | nil => intro p n hp; refine ev_succ ?_; simp only [spec_l32After.l0, hx]; exact ev_pos (by omega) (ev_pos (by omega) (ev_neg (by rw [hp]; simp) (Ev.now _)))
  | cons a s ih =>
    intro p n hp; refine ev_succ ?_
    simp only [spec_l32After.l0, hx, rds hp, wlen hp hb]
    have hA := ha a (by rw [hp]; simp)
    have h1 := ho _ (rd_lt out a hA.1 hA.2.1)
    have h2 : 1 ≤ (rd_T63 l a).f0 ∧ (rd_T63 l a).f0 ≤ 99 := by
      obtain ⟨a, rfl⟩ := Int.eq_ofNat_of_zero_le hA.1
      have : a < l.length := by omega
      rw [rd63n l a this]; exact hl _ (List.getElem_mem _)
    rw [w64 (x := rd out a + (rd_T63 l a).f0) (by omega) (by omega), mx_max]
    exact ev_pos (by omega) (ev_pos (by omega) (ev_pos (len_at hp) (ev_pos (by omega) (ev_pos hA.1 (ev_pos hA.2.1 (ev_pos hA.2.2 (ih (p ++ [a]) _ (snoc_at hp))))))))
theorem spec_aft {l : List S63} (hl : SV l) (hs : Short l) (out : List Int) (ho : ∀ x ∈ out, -1099511627776 ≤ x ∧ x ≤ 1099511627776) (i : Nat) (hi : i < l.length) (hio : i ≤ out.length) :
    Ev (fun k => spec_l32After.f k l out (i : Int)) (aft l out l[i].f3 0) :=
  spec_aft_loop l (fun x hx => (hl.1.s1 x hx).1) out ho i _ hi (rd63n l i hi) (hs.2 _ (List.getElem_mem _)) (fun a ha => by
    have := (hl.1.at i hi).2.all a ha
    omega) l[i].f3 [] 0 rfl
theorem aft_le (l : List S63) (out : List Int) (B : Int) : ∀ (s : List Int) (n : Int), n ≤ B → (∀ a ∈ s, rd out a + (rd_T63 l a).f0 ≤ B) → n ≤ aft l out s n ∧ aft l out s n ≤ B
  | [], n, h, _ => ⟨Int.le_refl _, h⟩
  | a :: r, n, h, hs => by
    have h1 := hs a (by simp)
    have := aft_le l out B r (max n (rd out a + (rd_T63 l a).f0)) (by omega) (fun x hx => hs x (by simp [hx]))
    rw [aft]; omega
def leL : List Int → List Int → Bool
  | a :: r, b :: s => decide (a ≤ b) && leL r s
  | _, _ => true
def fitB (k0 : Int) (k1 : List Int) (u : Int × List Int) : Bool := decide (u.1 ≤ k0) && leL u.2 k1
def roomG (l : List S63) (xs : List Int) (k0 : Int) (k1 : List Int) : Nat → Int → Bool
  | 0, _ => true
  | n + 1, m => fitB k0 k1 (useL l xs m 0 t0) && roomG l xs k0 k1 n (m + 1)
def roomB (l : List S63) (k0 : Int) (k1 : List Int) (ys : List Int) (x : Int) : Bool := roomG l (ys ++ [x]) k0 k1 (rd_T63 l (ys.length : Int)).f0.toNat x
theorem roomG_iff (l : List S63) (xs : List Int) (k0 : Int) (k1 : List Int) : ∀ (n : Nat) (x : Int), roomG l xs k0 k1 n x = true ↔ ∀ m, x ≤ m → m < x + n → fitB k0 k1 (useL l xs m 0 t0) = true
  | 0, x => by simp [roomG]; intro m h1 h2; omega
  | n + 1, x => by
    rw [roomG, Bool.and_eq_true, roomG_iff l xs k0 k1 n (x + 1)]
    constructor
    · intro h m h1 h2
      by_cases e : m = x
      · subst e; exact h.1
      · exact h.2 m (by omega) (by omega)
    · intro h; exact ⟨h x (by omega) (by omega), fun m h1 h2 => h m (by omega) (by omega)⟩
theorem room_inner (l : List S63) (xs : List Int) (at_ m k0 : Int) (k1 T : List Int) (hk : k1.length = 4) (hT : T.length = 4) (b : Bool) (hn : Ev (fun k => spec_l32Room.l0 k l xs at_ (wrap64 (m + 1)) k0 k1) b) :
    ∀ (s p r q : List Int), T = p ++ s → k1 = q ++ r → p.length = q.length → Ev (fun k => spec_l32Room.l1 k l xs at_ m T (p.length : Int) k0 k1) (leL s r && b) := by
  intro s
  induction s with
  | nil => intro p r q h1 h2 h3; refine ev_succ ?_; simp only [spec_l32Room.l1]; exact ev_neg (by subst h1; simp) (ev_eq hn (by cases r <;> simp [leL]))
  | cons x s ih =>
    intro p r q h1 h2 h3
    cases r with
    | nil => exfalso; subst h1; subst h2; simp at hk hT; omega
    | cons y r =>
      refine ev_succ ?_
      have ey : rd k1 (p.length : Int) = y := by rw [h3]; exact rds h2
      have hy : (p.length : Int) < (k1.length : Int) := by rw [h3]; exact len_at h2
      simp only [spec_l32Room.l1, rds h1, ey, wlen h1 (by omega)]
      refine ev_pos (len_at h1) (ev_pos (by omega) (ev_pos hy (ev_ite (fun h => ev_const ?_) (fun h => ev_eq (ih (p ++ [x]) r (q ++ [y]) (snoc_at h1) (snoc_at h2) (by simp [h3])) ?_))))
      · have e : decide (x ≤ y) = false := decide_eq_false (by omega)
        simp [leL, e]
      · have e : decide (x ≤ y) = true := decide_eq_true (by omega)
        simp [leL, e]
theorem room_loop (l : List S63) (hl : ∀ x ∈ l, S1 x) (hb : l.length ≤ 1048576) (xs : List Int) (hx : ∀ x ∈ xs, -1099511627776 ≤ x ∧ x ≤ 1099511627776) (hxl : xs.length ≤ l.length) (at_ : Nat) (ha : at_ < xs.length)
    (k0 : Int) (k1 : List Int) (hk : k1.length = 4) : ∀ (n : Nat) (m : Int), m + n = rd xs (at_ : Int) + (rd_T63 l (at_ : Int)).f0 → -1099511627776 ≤ m →
    Ev (fun k => spec_l32Room.l0 k l xs (at_ : Int) m k0 k1) (roomG l xs k0 k1 n m) := by
  have h1 := hx _ (rd_lt xs (at_ : Int) (by omega) (by omega))
  have h2 : S1 (rd_T63 l (at_ : Int)) := by rw [rd63n l at_ (by omega)]; exact hl _ (List.getElem_mem _)
  have hw : wrap64 (rd xs (at_ : Int) + (rd_T63 l (at_ : Int)).f0) = rd xs (at_ : Int) + (rd_T63 l (at_ : Int)).f0 := by have := h2.1; exact w64 (by omega) (by omega)
  intro n
  induction n with
  | zero =>
    intro m hm hm0; refine ev_succ ?_; simp only [spec_l32Room.l0, hw]
    exact ev_pos (by omega) (ev_pos (by omega) (ev_pos (by omega) (ev_neg (by omega) (Ev.now _))))
  | succ n ih =>
    intro m hm hm0; refine ev_succ ?_; simp only [spec_l32Room.l0, hw]
    have hw1 : wrap64 (m + 1) = m + 1 := by have := h2.1; exact w64 (by omega) (by omega)
    have hn := ih (m + 1) (by omega) (by omega)
    rw [← hw1] at hn
    refine ev_pos (by omega) (ev_pos (by omega) (ev_pos (by omega) (ev_pos (by omega) (Ev.bind (spec_use l hl xs hx hxl hb m) ?_))))
    rw [roomG, fitB]
    refine ev_ite (fun h => ev_const ?_) (fun h => ev_eq (room_inner l xs (at_ : Int) m k0 k1 _ hk (by rw [useL_len]; rfl) _ hn _ [] k1 [] rfl rfl rfl) ?_)
    · have e : decide ((useL l xs m 0 t0).1 ≤ k0) = false := decide_eq_false (by omega)
      rw [e]; rfl
    · have e : decide ((useL l xs m 0 t0).1 ≤ k0) = true := decide_eq_true (by omega)
      rw [e, Bool.true_and, hw1]
theorem spec_room (l : List S63) (hl : ∀ x ∈ l, S1 x) (hb : l.length ≤ 1048576) (ys : List Int) (x : Int) (hx : ∀ z ∈ ys ++ [x], -1099511627776 ≤ z ∧ z ≤ 1099511627776) (hxl : ys.length < l.length) (k0 : Int) (k1 : List Int) (hk : k1.length = 4) :
    Ev (fun k => spec_l32Room.f k l k0 k1 (ys ++ [x])) (roomB l k0 k1 ys x) := by
  unfold spec_l32Room.f
  have e : wrap64 (((ys ++ [x]).length : Int) - 1) = (ys.length : Int) := by rw [w64 (by omega) (by simp; omega)]; simp
  have e2 : rd (ys ++ [x]) (ys.length : Int) = x := rd_at ys x []
  have h1 := hx x (by simp)
  have h2 : S1 (rd_T63 l (ys.length : Int)) := by rw [rd63n l ys.length hxl]; exact hl _ (List.getElem_mem _)
  rw [e, e2]
  refine ev_pos (by omega) (ev_pos (by simp <;> omega) (room_loop l hl hb (ys ++ [x]) hx (by simp; omega) ys.length (by simp) k0 k1 hk _ x ?_ (by omega)))
  rw [e2]; have := h2.1; omega
def Alone (k0 : Int) (k1 : List Int) (s : S63) : Prop := s.f1 ≤ k0 ∧ (s.f2 = 0 ∨ rd k1 (s.f2 - 1) > 0)
instance (k0 : Int) (k1 : List Int) (s : S63) : Decidable (Alone k0 k1 s) := by unfold Alone; infer_instance
theorem useL_off (m : Int) (x : Int) (s : S63) (r : List S63) : ∀ (q : List S63) (p : List Int) (h : Int) (t : List Int), p.length = q.length → (∀ j (h1 : j < p.length) (h2 : j < q.length), ¬ onAt q[j] p[j] m) →
    useL (q ++ s :: r) (p ++ [x]) m h t = if onAt s x m then (h + s.f1, tick s t) else (h, t)
  | [], [], h, t, _, _ => by
    simp only [List.nil_append]
    rw [useL]
    split <;> (cases r <;> simp [useL])
  | y :: q, z :: p, h, t, e, hoff => by
    have h0 := hoff 0 (by simp) (by simp)
    simp only [List.getElem_cons_zero] at h0
    simp only [List.cons_append]
    rw [useL, if_neg h0]
    exact useL_off m x s r q p h t (by simpa using e) (fun j h1 h2 => by have := hoff (j + 1) (by simpa using h1) (by simpa using h2); simpa using this)
  | [], z :: p, h, t, e, _ => by simp at e
  | y :: q, [], h, t, e, _ => by simp at e
theorem le_tick (s : S63) (hs : S1 s) (k0 : Int) (k1 : List Int) (hk : KOk k0 k1) (ha : Alone k0 k1 s) : leL (tick s t0) k1 = true := by
  obtain ⟨h1, h2, h3⟩ := hk
  match k1, h3 with
  | [a, b, c, d], _ =>
    have ea := h1 a (by simp); have eb := h1 b (by simp); have ec := h1 c (by simp); have ed := h1 d (by simp)
    have hz := hs.2.2
    have : s.f2 = 0 ∨ s.f2 = 1 ∨ s.f2 = 2 ∨ s.f2 = 3 ∨ s.f2 = 4 := by omega
    have h4 := ha.2
    unfold tick t0
    rcases this with e | e | e | e | e <;> rw [e] at h4 ⊢ <;> simp [rd, List.replicate, leL] at h4 ⊢ <;> omega
theorem room_late (l : List S63) (hl : ∀ x ∈ l, S1 x) (k0 : Int) (k1 : List Int) (hk : KOk k0 k1) (ys : List Int) (hy : ys.length < l.length) (ha : Alone k0 k1 (rd_T63 l (ys.length : Int))) (x : Int)
    (hx : ∀ j (h : j < ys.length), ys[j] + (rd_T63 l (j : Int)).f0 ≤ x) : roomB l k0 k1 ys x = true := by
  unfold roomB
  rw [roomG_iff]
  intro m h1 h2
  have e0 := rd63n l ys.length hy
  obtain ⟨q, s, r, hq, he⟩ : ∃ q s r, q.length = ys.length ∧ l = q ++ s :: r := ⟨l.take ys.length, l[ys.length], l.drop (ys.length + 1), by simp; omega, by simp⟩
  have es : rd_T63 l (ys.length : Int) = s := by rw [← hq]; exact rd63s he
  have hs : S1 s := hl s (by subst he; simp)
  rw [es] at ha h2
  have hon : onAt s x m := ⟨h1, by have := hs.1; omega⟩
  rw [he, useL_off m x s r q ys 0 t0 hq.symm (fun j h3 h4 => by
    have := hx j h3
    have e1 : rd_T63 l (j : Int) = q[j] := by rw [rd63n l j (by omega)]; subst he; simp [h4]
    rw [e1] at this
    unfold onAt; omega), if_pos hon]
  unfold fitB
  simp only [Int.zero_add, Bool.and_eq_true, decide_eq_true_eq]
  exact ⟨ha.1, le_tick s hs k0 k1 hk ha⟩
theorem first_at (P : Int → Bool) (M : Int) (hM : P M = true) : ∀ (n : Nat) (x : Int), x + n = M → ∃ v, x ≤ v ∧ v ≤ M ∧ P v = true ∧ ∀ u, x ≤ u → u < v → P u = false
  | 0, x, h => ⟨x, by omega, by omega, by have : x = M := by omega
                                          rw [this]; exact hM, fun u h1 h2 => by omega⟩
  | n + 1, x, h => by
    by_cases hp : P x = true
    · exact ⟨x, by omega, by omega, hp, fun u h1 h2 => by omega⟩
    · obtain ⟨v, h1, h2, h3, h4⟩ := first_at P M hM n (x + 1) (by omega)
      refine ⟨v, by omega, h2, h3, fun u h5 h6 => ?_⟩
      by_cases e : u = x
      · subst e; simpa using hp
      · exact h4 u (by omega) h6
def pvG (l : List S63) (k0 : Int) (k1 : List Int) (xs : List Int) : Nat → Nat → Bool
  | 0, _ => true
  | n + 1, i => decide (aft l xs (rd_T63 l (i : Int)).f3 0 ≤ rd xs (i : Int)) && roomB l k0 k1 (xs.take i) (rd xs (i : Int)) && pvG l k0 k1 xs n (i + 1)
theorem pvG_iff (l : List S63) (k0 : Int) (k1 : List Int) (xs : List Int) : ∀ (n i : Nat), pvG l k0 k1 xs n i = true ↔ ∀ j, i ≤ j → j < i + n → aft l xs (rd_T63 l (j : Int)).f3 0 ≤ rd xs (j : Int) ∧ roomB l k0 k1 (xs.take j) (rd xs (j : Int)) = true
  | 0, i => by simp [pvG]; intro j h1 h2; omega
  | n + 1, i => by
    rw [pvG, Bool.and_eq_true, Bool.and_eq_true, decide_eq_true_eq, pvG_iff l k0 k1 xs n (i + 1)]
    constructor
    · intro h j h1 h2
      by_cases e : j = i
      · subst e; exact h.1
      · exact h.2 j (by omega) (by omega)
    · intro h; exact ⟨h i (by omega) (by omega), fun j h1 h2 => h j (by omega) (by omega)⟩
def PV (l : List S63) (k0 : Int) (k1 : List Int) (xs : List Int) : Prop := KOk k0 k1 ∧ StOk l xs ∧ pvG l k0 k1 xs l.length 0 = true
instance (l : List S63) (k0 : Int) (k1 : List Int) (xs : List Int) : Decidable (PV l k0 k1 xs) := by unfold PV; infer_instance
theorem take_rd (xs : List Int) (i : Nat) (h : i < xs.length) : xs.take (i + 1) = xs.take i ++ [rd xs (i : Int)] := by
  rw [rdn xs i h]; simp
theorem spec_st_loop (l : List S63) (hs : Short l) (xs : List Int) (hb : xs.length ≤ 1099511627776) : ∀ (s p : List Int), xs = p ++ s →
    Ev (fun k => spec_l32Starts.l0 k l xs (p.length : Int)) (decide ((∀ x ∈ s, 0 ≤ x ∧ x ≤ 999) ∧ SV l ∧ xs.length = l.length)) := by
  intro s
  induction s with
  | nil =>
    intro p hx; refine ev_succ ?_; simp only [spec_l32Starts.l0]
    refine ev_neg (by subst hx; simp) (Ev.bind (spec_sv l hs) (ev_ite (fun h1 => ev_const ?_) (fun h1 => ev_const ?_)))
    · rw [Bool.eq_iff_iff]; simp only [decide_eq_true_eq, beq_iff_eq] at h1 ⊢; simp [h1]; omega
    · symm; exact decide_eq_false (fun z => h1 (decide_eq_true z.2.1))
  | cons x s ih =>
    intro p hx; refine ev_succ ?_
    simp only [spec_l32Starts.l0, rds hx, wlen hx hb, inn, Option.bind_some]
    refine ev_pos (len_at hx) (ev_pos (by omega) (ev_ite (fun h1 => ev_eq (ih (p ++ [x]) (snoc_at hx)) (dece ?_)) (fun h1 => ev_const ?_)))
    · have h1' := of_decide_eq_true h1; simp [h1']
    · symm; exact decide_eq_false (fun z => h1 (decide_eq_true (z.1 x (by simp))))
theorem spec_st (l : List S63) (hs : Short l) (xs : List Int) (hb : xs.length ≤ 1099511627776) : Ev (fun k => spec_l32Starts.f k l xs) (decide (StOk l xs)) := spec_st_loop l hs xs hb xs [] rfl
theorem spec_pv_loop (l : List S63) (hl : SV l) (hs : Short l) (k0 : Int) (k1 : List Int) (hk : KOk k0 k1) (xs : List Int) (hx : ∀ x ∈ xs, 0 ≤ x ∧ x ≤ 999) (hxl : xs.length = l.length) : ∀ (n i : Nat), i + n = l.length →
    Ev (fun k => spec_PlanValid.l0 k l xs (i : Int) k0 k1) (pvG l k0 k1 xs n i) := by
  have hl8 : l.length ≤ 8 := by have := hl.2; omega
  intro n
  induction n with
  | zero => intro i hi; refine ev_succ ?_; simp only [spec_PlanValid.l0]; exact ev_neg (by omega) (Ev.now _)
  | succ n ih =>
    intro i hi; refine ev_succ ?_
    have hil : i < l.length := by omega
    have e := rd63n l i hil
    have hw : wrap64 ((i : Int) + 1) = ((i + 1 : Nat) : Int) := by rw [w64 (by omega) (by omega)]; omega
    simp only [spec_PlanValid.l0, hw]
    have ha := spec_aft hl hs xs (fun x h => by have := hx x h; omega) i hil (by omega)
    rw [← e] at ha
    have hr := spec_room l hl.1.s1 (by omega) (xs.take i) (rd xs (i : Int)) (fun z hz => by
      rcases List.mem_append.1 hz with hz | hz
      · have := hx z (List.mem_of_mem_take hz); omega
      · have := hx _ (rd_lt xs (i : Int) (by omega) (by omega)); simp at hz; omega) (by simp; omega) k0 k1 hk.2.2
    rw [← take_rd xs i (by omega)] at hr
    refine ev_pos (by omega) (ev_pos (by omega) (ev_pos (by omega) (Ev.bind ha ?_)))
    rw [pvG]
    refine ev_ite (fun h => ev_const ?_) (fun h => ev_pos (by omega) (ev_pos (by omega) (Ev.bind hr (ev_ite (fun h2 => ev_eq (ih (i + 1) (by omega)) ?_) (fun h2 => ev_const ?_)))))
    · rw [decide_eq_false (by omega)]; rfl
    · rw [h2, decide_eq_true (by omega)]; rfl
    · rw [Bool.not_eq_true] at h2; rw [h2]; simp
theorem spec_pv (l : List S63) (hs : Short l) (k0 : Int) (k1 : List Int) (hk : k1.length ≤ 1099511627776) (xs : List Int) (hb : xs.length ≤ 1099511627776) : Ev (fun k => spec_PlanValid.f k l k0 k1 xs) (decide (PV l k0 k1 xs)) := by
  have no : ∀ t, t = true → Ev (fun k => spec_PlanValid.j0 k l xs t k0 k1) false := by
    intro t ht; refine ev_succ ?_; simp only [spec_PlanValid.j0]; exact ev_pos ht (Ev.now _)
  unfold spec_PlanValid.f
  refine Ev.bind (spec_kv k0 k1 hk) (ev_ite (fun h1 => Ev.bind (spec_st l hs xs hb) ?_) (fun h1 => ev_eq (no _ rfl) ?_))
  · have h1' := of_decide_eq_true h1
    by_cases h2 : StOk l xs
    · refine ev_succ ?_; simp only [spec_PlanValid.j0]
      refine ev_neg (by simp [h2]) (ev_eq (spec_pv_loop l h2.2.1 hs k0 k1 h1' xs h2.1 h2.2.2 l.length 0 (by omega)) ?_)
      rw [Bool.eq_iff_iff, decide_eq_true_eq]; exact ⟨fun h => ⟨h1', h2, h⟩, fun h => h.2.2⟩
    · refine ev_eq (no _ (by simp [h2])) ?_
      symm; exact decide_eq_false (fun h => h2 h.2.1)
  · symm; exact decide_eq_false (fun h => h1 (decide_eq_true h.1))
def hits (s : S63) (x o0 o1 o2 : Int) : Prop := s.f2 = o0 ∧ x < o2 ∧ o1 < x + s.f0
instance (s : S63) (x o0 o1 o2 : Int) : Decidable (hits s x o0 o1 o2) := by unfold hits; infer_instance
theorem hit_ev (s : S63) (hs : S1 s) (x o0 o1 o2 : Int) (hx : -1099511627776 ≤ x ∧ x ≤ 1099511627776) : spec_l33Hit.f s.f0 s.f1 s.f2 s.f3 x o0 o1 o2 = some (decide (hits s x o0 o1 o2)) := by
  unfold spec_l33Hit.f hits
  have := hs.1
  rw [w64 (x := x + s.f0) (by omega) (by omega)]
  by_cases h1 : s.f2 = o0
  · rw [if_pos h1]
    by_cases h2 : x < o2
    · rw [if_pos h2]; simp [h1, h2]
    · rw [if_neg h2]; simp [h2]
  · rw [if_neg h1]; simp [h1]
def OOk (o0 o1 o2 : Int) : Prop := (1 ≤ o0 ∧ o0 ≤ 4) ∧ (0 ≤ o1 ∧ o1 ≤ 999) ∧ (o1 ≤ o2 ∧ o2 ≤ 999)
instance (o0 o1 o2 : Int) : Decidable (OOk o0 o1 o2) := by unfold OOk; infer_instance
theorem spec_oo (o0 o1 o2 : Int) : spec_l33Outage.f o0 o1 o2 = some (decide (OOk o0 o1 o2)) := by
  unfold spec_l33Outage.f
  simp only [inn, Option.bind_some]
  by_cases h1 : 1 ≤ o0 ∧ o0 ≤ 4
  · rw [if_pos (decide_eq_true h1)]
    by_cases h2 : 0 ≤ o1 ∧ o1 ≤ 999
    · rw [if_pos (decide_eq_true h2)]; simp [OOk, h1, h2]
    · rw [if_neg (by simpa using h2)]; congr 1; symm; exact decide_eq_false (fun h => h2 h.2.1)
  · rw [if_neg (by simpa using h1)]; congr 1; symm; exact decide_eq_false (fun h => h1 h.1)
theorem useL_last (m : Int) (x : Int) (s : S63) (r : List S63) (hon : onAt s x m) : ∀ (q : List S63) (p : List Int) (h : Int) (t : List Int), p.length = q.length →
    useL (q ++ s :: r) (p ++ [x]) m h t = ((useL q p m h t).1 + s.f1, tick s (useL q p m h t).2)
  | [], [], h, t, _ => by
    simp only [List.nil_append]
    rw [useL, if_pos hon]
    cases r <;> simp [useL]
  | y :: q, z :: p, h, t, e => by
    simp only [List.cons_append]
    rw [useL, useL]
    split
    · exact useL_last m x s r hon q p _ _ (by simpa using e)
    · exact useL_last m x s r hon q p _ _ (by simpa using e)
  | [], z :: p, h, t, e => by simp at e
  | y :: q, [], h, t, e => by simp at e
theorem leL_get : ∀ (a b : List Int) (i : Nat) (h1 : i < a.length) (h2 : i < b.length), leL a b = true → a[i] ≤ b[i]
  | x :: r, y :: s, 0, h1, h2, h => by simp [leL] at h ⊢; exact h.1
  | x :: r, y :: s, i + 1, h1, h2, h => by
    simp only [leL, Bool.and_eq_true] at h
    exact leL_get r s i (by simpa using h1) (by simpa using h2) h.2
  | [], _, i, h1, _, _ => by simp at h1
  | _ :: _, [], i, _, h2, _ => by simp at h2
theorem split_at (l : List S63) (n : Nat) (h : n < l.length) : ∃ q s r, q.length = n ∧ l = q ++ s :: r ∧ rd_T63 l (n : Int) = s := by
  refine ⟨l.take n, l[n], l.drop (n + 1), by simp; omega, by simp, ?_⟩
  rw [rd63n l n h]
theorem room_alone (l : List S63) (hl : ∀ x ∈ l, S1 x) (k0 : Int) (k1 : List Int) (hk : k1.length = 4) (ys : List Int) (hy : ys.length < l.length) (x : Int) (h : roomB l k0 k1 ys x = true) : Alone k0 k1 (rd_T63 l (ys.length : Int)) := by
  unfold roomB at h
  rw [roomG_iff] at h
  obtain ⟨q, s, r, hq, he, es⟩ := split_at l ys.length hy
  have hs : S1 s := hl s (by subst he; simp)
  rw [es] at h ⊢
  have h1 := h x (by omega) (by have := hs.1; omega)
  have hq' : ∀ x ∈ q, S1 x := fun x hx => hl x (by subst he; simp [hx])
  rw [he, useL_last x x s r ⟨by omega, by have := hs.1; omega⟩ q ys 0 t0 hq.symm] at h1
  have hn := useL_nn q hq' ys x 0 t0 (by omega) (by simp [t0])
  have hlen := useL_len q ys x 0 t0
  generalize useL q ys x 0 t0 = u at h1 hn hlen
  unfold fitB at h1
  simp only [Bool.and_eq_true, decide_eq_true_eq] at h1
  refine ⟨by omega, ?_⟩
  by_cases hz : s.f2 = 0
  · exact .inl hz
  · right
    have h4 : u.2.length = 4 := by rw [hlen]; rfl
    have hz2 := hs.2.2
    have h5 := leL_get _ _ (s.f2 - 1).toNat (by rw [tick_len]; omega) (by omega) h1.2
    have e1 : rd k1 (s.f2 - 1) = k1[(s.f2 - 1).toNat]'(by omega) := by
      have := rdn k1 (s.f2 - 1).toNat (by omega)
      rw [← this]; congr 1; omega
    have h6 : (tick s u.2)[(s.f2 - 1).toNat]'(by rw [tick_len]; omega) = rd u.2 (s.f2 - 1) + 1 := by
      unfold tick; simp [show s.f2 > 0 by omega]
    have h7 := hn.2 _ (rd_lt u.2 (s.f2 - 1) (by omega) (by omega))
    omega
theorem pv_alone {l : List S63} {k0 : Int} {k1 xs : List Int} (h : PV l k0 k1 xs) : ∀ i : Nat, i < l.length → Alone k0 k1 (rd_T63 l (i : Int)) := by
  intro i hi
  have h1 := (pvG_iff l k0 k1 xs _ _).1 h.2.2 i (by omega) (by omega)
  have hlen : (xs.take i).length = i := by have := h.2.1.2.2; simp; omega
  have := room_alone l h.2.1.2.1.1.s1 k0 k1 h.1.2.2 (xs.take i) (by omega) _ h1.2
  rw [hlen] at this; exact this
def mayB (l : List S63) (k0 : Int) (k1 : List Int) (o0 o1 o2 : Int) (ys : List Int) (x : Int) : Bool := !decide (hits (rd_T63 l (ys.length : Int)) x o0 o1 o2) && roomB l k0 k1 ys x
theorem or_search (l : List S63) (hl : ∀ x ∈ l, S1 x) (hb : l.length ≤ 8) (k0 : Int) (k1 : List Int) (hk : k1.length = 4) (xs : List Int) (o0 o1 o2 : Int) (ys : List Int) (hy : ∀ x ∈ ys, 0 ≤ x ∧ x ≤ 1099511627776) (hyl : ys.length < l.length) (v : Int) (hv1 : v ≤ 1099511627776) (hv : mayB l k0 k1 o0 o1 o2 ys v = true)
    (res : List Int × Bool) (h999 : v > 999 → res = ([], false)) (hn : v ≤ 999 → Ev (fun k => spec_OutageRepair.l0 k l xs (ys ++ [v]) (wrap64 ((ys.length : Int) + 1)) k0 k1 o0 o1 o2) res) : ∀ (n : Nat) (x : Int), x + n = v → 0 ≤ x → (∀ u, x ≤ u → u < v → mayB l k0 k1 o0 o1 o2 ys u = false) →
    Ev (fun k => spec_OutageRepair.l1 k l xs ys (ys.length : Int) x k0 k1 o0 o1 o2) res := by
  have hs : S1 (rd_T63 l (ys.length : Int)) := by rw [rd63n l ys.length hyl]; exact hl _ (List.getElem_mem _)
  have hr : ∀ x, 0 ≤ x → x ≤ v → Ev (fun k => spec_l32Room.f k l k0 k1 (ys ++ [x])) (roomB l k0 k1 ys x) := fun x h0 h1 => spec_room l hl (by omega) ys x (fun z hz => by
    rcases List.mem_append.1 hz with hz | hz
    · have := hy z hz; omega
    · simp at hz; omega) hyl k0 k1 hk
  intro n
  induction n with
  | zero =>
    intro x hx h0 hno; refine ev_succ ?_
    obtain rfl : x = v := by omega
    simp only [spec_OutageRepair.l1, Option.bind_some, List.nil_append, hit_ev _ hs x o0 o1 o2 (by omega)]
    unfold mayB at hv
    simp only [Bool.and_eq_true, Bool.not_eq_true', decide_eq_false_iff_not] at hv
    refine ev_pos (by omega) (ev_pos (by omega) (ev_neg (by simpa using hv.1) (ev_pos (by simp; omega) (ev_pos (by simp; omega) (Ev.bind (hr x h0 (by omega)) (ev_pos hv.2 (ev_ite (fun h => ev_const (h999 h).symm) (fun h => ev_pos (by simp; omega) (hn (by omega))))))))))
  | succ n ih =>
    intro x hx h0 hno; refine ev_succ ?_
    have hx0 := hno x (by omega) (by omega)
    simp only [spec_OutageRepair.l1, Option.bind_some, List.nil_append, hit_ev _ hs x o0 o1 o2 (by omega)]
    rw [w64 (x := x + 1) (by omega) (by omega)]
    have hi := ih (x + 1) (by omega) (by omega) (fun u h1 h2 => hno u (by omega) h2)
    refine ev_pos (by omega) (ev_pos (by omega) (ev_ite (fun h => hi) (fun h => ev_pos (by simp; omega) (ev_pos (by simp; omega) (Ev.bind (hr x h0 (by omega)) (ev_neg ?_ hi))))))
    unfold mayB at hx0
    have h' : decide (hits (rd_T63 l (ys.length : Int)) x o0 o1 o2) = false := by simpa using h
    rw [h'] at hx0
    simpa using hx0
def RepAt (l : List S63) (k0 : Int) (k1 : List Int) (xs : List Int) (o0 o1 o2 : Int) (ys : List Int) (x : Int) : Prop :=
  max (rd xs (ys.length : Int)) (aft l ys (rd_T63 l (ys.length : Int)).f3 0) ≤ x ∧ mayB l k0 k1 o0 o1 o2 ys x = true ∧ ∀ u, max (rd xs (ys.length : Int)) (aft l ys (rd_T63 l (ys.length : Int)).f3 0) ≤ u → u < x → mayB l k0 k1 o0 o1 o2 ys u = false
def RGood (l : List S63) (k0 : Int) (k1 : List Int) (xs : List Int) (o0 o1 o2 : Int) (ys : List Int) : Prop := ∀ i (h : i < ys.length), RepAt l k0 k1 xs o0 o1 o2 (ys.take i) ys[i] ∧ ys[i] ≤ 999
theorem rgood_snoc {l : List S63} {k0 : Int} {k1 xs : List Int} {o0 o1 o2 : Int} {ys : List Int} {x : Int} (h : RGood l k0 k1 xs o0 o1 o2 ys) (hx : RepAt l k0 k1 xs o0 o1 o2 ys x) (ha : x ≤ 999) : RGood l k0 k1 xs o0 o1 o2 (ys ++ [x]) := by
  intro i hi
  by_cases e : i = ys.length
  · subst e; simp only [List.take_left, List.getElem_concat_length]; exact ⟨hx, ha⟩
  · have hi' : i < ys.length := by simp at hi; omega
    have := h i hi'
    rw [List.take_append_of_le_length (by omega), List.getElem_append_left hi']; exact this
theorem or_loop (l : List S63) (hl : SV l) (hs : Short l) (k0 : Int) (k1 : List Int) (hk : KOk k0 k1) (xs : List Int) (hx : ∀ x ∈ xs, 0 ≤ x ∧ x ≤ 999) (hxl : xs.length = l.length) (hal : ∀ i : Nat, i < l.length → Alone k0 k1 (rd_T63 l (i : Int))) (o0 o1 o2 : Int) (ho : o2 ≤ 999) :
    ∀ (n : Nat) (ys : List Int), ys.length + n = l.length → (∀ y ∈ ys, 0 ≤ y ∧ y ≤ 999) → RGood l k0 k1 xs o0 o1 o2 ys →
    ∃ out ok, Ev (fun k => spec_OutageRepair.l0 k l xs ys (ys.length : Int) k0 k1 o0 o1 o2) (out, ok) ∧ (ok = true → out.length = l.length ∧ (∀ y ∈ out, 0 ≤ y ∧ y ≤ 999) ∧ RGood l k0 k1 xs o0 o1 o2 out) ∧
      (ok = false → out = [] ∧ ∃ p v, p.length < l.length ∧ RGood l k0 k1 xs o0 o1 o2 p ∧ (∀ y ∈ p, 0 ≤ y ∧ y ≤ 999) ∧ RepAt l k0 k1 xs o0 o1 o2 p v ∧ 999 < v) := by
  have hl8 : l.length ≤ 8 := by have := hl.2; omega
  intro n
  induction n with
  | zero =>
    intro ys hy hB hG
    refine ⟨ys, true, ev_succ ?_, fun _ => ⟨by omega, hB, hG⟩, (fun h => by cases h)⟩
    simp only [spec_OutageRepair.l0]; exact ev_neg (by omega) (Ev.now _)
  | succ n ih =>
    intro ys hy hB hG
    have hyl : ys.length < l.length := by omega
    have e := rd63n l ys.length hyl
    have hs1 : S1 (rd_T63 l (ys.length : Int)) := by rw [e]; exact hl.1.s1 _ (List.getElem_mem _)
    have haft := spec_aft hl hs ys (fun x hx => by have := hB x hx; omega) ys.length hyl (by omega)
    rw [← e] at haft
    have hend : ∀ j (h : j < ys.length), ys[j] + (rd_T63 l (j : Int)).f0 ≤ 1098 := fun j h => by
      have h1 := hB _ (List.getElem_mem h)
      have h2 : S1 (rd_T63 l (j : Int)) := by rw [rd63n l j (by omega)]; exact hl.1.s1 _ (List.getElem_mem _)
      have := h2.1; omega
    have hale := aft_le l ys 1098 (rd_T63 l (ys.length : Int)).f3 0 (by omega) (fun a hm => by
      have := (hl.1.at ys.length hyl).2.all a (by rw [← e]; exact hm)
      obtain ⟨a, rfl⟩ := Int.eq_ofNat_of_zero_le this.1
      have h2 : a < ys.length := by omega
      rw [rdn ys a h2]; exact hend a h2)
    have hxa := hx _ (rd_lt xs (ys.length : Int) (by omega) (by omega))
    obtain ⟨d, hd⟩ := Int.eq_ofNat_of_zero_le (show 0 ≤ 1098 - max (rd xs (ys.length : Int)) (aft l ys (rd_T63 l (ys.length : Int)).f3 0) by omega)
    have hlate : mayB l k0 k1 o0 o1 o2 ys 1098 = true := by
      unfold mayB
      rw [room_late l hl.1.s1 k0 k1 hk ys hyl (hal _ hyl) 1098 hend]
      have : ¬ hits (rd_T63 l (ys.length : Int)) 1098 o0 o1 o2 := by unfold hits; omega
      simp [this]
    obtain ⟨v, v1, v2, v3, v4⟩ := first_at (mayB l k0 k1 o0 o1 o2 ys) 1098 hlate d (max (rd xs (ys.length : Int)) (aft l ys (rd_T63 l (ys.length : Int)).f3 0)) (by omega)
    have hstep : RepAt l k0 k1 xs o0 o1 o2 ys v := ⟨v1, v3, v4⟩
    obtain ⟨d2, hd2⟩ := Int.eq_ofNat_of_zero_le (show 0 ≤ v - max (rd xs (ys.length : Int)) (aft l ys (rd_T63 l (ys.length : Int)).f3 0) by omega)
    have hys : ∀ x ∈ ys, 0 ≤ x ∧ x ≤ 1099511627776 := fun x hx => by have := hB x hx; omega
    by_cases hv : v ≤ 999
    · obtain ⟨out, ok, h1, h2, h3⟩ := ih (ys ++ [v]) (by simp; omega) (fun y hy => by
        rcases List.mem_append.1 hy with hy | hy
        · exact hB y hy
        · simp at hy; omega) (rgood_snoc hG hstep hv)
      refine ⟨out, ok, ev_succ ?_, h2, h3⟩
      simp only [spec_OutageRepair.l0]
      refine ev_pos (by omega) (ev_pos (by omega) (ev_pos (by omega) (Ev.bind haft ?_)))
      rw [mx_max]
      refine or_search l hl.1.s1 hl8 k0 k1 hk.2.2 xs o0 o1 o2 ys hys hyl v (by omega) v3 _ (fun h => by omega) (fun _ => ?_) d2 _ (by omega) (by omega) v4
      rw [w64 (x := (ys.length : Int) + 1) (by omega) (by omega)]
      have e2 : ((ys ++ [v]).length : Int) = (ys.length : Int) + 1 := by simp
      rw [← e2]; exact h1
    · refine ⟨[], false, ev_succ ?_, (fun h => by cases h), fun _ => ⟨rfl, ys, v, hyl, hG, hB, hstep, by omega⟩⟩
      simp only [spec_OutageRepair.l0]
      refine ev_pos (by omega) (ev_pos (by omega) (ev_pos (by omega) (Ev.bind haft ?_)))
      rw [mx_max]
      exact or_search l hl.1.s1 hl8 k0 k1 hk.2.2 xs o0 o1 o2 ys hys hyl v (by omega) v3 _ (fun _ => rfl) (fun h => by omega) d2 _ (by omega) (by omega) v4
def Repd (l : List S63) (k0 : Int) (k1 : List Int) (xs : List Int) (o0 o1 o2 : Int) (out : List Int) (ok : Bool) : Prop :=
  (ok = true → (PV l k0 k1 xs ∧ OOk o0 o1 o2) ∧ out.length = l.length ∧ (∀ y ∈ out, 0 ≤ y ∧ y ≤ 999) ∧ RGood l k0 k1 xs o0 o1 o2 out) ∧
  (ok = false → out = [] ∧ (PV l k0 k1 xs ∧ OOk o0 o1 o2 → ∃ p v, p.length < l.length ∧ RGood l k0 k1 xs o0 o1 o2 p ∧ (∀ y ∈ p, 0 ≤ y ∧ y ≤ 999) ∧ RepAt l k0 k1 xs o0 o1 o2 p v ∧ 999 < v))
theorem spec_or (l : List S63) (hs : Short l) (k0 : Int) (k1 : List Int) (hk : k1.length ≤ 1099511627776) (xs : List Int) (hb : xs.length ≤ 1099511627776) (o0 o1 o2 : Int) :
    ∃ out ok, Ev (fun k => spec_OutageRepair.f k l k0 k1 xs o0 o1 o2) (out, ok) ∧ Repd l k0 k1 xs o0 o1 o2 out ok := by
  have no : ∀ t, t = true → Ev (fun k => spec_OutageRepair.j0 k l xs [] t k0 k1 o0 o1 o2) ([], false) := by
    intro t ht; refine ev_succ ?_; simp only [spec_OutageRepair.j0]; exact ev_pos ht (Ev.now _)
  unfold spec_OutageRepair.f
  simp only [Option.bind_some, spec_oo]
  by_cases h1 : PV l k0 k1 xs
  · by_cases h2 : OOk o0 o1 o2
    · obtain ⟨out, ok, h3, h4, h5⟩ := or_loop l h1.2.1.2.1 hs k0 k1 h1.1 xs h1.2.1.1 h1.2.1.2.2 (pv_alone h1) o0 o1 o2 (by have := h2.2.2; omega) l.length [] (by simp) (by simp) (fun i h => by simp at h)
      refine ⟨out, ok, Ev.bind (spec_pv l hs k0 k1 hk xs hb) (ev_pos (decide_eq_true h1) (ev_succ ?_)), fun h => ⟨⟨h1, h2⟩, h4 h⟩, fun h => ⟨(h5 h).1, fun _ => (h5 h).2⟩⟩
      simp only [spec_OutageRepair.j0]; exact ev_neg (by simp [h2]) h3
    · exact ⟨[], false, Ev.bind (spec_pv l hs k0 k1 hk xs hb) (ev_pos (decide_eq_true h1) (no _ (by simp [h2]))), (fun h => by cases h), fun _ => ⟨rfl, fun h => absurd h.2 h2⟩⟩
  · exact ⟨[], false, Ev.bind (spec_pv l hs k0 k1 hk xs hb) (ev_neg (by simp [h1]) (no _ rfl)), (fun h => by cases h), fun _ => ⟨rfl, fun h => absurd h.1 h1⟩⟩
theorem inw (a b c : Int) : impl_within.f a b c = some (decide (b ≤ a ∧ a ≤ c)) := by
  unfold impl_within.f
  by_cases h : a ≥ b
  · rw [if_pos h]; simp; omega
  · rw [if_neg h]; simp; omega
theorem impl_sv_inner (xs : List S63) (x : S63) (i : Nat) (hi : i ≤ 1099511627776) (hb : x.f3.length ≤ 1099511627776) (b : Bool) (hk : Ev (fun k => impl_StepsValid.l0 k xs xs (xs.length : Int) (wrap64 ((i : Int) + 1))) b) :
    ∀ (s p : List Int) (q : Option Int), x.f3 = p ++ s → LastI p q → Ev (fun k => impl_StepsValid.l1 k xs (i : Int) xs (xs.length : Int) (i : Int) x.f3 (x.f3.length : Int) (p.length : Int) x.f0 x.f1 x.f2 x.f3) (decide (AOk i q s) && b) := by
  intro s
  induction s with
  | nil => intro p q hx hq; refine ev_succ ?_; simp only [impl_StepsValid.l1]; exact ev_neg (by rw [hx]; simp) (ev_eq hk (by rw [decide_eq_true (show AOk (i : Int) q [] from trivial), Bool.true_and]))
  | cons a s ih =>
    intro p q hx hq; refine ev_succ ?_
    simp only [impl_StepsValid.l1, rds hx, wlen hx hb, inw, Option.bind_some]
    have hii : wrap64 ((i : Int) - 1) = (i : Int) - 1 := w64 (by omega) (by omega)
    rw [hii]
    refine ev_pos (len_at hx) (ev_pos (by omega) (ev_pos (len_at hx) ?_))
    have h := ih (p ++ [a]) (some a) (snoc_at hx) (lastI_snoc p a)
    refine ev_ite (fun h1 => ?_) (fun h1 => ev_const ?_)
    · have h1' := of_decide_eq_true h1
      rcases hq with ⟨rfl, rfl⟩ | ⟨p', y, rfl, rfl⟩
      · refine ev_neg (by simp) (ev_eq h ?_)
        congr 1; refine dece ?_; simp only [AOk, over]; exact ⟨fun h => ⟨h1', trivial, h⟩, fun h => h.2.2⟩
      · have e1 : wrap64 (((p' ++ [y]).length : Int) - 1) = (p'.length : Int) := by
          rw [w64 (by omega) (by rw [hx] at hb; simp at hb ⊢; omega)]; simp
        have hx2 : x.f3 = p' ++ y :: (a :: s) := by rw [hx]; simp
        rw [e1, rds hx2]
        refine ev_pos (by simp <;> omega) (ev_pos (by omega) (ev_pos (len_at hx2) (ev_ite (fun h3 => ev_const ?_) (fun h3 => ev_eq h ?_))))
        · symm; rw [Bool.and_eq_false_iff]; left; refine decide_eq_false (fun h => ?_)
          have := h.2.1; simp only [over] at this; omega
        · congr 1; refine dece ?_; simp only [AOk, over]; exact ⟨fun h => ⟨h1', by omega, h⟩, fun h => h.2.2⟩
    · symm; rw [Bool.and_eq_false_iff]; left; exact decide_eq_false (fun h => h1 (decide_eq_true h.1))
theorem impl_sv_loop (xs : List S63) (hb : Short xs) : ∀ (s p : List S63), xs = p ++ s →
    Ev (fun k => impl_StepsValid.l0 k xs xs (xs.length : Int) (p.length : Int)) (decide (SOk p.length s ∧ (xs.length : Int) ≤ 8)) := by
  intro s
  induction s with
  | nil => intro p hx; refine ev_succ ?_; simp only [impl_StepsValid.l0]; exact ev_neg (by subst hx; simp) (ev_const (dece (by simp [SOk])))
  | cons x s ih =>
    intro p hx; refine ev_succ ?_
    have hp : p.length ≤ 1099511627776 := by have := hb.1; subst hx; simp at this; omega
    have hi := ih (p ++ [x]) (snoc_at hx)
    rw [← wlen hx hb.1, List.length_append, List.length_singleton] at hi
    have hin := impl_sv_inner xs x p.length hp (hb.2 x (by subst hx; simp)) _ hi x.f3 [] none rfl (.inl ⟨rfl, rfl⟩)
    have hj0 : ∀ t, t = true → ∀ r, r = false → Ev (fun k => impl_StepsValid.j1 k xs (p.length : Int) xs (xs.length : Int) (p.length : Int) t x.f0 x.f1 x.f2 x.f3) r := by
      intro t ht r hr; subst hr; refine ev_succ ?_; simp only [impl_StepsValid.j1]; exact ev_pos ht (Ev.now _)
    have hj1 : ∀ t, t = false → Ev (fun k => impl_StepsValid.j1 k xs (p.length : Int) xs (xs.length : Int) (p.length : Int) t x.f0 x.f1 x.f2 x.f3) (decide (AOk p.length none x.f3) && decide (SOk (p.length + 1) s ∧ (xs.length : Int) ≤ 8)) := by
      intro t ht; refine ev_succ ?_; simp only [impl_StepsValid.j1]; exact ev_neg (by simp [ht]) hin
    have no : ¬ S1 x → false = decide (SOk p.length (x :: s) ∧ (xs.length : Int) ≤ 8) := fun h => (decide_eq_false (fun z => h z.1.1)).symm
    simp only [impl_StepsValid.l0, rd63s hx, inw, Option.bind_some]
    refine ev_pos (len_at hx) (ev_pos (by omega) (ev_pos (len_at hx) (ev_ite (fun h1 => ev_ite (fun h2 => ?_) (fun h2 => ?_)) (fun h1 => ?_))))
    · by_cases h3 : 0 ≤ x.f2 ∧ x.f2 ≤ 4
      · refine ev_eq (hj1 _ (by simp [h3])) ?_
        rw [Bool.eq_iff_iff]; simp only [Bool.and_eq_true, decide_eq_true_eq] at h1 h2 ⊢
        simp only [SOk, S1]; exact ⟨fun h => ⟨⟨⟨h1, h2, h3⟩, h.1, h.2.1⟩, h.2.2⟩, fun h => ⟨h.1.2.1, h.1.2.2, h.2⟩⟩
      · exact hj0 _ (by rw [decide_eq_false h3]; rfl) _ (no (fun z => h3 z.2.2)).symm
    · exact hj0 _ rfl _ (no (fun z => h2 (decide_eq_true z.2.1))).symm
    · exact hj0 _ rfl _ (no (fun z => h1 (decide_eq_true z.1))).symm
theorem impl_sv (xs : List S63) (hb : Short xs) : Ev (fun k => impl_StepsValid.f k xs) (decide (SV xs)) := impl_sv_loop xs hb xs [] rfl
theorem impl_use_loop (l : List S63) (hl : ∀ x ∈ l, S1 x) (xs : List Int) (hx : ∀ x ∈ xs, -1099511627776 ≤ x ∧ x ≤ 1099511627776) (hxl : xs.length = l.length) (hb : l.length ≤ 1048576) (m : Int) :
    ∀ (s p : List Int) (r q : List S63) (h : Int) (t : List Int), xs = p ++ s → l = q ++ r → p.length = q.length → t.length = 4 → 0 ≤ h → h ≤ 4 * p.length → (∀ x ∈ t, 0 ≤ x ∧ x ≤ p.length) →
    Ev (fun k => impl_useAt.l0 k xs m h t l (l.length : Int) (p.length : Int)) (useL r s m h t) := by
  intro s
  induction s with
  | nil =>
    intro p r q h t h1 h2 h3 h4 h5 h6 h7; refine ev_succ ?_; simp only [impl_useAt.l0]
    exact ev_neg (by subst h1; simp at hxl ⊢; omega) (ev_const (by cases r <;> simp [useL]))
  | cons x s ih =>
    intro p r q h t h1 h2 h3 h4 h5 h6 h7
    cases r with
    | nil => exfalso; subst h1; subst h2; simp at hxl; omega
    | cons y r =>
      have hpl : p.length ≤ 1048576 := by subst h1; simp at hxl; omega
      have ey : rd_T63 l (p.length : Int) = y := by rw [h3]; exact rd63s h2
      have hy := hl y (by subst h2; simp)
      have hxx := hx x (by subst h1; simp)
      have hyl : (p.length : Int) < (l.length : Int) := by rw [h3]; exact len_at h2
      have e1 : ((p ++ [x]).length : Int) = (p.length : Int) + 1 := by simp
      have off : ∀ t', t' = true → ¬ onAt y x m → Ev (fun k => impl_useAt.j1 k xs m h t l (l.length : Int) (p.length : Int) t' y.f0 y.f1 y.f2 y.f3) (useL (y :: r) (x :: s) m h t) := by
        intro t' ht hon; refine ev_succ ?_; simp only [impl_useAt.j1, wlen h1 (show xs.length ≤ 1099511627776 by omega)]
        rw [useL, if_neg hon]
        refine ev_pos ht (ih (p ++ [x]) r (q ++ [y]) _ _ (snoc_at h1) (snoc_at h2) (by simp [h3]) h4 h5 (by omega) ?_)
        intro z hz; have := h7 z hz; omega
      refine ev_succ ?_
      simp only [impl_useAt.l0, rds h1, ey]
      rw [w64 (x := x + y.f0) (by have := hy.1; omega) (by have := hy.1; omega)]
      refine ev_pos hyl (ev_pos (by omega) (ev_pos hyl (ev_pos (len_at h1) (ev_ite (fun h8 => off _ rfl (fun z => by have := z.1; omega)) (fun h8 => ?_)))))
      by_cases h9 : m ≥ x + y.f0
      · exact off _ (decide_eq_true h9) (fun z => by have := z.2; omega)
      · have hon : onAt y x m := ⟨by omega, by omega⟩
        refine ev_succ ?_; simp only [impl_useAt.j1, wlen h1 (show xs.length ≤ 1099511627776 by omega)]
        rw [w64 (x := h + y.f1) (by have := hy.2.1; omega) (by have := hy.2.1; omega), w64 (x := y.f2 - 1) (by have := hy.2.2; omega) (by have := hy.2.2; omega), useL, if_pos hon]
        refine ev_neg (by simp only [decide_eq_true_eq]; exact h9) (ev_ite (fun h9 => ?_) (fun h9 => ?_))
        · have hy2 := hy.2.2
          have hm := h7 _ (rd_lt t (y.f2 - 1) (by omega) (by omega))
          have e2 : t.set (y.f2 - 1).toNat (wrap64 (rd t (y.f2 - 1) + 1)) = tick y t := by rw [w64 (by omega) (by omega)]; unfold tick; rw [if_pos h9]
          rw [e2]
          refine ev_pos (by omega) (ev_pos (by omega) (ih (p ++ [x]) r (q ++ [y]) _ _ (snoc_at h1) (snoc_at h2) (by simp [h3]) (by rw [tick_len, h4]) (by have := hy.2.1; omega) (by have := hy.2.1; omega) ?_))
          intro z hz; have := tick_le y t p.length (by omega) h7 z hz; omega
        · have e2 : t = tick y t := by unfold tick; rw [if_neg h9]
          rw [← e2]
          refine ih (p ++ [x]) r (q ++ [y]) _ _ (snoc_at h1) (snoc_at h2) (by simp [h3]) h4 (by have := hy.2.1; omega) (by have := hy.2.1; omega) ?_
          intro z hz; have := h7 z hz; omega
theorem impl_use (l : List S63) (hl : ∀ x ∈ l, S1 x) (xs : List Int) (hx : ∀ x ∈ xs, -1099511627776 ≤ x ∧ x ≤ 1099511627776) (hxl : xs.length = l.length) (hb : l.length ≤ 1048576) (m : Int) :
    Ev (fun k => impl_useAt.f k l xs m) (useL l xs m 0 t0) := by
  unfold impl_useAt.f
  exact ev_pos (by omega) (impl_use_loop l hl xs hx hxl hb m xs [] l [] 0 t0 rfl rfl rfl (by simp [t0]) (by omega) (by simp) (fun x hx => by simp [t0] at hx; subst hx; simp))
def depsB (l : List S63) (xs : List Int) (x : Int) : List Int → Bool
  | [] => true
  | a :: r => decide (rd xs a + (rd_T63 l a).f0 ≤ x) && depsB l xs x r
def pfG (l : List S63) (k0 : Int) (k1 : List Int) (xs : List Int) : Nat → Nat → Bool
  | 0, _ => true
  | n + 1, i => depsB l xs (rd xs (i : Int)) (rd_T63 l (i : Int)).f3 && (fitB k0 k1 (useL l xs (rd xs (i : Int)) 0 t0) && pfG l k0 k1 xs n (i + 1))
theorem fits_tools (l : List S63) (xs : List Int) (i : Nat) (k0 : Int) (k1 T : List Int) (hk : k1.length = 4) (hT : T.length = 4) (b : Bool) (hn : Ev (fun k => impl_planFits.l0 k l xs l (l.length : Int) (wrap64 ((i : Int) + 1)) k0 k1) b) :
    ∀ (s p r q : List Int), T = p ++ s → k1 = q ++ r → p.length = q.length → Ev (fun k => impl_planFits.l2 k l xs l (l.length : Int) (i : Int) T (T.length : Int) (p.length : Int) k0 k1) (leL s r && b) := by
  intro s
  induction s with
  | nil => intro p r q h1 h2 h3; refine ev_succ ?_; simp only [impl_planFits.l2]; exact ev_neg (by subst h1; simp) (ev_eq hn (by cases r <;> simp [leL]))
  | cons x s ih =>
    intro p r q h1 h2 h3
    cases r with
    | nil => exfalso; subst h1; subst h2; simp at hk hT; omega
    | cons y r =>
      refine ev_succ ?_
      have ey : rd k1 (p.length : Int) = y := by rw [h3]; exact rds h2
      have hy : (p.length : Int) < (k1.length : Int) := by rw [h3]; exact len_at h2
      simp only [impl_planFits.l2, rds h1, ey, wlen h1 (by omega)]
      refine ev_pos (len_at h1) (ev_pos (by omega) (ev_pos (len_at h1) (ev_pos hy (ev_ite (fun h => ev_const ?_) (fun h => ev_eq (ih (p ++ [x]) r (q ++ [y]) (snoc_at h1) (snoc_at h2) (by simp [h3])) ?_)))))
      · have e : decide (x ≤ y) = false := decide_eq_false (by omega)
        simp [leL, e]
      · have e : decide (x ≤ y) = true := decide_eq_true (by omega)
        simp [leL, e]
theorem fits_deps (l : List S63) (hl : ∀ x ∈ l, S1 x) (xs : List Int) (hx : ∀ x ∈ xs, -1099511627776 ≤ x ∧ x ≤ 1099511627776) (hxl : xs.length = l.length) (hb : l.length ≤ 1048576) (i : Nat) (hi : i < l.length) (A : List Int) (hA : A.length ≤ 1099511627776)
    (ha : ∀ a ∈ A, 0 ≤ a ∧ a < (l.length : Int)) (k0 : Int) (k1 : List Int) (hk : k1.length = 4) (b : Bool) (hn : Ev (fun k => impl_planFits.l0 k l xs l (l.length : Int) (wrap64 ((i : Int) + 1)) k0 k1) b) : ∀ (s p : List Int), A = p ++ s →
    Ev (fun k => impl_planFits.l1 k l xs (i : Int) l (l.length : Int) (i : Int) A (A.length : Int) (p.length : Int) k0 k1) (depsB l xs (rd xs (i : Int)) s && (fitB k0 k1 (useL l xs (rd xs (i : Int)) 0 t0) && b)) := by
  intro s
  induction s with
  | nil =>
    intro p h1; refine ev_succ ?_; simp only [impl_planFits.l1]
    refine ev_neg (by subst h1; simp) (ev_pos (by omega) (ev_pos (by omega) (Ev.bind (impl_use l hl xs hx hxl hb _) ?_)))
    rw [depsB, Bool.true_and, fitB]
    refine ev_ite (fun h => ev_const ?_) (fun h => ev_eq (fits_tools l xs i k0 k1 _ hk (by rw [useL_len]; rfl) _ hn _ [] k1 [] rfl rfl rfl) ?_)
    · rw [decide_eq_false (by omega)]; rfl
    · rw [decide_eq_true (by omega)]; simp
  | cons a s ih =>
    intro p h1; refine ev_succ ?_
    have ha1 := ha a (by rw [h1]; simp)
    obtain ⟨a, rfl⟩ := Int.eq_ofNat_of_zero_le ha1.1
    have hal : a < l.length := by omega
    have h2 := hx _ (rd_lt xs (a : Int) (by omega) (by omega))
    have h3 : S1 (rd_T63 l (a : Int)) := by rw [rd63n l a hal]; exact hl _ (List.getElem_mem _)
    have h4 := h3.1
    simp only [impl_planFits.l1, rds h1, wlen h1 hA]
    rw [w64 (x := rd xs (a : Int) + (rd_T63 l (a : Int)).f0) (by omega) (by omega), depsB]
    refine ev_pos (len_at h1) (ev_pos (by omega) (ev_pos (len_at h1) (ev_pos (by omega) (ev_pos (by omega) (ev_pos (by omega) (ev_pos (by omega) (ev_pos (by omega) (ev_ite (fun h => ev_const ?_) (fun h => ev_eq (ih (p ++ [(a : Int)]) (snoc_at h1)) ?_)))))))))
    · rw [decide_eq_false (by omega)]; rfl
    · rw [decide_eq_true (p := rd xs (a : Int) + (rd_T63 l (a : Int)).f0 ≤ rd xs (i : Int)) (by omega), Bool.true_and]
theorem fits_loop (l : List S63) (hl : SV l) (hs : Short l) (xs : List Int) (hx : ∀ x ∈ xs, -1099511627776 ≤ x ∧ x ≤ 1099511627776) (hxl : xs.length = l.length) (k0 : Int) (k1 : List Int) (hk : k1.length = 4) : ∀ (n i : Nat), i + n = l.length →
    Ev (fun k => impl_planFits.l0 k l xs l (l.length : Int) (i : Int) k0 k1) (pfG l k0 k1 xs n i) := by
  have hl8 : l.length ≤ 8 := by have := hl.2; omega
  intro n
  induction n with
  | zero => intro i hi; refine ev_succ ?_; simp only [impl_planFits.l0]; exact ev_neg (by omega) (Ev.now _)
  | succ n ih =>
    intro i hi; refine ev_succ ?_; simp only [impl_planFits.l0]
    have hil : i < l.length := by omega
    have e := rd63n l i hil
    have hn := ih (i + 1) (by omega)
    have hw : wrap64 ((i : Int) + 1) = ((i + 1 : Nat) : Int) := by rw [w64 (by omega) (by omega)]; omega
    rw [← hw] at hn
    refine ev_pos (by omega) (ev_pos (by omega) (ev_pos (by omega) (fits_deps l hl.1.s1 xs hx hxl (by omega) i hil (rd_T63 l (i : Int)).f3 (by rw [e]; exact hs.2 _ (List.getElem_mem _)) (fun a ha => ?_) k0 k1 hk _ hn _ [] rfl)))
    rw [e] at ha
    have := (hl.1.at i hil).2.all a ha
    omega
theorem impl_fits (l : List S63) (hl : SV l) (hs : Short l) (xs : List Int) (hx : ∀ x ∈ xs, -1099511627776 ≤ x ∧ x ≤ 1099511627776) (hxl : xs.length = l.length) (k0 : Int) (k1 : List Int) (hk : k1.length = 4) :
    Ev (fun k => impl_planFits.f k l k0 k1 xs) (pfG l k0 k1 xs l.length 0) := fits_loop l hl hs xs hx hxl k0 k1 hk l.length 0 (by omega)
def onF (m : Int) (z : S63 × Int) : Prop := onAt z.1 z.2 m
instance (m : Int) (z : S63 × Int) : Decidable (onF m z) := by unfold onF; infer_instance
def hsum (m : Int) : List (S63 × Int) → Int
  | [] => 0
  | z :: r => (if onF m z then z.1.f1 else 0) + hsum m r
def tsum (m j : Int) : List (S63 × Int) → Int
  | [] => 0
  | z :: r => (if onF m z ∧ z.1.f2 = j + 1 then 1 else 0) + tsum m j r
theorem rd_set (t : List Int) (a j v : Int) (ha : 0 ≤ a) (hj : 0 ≤ j) (hjl : j < t.length) : rd (t.set a.toNat v) j = if j = a then v else rd t j := by
  unfold rd
  rw [List.getD_eq_getElem?_getD, List.getD_eq_getElem?_getD, List.getElem?_set]
  by_cases h : j = a
  · subst h
    have h9 : j.toNat < t.length := by omega
    rw [if_pos rfl, if_pos rfl, if_pos h9]; rfl
  · rw [if_neg (by omega), if_neg h]
theorem useL_sums : ∀ (l : List S63) (hl : ∀ x ∈ l, S1 x) (xs : List Int) (m h : Int) (t : List Int), t.length = 4 → (useL l xs m h t).1 = h + hsum m (l.zip xs) ∧ ∀ j, 0 ≤ j → j < 4 → rd (useL l xs m h t).2 j = rd t j + tsum m j (l.zip xs)
  | s :: r, hl, x :: q, m, h, t, ht => by
    have hs := hl s (by simp)
    have hr : ∀ x ∈ r, S1 x := fun x hx => hl x (by simp [hx])
    have hs2 := hs.2.2
    simp only [List.zip_cons_cons, hsum, tsum]
    rw [useL]
    by_cases ho : onAt s x m
    · have ho' : onF m (s, x) := ho
      rw [if_pos ho, if_pos ho']
      have ih := useL_sums r hr q m (h + s.f1) (tick s t) (by rw [tick_len, ht])
      refine ⟨by rw [ih.1]; show h + s.f1 + _ = h + (s.f1 + _); omega, fun j h0 h1 => ?_⟩
      rw [ih.2 j h0 h1]
      unfold tick
      by_cases hz : s.f2 > 0
      · rw [if_pos hz, rd_set t _ j _ (by omega) h0 (by omega)]
        by_cases hj : j = s.f2 - 1
        · rw [if_pos hj, if_pos ⟨ho', by show s.f2 = j + 1; omega⟩, ← hj]; omega
        · rw [if_neg hj, if_neg (fun z => hj (by have := z.2; show j = s.f2 - 1; have h9 : s.f2 = j + 1 := z.2; omega))]; omega
      · rw [if_neg hz, if_neg (fun z => hz (by have h9 : s.f2 = j + 1 := z.2; omega))]; omega
    · have ho' : ¬ onF m (s, x) := ho
      rw [if_neg ho, if_neg ho']
      have ih := useL_sums r hr q m h t ht
      refine ⟨by rw [ih.1]; omega, fun j h0 h1 => ?_⟩
      rw [ih.2 j h0 h1, if_neg (fun z => ho' z.1)]; omega
  | [], _, xs, m, h, t, _ => by rw [useL]; simp [hsum, tsum]; simp
  | s :: r, _, [], m, h, t, _ => by rw [useL]; simp [hsum, tsum]; simp
theorem leL_iff (a b : List Int) (ha : a.length = 4) (hb : b.length = 4) : leL a b = true ↔ ∀ j, 0 ≤ j → j < 4 → rd a j ≤ rd b j := by
  match a, ha, b, hb with
  | [a0, a1, a2, a3], _, [b0, b1, b2, b3], _ =>
    simp only [leL, Bool.and_true, Bool.and_eq_true, decide_eq_true_eq]
    constructor
    · rintro ⟨h0, h1, h2, h3⟩ j hj0 hj1
      have : j = 0 ∨ j = 1 ∨ j = 2 ∨ j = 3 := by omega
      rcases this with rfl | rfl | rfl | rfl
      · exact h0
      · exact h1
      · exact h2
      · exact h3
    · intro h; exact ⟨h 0 (by omega) (by omega), h 1 (by omega) (by omega), h 2 (by omega) (by omega), h 3 (by omega) (by omega)⟩
def Fit (k0 : Int) (k1 : List Int) (P : List (S63 × Int)) (m : Int) : Prop := hsum m P ≤ k0 ∧ ∀ j, 0 ≤ j → j < 4 → tsum m j P ≤ rd k1 j
theorem fit_iff (l : List S63) (hl : ∀ x ∈ l, S1 x) (xs : List Int) (k0 : Int) (k1 : List Int) (hk : k1.length = 4) (m : Int) : fitB k0 k1 (useL l xs m 0 t0) = true ↔ Fit k0 k1 (l.zip xs) m := by
  have hu := useL_sums l hl xs m 0 t0 rfl
  have hlen : (useL l xs m 0 t0).2.length = 4 := by rw [useL_len]; rfl
  unfold fitB Fit
  rw [Bool.and_eq_true, decide_eq_true_eq, leL_iff _ _ hlen hk, hu.1, Int.zero_add]
  have e : ∀ j, 0 ≤ j → j < 4 → rd t0 j = 0 := by
    intro j h0 h1
    have : j = 0 ∨ j = 1 ∨ j = 2 ∨ j = 3 := by omega
    rcases this with rfl | rfl | rfl | rfl <;> rfl
  constructor
  · rintro ⟨h1, h2⟩; exact ⟨h1, fun j h0 h3 => by have := h2 j h0 h3; rw [hu.2 j h0 h3, e j h0 h3] at this; omega⟩
  · rintro ⟨h1, h2⟩; exact ⟨h1, fun j h0 h3 => by have := h2 j h0 h3; rw [hu.2 j h0 h3, e j h0 h3]; omega⟩
def P1 (P : List (S63 × Int)) : Prop := ∀ z ∈ P, S1 z.1
theorem hsum_nn (m : Int) : ∀ P : List (S63 × Int), P1 P → 0 ≤ hsum m P
  | [], _ => by simp [hsum]
  | z :: r, h => by
    have := hsum_nn m r (fun y hy => h y (by simp [hy])); have h1 := (h z (by simp)).2.1
    rw [hsum]; split <;> omega
theorem tsum_nn (m j : Int) : ∀ P : List (S63 × Int), 0 ≤ tsum m j P
  | [] => by simp [tsum]
  | z :: r => by
    have := tsum_nn m j r
    rw [tsum]; split <;> omega
theorem hsum_app (m : Int) : ∀ P Q : List (S63 × Int), hsum m (P ++ Q) = hsum m P + hsum m Q
  | [], Q => by simp [hsum]
  | z :: r, Q => by rw [List.cons_append, hsum, hsum, hsum_app m r Q]; omega
theorem tsum_app (m j : Int) : ∀ P Q : List (S63 × Int), tsum m j (P ++ Q) = tsum m j P + tsum m j Q
  | [], Q => by simp [tsum]
  | z :: r, Q => by rw [List.cons_append, tsum, tsum, tsum_app m j r Q]; omega
theorem hsum_mono (m m' : Int) : ∀ P : List (S63 × Int), P1 P → (∀ z ∈ P, onF m z → onF m' z) → hsum m P ≤ hsum m' P
  | [], _, _ => by simp [hsum]
  | z :: r, h, ho => by
    have := hsum_mono m m' r (fun y hy => h y (by simp [hy])) (fun y hy => ho y (by simp [hy])); have h1 := (h z (by simp)).2.1; have h2 := ho z (by simp)
    rw [hsum, hsum]
    by_cases e : onF m z
    · rw [if_pos e, if_pos (h2 e)]; omega
    · rw [if_neg e]; split <;> omega
theorem tsum_mono (m m' j : Int) : ∀ P : List (S63 × Int), (∀ z ∈ P, onF m z → onF m' z) → tsum m j P ≤ tsum m' j P
  | [], _ => by simp [tsum]
  | z :: r, ho => by
    have := tsum_mono m m' j r (fun y hy => ho y (by simp [hy])); have h2 := ho z (by simp)
    rw [tsum, tsum]
    by_cases e : onF m z ∧ z.1.f2 = j + 1
    · rw [if_pos e, if_pos ⟨h2 e.1, e.2⟩]; omega
    · rw [if_neg e]; split <;> omega
theorem hsum_off (m : Int) : ∀ P : List (S63 × Int), (∀ z ∈ P, ¬ onF m z) → hsum m P = 0
  | [], _ => rfl
  | z :: r, h => by rw [hsum, if_neg (h z (by simp)), hsum_off m r (fun y hy => h y (by simp [hy]))]; omega
theorem tsum_off (m j : Int) : ∀ P : List (S63 × Int), (∀ z ∈ P, ¬ onF m z) → tsum m j P = 0
  | [], _ => rfl
  | z :: r, h => by rw [tsum, if_neg (fun e => h z (by simp) e.1), tsum_off m j r (fun y hy => h y (by simp [hy]))]; omega
def Room (k0 : Int) (k1 : List Int) (P : List (S63 × Int)) (i : Nat) (h : i < P.length) : Prop := ∀ m, P[i].2 ≤ m → m < P[i].2 + P[i].1.f0 → Fit k0 k1 (P.take (i + 1)) m
theorem exists_last (P : List (S63 × Int)) (m : Int) : ∀ n, n ≤ P.length → (∃ i, ∃ h : i < P.length, i < n ∧ onF m P[i]) → ∃ i, ∃ h : i < P.length, i < n ∧ onF m P[i] ∧ ∀ j (hj : j < P.length), i < j → j < n → ¬ onF m P[j]
  | 0, _, ⟨i, _, h, _⟩ => by omega
  | n + 1, hn, hex => by
    by_cases e : onF m (P[n]'(by omega))
    · exact ⟨n, by omega, by omega, e, fun j _ h1 h2 => by omega⟩
    · have : ∃ i, ∃ h : i < P.length, i < n ∧ onF m P[i] := by
        obtain ⟨i, h1, h2, h3⟩ := hex
        by_cases e2 : i = n
        · subst e2; exact absurd h3 e
        · exact ⟨i, h1, by omega, h3⟩
      obtain ⟨i, h1, h2, h3, h4⟩ := exists_last P m n (by omega) this
      refine ⟨i, h1, by omega, h3, fun j hj h5 h6 => ?_⟩
      by_cases e3 : j = n
      · subst e3; exact e
      · exact h4 j hj h5 (by omega)
theorem exists_max (P : List (S63 × Int)) (m : Int) : ∀ Q : List (S63 × Int), (∃ z ∈ Q, onF m z) → ∃ z ∈ Q, onF m z ∧ ∀ y ∈ Q, onF m y → y.2 ≤ z.2
  | [], h => by simp at h
  | q :: Q, h => by
    by_cases hq : ∃ z ∈ Q, onF m z
    · obtain ⟨z, h1, h2, h3⟩ := exists_max P m Q hq
      by_cases e : onF m q ∧ z.2 < q.2
      · refine ⟨q, by simp, e.1, fun y hy ho => ?_⟩
        rcases List.mem_cons.1 hy with rfl | hy
        · omega
        · have := h3 y hy ho; omega
      · refine ⟨z, by simp [h1], h2, fun y hy ho => ?_⟩
        rcases List.mem_cons.1 hy with rfl | hy
        · by_cases e2 : z.2 < y.2
          · exact absurd ⟨ho, e2⟩ e
          · omega
        · exact h3 y hy ho
    · obtain ⟨z, hz, ho⟩ := h
      rcases List.mem_cons.1 hz with rfl | hz
      · refine ⟨z, by simp, ho, fun y hy hoy => ?_⟩
        rcases List.mem_cons.1 hy with rfl | hy
        · omega
        · exact absurd ⟨y, hy, hoy⟩ hq
      · exact absurd ⟨z, hz, ho⟩ hq
theorem rooms_iff (k0 : Int) (k1 : List Int) (P : List (S63 × Int)) (h1 : P1 P) : (∀ i (h : i < P.length), Room k0 k1 P i h) ↔ ∀ i (h : i < P.length), Fit k0 k1 P P[i].2 := by
  constructor
  · intro hr i hi
    have hz := h1 _ (List.getElem_mem hi)
    have hon : onF P[i].2 P[i] := ⟨by omega, by have := hz.1; omega⟩
    obtain ⟨j, hj, _, h3, h4⟩ := exists_last P P[i].2 P.length (Nat.le_refl _) ⟨i, hi, hi, hon⟩
    have hfit := hr j hj P[i].2 h3.1 h3.2
    have hoff : ∀ z ∈ P.drop (j + 1), ¬ onF P[i].2 z := by
      intro z hz
      obtain ⟨q, hq, rfl⟩ := List.mem_iff_getElem.1 hz
      rw [List.getElem_drop]
      exact h4 _ (by simp at hq; omega) (by omega) (by simp at hq; omega)
    have e : P = P.take (j + 1) ++ P.drop (j + 1) := (List.take_append_drop _ _).symm
    refine ⟨?_, fun t t0 t1 => ?_⟩
    · have := hfit.1
      have e2 := congrArg (hsum P[i].2) e
      rw [hsum_app, hsum_off _ _ hoff] at e2; omega
    · have := hfit.2 t t0 t1
      have e2 := congrArg (tsum P[i].2 t) e
      rw [tsum_app, tsum_off _ _ _ hoff] at e2; omega
  · intro hr i hi m m0 m1
    obtain ⟨z, hz, ho, hmax⟩ := exists_max P m P ⟨P[i], List.getElem_mem hi, ⟨m0, m1⟩⟩
    obtain ⟨q, hq, rfl⟩ := List.mem_iff_getElem.1 hz
    have hfit := hr q hq
    have hup : ∀ y ∈ P, onF m y → onF P[q].2 y := fun y hy hoy => ⟨hmax y hy hoy, by have := hoy.2; have := ho.1; omega⟩
    have e : P = P.take (i + 1) ++ P.drop (i + 1) := (List.take_append_drop _ _).symm
    have hd1 : P1 (P.drop (i + 1)) := fun y hy => h1 y (List.mem_of_mem_drop hy)
    refine ⟨?_, fun t t0 t1 => ?_⟩
    · have a := hsum_mono m P[q].2 P h1 hup
      have b := hfit.1
      have e2 := congrArg (hsum m) e
      rw [hsum_app] at e2; have := hsum_nn m _ hd1; omega
    · have a := tsum_mono m P[q].2 t P hup
      have b := hfit.2 t t0 t1
      have e2 := congrArg (tsum m t) e
      rw [tsum_app] at e2; have := tsum_nn m t (P.drop (i + 1)); omega
theorem deps_iff (l : List S63) (xs : List Int) (x : Int) : ∀ (s : List Int), depsB l xs x s = true ↔ ∀ a ∈ s, rd xs a + (rd_T63 l a).f0 ≤ x
  | [] => by simp [depsB]
  | a :: r => by rw [depsB, Bool.and_eq_true, decide_eq_true_eq, deps_iff l xs x r]; simp
theorem aft_iff (l : List S63) (xs : List Int) (x : Int) : ∀ (s : List Int) (n : Int), aft l xs s n ≤ x ↔ n ≤ x ∧ ∀ a ∈ s, rd xs a + (rd_T63 l a).f0 ≤ x
  | [], n => by simp [aft]
  | a :: r, n => by
    rw [aft, aft_iff l xs x r]
    simp only [List.mem_cons, forall_eq_or_imp]
    constructor
    · rintro ⟨h1, h2⟩; exact ⟨by omega, by omega, h2⟩
    · rintro ⟨h1, h2, h3⟩; exact ⟨by omega, h3⟩
theorem zip_take_r {α β : Type} : ∀ (l : List α) (xs : List β) (n : Nat), l.zip (xs.take n) = (l.zip xs).take n
  | [], xs, n => by simp
  | a :: l, [], n => by simp
  | a :: l, x :: xs, 0 => by simp
  | a :: l, x :: xs, n + 1 => by simp [zip_take_r l xs n]
theorem pfG_iff (l : List S63) (k0 : Int) (k1 : List Int) (xs : List Int) : ∀ (n i : Nat), pfG l k0 k1 xs n i = true ↔ ∀ j, i ≤ j → j < i + n → depsB l xs (rd xs (j : Int)) (rd_T63 l (j : Int)).f3 = true ∧ fitB k0 k1 (useL l xs (rd xs (j : Int)) 0 t0) = true
  | 0, i => by simp [pfG]; intro j h1 h2; omega
  | n + 1, i => by
    rw [pfG, Bool.and_eq_true, Bool.and_eq_true, pfG_iff l k0 k1 xs n (i + 1)]
    constructor
    · intro h j h1 h2
      by_cases e : j = i
      · subst e; exact ⟨h.1, h.2.1⟩
      · exact h.2.2 j (by omega) (by omega)
    · intro h; exact ⟨(h i (by omega) (by omega)).1, (h i (by omega) (by omega)).2, fun j h1 h2 => h j (by omega) (by omega)⟩
theorem plan_same (l : List S63) (hl : ∀ x ∈ l, S1 x) (xs : List Int) (hx : ∀ x ∈ xs, 0 ≤ x) (hxl : xs.length = l.length) (k0 : Int) (k1 : List Int) (hk : k1.length = 4) : pfG l k0 k1 xs l.length 0 = pvG l k0 k1 xs l.length 0 := by
  rw [Bool.eq_iff_iff, pfG_iff, pvG_iff]
  have hP : P1 (l.zip xs) := fun z hz => hl _ (List.of_mem_zip hz).1
  have hlen : (l.zip xs).length = l.length := by simp [hxl]
  have hr := rooms_iff k0 k1 (l.zip xs) hP
  have e1 : ∀ j (h : j < l.length), (l.zip xs)[j]'(by omega) = (rd_T63 l (j : Int), rd xs (j : Int)) := fun j h => by
    rw [List.getElem_zip, rd63n l j h, rdn xs j (by omega)]
  have hroom : ∀ j (h : j < l.length), (roomB l k0 k1 (xs.take j) (rd xs (j : Int)) = true ↔ Room k0 k1 (l.zip xs) j (by omega)) := by
    intro j h
    have hj : (xs.take j).length = j := by simp; omega
    have hs1 : S1 (rd_T63 l (j : Int)) := by rw [rd63n l j h]; exact hl _ (List.getElem_mem _)
    unfold roomB Room
    rw [hj, roomG_iff, ← take_rd xs j (by omega)]
    have ez : l.zip (xs.take (j + 1)) = (l.zip xs).take (j + 1) := zip_take_r _ _ _
    have eN : ((rd_T63 l (j : Int)).f0.toNat : Int) = (rd_T63 l (j : Int)).f0 := by have := hs1.1; omega
    simp only [e1 j h, eN]
    constructor
    · intro hh m m0 m1; have := hh m m0 m1; rw [fit_iff l hl _ k0 k1 hk, ez] at this; exact this
    · intro hh m m0 m1; rw [fit_iff l hl _ k0 k1 hk, ez]; exact hh m m0 m1
  have hfit : ∀ j (h : j < l.length), (fitB k0 k1 (useL l xs (rd xs (j : Int)) 0 t0) = true ↔ Fit k0 k1 (l.zip xs) ((l.zip xs)[j]'(by omega)).2) := by
    intro j h; rw [fit_iff l hl xs k0 k1 hk, e1 j h]
  constructor
  · intro h j j0 j1
    have hall := hr.2 (fun i hi => (hfit i (by omega)).1 (h i (by omega) (by omega)).2)
    refine ⟨(aft_iff _ _ _ _ _).2 ⟨?_, (deps_iff _ _ _ _).1 (h j j0 j1).1⟩, (hroom j (by omega)).2 (hall j (by omega))⟩
    exact hx _ (rd_lt xs (j : Int) (by omega) (by omega))
  · intro h j j0 j1
    have hall := hr.1 (fun i hi => (hroom i (by omega)).1 (h i (by omega) (by omega)).2)
    exact ⟨(deps_iff _ _ _ _).2 ((aft_iff _ _ _ _ _).1 (h j j0 j1).1).2, (hfit j (by omega)).2 (hall j (by omega))⟩
theorem SOk.take : ∀ {j : Nat} {l : List S63} (n : Nat), SOk j l → SOk j (l.take n)
  | _, [], n, _ => by simp [SOk]
  | j, s :: r, 0, _ => by simp [SOk]
  | j, s :: r, n + 1, h => by rw [List.take_succ_cons]; exact ⟨h.1, h.2.1, SOk.take n h.2.2⟩
theorem SV.take {l : List S63} (h : SV l) (n : Nat) : SV (l.take n) := ⟨h.1.take n, by have := h.2; simp; omega⟩
theorem Short.take {l : List S63} (h : Short l) (n : Nat) : Short (l.take n) := ⟨by have := h.1; simp; omega, fun x hx => h.2 x (List.mem_of_mem_take hx)⟩
theorem rd63_take (l : List S63) (n i : Nat) (h : i < n) (hl : i < l.length) : rd_T63 (l.take n) (i : Int) = rd_T63 l (i : Int) := by
  rw [rd63n _ i (by simp; omega), rd63n l i hl]; simp
theorem rd_app (xs ys : List Int) (i : Nat) (h : i < xs.length) : rd (xs ++ ys) (i : Int) = rd xs (i : Int) := by
  rw [rdn _ i (by simp; omega), rdn xs i h, List.getElem_append_left h]
theorem aft_same (l m : List S63) (xs ys : List Int) : ∀ (s : List Int) (n : Int), (∀ a ∈ s, rd xs a = rd ys a ∧ (rd_T63 l a).f0 = (rd_T63 m a).f0) → aft l xs s n = aft m ys s n
  | [], n, _ => rfl
  | a :: r, n, h => by
    have h1 := h a (by simp)
    rw [aft, aft, h1.1, h1.2]; exact aft_same l m xs ys r _ (fun b hb => h b (by simp [hb]))
theorem useL_take : ∀ (l : List S63) (n : Nat) (xs : List Int) (m h : Int) (t : List Int), xs.length ≤ n → useL (l.take n) xs m h t = useL l xs m h t
  | [], n, xs, m, h, t, _ => by simp
  | s :: r, n, [], m, h, t, _ => by cases n <;> simp [useL]
  | s :: r, 0, x :: q, m, h, t, hn => by simp at hn
  | s :: r, n + 1, x :: q, m, h, t, hn => by
    have hq : q.length ≤ n := by simpa using hn
    rw [List.take_succ_cons, useL, useL, useL_take r n q _ _ _ hq, useL_take r n q _ _ _ hq]
theorem roomG_take (l : List S63) (n : Nat) (xs : List Int) (h : xs.length ≤ n) (k0 : Int) (k1 : List Int) : ∀ (d : Nat) (x : Int), roomG (l.take n) xs k0 k1 d x = roomG l xs k0 k1 d x
  | 0, _ => rfl
  | d + 1, x => by rw [roomG, roomG, useL_take l n xs _ _ _ h, roomG_take l n xs h k0 k1 d]
theorem roomB_take (l : List S63) (n : Nat) (ys : List Int) (x : Int) (h : ys.length < n) (hl : ys.length < l.length) (k0 : Int) (k1 : List Int) : roomB (l.take n) k0 k1 ys x = roomB l k0 k1 ys x := by
  unfold roomB
  rw [rd63_take l n _ h hl, roomG_take l n _ (by simp; omega)]
def Sound (l : List S63) (k0 : Int) (k1 : List Int) (ys : List Int) : Prop := ∀ j : Nat, j < ys.length → aft l ys (rd_T63 l (j : Int)).f3 0 ≤ rd ys (j : Int) ∧ roomB l k0 k1 (ys.take j) (rd ys (j : Int)) = true
theorem aft_pre (l : List S63) (hl : SV l) (ys zs : List Int) (j : Nat) (hj : j < l.length) (h : j ≤ ys.length) : aft l (ys ++ zs) (rd_T63 l (j : Int)).f3 0 = aft l ys (rd_T63 l (j : Int)).f3 0 := by
  refine aft_same l l _ _ _ _ (fun a ha => ⟨?_, rfl⟩)
  rw [rd63n l j hj] at ha
  have := (hl.1.at j hj).2.all a ha
  obtain ⟨a, rfl⟩ := Int.eq_ofNat_of_zero_le this.1
  exact rd_app ys zs a (by omega)
theorem aft_tk (l : List S63) (hl : SV l) (ys : List Int) (j : Nat) (hj : j < l.length) (h : j ≤ ys.length) : aft l (ys.take j) (rd_T63 l (j : Int)).f3 0 = aft l ys (rd_T63 l (j : Int)).f3 0 := by
  have := aft_pre l hl (ys.take j) (ys.drop j) j hj (by simp; omega)
  rw [List.take_append_drop] at this; exact this.symm
theorem sound_snoc {l : List S63} (hl : SV l) {k0 : Int} {k1 ys : List Int} {x : Int} (hy : ys.length < l.length) (h : Sound l k0 k1 ys) (h1 : aft l ys (rd_T63 l (ys.length : Int)).f3 0 ≤ x) (h2 : roomB l k0 k1 ys x = true) : Sound l k0 k1 (ys ++ [x]) := by
  intro j hj
  by_cases e : j = ys.length
  · subst e
    rw [aft_pre l hl ys [x] ys.length hy (Nat.le_refl _), rd_at, List.take_left]
    exact ⟨h1, h2⟩
  · have hj' : j < ys.length := by simp at hj; omega
    have := h j hj'
    rw [aft_pre l hl ys [x] j (by omega) (by omega), rd_app ys [x] j hj', List.take_append_of_le_length (by omega)]
    exact this
theorem fits_last (l : List S63) (hl : SV l) (k0 : Int) (k1 : List Int) (hk : k1.length = 4) (ys : List Int) (hy : ys.length < l.length) (hy0 : ∀ x ∈ ys, 0 ≤ x) (hS : Sound l k0 k1 ys) (x : Int) (hx : 0 ≤ x) :
    pfG (l.take (ys.length + 1)) k0 k1 (ys ++ [x]) (l.take (ys.length + 1)).length 0 = (decide (aft l ys (rd_T63 l (ys.length : Int)).f3 0 ≤ x) && roomB l k0 k1 ys x) := by
  have hlen : (l.take (ys.length + 1)).length = ys.length + 1 := by simp; omega
  have hl' := hl.take (ys.length + 1)
  rw [plan_same _ hl'.1.s1 (ys ++ [x]) (fun z hz => by
    rcases List.mem_append.1 hz with hz | hz
    · exact hy0 z hz
    · simp at hz; omega) (by rw [hlen]; simp) k0 k1 hk, Bool.eq_iff_iff, pvG_iff, Bool.and_eq_true, decide_eq_true_eq, hlen]
  have hS' : ∀ j : Nat, j < ys.length + 1 → (aft (l.take (ys.length + 1)) (ys ++ [x]) (rd_T63 (l.take (ys.length + 1)) (j : Int)).f3 0 = aft l (ys ++ [x]) (rd_T63 l (j : Int)).f3 0) ∧ roomB (l.take (ys.length + 1)) k0 k1 ((ys ++ [x]).take j) (rd (ys ++ [x]) (j : Int)) = roomB l k0 k1 ((ys ++ [x]).take j) (rd (ys ++ [x]) (j : Int)) := by
    intro j hj
    have hjl : j < l.length := by omega
    refine ⟨?_, roomB_take l _ _ _ (by simp; omega) (by simp; omega) k0 k1⟩
    rw [rd63_take l _ j hj hjl]
    refine aft_same _ _ _ _ _ _ (fun a ha => ⟨rfl, ?_⟩)
    rw [rd63n l j hjl] at ha
    have := (hl.1.at j hjl).2.all a ha
    obtain ⟨a, rfl⟩ := Int.eq_ofNat_of_zero_le this.1
    rw [rd63_take l _ a (by omega) (by omega)]
  constructor
  · intro h
    have := h ys.length (by omega) (by omega)
    rw [(hS' _ (by omega)).1, (hS' _ (by omega)).2, aft_pre l hl ys [x] ys.length hy (Nat.le_refl _), rd_at, List.take_left] at this
    exact this
  · intro h j _ hj
    have := sound_snoc hl hy hS h.1 h.2 j (by simp; omega)
    rw [(hS' j (by omega)).1, (hS' j (by omega)).2]; exact this
theorem any_not (a b : Int) (xs : List Int) : (xs.any fun x => !decide (a ≤ x ∧ x ≤ b)) = !decide (∀ x ∈ xs, a ≤ x ∧ x ≤ b) := by
  rw [Bool.eq_iff_iff]
  simp only [List.any_eq_true, Bool.not_eq_true', decide_eq_false_iff_not]
  constructor
  · rintro ⟨x, h1, h2⟩ h; exact h2 (h x h1)
  · intro h
    exact Classical.byContradiction (fun hn => h (fun x hx => Classical.byContradiction (fun h2 => hn ⟨x, hx, h2⟩)))
theorem impl_st (l : List S63) (hs : Short l) (xs : List Int) : Ev (fun k => impl_startsValid.f k l xs) (decide (StOk l xs)) := by
  unfold impl_startsValid.f
  refine Ev.bind (impl_sv l hs) (ev_const ?_)
  rw [any_not, Bool.not_not, Bool.eq_iff_iff]
  simp only [Bool.and_eq_true, decide_eq_true_eq]
  exact ⟨fun h => ⟨h.2.2, h.1, h.2.1⟩, fun h => ⟨h.2.1, h.2.2, h.1⟩⟩
theorem impl_kv (h : Int) (t : List Int) : impl_KitchenValid.f h t = some (decide (KOk h t)) := by
  unfold impl_KitchenValid.f
  rw [any_not, Bool.not_not]
  congr 1
  rw [Bool.eq_iff_iff]
  simp only [Bool.and_eq_true, decide_eq_true_eq]
  exact ⟨fun h => ⟨h.2.2, h.1, h.2.1⟩, fun h => ⟨h.2.1, h.2.2, h.1⟩⟩
theorem impl_pv (l : List S63) (hs : Short l) (k0 : Int) (k1 : List Int) (xs : List Int) : Ev (fun k => impl_PlanValid.f k l k0 k1 xs) (decide (PV l k0 k1 xs)) := by
  unfold impl_PlanValid.f
  rw [impl_kv]
  simp only [Option.bind_some]
  refine ev_ite (fun h1 => Ev.bind (impl_st l hs xs) (ev_ite (fun h2 => ?_) (fun h2 => ev_const ?_))) (fun h1 => ev_const ?_)
  · have h1' := of_decide_eq_true h1; have h2' := of_decide_eq_true h2
    refine Ev.bind (impl_fits l h2'.2.1 hs xs (fun x hx => by have := h2'.1 x hx; omega) h2'.2.2 k0 k1 h1'.2.2) (ev_const ?_)
    rw [plan_same l h2'.2.1.1.s1 xs (fun x hx => (h2'.1 x hx).1) h2'.2.2 k0 k1 h1'.2.2, Bool.eq_iff_iff, decide_eq_true_eq]
    exact ⟨fun h => ⟨h1', h2', h⟩, fun h => h.2.2⟩
  · symm; exact decide_eq_false (fun h => h2 (decide_eq_true h.2.1))
  · symm; exact decide_eq_false (fun h => h1 (decide_eq_true h.1))
theorem clone_int (l : List Int) (h : l.length ≤ 1099511627776) : slices_Clone_int_int.f l = some l := by
  unfold slices_Clone_int_int.f
  simp only [Option.bind_some, List.nil_append]
  rw [if_pos (by simp; omega)]
def mayP (l : List S63) (k0 : Int) (k1 : List Int) (ys : List Int) (x : Int) : Bool := decide (aft l ys (rd_T63 l (ys.length : Int)).f3 0 ≤ x) && roomB l k0 k1 ys x
theorem place_fits (l : List S63) (hl : SV l) (hs : Short l) (k0 : Int) (k1 : List Int) (hk : k1.length = 4) (ys : List Int) (hy : ys.length < l.length) (hy0 : ∀ x ∈ ys, 0 ≤ x ∧ x ≤ 999) (hS : Sound l k0 k1 ys) (x : Int) (hx : 0 ≤ x) (hx1 : x ≤ 999) :
    Ev (fun k => impl_planFits.f k (l.take (ys.length + 1)) k0 k1 (ys ++ [x])) (mayP l k0 k1 ys x) := by
  have hlen : (l.take (ys.length + 1)).length = ys.length + 1 := by simp; omega
  have h := impl_fits (l.take (ys.length + 1)) (hl.take _) (hs.take _) (ys ++ [x]) (fun z hz => by
    rcases List.mem_append.1 hz with hz | hz
    · have := hy0 z hz; omega
    · simp at hz; omega) (by rw [hlen]; simp) k0 k1 hk
  rwa [fits_last l hl k0 k1 hk ys hy (fun z hz => (hy0 z hz).1) hS x hx] at h
theorem impl_oo (o0 o1 o2 : Int) : impl_outageValid.f o0 o1 o2 = some (decide (OOk o0 o1 o2)) := by
  unfold impl_outageValid.f impl_isTool.f impl_isStart.f
  simp only [inw, Option.bind_some]
  by_cases h1 : 1 ≤ o0 ∧ o0 ≤ 4
  · rw [if_pos (decide_eq_true h1)]
    by_cases h2 : 0 ≤ o1 ∧ o1 ≤ 999
    · rw [if_pos (decide_eq_true h2)]; simp [OOk, h1, h2]
    · rw [if_neg (by simpa using h2)]; congr 1; symm; exact decide_eq_false (fun h => h2 h.2.1)
  · rw [if_neg (by simpa using h1)]; congr 1; symm; exact decide_eq_false (fun h => h1 h.1)
theorem dist_ev (s : S63) (hs : S1 s) (x o0 o1 o2 : Int) (hx : -1099511627776 ≤ x ∧ x ≤ 1099511627776) : impl_Outage_disturbs.f o0 o1 o2 s.f0 s.f1 s.f2 s.f3 x = some (decide (hits s x o0 o1 o2)) := by
  unfold impl_Outage_disturbs.f hits
  have := hs.1
  rw [w64 (x := x + s.f0) (by omega) (by omega)]
  by_cases h1 : s.f2 = o0
  · rw [if_pos h1]
    by_cases h2 : x < o2
    · rw [if_pos h2]; simp [h1, h2]
    · rw [if_neg h2]; simp [h2]
  · rw [if_neg h1]; simp [h1]
theorem mayO_ev (s : S63) (hs : S1 s) (x o0 o1 o2 : Int) (hx : 0 ≤ x) (hx1 : x ≤ 999) : impl_mayO o0 o1 o2 s x = some (!decide (hits s x o0 o1 o2)) := by
  unfold impl_mayO; rw [dist_ev s hs x o0 o1 o2 (by omega)]; rfl
def mayR (l : List S63) (k0 : Int) (k1 : List Int) (o0 o1 o2 : Int) (ys : List Int) (x : Int) : Bool := !decide (hits (rd_T63 l (ys.length : Int)) x o0 o1 o2) && mayP l k0 k1 ys x
theorem rplace_round (l : List S63) (hl : SV l) (hs : Short l) (k0 : Int) (k1 : List Int) (hk : k1.length = 4) (o0 o1 o2 : Int) (ys : List Int) (hy : ys.length < l.length) (hy0 : ∀ x ∈ ys, 0 ≤ x ∧ x ≤ 999) (hS : Sound l k0 k1 ys) (x : Int) (hx : 0 ≤ x) (hx1 : x ≤ 999) (r : Int)
    (h1 : mayR l k0 k1 o0 o1 o2 ys x = true → r = x) (h2 : mayR l k0 k1 o0 o1 o2 ys x = false → Ev (fun k => impl_placeO.l0 (impl_mayO o0 o1 o2 (rd_T63 l (ys.length : Int))) k l ys (ys.length : Int) (x + 1) k0 k1) r) :
    Ev (fun k => impl_placeO.l0 (impl_mayO o0 o1 o2 (rd_T63 l (ys.length : Int))) k l ys (ys.length : Int) x k0 k1) r := by
  have hl8 : l.length ≤ 8 := by have := hl.2; omega
  have hw : wrap64 ((ys.length : Int) + 1) = (ys.length : Int) + 1 := w64 (by omega) (by omega)
  have hw2 : wrap64 (x + 1) = x + 1 := w64 (by omega) (by omega)
  have e : ((ys.length : Int) + 1).toNat = ys.length + 1 := by omega
  have hs1 : S1 (rd_T63 l (ys.length : Int)) := by rw [rd63n l ys.length hy]; exact hl.1.s1 _ (List.getElem_mem _)
  have hm := mayO_ev _ hs1 x o0 o1 o2 hx hx1
  unfold mayR at h1 h2
  refine ev_succ ?_
  simp only [impl_placeO.l0, hm, Option.bind_some, hw, hw2, e, clone_int ys (by omega)]
  cases hd : decide (hits (rd_T63 l (ys.length : Int)) x o0 o1 o2) with
  | true => rw [hd] at h1 h2; exact ev_pos hx1 (ev_neg (by simp) (h2 rfl))
  | false =>
    rw [hd] at h1 h2
    exact ev_pos hx1 (ev_pos rfl (ev_pos (by omega) (ev_pos (by omega) (ev_pos (by simp; omega) (Ev.bind (place_fits l hl hs k0 k1 hk ys hy hy0 hS x hx hx1) (ev_ite (fun h => ev_const (h1 (by rw [h]; rfl)).symm) (fun h => h2 (by rw [Bool.not_eq_true] at h; rw [h]; rfl))))))))
theorem rplace_end (may : Int → Option Bool) (l : List S63) (k0 : Int) (k1 : List Int) (ys : List Int) (x : Int) (h : 999 < x) : Ev (fun k => impl_placeO.l0 may k l ys (ys.length : Int) x k0 k1) (-1) := by
  refine ev_succ ?_; simp only [impl_placeO.l0]; exact ev_neg (by omega) (Ev.now _)
theorem rplace_some (l : List S63) (hl : SV l) (hs : Short l) (k0 : Int) (k1 : List Int) (hk : k1.length = 4) (o0 o1 o2 : Int) (ys : List Int) (hy : ys.length < l.length) (hy0 : ∀ x ∈ ys, 0 ≤ x ∧ x ≤ 999) (hS : Sound l k0 k1 ys) (v : Int) (hv1 : v ≤ 999) (hv : mayR l k0 k1 o0 o1 o2 ys v = true) :
    ∀ (n : Nat) (x : Int), x + n = v → 0 ≤ x → (∀ u, x ≤ u → u < v → mayR l k0 k1 o0 o1 o2 ys u = false) → Ev (fun k => impl_placeO.l0 (impl_mayO o0 o1 o2 (rd_T63 l (ys.length : Int))) k l ys (ys.length : Int) x k0 k1) v := by
  intro n
  induction n with
  | zero =>
    intro x hx h0 hno
    obtain rfl : x = v := by omega
    exact rplace_round l hl hs k0 k1 hk o0 o1 o2 ys hy hy0 hS x h0 hv1 x (fun _ => rfl) (fun h => by rw [hv] at h; cases h)
  | succ n ih =>
    intro x hx h0 hno
    exact rplace_round l hl hs k0 k1 hk o0 o1 o2 ys hy hy0 hS x h0 (by omega) v (fun h => by rw [hno x (by omega) (by omega)] at h; cases h) (fun _ => ih (x + 1) (by omega) (by omega) (fun u h1 h2 => hno u (by omega) h2))
theorem rplace_none (l : List S63) (hl : SV l) (hs : Short l) (k0 : Int) (k1 : List Int) (hk : k1.length = 4) (o0 o1 o2 : Int) (ys : List Int) (hy : ys.length < l.length) (hy0 : ∀ x ∈ ys, 0 ≤ x ∧ x ≤ 999) (hS : Sound l k0 k1 ys) :
    ∀ (n : Nat) (x : Int), x + n = 1000 → 0 ≤ x → (∀ u, x ≤ u → u ≤ 999 → mayR l k0 k1 o0 o1 o2 ys u = false) → Ev (fun k => impl_placeO.l0 (impl_mayO o0 o1 o2 (rd_T63 l (ys.length : Int))) k l ys (ys.length : Int) x k0 k1) (-1) := by
  intro n
  induction n with
  | zero => intro x hx h0 hno; exact rplace_end _ l k0 k1 ys x (by omega)
  | succ n ih =>
    intro x hx h0 hno
    exact rplace_round l hl hs k0 k1 hk o0 o1 o2 ys hy hy0 hS x h0 (by omega) (-1) (fun h => by rw [hno x (by omega) (by omega)] at h; cases h) (fun _ => ih (x + 1) (by omega) (by omega) (fun u h1 h2 => hno u (by omega) h2))
theorem rgood_sound {l : List S63} (hl : SV l) {k0 : Int} {k1 xs : List Int} {o0 o1 o2 : Int} {ys : List Int} (hy : ys.length ≤ l.length) (h : RGood l k0 k1 xs o0 o1 o2 ys) : Sound l k0 k1 ys := by
  intro j hj
  have h1 := (h j hj).1
  have e : (ys.take j).length = j := by simp; omega
  rw [← rdn ys j hj] at h1
  have h2 := h1.1
  rw [e, aft_tk l hl ys j (by omega) (by omega)] at h2
  have h3 := h1.2.1
  unfold mayB at h3
  rw [Bool.and_eq_true] at h3
  exact ⟨by omega, h3.2⟩
theorem mayR_no {l : List S63} {k0 : Int} {k1 xs : List Int} {o0 o1 o2 : Int} {ys : List Int} {v : Int} (h : RepAt l k0 k1 xs o0 o1 o2 ys v) (u : Int) (h1 : rd xs (ys.length : Int) ≤ u) (h2 : u < v) : mayR l k0 k1 o0 o1 o2 ys u = false := by
  unfold mayR mayP
  by_cases c : aft l ys (rd_T63 l (ys.length : Int)).f3 0 ≤ u
  · have h3 := h.2.2 u (by omega) h2
    unfold mayB at h3
    rw [decide_eq_true c, Bool.true_and]; exact h3
  · rw [decide_eq_false c]; simp
theorem mayR_yes {l : List S63} {k0 : Int} {k1 xs : List Int} {o0 o1 o2 : Int} {ys : List Int} {v : Int} (h : RepAt l k0 k1 xs o0 o1 o2 ys v) : mayR l k0 k1 o0 o1 o2 ys v = true := by
  have h1 := h.1
  have h3 := h.2.1
  unfold mayB at h3
  unfold mayR mayP
  rw [decide_eq_true (show aft l ys (rd_T63 l (ys.length : Int)).f3 0 ≤ v by omega), Bool.true_and]; exact h3
theorem ior_loop (l : List S63) (hl : SV l) (hs : Short l) (k0 : Int) (k1 : List Int) (hk : KOk k0 k1) (xs : List Int) (hx : ∀ x ∈ xs, 0 ≤ x ∧ x ≤ 999) (hxl : xs.length = l.length) (hal : ∀ i : Nat, i < l.length → Alone k0 k1 (rd_T63 l (i : Int))) (o0 o1 o2 : Int) (ho : o2 ≤ 999) :
    ∀ (n : Nat) (ys : List Int), ys.length + n = l.length → (∀ y ∈ ys, 0 ≤ y ∧ y ≤ 999) → RGood l k0 k1 xs o0 o1 o2 ys →
    ∃ out ok, Ev (fun k => impl_OutageRepair.l0 o0 o1 o2 k l xs ys l (l.length : Int) (ys.length : Int) k0 k1) (out, ok) ∧ (ok = true → out.length = l.length ∧ (∀ y ∈ out, 0 ≤ y ∧ y ≤ 999) ∧ RGood l k0 k1 xs o0 o1 o2 out) ∧
      (ok = false → out = [] ∧ ∃ p v, p.length < l.length ∧ RGood l k0 k1 xs o0 o1 o2 p ∧ (∀ y ∈ p, 0 ≤ y ∧ y ≤ 999) ∧ RepAt l k0 k1 xs o0 o1 o2 p v ∧ 999 < v) := by
  have hl8 : l.length ≤ 8 := by have := hl.2; omega
  intro n
  induction n with
  | zero =>
    intro ys hy hB hG
    refine ⟨ys, true, ev_succ ?_, fun _ => ⟨by omega, hB, hG⟩, (fun h => by cases h)⟩
    simp only [impl_OutageRepair.l0]; exact ev_neg (by omega) (Ev.now _)
  | succ n ih =>
    intro ys hy hB hG
    have hyl : ys.length < l.length := by omega
    have e := rd63n l ys.length hyl
    have hS := rgood_sound hl (by omega) hG
    have hend : ∀ j (h : j < ys.length), ys[j] + (rd_T63 l (j : Int)).f0 ≤ 1098 := fun j h => by
      have h1 := hB _ (List.getElem_mem h)
      have h2 : S1 (rd_T63 l (j : Int)) := by rw [rd63n l j (by omega)]; exact hl.1.s1 _ (List.getElem_mem _)
      have := h2.1; omega
    have hale := aft_le l ys 1098 (rd_T63 l (ys.length : Int)).f3 0 (by omega) (fun a hm => by
      have := (hl.1.at ys.length hyl).2.all a (by rw [← e]; exact hm)
      obtain ⟨a, rfl⟩ := Int.eq_ofNat_of_zero_le this.1
      have h2 : a < ys.length := by omega
      rw [rdn ys a h2]; exact hend a h2)
    have hxa := hx _ (rd_lt xs (ys.length : Int) (by omega) (by omega))
    obtain ⟨d, hd⟩ := Int.eq_ofNat_of_zero_le (show 0 ≤ 1098 - max (rd xs (ys.length : Int)) (aft l ys (rd_T63 l (ys.length : Int)).f3 0) by omega)
    have hlate : mayB l k0 k1 o0 o1 o2 ys 1098 = true := by
      unfold mayB
      rw [room_late l hl.1.s1 k0 k1 hk ys hyl (hal _ hyl) 1098 hend]
      have : ¬ hits (rd_T63 l (ys.length : Int)) 1098 o0 o1 o2 := by unfold hits; omega
      simp [this]
    obtain ⟨v, v1, v2, v3, v4⟩ := first_at (mayB l k0 k1 o0 o1 o2 ys) 1098 hlate d (max (rd xs (ys.length : Int)) (aft l ys (rd_T63 l (ys.length : Int)).f3 0)) (by omega)
    have hstep : RepAt l k0 k1 xs o0 o1 o2 ys v := ⟨v1, v3, v4⟩
    by_cases hv : v ≤ 999
    · obtain ⟨out, ok, h1, h2, h3⟩ := ih (ys ++ [v]) (by simp; omega) (fun y hy => by
        rcases List.mem_append.1 hy with hy | hy
        · exact hB y hy
        · simp at hy; omega) (rgood_snoc hG hstep hv)
      obtain ⟨d2, hd2⟩ := Int.eq_ofNat_of_zero_le (show 0 ≤ v - rd xs (ys.length : Int) by omega)
      refine ⟨out, ok, ev_succ ?_, h2, h3⟩
      simp only [impl_OutageRepair.l0]
      refine ev_pos (by omega) (ev_pos (by omega) (ev_pos (by omega) (ev_pos (by omega) (Ev.bind (a := v) ?_ (ev_neg (by omega) (ev_pos (by omega) ?_))))))
      · unfold impl_placeO.f
        exact rplace_some l hl hs k0 k1 hk.2.2 o0 o1 o2 ys hyl hB hS v hv (mayR_yes hstep) d2 _ (by omega) hxa.1 (fun u h1 h2 => mayR_no hstep u h1 h2)
      · rw [w64 (x := (ys.length : Int) + 1) (by omega) (by omega)]
        have e2 : ((ys ++ [v]).length : Int) = (ys.length : Int) + 1 := by simp
        rw [← e2]; exact h1
    · obtain ⟨d2, hd2⟩ := Int.eq_ofNat_of_zero_le (show 0 ≤ 1000 - rd xs (ys.length : Int) by omega)
      refine ⟨[], false, ev_succ ?_, (fun h => by cases h), fun _ => ⟨rfl, ys, v, hyl, hG, hB, hstep, by omega⟩⟩
      simp only [impl_OutageRepair.l0]
      refine ev_pos (by omega) (ev_pos (by omega) (ev_pos (by omega) (ev_pos (by omega) (Ev.bind (a := -1) ?_ (ev_pos (by omega) (Ev.now _))))))
      unfold impl_placeO.f
      exact rplace_none l hl hs k0 k1 hk.2.2 o0 o1 o2 ys hyl hB hS d2 _ (by omega) hxa.1 (fun u h1 h2 => mayR_no hstep u h1 (by omega))
theorem impl_or (l : List S63) (hs : Short l) (k0 : Int) (k1 : List Int) (xs : List Int) (o0 o1 o2 : Int) :
    ∃ out ok, Ev (fun k => impl_OutageRepair.f k l k0 k1 xs o0 o1 o2) (out, ok) ∧ Repd l k0 k1 xs o0 o1 o2 out ok := by
  have no : ∀ t, t = true → Ev (fun k => impl_OutageRepair.j0 o0 o1 o2 k l xs t k0 k1) ([], false) := by
    intro t ht; refine ev_succ ?_; simp only [impl_OutageRepair.j0]; exact ev_pos ht (Ev.now _)
  unfold impl_OutageRepair.f
  simp only [Option.bind_some, impl_oo]
  by_cases h1 : PV l k0 k1 xs
  · by_cases h2 : OOk o0 o1 o2
    · obtain ⟨out, ok, h3, h4, h5⟩ := ior_loop l h1.2.1.2.1 hs k0 k1 h1.1 xs h1.2.1.1 h1.2.1.2.2 (pv_alone h1) o0 o1 o2 (by have := h2.2.2; omega) l.length [] (by simp) (by simp) (fun i h => by simp at h)
      refine ⟨out, ok, Ev.bind (impl_pv l hs k0 k1 xs) (ev_pos (decide_eq_true h1) (ev_succ ?_)), fun h => ⟨⟨h1, h2⟩, h4 h⟩, fun h => ⟨(h5 h).1, fun _ => (h5 h).2⟩⟩
      simp only [impl_OutageRepair.j0]; exact ev_neg (by simp [h2]) h3
    · exact ⟨[], false, Ev.bind (impl_pv l hs k0 k1 xs) (ev_pos (decide_eq_true h1) (no _ (by simp [h2]))), (fun h => by cases h), fun _ => ⟨rfl, fun h => absurd h.2 h2⟩⟩
  · exact ⟨[], false, Ev.bind (impl_pv l hs k0 k1 xs) (ev_neg (by simp [h1]) (no _ rfl)), (fun h => by cases h), fun _ => ⟨rfl, fun h => absurd h.1 h1⟩⟩
theorem repAt_one {l : List S63} {k0 : Int} {k1 xs : List Int} {o0 o1 o2 : Int} {ys : List Int} {x y : Int} (h : RepAt l k0 k1 xs o0 o1 o2 ys x) (h' : RepAt l k0 k1 xs o0 o1 o2 ys y) : x = y := by
  rcases Int.lt_trichotomy x y with e | e | e
  · have := h'.2.2 x h.1 e; rw [h.2.1] at this; cases this
  · exact e
  · have := h.2.2 y h'.1 e; rw [h'.2.1] at this; cases this
theorem rgood_pre {l : List S63} {k0 : Int} {k1 xs : List Int} {o0 o1 o2 : Int} {p ys : List Int} (hl : p.length ≤ ys.length) (h : RGood l k0 k1 xs o0 o1 o2 p) (h' : RGood l k0 k1 xs o0 o1 o2 ys) : p = ys.take p.length := by
  have key : ∀ i, i ≤ p.length → p.take i = ys.take i := by
    intro i
    induction i with
    | zero => intro _; simp
    | succ i ih =>
      intro hi
      have h1 := (h i (by omega)).1
      have h2 := (h' i (by omega)).1
      have e := ih (by omega)
      rw [e] at h1
      rw [take_rd p i (by omega), take_rd ys i (by omega), e, rdn p i (by omega), rdn ys i (by omega), repAt_one h1 h2]
  have := key p.length (Nat.le_refl _)
  rwa [List.take_of_length_le (Nat.le_refl _)] at this
theorem repd_one {l : List S63} {k0 : Int} {k1 xs : List Int} {o0 o1 o2 : Int} {ys zs : List Int} {a b : Bool} (h : Repd l k0 k1 xs o0 o1 o2 ys a) (h' : Repd l k0 k1 xs o0 o1 o2 zs b) : ys = zs ∧ a = b := by
  have no : ∀ {ys zs : List Int}, Repd l k0 k1 xs o0 o1 o2 ys true → Repd l k0 k1 xs o0 o1 o2 zs false → False := by
    intro ys zs h h'
    obtain ⟨h1, h2, h3, h4⟩ := h.1 rfl
    obtain ⟨p, v, p1, p2, p3, p4, p5⟩ := (h'.2 rfl).2 h1
    have e := rgood_pre (by omega) p2 h4
    have h5 := h4 p.length (by omega)
    rw [← e] at h5
    have := repAt_one h5.1 p4
    have := h5.2
    omega
  cases a <;> cases b
  · exact ⟨by rw [(h.2 rfl).1, (h'.2 rfl).1], rfl⟩
  · exact (no h' h).elim
  · exact (no h h').elim
  · obtain ⟨h1, h2, h3, h4⟩ := h.1 rfl
    obtain ⟨g1, g2, g3, g4⟩ := h'.1 rfl
    refine ⟨?_, rfl⟩
    have e := rgood_pre (by omega) h4 g4
    rwa [List.take_of_length_le (by omega)] at e
theorem both_or (l : List S63) (hs : Short l) (k0 : Int) (k1 : List Int) (hk : k1.length ≤ 1099511627776) (xs : List Int) (hb : xs.length ≤ 1099511627776) (o0 o1 o2 : Int) :
    ∃ out ok, Ev (fun k => impl_OutageRepair.f k l k0 k1 xs o0 o1 o2) (out, ok) ∧ Ev (fun k => spec_OutageRepair.f k l k0 k1 xs o0 o1 o2) (out, ok) ∧ Repd l k0 k1 xs o0 o1 o2 out ok := by
  obtain ⟨out, ok, h1, h2⟩ := impl_or l hs k0 k1 xs o0 o1 o2
  obtain ⟨out', ok', g1, g2⟩ := spec_or l hs k0 k1 hk xs hb o0 o1 o2
  obtain ⟨rfl, rfl⟩ := repd_one h2 g2
  exact ⟨out, ok, h1, g1, h2⟩
end Go.Proofs.Ytfnpiacmlahegaa.BRp
/- OutageRepair returns what the reference's returns, for all arguments. No condition beyond the statement's own. -/
namespace Go.Proofs.Ytfnpiacmlahegaa.Pure
open Go.RowKit Go.Proofs.Ytfnpiacmlahegaa.PRp Go.Proofs.Ytfnpiacmlahegaa.BRp Go.Proofs.YtfnpiacmlahegaaW.PrintWords Go.Proofs.YtfnpiacmlahegaaW.PrintLast Go.Proofs.YtfnpiacmlahegaaW.PrintMore
set_option linter.unusedVariables false
set_option linter.unusedSimpArgs false
theorem FnExactOutageRepair : laws_FnExactOutageRepair.Pure := by
  intro l h t m o0 o1 o2 hm hi ht hm2 _
  have hm' : l.length ≤ 9223372036854775807 := by unfold maxLen at hm; exact hm
  have hi' : ∀ x ∈ l, x.f3.length ≤ 9223372036854775807 := by unfold maxLen at hi; exact hi
  have ht' : t.length ≤ 9223372036854775807 := by unfold maxLen at ht; exact ht
  refine Ev.rounds ?_
  unfold laws_FnExactOutageRepair.f
  refine ev_ite (fun _ => Ev.now _) (fun h1 => ?_)
  obtain ⟨r, hr, hc⟩ := sz_ev l 1048576 (by omega) hm' hi'
  refine Ev.bind hr ?_
  rcases hc with hc | ⟨h0, h00, hf⟩
  · exact ev_pos hc (Ev.now _)
  refine ev_neg (by omega) ?_
  obtain ⟨r2, hr2, hc2⟩ := szK_ev h t r ⟨h0, h00⟩ ht'
  rw [hr2]; simp only [Option.bind_some]
  rcases hc2 with hc2 | ht2
  · exact ev_pos hc2 (Ev.now _)
  refine ev_ite (fun _ => Ev.now _) (fun _ => ?_)
  have hs := fit_small hf
  have t1 := to_ev l hf
  have t2 := toK_ev h t ht2
  have t3 := toInt_ev m (by omega)
  obtain ⟨m0, m1⟩ := mark_fit l hf
  obtain ⟨out, ok, hI, hS, hM⟩ := both_or (l.map conv) hs h t (by omega) m (by omega) o0 o1 o2
  have ho : out.length ≤ 1048576 := by
    have h2 := hf.1
    unfold Repd at hM
    cases ok with
    | true => have := (hM.1 rfl).2.1; simp only [List.length_map] at this; omega
    | false => rw [(hM.2 rfl).1]; simp
  have eo := eqInt_ev out (by omega)
  have em := eqInt_ev m (by omega)
  have km : Ev (fun k => laws_markKitchen.f k h t (markStepF (l.map conv) 1)) (markStepF (l.map conv) 1 + t.length, run (markStepF (l.map conv) 1) t.length) := by
    unfold laws_markKitchen.f
    exact Ev.bind (mark_more t _ m0 (by omega) (by omega)) (Ev.now _)
  have km2 := mark_more m (markStepF (l.map conv) 1 + t.length) (by omega) (by omega) (by omega)
  have mo := mark_ev out 1 (by omega) (by omega) (by omega)
  have hh := held_ev out.length 1 (by omega) (by omega) (by omega)
  have hO : laws_toOutage.f o0 o1 o2 = some (o0, o1, o2) := rfl
  simp only [hO, Option.bind_some]
  refine Ev.bind t1 (Ev.bind t2 (Ev.bind t3 (Ev.bind hS (Ev.bind t1 (Ev.bind t2 (Ev.bind t3 (Ev.bind hI (Ev.bind eo (ev_pos rfl (ev_succ ?_))))))))))
  simp only [laws_FnExactOutageRepair.j0]
  refine ev_neg (by simp) (Ev.bind t1 (Ev.bind (eq_ev _ hs) (ev_pos rfl (Ev.bind t2 (Ev.bind (eqK_ev h t ht2) (ev_pos rfl (Ev.bind t3 (Ev.bind em (ev_pos rfl (Ev.bind km (Ev.bind km2 (ev_neg (by dsimp only; omega) (Ev.bind eo (ev_pos rfl (ev_succ ?_)))))))))))))))
  simp only [laws_FnExactOutageRepair.j1, hO, Option.bind_some]
  refine ev_neg (by simp) (Ev.bind mo (Ev.bind hh (ev_neg (by omega) (ev_pos rfl (Ev.bind t1 (Ev.bind t2 (Ev.bind t3 (Ev.bind hI (Ev.bind eo (ev_pos rfl (ev_succ ?_)))))))))))
  simp only [laws_FnExactOutageRepair.j2]
  exact ev_neg (by simp) (Ev.bind hh (ev_neg (by omega) (ev_pos rfl (Ev.now _))))
end Go.Proofs.Ytfnpiacmlahegaa.Pure
namespace Go.Proofs.Ytfnpiacmlahegaa.Op
open Go.RowKit Go.Proofs.YtfnpiacmlahegaaW.PrintWords Go.ChangeShapes Go.WideShapes Go.Deep
set_option linter.unusedVariables false
def Opens {α : Type} (P : Program) (d : Kd α) (e : TypeId) : Prop :=
  ∀ (H : Type) (enc : TypeId × Value → H) (w : World) (base : Nat) (spare : Nat → Bool) (held : Bool) (fuel : Nat) (cs : List Value) (x : DataW H × List MemPlace),
    DataW.trod enc P w base spare held fuel e cs = some x → ∃ a : α, d.K w a cs
theorem opens_int {P : Program} {k : IntKind} {e : TypeId} (ht : P.underlying e = some (.int k)) : Opens P (Kd.int k) e := by
  intro H enc w base spare held fuel cs x h
  obtain ⟨n, rfl, _, _⟩ := DataW.trod_int ht h
  exact ⟨n, rfl⟩
theorem list_of {α : Type} {Q : Nat → α → Prop} : ∀ n : Nat, (∀ i, i < n → ∃ y, Q i y) → ∃ xs : List α, xs.length = n ∧ ∀ i p, xs[i]? = some p → Q i p
  | 0, _ => ⟨[], rfl, fun i p h => by simp at h⟩
  | n + 1, h => by
    obtain ⟨xs, hl, hx⟩ := list_of n (fun i hi => h i (by omega))
    obtain ⟨y, hy⟩ := h n (by omega)
    refine ⟨xs ++ [y], by simp [hl], fun i p hp => ?_⟩
    by_cases hi : i < n
    · rw [List.getElem?_append_left (by omega)] at hp; exact hx i p hp
    · rw [List.getElem?_append_right (by omega)] at hp
      by_cases e : i = n
      · subst e; rw [hl, Nat.sub_self] at hp; simp at hp; subst hp; exact hy
      · have : i - xs.length = (i - xs.length - 1) + 1 := by omega
        rw [this] at hp; simp at hp
theorem opens_row {α : Type} {P : Program} {d : Kd α} {t e : TypeId} (ht : P.underlying t = some (.slice e)) (hC : P.cellsOf e = d.sz) (hd : Opens P d e)
    {H : Type} {enc : TypeId × Value → H} {w : World} {base : Nat} {spare : Nat → Bool} {held : Bool} {fuel : Nat} {cs : List Value} {x : DataW H × List MemPlace}
    (h : DataW.trod enc P w base spare held fuel t cs = some x) : ∃ (A : Option Addr) (xs : List α) (c : Nat), cs = [.slice A xs.length c] ∧ xs.length ≤ c ∧ xs.length ≤ maxLen ∧ d.C w A xs.length xs := by
  rcases open_slice ht h with ⟨rfl, _⟩ | ⟨a, len, cap, m, n, D, Pl, rfl, _, hl, hm, hmm, _, hi⟩
  · exact ⟨none, [], 0, rfl, Nat.le_refl _, Nat.zero_le _, rfl, by simp, fun h => absurd h (Nat.lt_irrefl 0)⟩
  · have hlm : len ≤ m := by rw [hmm]; split <;> omega
    obtain ⟨xs, hlen, hx⟩ := list_of (Q := fun i (y : α) => ∃ cs', w.cells? base (a.add (i * P.cellsOf e)) (P.cellsOf e) = some cs' ∧ d.K w y cs') len (fun i hlt => by
      obtain ⟨cs', hc, ht'⟩ := hi i (by omega)
      obtain ⟨y, hy⟩ := hd _ _ _ _ _ _ _ _ _ ht'
      exact ⟨y, cs', hc, hy⟩)
    subst hlen
    have hmx : xs.length ≤ maxLen := by omega
    refine ⟨some a, xs, cap, rfl, hl, hmx, rfl, by unfold maxLen at hmx; exact hmx, fun _ => ⟨a, rfl, fun j p hj => ?_⟩⟩
    obtain ⟨cs', hc, hK⟩ := hx j p hj
    obtain ⟨_, hcl, hat⟩ := World.cells?_some hc
    have hs := d.K_len hK
    refine ⟨cs', hs, hK, fun i u hu => ?_⟩
    have hil : i < P.cellsOf e := by
      rw [hC, ← hs]; exact (List.getElem?_eq_some_iff.1 hu).1
    have := hat i hil
    rw [← hu, ← this, Go.Deep.add_add, hC]
theorem C_all {α : Type} {d : Kd α} {w : World} {A : Option Addr} {n : Nat} {xs : List α} {Q : α → Prop} (h : d.C w A n xs) (hQ : ∀ x cs, d.K w x cs → Q x) : ∀ x ∈ xs, Q x := by
  intro x hx
  obtain ⟨j, hj, he⟩ := List.getElem_of_mem hx
  obtain ⟨ad, _, hc⟩ := h.2.2 (by have := h.1; omega)
  obtain ⟨c, _, hK, _⟩ := hc j x (by rw [List.getElem?_eq_getElem hj, he])
  exact hQ x c hK
theorem opens_slice {α : Type} {P : Program} {d : Kd α} {t e : TypeId} (ht : P.underlying t = some (.slice e)) (hC : P.cellsOf e = d.sz) (hd : Opens P d e) : Opens P (Kd.slice e d) t := by
  intro H enc w base spare held fuel cs x h
  obtain ⟨A, xs, c, rfl, hc, _, hr⟩ := opens_row ht hC hd h
  exact ⟨xs, A, c, rfl, hc, hr⟩
theorem opens_ints {P : Program} {k : IntKind} {t e : TypeId} (ht : P.underlying t = some (.slice e)) (he : P.underlying e = some (.int k)) (hC : P.cellsOf e = 1)
    {H : Type} {enc : TypeId × Value → H} {w : World} {base : Nat} {held : Bool} {fuel : Nat} {a : Option Addr} {len cap : Nat} {x : DataW H × List MemPlace}
    (h : DataW.trod enc P w base (fun _ => true) held fuel t (Value.slice a len cap).cells.toList = some x) :
    ∃ l : List Int, len = l.length ∧ Kd.C (Kd.int k) w a l.length l ∧ l.length ≤ cap ∧ l.length ≤ maxLen ∧ ∀ y ∈ l, (Lit.int k y).wf = true := by
  have hrow : (a = none ∧ len = 0 ∧ cap = 0 ∧ ([] : List Int) = []) ∨ ∃ (zs : List Int) (x : Addr), a = some x ∧ len ≤ cap ∧ cap ≤ maxLen ∧ zs.length = cap ∧ (∀ i, i < zs.length → w.cell? (x.add i) = some (.int k (zs.getD i 0))) ∧ ∀ n ∈ zs, (Lit.int k n).wf = true := by
    rcases open_ints ht he hC h with ⟨hcs, _⟩ | ⟨x, l, c, zs, hcs, _, hl, hm, hz, _, hcell, hwz⟩
    · simp [Value.cells] at hcs
      obtain ⟨rfl, rfl, rfl⟩ := hcs
      exact .inl ⟨rfl, rfl, rfl, rfl⟩
    · simp [Value.cells] at hcs
      obtain ⟨rfl, rfl, rfl⟩ := hcs
      exact .inr ⟨zs, _, rfl, hl, hm, by simpa using hz, hcell, hwz⟩
  rcases hrow with ⟨rfl, rfl, rfl, _⟩ | ⟨zs, y, h1⟩
  · exact ⟨[], rfl, Kd.C_nil _ _, Nat.le_refl _, Nat.zero_le _, fun _ h => by cases h⟩
  · obtain ⟨l, rfl, hr, hm, hw, hc⟩ := ReadsInt.ofRowC (.inr ⟨y, h1⟩)
    exact ⟨l, rfl, Kd.C_of_reads (d := (0 : Int)) (h1 := fun _ => rfl) hr, hc, hm, hw⟩
def OpensL {α : Type} (P : Program) (d : Kd α) (ts : List TypeId) : Prop :=
  ∀ (H : Type) (enc : TypeId × Value → H) (w : World) (base : Nat) (spare : Nat → Bool) (held : Bool) (fuel : Nat) (cs : List Value), cs.length = ts.length →
    (∀ i t, ts[i]? = some t → ∃ y, DataW.trod enc P w base spare held fuel t ((cs.drop i).take 1) = some y) → ∃ a : α, d.K w a cs
theorem opensL_one {α : Type} {P : Program} {d : Kd α} {t : TypeId} (h : Opens P d t) : OpensL P d [t] := by
  intro H enc w base spare held fuel cs hl hf
  obtain ⟨y, hy⟩ := hf 0 t rfl
  match cs, hl with
  | [c], _ => exact h _ _ _ _ _ _ _ _ _ hy
theorem opensL_cons {α β : Type} {P : Program} {d : Kd α} {d' : Kd β} {t : TypeId} {ts : List TypeId} (h : Opens P d t) (hl : OpensL P d' ts) : OpensL P (Kd.pair d d') (t :: ts) := by
  intro H enc w base spare held fuel cs hlen hf
  match cs, hlen with
  | c :: cs, hlen =>
    obtain ⟨y, hy⟩ := hf 0 t rfl
    obtain ⟨a, ha⟩ := h _ _ _ _ _ _ _ _ _ hy
    obtain ⟨b, hb⟩ := hl H enc w base spare held fuel cs (by simpa using hlen) (fun i t' ht' => hf (i + 1) t' (by simpa using ht'))
    exact ⟨(a, b), [c], cs, rfl, by simpa using ha, hb⟩
theorem opens_struct {α β : Type} {P : Program} {d : Kd α} {f : β → α} {g : α → β} {t : TypeId} {fs : Array Field} {ts : List TypeId} (hfg : ∀ a, f (g a) = a) (ht : P.underlying t = some (.struct fs)) (hone : oneCellFields P fs = true) (hC : P.cellsOf t = ts.length)
    (hts : fs.toList.map (·.type) = ts) (hl : OpensL P d ts) : Opens P (Kd.iso d f) t := by
  intro H enc w base spare held fuel cs x h
  obtain ⟨ys, n, _, _, hlen, hyl, hf⟩ := DataW.trod_struct ht h
  have key : ∃ a : α, d.K w a cs := by
    refine hl H enc w base spare held n cs (by rw [hlen, hC]) (fun i t' ht' => ?_)
    have hlt : i < ts.length := (List.getElem?_eq_some_iff.1 ht').1
    have hfl : fs.size = ts.length := by rw [← hts]; simp
    have hfi : fs[i]? = some (fs[i]'(by omega)) := Array.getElem?_eq_getElem (by omega)
    obtain ⟨ho, hk⟩ := hone_of hone i _ hfi
    have he : (fs[i]'(by omega)).type = t' := by
      have : (fs.toList.map (·.type))[i]? = some t' := by rw [hts]; exact ht'
      rw [List.getElem?_map, Array.getElem?_toList, hfi] at this
      simpa using this
    have h1 := hf i _ hfi
    rw [ho, hk, he] at h1
    have hyi : ys[i]? = some (ys[i]'(by omega)) := List.getElem?_eq_getElem (by omega)
    exact ⟨_, h1.trans hyi⟩
  obtain ⟨a, ha⟩ := key
  exact ⟨g a, by show d.K w (f (g a)) cs; rw [hfg]; exact ha⟩
end Go.Proofs.Ytfnpiacmlahegaa.Op

