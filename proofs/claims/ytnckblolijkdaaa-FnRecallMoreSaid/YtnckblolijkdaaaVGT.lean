import Derived.Test.YtnckblolijkdaaaVGWMore
import Derived.Test.YtnckblolijkdaaaVGWNEv
import Derived.Laws.BitsLemmas
import Derived.Test.YtnckblolijkdaaaVGPBtx1
import Derived.Test.YtnckblolijkdaaaVGPBtx3
import Derived.Test.YtnckblolijkdaaaVGPBtx4
import Derived.Test.YtnckblolijkdaaaVGPBtx5
import Derived.Test.YtnckblolijkdaaaVGPBtx6
import Derived.Test.YtnckblolijkdaaaVGPBtx2
import Derived.Test.YtnckblolijkdaaaVGPBtx11
import Derived.Test.YtnckblolijkdaaaVGPBtx15
import Derived.Test.YtnckblolijkdaaaVGPBtx19
import Derived.Test.YtnckblolijkdaaaVGPBtx25
import Derived.Test.YtnckblolijkdaaaVGPBtx16
import Derived.Test.YtnckblolijkdaaaVGPBtx17
import Derived.Test.YtnckblolijkdaaaVGPBtx33
import Derived.Test.YtnckblolijkdaaaVGPBtx34
import Derived.Test.YtnckblolijkdaaaVGPBtx12
import Derived.Test.YtnckblolijkdaaaVGPBtx36
namespace Go.Proofs.Ytnckblolijkdaaa.BBt
open Go.RowKit Go.Proofs.YtnckblolijkdaaaW.PrintWords Go.Proofs.YtnckblolijkdaaaW.PrintLast Go.Proofs.YtnckblolijkdaaaW.PrintMore
set_option linter.unusedVariables false
set_option linter.unusedSimpArgs false
theorem ev_succ {α : Type} {g : Nat → Option α} {r : α} (h : Ev (fun k => g (k + 1)) r) : Ev g r := Ev.step (fun _ => rfl) h
theorem ev_const {α : Type} {r s : α} (h : r = s) : Ev (fun _ => some r) s := by subst h; exact Ev.now r
theorem ev_pos {α : Type} {c : Prop} [Decidable c] {a b : Nat → Option α} {r : α} (hc : c) (h : Ev a r) : Ev (fun k => if c then a k else b k) r :=
  Ev.congr (fun k => if_pos hc) h
theorem ev_neg {α : Type} {c : Prop} [Decidable c] {a b : Nat → Option α} {r : α} (hc : ¬ c) (h : Ev b r) : Ev (fun k => if c then a k else b k) r :=
  Ev.congr (fun k => if_neg hc) h
theorem ev_ite {α : Type} {c : Prop} [Decidable c] {a b : Nat → Option α} {r : α} (h1 : c → Ev a r) (h2 : ¬ c → Ev b r) : Ev (fun k => if c then a k else b k) r := by
  by_cases hc : c
  · exact ev_pos hc (h1 hc)
  · exact ev_neg hc (h2 hc)
theorem ev_eq {α : Type} {g : Nat → Option α} {r s : α} (h : Ev g r) (e : r = s) : Ev g s := e ▸ h
theorem ev_some {α β : Type} {f : Nat → α → Option β} {a : α} {r : β} (h : Ev (fun n => f n a) r) : Ev (fun n => (some a).bind (f n)) r := h
theorem w64 {x : Int} (h0 : -9223372036854775808 ≤ x) (h1 : x ≤ 9223372036854775807) : wrap64 x = x := by unfold wrap64; omega
theorem getD_at {α : Type} (p : List α) (x : α) (q : List α) (d : α) : (p ++ x :: q).getD p.length d = x := by simp [List.getD]
theorem rd_at (p : List Int) (x : Int) (q : List Int) : rd (p ++ x :: q) (p.length : Int) = x := getD_at p x q 0
theorem rd_lt (l : List Int) (i : Int) (h0 : 0 ≤ i) (h1 : i < l.length) : rd l i ∈ l := by
  unfold rd; rw [List.getD_eq_getElem?_getD, List.getElem?_eq_getElem (by omega)]; exact List.getElem_mem _
theorem rds {xs p : List Int} {x : Int} {q : List Int} (h : xs = p ++ x :: q) : rd xs (p.length : Int) = x := by subst h; exact rd_at p x q
theorem len_at {α : Type} {xs p : List α} {x : α} {q : List α} (h : xs = p ++ x :: q) : (p.length : Int) < (xs.length : Int) := by subst h; simp; omega
theorem snoc_at {α : Type} {xs p : List α} {x : α} {q : List α} (h : xs = p ++ x :: q) : xs = (p ++ [x]) ++ q := by subst h; simp
theorem wlen {α : Type} {xs p : List α} {x : α} {q : List α} (h : xs = p ++ x :: q) (hb : xs.length ≤ 1099511627776) : wrap64 ((p.length : Int) + 1) = ((p ++ [x]).length : Int) := by
  subst h; rw [w64 (by omega) (by simp at hb; omega)]; simp
end Go.Proofs.Ytnckblolijkdaaa.BBt
namespace Go.Proofs.Ytnckblolijkdaaa.BBt
open Go.RowKit Go.Proofs.Ytnckblolijkdaaa.PBt Go.Proofs.YtnckblolijkdaaaW.PrintWords Go.Proofs.YtnckblolijkdaaaW.PrintLast Go.Proofs.YtnckblolijkdaaaW.PrintMore
set_option linter.unusedVariables false
set_option linter.unusedSimpArgs false
theorem xor_nonneg (a b : Int) (ha : 0 ≤ a) (ha1 : a < 2 ^ 40) (hb : 0 ≤ b) (hb1 : b < 2 ^ 40) : 0 ≤ Go.bits .xor .i64 a b := by
  obtain ⟨a, rfl⟩ := Int.eq_ofNat_of_zero_le ha
  obtain ⟨b, rfl⟩ := Int.eq_ofNat_of_zero_le hb
  have ha' : a < 2 ^ 40 := by omega
  have hb' : b < 2 ^ 40 := by omega
  have e : Go.bits .xor .i64 (a : Int) (b : Int) = (((a ^^^ b : Nat)) : Int) := by
    have hx : a ^^^ b < 2 ^ 40 := Nat.xor_lt_two_pow ha' hb'
    have h1 : a % 2 ^ IntKind.i64.bits = a := Nat.mod_eq_of_lt (by show a < 2 ^ 64; omega)
    have h2 : b % 2 ^ IntKind.i64.bits = b := Nat.mod_eq_of_lt (by show b < 2 ^ 64; omega)
    simp only [Go.bits, BitVec.ofInt_natCast, BitVec.toNat_xor, BitVec.toNat_ofNat, h1, h2]
    rw [IntKind.wrap_i64]; omega
  rw [e]; exact Int.natCast_nonneg _
def Tape (s : List Int) : Prop := s.length ≤ 2000 ∧ ∀ x ∈ s, 0 ≤ x ∧ x ≤ 255
theorem tdiv_eq (a b : Int) (h : 0 ≤ a) : Int.tdiv a b = a / b := Int.tdiv_eq_ediv_of_nonneg h
theorem tmod_eq (a b : Int) (h : 0 ≤ a) : Int.tmod a b = a % b := Int.tmod_eq_emod_of_nonneg h
theorem tmod_lt (a b : Int) (h : 0 ≤ a) (hb : 0 < b) : 0 ≤ Int.tmod a b ∧ Int.tmod a b < b := by
  rw [tmod_eq a b h]; exact ⟨Int.emod_nonneg _ (by omega), Int.emod_lt_of_pos _ hb⟩
theorem pick_ev (s : List Int) (hs : Tape s) (p n : Int) (hp : 0 ≤ p) (hp1 : p ≤ 1073741824) (hn : 1 ≤ n) :
    ∃ v, 0 ≤ v ∧ v < n ∧ Ev (fun k => spec_l6Rd_pick.f k s p n) (v, p + 1) := by
  obtain ⟨hl, hb⟩ := hs
  have e1 : wrap64 (p + 1) = p + 1 := w64 (by omega) (by omega)
  have e2 : wrap64 (p + 1 - 1) = p := by rw [w64 (by omega) (by omega)]; omega
  have hneg : ¬ n < 1 := by omega
  by_cases h0 : s.length = 0
  · refine ⟨0, by omega, by omega, ?_⟩
    refine Ev.congr (f := fun k => spec_l6Rd_pick.j0 k n true s (p + 1)) (fun k => ?_) ?_
    · simp only [spec_l6Rd_pick.f, if_neg hneg, e1, h0]; rfl
    · refine ev_succ ?_
      simp only [spec_l6Rd_pick.j0, if_true]
      exact Ev.now _
  · have hlen : ((s.length : Int) == 0) = false := by simp; simpa using h0
    have key : ∃ v, 0 ≤ v ∧ v < n ∧ Ev (fun k => spec_l6Rd_pick.j0 k n false s (p + 1)) (v, p + 1) := by
      by_cases h1 : p < (s.length : Int)
      · have hm := hb _ (rd_lt s p hp h1)
        have e3 : wrap64 (rd s p) = rd s p := w64 (by omega) (by omega)
        obtain ⟨a, b⟩ := tmod_lt (rd s p) n hm.1 (by omega)
        refine ⟨_, a, b, ev_succ ?_⟩
        simp only [spec_l6Rd_pick.j0, e2, e3]
        refine ev_neg (by simp) (ev_pos h1 (ev_pos hp (ev_neg (by omega) (Ev.now _))))
      · have hL : (0 : Int) < s.length := by omega
        have q1 := tmod_lt p (s.length : Int) hp hL
        have e4 : wrap64 (p * 7) = p * 7 := w64 (by omega) (by omega)
        have e5 : wrap64 (p * 7 + 3) = p * 7 + 3 := w64 (by omega) (by omega)
        have q2 := tmod_lt (p * 7 + 3) (s.length : Int) (by omega) hL
        have m1 := hb _ (rd_lt s _ q1.1 q1.2)
        have m2 := hb _ (rd_lt s _ q2.1 q2.2)
        have hd : 0 ≤ p / (s.length : Int) ∧ p / (s.length : Int) ≤ p := ⟨Int.ediv_nonneg hp (by omega), Int.ediv_le_self _ hp⟩
        generalize hA : rd s (Int.tmod p (s.length : Int)) = A at m1
        generalize hB : rd s (Int.tmod (p * 7 + 3) (s.length : Int)) = B at m2
        generalize hD : p / (s.length : Int) = D at hd
        have eD : Int.tdiv p (s.length : Int) = D := by rw [tdiv_eq _ _ hp, hD]
        have f1 : wrap64 A = A := w64 (by omega) (by omega)
        have f2 : wrap64 (A * 131) = A * 131 := w64 (by omega) (by omega)
        have f3 : wrap64 B = B := w64 (by omega) (by omega)
        have f4 : wrap64 (B * 1117) = B * 1117 := w64 (by omega) (by omega)
        have f5 : wrap64 (A * 131 + B * 1117) = A * 131 + B * 1117 := w64 (by omega) (by omega)
        have f6 : wrap64 (p * 29) = p * 29 := w64 (by omega) (by omega)
        have f7 : wrap64 (A * 131 + B * 1117 + p * 29) = A * 131 + B * 1117 + p * 29 := w64 (by omega) (by omega)
        have f8 : wrap64 D = D := w64 (by omega) (by omega)
        have f9 : wrap64 (D * 53) = D * 53 := w64 (by omega) (by omega)
        have f10 : wrap64 (A * 131 + B * 1117 + p * 29 + D * 53) = A * 131 + B * 1117 + p * 29 + D * 53 := w64 (by omega) (by omega)
        generalize hX : A * 131 + B * 1117 + p * 29 + D * 53 = X at f10
        have hX0 : 0 ≤ X ∧ X < 2 ^ 40 := by omega
        have eX : Int.tdiv X 64 = X / 64 := tdiv_eq _ _ hX0.1
        have f11 : wrap64 (X / 64) = X / 64 := w64 (by omega) (by omega)
        have hx := xor_nonneg X (X / 64) hX0.1 hX0.2 (by omega) (by omega)
        obtain ⟨a, b⟩ := tmod_lt (Go.bits .xor .i64 X (X / 64)) n hx (by omega)
        refine ⟨_, a, b, ev_succ ?_⟩
        simp only [spec_l6Rd_pick.j0, e2, e4, e5, hA, hB, eD, f1, f2, f3, f4, f5, f6, f7, f8, f9, hX, f10, eX, f11]
        exact ev_neg (by simp) (ev_neg h1 (ev_neg (by omega) (ev_pos q1.1 (ev_pos q1.2 (ev_pos q2.1 (ev_pos q2.2 (ev_neg (by omega) (Ev.now _))))))))
    obtain ⟨v, a, b, h⟩ := key
    refine ⟨v, a, b, Ev.congr (fun k => ?_) h⟩
    simp only [spec_l6Rd_pick.f, if_neg hneg, e1, hlen]
theorem open_tape (l : List Int) (hl : ∀ x ∈ l, (Lit.int .u8 x).wf = true) : ∃ s, Tape s ∧ spec_l6Open.f l = some (s, 0) := by
  have hw : ∀ x ∈ l, 0 ≤ x ∧ x ≤ 255 := fun x hx => by
    have := hl x hx
    simp [Lit.wf, IntKind.min, IntKind.max, IntKind.signed, IntKind.bits] at this
    omega
  unfold spec_l6Open.f
  by_cases h : (l.length : Int) > 2000
  · rw [if_pos h, if_pos (by omega)]
    exact ⟨_, ⟨by simp; omega, fun x hx => hw x (List.mem_of_mem_take hx)⟩, rfl⟩
  · rw [if_neg h]
    exact ⟨l, ⟨by omega, hw⟩, rfl⟩
theorem in_ev (a b c : Int) : spec_l6In.f a b c = some (decide (b ≤ a ∧ a ≤ c)) := by
  unfold spec_l6In.f
  by_cases h : a ≥ b
  · rw [if_pos h]; simp; omega
  · rw [if_neg h]; simp; omega
theorem within_ev (a b c : Int) : impl_within.f a b c = some (decide (b ≤ a ∧ a ≤ c)) := by
  unfold impl_within.f
  by_cases h : a ≥ b
  · rw [if_pos h]; simp; omega
  · rw [if_neg h]; simp; omega
theorem minute_ev (a : Int) : impl_isMinute.f a = some (decide (0 ≤ a ∧ a ≤ 1439)) := by unfold impl_isMinute.f; rw [within_ev]; rfl
theorem id_ev (a : Int) : impl_isId.f a = some (decide (1 ≤ a ∧ a ≤ 20)) := by unfold impl_isId.f; rw [within_ev]; rfl
theorem dec_eq {p q : Prop} [Decidable p] [Decidable q] (h : p ↔ q) : decide p = decide q := by simp [h]
theorem dec_no {p : Prop} [Decidable p] (h : ¬ p) : false = decide p := by simp [h]
def above (q : Option Int) (m : Int) : Prop := match q with | none => True | some y => y < m
instance (q : Option Int) (m : Int) : Decidable (above q m) := by unfold above; cases q <;> infer_instance
def LastBy {α : Type} (g : α → Int) (p : List α) (q : Option Int) : Prop := (p = [] ∧ q = none) ∨ ∃ p' y, p = p' ++ [y] ∧ q = some (g y)
theorem lastBy_snoc {α : Type} (g : α → Int) (p : List α) (x : α) : LastBy g (p ++ [x]) (some (g x)) := .inr ⟨p, x, rfl, rfl⟩
def Asc : Option Int → List Int → Prop
  | _, [] => True
  | q, x :: r => (1 ≤ x ∧ x ≤ 20) ∧ above q x ∧ Asc (some x) r
def decAsc : (q : Option Int) → (l : List Int) → Decidable (Asc q l)
  | _, [] => isTrue trivial
  | q, x :: r => by
    unfold Asc
    have := decAsc (some x) r
    infer_instance
instance (q : Option Int) (l : List Int) : Decidable (Asc q l) := decAsc q l
theorem prev_at {α : Type} {xs p' : List α} {y x : α} {s : List α} (hx : xs = (p' ++ [y]) ++ x :: s) (hb : xs.length ≤ 1099511627776) : wrap64 (((p' ++ [y]).length : Int) - 1) = (p'.length : Int) ∧ (p'.length : Int) < (xs.length : Int) ∧ xs = p' ++ y :: (x :: s) := by
  refine ⟨?_, by subst hx; simp <;> omega, by subst hx; simp⟩
  rw [w64 (by omega) (by subst hx; simp at hb ⊢; omega)]; simp
theorem asc_loop (xs : List Int) (hb : xs.length ≤ 1099511627776) : ∀ (s p : List Int) (q : Option Int), xs = p ++ s → LastBy id p q →
    Ev (fun k => impl_idsAscend.l0 k xs xs (xs.length : Int) (p.length : Int)) (decide (Asc q s)) := by
  intro s
  induction s with
  | nil => intro p q hx hq; refine ev_succ ?_; simp only [impl_idsAscend.l0]; exact ev_neg (by subst hx; simp) (ev_const (decide_eq_true (p := Asc q []) trivial).symm)
  | cons x s ih =>
    intro p q hx hq; refine ev_succ ?_
    simp only [impl_idsAscend.l0, rds hx, wlen hx hb, id_ev, Option.bind_some]
    refine ev_pos (len_at hx) (ev_pos (by omega) (ev_pos (len_at hx) ?_))
    have hi := ih (p ++ [x]) (some x) (snoc_at hx) (lastBy_snoc id p x)
    refine ev_ite (fun h1 => ?_) (fun h1 => ev_const (dec_no (fun h => h1 (decide_eq_true h.1))))
    have h1' := of_decide_eq_true h1
    rcases hq with ⟨rfl, rfl⟩ | ⟨p', y, rfl, rfl⟩
    · refine ev_neg (by simp) (ev_eq hi (dec_eq ?_))
      simp only [Asc, above]; exact ⟨fun h => ⟨h1', trivial, h⟩, fun h => h.2.2⟩
    · obtain ⟨e1, e2, e3⟩ := prev_at hx hb
      rw [e1, rds e3]
      refine ev_pos (by simp <;> omega) (ev_pos (by omega) (ev_pos e2 (ev_ite (fun h3 => ev_const (dec_no (fun h => ?_))) (fun h3 => ev_eq hi (dec_eq ?_)))))
      · have := h.2.1; simp only [above, id] at this; omega
      · simp only [Asc, above, id]; exact ⟨fun h => ⟨h1', by omega, h⟩, fun h => h.2.2⟩
theorem asc_ev (xs : List Int) (hb : xs.length ≤ 1099511627776) : Ev (fun k => impl_idsAscend.f k xs) (decide (Asc none xs)) :=
  asc_loop xs hb xs [] none rfl (.inl ⟨rfl, rfl⟩)
def B1 (x : S39) : Prop := (1 ≤ x.f0 ∧ x.f0 ≤ 20) ∧ Asc none x.f1 ∧ (0 ≤ x.f2 ∧ x.f2 ≤ 1439) ∧ (x.f2 ≤ x.f3 ∧ x.f3 ≤ 1439)
instance (x : S39) : Decidable (B1 x) := by unfold B1; infer_instance
def BOk : Option Int → List S39 → Prop
  | _, [] => True
  | q, x :: r => B1 x ∧ above q x.f0 ∧ BOk (some x.f0) r
def decBOk : (q : Option Int) → (l : List S39) → Decidable (BOk q l)
  | _, [] => isTrue trivial
  | q, x :: r => by
    unfold BOk
    have := decBOk (some x.f0) r
    infer_instance
instance (q : Option Int) (l : List S39) : Decidable (BOk q l) := decBOk q l
def BValid (l : List S39) : Prop := BOk none l ∧ (l.length : Int) ≤ 6
instance (l : List S39) : Decidable (BValid l) := by unfold BValid; infer_instance
theorem rd39s {xs p : List S39} {x : S39} {q : List S39} (h : xs = p ++ x :: q) : rd_T39 xs (p.length : Int) = x := by subst h; exact getD_at p x q z39
def Small (xs : List S39) : Prop := xs.length ≤ 1099511627776 ∧ ∀ x ∈ xs, x.f1.length ≤ 1099511627776
theorem small_at {xs p : List S39} {x : S39} {q : List S39} (hs : Small xs) (h : xs = p ++ x :: q) : x.f1.length ≤ 1099511627776 := hs.2 x (by subst h; simp)
theorem impl_b_loop (xs : List S39) (hs : Small xs) : ∀ (s p : List S39) (q : Option Int), xs = p ++ s → LastBy S39.f0 p q →
    Ev (fun k => impl_BatchesValid.l0 k xs xs (xs.length : Int) (p.length : Int)) (decide (BOk q s ∧ (xs.length : Int) ≤ 6)) := by
  intro s
  induction s with
  | nil => intro p q hx hq; refine ev_succ ?_; simp only [impl_BatchesValid.l0]; exact ev_neg (by subst hx; simp) (ev_const (dec_eq (by simp [BOk])))
  | cons x s ih =>
    intro p q hx hq; refine ev_succ ?_
    simp only [impl_BatchesValid.l0, rd39s hx, wlen hx hs.1, id_ev, minute_ev, within_ev, Option.bind_some]
    refine ev_pos (len_at hx) (ev_pos (by omega) (ev_pos (len_at hx) ?_))
    have hi := ih (p ++ [x]) (some x.f0) (snoc_at hx) (lastBy_snoc _ p x)
    refine ev_ite (fun h1 => Ev.bind (asc_ev x.f1 (small_at hs hx)) (ev_ite (fun h2 => ev_ite (fun h3 => ev_ite (fun h4 => ?_) (fun h4 => ?_)) (fun h3 => ?_)) (fun h2 => ?_))) (fun h1 => ?_)
    · have hB : B1 x := ⟨of_decide_eq_true h1, of_decide_eq_true h2, of_decide_eq_true h3, of_decide_eq_true h4⟩
      rcases hq with ⟨rfl, rfl⟩ | ⟨p', y, rfl, rfl⟩
      · refine ev_neg (by simp) (ev_eq hi (dec_eq ?_))
        simp only [BOk, above]; exact ⟨fun h => ⟨⟨hB, trivial, h.1⟩, h.2⟩, fun h => ⟨h.1.2.2, h.2⟩⟩
      · obtain ⟨e1, e2, e3⟩ := prev_at hx hs.1
        rw [e1, rd39s e3]
        refine ev_pos (by simp <;> omega) (ev_pos (by omega) (ev_pos e2 (ev_ite (fun h5 => ev_const (dec_no (fun h => ?_))) (fun h5 => ev_eq hi (dec_eq ?_)))))
        · have := h.1.2.1; simp only [above] at this; omega
        · simp only [BOk, above]; exact ⟨fun h => ⟨⟨hB, by omega, h.1⟩, h.2⟩, fun h => ⟨h.1.2.2, h.2⟩⟩
    · exact ev_const (dec_no (fun h => h4 (decide_eq_true h.1.1.2.2.2)))
    · exact ev_const (dec_no (fun h => h3 (decide_eq_true h.1.1.2.2.1)))
    · exact ev_const (dec_no (fun h => h2 (decide_eq_true h.1.1.2.1)))
    · exact ev_const (dec_no (fun h => h1 (decide_eq_true h.1.1.1)))
theorem impl_valid (xs : List S39) (hs : Small xs) : Ev (fun k => impl_BatchesValid.f k xs) (decide (BValid xs)) :=
  ev_eq (impl_b_loop xs hs xs [] none rfl (.inl ⟨rfl, rfl⟩)) rfl
theorem spec_batch_loop (x : S39) (hb : x.f1.length ≤ 1099511627776) : ∀ (s p : List Int) (q : Option Int), x.f1 = p ++ s → LastBy id p q →
    Ev (fun k => spec_l42Batch.l0 k (p.length : Int) x.f0 x.f1 x.f2 x.f3) (decide (Asc q s ∧ (1 ≤ x.f0 ∧ x.f0 ≤ 20) ∧ (0 ≤ x.f2 ∧ x.f2 ≤ 1439) ∧ (x.f2 ≤ x.f3 ∧ x.f3 ≤ 1439))) := by
  intro s
  induction s with
  | nil =>
    intro p q hx hq; refine ev_succ ?_; simp only [spec_l42Batch.l0, in_ev, Option.bind_some]
    refine ev_neg (by rw [hx]; simp) (ev_ite (fun h1 => ev_ite (fun h2 => ev_const ?_) (fun h2 => ev_const ?_)) (fun h1 => ev_const ?_))
    · refine dec_eq ⟨fun h => ⟨trivial, of_decide_eq_true h1, of_decide_eq_true h2, h⟩, fun h => h.2.2.2⟩
    · exact dec_no (fun h => h2 (decide_eq_true h.2.2.1))
    · exact dec_no (fun h => h1 (decide_eq_true h.2.1))
  | cons y s ih =>
    intro p q hx hq; refine ev_succ ?_
    simp only [spec_l42Batch.l0, rds hx, wlen hx hb, in_ev, Option.bind_some]
    refine ev_pos (len_at hx) (ev_pos (by omega) ?_)
    have hi := ih (p ++ [y]) (some y) (snoc_at hx) (lastBy_snoc id p y)
    refine ev_ite (fun h1 => ?_) (fun h1 => ev_const (dec_no (fun h => h1 (decide_eq_true h.1.1))))
    have h1' := of_decide_eq_true h1
    rcases hq with ⟨rfl, rfl⟩ | ⟨p', z, rfl, rfl⟩
    · refine ev_neg (by simp) (ev_eq hi (dec_eq ?_))
      simp only [Asc, above]; exact ⟨fun h => ⟨⟨h1', trivial, h.1⟩, h.2⟩, fun h => ⟨h.1.2.2, h.2⟩⟩
    · obtain ⟨e1, e2, e3⟩ := prev_at hx hb
      rw [e1, rds e3]
      refine ev_pos (by simp <;> omega) (ev_pos (by omega) (ev_pos e2 (ev_ite (fun h3 => ev_const (dec_no (fun h => ?_))) (fun h3 => ev_eq hi (dec_eq ?_)))))
      · have := h.1.2.1; simp only [above, id] at this; omega
      · simp only [Asc, above, id]; exact ⟨fun h => ⟨⟨h1', by omega, h.1⟩, h.2⟩, fun h => ⟨h.1.2.2, h.2⟩⟩
theorem spec_batch (x : S39) (hb : x.f1.length ≤ 1099511627776) : Ev (fun k => spec_l42Batch.f k x.f0 x.f1 x.f2 x.f3) (decide (B1 x)) := by
  have h := spec_batch_loop x hb x.f1 [] none rfl (.inl ⟨rfl, rfl⟩)
  refine ev_eq h (dec_eq ?_)
  unfold B1; exact ⟨fun h => ⟨h.2.1, h.1, h.2.2⟩, fun h => ⟨h.2.1, h.1, h.2.2⟩⟩
theorem spec_b_loop (xs : List S39) (hs : Small xs) : ∀ (s p : List S39) (q : Option Int), xs = p ++ s → LastBy S39.f0 p q →
    Ev (fun k => spec_BatchesValid.l0 k xs (p.length : Int)) (decide (BOk q s ∧ (xs.length : Int) ≤ 6)) := by
  intro s
  induction s with
  | nil => intro p q hx hq; refine ev_succ ?_; simp only [spec_BatchesValid.l0]; exact ev_neg (by subst hx; simp) (ev_const (dec_eq (by simp [BOk])))
  | cons x s ih =>
    intro p q hx hq; refine ev_succ ?_
    simp only [spec_BatchesValid.l0, rd39s hx, wlen hx hs.1]
    refine ev_pos (len_at hx) (ev_pos (by omega) (Ev.bind (spec_batch x (small_at hs hx)) ?_))
    have hi := ih (p ++ [x]) (some x.f0) (snoc_at hx) (lastBy_snoc _ p x)
    refine ev_ite (fun h1 => ?_) (fun h1 => ev_const (dec_no (fun h => h1 (decide_eq_true h.1.1))))
    have hB := of_decide_eq_true h1
    rcases hq with ⟨rfl, rfl⟩ | ⟨p', y, rfl, rfl⟩
    · refine ev_neg (by simp) (ev_eq hi (dec_eq ?_))
      simp only [BOk, above]; exact ⟨fun h => ⟨⟨hB, trivial, h.1⟩, h.2⟩, fun h => ⟨h.1.2.2, h.2⟩⟩
    · obtain ⟨e1, e2, e3⟩ := prev_at hx hs.1
      rw [e1, rd39s e3]
      refine ev_pos (by simp <;> omega) (ev_pos (by omega) (ev_pos e2 (ev_ite (fun h5 => ev_const (dec_no (fun h => ?_))) (fun h5 => ev_eq hi (dec_eq ?_)))))
      · have := h.1.2.1; simp only [above] at this; omega
      · simp only [BOk, above]; exact ⟨fun h => ⟨⟨hB, by omega, h.1⟩, h.2⟩, fun h => ⟨h.1.2.2, h.2⟩⟩
theorem spec_valid (xs : List S39) (hs : Small xs) : Ev (fun k => spec_BatchesValid.f k xs) (decide (BValid xs)) :=
  ev_eq (spec_b_loop xs hs xs [] none rfl (.inl ⟨rfl, rfl⟩)) rfl
def FewB (n m : Nat) (l : List S39) : Prop := l.length ≤ n ∧ ∀ x ∈ l, x.f1.length ≤ m
theorem fewB_small {l : List S39} (h : FewB 8 6 l) : Small l := ⟨by have := h.1; omega, fun x hx => by have := h.2 x hx; omega⟩
theorem rd39_mem (l : List S39) (i : Int) (h0 : 0 ≤ i) (h1 : i < l.length) : rd_T39 l i ∈ l := by
  have hn : i.toNat < l.length := by omega
  unfold rd_T39
  rw [List.getD_eq_getElem?_getD, List.getElem?_eq_getElem hn]
  exact List.getElem_mem hn
theorem fewB_set {l : List S39} (h : FewB 7 5 l) (i : Nat) (x : S39) (hx : x.f1.length ≤ 6) : FewB 8 6 (l.set i x) := by
  refine ⟨by rw [List.length_set]; have := h.1; omega, fun y hy => ?_⟩
  rcases List.mem_or_eq_of_mem_set hy with h1 | rfl
  · have := h.2 y h1; omega
  · exact hx
theorem fewB_snoc {n m : Nat} {l : List S39} (h : FewB n m l) (x : S39) (hx : x.f1.length ≤ m) : FewB (n + 1) m (l ++ [x]) := by
  refine ⟨by simp; exact h.1, fun y hy => ?_⟩
  simp only [List.mem_append, List.mem_singleton] at hy
  rcases hy with h1 | rfl
  · exact h.2 y h1
  · exact hx
theorem fewB_more {n m n' m' : Nat} {l : List S39} (h : FewB n m l) (a : n ≤ n') (b : m ≤ m') : FewB n' m' l := ⟨Nat.le_trans h.1 a, fun x hx => Nat.le_trans (h.2 x hx) b⟩
theorem b_end (s : List Int) (hs : Tape s) (out : List S39) (ho : FewB 7 5 out) (id p : Int) (hid : ¬ id ≤ 7) (hp : 0 ≤ p) (hp1 : p ≤ 10000) :
    ∃ l q, FewB 8 6 l ∧ 0 ≤ q ∧ q ≤ p + 2 ∧ Ev (fun k => spec_l92Batches.l0 k out id s p) (l, q) := by
  have hn := ho.1
  by_cases hl : 0 < out.length
  · obtain ⟨v1, x1, y1, g1⟩ := pick_ev s hs p (out.length : Int) hp (by omega) (by omega)
    obtain ⟨v2, x2, y2, g2⟩ := pick_ev s hs (p + 1) 30 (by omega) (by omega) (by omega)
    have hf := ho.2 _ (rd39_mem out v1 x1 y1)
    by_cases k0 : v2 = 0
    · refine ⟨out.set v1.toNat ⟨(rd_T39 out v1).f0, (rd_T39 out v1).f1, (rd_T39 out v1).f2, wrap64 ((rd_T39 out v1).f2 - 1)⟩, p + 1 + 1, fewB_set ho _ _ (by simp only; omega), by omega, by omega, ev_succ ?_⟩
      simp only [spec_l92Batches.l0]
      exact ev_neg hid (ev_pos (by omega) (Ev.bind g1 (Ev.bind g2 (ev_pos k0 (ev_pos x1 (ev_pos y1 (Ev.now _)))))))
    · by_cases k1 : v2 = 1
      · refine ⟨out ++ [⟨(rd_T39 out v1).f0, (rd_T39 out v1).f1, (rd_T39 out v1).f2, (rd_T39 out v1).f3⟩], p + 1 + 1, fewB_more (fewB_snoc ho _ (by simp only; omega)) (by omega) (by omega), by omega, by omega, ev_succ ?_⟩
        simp only [spec_l92Batches.l0]
        exact ev_neg hid (ev_pos (by omega) (Ev.bind g1 (Ev.bind g2 (ev_neg k0 (ev_pos k1 (ev_pos x1 (ev_pos y1 (ev_pos (by omega) (Ev.now _)))))))))
      · by_cases k2 : v2 = 2
        · refine ⟨out.set v1.toNat ⟨(rd_T39 out v1).f0, (rd_T39 out v1).f1 ++ [1], (rd_T39 out v1).f2, (rd_T39 out v1).f3⟩, p + 1 + 1, fewB_set ho _ _ (by simp; omega), by omega, by omega, ev_succ ?_⟩
          simp only [spec_l92Batches.l0]
          exact ev_neg hid (ev_pos (by omega) (Ev.bind g1 (Ev.bind g2 (ev_neg k0 (ev_neg k1 (ev_pos k2 (ev_pos x1 (ev_pos y1 (ev_pos (by dsimp only; omega) (Ev.now _))))))))))
        · refine ⟨out, p + 1 + 1, fewB_more ho (by omega) (by omega), by omega, by omega, ev_succ ?_⟩
          simp only [spec_l92Batches.l0]
          exact ev_neg hid (ev_pos (by omega) (Ev.bind g1 (Ev.bind g2 (ev_neg k0 (ev_neg k1 (ev_neg k2 (Ev.now _)))))))
  · refine ⟨out, p, fewB_more ho (by omega) (by omega), hp, by omega, ev_succ ?_⟩
    simp only [spec_l92Batches.l0]
    exact ev_neg hid (ev_neg (by omega) (Ev.now _))
theorem b_foods (s : List Int) (hs : Tape s) (out : List S39) (ho : out.length ≤ 7) (id a from_ to_ : Int) (R : List S39 × Int) : ∀ (d : Nat) (i p : Int) (fs : List Int), i + d = 6 → 1 ≤ i → fs.length + d ≤ 5 → 0 ≤ p → p + d ≤ 10000 →
    ∃ fs' q, fs'.length ≤ 5 ∧ p ≤ q ∧ q ≤ p + d ∧ ∀ r : List S39 × Int, Ev (fun k => spec_l92Batches.l0 k (out ++ [⟨a, fs', from_, to_⟩]) (wrap64 (id + 1)) s q) r → Ev (fun k => spec_l92Batches.l1 k out id i s p a fs from_ to_) r := by
  intro d
  induction d with
  | zero =>
    intro i p fs h1 h2 h3 h4 h5
    refine ⟨fs, p, by omega, by omega, by omega, fun r hr => ev_succ ?_⟩
    simp only [spec_l92Batches.l1]
    exact ev_neg (by omega) (ev_pos (by omega) hr)
  | succ d ih =>
    intro i p fs h1 h2 h3 h4 h5
    obtain ⟨v1, x1, y1, g1⟩ := pick_ev s hs p 3 h4 (by omega) (by omega)
    have e : wrap64 (i + 1) = i + 1 := w64 (by omega) (by omega)
    by_cases k0 : v1 = 0
    · obtain ⟨fs', q, a1, a2, a3, a4⟩ := ih (i + 1) (p + 1) (fs ++ [i]) (by omega) (by omega) (by simp; omega) (by omega) (by omega)
      refine ⟨fs', q, a1, by omega, by omega, fun r hr => ev_succ ?_⟩
      simp only [spec_l92Batches.l1, e]
      exact ev_pos (by omega) (Ev.bind g1 (ev_pos k0 (ev_pos (by omega) (a4 r hr))))
    · obtain ⟨fs', q, a1, a2, a3, a4⟩ := ih (i + 1) (p + 1) fs (by omega) (by omega) (by omega) (by omega) (by omega)
      refine ⟨fs', q, a1, by omega, by omega, fun r hr => ev_succ ?_⟩
      simp only [spec_l92Batches.l1, e]
      exact ev_pos (by omega) (Ev.bind g1 (ev_neg k0 (a4 r hr)))
theorem b_loop (s : List Int) (hs : Tape s) : ∀ (d : Nat) (out : List S39) (id p : Int), id + d = 8 → 1 ≤ id → FewB (id.toNat - 1) 5 out → 0 ≤ p → p + 20 * d ≤ 9000 →
    ∃ l q, FewB 8 6 l ∧ 0 ≤ q ∧ q ≤ p + 20 * d + 2 ∧ Ev (fun k => spec_l92Batches.l0 k out id s p) (l, q) := by
  intro d
  induction d with
  | zero =>
    intro out id p h1 h2 h3 h4 h5
    obtain ⟨l, q, a1, a2, a3, a4⟩ := b_end s hs out (fewB_more h3 (by omega) (by omega)) id p (by omega) h4 (by omega)
    exact ⟨l, q, a1, a2, by omega, a4⟩
  | succ d ih =>
    intro out id p h1 h2 h3 h4 h5
    have hn := h3.1
    obtain ⟨v1, x1, y1, g1⟩ := pick_ev s hs p 2 h4 (by omega) (by omega)
    have e : wrap64 (id + 1) = id + 1 := w64 (by omega) (by omega)
    have skip : ∀ p' : Int, 0 ≤ p' → p' + 20 * d ≤ 9000 → ∃ l q, FewB 8 6 l ∧ 0 ≤ q ∧ q ≤ p' + 20 * d + 2 ∧ Ev (fun k => spec_l92Batches.j1 k out id false s p') (l, q) := by
      intro p' hp' hq'
      obtain ⟨l, q, a1, a2, a3, a4⟩ := ih out (id + 1) p' (by omega) (by omega) (fewB_more h3 (by omega) (by omega)) hp' hq'
      refine ⟨l, q, a1, a2, a3, ev_succ ?_⟩
      simp only [spec_l92Batches.j1, e]
      exact ev_neg (by simp) a4
    by_cases k0 : v1 = 0
    · by_cases k1 : (out.length : Int) < 6
      · obtain ⟨v2, x2, y2, g2⟩ := pick_ev s hs (p + 1) 20 (by omega) (by omega) (by omega)
        obtain ⟨v3, x3, y3, g3⟩ := pick_ev s hs (p + 1 + 1) 100 (by omega) (by omega) (by omega)
        obtain ⟨fs', q', b1, b2, b3, b4⟩ := b_foods s hs out (by omega) id id (wrap64 (v2 * 10)) (wrap64 ((wrap64 (v2 * 10)) + v3)) ([], 0) 5 1 (p + 1 + 1 + 1) [] (by omega) (by omega) (by simp) (by omega) (by omega)
        obtain ⟨l, q, a1, a2, a3, a4⟩ := ih (out ++ [⟨id, fs', wrap64 (v2 * 10), wrap64 ((wrap64 (v2 * 10)) + v3)⟩]) (id + 1) q' (by omega) (by omega) (fewB_more (fewB_snoc h3 _ b1) (by omega) (by omega)) (by omega) (by omega)
        refine ⟨l, q, a1, a2, by omega, ev_succ ?_⟩
        simp only [spec_l92Batches.l0]
        refine ev_pos (by omega) (Ev.bind g1 (ev_pos k0 (ev_succ ?_)))
        simp only [spec_l92Batches.j1]
        refine ev_pos (decide_eq_true k1) (Ev.bind g2 (Ev.bind g3 (b4 _ ?_)))
        rw [e]; exact a4
      · obtain ⟨l, q, a1, a2, a3, a4⟩ := skip (p + 1) (by omega) (by omega)
        refine ⟨l, q, a1, a2, by omega, ev_succ ?_⟩
        simp only [spec_l92Batches.l0]
        refine ev_pos (by omega) (Ev.bind g1 (ev_pos k0 ?_))
        rw [decide_eq_false k1]; exact a4
    · obtain ⟨l, q, a1, a2, a3, a4⟩ := skip (p + 1) (by omega) (by omega)
      refine ⟨l, q, a1, a2, by omega, ev_succ ?_⟩
      simp only [spec_l92Batches.l0]
      exact ev_pos (by omega) (Ev.bind g1 (ev_neg k0 a4))
theorem batches_ev (s : List Int) (hs : Tape s) (p : Int) (hp : 0 ≤ p) (hp1 : p ≤ 5000) : ∃ l q, FewB 8 6 l ∧ 0 ≤ q ∧ q ≤ p + 200 ∧ Ev (fun k => spec_l92Batches.f k s p) (l, q) := by
  obtain ⟨l, q, a1, a2, a3, a4⟩ := b_loop s hs 7 [] 1 p (by omega) (by omega) ⟨by simp, fun x hx => by simp at hx⟩ hp (by omega)
  exact ⟨l, q, a1, a2, by omega, a4⟩
theorem p_end (s : List Int) (hs : Tape s) (l : List S39) (out : List S49) (ho : out.length ≤ 17) (n i p : Int) (hi : ¬ i < n) (hp : 0 ≤ p) (hp1 : p ≤ 10000) :
    ∃ ps q, ps.length ≤ 17 ∧ 0 ≤ q ∧ q ≤ p + 6 ∧ Ev (fun k => spec_l92Plates.l0 k l out n i s p) (ps, q) := by
  by_cases hl : 0 < out.length
  · obtain ⟨v0, x0, y0, g0⟩ := pick_ev s hs p 24 hp (by omega) (by omega)
    by_cases k0 : v0 = 0
    · obtain ⟨v1, x1, y1, g1⟩ := pick_ev s hs (p + 1) (out.length : Int) (by omega) (by omega) (by omega)
      obtain ⟨v2, x2, y2, g2⟩ := pick_ev s hs (p + 1 + 1) 2 (by omega) (by omega) (by omega)
      obtain ⟨v3, x3, y3, g3⟩ := pick_ev s hs (p + 1 + 1 + 1) 9 (by omega) (by omega) (by omega)
      obtain ⟨v4, x4, y4, g4⟩ := pick_ev s hs (p + 1 + 1 + 1 + 1) 3 (by omega) (by omega) (by omega)
      refine ⟨out.set v1.toNat ⟨wrap64 (v2 * 100), v3, rd [-1, 1439, 1440] v4⟩, p + 1 + 1 + 1 + 1 + 1, by simpa using ho, by omega, by omega, ev_succ ?_⟩
      simp only [spec_l92Plates.l0]
      refine ev_neg hi (ev_pos (by omega) (Ev.bind g0 (ev_succ ?_)))
      simp only [spec_l92Plates.j2]
      exact ev_pos (by simp [k0]) (Ev.bind g1 (Ev.bind g2 (Ev.bind g3 (ev_some (Ev.bind g4 (ev_pos x4 (ev_pos (by simpa using y4) (ev_pos x1 (ev_pos y1 (Ev.now _))))))))))
    · refine ⟨out, p + 1, ho, by omega, by omega, ev_succ ?_⟩
      simp only [spec_l92Plates.l0]
      refine ev_neg hi (ev_pos (by omega) (Ev.bind g0 (ev_succ ?_)))
      simp only [spec_l92Plates.j2]
      exact ev_neg (by simp [k0]) (Ev.now _)
  · refine ⟨out, p, ho, hp, by omega, ev_succ ?_⟩
    simp only [spec_l92Plates.l0]
    refine ev_neg hi (ev_neg (by omega) (ev_succ ?_))
    simp only [spec_l92Plates.j2]
    exact ev_neg (by simp) (Ev.now _)
theorem p_loop (s : List Int) (hs : Tape s) (l : List S39) (hl8 : l.length ≤ 8) (n : Nat) (hn : n ≤ 17) : ∀ (d : Nat) (out : List S49) (i p : Int), i + d = n → out.length + d ≤ n → 0 ≤ p → p + 10 * d ≤ 9000 →
    ∃ ps q, ps.length ≤ 17 ∧ 0 ≤ q ∧ q ≤ p + 10 * d + 6 ∧ Ev (fun k => spec_l92Plates.l0 k l out (n : Int) i s p) (ps, q) := by
  intro d
  induction d with
  | zero =>
    intro out i p h1 h2 h3 h4
    obtain ⟨ps, q, a1, a2, a3, a4⟩ := p_end s hs l out (by omega) (n : Int) i p (by omega) h3 (by omega)
    exact ⟨ps, q, a1, a2, by omega, a4⟩
  | succ d ih =>
    intro out i p h1 h2 h3 h4
    have hi0 : 0 ≤ i ∨ i < 0 := by omega
    have e : wrap64 (i + 1) = i + 1 := w64 (by omega) (by omega)
    by_cases k0 : 0 < l.length
    · obtain ⟨v1, x1, y1, g1⟩ := pick_ev s hs p (l.length : Int) h3 (by omega) (by omega)
      obtain ⟨v2, x2, y2, g2⟩ := pick_ev s hs (p + 1) 7 (by omega) (by omega) (by omega)
      obtain ⟨v3, x3, y3, g3⟩ := pick_ev s hs (p + 1 + 1) 120 (by omega) (by omega) (by omega)
      obtain ⟨ps, q, a1, a2, a3, a4⟩ := ih (out ++ [⟨wrap64 (1 + v2), (rd_T39 l v1).f0, mx (wrap64 ((wrap64 (((rd_T39 l v1).f2) - 10)) + v3)) 0⟩]) (i + 1) (p + 1 + 1 + 1) (by omega) (by simp; omega) (by omega) (by omega)
      refine ⟨ps, q, a1, a2, by omega, ev_succ ?_⟩
      simp only [spec_l92Plates.l0, e]
      exact ev_pos (by omega) (ev_pos (by omega) (Ev.bind g1 (ev_pos x1 (ev_pos y1 (Ev.bind g2 (Ev.bind g3 (ev_pos (by omega) a4)))))))
    · obtain ⟨ps, q, a1, a2, a3, a4⟩ := ih out (i + 1) p (by omega) (by omega) (by omega) (by omega)
      refine ⟨ps, q, a1, a2, by omega, ev_succ ?_⟩
      simp only [spec_l92Plates.l0, e]
      exact ev_pos (by omega) (ev_neg (by omega) a4)
theorem plates_ev (s : List Int) (hs : Tape s) (l : List S39) (hl8 : l.length ≤ 8) (p : Int) (hp : 0 ≤ p) (hp1 : p ≤ 5000) : ∃ ps q, ps.length ≤ 17 ∧ 0 ≤ q ∧ q ≤ p + 300 ∧ Ev (fun k => spec_l92Plates.f k s p l) (ps, q) := by
  obtain ⟨v1, x1, y1, g1⟩ := pick_ev s hs p 10 hp (by omega) (by omega)
  obtain ⟨v2, x2, y2, g2⟩ := pick_ev s hs (p + 1) 20 (by omega) (by omega) (by omega)
  obtain ⟨v3, x3, y3, g3⟩ := pick_ev s hs (p + 1 + 1) 2 (by omega) (by omega) (by omega)
  have key : ∀ (n : Nat) (q : Int), n ≤ 17 → 0 ≤ q → q ≤ p + 3 → ∃ ps q', ps.length ≤ 17 ∧ 0 ≤ q' ∧ q' ≤ p + 300 ∧ Ev (fun k => spec_l92Plates.j0 k l [] (n : Int) s q) (ps, q') := by
    intro n q hn hq0 hq
    obtain ⟨ps, q', a, b, c, h⟩ := p_loop s hs l hl8 n hn n [] 0 q (by omega) (by simp) (by omega) (by omega)
    refine ⟨ps, q', a, b, by omega, ev_succ ?_⟩
    simp only [spec_l92Plates.j0]
    exact h
  unfold spec_l92Plates.f
  by_cases k0 : v2 = 0
  · obtain ⟨ps, q', a, b, c, h⟩ := key (16 + v3).toNat (p + 1 + 1 + 1) (by omega) (by omega) (by omega)
    refine ⟨ps, q', a, b, c, ev_some (Ev.bind g1 (Ev.bind g2 (ev_pos k0 (Ev.bind g3 ?_))))⟩
    have e : wrap64 (16 + v3) = (((16 + v3).toNat : Nat) : Int) := by rw [w64 (by omega) (by omega)]; omega
    dsimp only; rw [e]; exact h
  · obtain ⟨ps, q', a, b, c, h⟩ := key v1.toNat (p + 1 + 1) (by omega) (by omega) (by omega)
    refine ⟨ps, q', a, b, c, ev_some (Ev.bind g1 (Ev.bind g2 (ev_neg k0 ?_)))⟩
    have e : v1 = ((v1.toNat : Nat) : Int) := by omega
    dsimp only; rw [← e] at h; exact h
theorem draw_guests (b : List Int) (hl : ∀ x ∈ b, (Lit.int .u8 x).wf = true) : ∃ l ps a, FewB 8 6 l ∧ ps.length ≤ 17 ∧ Ev (fun k => spec_DrawRecallGuests.f k b) (l, ps, a) := by
  obtain ⟨s, hs, ho⟩ := open_tape b hl
  obtain ⟨l, q, h1, h2, h3, h4⟩ := batches_ev s hs 0 (by omega) (by omega)
  obtain ⟨ps, q', a1, a2, a3, a4⟩ := plates_ev s hs l h1.1 q h2 (by omega)
  obtain ⟨v, x1, y1, g1⟩ := pick_ev s hs q' 7 a2 (by omega) (by omega)
  refine ⟨l, ps, v, h1, a1, ?_⟩
  simp only [spec_DrawRecallGuests.f, ho]
  exact ev_some (Ev.bind h4 (Ev.bind a4 (Ev.bind g1 (Ev.now _))))
theorem rd49s {xs p : List S49} {x : S49} {q : List S49} (h : xs = p ++ x :: q) : rd_T49 xs (p.length : Int) = x := by subst h; exact getD_at p x q z49
theorem find_loop (xs : List S39) (a : Int) (hb : xs.length ≤ 1099511627776) : ∀ (s p : List S39), xs = p ++ s → Ev (fun k => spec_l42Find.l0 k xs a (p.length : Int)) (bplace a p.length s) := by
  intro s
  induction s with
  | nil => intro p hx; refine ev_succ ?_; simp only [spec_l42Find.l0]; exact ev_neg (by subst hx; simp) (ev_const rfl)
  | cons x s ih =>
    intro p hx; refine ev_succ ?_
    have hi := ih (p ++ [x]) (snoc_at hx)
    simp only [spec_l42Find.l0, rd39s hx, wlen hx hb]
    refine ev_pos (len_at hx) (ev_pos (by omega) (ev_ite (fun h => ev_const ?_) (fun h => ev_eq hi ?_)))
    · rw [bplace, if_pos h]
    · rw [bplace, if_neg h]; simp
theorem find_ev (xs : List S39) (a : Int) (hb : xs.length ≤ 1099511627776) : Ev (fun k => spec_l42Find.f k xs a) (bplace a 0 xs) := find_loop xs a hb xs [] rfl
def pval (l : List S39) (ps : List S49) : Bool := decide (BValid l) && (decide (ps.length ≤ 16) && !(ps.any (badP l)))
theorem impl_pv (l : List S39) (hs : Small l) (ps : List S49) : Ev (fun k => impl_PlatesValid.f k l ps) (pval l ps) := by
  unfold impl_PlatesValid.f
  exact Ev.bind (impl_valid l hs) (Ev.now _)
theorem spec_pv_loop (l : List S39) (hs : Small l) (ps : List S49) (hb : ps.length ≤ 1099511627776) : ∀ (s p : List S49), ps = p ++ s →
    Ev (fun k => spec_PlatesValid.l0 k l ps (p.length : Int)) (!(s.any (badP l)) && (decide (BValid l) && decide (ps.length ≤ 16))) := by
  intro s
  induction s with
  | nil =>
    intro p hx; refine ev_succ ?_; simp only [spec_PlatesValid.l0]
    refine ev_neg (by subst hx; simp) (Ev.bind (spec_valid l hs) (ev_ite (fun h => ev_const ?_) (fun h => ev_const ?_)))
    · have : decide ((ps.length : Int) ≤ 16) = decide (ps.length ≤ 16) := dec_eq (by omega)
      rw [this, h]; simp
    · simp only [Bool.not_eq_true] at h
      rw [h]; simp
  | cons x s ih =>
    intro p hx; refine ev_succ ?_
    have hi := ih (p ++ [x]) (snoc_at hx)
    simp only [spec_PlatesValid.l0, rd49s hx, wlen hx hb, in_ev, Option.bind_some]
    refine ev_pos (len_at hx) (ev_pos (by omega) (ev_ite (fun h1 => ?_) (fun h1 => ev_const ?_)))
    · refine Ev.bind (find_ev l x.f1 hs.1) (ev_ite (fun h2 => ev_const ?_) (fun h2 => ?_))
      · rw [List.any_cons, badP, decide_eq_true h2]; simp
      · refine ev_ite (fun h3 => ev_eq hi ?_) (fun h3 => ev_const ?_)
        · rw [List.any_cons, badP, h1, decide_eq_false h2, h3]; simp
        · simp only [Bool.not_eq_true] at h3
          rw [List.any_cons, badP, h3]; simp
    · simp only [Bool.not_eq_true] at h1
      rw [List.any_cons, badP, h1]; simp
theorem spec_pv (l : List S39) (hs : Small l) (ps : List S49) (hb : ps.length ≤ 1099511627776) : Ev (fun k => spec_PlatesValid.f k l ps) (pval l ps) := by
  refine ev_eq (spec_pv_loop l hs ps hb ps [] rfl) ?_
  unfold pval
  cases (decide (BValid l)) <;> cases (decide (ps.length ≤ 16)) <;> cases (ps.any (badP l)) <;> rfl
theorem index_loop (xs : List Int) (a : Int) (hb : xs.length ≤ 1099511627776) : ∀ (s p : List Int), xs = p ++ s →
    ∃ i : Int, decide (i ≥ 0) = decide (a ∈ s) ∧ Ev (fun k => slices_Index_int_int.l0 k xs a (xs.length : Int) (p.length : Int)) i := by
  intro s
  induction s with
  | nil => intro p hx; refine ⟨-1, by simp, ev_succ ?_⟩; simp only [slices_Index_int_int.l0]; exact ev_neg (by subst hx; simp) (ev_const rfl)
  | cons x s ih =>
    intro p hx
    by_cases h : a = x
    · refine ⟨p.length, by simp [h], ev_succ ?_⟩
      simp only [slices_Index_int_int.l0, rds hx]
      exact ev_pos (len_at hx) (ev_pos (by omega) (ev_pos (len_at hx) (ev_pos h (ev_const rfl))))
    · obtain ⟨i, e, hi⟩ := ih (p ++ [x]) (snoc_at hx)
      refine ⟨i, by rw [e]; simp [h], ev_succ ?_⟩
      simp only [slices_Index_int_int.l0, rds hx, wlen hx hb]
      exact ev_pos (len_at hx) (ev_pos (by omega) (ev_pos (len_at hx) (ev_neg h hi)))
theorem contains_ev (xs : List Int) (a : Int) (hb : xs.length ≤ 1099511627776) : Ev (fun k => slices_Contains_int_int.f k xs a) (decide (a ∈ xs)) := by
  obtain ⟨i, e, hi⟩ := index_loop xs a hb xs [] rfl
  unfold slices_Contains_int_int.f slices_Index_int_int.f
  exact Ev.bind hi (ev_const e)
theorem l15_loop (xs : List Int) (a : Int) (hb : xs.length ≤ 1099511627776) : ∀ (s p : List Int), xs = p ++ s → Ev (fun k => spec_l15Has.l0 k xs a (p.length : Int)) (decide (a ∈ s)) := by
  intro s
  induction s with
  | nil => intro p hx; refine ev_succ ?_; simp only [spec_l15Has.l0]; exact ev_neg (by subst hx; simp) (ev_const (by simp))
  | cons x s ih =>
    intro p hx; refine ev_succ ?_
    simp only [spec_l15Has.l0, rds hx, wlen hx hb]
    refine ev_pos (len_at hx) (ev_pos (by omega) (ev_ite (fun h => ev_const (by simp [h])) (fun h => ev_eq (ih (p ++ [x]) (snoc_at hx)) ?_)))
    simp [Ne.symm h]
theorem l15_ev (xs : List Int) (a : Int) (hb : xs.length ≤ 1099511627776) : Ev (fun k => spec_l15Has.f k xs a) (decide (a ∈ xs)) := l15_loop xs a hb xs [] rfl
def recl (a : Int) : List S39 → List Int
  | [] => []
  | x :: r => if a ∈ x.f1 then x.f0 :: recl a r else recl a r
theorem recl_len (a : Int) : ∀ (l : List S39), (recl a l).length ≤ l.length
  | [] => Nat.le_refl _
  | x :: r => by
    have := recl_len a r
    rw [recl]
    split <;> simp <;> omega
theorem impl_recall_loop (xs : List S39) (hs : Small xs) (a : Int) : ∀ (s p : List S39) (out : List Int), xs = p ++ s → out.length ≤ p.length →
    Ev (fun k => impl_RecallBatches.l0 k a out xs (xs.length : Int) (p.length : Int)) (out ++ recl a s) := by
  intro s
  induction s with
  | nil => intro p out hx ho; refine ev_succ ?_; simp only [impl_RecallBatches.l0]; exact ev_neg (by subst hx; simp) (ev_const (by simp [recl]))
  | cons x s ih =>
    intro p out hx ho; refine ev_succ ?_
    have hl : p.length ≤ 1099511627776 := by have := hs.1; subst hx; simp at this; omega
    simp only [impl_RecallBatches.l0, rd39s hx, wlen hx hs.1]
    refine ev_pos (len_at hx) (ev_pos (by omega) (ev_pos (len_at hx) (Ev.bind (contains_ev x.f1 a (small_at hs hx)) ?_)))
    refine ev_ite (fun h => ?_) (fun h => ?_)
    · have h' := of_decide_eq_true h
      have := ih (p ++ [x]) (out ++ [x.f0]) (snoc_at hx) (by simp; exact ho)
      refine ev_pos (by omega) (ev_eq this ?_)
      rw [recl, if_pos h', List.append_assoc]; rfl
    · have h' : ¬ a ∈ x.f1 := fun hh => h (decide_eq_true hh)
      have := ih (p ++ [x]) out (snoc_at hx) (by simp; omega)
      refine ev_eq this ?_
      rw [recl, if_neg h']
theorem impl_recall (xs : List S39) (hs : Small xs) (a : Int) : Ev (fun k => impl_RecallBatches.f k xs a) (if BValid xs then recl a xs else []) := by
  unfold impl_RecallBatches.f
  refine ev_some (Ev.bind (impl_valid xs hs) ?_)
  by_cases h : BValid xs
  · rw [if_pos h]
    exact ev_pos (decide_eq_true h) (ev_eq (impl_recall_loop xs hs a xs [] [] rfl (by simp)) (by simp))
  · rw [if_neg h]
    exact ev_neg (by simp [h]) (ev_const rfl)
theorem spec_recall_loop (xs : List S39) (hs : Small xs) (hv : BValid xs) (a : Int) : ∀ (s p : List S39) (out : List Int), xs = p ++ s → out.length ≤ p.length →
    Ev (fun k => spec_RecallBatches.l0 k xs a out (p.length : Int)) (out ++ recl a s) := by
  intro s
  induction s with
  | nil =>
    intro p out hx ho; refine ev_succ ?_; simp only [spec_RecallBatches.l0]
    refine ev_neg (by subst hx; simp) (ev_succ ?_)
    simp only [spec_RecallBatches.j1]
    exact ev_neg (by simp) (ev_const (by simp [recl]))
  | cons x s ih =>
    intro p out hx ho; refine ev_succ ?_
    have hl : p.length ≤ 1099511627776 := by have := hs.1; subst hx; simp at this; omega
    simp only [spec_RecallBatches.l0]
    refine ev_pos (len_at hx) (Ev.bind (spec_valid xs hs) (ev_succ ?_))
    simp only [spec_RecallBatches.j1, rd39s hx, wlen hx hs.1]
    refine ev_pos (decide_eq_true hv) (ev_pos (by omega) (ev_pos (len_at hx) (Ev.bind (l15_ev x.f1 a (small_at hs hx)) ?_)))
    refine ev_ite (fun h => ?_) (fun h => ?_)
    · have h' := of_decide_eq_true h
      have := ih (p ++ [x]) (out ++ [x.f0]) (snoc_at hx) (by simp; exact ho)
      refine ev_pos (by omega) (ev_eq this ?_)
      rw [recl, if_pos h', List.append_assoc]; rfl
    · have h' : ¬ a ∈ x.f1 := fun hh => h (decide_eq_true hh)
      have := ih (p ++ [x]) out (snoc_at hx) (by simp; omega)
      refine ev_eq this ?_
      rw [recl, if_neg h']
theorem spec_recall (xs : List S39) (hs : Small xs) (a : Int) : Ev (fun k => spec_RecallBatches.f k xs a) (if BValid xs then recl a xs else []) := by
  unfold spec_RecallBatches.f
  by_cases h : BValid xs
  · rw [if_pos h]
    exact ev_eq (spec_recall_loop xs hs h a xs [] [] rfl (by simp)) (by simp)
  · rw [if_neg h]
    refine ev_succ ?_
    simp only [spec_RecallBatches.l0]
    refine ev_ite (fun _ => Ev.bind (spec_valid xs hs) (ev_succ ?_)) (fun _ => ev_succ ?_)
    · simp only [spec_RecallBatches.j1]
      exact ev_neg (by simp [h]) (ev_const rfl)
    · simp only [spec_RecallBatches.j1]
      exact ev_neg (by simp) (ev_const rfl)
def gl (bs : List Int) : List S49 → List Int
  | [] => []
  | x :: r => if x.f1 ∈ bs then x.f0 :: gl bs r else gl bs r
theorem gl_mem (bs : List Int) (y : Int) : ∀ (l : List S49), y ∈ gl bs l ↔ ∃ x ∈ l, x.f1 ∈ bs ∧ x.f0 = y
  | [] => by simp [gl]
  | x :: r => by
    rw [gl]
    have ih := gl_mem bs y r
    split
    · rename_i h
      rw [List.mem_cons, ih]
      constructor
      · rintro (rfl | ⟨z, h1, h2⟩)
        · exact ⟨x, by simp, h, rfl⟩
        · exact ⟨z, by simp [h1], h2⟩
      · rintro ⟨z, h1, h2, h3⟩
        rcases List.mem_cons.1 h1 with rfl | h1
        · exact .inl h3.symm
        · exact .inr ⟨z, h1, h2, h3⟩
    · rename_i h
      rw [ih]
      constructor
      · rintro ⟨z, h1, h2⟩; exact ⟨z, by simp [h1], h2⟩
      · rintro ⟨z, h1, h2, h3⟩
        rcases List.mem_cons.1 h1 with rfl | h1
        · exact absurd h2 h
        · exact ⟨z, h1, h2, h3⟩
def srt (xs : List Int) : List Int := Go.Lib.compact (xs.mergeSort fun x y => decide (x ≤ y))
theorem comp_up (d : Array Int) (hs : ∀ i j, i ≤ j → j < d.size → d[i]! ≤ d[j]!) : ∀ m, m ≤ d.size →
    (Go.Lib.compactUpTo d m).Pairwise (· < ·) ∧ ∀ y, y ∈ Go.Lib.compactUpTo d m ↔ ∃ j, j < m ∧ d[j]! = y := by
  intro m
  induction m with
  | zero => intro _; refine ⟨by simp [Go.Lib.compactUpTo], fun y => ?_⟩; simp [Go.Lib.compactUpTo]
  | succ m ih =>
    intro hm
    obtain ⟨h1, h2⟩ := ih (by omega)
    rw [Go.Lib.compactUpTo_succ]
    by_cases hk : m = 0 ∨ d[m]! ≠ d[m - 1]!
    · have e : Go.Lib.keeps d m = true := by unfold Go.Lib.keeps; exact decide_eq_true hk
      rw [if_pos e]
      refine ⟨List.pairwise_append.2 ⟨h1, by simp, fun y hy z hz => ?_⟩, fun y => ?_⟩
      · obtain ⟨j, hj, rfl⟩ := (h2 y).1 hy
        obtain rfl : z = d[m]! := by simpa using hz
        have a1 := hs j (m - 1) (by omega) (by omega)
        have a2 := hs (m - 1) m (by omega) (by omega)
        rcases hk with h0 | h0
        · omega
        · omega
      · rw [List.mem_append, h2 y]
        constructor
        · rintro (⟨j, a, b⟩ | h)
          · exact ⟨j, by omega, b⟩
          · exact ⟨m, by omega, by simpa using (List.mem_singleton.1 h).symm⟩
        · rintro ⟨j, a, b⟩
          by_cases e : j = m
          · subst e; exact .inr (by simp [b])
          · exact .inl ⟨j, by omega, b⟩
    · have e : Go.Lib.keeps d m = false := by unfold Go.Lib.keeps; exact decide_eq_false hk
      have hk' : m ≠ 0 ∧ d[m]! = d[m - 1]! := ⟨fun h => hk (.inl h), Classical.not_not.1 fun h => hk (.inr h)⟩
      rw [if_neg (by rw [e]; simp), List.append_nil]
      refine ⟨h1, fun y => ?_⟩
      rw [h2 y]
      constructor
      · rintro ⟨j, a, b⟩; exact ⟨j, by omega, b⟩
      · rintro ⟨j, a, b⟩
        by_cases e : j = m
        · subst e; exact ⟨j - 1, by omega, by rw [← hk'.2]; exact b⟩
        · exact ⟨j, by omega, b⟩
theorem srt_all (xs : List Int) : (srt xs).Pairwise (· < ·) ∧ ∀ y, y ∈ srt xs ↔ y ∈ xs := by
  have hp : (xs.mergeSort fun x y => decide (x ≤ y)).Pairwise (fun a b => decide (a ≤ b) = true) := List.pairwise_mergeSort (fun a b c h1 h2 => by simp only [decide_eq_true_eq] at *; omega) (fun a b => by simp only [Bool.or_eq_true, decide_eq_true_eq]; omega) xs
  have hm : ∀ y, y ∈ (xs.mergeSort fun x y => decide (x ≤ y)) ↔ y ∈ xs := fun y => List.mem_mergeSort
  unfold srt Go.Lib.compact
  generalize (xs.mergeSort fun x y => decide (x ≤ y)) = zs at hp hm
  obtain ⟨h1, h2⟩ := comp_up zs.toArray (fun i j hij hj => by
    have hj' : j < zs.length := by simpa using hj
    have hi' : i < zs.length := by omega
    simp only [List.getElem!_toArray, getElem!_pos, hi', hj']
    by_cases e : i = j
    · subst e; omega
    · have := List.pairwise_iff_getElem.1 hp i j hi' hj' (by omega)
      simpa using this) zs.length (by simp)
  refine ⟨h1, fun y => ?_⟩
  rw [h2 y, ← hm y]
  constructor
  · rintro ⟨j, a, rfl⟩
    simp only [List.getElem!_toArray, getElem!_pos, a]
    exact List.getElem_mem a
  · intro h
    obtain ⟨j, a, rfl⟩ := List.mem_iff_getElem.1 h
    exact ⟨j, a, by simp only [List.getElem!_toArray, getElem!_pos, a]⟩
theorem asc_eq : ∀ (a b : List Int), a.Pairwise (· < ·) → b.Pairwise (· < ·) → (∀ y, y ∈ a ↔ y ∈ b) → a = b
  | [], [], _, _, _ => rfl
  | [], y :: b, _, _, h => by have := (h y).2 (by simp); simp at this
  | x :: a, [], _, _, h => by have := (h x).1 (by simp); simp at this
  | x :: a, y :: b, ha, hb, h => by
    obtain ⟨ha1, ha2⟩ := List.pairwise_cons.1 ha
    obtain ⟨hb1, hb2⟩ := List.pairwise_cons.1 hb
    have e : x = y := by
      rcases List.mem_cons.1 ((h x).1 (by simp)) with e | h1
      · exact e
      · rcases List.mem_cons.1 ((h y).2 (by simp)) with e | h2
        · exact e.symm
        · have := ha1 y h2; have := hb1 x h1; omega
    subst e
    rw [asc_eq a b ha2 hb2 (fun z => ?_)]
    constructor
    · intro hz
      rcases List.mem_cons.1 ((h z).1 (by simp [hz])) with e | h1
      · subst e; have := ha1 z hz; omega
      · exact h1
    · intro hz
      rcases List.mem_cons.1 ((h z).2 (by simp [hz])) with e | h1
      · subst e; have := hb1 z hz; omega
      · exact h1
def gs (xs : List Int) : Nat → Int → List Int
  | 0, _ => []
  | d + 1, g => if g ∈ xs then g :: gs xs d (g + 1) else gs xs d (g + 1)
theorem gs_mem (xs : List Int) (y : Int) : ∀ (d : Nat) (g : Int), y ∈ gs xs d g ↔ g ≤ y ∧ y < g + d ∧ y ∈ xs
  | 0, g => by simp only [gs, List.not_mem_nil, false_iff]; omega
  | d + 1, g => by
    have ih := gs_mem xs y d (g + 1)
    rw [gs]
    split
    · rename_i h
      rw [List.mem_cons, ih]
      constructor
      · rintro (rfl | ⟨a, b, c⟩)
        · exact ⟨by omega, by omega, h⟩
        · exact ⟨by omega, by omega, c⟩
      · rintro ⟨a, b, c⟩
        by_cases e : y = g
        · exact .inl e
        · exact .inr ⟨by omega, by omega, c⟩
    · rename_i h
      rw [ih]
      constructor
      · rintro ⟨a, b, c⟩; exact ⟨by omega, by omega, c⟩
      · rintro ⟨a, b, c⟩
        by_cases e : y = g
        · subst e; exact absurd c h
        · exact ⟨by omega, by omega, c⟩
theorem gs_asc (xs : List Int) : ∀ (d : Nat) (g : Int), (gs xs d g).Pairwise (· < ·)
  | 0, g => by simp [gs]
  | d + 1, g => by
    have ih := gs_asc xs d (g + 1)
    rw [gs]
    split
    · exact List.pairwise_cons.2 ⟨fun y hy => by have := (gs_mem xs y d (g + 1)).1 hy; omega, ih⟩
    · exact ih
theorem gs_len (xs : List Int) : ∀ (d : Nat) (g : Int), (gs xs d g).length ≤ d
  | 0, g => by simp [gs]
  | d + 1, g => by
    have := gs_len xs d (g + 1)
    rw [gs]
    split <;> simp <;> omega
theorem gs_srt (xs : List Int) (h : ∀ y ∈ xs, 1 ≤ y ∧ y ≤ 99) : gs xs 99 1 = srt xs := by
  obtain ⟨h1, h2⟩ := srt_all xs
  refine asc_eq _ _ (gs_asc xs 99 1) h1 (fun y => ?_)
  rw [gs_mem, h2]
  constructor
  · exact fun h => h.2.2
  · exact fun hy => ⟨(h y hy).1, by have := (h y hy).2; omega, hy⟩
theorem impl_guests_loop (bs : List Int) (hbs : bs.length ≤ 1099511627776) (ps : List S49) (hb : ps.length ≤ 1099511627776) : ∀ (s p : List S49) (out : List Int), ps = p ++ s → out.length ≤ p.length →
    Ev (fun k => impl_RecallGuests.l0 k out bs ps (ps.length : Int) (p.length : Int)) (srt (out ++ gl bs s)) := by
  intro s
  induction s with
  | nil =>
    intro p out hx ho; refine ev_succ ?_; simp only [impl_RecallGuests.l0]
    have hl : out.length ≤ 1099511627776 := by subst hx; simp at hb; omega
    exact ev_neg (by subst hx; simp) (ev_pos (by omega) (ev_const (by simp [gl, srt])))
  | cons x s ih =>
    intro p out hx ho; refine ev_succ ?_
    have hl : p.length ≤ 1099511627776 := by subst hx; simp at hb; omega
    simp only [impl_RecallGuests.l0, rd49s hx, wlen hx hb]
    refine ev_pos (len_at hx) (ev_pos (by omega) (ev_pos (len_at hx) (Ev.bind (contains_ev bs x.f1 hbs) (ev_ite (fun h => ?_) (fun h => ?_)))))
    · have h' := of_decide_eq_true h
      refine ev_pos (by omega) (ev_eq (ih (p ++ [x]) (out ++ [x.f0]) (snoc_at hx) (by simp; exact ho)) ?_)
      rw [gl, if_pos h', List.append_assoc]; rfl
    · have h' : ¬ x.f1 ∈ bs := fun hh => h (decide_eq_true hh)
      refine ev_eq (ih (p ++ [x]) out (snoc_at hx) (by simp; omega)) ?_
      rw [gl, if_neg h']
def gval (l : List S39) (ps : List S49) (a : Int) : List Int := if pval l ps = true then srt (gl (recl a l) ps) else []
theorem pval_b {l : List S39} {ps : List S49} (h : pval l ps = true) : BValid l ∧ ps.length ≤ 16 ∧ ∀ x ∈ ps, badP l x = false := by
  unfold pval at h
  simp only [Bool.and_eq_true, decide_eq_true_eq, Bool.not_eq_true', List.any_eq_false, Bool.not_eq_true] at h
  exact h
theorem impl_guests (l : List S39) (hs : Small l) (ps : List S49) (hb : ps.length ≤ 1099511627776) (a : Int) : Ev (fun k => impl_RecallGuests.f k l ps a) (gval l ps a) := by
  unfold impl_RecallGuests.f gval
  have hr := recl_len a l
  have h1 := hs.1
  refine ev_some (Ev.bind (impl_pv l hs ps) ?_)
  by_cases h : pval l ps = true
  · rw [if_pos h]
    have hi := impl_recall l hs a
    rw [if_pos (pval_b h).1] at hi
    exact ev_pos h (Ev.bind hi (ev_eq (impl_guests_loop (recl a l) (by omega) ps hb ps [] [] rfl (by simp)) (by simp)))
  · rw [if_neg h]
    exact ev_neg h (ev_const rfl)
theorem spec_some_loop (l : List S39) (ps : List S49) (hb : ps.length ≤ 1099511627776) (bs : List Int) (hbs : bs.length ≤ 1099511627776) (out : List Int) (g : Int) (R : List Int) : ∀ (s p : List S49) (b : Bool), ps = p ++ s →
    Ev (fun k => if (b || decide (g ∈ gl bs s)) = true then (if out.length < 17592186044416 then (spec_RecallGuests.l0 k l ps (out ++ [g]) bs (wrap64 (g + 1))) else none) else (spec_RecallGuests.l0 k l ps out bs (wrap64 (g + 1)))) R →
    Ev (fun k => spec_RecallGuests.l1 k l ps out bs g b (p.length : Int)) R := by
  intro s
  induction s with
  | nil =>
    intro p b hx hn; refine ev_succ ?_; simp only [spec_RecallGuests.l1]
    refine ev_neg (by subst hx; simp) ?_
    simp only [gl, List.not_mem_nil, decide_false, Bool.or_false] at hn
    exact hn
  | cons x s ih =>
    intro p b hx hn; refine ev_succ ?_
    simp only [spec_RecallGuests.l1, rd49s hx, wlen hx hb]
    refine ev_pos (len_at hx) (ev_ite (fun h => ?_) (fun h => ev_pos (by omega) (ev_ite (fun h2 => Ev.bind (l15_ev bs x.f1 hbs) ?_) (fun h2 => ?_))))
    · refine ih (p ++ [x]) true (snoc_at hx) ?_
      rw [h] at hn
      simpa only [Bool.true_or] using hn
    · refine ih (p ++ [x]) _ (snoc_at hx) ?_
      have e : (b || decide (g ∈ gl bs (x :: s))) = (decide (x.f1 ∈ bs) || decide (g ∈ gl bs s)) := by
        simp only [Bool.not_eq_true] at h
        rw [h, Bool.false_or, gl]
        by_cases hm : x.f1 ∈ bs
        · simp [hm, h2]
        · simp [hm]
      rw [e] at hn; exact hn
    · refine ih (p ++ [x]) false (snoc_at hx) ?_
      have e : (b || decide (g ∈ gl bs (x :: s))) = (false || decide (g ∈ gl bs s)) := by
        simp only [Bool.not_eq_true] at h
        rw [h, Bool.false_or, Bool.false_or, gl]
        by_cases hm : x.f1 ∈ bs
        · simp [hm]; intro e; exact absurd e.symm h2
        · simp [hm]
      rw [e] at hn; exact hn
theorem spec_guests_loop (l : List S39) (hs : Small l) (ps : List S49) (hb : ps.length ≤ 1099511627776) (hv : pval l ps = true) (bs : List Int) (hbs : bs.length ≤ 1099511627776) : ∀ (d : Nat) (g : Int) (out : List Int), g + d = 100 → 1 ≤ g → out.length + d ≤ 200 →
    Ev (fun k => spec_RecallGuests.l0 k l ps out bs g) (out ++ gs (gl bs ps) d g) := by
  intro d
  induction d with
  | zero =>
    intro g out h1 h2 h3; refine ev_succ ?_; simp only [spec_RecallGuests.l0]
    refine ev_neg (by omega) (ev_succ ?_)
    simp only [spec_RecallGuests.j1]
    exact ev_neg (by simp) (ev_const (by simp [gs]))
  | succ d ih =>
    intro g out h1 h2 h3; refine ev_succ ?_; simp only [spec_RecallGuests.l0]
    refine ev_pos (by omega) (Ev.bind (spec_pv l hs ps hb) (ev_succ ?_))
    simp only [spec_RecallGuests.j1]
    refine ev_pos hv (spec_some_loop l ps hb bs hbs out g _ ps [] false rfl ?_)
    have e : wrap64 (g + 1) = g + 1 := w64 (by omega) (by omega)
    rw [e, Bool.false_or]
    refine ev_ite (fun h => ?_) (fun h => ?_)
    · have h' := of_decide_eq_true h
      refine ev_pos (by omega) (ev_eq (ih (g + 1) (out ++ [g]) (by omega) (by omega) (by simp; omega)) ?_)
      rw [gs, if_pos h', List.append_assoc]; rfl
    · have h' : ¬ g ∈ gl bs ps := fun hh => h (decide_eq_true hh)
      refine ev_eq (ih (g + 1) out (by omega) (by omega) (by omega)) ?_
      rw [gs, if_neg h']
theorem gl_range {l : List S39} {ps : List S49} (hv : ∀ x ∈ ps, badP l x = false) (bs : List Int) : ∀ y ∈ gl bs ps, 1 ≤ y ∧ y ≤ 99 := by
  intro y hy
  obtain ⟨x, h1, h2, rfl⟩ := (gl_mem bs y ps).1 hy
  have h := hv x h1
  unfold badP at h
  simp only [Bool.or_eq_false_iff, Bool.not_eq_false', decide_eq_true_eq] at h
  exact h.1
theorem spec_guests (l : List S39) (hs : Small l) (ps : List S49) (hb : ps.length ≤ 1099511627776) (a : Int) : Ev (fun k => spec_RecallGuests.f k l ps a) (gval l ps a) := by
  unfold spec_RecallGuests.f gval
  have hr := recl_len a l
  have h1 := hs.1
  by_cases h : pval l ps = true
  · rw [if_pos h]
    have hi := spec_recall l hs a
    rw [if_pos (pval_b h).1] at hi
    refine Ev.bind hi (ev_eq (spec_guests_loop l hs ps hb h (recl a l) (by omega) 99 1 [] (by omega) (by omega) (by simp)) ?_)
    rw [List.nil_append]
    exact gs_srt _ (gl_range (pval_b h).2.2 _)
  · rw [if_neg h]
    refine Ev.bind (spec_recall l hs a) (ev_succ ?_)
    simp only [spec_RecallGuests.l0]
    refine ev_pos (by omega) (Ev.bind (spec_pv l hs ps hb) (ev_succ ?_))
    simp only [spec_RecallGuests.j1]
    exact ev_neg h (ev_const rfl)
theorem same_loop (xs ys : List Int) (hl : xs.length = ys.length) (hb : xs.length ≤ 1099511627776) : ∀ (s t p q : List Int), xs = p ++ s → ys = q ++ t → p.length = q.length →
    Ev (fun k => laws_sameInts.l0 k xs ys (p.length : Int)) (decide (s = t)) := by
  intro s
  induction s with
  | nil =>
    intro t p q h1 h2 h3; refine ev_succ ?_; simp only [laws_sameInts.l0]
    have : t = [] := by subst h1; subst h2; simp at hl; apply List.eq_nil_of_length_eq_zero; omega
    subst this
    exact ev_neg (by subst h1; simp) (ev_const (by simp))
  | cons x s ih =>
    intro t p q h1 h2 h3
    cases t with
    | nil => exfalso; subst h1; subst h2; simp at hl; omega
    | cons y t =>
      refine ev_succ ?_
      have ey : rd ys (p.length : Int) = y := by rw [h3]; exact rds h2
      have hy : (p.length : Int) < (ys.length : Int) := by rw [h3]; exact len_at h2
      simp only [laws_sameInts.l0, rds h1, ey, wlen h1 hb]
      refine ev_pos (len_at h1) (ev_pos (by omega) (ev_pos hy (ev_ite (fun h => ev_eq (ih t (p ++ [x]) (q ++ [y]) (snoc_at h1) (snoc_at h2) (by simp [h3])) (by simp [h])) (fun h => ev_const (by simp [h])))))
theorem same_ev (xs ys : List Int) (hb : xs.length ≤ 1099511627776) : Ev (fun k => laws_sameInts.f k xs ys) (decide (xs = ys)) := by
  unfold laws_sameInts.f
  by_cases h : xs.length = ys.length
  · exact ev_pos (by omega) (same_loop xs ys h hb xs ys [] [] rfl rfl rfl)
  · refine ev_neg (by omega) (ev_const ?_)
    symm; exact decide_eq_false (fun e => h (by rw [e]))
theorem has_loop (xs : List Int) (a : Int) (hb : xs.length ≤ 1099511627776) : ∀ (s p : List Int), xs = p ++ s → Ev (fun k => laws_hasInt.l0 k xs a (p.length : Int)) (decide (a ∈ s)) := by
  intro s
  induction s with
  | nil => intro p h1; refine ev_succ ?_; simp only [laws_hasInt.l0]; exact ev_neg (by subst h1; simp) (ev_const (by simp))
  | cons x s ih =>
    intro p h1; refine ev_succ ?_
    simp only [laws_hasInt.l0, rds h1, wlen h1 hb]
    refine ev_pos (len_at h1) (ev_pos (by omega) (ev_ite (fun h => ev_const (by simp [h])) (fun h => ev_eq (ih (p ++ [x]) (snoc_at h1)) ?_)))
    have : a ≠ x := fun e => h e.symm
    simp [this]
theorem has_ev (xs : List Int) (a : Int) (hb : xs.length ≤ 1099511627776) : Ev (fun k => laws_hasInt.f k xs a) (decide (a ∈ xs)) := has_loop xs a hb xs [] rfl
end Go.Proofs.Ytnckblolijkdaaa.BBt
/- FnRecallMore holds for all bytes. No condition beyond the statement's own. -/
namespace Go.Proofs.Ytnckblolijkdaaa.Pure
open Go.RowKit Go.Proofs.Ytnckblolijkdaaa.PBt Go.Proofs.Ytnckblolijkdaaa.BBt Go.Proofs.YtnckblolijkdaaaW.PrintWords Go.Proofs.YtnckblolijkdaaaW.PrintLast Go.Proofs.YtnckblolijkdaaaW.PrintMore
set_option linter.unusedVariables false
set_option linter.unusedSimpArgs false
theorem more_loop (out xs : List Int) (h1 : out.length ≤ 1099511627776) (h2 : xs.length ≤ 1099511627776) (hm : ∀ y ∈ xs, y ∈ out) : ∀ (s p : List Int), xs = p ++ s → Ev (fun k => laws_FnRecallMore.l0 k out xs (p.length : Int)) true := by
  intro s
  induction s with
  | nil => intro p hx; refine ev_succ ?_; simp only [laws_FnRecallMore.l0]; exact ev_neg (by subst hx; simp) (Ev.now _)
  | cons y s ih =>
    intro p hx; refine ev_succ ?_
    have hi := ih (p ++ [y]) (snoc_at hx)
    simp only [laws_FnRecallMore.l0, rds hx, wlen hx h2]
    exact ev_pos (len_at hx) (ev_pos (by omega) (Ev.bind (has_ev out y h1) (ev_pos (decide_eq_true (hm y (by subst hx; simp))) hi)))
theorem gval_len (bs : List S39) (ps : List S49) (a : Int) : (gval bs ps a).length ≤ 1099511627776 := by
  unfold gval
  split
  · rename_i h
    rw [← gs_srt _ (gl_range (pval_b h).2.2 _)]
    have := gs_len (gl (recl a bs) ps) 99 1
    omega
  · simp
theorem FnRecallMore : laws_FnRecallMore.Pure := by
  intro l0 l1 _ _ hw _ _ _
  refine Ev.rounds ?_
  have yes : ∀ t, t = true → Ev (fun k => laws_FnRecallMore.j0 k l0 l1 t) true := by
    intro t ht; refine ev_succ ?_; simp only [laws_FnRecallMore.j0]; exact ev_pos ht (Ev.now _)
  unfold laws_FnRecallMore.f
  refine ev_ite (fun _ => yes _ rfl) (fun _ => ?_)
  cases hc : decide ((l1.length : Int) > 1048576) with
  | true => exact yes _ rfl
  | false =>
    have hl1 : (l1.length : Int) ≤ 1048576 := by have := of_decide_eq_false hc; omega
    obtain ⟨bs, ps, a, hb, hps, hd⟩ := draw_guests l0 hw
    have hs := fewB_small hb
    have hb1 : ps.length ≤ 1099511627776 := by omega
    have hlen := gval_len bs ps a
    refine ev_succ ?_
    simp only [laws_FnRecallMore.j0]
    refine ev_neg (by simp) (Ev.bind hd (Ev.bind (impl_guests bs hs ps hb1 a) (Ev.bind (spec_guests bs hs ps hb1 a) (Ev.bind (same_ev _ _ hlen) ?_))))
    refine ev_pos (by simp) (Ev.bind (spec_pv bs hs ps hb1) (ev_succ ?_))
    simp only [laws_FnRecallMore.j1]
    by_cases hv : pval bs ps = true
    · refine ev_neg (by simp [hv]) ?_
      have ew : wrap64 ((ps.length : Int) + 1) = ((ps.length + 1 : Nat) : Int) := by rw [w64 (by omega) (by omega)]; omega
      rw [ew]
      obtain ⟨m, hm⟩ : ∃ m : Nat, (l1.length : Int) % ((ps.length + 1 : Nat) : Int) = m := ⟨l1.length % (ps.length + 1), by omega⟩
      have hmlt : m ≤ ps.length := by
        have := Int.emod_lt_of_pos (l1.length : Int) (show (0 : Int) < ((ps.length + 1 : Nat) : Int) by omega)
        omega
      rw [hm]
      simp only [Int.toNat_natCast]
      have ht : (ps.take m).length ≤ 1099511627776 := by simp; omega
      refine ev_neg (by omega) (ev_pos (by omega) (ev_pos (by omega) (Ev.bind (impl_guests bs hs (ps.take m) ht a) ?_)))
      have hv' : pval bs (ps.take m) = true := by
        obtain ⟨v1, v2, v3⟩ := pval_b hv
        unfold pval
        simp only [Bool.and_eq_true, decide_eq_true_eq, Bool.not_eq_true', List.any_eq_false, Bool.not_eq_true]
        exact ⟨v1, by simp; omega, fun x hx => v3 x (List.mem_of_mem_take hx)⟩
      refine more_loop _ _ hlen (gval_len _ _ _) (fun y hy => ?_) _ [] rfl
      unfold gval at hy ⊢
      rw [if_pos hv'] at hy
      rw [if_pos hv]
      have h1 := ((srt_all _).2 y).1 hy
      obtain ⟨x, g1, g2, g3⟩ := (gl_mem _ _ _).1 h1
      exact ((srt_all _).2 y).2 ((gl_mem _ _ _).2 ⟨x, List.mem_of_mem_take g1, g2, g3⟩)
    · exact ev_pos (by simp [hv]) (Ev.bind (same_ev _ _ hlen) (ev_const (by simp)))
end Go.Proofs.Ytnckblolijkdaaa.Pure

