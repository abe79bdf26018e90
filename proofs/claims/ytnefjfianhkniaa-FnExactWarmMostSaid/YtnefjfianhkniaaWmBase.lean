/- Shared plain lemmas for the statements of this seat: rounds that are enough, reads of lists, the reader of draws. No condition beyond those that stand in each lemma. -/
import Derived.Test.YtnefjfianhkniaaPWmx7
import Derived.Laws.BitsLemmas
namespace Go.Proofs.Ytnefjfianhkniaa.BWm
open Go.RowKit Go.Proofs.Ytnefjfianhkniaa.PWm Go.Proofs.YtnefjfianhkniaaW.PrintWords Go.Proofs.YtnefjfianhkniaaW.PrintLast Go.Proofs.YtnefjfianhkniaaW.PrintMore
set_option linter.unusedVariables false
set_option linter.unusedSimpArgs false

/-- one round more -/
theorem ev_succ {α : Type} {g : Nat → Option α} {r : α} (h : Ev (fun k => g (k + 1)) r) : Ev g r := Ev.step (fun _ => rfl) h
theorem ev_const {α : Type} {r s : α} (h : r = s) : Ev (fun _ => some r) s := by subst h; exact Ev.now r
theorem ev_pos {α : Type} {c : Prop} [Decidable c] {a b : Nat → Option α} {r : α} (hc : c) (h : Ev a r) : Ev (fun k => if c then a k else b k) r :=
  Ev.congr (fun k => if_pos hc) h
theorem ev_neg {α : Type} {c : Prop} [Decidable c] {a b : Nat → Option α} {r : α} (hc : ¬ c) (h : Ev b r) : Ev (fun k => if c then a k else b k) r :=
  Ev.congr (fun k => if_neg hc) h
theorem ev_ite {α : Type} {c : Prop} [Decidable c] {a b : Nat → Option α} {r : α} (h1 : c → Ev a r) (h2 : ¬ c → Ev b r) : Ev (fun k => if c then a k else b k) r := by
  by_cases hc : c
  · exact ev_pos hc (h1 hc)
  · exact ev_neg hc (h2 hc)
theorem ev_eq {α : Type} {g : Nat → Option α} {r s : α} (h : Ev g r) (e : r = s) : Ev g s := e ▸ h
theorem ev_some {α β : Type} {f : Nat → α → Option β} {a : α} {r : β} (h : Ev (fun n => f n a) r) : Ev (fun n => (some a).bind (f n)) r := h

theorem w64 {x : Int} (h0 : -9223372036854775808 ≤ x) (h1 : x ≤ 9223372036854775807) : wrap64 x = x := by unfold wrap64; omega
theorem w64s {n : Nat} {i : Int} (hi : i = n) (h1 : n ≤ 9223372036854775806) : wrap64 (i + 1) = ((n + 1 : Nat) : Int) := by unfold wrap64; omega

theorem getD_at {α : Type} (p : List α) (x : α) (q : List α) (d : α) : (p ++ x :: q).getD p.length d = x := by simp [List.getD]
theorem rd_at (p : List Int) (x : Int) (q : List Int) : rd (p ++ x :: q) (p.length : Int) = x := getD_at p x q 0
theorem rd_lt (l : List Int) (i : Int) (h0 : 0 ≤ i) (h1 : i < l.length) : rd l i ∈ l := by
  unfold rd; rw [List.getD_eq_getElem?_getD, List.getElem?_eq_getElem (by omega)]; exact List.getElem_mem _

theorem xor_nonneg (a b : Int) (ha : 0 ≤ a) (ha1 : a < 2 ^ 40) (hb : 0 ≤ b) (hb1 : b < 2 ^ 40) : 0 ≤ Go.bits .xor .i64 a b := by
  obtain ⟨a, rfl⟩ := Int.eq_ofNat_of_zero_le ha
  obtain ⟨b, rfl⟩ := Int.eq_ofNat_of_zero_le hb
  have ha' : a < 2 ^ 40 := by omega
  have hb' : b < 2 ^ 40 := by omega
  have e : Go.bits .xor .i64 (a : Int) (b : Int) = (((a ^^^ b : Nat)) : Int) := by
    have hx : a ^^^ b < 2 ^ 40 := Nat.xor_lt_two_pow ha' hb'
    have h1 : a % 2 ^ IntKind.i64.bits = a := Nat.mod_eq_of_lt (by show a < 2 ^ 64; omega)
    have h2 : b % 2 ^ IntKind.i64.bits = b := Nat.mod_eq_of_lt (by show b < 2 ^ 64; omega)
    simp only [Go.bits, BitVec.ofInt_natCast, BitVec.toNat_xor, BitVec.toNat_ofNat, h1, h2]
    rw [IntKind.wrap_i64]; omega
  rw [e]; exact Int.natCast_nonneg _

/-- a tape of bytes -/
def Tape (s : List Int) : Prop := s.length ≤ 2000 ∧ ∀ x ∈ s, 0 ≤ x ∧ x ≤ 255

theorem tdiv_eq (a b : Int) (h : 0 ≤ a) : Int.tdiv a b = a / b := Int.tdiv_eq_ediv_of_nonneg h
theorem tmod_eq (a b : Int) (h : 0 ≤ a) : Int.tmod a b = a % b := Int.tmod_eq_emod_of_nonneg h
theorem tmod_lt (a b : Int) (h : 0 ≤ a) (hb : 0 < b) : 0 ≤ Int.tmod a b ∧ Int.tmod a b < b := by
  rw [tmod_eq a b h]; exact ⟨Int.emod_nonneg _ (by omega), Int.emod_lt_of_pos _ hb⟩

/-- the reader: a number from 0 to n - 1, one place further on -/
theorem pick_ev (s : List Int) (hs : Tape s) (p n : Int) (hp : 0 ≤ p) (hp1 : p ≤ 1073741824) (hn : 1 ≤ n) :
    ∃ v, 0 ≤ v ∧ v < n ∧ Ev (fun k => spec_l6Rd_pick.f k s p n) (v, p + 1) := by
  obtain ⟨hl, hb⟩ := hs
  have e1 : wrap64 (p + 1) = p + 1 := w64 (by omega) (by omega)
  have e2 : wrap64 (p + 1 - 1) = p := by rw [w64 (by omega) (by omega)]; omega
  have hneg : ¬ n < 1 := by omega
  by_cases h0 : s.length = 0
  · refine ⟨0, by omega, by omega, ?_⟩
    refine Ev.congr (f := fun k => spec_l6Rd_pick.j0 k n true s (p + 1)) (fun k => ?_) ?_
    · simp only [spec_l6Rd_pick.f, if_neg hneg, e1, h0]; rfl
    · refine ev_succ ?_
      simp only [spec_l6Rd_pick.j0, if_true]
      exact Ev.now _
  · have hlen : ((s.length : Int) == 0) = false := by simp; simpa using h0
    have key : ∃ v, 0 ≤ v ∧ v < n ∧ Ev (fun k => spec_l6Rd_pick.j0 k n false s (p + 1)) (v, p + 1) := by
      by_cases h1 : p < (s.length : Int)
      · have hm := hb _ (rd_lt s p hp h1)
        have e3 : wrap64 (rd s p) = rd s p := w64 (by omega) (by omega)
        obtain ⟨a, b⟩ := tmod_lt (rd s p) n hm.1 (by omega)
        refine ⟨_, a, b, ev_succ ?_⟩
        simp only [spec_l6Rd_pick.j0, e2, e3]
        refine ev_neg (by simp) (ev_pos h1 (ev_pos hp (ev_neg (by omega) (Ev.now _))))
      · have hL : (0 : Int) < s.length := by omega
        have q1 := tmod_lt p (s.length : Int) hp hL
        have e4 : wrap64 (p * 7) = p * 7 := w64 (by omega) (by omega)
        have e5 : wrap64 (p * 7 + 3) = p * 7 + 3 := w64 (by omega) (by omega)
        have q2 := tmod_lt (p * 7 + 3) (s.length : Int) (by omega) hL
        have m1 := hb _ (rd_lt s _ q1.1 q1.2)
        have m2 := hb _ (rd_lt s _ q2.1 q2.2)
        have hd : 0 ≤ p / (s.length : Int) ∧ p / (s.length : Int) ≤ p := ⟨Int.ediv_nonneg hp (by omega), Int.ediv_le_self _ hp⟩
        generalize hA : rd s (Int.tmod p (s.length : Int)) = A at m1
        generalize hB : rd s (Int.tmod (p * 7 + 3) (s.length : Int)) = B at m2
        generalize hD : p / (s.length : Int) = D at hd
        have eD : Int.tdiv p (s.length : Int) = D := by rw [tdiv_eq _ _ hp, hD]
        have f1 : wrap64 A = A := w64 (by omega) (by omega)
        have f2 : wrap64 (A * 131) = A * 131 := w64 (by omega) (by omega)
        have f3 : wrap64 B = B := w64 (by omega) (by omega)
        have f4 : wrap64 (B * 1117) = B * 1117 := w64 (by omega) (by omega)
        have f5 : wrap64 (A * 131 + B * 1117) = A * 131 + B * 1117 := w64 (by omega) (by omega)
        have f6 : wrap64 (p * 29) = p * 29 := w64 (by omega) (by omega)
        have f7 : wrap64 (A * 131 + B * 1117 + p * 29) = A * 131 + B * 1117 + p * 29 := w64 (by omega) (by omega)
        have f8 : wrap64 D = D := w64 (by omega) (by omega)
        have f9 : wrap64 (D * 53) = D * 53 := w64 (by omega) (by omega)
        have f10 : wrap64 (A * 131 + B * 1117 + p * 29 + D * 53) = A * 131 + B * 1117 + p * 29 + D * 53 := w64 (by omega) (by omega)
        generalize hX : A * 131 + B * 1117 + p * 29 + D * 53 = X at f10
        have hX0 : 0 ≤ X ∧ X < 2 ^ 40 := by omega
        have eX : Int.tdiv X 64 = X / 64 := tdiv_eq _ _ hX0.1
        have f11 : wrap64 (X / 64) = X / 64 := w64 (by omega) (by omega)
        have hx := xor_nonneg X (X / 64) hX0.1 hX0.2 (by omega) (by omega)
        obtain ⟨a, b⟩ := tmod_lt (Go.bits .xor .i64 X (X / 64)) n hx (by omega)
        refine ⟨_, a, b, ev_succ ?_⟩
        simp only [spec_l6Rd_pick.j0, e2, e4, e5, hA, hB, eD, f1, f2, f3, f4, f5, f6, f7, f8, f9, hX, f10, eX, f11]
        exact ev_neg (by simp) (ev_neg h1 (ev_neg (by omega) (ev_pos q1.1 (ev_pos q1.2 (ev_pos q2.1 (ev_pos q2.2 (ev_neg (by omega) (Ev.now _))))))))
    obtain ⟨v, a, b, h⟩ := key
    refine ⟨v, a, b, Ev.congr (fun k => ?_) h⟩
    simp only [spec_l6Rd_pick.f, if_neg hneg, e1, hlen]

theorem open_tape (l : List Int) (hl : ∀ x ∈ l, (Lit.int .u8 x).wf = true) : ∃ s, Tape s ∧ spec_l6Open.f l = some (s, 0) := by
  have hw : ∀ x ∈ l, 0 ≤ x ∧ x ≤ 255 := fun x hx => by
    have := hl x hx
    simp [Lit.wf, IntKind.min, IntKind.max, IntKind.signed, IntKind.bits] at this
    omega
  unfold spec_l6Open.f
  by_cases h : (l.length : Int) > 2000
  · rw [if_pos h, if_pos (by omega)]
    exact ⟨_, ⟨by simp; omega, fun x hx => hw x (List.mem_of_mem_take hx)⟩, rfl⟩
  · rw [if_neg h]
    exact ⟨l, ⟨by omega, hw⟩, rfl⟩

end Go.Proofs.Ytnefjfianhkniaa.BWm
