import Derived.Test.YtbclhpibilbdbaaDoorVJWMore
import Derived.Test.YtbclhpibilbdbaaDoorVJWNEv
import Derived.Laws.BitsLemmas
import Derived.Lib.AtoiAll
import Derived.Lib.ItoaNum
import Derived.Lib.AtoiAllCases
import Derived.Lib.SplitLaws
import Derived.Test.YtbclhpibilbdbaaDoorVJPScx9
import Derived.Test.YtbclhpibilbdbaaDoorVJPScx10
import Derived.Test.YtbclhpibilbdbaaDoorVJPScx14
import Derived.Test.YtbclhpibilbdbaaDoorVJPScx15
import Derived.Test.YtbclhpibilbdbaaDoorVJPScx19
import Derived.Test.YtbclhpibilbdbaaDoorVJPScx20
import Derived.Test.YtbclhpibilbdbaaDoorVJPScx21
import Derived.Test.YtbclhpibilbdbaaDoorVJPScx22
import Derived.Test.YtbclhpibilbdbaaDoorVJPScx2
import Derived.Test.YtbclhpibilbdbaaDoorVJPScx4
import Derived.Test.YtbclhpibilbdbaaDoorVJPScx5
import Derived.Test.YtbclhpibilbdbaaDoorVJPScx8
import Derived.Test.YtbclhpibilbdbaaDoorVJPScx17
import Derived.Test.YtbclhpibilbdbaaDoorVJPScx18
import Derived.Test.YtbclhpibilbdbaaDoorVJPScx11
import Derived.Test.YtbclhpibilbdbaaDoorVJPScx13
import Derived.Test.YtbclhpibilbdbaaDoorVJPScx16
import Derived.Test.YtbclhpibilbdbaaDoorVJPScx23
import Derived.Test.YtbclhpibilbdbaaDoorVJPScx24
import Derived.Test.YtbclhpibilbdbaaDoorVJPScx25
import Derived.Test.YtbclhpibilbdbaaDoorRows
import Derived.Test.YtbclhpibilbdbaaDoorVJWGw
import Derived.MakeChecks
import Derived.LaidMore
import Derived.Lay
import Derived.Stop.LaidErr
import Derived.Shelf.Vars
import Derived.Lib.LaidTab
import Derived.HandedShaped
namespace Go.Proofs.YtbclhpibilbdbaaDoor.BSc
open Go.RowKit Go.Proofs.YtbclhpibilbdbaaDoorW.PrintWords Go.Proofs.YtbclhpibilbdbaaDoorW.PrintLast Go.Proofs.YtbclhpibilbdbaaDoorW.PrintMore
set_option linter.unusedVariables false
set_option linter.unusedSimpArgs false
theorem ev_succ {α : Type} {g : Nat → Option α} {r : α} (h : Ev (fun k => g (k + 1)) r) : Ev g r := Ev.step (fun _ => rfl) h
theorem ev_const {α : Type} {r s : α} (h : r = s) : Ev (fun _ => some r) s := by subst h; exact Ev.now r
theorem ev_pos {α : Type} {c : Prop} [Decidable c] {a b : Nat → Option α} {r : α} (hc : c) (h : Ev a r) : Ev (fun k => if c then a k else b k) r :=
  Ev.congr (fun k => if_pos hc) h
theorem ev_neg {α : Type} {c : Prop} [Decidable c] {a b : Nat → Option α} {r : α} (hc : ¬ c) (h : Ev b r) : Ev (fun k => if c then a k else b k) r :=
  Ev.congr (fun k => if_neg hc) h
theorem ev_ite {α : Type} {c : Prop} [Decidable c] {a b : Nat → Option α} {r : α} (h1 : c → Ev a r) (h2 : ¬ c → Ev b r) : Ev (fun k => if c then a k else b k) r := by
  by_cases hc : c
  · exact ev_pos hc (h1 hc)
  · exact ev_neg hc (h2 hc)
theorem ev_eq {α : Type} {g : Nat → Option α} {r s : α} (h : Ev g r) (e : r = s) : Ev g s := e ▸ h
theorem w64 {x : Int} (h0 : -9223372036854775808 ≤ x) (h1 : x ≤ 9223372036854775807) : wrap64 x = x := by unfold wrap64; omega
theorem getD_at {α : Type} (p : List α) (x : α) (q : List α) (d : α) : (p ++ x :: q).getD p.length d = x := by simp [List.getD]
theorem len_at {α : Type} {xs p : List α} {x : α} {q : List α} (h : xs = p ++ x :: q) : (p.length : Int) < (xs.length : Int) := by subst h; simp; omega
theorem snoc_at {α : Type} {xs p : List α} {x : α} {q : List α} (h : xs = p ++ x :: q) : xs = (p ++ [x]) ++ q := by subst h; simp
theorem wlen {α : Type} {xs p : List α} {x : α} {q : List α} (h : xs = p ++ x :: q) (hb : xs.length ≤ 1099511627776) : wrap64 ((p.length : Int) + 1) = ((p ++ [x]).length : Int) := by
  subst h; rw [w64 (by omega) (by simp at hb; omega)]; simp
theorem set_at {α : Type} (p : List α) (a b : α) (q : List α) : (p ++ a :: q).set p.length b = p ++ b :: q := by simp
theorem mn_min (a b : Int) : mn a b = min a b := by unfold mn; split <;> omega
end Go.Proofs.YtbclhpibilbdbaaDoor.BSc
namespace Go.Proofs.YtbclhpibilbdbaaDoor.BSc
open Go.Lib
set_option linter.unusedVariables false
set_option linter.unusedSimpArgs false
theorem dec1 (v : Nat) (h : v < 10) : decDigits v = [UInt8.ofNat (48 + v)] := by rw [decDigits, dif_pos h]
theorem decS (v : Nat) (h : ¬ v < 10) : decDigits v = decDigits (v / 10) ++ [UInt8.ofNat (48 + v % 10)] := by rw [decDigits, dif_neg h]
theorem byte_toNat (d : Nat) (h : d < 10) : (UInt8.ofNat (48 + d)).toNat = 48 + d := by simp; omega
theorem byte_back (c : UInt8) (h : 48 ≤ c.toNat) : UInt8.ofNat (48 + (c.toNat - 48)) = c := by
  rw [show 48 + (c.toNat - 48) = c.toNat by omega]; exact UInt8.ofNat_toNat
def numF : List UInt8 → Int → Int
  | [], n => n
  | c :: r, n => if c.toNat < 48 ∨ 57 < c.toNat then -1 else numF r (10 * n + ((c.toNat - 48 : Nat) : Int))
def num1 (s : List UInt8) : Int := if (1 ≤ s.length ∧ s.length ≤ 4) ∧ ¬ (1 < s.length ∧ s.head? = some 48) then numF s 0 else -1
theorem numF_dig (c : UInt8) (r : List UInt8) (n : Int) (h : 48 ≤ c.toNat ∧ c.toNat ≤ 57) : numF (c :: r) n = numF r (10 * n + ((c.toNat - 48 : Nat) : Int)) := by rw [numF, if_neg (by omega)]
theorem numF_bad (c : UInt8) (r : List UInt8) (n : Int) (h : ¬ (48 ≤ c.toNat ∧ c.toNat ≤ 57)) : numF (c :: r) n = -1 := by rw [numF, if_pos (by omega)]
theorem read_num : ∀ (s : List UInt8) (a : Nat), (a + 1) * 10 ^ s.length ≤ 10000 →
    (∃ v : Nat, parseUint10 a s = .ok v ∧ numF s a = v ∧ v ≤ 9999 ∧ (0 < a → decDigits v = decDigits a ++ s)) ∨ numF s a = -1
  | [], a, ha => .inl ⟨a, rfl, rfl, by simp at ha; omega, fun _ => by simp⟩
  | c :: r, a, ha => by
    by_cases hc : 48 ≤ c.toNat ∧ c.toNat ≤ 57
    · have hd : c.toNat - 48 ≤ 9 := by omega
      have e1 : (a + 1) * 10 ^ (c :: r).length = (a * 10 + 10) * 10 ^ r.length := by
        rw [List.length_cons, Nat.pow_succ, Nat.mul_comm (10 ^ r.length) 10, ← Nat.mul_assoc]; congr 1; omega
      have h2 : (a * 10 + (c.toNat - 48) + 1) * 10 ^ r.length ≤ 10000 := Nat.le_trans (Nat.mul_le_mul_right _ (by omega)) (e1 ▸ ha)
      have h3 : a * 10 + (c.toNat - 48) ≤ 9999 := by
        have : (a * 10 + (c.toNat - 48) + 1) * 1 ≤ (a * 10 + (c.toNat - 48) + 1) * 10 ^ r.length := Nat.mul_le_mul_left _ (Nat.one_le_pow _ _ (by omega))
        omega
      have ep : parseUint10 a (c :: r) = parseUint10 (a * 10 + (c.toNat - 48)) r := by
        rw [parseUint10, if_pos hc, if_neg (by omega), if_neg (by omega)]
      have en : numF (c :: r) a = numF r ((a * 10 + (c.toNat - 48) : Nat) : Int) := by
        rw [numF_dig c r a hc]; congr 1; omega
      rw [ep, en]
      rcases read_num r (a * 10 + (c.toNat - 48)) h2 with ⟨v, h4, h5, h6, h7⟩ | h4
      · refine .inl ⟨v, h4, h5, h6, fun h0 => ?_⟩
        rw [h7 (by omega), decS _ (by omega), show (a * 10 + (c.toNat - 48)) / 10 = a by omega, show (a * 10 + (c.toNat - 48)) % 10 = c.toNat - 48 by omega, byte_back c hc.1]
        simp
      · exact .inr h4
    · exact .inr (numF_bad c r a hc)
theorem read_four (s : List UInt8) (h1 : 1 ≤ s.length) (h4 : s.length ≤ 4) (hz : ¬ (1 < s.length ∧ s.head? = some 48)) :
    (∃ v : Nat, parseUint10 0 s = .ok v ∧ numF s 0 = v ∧ v ≤ 9999 ∧ decDigits v = s) ∨ numF s 0 = -1 := by
  cases s with
  | nil => simp at h1
  | cons c r =>
    have hp : 10 ^ (c :: r).length ≤ 10000 := Nat.le_trans (Nat.pow_le_pow_right (by omega) h4) (by decide)
    by_cases hc : 48 ≤ c.toNat ∧ c.toNat ≤ 57
    · have e1 : 10 ^ (c :: r).length = 10 * 10 ^ r.length := by rw [List.length_cons, Nat.pow_succ, Nat.mul_comm]
      have h2 : (c.toNat - 48 + 1) * 10 ^ r.length ≤ 10000 := Nat.le_trans (Nat.mul_le_mul_right _ (by omega)) (e1 ▸ hp)
      have ep : parseUint10 0 (c :: r) = parseUint10 (c.toNat - 48) r := by
        rw [parseUint10, if_pos hc, if_neg (by omega), if_neg (by omega), Nat.zero_mul, Nat.zero_add]
      have en : numF (c :: r) 0 = numF r ((c.toNat - 48 : Nat) : Int) := by
        rw [numF_dig c r 0 hc]; congr 1
        simp
      rw [ep, en]
      by_cases hr : r = []
      · subst hr
        refine .inl ⟨c.toNat - 48, rfl, rfl, by omega, ?_⟩
        rw [dec1 _ (by omega), byte_back c hc.1]
      · have hl : 1 < (c :: r).length := by cases r with
          | nil => exact absurd rfl hr
          | cons => simp
        have hc48 : 0 < c.toNat - 48 := by
          rcases Nat.lt_or_ge 48 c.toNat with h | h
          · omega
          · exfalso
            refine hz ⟨hl, ?_⟩
            have : c = 48 := UInt8.toNat_inj.1 (by show c.toNat = 48; omega)
            rw [this]; rfl
        rcases read_num r (c.toNat - 48) h2 with ⟨v, h5, h6, h7, h8⟩ | h5
        · refine .inl ⟨v, h5, h6, h7, ?_⟩
          rw [h8 hc48, dec1 _ (by omega), byte_back c hc.1]; rfl
        · exact .inr h5
    · exact .inr (numF_bad c r 0 hc)
theorem atoi_of_parse (s : List UInt8) (v : Nat) (hv : v ≤ 9999) (h1 : 1 ≤ s.length) (h : parseUint10 0 s = .ok v) (hd : decDigits v = s) : atoiAll s = .ok (v : Int) := by
  cases s with
  | nil => simp at h1
  | cons c r =>
    have hc : 48 ≤ c.toNat ∧ c.toNat ≤ 57 := by
      by_cases hc : 48 ≤ c.toNat ∧ c.toNat ≤ 57
      · exact hc
      · rw [parseUint10, if_neg hc] at h; cases h
    have h43 : ¬ c.toNat = 43 := by omega
    have h45 : ¬ c.toNat = 45 := by omega
    have hb : ¬ 9223372036854775808 ≤ v := by omega
    simp only [atoiAll, h43, h45, or_self, parseMag, if_neg (List.cons_ne_nil c r), h, not_false_eq_true, true_and, false_and, if_false, hb]
theorem num1_pos (s : List UInt8) (h : 0 ≤ num1 s) : ∃ v : Nat, num1 s = v ∧ v ≤ 9999 ∧ decDigits v = s ∧ atoiAll s = .ok (v : Int) ∧ s.length ≤ 4 := by
  unfold num1 at h ⊢
  by_cases hc : (1 ≤ s.length ∧ s.length ≤ 4) ∧ ¬ (1 < s.length ∧ s.head? = some 48)
  · rw [if_pos hc] at h ⊢
    rcases read_four s hc.1.1 hc.1.2 hc.2 with ⟨v, h1, h2, h3, h4⟩ | h1
    · exact ⟨v, h2, h3, h4, atoi_of_parse s v h3 hc.1.1 h1 h4, hc.1.2⟩
    · omega
  · rw [if_neg hc] at h; omega
theorem num1_dec (v : Nat) (h : (decDigits v).length ≤ 4) : num1 (decDigits v) = v := by
  have key : ∀ d, d < 10 → (UInt8.ofNat (48 + d)).toNat = 48 + d := byte_toNat
  have n48 : ∀ d, d < 10 → 0 < d → UInt8.ofNat (48 + d) ≠ 48 := fun d h1 h2 e => by have := key d h1; rw [e] at this; have h3 : (48 : UInt8).toNat = 48 := rfl; omega
  have st : ∀ (d : Nat) (r : List UInt8) (n : Int), d < 10 → numF (UInt8.ofNat (48 + d) :: r) n = numF r (10 * n + d) := fun d r n hd => by
    rw [numF_dig _ _ _ (by rw [key d hd]; omega), key d hd, show 48 + d - 48 = d by omega]
  by_cases h1 : v < 10
  · rw [dec1 v h1, num1, if_pos (by simp), st v _ _ h1]; simp [numF]
  · rw [decS v h1] at h ⊢
    by_cases h2 : v / 10 < 10
    · rw [dec1 _ h2] at h ⊢
      simp only [List.cons_append, List.nil_append]
      rw [num1, if_pos ⟨by simp, fun hh => n48 (v / 10) h2 (by omega) (Option.some.inj (show some _ = some 48 from hh.2))⟩, st _ _ _ h2, st _ _ _ (by omega)]
      simp only [numF]; omega
    · rw [decS _ h2] at h ⊢
      by_cases h3 : v / 10 / 10 < 10
      · rw [dec1 _ h3] at h ⊢
        simp only [List.cons_append, List.nil_append]
        rw [num1, if_pos ⟨by simp, fun hh => n48 (v / 10 / 10) h3 (by omega) (Option.some.inj (show some _ = some 48 from hh.2))⟩, st _ _ _ h3, st _ _ _ (by omega), st _ _ _ (by omega)]
        simp only [numF]; omega
      · rw [decS _ h3] at h ⊢
        by_cases h4 : v / 10 / 10 / 10 < 10
        · rw [dec1 _ h4] at h ⊢
          simp only [List.cons_append, List.nil_append]
          rw [num1, if_pos ⟨by simp, fun hh => n48 (v / 10 / 10 / 10) h4 (by omega) (Option.some.inj (show some _ = some 48 from hh.2))⟩, st _ _ _ h4, st _ _ _ (by omega), st _ _ _ (by omega), st _ _ _ (by omega)]
          simp only [numF]; omega
        · rw [decS _ h4] at h
          have h5 : 1 ≤ (decDigits (v / 10 / 10 / 10 / 10)).length := by
            by_cases h6 : v / 10 / 10 / 10 / 10 < 10
            · rw [dec1 _ h6]; simp
            · rw [decS _ h6]; simp
          simp only [List.length_append, List.length_cons, List.length_nil] at h
          omega
def cutL (c : UInt8) : List UInt8 → List UInt8 → List (List UInt8)
  | acc, [] => [acc]
  | acc, x :: r => if x = c then acc :: cutL c [] r else cutL c (acc ++ [x]) r
theorem cutL_ne (c : UInt8) : ∀ (s acc : List UInt8), cutL c acc s ≠ []
  | [], acc => by simp [cutL]
  | x :: r, acc => by
    rw [cutL]
    split
    · simp
    · exact cutL_ne c r _
theorem cutL_acc (c : UInt8) : ∀ (s acc : List UInt8), cutL c acc s = (match cutL c [] s with | [] => [] | h :: t => (acc ++ h) :: t)
  | [], acc => by simp [cutL]
  | x :: r, acc => by
    rw [cutL, cutL]
    by_cases h : x = c
    · rw [if_pos h, if_pos h]; simp
    · rw [if_neg h, if_neg h, cutL_acc c r (acc ++ [x]), cutL_acc c r ([] ++ [x])]
      cases cutL c [] r <;> simp
theorem index_here (c : UInt8) (r : List UInt8) : index (c :: r) [c] = ((0 : Nat) : Int) := by rw [index]; simp [List.isPrefixOf]
theorem index_there (b c : UInt8) (l : List UInt8) (h : b ≠ c) : index (b :: l) [c] = if index l [c] == -1 then -1 else index l [c] + 1 := by
  have hp : ([c] : List UInt8).isPrefixOf (b :: l) = false := by simp [List.isPrefixOf, Ne.symm h]
  rw [index, hp]; simp
theorem split_one (c : UInt8) : ∀ (s : List UInt8), splitK [c] 0 (count s [c]) s = cutL c [] s
  | [] => by rw [count_miss (by simp [index])]; rfl
  | b :: l => by
    by_cases h : b = c
    · subst h
      have ih := split_one b l
      have e : count (b :: l) [b] = count l [b] + 1 := by rw [count_cons_eq]; omega
      rw [e, splitK, if_neg (by rw [index_here]; decide), cutL, if_pos rfl, index_here]
      simp [ih]
    · have ih := split_one c l
      rw [count_cons_ne b c l h, cutL, if_neg h, cutL_acc, ← ih]
      by_cases hm : index l [c] = -1
      · rw [count_miss hm]; simp [splitK]
      · have hge := index_ge l [c]
        obtain ⟨j, hj⟩ : ∃ j : Nat, index l [c] = j := ⟨(index l [c]).toNat, by omega⟩
        have hix' : index (b :: l) [c] = ((j + 1 : Nat) : Int) := by rw [index_there b c l h, if_neg (fun e => hm (beq_iff_eq.1 e)), hj]; omega
        rw [count_hit (by simp) hj, Nat.add_comm, splitK, splitK, if_neg (by rw [hix']; simp only [beq_iff_eq]; omega), if_neg (by rw [hj]; simp only [beq_iff_eq]; omega), hix', hj]
        simp
theorem bytes_of (s : ByteArray) (l : List UInt8) (h : s.data.toList = l) : s = ⟨l.toArray⟩ := by
  subst h; rfl
def cutB (c : UInt8) (s : ByteArray) : List ByteArray := (cutL c [] s.data.toList).map fun l => ⟨l.toArray⟩
theorem split_cutB (c : UInt8) (s : ByteArray) : splitB ⟨#[c]⟩ 0 (countB s ⟨#[c]⟩) s = cutB c s := by
  have h := splitB_data ⟨#[c]⟩ 0 (countB s ⟨#[c]⟩) s
  have h2 : splitK [c] 0 (countB s ⟨#[c]⟩) s.data.toList = cutL c [] s.data.toList := split_one c s.data.toList
  have h3 : (splitB ⟨#[c]⟩ 0 (countB s ⟨#[c]⟩) s).map (·.data.toList) = cutL c [] s.data.toList := h.trans h2
  rw [cutB, ← h3, List.map_map]
  conv => lhs; rw [← List.map_id (splitB ⟨#[c]⟩ 0 (countB s ⟨#[c]⟩) s)]
  rfl
end Go.Proofs.YtbclhpibilbdbaaDoor.BSc
namespace Go.Proofs.YtbclhpibilbdbaaDoor.BSc
open Go.RowKit Go.Proofs.YtbclhpibilbdbaaDoor.PSc Go.Proofs.YtbclhpibilbdbaaDoorW.PrintWords Go.Proofs.YtbclhpibilbdbaaDoorW.PrintLast Go.Proofs.YtbclhpibilbdbaaDoorW.PrintMore
set_option linter.unusedVariables false
set_option linter.unusedSimpArgs false
def lotB (x : S49) : Bool := decide (1 ≤ x.f0 ∧ x.f0 ≤ 20) && (decide (0 ≤ x.f1 ∧ x.f1 ≤ 99) && decide (1 ≤ x.f2 ∧ x.f2 ≤ 9999))
def befB (a b : S49) : Bool := decide (a.f0 < b.f0 ∨ a.f0 = b.f0 ∧ a.f1 < b.f1)
def chainB : Option S49 → List S49 → Bool
  | _, [] => true
  | none, x :: r => lotB x && chainB (some x) r
  | some p, x :: r => lotB x && (befB p x && chainB (some x) r)
def okB (l : List S49) : Bool := chainB none l && decide (l.length ≤ 12)
theorem lotB_iff (x : S49) : lotB x = true ↔ (1 ≤ x.f0 ∧ x.f0 ≤ 20) ∧ (0 ≤ x.f1 ∧ x.f1 ≤ 99) ∧ 1 ≤ x.f2 ∧ x.f2 ≤ 9999 := by simp [lotB]
theorem befB_iff (a b : S49) : befB a b = true ↔ (a.f0 < b.f0 ∨ a.f0 = b.f0 ∧ a.f1 < b.f1) := by simp [befB]
theorem rd49s {xs p : List S49} {x : S49} {q : List S49} (h : xs = p ++ x :: q) : rd_T49 xs (p.length : Int) = x := by subst h; exact getD_at p x q z49
theorem within_f (a lo hi : Int) : impl_within.f a lo hi = some (decide (lo ≤ a ∧ a ≤ hi)) := by
  unfold impl_within.f
  by_cases h : a ≥ lo
  · rw [if_pos h]; congr 1; simp; omega
  · rw [if_neg h]; congr 1; symm; simp; omega
theorem in_f (a lo hi : Int) : spec_l6In.f a lo hi = some (decide (lo ≤ a ∧ a ≤ hi)) := by
  unfold spec_l6In.f
  by_cases h : a ≥ lo
  · rw [if_pos h]; congr 1; simp; omega
  · rw [if_neg h]; congr 1; symm; simp; omega
theorem lotI (a b c : Int) : impl_lotValid.f a b c = some (lotB ⟨a, b, c⟩) := by
  unfold impl_lotValid.f impl_isId.f lotB
  simp only [within_f, Option.bind_some]
  by_cases h1 : (1 ≤ a ∧ a ≤ 20) <;> by_cases h2 : (0 ≤ b ∧ b ≤ 99) <;> simp [h1, h2]
theorem lotS (a b c : Int) : spec_l21Lot.f a b c = some (lotB ⟨a, b, c⟩) := by
  unfold spec_l21Lot.f lotB
  simp only [in_f, Option.bind_some]
  by_cases h1 : (1 ≤ a ∧ a ≤ 20) <;> by_cases h2 : (0 ≤ b ∧ b ≤ 99) <;> simp [h1, h2]
theorem befS (a b : S49) : spec_l21Before.f a.f0 a.f1 a.f2 b.f0 b.f1 b.f2 = some (befB a b) := by
  unfold spec_l21Before.f befB
  by_cases h1 : a.f0 < b.f0
  · simp [h1]
  · by_cases h2 : a.f0 = b.f0
    · simp [h2]
    · simp [h1, h2]
def cmpL (a b : S49) : Int := if a.f0 < b.f0 then -1 else if a.f0 > b.f0 then 1 else if a.f1 < b.f1 then -1 else if a.f1 > b.f1 then 1 else 0
theorem cmpL_neg (a b : S49) : cmpL a b < 0 ↔ befB a b = true := by
  rw [befB_iff]; unfold cmpL
  split
  · simp; omega
  · split
    · simp; omega
    · split
      · simp; omega
      · split <;> simp <;> omega
theorem cmpL_zero (a b : S49) : cmpL a b = 0 ↔ a.f0 = b.f0 ∧ a.f1 = b.f1 := by
  unfold cmpL
  split
  · simp; omega
  · split
    · simp; omega
    · split
      · simp; omega
      · split <;> simp <;> omega
theorem cmp_int (a b : Int) : cmp_Compare_int.f a b = some (if a < b then -1 else if a > b then 1 else 0) := by
  unfold cmp_Compare_int.f cmp_isNaN_int.f
  by_cases h1 : a < b
  · simp [h1]
  · by_cases h2 : a > b
    · simp [h1, h2]
    · simp [h1, h2]
theorem or_two (a b : Int) : Ev (fun k => cmp_Or_int.f k [a, b]) (if a = 0 then b else a) := by
  unfold cmp_Or_int.f
  have e1 : wrap64 (0 + 1) = 1 := by unfold wrap64; omega
  have e2 : wrap64 (1 + 1) = 2 := by unfold wrap64; omega
  refine ev_succ ?_
  simp only [cmp_Or_int.l0, e1]
  refine ev_pos (by simp) (ev_pos (by omega) (ev_pos (by simp) ?_))
  by_cases ha : a = 0
  · subst ha
    refine ev_pos rfl ?_
    refine ev_succ ?_
    simp only [cmp_Or_int.l0, e2]
    refine ev_pos (by simp) (ev_pos (by omega) (ev_pos (by simp) ?_))
    by_cases hb : b = 0
    · subst hb
      refine ev_pos rfl ?_
      refine ev_succ ?_
      simp only [cmp_Or_int.l0]
      exact ev_neg (by simp) (ev_const (by simp))
    · exact ev_neg (by show ¬ b = 0; exact hb) (ev_const (by simp [rd]))
  · exact ev_neg (by show ¬ a = 0; exact ha) (ev_const (by simp [rd, ha]))
theorem cmp_ev (a b : S49) : Ev (fun k => impl_compareLots.f k a.f0 a.f1 a.f2 b.f0 b.f1 b.f2) (cmpL a b) := by
  unfold impl_compareLots.f
  simp only [cmp_int, Option.bind_some]
  refine Ev.bind (or_two _ _) (ev_const ?_)
  unfold cmpL
  by_cases h1 : a.f0 < b.f0
  · simp [h1]
  · by_cases h2 : a.f0 > b.f0
    · simp [h1, h2]
    · simp [h1, h2]
theorem validI_loop (xs : List S49) (hb : xs.length ≤ 1099511627776) : ∀ (s p : List S49) (y : S49), xs = p ++ y :: s → Ev (fun k => impl_StoreValid.l0 k xs xs (xs.length : Int) ((p.length : Int) + 1)) (chainB (some y) s && decide (xs.length ≤ 12)) := by
  intro s
  induction s with
  | nil =>
    intro p y hx
    refine ev_succ ?_
    simp only [impl_StoreValid.l0]
    exact ev_neg (by subst hx; simp) (ev_const (by simp only [chainB, Bool.true_and]; congr 1; apply propext; omega))
  | cons x s ih =>
    intro p y hx
    have hx2 : xs = (p ++ [y]) ++ x :: s := by rw [hx]; simp
    have e0 : ((p.length : Int) + 1) = ((p ++ [y]).length : Int) := by simp
    have r1 : rd_T49 xs ((p.length : Int) + 1) = x := by rw [e0]; exact rd49s hx2
    have hlt := len_at hx2
    have e1 : wrap64 ((p.length : Int) + 1 - 1) = (p.length : Int) := by rw [w64 (by omega) (by omega)]; omega
    have r2 : rd_T49 xs (p.length : Int) = y := rd49s hx
    have e2 : wrap64 ((p.length : Int) + 1 + 1) = ((p ++ [y]).length : Int) + 1 := by rw [w64 (by omega) (by omega)]; omega
    refine ev_succ ?_
    simp only [impl_StoreValid.l0, r1, lotI, Option.bind_some, e1, r2, e2]
    refine ev_pos (by omega) (ev_pos (by omega) (ev_pos (by omega) ?_))
    cases h1 : lotB x with
    | false => exact ev_neg (by simp [h1]) (ev_const (by simp [chainB, h1]))
    | true =>
      refine ev_pos (by simp [h1]) (ev_pos (by omega) (ev_pos (by omega) (ev_pos (by omega) (Ev.bind (cmp_ev y x) ?_))))
      by_cases h2 : befB y x = true
      · refine ev_neg (by have := (cmpL_neg y x).2 h2; omega) ?_
        have := ih (p ++ [y]) x hx2
        simp only [chainB, h1, h2, Bool.true_and]
        exact this
      · refine ev_pos (by have := mt (cmpL_neg y x).1 h2; omega) (ev_const ?_)
        simp only [Bool.not_eq_true] at h2
        simp [chainB, h2]
theorem validI (xs : List S49) (hb : xs.length ≤ 1099511627776) : Ev (fun k => impl_StoreValid.f k xs) (okB xs) := by
  unfold impl_StoreValid.f
  cases xs with
  | nil =>
    refine ev_succ ?_
    simp only [impl_StoreValid.l0]
    exact ev_neg (by simp) (ev_const (by simp [okB, chainB]))
  | cons x s =>
    have e1 : wrap64 (0 + 1) = (([] : List S49).length : Int) + 1 := by rw [w64 (by omega) (by omega)]; rfl
    have r1 : rd_T49 (x :: s) 0 = x := rfl
    refine ev_succ ?_
    simp only [impl_StoreValid.l0, r1, lotI, Option.bind_some, e1]
    refine ev_pos (by simp only [List.length_cons]; omega) (ev_pos (by omega) (ev_pos (by simp only [List.length_cons]; omega) ?_))
    cases h1 : lotB x with
    | false => exact ev_neg (by simp [h1]) (ev_const (by simp [okB, chainB, h1]))
    | true =>
      refine ev_pos (by simp [h1]) (ev_neg (by omega) ?_)
      have := validI_loop (x :: s) hb s [] x rfl
      simp only [okB, chainB, h1, Bool.true_and]
      exact this
theorem validS_loop (xs : List S49) (hb : xs.length ≤ 1099511627776) : ∀ (s p : List S49) (y : S49), xs = p ++ y :: s → Ev (fun k => spec_StoreValid.l0 k xs ((p.length : Int) + 1)) (chainB (some y) s && decide (xs.length ≤ 12)) := by
  intro s
  induction s with
  | nil =>
    intro p y hx
    refine ev_succ ?_
    simp only [spec_StoreValid.l0]
    exact ev_neg (by subst hx; simp) (ev_const (by simp only [chainB, Bool.true_and]; congr 1; apply propext; omega))
  | cons x s ih =>
    intro p y hx
    have hx2 : xs = (p ++ [y]) ++ x :: s := by rw [hx]; simp
    have e0 : ((p.length : Int) + 1) = ((p ++ [y]).length : Int) := by simp
    have r1 : rd_T49 xs ((p.length : Int) + 1) = x := by rw [e0]; exact rd49s hx2
    have hlt := len_at hx2
    have e1 : wrap64 ((p.length : Int) + 1 - 1) = (p.length : Int) := by rw [w64 (by omega) (by omega)]; omega
    have r2 : rd_T49 xs (p.length : Int) = y := rd49s hx
    have e2 : wrap64 ((p.length : Int) + 1 + 1) = ((p ++ [y]).length : Int) + 1 := by rw [w64 (by omega) (by omega)]; omega
    refine ev_succ ?_
    simp only [spec_StoreValid.l0, r1, lotS, Option.bind_some, e1, r2, e2, befS]
    refine ev_pos (by omega) (ev_pos (by omega) ?_)
    cases h1 : lotB x with
    | false => exact ev_neg (by simp [h1]) (ev_const (by simp [chainB, h1]))
    | true =>
      refine ev_pos (by simp [h1]) (ev_pos (by omega) (ev_pos (by omega) (ev_pos (by omega) ?_)))
      cases h2 : befB y x with
      | true =>
        refine ev_pos rfl ?_
        have := ih (p ++ [y]) x hx2
        simp only [chainB, h1, h2, Bool.true_and]
        exact this
      | false => exact ev_neg (by simp) (ev_const (by simp [chainB, h2]))
theorem validS (xs : List S49) (hb : xs.length ≤ 1099511627776) : Ev (fun k => spec_StoreValid.f k xs) (okB xs) := by
  unfold spec_StoreValid.f
  cases xs with
  | nil =>
    refine ev_succ ?_
    simp only [spec_StoreValid.l0]
    exact ev_neg (by simp) (ev_const (by simp [okB, chainB]))
  | cons x s =>
    have e1 : wrap64 (0 + 1) = (([] : List S49).length : Int) + 1 := by rw [w64 (by omega) (by omega)]; rfl
    have r1 : rd_T49 (x :: s) 0 = x := rfl
    refine ev_succ ?_
    simp only [spec_StoreValid.l0, r1, lotS, Option.bind_some, e1]
    refine ev_pos (by simp only [List.length_cons]; omega) (ev_pos (by omega) ?_)
    cases h1 : lotB x with
    | false => exact ev_neg (by simp [h1]) (ev_const (by simp [okB, chainB, h1]))
    | true =>
      refine ev_pos (by simp [h1]) (ev_neg (by omega) ?_)
      have := validS_loop (x :: s) hb s [] x rfl
      simp only [okB, chainB, h1, Bool.true_and]
      exact this
def Good (l : List S49) : Prop := (∀ x ∈ l, lotB x = true) ∧ l.Pairwise (fun a b => befB a b = true) ∧ l.length ≤ 12
theorem bef_trans {a b c : S49} (h1 : befB a b = true) (h2 : befB b c = true) : befB a c = true := by
  rw [befB_iff] at *; omega
theorem chain_iff : ∀ (l : List S49), (chainB none l = true ↔ (∀ x ∈ l, lotB x = true) ∧ l.Pairwise (fun a b => befB a b = true)) ∧
    ∀ p, (chainB (some p) l = true ↔ (∀ x ∈ l, lotB x = true) ∧ (∀ x ∈ l, befB p x = true) ∧ l.Pairwise (fun a b => befB a b = true))
  | [] => by simp [chainB]
  | x :: r => by
    have ih := (chain_iff r).2
    refine ⟨?_, fun p => ?_⟩
    · simp only [chainB, Bool.and_eq_true, ih x, List.mem_cons, forall_eq_or_imp, List.pairwise_cons]
      constructor
      · rintro ⟨h1, h2, h3, h4⟩; exact ⟨⟨h1, h2⟩, h3, h4⟩
      · rintro ⟨⟨h1, h2⟩, h3, h4⟩; exact ⟨h1, h2, h3, h4⟩
    · simp only [chainB, Bool.and_eq_true, ih x, List.mem_cons, forall_eq_or_imp, List.pairwise_cons]
      constructor
      · rintro ⟨h1, h0, h2, h3, h4⟩; exact ⟨⟨h1, h2⟩, ⟨h0, fun y hy => bef_trans h0 (h3 y hy)⟩, h3, h4⟩
      · rintro ⟨⟨h1, h2⟩, ⟨h0, _⟩, h3, h4⟩; exact ⟨h1, h0, h2, h3, h4⟩
theorem ok_iff (l : List S49) : okB l = true ↔ Good l := by
  unfold okB Good
  rw [Bool.and_eq_true, (chain_iff l).1, decide_eq_true_iff]
  constructor
  · rintro ⟨⟨a, b⟩, c⟩; exact ⟨a, b, c⟩
  · rintro ⟨a, b, c⟩; exact ⟨⟨a, b⟩, c⟩
theorem good_lot {l : List S49} (h : Good l) {x : S49} (hx : x ∈ l) : (1 ≤ x.f0 ∧ x.f0 ≤ 20) ∧ (0 ≤ x.f1 ∧ x.f1 ≤ 99) ∧ 1 ≤ x.f2 ∧ x.f2 ≤ 9999 := (lotB_iff x).1 (h.1 x hx)
def hasL (food day : Int) : List S49 → Int
  | [] => 0
  | x :: r => if x.f0 = food ∧ x.f1 ≥ day then x.f2 + hasL food day r else hasL food day r
theorem hasL_bd (food day : Int) : ∀ (l : List S49), (∀ x ∈ l, lotB x = true) → 0 ≤ hasL food day l ∧ hasL food day l ≤ 9999 * l.length
  | [], _ => by simp [hasL]
  | x :: r, h => by
    have h1 := hasL_bd food day r (fun y hy => h y (List.mem_cons_of_mem _ hy))
    have h2 := (lotB_iff x).1 (h x List.mem_cons_self)
    simp only [hasL, List.length_cons]
    split <;> omega
theorem hasI_loop (food day : Int) (xs : List S49) (hb : xs.length ≤ 1000) : ∀ (s p : List S49) (a : Int), xs = p ++ s → (∀ x ∈ s, lotB x = true) → 0 ≤ a → a + 9999 * s.length ≤ 1099511627776 →
    Ev (fun k => impl_StoreHas.l0 k food day a xs (xs.length : Int) (p.length : Int)) (a + hasL food day s) := by
  intro s
  induction s with
  | nil => intro p a hx _ _ _; refine ev_succ ?_; simp only [impl_StoreHas.l0]; exact ev_neg (by subst hx; simp) (ev_const (by simp [hasL]))
  | cons x s ih =>
    intro p a hx hl h0 h1
    have h2 := (lotB_iff x).1 (hl x List.mem_cons_self)
    simp only [List.length_cons] at h1
    have e1 : wrap64 (a + x.f2) = a + x.f2 := w64 (by omega) (by omega)
    refine ev_succ ?_
    simp only [impl_StoreHas.l0, rd49s hx, wlen hx (by omega), e1]
    have hs := snoc_at hx
    refine ev_pos (len_at hx) (ev_pos (by omega) (ev_pos (len_at hx) ?_))
    have i1 := ih (p ++ [x]) (a + x.f2) hs (fun y hy => hl y (List.mem_cons_of_mem _ hy)) (by omega) (by omega)
    have i2 := ih (p ++ [x]) a hs (fun y hy => hl y (List.mem_cons_of_mem _ hy)) (by omega) (by omega)
    by_cases hf : x.f0 = food
    · by_cases hd : x.f1 ≥ day
      · exact ev_pos hf (ev_pos hd (ev_eq i1 (by rw [hasL, if_pos ⟨hf, hd⟩]; omega)))
      · exact ev_pos hf (ev_neg hd (ev_eq i2 (by rw [hasL, if_neg (fun h => hd h.2)])))
    · exact ev_neg hf (ev_eq i2 (by rw [hasL, if_neg (fun h => hf h.1)]))
theorem hasS_loop (food day : Int) (xs : List S49) (hb : xs.length ≤ 1000) : ∀ (s p : List S49) (a : Int), xs = p ++ s → (∀ x ∈ s, lotB x = true) → 0 ≤ a → a + 9999 * s.length ≤ 1099511627776 →
    Ev (fun k => spec_StoreHas.l0 k xs food day a (p.length : Int)) (a + hasL food day s) := by
  intro s
  induction s with
  | nil => intro p a hx _ _ _; refine ev_succ ?_; simp only [spec_StoreHas.l0]; exact ev_neg (by subst hx; simp) (ev_const (by simp [hasL]))
  | cons x s ih =>
    intro p a hx hl h0 h1
    have h2 := (lotB_iff x).1 (hl x List.mem_cons_self)
    simp only [List.length_cons] at h1
    have e1 : wrap64 (a + x.f2) = a + x.f2 := w64 (by omega) (by omega)
    refine ev_succ ?_
    simp only [spec_StoreHas.l0, rd49s hx, wlen hx (by omega), e1]
    have hs := snoc_at hx
    refine ev_pos (len_at hx) (ev_pos (by omega) ?_)
    have i1 := ih (p ++ [x]) (a + x.f2) hs (fun y hy => hl y (List.mem_cons_of_mem _ hy)) (by omega) (by omega)
    have i2 := ih (p ++ [x]) a hs (fun y hy => hl y (List.mem_cons_of_mem _ hy)) (by omega) (by omega)
    by_cases hf : x.f0 = food
    · by_cases hd : x.f1 ≥ day
      · exact ev_pos hf (ev_pos hd (ev_eq i1 (by rw [hasL, if_pos ⟨hf, hd⟩]; omega)))
      · exact ev_pos hf (ev_neg hd (ev_eq i2 (by rw [hasL, if_neg (fun h => hd h.2)])))
    · exact ev_neg hf (ev_eq i2 (by rw [hasL, if_neg (fun h => hf h.1)]))
theorem hasI (l : List S49) (h : Good l) (food day : Int) : Ev (fun k => impl_StoreHas.f k l food day) (hasL food day l) := by
  have hl := h.2.2
  unfold impl_StoreHas.f
  refine Ev.bind (ev_eq (validI l (by omega)) ((ok_iff l).2 h)) (ev_pos rfl ?_)
  exact ev_eq (hasI_loop food day l (by omega) l [] 0 rfl h.1 (by omega) (by omega)) (by omega)
theorem hasS (l : List S49) (h : Good l) (food day : Int) : Ev (fun k => spec_StoreHas.f k l food day) (hasL food day l) := by
  have hl := h.2.2
  unfold spec_StoreHas.f
  refine Ev.bind (ev_eq (validS l (by omega)) ((ok_iff l).2 h)) (ev_pos rfl ?_)
  exact ev_eq (hasS_loop food day l (by omega) l [] 0 rfl h.1 (by omega) (by omega)) (by omega)
end Go.Proofs.YtbclhpibilbdbaaDoor.BSc
namespace Go.Proofs.YtbclhpibilbdbaaDoor.BSc
open Go.RowKit Go.Proofs.YtbclhpibilbdbaaDoor.PSc Go.Proofs.YtbclhpibilbdbaaDoorW.PrintWords Go.Proofs.YtbclhpibilbdbaaDoorW.PrintLast Go.Proofs.YtbclhpibilbdbaaDoorW.PrintMore
open Go.Lib (decDigits itoa atoiAll)
set_option linter.unusedVariables false
set_option linter.unusedSimpArgs false
def mk (l : List UInt8) : ByteArray := ⟨l.toArray⟩
theorem mk_data (s : ByteArray) : mk s.data.toList = s := rfl
theorem mk_list (l : List UInt8) : (mk l).data.toList = l := by simp [mk]
theorem mk_toList (l : List UInt8) : (mk l).toList = l := by rw [Lib.toList_data, mk_list]
theorem mk_size (l : List UInt8) : (mk l).size = l.length := by simp [mk, ByteArray.size]
theorem mk_app (a b : List UInt8) : mk a ++ mk b = mk (a ++ b) := by
  refine bytes_of _ _ ?_
  rw [ByteArray.data_append]; simp [mk]
theorem bt_at (p : List UInt8) (c : UInt8) (q : List UInt8) : bt (mk (p ++ c :: q)) (p.length : Int) = (c.toNat : Int) := by
  unfold bt
  have h : ((p.length : Int)).toNat < (mk (p ++ c :: q)).size := by rw [mk_size]; simp
  rw [dif_pos h]
  congr 1
  show ((mk (p ++ c :: q)).data[((p.length : Int)).toNat]).toNat = c.toNat
  simp [mk]
theorem mk_extract (l : List UInt8) (a b : Nat) : (mk l).extract a b = mk ((l.take b).drop a) := by
  refine bytes_of _ _ ?_
  rw [ByteArray.data_extract]
  simp only [mk, Array.toList_extract]
  show (List.drop a l).take (b - a) = (l.take b).drop a
  rw [List.drop_take]
theorem dec_len (n : Nat) : (decDigits n).length ≤ n + 1 := by
  induction n using Nat.strongRecOn with
  | _ n ih =>
    by_cases h : n < 10
    · rw [dec1 n h]; simp
    · rw [decS n h]
      have := ih (n / 10) (by omega)
      simp only [List.length_append, List.length_singleton]; omega
theorem one_digit (d : Nat) (h : d < 10) : strOfNums [wrap64 (48 + (d : Int)) % 256] = mk [UInt8.ofNat (48 + d)] := by
  have e : wrap64 (48 + (d : Int)) % 256 = ((48 + d : Nat) : Int) := by rw [w64 (by omega) (by omega)]; omega
  rw [e]
  unfold strOfNums
  simp only [List.map_cons, List.map_nil, Int.toNat_natCast]
  rfl
theorem dec_ev (n : Nat) (hn : n ≤ 1000000000) : Ev (fun k => spec_l6Dec.f k (n : Int)) (mk (decDigits n)) := by
  induction n using Nat.strongRecOn with
  | _ n ih =>
    refine ev_succ ?_
    simp only [spec_l6Dec.f]
    refine ev_neg (by omega) (ev_neg (by omega) ?_)
    by_cases h : n < 10
    · exact ev_pos (by omega) (ev_const (by rw [one_digit n h, dec1 n h]))
    · refine ev_neg (by omega) ?_
      have e1 : wrap64 (Int.tdiv (n : Int) 10) = ((n / 10 : Nat) : Int) := by
        rw [Int.tdiv_eq_ediv_of_nonneg (by omega), w64 (by omega) (by omega)]; omega
      have e2 : Int.tmod (n : Int) 10 = ((n % 10 : Nat) : Int) := by rw [Int.tmod_eq_emod_of_nonneg (by omega)]; omega
      have hl := dec_len (n / 10)
      rw [e1, e2]
      refine Ev.bind (ih (n / 10) (by omega) (by omega)) ?_
      simp only [Option.bind_some, one_digit (n % 10) (by omega), mk_size, mk_app]
      exact ev_pos (by simp; omega) (ev_const (by rw [decS n h]))
theorem itoa_f (n : Int) (h0 : 0 ≤ n) (h1 : n ≤ 9223372036854775807) : strconv_Itoa_33.f n = some (mk (decDigits n.toNat)) := by
  unfold strconv_Itoa_33.f
  rw [if_pos (by omega)]
  unfold itoa
  rw [if_neg (by omega)]; rfl
def lotT (x : S49) : List UInt8 := 32 :: (decDigits x.f0.toNat ++ 58 :: (decDigits x.f1.toNat ++ 58 :: decDigits x.f2.toNat))
def lotsT (l : List S49) : List UInt8 := l.flatMap lotT
theorem lotT_len (x : S49) (h : lotB x = true) : (lotT x).length ≤ 10200 := by
  have hL := (lotB_iff x).1 h
  have h1 := dec_len x.f0.toNat
  have h2 := dec_len x.f1.toNat
  have h3 := dec_len x.f2.toNat
  simp only [lotT, List.length_cons, List.length_append]; omega
theorem lits : (⟨#[32]⟩ : ByteArray) = mk [32] ∧ (⟨#[58]⟩ : ByteArray) = mk [58] ∧ (⟨#[10]⟩ : ByteArray) = mk [10] := ⟨rfl, rfl, rfl⟩
theorem lotsI_loop (xs : List S49) (hb : xs.length ≤ 1000) : ∀ (s p : List S49) (w : List UInt8), xs = p ++ s → (∀ x ∈ s, lotB x = true) → w.length + 10200 * s.length ≤ 1000000000 →
    Ev (fun k => impl_lotsText.l0 k (mk w) xs (xs.length : Int) (p.length : Int)) (mk (w ++ lotsT s)) := by
  intro s
  induction s with
  | nil => intro p w hx _ _; refine ev_succ ?_; simp only [impl_lotsText.l0]; exact ev_neg (by subst hx; simp) (ev_const (by simp [lotsT]))
  | cons x s ih =>
    intro p w hx hl hw
    have hL := (lotB_iff x).1 (hl x List.mem_cons_self)
    have hlt := len_at hx
    have h0 := lotT_len x (hl x List.mem_cons_self)
    simp only [List.length_cons] at hw
    refine ev_succ ?_
    simp only [impl_lotsText.l0, rd49s hx, wlen hx (by omega), itoa_f x.f0 (by omega) (by omega), itoa_f x.f1 (by omega) (by omega), itoa_f x.f2 (by omega) (by omega), Option.bind_some, lits.1, lits.2.1, mk_app, mk_size]
    have h1 := dec_len x.f0.toNat
    have h2 := dec_len x.f1.toNat
    have h3 := dec_len x.f2.toNat
    refine ev_pos hlt (ev_pos (by omega) (ev_pos hlt (ev_pos (by omega) (ev_pos (by simp; omega) (ev_pos (by simp; omega) (ev_pos (by simp; omega) (ev_pos (by simp; omega) (ev_pos (by simp; omega) ?_))))))))
    have e : w ++ ([32] ++ decDigits x.f0.toNat ++ [58] ++ decDigits x.f1.toNat ++ [58] ++ decDigits x.f2.toNat) = w ++ lotT x := by simp [lotT]
    rw [e]
    exact ev_eq (ih (p ++ [x]) (w ++ lotT x) (snoc_at hx) (fun y hy => hl y (List.mem_cons_of_mem _ hy)) (by rw [List.length_append]; omega)) (by simp [lotsT])
theorem lotsI (w : List UInt8) (l : List S49) (hl : ∀ x ∈ l, lotB x = true) (hb : l.length ≤ 100) (hw : w.length ≤ 100) : Ev (fun k => impl_lotsText.f k (mk w) l) (mk (w ++ lotsT l)) :=
  lotsI_loop l (by omega) l [] w rfl hl (by omega)
theorem lotsS_loop (xs : List S49) (hb : xs.length ≤ 1000) : ∀ (s p : List S49) (w : List UInt8), xs = p ++ s → (∀ x ∈ s, lotB x = true) → w.length + 10200 * s.length ≤ 1000000000 →
    Ev (fun k => spec_l51Lots.l0 k xs (mk w) (p.length : Int)) (mk (w ++ lotsT s ++ [10])) := by
  intro s
  induction s with
  | nil =>
    intro p w hx _ hw; refine ev_succ ?_; simp only [spec_l51Lots.l0, lits.2.2, mk_app, mk_size]
    exact ev_neg (by subst hx; simp) (ev_pos (by simp at hw; omega) (ev_const (by simp [lotsT])))
  | cons x s ih =>
    intro p w hx hl hw
    have hL := (lotB_iff x).1 (hl x List.mem_cons_self)
    have hlt := len_at hx
    have h0 := lotT_len x (hl x List.mem_cons_self)
    simp only [List.length_cons] at hw
    have h1 := dec_len x.f0.toNat
    have h2 := dec_len x.f1.toNat
    have h3 := dec_len x.f2.toNat
    have d0 : Ev (fun k => spec_l6Dec.f k x.f0) (mk (decDigits x.f0.toNat)) := by
      have := dec_ev x.f0.toNat (by omega)
      rwa [Int.toNat_of_nonneg (by omega)] at this
    have d1 : Ev (fun k => spec_l6Dec.f k x.f1) (mk (decDigits x.f1.toNat)) := by
      have := dec_ev x.f1.toNat (by omega)
      rwa [Int.toNat_of_nonneg (by omega)] at this
    have d2 : Ev (fun k => spec_l6Dec.f k x.f2) (mk (decDigits x.f2.toNat)) := by
      have := dec_ev x.f2.toNat (by omega)
      rwa [Int.toNat_of_nonneg (by omega)] at this
    refine ev_succ ?_
    simp only [spec_l51Lots.l0, rd49s hx, wlen hx (by omega), lits.1, lits.2.1, mk_app, mk_size]
    refine ev_pos hlt (ev_pos (by omega) (ev_pos (by omega) (Ev.bind d0 ?_)))
    simp only [mk_app, mk_size]
    refine ev_pos (by simp; omega) (ev_pos (by simp; omega) (Ev.bind d1 ?_))
    simp only [mk_app, mk_size]
    refine ev_pos (by simp; omega) (ev_pos (by simp; omega) (Ev.bind d2 ?_))
    simp only [mk_app, mk_size]
    refine ev_pos (by simp; omega) ?_
    have e : w ++ [32] ++ decDigits x.f0.toNat ++ [58] ++ decDigits x.f1.toNat ++ [58] ++ decDigits x.f2.toNat = w ++ lotT x := by simp [lotT]
    rw [e]
    exact ev_eq (ih (p ++ [x]) (w ++ lotT x) (snoc_at hx) (fun y hy => hl y (List.mem_cons_of_mem _ hy)) (by rw [List.length_append]; omega)) (by simp [lotsT])
theorem lotsS (w : List UInt8) (l : List S49) (hl : ∀ x ∈ l, lotB x = true) (hb : l.length ≤ 100) (hw : w.length ≤ 100) : Ev (fun k => spec_l51Lots.f k (mk w) l) (mk (w ++ lotsT l ++ [10])) :=
  lotsS_loop l (by omega) l [] w rfl hl (by omega)
theorem num_loop (l : List UInt8) : ∀ (r p : List UInt8) (n : Int), l = p ++ r → l.length ≤ 1000 → 0 ≤ n → (n + 1) * 10 ^ r.length ≤ 1000000 → Ev (fun k => spec_l1Number.l0 k (mk l) n (p.length : Int)) (numF r n) := by
  intro r
  induction r with
  | nil => intro p n hx _ _ _; refine ev_succ ?_; simp only [spec_l1Number.l0, mk_size]; exact ev_neg (by subst hx; simp) (ev_const rfl)
  | cons c r ih =>
    intro p n hx hb h0 h1
    have hlt := len_at hx
    have hbt : bt (mk l) (p.length : Int) = (c.toNat : Int) := by rw [hx]; exact bt_at p c r
    have hpow : (1 : Int) ≤ 10 ^ r.length := by
      have : (1 : Int) = ((1 : Nat) : Int) := rfl
      rw [this, show (10 : Int) ^ r.length = ((10 ^ r.length : Nat) : Int) by simp]
      have := Nat.one_le_pow r.length 10 (by omega)
      omega
    have e10 : (n + 1) * 10 ^ (c :: r).length = (10 * (n + 1)) * 10 ^ r.length := by
      rw [List.length_cons, Int.pow_succ, Int.mul_comm (10 ^ r.length) 10, ← Int.mul_assoc, Int.mul_comm (n + 1) 10]
    rw [e10] at h1
    have hn : 10 * (n + 1) ≤ 1000000 := by
      have : (10 * (n + 1)) * 1 ≤ (10 * (n + 1)) * 10 ^ r.length := Int.mul_le_mul_of_nonneg_left hpow (by omega)
      omega
    refine ev_succ ?_
    simp only [spec_l1Number.l0, hbt, wlen hx (by omega), mk_size]
    refine ev_pos hlt (ev_pos (by omega) ?_)
    by_cases hc : 48 ≤ c.toNat ∧ c.toNat ≤ 57
    · refine ev_neg (by omega) (ev_neg (by omega) ?_)
      have ed : ((c.toNat : Int) - 48) % 256 = ((c.toNat - 48 : Nat) : Int) := by omega
      have ew : wrap64 (wrap64 (10 * n) + ((c.toNat - 48 : Nat) : Int)) = 10 * n + ((c.toNat - 48 : Nat) : Int) := by
        rw [w64 (x := 10 * n) (by omega) (by omega), w64 (by omega) (by omega)]
      rw [ed, ew, numF_dig c r n hc]
      refine ih (p ++ [c]) _ (snoc_at hx) hb (by omega) ?_
      have : (10 * n + ((c.toNat - 48 : Nat) : Int) + 1) * 10 ^ r.length ≤ (10 * (n + 1)) * 10 ^ r.length := Int.mul_le_mul_of_nonneg_right (by omega) (by omega)
      omega
    · rw [numF_bad c r n hc]
      by_cases h48 : (c.toNat : Int) < 48
      · exact ev_pos h48 (Ev.now _)
      · exact ev_neg h48 (ev_pos (by omega) (Ev.now _))
theorem num_ev (l : List UInt8) : Ev (fun k => spec_l1Number.f k (mk l)) (num1 l) := by
  unfold spec_l1Number.f num1
  simp only [in_f, Option.bind_some, mk_size]
  by_cases h1 : 1 ≤ l.length ∧ l.length ≤ 4
  · refine ev_pos (by simp; omega) ?_
    have go : Ev (fun k => spec_l1Number.l0 k (mk l) 0 0) (numF l 0) := num_loop l l [] 0 rfl (by omega) (by omega) (by
      have : (10 : Int) ^ l.length ≤ 10 ^ 4 := by
        rw [show (10 : Int) ^ l.length = ((10 ^ l.length : Nat) : Int) by simp]
        have := Nat.pow_le_pow_right (n := 10) (by omega) h1.2
        omega
      omega)
    by_cases h2 : 1 < l.length
    · refine ev_pos (by omega) (ev_pos (by omega) (ev_succ ?_))
      simp only [spec_l1Number.j0]
      cases l with
      | nil => simp at h2
      | cons c r =>
        have hbt : bt (mk (c :: r)) 0 = (c.toNat : Int) := bt_at [] c r
        rw [hbt]
        by_cases hz : c = 48
        · subst hz
          refine ev_pos (by decide) (ev_const ?_)
          rw [if_neg (fun h => h.2 ⟨h2, rfl⟩)]
        · refine ev_neg ?_ ?_
          · intro e
            have : (c.toNat : Int) = 48 := by simpa using e
            exact hz (UInt8.toNat_inj.1 (by show c.toNat = 48; omega))
          · rw [if_pos ⟨h1, fun h => hz (Option.some.inj (show some c = some 48 from h.2))⟩]
            exact go
    · refine ev_neg (by omega) (ev_succ ?_)
      simp only [spec_l1Number.j0]
      refine ev_neg (by simp) ?_
      rw [if_pos ⟨h1, fun h => h2 h.1⟩]
      exact go
  · refine ev_neg (by simp; omega) (ev_succ ?_)
    simp only [spec_l1Number.j0]
    refine ev_pos (by first | rfl | trivial) (ev_const ?_)
    rw [if_neg (fun h => h1 h.1)]
theorem cn_f (l : List UInt8) (hl : l.length ≤ 1000000) : ∃ v : Int, impl_commandNumber.f (mk l) = some (v, decide (0 ≤ num1 l)) ∧ (0 ≤ num1 l → v = num1 l) := by
  unfold impl_commandNumber.f
  rw [mk_size, if_pos (by omega), mk_list]
  by_cases h : 0 ≤ num1 l
  · obtain ⟨v, h1, h2, h3, h4, h5⟩ := num1_pos l h
    refine ⟨v, ?_, fun _ => h1.symm⟩
    rw [h4]
    simp only [impl_commandNumber.b, mk_size, mk_toList]
    have e : itoa (v : Int) = l := by unfold itoa; rw [if_neg (by omega)]; simpa using h3
    rw [e, decide_eq_true h, decide_eq_true h5]
    have : decide (0 ≤ (v : Int)) = true := decide_eq_true (by omega)
    rw [this]
    simp
  · rw [decide_eq_false h]
    cases hc : atoiAll l with
    | ok v =>
      refine ⟨v, ?_, fun h' => absurd h' h⟩
      simp only [impl_commandNumber.b, mk_size, mk_toList]
      congr 2
      by_cases h0 : 0 ≤ v
      · by_cases h4 : l.length ≤ 4
        · rw [decide_eq_true h0, decide_eq_true h4]
          simp only [Bool.true_and, beq_eq_false_iff_ne]
          intro e
          refine h ?_
          have e2 : decDigits v.toNat = l := by unfold itoa at e; rw [if_neg (by omega)] at e; exact e
          have := num1_dec v.toNat (by rw [e2]; exact h4)
          rw [e2] at this
          omega
        · rw [decide_eq_false h4]; simp
      · rw [decide_eq_false h0]; simp
    | range => exact ⟨_, rfl, fun h' => absurd h' h⟩
    | _ => exact ⟨_, rfl, fun h' => absurd h' h⟩
theorem cut_loop (l : List UInt8) (hb : l.length ≤ 1000000) : ∀ (s p : List UInt8) (out : List ByteArray) (fr : Nat), l = p ++ s → fr ≤ p.length → out.length ≤ p.length →
    Ev (fun k => spec_l51Cut.l0 k (mk l) out (fr : Int) (p.length : Int)) (out ++ (cutL 32 (p.drop fr) s).map mk) := by
  intro s
  induction s with
  | nil =>
    intro p out fr hx h1 h2
    have hl : l = p := by rw [hx]; simp
    subst hl
    refine ev_succ ?_
    simp only [spec_l51Cut.l0, mk_size, mk_extract, Int.toNat_natCast]
    exact ev_neg (by omega) (ev_pos (by omega) (ev_pos (by omega) (ev_pos (by omega) (ev_const (by simp [cutL])))))
  | cons c s ih =>
    intro p out fr hx h1 h2
    have hlt := len_at hx
    have hbt : bt (mk l) (p.length : Int) = (c.toNat : Int) := by rw [hx]; exact bt_at p c s
    have ht : l.take p.length = p := by rw [hx]; simp
    refine ev_succ ?_
    simp only [spec_l51Cut.l0, mk_size, hbt, wlen hx (by omega), mk_extract, Int.toNat_natCast, ht]
    refine ev_pos hlt (ev_pos (by omega) ?_)
    by_cases hc : c = 32
    · subst hc
      refine ev_pos (by decide) (ev_pos (by omega) (ev_pos (by omega) (ev_pos (by omega) (ev_pos (by omega) ?_))))
      refine ev_eq (ih (p ++ [32]) (out ++ [mk (p.drop fr)]) (p ++ [32]).length (snoc_at hx) (Nat.le_refl _) (by simp; omega)) ?_
      rw [cutL, if_pos rfl, List.drop_eq_nil_of_le (Nat.le_refl _)]; simp
    · refine ev_neg (fun e => hc (UInt8.toNat_inj.1 (by show c.toNat = 32; omega))) ?_
      refine ev_eq (ih (p ++ [c]) out fr (snoc_at hx) (by simp; omega) (by simp; omega)) ?_
      rw [cutL, if_neg hc, List.drop_append_of_le_length h1]
theorem cut_ev (l : List UInt8) (hb : l.length ≤ 1000000) : Ev (fun k => spec_l51Cut.f k (mk l)) ((cutL 32 [] l).map mk) := by
  unfold spec_l51Cut.f
  exact ev_eq (cut_loop l hb l [] [] 0 rfl (by simp) (by simp)) (by simp)
theorem split_f (l : List UInt8) (hb : l.length ≤ 1000000) (c : UInt8) : strings_Split.f (mk l) ⟨#[c]⟩ = some ((cutL c [] l).map mk) := by
  unfold strings_Split.f
  rw [if_pos ⟨Nat.le_refl 1, by rw [mk_size]; omega⟩, split_cutB, cutB, mk_list]; rfl
def cutL1 (x : S49) (k : Int) (r : List S49) : List S49 := if x.f2 > k then ⟨x.f0, x.f1, x.f2 - k⟩ :: r else r
def takeL (food day : Int) : List S49 → Int → List S49 × List S49
  | [], _ => ([], [])
  | x :: r, n => if x.f0 = food ∧ x.f1 ≥ day ∧ n > 0 then
      (cutL1 x (min n x.f2) (takeL food day r (n - min n x.f2)).1, ⟨x.f0, x.f1, min n x.f2⟩ :: (takeL food day r (n - min n x.f2)).2)
    else (x :: (takeL food day r n).1, (takeL food day r n).2)
theorem takeL_yes (food day : Int) (x : S49) (r : List S49) (n : Int) (h : x.f0 = food ∧ x.f1 ≥ day ∧ n > 0) : takeL food day (x :: r) n = (cutL1 x (min n x.f2) (takeL food day r (n - min n x.f2)).1, ⟨x.f0, x.f1, min n x.f2⟩ :: (takeL food day r (n - min n x.f2)).2) := by
  rw [takeL]; exact if_pos h
theorem takeL_no (food day : Int) (x : S49) (r : List S49) (n : Int) (h : ¬ (x.f0 = food ∧ x.f1 ≥ day ∧ n > 0)) : takeL food day (x :: r) n = (x :: (takeL food day r n).1, (takeL food day r n).2) := by
  rw [takeL]; exact if_neg h
theorem takeI_j3 (food n day : Int) (out taken xs : List S49) (len i : Int) (own a b c : Int) (R : List S49 × List S49 × Bool) (h0 : 0 ≤ own ∧ own ≤ n ∧ n ≤ 999999) (hc : 0 ≤ c ∧ c ≤ 9999) (ho : out.length ≤ 1000) (ht : taken.length ≤ 1000) (hi : 0 ≤ i ∧ i ≤ 1000)
    (h : Ev (fun k => impl_StoreTake.l0 k food (n - own) day (if c > own then out ++ [⟨a, b, c - own⟩] else out) (if own > 0 then taken ++ [⟨a, b, own⟩] else taken) xs len (i + 1)) R) :
    Ev (fun k => impl_StoreTake.j3 k food n day out taken own xs len i a b c) R := by
  have e1 : wrap64 (n - own) = n - own := w64 (by omega) (by omega)
  have e2 : wrap64 (c - own) = c - own := w64 (by omega) (by omega)
  have e3 : wrap64 (i + 1) = i + 1 := w64 (by omega) (by omega)
  refine ev_succ ?_
  simp only [impl_StoreTake.j3, e1, e2, e3, Option.bind_some]
  by_cases h1 : own > 0
  · refine ev_pos h1 (ev_pos (by omega) ?_)
    by_cases h2 : c > own
    · refine ev_pos h2 (ev_pos (by omega) ?_)
      rw [if_pos h2, if_pos h1] at h; exact h
    · refine ev_neg h2 ?_
      rw [if_neg h2, if_pos h1] at h; exact h
  · refine ev_neg h1 ?_
    by_cases h2 : c > own
    · refine ev_pos h2 (ev_pos (by omega) ?_)
      rw [if_pos h2, if_neg h1] at h; exact h
    · refine ev_neg h2 ?_
      rw [if_neg h2, if_neg h1] at h; exact h
theorem takeI_loop (food day : Int) (xs : List S49) (hb : xs.length ≤ 1000) : ∀ (s p out taken : List S49) (n : Int), xs = p ++ s → (∀ x ∈ s, lotB x = true) → 0 ≤ n → n ≤ 999999 → out.length ≤ p.length → taken.length ≤ p.length →
    Ev (fun k => impl_StoreTake.l0 k food n day out taken xs (xs.length : Int) (p.length : Int)) (out ++ (takeL food day s n).1, taken ++ (takeL food day s n).2, true) := by
  intro s
  induction s with
  | nil => intro p out taken n hx _ _ _ _ _; refine ev_succ ?_; simp only [impl_StoreTake.l0]; exact ev_neg (by subst hx; simp) (ev_const (by simp [takeL]))
  | cons x s ih =>
    intro p out taken n hx hl h0 h1 h2 h3
    have hL := (lotB_iff x).1 (hl x List.mem_cons_self)
    have hlt := len_at hx
    have hs := snoc_at hx
    have ei : ((p.length : Int) + 1) = ((p ++ [x]).length : Int) := by simp
    have ih' := fun out taken n a b c d => ih (p ++ [x]) out taken n hs (fun y hy => hl y (List.mem_cons_of_mem _ hy)) a b c d
    have hpl : (p ++ [x]).length = p.length + 1 := by simp
    have hmn : mn x.f2 n = min n x.f2 := by rw [mn_min, Int.min_comm]
    refine ev_succ ?_
    simp only [impl_StoreTake.l0, rd49s hx]
    refine ev_pos hlt (ev_pos (by omega) (ev_pos hlt ?_))
    have key : ∀ own, 0 ≤ own → own ≤ n → (own = 0 ∨ own ≤ x.f2) → Ev (fun k => impl_StoreTake.j3 k food n day out taken own xs (xs.length : Int) (p.length : Int) x.f0 x.f1 x.f2)
        (out ++ cutL1 x own (takeL food day s (n - own)).1, taken ++ (if own > 0 then ⟨x.f0, x.f1, own⟩ :: (takeL food day s (n - own)).2 else (takeL food day s (n - own)).2), true) := by
      intro own g0 g1 g2
      refine takeI_j3 food n day out taken xs _ _ own x.f0 x.f1 x.f2 _ ⟨g0, g1, h1⟩ (by omega) (by omega) (by omega) (by omega) ?_
      rw [ei]
      refine ev_eq (ih' _ _ (n - own) (by omega) (by omega) (by split <;> simp <;> omega) (by split <;> simp <;> omega)) ?_
      unfold cutL1
      by_cases q1 : x.f2 > own <;> by_cases q2 : own > 0 <;> simp [q1, q2]
    have key0 : Ev (fun k => impl_StoreTake.j3 k food n day out taken 0 xs (xs.length : Int) (p.length : Int) x.f0 x.f1 x.f2) (out ++ (x :: (takeL food day s n).1), taken ++ (takeL food day s n).2, true) := by
      refine ev_eq (key 0 (by omega) h0 (.inl rfl)) ?_
      have : x.f2 > 0 := by omega
      simp [cutL1, this]
    by_cases hf : x.f0 = food
    · refine ev_pos hf (ev_succ ?_)
      simp only [impl_StoreTake.j2]
      by_cases hd : x.f1 ≥ day
      · refine ev_pos (by simp [hd]) ?_
        rw [hmn]
        by_cases hn : n > 0
        · refine ev_eq (key (min n x.f2) (by omega) (by omega) (.inr (by omega))) ?_
          have : min n x.f2 > 0 := by omega
          rw [takeL_yes _ _ _ _ _ ⟨hf, hd, hn⟩, if_pos this]
        · have e0 : min n x.f2 = 0 := by omega
          rw [e0]
          refine ev_eq key0 ?_
          rw [takeL_no _ _ _ _ _ (fun h => hn h.2.2)]
      · refine ev_neg (by simp; omega) (ev_eq key0 ?_)
        rw [takeL_no _ _ _ _ _ (fun h => hd h.2.1)]
    · refine ev_neg hf (ev_succ ?_)
      simp only [impl_StoreTake.j2]
      refine ev_neg (by simp) (ev_eq key0 ?_)
      rw [takeL_no _ _ _ _ _ (fun h => hf h.1)]
theorem takeS_loop (food day : Int) (xs : List S49) (hb : xs.length ≤ 1000) : ∀ (s p out taken : List S49) (n : Int), xs = p ++ s → (∀ x ∈ s, lotB x = true) → 0 ≤ n → n ≤ 999999 → out.length ≤ p.length → taken.length ≤ p.length →
    Ev (fun k => spec_StoreTake.l0 k xs food n day out taken (p.length : Int)) (out ++ (takeL food day s n).1, taken ++ (takeL food day s n).2, true) := by
  intro s
  induction s with
  | nil => intro p out taken n hx _ _ _ _ _; refine ev_succ ?_; simp only [spec_StoreTake.l0]; exact ev_neg (by subst hx; simp) (ev_const (by simp [takeL]))
  | cons x s ih =>
    intro p out taken n hx hl h0 h1 h2 h3
    have hL := (lotB_iff x).1 (hl x List.mem_cons_self)
    have hlt := len_at hx
    have hs := snoc_at hx
    have ei : wrap64 ((p.length : Int) + 1) = ((p ++ [x]).length : Int) := wlen hx (by omega)
    have ih' := fun out taken n a b c d => ih (p ++ [x]) out taken n hs (fun y hy => hl y (List.mem_cons_of_mem _ hy)) a b c d
    have hmn : mn n x.f2 = min n x.f2 := mn_min _ _
    refine ev_succ ?_
    simp only [spec_StoreTake.l0, rd49s hx]
    refine ev_pos hlt (ev_pos (by omega) ?_)
    have no : Ev (fun k => spec_StoreTake.j2 k xs food n day out taken (p.length : Int) false x.f0 x.f1 x.f2) (out ++ (x :: (takeL food day s n).1), taken ++ (takeL food day s n).2, true) := by
      refine ev_succ ?_
      simp only [spec_StoreTake.j2, ei]
      refine ev_neg (by simp) (ev_pos (by omega) (ev_pos (by omega) ?_))
      exact ev_eq (ih' _ _ n h0 h1 (by simp; omega) (by simp; omega)) (by simp)
    by_cases hf : x.f0 = food
    · refine ev_pos hf ?_
      by_cases hd : x.f1 ≥ day
      · refine ev_pos hd ?_
        by_cases hn : n > 0
        · have e0 : decide (n > 0) = true := decide_eq_true hn
          have e1 : wrap64 (x.f2 - min n x.f2) = x.f2 - min n x.f2 := w64 (by omega) (by omega)
          have e2 : wrap64 (n - min n x.f2) = n - min n x.f2 := w64 (by omega) (by omega)
          rw [e0]
          refine ev_succ ?_
          simp only [spec_StoreTake.j2, ei, hmn, e1, e2, Option.bind_some]
          refine ev_pos (by first | rfl | trivial) (ev_pos (by omega) ?_)
          by_cases hm : x.f2 - min n x.f2 > 0
          · refine ev_pos hm (ev_pos (by omega) ?_)
            refine ev_eq (ih' _ _ (n - min n x.f2) (by omega) (by omega) (by simp; omega) (by simp; omega)) ?_
            have hm2 : x.f2 > min n x.f2 := by omega
            rw [takeL_yes _ _ _ _ _ ⟨hf, hd, hn⟩]
            simp [cutL1, hm2]
          · refine ev_neg hm ?_
            refine ev_eq (ih' _ _ (n - min n x.f2) (by omega) (by omega) (by simp; omega) (by simp; omega)) ?_
            have hm2 : ¬ x.f2 > min n x.f2 := by omega
            rw [takeL_yes _ _ _ _ _ ⟨hf, hd, hn⟩]
            simp only [cutL1, if_neg hm2, List.append_assoc, List.singleton_append]
        · have e0 : decide (n > 0) = false := decide_eq_false hn
          rw [e0]
          refine ev_eq no ?_
          rw [takeL_no _ _ _ _ _ (fun h => hn h.2.2)]
      · refine ev_neg hd (ev_eq no ?_)
        rw [takeL_no _ _ _ _ _ (fun h => hd h.2.1)]
    · refine ev_neg hf (ev_eq no ?_)
      rw [takeL_no _ _ _ _ _ (fun h => hf h.1)]
def takeF (l : List S49) (food n day : Int) : List S49 × List S49 × Bool :=
  if (0 ≤ n ∧ n ≤ 999999) ∧ ¬ hasL food day l < n then ((takeL food day l n).1, (takeL food day l n).2, true) else ([], [], false)
theorem takeI (l : List S49) (h : Good l) (food n day : Int) : Ev (fun k => impl_StoreTake.f k l food n day) (takeF l food n day) := by
  have hl := h.2.2
  unfold impl_StoreTake.f takeF
  simp only [within_f, Option.bind_some]
  by_cases hn : 0 ≤ n ∧ n ≤ 999999
  · refine ev_pos (by simp [hn]) (Ev.bind (hasI l h food day) (ev_succ ?_))
    simp only [impl_StoreTake.j0]
    by_cases hh : hasL food day l < n
    · exact ev_pos (by simp [hh]) (ev_const (by rw [if_neg (fun q => q.2 hh)]))
    · refine ev_neg (by simp; omega) ?_
      refine ev_eq (takeI_loop food day l (by omega) l [] [] [] n rfl h.1 hn.1 hn.2 (by simp) (by simp)) ?_
      rw [if_pos ⟨hn, hh⟩]; simp
  · refine ev_neg (by simp; omega) (ev_succ ?_)
    simp only [impl_StoreTake.j0]
    exact ev_pos (by first | rfl | trivial) (ev_const (by rw [if_neg (fun q => hn q.1)]))
theorem takeS (l : List S49) (h : Good l) (food n day : Int) : Ev (fun k => spec_StoreTake.f k l food n day) (takeF l food n day) := by
  have hl := h.2.2
  unfold spec_StoreTake.f takeF
  simp only [in_f, Option.bind_some]
  refine Ev.bind (ev_eq (validS l (by omega)) ((ok_iff l).2 h)) (ev_pos (by first | rfl | trivial) ?_)
  by_cases hn : 0 ≤ n ∧ n ≤ 999999
  · refine ev_pos (by simp [hn]) (Ev.bind (hasS l h food day) (ev_succ ?_))
    simp only [spec_StoreTake.j0]
    by_cases hh : hasL food day l < n
    · exact ev_pos (by simp [hh]) (ev_const (by rw [if_neg (fun q => q.2 hh)]))
    · refine ev_neg (by simp; omega) ?_
      refine ev_eq (takeS_loop food day l (by omega) l [] [] [] n rfl h.1 hn.1 hn.2 (by simp) (by simp)) ?_
      rw [if_pos ⟨hn, hh⟩]; simp
  · refine ev_neg (by simp; omega) (ev_succ ?_)
    simp only [spec_StoreTake.j0]
    exact ev_pos (by first | rfl | trivial) (ev_const (by rw [if_neg (fun q => hn q.1)]))
theorem take_mem (food day : Int) : ∀ (l : List S49) (n : Int), (∀ x ∈ l, lotB x = true) → 0 ≤ n → ∀ y, y ∈ (takeL food day l n).1 ∨ y ∈ (takeL food day l n).2 → ∃ x ∈ l, y.f0 = x.f0 ∧ y.f1 = x.f1 ∧ 1 ≤ y.f2 ∧ y.f2 ≤ x.f2
  | [], n, _, _, y, hy => by simp [takeL] at hy
  | x :: r, n, hl, h0, y, hy => by
    have hL := (lotB_iff x).1 (hl x List.mem_cons_self)
    have ih := fun m hm z hz => take_mem food day r m (fun a ha => hl a (List.mem_cons_of_mem _ ha)) hm z hz
    rw [takeL] at hy
    split at hy
    · rename_i hc
      have hrest : (y ∈ (takeL food day r (n - min n x.f2)).1 ∨ y ∈ (takeL food day r (n - min n x.f2)).2) → ∃ z ∈ x :: r, y.f0 = z.f0 ∧ y.f1 = z.f1 ∧ 1 ≤ y.f2 ∧ y.f2 ≤ z.f2 := fun h => by
        obtain ⟨z, hz, q⟩ := ih _ (by omega) y h
        exact ⟨z, List.mem_cons_of_mem _ hz, q⟩
      rcases hy with hy | hy
      · simp only [cutL1] at hy
        split at hy
        · rename_i hm
          rcases List.mem_cons.1 hy with rfl | hy
          · exact ⟨x, List.mem_cons_self, rfl, rfl, by show 1 ≤ x.f2 - min n x.f2; omega, by show x.f2 - min n x.f2 ≤ x.f2; omega⟩
          · exact hrest (.inl hy)
        · exact hrest (.inl hy)
      · rcases List.mem_cons.1 hy with rfl | hy
        · exact ⟨x, List.mem_cons_self, rfl, rfl, by show 1 ≤ min n x.f2; omega, by show min n x.f2 ≤ x.f2; omega⟩
        · exact hrest (.inr hy)
    · rcases hy with hy | hy
      · rcases List.mem_cons.1 hy with rfl | hy
        · exact ⟨y, List.mem_cons_self, rfl, rfl, hL.2.2.1, Int.le_refl _⟩
        · obtain ⟨z, hz, q⟩ := ih n h0 y (.inl hy)
          exact ⟨z, List.mem_cons_of_mem _ hz, q⟩
      · obtain ⟨z, hz, q⟩ := ih n h0 y (.inr hy)
        exact ⟨z, List.mem_cons_of_mem _ hz, q⟩
theorem take_pair (food day : Int) : ∀ (l : List S49) (n : Int), (∀ x ∈ l, lotB x = true) → 0 ≤ n → l.Pairwise (fun a b => befB a b = true) → (takeL food day l n).1.Pairwise (fun a b => befB a b = true) ∧ (takeL food day l n).1.length ≤ l.length ∧ (takeL food day l n).2.length ≤ l.length
  | [], n, _, _, _ => by simp [takeL]
  | x :: r, n, hl, h0, hp => by
    have hL := (lotB_iff x).1 (hl x List.mem_cons_self)
    have hl' : ∀ a ∈ r, lotB a = true := fun a ha => hl a (List.mem_cons_of_mem _ ha)
    obtain ⟨hp1, hp2⟩ := List.pairwise_cons.1 hp
    have front : ∀ (m : Int) (z : S49), 0 ≤ m → z.f0 = x.f0 → z.f1 = x.f1 → ∀ y ∈ (takeL food day r m).1, befB z y = true := fun m z hm e0 e1 y hy => by
      obtain ⟨q, hq, g0, g1, _⟩ := take_mem food day r m hl' hm y (.inl hy)
      have := hp1 q hq
      rw [befB_iff] at this ⊢
      rw [e0, e1, g0, g1]; exact this
    rw [takeL]
    split
    · have ih := take_pair food day r (n - min n x.f2) hl' (by omega) hp2
      refine ⟨?_, ?_, ?_⟩
      · simp only [cutL1]
        split
        · exact List.pairwise_cons.2 ⟨front _ _ (by omega) rfl rfl, ih.1⟩
        · exact ih.1
      · simp only [cutL1]
        split <;> simp only [List.length_cons] <;> omega
      · simp only [List.length_cons]; omega
    · have ih := take_pair food day r n hl' h0 hp2
      exact ⟨List.pairwise_cons.2 ⟨front _ _ h0 rfl rfl, ih.1⟩, by simp only [List.length_cons]; omega, by simp only [List.length_cons]; omega⟩
theorem take_good (l : List S49) (h : Good l) (food n day : Int) (h0 : 0 ≤ n) : Good (takeL food day l n).1 := by
  obtain ⟨a, b, c⟩ := take_pair food day l n h.1 h0 h.2.1
  refine ⟨fun y hy => ?_, a, by have := h.2.2; omega⟩
  obtain ⟨x, hx, e0, e1, e2, e3⟩ := take_mem food day l n h.1 h0 y (.inl hy)
  have := good_lot h hx
  rw [lotB_iff]; omega
theorem dropI_loop (day : Int) (xs : List S49) (hb : xs.length ≤ 1000) : ∀ (s p a b : List S49), xs = p ++ s → a.length ≤ p.length → b.length ≤ p.length →
    Ev (fun k => impl_StoreDrop.l0 k day a b xs (xs.length : Int) (p.length : Int)) (a ++ s.filter (fun x => decide (x.f1 ≥ day)), b ++ s.filter (fun x => !decide (x.f1 ≥ day))) := by
  intro s
  induction s with
  | nil => intro p a b hx _ _; refine ev_succ ?_; simp only [impl_StoreDrop.l0]; exact ev_neg (by subst hx; simp) (ev_const (by simp))
  | cons x s ih =>
    intro p a b hx h1 h2
    have hlt := len_at hx
    refine ev_succ ?_
    simp only [impl_StoreDrop.l0, rd49s hx, wlen hx (by omega)]
    refine ev_pos hlt (ev_pos (by omega) (ev_pos hlt ?_))
    by_cases hd : x.f1 ≥ day
    · exact ev_pos hd (ev_pos (by omega) (ev_eq (ih (p ++ [x]) _ _ (snoc_at hx) (by simp; omega) (by simp; omega)) (by simp [List.filter_cons, hd])))
    · exact ev_neg hd (ev_pos (by omega) (ev_eq (ih (p ++ [x]) _ _ (snoc_at hx) (by simp; omega) (by simp; omega)) (by simp [List.filter_cons, hd])))
theorem dropS_loop (day : Int) (xs : List S49) (hg : Good xs) : ∀ (s p a b : List S49), xs = p ++ s → a.length ≤ p.length → b.length ≤ p.length →
    Ev (fun k => spec_StoreDrop.l0 k xs day a b (p.length : Int)) (a ++ s.filter (fun x => decide (x.f1 ≥ day)), b ++ s.filter (fun x => !decide (x.f1 ≥ day))) := by
  have hb := hg.2.2
  intro s
  induction s with
  | nil =>
    intro p a b hx _ _; refine ev_succ ?_; simp only [spec_StoreDrop.l0]
    refine ev_neg (by subst hx; simp) (ev_succ ?_)
    simp only [spec_StoreDrop.j1]
    exact ev_neg (by simp) (ev_const (by simp))
  | cons x s ih =>
    intro p a b hx h1 h2
    have hlt := len_at hx
    refine ev_succ ?_
    simp only [spec_StoreDrop.l0]
    refine ev_pos hlt (Ev.bind (ev_eq (validS xs (by omega)) ((ok_iff xs).2 hg)) (ev_succ ?_))
    simp only [spec_StoreDrop.j1, rd49s hx, wlen hx (by omega)]
    refine ev_pos (by first | rfl | trivial) (ev_pos (by omega) (ev_pos hlt ?_))
    by_cases hd : x.f1 ≥ day
    · exact ev_pos hd (ev_pos (by omega) (ev_eq (ih (p ++ [x]) _ _ (snoc_at hx) (by simp; omega) (by simp; omega)) (by simp [List.filter_cons, hd])))
    · exact ev_neg hd (ev_pos (by omega) (ev_eq (ih (p ++ [x]) _ _ (snoc_at hx) (by simp; omega) (by simp; omega)) (by simp [List.filter_cons, hd])))
def dropF (l : List S49) (day : Int) : List S49 × List S49 := (l.filter (fun x => decide (x.f1 ≥ day)), l.filter (fun x => !decide (x.f1 ≥ day)))
theorem dropI (l : List S49) (h : Good l) (day : Int) : Ev (fun k => impl_StoreDrop.f k l day) (dropF l day) := by
  have hl := h.2.2
  unfold impl_StoreDrop.f
  simp only [Option.bind_some]
  refine Ev.bind (ev_eq (validI l (by omega)) ((ok_iff l).2 h)) (ev_pos (by first | rfl | trivial) ?_)
  exact ev_eq (dropI_loop day l (by omega) l [] [] [] rfl (by simp) (by simp)) (by simp [dropF])
theorem dropS (l : List S49) (h : Good l) (day : Int) : Ev (fun k => spec_StoreDrop.f k l day) (dropF l day) := by
  unfold spec_StoreDrop.f
  exact ev_eq (dropS_loop day l h l [] [] [] rfl (by simp) (by simp)) (by simp [dropF])
theorem drop_good (l : List S49) (h : Good l) (day : Int) : Good (dropF l day).1 :=
  ⟨fun x hx => h.1 x (List.mem_filter.1 hx).1, h.2.1.filter _, Nat.le_trans (List.length_filter_le _ _) h.2.2⟩
def putL (x : S49) : List S49 → List S49
  | [] => [x]
  | y :: r => if y.f0 = x.f0 ∧ y.f1 = x.f1 then ⟨y.f0, y.f1, y.f2 + x.f2⟩ :: r else if befB x y = true then x :: y :: r else y :: putL x r
theorem putL_len (x : S49) : ∀ l : List S49, (putL x l).length ≤ l.length + 1
  | [] => by simp [putL]
  | y :: r => by
    have := putL_len x r
    rw [putL]
    split
    · simp
    · split <;> simp
      omega
theorem putL_app (x : S49) : ∀ (p q : List S49), (∀ y ∈ p, befB y x = true) → putL x (p ++ q) = p ++ putL x q
  | [], q, _ => rfl
  | y :: p, q, h => by
    have h1 := (befB_iff y x).1 (h y List.mem_cons_self)
    have h2 : ¬ befB x y = true := by rw [befB_iff]; omega
    rw [List.cons_append, putL, if_neg (by omega), if_neg h2, putL_app x p q (fun z hz => h z (List.mem_cons_of_mem _ hz)), List.cons_append]
theorem putS_loop (x : S49) (hx2 : 0 ≤ x.f2 ∧ x.f2 ≤ 9999) (xs : List S49) (hb : xs.length ≤ 1000) : ∀ (s p out : List S49) (dn : Bool), xs = p ++ s → (∀ y ∈ s, lotB y = true) → out.length ≤ p.length + (if dn = true then 1 else 0) →
    Ev (fun k => spec_l21Put.l0 k xs out dn (p.length : Int) x.f0 x.f1 x.f2) (if dn = true then out ++ s else out ++ putL x s) := by
  intro s
  induction s with
  | nil =>
    intro p out dn hx _ h1
    have : xs.length = p.length := by rw [hx]; simp
    refine ev_succ ?_
    simp only [spec_l21Put.l0]
    refine ev_neg (by omega) ?_
    cases dn with
    | true => exact ev_pos rfl (ev_const (by simp))
    | false => exact ev_neg (by simp) (ev_pos (by simp at h1; omega) (ev_const (by simp [putL])))
  | cons y s ih =>
    intro p out dn hx hl h1
    have hL := (lotB_iff y).1 (hl y List.mem_cons_self)
    have hlt := len_at hx
    have ei : wrap64 ((p.length : Int) + 1) = ((p ++ [y]).length : Int) := wlen hx (by omega)
    have ew : wrap64 (y.f2 + x.f2) = y.f2 + x.f2 := w64 (by omega) (by omega)
    have ih' := fun out dn h => ih (p ++ [y]) out dn (snoc_at hx) (fun z hz => hl z (List.mem_cons_of_mem _ hz)) h
    have hbef : spec_l21Before.f x.f0 x.f1 x.f2 y.f0 y.f1 y.f2 = some (befB x y) := befS x y
    have hpl : (p ++ [y]).length = p.length + 1 := by simp
    have h1' : out.length ≤ p.length + 1 := by split at h1 <;> omega
    have h1f : dn = false → out.length ≤ p.length := fun h => by rw [h] at h1; simpa using h1
    have j1 : ∀ b : Bool, (dn = true → b = false) → Ev (fun k => spec_l21Put.j1 k xs out dn (p.length : Int) b x.f0 x.f1 x.f2 y.f0 y.f1 y.f2)
        (if b = true then out ++ (⟨y.f0, y.f1, y.f2 + x.f2⟩ :: s) else if dn = true then out ++ (y :: s) else if befB x y = true then out ++ (x :: y :: s) else out ++ (y :: putL x s)) := by
      intro b hbd
      refine ev_succ ?_
      simp only [spec_l21Put.j1, ei, ew, hbef, Option.bind_some]
      cases b with
      | true => exact ev_pos rfl (ev_pos (by omega) (ev_eq (ih' _ true (by have := h1f; rw [if_pos rfl, hpl, List.length_append, List.length_singleton]; omega)) (by simp)))
      | false =>
        refine ev_neg (by simp) ?_
        cases dn with
        | true => exact ev_pos rfl (ev_pos (by omega) (ev_eq (ih' _ true (by rw [if_pos rfl, hpl, List.length_append, List.length_singleton]; omega)) (by simp)))
        | false =>
          refine ev_neg (by simp) ?_
          cases hbb : befB x y with
          | true => exact ev_pos rfl (ev_pos (by omega) (ev_pos (by simp; omega) (ev_eq (ih' _ true (by have := h1f rfl; rw [if_pos rfl, hpl]; simp; omega)) (by simp))))
          | false => exact ev_neg (by simp) (ev_pos (by omega) (ev_eq (ih' _ false (by have := h1f rfl; rw [if_neg (by simp), hpl]; simp; omega)) (by simp)))
    refine ev_succ ?_
    simp only [spec_l21Put.l0, rd49s hx]
    refine ev_pos hlt (ev_pos (by omega) ?_)
    cases dn with
    | true => exact ev_pos rfl (ev_eq (j1 false (fun _ => rfl)) (by simp))
    | false =>
      refine ev_neg (by simp) ?_
      by_cases h0 : y.f0 = x.f0
      · refine ev_pos h0 (ev_eq (j1 _ (fun h => by cases h)) ?_)
        by_cases h2 : y.f1 = x.f1
        · simp [putL, h0, h2]
        · by_cases h3 : befB x y = true <;> simp [putL, h0, h2, h3]
      · refine ev_neg h0 (ev_eq (j1 false (fun _ => rfl)) ?_)
        by_cases h3 : befB x y = true <;> simp [putL, h0, h3]
theorem sorted_at {l : List S49} (h : l.Pairwise (fun a b => befB a b = true)) {a b : Nat} (hab : a < b) (hb : b < l.length) : befB (l.getD a z49) (l.getD b z49) = true := by
  have := List.pairwise_iff_getElem.1 h a b (by omega) hb hab
  rw [List.getD_eq_getElem?_getD, List.getD_eq_getElem?_getD, List.getElem?_eq_getElem (by omega), List.getElem?_eq_getElem hb]
  exact this
theorem rd49_get (l : List S49) (i : Nat) : rd_T49 l (i : Int) = l.getD i z49 := rfl
theorem half_eq (i j : Nat) (h : i + j ≤ 4000) : wrap64 ((IntKind.u64.wrap (wrap64 ((i : Int) + (j : Int)))) / 2) = (((i + j) / 2 : Nat) : Int) := by
  have e1 : wrap64 ((i : Int) + (j : Int)) = ((i + j : Nat) : Int) := by rw [w64 (by omega) (by omega)]; omega
  have e2 : IntKind.u64.wrap ((i + j : Nat) : Int) = ((i + j : Nat) : Int) := by
    simp only [IntKind.wrap, IntKind.bits, IntKind.signed]
    simp
    omega
  rw [e1, e2, w64 (by omega) (by omega)]; omega
theorem bs_loop (x : S49) (l : List S49) (hs : l.Pairwise (fun a b => befB a b = true)) (hb : l.length ≤ 1000) : ∀ (d i j : Nat), j - i ≤ d → i ≤ j → j ≤ l.length → (∀ q, q < i → befB (l.getD q z49) x = true) → (∀ q, j ≤ q → q < l.length → ¬ befB (l.getD q z49) x = true) →
    ∃ m : Nat, m ≤ l.length ∧ (∀ q, q < m → befB (l.getD q z49) x = true) ∧ (∀ q, m ≤ q → q < l.length → ¬ befB (l.getD q z49) x = true) ∧
      Ev (fun k => impl_Lot_48.l0 k l (l.length : Int) (i : Int) (j : Int) x.f0 x.f1 x.f2) ((m : Int), decide (m < l.length) && (cmpL (l.getD m z49) x == 0)) := by
  intro d
  induction d with
  | zero =>
    intro i j h1 h2 h3 h4 h5
    obtain rfl : i = j := by omega
    refine ⟨i, h3, h4, h5, ev_succ ?_⟩
    simp only [impl_Lot_48.l0, rd49_get]
    refine ev_neg (by omega) ?_
    by_cases hl : i < l.length
    · exact ev_pos (by omega) (ev_pos (by omega) (ev_pos (by omega) (Ev.bind (cmp_ev _ x) (ev_const (by simp [hl])))))
    · exact ev_neg (by omega) (ev_const (by simp [hl]))
  | succ d ih =>
    intro i j h1 h2 h3 h4 h5
    by_cases hij : i < j
    · have hh := half_eq i j (by omega)
      have hh1 : wrap64 ((((i + j) / 2 : Nat) : Int) + 1) = (((i + j) / 2 + 1 : Nat) : Int) := by rw [w64 (by omega) (by omega)]; omega
      have hq : (i + j) / 2 < j := by omega
      have hq2 : i ≤ (i + j) / 2 := by omega
      generalize (i + j) / 2 = h at hh hh1 hq hq2
      have step : ∀ r : Int × Bool, Ev (fun k => if cmpL (l.getD h z49) x < 0 then impl_Lot_48.l0 k l (l.length : Int) ((h + 1 : Nat) : Int) (j : Int) x.f0 x.f1 x.f2 else impl_Lot_48.l0 k l (l.length : Int) (i : Int) (h : Int) x.f0 x.f1 x.f2) r → Ev (fun k => impl_Lot_48.l0 k l (l.length : Int) (i : Int) (j : Int) x.f0 x.f1 x.f2) r := by
        intro r hr
        refine ev_succ ?_
        simp only [impl_Lot_48.l0, hh, hh1, rd49_get]
        exact ev_pos (by omega) (ev_pos (by omega) (ev_pos (by omega) (Ev.bind (cmp_ev _ x) hr)))
      by_cases hc : befB (l.getD h z49) x = true
      · obtain ⟨m, g1, g2, g3, g4⟩ := ih (h + 1) j (by omega) (by omega) h3 (fun q hq' => by
          rcases Nat.lt_or_ge q h with hlt | hge
          · exact bef_trans (sorted_at hs hlt (by omega)) hc
          · obtain rfl : q = h := by omega
            exact hc) h5
        exact ⟨m, g1, g2, g3, step _ (ev_pos ((cmpL_neg _ _).2 hc) g4)⟩
      · obtain ⟨m, g1, g2, g3, g4⟩ := ih i h (by omega) (by omega) (by omega) h4 (fun q hq' hq'' e => by
          rcases Nat.lt_or_ge h q with hlt | hge
          · exact hc (bef_trans (sorted_at hs hlt hq'') e)
          · obtain rfl : q = h := by omega
            exact hc e)
        exact ⟨m, g1, g2, g3, step _ (ev_neg (mt (cmpL_neg _ _).1 hc) g4)⟩
    · exact (ih i j (by omega) h2 h3 h4 h5)
theorem take_all (l : List S49) (x : S49) (m : Nat) (hm : m ≤ l.length) (h : ∀ q, q < m → befB (l.getD q z49) x = true) : ∀ y ∈ l.take m, befB y x = true := by
  intro y hy
  obtain ⟨q, hq, rfl⟩ := List.getElem_of_mem hy
  rw [List.length_take] at hq
  have := h q (by omega)
  rw [List.getD_eq_getElem?_getD, List.getElem?_eq_getElem (by omega)] at this
  rw [List.getElem_take]; exact this
theorem split_at (l : List S49) (m : Nat) (hm : m < l.length) : l = l.take m ++ l.getD m z49 :: l.drop (m + 1) := by
  rw [List.getD_eq_getElem?_getD, List.getElem?_eq_getElem hm]
  show l = l.take m ++ l[m] :: l.drop (m + 1)
  rw [← List.drop_eq_getElem_cons hm, List.take_append_drop]
theorem put_set (x : S49) (l : List S49) (m : Nat) (hm : m < l.length) (h : ∀ q, q < m → befB (l.getD q z49) x = true) (hc : cmpL (l.getD m z49) x = 0) :
    l.set m ⟨(l.getD m z49).f0, (l.getD m z49).f1, (l.getD m z49).f2 + x.f2⟩ = putL x l := by
  have hsp := split_at l m hm
  have hl : (l.take m).length = m := by rw [List.length_take]; omega
  have h2 := (cmpL_zero _ _).1 hc
  generalize l.getD m z49 = y at *
  have e1 : putL x l = l.take m ++ (⟨y.f0, y.f1, y.f2 + x.f2⟩ :: l.drop (m + 1)) := by
    conv => lhs; rw [hsp]
    rw [putL_app x _ _ (take_all l x m (by omega) h), putL, if_pos h2]
  rw [e1]
  conv => lhs; rw [hsp]
  have := set_at (l.take m) y ⟨y.f0, y.f1, y.f2 + x.f2⟩ (l.drop (m + 1))
  rw [hl] at this
  exact this
theorem put_ins (x : S49) (l : List S49) (m : Nat) (hm : m ≤ l.length) (h : ∀ q, q < m → befB (l.getD q z49) x = true) (h2 : ∀ q, m ≤ q → q < l.length → ¬ befB (l.getD q z49) x = true) (hc : m < l.length → ¬ cmpL (l.getD m z49) x = 0) :
    insL l (m : Int) x = putL x l := by
  have e0 : insL l (m : Int) x = l.take m ++ x :: l.drop m := by simp [insL]
  rw [e0]
  by_cases hl : m < l.length
  · have hsp := split_at l m hl
    have h3 := mt (cmpL_zero _ _).2 (hc hl)
    have h4 := h2 m (Nat.le_refl _) hl
    have hd : l.drop m = l.getD m z49 :: l.drop (m + 1) := by
      rw [List.getD_eq_getElem?_getD, List.getElem?_eq_getElem hl]; exact List.drop_eq_getElem_cons hl
    rw [hd]
    generalize l.getD m z49 = y at *
    have h5 : befB x y = true := by rw [befB_iff] at h4 ⊢; omega
    conv => rhs; rw [hsp]
    rw [putL_app x _ _ (take_all l x m hm h), putL, if_neg h3, if_pos h5]
  · obtain rfl : m = l.length := by omega
    have ht := take_all l x l.length hm h
    rw [List.take_of_length_le (Nat.le_refl _)] at ht ⊢
    have := putL_app x l [] ht
    rw [List.append_nil] at this
    rw [this, List.drop_eq_nil_of_le (Nat.le_refl _)]; rfl
def putF (l : List S49) (x : S49) : List S49 × Bool := if lotB x = true ∧ okB (putL x l) = true then (putL x l, true) else ([], false)
theorem putS (l : List S49) (h : Good l) (x : S49) : Ev (fun k => spec_StorePut.f k l x.f0 x.f1 x.f2) (putF l x) := by
  have hl := h.2.2
  unfold spec_StorePut.f putF
  refine Ev.bind (ev_eq (validS l (by omega)) ((ok_iff l).2 h)) (ev_pos (by first | rfl | trivial) ?_)
  have e0 : spec_l21Lot.f x.f0 x.f1 x.f2 = some (lotB x) := lotS _ _ _
  simp only [e0, Option.bind_some]
  refine ev_succ ?_
  simp only [spec_StorePut.j0]
  cases hx : lotB x with
  | false => exact ev_pos (by simp) (ev_const (by simp))
  | true =>
    have hL := (lotB_iff x).1 hx
    have hp : Ev (fun k => spec_l21Put.f k l x.f0 x.f1 x.f2) (putL x l) := by
      unfold spec_l21Put.f
      exact ev_eq (putS_loop x (by omega) l (by omega) l [] [] false rfl h.1 (by simp)) (by simp)
    refine ev_neg (by simp) (Ev.bind hp (Ev.bind (validS _ (by have := putL_len x l; omega)) ?_))
    cases hk : okB (putL x l) with
    | true => exact ev_pos rfl (ev_const (by simp))
    | false => exact ev_neg (by simp) (ev_const (by simp))
theorem putI (l : List S49) (h : Good l) (x : S49) : Ev (fun k => impl_StorePut.f k l x.f0 x.f1 x.f2) (putF l x) := by
  have hl := h.2.2
  unfold impl_StorePut.f putF
  refine Ev.bind (ev_eq (validI l (by omega)) ((ok_iff l).2 h)) (ev_pos (by first | rfl | trivial) ?_)
  have e0 : impl_lotValid.f x.f0 x.f1 x.f2 = some (lotB x) := lotI _ _ _
  simp only [e0, Option.bind_some]
  refine ev_succ ?_
  simp only [impl_StorePut.j0]
  cases hx : lotB x with
  | false => exact ev_pos (by simp) (ev_const (by simp))
  | true =>
    have hL := (lotB_iff x).1 hx
    have hcl : impl_Lot_47.f l = some l := by
      unfold impl_Lot_47.f
      simp only [Option.bind_some]
      rw [if_pos (by simp only [List.length_nil]; omega)]; rfl
    obtain ⟨m, g1, g2, g3, g4⟩ := bs_loop x l h.2.1 (by omega) l.length 0 l.length (by omega) (by omega) (Nat.le_refl _) (fun q hq => by omega) (fun q h1 h2 => by omega)
    simp only [hcl, Option.bind_some]
    refine ev_neg (by simp) (Ev.bind g4 ?_)
    simp only [rd49_get, Int.toNat_natCast]
    have hgd : m < l.length → lotB (l.getD m z49) = true := fun hm => by
      rw [List.getD_eq_getElem?_getD, List.getElem?_eq_getElem hm]; exact h.1 _ (List.getElem_mem hm)
    have hput := putL_len x l
    have fin : Ev (fun k => (impl_StoreValid.f k (putL x l)).bind fun t => if t = true then some (putL x l, true) else some ([], false)) (if lotB x = true ∧ okB (putL x l) = true then (putL x l, true) else ([], false)) := by
      refine Ev.bind (validI _ (by omega)) ?_
      cases hk : okB (putL x l) with
      | true => exact ev_pos rfl (ev_const (by simp [hx]))
      | false => exact ev_neg (by simp) (ev_const (by simp))
    rw [hx] at fin
    by_cases hk : m < l.length ∧ cmpL (l.getD m z49) x = 0
    · have hg := (lotB_iff _).1 (hgd hk.1)
      have ew : wrap64 ((l.getD m z49).f2 + x.f2) = (l.getD m z49).f2 + x.f2 := w64 (by omega) (by omega)
      have es := put_set x l m hk.1 g2 hk.2
      rw [ew, es]
      exact ev_pos (by show (decide (m < l.length) && (cmpL (l.getD m z49) x == 0)) = true; rw [decide_eq_true hk.1, hk.2]; rfl) (ev_pos (by omega) (ev_pos (by omega) (ev_eq fin (by simp))))
    · have es := put_ins x l m g1 g2 g3 (fun hm e => hk ⟨hm, e⟩)
      have ex : insL l (m : Int) ⟨x.f0, x.f1, x.f2⟩ = putL x l := es
      rw [ex]
      refine ev_neg (by show ¬ (decide (m < l.length) && (cmpL (l.getD m z49) x == 0)) = true; intro e; rw [Bool.and_eq_true, decide_eq_true_iff, beq_iff_eq] at e; exact hk e) (ev_pos (by omega) (ev_eq fin (by simp)))
theorem put_good (l : List S49) (x : S49) (h : (putF l x).2 = true) : Good (putF l x).1 := by
  unfold putF at h ⊢
  split
  · rename_i hc; exact (ok_iff _).1 hc.2
  · rename_i hc; rw [if_neg hc] at h; cases h
end Go.Proofs.YtbclhpibilbdbaaDoor.BSc
namespace Go.Proofs.YtbclhpibilbdbaaDoor.BSc
open Go.RowKit Go.Proofs.YtbclhpibilbdbaaDoor.PSc Go.Proofs.YtbclhpibilbdbaaDoorW.PrintWords Go.Proofs.YtbclhpibilbdbaaDoorW.PrintLast Go.Proofs.YtbclhpibilbdbaaDoorW.PrintMore
open Go.Lib (decDigits itoa atoiAll)
set_option linter.unusedVariables false
set_option linter.unusedSimpArgs false
def doG (l : List S49) (w : List UInt8) (m : Nat) (a b c : Int) : List S49 × List UInt8 :=
  if w = [112, 117, 116] ∧ m = 3 then (if (putF l ⟨a, b, c⟩).2 = true then ((putF l ⟨a, b, c⟩).1, [111, 107]) else (l, [110, 111]))
  else if w = [116, 97, 107, 101] ∧ m = 3 then (if (takeF l a b c).2.2 = true then ((takeF l a b c).1, [116, 111, 111, 107] ++ lotsT (takeF l a b c).2.1) else (l, [110, 111]))
  else if w = [100, 114, 111, 112] ∧ m = 1 then ((dropF l a).1, [100, 114, 111, 112, 112, 101, 100] ++ lotsT (dropF l a).2)
  else if w = [104, 97, 118, 101] ∧ m = 2 then (l, [104, 97, 118, 101, 32] ++ decDigits (hasL a b l).toNat)
  else if w = [115, 104, 111, 119] ∧ m = 0 then (l, [108, 111, 116, 115] ++ lotsT l)
  else (l, [119, 104, 97, 116])
def allNum (ws : List (List UInt8)) : Bool := ws.all (fun x => decide (0 ≤ num1 x))
def lineF (l : List S49) (w : List UInt8) (ws : List (List UInt8)) : List S49 × List UInt8 :=
  if allNum ws = true then doG l w ws.length (rd (ws.map num1) 0) (rd (ws.map num1) 1) (rd (ws.map num1) 2) else (l, [119, 104, 97, 116])
def RI (x : List S49 × List UInt8) : List S49 × ByteArray := (x.1, mk x.2)
def RS (x : List S49 × List UInt8) : List S49 × ByteArray := (x.1, mk (x.2 ++ [10]))
theorem rdOf_at {p : List ByteArray} {x : ByteArray} {q : List ByteArray} : rdOf ByteArray.empty (p ++ x :: q) (p.length : Int) = x := getD_at p x q ByteArray.empty
theorem take_lots (l : List S49) (h : Good l) (food n day : Int) : ∀ x ∈ (takeF l food n day).2.1, lotB x = true := by
  intro y hy
  unfold takeF at hy
  split at hy
  · rename_i hc
    obtain ⟨x, hx, e0, e1, e2, e3⟩ := take_mem food day l n h.1 hc.1.1 y (.inr hy)
    have := good_lot h hx
    rw [lotB_iff]; omega
  · simp at hy
theorem take_short (l : List S49) (h : Good l) (food n day : Int) : (takeF l food n day).2.1.length ≤ 12 := by
  unfold takeF
  split
  · rename_i hc
    have := (take_pair food day l n h.1 hc.1.1 h.2.1).2.2
    have := h.2.2
    show (takeL food day l n).2.length ≤ 12
    omega
  · simp
theorem takeF_good (l : List S49) (h : Good l) (food n day : Int) (hk : (takeF l food n day).2.2 = true) : Good (takeF l food n day).1 := by
  unfold takeF at hk ⊢
  split
  · rename_i hc; exact take_good l h food n day hc.1.1
  · rename_i hc; rw [if_neg hc] at hk; cases hk
theorem drop_lots (l : List S49) (h : Good l) (day : Int) : (∀ x ∈ (dropF l day).2, lotB x = true) ∧ (dropF l day).2.length ≤ 12 :=
  ⟨fun x hx => h.1 x (List.mem_filter.1 hx).1, Nat.le_trans (List.length_filter_le _ _) h.2.2⟩
theorem lineF_good (l : List S49) (h : Good l) (w : List UInt8) (ws : List (List UInt8)) : Good (lineF l w ws).1 := by
  unfold lineF doG
  split
  · split
    · split
      · rename_i h2; exact put_good l _ h2
      · exact h
    · split
      · split
        · rename_i h2; exact takeF_good l h _ _ _ h2
        · exact h
      · split
        · exact drop_good l h _
        · split
          · exact h
          · split <;> exact h
  · exact h
theorem has_small (l : List S49) (h : Good l) (a b : Int) : 0 ≤ hasL a b l ∧ hasL a b l ≤ 119988 := by
  have h1 := hasL_bd a b l h.1
  have h2 := h.2.2
  omega
section
variable (l : List S49) (h : Good l) (w : List UInt8) (r : List ByteArray) (ns : List Int)
include h
theorem i4t (hn : ns.length = 2) : Ev (fun k => impl_command.j4 k l (mk w :: r) ns (ns.length : Int) true) (l, mk ([104, 97, 118, 101, 32] ++ decDigits (hasL (rd ns 0) (rd ns 1) l).toNat)) := by
  obtain ⟨h1, h2⟩ := has_small l h (rd ns 0) (rd ns 1)
  have h3 := dec_len (hasL (rd ns 0) (rd ns 1) l).toNat
  have el : (⟨#[104, 97, 118, 101, 32]⟩ : ByteArray) = mk [104, 97, 118, 101, 32] := rfl
  refine ev_succ ?_
  simp only [impl_command.j4]
  refine ev_pos (by first | rfl | trivial) (ev_pos (by omega) (ev_pos (by omega) (Ev.bind (hasI l h _ _) ?_)))
  simp only [itoa_f _ h1 (by omega : hasL (rd ns 0) (rd ns 1) l ≤ 9223372036854775807), Option.bind_some, el, mk_app, mk_size]
  exact ev_pos (by omega) (Ev.now _)
theorem i4f : Ev (fun k => impl_command.j4 k l (mk w :: r) ns (ns.length : Int) false) (RI (if w = [115, 104, 111, 119] ∧ ns.length = 0 then (l, [108, 111, 116, 115] ++ lotsT l) else (l, [119, 104, 97, 116]))) := by
  have e0 : rdOf ByteArray.empty (mk w :: r) 0 = mk w := rfl
  refine ev_succ ?_
  simp only [impl_command.j4, e0, mk_toList]
  refine ev_neg (by simp) (ev_pos (by simp only [List.length_cons]; omega) ?_)
  by_cases hw : w = [115, 104, 111, 119]
  · refine ev_pos hw ?_
    by_cases hn : ns.length = 0
    · refine ev_pos (by omega) ?_
      rw [if_pos ⟨hw, hn⟩]
      exact Ev.bind (lotsI [108, 111, 116, 115] l h.1 (by have := h.2.2; omega) (by simp)) (Ev.now _)
    · refine ev_neg (by omega) (ev_const ?_)
      rw [if_neg (fun q => hn q.2)]; rfl
  · refine ev_neg hw (ev_const ?_)
    rw [if_neg (fun q => hw q.1)]; rfl
theorem i3t (hn : ns.length = 1) : Ev (fun k => impl_command.j3 k l (mk w :: r) ns (ns.length : Int) true) (RI ((dropF l (rd ns 0)).1, [100, 114, 111, 112, 112, 101, 100] ++ lotsT (dropF l (rd ns 0)).2)) := by
  obtain ⟨h1, h2⟩ := drop_lots l h (rd ns 0)
  refine ev_succ ?_
  simp only [impl_command.j3]
  exact ev_pos (by first | rfl | trivial) (ev_pos (by omega) (Ev.bind (dropI l h _) (Ev.bind (lotsI [100, 114, 111, 112, 112, 101, 100] _ h1 (by omega) (by simp)) (Ev.now _))))
theorem i3f : Ev (fun k => impl_command.j3 k l (mk w :: r) ns (ns.length : Int) false) (RI (if w = [104, 97, 118, 101] ∧ ns.length = 2 then (l, [104, 97, 118, 101, 32] ++ decDigits (hasL (rd ns 0) (rd ns 1) l).toNat)
    else if w = [115, 104, 111, 119] ∧ ns.length = 0 then (l, [108, 111, 116, 115] ++ lotsT l) else (l, [119, 104, 97, 116]))) := by
  have e0 : rdOf ByteArray.empty (mk w :: r) 0 = mk w := rfl
  refine ev_succ ?_
  simp only [impl_command.j3, e0, mk_toList]
  refine ev_neg (by simp) (ev_pos (by simp only [List.length_cons]; omega) ?_)
  by_cases hw : w = [104, 97, 118, 101]
  · refine ev_pos hw ?_
    by_cases hn : ns.length = 2
    · have e : ((ns.length : Int) == 2) = true := by rw [hn]; rfl
      rw [e, if_pos ⟨hw, hn⟩]
      exact i4t l h w r ns hn
    · have e : ((ns.length : Int) == 2) = false := by simp; omega
      rw [e, if_neg (fun q => hn q.2)]
      exact i4f l h w r ns
  · refine ev_neg hw ?_
    rw [if_neg (fun q => hw q.1)]
    exact i4f l h w r ns
theorem i2t (hn : ns.length = 3) : Ev (fun k => impl_command.j2 k l (mk w :: r) ns (ns.length : Int) true) (RI (if (takeF l (rd ns 0) (rd ns 1) (rd ns 2)).2.2 = true then ((takeF l (rd ns 0) (rd ns 1) (rd ns 2)).1, [116, 111, 111, 107] ++ lotsT (takeF l (rd ns 0) (rd ns 1) (rd ns 2)).2.1) else (l, [110, 111]))) := by
  have h1 := take_lots l h (rd ns 0) (rd ns 1) (rd ns 2)
  have h2 := take_short l h (rd ns 0) (rd ns 1) (rd ns 2)
  refine ev_succ ?_
  simp only [impl_command.j2]
  refine ev_pos (by first | rfl | trivial) (ev_pos (by omega) (ev_pos (by omega) (ev_pos (by omega) (Ev.bind (takeI l h _ _ _) ?_))))
  by_cases ht : (takeF l (rd ns 0) (rd ns 1) (rd ns 2)).2.2 = true
  · refine ev_pos ht ?_
    rw [if_pos ht]
    exact Ev.bind (lotsI [116, 111, 111, 107] _ h1 (by omega) (by simp)) (Ev.now _)
  · refine ev_neg ht (ev_const ?_)
    rw [if_neg ht]; rfl
theorem i2f : Ev (fun k => impl_command.j2 k l (mk w :: r) ns (ns.length : Int) false) (RI (if w = [100, 114, 111, 112] ∧ ns.length = 1 then ((dropF l (rd ns 0)).1, [100, 114, 111, 112, 112, 101, 100] ++ lotsT (dropF l (rd ns 0)).2)
    else if w = [104, 97, 118, 101] ∧ ns.length = 2 then (l, [104, 97, 118, 101, 32] ++ decDigits (hasL (rd ns 0) (rd ns 1) l).toNat)
    else if w = [115, 104, 111, 119] ∧ ns.length = 0 then (l, [108, 111, 116, 115] ++ lotsT l) else (l, [119, 104, 97, 116]))) := by
  have e0 : rdOf ByteArray.empty (mk w :: r) 0 = mk w := rfl
  refine ev_succ ?_
  simp only [impl_command.j2, e0, mk_toList]
  refine ev_neg (by simp) (ev_pos (by simp only [List.length_cons]; omega) ?_)
  by_cases hw : w = [100, 114, 111, 112]
  · refine ev_pos hw ?_
    by_cases hn : ns.length = 1
    · have e : ((ns.length : Int) == 1) = true := by rw [hn]; rfl
      rw [e, if_pos ⟨hw, hn⟩]
      exact i3t l h w r ns hn
    · have e : ((ns.length : Int) == 1) = false := by simp; omega
      rw [e, if_neg (fun q => hn q.2)]
      exact i3f l h w r ns
  · refine ev_neg hw ?_
    rw [if_neg (fun q => hw q.1)]
    exact i3f l h w r ns
theorem i1t (hn : ns.length = 3) : Ev (fun k => impl_command.j1 k l (mk w :: r) ns (ns.length : Int) true) (RI (if (putF l ⟨rd ns 0, rd ns 1, rd ns 2⟩).2 = true then ((putF l ⟨rd ns 0, rd ns 1, rd ns 2⟩).1, [111, 107]) else (l, [110, 111]))) := by
  refine ev_succ ?_
  simp only [impl_command.j1]
  refine ev_pos (by first | rfl | trivial) (ev_pos (by omega) (ev_pos (by omega) (ev_pos (by omega) (Ev.bind (putI l h ⟨rd ns 0, rd ns 1, rd ns 2⟩) ?_))))
  by_cases ht : (putF l ⟨rd ns 0, rd ns 1, rd ns 2⟩).2 = true
  · refine ev_pos ht (ev_const ?_)
    rw [if_pos ht]; rfl
  · refine ev_neg ht (ev_const ?_)
    rw [if_neg ht]; rfl
theorem i1f : Ev (fun k => impl_command.j1 k l (mk w :: r) ns (ns.length : Int) false) (RI (
    if w = [116, 97, 107, 101] ∧ ns.length = 3 then (if (takeF l (rd ns 0) (rd ns 1) (rd ns 2)).2.2 = true then ((takeF l (rd ns 0) (rd ns 1) (rd ns 2)).1, [116, 111, 111, 107] ++ lotsT (takeF l (rd ns 0) (rd ns 1) (rd ns 2)).2.1) else (l, [110, 111]))
    else if w = [100, 114, 111, 112] ∧ ns.length = 1 then ((dropF l (rd ns 0)).1, [100, 114, 111, 112, 112, 101, 100] ++ lotsT (dropF l (rd ns 0)).2)
    else if w = [104, 97, 118, 101] ∧ ns.length = 2 then (l, [104, 97, 118, 101, 32] ++ decDigits (hasL (rd ns 0) (rd ns 1) l).toNat)
    else if w = [115, 104, 111, 119] ∧ ns.length = 0 then (l, [108, 111, 116, 115] ++ lotsT l) else (l, [119, 104, 97, 116]))) := by
  have e0 : rdOf ByteArray.empty (mk w :: r) 0 = mk w := rfl
  refine ev_succ ?_
  simp only [impl_command.j1, e0, mk_toList]
  refine ev_neg (by simp) (ev_pos (by simp only [List.length_cons]; omega) ?_)
  by_cases hw : w = [116, 97, 107, 101]
  · refine ev_pos hw ?_
    by_cases hn : ns.length = 3
    · have e : ((ns.length : Int) == 3) = true := by rw [hn]; rfl
      rw [e, if_pos ⟨hw, hn⟩]
      exact i2t l h w r ns hn
    · have e : ((ns.length : Int) == 3) = false := by simp; omega
      rw [e, if_neg (fun q => hn q.2)]
      exact i2f l h w r ns
  · refine ev_neg hw ?_
    rw [if_neg (fun q => hw q.1)]
    exact i2f l h w r ns
theorem i0 : Ev (fun k => if (rdOf ByteArray.empty (mk w :: r) 0).toList = ([112, 117, 116] : List UInt8) then impl_command.j1 k l (mk w :: r) ns (ns.length : Int) ((ns.length : Int) == 3) else impl_command.j1 k l (mk w :: r) ns (ns.length : Int) false) (RI (doG l w ns.length (rd ns 0) (rd ns 1) (rd ns 2))) := by
  have e0 : rdOf ByteArray.empty (mk w :: r) 0 = mk w := rfl
  simp only [e0, mk_toList]
  unfold doG
  by_cases hw : w = [112, 117, 116]
  · refine ev_pos hw ?_
    by_cases hn : ns.length = 3
    · have e : ((ns.length : Int) == 3) = true := by rw [hn]; rfl
      rw [e, if_pos ⟨hw, hn⟩]
      exact i1t l h w r ns hn
    · have e : ((ns.length : Int) == 3) = false := by simp; omega
      rw [e, if_neg (fun q => hn q.2)]
      exact i1f l h w r ns
  · refine ev_neg hw ?_
    rw [if_neg (fun q => hw q.1)]
    exact i1f l h w r ns
end
theorem allNum_cons (x : List UInt8) (s : List (List UInt8)) : allNum (x :: s) = (decide (0 ≤ num1 x) && allNum s) := rfl
theorem cmd_loop (l : List S49) (h : Good l) (w : List UInt8) (ws : List (List UInt8)) (hb : ws.length ≤ 100000) (hlen : ∀ x ∈ ws, x.length ≤ 1000000) : ∀ (s p : List (List UInt8)), ws = p ++ s →
    Ev (fun k => impl_command.l0 k l (mk w :: ws.map mk) (p.map num1) (ws.map mk) ((ws.map mk).length : Int) (p.length : Int)) (RI (if allNum s = true then doG l w ws.length (rd (ws.map num1) 0) (rd (ws.map num1) 1) (rd (ws.map num1) 2) else (l, [119, 104, 97, 116]))) := by
  intro s
  induction s with
  | nil =>
    intro p hx
    have hp : ws = p := by rw [hx]; simp
    subst hp
    refine ev_succ ?_
    simp only [impl_command.l0, List.length_map]
    refine ev_neg (by omega) (ev_pos (by simp only [List.length_cons]; omega) ?_)
    have := i0 l h w (ws.map mk) (ws.map num1)
    simp only [List.length_map] at this
    rw [if_pos (show allNum [] = true from rfl)]
    exact this
  | cons x s ih =>
    intro p hx
    have hlt := len_at hx
    have hxm : ws.map mk = p.map mk ++ mk x :: s.map mk := by rw [hx]; simp
    have er : rdOf ByteArray.empty (ws.map mk) (p.length : Int) = mk x := by
      have := rdOf_at (p := p.map mk) (x := mk x) (q := s.map mk)
      rw [← hxm, List.length_map] at this; exact this
    obtain ⟨v, hv, hv2⟩ := cn_f x (hlen x (by rw [hx]; simp))
    have ew : wrap64 ((p.length : Int) + 1) = ((p ++ [x]).length : Int) := wlen hx (by omega)
    refine ev_succ ?_
    simp only [impl_command.l0, List.length_map, er, hv, Option.bind_some, ew]
    refine ev_pos hlt (ev_pos (by omega) (ev_pos hlt ?_))
    by_cases hn : 0 ≤ num1 x
    · have e1 : decide (0 ≤ num1 x) = true := decide_eq_true hn
      rw [e1, allNum_cons, e1, Bool.true_and, hv2 hn]
      refine ev_pos (by first | rfl | trivial) (ev_pos (by omega) ?_)
      have := ih (p ++ [x]) (snoc_at hx)
      simp only [List.map_append, List.map_cons, List.map_nil, List.length_map] at this
      exact this
    · have e1 : decide (0 ≤ num1 x) = false := decide_eq_false hn
      rw [e1, allNum_cons, e1]
      exact ev_neg (by simp) (ev_const (by simp [RI, mk]))
theorem cmd_ev (l : List S49) (h : Good l) (t w : List UInt8) (ws : List (List UInt8)) (ht : t.length ≤ 10000) (hc : cutL 32 [] t = w :: ws) (hlen : ∀ x ∈ ws, x.length ≤ 1000000) (hb : ws.length ≤ 100000) :
    Ev (fun k => impl_command.f k l (mk t)) (RI (lineF l w ws)) := by
  unfold impl_command.f
  simp only [split_f t (by omega) 32, Option.bind_some, hc, List.map_cons]
  refine ev_pos (by simp only [List.length_cons]; omega) ?_
  simp only [List.drop_succ_cons, List.drop_zero]
  exact cmd_loop l h w ws hb hlen ws [] rfl
section
variable (l : List S49) (h : Good l) (w : List UInt8) (r : List ByteArray) (ar : List Int)
include h
theorem s5t (hn : r.length = 2) (har : ar.length = 4) : Ev (fun k => spec_l51Line.j5 k l (mk w :: r) ar true) (RS (l, [104, 97, 118, 101, 32] ++ decDigits (hasL (rd ar 1) (rd ar 2) l).toNat)) := by
  obtain ⟨h1, h2⟩ := has_small l h (rd ar 1) (rd ar 2)
  have h3 := dec_len (hasL (rd ar 1) (rd ar 2) l).toNat
  have el : (⟨#[104, 97, 118, 101, 32]⟩ : ByteArray) = mk [104, 97, 118, 101, 32] := rfl
  have hd := dec_ev (hasL (rd ar 1) (rd ar 2) l).toNat (by omega)
  rw [Int.toNat_of_nonneg h1] at hd
  refine ev_succ ?_
  simp only [spec_l51Line.j5]
  refine ev_pos (by first | rfl | trivial) (ev_pos (by omega) (ev_pos (by omega) (Ev.bind (hasS l h _ _) (Ev.bind hd ?_))))
  simp only [el, lits.2.2, mk_app, mk_size]
  exact ev_pos (by omega) (ev_pos (by simp; omega) (Ev.now _))
theorem s5f : Ev (fun k => spec_l51Line.j5 k l (mk w :: r) ar false) (RS (if w = [115, 104, 111, 119] ∧ r.length = 0 then (l, [108, 111, 116, 115] ++ lotsT l) else (l, [119, 104, 97, 116]))) := by
  have e0 : rdOf ByteArray.empty (mk w :: r) 0 = mk w := rfl
  refine ev_succ ?_
  simp only [spec_l51Line.j5, e0, mk_toList, List.length_cons]
  refine ev_neg (by simp) (ev_pos (by omega) ?_)
  by_cases hw : w = [115, 104, 111, 119]
  · refine ev_pos hw ?_
    by_cases hn : r.length = 0
    · refine ev_pos (by omega) ?_
      rw [if_pos ⟨hw, hn⟩]
      exact Ev.bind (lotsS [108, 111, 116, 115] l h.1 (by have := h.2.2; omega) (by simp)) (Ev.now _)
    · refine ev_neg (by omega) (ev_const ?_)
      rw [if_neg (fun q => hn q.2)]; rfl
  · refine ev_neg hw (ev_const ?_)
    rw [if_neg (fun q => hw q.1)]; rfl
theorem s4t (hn : r.length = 1) (har : ar.length = 4) : Ev (fun k => spec_l51Line.j4 k l (mk w :: r) ar true) (RS ((dropF l (rd ar 1)).1, [100, 114, 111, 112, 112, 101, 100] ++ lotsT (dropF l (rd ar 1)).2)) := by
  obtain ⟨h1, h2⟩ := drop_lots l h (rd ar 1)
  refine ev_succ ?_
  simp only [spec_l51Line.j4]
  exact ev_pos (by first | rfl | trivial) (ev_pos (by omega) (Ev.bind (dropS l h _) (Ev.bind (lotsS [100, 114, 111, 112, 112, 101, 100] _ h1 (by omega) (by simp)) (Ev.now _))))
theorem s4f (har : ar.length = 4) : Ev (fun k => spec_l51Line.j4 k l (mk w :: r) ar false) (RS (if w = [104, 97, 118, 101] ∧ r.length = 2 then (l, [104, 97, 118, 101, 32] ++ decDigits (hasL (rd ar 1) (rd ar 2) l).toNat)
    else if w = [115, 104, 111, 119] ∧ r.length = 0 then (l, [108, 111, 116, 115] ++ lotsT l) else (l, [119, 104, 97, 116]))) := by
  have e0 : rdOf ByteArray.empty (mk w :: r) 0 = mk w := rfl
  refine ev_succ ?_
  simp only [spec_l51Line.j4, e0, mk_toList, List.length_cons]
  refine ev_neg (by simp) (ev_pos (by omega) ?_)
  by_cases hw : w = [104, 97, 118, 101]
  · refine ev_pos hw ?_
    by_cases hn : r.length = 2
    · have e : (((r.length + 1 : Nat) : Int) == 3) = true := by rw [hn]; rfl
      rw [e, if_pos ⟨hw, hn⟩]
      exact s5t l h w r ar hn har
    · have e : (((r.length + 1 : Nat) : Int) == 3) = false := by simp; omega
      rw [e, if_neg (fun q => hn q.2)]
      exact s5f l h w r ar
  · refine ev_neg hw ?_
    rw [if_neg (fun q => hw q.1)]
    exact s5f l h w r ar
theorem s3t (hn : r.length = 3) (har : ar.length = 4) : Ev (fun k => spec_l51Line.j3 k l (mk w :: r) ar true) (RS (if (takeF l (rd ar 1) (rd ar 2) (rd ar 3)).2.2 = true then ((takeF l (rd ar 1) (rd ar 2) (rd ar 3)).1, [116, 111, 111, 107] ++ lotsT (takeF l (rd ar 1) (rd ar 2) (rd ar 3)).2.1) else (l, [110, 111]))) := by
  have h1 := take_lots l h (rd ar 1) (rd ar 2) (rd ar 3)
  have h2 := take_short l h (rd ar 1) (rd ar 2) (rd ar 3)
  refine ev_succ ?_
  simp only [spec_l51Line.j3]
  refine ev_pos (by first | rfl | trivial) (ev_pos (by omega) (ev_pos (by omega) (ev_pos (by omega) (Ev.bind (takeS l h _ _ _) ?_))))
  by_cases ht : (takeF l (rd ar 1) (rd ar 2) (rd ar 3)).2.2 = true
  · refine ev_pos ht ?_
    rw [if_pos ht]
    exact Ev.bind (lotsS [116, 111, 111, 107] _ h1 (by omega) (by simp)) (Ev.now _)
  · refine ev_neg ht (ev_const ?_)
    rw [if_neg ht]; rfl
theorem s3f (har : ar.length = 4) : Ev (fun k => spec_l51Line.j3 k l (mk w :: r) ar false) (RS (if w = [100, 114, 111, 112] ∧ r.length = 1 then ((dropF l (rd ar 1)).1, [100, 114, 111, 112, 112, 101, 100] ++ lotsT (dropF l (rd ar 1)).2)
    else if w = [104, 97, 118, 101] ∧ r.length = 2 then (l, [104, 97, 118, 101, 32] ++ decDigits (hasL (rd ar 1) (rd ar 2) l).toNat)
    else if w = [115, 104, 111, 119] ∧ r.length = 0 then (l, [108, 111, 116, 115] ++ lotsT l) else (l, [119, 104, 97, 116]))) := by
  have e0 : rdOf ByteArray.empty (mk w :: r) 0 = mk w := rfl
  refine ev_succ ?_
  simp only [spec_l51Line.j3, e0, mk_toList, List.length_cons]
  refine ev_neg (by simp) (ev_pos (by omega) ?_)
  by_cases hw : w = [100, 114, 111, 112]
  · refine ev_pos hw ?_
    by_cases hn : r.length = 1
    · have e : (((r.length + 1 : Nat) : Int) == 2) = true := by rw [hn]; rfl
      rw [e, if_pos ⟨hw, hn⟩]
      exact s4t l h w r ar hn har
    · have e : (((r.length + 1 : Nat) : Int) == 2) = false := by simp; omega
      rw [e, if_neg (fun q => hn q.2)]
      exact s4f l h w r ar har
  · refine ev_neg hw ?_
    rw [if_neg (fun q => hw q.1)]
    exact s4f l h w r ar har
theorem s2t (hn : r.length = 3) (har : ar.length = 4) : Ev (fun k => spec_l51Line.j2 k l (mk w :: r) ar true) (RS (if (putF l ⟨rd ar 1, rd ar 2, rd ar 3⟩).2 = true then ((putF l ⟨rd ar 1, rd ar 2, rd ar 3⟩).1, [111, 107]) else (l, [110, 111]))) := by
  refine ev_succ ?_
  simp only [spec_l51Line.j2]
  refine ev_pos (by first | rfl | trivial) (ev_pos (by omega) (ev_pos (by omega) (ev_pos (by omega) (Ev.bind (putS l h ⟨rd ar 1, rd ar 2, rd ar 3⟩) ?_))))
  by_cases ht : (putF l ⟨rd ar 1, rd ar 2, rd ar 3⟩).2 = true
  · refine ev_pos ht (ev_const ?_)
    rw [if_pos ht]; rfl
  · refine ev_neg ht (ev_const ?_)
    rw [if_neg ht]; rfl
theorem s2f (har : ar.length = 4) : Ev (fun k => spec_l51Line.j2 k l (mk w :: r) ar false) (RS (
    if w = [116, 97, 107, 101] ∧ r.length = 3 then (if (takeF l (rd ar 1) (rd ar 2) (rd ar 3)).2.2 = true then ((takeF l (rd ar 1) (rd ar 2) (rd ar 3)).1, [116, 111, 111, 107] ++ lotsT (takeF l (rd ar 1) (rd ar 2) (rd ar 3)).2.1) else (l, [110, 111]))
    else if w = [100, 114, 111, 112] ∧ r.length = 1 then ((dropF l (rd ar 1)).1, [100, 114, 111, 112, 112, 101, 100] ++ lotsT (dropF l (rd ar 1)).2)
    else if w = [104, 97, 118, 101] ∧ r.length = 2 then (l, [104, 97, 118, 101, 32] ++ decDigits (hasL (rd ar 1) (rd ar 2) l).toNat)
    else if w = [115, 104, 111, 119] ∧ r.length = 0 then (l, [108, 111, 116, 115] ++ lotsT l) else (l, [119, 104, 97, 116]))) := by
  have e0 : rdOf ByteArray.empty (mk w :: r) 0 = mk w := rfl
  refine ev_succ ?_
  simp only [spec_l51Line.j2, e0, mk_toList, List.length_cons]
  refine ev_neg (by simp) (ev_pos (by omega) ?_)
  by_cases hw : w = [116, 97, 107, 101]
  · refine ev_pos hw ?_
    by_cases hn : r.length = 3
    · have e : (((r.length + 1 : Nat) : Int) == 4) = true := by rw [hn]; rfl
      rw [e, if_pos ⟨hw, hn⟩]
      exact s3t l h w r ar hn har
    · have e : (((r.length + 1 : Nat) : Int) == 4) = false := by simp; omega
      rw [e, if_neg (fun q => hn q.2)]
      exact s3f l h w r ar har
  · refine ev_neg hw ?_
    rw [if_neg (fun q => hw q.1)]
    exact s3f l h w r ar har
theorem s1f (har : ar.length = 4) (i : Int) : Ev (fun k => spec_l51Line.j1 k l (mk w :: r) ar i false) (RS (doG l w r.length (rd ar 1) (rd ar 2) (rd ar 3))) := by
  have e0 : rdOf ByteArray.empty (mk w :: r) 0 = mk w := rfl
  refine ev_succ ?_
  simp only [spec_l51Line.j1, e0, mk_toList, List.length_cons]
  refine ev_neg (by simp) (ev_pos (by omega) ?_)
  unfold doG
  by_cases hw : w = [112, 117, 116]
  · refine ev_pos hw ?_
    by_cases hn : r.length = 3
    · have e : (((r.length + 1 : Nat) : Int) == 4) = true := by rw [hn]; rfl
      rw [e, if_pos ⟨hw, hn⟩]
      exact s2t l h w r ar hn har
    · have e : (((r.length + 1 : Nat) : Int) == 4) = false := by simp; omega
      rw [e, if_neg (fun q => hn q.2)]
      exact s2f l h w r ar har
  · refine ev_neg hw ?_
    rw [if_neg (fun q => hw q.1)]
    exact s2f l h w r ar har
end
theorem doG_many (l : List S49) (w : List UInt8) (m : Nat) (a b c : Int) (hm : 4 ≤ m) : doG l w m a b c = (l, [119, 104, 97, 116]) := by
  unfold doG
  rw [if_neg (by omega), if_neg (by omega), if_neg (by omega), if_neg (by omega), if_neg (by omega)]
def arrF (p : List (List UInt8)) : List Int := 0 :: p.map num1 ++ List.replicate (3 - p.length) 0
theorem arrF_len (p : List (List UInt8)) (hp : p.length ≤ 3) : (arrF p).length = 4 := by simp [arrF]; omega
theorem arrF_rd (p : List (List UInt8)) (hp : p.length ≤ 3) : rd (arrF p) 1 = rd (p.map num1) 0 ∧ rd (arrF p) 2 = rd (p.map num1) 1 ∧ rd (arrF p) 3 = rd (p.map num1) 2 := by
  match p, hp with
  | [], _ => exact ⟨rfl, rfl, rfl⟩
  | [a], _ => exact ⟨rfl, rfl, rfl⟩
  | [a, b], _ => exact ⟨rfl, rfl, rfl⟩
  | [a, b, c], _ => exact ⟨rfl, rfl, rfl⟩
theorem arrF_set (p : List (List UInt8)) (x : List UInt8) (hp : p.length ≤ 2) : (arrF p).set (((p.length : Int) + 1)).toNat (num1 x) = arrF (p ++ [x]) ∧ rd (arrF (p ++ [x])) ((p.length : Int) + 1) = num1 x := by
  match p, hp with
  | [], _ => exact ⟨rfl, rfl⟩
  | [a], _ => exact ⟨rfl, rfl⟩
  | [a, b], _ => exact ⟨rfl, rfl⟩
theorem lineS_loop (l : List S49) (h : Good l) (w : List UInt8) (ws : List (List UInt8)) (hb : ws.length ≤ 100000) : ∀ (s p : List (List UInt8)), ws = p ++ s → p.length ≤ 3 →
    Ev (fun k => spec_l51Line.l0 k l (mk w :: ws.map mk) (arrF p) ((p.length : Int) + 1)) (RS (if allNum s = true then doG l w ws.length (rd (ws.map num1) 0) (rd (ws.map num1) 1) (rd (ws.map num1) 2) else (l, [119, 104, 97, 116]))) := by
  intro s
  induction s with
  | nil =>
    intro p hx hp
    have hq : ws = p := by rw [hx]; simp
    subst hq
    refine ev_succ ?_
    simp only [spec_l51Line.l0, List.length_cons, List.length_map]
    refine ev_neg (by omega) ?_
    have := s1f l h w (ws.map mk) (arrF ws) (arrF_len ws hp) ((ws.length : Int) + 1)
    obtain ⟨e1, e2, e3⟩ := arrF_rd ws hp
    rw [e1, e2, e3, List.length_map] at this
    rw [if_pos (show allNum [] = true from rfl)]
    exact this
  | cons x s ih =>
    intro p hx hp
    have hlt := len_at hx
    have hsum : ws.length = p.length + (s.length + 1) := by rw [hx]; simp
    have hxm : mk w :: ws.map mk = (mk w :: p.map mk) ++ mk x :: s.map mk := by rw [hx]; simp
    have er : rdOf ByteArray.empty (mk w :: ws.map mk) ((p.length : Int) + 1) = mk x := by
      have := rdOf_at (p := mk w :: p.map mk) (x := mk x) (q := s.map mk)
      rw [← hxm] at this
      simp only [List.length_cons, List.length_map] at this
      exact this
    refine ev_succ ?_
    simp only [spec_l51Line.l0, List.length_cons, List.length_map]
    refine ev_pos (by omega) ?_
    by_cases h3 : p.length ≤ 2
    · have e4 : decide ((p.length : Int) + 1 < 4) = true := decide_eq_true (by omega)
      have ew : wrap64 ((p.length : Int) + 1 + 1) = ((p ++ [x]).length : Int) + 1 := by rw [w64 (by omega) (by omega)]; simp
      obtain ⟨a1, a2⟩ := arrF_set p x h3
      rw [e4]
      refine ev_succ ?_
      simp only [spec_l51Line.j1, List.length_cons, List.length_map, er, ew]
      refine ev_pos (by first | rfl | trivial) (ev_pos (by omega) (ev_pos (by omega) (Ev.bind (num_ev x) ?_)))
      simp only [a1, a2, Option.bind_some]
      refine ev_pos (by rw [arrF_len p hp]; omega) ?_
      by_cases hn : 0 ≤ num1 x
      · have e1 : decide (0 ≤ num1 x) = true := decide_eq_true hn
        rw [allNum_cons, e1, Bool.true_and]
        exact ev_neg (by omega) (ih (p ++ [x]) (snoc_at hx) (by simp; omega))
      · have e1 : decide (0 ≤ num1 x) = false := decide_eq_false hn
        rw [allNum_cons, e1]
        exact ev_pos (by omega) (ev_const (by simp [RS, mk]))
    · have e4 : decide ((p.length : Int) + 1 < 4) = false := decide_eq_false (by omega)
      rw [e4]
      have := s1f l h w (ws.map mk) (arrF p) (arrF_len p hp) ((p.length : Int) + 1)
      rw [doG_many _ _ _ _ _ _ (by rw [List.length_map]; omega)] at this
      rw [doG_many _ _ _ _ _ _ (by omega)]
      refine ev_eq this ?_
      split <;> rfl
theorem line_ev (l : List S49) (h : Good l) (t w : List UInt8) (ws : List (List UInt8)) (ht : t.length ≤ 10000) (hc : cutL 32 [] t = w :: ws) (hb : ws.length ≤ 100000) :
    Ev (fun k => spec_l51Line.f k l (mk t)) (RS (lineF l w ws)) := by
  unfold spec_l51Line.f
  refine Ev.bind (cut_ev t (by omega)) ?_
  rw [hc, List.map_cons]
  exact lineS_loop l h w ws hb ws [] rfl (by simp)
theorem cutL_size (c : UInt8) : ∀ (s acc : List UInt8), (cutL c acc s).length ≤ s.length + 1 ∧ ∀ x ∈ cutL c acc s, x.length ≤ acc.length + s.length
  | [], acc => by simp [cutL]
  | y :: s, acc => by
    rw [cutL]
    split
    · obtain ⟨a, b⟩ := cutL_size c s []
      refine ⟨by simp only [List.length_cons]; omega, fun x hx => ?_⟩
      rcases List.mem_cons.1 hx with rfl | hx
      · simp
      · have := b x hx; simp at this ⊢; omega
    · obtain ⟨a, b⟩ := cutL_size c s (acc ++ [y])
      refine ⟨by simp only [List.length_cons]; omega, fun x hx => ?_⟩
      have := b x hx; simp at this ⊢; omega
def wordsF (t : List UInt8) : List UInt8 × List (List UInt8) := match cutL 32 [] t with | [] => ([], []) | w :: ws => (w, ws)
def stepF (l : List S49) (t : List UInt8) : List S49 × List UInt8 := lineF l (wordsF t).1 (wordsF t).2
theorem words_cut (t : List UInt8) : cutL 32 [] t = (wordsF t).1 :: (wordsF t).2 := by
  unfold wordsF
  cases h : cutL 32 [] t with
  | nil => exact absurd h (cutL_ne 32 t [])
  | cons w ws => rfl
theorem stepI (l : List S49) (h : Good l) (t : List UInt8) (ht : t.length ≤ 10000) : Ev (fun k => impl_command.f k l (mk t)) (RI (stepF l t)) := by
  obtain ⟨a, b⟩ := cutL_size 32 t []
  have hc := words_cut t
  rw [hc] at a b
  simp only [List.length_cons, List.length_nil] at a b
  exact cmd_ev l h t _ _ ht hc (fun x hx => by have := b x (List.mem_cons_of_mem _ hx); omega) (by omega)
theorem stepS (l : List S49) (h : Good l) (t : List UInt8) (ht : t.length ≤ 10000) : Ev (fun k => spec_l51Line.f k l (mk t)) (RS (stepF l t)) := by
  obtain ⟨a, b⟩ := cutL_size 32 t []
  have hc := words_cut t
  rw [hc] at a
  simp only [List.length_cons] at a
  exact line_ev l h t _ _ ht hc (by omega)
theorem stepF_good (l : List S49) (h : Good l) (t : List UInt8) : Good (stepF l t).1 := lineF_good l h _ _
theorem lotsT_len : ∀ (l : List S49), (∀ x ∈ l, lotB x = true) → (lotsT l).length ≤ 10200 * l.length
  | [], _ => by simp [lotsT]
  | x :: r, hl => by
    have h1 := lotsT_len r (fun y hy => hl y (List.mem_cons_of_mem _ hy))
    have h2 := lotT_len x (hl x List.mem_cons_self)
    simp only [lotsT, List.flatMap_cons, List.length_append, List.length_cons] at h1 ⊢
    omega
theorem stepF_len (l : List S49) (h : Good l) (t : List UInt8) : (stepF l t).2.length ≤ 130000 := by
  have hl := h.2.2
  unfold stepF lineF doG
  generalize (wordsF t).1 = w
  generalize rd ((wordsF t).2.map num1) 0 = a
  generalize rd ((wordsF t).2.map num1) 1 = b
  generalize rd ((wordsF t).2.map num1) 2 = c
  split
  · split
    · split <;> simp
    · split
      · split
        · have h1 := lotsT_len _ (take_lots l h a b c)
          have h2 := take_short l h a b c
          simp only [List.length_append, List.length_cons, List.length_nil]; omega
        · simp
      · split
        · obtain ⟨h1, h2⟩ := drop_lots l h a
          have h3 := lotsT_len _ h1
          simp only [List.length_append, List.length_cons, List.length_nil]; omega
        · split
          · obtain ⟨h1, h2⟩ := has_small l h a b
            have h3 := dec_len (hasL a b l).toNat
            simp only [List.length_append, List.length_cons, List.length_nil]; omega
          · split
            · have h3 := lotsT_len l h.1
              simp only [List.length_append, List.length_cons, List.length_nil]; omega
            · simp
  · simp
end Go.Proofs.YtbclhpibilbdbaaDoor.BSc
namespace Go.Proofs.YtbclhpibilbdbaaDoor.BSc
open Go.RowKit Go.Proofs.YtbclhpibilbdbaaDoor.PSc Go.Proofs.YtbclhpibilbdbaaDoorW.PrintWords Go.Proofs.YtbclhpibilbdbaaDoorW.PrintLast Go.Proofs.YtbclhpibilbdbaaDoorW.PrintMore
open Go.Lib (decDigits itoa atoiAll)
set_option linter.unusedVariables false
set_option linter.unusedSimpArgs false
def endF (l : List S49) : List UInt8 := [101, 110, 100] ++ lotsT l ++ [10]
def outF (l : List S49) : List (List UInt8) → List UInt8
  | [] => endF l
  | t :: r => (stepF l t).2 ++ [10] ++ outF (stepF l t).1 r
def exeF (t : List UInt8) : List UInt8 := if 600 < t.length then [116, 111, 111, 32, 108, 111, 110, 103, 10] else outF [] (cutL 10 [] t).dropLast
theorem good_nil : Good [] := ⟨fun x hx => by simp at hx, List.Pairwise.nil, by simp⟩
theorem dropLast_take {α : Type} (l : List α) : l.dropLast = l.take (l.length - 1) := List.dropLast_eq_take
theorem exeI_loop (ls : List (List UInt8)) (hb : ls.length ≤ 1000) (hl : ∀ t ∈ ls, t.length ≤ 10000) : ∀ (s p : List (List UInt8)) (st : List S49) (w : List UInt8), ls = p ++ s → Good st → w.length + 130001 * s.length ≤ 1000000000 →
    Ev (fun k => impl_Execute.l0 k st (mk w) (ls.map mk) ((ls.map mk).length : Int) (p.length : Int)) (mk (w ++ outF st s)) := by
  intro s
  induction s with
  | nil =>
    intro p st w hx hg hw
    have hp : ls = p := by rw [hx]; simp
    subst hp
    have h1 := lotsT_len st hg.1
    have h2 := hg.2.2
    have el : (⟨#[101, 110, 100]⟩ : ByteArray) = mk [101, 110, 100] := rfl
    refine ev_succ ?_
    simp only [impl_Execute.l0, List.length_map, el, lits.2.2]
    refine ev_neg (by omega) (Ev.bind (lotsI [101, 110, 100] st hg.1 (by omega) (by simp)) ?_)
    simp only [mk_app, mk_size]
    refine ev_pos (by simp at hw ⊢; omega) (ev_pos (by simp at hw ⊢; omega) (ev_const ?_))
    simp [outF, endF]
  | cons t s ih =>
    intro p st w hx hg hw
    have hlt := len_at hx
    have er : rdOf ByteArray.empty (ls.map mk) (p.length : Int) = mk t := by
      have hm : ls.map mk = p.map mk ++ mk t :: s.map mk := by rw [hx]; simp
      have := rdOf_at (p := p.map mk) (x := mk t) (q := s.map mk)
      rw [← hm, List.length_map] at this; exact this
    have ew : wrap64 ((p.length : Int) + 1) = ((p ++ [t]).length : Int) := wlen hx (by omega)
    have h1 := stepF_len st hg t
    simp only [List.length_cons] at hw
    refine ev_succ ?_
    simp only [impl_Execute.l0, List.length_map, er, ew, lits.2.2]
    refine ev_pos hlt (ev_pos (by omega) (ev_pos hlt (Ev.bind (stepI st hg t (hl t (by rw [hx]; simp))) ?_)))
    simp only [RI, mk_app, mk_size]
    refine ev_pos (by omega) (ev_pos (by simp; omega) ?_)
    have := ih (p ++ [t]) (stepF st t).1 (w ++ (stepF st t).2 ++ [10]) (snoc_at hx) (stepF_good st hg t) (by simp; omega)
    simp only [List.length_map] at this
    exact ev_eq this (by simp [outF])
theorem exeI (t : List UInt8) (ht : t.length ≤ 10000000) : Ev (fun k => impl_Execute.f k (mk t)) (mk (exeF t)) := by
  unfold impl_Execute.f exeF
  rw [mk_size]
  by_cases h : 600 < t.length
  · rw [if_pos h]
    exact ev_pos (by omega) (Ev.now _)
  · rw [if_neg h]
    obtain ⟨a, b⟩ := cutL_size 10 t []
    have hne := cutL_ne 10 t []
    have hpos : 0 < (cutL 10 [] t).length := List.length_pos_iff.2 hne
    have e1 : wrap64 (((cutL 10 [] t).length : Int) - 1) = (((cutL 10 [] t).length - 1 : Nat) : Int) := by rw [w64 (by omega) (by omega)]; omega
    refine ev_neg (by omega) ?_
    simp only [split_f t (by omega) 10, Option.bind_some, List.length_map, e1, Int.toNat_natCast]
    refine ev_pos (by omega) (ev_pos (by omega) ?_)
    have e2 : ((cutL 10 [] t).map mk).take ((cutL 10 [] t).length - 1) = ((cutL 10 [] t).dropLast).map mk := by rw [dropLast_take, List.map_take]
    rw [e2]
    have hd : (cutL 10 [] t).dropLast.length ≤ 601 := by rw [List.length_dropLast]; omega
    have := exeI_loop (cutL 10 [] t).dropLast (by omega) (fun x hx => by have := b x ((List.dropLast_sublist _).subset hx); simp at this; omega) (cutL 10 [] t).dropLast [] [] [] rfl good_nil (by simp only [List.length_nil]; omega)
    simp only [List.length_map, List.nil_append] at this
    simp only [List.length_map]
    exact this
theorem exeS_loop (t : List UInt8) (ht : t.length ≤ 600) : ∀ (s p : List UInt8) (st : List S49) (w : List UInt8) (fr : Nat), t = p ++ s → fr ≤ p.length → Good st → w.length + 130001 * s.length ≤ 1000000000 →
    Ev (fun k => spec_Execute.l0 k (mk t) st (mk w) (fr : Int) (p.length : Int)) (mk (w ++ outF st (cutL 10 (p.drop fr) s).dropLast)) := by
  intro s
  induction s with
  | nil =>
    intro p st w fr hx hf hg hw
    have hp : t = p := by rw [hx]; simp
    subst hp
    have h1 := lotsT_len st hg.1
    have h2 := hg.2.2
    have el : (⟨#[101, 110, 100]⟩ : ByteArray) = mk [101, 110, 100] := rfl
    refine ev_succ ?_
    simp only [spec_Execute.l0, mk_size, el]
    refine ev_neg (by omega) (Ev.bind (lotsS [101, 110, 100] st hg.1 (by omega) (by simp)) ?_)
    simp only [mk_app, mk_size]
    refine ev_pos (by simp at hw ⊢; omega) (ev_const ?_)
    simp [outF, endF, cutL]
  | cons c s ih =>
    intro p st w fr hx hf hg hw
    have hlt := len_at hx
    have hbt : bt (mk t) (p.length : Int) = (c.toNat : Int) := by rw [hx]; exact bt_at p c s
    have htk : t.take p.length = p := by rw [hx]; simp
    have ew : wrap64 ((p.length : Int) + 1) = ((p ++ [c]).length : Int) := wlen hx (by omega)
    simp only [List.length_cons] at hw
    refine ev_succ ?_
    simp only [spec_Execute.l0, mk_size, hbt, ew, mk_extract, Int.toNat_natCast, htk]
    refine ev_pos hlt (ev_pos (by omega) ?_)
    by_cases hc : c = 10
    · subst hc
      have h1 := stepF_len st hg (p.drop fr)
      refine ev_pos (by decide) (ev_pos (by omega) (ev_pos (by omega) (ev_pos (by omega) (Ev.bind (stepS st hg (p.drop fr) (by rw [List.length_drop]; omega)) ?_))))
      simp only [RS, mk_app, mk_size]
      refine ev_pos (by simp; omega) ?_
      refine ev_eq (ih (p ++ [10]) (stepF st (p.drop fr)).1 (w ++ ((stepF st (p.drop fr)).2 ++ [10])) (p ++ [10]).length (snoc_at hx) (Nat.le_refl _) (stepF_good st hg _) (by simp; omega)) ?_
      rw [cutL, if_pos rfl, List.drop_eq_nil_of_le (Nat.le_refl _), List.dropLast_cons_of_ne_nil (cutL_ne 10 s [])]
      simp [outF]
    · refine ev_neg (fun e => hc (UInt8.toNat_inj.1 (by show c.toNat = 10; omega))) ?_
      refine ev_eq (ih (p ++ [c]) st w fr (snoc_at hx) (by simp; omega) hg (by omega)) ?_
      rw [cutL, if_neg hc, List.drop_append_of_le_length hf]
theorem exeS (t : List UInt8) : Ev (fun k => spec_Execute.f k (mk t)) (mk (exeF t)) := by
  unfold spec_Execute.f exeF
  rw [mk_size]
  by_cases h : 600 < t.length
  · rw [if_pos h]
    exact ev_pos (by omega) (Ev.now _)
  · rw [if_neg h]
    refine ev_neg (by omega) ?_
    exact exeS_loop t (by omega) t [] [] [] 0 rfl (by simp) good_nil (by simp only [List.length_nil]; omega)
end Go.Proofs.YtbclhpibilbdbaaDoor.BSc
/- Execute returns what the reference's returns, for all arguments. No condition beyond the statement's own. -/
namespace Go.Proofs.YtbclhpibilbdbaaDoor.Pure
open Go.RowKit Go.Proofs.YtbclhpibilbdbaaDoor.PSc Go.Proofs.YtbclhpibilbdbaaDoor.BSc Go.Proofs.YtbclhpibilbdbaaDoorW.PrintWords Go.Proofs.YtbclhpibilbdbaaDoorW.PrintLast Go.Proofs.YtbclhpibilbdbaaDoorW.PrintMore
set_option linter.unusedVariables false
set_option linter.unusedSimpArgs false
theorem FnExactExecute : laws_FnExactExecute.Pure := by
  intro a0 _
  refine Ev.rounds ?_
  unfold laws_FnExactExecute.f
  refine ev_ite (fun _ => Ev.now _) (fun h => ?_)
  have e : a0 = mk a0.data.toList := rfl
  have hl : a0.data.toList.length ≤ 1048576 := by
    have h2 := mk_size a0.data.toList
    rw [mk_data] at h2
    omega
  have hI := exeI a0.data.toList (by omega)
  have hS := exeS a0.data.toList
  rw [← e] at hI hS
  exact Ev.bind hS (Ev.bind hI (ev_pos rfl (Ev.now _)))
end Go.Proofs.YtbclhpibilbdbaaDoor.Pure
namespace Go.Proofs.YtbclhpibilbdbaaDoor.Sh
open Go.RowKit Go.Proofs.YtbclhpibilbdbaaDoorW.PrintWords
set_option linter.unusedVariables false
theorem var_below {P : Program} {w w' : World} {name : String} {cs : Array Value} (h : w.var? P name = some cs) (hb : Below w.heap.size w w') : w'.var? P name = some cs := by
  unfold World.var? at *
  cases hg : P.globalNamed name with
  | none => simp [hg] at h
  | some g =>
    simp only [hg, Option.bind_some] at h ⊢
    have hlt : g < w.heap.size := by
      rcases Nat.lt_or_ge g w.heap.size with h' | h'
      · exact h'
      · rw [Array.getElem?_eq_none h'] at h; simp at h
    rw [hb.block g hlt]
    exact h
theorem star : "*" ++ "errors.errorString" = "*errors.errorString" := by decide
theorem row114 (u : TypeId) (h : Tryd.prog.typeName? 3 u = some "*errors.errorString") : u = 114 :=
  typeName_ptr_named (nm := "errors.errorString") (by rw [star]; kernel_rfl) (by kernel_rfl) (by decide) u (by rw [star]; exact h)
theorem gMax {W : World} (h : W.ShapedOpen Tryd.prog) : ∃ m, W.cell? ⟨0, 0, none⟩ = some (.int .i64 m) :=
  cell_of_shapedOpen_int (t := 3) (zero := #[.int .i64 0]) h (of_decide_eq_true (by kernel_rfl)) (by kernel_rfl) rfl (by kernel_rfl) (by kernel_rfl) Tryd.underlying3
theorem gw_of_laid {W : World} (hL : laidMetH Tryd.prog Rows.fnExactExecuteRow.laid W) (hsh : W.ShapedOpen Tryd.prog) : GW W := by
  rw [MakeChecks.laidMetH_plain _ _ _ (by kernel_rfl)] at hL
  obtain ⟨m, hm⟩ := gMax hsh
  have h3 := hL.tail.tail
  have h5 := h3.tail.tail
  have h6 := h5.tail
  have htab : Lib.TabIs Tryd.prog W "internal/strconv.uint64pow10" .u64 Lib.pow10Tab := Lib.tabIs_of_head (g := 5) (t := 109) (e := 90) (n := 20) (by kernel_rfl) (by kernel_rfl) Tryd.underlying109 Tryd.underlying90 (by kernel_rfl) (by kernel_rfl) h3
  obtain ⟨a0, s0, hv0, _⟩ := laid_sentinel h5 (g := 4) (ti := 60) (tp := 114) (te := 116) (ts := 9) (by kernel_rfl) (by kernel_rfl) Tryd.underlying60 row114 Tryd.underlying114 Tryd.underlying116 rfl rfl Tryd.underlying9 (by kernel_rfl) (by kernel_rfl)
  obtain ⟨a1, s1, hv1, _⟩ := laid_sentinel h6 (g := 3) (ti := 60) (tp := 114) (te := 116) (ts := 9) (by kernel_rfl) (by kernel_rfl) Tryd.underlying60 row114 Tryd.underlying114 Tryd.underlying116 rfl rfl Tryd.underlying9 (by kernel_rfl) (by kernel_rfl)
  intro w' hb
  exact ⟨⟨m, (hb.cell (p := ⟨0, 0, none⟩) (World.block_lt_of_cell? W _ hm)).trans hm⟩, Lib.tabBelow_of_tabIs htab w' hb, ⟨_, _, var_below hv1 hb⟩, ⟨_, _, var_below hv0 hb⟩⟩
theorem wrap_shaped {H : Type} {enc : TypeId × Value → H} {a : Assume} {C : Checked} {os : Os} {f : FuncId} {fn : Func} {s : ChangeSpec} {conds : List PathCond} {apart fresh handsOn again : Bool} {X : World → Array Value → Prop}
    (hX : ∀ (w w' : World) (args : Array Value), w.heap = w'.heap → X w args → X w' args)
    (own : ownKnob C.prog.godebug = none) (started : os.Started) (noInit : C.prog.inits.idxOf? f = none) (hfn : C.prog.funcs[f]? = some fn)
    (witness : ∃ (w : World) (tape : Tape) (i : Input), w.os = os ∧ (w.forCall tape i).Shaped C.prog ∧ i.vars = [] ∧ Input.okWide C.prog (w.forCall tape i) .any w.heap.size f i ∧
      ((s.pre enc C.prog fn conds apart (w.forCall tape i).memory i.args ∧ X (w.forCall tape i).memory i.args) ∧ sizedMet enc C.prog fn (OpenSpec.ofChange s) apart (w.forCall tape i).memory i.args) ∧ a.holds C.prog (lone (Frame.enter C.prog f i.args .normal) [] (w.forCall tape i)))
    (contract : ∀ (W : World) (base : Nat) (args : Array Value) (ds gs : List (DataW H)) (before : List MemPlace),
      (∀ (j : Nat) t v, fn.params[j]? = some t → args[j]? = some v → Value.okWide C.prog W .any base t v) →
      DataW.Whole enc C.prog fn.params.toList s.vars apart W args.toList ds gs before →
      conds.all (PathCond.test C.prog ⟨fn.params.toList, ds, s.plain.varTypes C.prog, gs⟩) = true →
      (DataW.weightsEach C.prog (fn.params.toList ++ s.plain.varTypes C.prog) (ds ++ gs)).all (· ≤ reachBytes) = true → X W args → W.ShapedOpen C.prog →
      Calls C.prog f args W fun e W' => ∃ v, e = .returned v ∧ s.post enc C.prog fn apart fresh handsOn again W args v W') :
    ReturnsInHanded a C os f .any (fun w args => (s.pre enc C.prog fn conds apart w args ∧ X w args) ∧ sizedMet enc C.prog fn (OpenSpec.ofChange s) apart w args) (s.post enc C.prog fn apart fresh handsOn again) := by
  refine returnsInHanded_of_calls own started noInit witness ?_
  intro w tape i _ hsh _ hok hpre hholds
  obtain ⟨_, _, _, fn', hfn', _, _, _, _, hval⟩ := hok
  have e : fn' = fn := Option.some.inj (hfn'.symm.trans hfn)
  subst e
  obtain ⟨⟨⟨ds, gs, before, hw, hc⟩, hx⟩, hz⟩ := hpre
  have hw' := DataW.Whole.of_heap (w' := w.forCall tape i) (by rfl) hw
  refine (contract (w.forCall tape i) w.heap.size i.args ds gs before hval hw' hc (hz.weights hw) (hX _ _ _ (by rfl) hx) hsh).mono fun e W' ⟨v, he, hp⟩ => ?_
  subst he
  exact ChangeSpec.post_blind hp
end Go.Proofs.YtbclhpibilbdbaaDoor.Sh

