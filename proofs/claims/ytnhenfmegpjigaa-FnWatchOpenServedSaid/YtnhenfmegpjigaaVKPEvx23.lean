import Derived.Test.YtnhenfmegpjigaaVKPEvx0
import Derived.Deep.LoopGhost
import Derived.Deep.Draws
import Derived.Lib.Walk
import Derived.WalkKit
import Derived.IntWalk
import Derived.Shelf.Abstract
namespace Go.Proofs.Ytnhenfmegpjigaa.PEv
open Go.RowKit Go.Proofs.YtnhenfmegpjigaaW.PrintWords Go.Proofs.YtnhenfmegpjigaaW.PrintLast Go.Proofs.YtnhenfmegpjigaaW.PrintMore
attribute [local go_sem] max2_int min2_int max_two min_two max_three min_three max_four min_four
set_option linter.unusedVariables false
set_option linter.unusedSimpArgs false

-- HAND rounds=0 making=1
-- HANDIMPORT Derived.Deep.LoopGhost
-- HANDIMPORT Derived.Deep.Draws
-- HANDIMPORT Derived.Lib.Walk
-- HANDIMPORT Derived.WalkKit
-- HANDIMPORT Derived.IntWalk
-- HANDIMPORT Derived.Shelf.Abstract
theorem clo70 (x0 x1 x2 : Int) (B : Nat) (a1 : Int) (W : World) (hcell : W.cell? ⟨B, 3, none⟩ = some (.int .i64 a1)) :
    Calls Try.prog 70 #[.agg #[.int .i64 x0, .int .i64 x1, .int .i64 x2], .pointer (some ⟨B, 0, none⟩)] W fun e w' => e = .returned (.bool (x0 == a1)) ∧ Below W.heap.size W w' := by
 have hc2 : ∀ o : Obj, (W.alloc o).cell? ⟨B, 3, none⟩ = some (.int .i64 a1) := fun o => pw_cell_below (bA_q (bR_q _ _) o) hcell
 go_enter Try.func70, Try.ntmps70
 go_wp2
 go_ret
 exact ⟨rfl, bA_q (bR_q _ _) _⟩
def impl_Guest.go (a : Int) : Nat → List S50 → Int
 | _, [] => -1
 | i, x :: r => if x.f0 = a then i else impl_Guest.go a (i + 1) r
def impl_Guest.f (l0 : List S50) (a1 : Int) : Option Int := some (impl_Guest.go a1 0 l0)
theorem gi_none (a : Int) : ∀ (l : List S50) (i : Nat), (∀ x ∈ l, x.f0 ≠ a) → impl_Guest.go a i l = -1
 | [], _, _ => rfl
 | x :: r, i, h => by rw [impl_Guest.go, if_neg (h x (by simp))]; exact gi_none a r (i + 1) (fun y hy => h y (by simp [hy]))
theorem gi_some (a : Int) (x : S50) (q : List S50) (hx : x.f0 = a) : ∀ (p : List S50) (i : Nat), (∀ y ∈ p, y.f0 ≠ a) → impl_Guest.go a i (p ++ x :: q) = ((i + p.length : Nat) : Int)
 | [], i, _ => by rw [List.nil_append, impl_Guest.go, if_pos hx]; simp
 | y :: p, i, h => by
  rw [List.cons_append, impl_Guest.go, if_neg (h y (by simp)), gi_some a x q hx p (i + 1) (fun z hz => h z (by simp [hz]))]
  simp; omega
theorem rd50n (l : List S50) (i : Nat) (h : i < l.length) : rd_T50 l (i : Int) = l[i] := by
 unfold rd_T50; rw [List.getD_eq_getElem?_getD]; simp [h]
set_option maxHeartbeats 2000000 in
theorem impl_Guest.calls (A0 : Option Addr) (c0 : Nat) (l0 : List (S50)) (a1 : Int) (r : Int) (w : World) (B : Nat) (hcell : w.cell? ⟨B, 3, none⟩ = some (.int .i64 a1)) (hr0 : Kd.C k50 w A0 l0.length l0) (hc0 : l0.length ≤ c0) (h : impl_Guest.f l0 a1 = some r) :
    Calls Try.prog 69 #[.slice A0 l0.length c0, .func (.func 70) #[] #[.pointer (some ⟨B, 0, none⟩)]] w fun e w' => e = .returned (.int .i64 r) ∧ Below w.heap.size w w' := by
 have eg : ∀ args w, (callFunc 70 args).run Try.prog w = .ok (.enter 70 args) w := enters_of Try.func70 (by kernel_rfl) rfl
 obtain rfl := oI_q h
 clear h hc0
 have hbig : (l0.length : Int) ≤ 9223372036854775807 := by have := hr0.2.1; omega
 have HR := Ae_q hr0
 have HC := Ae_q hcell
 clear hr0 hcell
 go_enter Try.func69, Try.ntmps69
 go_wp2
 go_loopg [5, 8] l0.length (fun gg _ s8 wr => ∃ kk : Nat, kk ≤ l0.length ∧ l0.length - kk ≤ gg ∧ s8 = .int .i64 kk ∧ Aside0 (Below w.heap.size w wr) ∧ Aside0 (∀ j, j < kk → (rd_T50 l0 (j : Int)).f0 ≠ a1))
 case atStart => exact ⟨0, Nat.zero_le _, by omega, rfl, ⟨bR_q _ _⟩, ⟨fun j hj => absurd hj (Nat.not_lt_zero _)⟩⟩
 case round =>
  obtain ⟨kk, hkk, hg, rfl, HB, HA⟩ := hrel
  by_cases hlt : kk < l0.length
  rotate_left
  ·have hltz : ¬ (kk : Int) < (l0.length : Int) := by omega
   have hk : kk = l0.length := by omega
   go_wp2
   go_ret
   refine ⟨?_, HB.out⟩
   rw [gi_none a1 l0 0 (fun z hz => by
    obtain ⟨j, hj, rfl⟩ := List.mem_iff_getElem.1 hz
    have := HA.out j (by omega)
    rwa [rd50n l0 j hj] at this)]
   rfl
  have hltz : (kk : Int) < (l0.length : Int) := by omega
  obtain ⟨ad, eA, c0, c1, c2⟩ := at_T50 HR.out (kk : Int) (by omega) hltz
  subst eA
  replace c0 := pw_cell_below HB.out c0
  replace c1 := pw_cell_below HB.out c1
  replace c2 := pw_cell_below HB.out c2
  simp only [Int.toNat_natCast] at c0 c1 c2
  have hcon := clo70 (rd_T50 l0 (kk : Int)).f0 (rd_T50 l0 (kk : Int)).f1 (rd_T50 l0 (kk : Int)).f2 B a1 wr (pw_cell_below HB.out HC.out)
  generalize hy : rd_T50 l0 (kk : Int) = y at c0 c1 c2 hcon
  have HY := Ae_q hy
  clear hy
  by_cases hq : y.f0 = a1
  rotate_left
  ·have hq' : (y.f0 == a1) = false := by simp [hq]
   rw [hq'] at hcon
   have HQ := Ae_q hq
   clear hq hq'
   go_wp2_with (go_at_fn 70; refine hcon.mono ?_; rintro e w' ⟨rfl, hb⟩)
   go_roundg (l0.length - (kk + 1))
   case measure => omega
   case rel =>
    refine ⟨kk + 1, by omega, by omega, by go_num, ⟨bT_q HB.out (by assumption)⟩, ⟨fun j hj => ?_⟩⟩
    by_cases e : j = kk
    ·subst e
     rw [HY.out]; exact HQ.out
    exact HA.out j (by omega)
  have hq' : (y.f0 == a1) = true := by simp [hq]
  rw [hq'] at hcon
  have HQ := Ae_q hq
  clear hq hq'
  go_wp2_with (go_at_fn 70; refine hcon.mono ?_; rintro e w' ⟨rfl, hb⟩)
  go_ret
  refine ⟨?_, bT_q HB.out (by assumption)⟩
  have e : l0 = l0.take kk ++ rd_T50 l0 (kk : Int) :: l0.drop (kk + 1) := by rw [rd50n l0 kk hlt]; simp
  have e2 := gi_some a1 (rd_T50 l0 (kk : Int)) (l0.drop (kk + 1)) (by rw [HY.out]; exact HQ.out) (l0.take kk) 0 (fun z hz => by
   obtain ⟨j, hj, rfl⟩ := List.mem_iff_getElem.1 hz
   have hj' : j < kk := by simp at hj; omega
   have := HA.out j hj'
   rw [rd50n l0 j (by omega)] at this
   simpa using this)
  rw [← e] at e2
  rw [e2]
  have : (l0.take kk).length = kk := by simp; omega
  rw [this]; simp

end Go.Proofs.Ytnhenfmegpjigaa.PEv
