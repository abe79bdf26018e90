import Derived.Test.YtnckblolijkdaaaVJPBtx0
import Derived.Deep.LoopGhost
import Derived.Deep.Draws
import Derived.Lib.Walk
import Derived.WalkKit
import Derived.IntWalk
import Derived.Shelf.Abstract
namespace Go.Proofs.Ytnckblolijkdaaa.PBt
open Go.RowKit Go.Proofs.YtnckblolijkdaaaW.PrintWords Go.Proofs.YtnckblolijkdaaaW.PrintLast Go.Proofs.YtnckblolijkdaaaW.PrintMore
attribute [local go_sem] max2_int min2_int max_two min_two max_three min_three max_four min_four
set_option linter.unusedVariables false
set_option linter.unusedSimpArgs false

-- HAND rounds=0 making=1
-- HANDIMPORT Derived.Deep.LoopGhost
-- HANDIMPORT Derived.Deep.Draws
-- HANDIMPORT Derived.Lib.Walk
-- HANDIMPORT Derived.WalkKit
-- HANDIMPORT Derived.IntWalk
-- HANDIMPORT Derived.Shelf.Abstract
theorem clo70 (x0 x2 x3 : Int) (A1 : Option Addr) (n1 c1 B : Nat) (a1 : Int) (W : World) (hcell : W.cell? ⟨B, 0, none⟩ = some (.int .i64 a1)) :
    Calls Try.prog 70 #[.agg #[.int .i64 x0, .slice A1 n1 c1, .int .i64 x2, .int .i64 x3], .pointer (some ⟨B, 0, none⟩)] W fun e w' => e = .returned (.bool (x0 == a1)) ∧ Below W.heap.size W w' := by
 have hc2 : ∀ o : Obj, (W.alloc o).cell? ⟨B, 0, none⟩ = some (.int .i64 a1) := fun o => pw_cell_below (bA_q (bR_q _ _) o) hcell
 go_enter Try.func70, Try.ntmps70
 go_wp2
 go_ret
 exact ⟨rfl, bA_q (bR_q _ _) _⟩
def bplace (a : Int) : Nat → List S39 → Int
 | _, [] => -1
 | i, x :: r => if x.f0 = a then i else bplace a (i + 1) r
theorem bp_none (a : Int) : ∀ (l : List S39) (i : Nat), (∀ x ∈ l, x.f0 ≠ a) → bplace a i l = -1
 | [], _, _ => rfl
 | x :: r, i, h => by rw [bplace, if_neg (h x (by simp))]; exact bp_none a r (i + 1) (fun y hy => h y (by simp [hy]))
theorem bp_some (a : Int) (x : S39) (q : List S39) (hx : x.f0 = a) : ∀ (p : List S39) (i : Nat), (∀ y ∈ p, y.f0 ≠ a) → bplace a i (p ++ x :: q) = ((i + p.length : Nat) : Int)
 | [], i, _ => by rw [List.nil_append, bplace, if_pos hx]; simp
 | y :: p, i, h => by
  rw [List.cons_append, bplace, if_neg (h y (by simp)), bp_some a x q hx p (i + 1) (fun z hz => h z (by simp [hz]))]
  simp; omega
theorem rd39n (l : List S39) (i : Nat) (h : i < l.length) : rd_T39 l (i : Int) = l[i] := by
 unfold rd_T39; rw [List.getD_eq_getElem?_getD]; simp [h]
set_option maxHeartbeats 2000000 in
theorem ixb_calls (A0 : Option Addr) (c0 : Nat) (l0 : List S39) (a1 : Int) (w : World) (B : Nat) (hcell : w.cell? ⟨B, 0, none⟩ = some (.int .i64 a1)) (hr0 : Kd.C k39 w A0 l0.length l0) :
    Calls Try.prog 69 #[.slice A0 l0.length c0, .func (.func 70) #[] #[.pointer (some ⟨B, 0, none⟩)]] w fun e w' => e = .returned (.int .i64 (bplace a1 0 l0)) ∧ Below w.heap.size w w' := by
 have eg : ∀ args w, (callFunc 70 args).run Try.prog w = .ok (.enter 70 args) w := enters_of Try.func70 m5_q rfl
 have hbig : (l0.length : Int) ≤ 9223372036854775807 := by have := hr0.2.1; omega
 have HR := Ae_q hr0
 have HC := Ae_q hcell
 clear hr0 hcell
 go_enter Try.func69, Try.ntmps69
 go_wp2
 go_loopg [5, 8] l0.length (fun gg _ s8 wr => ∃ kk : Nat, kk ≤ l0.length ∧ l0.length - kk ≤ gg ∧ s8 = .int .i64 kk ∧ Aside0 (Below w.heap.size w wr) ∧ Aside0 (∀ j, j < kk → (rd_T39 l0 (j : Int)).f0 ≠ a1))
 case atStart => exact ⟨0, Nat.zero_le _, by omega, rfl, ⟨bR_q _ _⟩, ⟨fun j hj => absurd hj (Nat.not_lt_zero _)⟩⟩
 case round =>
  obtain ⟨kk, hkk, hg, rfl, HB, HA⟩ := hrel
  by_cases hlt : kk < l0.length
  rotate_left
  ·have hltz : ¬ (kk : Int) < (l0.length : Int) := by omega
   have hk : kk = l0.length := by omega
   go_wp2
   go_ret
   refine ⟨?_, HB.out⟩
   rw [bp_none a1 l0 0 (fun z hz => by
    obtain ⟨j, hj, rfl⟩ := List.mem_iff_getElem.1 hz
    have := HA.out j (by omega)
    rwa [rd39n l0 j hj] at this)]
   rfl
  have hltz : (kk : Int) < (l0.length : Int) := by omega
  obtain ⟨ad, A1, c1, eA, q0, q1, q2, q3, hl1, hi1⟩ := at_T39 HR.out (kk : Int) (by omega) hltz
  subst eA
  replace q0 := pw_cell_below HB.out q0
  replace q1 := pw_cell_below HB.out q1
  replace q2 := pw_cell_below HB.out q2
  replace q3 := pw_cell_below HB.out q3
  simp only [Int.toNat_natCast] at q0 q1 q2 q3
  clear hl1 hi1
  have hcon := clo70 (rd_T39 l0 (kk : Int)).f0 (rd_T39 l0 (kk : Int)).f2 (rd_T39 l0 (kk : Int)).f3 A1 (rd_T39 l0 (kk : Int)).f1.length c1 B a1 wr (pw_cell_below HB.out HC.out)
  generalize hy : rd_T39 l0 (kk : Int) = y at q0 q1 q2 q3 hcon
  have HY := Ae_q hy
  clear hy
  by_cases hq : y.f0 = a1
  rotate_left
  ·have hq' : (y.f0 == a1) = false := by simp [hq]
   rw [hq'] at hcon
   have HQ := Ae_q hq
   clear hq hq'
   go_wp2_with (go_at_fn 70; refine hcon.mono ?_; rintro e w' ⟨rfl, hb⟩)
   go_roundg (l0.length - (kk + 1))
   case measure => omega
   case rel =>
    refine ⟨kk + 1, by omega, by omega, by go_num, ⟨bT_q HB.out (by assumption)⟩, ⟨fun j hj => ?_⟩⟩
    by_cases e : j = kk
    ·subst e
     rw [HY.out]; exact HQ.out
    exact HA.out j (by omega)
  have hq' : (y.f0 == a1) = true := by simp [hq]
  rw [hq'] at hcon
  have HQ := Ae_q hq
  clear hq hq'
  go_wp2_with (go_at_fn 70; refine hcon.mono ?_; rintro e w' ⟨rfl, hb⟩)
  go_ret
  refine ⟨?_, bT_q HB.out (by assumption)⟩
  have e : l0 = l0.take kk ++ rd_T39 l0 (kk : Int) :: l0.drop (kk + 1) := by rw [rd39n l0 kk hlt]; simp
  have e2 := bp_some a1 (rd_T39 l0 (kk : Int)) (l0.drop (kk + 1)) (by rw [HY.out]; exact HQ.out) (l0.take kk) 0 (fun z hz => by
   obtain ⟨j, hj, rfl⟩ := List.mem_iff_getElem.1 hz
   have hj' : j < kk := by simp at hj; omega
   have := HA.out j hj'
   rw [rd39n l0 j (by omega)] at this
   simpa using this)
  rw [← e] at e2
  rw [e2]
  have : (l0.take kk).length = kk := by simp; omega
  rw [this]; simp
def impl_batchPlace.f (l0 : List S39) (a1 : Int) : Option Int := some (bplace a1 0 l0)
set_option maxHeartbeats 1000000 in
theorem impl_batchPlace.calls (A0 : Option Addr) (c0 : Nat) (l0 : List S39) (a1 : Int) (r : Int) (w : World) (hr0 : Kd.C k39 w A0 l0.length l0) (hc0 : l0.length ≤ c0) (h : impl_batchPlace.f l0 a1 = some r) :
    Calls Try.prog 58 #[.slice A0 l0.length c0, .int .i64 a1] w fun e w' => e = .returned (.int .i64 r) ∧ Below w.heap.size w w' := by
 obtain rfl := oI_q h
 clear h
 have hcon := ixb_calls A0 c0 l0 a1 (w.alloc (.cells #[.int .i64 a1] 3)) w.heap.size ((bC_q (blk_new w (.cells #[.int .i64 a1] 3)) 0).trans rfl) (cB_q hr0 (bA_q (bR_q _ _) _))
 generalize bplace a1 0 l0 = q at hcon ⊢
 clear hr0
 go_enter Try.func58, Try.ntmps58
 go_wp2_with (go_at_call 69; refine hcon.mono ?_; rintro e w' ⟨rfl, hb⟩)
 go_ret
 exact ⟨rfl, bT_q (bA_q (bR_q _ _) _) hb⟩

end Go.Proofs.Ytnckblolijkdaaa.PBt
