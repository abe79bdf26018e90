import Derived.Test.YtnckblolijkdaaaVJPBtx0
import Derived.Test.YtnckblolijkdaaaVJPBtx4
import Derived.Test.YtnckblolijkdaaaVJPBtx5
import Derived.Test.YtnckblolijkdaaaVJPBtx9
import Derived.Deep.LoopGhost
import Derived.Deep.Draws
import Derived.Lib.Walk
import Derived.WalkKit
import Derived.IntWalk
import Derived.Shelf.Abstract
namespace Go.Proofs.Ytnckblolijkdaaa.PBt
open Go.RowKit Go.Proofs.YtnckblolijkdaaaW.PrintWords Go.Proofs.YtnckblolijkdaaaW.PrintLast Go.Proofs.YtnckblolijkdaaaW.PrintMore
attribute [local go_sem] max2_int min2_int max_two min_two max_three min_three max_four min_four
set_option linter.unusedVariables false
set_option linter.unusedSimpArgs false

-- HAND rounds=1 making=1
-- HANDIMPORT Derived.Deep.LoopGhost
-- HANDIMPORT Derived.Deep.Draws
-- HANDIMPORT Derived.Lib.Walk
-- HANDIMPORT Derived.WalkKit
-- HANDIMPORT Derived.IntWalk
-- HANDIMPORT Derived.Shelf.Abstract
theorem within_f (a b c : Int) : impl_within.f a b c = some (decide (b ≤ a ∧ a ≤ c)) := by
 unfold impl_within.f
 by_cases h : a ≥ b
 ·rw [if_pos h]; simp; omega
 rw [if_neg h]; simp; omega
theorem minute_f (a : Int) : impl_isMinute.f a = some (decide (0 ≤ a ∧ a ≤ 1439)) := by unfold impl_isMinute.f; rw [within_f]; rfl
def badP (l : List S39) (p : S49) : Bool := !decide (1 ≤ p.f0 ∧ p.f0 ≤ 99) || (decide (bplace p.f1 0 l < 0) || !decide (0 ≤ p.f2 ∧ p.f2 ≤ 1439))
set_option maxHeartbeats 2000000 in
theorem clo57 (A0 : Option Addr) (c0 : Nat) (l0 : List S39) (B : Nat) (p : S49) (W : World) (hcell : W.cell? ⟨B, 0, none⟩ = some (.slice A0 l0.length c0)) (hr0 : Kd.C k39 W A0 l0.length l0) (hc0 : l0.length ≤ c0) :
    Calls Try.prog 57 #[.agg #[.int .i64 p.f0, .int .i64 p.f1, .int .i64 p.f2], .pointer (some ⟨B, 0, none⟩)] W fun e w' => e = .returned (.bool (badP l0 p)) ∧ Below W.heap.size W w' := by
 have hc2 : ∀ (o : Obj) (n : Nat), ((W.alloc o).drewN n).cell? ⟨B, 0, none⟩ = some (.slice A0 l0.length c0) := fun o n => pw_cell_below (pB_q (bA_q (bR_q _ _) o) n) hcell
 have hc3 : ∀ (o : Obj), (W.alloc o).cell? ⟨B, 0, none⟩ = some (.slice A0 l0.length c0) := fun o => pw_cell_below (bA_q (bR_q _ _) o) hcell
 have hw := fun (W' : World) => impl_within.calls p.f0 1 99 _ W' (within_f p.f0 1 99)
 have hb := fun (W' : World) (hW : Below W.heap.size W W') => impl_batchPlace.calls A0 c0 l0 p.f1 _ W' (cB_q hr0 hW) hc0 rfl
 have hm := fun (W' : World) => impl_isMinute.calls p.f2 _ W' (minute_f p.f2)
 have hb0 : ∀ (o : Obj) (q : Nat), Below W.heap.size W ((W.alloc o).drewN q) := fun o q => pB_q (bA_q (bR_q _ _) o) q
 unfold badP
 generalize decide (1 ≤ p.f0 ∧ p.f0 ≤ 99) = t1 at hw ⊢
 generalize decide (0 ≤ p.f2 ∧ p.f2 ≤ 1439) = t3 at hm ⊢
 generalize bplace p.f1 0 l0 = q at hb ⊢
 clear hr0 hcell hc0
 generalize p.f0 = p0 at hw ⊢
 generalize p.f1 = p1 at hb ⊢
 generalize p.f2 = p2 at hm ⊢
 cases t1 with
 | false =>
  go_enter Try.func57, Try.ntmps57
  go_wp2_with (go_at_call 47; refine (hw _).mono ?_; rintro e w' ⟨rfl, ⟨nd, rfl⟩⟩)
  go_ret
  exact ⟨rfl, hb0 _ _⟩
 | true =>
  by_cases hq : q < 0
  ·have hq' : decide (q < 0) = true := dT_q hq
   rw [hq']
   clear hq'
   go_enter Try.func57, Try.ntmps57
   go_wp2_with (first | (go_at_call 47; refine (hw _).mono ?_; rintro e w' ⟨rfl, ⟨nd, rfl⟩⟩) | (go_at_call 58; refine (hb _ (hb0 _ _)).mono ?_; rintro e w' ⟨rfl, hb1⟩))
   go_ret
   exact ⟨rfl, bT_q (hb0 _ _) (by assumption)⟩
  have hq' : decide (q < 0) = false := dF_q hq
  rw [hq']
  clear hq'
  go_enter Try.func57, Try.ntmps57
  go_wp2_with (first | (go_at_call 47; refine (hw _).mono ?_; rintro e w' ⟨rfl, ⟨nd, rfl⟩⟩) | (go_at_call 58; refine (hb _ (hb0 _ _)).mono ?_; rintro e w' ⟨rfl, hb1⟩; have hc9 : w'.cell? ⟨W.heap.size, 2, none⟩ = some (.int .i64 p2) := pw_cell_below hb1 ((bC_q (bN_q (blk_new W (.cells #[.int .i64 p0, .int .i64 p1, .int .i64 p2] 49)) nd) 2).trans rfl)) | (go_at_call 46; refine (hm _).mono ?_; rintro e w'' ⟨rfl, ⟨nd2, rfl⟩⟩))
  go_ret
  exact ⟨by simp only [dF_q (show ¬ q < 0 by omega)]; rfl, pB_q (bT_q (hb0 _ _) hb1) _⟩
def pplace (l : List S39) : Nat → List S49 → Int
 | _, [] => -1
 | i, x :: r => if badP l x = true then i else pplace l (i + 1) r
theorem pp_none (l0 : List S39) : ∀ (l : List S49) (i : Nat), (∀ x ∈ l, badP l0 x = false) → pplace l0 i l = -1
 | [], _, _ => rfl
 | x :: r, i, h => by rw [pplace, if_neg (by rw [h x (by simp)]; simp)]; exact pp_none l0 r (i + 1) (fun y hy => h y (by simp [hy]))
theorem pp_some (l0 : List S39) (x : S49) (q : List S49) (hx : badP l0 x = true) : ∀ (p : List S49) (i : Nat), (∀ y ∈ p, badP l0 y = false) → pplace l0 i (p ++ x :: q) = ((i + p.length : Nat) : Int)
 | [], i, _ => by rw [List.nil_append, pplace, if_pos hx]; simp
 | y :: p, i, h => by
  rw [List.cons_append, pplace, if_neg (by rw [h y (by simp)]; simp), pp_some l0 x q hx p (i + 1) (fun z hz => h z (by simp [hz]))]
  simp; omega
theorem pp_any (l0 : List S39) : ∀ (l : List S49) (i : Nat), decide (pplace l0 i l ≥ 0) = l.any (badP l0)
 | [], i => by simp [pplace]
 | x :: r, i => by
  rw [pplace, List.any_cons]
  cases h : badP l0 x with
  | true => simp
  | false => rw [if_neg (by simp), Bool.false_or]; exact pp_any l0 r (i + 1)
theorem rd49n (l : List S49) (i : Nat) (h : i < l.length) : rd_T49 l (i : Int) = l[i] := by
 unfold rd_T49; rw [List.getD_eq_getElem?_getD]; simp [h]
set_option maxHeartbeats 2000000 in
theorem ixp_calls (A0 : Option Addr) (c0 : Nat) (l0 : List S39) (A1 : Option Addr) (c1 : Nat) (l1 : List S49) (w : World) (B : Nat) (hcell : w.cell? ⟨B, 0, none⟩ = some (.slice A0 l0.length c0)) (hr0 : Kd.C k39 w A0 l0.length l0) (hc0 : l0.length ≤ c0) (hr1 : Kd.C k49 w A1 l1.length l1) :
    Calls Try.prog 68 #[.slice A1 l1.length c1, .func (.func 57) #[] #[.pointer (some ⟨B, 0, none⟩)]] w fun e w' => e = .returned (.int .i64 (pplace l0 0 l1)) ∧ Below w.heap.size w w' := by
 have eg : ∀ args w, (callFunc 57 args).run Try.prog w = .ok (.enter 57 args) w := enters_of Try.func57 m5_q rfl
 have hbig : (l1.length : Int) ≤ 9223372036854775807 := by have := hr1.2.1; omega
 have HR := Ae_q hr1
 have HR0 := Ae_q hr0
 have HC := Ae_q hcell
 have HC0 := Ae_q hc0
 clear hr0 hcell hr1 hc0
 go_enter Try.func68, Try.ntmps68
 go_wp2
 go_loopg [5, 8] l1.length (fun gg _ s8 wr => ∃ kk : Nat, kk ≤ l1.length ∧ l1.length - kk ≤ gg ∧ s8 = .int .i64 kk ∧ Aside0 (Below w.heap.size w wr) ∧ Aside0 (∀ j, j < kk → badP l0 (rd_T49 l1 (j : Int)) = false))
 case atStart => exact ⟨0, Nat.zero_le _, by omega, rfl, ⟨bR_q _ _⟩, ⟨fun j hj => absurd hj (Nat.not_lt_zero _)⟩⟩
 case round =>
  obtain ⟨kk, hkk, hg, rfl, HB, HA⟩ := hrel
  by_cases hlt : kk < l1.length
  rotate_left
  ·have hltz : ¬ (kk : Int) < (l1.length : Int) := by omega
   have hk : kk = l1.length := by omega
   go_wp2
   go_ret
   refine ⟨?_, HB.out⟩
   rw [pp_none l0 l1 0 (fun z hz => by
    obtain ⟨j, hj, rfl⟩ := List.mem_iff_getElem.1 hz
    have := HA.out j (by omega)
    rwa [rd49n l1 j hj] at this)]
   rfl
  have hltz : (kk : Int) < (l1.length : Int) := by omega
  obtain ⟨ad, eA, q0, q1, q2⟩ := at_T49 HR.out (kk : Int) (by omega) hltz
  subst eA
  replace q0 := pw_cell_below HB.out q0
  replace q1 := pw_cell_below HB.out q1
  replace q2 := pw_cell_below HB.out q2
  simp only [Int.toNat_natCast] at q0 q1 q2
  have hcon := clo57 A0 c0 l0 B (rd_T49 l1 (kk : Int)) wr (pw_cell_below HB.out HC.out) (cB_q HR0.out HB.out) HC0.out
  generalize hy : rd_T49 l1 (kk : Int) = y at q0 q1 q2 hcon
  have HY := Ae_q hy
  clear hy
  by_cases hq : badP l0 y = true
  rotate_left
  ·replace hq : badP l0 y = false := by simpa using hq
   rw [hq] at hcon
   have HQ := Ae_q hq
   clear hq
   go_wp2_with (go_at_fn 57; refine hcon.mono ?_; rintro e w' ⟨rfl, hb⟩)
   go_roundg (l1.length - (kk + 1))
   case measure => omega
   case rel =>
    refine ⟨kk + 1, by omega, by omega, by go_num, ⟨bT_q HB.out (by assumption)⟩, ⟨fun j hj => ?_⟩⟩
    by_cases e : j = kk
    ·subst e
     rw [HY.out]; exact HQ.out
    exact HA.out j (by omega)
  rw [hq] at hcon
  have HQ := Ae_q hq
  clear hq
  go_wp2_with (go_at_fn 57; refine hcon.mono ?_; rintro e w' ⟨rfl, hb⟩)
  go_ret
  refine ⟨?_, bT_q HB.out (by assumption)⟩
  have e : l1 = l1.take kk ++ rd_T49 l1 (kk : Int) :: l1.drop (kk + 1) := by rw [rd49n l1 kk hlt]; simp
  have e2 := pp_some l0 (rd_T49 l1 (kk : Int)) (l1.drop (kk + 1)) (by rw [HY.out]; exact HQ.out) (l1.take kk) 0 (fun z hz => by
   obtain ⟨j, hj, rfl⟩ := List.mem_iff_getElem.1 hz
   have hj' : j < kk := by simp at hj; omega
   have := HA.out j hj'
   rw [rd49n l1 j (by omega)] at this
   simpa using this)
  rw [← e] at e2
  rw [e2]
  have : (l1.take kk).length = kk := by simp; omega
  rw [this]; simp
theorem cfp_calls (A0 : Option Addr) (c0 : Nat) (l0 : List S39) (A1 : Option Addr) (c1 : Nat) (l1 : List S49) (w : World) (B : Nat) (hcell : w.cell? ⟨B, 0, none⟩ = some (.slice A0 l0.length c0)) (hr0 : Kd.C k39 w A0 l0.length l0) (hc0 : l0.length ≤ c0) (hr1 : Kd.C k49 w A1 l1.length l1) :
    Calls Try.prog 56 #[.slice A1 l1.length c1, .func (.func 57) #[] #[.pointer (some ⟨B, 0, none⟩)]] w fun e w' => e = .returned (.bool (l1.any (badP l0))) ∧ Below w.heap.size w w' := by
 have hcon := fun (W : World) (hW : Below w.heap.size w W) => ixp_calls A0 c0 l0 A1 c1 l1 W B (pw_cell_below hW hcell) (cB_q hr0 hW) hc0 (cB_q hr1 hW)
 rw [← pp_any l0 l1 0]
 generalize pplace l0 0 l1 = q at hcon ⊢
 clear hr0 hr1 hcell
 go_enter Try.func56, Try.ntmps56
 go_wp2_with (go_at_call 68; refine (hcon _ (bR_q _ _)).mono ?_; rintro e w' ⟨rfl, hb⟩)
 go_ret
 exact ⟨rfl, by assumption⟩
def impl_PlatesValid.f (k : Nat) (l0 : List S39) (l1 : List S49) : Option Bool := (impl_BatchesValid.f k l0).bind fun t => some (t && (decide (l1.length ≤ 16) && !(l1.any (badP l0))))
set_option maxHeartbeats 2000000 in
theorem impl_PlatesValid.calls (k : Nat) (A0 : Option Addr) (c0 : Nat) (l0 : List S39) (A1 : Option Addr) (c1 : Nat) (l1 : List S49) (r : Bool) (w : World) (hr0 : Kd.C k39 w A0 l0.length l0) (hc0 : l0.length ≤ c0) (hr1 : Kd.C k49 w A1 l1.length l1) (hc1 : l1.length ≤ c1) (h : impl_PlatesValid.f k l0 l1 = some r) :
    Calls Try.prog 30 #[.slice A0 l0.length c0, .slice A1 l1.length c1] w fun e w' => e = .returned (.bool r) ∧ Below w.heap.size w w' := by
 unfold impl_PlatesValid.f at h
 obtain ⟨t, h1, h2⟩ := oB_q.mp h
 obtain rfl := oI_q h2
 clear h h2
 have hbv := fun (W : World) (hW : Below w.heap.size w W) => impl_BatchesValid.calls k A0 c0 l0 t W (cB_q hr0 hW) hc0 h1
 have hcf := fun (W : World) (hW : Below w.heap.size w W) (hcell : W.cell? ⟨w.heap.size, 0, none⟩ = some (.slice A0 l0.length c0)) => cfp_calls A0 c0 l0 A1 c1 l1 W w.heap.size hcell (cB_q hr0 hW) hc0 (cB_q hr1 hW)
 have hbx : (w.alloc (.cells #[.slice A0 l0.length c0] 23)).cell? ⟨w.heap.size, 0, none⟩ = some (.slice A0 l0.length c0) := (bC_q (blk_new w (.cells #[.slice A0 l0.length c0] 23)) 0).trans rfl
 have hb0 : Below w.heap.size w (w.alloc (.cells #[.slice A0 l0.length c0] 23)) := bA_q (bR_q _ _) _
 generalize l1.any (badP l0) = ab at hcf ⊢
 clear hr0 hr1 h1
 cases t with
 | false =>
  go_enter Try.func30, Try.ntmps30
  go_wp2_with (go_at_call 15; refine (hbv _ hb0).mono ?_; rintro e w' ⟨rfl, hb⟩)
  go_ret
  exact ⟨rfl, bT_q hb0 hb⟩
 | true =>
  by_cases hl : l1.length ≤ 16
  rotate_left
  ·have hl' : decide (l1.length ≤ 16) = false := dF_q hl
   rw [hl']
   have hlz : ¬ (l1.length : Int) ≤ 16 := by omega
   clear hl' hl
   go_enter Try.func30, Try.ntmps30
   go_wp2_with (first | (go_at_call 15; refine (hbv _ hb0).mono ?_; rintro e w' ⟨rfl, hb⟩))
   go_ret
   exact ⟨rfl, bT_q hb0 hb⟩
  have hl' : decide (l1.length ≤ 16) = true := dT_q hl
  rw [hl']
  have hlz : (l1.length : Int) ≤ 16 := by omega
  clear hl' hl
  go_enter Try.func30, Try.ntmps30
  go_wp2_with (first | (go_at_call 15; refine (hbv _ hb0).mono ?_; rintro e w' ⟨rfl, hb⟩) | (go_at_call 56; refine (hcf _ (bT_q hb0 hb) (pw_cell_below hb hbx)).mono ?_; rintro e w'' ⟨rfl, hb2⟩))
  go_ret
  exact ⟨rfl, bT_q (bT_q hb0 hb) hb2⟩

end Go.Proofs.Ytnckblolijkdaaa.PBt
