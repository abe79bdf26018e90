import Derived.Test.YtfnpiacmlahegaaVSPRpx0
import Derived.Test.YtfnpiacmlahegaaVSPRpx3
import Derived.Deep.LoopGhost
import Derived.Deep.Draws
import Derived.Lib.SlBy
import Derived.Lib.Walk
import Derived.WalkKit
import Derived.IntWalk
import Derived.Shelf.Abstract
namespace Go.Proofs.Ytfnpiacmlahegaa.PRp
open Go.RowKit Go.Proofs.YtfnpiacmlahegaaW.PrintWords Go.Proofs.YtfnpiacmlahegaaW.PrintLast Go.Proofs.YtfnpiacmlahegaaW.PrintMore
attribute [local go_sem] max2_int min2_int max_two min_two max_three min_three max_four min_four
set_option linter.unusedVariables false
set_option linter.unusedSimpArgs false

-- HAND rounds=0 making=1
-- HANDIMPORT Derived.Deep.LoopGhost
-- HANDIMPORT Derived.Deep.Draws
-- HANDIMPORT Derived.Lib.SlBy
-- HANDIMPORT Derived.Lib.Walk
-- HANDIMPORT Derived.WalkKit
-- HANDIMPORT Derived.IntWalk
-- HANDIMPORT Derived.Shelf.Abstract
set_option maxHeartbeats 2000000 in
theorem ixf_calls (p : Int → Bool) (g : Nat) (eg : ∀ args w, (callFunc g args).run Try.prog w = .ok (.enter g args) w) (A : Option Addr) (c : Nat) (zs : List Int) (w : World)
    (hp : ∀ (x : Int) (W : World), Calls Try.prog g #[.int .i64 x] W fun e w' => e = .returned (.bool (p x)) ∧ Drawn0 W w') (hC : Kd.C kI_q w A zs.length zs) :
    Calls Try.prog 72 #[.slice A zs.length c, .func (.func g) #[] #[]] w fun e w' => (∃ i : Int, e = .returned (.int .i64 i) ∧ decide (0 ≤ i) = zs.any p) ∧ ∃ q, w' = w.drewN q := by
 have hR := Kd.reads_of_C (enc := Value.int .i64) (d := (0 : Int)) (h1 := fun _ => rfl) hC
 obtain ⟨_, hbig, hread⟩ := hR
 have hpAt : ∀ (x : Int) (q : Nat), Calls Try.prog g #[.int .i64 x] (w.drewN q) fun e w' => e = .returned (.bool (p x)) ∧ ∃ q', w' = (w.drewN q).drewN q' := fun x q => (hp x _).mono (fun e w' h => ⟨h.1, by obtain ⟨q', hq⟩ := h.2; exact ⟨q', hq⟩⟩)
 clear hp hC
 have hread := Ae_q hread
 go_enter Try.func72, Try.ntmps72
 go_wp2
 go_loopg [5, 8] zs.length (fun gg _ s8 wr => ∃ kk q : Nat, kk ≤ zs.length ∧ zs.length - kk ≤ gg ∧ s8 = .int .i64 kk ∧ wr = w.drewN q ∧ Aside0 (∀ j, j < kk → p (zs.getD j 0) = false))
 case atStart => exact ⟨0, 0, Nat.zero_le _, by omega, rfl, rfl, ⟨fun j hj => absurd hj (Nat.not_lt_zero _)⟩⟩
 case round =>
  obtain ⟨kk, q, hkk, hg, rfl, rfl, HA⟩ := hrel
  by_cases hlt : kk < zs.length
  rotate_left
  ·have hltz : ¬ (kk : Int) < (zs.length : Int) := by omega
   have hk : kk = zs.length := by omega
   go_wp2
   go_ret
   refine ⟨⟨_, rfl, ?_⟩, q, rfl⟩
   have e1 : decide (0 ≤ (-1 : Int)) = false := by decide
   rw [e1]; symm; rw [List.any_eq_false]
   intro x hx
   obtain ⟨j, hj, rfl⟩ := List.mem_iff_getElem.1 hx
   have := HA.out j (by omega)
   rw [List.getD_eq_getElem?_getD, List.getElem?_eq_getElem hj] at this
   simpa using this
  have hltz : (kk : Int) < (zs.length : Int) := by omega
  obtain ⟨ad, rfl, hall⟩ := hread.out (by omega)
  have hcell : w.cell? (ad.add kk) = some (.int .i64 (zs.getD kk 0)) := hall kk hlt
  clear hall hread
  generalize hy : zs.getD kk 0 = y at hcell
  have HBy := Ae_q hy
  clear hy
  have hcall := hpAt y
  cases hq : p y with
  | true =>
   rw [hq] at hcall
   go_wp2_with (go_at_fn g; refine (hcall _).mono ?_; rintro e w' ⟨rfl, q', rfl⟩)
   go_ret
   refine ⟨⟨_, rfl, ?_⟩, _, rfl⟩
   have e1 : decide (0 ≤ (kk : Int)) = true := dT_q (by omega)
   rw [e1]; symm; rw [List.any_eq_true]
   refine ⟨y, ?_, hq⟩
   rw [← HBy.out, List.getD_eq_getElem?_getD, List.getElem?_eq_getElem hlt]; exact List.getElem_mem _
  | false =>
   rw [hq] at hcall
   go_wp2_with (go_at_fn g; refine (hcall _).mono ?_; rintro e w' ⟨rfl, q', rfl⟩)
   go_roundg (zs.length - (kk + 1))
   case measure => omega
   case rel =>
    refine ⟨kk + 1, _, by omega, by omega, by go_num, rfl, ⟨fun j hj => ?_⟩⟩
    by_cases e : j = kk
    ·subst e
     rw [HBy.out]; exact hq
    exact HA.out j (by omega)
set_option maxHeartbeats 2000000 in
theorem cof_calls (p : Int → Bool) (g : Nat) (eg : ∀ args w, (callFunc g args).run Try.prog w = .ok (.enter g args) w) (A : Option Addr) (c : Nat) (zs : List Int) (w : World)
    (hp : ∀ (x : Int) (W : World), Calls Try.prog g #[.int .i64 x] W fun e w' => e = .returned (.bool (p x)) ∧ Drawn0 W w') (hC : Kd.C kI_q w A zs.length zs) :
    Calls Try.prog 60 #[.slice A zs.length c, .func (.func g) #[] #[]] w fun e w' => e = .returned (.bool (zs.any p)) ∧ ∃ q, w' = w.drewN q := by
 have hcon := ixf_calls p g eg A c zs w hp hC
 clear hp hC
 generalize zs.any p = b at hcon ⊢
 go_enter Try.func60, Try.ntmps60
 go_wp2_with (go_at_call 72; refine hcon.mono ?_; rintro e w' ⟨⟨i, rfl, hi⟩, q, rfl⟩)
 go_ret
 exact ⟨by subst hi; rfl, q, rfl⟩
theorem within_f (a b c : Int) : impl_within.f a b c = some (decide (b ≤ a ∧ a ≤ c)) := by
 unfold impl_within.f
 by_cases h : a ≥ b
 ·rw [if_pos h]; simp; omega
 rw [if_neg h]; simp; omega
theorem clo95 (x : Int) (W : World) : Calls Try.prog 65 #[.int .i64 x] W fun e w' => e = .returned (.bool (!decide (0 ≤ x ∧ x ≤ 3))) ∧ Drawn0 W w' := by
 have hcon := impl_within.calls x 0 3 _ W (within_f x 0 3)
 generalize decide (0 ≤ x ∧ x ≤ 3) = b at hcon ⊢
 go_enter Try.func65, Try.ntmps65
 go_wp2_with (go_at_call 63; refine hcon.mono ?_; rintro e w' ⟨rfl, ⟨nd, rfl⟩⟩)
 go_ret
 exact ⟨rfl, ⟨_, rfl⟩⟩
def impl_KitchenValid.f (a0_0 : Int) (l0_1 : List Int) : Option Bool := some (decide (0 ≤ a0_0 ∧ a0_0 ≤ 9) && (decide (l0_1.length = 4) && !(l0_1.any fun x => !decide (0 ≤ x ∧ x ≤ 3))))
set_option maxHeartbeats 8000000 in
set_option maxRecDepth 100000 in
theorem impl_KitchenValid.calls (a0_0 : Int) (A0_1 : Option Addr) (c0_1 : Nat) (l0_1 : List Int) (r : Bool) (w : World) (hr0_1 : Kd.C kI_q w A0_1 l0_1.length l0_1) (hc0_1 : l0_1.length ≤ c0_1) (h : impl_KitchenValid.f a0_0 l0_1 = some r) :
    Calls Try.prog 49 #[.agg #[.int .i64 a0_0, .slice A0_1 l0_1.length c0_1]] w fun e w' => e = .returned (.bool r) ∧ Below w.heap.size w w' := by
 unfold impl_KitchenValid.f at h
 have eg : ∀ args w, (callFunc 65 args).run Try.prog w = .ok (.enter 65 args) w := enters_of Try.func65 m7_q rfl
 have hf := fun (W : World) (hb : Below w.heap.size w W) => cof_calls (fun x => !decide (0 ≤ x ∧ x ≤ 3)) 65 eg A0_1 c0_1 l0_1 W clo95 (cB_q hr0_1 hb)
 have hs := fun (W : World) => impl_within.calls a0_0 0 9 _ W (within_f a0_0 0 9)
 have hl0 : (l0_1.length : Int) ≤ 9223372036854775807 := by have := hr0_1.2.1; omega
 obtain rfl := oI_q h
 clear h hr0_1
 generalize (l0_1.any fun x => !decide (0 ≤ x ∧ x ≤ 3)) = b at hf ⊢
 generalize decide (0 ≤ a0_0 ∧ a0_0 ≤ 9) = t at hs ⊢
 have hb0 : ∀ (o : Obj) (q : Nat), Below w.heap.size w ((w.alloc o).drewN q) := fun o q => pB_q (bA_q (bR_q _ _) o) q
 cases t with
 | false =>
  go_enter Try.func49, Try.ntmps49
  go_wp2_with (go_at_call 63; refine (hs _).mono ?_; rintro e w' ⟨rfl, ⟨nd, rfl⟩⟩)
  go_ret
  exact ⟨rfl, hb0 _ _⟩
 | true =>
  by_cases hl : l0_1.length = 4
  rotate_left
  ·have hlz : ¬ (l0_1.length : Int) = 4 := by omega
   have e0 : decide (l0_1.length = 4) = false := dF_q hl
   rw [e0]
   go_enter Try.func49, Try.ntmps49
   go_wp2_with (go_at_call 63; refine (hs _).mono ?_; rintro e w' ⟨rfl, ⟨nd, rfl⟩⟩)
   go_ret
   exact ⟨rfl, hb0 _ _⟩
  have e0 : decide (l0_1.length = 4) = true := dT_q hl
  rw [e0]
  simp only [hl] at hf ⊢
  clear hl e0 hl0
  cases b with
  | false =>
   go_enter Try.func49, Try.ntmps49
   go_wp2_with (first | (go_at_call 63; refine (hs _).mono ?_; rintro e w' ⟨rfl, ⟨nd, rfl⟩⟩) | (go_at_call 60; refine (hf _ (hb0 _ _)).mono ?_; rintro e w' ⟨rfl, q, rfl⟩))
   go_ret
   exact ⟨rfl, hb0 _ _⟩
  | true =>
   go_enter Try.func49, Try.ntmps49
   go_wp2_with (first | (go_at_call 63; refine (hs _).mono ?_; rintro e w' ⟨rfl, ⟨nd, rfl⟩⟩) | (go_at_call 60; refine (hf _ (hb0 _ _)).mono ?_; rintro e w' ⟨rfl, q, rfl⟩))
   go_ret
   exact ⟨rfl, hb0 _ _⟩

end Go.Proofs.Ytfnpiacmlahegaa.PRp
