import Derived.Test.YtfnpiacmlahegaaVEPRpx0
import Derived.Test.YtfnpiacmlahegaaVEPRpx3
import Derived.Deep.LoopGhost
import Derived.Deep.Draws
import Derived.Lib.SlBy
import Derived.Lib.Walk
import Derived.WalkKit
import Derived.IntWalk
import Derived.Shelf.Abstract
namespace Go.Proofs.Ytfnpiacmlahegaa.PRp
open Go.RowKit Go.Proofs.YtfnpiacmlahegaaW.PrintWords Go.Proofs.YtfnpiacmlahegaaW.PrintLast Go.Proofs.YtfnpiacmlahegaaW.PrintMore
attribute [local go_sem] max2_int min2_int max_two min_two max_three min_three max_four min_four
set_option linter.unusedVariables false
set_option linter.unusedSimpArgs false

-- HAND rounds=0 making=1
-- HANDIMPORT Derived.Deep.LoopGhost
-- HANDIMPORT Derived.Deep.Draws
-- HANDIMPORT Derived.Lib.SlBy
-- HANDIMPORT Derived.Lib.Walk
-- HANDIMPORT Derived.WalkKit
-- HANDIMPORT Derived.IntWalk
-- HANDIMPORT Derived.Shelf.Abstract
set_option maxHeartbeats 2000000 in
theorem ixf_calls (p : Int → Bool) (g : Nat) (eg : ∀ args w, (callFunc g args).run Try.prog w = .ok (.enter g args) w) (A : Option Addr) (c : Nat) (zs : List Int) (w : World)
    (hp : ∀ (x : Int) (W : World), Calls Try.prog g #[.int .i64 x] W fun e w' => e = .returned (.bool (p x)) ∧ Drawn0 W w') (hC : Kd.C kI_q w A zs.length zs) :
    Calls Try.prog 72 #[.slice A zs.length c, .func (.func g) #[] #[]] w fun e w' => (∃ i : Int, e = .returned (.int .i64 i) ∧ decide (0 ≤ i) = zs.any p) ∧ ∃ q, w' = w.drewN q := by
 have hR := Kd.reads_of_C (enc := Value.int .i64) (d := (0 : Int)) (h1 := fun _ => rfl) hC
 obtain ⟨_, hbig, hread⟩ := hR
 have hpAt : ∀ (x : Int) (q : Nat), Calls Try.prog g #[.int .i64 x] (w.drewN q) fun e w' => e = .returned (.bool (p x)) ∧ ∃ q', w' = (w.drewN q).drewN q' := fun x q => (hp x _).mono (fun e w' h => ⟨h.1, by obtain ⟨q', hq⟩ := h.2; exact ⟨q', hq⟩⟩)
 clear hp hC
 have hread := Ae_q hread
 go_enter Try.func72, Try.ntmps72
 go_wp2
 go_loopg [5, 8] zs.length (fun gg _ s8 wr => ∃ kk q : Nat, kk ≤ zs.length ∧ zs.length - kk ≤ gg ∧ s8 = .int .i64 kk ∧ wr = w.drewN q ∧ Aside0 (∀ j, j < kk → p (zs.getD j 0) = false))
 case atStart => exact ⟨0, 0, Nat.zero_le _, by omega, rfl, rfl, ⟨fun j hj => absurd hj (Nat.not_lt_zero _)⟩⟩
 case round =>
  obtain ⟨kk, q, hkk, hg, rfl, rfl, HA⟩ := hrel
  by_cases hlt : kk < zs.length
  rotate_left
  ·have hltz : ¬ (kk : Int) < (zs.length : Int) := by omega
   have hk : kk = zs.length := by omega
   go_wp2
   go_ret
   refine ⟨⟨_, rfl, ?_⟩, q, rfl⟩
   have e1 : decide (0 ≤ (-1 : Int)) = false := by decide
   rw [e1]; symm; rw [List.any_eq_false]
   intro x hx
   obtain ⟨j, hj, rfl⟩ := List.mem_iff_getElem.1 hx
   have := HA.out j (by omega)
   rw [List.getD_eq_getElem?_getD, List.getElem?_eq_getElem hj] at this
   simpa using this
  have hltz : (kk : Int) < (zs.length : Int) := by omega
  obtain ⟨ad, rfl, hall⟩ := hread.out (by omega)
  have hcell : w.cell? (ad.add kk) = some (.int .i64 (zs.getD kk 0)) := hall kk hlt
  clear hall hread
  generalize hy : zs.getD kk 0 = y at hcell
  have HBy := Ae_q hy
  clear hy
  have hcall := hpAt y
  cases hq : p y with
  | true =>
   rw [hq] at hcall
   go_wp2_with (go_at_fn g; refine (hcall _).mono ?_; rintro e w' ⟨rfl, q', rfl⟩)
   go_ret
   refine ⟨⟨_, rfl, ?_⟩, _, rfl⟩
   have e1 : decide (0 ≤ (kk : Int)) = true := dT_q (by omega)
   rw [e1]; symm; rw [List.any_eq_true]
   refine ⟨y, ?_, hq⟩
   rw [← HBy.out, List.getD_eq_getElem?_getD, List.getElem?_eq_getElem hlt]; exact List.getElem_mem _
  | false =>
   rw [hq] at hcall
   go_wp2_with (go_at_fn g; refine (hcall _).mono ?_; rintro e w' ⟨rfl, q', rfl⟩)
   go_roundg (zs.length - (kk + 1))
   case measure => omega
   case rel =>
    refine ⟨kk + 1, _, by omega, by omega, by go_num, rfl, ⟨fun j hj => ?_⟩⟩
    by_cases e : j = kk
    ·subst e
     rw [HBy.out]; exact hq
    exact HA.out j (by omega)
set_option maxHeartbeats 2000000 in
theorem cof_calls (p : Int → Bool) (g : Nat) (eg : ∀ args w, (callFunc g args).run Try.prog w = .ok (.enter g args) w) (A : Option Addr) (c : Nat) (zs : List Int) (w : World)
    (hp : ∀ (x : Int) (W : World), Calls Try.prog g #[.int .i64 x] W fun e w' => e = .returned (.bool (p x)) ∧ Drawn0 W w') (hC : Kd.C kI_q w A zs.length zs) :
    Calls Try.prog 60 #[.slice A zs.length c, .func (.func g) #[] #[]] w fun e w' => e = .returned (.bool (zs.any p)) ∧ ∃ q, w' = w.drewN q := by
 have hcon := ixf_calls p g eg A c zs w hp hC
 clear hp hC
 generalize zs.any p = b at hcon ⊢
 go_enter Try.func60, Try.ntmps60
 go_wp2_with (go_at_call 72; refine hcon.mono ?_; rintro e w' ⟨⟨i, rfl, hi⟩, q, rfl⟩)
 go_ret
 exact ⟨by subst hi; rfl, q, rfl⟩
theorem within_f (a b c : Int) : impl_within.f a b c = some (decide (b ≤ a ∧ a ≤ c)) := by
 unfold impl_within.f
 by_cases h : a ≥ b
 ·rw [if_pos h]; simp; omega
 rw [if_neg h]; simp; omega
end Go.Proofs.Ytfnpiacmlahegaa.PRp
