import Derived.Test.YtoaigcdoblnmhaaVePPnx0
import Derived.Test.YtoaigcdoblnmhaaVePPnx8
import Derived.Test.YtoaigcdoblnmhaaVePPnx9
import Derived.Deep.LoopGhost
import Derived.Deep.Draws
import Derived.Lib.SlBy
import Derived.Lib.Walk
import Derived.WalkKit
import Derived.IntWalk
import Derived.Shelf.Abstract
namespace Go.Proofs.Ytoaigcdoblnmhaa.PPn
open Go.RowKit Go.Proofs.YtoaigcdoblnmhaaW.PrintWords Go.Proofs.YtoaigcdoblnmhaaW.PrintLast Go.Proofs.YtoaigcdoblnmhaaW.PrintMore
attribute [local go_sem] max2_int min2_int max_two min_two max_three min_three max_four min_four
set_option linter.unusedVariables false
set_option linter.unusedSimpArgs false

-- HAND rounds=1 making=1
-- HANDIMPORT Derived.Deep.LoopGhost
-- HANDIMPORT Derived.Deep.Draws
-- HANDIMPORT Derived.Lib.SlBy
-- HANDIMPORT Derived.Lib.Walk
-- HANDIMPORT Derived.WalkKit
-- HANDIMPORT Derived.IntWalk
-- HANDIMPORT Derived.Shelf.Abstract
set_option maxHeartbeats 2000000 in
theorem ixf_calls (p : Int → Bool) (g : Nat) (eg : ∀ args w, (callFunc g args).run Try.prog w = .ok (.enter g args) w) (A : Option Addr) (c : Nat) (zs : List Int) (w : World)
    (hp : ∀ (x : Int) (W : World), Calls Try.prog g #[.int .i64 x] W fun e w' => e = .returned (.bool (p x)) ∧ Drawn0 W w') (hC : Kd.C kI_q w A zs.length zs) :
    Calls Try.prog 68 #[.slice A zs.length c, .func (.func g) #[] #[]] w fun e w' => (∃ i : Int, e = .returned (.int .i64 i) ∧ decide (0 ≤ i) = zs.any p) ∧ ∃ q, w' = w.drewN q := by
 have hR := Kd.reads_of_C (enc := Value.int .i64) (d := (0 : Int)) (h1 := fun _ => rfl) hC
 obtain ⟨_, hbig, hread⟩ := hR
 have hpAt : ∀ (x : Int) (q : Nat), Calls Try.prog g #[.int .i64 x] (w.drewN q) fun e w' => e = .returned (.bool (p x)) ∧ ∃ q', w' = (w.drewN q).drewN q' := fun x q => (hp x _).mono (fun e w' h => ⟨h.1, by obtain ⟨q', hq⟩ := h.2; exact ⟨q', hq⟩⟩)
 clear hp hC
 have hread := Ae_q hread
 go_enter Try.func68, Try.ntmps68
 go_wp2
 go_loopg [5, 8] zs.length (fun gg _ s8 wr => ∃ kk q : Nat, kk ≤ zs.length ∧ zs.length - kk ≤ gg ∧ s8 = .int .i64 kk ∧ wr = w.drewN q ∧ Aside0 (∀ j, j < kk → p (zs.getD j 0) = false))
 case atStart => exact ⟨0, 0, Nat.zero_le _, by omega, rfl, rfl, ⟨fun j hj => absurd hj (Nat.not_lt_zero _)⟩⟩
 case round =>
  obtain ⟨kk, q, hkk, hg, rfl, rfl, HA⟩ := hrel
  by_cases hlt : kk < zs.length
  ·have hltz : (kk : Int) < (zs.length : Int) := by omega
   obtain ⟨ad, rfl, hall⟩ := hread.out (by omega)
   have hcell : w.cell? (ad.add kk) = some (.int .i64 (zs.getD kk 0)) := hall kk hlt
   clear hall hread
   generalize hy : zs.getD kk 0 = y at hcell
   have HBy := Ae_q hy
   clear hy
   have hcall := hpAt y
   cases hq : p y with
   | true =>
    rw [hq] at hcall
    go_wp2_with (go_at_fn g; refine (hcall _).mono ?_; rintro e w' ⟨rfl, q', rfl⟩)
    go_ret
    refine ⟨⟨_, rfl, ?_⟩, _, rfl⟩
    have e1 : decide (0 ≤ (kk : Int)) = true := dT_q (by omega)
    rw [e1]; symm; rw [List.any_eq_true]
    refine ⟨y, ?_, hq⟩
    rw [← HBy.out, List.getD_eq_getElem?_getD, List.getElem?_eq_getElem hlt]; exact List.getElem_mem _
   | false =>
    rw [hq] at hcall
    go_wp2_with (go_at_fn g; refine (hcall _).mono ?_; rintro e w' ⟨rfl, q', rfl⟩)
    go_roundg (zs.length - (kk + 1))
    case measure => omega
    case rel =>
     refine ⟨kk + 1, _, by omega, by omega, by go_num, rfl, ⟨fun j hj => ?_⟩⟩
     by_cases e : j = kk
     ·subst e
      rw [HBy.out]; exact hq
     exact HA.out j (by omega)
  have hltz : ¬ (kk : Int) < (zs.length : Int) := by omega
  have hk : kk = zs.length := by omega
  go_wp2
  go_ret
  refine ⟨⟨_, rfl, ?_⟩, q, rfl⟩
  have e1 : decide (0 ≤ (-1 : Int)) = false := by decide
  rw [e1]; symm; rw [List.any_eq_false]
  intro x hx
  obtain ⟨j, hj, rfl⟩ := List.mem_iff_getElem.1 hx
  have := HA.out j (by omega)
  rw [List.getD_eq_getElem?_getD, List.getElem?_eq_getElem hj] at this
  simpa using this
set_option maxHeartbeats 2000000 in
theorem cof_calls (p : Int → Bool) (g : Nat) (eg : ∀ args w, (callFunc g args).run Try.prog w = .ok (.enter g args) w) (A : Option Addr) (c : Nat) (zs : List Int) (w : World)
    (hp : ∀ (x : Int) (W : World), Calls Try.prog g #[.int .i64 x] W fun e w' => e = .returned (.bool (p x)) ∧ Drawn0 W w') (hC : Kd.C kI_q w A zs.length zs) :
    Calls Try.prog 59 #[.slice A zs.length c, .func (.func g) #[] #[]] w fun e w' => e = .returned (.bool (zs.any p)) ∧ ∃ q, w' = w.drewN q := by
 have hcon := ixf_calls p g eg A c zs w hp hC
 clear hp hC
 generalize zs.any p = b at hcon ⊢
 go_enter Try.func59, Try.ntmps59
 go_wp2_with (go_at_call 68; refine hcon.mono ?_; rintro e w' ⟨⟨i, rfl, hi⟩, q, rfl⟩)
 go_ret
 exact ⟨by subst hi; rfl, q, rfl⟩
theorem within_f (a b c : Int) : impl_within.f a b c = some (decide (b ≤ a ∧ a ≤ c)) := by
 unfold impl_within.f
 by_cases h : a ≥ b
 ·rw [if_pos h]; simp; omega
 rw [if_neg h]; simp; omega
theorem st88 (x : Int) (W : World) : Calls Try.prog 61 #[.int .i64 x] W fun e w' => e = .returned (.bool (decide (0 ≤ x ∧ x ≤ 999))) ∧ Drawn0 W w' := by
 have hcon := impl_within.calls x 0 999 _ W (within_f x 0 999)
 generalize decide (0 ≤ x ∧ x ≤ 999) = b at hcon ⊢
 go_enter Try.func61, Try.ntmps61
 go_wp2_with (go_at_call 64; refine hcon.mono ?_; rintro e w' ⟨rfl, ⟨nd, rfl⟩⟩)
 go_ret
 exact ⟨rfl, ⟨_, rfl⟩⟩
theorem clo90 (x : Int) (W : World) : Calls Try.prog 60 #[.int .i64 x] W fun e w' => e = .returned (.bool (!decide (0 ≤ x ∧ x ≤ 999))) ∧ Drawn0 W w' := by
 have hcon := st88 x W
 generalize decide (0 ≤ x ∧ x ≤ 999) = b at hcon ⊢
 go_enter Try.func60, Try.ntmps60
 go_wp2_with (go_at_call 61; refine hcon.mono ?_; rintro e w' ⟨rfl, ⟨nd, rfl⟩⟩)
 go_ret
 exact ⟨rfl, ⟨_, rfl⟩⟩
def impl_startsValid.f (k : Nat) (l0 : List S31) (l1 : List Int) : Option Bool := (impl_StepsValid.f k l0).bind fun t => some (t && (decide (l1.length = l0.length) && !(l1.any fun x => !decide (0 ≤ x ∧ x ≤ 999))))
theorem impl_startsValid.mono : ∀ a0 a1 k, LeO (impl_startsValid.f k a0 a1) (impl_startsValid.f (k + 1) a0 a1) := by
 intro a0 a1 k r h
 unfold impl_startsValid.f at h ⊢
 obtain ⟨t, h1, h2⟩ := oB_q.mp h
 rw [impl_StepsValid.mono _ k _ h1]
 exact h2
set_option maxHeartbeats 8000000 in
set_option maxRecDepth 100000 in
theorem impl_startsValid.calls (k : Nat) (A0 : Option Addr) (c0 : Nat) (l0 : List (S31)) (A1 : Option Addr) (c1 : Nat) (l1 : List Int) (r : Bool) (w : World) (hr0 : Kd.C k31 w A0 l0.length l0) (hc0 : l0.length ≤ c0) (hr1 : Kd.C kI_q w A1 l1.length l1) (hc1 : l1.length ≤ c1) (h : impl_startsValid.f k l0 l1 = some r) :
    Calls Try.prog 35 #[.slice A0 l0.length c0, .slice A1 l1.length c1] w fun e w' => e = .returned (.bool r) ∧ Below w.heap.size w w' := by
 unfold impl_startsValid.f at h
 obtain ⟨t, h1, h2⟩ := oB_q.mp h
 have hs := impl_StepsValid.calls k A0 c0 l0 t w hr0 hc0 h1
 have eg : ∀ args w, (callFunc 60 args).run Try.prog w = .ok (.enter 60 args) w := enters_of Try.func60 (by kernel_rfl) rfl
 have hf := fun (W : World) (hb : Below w.heap.size w W) => cof_calls (fun x => !decide (0 ≤ x ∧ x ≤ 999)) 60 eg A1 c1 l1 W clo90 (cB_q hr1 hb)
 have hl0 : (l0.length : Int) ≤ 9223372036854775807 := by have := hr0.2.1; omega
 have hl1 : (l1.length : Int) ≤ 9223372036854775807 := by have := hr1.2.1; omega
 obtain rfl := oI_q h2
 clear h h1 h2 hr0 hr1
 generalize (l1.any fun x => !decide (0 ≤ x ∧ x ≤ 999)) = b at hf ⊢
 cases t with
 | false =>
  go_enter Try.func35, Try.ntmps35
  go_wp2_with (go_at_call 58; refine hs.mono ?_; rintro e w' ⟨rfl, hb⟩)
  go_ret
  exact ⟨rfl, hb⟩
 | true =>
  by_cases hl : l1.length = l0.length
  ·have e0 : decide (l1.length = l0.length) = true := dT_q hl
   rw [e0]
   simp only [hl] at hf ⊢
   clear hl e0 hl1
   cases b with
   | false =>
    go_enter Try.func35, Try.ntmps35
    go_wp2_with (first | (go_at_call 58; refine hs.mono ?_; rintro e w' ⟨rfl, hb⟩) | (go_at_call 59; refine (hf _ (by assumption)).mono ?_; rintro e w' ⟨rfl, q, rfl⟩))
    go_ret
    exact ⟨rfl, pB_q hb _⟩
   | true =>
    go_enter Try.func35, Try.ntmps35
    go_wp2_with (first | (go_at_call 58; refine hs.mono ?_; rintro e w' ⟨rfl, hb⟩) | (go_at_call 59; refine (hf _ (by assumption)).mono ?_; rintro e w' ⟨rfl, q, rfl⟩))
    go_ret
    exact ⟨rfl, pB_q hb _⟩
  have hlz : ¬ (l1.length : Int) = (l0.length : Int) := by omega
  have e0 : decide (l1.length = l0.length) = false := dF_q hl
  rw [e0]
  go_enter Try.func35, Try.ntmps35
  go_wp2_with (go_at_call 58; refine hs.mono ?_; rintro e w' ⟨rfl, hb⟩)
  go_ret
  exact ⟨rfl, hb⟩

end Go.Proofs.Ytoaigcdoblnmhaa.PPn
