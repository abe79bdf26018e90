import Derived.Test.YtjnagefogjkbbaaVaPPlx0
namespace Go.Proofs.Ytjnagefogjkbbaa.PPl
open Go.RowKit Go.Proofs.YtjnagefogjkbbaaW.PrintWords Go.Proofs.YtjnagefogjkbbaaW.PrintLast Go.Proofs.YtjnagefogjkbbaaW.PrintMore
attribute [local go_sem] max2_int min2_int max_two min_two max_three min_three max_four min_four
set_option linter.unusedVariables false
set_option linter.unusedSimpArgs false

def spec_l6In.f (a0 : Int) (a1 : Int) (a2 : Int) : Option (Bool) := if a0 ≥ a1 then (some (decide (a0 ≤ a2))) else (some false)
set_option maxHeartbeats 8000000 in
set_option maxRecDepth 100000 in
theorem spec_l6In.calls (a0 : Int) (a1 : Int) (a2 : Int) (r : Bool) (w : World) (h : spec_l6In.f a0 a1 a2 = some r) :
    Calls Try.prog 19 #[.int .i64 a0, .int .i64 a1, .int .i64 a2] w fun e w' => e = .returned (.bool r) ∧ Drawn0 w w' := by
 have H : (if a0 ≥ a1 then (some (decide (a0 ≤ a2))) else (some false)) = some r := h
 clear h
 by_cases c4 : a0 ≥ a1
 ·rw [if_pos c4] at H
  have c4b0 : decide (a1 ≤ a0) = true := dT_q c4
  clear c4
  obtain rfl := oI_q H
  go_enter Try.func19, Try.ntmps19
  go_wp2
  go_ret
  exact ⟨by first | rfl | (simp; done) | (simp [*]; done), by repeat (first | exact Drawn0.refl _ | apply Drawn0.step)⟩
 rw [if_neg c4] at H
 have c4b0 : decide (a1 ≤ a0) = false := dF_q c4
 clear c4
 obtain rfl := oI_q H
 go_enter Try.func19, Try.ntmps19
 go_wp2
 go_ret
 exact ⟨by first | rfl | (simp; done) | (simp [*]; done), by repeat (first | exact Drawn0.refl _ | apply Drawn0.step)⟩

def spec_PlanDelay.l0 : Nat → List Int → List Int → Int → Int → Option (Int)
 | 0, _, _, _, _ => none
 | k + 1, x0, x1, x5, x6 => if x6 < (x0.length : Int) then (if 0 ≤ x6 then ((spec_l6In.f (rd x0 x6) 0 999).bind fun t102 => (if t102 = true then (if x6 < (x1.length : Int) then ((spec_l6In.f (rd x1 x6) (rd x0 x6) 999).bind fun t105 => (if t105 = true then (spec_PlanDelay.l0 k x0 x1 (wrap64 ((wrap64 (x5 + (rd x1 x6))) - (rd x0 x6))) (wrap64 (x6 + 1))) else (some (-1)))) else (none)) else (some (-1)))) else (none)) else (some x5)
def spec_PlanDelay.f (k : Nat) (l0 : List Int) (l1 : List Int) : Option (Int) := if (l0.length : Int) = (l1.length : Int) then (spec_PlanDelay.l0 k l0 l1 0 0) else (some (-1))
theorem spec_PlanDelay.mono_l : ∀ k, (∀ y0 y1 y2 y3, LeO (spec_PlanDelay.l0 k y0 y1 y2 y3) (spec_PlanDelay.l0 (k + 1) y0 y1 y2 y3))
 | 0 => fun _ _ _ _ r h => by simp [spec_PlanDelay.l0] at h
 | k + 1 => by
  have ih0 := spec_PlanDelay.mono_l k
  intro y0 y1 y2 y3
  unfold spec_PlanDelay.l0
  repeat' first
  | (with_reducible exact ih0 _ _ _ _)
  | (with_reducible exact lR_q _)
  | (with_reducible exact lO_q _)
  | (with_reducible refine lI_q ?_ ?_)
  | (with_reducible refine lB_q ?_ (fun _ => ?_))
  | exact ih0 _ _ _ _
  | exact lO_q _
  | refine lI_q ?_ ?_
  | refine lB_q ?_ (fun _ => ?_)
theorem spec_PlanDelay.mono : ∀ a0 a1 k, LeO (spec_PlanDelay.f k a0 a1) (spec_PlanDelay.f (k + 1) a0 a1) := by
 intro a0 a1 k
 have ih0 := spec_PlanDelay.mono_l k
 unfold spec_PlanDelay.f
 repeat' first
  | (with_reducible exact ih0 _ _ _ _)
  | (with_reducible exact lR_q _)
  | (with_reducible exact lO_q _)
  | (with_reducible refine lI_q ?_ ?_)
  | (with_reducible refine lB_q ?_ (fun _ => ?_))
  | exact ih0 _ _ _ _
  | exact lO_q _
  | refine lI_q ?_ ?_
  | refine lB_q ?_ (fun _ => ?_)
set_option maxHeartbeats 8000000 in
set_option maxRecDepth 100000 in
theorem spec_PlanDelay.calls (k : Nat) (A0 : Option Addr) (c0 : Nat) (l0 : List Int) (A1 : Option Addr) (c1 : Nat) (l1 : List Int) (r : Int) (w : World) (hr0 : Kd.C kI_q w A0 l0.length l0) (hc0 : l0.length ≤ c0) (hr1 : Kd.C kI_q w A1 l1.length l1) (hc1 : l1.length ≤ c1) (h : spec_PlanDelay.f k l0 l1 = some r) :
    Calls Try.prog 7 #[.slice A0 l0.length c0, .slice A1 l1.length c1] w fun e w' => e = .returned (.int .i64 r) ∧ Drawn0 w w' := by
 have HR0 := Ae_q hr0
 have HC0 := Ae_q hc0
 clear hr0 hc0
 have HR1 := Ae_q hr1
 have HC1 := Ae_q hc1
 clear hr1 hc1
 have H : (if (l0.length : Int) = (l1.length : Int) then (spec_PlanDelay.l0 k l0 l1 0 0) else (some (-1))) = some r := h
 clear h
 by_cases c3 : (l0.length : Int) = (l1.length : Int)
 ·rw [if_pos c3] at H
  have c3b0 : ((l0.length : Int) == (l1.length : Int)) = true := beq_iff_eq.mpr c3
  have c3b1 : ((l0.length : Int) != (l1.length : Int)) = false := nE_q.mpr c3
  have c3b2 : (l0.length == l1.length) = true := by first | simpa using c3 | (simp at c3 ⊢; omega)
  clear c3
  have H' := Ae_q H
  clear H
  go_enter Try.func7, Try.ntmps7
  go_wp2
  repeat (go_quiet (fail); try go_wp2)
  go_loopg [5, 6] k (fun kq v5 v6 w' => ∃ (x5_1 : Int) (x6_1 : Int), v5 = .int .i64 x5_1 ∧ v6 = .int .i64 x6_1 ∧ Aside0 (spec_PlanDelay.l0 kq l0 l1 x5_1 x6_1 = some r) ∧ Aside0 (kq ≤ k) ∧ Drawn0 w w')
  case atStart => exact ⟨(0), (0), (by first | rfl | (simp; done) | (simp [*]; done)), (by first | rfl | (simp; done) | (simp [*]; done)), H', ⟨nR_q _⟩, by repeat (first | exact Drawn0.refl _ | apply Drawn0.step)⟩
  case round =>
   clear H'
   try clear c1
   try clear p2
   try clear c3
   try clear c3b0
   try clear c3b1
   try clear c3b2
   obtain ⟨x5_1, x6_1, rfl, rfl, HA, HK1, ⟨m1, rfl⟩⟩ := hrel
   cases gk with
   | zero => exact absurd HA.out (by simp [spec_PlanDelay.l0])
   | succ k1 =>
    have H := HA.out
    clear HA
    simp only [spec_PlanDelay.l0] at H
    by_cases c4 : x6_1 < (l0.length : Int)
    ·rw [if_pos c4] at H
     have c4b0 : decide (x6_1 < (l0.length : Int)) = true := dT_q c4
     clear c4
     by_cases c5 : 0 ≤ x6_1
     ·rw [if_pos c5] at H
      have c5b0 : decide (0 ≤ x6_1) = true := dT_q c5
      clear c5
      replace H := oB_q.mp H
      obtain ⟨t102, A60, H⟩ := H
      replace H : (if t102 = true then (if x6_1 < (l1.length : Int) then ((spec_l6In.f (rd l1 x6_1) (rd l0 x6_1) 999).bind fun t105 => (if t105 = true then (spec_PlanDelay.l0 k1 l0 l1 (wrap64 ((wrap64 (x5_1 + (rd l1 x6_1))) - (rd l0 x6_1))) (wrap64 (x6_1 + 1))) else (some (-1)))) else (none)) else (some (-1))) = some r := H
      have A6 := Ae_q A60
      clear A60
      by_cases c7 : t102 = true
      ·subst c7
       have H1 : (if x6_1 < (l1.length : Int) then ((spec_l6In.f (rd l1 x6_1) (rd l0 x6_1) 999).bind fun t105 => (if t105 = true then (spec_PlanDelay.l0 k1 l0 l1 (wrap64 ((wrap64 (x5_1 + (rd l1 x6_1))) - (rd l0 x6_1))) (wrap64 (x6_1 + 1))) else (some (-1)))) else (none)) = some r := by rw [if_pos rfl] at H; exact H
       clear H
       have H := H1
       clear H1
       by_cases c8 : x6_1 < (l1.length : Int)
       ·rw [if_pos c8] at H
        have c8b0 : decide (x6_1 < (l1.length : Int)) = true := dT_q c8
        clear c8
        replace H := oB_q.mp H
        obtain ⟨t105, A90, H⟩ := H
        replace H : (if t105 = true then (spec_PlanDelay.l0 k1 l0 l1 (wrap64 ((wrap64 (x5_1 + (rd l1 x6_1))) - (rd l0 x6_1))) (wrap64 (x6_1 + 1))) else (some (-1))) = some r := H
        have A9 := Ae_q A90
        clear A90
        by_cases c10 : t105 = true
        ·subst c10
         have H1 : (spec_PlanDelay.l0 k1 l0 l1 (wrap64 ((wrap64 (x5_1 + (rd l1 x6_1))) - (rd l0 x6_1))) (wrap64 (x6_1 + 1))) = some r := by rw [if_pos rfl] at H; exact H
         clear H
         have H := H1
         clear H1
         have H' := Ae_q H
         clear H
         have p101 : 0 ≤ (x6_1 : Int) := oD_q (by assumption)
         have q101 : x6_1 < (l0.length : Int) := oD_q (by assumption)
         obtain ⟨ad101, e101, hx101_0⟩ := aI_q HR0.out x6_1 p101 q101
         cases e101
         replace p101 := eq_true p101
         replace q101 := eq_true q101
         go_wp2_with (first | (go_at_call 19; (with_reducible refine (spec_l6In.calls (rd l0 x6_1) 0 999 true _ A6.out).mono ?_); rintro e w' ⟨rfl, ⟨nd, rfl⟩⟩; (try first | exact ⟨rfl, _, wD_q _ _ _⟩ | exact ⟨rfl, _, Eq.trans (wD_q _ _ _) (congrArg (World.drewN _) (nA_q _ _ _))⟩); have p103 : 0 ≤ (x6_1 : Int) := oD_q (by assumption); have q103 : x6_1 < (l1.length : Int) := oD_q (by assumption); obtain ⟨ad103, e103, hx103_0⟩ := aI_q HR1.out x6_1 p103 q103; cases e103; replace p103 := eq_true p103; replace q103 := eq_true q103; have p104 : 0 ≤ (x6_1 : Int) := oD_q (by assumption); have q104 : x6_1 < (l0.length : Int) := oD_q (by assumption); obtain ⟨ad104, e104, hx104_0⟩ := aI_q HR0.out x6_1 p104 q104; obtain rfl : ad101 = ad104 := (by injection e104); replace p104 := eq_true p104; replace q104 := eq_true q104) | (go_at_call 19; (with_reducible refine (spec_l6In.calls (rd l1 x6_1) (rd l0 x6_1) 999 true _ A9.out).mono ?_); rintro e w' ⟨rfl, ⟨nd, rfl⟩⟩; (try first | exact ⟨rfl, _, wD_q _ _ _⟩ | exact ⟨rfl, _, Eq.trans (wD_q _ _ _) (congrArg (World.drewN _) (nA_q _ _ _))⟩); have p106 : 0 ≤ (x6_1 : Int) := oD_q (by assumption); have q106 : x6_1 < (l1.length : Int) := oD_q (by assumption); obtain ⟨ad106, e106, hx106_0⟩ := aI_q HR1.out x6_1 p106 q106; obtain rfl : ad103 = ad106 := (by injection e106); replace p106 := eq_true p106; replace q106 := eq_true q106; have p107 : 0 ≤ (x6_1 : Int) := oD_q (by assumption); have q107 : x6_1 < (l0.length : Int) := oD_q (by assumption); obtain ⟨ad107, e107, hx107_0⟩ := aI_q HR0.out x6_1 p107 q107; obtain rfl : ad101 = ad107 := (by injection e107); replace p107 := eq_true p107; replace q107 := eq_true q107))
         repeat (go_quiet (first | (go_at_call 19; (with_reducible refine (spec_l6In.calls (rd l0 x6_1) 0 999 true _ A6.out).mono ?_); rintro e w' ⟨rfl, ⟨nd, rfl⟩⟩; (try first | exact ⟨rfl, _, wD_q _ _ _⟩ | exact ⟨rfl, _, Eq.trans (wD_q _ _ _) (congrArg (World.drewN _) (nA_q _ _ _))⟩); have p103 : 0 ≤ (x6_1 : Int) := oD_q (by assumption); have q103 : x6_1 < (l1.length : Int) := oD_q (by assumption); obtain ⟨ad103, e103, hx103_0⟩ := aI_q HR1.out x6_1 p103 q103; cases e103; replace p103 := eq_true p103; replace q103 := eq_true q103; have p104 : 0 ≤ (x6_1 : Int) := oD_q (by assumption); have q104 : x6_1 < (l0.length : Int) := oD_q (by assumption); obtain ⟨ad104, e104, hx104_0⟩ := aI_q HR0.out x6_1 p104 q104; obtain rfl : ad101 = ad104 := (by injection e104); replace p104 := eq_true p104; replace q104 := eq_true q104) | (go_at_call 19; (with_reducible refine (spec_l6In.calls (rd l1 x6_1) (rd l0 x6_1) 999 true _ A9.out).mono ?_); rintro e w' ⟨rfl, ⟨nd, rfl⟩⟩; (try first | exact ⟨rfl, _, wD_q _ _ _⟩ | exact ⟨rfl, _, Eq.trans (wD_q _ _ _) (congrArg (World.drewN _) (nA_q _ _ _))⟩); have p106 : 0 ≤ (x6_1 : Int) := oD_q (by assumption); have q106 : x6_1 < (l1.length : Int) := oD_q (by assumption); obtain ⟨ad106, e106, hx106_0⟩ := aI_q HR1.out x6_1 p106 q106; obtain rfl : ad103 = ad106 := (by injection e106); replace p106 := eq_true p106; replace q106 := eq_true q106; have p107 : 0 ≤ (x6_1 : Int) := oD_q (by assumption); have q107 : x6_1 < (l0.length : Int) := oD_q (by assumption); obtain ⟨ad107, e107, hx107_0⟩ := aI_q HR0.out x6_1 p107 q107; obtain rfl : ad101 = ad107 := (by injection e107); replace p107 := eq_true p107; replace q107 := eq_true q107)); try go_wp2_with (first | (go_at_call 19; (with_reducible refine (spec_l6In.calls (rd l0 x6_1) 0 999 true _ A6.out).mono ?_); rintro e w' ⟨rfl, ⟨nd, rfl⟩⟩; (try first | exact ⟨rfl, _, wD_q _ _ _⟩ | exact ⟨rfl, _, Eq.trans (wD_q _ _ _) (congrArg (World.drewN _) (nA_q _ _ _))⟩); have p103 : 0 ≤ (x6_1 : Int) := oD_q (by assumption); have q103 : x6_1 < (l1.length : Int) := oD_q (by assumption); obtain ⟨ad103, e103, hx103_0⟩ := aI_q HR1.out x6_1 p103 q103; cases e103; replace p103 := eq_true p103; replace q103 := eq_true q103; have p104 : 0 ≤ (x6_1 : Int) := oD_q (by assumption); have q104 : x6_1 < (l0.length : Int) := oD_q (by assumption); obtain ⟨ad104, e104, hx104_0⟩ := aI_q HR0.out x6_1 p104 q104; obtain rfl : ad101 = ad104 := (by injection e104); replace p104 := eq_true p104; replace q104 := eq_true q104) | (go_at_call 19; (with_reducible refine (spec_l6In.calls (rd l1 x6_1) (rd l0 x6_1) 999 true _ A9.out).mono ?_); rintro e w' ⟨rfl, ⟨nd, rfl⟩⟩; (try first | exact ⟨rfl, _, wD_q _ _ _⟩ | exact ⟨rfl, _, Eq.trans (wD_q _ _ _) (congrArg (World.drewN _) (nA_q _ _ _))⟩); have p106 : 0 ≤ (x6_1 : Int) := oD_q (by assumption); have q106 : x6_1 < (l1.length : Int) := oD_q (by assumption); obtain ⟨ad106, e106, hx106_0⟩ := aI_q HR1.out x6_1 p106 q106; obtain rfl : ad103 = ad106 := (by injection e106); replace p106 := eq_true p106; replace q106 := eq_true q106; have p107 : 0 ≤ (x6_1 : Int) := oD_q (by assumption); have q107 : x6_1 < (l0.length : Int) := oD_q (by assumption); obtain ⟨ad107, e107, hx107_0⟩ := aI_q HR0.out x6_1 p107 q107; obtain rfl : ad101 = ad107 := (by injection e107); replace p107 := eq_true p107; replace q107 := eq_true q107)))
         go_roundg k1
         case measure => have := HK1.out; omega
         case rel => exact ⟨(wrap64 ((wrap64 (x5_1 + (rd l1 x6_1))) - (rd l0 x6_1))), (wrap64 (x6_1 + 1)), (by first | rfl | (simp; done) | (simp [*]; done)), (by first | rfl | (simp; done) | (simp [*]; done)), H', ⟨by have := HK1.out; omega⟩, by repeat (first | exact Drawn0.refl _ | apply Drawn0.step)⟩
        replace c10 := fM_q.mpr c10
        subst c10
        have H1 : (some (-1)) = some r := by rw [if_neg (show ¬ (false = true) by decide)] at H; exact H
        clear H
        have H := H1
        clear H1
        obtain rfl := oI_q H
        have p101 : 0 ≤ (x6_1 : Int) := oD_q (by assumption)
        have q101 : x6_1 < (l0.length : Int) := oD_q (by assumption)
        obtain ⟨ad101, e101, hx101_0⟩ := aI_q HR0.out x6_1 p101 q101
        cases e101
        replace p101 := eq_true p101
        replace q101 := eq_true q101
        go_wp2_with (first | (go_at_call 19; (with_reducible refine (spec_l6In.calls (rd l0 x6_1) 0 999 true _ A6.out).mono ?_); rintro e w' ⟨rfl, ⟨nd, rfl⟩⟩; (try first | exact ⟨rfl, _, wD_q _ _ _⟩ | exact ⟨rfl, _, Eq.trans (wD_q _ _ _) (congrArg (World.drewN _) (nA_q _ _ _))⟩); have p103 : 0 ≤ (x6_1 : Int) := oD_q (by assumption); have q103 : x6_1 < (l1.length : Int) := oD_q (by assumption); obtain ⟨ad103, e103, hx103_0⟩ := aI_q HR1.out x6_1 p103 q103; cases e103; replace p103 := eq_true p103; replace q103 := eq_true q103; have p104 : 0 ≤ (x6_1 : Int) := oD_q (by assumption); have q104 : x6_1 < (l0.length : Int) := oD_q (by assumption); obtain ⟨ad104, e104, hx104_0⟩ := aI_q HR0.out x6_1 p104 q104; obtain rfl : ad101 = ad104 := (by injection e104); replace p104 := eq_true p104; replace q104 := eq_true q104) | (go_at_call 19; (with_reducible refine (spec_l6In.calls (rd l1 x6_1) (rd l0 x6_1) 999 false _ A9.out).mono ?_); rintro e w' ⟨rfl, ⟨nd, rfl⟩⟩; (try first | exact ⟨rfl, _, wD_q _ _ _⟩ | exact ⟨rfl, _, Eq.trans (wD_q _ _ _) (congrArg (World.drewN _) (nA_q _ _ _))⟩)))
        repeat (go_quiet (first | (go_at_call 19; (with_reducible refine (spec_l6In.calls (rd l0 x6_1) 0 999 true _ A6.out).mono ?_); rintro e w' ⟨rfl, ⟨nd, rfl⟩⟩; (try first | exact ⟨rfl, _, wD_q _ _ _⟩ | exact ⟨rfl, _, Eq.trans (wD_q _ _ _) (congrArg (World.drewN _) (nA_q _ _ _))⟩); have p103 : 0 ≤ (x6_1 : Int) := oD_q (by assumption); have q103 : x6_1 < (l1.length : Int) := oD_q (by assumption); obtain ⟨ad103, e103, hx103_0⟩ := aI_q HR1.out x6_1 p103 q103; cases e103; replace p103 := eq_true p103; replace q103 := eq_true q103; have p104 : 0 ≤ (x6_1 : Int) := oD_q (by assumption); have q104 : x6_1 < (l0.length : Int) := oD_q (by assumption); obtain ⟨ad104, e104, hx104_0⟩ := aI_q HR0.out x6_1 p104 q104; obtain rfl : ad101 = ad104 := (by injection e104); replace p104 := eq_true p104; replace q104 := eq_true q104) | (go_at_call 19; (with_reducible refine (spec_l6In.calls (rd l1 x6_1) (rd l0 x6_1) 999 false _ A9.out).mono ?_); rintro e w' ⟨rfl, ⟨nd, rfl⟩⟩; (try first | exact ⟨rfl, _, wD_q _ _ _⟩ | exact ⟨rfl, _, Eq.trans (wD_q _ _ _) (congrArg (World.drewN _) (nA_q _ _ _))⟩))); try go_wp2_with (first | (go_at_call 19; (with_reducible refine (spec_l6In.calls (rd l0 x6_1) 0 999 true _ A6.out).mono ?_); rintro e w' ⟨rfl, ⟨nd, rfl⟩⟩; (try first | exact ⟨rfl, _, wD_q _ _ _⟩ | exact ⟨rfl, _, Eq.trans (wD_q _ _ _) (congrArg (World.drewN _) (nA_q _ _ _))⟩); have p103 : 0 ≤ (x6_1 : Int) := oD_q (by assumption); have q103 : x6_1 < (l1.length : Int) := oD_q (by assumption); obtain ⟨ad103, e103, hx103_0⟩ := aI_q HR1.out x6_1 p103 q103; cases e103; replace p103 := eq_true p103; replace q103 := eq_true q103; have p104 : 0 ≤ (x6_1 : Int) := oD_q (by assumption); have q104 : x6_1 < (l0.length : Int) := oD_q (by assumption); obtain ⟨ad104, e104, hx104_0⟩ := aI_q HR0.out x6_1 p104 q104; obtain rfl : ad101 = ad104 := (by injection e104); replace p104 := eq_true p104; replace q104 := eq_true q104) | (go_at_call 19; (with_reducible refine (spec_l6In.calls (rd l1 x6_1) (rd l0 x6_1) 999 false _ A9.out).mono ?_); rintro e w' ⟨rfl, ⟨nd, rfl⟩⟩; (try first | exact ⟨rfl, _, wD_q _ _ _⟩ | exact ⟨rfl, _, Eq.trans (wD_q _ _ _) (congrArg (World.drewN _) (nA_q _ _ _))⟩))))
        go_ret
        exact ⟨by first | rfl | (simp; done) | (simp [*]; done), by repeat (first | exact Drawn0.refl _ | apply Drawn0.step)⟩
       rw [if_neg c8] at H
       exact absurd H (by simp)
      replace c7 := fM_q.mpr c7
      subst c7
      have H1 : (some (-1)) = some r := by rw [if_neg (show ¬ (false = true) by decide)] at H; exact H
      clear H
      have H := H1
      clear H1
      obtain rfl := oI_q H
      have p101 : 0 ≤ (x6_1 : Int) := oD_q (by assumption)
      have q101 : x6_1 < (l0.length : Int) := oD_q (by assumption)
      obtain ⟨ad101, e101, hx101_0⟩ := aI_q HR0.out x6_1 p101 q101
      cases e101
      replace p101 := eq_true p101
      replace q101 := eq_true q101
      go_wp2_with (first | (go_at_call 19; (with_reducible refine (spec_l6In.calls (rd l0 x6_1) 0 999 false _ A6.out).mono ?_); rintro e w' ⟨rfl, ⟨nd, rfl⟩⟩; (try first | exact ⟨rfl, _, wD_q _ _ _⟩ | exact ⟨rfl, _, Eq.trans (wD_q _ _ _) (congrArg (World.drewN _) (nA_q _ _ _))⟩)))
      repeat (go_quiet (first | (go_at_call 19; (with_reducible refine (spec_l6In.calls (rd l0 x6_1) 0 999 false _ A6.out).mono ?_); rintro e w' ⟨rfl, ⟨nd, rfl⟩⟩; (try first | exact ⟨rfl, _, wD_q _ _ _⟩ | exact ⟨rfl, _, Eq.trans (wD_q _ _ _) (congrArg (World.drewN _) (nA_q _ _ _))⟩))); try go_wp2_with (first | (go_at_call 19; (with_reducible refine (spec_l6In.calls (rd l0 x6_1) 0 999 false _ A6.out).mono ?_); rintro e w' ⟨rfl, ⟨nd, rfl⟩⟩; (try first | exact ⟨rfl, _, wD_q _ _ _⟩ | exact ⟨rfl, _, Eq.trans (wD_q _ _ _) (congrArg (World.drewN _) (nA_q _ _ _))⟩))))
      go_ret
      exact ⟨by first | rfl | (simp; done) | (simp [*]; done), by repeat (first | exact Drawn0.refl _ | apply Drawn0.step)⟩
     rw [if_neg c5] at H
     exact absurd H (by simp)
    rw [if_neg c4] at H
    have c4b0 : decide (x6_1 < (l0.length : Int)) = false := dF_q c4
    clear c4
    obtain rfl := oI_q H
    go_wp2
    repeat (go_quiet (fail); try go_wp2)
    go_ret
    exact ⟨by first | rfl | (simp; done) | (simp [*]; done), by repeat (first | exact Drawn0.refl _ | apply Drawn0.step)⟩
 rw [if_neg c3] at H
 have c3b0 : ((l0.length : Int) == (l1.length : Int)) = false := fN_q.mpr c3
 have c3b1 : ((l0.length : Int) != (l1.length : Int)) = true := nI_q.mpr c3
 have c3b2 : (l0.length == l1.length) = false := by first | simpa using c3 | (simp at c3 ⊢; omega)
 obtain rfl := oI_q H
 go_enter Try.func7, Try.ntmps7
 go_wp2
 repeat (go_quiet (fail); try go_wp2)
 go_ret
 exact ⟨by first | rfl | (simp; done) | (simp [*]; done), by repeat (first | exact Drawn0.refl _ | apply Drawn0.step)⟩

def impl_within.f (a0 : Int) (a1 : Int) (a2 : Int) : Option (Bool) := if a0 ≥ a1 then (some (decide (a0 ≤ a2))) else (some false)
set_option maxHeartbeats 8000000 in
set_option maxRecDepth 100000 in
theorem impl_within.calls (a0 : Int) (a1 : Int) (a2 : Int) (r : Bool) (w : World) (h : impl_within.f a0 a1 a2 = some r) :
    Calls Try.prog 26 #[.int .i64 a0, .int .i64 a1, .int .i64 a2] w fun e w' => e = .returned (.bool r) ∧ Drawn0 w w' := by
 have H : (if a0 ≥ a1 then (some (decide (a0 ≤ a2))) else (some false)) = some r := h
 clear h
 by_cases c4 : a0 ≥ a1
 ·rw [if_pos c4] at H
  have c4b0 : decide (a1 ≤ a0) = true := dT_q c4
  clear c4
  obtain rfl := oI_q H
  go_enter Try.func26, Try.ntmps26
  go_wp2
  go_ret
  exact ⟨by first | rfl | (simp; done) | (simp [*]; done), by repeat (first | exact Drawn0.refl _ | apply Drawn0.step)⟩
 rw [if_neg c4] at H
 have c4b0 : decide (a1 ≤ a0) = false := dF_q c4
 clear c4
 obtain rfl := oI_q H
 go_enter Try.func26, Try.ntmps26
 go_wp2
 go_ret
 exact ⟨by first | rfl | (simp; done) | (simp [*]; done), by repeat (first | exact Drawn0.refl _ | apply Drawn0.step)⟩

def impl_isStart.f (a0 : Int) : Option (Bool) := (impl_within.f a0 0 999).bind fun t113 => (some t113)
set_option maxHeartbeats 8000000 in
set_option maxRecDepth 100000 in
theorem impl_isStart.calls (a0 : Int) (r : Bool) (w : World) (h : impl_isStart.f a0 = some r) :
    Calls Try.prog 20 #[.int .i64 a0] w fun e w' => e = .returned (.bool r) ∧ Drawn0 w w' := by
 have H : ((impl_within.f a0 0 999).bind fun t113 => (some t113)) = some r := h
 clear h
 replace H := oB_q.mp H
 obtain ⟨t113, A20, H⟩ := H
 replace H : (some t113) = some r := H
 have A2 := Ae_q A20
 clear A20
 obtain rfl := oI_q H
 go_enter Try.func20, Try.ntmps20
 go_wp2_with (first | ((with_reducible refine gC_q (f := 26) rfl ?_); refine gL_q (some 4) rfl rfl Try.func26 (by kernel_rfl) rfl #[.int .i64 a0, .int .i64 0, .int .i64 999] rfl (by (try simp only [lM_q, lC_q, lN_q]); first | done | rfl | (simp only [lD_q, lT_q]; rfl)) ?_; (with_reducible refine (impl_within.calls a0 0 999 t113 _ A2.out).mono ?_); rintro e w' ⟨rfl, ⟨nd, rfl⟩⟩; refine ⟨_, rfl, ?_⟩))
 go_ret
 exact ⟨by first | rfl | (simp; done) | (simp [*]; done), by repeat (first | exact Drawn0.refl _ | apply Drawn0.step)⟩

def impl_PlanDelay.l0 : Nat → List Int → Int → List Int → Int → Int → Option (Int)
 | 0, _, _, _, _, _ => none
 | k + 1, x0, x5, x13, x14, x15 => if x15 < x14 then (if 0 ≤ x15 then (if x15 < (x13.length : Int) then (if x15 < (x0.length : Int) then ((impl_isStart.f (rd x0 x15)).bind fun t116 => (if t116 = true then ((impl_isStart.f (rd x13 x15)).bind fun t117 => (if t117 = true then (if (rd x13 x15) < (rd x0 x15) then (some (-1)) else (impl_PlanDelay.l0 k x0 (wrap64 (x5 + (wrap64 ((rd x13 x15) - (rd x0 x15))))) x13 x14 (wrap64 (x15 + 1)))) else (some (-1)))) else (some (-1)))) else (none)) else (none)) else (none)) else (some x5)
def impl_PlanDelay.f (k : Nat) (l0 : List Int) (l1 : List Int) : Option (Int) := if (l0.length : Int) = (l1.length : Int) then (impl_PlanDelay.l0 k l0 0 l1 (l1.length : Int) 0) else (some (-1))
theorem impl_PlanDelay.mono_l : ∀ k, (∀ y0 y1 y2 y3 y4, LeO (impl_PlanDelay.l0 k y0 y1 y2 y3 y4) (impl_PlanDelay.l0 (k + 1) y0 y1 y2 y3 y4))
 | 0 => fun _ _ _ _ _ r h => by simp [impl_PlanDelay.l0] at h
 | k + 1 => by
  have ih0 := impl_PlanDelay.mono_l k
  intro y0 y1 y2 y3 y4
  unfold impl_PlanDelay.l0
  repeat' first
  | (with_reducible exact ih0 _ _ _ _ _)
  | (with_reducible exact lR_q _)
  | (with_reducible exact lO_q _)
  | (with_reducible refine lI_q ?_ ?_)
  | (with_reducible refine lB_q ?_ (fun _ => ?_))
  | exact ih0 _ _ _ _ _
  | exact lO_q _
  | refine lI_q ?_ ?_
  | refine lB_q ?_ (fun _ => ?_)
theorem impl_PlanDelay.mono : ∀ a0 a1 k, LeO (impl_PlanDelay.f k a0 a1) (impl_PlanDelay.f (k + 1) a0 a1) := by
 intro a0 a1 k
 have ih0 := impl_PlanDelay.mono_l k
 unfold impl_PlanDelay.f
 repeat' first
  | (with_reducible exact ih0 _ _ _ _ _)
  | (with_reducible exact lR_q _)
  | (with_reducible exact lO_q _)
  | (with_reducible refine lI_q ?_ ?_)
  | (with_reducible refine lB_q ?_ (fun _ => ?_))
  | exact ih0 _ _ _ _ _
  | exact lO_q _
  | refine lI_q ?_ ?_
  | refine lB_q ?_ (fun _ => ?_)
set_option maxHeartbeats 8000000 in
set_option maxRecDepth 100000 in
theorem impl_PlanDelay.calls (k : Nat) (A0 : Option Addr) (c0 : Nat) (l0 : List Int) (A1 : Option Addr) (c1 : Nat) (l1 : List Int) (r : Int) (w : World) (hr0 : Kd.C kI_q w A0 l0.length l0) (hc0 : l0.length ≤ c0) (hr1 : Kd.C kI_q w A1 l1.length l1) (hc1 : l1.length ≤ c1) (h : impl_PlanDelay.f k l0 l1 = some r) :
    Calls Try.prog 9 #[.slice A0 l0.length c0, .slice A1 l1.length c1] w fun e w' => e = .returned (.int .i64 r) ∧ Drawn0 w w' := by
 have HR0 := Ae_q hr0
 have HC0 := Ae_q hc0
 clear hr0 hc0
 have HR1 := Ae_q hr1
 have HC1 := Ae_q hc1
 clear hr1 hc1
 have H : (if (l0.length : Int) = (l1.length : Int) then (impl_PlanDelay.l0 k l0 0 l1 (l1.length : Int) 0) else (some (-1))) = some r := h
 clear h
 by_cases c3 : (l0.length : Int) = (l1.length : Int)
 ·rw [if_pos c3] at H
  have c3b0 : ((l0.length : Int) == (l1.length : Int)) = true := beq_iff_eq.mpr c3
  have c3b1 : ((l0.length : Int) != (l1.length : Int)) = false := nE_q.mpr c3
  have c3b2 : (l0.length == l1.length) = true := by first | simpa using c3 | (simp at c3 ⊢; omega)
  clear c3
  have H' := Ae_q H
  clear H
  go_enter Try.func9, Try.ntmps9
  go_wp2
  go_loopg [5, 15] k (fun kq v5 v15 w' => ∃ (x5_1 : Int) (x15_1 : Int), v5 = .int .i64 x5_1 ∧ v15 = .int .i64 x15_1 ∧ Aside0 (impl_PlanDelay.l0 kq l0 x5_1 l1 (l1.length : Int) x15_1 = some r) ∧ Aside0 (kq ≤ k) ∧ Drawn0 w w')
  case atStart => exact ⟨(0), (0), (by first | rfl | (simp; done) | (simp [*]; done)), (by first | rfl | (simp; done) | (simp [*]; done)), H', ⟨nR_q _⟩, by repeat (first | exact Drawn0.refl _ | apply Drawn0.step)⟩
  case round =>
   clear H'
   try clear c1
   try clear p2
   try clear c3
   try clear c3b0
   try clear c3b1
   try clear c3b2
   obtain ⟨x5_1, x15_1, rfl, rfl, HA, HK1, ⟨m1, rfl⟩⟩ := hrel
   cases gk with
   | zero => exact absurd HA.out (by simp [impl_PlanDelay.l0])
   | succ k1 =>
    have H := HA.out
    clear HA
    simp only [impl_PlanDelay.l0] at H
    by_cases c4 : x15_1 < (l1.length : Int)
    ·rw [if_pos c4] at H
     have c4b0 : decide (x15_1 < (l1.length : Int)) = true := dT_q c4
     clear c4
     by_cases c5 : 0 ≤ x15_1
     ·rw [if_pos c5] at H
      have c5b0 : decide (0 ≤ x15_1) = true := dT_q c5
      clear c5
      by_cases c6 : x15_1 < (l1.length : Int)
      ·rw [if_pos c6] at H
       have c6b0 : decide (x15_1 < (l1.length : Int)) = true := dT_q c6
       clear c6
       by_cases c7 : x15_1 < (l0.length : Int)
       ·rw [if_pos c7] at H
        have c7b0 : decide (x15_1 < (l0.length : Int)) = true := dT_q c7
        clear c7
        replace H := oB_q.mp H
        obtain ⟨t116, A80, H⟩ := H
        replace H : (if t116 = true then ((impl_isStart.f (rd l1 x15_1)).bind fun t117 => (if t117 = true then (if (rd l1 x15_1) < (rd l0 x15_1) then (some (-1)) else (impl_PlanDelay.l0 k1 l0 (wrap64 (x5_1 + (wrap64 ((rd l1 x15_1) - (rd l0 x15_1))))) l1 (l1.length : Int) (wrap64 (x15_1 + 1)))) else (some (-1)))) else (some (-1))) = some r := H
        have A8 := Ae_q A80
        clear A80
        by_cases c9 : t116 = true
        ·subst c9
         have H1 : ((impl_isStart.f (rd l1 x15_1)).bind fun t117 => (if t117 = true then (if (rd l1 x15_1) < (rd l0 x15_1) then (some (-1)) else (impl_PlanDelay.l0 k1 l0 (wrap64 (x5_1 + (wrap64 ((rd l1 x15_1) - (rd l0 x15_1))))) l1 (l1.length : Int) (wrap64 (x15_1 + 1)))) else (some (-1)))) = some r := by rw [if_pos rfl] at H; exact H
         clear H
         have H := H1
         clear H1
         replace H := oB_q.mp H
         obtain ⟨t117, A100, H⟩ := H
         replace H : (if t117 = true then (if (rd l1 x15_1) < (rd l0 x15_1) then (some (-1)) else (impl_PlanDelay.l0 k1 l0 (wrap64 (x5_1 + (wrap64 ((rd l1 x15_1) - (rd l0 x15_1))))) l1 (l1.length : Int) (wrap64 (x15_1 + 1)))) else (some (-1))) = some r := H
         have A10 := Ae_q A100
         clear A100
         by_cases c11 : t117 = true
         ·subst c11
          have H1 : (if (rd l1 x15_1) < (rd l0 x15_1) then (some (-1)) else (impl_PlanDelay.l0 k1 l0 (wrap64 (x5_1 + (wrap64 ((rd l1 x15_1) - (rd l0 x15_1))))) l1 (l1.length : Int) (wrap64 (x15_1 + 1)))) = some r := by rw [if_pos rfl] at H; exact H
          clear H
          have H := H1
          clear H1
          by_cases c12 : (rd l1 x15_1) < (rd l0 x15_1)
          ·rw [if_pos c12] at H
           have c12b0 : decide ((rd l1 x15_1) < (rd l0 x15_1)) = true := dT_q c12
           clear c12
           obtain rfl := oI_q H
           have p114 : 0 ≤ (x15_1 : Int) := oD_q (by assumption)
           have q114 : x15_1 < (l1.length : Int) := oD_q (by assumption)
           obtain ⟨ad114, e114, hx114_0⟩ := aI_q HR1.out x15_1 p114 q114
           cases e114
           replace p114 := eq_true p114
           replace q114 := eq_true q114
           have p115 : 0 ≤ (x15_1 : Int) := oD_q (by assumption)
           have q115 : x15_1 < (l0.length : Int) := oD_q (by assumption)
           obtain ⟨ad115, e115, hx115_0⟩ := aI_q HR0.out x15_1 p115 q115
           cases e115
           replace p115 := eq_true p115
           replace q115 := eq_true q115
           go_wp2_with (first | ((with_reducible refine gC_q (f := 20) rfl ?_); refine gL_q (some 24) rfl rfl Try.func20 (by kernel_rfl) rfl #[.int .i64 (rd l0 x15_1)] rfl (by (try simp only [lM_q, lC_q, lN_q]); first | done | rfl | (simp only [lD_q, lT_q]; rfl)) ?_; (with_reducible refine (impl_isStart.calls (rd l0 x15_1) true _ A8.out).mono ?_); rintro e w' ⟨rfl, ⟨nd, rfl⟩⟩; refine ⟨_, rfl, ?_⟩) | (go_at_call 20; (with_reducible refine (impl_isStart.calls (rd l1 x15_1) true _ A10.out).mono ?_); rintro e w' ⟨rfl, ⟨nd, rfl⟩⟩; have p118 : 0 ≤ (x15_1 : Int) := oD_q (by assumption); have q118 : x15_1 < (l0.length : Int) := oD_q (by assumption); obtain ⟨ad118, e118, hx118_0⟩ := aI_q HR0.out x15_1 p118 q118; obtain rfl : ad115 = ad118 := (by injection e118); replace p118 := eq_true p118; replace q118 := eq_true q118))
           go_ret
           exact ⟨by first | rfl | (simp; done) | (simp [*]; done), by repeat (first | exact Drawn0.refl _ | apply Drawn0.step)⟩
          rw [if_neg c12] at H
          have c12b0 : decide ((rd l1 x15_1) < (rd l0 x15_1)) = false := dF_q c12
          clear c12
          have H' := Ae_q H
          clear H
          have p114 : 0 ≤ (x15_1 : Int) := oD_q (by assumption)
          have q114 : x15_1 < (l1.length : Int) := oD_q (by assumption)
          obtain ⟨ad114, e114, hx114_0⟩ := aI_q HR1.out x15_1 p114 q114
          cases e114
          replace p114 := eq_true p114
          replace q114 := eq_true q114
          have p115 : 0 ≤ (x15_1 : Int) := oD_q (by assumption)
          have q115 : x15_1 < (l0.length : Int) := oD_q (by assumption)
          obtain ⟨ad115, e115, hx115_0⟩ := aI_q HR0.out x15_1 p115 q115
          cases e115
          replace p115 := eq_true p115
          replace q115 := eq_true q115
          go_wp2_with (first | ((with_reducible refine gC_q (f := 20) rfl ?_); refine gL_q (some 24) rfl rfl Try.func20 (by kernel_rfl) rfl #[.int .i64 (rd l0 x15_1)] rfl (by (try simp only [lM_q, lC_q, lN_q]); first | done | rfl | (simp only [lD_q, lT_q]; rfl)) ?_; (with_reducible refine (impl_isStart.calls (rd l0 x15_1) true _ A8.out).mono ?_); rintro e w' ⟨rfl, ⟨nd, rfl⟩⟩; refine ⟨_, rfl, ?_⟩) | (go_at_call 20; (with_reducible refine (impl_isStart.calls (rd l1 x15_1) true _ A10.out).mono ?_); rintro e w' ⟨rfl, ⟨nd, rfl⟩⟩; have p118 : 0 ≤ (x15_1 : Int) := oD_q (by assumption); have q118 : x15_1 < (l0.length : Int) := oD_q (by assumption); obtain ⟨ad118, e118, hx118_0⟩ := aI_q HR0.out x15_1 p118 q118; obtain rfl : ad115 = ad118 := (by injection e118); replace p118 := eq_true p118; replace q118 := eq_true q118; have p119 : 0 ≤ (x15_1 : Int) := oD_q (by assumption); have q119 : x15_1 < (l0.length : Int) := oD_q (by assumption); obtain ⟨ad119, e119, hx119_0⟩ := aI_q HR0.out x15_1 p119 q119; obtain rfl : ad115 = ad119 := (by injection e119); replace p119 := eq_true p119; replace q119 := eq_true q119))
          go_roundg k1
          case measure => have := HK1.out; omega
          case rel => exact ⟨(wrap64 (x5_1 + (wrap64 ((rd l1 x15_1) - (rd l0 x15_1))))), (wrap64 (x15_1 + 1)), (by first | rfl | (simp; done) | (simp [*]; done)), (by first | rfl | (simp; done) | (simp [*]; done)), H', ⟨by have := HK1.out; omega⟩, by repeat (first | exact Drawn0.refl _ | apply Drawn0.step)⟩
         replace c11 := fM_q.mpr c11
         subst c11
         have H1 : (some (-1)) = some r := by rw [if_neg (show ¬ (false = true) by decide)] at H; exact H
         clear H
         have H := H1
         clear H1
         obtain rfl := oI_q H
         have p114 : 0 ≤ (x15_1 : Int) := oD_q (by assumption)
         have q114 : x15_1 < (l1.length : Int) := oD_q (by assumption)
         obtain ⟨ad114, e114, hx114_0⟩ := aI_q HR1.out x15_1 p114 q114
         cases e114
         replace p114 := eq_true p114
         replace q114 := eq_true q114
         have p115 : 0 ≤ (x15_1 : Int) := oD_q (by assumption)
         have q115 : x15_1 < (l0.length : Int) := oD_q (by assumption)
         obtain ⟨ad115, e115, hx115_0⟩ := aI_q HR0.out x15_1 p115 q115
         cases e115
         replace p115 := eq_true p115
         replace q115 := eq_true q115
         go_wp2_with (first | ((with_reducible refine gC_q (f := 20) rfl ?_); refine gL_q (some 24) rfl rfl Try.func20 (by kernel_rfl) rfl #[.int .i64 (rd l0 x15_1)] rfl (by (try simp only [lM_q, lC_q, lN_q]); first | done | rfl | (simp only [lD_q, lT_q]; rfl)) ?_; (with_reducible refine (impl_isStart.calls (rd l0 x15_1) true _ A8.out).mono ?_); rintro e w' ⟨rfl, ⟨nd, rfl⟩⟩; refine ⟨_, rfl, ?_⟩) | (go_at_call 20; (with_reducible refine (impl_isStart.calls (rd l1 x15_1) false _ A10.out).mono ?_); rintro e w' ⟨rfl, ⟨nd, rfl⟩⟩))
         go_ret
         exact ⟨by first | rfl | (simp; done) | (simp [*]; done), by repeat (first | exact Drawn0.refl _ | apply Drawn0.step)⟩
        replace c9 := fM_q.mpr c9
        subst c9
        have H1 : (some (-1)) = some r := by rw [if_neg (show ¬ (false = true) by decide)] at H; exact H
        clear H
        have H := H1
        clear H1
        obtain rfl := oI_q H
        have p114 : 0 ≤ (x15_1 : Int) := oD_q (by assumption)
        have q114 : x15_1 < (l1.length : Int) := oD_q (by assumption)
        obtain ⟨ad114, e114, hx114_0⟩ := aI_q HR1.out x15_1 p114 q114
        cases e114
        replace p114 := eq_true p114
        replace q114 := eq_true q114
        have p115 : 0 ≤ (x15_1 : Int) := oD_q (by assumption)
        have q115 : x15_1 < (l0.length : Int) := oD_q (by assumption)
        obtain ⟨ad115, e115, hx115_0⟩ := aI_q HR0.out x15_1 p115 q115
        cases e115
        replace p115 := eq_true p115
        replace q115 := eq_true q115
        go_wp2_with (first | ((with_reducible refine gC_q (f := 20) rfl ?_); refine gL_q (some 24) rfl rfl Try.func20 (by kernel_rfl) rfl #[.int .i64 (rd l0 x15_1)] rfl (by (try simp only [lM_q, lC_q, lN_q]); first | done | rfl | (simp only [lD_q, lT_q]; rfl)) ?_; (with_reducible refine (impl_isStart.calls (rd l0 x15_1) false _ A8.out).mono ?_); rintro e w' ⟨rfl, ⟨nd, rfl⟩⟩; refine ⟨_, rfl, ?_⟩))
        go_ret
        exact ⟨by first | rfl | (simp; done) | (simp [*]; done), by repeat (first | exact Drawn0.refl _ | apply Drawn0.step)⟩
       rw [if_neg c7] at H
       exact absurd H (by simp)
      rw [if_neg c6] at H
      exact absurd H (by simp)
     rw [if_neg c5] at H
     exact absurd H (by simp)
    rw [if_neg c4] at H
    have c4b0 : decide (x15_1 < (l1.length : Int)) = false := dF_q c4
    clear c4
    obtain rfl := oI_q H
    go_wp2
    go_ret
    exact ⟨by first | rfl | (simp; done) | (simp [*]; done), by repeat (first | exact Drawn0.refl _ | apply Drawn0.step)⟩
 rw [if_neg c3] at H
 have c3b0 : ((l0.length : Int) == (l1.length : Int)) = false := fN_q.mpr c3
 have c3b1 : ((l0.length : Int) != (l1.length : Int)) = true := nI_q.mpr c3
 have c3b2 : (l0.length == l1.length) = false := by first | simpa using c3 | (simp at c3 ⊢; omega)
 obtain rfl := oI_q H
 go_enter Try.func9, Try.ntmps9
 go_wp2
 go_ret
 exact ⟨by first | rfl | (simp; done) | (simp [*]; done), by repeat (first | exact Drawn0.refl _ | apply Drawn0.step)⟩

end Go.Proofs.Ytjnagefogjkbbaa.PPl
