import Derived.Test.YtjnagefogjkbbaaVbPPlx0
import Derived.Test.YtjnagefogjkbbaaVbPPlx16
namespace Go.Proofs.Ytjnagefogjkbbaa.PPl
open Go.RowKit Go.Proofs.YtjnagefogjkbbaaW.PrintWords Go.Proofs.YtjnagefogjkbbaaW.PrintLast Go.Proofs.YtjnagefogjkbbaaW.PrintMore
attribute [local go_sem] max2_int min2_int max_two min_two max_three min_three max_four min_four
set_option linter.unusedVariables false
set_option linter.unusedSimpArgs false

def spec_DrawPlanMoved.f (k : Nat) (l0 : List Int) : Option (List Int × List Int) := (spec_DrawPlanDelay.f k l0).bind fun bt536 => (some (bt536.1, bt536.2))
theorem spec_DrawPlanMoved.mono : ∀ a0 k, LeO (spec_DrawPlanMoved.f k a0) (spec_DrawPlanMoved.f (k + 1) a0) := by
 intro a0 k
 unfold spec_DrawPlanMoved.f
 repeat' first
  | (with_reducible exact spec_DrawPlanDelay.mono _ _)
  | (with_reducible exact lR_q _)
  | (with_reducible exact lO_q _)
  | (with_reducible refine lI_q ?_ ?_)
  | (with_reducible refine lB_q ?_ (fun _ => ?_))
  | exact spec_DrawPlanDelay.mono _ _
  | exact lO_q _
  | refine lI_q ?_ ?_
  | refine lB_q ?_ (fun _ => ?_)
set_option maxHeartbeats 8000000 in
set_option maxRecDepth 100000 in
theorem spec_DrawPlanMoved.calls (k : Nat) (A0 : Option Addr) (c0 : Nat) (l0 : List Int) (r1 : List Int) (r2 : List Int) (w : World) (hr0 : Kd.C (Kd.int .u8) w A0 l0.length l0) (hc0 : l0.length ≤ c0) (h : spec_DrawPlanMoved.f k l0 = some (r1, r2)) :
    Calls Try.prog 16 #[.slice A0 l0.length c0] w fun e w' => ∃ v0_ v1_ : Value, e = .returned (.tuple #[v0_, v1_]) ∧ Kd.R kI_q 3 w' w.heap.size (fun k_ => some k_ ≠ (v1_ : Value).ownBlock) v0_ r1 ∧ Kd.Q kI_q 3 w' w.heap.size (fun k_ => some k_ ≠ (v0_ : Value).ownBlock) v1_ r2 ∧ Below w.heap.size w w' := by
 have HR0 := Ae_q hr0
 have HC0 := Ae_q hc0
 clear hr0 hc0
 have HB := Ae_q (bR_q w.heap.size w)
 have H : ((spec_DrawPlanDelay.f k l0).bind fun bt536 => (some (bt536.1, bt536.2))) = some (r1, r2) := h
 clear h
 replace H := oB_q.mp H
 obtain ⟨⟨t536, t537⟩, A20, H⟩ := H
 replace H : (some (t536, t537)) = some (r1, r2) := H
 have A2 := Ae_q A20
 clear A20
 simp only [oE_q, pE_q] at H
 obtain ⟨rfl, rfl⟩ := H
 go_enter Try.func16, Try.ntmps16
 go_wp2_with (first | ((with_reducible refine gC_q (f := 15) rfl ?_); refine gL_q (some 5) rfl rfl Try.func15 (by kernel_rfl) rfl #[.slice A0 l0.length c0] rfl (by (try simp only [lM_q, lC_q, lN_q]); first | done | rfl | (simp only [lD_q, lT_q]; rfl)) ?_; (with_reducible refine (spec_DrawPlanDelay.calls k _ _ l0 t536 t537 _ ?side1 ?side2 A2.out).mono ?_); (case side1 => repeat (first | exact HR0.out | (with_reducible refine cA_q ?_ _) | (with_reducible refine cN_q ?_ _) | (with_reducible refine cD_q ?_))); (case side2 => exact HC0.out); rintro e w3 ⟨v538, v540, rfl, ho0, ho1, hb⟩; refine ⟨_, rfl, ?_⟩; have n0_ := Ae_q (rL_q ho0 (bZ_q (bel HB.out))); have n1_ := Ae_q (Kd.Q_lower ho1 (bZ_q (bel HB.out))); have n2_ := Ae_q (bT_q (bel HB.out) hb); clear HB; have HO539 := n0_; have HO541 := n1_; have HB := n2_; clear n0_ n1_ n2_; (try clear hb); (try clear hb2); (try clear hk); (try clear hi); (try clear ho0); (try clear ho1)))
 go_ret2
 exact ⟨_, _, by first | rfl | (simp [eN_q, eS_q] <;> rfl) | (simp [*, eN_q, eS_q] <;> rfl), by (with_reducible repeat (first | apply rA_q | apply rN_q | apply rD_q)); exact HO539.out, by (with_reducible repeat (first | apply Kd.Q_alloc | apply Kd.Q_drewN | apply Kd.Q_drew)); exact HO541.out, bel HB.out⟩

def laws_sameInts.l0 : Nat → List Int → List Int → Int → Option (Bool)
 | 0, _, _, _ => none
 | k + 1, x0, x1, x5 => if x5 < (x0.length : Int) then (if 0 ≤ x5 then (if x5 < (x1.length : Int) then (if (rd x0 x5) = (rd x1 x5) then (laws_sameInts.l0 k x0 x1 (wrap64 (x5 + 1))) else (some false)) else (none)) else (none)) else (some true)
def laws_sameInts.f (k : Nat) (l0 : List Int) (l1 : List Int) : Option (Bool) := if (l0.length : Int) = (l1.length : Int) then (laws_sameInts.l0 k l0 l1 0) else (some false)
theorem laws_sameInts.mono_l : ∀ k, (∀ y0 y1 y2, LeO (laws_sameInts.l0 k y0 y1 y2) (laws_sameInts.l0 (k + 1) y0 y1 y2))
 | 0 => fun _ _ _ r h => by simp [laws_sameInts.l0] at h
 | k + 1 => by
  have ih0 := laws_sameInts.mono_l k
  intro y0 y1 y2
  unfold laws_sameInts.l0
  repeat' first
  | (with_reducible exact ih0 _ _ _)
  | (with_reducible exact lR_q _)
  | (with_reducible exact lO_q _)
  | (with_reducible refine lI_q ?_ ?_)
  | (with_reducible refine lB_q ?_ (fun _ => ?_))
  | exact ih0 _ _ _
  | exact lO_q _
  | refine lI_q ?_ ?_
  | refine lB_q ?_ (fun _ => ?_)
theorem laws_sameInts.mono : ∀ a0 a1 k, LeO (laws_sameInts.f k a0 a1) (laws_sameInts.f (k + 1) a0 a1) := by
 intro a0 a1 k
 have ih0 := laws_sameInts.mono_l k
 unfold laws_sameInts.f
 repeat' first
  | (with_reducible exact ih0 _ _ _)
  | (with_reducible exact lR_q _)
  | (with_reducible exact lO_q _)
  | (with_reducible refine lI_q ?_ ?_)
  | (with_reducible refine lB_q ?_ (fun _ => ?_))
  | exact ih0 _ _ _
  | exact lO_q _
  | refine lI_q ?_ ?_
  | refine lB_q ?_ (fun _ => ?_)
set_option maxHeartbeats 8000000 in
set_option maxRecDepth 100000 in
theorem laws_sameInts.calls (k : Nat) (A0 : Option Addr) (c0 : Nat) (l0 : List Int) (A1 : Option Addr) (c1 : Nat) (l1 : List Int) (r : Bool) (w : World) (hr0 : Kd.C kI_q w A0 l0.length l0) (hc0 : l0.length ≤ c0) (hr1 : Kd.C kI_q w A1 l1.length l1) (hc1 : l1.length ≤ c1) (h : laws_sameInts.f k l0 l1 = some r) :
    Calls Try.prog 17 #[.slice A0 l0.length c0, .slice A1 l1.length c1] w fun e w' => e = .returned (.bool r) ∧ Drawn0 w w' := by
 have HR0 := Ae_q hr0
 have HC0 := Ae_q hc0
 clear hr0 hc0
 have HR1 := Ae_q hr1
 have HC1 := Ae_q hc1
 clear hr1 hc1
 have H : (if (l0.length : Int) = (l1.length : Int) then (laws_sameInts.l0 k l0 l1 0) else (some false)) = some r := h
 clear h
 by_cases c3 : (l0.length : Int) = (l1.length : Int)
 ·rw [if_pos c3] at H
  have c3b0 : ((l0.length : Int) == (l1.length : Int)) = true := beq_iff_eq.mpr c3
  have c3b1 : ((l0.length : Int) != (l1.length : Int)) = false := nE_q.mpr c3
  have c3b2 : (l0.length == l1.length) = true := by first | simpa using c3 | (simp at c3 ⊢; omega)
  clear c3
  have H' := Ae_q H
  clear H
  go_enter Try.func17, Try.ntmps17
  go_wp2
  repeat (go_quiet (fail); try go_wp2)
  go_loopg [5] k (fun kq v5 w' => ∃ (x5_1 : Int), v5 = .int .i64 x5_1 ∧ Aside0 (laws_sameInts.l0 kq l0 l1 x5_1 = some r) ∧ Aside0 (kq ≤ k) ∧ Drawn0 w w')
  case atStart => exact ⟨(0), (by first | rfl | (simp; done) | (simp [*]; done)), H', ⟨nR_q _⟩, by repeat (first | exact Drawn0.refl _ | apply Drawn0.step)⟩
  case round =>
   clear H'
   try clear c1
   try clear p2
   try clear c3
   try clear c3b0
   try clear c3b1
   try clear c3b2
   obtain ⟨x5_1, rfl, HA, HK1, ⟨m1, rfl⟩⟩ := hrel
   cases gk with
   | zero => exact absurd HA.out (by simp [laws_sameInts.l0])
   | succ k1 =>
    have H := HA.out
    clear HA
    simp only [laws_sameInts.l0] at H
    by_cases c4 : x5_1 < (l0.length : Int)
    ·rw [if_pos c4] at H
     have c4b0 : decide (x5_1 < (l0.length : Int)) = true := dT_q c4
     clear c4
     by_cases c5 : 0 ≤ x5_1
     ·rw [if_pos c5] at H
      have c5b0 : decide (0 ≤ x5_1) = true := dT_q c5
      clear c5
      by_cases c6 : x5_1 < (l1.length : Int)
      ·rw [if_pos c6] at H
       have c6b0 : decide (x5_1 < (l1.length : Int)) = true := dT_q c6
       clear c6
       by_cases c7 : (rd l0 x5_1) = (rd l1 x5_1)
       ·rw [if_pos c7] at H
        have c7b0 : ((rd l0 x5_1) == (rd l1 x5_1)) = true := beq_iff_eq.mpr c7
        have c7b1 : ((rd l0 x5_1) != (rd l1 x5_1)) = false := nE_q.mpr c7
        clear c7
        have H' := Ae_q H
        clear H
        have p542 : 0 ≤ (x5_1 : Int) := oD_q (by assumption)
        have q542 : x5_1 < (l0.length : Int) := oD_q (by assumption)
        obtain ⟨ad542, e542, hx542_0⟩ := aI_q HR0.out x5_1 p542 q542
        cases e542
        replace p542 := eq_true p542
        replace q542 := eq_true q542
        have p543 : 0 ≤ (x5_1 : Int) := oD_q (by assumption)
        have q543 : x5_1 < (l1.length : Int) := oD_q (by assumption)
        obtain ⟨ad543, e543, hx543_0⟩ := aI_q HR1.out x5_1 p543 q543
        cases e543
        replace p543 := eq_true p543
        replace q543 := eq_true q543
        go_wp2
        repeat (go_quiet (fail); try go_wp2)
        go_roundg k1
        case measure => have := HK1.out; omega
        case rel => exact ⟨(wrap64 (x5_1 + 1)), (by first | rfl | (simp; done) | (simp [*]; done)), H', ⟨by have := HK1.out; omega⟩, by repeat (first | exact Drawn0.refl _ | apply Drawn0.step)⟩
       rw [if_neg c7] at H
       have c7b0 : ((rd l0 x5_1) == (rd l1 x5_1)) = false := fN_q.mpr c7
       have c7b1 : ((rd l0 x5_1) != (rd l1 x5_1)) = true := nI_q.mpr c7
       obtain rfl := oI_q H
       have p542 : 0 ≤ (x5_1 : Int) := oD_q (by assumption)
       have q542 : x5_1 < (l0.length : Int) := oD_q (by assumption)
       obtain ⟨ad542, e542, hx542_0⟩ := aI_q HR0.out x5_1 p542 q542
       cases e542
       replace p542 := eq_true p542
       replace q542 := eq_true q542
       have p543 : 0 ≤ (x5_1 : Int) := oD_q (by assumption)
       have q543 : x5_1 < (l1.length : Int) := oD_q (by assumption)
       obtain ⟨ad543, e543, hx543_0⟩ := aI_q HR1.out x5_1 p543 q543
       cases e543
       replace p543 := eq_true p543
       replace q543 := eq_true q543
       go_wp2
       repeat (go_quiet (fail); try go_wp2)
       go_ret
       exact ⟨by first | rfl | (simp; done) | (simp [*]; done), by repeat (first | exact Drawn0.refl _ | apply Drawn0.step)⟩
      rw [if_neg c6] at H
      exact absurd H (by simp)
     rw [if_neg c5] at H
     exact absurd H (by simp)
    rw [if_neg c4] at H
    have c4b0 : decide (x5_1 < (l0.length : Int)) = false := dF_q c4
    clear c4
    obtain rfl := oI_q H
    go_wp2
    repeat (go_quiet (fail); try go_wp2)
    go_ret
    exact ⟨by first | rfl | (simp; done) | (simp [*]; done), by repeat (first | exact Drawn0.refl _ | apply Drawn0.step)⟩
 rw [if_neg c3] at H
 have c3b0 : ((l0.length : Int) == (l1.length : Int)) = false := fN_q.mpr c3
 have c3b1 : ((l0.length : Int) != (l1.length : Int)) = true := nI_q.mpr c3
 have c3b2 : (l0.length == l1.length) = false := by first | simpa using c3 | (simp at c3 ⊢; omega)
 obtain rfl := oI_q H
 go_enter Try.func17, Try.ntmps17
 go_wp2
 repeat (go_quiet (fail); try go_wp2)
 go_ret
 exact ⟨by first | rfl | (simp; done) | (simp [*]; done), by repeat (first | exact Drawn0.refl _ | apply Drawn0.step)⟩

def laws_hasInt.l0 : Nat → List Int → Int → Int → Option (Bool)
 | 0, _, _, _ => none
 | k + 1, x0, x1, x5 => if x5 < (x0.length : Int) then (if 0 ≤ x5 then (if (rd x0 x5) = x1 then (some true) else (laws_hasInt.l0 k x0 x1 (wrap64 (x5 + 1)))) else (none)) else (some false)
def laws_hasInt.f (k : Nat) (l0 : List Int) (a1 : Int) : Option (Bool) := laws_hasInt.l0 k l0 a1 0
theorem laws_hasInt.mono_l : ∀ k, (∀ y0 y1 y2, LeO (laws_hasInt.l0 k y0 y1 y2) (laws_hasInt.l0 (k + 1) y0 y1 y2))
 | 0 => fun _ _ _ r h => by simp [laws_hasInt.l0] at h
 | k + 1 => by
  have ih0 := laws_hasInt.mono_l k
  intro y0 y1 y2
  unfold laws_hasInt.l0
  repeat' first
  | (with_reducible exact ih0 _ _ _)
  | (with_reducible exact lR_q _)
  | (with_reducible exact lO_q _)
  | (with_reducible refine lI_q ?_ ?_)
  | (with_reducible refine lB_q ?_ (fun _ => ?_))
  | exact ih0 _ _ _
  | exact lO_q _
  | refine lI_q ?_ ?_
  | refine lB_q ?_ (fun _ => ?_)
theorem laws_hasInt.mono : ∀ a0 a1 k, LeO (laws_hasInt.f k a0 a1) (laws_hasInt.f (k + 1) a0 a1) := by
 intro a0 a1 k
 have ih0 := laws_hasInt.mono_l k
 unfold laws_hasInt.f
 repeat' first
  | (with_reducible exact ih0 _ _ _)
  | (with_reducible exact lR_q _)
  | (with_reducible exact lO_q _)
  | (with_reducible refine lI_q ?_ ?_)
  | (with_reducible refine lB_q ?_ (fun _ => ?_))
  | exact ih0 _ _ _
  | exact lO_q _
  | refine lI_q ?_ ?_
  | refine lB_q ?_ (fun _ => ?_)
set_option maxHeartbeats 8000000 in
set_option maxRecDepth 100000 in
theorem laws_hasInt.calls (k : Nat) (A0 : Option Addr) (c0 : Nat) (l0 : List Int) (a1 : Int) (r : Bool) (w : World) (hr0 : Kd.C kI_q w A0 l0.length l0) (hc0 : l0.length ≤ c0) (h : laws_hasInt.f k l0 a1 = some r) :
    Calls Try.prog 18 #[.slice A0 l0.length c0, .int .i64 a1] w fun e w' => e = .returned (.bool r) ∧ Drawn0 w w' := by
 have HR0 := Ae_q hr0
 have HC0 := Ae_q hc0
 clear hr0 hc0
 have H : (laws_hasInt.l0 k l0 a1 0) = some r := h
 clear h
 have H' := Ae_q H
 clear H
 go_enter Try.func18, Try.ntmps18
 go_wp2
 go_loopg [5] k (fun kq v5 w' => ∃ (x5_1 : Int), v5 = .int .i64 x5_1 ∧ Aside0 (laws_hasInt.l0 kq l0 a1 x5_1 = some r) ∧ Aside0 (kq ≤ k) ∧ Drawn0 w w')
 case atStart => exact ⟨(0), (by first | rfl | (simp; done) | (simp [*]; done)), H', ⟨nR_q _⟩, by repeat (first | exact Drawn0.refl _ | apply Drawn0.step)⟩
 case round =>
  clear H'
  try clear c1
  try clear p2
  obtain ⟨x5_1, rfl, HA, HK1, ⟨m1, rfl⟩⟩ := hrel
  cases gk with
  | zero => exact absurd HA.out (by simp [laws_hasInt.l0])
  | succ k1 =>
   have H := HA.out
   clear HA
   simp only [laws_hasInt.l0] at H
   by_cases c3 : x5_1 < (l0.length : Int)
   ·rw [if_pos c3] at H
    have c3b0 : decide (x5_1 < (l0.length : Int)) = true := dT_q c3
    clear c3
    by_cases c4 : 0 ≤ x5_1
    ·rw [if_pos c4] at H
     have c4b0 : decide (0 ≤ x5_1) = true := dT_q c4
     clear c4
     by_cases c5 : (rd l0 x5_1) = a1
     ·rw [if_pos c5] at H
      have c5b0 : ((rd l0 x5_1) == a1) = true := beq_iff_eq.mpr c5
      have c5b1 : ((rd l0 x5_1) != a1) = false := nE_q.mpr c5
      clear c5
      obtain rfl := oI_q H
      have p544 : 0 ≤ (x5_1 : Int) := oD_q (by assumption)
      have q544 : x5_1 < (l0.length : Int) := oD_q (by assumption)
      obtain ⟨ad544, e544, hx544_0⟩ := aI_q HR0.out x5_1 p544 q544
      cases e544
      replace p544 := eq_true p544
      replace q544 := eq_true q544
      go_wp2
      go_ret
      exact ⟨by first | rfl | (simp; done) | (simp [*]; done), by repeat (first | exact Drawn0.refl _ | apply Drawn0.step)⟩
     rw [if_neg c5] at H
     have c5b0 : ((rd l0 x5_1) == a1) = false := fN_q.mpr c5
     have c5b1 : ((rd l0 x5_1) != a1) = true := nI_q.mpr c5
     have H' := Ae_q H
     clear H
     have p544 : 0 ≤ (x5_1 : Int) := oD_q (by assumption)
     have q544 : x5_1 < (l0.length : Int) := oD_q (by assumption)
     obtain ⟨ad544, e544, hx544_0⟩ := aI_q HR0.out x5_1 p544 q544
     cases e544
     replace p544 := eq_true p544
     replace q544 := eq_true q544
     go_wp2
     go_roundg k1
     case measure => have := HK1.out; omega
     case rel => exact ⟨(wrap64 (x5_1 + 1)), (by first | rfl | (simp; done) | (simp [*]; done)), H', ⟨by have := HK1.out; omega⟩, by repeat (first | exact Drawn0.refl _ | apply Drawn0.step)⟩
    rw [if_neg c4] at H
    exact absurd H (by simp)
   rw [if_neg c3] at H
   have c3b0 : decide (x5_1 < (l0.length : Int)) = false := dF_q c3
   clear c3
   obtain rfl := oI_q H
   go_wp2
   go_ret
   exact ⟨by first | rfl | (simp; done) | (simp [*]; done), by repeat (first | exact Drawn0.refl _ | apply Drawn0.step)⟩

end Go.Proofs.Ytjnagefogjkbbaa.PPl
