import Derived.Test.YtnhenfmegpjigaaVAPEvx0
import Derived.Test.YtnhenfmegpjigaaVAPEvx3
import Derived.Test.YtnhenfmegpjigaaVAPEvx5
import Derived.Test.YtnhenfmegpjigaaVAPEvx6
namespace Go.Proofs.Ytnhenfmegpjigaa.PEv
open Go.RowKit Go.Proofs.YtnhenfmegpjigaaW.PrintWords Go.Proofs.YtnhenfmegpjigaaW.PrintLast Go.Proofs.YtnhenfmegpjigaaW.PrintMore
attribute [local go_sem] max2_int min2_int max_two min_two max_three min_three max_four min_four
set_option linter.unusedVariables false
set_option linter.unusedSimpArgs false

mutual
def laws_FnEventsPart.j0 : Nat → List Int → List Int → Bool → Option (Bool)
 | 0, _, _, _ => none
 | k + 1, x0, x1, x18 => if x18 = true then (some true) else ((spec_DrawEventsValid.f k x0).bind fun t197 => ((impl_EventsValid.f k t197).bind fun t200 => ((spec_EventsValid.f k t197).bind fun t201 => (if (t200 != t201) = true then (laws_FnEventsPart.j1 k x1 t197 t200 t201 true) else (if t200 = true then (laws_FnEventsPart.j1 k x1 t197 t200 t201 ((t197.length : Int) == 0)) else (laws_FnEventsPart.j1 k x1 t197 t200 t201 true))))))
def laws_FnEventsPart.j1 : Nat → List Int → List (S27) → Bool → Bool → Bool → Option (Bool)
 | 0, _, _, _, _, _ => none
 | k + 1, x1, x5, x6, x7, x36 => if x36 = true then (some (x6 == x7)) else (if (x5.length : Int) = 0 then (none) else ((some (([] : List (S27)) : List (S27))).bind fun y202 => (if 0 ≤ ((x1.length : Int) % (x5.length : Int)) then (if ((x1.length : Int) % (x5.length : Int)) ≤ (x5.length : Int) then ((some (x5.take (((x1.length : Int) % (x5.length : Int)) : Int).toNat : List (S27))).bind fun y205 => (if y202.length + y205.length < 2932031007402 then ((some (y202 ++ y205 : List (S27))).bind fun y209 => (if 0 ≤ (wrap64 (((x1.length : Int) % (x5.length : Int)) + 1)) then (if (wrap64 (((x1.length : Int) % (x5.length : Int)) + 1)) ≤ (x5.length : Int) then ((some (x5.drop ((wrap64 (((x1.length : Int) % (x5.length : Int)) + 1)) : Int).toNat : List (S27))).bind fun y212 => (if y209.length + y212.length < 2932031007402 then ((some (([] : List (S27)) : List (S27))).bind fun y219 => (if y219.length + x5.length < 2932031007402 then ((some (y219 ++ x5 : List (S27))).bind fun y222 => (if ((x1.length : Int) % (x5.length : Int)) < (y222.length : Int) then ((impl_EventsValid.f k (y209 ++ y212)).bind fun t226 => (if t226 = true then ((impl_EventsValid.f k (y222.set (((x1.length : Int) % (x5.length : Int)) : Int).toNat (⟨0, (rd_T27 y222 ((x1.length : Int) % (x5.length : Int))).f1, (rd_T27 y222 ((x1.length : Int) % (x5.length : Int))).f2, (rd_T27 y222 ((x1.length : Int) % (x5.length : Int))).f3, (rd_T27 y222 ((x1.length : Int) % (x5.length : Int))).f4, (rd_T27 y222 ((x1.length : Int) % (x5.length : Int))).f5⟩ : S27))).bind fun t227 => (some (!t227))) else (some false))) else (none))) else (none))) else (none))) else (none)) else (none))) else (none))) else (none)) else (none))))
end
def laws_FnEventsPart.f (k : Nat) (l0 : List Int) (l1 : List Int) : Option (Bool) := if (l0.length : Int) > 1048576 then (laws_FnEventsPart.j0 k l0 l1 true) else (laws_FnEventsPart.j0 k l0 l1 (decide ((l1.length : Int) > 1048576)))
theorem laws_FnEventsPart.mono_l : ∀ k, (∀ y0 y1 y2, LeO (laws_FnEventsPart.j0 k y0 y1 y2) (laws_FnEventsPart.j0 (k + 1) y0 y1 y2)) ∧ (∀ y0 y1 y2 y3 y4, LeO (laws_FnEventsPart.j1 k y0 y1 y2 y3 y4) (laws_FnEventsPart.j1 (k + 1) y0 y1 y2 y3 y4))
 | 0 => ⟨fun _ _ _ r h => by simp [laws_FnEventsPart.j0] at h, fun _ _ _ _ _ r h => by simp [laws_FnEventsPart.j1] at h⟩
 | k + 1 => by
  obtain ⟨ih0, ih1⟩ := laws_FnEventsPart.mono_l k
  refine ⟨?_, ?_⟩
  ·intro y0 y1 y2
   unfold laws_FnEventsPart.j0
   repeat' first
   | (with_reducible exact ih0 _ _ _)
   | (with_reducible exact ih1 _ _ _ _ _)
   | (with_reducible exact impl_EventsValid.mono _ _)
   | (with_reducible exact spec_DrawEventsValid.mono _ _)
   | (with_reducible exact spec_EventsValid.mono _ _)
   | (with_reducible exact lR_q _)
   | (with_reducible exact lO_q _)
   | (with_reducible refine lI_q ?_ ?_)
   | (with_reducible refine lB_q ?_ (fun _ => ?_))
   | exact ih0 _ _ _
   | exact ih1 _ _ _ _ _
   | exact impl_EventsValid.mono _ _
   | exact spec_DrawEventsValid.mono _ _
   | exact spec_EventsValid.mono _ _
   | exact lO_q _
   | refine lI_q ?_ ?_
   | refine lB_q ?_ (fun _ => ?_)
  intro y0 y1 y2 y3 y4
  unfold laws_FnEventsPart.j1
  repeat' first
  | (with_reducible exact ih0 _ _ _)
  | (with_reducible exact ih1 _ _ _ _ _)
  | (with_reducible exact impl_EventsValid.mono _ _)
  | (with_reducible exact spec_DrawEventsValid.mono _ _)
  | (with_reducible exact spec_EventsValid.mono _ _)
  | (with_reducible exact lR_q _)
  | (with_reducible exact lO_q _)
  | (with_reducible refine lI_q ?_ ?_)
  | (with_reducible refine lB_q ?_ (fun _ => ?_))
  | exact ih0 _ _ _
  | exact ih1 _ _ _ _ _
  | exact impl_EventsValid.mono _ _
  | exact spec_DrawEventsValid.mono _ _
  | exact spec_EventsValid.mono _ _
  | exact lO_q _
  | refine lI_q ?_ ?_
  | refine lB_q ?_ (fun _ => ?_)
theorem laws_FnEventsPart.mono : ∀ a0 a1 k, LeO (laws_FnEventsPart.f k a0 a1) (laws_FnEventsPart.f (k + 1) a0 a1) := by
 intro a0 a1 k
 obtain ⟨ih0, ih1⟩ := laws_FnEventsPart.mono_l k
 unfold laws_FnEventsPart.f
 repeat' first
  | (with_reducible exact ih0 _ _ _)
  | (with_reducible exact ih1 _ _ _ _ _)
  | (with_reducible exact impl_EventsValid.mono _ _)
  | (with_reducible exact spec_DrawEventsValid.mono _ _)
  | (with_reducible exact spec_EventsValid.mono _ _)
  | (with_reducible exact lR_q _)
  | (with_reducible exact lO_q _)
  | (with_reducible refine lI_q ?_ ?_)
  | (with_reducible refine lB_q ?_ (fun _ => ?_))
  | exact ih0 _ _ _
  | exact ih1 _ _ _ _ _
  | exact impl_EventsValid.mono _ _
  | exact spec_DrawEventsValid.mono _ _
  | exact spec_EventsValid.mono _ _
  | exact lO_q _
  | refine lI_q ?_ ?_
  | refine lB_q ?_ (fun _ => ?_)
def laws_FnEventsPart.T9 : Bool × List (List Nat × List Nat) := (true, [([], []), ([], []), ([], []), ([1, 2], [1, 2]), ([0, 3], [0, 3]), ([], []), ([], []), ([6], [6]), ([5, 7], [5, 7]), ([4, 8, 4], [4, 8]), ([9, 9, 0, 1, 2, 3, 4, 5, 6, 7, 8, 9], [9])])
def laws_FnEventsPart.B9 : List Nat := [0, 0, 0, 6, 15, 0, 0, 64, 224, 511, 1023]
theorem laws_FnEventsPart.tab9 : rtab .any (opsOf Try.f3 9) = laws_FnEventsPart.T9 := by kernel_rfl
theorem laws_FnEventsPart.bits9 : waitsOk laws_FnEventsPart.T9.2 laws_FnEventsPart.B9 = true := by kernel_rfl
set_option maxHeartbeats 8000000 in
set_option maxRecDepth 100000 in
theorem laws_FnEventsPart.calls (k : Nat) (A0 : Option Addr) (c0 : Nat) (l0 : List Int) (A1 : Option Addr) (c1 : Nat) (l1 : List Int) (r : Bool) (w : World) (hr0 : Kd.C (Kd.int .u8) w A0 l0.length l0) (hc0 : l0.length ≤ c0) (hr1 : Kd.C (Kd.int .u8) w A1 l1.length l1) (hc1 : l1.length ≤ c1) (h : laws_FnEventsPart.f k l0 l1 = some r) :
    Calls Try.prog 3 #[.slice A0 l0.length c0, .slice A1 l1.length c1] w fun e w' => e = .returned (.bool r) ∧ Below w.heap.size w w' := by
 have HR0 := Ae_q hr0
 have HC0 := Ae_q hc0
 clear hr0 hc0
 have HR1 := Ae_q hr1
 have HC1 := Ae_q hc1
 clear hr1 hc1
 have HB := Ae_q (bR_q w.heap.size w)
 have H : (if (l0.length : Int) > 1048576 then (laws_FnEventsPart.j0 k l0 l1 true) else (laws_FnEventsPart.j0 k l0 l1 (decide ((l1.length : Int) > 1048576)))) = some r := h
 clear h
 have HC3 := Ae_q H
 clear H
 go_enter Try.func3, Try.ntmps3
 go_upto_region 1 with (fail)
 go_cut [18] (fun v18 wc => ∃ (kq : Nat) (x18_2 : Bool), v18 = .bool x18_2 ∧ Aside0 (laws_FnEventsPart.j0 kq l0 l1 x18_2 = some r) ∧ Aside0 (kq ≤ k) ∧ Aside0 (Below w.heap.size w wc))
 case first =>
  have H := HC3.out
  clear HC3
  by_cases c4 : (l0.length : Int) > 1048576
  ·rw [if_pos c4] at H
   have c4b0 : decide (1048576 < (l0.length : Int)) = true := dT_q c4
   have c4b1 : decide (1048576 < l0.length) = true := dT_q (by omega)
   clear c4
   (first | rw [c4b0] | (simp only [i64_w, i32_w]; rw [c4b0]) | skip)
   have H' := Ae_q H
   clear H
   go_wp2
   go_meet
   case rel => exact ⟨_, (true), (by first | rfl | (simp; done) | (simp [*]; done)), H', ⟨by first | omega | exact nR_q _⟩, ⟨bel HB.out⟩⟩
  rw [if_neg c4] at H
  have c4b0 : decide (1048576 < (l0.length : Int)) = false := dF_q c4
  have c4b1 : decide (1048576 < l0.length) = false := dF_q (by omega)
  clear c4
  (first | rw [c4b0] | (simp only [i64_w, i32_w]; rw [c4b0]) | skip)
  have H' := Ae_q H
  clear H
  go_wp2
  go_meet
  case rel => exact ⟨_, (decide ((l1.length : Int) > 1048576)), (by first | rfl | (simp; done) | (simp [*]; done)), H', ⟨by first | omega | exact nR_q _⟩, ⟨bel HB.out⟩⟩
 case rest =>
  clear HC3
  try clear c1
  try clear p2
  try clear c3
  try clear c4
  try clear c4b0
  try clear c4b1
  obtain ⟨kq, x18_2, rfl, HA, HJ2, HB⟩ := hcut
  cases kq with
  | zero => exact absurd HA.out (by simp [laws_FnEventsPart.j0])
  | succ kj2 =>
   have H := HA.out
   clear HA
   simp only [laws_FnEventsPart.j0] at H
   by_cases c5 : x18_2 = true
   ·subst c5
    have H1 : (some true) = some r := by rw [if_pos rfl] at H; exact H
    clear H
    have H := H1
    clear H1
    obtain rfl := oI_q H
    go_wp2
    go_ret
    exact ⟨by first | rfl | (simp [eN_q, eS_q] <;> rfl) | (simp [*, eN_q, eS_q] <;> rfl), bel HB.out⟩
   replace c5 := fM_q.mpr c5
   subst c5
   have H1 : ((spec_DrawEventsValid.f kj2 l0).bind fun t197 => ((impl_EventsValid.f kj2 t197).bind fun t200 => ((spec_EventsValid.f kj2 t197).bind fun t201 => (if (t200 != t201) = true then (laws_FnEventsPart.j1 kj2 l1 t197 t200 t201 true) else (if t200 = true then (laws_FnEventsPart.j1 kj2 l1 t197 t200 t201 ((t197.length : Int) == 0)) else (laws_FnEventsPart.j1 kj2 l1 t197 t200 t201 true)))))) = some r := by rw [if_neg (show ¬ (false = true) by decide)] at H; exact H
   clear H
   have H := H1
   clear H1
   replace H := oB_q.mp H
   obtain ⟨t197, A60, H⟩ := H
   replace H : ((impl_EventsValid.f kj2 t197).bind fun t200 => ((spec_EventsValid.f kj2 t197).bind fun t201 => (if (t200 != t201) = true then (laws_FnEventsPart.j1 kj2 l1 t197 t200 t201 true) else (if t200 = true then (laws_FnEventsPart.j1 kj2 l1 t197 t200 t201 ((t197.length : Int) == 0)) else (laws_FnEventsPart.j1 kj2 l1 t197 t200 t201 true))))) = some r := H
   have A6 := Ae_q A60
   clear A60
   replace H := oB_q.mp H
   obtain ⟨t200, A70, H⟩ := H
   replace H : ((spec_EventsValid.f kj2 t197).bind fun t201 => (if (t200 != t201) = true then (laws_FnEventsPart.j1 kj2 l1 t197 t200 t201 true) else (if t200 = true then (laws_FnEventsPart.j1 kj2 l1 t197 t200 t201 ((t197.length : Int) == 0)) else (laws_FnEventsPart.j1 kj2 l1 t197 t200 t201 true)))) = some r := H
   have A7 := Ae_q A70
   clear A70
   replace H := oB_q.mp H
   obtain ⟨t201, A80, H⟩ := H
   replace H : (if (t200 != t201) = true then (laws_FnEventsPart.j1 kj2 l1 t197 t200 t201 true) else (if t200 = true then (laws_FnEventsPart.j1 kj2 l1 t197 t200 t201 ((t197.length : Int) == 0)) else (laws_FnEventsPart.j1 kj2 l1 t197 t200 t201 true))) = some r := H
   have A8 := Ae_q A80
   clear A80
   have HC9 := Ae_q H
   clear H
   go_upto_region 6 with (first | ((with_reducible refine gC_q (f := 15) rfl ?_); refine gL_q (some 20) rfl rfl Try.func15 (by kernel_rfl) rfl #[.slice A0 l0.length c0] rfl (by (try simp only [lM_q, lC_q, lN_q]); first | done | rfl | (simp only [lD_q, lT_q]; rfl)) ?_; (with_reducible refine (spec_DrawEventsValid.calls kj2 _ _ l0 t197 _ ?side1 ?side2 A6.out).mono ?_); (case side1 => exact cup (cB_q HR0.out HB.out)); (case side2 => exact HC0.out); rintro e w10 ⟨v198, rfl, ho0, hb⟩; refine ⟨_, rfl, ?_⟩; have n0_ := Ae_q (rL_q ho0 (bZ_q (bel HB.out))); have n1_ := Ae_q (bT_q (bel HB.out) hb); clear HB; have HO199 := n0_; have HB := n1_; clear n0_ n1_; (try clear hb); (try clear hb2); (try clear hk); (try clear hi); (try clear ho0); obtain ⟨Ao11, co11, eo11⟩ := rS_q HO199.out; subst eo11) | ((with_reducible refine gC_q (f := 16) rfl ?_); refine gL_q (some 22) rfl rfl Try.func16 (by kernel_rfl) rfl #[.slice Ao11 t197.length co11] rfl (by (try simp only [lM_q, lC_q, lN_q]); first | done | rfl | (simp only [lD_q, lT_q]; rfl)) ?_; (with_reducible refine (impl_EventsValid.calls kj2 _ _ t197 t200 _ ?side1 ?side2 A7.out).mono ?_); (case side1 => exact cup (rR_q HO199.out).2.2); (case side2 => exact (rR_q HO199.out).2.1); rintro e w12 ⟨rfl, hb⟩; refine ⟨_, rfl, ?_⟩; have n0_ := Ae_q (rO_q (rup HO199.out) hb); have n1_ := Ae_q (bT_q (bel HB.out) hb); clear HO199; clear HB; have HO199 := n0_; have HB := n1_; clear n0_ n1_; (try clear hb); (try clear hb2); (try clear hk); (try clear hi)) | ((with_reducible refine gC_q (f := 17) rfl ?_); refine gL_q (some 24) rfl rfl Try.func17 (by kernel_rfl) rfl #[.slice Ao11 t197.length co11] rfl (by (try simp only [lM_q, lC_q, lN_q]); first | done | rfl | (simp only [lD_q, lT_q]; rfl)) ?_; (with_reducible refine (spec_EventsValid.calls kj2 _ _ t197 t201 _ ?side1 ?side2 A8.out).mono ?_); (case side1 => exact cup (rR_q HO199.out).2.2); (case side2 => exact (rR_q HO199.out).2.1); rintro e w13 ⟨rfl, hb⟩; refine ⟨_, rfl, ?_⟩; have n0_ := Ae_q (rO_q (rup HO199.out) hb); have n1_ := Ae_q (bT_q (bel HB.out) hb); clear HO199; clear HB; have HO199 := n0_; have HB := n1_; clear n0_ n1_; (try clear hb); (try clear hb2); (try clear hk); (try clear hi)))
   (try simp only [Act.put, sA_q, sZ_q, sS_q])
   go_cut [36] (fun v36 wc => ∃ (kq : Nat) (x36_8 : Bool), v36 = .bool x36_8 ∧ Aside0 (laws_FnEventsPart.j1 kq l1 t197 t200 t201 x36_8 = some r) ∧ Aside0 (kq ≤ kj2) ∧ Aside0 (Kd.R k27 27 wc w.heap.size (fun _ => True) (.slice Ao11 t197.length co11) t197) ∧ Aside0 (Below w.heap.size w wc))
   case first =>
    have H := HC9.out
    clear HC9
    by_cases c14 : (t200 != t201) = true
    ·rw [if_pos c14] at H
     have c14b0 : (t200 != t201) = true := c14
     (try (have c14b1 : decide (t200 = t201) = false := by simpa using c14))
     (try (have c14b2 : (t200 == t201) = false := by simpa using c14))
     (try (have c14b3 : ¬ (t200 = t201) := by simpa using c14))
     clear c14
     (first | rw [c14b0] | (simp only [i64_w, i32_w]; rw [c14b0]) | skip)
     have H' := Ae_q H
     clear H
     go_wp2
     go_meet
     case rel => exact ⟨_, (true), (by first | rfl | (simp; done) | (simp [*]; done)), H', ⟨by have := HJ2.out; first | omega | exact nR_q _⟩, ⟨by (with_reducible repeat (first | apply rA_q | apply rN_q | apply rD_q)); exact HO199.out⟩, ⟨bel HB.out⟩⟩
    rw [if_neg c14] at H
    have c14b0 : (t200 != t201) = false := by simpa using c14
    (try (have c14b1 : decide (t200 = t201) = true := by simpa using c14))
    (try (have c14b2 : (t200 == t201) = true := by simpa using c14))
    clear c14
    (first | rw [c14b0] | (simp only [i64_w, i32_w]; rw [c14b0]) | skip)
    by_cases c15 : t200 = true
    ·subst c15
     have H1 : (laws_FnEventsPart.j1 kj2 l1 t197 true t201 ((t197.length : Int) == 0)) = some r := by rw [if_pos rfl] at H; exact H
     clear H
     have H := H1
     clear H1
     have H' := Ae_q H
     clear H
     go_wp2
     go_meet
     case rel => exact ⟨_, (((t197.length : Int) == 0)), (by first | rfl | (simp; done) | (simp [*]; done)), H', ⟨by have := HJ2.out; first | omega | exact nR_q _⟩, ⟨by (with_reducible repeat (first | apply rA_q | apply rN_q | apply rD_q)); exact HO199.out⟩, ⟨bel HB.out⟩⟩
    replace c15 := fM_q.mpr c15
    subst c15
    have H1 : (laws_FnEventsPart.j1 kj2 l1 t197 false t201 true) = some r := by rw [if_neg (show ¬ (false = true) by decide)] at H; exact H
    clear H
    have H := H1
    clear H1
    have H' := Ae_q H
    clear H
    go_wp2
    go_meet
    case rel => exact ⟨_, (true), (by first | rfl | (simp; done) | (simp [*]; done)), H', ⟨by have := HJ2.out; first | omega | exact nR_q _⟩, ⟨by (with_reducible repeat (first | apply rA_q | apply rN_q | apply rD_q)); exact HO199.out⟩, ⟨bel HB.out⟩⟩
   case rest =>
    clear HC9
    try clear c1
    try clear p2
    try clear c3
    try clear c4
    try clear c4b0
    try clear c4b1
    try clear c5
    try clear c14
    try clear c14b0
    try clear c14b1
    try clear c14b2
    try clear c15
    try clear p2
    obtain ⟨kq, x36_8, rfl, HA, HJ8, HO_5, HB⟩ := hcut
    cases kq with
    | zero => exact absurd HA.out (by simp [laws_FnEventsPart.j1])
    | succ kj8 =>
     have H := HA.out
     clear HA
     simp only [laws_FnEventsPart.j1] at H
     by_cases c16 : x36_8 = true
     ·subst c16
      have H1 : (some (t200 == t201)) = some r := by rw [if_pos rfl] at H; exact H
      clear H
      have H := H1
      clear H1
      obtain rfl := oI_q H
      go_wp2
      go_ret
      exact ⟨by first | rfl | (simp [eN_q, eS_q] <;> rfl) | (simp [*, eN_q, eS_q] <;> rfl), bel HB.out⟩
     replace c16 := fM_q.mpr c16
     subst c16
     have H1 : (if (t197.length : Int) = 0 then (none) else ((some (([] : List (S27)) : List (S27))).bind fun y202 => (if 0 ≤ ((l1.length : Int) % (t197.length : Int)) then (if ((l1.length : Int) % (t197.length : Int)) ≤ (t197.length : Int) then ((some (t197.take (((l1.length : Int) % (t197.length : Int)) : Int).toNat : List (S27))).bind fun y205 => (if y202.length + y205.length < 2932031007402 then ((some (y202 ++ y205 : List (S27))).bind fun y209 => (if 0 ≤ (wrap64 (((l1.length : Int) % (t197.length : Int)) + 1)) then (if (wrap64 (((l1.length : Int) % (t197.length : Int)) + 1)) ≤ (t197.length : Int) then ((some (t197.drop ((wrap64 (((l1.length : Int) % (t197.length : Int)) + 1)) : Int).toNat : List (S27))).bind fun y212 => (if y209.length + y212.length < 2932031007402 then ((some (([] : List (S27)) : List (S27))).bind fun y219 => (if y219.length + t197.length < 2932031007402 then ((some (y219 ++ t197 : List (S27))).bind fun y222 => (if ((l1.length : Int) % (t197.length : Int)) < (y222.length : Int) then ((impl_EventsValid.f kj8 (y209 ++ y212)).bind fun t226 => (if t226 = true then ((impl_EventsValid.f kj8 (y222.set (((l1.length : Int) % (t197.length : Int)) : Int).toNat (⟨0, (rd_T27 y222 ((l1.length : Int) % (t197.length : Int))).f1, (rd_T27 y222 ((l1.length : Int) % (t197.length : Int))).f2, (rd_T27 y222 ((l1.length : Int) % (t197.length : Int))).f3, (rd_T27 y222 ((l1.length : Int) % (t197.length : Int))).f4, (rd_T27 y222 ((l1.length : Int) % (t197.length : Int))).f5⟩ : S27))).bind fun t227 => (some (!t227))) else (some false))) else (none))) else (none))) else (none))) else (none)) else (none))) else (none))) else (none)) else (none)))) = some r := by rw [if_neg (show ¬ (false = true) by decide)] at H; exact H
     clear H
     have H := H1
     clear H1
     by_cases c17 : (t197.length : Int) = 0
     ·rw [if_pos c17] at H
      exact absurd H (by simp)
     rw [if_neg c17] at H
     have c17b0 : ((t197.length : Int) == 0) = false := fN_q.mpr c17
     have c17b1 : ((t197.length : Int) != 0) = true := nI_q.mpr c17
     have c17b2 : ¬ (t197 = []) := fun h_ => c17 (by rw [h_]; rfl)
     obtain ⟨y202, hy202⟩ : ∃ y_ : List (S27), y_ = (([] : List (S27))) := ⟨_, rfl⟩
     replace H : (if 0 ≤ ((l1.length : Int) % (t197.length : Int)) then (if ((l1.length : Int) % (t197.length : Int)) ≤ (t197.length : Int) then ((some (t197.take (((l1.length : Int) % (t197.length : Int)) : Int).toNat : List (S27))).bind fun y205 => (if y202.length + y205.length < 2932031007402 then ((some (y202 ++ y205 : List (S27))).bind fun y209 => (if 0 ≤ (wrap64 (((l1.length : Int) % (t197.length : Int)) + 1)) then (if (wrap64 (((l1.length : Int) % (t197.length : Int)) + 1)) ≤ (t197.length : Int) then ((some (t197.drop ((wrap64 (((l1.length : Int) % (t197.length : Int)) + 1)) : Int).toNat : List (S27))).bind fun y212 => (if y209.length + y212.length < 2932031007402 then ((some (([] : List (S27)) : List (S27))).bind fun y219 => (if y219.length + t197.length < 2932031007402 then ((some (y219 ++ t197 : List (S27))).bind fun y222 => (if ((l1.length : Int) % (t197.length : Int)) < (y222.length : Int) then ((impl_EventsValid.f kj8 (y209 ++ y212)).bind fun t226 => (if t226 = true then ((impl_EventsValid.f kj8 (y222.set (((l1.length : Int) % (t197.length : Int)) : Int).toNat (⟨0, (rd_T27 y222 ((l1.length : Int) % (t197.length : Int))).f1, (rd_T27 y222 ((l1.length : Int) % (t197.length : Int))).f2, (rd_T27 y222 ((l1.length : Int) % (t197.length : Int))).f3, (rd_T27 y222 ((l1.length : Int) % (t197.length : Int))).f4, (rd_T27 y222 ((l1.length : Int) % (t197.length : Int))).f5⟩ : S27))).bind fun t227 => (some (!t227))) else (some false))) else (none))) else (none))) else (none))) else (none)) else (none))) else (none))) else (none)) else (none)) = some r := by first | (rw [hy202]; with_reducible exact H) | (have H2_ := (oS_q _ _).symm.trans H; rw [hy202]; with_reducible exact H2_) | (have H2_ := (oS_q _ _).symm.trans H; with_reducible exact H2_) | with_reducible exact H | (rw [hy202]; exact H) | exact H
     have Ny202 := Ae_q hy202
     clear hy202
     obtain ⟨ji18, hji18⟩ : ∃ j_ : Int, ((l1.length : Int) % (t197.length : Int)) = j_ := ⟨_, rfl⟩
     replace H : (if 0 ≤ (ji18) then (if (ji18) ≤ (t197.length : Int) then ((some (t197.take ((ji18) : Int).toNat : List (S27))).bind fun y205 => (if y202.length + y205.length < 2932031007402 then ((some (y202 ++ y205 : List (S27))).bind fun y209 => (if 0 ≤ (wrap64 ((ji18) + 1)) then (if (wrap64 ((ji18) + 1)) ≤ (t197.length : Int) then ((some (t197.drop ((wrap64 ((ji18) + 1)) : Int).toNat : List (S27))).bind fun y212 => (if y209.length + y212.length < 2932031007402 then ((some (([] : List (S27)) : List (S27))).bind fun y219 => (if y219.length + t197.length < 2932031007402 then ((some (y219 ++ t197 : List (S27))).bind fun y222 => (if (ji18) < (y222.length : Int) then ((impl_EventsValid.f kj8 (y209 ++ y212)).bind fun t226 => (if t226 = true then ((impl_EventsValid.f kj8 (y222.set ((ji18) : Int).toNat (⟨0, (rd_T27 y222 (ji18)).f1, (rd_T27 y222 (ji18)).f2, (rd_T27 y222 (ji18)).f3, (rd_T27 y222 (ji18)).f4, (rd_T27 y222 (ji18)).f5⟩ : S27))).bind fun t227 => (some (!t227))) else (some false))) else (none))) else (none))) else (none))) else (none)) else (none))) else (none))) else (none)) else (none)) = some r := by first | (rw [hji18] at H; exact H) | (simp only [hji18] at H ⊢; exact H)
     by_cases c19 : 0 ≤ (ji18)
     ·rw [if_pos c19] at H
      have c19b0 := eq_true c19
      have c19b1 : decide (0 ≤ (ji18)) = true := dT_q c19
      clear c19
      by_cases c20 : (ji18) ≤ (t197.length : Int)
      ·rw [if_pos c20] at H
       have c20b0 := eq_true c20
       have c20b1 : decide ((ji18) ≤ (t197.length : Int)) = true := dT_q c20
       clear c20
       obtain ⟨y205, hy205⟩ : ∃ y_ : List (S27), y_ = (t197.take ((ji18) : Int).toNat) := ⟨_, rfl⟩
       replace H : (if y202.length + y205.length < 2932031007402 then ((some (y202 ++ y205 : List (S27))).bind fun y209 => (if 0 ≤ (wrap64 ((ji18) + 1)) then (if (wrap64 ((ji18) + 1)) ≤ (t197.length : Int) then ((some (t197.drop ((wrap64 ((ji18) + 1)) : Int).toNat : List (S27))).bind fun y212 => (if y209.length + y212.length < 2932031007402 then ((some (([] : List (S27)) : List (S27))).bind fun y219 => (if y219.length + t197.length < 2932031007402 then ((some (y219 ++ t197 : List (S27))).bind fun y222 => (if (ji18) < (y222.length : Int) then ((impl_EventsValid.f kj8 (y209 ++ y212)).bind fun t226 => (if t226 = true then ((impl_EventsValid.f kj8 (y222.set ((ji18) : Int).toNat (⟨0, (rd_T27 y222 (ji18)).f1, (rd_T27 y222 (ji18)).f2, (rd_T27 y222 (ji18)).f3, (rd_T27 y222 (ji18)).f4, (rd_T27 y222 (ji18)).f5⟩ : S27))).bind fun t227 => (some (!t227))) else (some false))) else (none))) else (none))) else (none))) else (none)) else (none))) else (none)) = some r := by first | (rw [hy205]; with_reducible exact H) | (have H2_ := (oS_q _ _).symm.trans H; rw [hy205]; with_reducible exact H2_) | (have H2_ := (oS_q _ _).symm.trans H; with_reducible exact H2_) | with_reducible exact H | (rw [hy205]; exact H) | exact H
       have Ny205 := Ae_q hy205
       clear hy205
       by_cases c21 : y202.length + y205.length < 2932031007402
       ·rw [if_pos c21] at H
        have LMc21 := Ae_q c21
        clear c21
        obtain ⟨y209, hy209⟩ : ∃ y_ : List (S27), y_ = (y202 ++ y205) := ⟨_, rfl⟩
        replace H : (if 0 ≤ (wrap64 ((ji18) + 1)) then (if (wrap64 ((ji18) + 1)) ≤ (t197.length : Int) then ((some (t197.drop ((wrap64 ((ji18) + 1)) : Int).toNat : List (S27))).bind fun y212 => (if y209.length + y212.length < 2932031007402 then ((some (([] : List (S27)) : List (S27))).bind fun y219 => (if y219.length + t197.length < 2932031007402 then ((some (y219 ++ t197 : List (S27))).bind fun y222 => (if (ji18) < (y222.length : Int) then ((impl_EventsValid.f kj8 (y209 ++ y212)).bind fun t226 => (if t226 = true then ((impl_EventsValid.f kj8 (y222.set ((ji18) : Int).toNat (⟨0, (rd_T27 y222 (ji18)).f1, (rd_T27 y222 (ji18)).f2, (rd_T27 y222 (ji18)).f3, (rd_T27 y222 (ji18)).f4, (rd_T27 y222 (ji18)).f5⟩ : S27))).bind fun t227 => (some (!t227))) else (some false))) else (none))) else (none))) else (none))) else (none)) else (none)) = some r := by first | (rw [hy209]; with_reducible exact H) | (have H2_ := (oS_q _ _).symm.trans H; rw [hy209]; with_reducible exact H2_) | (have H2_ := (oS_q _ _).symm.trans H; with_reducible exact H2_) | with_reducible exact H | (rw [hy209]; exact H) | exact H
        have Ny209 := Ae_q hy209
        clear hy209
        obtain ⟨ji22, hji22⟩ : ∃ j_ : Int, (wrap64 ((ji18) + 1)) = j_ := ⟨_, rfl⟩
        replace H : (if 0 ≤ (ji22) then (if (ji22) ≤ (t197.length : Int) then ((some (t197.drop ((ji22) : Int).toNat : List (S27))).bind fun y212 => (if y209.length + y212.length < 2932031007402 then ((some (([] : List (S27)) : List (S27))).bind fun y219 => (if y219.length + t197.length < 2932031007402 then ((some (y219 ++ t197 : List (S27))).bind fun y222 => (if (ji18) < (y222.length : Int) then ((impl_EventsValid.f kj8 (y209 ++ y212)).bind fun t226 => (if t226 = true then ((impl_EventsValid.f kj8 (y222.set ((ji18) : Int).toNat (⟨0, (rd_T27 y222 (ji18)).f1, (rd_T27 y222 (ji18)).f2, (rd_T27 y222 (ji18)).f3, (rd_T27 y222 (ji18)).f4, (rd_T27 y222 (ji18)).f5⟩ : S27))).bind fun t227 => (some (!t227))) else (some false))) else (none))) else (none))) else (none))) else (none)) else (none)) = some r := by first | (rw [hji22] at H; exact H) | (simp only [hji22] at H ⊢; exact H)
        have hji22w : (IntKind.i64.wrap ((ji18) + 1)) = ji22 := (i64_w _).trans hji22
        by_cases c23 : 0 ≤ (ji22)
        ·rw [if_pos c23] at H
         have c23b0 := eq_true c23
         have c23b1 : decide (0 ≤ (ji22)) = true := dT_q c23
         clear c23
         by_cases c24 : (ji22) ≤ (t197.length : Int)
         ·rw [if_pos c24] at H
          have c24b0 := eq_true c24
          have c24b1 : decide ((ji22) ≤ (t197.length : Int)) = true := dT_q c24
          clear c24
          obtain ⟨y212, hy212⟩ : ∃ y_ : List (S27), y_ = (t197.drop ((ji22) : Int).toNat) := ⟨_, rfl⟩
          replace H : (if y209.length + y212.length < 2932031007402 then ((some (([] : List (S27)) : List (S27))).bind fun y219 => (if y219.length + t197.length < 2932031007402 then ((some (y219 ++ t197 : List (S27))).bind fun y222 => (if (ji18) < (y222.length : Int) then ((impl_EventsValid.f kj8 (y209 ++ y212)).bind fun t226 => (if t226 = true then ((impl_EventsValid.f kj8 (y222.set ((ji18) : Int).toNat (⟨0, (rd_T27 y222 (ji18)).f1, (rd_T27 y222 (ji18)).f2, (rd_T27 y222 (ji18)).f3, (rd_T27 y222 (ji18)).f4, (rd_T27 y222 (ji18)).f5⟩ : S27))).bind fun t227 => (some (!t227))) else (some false))) else (none))) else (none))) else (none)) = some r := by first | (rw [hy212]; with_reducible exact H) | (have H2_ := (oS_q _ _).symm.trans H; rw [hy212]; with_reducible exact H2_) | (have H2_ := (oS_q _ _).symm.trans H; with_reducible exact H2_) | with_reducible exact H | (rw [hy212]; exact H) | exact H
          have Ny212 := Ae_q hy212
          clear hy212
          by_cases c25 : y209.length + y212.length < 2932031007402
          ·rw [if_pos c25] at H
           have LMc25 := Ae_q c25
           clear c25
           obtain ⟨y216, hy216⟩ : ∃ y_ : List (S27), y_ = (y209 ++ y212) := ⟨_, rfl⟩
           replace H : ((some (([] : List (S27)) : List (S27))).bind fun y219 => (if y219.length + t197.length < 2932031007402 then ((some (y219 ++ t197 : List (S27))).bind fun y222 => (if (ji18) < (y222.length : Int) then ((impl_EventsValid.f kj8 y216).bind fun t226 => (if t226 = true then ((impl_EventsValid.f kj8 (y222.set ((ji18) : Int).toNat (⟨0, (rd_T27 y222 (ji18)).f1, (rd_T27 y222 (ji18)).f2, (rd_T27 y222 (ji18)).f3, (rd_T27 y222 (ji18)).f4, (rd_T27 y222 (ji18)).f5⟩ : S27))).bind fun t227 => (some (!t227))) else (some false))) else (none))) else (none))) = some r := by first | (rw [hy216]; with_reducible exact H) | (have H2_ := (oS_q _ _).symm.trans H; rw [hy216]; with_reducible exact H2_) | (have H2_ := (oS_q _ _).symm.trans H; with_reducible exact H2_) | with_reducible exact H | (rw [hy216]; exact H) | exact H
           have Ny216 := Ae_q hy216
           clear hy216
           obtain ⟨y219, hy219⟩ : ∃ y_ : List (S27), y_ = (([] : List (S27))) := ⟨_, rfl⟩
           replace H : (if y219.length + t197.length < 2932031007402 then ((some (y219 ++ t197 : List (S27))).bind fun y222 => (if (ji18) < (y222.length : Int) then ((impl_EventsValid.f kj8 y216).bind fun t226 => (if t226 = true then ((impl_EventsValid.f kj8 (y222.set ((ji18) : Int).toNat (⟨0, (rd_T27 y222 (ji18)).f1, (rd_T27 y222 (ji18)).f2, (rd_T27 y222 (ji18)).f3, (rd_T27 y222 (ji18)).f4, (rd_T27 y222 (ji18)).f5⟩ : S27))).bind fun t227 => (some (!t227))) else (some false))) else (none))) else (none)) = some r := by first | (rw [hy219]; with_reducible exact H) | (have H2_ := (oS_q _ _).symm.trans H; rw [hy219]; with_reducible exact H2_) | (have H2_ := (oS_q _ _).symm.trans H; with_reducible exact H2_) | with_reducible exact H | (rw [hy219]; exact H) | exact H
           have Ny219 := Ae_q hy219
           clear hy219
           by_cases c26 : y219.length + t197.length < 2932031007402
           ·rw [if_pos c26] at H
            have LMc26 := Ae_q c26
            clear c26
            obtain ⟨y222, hy222⟩ : ∃ y_ : List (S27), y_ = (y219 ++ t197) := ⟨_, rfl⟩
            replace H : (if (ji18) < (y222.length : Int) then ((impl_EventsValid.f kj8 y216).bind fun t226 => (if t226 = true then ((impl_EventsValid.f kj8 (y222.set ((ji18) : Int).toNat (⟨0, (rd_T27 y222 (ji18)).f1, (rd_T27 y222 (ji18)).f2, (rd_T27 y222 (ji18)).f3, (rd_T27 y222 (ji18)).f4, (rd_T27 y222 (ji18)).f5⟩ : S27))).bind fun t227 => (some (!t227))) else (some false))) else (none)) = some r := by first | (rw [hy222]; with_reducible exact H) | (have H2_ := (oS_q _ _).symm.trans H; rw [hy222]; with_reducible exact H2_) | (have H2_ := (oS_q _ _).symm.trans H; with_reducible exact H2_) | with_reducible exact H | (rw [hy222]; exact H) | exact H
            have Ny222 := Ae_q hy222
            clear hy222
            by_cases c27 : (ji18) < (y222.length : Int)
            ·rw [if_pos c27] at H
             have c27b0 : decide ((ji18) < (y222.length : Int)) = true := dT_q c27
             clear c27
             obtain ⟨y225, hy225⟩ : ∃ y_ : List (S27), y_ = (y222.set ((ji18) : Int).toNat (⟨0, (rd_T27 y222 (ji18)).f1, (rd_T27 y222 (ji18)).f2, (rd_T27 y222 (ji18)).f3, (rd_T27 y222 (ji18)).f4, (rd_T27 y222 (ji18)).f5⟩ : S27)) := ⟨_, rfl⟩
             replace H : ((impl_EventsValid.f kj8 y216).bind fun t226 => (if t226 = true then ((impl_EventsValid.f kj8 y225).bind fun t227 => (some (!t227))) else (some false))) = some r := by first | (rw [hy225]; with_reducible exact H) | (have H2_ := (oS_q _ _).symm.trans H; rw [hy225]; with_reducible exact H2_) | (have H2_ := (oS_q _ _).symm.trans H; with_reducible exact H2_) | with_reducible exact H | (rw [hy225]; exact H) | exact H
             have Ny225 := Ae_q hy225
             clear hy225
             replace H := oB_q.mp H
             obtain ⟨t226, A290, H⟩ := H
             replace H : (if t226 = true then ((impl_EventsValid.f kj8 y225).bind fun t227 => (some (!t227))) else (some false)) = some r := H
             have A29 := Ae_q A290
             clear A290
             by_cases c30 : t226 = true
             ·subst c30
              have H1 : ((impl_EventsValid.f kj8 y225).bind fun t227 => (some (!t227))) = some r := by rw [if_pos rfl] at H; exact H
              clear H
              have H := H1
              clear H1
              replace H := oB_q.mp H
              obtain ⟨t227, A310, H⟩ := H
              replace H : (some (!t227)) = some r := H
              have A31 := Ae_q A310
              clear A310
              obtain rfl := oI_q H
              try go_wp2
              have n0_ := Ae_q (rD_q HO_5.out)
              have n1_ := Ae_q (bD_q HB.out)
              clear HO_5
              clear HB
              have HO_5 := n0_
              have HB := n1_
              clear n0_ n1_
              have q33 : ((ji18) : Int) ≤ ((t197.length : Int) : Int) := oD_q (by assumption)
              obtain ⟨i033, hi033, _, hsz33, _⟩ := info_parts info27
              have hroom33 : t197.length ≤ co11 := (rR_q HO_5.out).2.1
              have hC33 : Kd.C k27 _ Ao11 t197.length t197 := (rR_q HO_5.out).2.2
              have hcut33 := cut_to (P := Try.prog) 23 27 .i64 Try.underlying23 hi033 Ao11 t197.length co11 (ji18) (oD_q (by assumption)) q33 hroom33
              have hr33 := Kd.C_take (m := ((ji18) : Int).toNat) hC33 (by omega)
              have hy33 : y205.length = ((ji18) : Int).toNat := (by rw [Ny205.out, lT_q]; omega)
              rw [← Ny205.out] at hr33
              rw [← hy33] at hcut33
              have HR208 := Ae_q hr33
              have HC208 := Ae_q (show y205.length ≤ co11 from by omega)
              clear hr33 hC33 hroom33 hi033 hsz33
              have KY33 := Ae_q hy33
              clear hy33
              have KL33 := Ae_q (show ((ji18) : Int).toNat ≤ t197.length from by omega)
              replace q33 := eq_true q33
              have q34 : ((ji22) : Int) ≤ ((t197.length : Int) : Int) := oD_q (by assumption)
              obtain ⟨i034, hi034, _, hsz34, _⟩ := info_parts info27
              have hroom34 : t197.length ≤ co11 := (rR_q HO_5.out).2.1
              have hC34 : Kd.C k27 _ Ao11 t197.length t197 := (rR_q HO_5.out).2.2
              have q034 : (0 : Int) ≤ ((ji22) : Int) := oD_q (by assumption)
              have hcut34 := cut_from (P := Try.prog) 23 27 .i64 Try.underlying23 hi034 6 hsz34 Ao11 t197.length co11 (ji22) q034 q34
              have hr34 := Kd.C_drop (m := ((ji22) : Int).toNat) (c := co11) hC34 (by omega) hroom34
              obtain ⟨A34, hA34⟩ : ∃ A1, A1 = (if co11 = ((ji22) : Int).toNat then Ao11 else (Ao11 : Option Addr).map (·.add (((ji22) : Int).toNat * 6))) := ⟨_, rfl⟩
              obtain ⟨c34, hc34⟩ : ∃ c1, c1 = co11 - ((ji22) : Int).toNat := ⟨_, rfl⟩
              have hy34 : y212.length = t197.length - ((ji22) : Int).toNat := (by rw [Ny212.out, lD_q] <;> omega)
              rw [show (t197).drop ((ji22) : Int).toNat = y212 from Ny212.out.symm] at hr34
              replace hr34 : Kd.C k27 _ A34 y212.length y212 := (by rw [hA34]; exact hr34)
              rw [← hy34, ← hA34, ← hc34] at hcut34
              have HR215 := Ae_q hr34
              have HC215 := Ae_q (show y212.length ≤ c34 from by rw [hy34, hc34]; exact Nat.sub_le_sub_right hroom34 _)
              clear hr34 hC34 hroom34 hi034 hsz34 hc34
              have KY34 := Ae_q hy34
              have KA34 := Ae_q hA34
              clear hy34 hA34
              have KL34 := Ae_q (show ((ji22) : Int).toNat ≤ t197.length from by omega)
              replace q34 := eq_true q34
              refine start_ (n := 11) (S := fun w' => True) (ds := []) #[false, false, false, false, false, false, false, false, false, false, false] (by kernel_rfl) rfl rfl trivial (fun hHeld => ?_); refine with_tabW laws_FnEventsPart.tab9 laws_FnEventsPart.bits9 (fun HT_ HW_ => ?_)
              generalize wc.drew = w32 at HO_5 HB HR208 HR215 hHeld ⊢
              refine pure_ (i := 1) (N := some 46) (v := ?_) (a' := ?_) #[false, true, false, false, false, false, false, false, false, false, false] rfl rfl (any_of HT_.out (by kernel_rfl)) (fun _ _ _ h => h) (Or.inl ⟨by rfl, ?_⟩) ?_ ?_
              rotate_left
              ·intro w'
               go_simp
               with_reducible rfl
              rotate_left
              ·simp only [Act.put, sA_q, sZ_q, sS_q, i64_w, i32_w]
               rfl
              refine pure_ (i := 2) (N := some 47) (v := ?_) (a' := ?_) #[false, true, true, false, false, false, false, false, false, false, false] rfl rfl (any_of HT_.out (by kernel_rfl)) (fun _ _ _ h => h) (Or.inl ⟨by rfl, ?_⟩) ?_ ?_
              rotate_left
              ·intro w'
               go_simp
               with_reducible rfl
              rotate_left
              ·simp only [Act.put, sA_q, sZ_q, sS_q, i64_w, i32_w]
               rfl
              refine pure_ (i := 3) (N := some 48) (v := ?_) (a' := ?_) #[false, true, true, true, false, false, false, false, false, false, false] rfl rfl (any_of HT_.out (by kernel_rfl)) (fun _ _ _ h => h) (Or.inl ⟨by rfl, ?_⟩) ?_ ?_
              rotate_left
              ·intro w'
               go_simp
               with_reducible rfl
              rotate_left
              ·simp only [Act.put, sA_q, sZ_q, sS_q, i64_w, i32_w]
               rfl
              refine pure_ (i := 5) (N := some 50) (v := ?_) (a' := ?_) #[false, true, true, true, false, true, false, false, false, false, false] rfl rfl (any_of HT_.out (by kernel_rfl)) (fun _ _ _ h => h) (Or.inl ⟨by rfl, ?_⟩) ?_ ?_
              rotate_left
              ·intro w'
               go_simp
               with_reducible rfl
              rotate_left
              ·simp only [Act.put, sA_q, sZ_q, sS_q, i64_w, i32_w]
               rfl
              refine pure_ (i := 6) (N := some 51) (v := ?_) (a' := ?_) #[false, true, true, true, false, true, true, false, false, false, false] rfl rfl (any_of HT_.out (by kernel_rfl)) (fun _ _ _ h => h) (Or.inl ⟨by rfl, ?_⟩) ?_ ?_
              rotate_left
              ·intro w'
               go_simp
               with_reducible rfl
              rotate_left
              ·simp only [Act.put, sA_q, sZ_q, sS_q, i64_w, i32_w]
               rfl
              refine pure_ (i := 7) (N := some 52) (v := ?_) (a' := ?_) #[false, true, true, true, false, true, true, true, false, false, false] rfl rfl (any_of HT_.out (by kernel_rfl)) (fun _ _ _ h => h) (Or.inl ⟨by rfl, ?_⟩) ?_ ?_
              rotate_left
              ·intro w'
               go_simp
               with_reducible rfl
              rotate_left
              ·simp only [Act.put, sA_q, sZ_q, sS_q, i64_w, i32_w]
               rfl
              refine pure_ (i := 8) (N := some 53) (v := ?_) (a' := ?_) #[false, true, true, true, false, true, true, true, true, false, false] rfl rfl (any_of HT_.out (by kernel_rfl)) (fun _ _ _ h => h) (Or.inl ⟨by rfl, ?_⟩) ?_ ?_
              rotate_left
              ·intro w'
               go_simp
               with_reducible rfl
              rotate_left
              ·simp only [Act.put, sA_q, sZ_q, sS_q, i64_w, i32_w]
               rfl
              refine one_ (i := 0) (N := some 45) #[true, true, true, true, false, true, true, true, true, false, false] rfl rfl (one_of HT_.out (by kernel_rfl)) (by decide) (fun K hK => ?_)
              refine rI_q k27 _ 27 ?hg (N := 45) ?hd (xs := ([] : List (S27))) (inner := []) (ok := fun _ => True) (okp := fun _ => True) ?hr ?hp (fun _ hk => hk) trivial (bR_q _ _) (nR_q _) (by simp) ?_; (case hd => rfl); (case hg => rfl); (case hr => first | (go_simp; done) | (go_simp; rfl)); (case hp => exact (Reps.none _ _))
              intro v203 w35 ho36 hb hg_ hnew_
              clear hg_ hnew_
              (first | rw [← Ny202.out] at ho36 | (simp only [Int.reduceToNat] at ho36; rw [← Ny202.out] at ho36))
              have n0_ := Ae_q (rE_q (rup HO_5.out) (rB_q ho36) hb)
              have n1_ := Ae_q (rL_q (rW_q ho36 (rT_q (rup HO_5.out))) (bZ_q (bel HB.out)))
              have n2_ := Ae_q (cB_q (by repeat (first | (with_reducible exact HR208.out) | (with_reducible refine cA_q ?_ _) | (with_reducible refine cN_q ?_ _) | (with_reducible refine cD_q ?_) | exact HR208.out)) hb)
              have n3_ := Ae_q (cB_q (by repeat (first | (with_reducible exact HR215.out) | (with_reducible refine cA_q ?_ _) | (with_reducible refine cN_q ?_ _) | (with_reducible refine cD_q ?_) | exact HR215.out)) hb)
              have n4_ := Ae_q (bT_q (bel HB.out) hb)
              clear HO_5
              clear HR208
              clear HR215
              clear HB
              have HO_5 := n0_
              have HO204 := n1_
              have HR208 := n2_
              have HR215 := n3_
              have HB := n4_
              clear n0_ n1_ n2_ n3_ n4_
              clear hb ho36
              refine hK.out _ _ trivial (fun hHeld => ?_)
              clear hK K
              refine norm_ (a' := ?_) ?_ ?_
              rotate_left
              ·show Act.put _ (some 45) _ = _
               simp only [Act.put, sA_q, sZ_q, sS_q, i64_w, i32_w]
               rfl
              refine one_ (i := 4) (N := some 49) #[true, true, true, true, true, true, true, true, true, false, false] rfl rfl (one_of HT_.out (by kernel_rfl)) (by decide) (fun K hK => ?_)
              refine rP_q k27 (w0 := w) w.heap.size (by rfl) (.tmp 45) (.tmp 48) 23 27 (.agg #[(.int .i64 0), (.int .i64 0), (.int .i64 0), (.int .i64 0), (.int .i64 0), (.int .i64 0)]) 48 rfl Try.underlying23 info27 rfl (by decide) (by omega) v203 y202 y205 _ _ _ (fun k_ => some k_ ≠ (.slice Ao11 t197.length co11 : Value).ownBlock) (fun _ => False) rfl rfl ?aO ?aR (fun _ _ h => h) (fun _ h => h.elim) ?aF ?aB ?aS ?aL ?_
              (case aR => repeat (first | exact (by repeat (first | (with_reducible exact HR208.out) | (with_reducible refine cA_q ?_ _) | (with_reducible refine cN_q ?_ _) | (with_reducible refine cD_q ?_) | exact HR208.out)) | (with_reducible refine cA_q ?_ _) | (with_reducible refine cN_q ?_ _) | (with_reducible refine cD_q ?_)))
              (case aB => exact (bel HB.out))
              (case aF => exact (fun k_ hk => Kd.fresh' (rT_q (rup HO_5.out)) k_ hk))
              (case aO => exact (by (with_reducible repeat (first | apply rA_q | apply rN_q | apply rD_q)); exact rM_q HO204.out (fun _ hk => hk.2)))
              (case aS => exact (bZ_q (bel HB.out)))
              (case aL => have := LMc21.out; omega)
              intro v210 w37 ho hb hg hat
              rw [← Ny209.out] at ho
              have n0_ := Ae_q (rF_q (ok := (fun _ => True)) (rup HO_5.out) hg hat)
              have n1_ := Ae_q (hb)
              have n2_ := Ae_q ((show Kd.C k27 w37 Ao11 y205.length y205 from by rw [Ny205.out]; exact Kd.C_take (m := ((ji18) : Int).toNat) ((rR_q (rF_q (ok := (fun _ => True)) (rup HO_5.out) hg hat)).2.2) KL33.out))
              have n3_ := Ae_q ((show Kd.C k27 w37 A34 y212.length y212 from by rw [Ny212.out, KA34.out]; exact Kd.C_drop (m := ((ji22) : Int).toNat) (c := co11) ((rR_q (rF_q (ok := (fun _ => True)) (rup HO_5.out) hg hat)).2.2) KL34.out ((rR_q (rF_q (ok := (fun _ => True)) (rup HO_5.out) hg hat)).2.1)))
              have n4_ := Ae_q (ho)
              clear HO_5
              clear HB
              clear HR208
              clear HR215
              clear HO204
              have HO_5 := n0_
              have HB := n1_
              have HR208 := n2_
              have HR215 := n3_
              have HO211 := n4_
              clear n0_ n1_ n2_ n3_ n4_
              clear ho hb hg hat
              refine hK.out _ _ trivial (fun hHeld => ?_)
              clear hK K
              refine norm_ (a' := ?_) ?_ ?_
              rotate_left
              ·show Act.put _ (some 49) _ = _
               simp only [Act.put, sA_q, sZ_q, sS_q, i64_w, i32_w]
               rfl
              refine one_ (i := 9) (N := some 54) #[true, true, true, true, true, true, true, true, true, true, false] rfl rfl (one_of HT_.out (by kernel_rfl)) (by decide) (fun K hK => ?_)
              refine rP_q k27 (w0 := w) w.heap.size (by rfl) (.tmp 49) (.tmp 53) 23 27 (.agg #[(.int .i64 0), (.int .i64 0), (.int .i64 0), (.int .i64 0), (.int .i64 0), (.int .i64 0)]) 48 rfl Try.underlying23 info27 rfl (by decide) (by omega) v210 y209 y212 _ _ _ (fun k_ => some k_ ≠ (.slice Ao11 t197.length co11 : Value).ownBlock) (fun _ => False) rfl rfl ?aO ?aR (fun _ _ h => h) (fun _ h => h.elim) ?aF ?aB ?aS ?aL ?_
              (case aR => repeat (first | exact (by repeat (first | (with_reducible exact HR215.out) | (with_reducible refine cA_q ?_ _) | (with_reducible refine cN_q ?_ _) | (with_reducible refine cD_q ?_) | exact HR215.out)) | (with_reducible refine cA_q ?_ _) | (with_reducible refine cN_q ?_ _) | (with_reducible refine cD_q ?_)))
              (case aB => exact (bel HB.out))
              (case aF => exact (fun k_ hk => Kd.fresh' (rT_q (rup HO_5.out)) k_ hk))
              (case aO => exact (rup HO211.out))
              (case aS => exact (bZ_q (bel HB.out)))
              (case aL => have := LMc25.out; omega)
              intro v217 w38 ho hb hg hat
              rw [← Ny216.out] at ho
              have n0_ := Ae_q (rF_q (ok := (fun _ => True)) (rup HO_5.out) hg hat)
              have n1_ := Ae_q (hb)
              have n2_ := Ae_q ((show Kd.C k27 w38 Ao11 y205.length y205 from by rw [Ny205.out]; exact Kd.C_take (m := ((ji18) : Int).toNat) ((rR_q (rF_q (ok := (fun _ => True)) (rup HO_5.out) hg hat)).2.2) KL33.out))
              have n3_ := Ae_q ((show Kd.C k27 w38 A34 y212.length y212 from by rw [Ny212.out, KA34.out]; exact Kd.C_drop (m := ((ji22) : Int).toNat) (c := co11) ((rR_q (rF_q (ok := (fun _ => True)) (rup HO_5.out) hg hat)).2.2) KL34.out ((rR_q (rF_q (ok := (fun _ => True)) (rup HO_5.out) hg hat)).2.1)))
              have n4_ := Ae_q (ho)
              clear HO_5
              clear HB
              clear HR208
              clear HR215
              clear HO211
              have HO_5 := n0_
              have HB := n1_
              have HR208 := n2_
              have HR215 := n3_
              have HO218 := n4_
              clear n0_ n1_ n2_ n3_ n4_
              clear ho hb hg hat
              refine hK.out _ _ trivial (fun hHeld => ?_)
              clear hK K
              refine norm_ (a' := ?_) ?_ ?_
              rotate_left
              ·show Act.put _ (some 54) _ = _
               simp only [Act.put, sA_q, sZ_q, sS_q, i64_w, i32_w]
               rfl
              refine pure_ (i := 10) (N := some 9) (v := ?_) (a' := ?_) #[true, true, true, true, true, true, true, true, true, true, true] rfl rfl (any_of HT_.out (by kernel_rfl)) (fun _ _ _ h => h) (Or.inl ⟨by rfl, ?_⟩) ?_ ?_
              rotate_left
              ·intro w'
               go_simp
               with_reducible rfl
              rotate_left
              ·simp only [Act.put, sA_q, sZ_q, sS_q, i64_w, i32_w]
               rfl
              refine done_ (done_of HT_.out (by kernel_rfl)) ?_
              try go_wp2_with (first | ((with_reducible refine gD_q (N := 55) rfl ?_); (try (refine gate_guard (by rfl) ?_; dsimp only)); refine Kd.R_lit k27 _ 27 ?hg (N := 55) ?hd (xs := ([] : List (S27))) (inner := []) (ok := fun _ => True) (okp := fun _ => True) ?hr ?hp (fun _ hk => hk) trivial (bR_q _ _) (nR_q _) (by simp) ?_; (case hd => rfl); (case hg => rfl); (case hr => first | (go_simp; done) | (go_simp; rfl)); (case hp => exact (Reps.none _ _)); intro v220 w39 ho40 hb hg_ hnew_; clear hg_ hnew_; (first | rw [← Ny219.out] at ho40 | (simp only [Int.reduceToNat] at ho40; rw [← Ny219.out] at ho40)); have n0_ := Ae_q (rE_q (rup HO_5.out) (rB_q ho40) hb); have n1_ := Ae_q (rE_q (rup HO218.out) (rB_q ho40) hb); have n2_ := Ae_q (rL_q (rW_q (rW_q ho40 (rT_q (rup HO_5.out))) (rT_q (rup HO218.out))) (bZ_q (bel HB.out))); have n3_ := Ae_q (cB_q (by repeat (first | (with_reducible exact HR208.out) | (with_reducible refine cA_q ?_ _) | (with_reducible refine cN_q ?_ _) | (with_reducible refine cD_q ?_) | exact HR208.out)) hb); have n4_ := Ae_q (cB_q (by repeat (first | (with_reducible exact HR215.out) | (with_reducible refine cA_q ?_ _) | (with_reducible refine cN_q ?_ _) | (with_reducible refine cD_q ?_) | exact HR215.out)) hb); have n5_ := Ae_q (bT_q (bel HB.out) hb); clear HO_5; clear HO218; clear HR208; clear HR215; clear HB; have HO_5 := n0_; have HO218 := n1_; have HO221 := n2_; have HR208 := n3_; have HR215 := n4_; have HB := n5_; clear n0_ n1_ n2_ n3_ n4_ n5_; clear hb ho40) | ((with_reducible refine gate_builtin (b := .append) (xs := #[.tmp 55, .tmp 56]) rfl ?_); (try (refine gate_guard (by rfl) ?_; dsimp only)); at_builtin; refine Kd.R_append_rows k27 (w0 := w) w.heap.size rfl (.tmp 55) (.tmp 56) 23 27 (.agg #[(.int .i64 0), (.int .i64 0), (.int .i64 0), (.int .i64 0), (.int .i64 0), (.int .i64 0)]) 48 rfl Try.underlying23 info27 rfl (by decide) (by omega) v220 y219 t197 _ _ _ (fun k_ => some k_ ≠ (.slice Ao11 t197.length co11 : Value).ownBlock ∧ some k_ ≠ (v217 : Value).ownBlock) (fun _ => False) rfl rfl ?aO ?aR (fun _ _ h => h) (fun _ h => h.elim) ?aF ?aB ?aS ?aL ?_; (case aR => exact cup (rR_q HO_5.out).2.2); (case aB => exact (bel HB.out)); (case aF => exact (fun k_ hk => ⟨Kd.fresh' (rT_q (rup HO_5.out)) k_ hk, Kd.fresh' (rT_q (rup HO218.out)) k_ hk⟩)); (case aO => exact (by (with_reducible repeat (first | apply rA_q | apply rN_q | apply rD_q)); exact rM_q HO221.out (fun _ hk => ⟨hk.1.2, hk.2⟩))); (case aS => exact (bZ_q (bel HB.out))); (case aL => have := LMc26.out; omega); intro v223 w41 ho hb hg hat; rw [← Ny222.out] at ho; have n0_ := Ae_q (rF_q (ok := (fun k_ => some k_ ≠ (v217 : Value).ownBlock)) (by (with_reducible repeat (first | apply rA_q | apply rN_q | apply rD_q)); exact rM_q HO_5.out (fun _ hk => ⟨hk.1.2, hk.2⟩)) hg hat); have n1_ := Ae_q (rF_q (ok := (fun k_ => some k_ ≠ (.slice Ao11 t197.length co11 : Value).ownBlock)) (rup HO218.out) hg hat); have n2_ := Ae_q (hb); have n3_ := Ae_q ((show Kd.C k27 w41 Ao11 y205.length y205 from by rw [Ny205.out]; exact Kd.C_take (m := ((ji18) : Int).toNat) ((rR_q (rF_q (ok := (fun k_ => some k_ ≠ (v217 : Value).ownBlock)) (by (with_reducible repeat (first | apply rA_q | apply rN_q | apply rD_q)); exact rM_q HO_5.out (fun _ hk => ⟨hk.1.2, hk.2⟩)) hg hat)).2.2) KL33.out)); have n4_ := Ae_q ((show Kd.C k27 w41 A34 y212.length y212 from by rw [Ny212.out, KA34.out]; exact Kd.C_drop (m := ((ji22) : Int).toNat) (c := co11) ((rR_q (rF_q (ok := (fun k_ => some k_ ≠ (v217 : Value).ownBlock)) (by (with_reducible repeat (first | apply rA_q | apply rN_q | apply rD_q)); exact rM_q HO_5.out (fun _ hk => ⟨hk.1.2, hk.2⟩)) hg hat)).2.2) KL34.out ((rR_q (rF_q (ok := (fun k_ => some k_ ≠ (v217 : Value).ownBlock)) (by (with_reducible repeat (first | apply rA_q | apply rN_q | apply rD_q)); exact rM_q HO_5.out (fun _ hk => ⟨hk.1.2, hk.2⟩)) hg hat)).2.1))); have n5_ := Ae_q (ho); clear HO_5; clear HO218; clear HB; clear HR208; clear HR215; clear HO221; have HO_5 := n0_; have HO218 := n1_; have HB := n2_; have HR208 := n3_; have HR215 := n4_; have HO224 := n5_; clear n0_ n1_ n2_ n3_ n4_ n5_; clear ho hb hg hat; have p28 : 0 ≤ ((ji18) : Int) := oD_q (by assumption); have q28 : ((ji18) : Int) < ((y222.length : Int) : Int) := oD_q (by assumption); obtain ⟨go28, co28, eo28, gb28, gl28, cl28, HG28⟩ := Kd.R_form HO224.out (by omega); (first | cases eo28 | (injection eo28 with ea_ en_ ec_; (first | subst ea_ | (injection ea_ with ea_; subst ea_)); subst ec_; clear en_)); have GB28 := Ae_q gb28; have GG28 := Ae_q HG28; clear gb28 gl28 HG28; obtain ⟨ce28, hcl28, hM28, hcc28, hfr28⟩ := Kd.R_elem HO224.out z27 ((ji18) : Int) p28 q28; obtain rfl := k27_openM hM28; have hx28_0 : w41.cell? ⟨go28, ((ji18) : Int).toNat * 6, none⟩ = some (.int .i64 ((rd_T27 y222 (ji18)).f0)) := hcc28 0 _ rfl; have hx28_1 : w41.cell? ⟨go28, ((ji18) : Int).toNat * 6 + 1, none⟩ = some (.int .i64 ((rd_T27 y222 (ji18)).f1)) := hcc28 1 _ rfl; have hx28_2 : w41.cell? ⟨go28, ((ji18) : Int).toNat * 6 + 2, none⟩ = some (.int .i64 ((rd_T27 y222 (ji18)).f2)) := hcc28 2 _ rfl; have hx28_3 : w41.cell? ⟨go28, ((ji18) : Int).toNat * 6 + 3, none⟩ = some (.int .i64 ((rd_T27 y222 (ji18)).f3)) := hcc28 3 _ rfl; have hx28_4 : w41.cell? ⟨go28, ((ji18) : Int).toNat * 6 + 4, none⟩ = some (.int .i64 ((rd_T27 y222 (ji18)).f4)) := hcc28 4 _ rfl; have hx28_5 : w41.cell? ⟨go28, ((ji18) : Int).toNat * 6 + 5, none⟩ = some (.int .i64 ((rd_T27 y222 (ji18)).f5)) := hcc28 5 _ rfl; have hf28_0 : w41.frozen? ⟨go28, ((ji18) : Int).toNat * 6, none⟩ = false := hfr28 0; have hf28_1 : w41.frozen? ⟨go28, ((ji18) : Int).toNat * 6 + 1, none⟩ = false := hfr28 1; have hf28_2 : w41.frozen? ⟨go28, ((ji18) : Int).toNat * 6 + 2, none⟩ = false := hfr28 2; have hf28_3 : w41.frozen? ⟨go28, ((ji18) : Int).toNat * 6 + 3, none⟩ = false := hfr28 3; have hf28_4 : w41.frozen? ⟨go28, ((ji18) : Int).toNat * 6 + 4, none⟩ = false := hfr28 4; have hf28_5 : w41.frozen? ⟨go28, ((ji18) : Int).toNat * 6 + 5, none⟩ = false := hfr28 5; clear hcl28 hcc28 hfr28 hM28; replace p28 := eq_true p28; replace q28 := eq_true q28; have HX42 := Ae_q (show Kd.R k27 27 w41 w.heap.size (fun k_ => some k_ ≠ (.slice Ao11 t197.length co11 : Value).ownBlock ∧ some k_ ≠ (v217 : Value).ownBlock) (.slice (some ⟨go28, 0, none⟩) y222.length co28) y222 from (rup HO224.out)); obtain ⟨ce42, hcl42, hM42, hcc42, hfr42⟩ := Kd.R_elem HX42.out z27 ((ji18) : Int) (oD_q (by assumption)) (by have h_ : ((ji18) : Int) < ((y222.length : Int) : Int) := oD_q (by assumption); first | exact h_ | (have e_ := (rR_q HO224.out).1; omega) | simpa using h_); obtain rfl := k27_openM hM42; have HP42 := Kd.R_seg HX42.out ((ji18) : Int) (oD_q (by assumption)) (by have h_ : ((ji18) : Int) < ((y222.length : Int) : Int) := oD_q (by assumption); first | exact h_ | (have e_ := (rR_q HO224.out).1; omega) | simpa using h_) (seg := [.int .i64 0]) (j := 0) hcl42 hcc42 (show 1 ≤ 6 from by decide) (x' := (⟨0, (rd_T27 y222 (ji18)).f1, (rd_T27 y222 (ji18)).f2, (rd_T27 y222 (ji18)).f3, (rd_T27 y222 (ji18)).f4, (rd_T27 y222 (ji18)).f5⟩ : S27)) (k27_mkM _ _ _ (⟨0, (rd_T27 y222 (ji18)).f1, (rd_T27 y222 (ji18)).f2, (rd_T27 y222 (ji18)).f3, (rd_T27 y222 (ji18)).f4, (rd_T27 y222 (ji18)).f5⟩ : S27) ) (fun _ hk => hk); have hx42_0 := hcc42 0 _ rfl; (try simp only [show (k27).sz = 6 from rfl, Nat.mul_one, Nat.add_zero] at hx42_0); have hf42_0 := hfr42 0; (try simp only [show (k27).sz = 6 from rfl, Nat.mul_one, Nat.add_zero] at hf42_0); clear hcl42 hcc42 hfr42 hM42) | ((with_reducible refine gate_store (t := 3) (p := 61) rfl ?_); refine store_event (t := 3) (p := 61) (v := ?vo_w43) (w1 := (w41.setCell ⟨go28, ((ji18) : Int).toNat * 6, none⟩ (.int .i64 0))) ?hg ?ho ?hn ?hr ?_; (case ho => rfl); (case hg => rfl); (case hn => rfl); (case hr => first | (go_simp; done) | (go_simp; rfl)); intro w43 hw; have hg : w41.grownBy w43 (some go28) := (by rw [hw]; exact HP42.2); have hp_ : Kd.R k27 27 w43 w.heap.size (fun k_ => some k_ ≠ (.slice Ao11 t197.length co11 : Value).ownBlock ∧ some k_ ≠ (v217 : Value).ownBlock) (.slice (some ⟨go28, 0, none⟩) y222.length co28) y225 := (by rw [hw, Ny225.out]; exact HP42.1); clear HP42; have n0_ := Ae_q (rF_q (v := (.slice (some ⟨go28, 0, none⟩) y222.length co28)) (v1 := (.slice (some ⟨go28, 0, none⟩) y222.length co28)) (ok := (fun k_ => some k_ ≠ (v217 : Value).ownBlock)) (rup HO_5.out) hg (.inl rfl)); have n1_ := Ae_q (rF_q (v := (.slice (some ⟨go28, 0, none⟩) y222.length co28)) (v1 := (.slice (some ⟨go28, 0, none⟩) y222.length co28)) (ok := (fun k_ => some k_ ≠ (.slice Ao11 t197.length co11 : Value).ownBlock)) (rup HO218.out) hg (.inl rfl)); have n2_ := Ae_q (hp_); have n3_ := Ae_q ((by rw [hw]; exact bS_q (HB.out) GB28.out : Below w.heap.size w w43)); have n4_ := Ae_q ((show Kd.C k27 w43 Ao11 y205.length y205 from by rw [Ny205.out]; exact Kd.C_take (m := ((ji18) : Int).toNat) ((rR_q (rF_q (v := (.slice (some ⟨go28, 0, none⟩) y222.length co28)) (v1 := (.slice (some ⟨go28, 0, none⟩) y222.length co28)) (ok := (fun k_ => some k_ ≠ (v217 : Value).ownBlock)) (rup HO_5.out) hg (.inl rfl))).2.2) KL33.out)); have n5_ := Ae_q ((show Kd.C k27 w43 A34 y212.length y212 from by rw [Ny212.out, KA34.out]; exact Kd.C_drop (m := ((ji22) : Int).toNat) (c := co11) ((rR_q (rF_q (v := (.slice (some ⟨go28, 0, none⟩) y222.length co28)) (v1 := (.slice (some ⟨go28, 0, none⟩) y222.length co28)) (ok := (fun k_ => some k_ ≠ (v217 : Value).ownBlock)) (rup HO_5.out) hg (.inl rfl))).2.2) KL34.out ((rR_q (rF_q (v := (.slice (some ⟨go28, 0, none⟩) y222.length co28)) (v1 := (.slice (some ⟨go28, 0, none⟩) y222.length co28)) (ok := (fun k_ => some k_ ≠ (v217 : Value).ownBlock)) (rup HO_5.out) hg (.inl rfl))).2.1))); clear HO_5; clear HO218; clear HO224; clear HB; clear HR208; clear HR215; have HO_5 := n0_; have HO218 := n1_; have HO224 := n2_; have HB := n3_; have HR208 := n4_; have HR215 := n5_; clear n0_ n1_ n2_ n3_ n4_ n5_; clear hg hw hp_; obtain ⟨Ao44, co44, eo44⟩ := rS_q HO218.out; subst eo44) | ((with_reducible refine gC_q (f := 16) rfl ?_); refine gL_q (some 63) rfl rfl Try.func16 (by kernel_rfl) rfl #[.slice Ao44 y216.length co44] rfl (by (try simp only [lM_q, lC_q, lN_q]); first | done | rfl | (simp only [lD_q, lT_q]; rfl)) ?_; (with_reducible refine (impl_EventsValid.calls kj8 _ _ y216 true _ ?side1 ?side2 A29.out).mono ?_); (case side1 => exact cup (rR_q HO218.out).2.2); (case side2 => exact (rR_q HO218.out).2.1); rintro e w45 ⟨rfl, hb⟩; refine ⟨_, rfl, ?_⟩; have n0_ := Ae_q (rO_q (rup HO_5.out) hb); have n1_ := Ae_q (rO_q (rup HO218.out) hb); have n2_ := Ae_q (rO_q (rup HO224.out) hb); have n3_ := Ae_q (cB_q (by repeat (first | (with_reducible exact HR208.out) | (with_reducible refine cA_q ?_ _) | (with_reducible refine cN_q ?_ _) | (with_reducible refine cD_q ?_) | exact HR208.out)) hb); have n4_ := Ae_q (cB_q (by repeat (first | (with_reducible exact HR215.out) | (with_reducible refine cA_q ?_ _) | (with_reducible refine cN_q ?_ _) | (with_reducible refine cD_q ?_) | exact HR215.out)) hb); have n5_ := Ae_q (bT_q (bel HB.out) hb); clear HO_5; clear HO218; clear HO224; clear HR208; clear HR215; clear HB; have HO_5 := n0_; have HO218 := n1_; have HO224 := n2_; have HR208 := n3_; have HR215 := n4_; have HB := n5_; clear n0_ n1_ n2_ n3_ n4_ n5_; (try clear hb); (try clear hb2); (try clear hk); (try clear hi)) | (go_at_call 16; refine calls_of_args (args' := #[.slice (some ⟨go28, 0, none⟩) y225.length co28]) (by first | (rw [show y225.length = y222.length from (rR_q HO224.out).1.symm] <;> rfl) | rfl) ?_; (with_reducible refine (impl_EventsValid.calls kj8 _ _ y225 t227 _ ?side1 ?side2 A31.out).mono ?_); (case side1 => exact cup (rR_q HO224.out).2.2); (case side2 => rw [show y225.length = y222.length from (rR_q HO224.out).1.symm]; exact (rR_q HO224.out).2.1); rintro e w46 ⟨rfl, hb⟩; have n0_ := Ae_q (rO_q (rup HO_5.out) hb); have n1_ := Ae_q (rO_q (rup HO218.out) hb); have n2_ := Ae_q (rO_q (rup HO224.out) hb); have n3_ := Ae_q (cB_q (by repeat (first | (with_reducible exact HR208.out) | (with_reducible refine cA_q ?_ _) | (with_reducible refine cN_q ?_ _) | (with_reducible refine cD_q ?_) | exact HR208.out)) hb); have n4_ := Ae_q (cB_q (by repeat (first | (with_reducible exact HR215.out) | (with_reducible refine cA_q ?_ _) | (with_reducible refine cN_q ?_ _) | (with_reducible refine cD_q ?_) | exact HR215.out)) hb); have n5_ := Ae_q (bT_q (bel HB.out) hb); clear HO_5; clear HO218; clear HO224; clear HR208; clear HR215; clear HB; have HO_5 := n0_; have HO218 := n1_; have HO224 := n2_; have HR208 := n3_; have HR215 := n4_; have HB := n5_; clear n0_ n1_ n2_ n3_ n4_ n5_; (try clear hb); (try clear hb2); (try clear hk); (try clear hi)))
              go_ret
              exact ⟨by first | rfl | (simp [eN_q, eS_q] <;> rfl) | (simp only [← hji18, ← hji22]; first | rfl | (simp [eN_q, eS_q] <;> rfl)) | (simp [*, eN_q, eS_q] <;> rfl), bel HB.out⟩
             replace c30 := fM_q.mpr c30
             subst c30
             have H1 : (some false) = some r := by rw [if_neg (show ¬ (false = true) by decide)] at H; exact H
             clear H
             have H := H1
             clear H1
             obtain rfl := oI_q H
             try go_wp2
             have n0_ := Ae_q (rD_q HO_5.out)
             have n1_ := Ae_q (bD_q HB.out)
             clear HO_5
             clear HB
             have HO_5 := n0_
             have HB := n1_
             clear n0_ n1_
             have q48 : ((ji18) : Int) ≤ ((t197.length : Int) : Int) := oD_q (by assumption)
             obtain ⟨i048, hi048, _, hsz48, _⟩ := info_parts info27
             have hroom48 : t197.length ≤ co11 := (rR_q HO_5.out).2.1
             have hC48 : Kd.C k27 _ Ao11 t197.length t197 := (rR_q HO_5.out).2.2
             have hcut48 := cut_to (P := Try.prog) 23 27 .i64 Try.underlying23 hi048 Ao11 t197.length co11 (ji18) (oD_q (by assumption)) q48 hroom48
             have hr48 := Kd.C_take (m := ((ji18) : Int).toNat) hC48 (by omega)
             have hy48 : y205.length = ((ji18) : Int).toNat := (by rw [Ny205.out, lT_q]; omega)
             rw [← Ny205.out] at hr48
             rw [← hy48] at hcut48
             have HR208 := Ae_q hr48
             have HC208 := Ae_q (show y205.length ≤ co11 from by omega)
             clear hr48 hC48 hroom48 hi048 hsz48
             have KY48 := Ae_q hy48
             clear hy48
             have KL48 := Ae_q (show ((ji18) : Int).toNat ≤ t197.length from by omega)
             replace q48 := eq_true q48
             have q49 : ((ji22) : Int) ≤ ((t197.length : Int) : Int) := oD_q (by assumption)
             obtain ⟨i049, hi049, _, hsz49, _⟩ := info_parts info27
             have hroom49 : t197.length ≤ co11 := (rR_q HO_5.out).2.1
             have hC49 : Kd.C k27 _ Ao11 t197.length t197 := (rR_q HO_5.out).2.2
             have q049 : (0 : Int) ≤ ((ji22) : Int) := oD_q (by assumption)
             have hcut49 := cut_from (P := Try.prog) 23 27 .i64 Try.underlying23 hi049 6 hsz49 Ao11 t197.length co11 (ji22) q049 q49
             have hr49 := Kd.C_drop (m := ((ji22) : Int).toNat) (c := co11) hC49 (by omega) hroom49
             obtain ⟨A49, hA49⟩ : ∃ A1, A1 = (if co11 = ((ji22) : Int).toNat then Ao11 else (Ao11 : Option Addr).map (·.add (((ji22) : Int).toNat * 6))) := ⟨_, rfl⟩
             obtain ⟨c49, hc49⟩ : ∃ c1, c1 = co11 - ((ji22) : Int).toNat := ⟨_, rfl⟩
             have hy49 : y212.length = t197.length - ((ji22) : Int).toNat := (by rw [Ny212.out, lD_q] <;> omega)
             rw [show (t197).drop ((ji22) : Int).toNat = y212 from Ny212.out.symm] at hr49
             replace hr49 : Kd.C k27 _ A49 y212.length y212 := (by rw [hA49]; exact hr49)
             rw [← hy49, ← hA49, ← hc49] at hcut49
             have HR215 := Ae_q hr49
             have HC215 := Ae_q (show y212.length ≤ c49 from by rw [hy49, hc49]; exact Nat.sub_le_sub_right hroom49 _)
             clear hr49 hC49 hroom49 hi049 hsz49 hc49
             have KY49 := Ae_q hy49
             have KA49 := Ae_q hA49
             clear hy49 hA49
             have KL49 := Ae_q (show ((ji22) : Int).toNat ≤ t197.length from by omega)
             replace q49 := eq_true q49
             refine start_ (n := 11) (S := fun w' => True) (ds := []) #[false, false, false, false, false, false, false, false, false, false, false] (by kernel_rfl) rfl rfl trivial (fun hHeld => ?_); refine with_tabW laws_FnEventsPart.tab9 laws_FnEventsPart.bits9 (fun HT_ HW_ => ?_)
             generalize wc.drew = w47 at HO_5 HB HR208 HR215 hHeld ⊢
             refine pure_ (i := 1) (N := some 46) (v := ?_) (a' := ?_) #[false, true, false, false, false, false, false, false, false, false, false] rfl rfl (any_of HT_.out (by kernel_rfl)) (fun _ _ _ h => h) (Or.inl ⟨by rfl, ?_⟩) ?_ ?_
             rotate_left
             ·intro w'
              go_simp
              with_reducible rfl
             rotate_left
             ·simp only [Act.put, sA_q, sZ_q, sS_q, i64_w, i32_w]
              rfl
             refine pure_ (i := 2) (N := some 47) (v := ?_) (a' := ?_) #[false, true, true, false, false, false, false, false, false, false, false] rfl rfl (any_of HT_.out (by kernel_rfl)) (fun _ _ _ h => h) (Or.inl ⟨by rfl, ?_⟩) ?_ ?_
             rotate_left
             ·intro w'
              go_simp
              with_reducible rfl
             rotate_left
             ·simp only [Act.put, sA_q, sZ_q, sS_q, i64_w, i32_w]
              rfl
             refine pure_ (i := 3) (N := some 48) (v := ?_) (a' := ?_) #[false, true, true, true, false, false, false, false, false, false, false] rfl rfl (any_of HT_.out (by kernel_rfl)) (fun _ _ _ h => h) (Or.inl ⟨by rfl, ?_⟩) ?_ ?_
             rotate_left
             ·intro w'
              go_simp
              with_reducible rfl
             rotate_left
             ·simp only [Act.put, sA_q, sZ_q, sS_q, i64_w, i32_w]
              rfl
             refine pure_ (i := 5) (N := some 50) (v := ?_) (a' := ?_) #[false, true, true, true, false, true, false, false, false, false, false] rfl rfl (any_of HT_.out (by kernel_rfl)) (fun _ _ _ h => h) (Or.inl ⟨by rfl, ?_⟩) ?_ ?_
             rotate_left
             ·intro w'
              go_simp
              with_reducible rfl
             rotate_left
             ·simp only [Act.put, sA_q, sZ_q, sS_q, i64_w, i32_w]
              rfl
             refine pure_ (i := 6) (N := some 51) (v := ?_) (a' := ?_) #[false, true, true, true, false, true, true, false, false, false, false] rfl rfl (any_of HT_.out (by kernel_rfl)) (fun _ _ _ h => h) (Or.inl ⟨by rfl, ?_⟩) ?_ ?_
             rotate_left
             ·intro w'
              go_simp
              with_reducible rfl
             rotate_left
             ·simp only [Act.put, sA_q, sZ_q, sS_q, i64_w, i32_w]
              rfl
             refine pure_ (i := 7) (N := some 52) (v := ?_) (a' := ?_) #[false, true, true, true, false, true, true, true, false, false, false] rfl rfl (any_of HT_.out (by kernel_rfl)) (fun _ _ _ h => h) (Or.inl ⟨by rfl, ?_⟩) ?_ ?_
             rotate_left
             ·intro w'
              go_simp
              with_reducible rfl
             rotate_left
             ·simp only [Act.put, sA_q, sZ_q, sS_q, i64_w, i32_w]
              rfl
             refine pure_ (i := 8) (N := some 53) (v := ?_) (a' := ?_) #[false, true, true, true, false, true, true, true, true, false, false] rfl rfl (any_of HT_.out (by kernel_rfl)) (fun _ _ _ h => h) (Or.inl ⟨by rfl, ?_⟩) ?_ ?_
             rotate_left
             ·intro w'
              go_simp
              with_reducible rfl
             rotate_left
             ·simp only [Act.put, sA_q, sZ_q, sS_q, i64_w, i32_w]
              rfl
             refine one_ (i := 0) (N := some 45) #[true, true, true, true, false, true, true, true, true, false, false] rfl rfl (one_of HT_.out (by kernel_rfl)) (by decide) (fun K hK => ?_)
             refine rI_q k27 _ 27 ?hg (N := 45) ?hd (xs := ([] : List (S27))) (inner := []) (ok := fun _ => True) (okp := fun _ => True) ?hr ?hp (fun _ hk => hk) trivial (bR_q _ _) (nR_q _) (by simp) ?_; (case hd => rfl); (case hg => rfl); (case hr => first | (go_simp; done) | (go_simp; rfl)); (case hp => exact (Reps.none _ _))
             intro v203 w50 ho51 hb hg_ hnew_
             clear hg_ hnew_
             (first | rw [← Ny202.out] at ho51 | (simp only [Int.reduceToNat] at ho51; rw [← Ny202.out] at ho51))
             have n0_ := Ae_q (rE_q (rup HO_5.out) (rB_q ho51) hb)
             have n1_ := Ae_q (rL_q (rW_q ho51 (rT_q (rup HO_5.out))) (bZ_q (bel HB.out)))
             have n2_ := Ae_q (cB_q (by repeat (first | (with_reducible exact HR208.out) | (with_reducible refine cA_q ?_ _) | (with_reducible refine cN_q ?_ _) | (with_reducible refine cD_q ?_) | exact HR208.out)) hb)
             have n3_ := Ae_q (cB_q (by repeat (first | (with_reducible exact HR215.out) | (with_reducible refine cA_q ?_ _) | (with_reducible refine cN_q ?_ _) | (with_reducible refine cD_q ?_) | exact HR215.out)) hb)
             have n4_ := Ae_q (bT_q (bel HB.out) hb)
             clear HO_5
             clear HR208
             clear HR215
             clear HB
             have HO_5 := n0_
             have HO204 := n1_
             have HR208 := n2_
             have HR215 := n3_
             have HB := n4_
             clear n0_ n1_ n2_ n3_ n4_
             clear hb ho51
             refine hK.out _ _ trivial (fun hHeld => ?_)
             clear hK K
             refine norm_ (a' := ?_) ?_ ?_
             rotate_left
             ·show Act.put _ (some 45) _ = _
              simp only [Act.put, sA_q, sZ_q, sS_q, i64_w, i32_w]
              rfl
             refine one_ (i := 4) (N := some 49) #[true, true, true, true, true, true, true, true, true, false, false] rfl rfl (one_of HT_.out (by kernel_rfl)) (by decide) (fun K hK => ?_)
             refine rP_q k27 (w0 := w) w.heap.size (by rfl) (.tmp 45) (.tmp 48) 23 27 (.agg #[(.int .i64 0), (.int .i64 0), (.int .i64 0), (.int .i64 0), (.int .i64 0), (.int .i64 0)]) 48 rfl Try.underlying23 info27 rfl (by decide) (by omega) v203 y202 y205 _ _ _ (fun k_ => some k_ ≠ (.slice Ao11 t197.length co11 : Value).ownBlock) (fun _ => False) rfl rfl ?aO ?aR (fun _ _ h => h) (fun _ h => h.elim) ?aF ?aB ?aS ?aL ?_
             (case aR => repeat (first | exact (by repeat (first | (with_reducible exact HR208.out) | (with_reducible refine cA_q ?_ _) | (with_reducible refine cN_q ?_ _) | (with_reducible refine cD_q ?_) | exact HR208.out)) | (with_reducible refine cA_q ?_ _) | (with_reducible refine cN_q ?_ _) | (with_reducible refine cD_q ?_)))
             (case aB => exact (bel HB.out))
             (case aF => exact (fun k_ hk => Kd.fresh' (rT_q (rup HO_5.out)) k_ hk))
             (case aO => exact (by (with_reducible repeat (first | apply rA_q | apply rN_q | apply rD_q)); exact rM_q HO204.out (fun _ hk => hk.2)))
             (case aS => exact (bZ_q (bel HB.out)))
             (case aL => have := LMc21.out; omega)
             intro v210 w52 ho hb hg hat
             rw [← Ny209.out] at ho
             have n0_ := Ae_q (rF_q (ok := (fun _ => True)) (rup HO_5.out) hg hat)
             have n1_ := Ae_q (hb)
             have n2_ := Ae_q ((show Kd.C k27 w52 Ao11 y205.length y205 from by rw [Ny205.out]; exact Kd.C_take (m := ((ji18) : Int).toNat) ((rR_q (rF_q (ok := (fun _ => True)) (rup HO_5.out) hg hat)).2.2) KL48.out))
             have n3_ := Ae_q ((show Kd.C k27 w52 A49 y212.length y212 from by rw [Ny212.out, KA49.out]; exact Kd.C_drop (m := ((ji22) : Int).toNat) (c := co11) ((rR_q (rF_q (ok := (fun _ => True)) (rup HO_5.out) hg hat)).2.2) KL49.out ((rR_q (rF_q (ok := (fun _ => True)) (rup HO_5.out) hg hat)).2.1)))
             have n4_ := Ae_q (ho)
             clear HO_5
             clear HB
             clear HR208
             clear HR215
             clear HO204
             have HO_5 := n0_
             have HB := n1_
             have HR208 := n2_
             have HR215 := n3_
             have HO211 := n4_
             clear n0_ n1_ n2_ n3_ n4_
             clear ho hb hg hat
             refine hK.out _ _ trivial (fun hHeld => ?_)
             clear hK K
             refine norm_ (a' := ?_) ?_ ?_
             rotate_left
             ·show Act.put _ (some 49) _ = _
              simp only [Act.put, sA_q, sZ_q, sS_q, i64_w, i32_w]
              rfl
             refine one_ (i := 9) (N := some 54) #[true, true, true, true, true, true, true, true, true, true, false] rfl rfl (one_of HT_.out (by kernel_rfl)) (by decide) (fun K hK => ?_)
             refine rP_q k27 (w0 := w) w.heap.size (by rfl) (.tmp 49) (.tmp 53) 23 27 (.agg #[(.int .i64 0), (.int .i64 0), (.int .i64 0), (.int .i64 0), (.int .i64 0), (.int .i64 0)]) 48 rfl Try.underlying23 info27 rfl (by decide) (by omega) v210 y209 y212 _ _ _ (fun k_ => some k_ ≠ (.slice Ao11 t197.length co11 : Value).ownBlock) (fun _ => False) rfl rfl ?aO ?aR (fun _ _ h => h) (fun _ h => h.elim) ?aF ?aB ?aS ?aL ?_
             (case aR => repeat (first | exact (by repeat (first | (with_reducible exact HR215.out) | (with_reducible refine cA_q ?_ _) | (with_reducible refine cN_q ?_ _) | (with_reducible refine cD_q ?_) | exact HR215.out)) | (with_reducible refine cA_q ?_ _) | (with_reducible refine cN_q ?_ _) | (with_reducible refine cD_q ?_)))
             (case aB => exact (bel HB.out))
             (case aF => exact (fun k_ hk => Kd.fresh' (rT_q (rup HO_5.out)) k_ hk))
             (case aO => exact (rup HO211.out))
             (case aS => exact (bZ_q (bel HB.out)))
             (case aL => have := LMc25.out; omega)
             intro v217 w53 ho hb hg hat
             rw [← Ny216.out] at ho
             have n0_ := Ae_q (rF_q (ok := (fun _ => True)) (rup HO_5.out) hg hat)
             have n1_ := Ae_q (hb)
             have n2_ := Ae_q ((show Kd.C k27 w53 Ao11 y205.length y205 from by rw [Ny205.out]; exact Kd.C_take (m := ((ji18) : Int).toNat) ((rR_q (rF_q (ok := (fun _ => True)) (rup HO_5.out) hg hat)).2.2) KL48.out))
             have n3_ := Ae_q ((show Kd.C k27 w53 A49 y212.length y212 from by rw [Ny212.out, KA49.out]; exact Kd.C_drop (m := ((ji22) : Int).toNat) (c := co11) ((rR_q (rF_q (ok := (fun _ => True)) (rup HO_5.out) hg hat)).2.2) KL49.out ((rR_q (rF_q (ok := (fun _ => True)) (rup HO_5.out) hg hat)).2.1)))
             have n4_ := Ae_q (ho)
             clear HO_5
             clear HB
             clear HR208
             clear HR215
             clear HO211
             have HO_5 := n0_
             have HB := n1_
             have HR208 := n2_
             have HR215 := n3_
             have HO218 := n4_
             clear n0_ n1_ n2_ n3_ n4_
             clear ho hb hg hat
             refine hK.out _ _ trivial (fun hHeld => ?_)
             clear hK K
             refine norm_ (a' := ?_) ?_ ?_
             rotate_left
             ·show Act.put _ (some 54) _ = _
              simp only [Act.put, sA_q, sZ_q, sS_q, i64_w, i32_w]
              rfl
             refine pure_ (i := 10) (N := some 9) (v := ?_) (a' := ?_) #[true, true, true, true, true, true, true, true, true, true, true] rfl rfl (any_of HT_.out (by kernel_rfl)) (fun _ _ _ h => h) (Or.inl ⟨by rfl, ?_⟩) ?_ ?_
             rotate_left
             ·intro w'
              go_simp
              with_reducible rfl
             rotate_left
             ·simp only [Act.put, sA_q, sZ_q, sS_q, i64_w, i32_w]
              rfl
             refine done_ (done_of HT_.out (by kernel_rfl)) ?_
             try go_wp2_with (first | ((with_reducible refine gD_q (N := 55) rfl ?_); (try (refine gate_guard (by rfl) ?_; dsimp only)); refine Kd.R_lit k27 _ 27 ?hg (N := 55) ?hd (xs := ([] : List (S27))) (inner := []) (ok := fun _ => True) (okp := fun _ => True) ?hr ?hp (fun _ hk => hk) trivial (bR_q _ _) (nR_q _) (by simp) ?_; (case hd => rfl); (case hg => rfl); (case hr => first | (go_simp; done) | (go_simp; rfl)); (case hp => exact (Reps.none _ _)); intro v220 w54 ho55 hb hg_ hnew_; clear hg_ hnew_; (first | rw [← Ny219.out] at ho55 | (simp only [Int.reduceToNat] at ho55; rw [← Ny219.out] at ho55)); have n0_ := Ae_q (rE_q (rup HO_5.out) (rB_q ho55) hb); have n1_ := Ae_q (rE_q (rup HO218.out) (rB_q ho55) hb); have n2_ := Ae_q (rL_q (rW_q (rW_q ho55 (rT_q (rup HO_5.out))) (rT_q (rup HO218.out))) (bZ_q (bel HB.out))); have n3_ := Ae_q (cB_q (by repeat (first | (with_reducible exact HR208.out) | (with_reducible refine cA_q ?_ _) | (with_reducible refine cN_q ?_ _) | (with_reducible refine cD_q ?_) | exact HR208.out)) hb); have n4_ := Ae_q (cB_q (by repeat (first | (with_reducible exact HR215.out) | (with_reducible refine cA_q ?_ _) | (with_reducible refine cN_q ?_ _) | (with_reducible refine cD_q ?_) | exact HR215.out)) hb); have n5_ := Ae_q (bT_q (bel HB.out) hb); clear HO_5; clear HO218; clear HR208; clear HR215; clear HB; have HO_5 := n0_; have HO218 := n1_; have HO221 := n2_; have HR208 := n3_; have HR215 := n4_; have HB := n5_; clear n0_ n1_ n2_ n3_ n4_ n5_; clear hb ho55) | ((with_reducible refine gate_builtin (b := .append) (xs := #[.tmp 55, .tmp 56]) rfl ?_); (try (refine gate_guard (by rfl) ?_; dsimp only)); at_builtin; refine Kd.R_append_rows k27 (w0 := w) w.heap.size rfl (.tmp 55) (.tmp 56) 23 27 (.agg #[(.int .i64 0), (.int .i64 0), (.int .i64 0), (.int .i64 0), (.int .i64 0), (.int .i64 0)]) 48 rfl Try.underlying23 info27 rfl (by decide) (by omega) v220 y219 t197 _ _ _ (fun k_ => some k_ ≠ (.slice Ao11 t197.length co11 : Value).ownBlock ∧ some k_ ≠ (v217 : Value).ownBlock) (fun _ => False) rfl rfl ?aO ?aR (fun _ _ h => h) (fun _ h => h.elim) ?aF ?aB ?aS ?aL ?_; (case aR => exact cup (rR_q HO_5.out).2.2); (case aB => exact (bel HB.out)); (case aF => exact (fun k_ hk => ⟨Kd.fresh' (rT_q (rup HO_5.out)) k_ hk, Kd.fresh' (rT_q (rup HO218.out)) k_ hk⟩)); (case aO => exact (by (with_reducible repeat (first | apply rA_q | apply rN_q | apply rD_q)); exact rM_q HO221.out (fun _ hk => ⟨hk.1.2, hk.2⟩))); (case aS => exact (bZ_q (bel HB.out))); (case aL => have := LMc26.out; omega); intro v223 w56 ho hb hg hat; rw [← Ny222.out] at ho; have n0_ := Ae_q (rF_q (ok := (fun k_ => some k_ ≠ (v217 : Value).ownBlock)) (by (with_reducible repeat (first | apply rA_q | apply rN_q | apply rD_q)); exact rM_q HO_5.out (fun _ hk => ⟨hk.1.2, hk.2⟩)) hg hat); have n1_ := Ae_q (rF_q (ok := (fun k_ => some k_ ≠ (.slice Ao11 t197.length co11 : Value).ownBlock)) (rup HO218.out) hg hat); have n2_ := Ae_q (hb); have n3_ := Ae_q ((show Kd.C k27 w56 Ao11 y205.length y205 from by rw [Ny205.out]; exact Kd.C_take (m := ((ji18) : Int).toNat) ((rR_q (rF_q (ok := (fun k_ => some k_ ≠ (v217 : Value).ownBlock)) (by (with_reducible repeat (first | apply rA_q | apply rN_q | apply rD_q)); exact rM_q HO_5.out (fun _ hk => ⟨hk.1.2, hk.2⟩)) hg hat)).2.2) KL48.out)); have n4_ := Ae_q ((show Kd.C k27 w56 A49 y212.length y212 from by rw [Ny212.out, KA49.out]; exact Kd.C_drop (m := ((ji22) : Int).toNat) (c := co11) ((rR_q (rF_q (ok := (fun k_ => some k_ ≠ (v217 : Value).ownBlock)) (by (with_reducible repeat (first | apply rA_q | apply rN_q | apply rD_q)); exact rM_q HO_5.out (fun _ hk => ⟨hk.1.2, hk.2⟩)) hg hat)).2.2) KL49.out ((rR_q (rF_q (ok := (fun k_ => some k_ ≠ (v217 : Value).ownBlock)) (by (with_reducible repeat (first | apply rA_q | apply rN_q | apply rD_q)); exact rM_q HO_5.out (fun _ hk => ⟨hk.1.2, hk.2⟩)) hg hat)).2.1))); have n5_ := Ae_q (ho); clear HO_5; clear HO218; clear HB; clear HR208; clear HR215; clear HO221; have HO_5 := n0_; have HO218 := n1_; have HB := n2_; have HR208 := n3_; have HR215 := n4_; have HO224 := n5_; clear n0_ n1_ n2_ n3_ n4_ n5_; clear ho hb hg hat; have p28 : 0 ≤ ((ji18) : Int) := oD_q (by assumption); have q28 : ((ji18) : Int) < ((y222.length : Int) : Int) := oD_q (by assumption); obtain ⟨go28, co28, eo28, gb28, gl28, cl28, HG28⟩ := Kd.R_form HO224.out (by omega); (first | cases eo28 | (injection eo28 with ea_ en_ ec_; (first | subst ea_ | (injection ea_ with ea_; subst ea_)); subst ec_; clear en_)); have GB28 := Ae_q gb28; have GG28 := Ae_q HG28; clear gb28 gl28 HG28; obtain ⟨ce28, hcl28, hM28, hcc28, hfr28⟩ := Kd.R_elem HO224.out z27 ((ji18) : Int) p28 q28; obtain rfl := k27_openM hM28; have hx28_0 : w56.cell? ⟨go28, ((ji18) : Int).toNat * 6, none⟩ = some (.int .i64 ((rd_T27 y222 (ji18)).f0)) := hcc28 0 _ rfl; have hx28_1 : w56.cell? ⟨go28, ((ji18) : Int).toNat * 6 + 1, none⟩ = some (.int .i64 ((rd_T27 y222 (ji18)).f1)) := hcc28 1 _ rfl; have hx28_2 : w56.cell? ⟨go28, ((ji18) : Int).toNat * 6 + 2, none⟩ = some (.int .i64 ((rd_T27 y222 (ji18)).f2)) := hcc28 2 _ rfl; have hx28_3 : w56.cell? ⟨go28, ((ji18) : Int).toNat * 6 + 3, none⟩ = some (.int .i64 ((rd_T27 y222 (ji18)).f3)) := hcc28 3 _ rfl; have hx28_4 : w56.cell? ⟨go28, ((ji18) : Int).toNat * 6 + 4, none⟩ = some (.int .i64 ((rd_T27 y222 (ji18)).f4)) := hcc28 4 _ rfl; have hx28_5 : w56.cell? ⟨go28, ((ji18) : Int).toNat * 6 + 5, none⟩ = some (.int .i64 ((rd_T27 y222 (ji18)).f5)) := hcc28 5 _ rfl; have hf28_0 : w56.frozen? ⟨go28, ((ji18) : Int).toNat * 6, none⟩ = false := hfr28 0; have hf28_1 : w56.frozen? ⟨go28, ((ji18) : Int).toNat * 6 + 1, none⟩ = false := hfr28 1; have hf28_2 : w56.frozen? ⟨go28, ((ji18) : Int).toNat * 6 + 2, none⟩ = false := hfr28 2; have hf28_3 : w56.frozen? ⟨go28, ((ji18) : Int).toNat * 6 + 3, none⟩ = false := hfr28 3; have hf28_4 : w56.frozen? ⟨go28, ((ji18) : Int).toNat * 6 + 4, none⟩ = false := hfr28 4; have hf28_5 : w56.frozen? ⟨go28, ((ji18) : Int).toNat * 6 + 5, none⟩ = false := hfr28 5; clear hcl28 hcc28 hfr28 hM28; replace p28 := eq_true p28; replace q28 := eq_true q28; have HX57 := Ae_q (show Kd.R k27 27 w56 w.heap.size (fun k_ => some k_ ≠ (.slice Ao11 t197.length co11 : Value).ownBlock ∧ some k_ ≠ (v217 : Value).ownBlock) (.slice (some ⟨go28, 0, none⟩) y222.length co28) y222 from (rup HO224.out)); obtain ⟨ce57, hcl57, hM57, hcc57, hfr57⟩ := Kd.R_elem HX57.out z27 ((ji18) : Int) (oD_q (by assumption)) (by have h_ : ((ji18) : Int) < ((y222.length : Int) : Int) := oD_q (by assumption); first | exact h_ | (have e_ := (rR_q HO224.out).1; omega) | simpa using h_); obtain rfl := k27_openM hM57; have HP57 := Kd.R_seg HX57.out ((ji18) : Int) (oD_q (by assumption)) (by have h_ : ((ji18) : Int) < ((y222.length : Int) : Int) := oD_q (by assumption); first | exact h_ | (have e_ := (rR_q HO224.out).1; omega) | simpa using h_) (seg := [.int .i64 0]) (j := 0) hcl57 hcc57 (show 1 ≤ 6 from by decide) (x' := (⟨0, (rd_T27 y222 (ji18)).f1, (rd_T27 y222 (ji18)).f2, (rd_T27 y222 (ji18)).f3, (rd_T27 y222 (ji18)).f4, (rd_T27 y222 (ji18)).f5⟩ : S27)) (k27_mkM _ _ _ (⟨0, (rd_T27 y222 (ji18)).f1, (rd_T27 y222 (ji18)).f2, (rd_T27 y222 (ji18)).f3, (rd_T27 y222 (ji18)).f4, (rd_T27 y222 (ji18)).f5⟩ : S27) ) (fun _ hk => hk); have hx57_0 := hcc57 0 _ rfl; (try simp only [show (k27).sz = 6 from rfl, Nat.mul_one, Nat.add_zero] at hx57_0); have hf57_0 := hfr57 0; (try simp only [show (k27).sz = 6 from rfl, Nat.mul_one, Nat.add_zero] at hf57_0); clear hcl57 hcc57 hfr57 hM57) | ((with_reducible refine gate_store (t := 3) (p := 61) rfl ?_); refine store_event (t := 3) (p := 61) (v := ?vo_w58) (w1 := (w56.setCell ⟨go28, ((ji18) : Int).toNat * 6, none⟩ (.int .i64 0))) ?hg ?ho ?hn ?hr ?_; (case ho => rfl); (case hg => rfl); (case hn => rfl); (case hr => first | (go_simp; done) | (go_simp; rfl)); intro w58 hw; have hg : w56.grownBy w58 (some go28) := (by rw [hw]; exact HP57.2); have hp_ : Kd.R k27 27 w58 w.heap.size (fun k_ => some k_ ≠ (.slice Ao11 t197.length co11 : Value).ownBlock ∧ some k_ ≠ (v217 : Value).ownBlock) (.slice (some ⟨go28, 0, none⟩) y222.length co28) y225 := (by rw [hw, Ny225.out]; exact HP57.1); clear HP57; have n0_ := Ae_q (rF_q (v := (.slice (some ⟨go28, 0, none⟩) y222.length co28)) (v1 := (.slice (some ⟨go28, 0, none⟩) y222.length co28)) (ok := (fun k_ => some k_ ≠ (v217 : Value).ownBlock)) (rup HO_5.out) hg (.inl rfl)); have n1_ := Ae_q (rF_q (v := (.slice (some ⟨go28, 0, none⟩) y222.length co28)) (v1 := (.slice (some ⟨go28, 0, none⟩) y222.length co28)) (ok := (fun k_ => some k_ ≠ (.slice Ao11 t197.length co11 : Value).ownBlock)) (rup HO218.out) hg (.inl rfl)); have n2_ := Ae_q (hp_); have n3_ := Ae_q ((by rw [hw]; exact bS_q (HB.out) GB28.out : Below w.heap.size w w58)); have n4_ := Ae_q ((show Kd.C k27 w58 Ao11 y205.length y205 from by rw [Ny205.out]; exact Kd.C_take (m := ((ji18) : Int).toNat) ((rR_q (rF_q (v := (.slice (some ⟨go28, 0, none⟩) y222.length co28)) (v1 := (.slice (some ⟨go28, 0, none⟩) y222.length co28)) (ok := (fun k_ => some k_ ≠ (v217 : Value).ownBlock)) (rup HO_5.out) hg (.inl rfl))).2.2) KL48.out)); have n5_ := Ae_q ((show Kd.C k27 w58 A49 y212.length y212 from by rw [Ny212.out, KA49.out]; exact Kd.C_drop (m := ((ji22) : Int).toNat) (c := co11) ((rR_q (rF_q (v := (.slice (some ⟨go28, 0, none⟩) y222.length co28)) (v1 := (.slice (some ⟨go28, 0, none⟩) y222.length co28)) (ok := (fun k_ => some k_ ≠ (v217 : Value).ownBlock)) (rup HO_5.out) hg (.inl rfl))).2.2) KL49.out ((rR_q (rF_q (v := (.slice (some ⟨go28, 0, none⟩) y222.length co28)) (v1 := (.slice (some ⟨go28, 0, none⟩) y222.length co28)) (ok := (fun k_ => some k_ ≠ (v217 : Value).ownBlock)) (rup HO_5.out) hg (.inl rfl))).2.1))); clear HO_5; clear HO218; clear HO224; clear HB; clear HR208; clear HR215; have HO_5 := n0_; have HO218 := n1_; have HO224 := n2_; have HB := n3_; have HR208 := n4_; have HR215 := n5_; clear n0_ n1_ n2_ n3_ n4_ n5_; clear hg hw hp_; obtain ⟨Ao59, co59, eo59⟩ := rS_q HO218.out; subst eo59) | ((with_reducible refine gC_q (f := 16) rfl ?_); refine gL_q (some 63) rfl rfl Try.func16 (by kernel_rfl) rfl #[.slice Ao59 y216.length co59] rfl (by (try simp only [lM_q, lC_q, lN_q]); first | done | rfl | (simp only [lD_q, lT_q]; rfl)) ?_; (with_reducible refine (impl_EventsValid.calls kj8 _ _ y216 false _ ?side1 ?side2 A29.out).mono ?_); (case side1 => exact cup (rR_q HO218.out).2.2); (case side2 => exact (rR_q HO218.out).2.1); rintro e w60 ⟨rfl, hb⟩; refine ⟨_, rfl, ?_⟩; have n0_ := Ae_q (rO_q (rup HO_5.out) hb); have n1_ := Ae_q (rO_q (rup HO218.out) hb); have n2_ := Ae_q (rO_q (rup HO224.out) hb); have n3_ := Ae_q (cB_q (by repeat (first | (with_reducible exact HR208.out) | (with_reducible refine cA_q ?_ _) | (with_reducible refine cN_q ?_ _) | (with_reducible refine cD_q ?_) | exact HR208.out)) hb); have n4_ := Ae_q (cB_q (by repeat (first | (with_reducible exact HR215.out) | (with_reducible refine cA_q ?_ _) | (with_reducible refine cN_q ?_ _) | (with_reducible refine cD_q ?_) | exact HR215.out)) hb); have n5_ := Ae_q (bT_q (bel HB.out) hb); clear HO_5; clear HO218; clear HO224; clear HR208; clear HR215; clear HB; have HO_5 := n0_; have HO218 := n1_; have HO224 := n2_; have HR208 := n3_; have HR215 := n4_; have HB := n5_; clear n0_ n1_ n2_ n3_ n4_ n5_; (try clear hb); (try clear hb2); (try clear hk); (try clear hi)))
             go_ret
             exact ⟨by first | rfl | (simp [eN_q, eS_q] <;> rfl) | (simp only [← hji18, ← hji22]; first | rfl | (simp [eN_q, eS_q] <;> rfl)) | (simp [*, eN_q, eS_q] <;> rfl), bel HB.out⟩
            rw [if_neg c27] at H
            exact absurd H (by simp)
           rw [if_neg c26] at H
           exact absurd H (by simp)
          rw [if_neg c25] at H
          exact absurd H (by simp)
         rw [if_neg c24] at H
         exact absurd H (by simp)
        rw [if_neg c23] at H
        exact absurd H (by simp)
       rw [if_neg c21] at H
       exact absurd H (by simp)
      rw [if_neg c20] at H
      exact absurd H (by simp)
     rw [if_neg c19] at H
     exact absurd H (by simp)

def laws_FnEventsPart.Pure : Prop := ∀ (l0 : List Int) (l1 : List Int), l0.length ≤ maxLen → l0.length * 1 ≤ 140737488351232 → (∀ x ∈ l0, (Lit.int .u8 x).wf = true) → l1.length ≤ maxLen → l1.length * 1 ≤ 140737488351232 → (∀ x ∈ l1, (Lit.int .u8 x).wf = true) → ∃ k, laws_FnEventsPart.f k l0 l1 = some true
theorem laws_FnEventsPart.walk (P : laws_FnEventsPart.Pure) (a0 : Option Addr) (len0 cap0 : Nat) (z0 : List Int) (a1 : Option Addr) (len1 cap1 : Nat) (z1 : List Int) (w : World) (w0 : (a0 = none ∧ len0 = 0 ∧ cap0 = 0 ∧ z0 = []) ∨ ∃ x, a0 = some x ∧ len0 ≤ cap0 ∧ cap0 ≤ maxLen ∧ z0.length = cap0 ∧ (∀ i, i < z0.length → w.cell? (x.add i) = some (.int .u8 (z0.getD i 0))) ∧ ∀ n ∈ z0, (Lit.int .u8 n).wf = true) (y0 : len0 * 1 ≤ 140737488351232) (w1 : (a1 = none ∧ len1 = 0 ∧ cap1 = 0 ∧ z1 = []) ∨ ∃ x, a1 = some x ∧ len1 ≤ cap1 ∧ cap1 ≤ maxLen ∧ z1.length = cap1 ∧ (∀ i, i < z1.length → w.cell? (x.add i) = some (.int .u8 (z1.getD i 0))) ∧ ∀ n ∈ z1, (Lit.int .u8 n).wf = true) (y1 : len1 * 1 ≤ 140737488351232) :
    Calls Try.prog 3 #[.slice a0 len0 cap0, .slice a1 len1 cap1] w fun e w' => e = .returned (.bool true) ∧ Below w.heap.size w w' := by
 obtain ⟨l0, rfl, hr0, hm0, hw0, hc0⟩ := ReadsInt.ofRowC w0
 obtain ⟨l1, rfl, hr1, hm1, hw1, hc1⟩ := ReadsInt.ofRowC w1
 obtain ⟨k, h⟩ := P l0 l1 hm0 y0 hw0 hm1 y1 hw1
 refine (laws_FnEventsPart.calls k _ _ l0 _ _ l1 true w (Kd.C_of_reads (d := (0 : Int)) (h1 := fun _ => rfl) hr0) hc0 (Kd.C_of_reads (d := (0 : Int)) (h1 := fun _ => rfl) hr1) hc1 h).mono ?_
 rintro e w' ⟨rfl, hd⟩
 exact ⟨rfl, hd⟩

end Go.Proofs.Ytnhenfmegpjigaa.PEv
