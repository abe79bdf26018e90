import Derived.Test.YtnhenfmegpjigaaVCPEvx0
import Derived.Test.YtnhenfmegpjigaaVCPEvx5
import Derived.Test.YtnhenfmegpjigaaVCPEvx6
import Derived.Test.YtnhenfmegpjigaaVCPEvx16
namespace Go.Proofs.Ytnhenfmegpjigaa.PEv
open Go.RowKit Go.Proofs.YtnhenfmegpjigaaW.PrintWords Go.Proofs.YtnhenfmegpjigaaW.PrintLast Go.Proofs.YtnhenfmegpjigaaW.PrintMore
attribute [local go_sem] max2_int min2_int max_two min_two max_three min_three max_four min_four
set_option linter.unusedVariables false
set_option linter.unusedSimpArgs false

mutual
def spec_WatchOpen.j0 : Nat → List (S27) → Int → List Int → Bool → Option (List Int)
 | 0, _, _, _, _ => none
 | k + 1, x0, x1, x5, x17 => if x17 = true then (some x5) else (spec_WatchOpen.l0 k x0 x1 x5 0)
def spec_WatchOpen.j2 : Nat → List (S27) → Int → List Int → Int → Option (List Int)
 | 0, _, _, _, _ => none
 | k + 1, x0, x1, x5, x6 => spec_WatchOpen.l1 k x0 x1 x5 x6 1
def spec_WatchOpen.l1 : Nat → List (S27) → Int → List Int → Int → Int → Option (List Int)
 | 0, _, _, _, _, _ => none
 | k + 1, x0, x1, x5, x6, x7 => if x7 ≤ 20 then ((spec_l43Made.f k x0 x6 x7).bind fun t395 => (if t395 ≥ 0 then (if 0 ≤ t395 then (if t395 < (x0.length : Int) then (if x1 ≤ (wrap64 (((rd_T27 x0 t395).f1) + 120)) then (if x5.length < 17592186044416 then (spec_WatchOpen.l1 k x0 x1 (x5 ++ [x7]) x6 (wrap64 (x7 + 1))) else (none)) else (spec_WatchOpen.l1 k x0 x1 x5 x6 (wrap64 (x7 + 1)))) else (none)) else (none)) else (spec_WatchOpen.l1 k x0 x1 x5 x6 (wrap64 (x7 + 1))))) else (some x5)
def spec_WatchOpen.l0 : Nat → List (S27) → Int → List Int → Int → Option (List Int)
 | 0, _, _, _, _ => none
 | k + 1, x0, x1, x5, x6 => if x6 < (x0.length : Int) then (if 0 ≤ x6 then (if ((rd_T27 x0 x6).f1) ≤ x1 then (spec_WatchOpen.l0 k x0 x1 x5 (wrap64 (x6 + 1))) else (spec_WatchOpen.j2 k x0 x1 x5 x6)) else (none)) else (spec_WatchOpen.j2 k x0 x1 x5 x6)
end
def spec_WatchOpen.f (k : Nat) (l0 : List (S27)) (a1 : Int) : Option (List Int) := (some (([] : List Int) : List Int)).bind fun y389 => ((spec_EventsValid.f k l0).bind fun t392 => (if t392 = true then ((spec_l6In.f a1 0 1439).bind fun t393 => (spec_WatchOpen.j0 k l0 a1 y389 (!t393))) else (spec_WatchOpen.j0 k l0 a1 y389 true)))
theorem spec_WatchOpen.mono_l : ∀ k, (∀ y0 y1 y2 y3, LeO (spec_WatchOpen.j0 k y0 y1 y2 y3) (spec_WatchOpen.j0 (k + 1) y0 y1 y2 y3)) ∧ (∀ y0 y1 y2 y3, LeO (spec_WatchOpen.j2 k y0 y1 y2 y3) (spec_WatchOpen.j2 (k + 1) y0 y1 y2 y3)) ∧ (∀ y0 y1 y2 y3 y4, LeO (spec_WatchOpen.l1 k y0 y1 y2 y3 y4) (spec_WatchOpen.l1 (k + 1) y0 y1 y2 y3 y4)) ∧ (∀ y0 y1 y2 y3, LeO (spec_WatchOpen.l0 k y0 y1 y2 y3) (spec_WatchOpen.l0 (k + 1) y0 y1 y2 y3))
 | 0 => ⟨fun _ _ _ _ r h => by simp [spec_WatchOpen.j0] at h, fun _ _ _ _ r h => by simp [spec_WatchOpen.j2] at h, fun _ _ _ _ _ r h => by simp [spec_WatchOpen.l1] at h, fun _ _ _ _ r h => by simp [spec_WatchOpen.l0] at h⟩
 | k + 1 => by
  obtain ⟨ih0, ih1, ih2, ih3⟩ := spec_WatchOpen.mono_l k
  refine ⟨?_, ?_, ?_, ?_⟩
  ·intro y0 y1 y2 y3
   unfold spec_WatchOpen.j0
   repeat' first
   | (with_reducible exact ih0 _ _ _ _)
   | (with_reducible exact ih1 _ _ _ _)
   | (with_reducible exact ih2 _ _ _ _ _)
   | (with_reducible exact ih3 _ _ _ _)
   | (with_reducible exact spec_EventsValid.mono _ _)
   | (with_reducible exact spec_l43Made.mono _ _ _ _)
   | (with_reducible exact lR_q _)
   | (with_reducible exact lO_q _)
   | (with_reducible refine lI_q ?_ ?_)
   | (with_reducible refine lB_q ?_ (fun _ => ?_))
   | exact ih0 _ _ _ _
   | exact ih1 _ _ _ _
   | exact ih2 _ _ _ _ _
   | exact ih3 _ _ _ _
   | exact spec_EventsValid.mono _ _
   | exact spec_l43Made.mono _ _ _ _
   | exact lO_q _
   | refine lI_q ?_ ?_
   | refine lB_q ?_ (fun _ => ?_)
  ·intro y0 y1 y2 y3
   unfold spec_WatchOpen.j2
   repeat' first
   | (with_reducible exact ih0 _ _ _ _)
   | (with_reducible exact ih1 _ _ _ _)
   | (with_reducible exact ih2 _ _ _ _ _)
   | (with_reducible exact ih3 _ _ _ _)
   | (with_reducible exact spec_EventsValid.mono _ _)
   | (with_reducible exact spec_l43Made.mono _ _ _ _)
   | (with_reducible exact lR_q _)
   | (with_reducible exact lO_q _)
   | (with_reducible refine lI_q ?_ ?_)
   | (with_reducible refine lB_q ?_ (fun _ => ?_))
   | exact ih0 _ _ _ _
   | exact ih1 _ _ _ _
   | exact ih2 _ _ _ _ _
   | exact ih3 _ _ _ _
   | exact spec_EventsValid.mono _ _
   | exact spec_l43Made.mono _ _ _ _
   | exact lO_q _
   | refine lI_q ?_ ?_
   | refine lB_q ?_ (fun _ => ?_)
  ·intro y0 y1 y2 y3 y4
   unfold spec_WatchOpen.l1
   repeat' first
   | (with_reducible exact ih0 _ _ _ _)
   | (with_reducible exact ih1 _ _ _ _)
   | (with_reducible exact ih2 _ _ _ _ _)
   | (with_reducible exact ih3 _ _ _ _)
   | (with_reducible exact spec_EventsValid.mono _ _)
   | (with_reducible exact spec_l43Made.mono _ _ _ _)
   | (with_reducible exact lR_q _)
   | (with_reducible exact lO_q _)
   | (with_reducible refine lI_q ?_ ?_)
   | (with_reducible refine lB_q ?_ (fun _ => ?_))
   | exact ih0 _ _ _ _
   | exact ih1 _ _ _ _
   | exact ih2 _ _ _ _ _
   | exact ih3 _ _ _ _
   | exact spec_EventsValid.mono _ _
   | exact spec_l43Made.mono _ _ _ _
   | exact lO_q _
   | refine lI_q ?_ ?_
   | refine lB_q ?_ (fun _ => ?_)
  intro y0 y1 y2 y3
  unfold spec_WatchOpen.l0
  repeat' first
  | (with_reducible exact ih0 _ _ _ _)
  | (with_reducible exact ih1 _ _ _ _)
  | (with_reducible exact ih2 _ _ _ _ _)
  | (with_reducible exact ih3 _ _ _ _)
  | (with_reducible exact spec_EventsValid.mono _ _)
  | (with_reducible exact spec_l43Made.mono _ _ _ _)
  | (with_reducible exact lR_q _)
  | (with_reducible exact lO_q _)
  | (with_reducible refine lI_q ?_ ?_)
  | (with_reducible refine lB_q ?_ (fun _ => ?_))
  | exact ih0 _ _ _ _
  | exact ih1 _ _ _ _
  | exact ih2 _ _ _ _ _
  | exact ih3 _ _ _ _
  | exact spec_EventsValid.mono _ _
  | exact spec_l43Made.mono _ _ _ _
  | exact lO_q _
  | refine lI_q ?_ ?_
  | refine lB_q ?_ (fun _ => ?_)
theorem spec_WatchOpen.mono : ∀ a0 a1 k, LeO (spec_WatchOpen.f k a0 a1) (spec_WatchOpen.f (k + 1) a0 a1) := by
 intro a0 a1 k
 obtain ⟨ih0, ih1, ih2, ih3⟩ := spec_WatchOpen.mono_l k
 unfold spec_WatchOpen.f
 repeat' first
  | (with_reducible exact ih0 _ _ _ _)
  | (with_reducible exact ih1 _ _ _ _)
  | (with_reducible exact ih2 _ _ _ _ _)
  | (with_reducible exact ih3 _ _ _ _)
  | (with_reducible exact spec_EventsValid.mono _ _)
  | (with_reducible exact spec_l43Made.mono _ _ _ _)
  | (with_reducible exact lR_q _)
  | (with_reducible exact lO_q _)
  | (with_reducible refine lI_q ?_ ?_)
  | (with_reducible refine lB_q ?_ (fun _ => ?_))
  | exact ih0 _ _ _ _
  | exact ih1 _ _ _ _
  | exact ih2 _ _ _ _ _
  | exact ih3 _ _ _ _
  | exact spec_EventsValid.mono _ _
  | exact spec_l43Made.mono _ _ _ _
  | exact lO_q _
  | refine lI_q ?_ ?_
  | refine lB_q ?_ (fun _ => ?_)
set_option maxHeartbeats 8000000 in
set_option maxRecDepth 100000 in
theorem spec_WatchOpen.calls (k : Nat) (A0 : Option Addr) (c0 : Nat) (l0 : List (S27)) (a1 : Int) (r : List Int) (w : World) (hr0 : Kd.C k27 w A0 l0.length l0) (hc0 : l0.length ≤ c0) (h : spec_WatchOpen.f k l0 a1 = some r) :
    Calls Try.prog 31 #[.slice A0 l0.length c0, .int .i64 a1] w fun e w' => ∃ v0_ : Value, e = .returned (v0_) ∧ Kd.R kI_q 3 w' w.heap.size (fun _ => True) v0_ r ∧ Below w.heap.size w w' := by
 have HR0 := Ae_q hr0
 have HC0 := Ae_q hc0
 clear hr0 hc0
 have HB := Ae_q (bR_q w.heap.size w)
 have H : ((some (([] : List Int) : List Int)).bind fun y389 => ((spec_EventsValid.f k l0).bind fun t392 => (if t392 = true then ((spec_l6In.f a1 0 1439).bind fun t393 => (spec_WatchOpen.j0 k l0 a1 y389 (!t393))) else (spec_WatchOpen.j0 k l0 a1 y389 true)))) = some r := h
 clear h
 obtain ⟨y389, hy389⟩ : ∃ y_ : List Int, y_ = (([] : List Int)) := ⟨_, rfl⟩
 replace H : ((spec_EventsValid.f k l0).bind fun t392 => (if t392 = true then ((spec_l6In.f a1 0 1439).bind fun t393 => (spec_WatchOpen.j0 k l0 a1 y389 (!t393))) else (spec_WatchOpen.j0 k l0 a1 y389 true))) = some r := by first | (rw [hy389]; with_reducible exact H) | (have H2_ := (oS_q _ _).symm.trans H; rw [hy389]; with_reducible exact H2_) | (have H2_ := (oS_q _ _).symm.trans H; with_reducible exact H2_) | with_reducible exact H | (rw [hy389]; exact H) | exact H
 have Ny389 := Ae_q hy389
 clear hy389
 have HC3 := Ae_q H
 clear H
 go_enter Try.func31, Try.ntmps31
 go_upto_region 2 with (first | ((with_reducible refine gD_q (N := 9) rfl ?_); refine Kd.R_lit kI_q _ 3 ?hg (N := 9) ?hd (xs := ([] : List Int)) (inner := []) (ok := fun _ => True) (okp := fun _ => True) ?hr ?hp (fun _ hk => hk) trivial (bR_q _ _) (nR_q _) (by simp) ?_; (case hd => rfl); (case hg => rfl); (case hr => first | (go_simp; done) | (go_simp; rfl)); (case hp => exact (Reps.none _ _)); intro v390 w4 ho5 hb hg_ hnew_; clear hg_ hnew_; (first | rw [← Ny389.out] at ho5 | (simp only [Int.reduceToNat] at ho5; rw [← Ny389.out] at ho5)); have n0_ := Ae_q (rL_q ho5 (bZ_q (bel HB.out))); have n1_ := Ae_q (bT_q (bel HB.out) hb); clear HB; have HO391 := n0_; have HB := n1_; clear n0_ n1_; clear hb ho5))
 (try simp only [Act.put, sA_q, sZ_q, sS_q])
 go_cut [17] (fun v17 wc => ∃ (kq : Nat) (x17_2 : Bool), v17 = .bool x17_2 ∧ Aside0 (spec_WatchOpen.j0 kq l0 a1 y389 x17_2 = some r) ∧ Aside0 (kq ≤ k) ∧ Aside0 (Kd.R kI_q 3 wc w.heap.size (fun _ => True) v390 y389) ∧ Aside0 (Below w.heap.size w wc))
 case first =>
  have H := HC3.out
  clear HC3
  replace H := oB_q.mp H
  obtain ⟨t392, A60, H⟩ := H
  replace H : (if t392 = true then ((spec_l6In.f a1 0 1439).bind fun t393 => (spec_WatchOpen.j0 k l0 a1 y389 (!t393))) else (spec_WatchOpen.j0 k l0 a1 y389 true)) = some r := H
  have A6 := Ae_q A60
  clear A60
  by_cases c7 : t392 = true
  ·subst c7
   have H1 : ((spec_l6In.f a1 0 1439).bind fun t393 => (spec_WatchOpen.j0 k l0 a1 y389 (!t393))) = some r := by rw [if_pos rfl] at H; exact H
   clear H
   have H := H1
   clear H1
   replace H := oB_q.mp H
   obtain ⟨t393, A80, H⟩ := H
   replace H : (spec_WatchOpen.j0 k l0 a1 y389 (!t393)) = some r := H
   have A8 := Ae_q A80
   clear A80
   have H' := Ae_q H
   clear H
   go_wp2_with (first | ((with_reducible refine gC_q (f := 17) rfl ?_); refine gL_q (some 11) rfl rfl Try.func17 (by kernel_rfl) rfl #[.slice A0 l0.length c0] rfl (by (try simp only [lM_q, lC_q, lN_q]); first | done | rfl | (simp only [lD_q, lT_q]; rfl)) ?_; (with_reducible refine (spec_EventsValid.calls k _ _ l0 true _ ?side1 ?side2 A6.out).mono ?_); (case side1 => exact cup (cB_q HR0.out HB.out)); (case side2 => exact HC0.out); rintro e w9 ⟨rfl, hb⟩; refine ⟨_, rfl, ?_⟩; have n0_ := Ae_q (rO_q (rup HO391.out) hb); have n1_ := Ae_q (bT_q (bel HB.out) hb); clear HO391; clear HB; have HO391 := n0_; have HB := n1_; clear n0_ n1_; (try clear hb); (try clear hb2); (try clear hk); (try clear hi)) | (go_at_call 45; (with_reducible refine (spec_l6In.calls a1 0 1439 t393 _ A8.out).mono ?_); rintro e w' ⟨rfl, ⟨nd, rfl⟩⟩))
   go_meet
   case rel => exact ⟨_, (!t393), (by first | rfl | (simp; done) | (simp [*]; done)), H', ⟨by first | omega | exact nR_q _⟩, ⟨by (with_reducible repeat (first | apply rA_q | apply rN_q | apply rD_q)); exact HO391.out⟩, ⟨bel HB.out⟩⟩
  replace c7 := fM_q.mpr c7
  subst c7
  have H1 : (spec_WatchOpen.j0 k l0 a1 y389 true) = some r := by rw [if_neg (show ¬ (false = true) by decide)] at H; exact H
  clear H
  have H := H1
  clear H1
  have H' := Ae_q H
  clear H
  go_wp2_with (first | ((with_reducible refine gC_q (f := 17) rfl ?_); refine gL_q (some 11) rfl rfl Try.func17 (by kernel_rfl) rfl #[.slice A0 l0.length c0] rfl (by (try simp only [lM_q, lC_q, lN_q]); first | done | rfl | (simp only [lD_q, lT_q]; rfl)) ?_; (with_reducible refine (spec_EventsValid.calls k _ _ l0 false _ ?side1 ?side2 A6.out).mono ?_); (case side1 => exact cup (cB_q HR0.out HB.out)); (case side2 => exact HC0.out); rintro e w10 ⟨rfl, hb⟩; refine ⟨_, rfl, ?_⟩; have n0_ := Ae_q (rO_q (rup HO391.out) hb); have n1_ := Ae_q (bT_q (bel HB.out) hb); clear HO391; clear HB; have HO391 := n0_; have HB := n1_; clear n0_ n1_; (try clear hb); (try clear hb2); (try clear hk); (try clear hi)))
  go_meet
  case rel => exact ⟨_, (true), (by first | rfl | (simp; done) | (simp [*]; done)), H', ⟨by first | omega | exact nR_q _⟩, ⟨by (with_reducible repeat (first | apply rA_q | apply rN_q | apply rD_q)); exact HO391.out⟩, ⟨bel HB.out⟩⟩
 case rest =>
  clear HC3
  try clear c1
  try clear p2
  try clear c3
  try clear c7
  obtain ⟨kq, x17_2, rfl, HA, HJ2, HO_5, HB⟩ := hcut
  cases kq with
  | zero => exact absurd HA.out (by simp [spec_WatchOpen.j0])
  | succ kj2 =>
   have H := HA.out
   clear HA
   simp only [spec_WatchOpen.j0] at H
   by_cases c11 : x17_2 = true
   ·subst c11
    have H1 : (some y389) = some r := by rw [if_pos rfl] at H; exact H
    clear H
    have H := H1
    clear H1
    obtain rfl := oI_q H
    go_wp2
    go_ret
    exact ⟨_, by first | rfl | (simp [eN_q, eS_q] <;> rfl) | (simp [*, eN_q, eS_q] <;> rfl), by (with_reducible repeat (first | apply rA_q | apply rN_q | apply rD_q)); exact HO_5.out, bel HB.out⟩
   replace c11 := fM_q.mpr c11
   subst c11
   have H1 : (spec_WatchOpen.l0 kj2 l0 a1 y389 0) = some r := by rw [if_neg (show ¬ (false = true) by decide)] at H; exact H
   clear H
   have H := H1
   clear H1
   have HC12 := Ae_q H
   clear H
   go_upto_block 0 with (fail)
   go_cut [6] (fun v6 wc => ∃ (kq : Nat) (x6_11 : Int), v6 = .int .i64 x6_11 ∧ Aside0 (spec_WatchOpen.j2 kq l0 a1 y389 x6_11 = some r) ∧ Aside0 (kq ≤ kj2) ∧ Aside0 (Kd.R kI_q 3 wc w.heap.size (fun _ => True) v390 y389) ∧ Aside0 (Below w.heap.size w wc))
   case first =>
    have H := HC12.out
    clear HC12
    have H' := Ae_q H
    clear H
    go_wp2
    go_loopg [6] kj2 (fun kq v6 w' => ∃ (x6_2 : Int), v6 = .int .i64 x6_2 ∧ Aside0 (spec_WatchOpen.l0 kq l0 a1 y389 x6_2 = some r) ∧ Aside0 (kq ≤ kj2) ∧ Aside0 (Kd.R kI_q 3 w' w.heap.size (fun _ => True) v390 y389) ∧ Aside0 (Below w.heap.size w w'))
    case atStart => exact ⟨(0), (by first | rfl | (simp; done) | (simp [*]; done)), H', ⟨nR_q _⟩, ⟨by (with_reducible repeat (first | apply rA_q | apply rN_q | apply rD_q)); exact HO_5.out⟩, ⟨bel HB.out⟩⟩
    case round =>
     clear H'
     try clear c1
     try clear p2
     try clear c3
     try clear c7
     try clear c11
     try clear p2
     obtain ⟨x6_2, rfl, HA, HK2, HO_5, HB⟩ := hrel
     cases gk with
     | zero => exact absurd HA.out (by simp [spec_WatchOpen.l0])
     | succ k2 =>
      have H := HA.out
      clear HA
      simp only [spec_WatchOpen.l0] at H
      by_cases c13 : x6_2 < (l0.length : Int)
      ·rw [if_pos c13] at H
       have c13b0 : decide (x6_2 < (l0.length : Int)) = true := dT_q c13
       clear c13
       (first | rw [c13b0] | (simp only [i64_w, i32_w]; rw [c13b0]) | skip)
       by_cases c14 : 0 ≤ x6_2
       ·rw [if_pos c14] at H
        have c14b0 : decide (0 ≤ x6_2) = true := dT_q c14
        clear c14
        by_cases c15 : ((rd_T27 l0 x6_2).f1) ≤ a1
        ·rw [if_pos c15] at H
         have c15b0 : decide (((rd_T27 l0 x6_2).f1) ≤ a1) = true := dT_q c15
         clear c15
         have H' := Ae_q H
         clear H
         have p394 : 0 ≤ (x6_2 : Int) := oD_q (by assumption)
         have q394 : x6_2 < (l0.length : Int) := oD_q (by assumption)
         obtain ⟨ad394, e394, hx394_0, hx394_1, hx394_2, hx394_3, hx394_4, hx394_5⟩ := at_T27 HR0.out x6_2 p394 q394
         cases e394
         replace hx394_0 := cel HB.out hx394_0
         replace hx394_1 := cel HB.out hx394_1
         replace hx394_2 := cel HB.out hx394_2
         replace hx394_3 := cel HB.out hx394_3
         replace hx394_4 := cel HB.out hx394_4
         replace hx394_5 := cel HB.out hx394_5
         replace p394 := eq_true p394
         replace q394 := eq_true q394
         go_wp2
         go_roundg k2
         case measure => have := HJ2.out; have := HK2.out; omega
         case rel => exact ⟨(wrap64 (x6_2 + 1)), (by first | rfl | (simp; done) | (simp [*]; done)), H', ⟨by have := HJ2.out; have := HK2.out; omega⟩, ⟨by (with_reducible repeat (first | apply rA_q | apply rN_q | apply rD_q)); exact HO_5.out⟩, ⟨bel HB.out⟩⟩
        rw [if_neg c15] at H
        have c15b0 : decide (((rd_T27 l0 x6_2).f1) ≤ a1) = false := dF_q c15
        clear c15
        have H' := Ae_q H
        clear H
        have p394 : 0 ≤ (x6_2 : Int) := oD_q (by assumption)
        have q394 : x6_2 < (l0.length : Int) := oD_q (by assumption)
        obtain ⟨ad394, e394, hx394_0, hx394_1, hx394_2, hx394_3, hx394_4, hx394_5⟩ := at_T27 HR0.out x6_2 p394 q394
        cases e394
        replace hx394_0 := cel HB.out hx394_0
        replace hx394_1 := cel HB.out hx394_1
        replace hx394_2 := cel HB.out hx394_2
        replace hx394_3 := cel HB.out hx394_3
        replace hx394_4 := cel HB.out hx394_4
        replace hx394_5 := cel HB.out hx394_5
        replace p394 := eq_true p394
        replace q394 := eq_true q394
        go_wp2
        go_meet
        case rel => exact ⟨_, (x6_2), (by first | rfl | (simp; done) | (simp [*]; done)), H', ⟨by have := HJ2.out; have := HK2.out; first | omega | exact nR_q _⟩, ⟨by (with_reducible repeat (first | apply rA_q | apply rN_q | apply rD_q)); exact HO_5.out⟩, ⟨bel HB.out⟩⟩
       rw [if_neg c14] at H
       exact absurd H (by simp)
      rw [if_neg c13] at H
      have c13b0 : decide (x6_2 < (l0.length : Int)) = false := dF_q c13
      clear c13
      (first | rw [c13b0] | (simp only [i64_w, i32_w]; rw [c13b0]) | skip)
      have H' := Ae_q H
      clear H
      go_wp2
      go_meet
      case rel => exact ⟨_, (x6_2), (by first | rfl | (simp; done) | (simp [*]; done)), H', ⟨by have := HJ2.out; have := HK2.out; first | omega | exact nR_q _⟩, ⟨by (with_reducible repeat (first | apply rA_q | apply rN_q | apply rD_q)); exact HO_5.out⟩, ⟨bel HB.out⟩⟩
   case rest =>
    clear HC12
    try clear c1
    try clear p2
    try clear c3
    try clear p3
    try clear q3
    try clear hx3
    try clear p6
    try clear c7
    try clear c11
    try clear c13
    try clear c13b0
    try clear c14
    try clear c14b0
    try clear c15
    try clear c15b0
    try clear hx394_0
    try clear hx394_1
    try clear hx394_2
    try clear hx394_3
    try clear hx394_4
    try clear hx394_5
    try clear p2
    try clear p394
    try clear q394
    obtain ⟨kq, x6_11, rfl, HA, HJ11, HO_5, HB⟩ := hcut
    cases kq with
    | zero => exact absurd HA.out (by simp [spec_WatchOpen.j2])
    | succ kj11 =>
     have H := HA.out
     clear HA
     simp only [spec_WatchOpen.j2] at H
     have H' := Ae_q H
     clear H
     go_wp2
     go_loopg [5, 7] kj11 (fun kq v5 v7 w' => ∃ (x5_3 : List Int) (x7_3 : Int), v7 = .int .i64 x7_3 ∧ Aside0 (spec_WatchOpen.l1 kq l0 a1 x5_3 x6_11 x7_3 = some r) ∧ Aside0 (kq ≤ kj11) ∧ Aside0 (Kd.R kI_q 3 w' w.heap.size (fun _ => True) v5 x5_3) ∧ Aside0 (Below w.heap.size w w'))
     case atStart => exact ⟨(y389), (1), (by first | rfl | (simp; done) | (simp [*]; done)), H', ⟨nR_q _⟩, ⟨by (with_reducible repeat (first | apply rA_q | apply rN_q | apply rD_q)); exact HO_5.out⟩, ⟨bel HB.out⟩⟩
     case round =>
      clear H'
      try clear c1
      try clear p2
      try clear c3
      try clear p3
      try clear q3
      try clear hx3
      try clear p6
      try clear c7
      try clear c11
      try clear c13
      try clear c13b0
      try clear c14
      try clear c14b0
      try clear c15
      try clear c15b0
      try clear hx394_0
      try clear hx394_1
      try clear hx394_2
      try clear hx394_3
      try clear hx394_4
      try clear hx394_5
      try clear p2
      try clear p3
      try clear p394
      try clear p6
      try clear q3
      try clear q394
      obtain ⟨x5_3, x7_3, rfl, HA, HK3, HO_5, HB⟩ := hrel
      cases gk with
      | zero => exact absurd HA.out (by simp [spec_WatchOpen.l1])
      | succ k3 =>
       have H := HA.out
       clear HA
       simp only [spec_WatchOpen.l1] at H
       by_cases c16 : x7_3 ≤ 20
       ·rw [if_pos c16] at H
        have c16b0 : decide (x7_3 ≤ 20) = true := dT_q c16
        clear c16
        replace H := oB_q.mp H
        obtain ⟨t395, A170, H⟩ := H
        replace H : (if t395 ≥ 0 then (if 0 ≤ t395 then (if t395 < (l0.length : Int) then (if a1 ≤ (wrap64 (((rd_T27 l0 t395).f1) + 120)) then (if x5_3.length < 17592186044416 then (spec_WatchOpen.l1 k3 l0 a1 (x5_3 ++ [x7_3]) x6_11 (wrap64 (x7_3 + 1))) else (none)) else (spec_WatchOpen.l1 k3 l0 a1 x5_3 x6_11 (wrap64 (x7_3 + 1)))) else (none)) else (none)) else (spec_WatchOpen.l1 k3 l0 a1 x5_3 x6_11 (wrap64 (x7_3 + 1)))) = some r := H
        have A17 := Ae_q A170
        clear A170
        by_cases c18 : t395 ≥ 0
        ·rw [if_pos c18] at H
         have c18b0 : decide (0 ≤ t395) = true := dT_q c18
         clear c18
         by_cases c19 : 0 ≤ t395
         ·rw [if_pos c19] at H
          have c19b0 : decide (0 ≤ t395) = true := dT_q c19
          clear c19
          by_cases c20 : t395 < (l0.length : Int)
          ·rw [if_pos c20] at H
           have c20b0 : decide (t395 < (l0.length : Int)) = true := dT_q c20
           clear c20
           by_cases c21 : a1 ≤ (wrap64 (((rd_T27 l0 t395).f1) + 120))
           ·rw [if_pos c21] at H
            have c21b0 : decide (a1 ≤ (wrap64 (((rd_T27 l0 t395).f1) + 120))) = true := dT_q c21
            clear c21
            by_cases c22 : x5_3.length < 17592186044416
            ·rw [if_pos c22] at H
             have LMc22 := Ae_q c22
             clear c22
             obtain ⟨y397, hy397⟩ : ∃ y_ : List Int, y_ = (x5_3 ++ [x7_3]) := ⟨_, rfl⟩
             replace H : (spec_WatchOpen.l1 k3 l0 a1 y397 x6_11 (wrap64 (x7_3 + 1))) = some r := by first | (rw [hy397]; with_reducible exact H) | (have H2_ := (oS_q _ _).symm.trans H; rw [hy397]; with_reducible exact H2_) | (have H2_ := (oS_q _ _).symm.trans H; with_reducible exact H2_) | with_reducible exact H | (rw [hy397]; exact H) | exact H
             have Ny397 := Ae_q hy397
             clear hy397
             have H' := Ae_q H
             clear H
             go_wp2_with (first | ((with_reducible refine gC_q (f := 52) rfl ?_); refine gL_q (some 41) rfl rfl Try.func52 (by kernel_rfl) rfl #[.slice A0 l0.length c0, .int .i64 x6_11, .int .i64 x7_3] rfl (by (try simp only [lM_q, lC_q, lN_q]); first | done | rfl | (simp only [lD_q, lT_q]; rfl)) ?_; (with_reducible refine (spec_l43Made.calls k3 _ _ l0 x6_11 x7_3 t395 _ ?side1 ?side2 A17.out).mono ?_); (case side1 => exact cup (cB_q HR0.out HB.out)); (case side2 => exact HC0.out); rintro e w' ⟨rfl, ⟨nd, rfl⟩⟩; refine ⟨_, rfl, ?_⟩; have p396 : 0 ≤ (t395 : Int) := oD_q (by assumption); have q396 : t395 < (l0.length : Int) := oD_q (by assumption); obtain ⟨ad396, e396, hx396_0, hx396_1, hx396_2, hx396_3, hx396_4, hx396_5⟩ := at_T27 HR0.out t395 p396 q396; cases e396; replace hx396_0 := cel HB.out hx396_0; replace hx396_1 := cel HB.out hx396_1; replace hx396_2 := cel HB.out hx396_2; replace hx396_3 := cel HB.out hx396_3; replace hx396_4 := cel HB.out hx396_4; replace hx396_5 := cel HB.out hx396_5; replace p396 := eq_true p396; replace q396 := eq_true q396) | ((with_reducible refine gate_builtin (b := .append) (xs := #[.tmp 54, .tmp 56]) rfl ?_); at_builtin; refine Kd.R_append kI_q (w0 := w) w.heap.size rfl (.tmp 54) (.tmp 56) 36 3 (.int .i64 0) 8 rfl Try.underlying36 info3 rfl (by decide) (by omega) u5 x5_3 x7_3 [.int .i64 x7_3] (fun _ => True) (fun _ => False) rfl rfl ?aP (fun _ hk => hk.elim) ?aF ?aO ?aB ?aS ?aL ?_; (case aP => exact rfl); (case aB => exact (bel HB.out)); (case aF => exact (fun _ _ => trivial)); (case aO => exact (rup HO_5.out)); (case aS => exact (bZ_q (bel HB.out))); (case aL => have := LMc22.out; omega); intro v398 w23 ho hb hg hat; rw [← Ny397.out] at ho; have n0_ := Ae_q (hb); have n1_ := Ae_q (ho); clear HB; clear HO_5; have HB := n0_; have HO399 := n1_; clear n0_ n1_; clear ho hb hg hat))
             go_roundg k3
             case measure => have := HJ2.out; have := HJ11.out; have := HK3.out; omega
             case rel => exact ⟨(y397), (wrap64 (x7_3 + 1)), (by first | rfl | (simp; done) | (simp [*]; done)), H', ⟨by have := HJ2.out; have := HJ11.out; have := HK3.out; omega⟩, ⟨by (with_reducible repeat (first | apply rA_q | apply rN_q | apply rD_q)); exact HO399.out⟩, ⟨bel HB.out⟩⟩
            rw [if_neg c22] at H
            exact absurd H (by simp)
           rw [if_neg c21] at H
           have c21b0 : decide (a1 ≤ (wrap64 (((rd_T27 l0 t395).f1) + 120))) = false := dF_q c21
           clear c21
           have H' := Ae_q H
           clear H
           go_wp2_with (first | ((with_reducible refine gC_q (f := 52) rfl ?_); refine gL_q (some 41) rfl rfl Try.func52 (by kernel_rfl) rfl #[.slice A0 l0.length c0, .int .i64 x6_11, .int .i64 x7_3] rfl (by (try simp only [lM_q, lC_q, lN_q]); first | done | rfl | (simp only [lD_q, lT_q]; rfl)) ?_; (with_reducible refine (spec_l43Made.calls k3 _ _ l0 x6_11 x7_3 t395 _ ?side1 ?side2 A17.out).mono ?_); (case side1 => exact cup (cB_q HR0.out HB.out)); (case side2 => exact HC0.out); rintro e w' ⟨rfl, ⟨nd, rfl⟩⟩; refine ⟨_, rfl, ?_⟩; have p396 : 0 ≤ (t395 : Int) := oD_q (by assumption); have q396 : t395 < (l0.length : Int) := oD_q (by assumption); obtain ⟨ad396, e396, hx396_0, hx396_1, hx396_2, hx396_3, hx396_4, hx396_5⟩ := at_T27 HR0.out t395 p396 q396; cases e396; replace hx396_0 := cel HB.out hx396_0; replace hx396_1 := cel HB.out hx396_1; replace hx396_2 := cel HB.out hx396_2; replace hx396_3 := cel HB.out hx396_3; replace hx396_4 := cel HB.out hx396_4; replace hx396_5 := cel HB.out hx396_5; replace p396 := eq_true p396; replace q396 := eq_true q396))
           go_roundg k3
           case measure => have := HJ2.out; have := HJ11.out; have := HK3.out; omega
           case rel => exact ⟨(x5_3), (wrap64 (x7_3 + 1)), (by first | rfl | (simp; done) | (simp [*]; done)), H', ⟨by have := HJ2.out; have := HJ11.out; have := HK3.out; omega⟩, ⟨by (with_reducible repeat (first | apply rA_q | apply rN_q | apply rD_q)); exact HO_5.out⟩, ⟨bel HB.out⟩⟩
          rw [if_neg c20] at H
          exact absurd H (by simp)
         rw [if_neg c19] at H
         exact absurd H (by simp)
        rw [if_neg c18] at H
        have c18b0 : decide (0 ≤ t395) = false := dF_q c18
        clear c18
        have H' := Ae_q H
        clear H
        go_wp2_with (first | ((with_reducible refine gC_q (f := 52) rfl ?_); refine gL_q (some 41) rfl rfl Try.func52 (by kernel_rfl) rfl #[.slice A0 l0.length c0, .int .i64 x6_11, .int .i64 x7_3] rfl (by (try simp only [lM_q, lC_q, lN_q]); first | done | rfl | (simp only [lD_q, lT_q]; rfl)) ?_; (with_reducible refine (spec_l43Made.calls k3 _ _ l0 x6_11 x7_3 t395 _ ?side1 ?side2 A17.out).mono ?_); (case side1 => exact cup (cB_q HR0.out HB.out)); (case side2 => exact HC0.out); rintro e w' ⟨rfl, ⟨nd, rfl⟩⟩; refine ⟨_, rfl, ?_⟩))
        go_roundg k3
        case measure => have := HJ2.out; have := HJ11.out; have := HK3.out; omega
        case rel => exact ⟨(x5_3), (wrap64 (x7_3 + 1)), (by first | rfl | (simp; done) | (simp [*]; done)), H', ⟨by have := HJ2.out; have := HJ11.out; have := HK3.out; omega⟩, ⟨by (with_reducible repeat (first | apply rA_q | apply rN_q | apply rD_q)); exact HO_5.out⟩, ⟨bel HB.out⟩⟩
       rw [if_neg c16] at H
       have c16b0 : decide (x7_3 ≤ 20) = false := dF_q c16
       clear c16
       obtain rfl := oI_q H
       go_wp2
       go_ret
       exact ⟨_, by first | rfl | (simp [eN_q, eS_q] <;> rfl) | (simp [*, eN_q, eS_q] <;> rfl), by (with_reducible repeat (first | apply rA_q | apply rN_q | apply rD_q)); exact HO_5.out, bel HB.out⟩

def laws_hasInt.l0 : Nat → List Int → Int → Int → Option (Bool)
 | 0, _, _, _ => none
 | k + 1, x0, x1, x5 => if x5 < (x0.length : Int) then (if 0 ≤ x5 then (if (rd x0 x5) = x1 then (some true) else (laws_hasInt.l0 k x0 x1 (wrap64 (x5 + 1)))) else (none)) else (some false)
def laws_hasInt.f (k : Nat) (l0 : List Int) (a1 : Int) : Option (Bool) := laws_hasInt.l0 k l0 a1 0
theorem laws_hasInt.mono_l : ∀ k, (∀ y0 y1 y2, LeO (laws_hasInt.l0 k y0 y1 y2) (laws_hasInt.l0 (k + 1) y0 y1 y2))
 | 0 => fun _ _ _ r h => by simp [laws_hasInt.l0] at h
 | k + 1 => by
  have ih0 := laws_hasInt.mono_l k
  intro y0 y1 y2
  unfold laws_hasInt.l0
  repeat' first
  | (with_reducible exact ih0 _ _ _)
  | (with_reducible exact lR_q _)
  | (with_reducible exact lO_q _)
  | (with_reducible refine lI_q ?_ ?_)
  | (with_reducible refine lB_q ?_ (fun _ => ?_))
  | exact ih0 _ _ _
  | exact lO_q _
  | refine lI_q ?_ ?_
  | refine lB_q ?_ (fun _ => ?_)
theorem laws_hasInt.mono : ∀ a0 a1 k, LeO (laws_hasInt.f k a0 a1) (laws_hasInt.f (k + 1) a0 a1) := by
 intro a0 a1 k
 have ih0 := laws_hasInt.mono_l k
 unfold laws_hasInt.f
 repeat' first
  | (with_reducible exact ih0 _ _ _)
  | (with_reducible exact lR_q _)
  | (with_reducible exact lO_q _)
  | (with_reducible refine lI_q ?_ ?_)
  | (with_reducible refine lB_q ?_ (fun _ => ?_))
  | exact ih0 _ _ _
  | exact lO_q _
  | refine lI_q ?_ ?_
  | refine lB_q ?_ (fun _ => ?_)
set_option maxHeartbeats 8000000 in
set_option maxRecDepth 100000 in
theorem laws_hasInt.calls (k : Nat) (A0 : Option Addr) (c0 : Nat) (l0 : List Int) (a1 : Int) (r : Bool) (w : World) (hr0 : Kd.C kI_q w A0 l0.length l0) (hc0 : l0.length ≤ c0) (h : laws_hasInt.f k l0 a1 = some r) :
    Calls Try.prog 32 #[.slice A0 l0.length c0, .int .i64 a1] w fun e w' => e = .returned (.bool r) ∧ Drawn0 w w' := by
 have HR0 := Ae_q hr0
 have HC0 := Ae_q hc0
 clear hr0 hc0
 have H : (laws_hasInt.l0 k l0 a1 0) = some r := h
 clear h
 have H' := Ae_q H
 clear H
 go_enter Try.func32, Try.ntmps32
 go_wp2
 go_loopg [5] k (fun kq v5 w' => ∃ (x5_1 : Int), v5 = .int .i64 x5_1 ∧ Aside0 (laws_hasInt.l0 kq l0 a1 x5_1 = some r) ∧ Aside0 (kq ≤ k) ∧ Drawn0 w w')
 case atStart => exact ⟨(0), (by first | rfl | (simp; done) | (simp [*]; done)), H', ⟨nR_q _⟩, by repeat (first | exact Drawn0.refl _ | apply Drawn0.step)⟩
 case round =>
  clear H'
  try clear p2
  obtain ⟨x5_1, rfl, HA, HK1, ⟨m1, rfl⟩⟩ := hrel
  cases gk with
  | zero => exact absurd HA.out (by simp [laws_hasInt.l0])
  | succ k1 =>
   have H := HA.out
   clear HA
   simp only [laws_hasInt.l0] at H
   by_cases c3 : x5_1 < (l0.length : Int)
   ·rw [if_pos c3] at H
    have c3b0 : decide (x5_1 < (l0.length : Int)) = true := dT_q c3
    clear c3
    by_cases c4 : 0 ≤ x5_1
    ·rw [if_pos c4] at H
     have c4b0 : decide (0 ≤ x5_1) = true := dT_q c4
     clear c4
     by_cases c5 : (rd l0 x5_1) = a1
     ·rw [if_pos c5] at H
      have c5b0 : ((rd l0 x5_1) == a1) = true := beq_iff_eq.mpr c5
      have c5b1 : ((rd l0 x5_1) != a1) = false := nE_q.mpr c5
      clear c5
      obtain rfl := oI_q H
      have p400 : 0 ≤ (x5_1 : Int) := oD_q (by assumption)
      have q400 : x5_1 < (l0.length : Int) := oD_q (by assumption)
      obtain ⟨ad400, e400, hx400_0⟩ := aI_q HR0.out x5_1 p400 q400
      cases e400
      replace p400 := eq_true p400
      replace q400 := eq_true q400
      go_wp2
      go_ret
      exact ⟨by first | rfl | (simp; done) | (simp [*]; done), by repeat (first | exact Drawn0.refl _ | apply Drawn0.step)⟩
     rw [if_neg c5] at H
     have c5b0 : ((rd l0 x5_1) == a1) = false := fN_q.mpr c5
     have c5b1 : ((rd l0 x5_1) != a1) = true := nI_q.mpr c5
     have H' := Ae_q H
     clear H
     have p400 : 0 ≤ (x5_1 : Int) := oD_q (by assumption)
     have q400 : x5_1 < (l0.length : Int) := oD_q (by assumption)
     obtain ⟨ad400, e400, hx400_0⟩ := aI_q HR0.out x5_1 p400 q400
     cases e400
     replace p400 := eq_true p400
     replace q400 := eq_true q400
     go_wp2
     go_roundg k1
     case measure => have := HK1.out; omega
     case rel => exact ⟨(wrap64 (x5_1 + 1)), (by first | rfl | (simp; done) | (simp [*]; done)), H', ⟨by have := HK1.out; omega⟩, by repeat (first | exact Drawn0.refl _ | apply Drawn0.step)⟩
    rw [if_neg c4] at H
    exact absurd H (by simp)
   rw [if_neg c3] at H
   have c3b0 : decide (x5_1 < (l0.length : Int)) = false := dF_q c3
   clear c3
   obtain rfl := oI_q H
   go_wp2
   go_ret
   exact ⟨by first | rfl | (simp; done) | (simp [*]; done), by repeat (first | exact Drawn0.refl _ | apply Drawn0.step)⟩

end Go.Proofs.Ytnhenfmegpjigaa.PEv
