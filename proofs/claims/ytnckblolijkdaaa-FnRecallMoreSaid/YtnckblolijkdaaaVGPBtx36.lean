import Derived.Test.YtnckblolijkdaaaVGPBtx0
import Derived.Test.YtnckblolijkdaaaVGPBtx11
import Derived.Test.YtnckblolijkdaaaVGPBtx12
import Derived.Test.YtnckblolijkdaaaVGPBtx17
import Derived.Test.YtnckblolijkdaaaVGPBtx25
import Derived.Test.YtnckblolijkdaaaVGPBtx33
import Derived.Test.YtnckblolijkdaaaVGPBtx34
namespace Go.Proofs.Ytnckblolijkdaaa.PBt
open Go.RowKit Go.Proofs.YtnckblolijkdaaaW.PrintWords Go.Proofs.YtnckblolijkdaaaW.PrintLast Go.Proofs.YtnckblolijkdaaaW.PrintMore
attribute [local go_sem] max2_int min2_int max_two min_two max_three min_three max_four min_four
set_option linter.unusedVariables false
set_option linter.unusedSimpArgs false

mutual
def laws_FnRecallMore.j0 : Nat → List Int → List Int → Bool → Option (Bool)
 | 0, _, _, _ => none
 | k + 1, x0, x1, x19 => if x19 = true then (some true) else ((spec_DrawRecallGuests.f k x0).bind fun bt706 => ((impl_RecallGuests.f k bt706.1 bt706.2.1 bt706.2.2).bind fun t713 => ((spec_RecallGuests.f k bt706.1 bt706.2.1 bt706.2.2).bind fun t716 => ((laws_sameInts.f k t713 t716).bind fun t719 => (if t719 = true then ((spec_PlatesValid.f k bt706.1 bt706.2.1).bind fun t720 => (laws_FnRecallMore.j1 k x1 bt706.1 bt706.2.1 bt706.2.2 t713 t716 (!t720))) else (laws_FnRecallMore.j1 k x1 bt706.1 bt706.2.1 bt706.2.2 t713 t716 true))))))
def laws_FnRecallMore.j1 : Nat → List Int → List (S39) → List (S49) → Int → List Int → List Int → Bool → Option (Bool)
 | 0, _, _, _, _, _, _, _ => none
 | k + 1, x1, x5, x6, x7, x8, x9, x43 => if x43 = true then ((laws_sameInts.f k x8 x9).bind fun t721 => (some t721)) else (if (wrap64 ((x6.length : Int) + 1)) = 0 then (none) else (if 0 ≤ ((x1.length : Int) % (wrap64 ((x6.length : Int) + 1))) then (if ((x1.length : Int) % (wrap64 ((x6.length : Int) + 1))) ≤ (x6.length : Int) then ((impl_RecallGuests.f k x5 (x6.take (((x1.length : Int) % (wrap64 ((x6.length : Int) + 1))) : Int).toNat) x7).bind fun t727 => (laws_FnRecallMore.l0 k x8 t727 0)) else (none)) else (none)))
def laws_FnRecallMore.l0 : Nat → List Int → List Int → Int → Option (Bool)
 | 0, _, _, _ => none
 | k + 1, x8, x10, x11 => if x11 < (x10.length : Int) then (if 0 ≤ x11 then ((laws_hasInt.f k x8 (rd x10 x11)).bind fun t731 => (if t731 = true then (laws_FnRecallMore.l0 k x8 x10 (wrap64 (x11 + 1))) else (some false))) else (none)) else (some true)
end
def laws_FnRecallMore.f (k : Nat) (l0 : List Int) (l1 : List Int) : Option (Bool) := if (l0.length : Int) > 1048576 then (laws_FnRecallMore.j0 k l0 l1 true) else (laws_FnRecallMore.j0 k l0 l1 (decide ((l1.length : Int) > 1048576)))
set_option maxHeartbeats 8000000 in
set_option maxRecDepth 100000 in
theorem laws_FnRecallMore.calls (k : Nat) (A0 : Option Addr) (c0 : Nat) (l0 : List Int) (A1 : Option Addr) (c1 : Nat) (l1 : List Int) (r : Bool) (w : World) (hr0 : Kd.C (Kd.int .u8) w A0 l0.length l0) (hc0 : l0.length ≤ c0) (hr1 : Kd.C (Kd.int .u8) w A1 l1.length l1) (hc1 : l1.length ≤ c1) (h : laws_FnRecallMore.f k l0 l1 = some r) :
    Calls Try.prog 12 #[.slice A0 l0.length c0, .slice A1 l1.length c1] w fun e w' => e = .returned (.bool r) ∧ Below w.heap.size w w' := by
 have HR0 := Ae_q hr0
 have HC0 := Ae_q hc0
 clear hr0 hc0
 have HR1 := Ae_q hr1
 have HC1 := Ae_q hc1
 clear hr1 hc1
 have HB := Ae_q (bR_q w.heap.size w)
 have H : (if (l0.length : Int) > 1048576 then (laws_FnRecallMore.j0 k l0 l1 true) else (laws_FnRecallMore.j0 k l0 l1 (decide ((l1.length : Int) > 1048576)))) = some r := h
 clear h
 have HC3 := Ae_q H
 clear H
 go_enter Try.func12, Try.ntmps12
 go_upto_region 1 with (fail)
 go_cut [19] (fun v19 wc => ∃ (kq : Nat) (x19_2 : Bool), v19 = .bool x19_2 ∧ Aside0 (laws_FnRecallMore.j0 kq l0 l1 x19_2 = some r) ∧ Aside0 (kq ≤ k) ∧ Aside0 (Below w.heap.size w wc))
 case first =>
  have H := HC3.out
  clear HC3
  by_cases c4 : (l0.length : Int) > 1048576
  ·rw [if_pos c4] at H
   have c4b0 : decide (1048576 < (l0.length : Int)) = true := dT_q c4
   have c4b1 : decide (1048576 < l0.length) = true := dT_q (by omega)
   clear c4
   (first | rw [c4b0] | (simp only [i64_w, i32_w]; rw [c4b0]) | skip)
   have H' := Ae_q H
   clear H
   go_wp2
   go_meet
   case rel => exact ⟨_, (true), m5_q, H', ⟨m43_q⟩, ⟨bel HB.out⟩⟩
  rw [if_neg c4] at H
  have c4b0 : decide (1048576 < (l0.length : Int)) = false := dF_q c4
  have c4b1 : decide (1048576 < l0.length) = false := dF_q (by omega)
  clear c4
  (first | rw [c4b0] | (simp only [i64_w, i32_w]; rw [c4b0]) | skip)
  have H' := Ae_q H
  clear H
  go_wp2
  go_meet
  case rel => exact ⟨_, (decide ((l1.length : Int) > 1048576)), m5_q, H', ⟨m43_q⟩, ⟨bel HB.out⟩⟩
 case rest =>
  clear HC3
  try clear c1
  try clear p2
  try clear c4
  try clear c4b0
  try clear c4b1
  obtain ⟨kq, x19_2, rfl, HA, HJ2, HB⟩ := hcut
  cases kq with
  | zero => exact absurd HA.out (by simp [laws_FnRecallMore.j0])
  | succ kj2 =>
   have H := HA.out
   clear HA
   simp only [laws_FnRecallMore.j0] at H
   by_cases c5 : x19_2 = true
   ·subst c5
    have H1 : (some true) = some r := by rw [if_pos rfl] at H; exact H
    clear H
    have H := H1
    clear H1
    obtain rfl := oI_q H
    go_wp2
    go_ret
    exact ⟨m6_q, bel HB.out⟩
   replace c5 := fM_q.mpr c5
   subst c5
   have H1 : ((spec_DrawRecallGuests.f kj2 l0).bind fun bt706 => ((impl_RecallGuests.f kj2 bt706.1 bt706.2.1 bt706.2.2).bind fun t713 => ((spec_RecallGuests.f kj2 bt706.1 bt706.2.1 bt706.2.2).bind fun t716 => ((laws_sameInts.f kj2 t713 t716).bind fun t719 => (if t719 = true then ((spec_PlatesValid.f kj2 bt706.1 bt706.2.1).bind fun t720 => (laws_FnRecallMore.j1 kj2 l1 bt706.1 bt706.2.1 bt706.2.2 t713 t716 (!t720))) else (laws_FnRecallMore.j1 kj2 l1 bt706.1 bt706.2.1 bt706.2.2 t713 t716 true)))))) = some r := by rw [if_neg (show ¬ (false = true) by decide)] at H; exact H
   clear H
   have H := H1
   clear H1
   replace H := oB_q.mp H
   obtain ⟨⟨t706, t709, t712⟩, A60, H⟩ := H
   replace H : ((impl_RecallGuests.f kj2 t706 t709 t712).bind fun t713 => ((spec_RecallGuests.f kj2 t706 t709 t712).bind fun t716 => ((laws_sameInts.f kj2 t713 t716).bind fun t719 => (if t719 = true then ((spec_PlatesValid.f kj2 t706 t709).bind fun t720 => (laws_FnRecallMore.j1 kj2 l1 t706 t709 t712 t713 t716 (!t720))) else (laws_FnRecallMore.j1 kj2 l1 t706 t709 t712 t713 t716 true))))) = some r := H
   have A6 := Ae_q A60
   clear A60
   replace H := oB_q.mp H
   obtain ⟨t713, A70, H⟩ := H
   replace H : ((spec_RecallGuests.f kj2 t706 t709 t712).bind fun t716 => ((laws_sameInts.f kj2 t713 t716).bind fun t719 => (if t719 = true then ((spec_PlatesValid.f kj2 t706 t709).bind fun t720 => (laws_FnRecallMore.j1 kj2 l1 t706 t709 t712 t713 t716 (!t720))) else (laws_FnRecallMore.j1 kj2 l1 t706 t709 t712 t713 t716 true)))) = some r := H
   have A7 := Ae_q A70
   clear A70
   replace H := oB_q.mp H
   obtain ⟨t716, A80, H⟩ := H
   replace H : ((laws_sameInts.f kj2 t713 t716).bind fun t719 => (if t719 = true then ((spec_PlatesValid.f kj2 t706 t709).bind fun t720 => (laws_FnRecallMore.j1 kj2 l1 t706 t709 t712 t713 t716 (!t720))) else (laws_FnRecallMore.j1 kj2 l1 t706 t709 t712 t713 t716 true))) = some r := H
   have A8 := Ae_q A80
   clear A80
   have HC9 := Ae_q H
   clear H
   go_upto_region 6 with (first | ((with_reducible refine gC_q (f := 39) rfl ?_); refine gL_q (some 22) rfl rfl Try.func39 m9_q rfl #[.slice A0 l0.length c0] rfl m0_q ?_; (with_reducible refine (spec_DrawRecallGuests.calls kj2 _ _ l0 t706 t709 t712 _ ?side1 ?side2 A6.out).mono ?_); (case side1 => exact m28_q); (case side2 => exact m41_q); rintro e w' ⟨v707, v710, rfl, ho0, ho1, hb⟩; refine ⟨_, rfl, ?_⟩; have HO708 := Ae_q (Kd.N_lower (Kd.N_mono (ok' := fun k_ => some k_ ≠ (v710 : Value).ownBlock) ho0 (fun k_ hk_ => hk_.2)) (bZ_q (bel HB.out))); have HO711 := Ae_q (rL_q (rM_q (ok' := fun k_ => True) ho1 (fun _ hk_ => trivial)) (bZ_q (bel HB.out))); replace HB := Ae_q (bT_q (bel HB.out) hb); (try clear hb); (try clear hb2); (try clear hk); (try clear hi); (try clear ho0); (try clear ho1); obtain ⟨Ao11, co11, eo11⟩ := Kd.N_slice HO708.out; subst eo11; obtain ⟨Ao12, co12, eo12⟩ := rS_q HO711.out; subst eo12) | ((first | ((with_reducible refine gC_q (f := 40) rfl ?_); refine gL_q (some 29) rfl rfl Try.func40 m9_q rfl #[.slice Ao11 t706.length co11, .slice Ao12 t709.length co12, .int .i64 t712] rfl m0_q ?_; (with_reducible refine (impl_RecallGuests.calls kj2 _ _ t706 _ _ t709 t712 t713 _ ?side1 ?side2 ?side3 ?side4 A7.out).mono ?_); (case side1 => exact m24_q); (case side2 => exact (Kd.N_reads' HO708.out).2.1); (case side3 => exact cup (rR_q HO711.out).2.2); (case side4 => exact (rR_q HO711.out).2.1); rintro e w' ⟨v714, rfl, ho0, hb⟩; refine ⟨_, rfl, ?_⟩; replace HO708 := Ae_q (Kd.N_elder' m32_q (rB_q ho0) hb); replace HO711 := Ae_q (rO_q (rup HO711.out) hb); have HO715 := Ae_q (rL_q ho0 (bZ_q (bel HB.out))); replace HB := Ae_q (bT_q (bel HB.out) hb)) | ((with_reducible refine gC_q (f := 41) rfl ?_); refine gL_q (some 33) rfl rfl Try.func41 m9_q rfl #[.slice Ao11 t706.length co11, .slice Ao12 t709.length co12, .int .i64 t712] rfl m0_q ?_; (with_reducible refine (spec_RecallGuests.calls kj2 _ _ t706 _ _ t709 t712 t716 _ ?side1 ?side2 ?side3 ?side4 A8.out).mono ?_); (case side1 => exact m24_q); (case side2 => exact (Kd.N_reads' HO708.out).2.1); (case side3 => exact cup (rR_q HO711.out).2.2); (case side4 => exact (rR_q HO711.out).2.1); rintro e w' ⟨v717, rfl, ho0, hb⟩; refine ⟨_, rfl, ?_⟩; replace HO708 := Ae_q (Kd.N_elder' m32_q (rB_q ho0) hb); replace HO711 := Ae_q (rO_q (rup HO711.out) hb); have HO718 := Ae_q (rL_q (rW_q ho0 (rT_q (rup HO715.out))) (bZ_q (bel HB.out))); replace HO715 := Ae_q (rE_q (rup HO715.out) (rB_q ho0) hb); replace HB := Ae_q (bT_q (bel HB.out) hb))); (try clear hb); (try clear hb2); (try clear hk); (try clear hi); (try clear ho0)))
   (try simp only [Act.put, sA_q, sZ_q, sS_q])
   go_cut [43] (fun v43 wc => ∃ (kq : Nat) (x43_8 : Bool), v43 = .bool x43_8 ∧ Aside0 (laws_FnRecallMore.j1 kq l1 t706 t709 t712 t713 t716 x43_8 = some r) ∧ Aside0 (kq ≤ kj2) ∧ Aside0 (Kd.N k39 39 wc w.heap.size (fun k_ => some k_ ≠ ((.slice Ao12 t709.length co12) : Value).ownBlock ∧ some k_ ≠ (v714 : Value).ownBlock ∧ some k_ ≠ (v717 : Value).ownBlock) (.slice Ao11 t706.length co11) t706) ∧ Aside0 (Kd.R k49 49 wc w.heap.size (fun _ => True) (.slice Ao12 t709.length co12) t709) ∧ Aside0 (Kd.R kI_q 3 wc w.heap.size (fun k_ => some k_ ≠ (v717 : Value).ownBlock) v714 t713) ∧ Aside0 (Kd.R kI_q 3 wc w.heap.size (fun k_ => some k_ ≠ (v714 : Value).ownBlock) v717 t716) ∧ Aside0 (Below w.heap.size w wc))
   case first =>
    have H := HC9.out
    clear HC9
    replace H := oB_q.mp H
    obtain ⟨t719, A150, H⟩ := H
    replace H : (if t719 = true then ((spec_PlatesValid.f kj2 t706 t709).bind fun t720 => (laws_FnRecallMore.j1 kj2 l1 t706 t709 t712 t713 t716 (!t720))) else (laws_FnRecallMore.j1 kj2 l1 t706 t709 t712 t713 t716 true)) = some r := H
    have A15 := Ae_q A150
    clear A150
    by_cases c16 : t719 = true
    rotate_left
    ·replace c16 := fM_q.mpr c16
     subst c16
     have H1 : (laws_FnRecallMore.j1 kj2 l1 t706 t709 t712 t713 t716 true) = some r := by rw [if_neg (show ¬ (false = true) by decide)] at H; exact H
     clear H
     have H := H1
     clear H1
     have H' := Ae_q H
     clear H
     obtain ⟨Ao21, co21, eo21⟩ := rS_q HO715.out
     subst eo21
     obtain ⟨Ao22, co22, eo22⟩ := rS_q HO718.out
     subst eo22
     go_wp2_with (first | ((with_reducible refine gC_q (f := 23) rfl ?_); refine gL_q (some 36) rfl rfl Try.func23 m9_q rfl #[.slice Ao21 t713.length co21, .slice Ao22 t716.length co22] rfl m0_q ?_; (with_reducible refine (laws_sameInts.calls kj2 _ _ t713 _ _ t716 false _ ?side1 ?side2 ?side3 ?side4 A15.out).mono ?_); (case side1 => exact cup (rR_q HO715.out).2.2); (case side2 => exact (rR_q HO715.out).2.1); (case side3 => exact cup (rR_q HO718.out).2.2); (case side4 => exact (rR_q HO718.out).2.1); rintro e w' ⟨rfl, ⟨nd, rfl⟩⟩; refine ⟨_, rfl, ?_⟩))
     go_meet
     case rel => exact ⟨_, (true), m5_q, H', ⟨by have := HJ2.out; first | omega | exact nR_q _⟩, ⟨m34_q⟩, ⟨rup HO711.out⟩, ⟨m39_q⟩, ⟨m40_q⟩, ⟨bel HB.out⟩⟩
    subst c16
    have H1 : ((spec_PlatesValid.f kj2 t706 t709).bind fun t720 => (laws_FnRecallMore.j1 kj2 l1 t706 t709 t712 t713 t716 (!t720))) = some r := by rw [if_pos rfl] at H; exact H
    clear H
    have H := H1
    clear H1
    replace H := oB_q.mp H
    obtain ⟨t720, A170, H⟩ := H
    replace H : (laws_FnRecallMore.j1 kj2 l1 t706 t709 t712 t713 t716 (!t720)) = some r := H
    have A17 := Ae_q A170
    clear A170
    have H' := Ae_q H
    clear H
    obtain ⟨Ao18, co18, eo18⟩ := rS_q HO715.out
    subst eo18
    obtain ⟨Ao19, co19, eo19⟩ := rS_q HO718.out
    subst eo19
    go_wp2_with (first | ((with_reducible refine gC_q (f := 23) rfl ?_); refine gL_q (some 36) rfl rfl Try.func23 m9_q rfl #[.slice Ao18 t713.length co18, .slice Ao19 t716.length co19] rfl m0_q ?_; (with_reducible refine (laws_sameInts.calls kj2 _ _ t713 _ _ t716 true _ ?side1 ?side2 ?side3 ?side4 A15.out).mono ?_); (case side1 => exact cup (rR_q HO715.out).2.2); (case side2 => exact (rR_q HO715.out).2.1); (case side3 => exact cup (rR_q HO718.out).2.2); (case side4 => exact (rR_q HO718.out).2.1); rintro e w' ⟨rfl, ⟨nd, rfl⟩⟩; refine ⟨_, rfl, ?_⟩) | (go_at_call 31; (with_reducible refine (spec_PlatesValid.calls kj2 _ _ t706 _ _ t709 t720 _ ?side1 ?side2 ?side3 ?side4 A17.out).mono ?_); (case side1 => exact m24_q); (case side2 => exact (Kd.N_reads' HO708.out).2.1); (case side3 => exact cup (rR_q HO711.out).2.2); (case side4 => exact (rR_q HO711.out).2.1); rintro e w' ⟨rfl, hb⟩; replace HO708 := Ae_q (Kd.N_below m32_q hb); replace HO711 := Ae_q (rO_q (rup HO711.out) hb); replace HO715 := Ae_q (rO_q (rup HO715.out) hb); replace HO718 := Ae_q (rO_q (rup HO718.out) hb); replace HB := Ae_q (bT_q (bel HB.out) hb); (try clear hb); (try clear hb2); (try clear hk); (try clear hi)))
    go_meet
    case rel => exact ⟨_, (!t720), m5_q, H', ⟨by have := HJ2.out; first | omega | exact nR_q _⟩, ⟨m34_q⟩, ⟨rup HO711.out⟩, ⟨m39_q⟩, ⟨m40_q⟩, ⟨bel HB.out⟩⟩
   case rest =>
    clear HC9
    try clear c1
    try clear c2
    try clear p2
    try clear c3
    try clear c4
    try clear c4b0
    try clear c4b1
    try clear c5
    try clear c12
    try clear c16
    try clear p2
    obtain ⟨kq, x43_8, rfl, HA, HJ8, HO_5, HO_6, HO_8, HO_9, HB⟩ := hcut
    cases kq with
    | zero => exact absurd HA.out (by simp [laws_FnRecallMore.j1])
    | succ kj8 =>
     have H := HA.out
     clear HA
     simp only [laws_FnRecallMore.j1] at H
     by_cases c23 : x43_8 = true
     ·subst c23
      have H1 : ((laws_sameInts.f kj8 t713 t716).bind fun t721 => (some t721)) = some r := by rw [if_pos rfl] at H; exact H
      clear H
      have H := H1
      clear H1
      replace H := oB_q.mp H
      obtain ⟨t721, A240, H⟩ := H
      replace H : (some t721) = some r := H
      have A24 := Ae_q A240
      clear A240
      obtain rfl := oI_q H
      obtain ⟨Ao25, co25, eo25⟩ := rS_q HO_8.out
      subst eo25
      obtain ⟨Ao26, co26, eo26⟩ := rS_q HO_9.out
      subst eo26
      go_wp2_with (first | ((with_reducible refine gC_q (f := 23) rfl ?_); refine gL_q (some 46) rfl rfl Try.func23 m9_q rfl #[.slice Ao25 t713.length co25, .slice Ao26 t716.length co26] rfl m0_q ?_; (with_reducible refine (laws_sameInts.calls kj8 _ _ t713 _ _ t716 t721 _ ?side1 ?side2 ?side3 ?side4 A24.out).mono ?_); (case side1 => exact m47_q); (case side2 => exact m45_q); (case side3 => exact cup (rR_q HO_9.out).2.2); (case side4 => exact (rR_q HO_9.out).2.1); rintro e w' ⟨rfl, ⟨nd, rfl⟩⟩; refine ⟨_, rfl, ?_⟩))
      go_ret
      exact ⟨m6_q, bel HB.out⟩
     replace c23 := fM_q.mpr c23
     subst c23
     have H1 : (if (wrap64 ((t709.length : Int) + 1)) = 0 then (none) else (if 0 ≤ ((l1.length : Int) % (wrap64 ((t709.length : Int) + 1))) then (if ((l1.length : Int) % (wrap64 ((t709.length : Int) + 1))) ≤ (t709.length : Int) then ((impl_RecallGuests.f kj8 t706 (t709.take (((l1.length : Int) % (wrap64 ((t709.length : Int) + 1))) : Int).toNat) t712).bind fun t727 => (laws_FnRecallMore.l0 kj8 t713 t727 0)) else (none)) else (none))) = some r := by rw [if_neg (show ¬ (false = true) by decide)] at H; exact H
     clear H
     have H := H1
     clear H1
     by_cases c27 : (wrap64 ((t709.length : Int) + 1)) = 0
     ·rw [if_pos c27] at H
      exact absurd H (by simp)
     rw [if_neg c27] at H
     have c27b0 : ((wrap64 ((t709.length : Int) + 1)) == 0) = false := fN_q.mpr c27
     have c27b1 : ((wrap64 ((t709.length : Int) + 1)) != 0) = true := nI_q.mpr c27
     obtain ⟨ji28, hji28⟩ : ∃ j_ : Int, ((l1.length : Int) % (wrap64 ((t709.length : Int) + 1))) = j_ := ⟨_, rfl⟩
     replace H : (if 0 ≤ (ji28) then (if (ji28) ≤ (t709.length : Int) then ((impl_RecallGuests.f kj8 t706 (t709.take ((ji28) : Int).toNat) t712).bind fun t727 => (laws_FnRecallMore.l0 kj8 t713 t727 0)) else (none)) else (none)) = some r := by first | (rw [hji28] at H; exact H) | (simp only [hji28] at H ⊢; exact H)
     by_cases c29 : 0 ≤ (ji28)
     rotate_left
     ·rw [if_neg c29] at H
      exact absurd H (by simp)
     rw [if_pos c29] at H
     have c29b0 := eq_true c29
     have c29b1 : decide (0 ≤ (ji28)) = true := dT_q c29
     clear c29
     by_cases c30 : (ji28) ≤ (t709.length : Int)
     rotate_left
     ·rw [if_neg c30] at H
      exact absurd H (by simp)
     rw [if_pos c30] at H
     have c30b0 := eq_true c30
     have c30b1 : decide ((ji28) ≤ (t709.length : Int)) = true := dT_q c30
     clear c30
     obtain ⟨y722, hy722⟩ : ∃ y_ : List (S49), y_ = (t709.take ((ji28) : Int).toNat) := ⟨_, rfl⟩
     replace H : ((impl_RecallGuests.f kj8 t706 y722 t712).bind fun t727 => (laws_FnRecallMore.l0 kj8 t713 t727 0)) = some r := by first | (rw [hy722]; with_reducible exact H) | (have H2_ := (oS_q _ _).symm.trans H; rw [hy722]; with_reducible exact H2_) | (have H2_ := (oS_q _ _).symm.trans H; with_reducible exact H2_) | with_reducible exact H | (rw [hy722]; exact H) | exact H
     have Ny722 := Ae_q hy722
     clear hy722
     replace H := oB_q.mp H
     obtain ⟨t727, A310, H⟩ := H
     replace H : (laws_FnRecallMore.l0 kj8 t713 t727 0) = some r := H
     have A31 := Ae_q A310
     clear A310
     have H' := Ae_q H
     clear H
     have q32 : ((ji28) : Int) ≤ ((t709.length : Int) : Int) := oD_q (by assumption)
     obtain ⟨i032, hi032, _, hsz32, _⟩ := info_parts info49
     have hroom32 : t709.length ≤ co12 := (rR_q HO_6.out).2.1
     have hC32 : Kd.F k49 _ _ Ao12 t709.length t709 := (Kd.V_at (base := w.heap.size) (Kd.R_V (Kd.R_apart' (Kd.R_apart' (Kd.R_apart' (HO_6.out) (Kd.N_typed HO_5.out) (by decide)) (Kd.R_typed HO_8.out) (by decide)) (Kd.R_typed HO_9.out) (by decide)))).2.2
     have hcut32 := cut_to (P := Try.prog) 44 49 .i64 Try.underlying44 hi032 Ao12 t709.length co12 (ji28) (oD_q (by assumption)) q32 hroom32
     have hr32 := Kd.F_take (m := ((ji28) : Int).toNat) hC32 (by omega)
     have hy32 : y722.length = ((ji28) : Int).toNat := (by rw [Ny722.out, lT_q]; omega)
     rw [← Ny722.out] at hr32
     rw [← hy32] at hcut32
     have HO726 := Ae_q (show Kd.V k49 49 _ w.heap.size _ (.slice Ao12 y722.length co12) y722 from Kd.V_mk (by omega) hr32)
     have HC726 := Ae_q (show y722.length ≤ co12 from by omega)
     clear hr32 hC32 hroom32 hi032 hsz32
     have KY32 := Ae_q hy32
     clear hy32
     replace q32 := eq_true q32
     go_wp2_with (first | ((with_reducible refine gC_q (f := 40) rfl ?_); refine gL_q (some 57) rfl rfl Try.func40 m9_q rfl #[.slice Ao11 t706.length co11, .slice Ao12 y722.length co12, .int .i64 t712] rfl m0_q ?_; (with_reducible refine (impl_RecallGuests.calls kj8 _ _ t706 _ _ y722 t712 t727 _ ?side1 ?side2 ?side3 ?side4 A31.out).mono ?_); (case side1 => repeat (first | exact (Kd.N_reads' HO_5.out).2.2 | (with_reducible refine cA_q ?_ _) | (with_reducible refine cN_q ?_ _) | (with_reducible refine cD_q ?_))); (case side2 => exact (Kd.N_reads' HO_5.out).2.1); (case side3 => repeat (first | exact (Kd.V_reads' HO726.out).2.2 | (with_reducible refine cA_q ?_ _) | (with_reducible refine cN_q ?_ _) | (with_reducible refine cD_q ?_))); (case side4 => exact (Kd.V_reads' HO726.out).2.1); rintro e w' ⟨v728, rfl, ho0, hb⟩; refine ⟨_, rfl, ?_⟩; replace HO_5 := Ae_q (Kd.N_elder' (by (with_reducible repeat (first | apply Kd.N_alloc | apply Kd.N_drewN | apply Kd.N_drew)); exact HO_5.out) (rB_q ho0) hb); replace HO_6 := Ae_q (rO_q (rup HO_6.out) hb); replace HO726 := Ae_q (Kd.V_elder' (by (with_reducible repeat (first | apply Kd.V_alloc | apply Kd.V_drewN | apply Kd.V_drew)); exact HO726.out) (rB_q ho0) hb); have HO729 := Ae_q (rL_q (rW_q (rW_q ho0 (rT_q (rup HO_8.out))) (rT_q (rup HO_9.out))) (bZ_q (bel HB.out))); replace HO_8 := Ae_q (rE_q (rup HO_8.out) (rB_q ho0) hb); replace HO_9 := Ae_q (rE_q (rup HO_9.out) (rB_q ho0) hb); replace HB := Ae_q (bT_q (bel HB.out) hb); (try clear hb); (try clear hb2); (try clear hk); (try clear hi); (try clear ho0)))
     go_loopg [11] kj8 (fun kq v11 w' => ∃ (x11_3 : Int), v11 = .int .i64 x11_3 ∧ Aside0 (laws_FnRecallMore.l0 kq t713 t727 x11_3 = some r) ∧ Aside0 (kq ≤ kj8) ∧ Aside0 (Kd.R kI_q 3 w' w.heap.size (fun k_ => some k_ ≠ (v728 : Value).ownBlock) v714 t713) ∧ Aside0 (Kd.R kI_q 3 w' w.heap.size (fun k_ => some k_ ≠ (v714 : Value).ownBlock) v728 t727) ∧ Aside0 (Below w.heap.size w w'))
     case atStart => exact ⟨(0), m5_q, H', ⟨nR_q _⟩, ⟨m30_q⟩, ⟨by (with_reducible repeat (first | apply rA_q | apply rN_q | apply rD_q)); exact rM_q HO729.out (fun _ hk => hk.1.2)⟩, ⟨bel HB.out⟩⟩
     case round =>
      clear H'
      try clear c1
      try clear c2
      try clear p2
      try clear c3
      try clear q3
      try clear c4
      try clear c4b0
      try clear c4b1
      try clear c5
      try clear p6
      try clear c12
      try clear c16
      try clear c23
      try clear c27
      try clear c27b0
      try clear c27b1
      try clear c29
      try clear c29b0
      try clear c29b1
      try clear c30
      try clear c30b0
      try clear c30b1
      try clear q32
      try clear p2
      try clear q32
      obtain ⟨x11_3, rfl, HA, HK3, HO_8, HO_10, HB⟩ := hrel
      cases gk with
      | zero => exact absurd HA.out (by simp [laws_FnRecallMore.l0])
      | succ k3 =>
       have H := HA.out
       clear HA
       simp only [laws_FnRecallMore.l0] at H
       by_cases c34 : x11_3 < (t727.length : Int)
       rotate_left
       ·rw [if_neg c34] at H
        have c34b0 : decide (x11_3 < (t727.length : Int)) = false := dF_q c34
        clear c34
        obtain rfl := oI_q H
        obtain ⟨Ao42, co42, eo42⟩ := rS_q HO_10.out
        subst eo42
        go_wp2
        go_ret
        exact ⟨m35_q, bel HB.out⟩
       rw [if_pos c34] at H
       have c34b0 : decide (x11_3 < (t727.length : Int)) = true := dT_q c34
       clear c34
       by_cases c35 : 0 ≤ x11_3
       rotate_left
       ·rw [if_neg c35] at H
        exact absurd H (by simp)
       rw [if_pos c35] at H
       have c35b0 : decide (0 ≤ x11_3) = true := dT_q c35
       clear c35
       replace H := oB_q.mp H
       obtain ⟨t731, A360, H⟩ := H
       replace H : (if t731 = true then (laws_FnRecallMore.l0 k3 t713 t727 (wrap64 (x11_3 + 1))) else (some false)) = some r := H
       have A36 := Ae_q A360
       clear A360
       by_cases c37 : t731 = true
       rotate_left
       ·replace c37 := fM_q.mpr c37
        subst c37
        have H1 : (some false) = some r := by rw [if_neg (show ¬ (false = true) by decide)] at H; exact H
        clear H
        have H := H1
        clear H1
        obtain rfl := oI_q H
        obtain ⟨Ao40, co40, eo40⟩ := rS_q HO_10.out
        subst eo40
        have p730 : 0 ≤ (x11_3 : Int) := oD_q (by assumption)
        have q730 : x11_3 < (t727.length : Int) := oD_q (by assumption)
        obtain ⟨ad730, e730, hx730_0⟩ := aI_q (rR_q HO_10.out).2.2 x11_3 p730 q730
        cases e730
        replace p730 := eq_true p730
        replace q730 := eq_true q730
        obtain ⟨Ao41, co41, eo41⟩ := rS_q HO_8.out
        subst eo41
        go_wp2_with (first | ((with_reducible refine gC_q (f := 24) rfl ?_); refine gL_q (some 69) rfl rfl Try.func24 m9_q rfl #[.slice Ao41 t713.length co41, .int .i64 (rd t727 x11_3)] rfl m0_q ?_; (with_reducible refine (laws_hasInt.calls k3 _ _ t713 (rd t727 x11_3) false _ ?side1 ?side2 A36.out).mono ?_); (case side1 => exact m47_q); (case side2 => exact m45_q); rintro e w' ⟨rfl, ⟨nd, rfl⟩⟩; refine ⟨_, rfl, ?_⟩))
        go_ret
        exact ⟨m35_q, bel HB.out⟩
       subst c37
       have H1 : (laws_FnRecallMore.l0 k3 t713 t727 (wrap64 (x11_3 + 1))) = some r := by rw [if_pos rfl] at H; exact H
       clear H
       have H := H1
       clear H1
       have H' := Ae_q H
       clear H
       obtain ⟨Ao38, co38, eo38⟩ := rS_q HO_10.out
       subst eo38
       have p730 : 0 ≤ (x11_3 : Int) := oD_q (by assumption)
       have q730 : x11_3 < (t727.length : Int) := oD_q (by assumption)
       obtain ⟨ad730, e730, hx730_0⟩ := aI_q (rR_q HO_10.out).2.2 x11_3 p730 q730
       cases e730
       replace p730 := eq_true p730
       replace q730 := eq_true q730
       obtain ⟨Ao39, co39, eo39⟩ := rS_q HO_8.out
       subst eo39
       go_wp2_with (first | ((with_reducible refine gC_q (f := 24) rfl ?_); refine gL_q (some 69) rfl rfl Try.func24 m9_q rfl #[.slice Ao39 t713.length co39, .int .i64 (rd t727 x11_3)] rfl m0_q ?_; (with_reducible refine (laws_hasInt.calls k3 _ _ t713 (rd t727 x11_3) true _ ?side1 ?side2 A36.out).mono ?_); (case side1 => exact m47_q); (case side2 => exact m45_q); rintro e w' ⟨rfl, ⟨nd, rfl⟩⟩; refine ⟨_, rfl, ?_⟩))
       go_roundg k3
       case measure => have := HJ2.out; have := HJ8.out; have := HK3.out; omega
       case rel => exact ⟨(wrap64 (x11_3 + 1)), m5_q, H', ⟨by have := HJ2.out; have := HJ8.out; have := HK3.out; omega⟩, ⟨rup HO_8.out⟩, ⟨rup HO_10.out⟩, ⟨bel HB.out⟩⟩

def laws_FnRecallMore.Pure : Prop := ∀ (l0 : List Int) (l1 : List Int), l0.length ≤ maxLen → l0.length * 1 ≤ 140737488351232 → (∀ x ∈ l0, (Lit.int .u8 x).wf = true) → l1.length ≤ maxLen → l1.length * 1 ≤ 140737488351232 → (∀ x ∈ l1, (Lit.int .u8 x).wf = true) → ∃ k, laws_FnRecallMore.f k l0 l1 = some true
theorem laws_FnRecallMore.walk (P : laws_FnRecallMore.Pure) (a0 : Option Addr) (len0 cap0 : Nat) (z0 : List Int) (a1 : Option Addr) (len1 cap1 : Nat) (z1 : List Int) (w : World) (w0 : (a0 = none ∧ len0 = 0 ∧ cap0 = 0 ∧ z0 = []) ∨ ∃ x, a0 = some x ∧ len0 ≤ cap0 ∧ cap0 ≤ maxLen ∧ z0.length = cap0 ∧ (∀ i, i < z0.length → w.cell? (x.add i) = some (.int .u8 (z0.getD i 0))) ∧ ∀ n ∈ z0, (Lit.int .u8 n).wf = true) (y0 : len0 * 1 ≤ 140737488351232) (w1 : (a1 = none ∧ len1 = 0 ∧ cap1 = 0 ∧ z1 = []) ∨ ∃ x, a1 = some x ∧ len1 ≤ cap1 ∧ cap1 ≤ maxLen ∧ z1.length = cap1 ∧ (∀ i, i < z1.length → w.cell? (x.add i) = some (.int .u8 (z1.getD i 0))) ∧ ∀ n ∈ z1, (Lit.int .u8 n).wf = true) (y1 : len1 * 1 ≤ 140737488351232) :
    Calls Try.prog 12 #[.slice a0 len0 cap0, .slice a1 len1 cap1] w fun e w' => e = .returned (.bool true) ∧ Below w.heap.size w w' := by
 obtain ⟨l0, rfl, hr0, hm0, hw0, hc0⟩ := ReadsInt.ofRowC w0
 obtain ⟨l1, rfl, hr1, hm1, hw1, hc1⟩ := ReadsInt.ofRowC w1
 obtain ⟨k, h⟩ := P l0 l1 hm0 y0 hw0 hm1 y1 hw1
 refine (laws_FnRecallMore.calls k _ _ l0 _ _ l1 true w (Kd.C_of_reads (d := (0 : Int)) (h1 := fun _ => rfl) hr0) hc0 (Kd.C_of_reads (d := (0 : Int)) (h1 := fun _ => rfl) hr1) hc1 h).mono ?_
 rintro e w' ⟨rfl, hd⟩
 exact ⟨rfl, hd⟩

end Go.Proofs.Ytnckblolijkdaaa.PBt
