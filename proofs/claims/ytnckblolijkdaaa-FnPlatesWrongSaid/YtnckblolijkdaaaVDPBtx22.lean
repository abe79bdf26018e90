import Derived.Test.YtnckblolijkdaaaVDPBtx0
import Derived.Test.YtnckblolijkdaaaVDPBtx11
import Derived.Test.YtnckblolijkdaaaVDPBtx12
import Derived.Test.YtnckblolijkdaaaVDPBtx17
import Derived.Test.YtnckblolijkdaaaVDPBtx19
import Derived.Test.YtnckblolijkdaaaVDPBtx21
namespace Go.Proofs.Ytnckblolijkdaaa.PBt
open Go.RowKit Go.Proofs.YtnckblolijkdaaaW.PrintWords Go.Proofs.YtnckblolijkdaaaW.PrintLast Go.Proofs.YtnckblolijkdaaaW.PrintMore
attribute [local go_sem] max2_int min2_int max_two min_two max_three min_three max_four min_four
set_option linter.unusedVariables false
set_option linter.unusedSimpArgs false

mutual
def laws_FnPlatesWrong.j0 : Nat → List (S39) → List (S49) → List Int → List Int → Bool → Option (Bool)
 | 0, _, _, _, _, _ => none
 | k + 1, x3, x4, x5, x6, x33 => if x33 = true then ((laws_sameInts.f k x5 x6).bind fun t437 => (some t437)) else (laws_FnPlatesWrong.l0 k x3 x4 x5 0)
def laws_FnPlatesWrong.l0 : Nat → List (S39) → List (S49) → List Int → Int → Option (Bool)
 | 0, _, _, _, _ => none
 | k + 1, x3, x4, x5, x7 => if x7 < (x4.length : Int) then (laws_FnPlatesWrong.l1 k x3 x4 x5 x7 false 0) else (some (decide ((x5.length : Int) ≤ (x4.length : Int))))
def laws_FnPlatesWrong.l1 : Nat → List (S39) → List (S49) → List Int → Int → Bool → Int → Option (Bool)
 | 0, _, _, _, _, _, _ => none
 | k + 1, x3, x4, x5, x7, x8, x9 => if x9 < (x3.length : Int) then (if 0 ≤ x9 then (if 0 ≤ x7 then (if x7 < (x4.length : Int) then (if ((rd_T39 x3 x9).f0) = ((rd_T49 x4 x7).f1) then (if ((rd_T49 x4 x7).f2) < ((rd_T39 x3 x9).f2) then (laws_FnPlatesWrong.l1 k x3 x4 x5 x7 true (wrap64 (x9 + 1))) else (laws_FnPlatesWrong.l1 k x3 x4 x5 x7 (decide (((rd_T49 x4 x7).f2) > ((rd_T39 x3 x9).f3))) (wrap64 (x9 + 1)))) else (laws_FnPlatesWrong.l1 k x3 x4 x5 x7 x8 (wrap64 (x9 + 1)))) else (none)) else (none)) else (none)) else ((laws_hasInt.f k x5 x7).bind fun t444 => (if (t444 != x8) = true then (some false) else (laws_FnPlatesWrong.l0 k x3 x4 x5 (wrap64 (x7 + 1)))))
end
def laws_FnPlatesWrong.f (k : Nat) (l0 : List Int) : Option (Bool) := if (l0.length : Int) > 1048576 then (some true) else ((spec_DrawPlatesWrong.f k l0).bind fun bt423 => ((impl_PlatesWrong.f k bt423.1 bt423.2).bind fun t429 => ((spec_PlatesWrong.f k bt423.1 bt423.2).bind fun t432 => ((laws_sameInts.f k t429 t432).bind fun t435 => (if t435 = true then ((spec_PlatesValid.f k bt423.1 bt423.2).bind fun t436 => (laws_FnPlatesWrong.j0 k bt423.1 bt423.2 t429 t432 (!t436))) else (laws_FnPlatesWrong.j0 k bt423.1 bt423.2 t429 t432 true))))))
set_option maxHeartbeats 8000000 in
set_option maxRecDepth 100000 in
theorem laws_FnPlatesWrong.calls (k : Nat) (A0 : Option Addr) (c0 : Nat) (l0 : List Int) (r : Bool) (w : World) (hr0 : Kd.C (Kd.int .u8) w A0 l0.length l0) (hc0 : l0.length ≤ c0) (h : laws_FnPlatesWrong.f k l0 = some r) :
    Calls Try.prog 8 #[.slice A0 l0.length c0] w fun e w' => e = .returned (.bool r) ∧ Below w.heap.size w w' := by
 have HR0 := Ae_q hr0
 have HC0 := Ae_q hc0
 clear hr0 hc0
 have HB := Ae_q (bR_q w.heap.size w)
 have H : (if (l0.length : Int) > 1048576 then (some true) else ((spec_DrawPlatesWrong.f k l0).bind fun bt423 => ((impl_PlatesWrong.f k bt423.1 bt423.2).bind fun t429 => ((spec_PlatesWrong.f k bt423.1 bt423.2).bind fun t432 => ((laws_sameInts.f k t429 t432).bind fun t435 => (if t435 = true then ((spec_PlatesValid.f k bt423.1 bt423.2).bind fun t436 => (laws_FnPlatesWrong.j0 k bt423.1 bt423.2 t429 t432 (!t436))) else (laws_FnPlatesWrong.j0 k bt423.1 bt423.2 t429 t432 true))))))) = some r := h
 clear h
 by_cases c2 : (l0.length : Int) > 1048576
 ·rw [if_pos c2] at H
  have c2b0 : decide (1048576 < (l0.length : Int)) = true := dT_q c2
  have c2b1 : decide (1048576 < l0.length) = true := dT_q (by omega)
  clear c2
  obtain rfl := oI_q H
  go_enter Try.func8, Try.ntmps8
  go_wp2
  repeat (go_quiet (fail); try go_wp2)
  go_ret
  exact ⟨m7_q, bel HB.out⟩
 rw [if_neg c2] at H
 have c2b0 : decide (1048576 < (l0.length : Int)) = false := dF_q c2
 have c2b1 : decide (1048576 < l0.length) = false := dF_q (by omega)
 clear c2
 replace H := oB_q.mp H
 obtain ⟨⟨t423, t426⟩, A30, H⟩ := H
 replace H : ((impl_PlatesWrong.f k t423 t426).bind fun t429 => ((spec_PlatesWrong.f k t423 t426).bind fun t432 => ((laws_sameInts.f k t429 t432).bind fun t435 => (if t435 = true then ((spec_PlatesValid.f k t423 t426).bind fun t436 => (laws_FnPlatesWrong.j0 k t423 t426 t429 t432 (!t436))) else (laws_FnPlatesWrong.j0 k t423 t426 t429 t432 true))))) = some r := H
 have A3 := Ae_q A30
 clear A30
 replace H := oB_q.mp H
 obtain ⟨t429, A40, H⟩ := H
 replace H : ((spec_PlatesWrong.f k t423 t426).bind fun t432 => ((laws_sameInts.f k t429 t432).bind fun t435 => (if t435 = true then ((spec_PlatesValid.f k t423 t426).bind fun t436 => (laws_FnPlatesWrong.j0 k t423 t426 t429 t432 (!t436))) else (laws_FnPlatesWrong.j0 k t423 t426 t429 t432 true)))) = some r := H
 have A4 := Ae_q A40
 clear A40
 replace H := oB_q.mp H
 obtain ⟨t432, A50, H⟩ := H
 replace H : ((laws_sameInts.f k t429 t432).bind fun t435 => (if t435 = true then ((spec_PlatesValid.f k t423 t426).bind fun t436 => (laws_FnPlatesWrong.j0 k t423 t426 t429 t432 (!t436))) else (laws_FnPlatesWrong.j0 k t423 t426 t429 t432 true))) = some r := H
 have A5 := Ae_q A50
 clear A50
 have HC6 := Ae_q H
 clear H
 go_enter Try.func8, Try.ntmps8
 go_upto_region 6 with (first | (go_at_call 32; (with_reducible refine (spec_DrawPlatesWrong.calls k _ _ l0 t423 t426 _ ?side1 ?side2 A3.out).mono ?_); (case side1 => exact m36_q); (case side2 => exact m41_q); rintro e w' ⟨v424, v427, rfl, ho0, ho1, hb⟩; have HO425 := Ae_q (Kd.N_lower (Kd.N_mono (ok' := fun k_ => some k_ ≠ (v427 : Value).ownBlock) ho0 (fun k_ hk_ => hk_.2)) (bZ_q (bel HB.out))); have HO428 := Ae_q (rL_q (rM_q (ok' := fun k_ => True) ho1 (fun _ hk_ => trivial)) (bZ_q (bel HB.out))); replace HB := Ae_q (bT_q (bel HB.out) hb); (try clear hb); (try clear hb2); (try clear hk); (try clear hi); (try clear ho0); (try clear ho1); obtain ⟨Ao8, co8, eo8⟩ := Kd.N_slice HO425.out; subst eo8; obtain ⟨Ao9, co9, eo9⟩ := rS_q HO428.out; subst eo9) | ((first | (go_at_call 33; (with_reducible refine (impl_PlatesWrong.calls k _ _ t423 _ _ t426 t429 _ ?side1 ?side2 ?side3 ?side4 A4.out).mono ?_); (case side1 => exact m17_q); (case side2 => exact m43_q); (case side3 => exact m44_q); (case side4 => exact m46_q); rintro e w' ⟨v430, rfl, ho0, hb⟩; replace HO425 := Ae_q (Kd.N_elder' m24_q (rB_q ho0) hb); replace HO428 := Ae_q (rO_q (rup HO428.out) hb); have HO431 := Ae_q (rL_q ho0 (bZ_q (bel HB.out))); replace HB := Ae_q (bT_q (bel HB.out) hb)) | (go_at_call 34; (with_reducible refine (spec_PlatesWrong.calls k _ _ t423 _ _ t426 t432 _ ?side1 ?side2 ?side3 ?side4 A5.out).mono ?_); (case side1 => exact m17_q); (case side2 => exact m43_q); (case side3 => exact m44_q); (case side4 => exact m46_q); rintro e w' ⟨v433, rfl, ho0, hb⟩; replace HO425 := Ae_q (Kd.N_elder' m24_q (rB_q ho0) hb); replace HO428 := Ae_q (rO_q (rup HO428.out) hb); have HO434 := Ae_q (rL_q (rW_q ho0 (rT_q (rup HO431.out))) (bZ_q (bel HB.out))); replace HO431 := Ae_q (rE_q (rup HO431.out) (rB_q ho0) hb); replace HB := Ae_q (bT_q (bel HB.out) hb))); (try clear hb); (try clear hb2); (try clear hk); (try clear hi); (try clear ho0)))
 repeat (go_quiet (first | (go_at_call 32; (with_reducible refine (spec_DrawPlatesWrong.calls k _ _ l0 t423 t426 _ ?side1 ?side2 A3.out).mono ?_); (case side1 => exact m36_q); (case side2 => exact m41_q); rintro e w' ⟨v424, v427, rfl, ho0, ho1, hb⟩; have HO425 := Ae_q (Kd.N_lower (Kd.N_mono (ok' := fun k_ => some k_ ≠ (v427 : Value).ownBlock) ho0 (fun k_ hk_ => hk_.2)) (bZ_q (bel HB.out))); have HO428 := Ae_q (rL_q (rM_q (ok' := fun k_ => True) ho1 (fun _ hk_ => trivial)) (bZ_q (bel HB.out))); replace HB := Ae_q (bT_q (bel HB.out) hb); (try clear hb); (try clear hb2); (try clear hk); (try clear hi); (try clear ho0); (try clear ho1); obtain ⟨Ao8, co8, eo8⟩ := Kd.N_slice HO425.out; subst eo8; obtain ⟨Ao9, co9, eo9⟩ := rS_q HO428.out; subst eo9) | ((first | (go_at_call 33; (with_reducible refine (impl_PlatesWrong.calls k _ _ t423 _ _ t426 t429 _ ?side1 ?side2 ?side3 ?side4 A4.out).mono ?_); (case side1 => exact m17_q); (case side2 => exact m43_q); (case side3 => exact m44_q); (case side4 => exact m46_q); rintro e w' ⟨v430, rfl, ho0, hb⟩; replace HO425 := Ae_q (Kd.N_elder' m24_q (rB_q ho0) hb); replace HO428 := Ae_q (rO_q (rup HO428.out) hb); have HO431 := Ae_q (rL_q ho0 (bZ_q (bel HB.out))); replace HB := Ae_q (bT_q (bel HB.out) hb)) | (go_at_call 34; (with_reducible refine (spec_PlatesWrong.calls k _ _ t423 _ _ t426 t432 _ ?side1 ?side2 ?side3 ?side4 A5.out).mono ?_); (case side1 => exact m17_q); (case side2 => exact m43_q); (case side3 => exact m44_q); (case side4 => exact m46_q); rintro e w' ⟨v433, rfl, ho0, hb⟩; replace HO425 := Ae_q (Kd.N_elder' m24_q (rB_q ho0) hb); replace HO428 := Ae_q (rO_q (rup HO428.out) hb); have HO434 := Ae_q (rL_q (rW_q ho0 (rT_q (rup HO431.out))) (bZ_q (bel HB.out))); replace HO431 := Ae_q (rE_q (rup HO431.out) (rB_q ho0) hb); replace HB := Ae_q (bT_q (bel HB.out) hb))); (try clear hb); (try clear hb2); (try clear hk); (try clear hi); (try clear ho0))); go_upto_region 6 with (first | (go_at_call 32; (with_reducible refine (spec_DrawPlatesWrong.calls k _ _ l0 t423 t426 _ ?side1 ?side2 A3.out).mono ?_); (case side1 => exact m36_q); (case side2 => exact m41_q); rintro e w' ⟨v424, v427, rfl, ho0, ho1, hb⟩; have HO425 := Ae_q (Kd.N_lower (Kd.N_mono (ok' := fun k_ => some k_ ≠ (v427 : Value).ownBlock) ho0 (fun k_ hk_ => hk_.2)) (bZ_q (bel HB.out))); have HO428 := Ae_q (rL_q (rM_q (ok' := fun k_ => True) ho1 (fun _ hk_ => trivial)) (bZ_q (bel HB.out))); replace HB := Ae_q (bT_q (bel HB.out) hb); (try clear hb); (try clear hb2); (try clear hk); (try clear hi); (try clear ho0); (try clear ho1); obtain ⟨Ao8, co8, eo8⟩ := Kd.N_slice HO425.out; subst eo8; obtain ⟨Ao9, co9, eo9⟩ := rS_q HO428.out; subst eo9) | ((first | (go_at_call 33; (with_reducible refine (impl_PlatesWrong.calls k _ _ t423 _ _ t426 t429 _ ?side1 ?side2 ?side3 ?side4 A4.out).mono ?_); (case side1 => exact m17_q); (case side2 => exact m43_q); (case side3 => exact m44_q); (case side4 => exact m46_q); rintro e w' ⟨v430, rfl, ho0, hb⟩; replace HO425 := Ae_q (Kd.N_elder' m24_q (rB_q ho0) hb); replace HO428 := Ae_q (rO_q (rup HO428.out) hb); have HO431 := Ae_q (rL_q ho0 (bZ_q (bel HB.out))); replace HB := Ae_q (bT_q (bel HB.out) hb)) | (go_at_call 34; (with_reducible refine (spec_PlatesWrong.calls k _ _ t423 _ _ t426 t432 _ ?side1 ?side2 ?side3 ?side4 A5.out).mono ?_); (case side1 => exact m17_q); (case side2 => exact m43_q); (case side3 => exact m44_q); (case side4 => exact m46_q); rintro e w' ⟨v433, rfl, ho0, hb⟩; replace HO425 := Ae_q (Kd.N_elder' m24_q (rB_q ho0) hb); replace HO428 := Ae_q (rO_q (rup HO428.out) hb); have HO434 := Ae_q (rL_q (rW_q ho0 (rT_q (rup HO431.out))) (bZ_q (bel HB.out))); replace HO431 := Ae_q (rE_q (rup HO431.out) (rB_q ho0) hb); replace HB := Ae_q (bT_q (bel HB.out) hb))); (try clear hb); (try clear hb2); (try clear hk); (try clear hi); (try clear ho0))))
 (try simp only [Act.put, sA_q, sZ_q, sS_q])
 go_cut [33] (fun v33 wc => ∃ (kq : Nat) (x33_5 : Bool), v33 = .bool x33_5 ∧ Aside0 (laws_FnPlatesWrong.j0 kq t423 t426 t429 t432 x33_5 = some r) ∧ Aside0 (kq ≤ k) ∧ Aside0 (Kd.N k39 39 wc w.heap.size (fun k_ => some k_ ≠ ((.slice Ao9 t426.length co9) : Value).ownBlock ∧ some k_ ≠ (v430 : Value).ownBlock ∧ some k_ ≠ (v433 : Value).ownBlock) (.slice Ao8 t423.length co8) t423) ∧ Aside0 (Kd.R k49 49 wc w.heap.size (fun _ => True) (.slice Ao9 t426.length co9) t426) ∧ Aside0 (Kd.R kI_q 3 wc w.heap.size (fun k_ => some k_ ≠ (v433 : Value).ownBlock) v430 t429) ∧ Aside0 (Kd.R kI_q 3 wc w.heap.size (fun k_ => some k_ ≠ (v430 : Value).ownBlock) v433 t432) ∧ Aside0 (Below w.heap.size w wc))
 case first =>
  have H := HC6.out
  clear HC6
  replace H := oB_q.mp H
  obtain ⟨t435, A120, H⟩ := H
  replace H : (if t435 = true then ((spec_PlatesValid.f k t423 t426).bind fun t436 => (laws_FnPlatesWrong.j0 k t423 t426 t429 t432 (!t436))) else (laws_FnPlatesWrong.j0 k t423 t426 t429 t432 true)) = some r := H
  have A12 := Ae_q A120
  clear A120
  by_cases c13 : t435 = true
  rotate_left
  ·replace c13 := fM_q.mpr c13
   subst c13
   have H1 : (laws_FnPlatesWrong.j0 k t423 t426 t429 t432 true) = some r := by rw [if_neg (show ¬ (false = true) by decide)] at H; exact H
   clear H
   have H := H1
   clear H1
   have H' := Ae_q H
   clear H
   obtain ⟨Ao18, co18, eo18⟩ := rS_q HO431.out
   subst eo18
   obtain ⟨Ao19, co19, eo19⟩ := rS_q HO434.out
   subst eo19
   go_wp2_with (first | (go_at_call 23; (with_reducible refine (laws_sameInts.calls k _ _ t429 _ _ t432 false _ ?side1 ?side2 ?side3 ?side4 A12.out).mono ?_); (case side1 => exact m53_q); (case side2 => exact m59_q); (case side3 => exact m54_q); (case side4 => exact m60_q); rintro e w' ⟨rfl, ⟨nd, rfl⟩⟩; (try first | exact ⟨rfl, _, wD_q _ _ _⟩ | exact ⟨rfl, _, Eq.trans (wD_q _ _ _) (congrArg (World.drewN _) (nA_q _ _ _))⟩)))
   repeat (go_quiet (first | (go_at_call 23; (with_reducible refine (laws_sameInts.calls k _ _ t429 _ _ t432 false _ ?side1 ?side2 ?side3 ?side4 A12.out).mono ?_); (case side1 => exact m53_q); (case side2 => exact m59_q); (case side3 => exact m54_q); (case side4 => exact m60_q); rintro e w' ⟨rfl, ⟨nd, rfl⟩⟩; (try first | exact ⟨rfl, _, wD_q _ _ _⟩ | exact ⟨rfl, _, Eq.trans (wD_q _ _ _) (congrArg (World.drewN _) (nA_q _ _ _))⟩))); try go_wp2_with (first | (go_at_call 23; (with_reducible refine (laws_sameInts.calls k _ _ t429 _ _ t432 false _ ?side1 ?side2 ?side3 ?side4 A12.out).mono ?_); (case side1 => exact m53_q); (case side2 => exact m59_q); (case side3 => exact m54_q); (case side4 => exact m60_q); rintro e w' ⟨rfl, ⟨nd, rfl⟩⟩; (try first | exact ⟨rfl, _, wD_q _ _ _⟩ | exact ⟨rfl, _, Eq.trans (wD_q _ _ _) (congrArg (World.drewN _) (nA_q _ _ _))⟩))))
   go_meet
   case rel => exact ⟨_, (true), m5_q, H', ⟨m55_q⟩, ⟨m40_q⟩, ⟨rup HO428.out⟩, ⟨m49_q⟩, ⟨m50_q⟩, ⟨bel HB.out⟩⟩
  subst c13
  have H1 : ((spec_PlatesValid.f k t423 t426).bind fun t436 => (laws_FnPlatesWrong.j0 k t423 t426 t429 t432 (!t436))) = some r := by rw [if_pos rfl] at H; exact H
  clear H
  have H := H1
  clear H1
  replace H := oB_q.mp H
  obtain ⟨t436, A140, H⟩ := H
  replace H : (laws_FnPlatesWrong.j0 k t423 t426 t429 t432 (!t436)) = some r := H
  have A14 := Ae_q A140
  clear A140
  have H' := Ae_q H
  clear H
  obtain ⟨Ao15, co15, eo15⟩ := rS_q HO431.out
  subst eo15
  obtain ⟨Ao16, co16, eo16⟩ := rS_q HO434.out
  subst eo16
  go_wp2_with (first | (go_at_call 23; (with_reducible refine (laws_sameInts.calls k _ _ t429 _ _ t432 true _ ?side1 ?side2 ?side3 ?side4 A12.out).mono ?_); (case side1 => exact m53_q); (case side2 => exact m59_q); (case side3 => exact m54_q); (case side4 => exact m60_q); rintro e w' ⟨rfl, ⟨nd, rfl⟩⟩; (try first | exact ⟨rfl, _, wD_q _ _ _⟩ | exact ⟨rfl, _, Eq.trans (wD_q _ _ _) (congrArg (World.drewN _) (nA_q _ _ _))⟩)) | (go_at_call 31; (with_reducible refine (spec_PlatesValid.calls k _ _ t423 _ _ t426 t436 _ ?side1 ?side2 ?side3 ?side4 A14.out).mono ?_); (case side1 => exact m17_q); (case side2 => exact m43_q); (case side3 => exact m44_q); (case side4 => exact m46_q); rintro e w' ⟨rfl, hb⟩; replace HO425 := Ae_q (Kd.N_below m24_q hb); replace HO428 := Ae_q (rO_q (rup HO428.out) hb); replace HO431 := Ae_q (rO_q (rup HO431.out) hb); replace HO434 := Ae_q (rO_q (rup HO434.out) hb); replace HB := Ae_q (bT_q (bel HB.out) hb); (try clear hb); (try clear hb2); (try clear hk); (try clear hi)))
  repeat (go_quiet (first | (go_at_call 23; (with_reducible refine (laws_sameInts.calls k _ _ t429 _ _ t432 true _ ?side1 ?side2 ?side3 ?side4 A12.out).mono ?_); (case side1 => exact m53_q); (case side2 => exact m59_q); (case side3 => exact m54_q); (case side4 => exact m60_q); rintro e w' ⟨rfl, ⟨nd, rfl⟩⟩; (try first | exact ⟨rfl, _, wD_q _ _ _⟩ | exact ⟨rfl, _, Eq.trans (wD_q _ _ _) (congrArg (World.drewN _) (nA_q _ _ _))⟩)) | (go_at_call 31; (with_reducible refine (spec_PlatesValid.calls k _ _ t423 _ _ t426 t436 _ ?side1 ?side2 ?side3 ?side4 A14.out).mono ?_); (case side1 => exact m17_q); (case side2 => exact m43_q); (case side3 => exact m44_q); (case side4 => exact m46_q); rintro e w' ⟨rfl, hb⟩; replace HO425 := Ae_q (Kd.N_below m24_q hb); replace HO428 := Ae_q (rO_q (rup HO428.out) hb); replace HO431 := Ae_q (rO_q (rup HO431.out) hb); replace HO434 := Ae_q (rO_q (rup HO434.out) hb); replace HB := Ae_q (bT_q (bel HB.out) hb); (try clear hb); (try clear hb2); (try clear hk); (try clear hi))); try go_wp2_with (first | (go_at_call 23; (with_reducible refine (laws_sameInts.calls k _ _ t429 _ _ t432 true _ ?side1 ?side2 ?side3 ?side4 A12.out).mono ?_); (case side1 => exact m53_q); (case side2 => exact m59_q); (case side3 => exact m54_q); (case side4 => exact m60_q); rintro e w' ⟨rfl, ⟨nd, rfl⟩⟩; (try first | exact ⟨rfl, _, wD_q _ _ _⟩ | exact ⟨rfl, _, Eq.trans (wD_q _ _ _) (congrArg (World.drewN _) (nA_q _ _ _))⟩)) | (go_at_call 31; (with_reducible refine (spec_PlatesValid.calls k _ _ t423 _ _ t426 t436 _ ?side1 ?side2 ?side3 ?side4 A14.out).mono ?_); (case side1 => exact m17_q); (case side2 => exact m43_q); (case side3 => exact m44_q); (case side4 => exact m46_q); rintro e w' ⟨rfl, hb⟩; replace HO425 := Ae_q (Kd.N_below m24_q hb); replace HO428 := Ae_q (rO_q (rup HO428.out) hb); replace HO431 := Ae_q (rO_q (rup HO431.out) hb); replace HO434 := Ae_q (rO_q (rup HO434.out) hb); replace HB := Ae_q (bT_q (bel HB.out) hb); (try clear hb); (try clear hb2); (try clear hk); (try clear hi))))
  go_meet
  case rel => exact ⟨_, (!t436), m5_q, H', ⟨m55_q⟩, ⟨m40_q⟩, ⟨rup HO428.out⟩, ⟨m49_q⟩, ⟨m50_q⟩, ⟨bel HB.out⟩⟩
 case rest =>
  clear HC6
  try clear c1
  try clear c2
  try clear c2b0
  try clear c2b1
  try clear p2
  try clear c8
  try clear c13
  obtain ⟨kq, x33_5, rfl, HA, HJ5, HO_3, HO_4, HO_5, HO_6, HB⟩ := hcut
  cases kq with
  | zero => exact absurd HA.out (by simp [laws_FnPlatesWrong.j0])
  | succ kj5 =>
   have H := HA.out
   clear HA
   simp only [laws_FnPlatesWrong.j0] at H
   by_cases c20 : x33_5 = true
   ·subst c20
    have H1 : ((laws_sameInts.f kj5 t429 t432).bind fun t437 => (some t437)) = some r := by rw [if_pos rfl] at H; exact H
    clear H
    have H := H1
    clear H1
    replace H := oB_q.mp H
    obtain ⟨t437, A210, H⟩ := H
    replace H : (some t437) = some r := H
    have A21 := Ae_q A210
    clear A210
    obtain rfl := oI_q H
    obtain ⟨Ao22, co22, eo22⟩ := rS_q HO_5.out
    subst eo22
    obtain ⟨Ao23, co23, eo23⟩ := rS_q HO_6.out
    subst eo23
    go_wp2_with (first | (go_at_call 23; (with_reducible refine (laws_sameInts.calls kj5 _ _ t429 _ _ t432 t437 _ ?side1 ?side2 ?side3 ?side4 A21.out).mono ?_); (case side1 => exact m45_q); (case side2 => exact m47_q); (case side3 => exact cup (rR_q HO_6.out).2.2); (case side4 => exact (rR_q HO_6.out).2.1); rintro e w' ⟨rfl, ⟨nd, rfl⟩⟩; (try first | exact ⟨rfl, _, wD_q _ _ _⟩ | exact ⟨rfl, _, Eq.trans (wD_q _ _ _) (congrArg (World.drewN _) (nA_q _ _ _))⟩)))
    repeat (go_quiet (first | (go_at_call 23; (with_reducible refine (laws_sameInts.calls kj5 _ _ t429 _ _ t432 t437 _ ?side1 ?side2 ?side3 ?side4 A21.out).mono ?_); (case side1 => exact m45_q); (case side2 => exact m47_q); (case side3 => exact cup (rR_q HO_6.out).2.2); (case side4 => exact (rR_q HO_6.out).2.1); rintro e w' ⟨rfl, ⟨nd, rfl⟩⟩; (try first | exact ⟨rfl, _, wD_q _ _ _⟩ | exact ⟨rfl, _, Eq.trans (wD_q _ _ _) (congrArg (World.drewN _) (nA_q _ _ _))⟩))); try go_wp2_with (first | (go_at_call 23; (with_reducible refine (laws_sameInts.calls kj5 _ _ t429 _ _ t432 t437 _ ?side1 ?side2 ?side3 ?side4 A21.out).mono ?_); (case side1 => exact m45_q); (case side2 => exact m47_q); (case side3 => exact cup (rR_q HO_6.out).2.2); (case side4 => exact (rR_q HO_6.out).2.1); rintro e w' ⟨rfl, ⟨nd, rfl⟩⟩; (try first | exact ⟨rfl, _, wD_q _ _ _⟩ | exact ⟨rfl, _, Eq.trans (wD_q _ _ _) (congrArg (World.drewN _) (nA_q _ _ _))⟩))))
    go_ret
    exact ⟨m7_q, bel HB.out⟩
   replace c20 := fM_q.mpr c20
   subst c20
   have H1 : (laws_FnPlatesWrong.l0 kj5 t423 t426 t429 0) = some r := by rw [if_neg (show ¬ (false = true) by decide)] at H; exact H
   clear H
   have H := H1
   clear H1
   have H' := Ae_q H
   clear H
   go_wp2
   repeat (go_quiet (fail); try go_wp2)
   go_loopg [7] kj5 (fun kq v7 w' => ∃ (x7_2 : Int), v7 = .int .i64 x7_2 ∧ Aside0 (laws_FnPlatesWrong.l0 kq t423 t426 t429 x7_2 = some r) ∧ Aside0 (kq ≤ kj5) ∧ Aside0 (Kd.N k39 39 w' w.heap.size (fun k_ => some k_ ≠ ((.slice Ao9 t426.length co9) : Value).ownBlock ∧ some k_ ≠ (v430 : Value).ownBlock) (.slice Ao8 t423.length co8) t423) ∧ Aside0 (Kd.R k49 49 w' w.heap.size (fun _ => True) (.slice Ao9 t426.length co9) t426) ∧ Aside0 (Kd.R kI_q 3 w' w.heap.size (fun _ => True) v430 t429) ∧ Aside0 (Below w.heap.size w w'))
   case atStart => exact ⟨(0), m5_q, H', ⟨nR_q _⟩, ⟨by (with_reducible repeat (first | apply Kd.N_alloc | apply Kd.N_drewN | apply Kd.N_drew)); exact Kd.N_mono HO_3.out (fun _ hk => ⟨hk.1, hk.2.1⟩)⟩, ⟨rup HO_4.out⟩, ⟨by (with_reducible repeat (first | apply rA_q | apply rN_q | apply rD_q)); exact rM_q HO_5.out (fun _ hk => trivial)⟩, ⟨bel HB.out⟩⟩
   case round =>
    clear H'
    try clear c1
    try clear c2
    try clear c2b0
    try clear c2b1
    try clear p2
    try clear c8
    try clear c13
    try clear c20
    try clear p2
    obtain ⟨x7_2, rfl, HA, HK2, HO_3, HO_4, HO_5, HB⟩ := hrel
    cases gk with
    | zero => exact absurd HA.out (by simp [laws_FnPlatesWrong.l0])
    | succ k2 =>
     have H := HA.out
     clear HA
     simp only [laws_FnPlatesWrong.l0] at H
     by_cases c24 : x7_2 < (t426.length : Int)
     rotate_left
     ·rw [if_neg c24] at H
      have c24b0 : decide (x7_2 < (t426.length : Int)) = false := dF_q c24
      clear c24
      obtain rfl := oI_q H
      obtain ⟨Ao35, co35, eo35⟩ := rS_q HO_5.out
      subst eo35
      go_wp2
      repeat (go_quiet (fail); try go_wp2)
      go_ret
      exact ⟨m7_q, bel HB.out⟩
     rw [if_pos c24] at H
     have c24b0 : decide (x7_2 < (t426.length : Int)) = true := dT_q c24
     clear c24
     have H' := Ae_q H
     clear H
     go_wp2
     repeat (go_quiet (fail); try go_wp2)
     go_loopg [8, 9] k2 (fun kq v8 v9 w' => ∃ (x8_3 : Bool) (x9_3 : Int), v8 = .bool x8_3 ∧ v9 = .int .i64 x9_3 ∧ Aside0 (laws_FnPlatesWrong.l1 kq t423 t426 t429 x7_2 x8_3 x9_3 = some r) ∧ Aside0 (kq ≤ k2) ∧ Aside0 (Kd.N k39 39 w' w.heap.size (fun k_ => some k_ ≠ ((.slice Ao9 t426.length co9) : Value).ownBlock ∧ some k_ ≠ (v430 : Value).ownBlock) (.slice Ao8 t423.length co8) t423) ∧ Aside0 (Kd.R k49 49 w' w.heap.size (fun _ => True) (.slice Ao9 t426.length co9) t426) ∧ Aside0 (Kd.R kI_q 3 w' w.heap.size (fun _ => True) v430 t429) ∧ Aside0 (Below w.heap.size w w'))
     case atStart => exact ⟨(false), (0), m5_q, m5_q, H', ⟨nR_q _⟩, ⟨m27_q⟩, ⟨rup HO_4.out⟩, ⟨rup HO_5.out⟩, ⟨bel HB.out⟩⟩
     case round =>
      clear H'
      try clear c1
      try clear c2
      try clear c2b0
      try clear c2b1
      try clear p2
      try clear c8
      try clear c13
      try clear c20
      try clear c24
      try clear c24b0
      try clear p2
      obtain ⟨x8_3, x9_3, rfl, rfl, HA, HK3, HO_3, HO_4, HO_5, HB⟩ := hrel
      cases gk with
      | zero => exact absurd HA.out (by simp [laws_FnPlatesWrong.l1])
      | succ k3 =>
       have H := HA.out
       clear HA
       simp only [laws_FnPlatesWrong.l1] at H
       by_cases c25 : x9_3 < (t423.length : Int)
       rotate_left
       ·rw [if_neg c25] at H
        have c25b0 : decide (x9_3 < (t423.length : Int)) = false := dF_q c25
        clear c25
        replace H := oB_q.mp H
        obtain ⟨t444, A310, H⟩ := H
        replace H : (if (t444 != x8_3) = true then (some false) else (laws_FnPlatesWrong.l0 k3 t423 t426 t429 (wrap64 (x7_2 + 1)))) = some r := H
        have A31 := Ae_q A310
        clear A310
        by_cases c32 : (t444 != x8_3) = true
        ·rw [if_pos c32] at H
         have c32b0 : (t444 != x8_3) = true := c32
         (try (have c32b1 : decide (t444 = x8_3) = false := by simpa using c32))
         (try (have c32b2 : (t444 == x8_3) = false := by simpa using c32))
         (try (have c32b3 : ¬ (t444 = x8_3) := by simpa using c32))
         clear c32
         obtain rfl := oI_q H
         obtain ⟨Ao33, co33, eo33⟩ := rS_q HO_5.out
         subst eo33
         go_wp2_with (first | (go_at_call 24; (with_reducible refine (laws_hasInt.calls k3 _ _ t429 x7_2 t444 _ ?side1 ?side2 A31.out).mono ?_); (case side1 => exact m45_q); (case side2 => exact m47_q); rintro e w' ⟨rfl, ⟨nd, rfl⟩⟩; (try first | exact ⟨rfl, _, wD_q _ _ _⟩ | exact ⟨rfl, _, Eq.trans (wD_q _ _ _) (congrArg (World.drewN _) (nA_q _ _ _))⟩)))
         repeat (go_quiet (first | (go_at_call 24; (with_reducible refine (laws_hasInt.calls k3 _ _ t429 x7_2 t444 _ ?side1 ?side2 A31.out).mono ?_); (case side1 => exact m45_q); (case side2 => exact m47_q); rintro e w' ⟨rfl, ⟨nd, rfl⟩⟩; (try first | exact ⟨rfl, _, wD_q _ _ _⟩ | exact ⟨rfl, _, Eq.trans (wD_q _ _ _) (congrArg (World.drewN _) (nA_q _ _ _))⟩))); try go_wp2_with (first | (go_at_call 24; (with_reducible refine (laws_hasInt.calls k3 _ _ t429 x7_2 t444 _ ?side1 ?side2 A31.out).mono ?_); (case side1 => exact m45_q); (case side2 => exact m47_q); rintro e w' ⟨rfl, ⟨nd, rfl⟩⟩; (try first | exact ⟨rfl, _, wD_q _ _ _⟩ | exact ⟨rfl, _, Eq.trans (wD_q _ _ _) (congrArg (World.drewN _) (nA_q _ _ _))⟩))))
         go_ret
         exact ⟨m7_q, bel HB.out⟩
        rw [if_neg c32] at H
        have c32b0 : (t444 != x8_3) = false := by simpa using c32
        (try (have c32b1 : decide (t444 = x8_3) = true := by simpa using c32))
        (try (have c32b2 : (t444 == x8_3) = true := by simpa using c32))
        clear c32
        have H' := Ae_q H
        clear H
        obtain ⟨Ao34, co34, eo34⟩ := rS_q HO_5.out
        subst eo34
        go_wp2_with (first | (go_at_call 24; (with_reducible refine (laws_hasInt.calls k3 _ _ t429 x7_2 t444 _ ?side1 ?side2 A31.out).mono ?_); (case side1 => exact m45_q); (case side2 => exact m47_q); rintro e w' ⟨rfl, ⟨nd, rfl⟩⟩; (try first | exact ⟨rfl, _, wD_q _ _ _⟩ | exact ⟨rfl, _, Eq.trans (wD_q _ _ _) (congrArg (World.drewN _) (nA_q _ _ _))⟩)))
        repeat (go_quiet (first | (go_at_call 24; (with_reducible refine (laws_hasInt.calls k3 _ _ t429 x7_2 t444 _ ?side1 ?side2 A31.out).mono ?_); (case side1 => exact m45_q); (case side2 => exact m47_q); rintro e w' ⟨rfl, ⟨nd, rfl⟩⟩; (try first | exact ⟨rfl, _, wD_q _ _ _⟩ | exact ⟨rfl, _, Eq.trans (wD_q _ _ _) (congrArg (World.drewN _) (nA_q _ _ _))⟩))); try go_wp2_with (first | (go_at_call 24; (with_reducible refine (laws_hasInt.calls k3 _ _ t429 x7_2 t444 _ ?side1 ?side2 A31.out).mono ?_); (case side1 => exact m45_q); (case side2 => exact m47_q); rintro e w' ⟨rfl, ⟨nd, rfl⟩⟩; (try first | exact ⟨rfl, _, wD_q _ _ _⟩ | exact ⟨rfl, _, Eq.trans (wD_q _ _ _) (congrArg (World.drewN _) (nA_q _ _ _))⟩))))
        go_roundg k3
        case measure => have := HJ5.out; have := HK2.out; have := HK3.out; omega
        case rel => exact ⟨(wrap64 (x7_2 + 1)), m5_q, H', ⟨m48_q⟩, ⟨m27_q⟩, ⟨rup HO_4.out⟩, ⟨rup HO_5.out⟩, ⟨bel HB.out⟩⟩
       rw [if_pos c25] at H
       have c25b0 : decide (x9_3 < (t423.length : Int)) = true := dT_q c25
       clear c25
       by_cases c26 : 0 ≤ x9_3
       rotate_left
       ·rw [if_neg c26] at H
        exact absurd H (by simp)
       rw [if_pos c26] at H
       have c26b0 : decide (0 ≤ x9_3) = true := dT_q c26
       clear c26
       by_cases c27 : 0 ≤ x7_2
       rotate_left
       ·rw [if_neg c27] at H
        exact absurd H (by simp)
       rw [if_pos c27] at H
       have c27b0 : decide (0 ≤ x7_2) = true := dT_q c27
       clear c27
       by_cases c28 : x7_2 < (t426.length : Int)
       rotate_left
       ·rw [if_neg c28] at H
        exact absurd H (by simp)
       rw [if_pos c28] at H
       have c28b0 : decide (x7_2 < (t426.length : Int)) = true := dT_q c28
       clear c28
       by_cases c29 : ((rd_T39 t423 x9_3).f0) = ((rd_T49 t426 x7_2).f1)
       rotate_left
       ·rw [if_neg c29] at H
        have c29b0 : (((rd_T39 t423 x9_3).f0) == ((rd_T49 t426 x7_2).f1)) = false := fN_q.mpr c29
        have c29b1 : (((rd_T39 t423 x9_3).f0) != ((rd_T49 t426 x7_2).f1)) = true := nI_q.mpr c29
        have H' := Ae_q H
        clear H
        have p438 : 0 ≤ (x9_3 : Int) := oD_q (by assumption)
        have q438 : x9_3 < (t423.length : Int) := oD_q (by assumption)
        obtain ⟨ad438, A438_1, c438_1, e438, hx438_0, hx438_1, hx438_2, hx438_3, hl438_1, hi438_1⟩ := at_T39 (Kd.N_reads' HO_3.out).2.2 x9_3 p438 q438
        cases e438
        obtain ⟨ce438, hce438, hMe438, hcc438⟩ := Kd.N_get HO_3.out z39 x9_3 p438 (by first | exact q438 | exact oD_q (by assumption) | (have e_ := (Kd.N_reads' HO_3.out).1; omega))
        obtain ⟨ua438_1, uc438_1, rfl, ul438_1, ge438_1⟩ := k39_openF hMe438
        have hv438_1 := hcc438 1 _ rfl
        rw [add_field _ _ 1 (by omega)] at hv438_1
        replace hv438_1 := oI_q (hv438_1.symm.trans hx438_1)
        injection hv438_1 with hva_ hvn_ hvc_
        rw [hva_] at ge438_1
        rw [hvc_] at ul438_1
        have HL438_1 := Ae_q (show Kd.V kI_q 3 _ w.heap.size _ _ ((rd_T39 t423 x9_3).f1) from Kd.V_mk ul438_1 ge438_1)
        clear hva_ hvn_ hvc_ ge438_1 ul438_1
        clear hcc438 hce438
        have HR438_1 := Ae_q hi438_1
        have HC438_1 := Ae_q hl438_1
        clear hi438_1 hl438_1
        replace p438 := eq_true p438
        replace q438 := eq_true q438
        have p439 : 0 ≤ (x7_2 : Int) := oD_q (by assumption)
        have q439 : x7_2 < (t426.length : Int) := oD_q (by assumption)
        obtain ⟨ad439, e439, hx439_0, hx439_1, hx439_2⟩ := at_T49 (rR_q HO_4.out).2.2 x7_2 p439 q439
        cases e439
        replace p439 := eq_true p439
        replace q439 := eq_true q439
        go_wp2
        repeat (go_quiet (fail); try go_wp2)
        go_roundg k3
        case measure => have := HJ5.out; have := HK2.out; have := HK3.out; omega
        case rel => exact ⟨(x8_3), (wrap64 (x9_3 + 1)), m5_q, m5_q, H', ⟨m48_q⟩, ⟨m27_q⟩, ⟨rup HO_4.out⟩, ⟨rup HO_5.out⟩, ⟨bel HB.out⟩⟩
       rw [if_pos c29] at H
       have c29b0 : (((rd_T39 t423 x9_3).f0) == ((rd_T49 t426 x7_2).f1)) = true := beq_iff_eq.mpr c29
       have c29b1 : (((rd_T39 t423 x9_3).f0) != ((rd_T49 t426 x7_2).f1)) = false := nE_q.mpr c29
       clear c29
       by_cases c30 : ((rd_T49 t426 x7_2).f2) < ((rd_T39 t423 x9_3).f2)
       ·rw [if_pos c30] at H
        have c30b0 : decide (((rd_T49 t426 x7_2).f2) < ((rd_T39 t423 x9_3).f2)) = true := dT_q c30
        clear c30
        have H' := Ae_q H
        clear H
        have p438 : 0 ≤ (x9_3 : Int) := oD_q (by assumption)
        have q438 : x9_3 < (t423.length : Int) := oD_q (by assumption)
        obtain ⟨ad438, A438_1, c438_1, e438, hx438_0, hx438_1, hx438_2, hx438_3, hl438_1, hi438_1⟩ := at_T39 (Kd.N_reads' HO_3.out).2.2 x9_3 p438 q438
        cases e438
        obtain ⟨ce438, hce438, hMe438, hcc438⟩ := Kd.N_get HO_3.out z39 x9_3 p438 (by first | exact q438 | exact oD_q (by assumption) | (have e_ := (Kd.N_reads' HO_3.out).1; omega))
        obtain ⟨ua438_1, uc438_1, rfl, ul438_1, ge438_1⟩ := k39_openF hMe438
        have hv438_1 := hcc438 1 _ rfl
        rw [add_field _ _ 1 (by omega)] at hv438_1
        replace hv438_1 := oI_q (hv438_1.symm.trans hx438_1)
        injection hv438_1 with hva_ hvn_ hvc_
        rw [hva_] at ge438_1
        rw [hvc_] at ul438_1
        have HL438_1 := Ae_q (show Kd.V kI_q 3 _ w.heap.size _ _ ((rd_T39 t423 x9_3).f1) from Kd.V_mk ul438_1 ge438_1)
        clear hva_ hvn_ hvc_ ge438_1 ul438_1
        clear hcc438 hce438
        have HR438_1 := Ae_q hi438_1
        have HC438_1 := Ae_q hl438_1
        clear hi438_1 hl438_1
        replace p438 := eq_true p438
        replace q438 := eq_true q438
        have p439 : 0 ≤ (x7_2 : Int) := oD_q (by assumption)
        have q439 : x7_2 < (t426.length : Int) := oD_q (by assumption)
        obtain ⟨ad439, e439, hx439_0, hx439_1, hx439_2⟩ := at_T49 (rR_q HO_4.out).2.2 x7_2 p439 q439
        cases e439
        replace p439 := eq_true p439
        replace q439 := eq_true q439
        have p440 : 0 ≤ (x7_2 : Int) := oD_q (by assumption)
        have q440 : x7_2 < (t426.length : Int) := oD_q (by assumption)
        obtain ⟨ad440, e440, hx440_0, hx440_1, hx440_2⟩ := at_T49 (rR_q HO_4.out).2.2 x7_2 p440 q440
        obtain rfl : ad439 = ad440 := (by injection e440)
        replace p440 := eq_true p440
        replace q440 := eq_true q440
        have p441 : 0 ≤ (x9_3 : Int) := oD_q (by assumption)
        have q441 : x9_3 < (t423.length : Int) := oD_q (by assumption)
        obtain ⟨ad441, A441_1, c441_1, e441, hx441_0, hx441_1, hx441_2, hx441_3, hl441_1, hi441_1⟩ := at_T39 (Kd.N_reads' HO_3.out).2.2 x9_3 p441 q441
        obtain rfl : ad438 = ad441 := (by injection e441)
        obtain ⟨ce441, hce441, hMe441, hcc441⟩ := Kd.N_get HO_3.out z39 x9_3 p441 (by first | exact q441 | exact oD_q (by assumption) | (have e_ := (Kd.N_reads' HO_3.out).1; omega))
        obtain ⟨ua441_1, uc441_1, rfl, ul441_1, ge441_1⟩ := k39_openF hMe441
        have hv441_1 := hcc441 1 _ rfl
        rw [add_field _ _ 1 (by omega)] at hv441_1
        replace hv441_1 := oI_q (hv441_1.symm.trans hx441_1)
        injection hv441_1 with hva_ hvn_ hvc_
        rw [hva_] at ge441_1
        rw [hvc_] at ul441_1
        have HL441_1 := Ae_q (show Kd.V kI_q 3 _ w.heap.size _ _ ((rd_T39 t423 x9_3).f1) from Kd.V_mk ul441_1 ge441_1)
        clear hva_ hvn_ hvc_ ge441_1 ul441_1
        clear hcc441 hce441
        have HR441_1 := Ae_q hi441_1
        have HC441_1 := Ae_q hl441_1
        clear hi441_1 hl441_1
        replace p441 := eq_true p441
        replace q441 := eq_true q441
        have ea_ := oI_q (hx438_1.symm.trans hx441_1)
        injection ea_ with ea_ en_ ec_
        subst ea_
        subst ec_
        clear en_
        go_wp2
        repeat (go_quiet (fail); try go_wp2)
        go_roundg k3
        case measure => have := HJ5.out; have := HK2.out; have := HK3.out; omega
        case rel => exact ⟨(true), (wrap64 (x9_3 + 1)), m5_q, m5_q, H', ⟨m48_q⟩, ⟨m27_q⟩, ⟨rup HO_4.out⟩, ⟨rup HO_5.out⟩, ⟨bel HB.out⟩⟩
       rw [if_neg c30] at H
       have c30b0 : decide (((rd_T49 t426 x7_2).f2) < ((rd_T39 t423 x9_3).f2)) = false := dF_q c30
       clear c30
       have H' := Ae_q H
       clear H
       have p438 : 0 ≤ (x9_3 : Int) := oD_q (by assumption)
       have q438 : x9_3 < (t423.length : Int) := oD_q (by assumption)
       obtain ⟨ad438, A438_1, c438_1, e438, hx438_0, hx438_1, hx438_2, hx438_3, hl438_1, hi438_1⟩ := at_T39 (Kd.N_reads' HO_3.out).2.2 x9_3 p438 q438
       cases e438
       obtain ⟨ce438, hce438, hMe438, hcc438⟩ := Kd.N_get HO_3.out z39 x9_3 p438 (by first | exact q438 | exact oD_q (by assumption) | (have e_ := (Kd.N_reads' HO_3.out).1; omega))
       obtain ⟨ua438_1, uc438_1, rfl, ul438_1, ge438_1⟩ := k39_openF hMe438
       have hv438_1 := hcc438 1 _ rfl
       rw [add_field _ _ 1 (by omega)] at hv438_1
       replace hv438_1 := oI_q (hv438_1.symm.trans hx438_1)
       injection hv438_1 with hva_ hvn_ hvc_
       rw [hva_] at ge438_1
       rw [hvc_] at ul438_1
       have HL438_1 := Ae_q (show Kd.V kI_q 3 _ w.heap.size _ _ ((rd_T39 t423 x9_3).f1) from Kd.V_mk ul438_1 ge438_1)
       clear hva_ hvn_ hvc_ ge438_1 ul438_1
       clear hcc438 hce438
       have HR438_1 := Ae_q hi438_1
       have HC438_1 := Ae_q hl438_1
       clear hi438_1 hl438_1
       replace p438 := eq_true p438
       replace q438 := eq_true q438
       have p439 : 0 ≤ (x7_2 : Int) := oD_q (by assumption)
       have q439 : x7_2 < (t426.length : Int) := oD_q (by assumption)
       obtain ⟨ad439, e439, hx439_0, hx439_1, hx439_2⟩ := at_T49 (rR_q HO_4.out).2.2 x7_2 p439 q439
       cases e439
       replace p439 := eq_true p439
       replace q439 := eq_true q439
       have p440 : 0 ≤ (x7_2 : Int) := oD_q (by assumption)
       have q440 : x7_2 < (t426.length : Int) := oD_q (by assumption)
       obtain ⟨ad440, e440, hx440_0, hx440_1, hx440_2⟩ := at_T49 (rR_q HO_4.out).2.2 x7_2 p440 q440
       obtain rfl : ad439 = ad440 := (by injection e440)
       replace p440 := eq_true p440
       replace q440 := eq_true q440
       have p441 : 0 ≤ (x9_3 : Int) := oD_q (by assumption)
       have q441 : x9_3 < (t423.length : Int) := oD_q (by assumption)
       obtain ⟨ad441, A441_1, c441_1, e441, hx441_0, hx441_1, hx441_2, hx441_3, hl441_1, hi441_1⟩ := at_T39 (Kd.N_reads' HO_3.out).2.2 x9_3 p441 q441
       obtain rfl : ad438 = ad441 := (by injection e441)
       obtain ⟨ce441, hce441, hMe441, hcc441⟩ := Kd.N_get HO_3.out z39 x9_3 p441 (by first | exact q441 | exact oD_q (by assumption) | (have e_ := (Kd.N_reads' HO_3.out).1; omega))
       obtain ⟨ua441_1, uc441_1, rfl, ul441_1, ge441_1⟩ := k39_openF hMe441
       have hv441_1 := hcc441 1 _ rfl
       rw [add_field _ _ 1 (by omega)] at hv441_1
       replace hv441_1 := oI_q (hv441_1.symm.trans hx441_1)
       injection hv441_1 with hva_ hvn_ hvc_
       rw [hva_] at ge441_1
       rw [hvc_] at ul441_1
       have HL441_1 := Ae_q (show Kd.V kI_q 3 _ w.heap.size _ _ ((rd_T39 t423 x9_3).f1) from Kd.V_mk ul441_1 ge441_1)
       clear hva_ hvn_ hvc_ ge441_1 ul441_1
       clear hcc441 hce441
       have HR441_1 := Ae_q hi441_1
       have HC441_1 := Ae_q hl441_1
       clear hi441_1 hl441_1
       replace p441 := eq_true p441
       replace q441 := eq_true q441
       have ea_ := oI_q (hx438_1.symm.trans hx441_1)
       injection ea_ with ea_ en_ ec_
       subst ea_
       subst ec_
       clear en_
       have p442 : 0 ≤ (x7_2 : Int) := oD_q (by assumption)
       have q442 : x7_2 < (t426.length : Int) := oD_q (by assumption)
       obtain ⟨ad442, e442, hx442_0, hx442_1, hx442_2⟩ := at_T49 (rR_q HO_4.out).2.2 x7_2 p442 q442
       obtain rfl : ad439 = ad442 := (by injection e442)
       replace p442 := eq_true p442
       replace q442 := eq_true q442
       have p443 : 0 ≤ (x9_3 : Int) := oD_q (by assumption)
       have q443 : x9_3 < (t423.length : Int) := oD_q (by assumption)
       obtain ⟨ad443, A443_1, c443_1, e443, hx443_0, hx443_1, hx443_2, hx443_3, hl443_1, hi443_1⟩ := at_T39 (Kd.N_reads' HO_3.out).2.2 x9_3 p443 q443
       obtain rfl : ad438 = ad443 := (by injection e443)
       obtain ⟨ce443, hce443, hMe443, hcc443⟩ := Kd.N_get HO_3.out z39 x9_3 p443 (by first | exact q443 | exact oD_q (by assumption) | (have e_ := (Kd.N_reads' HO_3.out).1; omega))
       obtain ⟨ua443_1, uc443_1, rfl, ul443_1, ge443_1⟩ := k39_openF hMe443
       have hv443_1 := hcc443 1 _ rfl
       rw [add_field _ _ 1 (by omega)] at hv443_1
       replace hv443_1 := oI_q (hv443_1.symm.trans hx443_1)
       injection hv443_1 with hva_ hvn_ hvc_
       rw [hva_] at ge443_1
       rw [hvc_] at ul443_1
       have HL443_1 := Ae_q (show Kd.V kI_q 3 _ w.heap.size _ _ ((rd_T39 t423 x9_3).f1) from Kd.V_mk ul443_1 ge443_1)
       clear hva_ hvn_ hvc_ ge443_1 ul443_1
       clear hcc443 hce443
       have HR443_1 := Ae_q hi443_1
       have HC443_1 := Ae_q hl443_1
       clear hi443_1 hl443_1
       replace p443 := eq_true p443
       replace q443 := eq_true q443
       have ea_ := oI_q (hx438_1.symm.trans hx443_1)
       injection ea_ with ea_ en_ ec_
       subst ea_
       subst ec_
       clear en_
       go_wp2
       repeat (go_quiet (fail); try go_wp2)
       go_roundg k3
       case measure => have := HJ5.out; have := HK2.out; have := HK3.out; omega
       case rel => exact ⟨(decide (((rd_T49 t426 x7_2).f2) > ((rd_T39 t423 x9_3).f3))), (wrap64 (x9_3 + 1)), m5_q, m5_q, H', ⟨m48_q⟩, ⟨m27_q⟩, ⟨rup HO_4.out⟩, ⟨rup HO_5.out⟩, ⟨bel HB.out⟩⟩

def laws_FnPlatesWrong.Pure : Prop := ∀ (l0 : List Int), l0.length ≤ maxLen → l0.length * 1 ≤ 140737488351232 → (∀ x ∈ l0, (Lit.int .u8 x).wf = true) → ∃ k, laws_FnPlatesWrong.f k l0 = some true
theorem laws_FnPlatesWrong.walk (P : laws_FnPlatesWrong.Pure) (a0 : Option Addr) (len0 cap0 : Nat) (z0 : List Int) (w : World) (w0 : (a0 = none ∧ len0 = 0 ∧ cap0 = 0 ∧ z0 = []) ∨ ∃ x, a0 = some x ∧ len0 ≤ cap0 ∧ cap0 ≤ maxLen ∧ z0.length = cap0 ∧ (∀ i, i < z0.length → w.cell? (x.add i) = some (.int .u8 (z0.getD i 0))) ∧ ∀ n ∈ z0, (Lit.int .u8 n).wf = true) (y0 : len0 * 1 ≤ 140737488351232) :
    Calls Try.prog 8 #[.slice a0 len0 cap0] w fun e w' => e = .returned (.bool true) ∧ Below w.heap.size w w' := by
 obtain ⟨l0, rfl, hr0, hm0, hw0, hc0⟩ := ReadsInt.ofRowC w0
 obtain ⟨k, h⟩ := P l0 hm0 y0 hw0
 refine (laws_FnPlatesWrong.calls k _ _ l0 true w (Kd.C_of_reads (d := (0 : Int)) (h1 := fun _ => rfl) hr0) hc0 h).mono ?_
 rintro e w' ⟨rfl, hd⟩
 exact ⟨rfl, hd⟩

end Go.Proofs.Ytnckblolijkdaaa.PBt
