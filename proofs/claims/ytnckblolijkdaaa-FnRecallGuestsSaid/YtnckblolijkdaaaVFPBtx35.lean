import Derived.Test.YtnckblolijkdaaaVFPBtx0
import Derived.Test.YtnckblolijkdaaaVFPBtx11
import Derived.Test.YtnckblolijkdaaaVFPBtx12
import Derived.Test.YtnckblolijkdaaaVFPBtx17
import Derived.Test.YtnckblolijkdaaaVFPBtx25
import Derived.Test.YtnckblolijkdaaaVFPBtx33
import Derived.Test.YtnckblolijkdaaaVFPBtx34
namespace Go.Proofs.Ytnckblolijkdaaa.PBt
open Go.RowKit Go.Proofs.YtnckblolijkdaaaW.PrintWords Go.Proofs.YtnckblolijkdaaaW.PrintLast Go.Proofs.YtnckblolijkdaaaW.PrintMore
attribute [local go_sem] max2_int min2_int max_two min_two max_three min_three max_four min_four
set_option linter.unusedVariables false
set_option linter.unusedSimpArgs false

mutual
def laws_FnRecallGuests.j0 : Nat → List (S39) → List (S49) → Int → List Int → List Int → Bool → Option (Bool)
 | 0, _, _, _, _, _, _ => none
 | k + 1, x3, x4, x5, x6, x7, x39 => if x39 = true then ((laws_sameInts.f k x6 x7).bind fun t692 => (some t692)) else ((impl_RecallBatches.f k x3 x5).bind fun t693 => (laws_FnRecallGuests.l0 k x4 x6 t693 0))
def laws_FnRecallGuests.l0 : Nat → List (S49) → List Int → List Int → Int → Option (Bool)
 | 0, _, _, _, _ => none
 | k + 1, x4, x6, x8, x9 => if x9 < (x4.length : Int) then (if 0 ≤ x9 then ((laws_hasInt.f k x8 ((rd_T49 x4 x9).f1)).bind fun t697 => (if t697 = true then ((laws_hasInt.f k x6 ((rd_T49 x4 x9).f0)).bind fun t699 => (if t699 = true then (laws_FnRecallGuests.l0 k x4 x6 x8 (wrap64 (x9 + 1))) else (some false))) else (laws_FnRecallGuests.l0 k x4 x6 x8 (wrap64 (x9 + 1))))) else (none)) else (laws_FnRecallGuests.l1 k x4 x6 x8 0)
def laws_FnRecallGuests.l1 : Nat → List (S49) → List Int → List Int → Int → Option (Bool)
 | 0, _, _, _, _ => none
 | k + 1, x4, x6, x8, x10 => if x10 < (x6.length : Int) then (laws_FnRecallGuests.l2 k x4 x6 x8 x10 false 0) else (some true)
def laws_FnRecallGuests.l2 : Nat → List (S49) → List Int → List Int → Int → Bool → Int → Option (Bool)
 | 0, _, _, _, _, _, _ => none
 | k + 1, x4, x6, x8, x10, x11, x12 => if x12 < (x4.length : Int) then (if x11 = true then (laws_FnRecallGuests.l2 k x4 x6 x8 x10 true (wrap64 (x12 + 1))) else (if 0 ≤ x12 then (if 0 ≤ x10 then (if x10 < (x6.length : Int) then (if ((rd_T49 x4 x12).f0) = (rd x6 x10) then ((laws_hasInt.f k x8 ((rd_T49 x4 x12).f1)).bind fun t703 => (laws_FnRecallGuests.l2 k x4 x6 x8 x10 t703 (wrap64 (x12 + 1)))) else (laws_FnRecallGuests.l2 k x4 x6 x8 x10 false (wrap64 (x12 + 1)))) else (none)) else (none)) else (none))) else (if x11 = true then (if x10 > 0 then (if 0 ≤ (wrap64 (x10 - 1)) then (if (wrap64 (x10 - 1)) < (x6.length : Int) then (if 0 ≤ x10 then (if x10 < (x6.length : Int) then (if (rd x6 (wrap64 (x10 - 1))) ≥ (rd x6 x10) then (some false) else (laws_FnRecallGuests.l1 k x4 x6 x8 (wrap64 (x10 + 1)))) else (none)) else (none)) else (none)) else (none)) else (laws_FnRecallGuests.l1 k x4 x6 x8 (wrap64 (x10 + 1)))) else (some false))
end
def laws_FnRecallGuests.f (k : Nat) (l0 : List Int) : Option (Bool) := if (l0.length : Int) > 1048576 then (some true) else ((spec_DrawRecallGuests.f k l0).bind fun bt677 => ((impl_RecallGuests.f k bt677.1 bt677.2.1 bt677.2.2).bind fun t684 => ((spec_RecallGuests.f k bt677.1 bt677.2.1 bt677.2.2).bind fun t687 => ((laws_sameInts.f k t684 t687).bind fun t690 => (if t690 = true then ((spec_PlatesValid.f k bt677.1 bt677.2.1).bind fun t691 => (laws_FnRecallGuests.j0 k bt677.1 bt677.2.1 bt677.2.2 t684 t687 (!t691))) else (laws_FnRecallGuests.j0 k bt677.1 bt677.2.1 bt677.2.2 t684 t687 true))))))
set_option maxHeartbeats 8000000 in
set_option maxRecDepth 100000 in
theorem laws_FnRecallGuests.calls (k : Nat) (A0 : Option Addr) (c0 : Nat) (l0 : List Int) (r : Bool) (w : World) (hr0 : Kd.C (Kd.int .u8) w A0 l0.length l0) (hc0 : l0.length ≤ c0) (h : laws_FnRecallGuests.f k l0 = some r) :
    Calls Try.prog 11 #[.slice A0 l0.length c0] w fun e w' => e = .returned (.bool r) ∧ Below w.heap.size w w' := by
 have HR0 := Ae_q hr0
 have HC0 := Ae_q hc0
 clear hr0 hc0
 have HB := Ae_q (bR_q w.heap.size w)
 have H : (if (l0.length : Int) > 1048576 then (some true) else ((spec_DrawRecallGuests.f k l0).bind fun bt677 => ((impl_RecallGuests.f k bt677.1 bt677.2.1 bt677.2.2).bind fun t684 => ((spec_RecallGuests.f k bt677.1 bt677.2.1 bt677.2.2).bind fun t687 => ((laws_sameInts.f k t684 t687).bind fun t690 => (if t690 = true then ((spec_PlatesValid.f k bt677.1 bt677.2.1).bind fun t691 => (laws_FnRecallGuests.j0 k bt677.1 bt677.2.1 bt677.2.2 t684 t687 (!t691))) else (laws_FnRecallGuests.j0 k bt677.1 bt677.2.1 bt677.2.2 t684 t687 true))))))) = some r := h
 clear h
 by_cases c2 : (l0.length : Int) > 1048576
 ·rw [if_pos c2] at H
  have c2b0 : decide (1048576 < (l0.length : Int)) = true := dT_q c2
  have c2b1 : decide (1048576 < l0.length) = true := dT_q (by omega)
  clear c2
  obtain rfl := oI_q H
  go_enter Try.func11, Try.ntmps11
  go_wp2
  repeat (go_quiet (fail); try go_wp2)
  go_ret
  exact ⟨m6_q, bel HB.out⟩
 rw [if_neg c2] at H
 have c2b0 : decide (1048576 < (l0.length : Int)) = false := dF_q c2
 have c2b1 : decide (1048576 < l0.length) = false := dF_q (by omega)
 clear c2
 replace H := oB_q.mp H
 obtain ⟨⟨t677, t680, t683⟩, A30, H⟩ := H
 replace H : ((impl_RecallGuests.f k t677 t680 t683).bind fun t684 => ((spec_RecallGuests.f k t677 t680 t683).bind fun t687 => ((laws_sameInts.f k t684 t687).bind fun t690 => (if t690 = true then ((spec_PlatesValid.f k t677 t680).bind fun t691 => (laws_FnRecallGuests.j0 k t677 t680 t683 t684 t687 (!t691))) else (laws_FnRecallGuests.j0 k t677 t680 t683 t684 t687 true))))) = some r := H
 have A3 := Ae_q A30
 clear A30
 replace H := oB_q.mp H
 obtain ⟨t684, A40, H⟩ := H
 replace H : ((spec_RecallGuests.f k t677 t680 t683).bind fun t687 => ((laws_sameInts.f k t684 t687).bind fun t690 => (if t690 = true then ((spec_PlatesValid.f k t677 t680).bind fun t691 => (laws_FnRecallGuests.j0 k t677 t680 t683 t684 t687 (!t691))) else (laws_FnRecallGuests.j0 k t677 t680 t683 t684 t687 true)))) = some r := H
 have A4 := Ae_q A40
 clear A40
 replace H := oB_q.mp H
 obtain ⟨t687, A50, H⟩ := H
 replace H : ((laws_sameInts.f k t684 t687).bind fun t690 => (if t690 = true then ((spec_PlatesValid.f k t677 t680).bind fun t691 => (laws_FnRecallGuests.j0 k t677 t680 t683 t684 t687 (!t691))) else (laws_FnRecallGuests.j0 k t677 t680 t683 t684 t687 true))) = some r := H
 have A5 := Ae_q A50
 clear A50
 have HC6 := Ae_q H
 clear H
 go_enter Try.func11, Try.ntmps11
 go_upto_region 6 with (first | (go_at_call 39; (with_reducible refine (spec_DrawRecallGuests.calls k _ _ l0 t677 t680 t683 _ ?side1 ?side2 A3.out).mono ?_); (case side1 => exact m27_q); (case side2 => exact m44_q); rintro e w' ⟨v678, v681, rfl, ho0, ho1, hb⟩; have HO679 := Ae_q (Kd.N_lower (Kd.N_mono (ok' := fun k_ => some k_ ≠ (v681 : Value).ownBlock) ho0 (fun k_ hk_ => hk_.2)) (bZ_q (bel HB.out))); have HO682 := Ae_q (rL_q (rM_q (ok' := fun k_ => True) ho1 (fun _ hk_ => trivial)) (bZ_q (bel HB.out))); replace HB := Ae_q (bT_q (bel HB.out) hb); (try clear hb); (try clear hb2); (try clear hk); (try clear hi); (try clear ho0); (try clear ho1); obtain ⟨Ao8, co8, eo8⟩ := Kd.N_slice HO679.out; subst eo8; obtain ⟨Ao9, co9, eo9⟩ := rS_q HO682.out; subst eo9) | ((first | (go_at_call 40; (with_reducible refine (impl_RecallGuests.calls k _ _ t677 _ _ t680 t683 t684 _ ?side1 ?side2 ?side3 ?side4 A4.out).mono ?_); (case side1 => exact m12_q); (case side2 => exact m39_q); (case side3 => exact m42_q); (case side4 => exact m45_q); rintro e w' ⟨v685, rfl, ho0, hb⟩; replace HO679 := Ae_q (Kd.N_elder' m17_q (rB_q ho0) hb); replace HO682 := Ae_q (rO_q (rup HO682.out) hb); have HO686 := Ae_q (rL_q ho0 (bZ_q (bel HB.out))); replace HB := Ae_q (bT_q (bel HB.out) hb)) | (go_at_call 41; (with_reducible refine (spec_RecallGuests.calls k _ _ t677 _ _ t680 t683 t687 _ ?side1 ?side2 ?side3 ?side4 A5.out).mono ?_); (case side1 => exact m12_q); (case side2 => exact m39_q); (case side3 => exact m42_q); (case side4 => exact m45_q); rintro e w' ⟨v688, rfl, ho0, hb⟩; replace HO679 := Ae_q (Kd.N_elder' m17_q (rB_q ho0) hb); replace HO682 := Ae_q (rO_q (rup HO682.out) hb); have HO689 := Ae_q (rL_q (rW_q ho0 (rT_q (rup HO686.out))) (bZ_q (bel HB.out))); replace HO686 := Ae_q (rE_q (rup HO686.out) (rB_q ho0) hb); replace HB := Ae_q (bT_q (bel HB.out) hb))); (try clear hb); (try clear hb2); (try clear hk); (try clear hi); (try clear ho0)))
 repeat (go_quiet (first | (go_at_call 39; (with_reducible refine (spec_DrawRecallGuests.calls k _ _ l0 t677 t680 t683 _ ?side1 ?side2 A3.out).mono ?_); (case side1 => exact m27_q); (case side2 => exact m44_q); rintro e w' ⟨v678, v681, rfl, ho0, ho1, hb⟩; have HO679 := Ae_q (Kd.N_lower (Kd.N_mono (ok' := fun k_ => some k_ ≠ (v681 : Value).ownBlock) ho0 (fun k_ hk_ => hk_.2)) (bZ_q (bel HB.out))); have HO682 := Ae_q (rL_q (rM_q (ok' := fun k_ => True) ho1 (fun _ hk_ => trivial)) (bZ_q (bel HB.out))); replace HB := Ae_q (bT_q (bel HB.out) hb); (try clear hb); (try clear hb2); (try clear hk); (try clear hi); (try clear ho0); (try clear ho1); obtain ⟨Ao8, co8, eo8⟩ := Kd.N_slice HO679.out; subst eo8; obtain ⟨Ao9, co9, eo9⟩ := rS_q HO682.out; subst eo9) | ((first | (go_at_call 40; (with_reducible refine (impl_RecallGuests.calls k _ _ t677 _ _ t680 t683 t684 _ ?side1 ?side2 ?side3 ?side4 A4.out).mono ?_); (case side1 => exact m12_q); (case side2 => exact m39_q); (case side3 => exact m42_q); (case side4 => exact m45_q); rintro e w' ⟨v685, rfl, ho0, hb⟩; replace HO679 := Ae_q (Kd.N_elder' m17_q (rB_q ho0) hb); replace HO682 := Ae_q (rO_q (rup HO682.out) hb); have HO686 := Ae_q (rL_q ho0 (bZ_q (bel HB.out))); replace HB := Ae_q (bT_q (bel HB.out) hb)) | (go_at_call 41; (with_reducible refine (spec_RecallGuests.calls k _ _ t677 _ _ t680 t683 t687 _ ?side1 ?side2 ?side3 ?side4 A5.out).mono ?_); (case side1 => exact m12_q); (case side2 => exact m39_q); (case side3 => exact m42_q); (case side4 => exact m45_q); rintro e w' ⟨v688, rfl, ho0, hb⟩; replace HO679 := Ae_q (Kd.N_elder' m17_q (rB_q ho0) hb); replace HO682 := Ae_q (rO_q (rup HO682.out) hb); have HO689 := Ae_q (rL_q (rW_q ho0 (rT_q (rup HO686.out))) (bZ_q (bel HB.out))); replace HO686 := Ae_q (rE_q (rup HO686.out) (rB_q ho0) hb); replace HB := Ae_q (bT_q (bel HB.out) hb))); (try clear hb); (try clear hb2); (try clear hk); (try clear hi); (try clear ho0))); go_upto_region 6 with (first | (go_at_call 39; (with_reducible refine (spec_DrawRecallGuests.calls k _ _ l0 t677 t680 t683 _ ?side1 ?side2 A3.out).mono ?_); (case side1 => exact m27_q); (case side2 => exact m44_q); rintro e w' ⟨v678, v681, rfl, ho0, ho1, hb⟩; have HO679 := Ae_q (Kd.N_lower (Kd.N_mono (ok' := fun k_ => some k_ ≠ (v681 : Value).ownBlock) ho0 (fun k_ hk_ => hk_.2)) (bZ_q (bel HB.out))); have HO682 := Ae_q (rL_q (rM_q (ok' := fun k_ => True) ho1 (fun _ hk_ => trivial)) (bZ_q (bel HB.out))); replace HB := Ae_q (bT_q (bel HB.out) hb); (try clear hb); (try clear hb2); (try clear hk); (try clear hi); (try clear ho0); (try clear ho1); obtain ⟨Ao8, co8, eo8⟩ := Kd.N_slice HO679.out; subst eo8; obtain ⟨Ao9, co9, eo9⟩ := rS_q HO682.out; subst eo9) | ((first | (go_at_call 40; (with_reducible refine (impl_RecallGuests.calls k _ _ t677 _ _ t680 t683 t684 _ ?side1 ?side2 ?side3 ?side4 A4.out).mono ?_); (case side1 => exact m12_q); (case side2 => exact m39_q); (case side3 => exact m42_q); (case side4 => exact m45_q); rintro e w' ⟨v685, rfl, ho0, hb⟩; replace HO679 := Ae_q (Kd.N_elder' m17_q (rB_q ho0) hb); replace HO682 := Ae_q (rO_q (rup HO682.out) hb); have HO686 := Ae_q (rL_q ho0 (bZ_q (bel HB.out))); replace HB := Ae_q (bT_q (bel HB.out) hb)) | (go_at_call 41; (with_reducible refine (spec_RecallGuests.calls k _ _ t677 _ _ t680 t683 t687 _ ?side1 ?side2 ?side3 ?side4 A5.out).mono ?_); (case side1 => exact m12_q); (case side2 => exact m39_q); (case side3 => exact m42_q); (case side4 => exact m45_q); rintro e w' ⟨v688, rfl, ho0, hb⟩; replace HO679 := Ae_q (Kd.N_elder' m17_q (rB_q ho0) hb); replace HO682 := Ae_q (rO_q (rup HO682.out) hb); have HO689 := Ae_q (rL_q (rW_q ho0 (rT_q (rup HO686.out))) (bZ_q (bel HB.out))); replace HO686 := Ae_q (rE_q (rup HO686.out) (rB_q ho0) hb); replace HB := Ae_q (bT_q (bel HB.out) hb))); (try clear hb); (try clear hb2); (try clear hk); (try clear hi); (try clear ho0))))
 (try simp only [Act.put, sA_q, sZ_q, sS_q])
 go_cut [39] (fun v39 wc => ∃ (kq : Nat) (x39_5 : Bool), v39 = .bool x39_5 ∧ Aside0 (laws_FnRecallGuests.j0 kq t677 t680 t683 t684 t687 x39_5 = some r) ∧ Aside0 (kq ≤ k) ∧ Aside0 (Kd.N k39 39 wc w.heap.size (fun k_ => some k_ ≠ ((.slice Ao9 t680.length co9) : Value).ownBlock ∧ some k_ ≠ (v685 : Value).ownBlock ∧ some k_ ≠ (v688 : Value).ownBlock) (.slice Ao8 t677.length co8) t677) ∧ Aside0 (Kd.R k49 49 wc w.heap.size (fun _ => True) (.slice Ao9 t680.length co9) t680) ∧ Aside0 (Kd.R kI_q 3 wc w.heap.size (fun k_ => some k_ ≠ (v688 : Value).ownBlock) v685 t684) ∧ Aside0 (Kd.R kI_q 3 wc w.heap.size (fun k_ => some k_ ≠ (v685 : Value).ownBlock) v688 t687) ∧ Aside0 (Below w.heap.size w wc))
 case first =>
  have H := HC6.out
  clear HC6
  replace H := oB_q.mp H
  obtain ⟨t690, A120, H⟩ := H
  replace H : (if t690 = true then ((spec_PlatesValid.f k t677 t680).bind fun t691 => (laws_FnRecallGuests.j0 k t677 t680 t683 t684 t687 (!t691))) else (laws_FnRecallGuests.j0 k t677 t680 t683 t684 t687 true)) = some r := H
  have A12 := Ae_q A120
  clear A120
  by_cases c13 : t690 = true
  rotate_left
  ·replace c13 := fM_q.mpr c13
   subst c13
   have H1 : (laws_FnRecallGuests.j0 k t677 t680 t683 t684 t687 true) = some r := by rw [if_neg (show ¬ (false = true) by decide)] at H; exact H
   clear H
   have H := H1
   clear H1
   have H' := Ae_q H
   clear H
   obtain ⟨Ao18, co18, eo18⟩ := rS_q HO686.out
   subst eo18
   obtain ⟨Ao19, co19, eo19⟩ := rS_q HO689.out
   subst eo19
   go_wp2_with (first | (go_at_call 23; (with_reducible refine (laws_sameInts.calls k _ _ t684 _ _ t687 false _ ?side1 ?side2 ?side3 ?side4 A12.out).mono ?_); (case side1 => exact m52_q); (case side2 => exact m56_q); (case side3 => exact m53_q); (case side4 => exact m57_q); rintro e w' ⟨rfl, ⟨nd, rfl⟩⟩; (try first | exact ⟨rfl, _, wD_q _ _ _⟩ | exact ⟨rfl, _, Eq.trans (wD_q _ _ _) (congrArg (World.drewN _) (nA_q _ _ _))⟩)))
   repeat (go_quiet (first | (go_at_call 23; (with_reducible refine (laws_sameInts.calls k _ _ t684 _ _ t687 false _ ?side1 ?side2 ?side3 ?side4 A12.out).mono ?_); (case side1 => exact m52_q); (case side2 => exact m56_q); (case side3 => exact m53_q); (case side4 => exact m57_q); rintro e w' ⟨rfl, ⟨nd, rfl⟩⟩; (try first | exact ⟨rfl, _, wD_q _ _ _⟩ | exact ⟨rfl, _, Eq.trans (wD_q _ _ _) (congrArg (World.drewN _) (nA_q _ _ _))⟩))); try go_wp2_with (first | (go_at_call 23; (with_reducible refine (laws_sameInts.calls k _ _ t684 _ _ t687 false _ ?side1 ?side2 ?side3 ?side4 A12.out).mono ?_); (case side1 => exact m52_q); (case side2 => exact m56_q); (case side3 => exact m53_q); (case side4 => exact m57_q); rintro e w' ⟨rfl, ⟨nd, rfl⟩⟩; (try first | exact ⟨rfl, _, wD_q _ _ _⟩ | exact ⟨rfl, _, Eq.trans (wD_q _ _ _) (congrArg (World.drewN _) (nA_q _ _ _))⟩))))
   go_meet
   case rel => exact ⟨_, (true), m5_q, H', ⟨m54_q⟩, ⟨m38_q⟩, ⟨rup HO682.out⟩, ⟨m48_q⟩, ⟨m49_q⟩, ⟨bel HB.out⟩⟩
  subst c13
  have H1 : ((spec_PlatesValid.f k t677 t680).bind fun t691 => (laws_FnRecallGuests.j0 k t677 t680 t683 t684 t687 (!t691))) = some r := by rw [if_pos rfl] at H; exact H
  clear H
  have H := H1
  clear H1
  replace H := oB_q.mp H
  obtain ⟨t691, A140, H⟩ := H
  replace H : (laws_FnRecallGuests.j0 k t677 t680 t683 t684 t687 (!t691)) = some r := H
  have A14 := Ae_q A140
  clear A140
  have H' := Ae_q H
  clear H
  obtain ⟨Ao15, co15, eo15⟩ := rS_q HO686.out
  subst eo15
  obtain ⟨Ao16, co16, eo16⟩ := rS_q HO689.out
  subst eo16
  go_wp2_with (first | (go_at_call 23; (with_reducible refine (laws_sameInts.calls k _ _ t684 _ _ t687 true _ ?side1 ?side2 ?side3 ?side4 A12.out).mono ?_); (case side1 => exact m52_q); (case side2 => exact m56_q); (case side3 => exact m53_q); (case side4 => exact m57_q); rintro e w' ⟨rfl, ⟨nd, rfl⟩⟩; (try first | exact ⟨rfl, _, wD_q _ _ _⟩ | exact ⟨rfl, _, Eq.trans (wD_q _ _ _) (congrArg (World.drewN _) (nA_q _ _ _))⟩)) | (go_at_call 31; (with_reducible refine (spec_PlatesValid.calls k _ _ t677 _ _ t680 t691 _ ?side1 ?side2 ?side3 ?side4 A14.out).mono ?_); (case side1 => exact m12_q); (case side2 => exact m39_q); (case side3 => exact m42_q); (case side4 => exact m45_q); rintro e w' ⟨rfl, hb⟩; replace HO679 := Ae_q (Kd.N_below m17_q hb); replace HO682 := Ae_q (rO_q (rup HO682.out) hb); replace HO686 := Ae_q (rO_q (rup HO686.out) hb); replace HO689 := Ae_q (rO_q (rup HO689.out) hb); replace HB := Ae_q (bT_q (bel HB.out) hb); (try clear hb); (try clear hb2); (try clear hk); (try clear hi)))
  repeat (go_quiet (first | (go_at_call 23; (with_reducible refine (laws_sameInts.calls k _ _ t684 _ _ t687 true _ ?side1 ?side2 ?side3 ?side4 A12.out).mono ?_); (case side1 => exact m52_q); (case side2 => exact m56_q); (case side3 => exact m53_q); (case side4 => exact m57_q); rintro e w' ⟨rfl, ⟨nd, rfl⟩⟩; (try first | exact ⟨rfl, _, wD_q _ _ _⟩ | exact ⟨rfl, _, Eq.trans (wD_q _ _ _) (congrArg (World.drewN _) (nA_q _ _ _))⟩)) | (go_at_call 31; (with_reducible refine (spec_PlatesValid.calls k _ _ t677 _ _ t680 t691 _ ?side1 ?side2 ?side3 ?side4 A14.out).mono ?_); (case side1 => exact m12_q); (case side2 => exact m39_q); (case side3 => exact m42_q); (case side4 => exact m45_q); rintro e w' ⟨rfl, hb⟩; replace HO679 := Ae_q (Kd.N_below m17_q hb); replace HO682 := Ae_q (rO_q (rup HO682.out) hb); replace HO686 := Ae_q (rO_q (rup HO686.out) hb); replace HO689 := Ae_q (rO_q (rup HO689.out) hb); replace HB := Ae_q (bT_q (bel HB.out) hb); (try clear hb); (try clear hb2); (try clear hk); (try clear hi))); try go_wp2_with (first | (go_at_call 23; (with_reducible refine (laws_sameInts.calls k _ _ t684 _ _ t687 true _ ?side1 ?side2 ?side3 ?side4 A12.out).mono ?_); (case side1 => exact m52_q); (case side2 => exact m56_q); (case side3 => exact m53_q); (case side4 => exact m57_q); rintro e w' ⟨rfl, ⟨nd, rfl⟩⟩; (try first | exact ⟨rfl, _, wD_q _ _ _⟩ | exact ⟨rfl, _, Eq.trans (wD_q _ _ _) (congrArg (World.drewN _) (nA_q _ _ _))⟩)) | (go_at_call 31; (with_reducible refine (spec_PlatesValid.calls k _ _ t677 _ _ t680 t691 _ ?side1 ?side2 ?side3 ?side4 A14.out).mono ?_); (case side1 => exact m12_q); (case side2 => exact m39_q); (case side3 => exact m42_q); (case side4 => exact m45_q); rintro e w' ⟨rfl, hb⟩; replace HO679 := Ae_q (Kd.N_below m17_q hb); replace HO682 := Ae_q (rO_q (rup HO682.out) hb); replace HO686 := Ae_q (rO_q (rup HO686.out) hb); replace HO689 := Ae_q (rO_q (rup HO689.out) hb); replace HB := Ae_q (bT_q (bel HB.out) hb); (try clear hb); (try clear hb2); (try clear hk); (try clear hi))))
  go_meet
  case rel => exact ⟨_, (!t691), m5_q, H', ⟨m54_q⟩, ⟨m38_q⟩, ⟨rup HO682.out⟩, ⟨m48_q⟩, ⟨m49_q⟩, ⟨bel HB.out⟩⟩
 case rest =>
  clear HC6
  try clear c1
  try clear c2
  try clear c2b0
  try clear c2b1
  try clear p2
  try clear c11
  try clear c13
  obtain ⟨kq, x39_5, rfl, HA, HJ5, HO_3, HO_4, HO_6, HO_7, HB⟩ := hcut
  cases kq with
  | zero => exact absurd HA.out (by simp [laws_FnRecallGuests.j0])
  | succ kj5 =>
   have H := HA.out
   clear HA
   simp only [laws_FnRecallGuests.j0] at H
   by_cases c20 : x39_5 = true
   ·subst c20
    have H1 : ((laws_sameInts.f kj5 t684 t687).bind fun t692 => (some t692)) = some r := by rw [if_pos rfl] at H; exact H
    clear H
    have H := H1
    clear H1
    replace H := oB_q.mp H
    obtain ⟨t692, A210, H⟩ := H
    replace H : (some t692) = some r := H
    have A21 := Ae_q A210
    clear A210
    obtain rfl := oI_q H
    obtain ⟨Ao22, co22, eo22⟩ := rS_q HO_6.out
    subst eo22
    obtain ⟨Ao23, co23, eo23⟩ := rS_q HO_7.out
    subst eo23
    go_wp2_with (first | (go_at_call 23; (with_reducible refine (laws_sameInts.calls kj5 _ _ t684 _ _ t687 t692 _ ?side1 ?side2 ?side3 ?side4 A21.out).mono ?_); (case side1 => exact m43_q); (case side2 => exact m47_q); (case side3 => exact cup (rR_q HO_7.out).2.2); (case side4 => exact (rR_q HO_7.out).2.1); rintro e w' ⟨rfl, ⟨nd, rfl⟩⟩; (try first | exact ⟨rfl, _, wD_q _ _ _⟩ | exact ⟨rfl, _, Eq.trans (wD_q _ _ _) (congrArg (World.drewN _) (nA_q _ _ _))⟩)))
    repeat (go_quiet (first | (go_at_call 23; (with_reducible refine (laws_sameInts.calls kj5 _ _ t684 _ _ t687 t692 _ ?side1 ?side2 ?side3 ?side4 A21.out).mono ?_); (case side1 => exact m43_q); (case side2 => exact m47_q); (case side3 => exact cup (rR_q HO_7.out).2.2); (case side4 => exact (rR_q HO_7.out).2.1); rintro e w' ⟨rfl, ⟨nd, rfl⟩⟩; (try first | exact ⟨rfl, _, wD_q _ _ _⟩ | exact ⟨rfl, _, Eq.trans (wD_q _ _ _) (congrArg (World.drewN _) (nA_q _ _ _))⟩))); try go_wp2_with (first | (go_at_call 23; (with_reducible refine (laws_sameInts.calls kj5 _ _ t684 _ _ t687 t692 _ ?side1 ?side2 ?side3 ?side4 A21.out).mono ?_); (case side1 => exact m43_q); (case side2 => exact m47_q); (case side3 => exact cup (rR_q HO_7.out).2.2); (case side4 => exact (rR_q HO_7.out).2.1); rintro e w' ⟨rfl, ⟨nd, rfl⟩⟩; (try first | exact ⟨rfl, _, wD_q _ _ _⟩ | exact ⟨rfl, _, Eq.trans (wD_q _ _ _) (congrArg (World.drewN _) (nA_q _ _ _))⟩))))
    go_ret
    exact ⟨m6_q, bel HB.out⟩
   replace c20 := fM_q.mpr c20
   subst c20
   have H1 : ((impl_RecallBatches.f kj5 t677 t683).bind fun t693 => (laws_FnRecallGuests.l0 kj5 t680 t684 t693 0)) = some r := by rw [if_neg (show ¬ (false = true) by decide)] at H; exact H
   clear H
   have H := H1
   clear H1
   replace H := oB_q.mp H
   obtain ⟨t693, A240, H⟩ := H
   replace H : (laws_FnRecallGuests.l0 kj5 t680 t684 t693 0) = some r := H
   have A24 := Ae_q A240
   clear A240
   have H' := Ae_q H
   clear H
   go_wp2_with (first | (go_at_call 21; (with_reducible refine (impl_RecallBatches.calls kj5 _ _ t677 t683 t693 _ ?side1 ?side2 A24.out).mono ?_); (case side1 => exact m28_q); (case side2 => exact (Kd.N_reads' HO_3.out).2.1); rintro e w' ⟨v694, rfl, ho0, hb⟩; replace HO_3 := Ae_q (Kd.N_elder' m25_q (rB_q ho0) hb); replace HO_4 := Ae_q (rO_q (rup HO_4.out) hb); have HO695 := Ae_q (rL_q (rW_q (rW_q ho0 (rT_q (rup HO_6.out))) (rT_q (rup HO_7.out))) (bZ_q (bel HB.out))); replace HO_6 := Ae_q (rE_q (rup HO_6.out) (rB_q ho0) hb); replace HO_7 := Ae_q (rE_q (rup HO_7.out) (rB_q ho0) hb); replace HB := Ae_q (bT_q (bel HB.out) hb); (try clear hb); (try clear hb2); (try clear hk); (try clear hi); (try clear ho0)))
   repeat (go_quiet (first | (go_at_call 21; (with_reducible refine (impl_RecallBatches.calls kj5 _ _ t677 t683 t693 _ ?side1 ?side2 A24.out).mono ?_); (case side1 => exact m28_q); (case side2 => exact (Kd.N_reads' HO_3.out).2.1); rintro e w' ⟨v694, rfl, ho0, hb⟩; replace HO_3 := Ae_q (Kd.N_elder' m25_q (rB_q ho0) hb); replace HO_4 := Ae_q (rO_q (rup HO_4.out) hb); have HO695 := Ae_q (rL_q (rW_q (rW_q ho0 (rT_q (rup HO_6.out))) (rT_q (rup HO_7.out))) (bZ_q (bel HB.out))); replace HO_6 := Ae_q (rE_q (rup HO_6.out) (rB_q ho0) hb); replace HO_7 := Ae_q (rE_q (rup HO_7.out) (rB_q ho0) hb); replace HB := Ae_q (bT_q (bel HB.out) hb); (try clear hb); (try clear hb2); (try clear hk); (try clear hi); (try clear ho0))); try go_wp2_with (first | (go_at_call 21; (with_reducible refine (impl_RecallBatches.calls kj5 _ _ t677 t683 t693 _ ?side1 ?side2 A24.out).mono ?_); (case side1 => exact m28_q); (case side2 => exact (Kd.N_reads' HO_3.out).2.1); rintro e w' ⟨v694, rfl, ho0, hb⟩; replace HO_3 := Ae_q (Kd.N_elder' m25_q (rB_q ho0) hb); replace HO_4 := Ae_q (rO_q (rup HO_4.out) hb); have HO695 := Ae_q (rL_q (rW_q (rW_q ho0 (rT_q (rup HO_6.out))) (rT_q (rup HO_7.out))) (bZ_q (bel HB.out))); replace HO_6 := Ae_q (rE_q (rup HO_6.out) (rB_q ho0) hb); replace HO_7 := Ae_q (rE_q (rup HO_7.out) (rB_q ho0) hb); replace HB := Ae_q (bT_q (bel HB.out) hb); (try clear hb); (try clear hb2); (try clear hk); (try clear hi); (try clear ho0))))
   go_loopg [9] kj5 (fun kq v9 w' => ∃ (x9_2 : Int), v9 = .int .i64 x9_2 ∧ Aside0 (laws_FnRecallGuests.l0 kq t680 t684 t693 x9_2 = some r) ∧ Aside0 (kq ≤ kj5) ∧ Aside0 (Kd.R k49 49 w' w.heap.size (fun _ => True) (.slice Ao9 t680.length co9) t680) ∧ Aside0 (Kd.R kI_q 3 w' w.heap.size (fun k_ => some k_ ≠ (v694 : Value).ownBlock) v685 t684) ∧ Aside0 (Kd.R kI_q 3 w' w.heap.size (fun k_ => some k_ ≠ (v685 : Value).ownBlock) v694 t693) ∧ Aside0 (Below w.heap.size w w'))
   case atStart => exact ⟨(0), m5_q, H', ⟨nR_q _⟩, ⟨rup HO_4.out⟩, ⟨by (with_reducible repeat (first | apply rA_q | apply rN_q | apply rD_q)); exact rM_q HO_6.out (fun _ hk => hk.2)⟩, ⟨by (with_reducible repeat (first | apply rA_q | apply rN_q | apply rD_q)); exact rM_q HO695.out (fun _ hk => hk.1.2)⟩, ⟨bel HB.out⟩⟩
   case round =>
    clear H'
    try clear c1
    try clear c2
    try clear c2b0
    try clear c2b1
    try clear p2
    try clear c11
    try clear c13
    try clear c20
    try clear p2
    obtain ⟨x9_2, rfl, HA, HK2, HO_4, HO_6, HO_8, HB⟩ := hrel
    cases gk with
    | zero => exact absurd HA.out (by simp [laws_FnRecallGuests.l0])
    | succ k2 =>
     have H := HA.out
     clear HA
     simp only [laws_FnRecallGuests.l0] at H
     by_cases c26 : x9_2 < (t680.length : Int)
     ·rw [if_pos c26] at H
      have c26b0 : decide (x9_2 < (t680.length : Int)) = true := dT_q c26
      clear c26
      by_cases c27 : 0 ≤ x9_2
      rotate_left
      ·rw [if_neg c27] at H
       exact absurd H (by simp)
      rw [if_pos c27] at H
      have c27b0 : decide (0 ≤ x9_2) = true := dT_q c27
      clear c27
      replace H := oB_q.mp H
      obtain ⟨t697, A280, H⟩ := H
      replace H : (if t697 = true then ((laws_hasInt.f k2 t684 ((rd_T49 t680 x9_2).f0)).bind fun t699 => (if t699 = true then (laws_FnRecallGuests.l0 k2 t680 t684 t693 (wrap64 (x9_2 + 1))) else (some false))) else (laws_FnRecallGuests.l0 k2 t680 t684 t693 (wrap64 (x9_2 + 1)))) = some r := H
      have A28 := Ae_q A280
      clear A280
      by_cases c29 : t697 = true
      rotate_left
      ·replace c29 := fM_q.mpr c29
       subst c29
       have H1 : (laws_FnRecallGuests.l0 k2 t680 t684 t693 (wrap64 (x9_2 + 1))) = some r := by rw [if_neg (show ¬ (false = true) by decide)] at H; exact H
       clear H
       have H := H1
       clear H1
       have H' := Ae_q H
       clear H
       have p696 : 0 ≤ (x9_2 : Int) := oD_q (by assumption)
       have q696 : x9_2 < (t680.length : Int) := oD_q (by assumption)
       obtain ⟨ad696, e696, hx696_0, hx696_1, hx696_2⟩ := at_T49 (rR_q HO_4.out).2.2 x9_2 p696 q696
       cases e696
       replace p696 := eq_true p696
       replace q696 := eq_true q696
       obtain ⟨Ao36, co36, eo36⟩ := rS_q HO_8.out
       subst eo36
       go_wp2_with (first | (go_at_call 24; (with_reducible refine (laws_hasInt.calls k2 _ _ t693 ((rd_T49 t680 x9_2).f1) false _ ?side1 ?side2 A28.out).mono ?_); (case side1 => exact m32_q); (case side2 => exact m33_q); rintro e w' ⟨rfl, ⟨nd, rfl⟩⟩; (try first | exact ⟨rfl, _, wD_q _ _ _⟩ | exact ⟨rfl, _, Eq.trans (wD_q _ _ _) (congrArg (World.drewN _) (nA_q _ _ _))⟩)))
       repeat (go_quiet (first | (go_at_call 24; (with_reducible refine (laws_hasInt.calls k2 _ _ t693 ((rd_T49 t680 x9_2).f1) false _ ?side1 ?side2 A28.out).mono ?_); (case side1 => exact m32_q); (case side2 => exact m33_q); rintro e w' ⟨rfl, ⟨nd, rfl⟩⟩; (try first | exact ⟨rfl, _, wD_q _ _ _⟩ | exact ⟨rfl, _, Eq.trans (wD_q _ _ _) (congrArg (World.drewN _) (nA_q _ _ _))⟩))); try go_wp2_with (first | (go_at_call 24; (with_reducible refine (laws_hasInt.calls k2 _ _ t693 ((rd_T49 t680 x9_2).f1) false _ ?side1 ?side2 A28.out).mono ?_); (case side1 => exact m32_q); (case side2 => exact m33_q); rintro e w' ⟨rfl, ⟨nd, rfl⟩⟩; (try first | exact ⟨rfl, _, wD_q _ _ _⟩ | exact ⟨rfl, _, Eq.trans (wD_q _ _ _) (congrArg (World.drewN _) (nA_q _ _ _))⟩))))
       go_roundg k2
       case measure => have := HJ5.out; have := HK2.out; omega
       case rel => exact ⟨(wrap64 (x9_2 + 1)), m5_q, H', ⟨by have := HJ5.out; have := HK2.out; omega⟩, ⟨rup HO_4.out⟩, ⟨rup HO_6.out⟩, ⟨rup HO_8.out⟩, ⟨bel HB.out⟩⟩
      subst c29
      have H1 : ((laws_hasInt.f k2 t684 ((rd_T49 t680 x9_2).f0)).bind fun t699 => (if t699 = true then (laws_FnRecallGuests.l0 k2 t680 t684 t693 (wrap64 (x9_2 + 1))) else (some false))) = some r := by rw [if_pos rfl] at H; exact H
      clear H
      have H := H1
      clear H1
      replace H := oB_q.mp H
      obtain ⟨t699, A300, H⟩ := H
      replace H : (if t699 = true then (laws_FnRecallGuests.l0 k2 t680 t684 t693 (wrap64 (x9_2 + 1))) else (some false)) = some r := H
      have A30 := Ae_q A300
      clear A300
      by_cases c31 : t699 = true
      rotate_left
      ·replace c31 := fM_q.mpr c31
       subst c31
       have H1 : (some false) = some r := by rw [if_neg (show ¬ (false = true) by decide)] at H; exact H
       clear H
       have H := H1
       clear H1
       obtain rfl := oI_q H
       have p696 : 0 ≤ (x9_2 : Int) := oD_q (by assumption)
       have q696 : x9_2 < (t680.length : Int) := oD_q (by assumption)
       obtain ⟨ad696, e696, hx696_0, hx696_1, hx696_2⟩ := at_T49 (rR_q HO_4.out).2.2 x9_2 p696 q696
       cases e696
       replace p696 := eq_true p696
       replace q696 := eq_true q696
       obtain ⟨Ao34, co34, eo34⟩ := rS_q HO_8.out
       subst eo34
       go_wp2_with (first | (go_at_call 24; (first | ((with_reducible refine (laws_hasInt.calls k2 _ _ t693 ((rd_T49 t680 x9_2).f1) true _ ?side1 ?side2 A28.out).mono ?_); (case side1 => exact m32_q); (case side2 => exact m33_q); rintro e w' ⟨rfl, ⟨nd, rfl⟩⟩; (try first | exact ⟨rfl, _, wD_q _ _ _⟩ | exact ⟨rfl, _, Eq.trans (wD_q _ _ _) (congrArg (World.drewN _) (nA_q _ _ _))⟩); have p698 : 0 ≤ (x9_2 : Int) := oD_q (by assumption); have q698 : x9_2 < (t680.length : Int) := oD_q (by assumption); obtain ⟨ad698, e698, hx698_0, hx698_1, hx698_2⟩ := at_T49 (rR_q HO_4.out).2.2 x9_2 p698 q698; obtain rfl : ad696 = ad698 := (by injection e698); replace p698 := eq_true p698; replace q698 := eq_true q698; obtain ⟨Ao35, co35, eo35⟩ := rS_q HO_6.out; subst eo35) | ((with_reducible refine (laws_hasInt.calls k2 _ _ t684 ((rd_T49 t680 x9_2).f0) false _ ?side1 ?side2 A30.out).mono ?_); (case side1 => exact m43_q); (case side2 => exact m47_q); rintro e w' ⟨rfl, ⟨nd, rfl⟩⟩; (try first | exact ⟨rfl, _, wD_q _ _ _⟩ | exact ⟨rfl, _, Eq.trans (wD_q _ _ _) (congrArg (World.drewN _) (nA_q _ _ _))⟩)))))
       repeat (go_quiet (first | (go_at_call 24; (first | ((with_reducible refine (laws_hasInt.calls k2 _ _ t693 ((rd_T49 t680 x9_2).f1) true _ ?side1 ?side2 A28.out).mono ?_); (case side1 => exact m32_q); (case side2 => exact m33_q); rintro e w' ⟨rfl, ⟨nd, rfl⟩⟩; (try first | exact ⟨rfl, _, wD_q _ _ _⟩ | exact ⟨rfl, _, Eq.trans (wD_q _ _ _) (congrArg (World.drewN _) (nA_q _ _ _))⟩); have p698 : 0 ≤ (x9_2 : Int) := oD_q (by assumption); have q698 : x9_2 < (t680.length : Int) := oD_q (by assumption); obtain ⟨ad698, e698, hx698_0, hx698_1, hx698_2⟩ := at_T49 (rR_q HO_4.out).2.2 x9_2 p698 q698; obtain rfl : ad696 = ad698 := (by injection e698); replace p698 := eq_true p698; replace q698 := eq_true q698; obtain ⟨Ao35, co35, eo35⟩ := rS_q HO_6.out; subst eo35) | ((with_reducible refine (laws_hasInt.calls k2 _ _ t684 ((rd_T49 t680 x9_2).f0) false _ ?side1 ?side2 A30.out).mono ?_); (case side1 => exact m43_q); (case side2 => exact m47_q); rintro e w' ⟨rfl, ⟨nd, rfl⟩⟩; (try first | exact ⟨rfl, _, wD_q _ _ _⟩ | exact ⟨rfl, _, Eq.trans (wD_q _ _ _) (congrArg (World.drewN _) (nA_q _ _ _))⟩))))); try go_wp2_with (first | (go_at_call 24; (first | ((with_reducible refine (laws_hasInt.calls k2 _ _ t693 ((rd_T49 t680 x9_2).f1) true _ ?side1 ?side2 A28.out).mono ?_); (case side1 => exact m32_q); (case side2 => exact m33_q); rintro e w' ⟨rfl, ⟨nd, rfl⟩⟩; (try first | exact ⟨rfl, _, wD_q _ _ _⟩ | exact ⟨rfl, _, Eq.trans (wD_q _ _ _) (congrArg (World.drewN _) (nA_q _ _ _))⟩); have p698 : 0 ≤ (x9_2 : Int) := oD_q (by assumption); have q698 : x9_2 < (t680.length : Int) := oD_q (by assumption); obtain ⟨ad698, e698, hx698_0, hx698_1, hx698_2⟩ := at_T49 (rR_q HO_4.out).2.2 x9_2 p698 q698; obtain rfl : ad696 = ad698 := (by injection e698); replace p698 := eq_true p698; replace q698 := eq_true q698; obtain ⟨Ao35, co35, eo35⟩ := rS_q HO_6.out; subst eo35) | ((with_reducible refine (laws_hasInt.calls k2 _ _ t684 ((rd_T49 t680 x9_2).f0) false _ ?side1 ?side2 A30.out).mono ?_); (case side1 => exact m43_q); (case side2 => exact m47_q); rintro e w' ⟨rfl, ⟨nd, rfl⟩⟩; (try first | exact ⟨rfl, _, wD_q _ _ _⟩ | exact ⟨rfl, _, Eq.trans (wD_q _ _ _) (congrArg (World.drewN _) (nA_q _ _ _))⟩))))))
       go_ret
       exact ⟨m6_q, bel HB.out⟩
      subst c31
      have H1 : (laws_FnRecallGuests.l0 k2 t680 t684 t693 (wrap64 (x9_2 + 1))) = some r := by rw [if_pos rfl] at H; exact H
      clear H
      have H := H1
      clear H1
      have H' := Ae_q H
      clear H
      have p696 : 0 ≤ (x9_2 : Int) := oD_q (by assumption)
      have q696 : x9_2 < (t680.length : Int) := oD_q (by assumption)
      obtain ⟨ad696, e696, hx696_0, hx696_1, hx696_2⟩ := at_T49 (rR_q HO_4.out).2.2 x9_2 p696 q696
      cases e696
      replace p696 := eq_true p696
      replace q696 := eq_true q696
      obtain ⟨Ao32, co32, eo32⟩ := rS_q HO_8.out
      subst eo32
      go_wp2_with (first | (go_at_call 24; (first | ((with_reducible refine (laws_hasInt.calls k2 _ _ t693 ((rd_T49 t680 x9_2).f1) true _ ?side1 ?side2 A28.out).mono ?_); (case side1 => exact m32_q); (case side2 => exact m33_q); rintro e w' ⟨rfl, ⟨nd, rfl⟩⟩; (try first | exact ⟨rfl, _, wD_q _ _ _⟩ | exact ⟨rfl, _, Eq.trans (wD_q _ _ _) (congrArg (World.drewN _) (nA_q _ _ _))⟩); have p698 : 0 ≤ (x9_2 : Int) := oD_q (by assumption); have q698 : x9_2 < (t680.length : Int) := oD_q (by assumption); obtain ⟨ad698, e698, hx698_0, hx698_1, hx698_2⟩ := at_T49 (rR_q HO_4.out).2.2 x9_2 p698 q698; obtain rfl : ad696 = ad698 := (by injection e698); replace p698 := eq_true p698; replace q698 := eq_true q698; obtain ⟨Ao33, co33, eo33⟩ := rS_q HO_6.out; subst eo33) | ((with_reducible refine (laws_hasInt.calls k2 _ _ t684 ((rd_T49 t680 x9_2).f0) true _ ?side1 ?side2 A30.out).mono ?_); (case side1 => exact m43_q); (case side2 => exact m47_q); rintro e w' ⟨rfl, ⟨nd, rfl⟩⟩; (try first | exact ⟨rfl, _, wD_q _ _ _⟩ | exact ⟨rfl, _, Eq.trans (wD_q _ _ _) (congrArg (World.drewN _) (nA_q _ _ _))⟩)))))
      repeat (go_quiet (first | (go_at_call 24; (first | ((with_reducible refine (laws_hasInt.calls k2 _ _ t693 ((rd_T49 t680 x9_2).f1) true _ ?side1 ?side2 A28.out).mono ?_); (case side1 => exact m32_q); (case side2 => exact m33_q); rintro e w' ⟨rfl, ⟨nd, rfl⟩⟩; (try first | exact ⟨rfl, _, wD_q _ _ _⟩ | exact ⟨rfl, _, Eq.trans (wD_q _ _ _) (congrArg (World.drewN _) (nA_q _ _ _))⟩); have p698 : 0 ≤ (x9_2 : Int) := oD_q (by assumption); have q698 : x9_2 < (t680.length : Int) := oD_q (by assumption); obtain ⟨ad698, e698, hx698_0, hx698_1, hx698_2⟩ := at_T49 (rR_q HO_4.out).2.2 x9_2 p698 q698; obtain rfl : ad696 = ad698 := (by injection e698); replace p698 := eq_true p698; replace q698 := eq_true q698; obtain ⟨Ao33, co33, eo33⟩ := rS_q HO_6.out; subst eo33) | ((with_reducible refine (laws_hasInt.calls k2 _ _ t684 ((rd_T49 t680 x9_2).f0) true _ ?side1 ?side2 A30.out).mono ?_); (case side1 => exact m43_q); (case side2 => exact m47_q); rintro e w' ⟨rfl, ⟨nd, rfl⟩⟩; (try first | exact ⟨rfl, _, wD_q _ _ _⟩ | exact ⟨rfl, _, Eq.trans (wD_q _ _ _) (congrArg (World.drewN _) (nA_q _ _ _))⟩))))); try go_wp2_with (first | (go_at_call 24; (first | ((with_reducible refine (laws_hasInt.calls k2 _ _ t693 ((rd_T49 t680 x9_2).f1) true _ ?side1 ?side2 A28.out).mono ?_); (case side1 => exact m32_q); (case side2 => exact m33_q); rintro e w' ⟨rfl, ⟨nd, rfl⟩⟩; (try first | exact ⟨rfl, _, wD_q _ _ _⟩ | exact ⟨rfl, _, Eq.trans (wD_q _ _ _) (congrArg (World.drewN _) (nA_q _ _ _))⟩); have p698 : 0 ≤ (x9_2 : Int) := oD_q (by assumption); have q698 : x9_2 < (t680.length : Int) := oD_q (by assumption); obtain ⟨ad698, e698, hx698_0, hx698_1, hx698_2⟩ := at_T49 (rR_q HO_4.out).2.2 x9_2 p698 q698; obtain rfl : ad696 = ad698 := (by injection e698); replace p698 := eq_true p698; replace q698 := eq_true q698; obtain ⟨Ao33, co33, eo33⟩ := rS_q HO_6.out; subst eo33) | ((with_reducible refine (laws_hasInt.calls k2 _ _ t684 ((rd_T49 t680 x9_2).f0) true _ ?side1 ?side2 A30.out).mono ?_); (case side1 => exact m43_q); (case side2 => exact m47_q); rintro e w' ⟨rfl, ⟨nd, rfl⟩⟩; (try first | exact ⟨rfl, _, wD_q _ _ _⟩ | exact ⟨rfl, _, Eq.trans (wD_q _ _ _) (congrArg (World.drewN _) (nA_q _ _ _))⟩))))))
      go_roundg k2
      case measure => have := HJ5.out; have := HK2.out; omega
      case rel => exact ⟨(wrap64 (x9_2 + 1)), m5_q, H', ⟨by have := HJ5.out; have := HK2.out; omega⟩, ⟨rup HO_4.out⟩, ⟨rup HO_6.out⟩, ⟨rup HO_8.out⟩, ⟨bel HB.out⟩⟩
     rw [if_neg c26] at H
     have c26b0 : decide (x9_2 < (t680.length : Int)) = false := dF_q c26
     clear c26
     have H' := Ae_q H
     clear H
     go_wp2
     repeat (go_quiet (fail); try go_wp2)
     go_loopg [10] k2 (fun kq v10 w' => ∃ (x10_3 : Int), v10 = .int .i64 x10_3 ∧ Aside0 (laws_FnRecallGuests.l1 kq t680 t684 t693 x10_3 = some r) ∧ Aside0 (kq ≤ k2) ∧ Aside0 (Kd.R k49 49 w' w.heap.size (fun _ => True) (.slice Ao9 t680.length co9) t680) ∧ Aside0 (Kd.R kI_q 3 w' w.heap.size (fun k_ => some k_ ≠ (v694 : Value).ownBlock) v685 t684) ∧ Aside0 (Kd.R kI_q 3 w' w.heap.size (fun k_ => some k_ ≠ (v685 : Value).ownBlock) v694 t693) ∧ Aside0 (Below w.heap.size w w'))
     case atStart => exact ⟨(0), m5_q, H', ⟨nR_q _⟩, ⟨rup HO_4.out⟩, ⟨rup HO_6.out⟩, ⟨rup HO_8.out⟩, ⟨bel HB.out⟩⟩
     case round =>
      clear H'
      try clear c1
      try clear c2
      try clear c2b0
      try clear c2b1
      try clear p2
      try clear c3
      try clear p6
      try clear q6
      try clear hx6
      try clear c11
      try clear c13
      try clear c20
      try clear c26
      try clear c26b0
      try clear c27
      try clear c27b0
      try clear c29
      try clear c31
      try clear hx696_0
      try clear hx696_1
      try clear hx696_2
      try clear hx698_0
      try clear hx698_1
      try clear hx698_2
      try clear p2
      try clear p696
      try clear p698
      try clear q696
      try clear q698
      obtain ⟨x10_3, rfl, HA, HK3, HO_4, HO_6, HO_8, HB⟩ := hrel
      cases gk with
      | zero => exact absurd HA.out (by simp [laws_FnRecallGuests.l1])
      | succ k3 =>
       have H := HA.out
       clear HA
       simp only [laws_FnRecallGuests.l1] at H
       by_cases c37 : x10_3 < (t684.length : Int)
       rotate_left
       ·rw [if_neg c37] at H
        have c37b0 : decide (x10_3 < (t684.length : Int)) = false := dF_q c37
        clear c37
        obtain rfl := oI_q H
        obtain ⟨Ao55, co55, eo55⟩ := rS_q HO_6.out
        subst eo55
        go_wp2
        repeat (go_quiet (fail); try go_wp2)
        go_ret
        exact ⟨m6_q, bel HB.out⟩
       rw [if_pos c37] at H
       have c37b0 : decide (x10_3 < (t684.length : Int)) = true := dT_q c37
       clear c37
       have H' := Ae_q H
       clear H
       obtain ⟨Ao38, co38, eo38⟩ := rS_q HO_6.out
       subst eo38
       go_wp2
       repeat (go_quiet (fail); try go_wp2)
       go_loopg [11, 12] k3 (fun kq v11 v12 w' => ∃ (x11_4 : Bool) (x12_4 : Int), v11 = .bool x11_4 ∧ v12 = .int .i64 x12_4 ∧ Aside0 (laws_FnRecallGuests.l2 kq t680 t684 t693 x10_3 x11_4 x12_4 = some r) ∧ Aside0 (kq ≤ k3) ∧ Aside0 (Kd.R k49 49 w' w.heap.size (fun _ => True) (.slice Ao9 t680.length co9) t680) ∧ Aside0 (Kd.R kI_q 3 w' w.heap.size (fun k_ => some k_ ≠ (v694 : Value).ownBlock) (.slice Ao38 t684.length co38) t684) ∧ Aside0 (Kd.R kI_q 3 w' w.heap.size (fun k_ => some k_ ≠ ((.slice Ao38 t684.length co38) : Value).ownBlock) v694 t693) ∧ Aside0 (Below w.heap.size w w'))
       case atStart => exact ⟨(false), (0), m5_q, m5_q, H', ⟨nR_q _⟩, ⟨rup HO_4.out⟩, ⟨rup HO_6.out⟩, ⟨rup HO_8.out⟩, ⟨bel HB.out⟩⟩
       case round =>
        clear H'
        try clear c1
        try clear c2
        try clear c2b0
        try clear c2b1
        try clear p2
        try clear c3
        try clear p6
        try clear q6
        try clear hx6
        try clear c11
        try clear c13
        try clear c20
        try clear c26
        try clear c26b0
        try clear c27
        try clear c27b0
        try clear c29
        try clear c31
        try clear c37
        try clear c37b0
        try clear hx696_0
        try clear hx696_1
        try clear hx696_2
        try clear hx698_0
        try clear hx698_1
        try clear hx698_2
        try clear p2
        try clear p6
        try clear p696
        try clear p698
        try clear q6
        try clear q696
        try clear q698
        obtain ⟨x11_4, x12_4, rfl, rfl, HA, HK4, HO_4, HO_6, HO_8, HB⟩ := hrel
        cases gk with
        | zero => exact absurd HA.out (by simp [laws_FnRecallGuests.l2])
        | succ k4 =>
         have H := HA.out
         clear HA
         simp only [laws_FnRecallGuests.l2] at H
         by_cases c39 : x12_4 < (t680.length : Int)
         rotate_left
         ·rw [if_neg c39] at H
          have c39b0 : decide (x12_4 < (t680.length : Int)) = false := dF_q c39
          clear c39
          by_cases c47 : x11_4 = true
          rotate_left
          ·replace c47 := fM_q.mpr c47
           subst c47
           have H1 : (some false) = some r := by rw [if_neg (show ¬ (false = true) by decide)] at H; exact H
           clear H
           have H := H1
           clear H1
           obtain rfl := oI_q H
           go_wp2
           repeat (go_quiet (fail); try go_wp2)
           go_ret
           exact ⟨m6_q, bel HB.out⟩
          subst c47
          have H1 : (if x10_3 > 0 then (if 0 ≤ (wrap64 (x10_3 - 1)) then (if (wrap64 (x10_3 - 1)) < (t684.length : Int) then (if 0 ≤ x10_3 then (if x10_3 < (t684.length : Int) then (if (rd t684 (wrap64 (x10_3 - 1))) ≥ (rd t684 x10_3) then (some false) else (laws_FnRecallGuests.l1 k4 t680 t684 t693 (wrap64 (x10_3 + 1)))) else (none)) else (none)) else (none)) else (none)) else (laws_FnRecallGuests.l1 k4 t680 t684 t693 (wrap64 (x10_3 + 1)))) = some r := by rw [if_pos rfl] at H; exact H
          clear H
          have H := H1
          clear H1
          by_cases c48 : x10_3 > 0
          rotate_left
          ·rw [if_neg c48] at H
           have c48b0 : decide (0 < x10_3) = false := dF_q c48
           clear c48
           have H' := Ae_q H
           clear H
           go_wp2
           repeat (go_quiet (fail); try go_wp2)
           go_roundg k4
           case measure => have := HJ5.out; have := HK2.out; have := HK3.out; have := HK4.out; omega
           case rel => exact ⟨(wrap64 (x10_3 + 1)), m5_q, H', ⟨m34_q⟩, ⟨rup HO_4.out⟩, ⟨rup HO_6.out⟩, ⟨rup HO_8.out⟩, ⟨bel HB.out⟩⟩
          rw [if_pos c48] at H
          have c48b0 : decide (0 < x10_3) = true := dT_q c48
          clear c48
          obtain ⟨ji49, hji49⟩ : ∃ j_ : Int, (wrap64 (x10_3 - 1)) = j_ := ⟨_, rfl⟩
          replace H : (if 0 ≤ (ji49) then (if (ji49) < (t684.length : Int) then (if 0 ≤ x10_3 then (if x10_3 < (t684.length : Int) then (if (rd t684 (ji49)) ≥ (rd t684 x10_3) then (some false) else (laws_FnRecallGuests.l1 k4 t680 t684 t693 (wrap64 (x10_3 + 1)))) else (none)) else (none)) else (none)) else (none)) = some r := by first | (rw [hji49] at H; exact H) | (simp only [hji49] at H ⊢; exact H)
          have hji49w : (IntKind.i64.wrap (x10_3 - 1)) = ji49 := (i64_w _).trans hji49
          by_cases c50 : 0 ≤ (ji49)
          rotate_left
          ·rw [if_neg c50] at H
           exact absurd H (by simp)
          rw [if_pos c50] at H
          have c50b0 : decide (0 ≤ (ji49)) = true := dT_q c50
          clear c50
          by_cases c51 : (ji49) < (t684.length : Int)
          rotate_left
          ·rw [if_neg c51] at H
           exact absurd H (by simp)
          rw [if_pos c51] at H
          have c51b0 : decide ((ji49) < (t684.length : Int)) = true := dT_q c51
          clear c51
          by_cases c52 : 0 ≤ x10_3
          rotate_left
          ·rw [if_neg c52] at H
           exact absurd H (by simp)
          rw [if_pos c52] at H
          have c52b0 : decide (0 ≤ x10_3) = true := dT_q c52
          clear c52
          by_cases c53 : x10_3 < (t684.length : Int)
          rotate_left
          ·rw [if_neg c53] at H
           exact absurd H (by simp)
          rw [if_pos c53] at H
          have c53b0 : decide (x10_3 < (t684.length : Int)) = true := dT_q c53
          clear c53
          by_cases c54 : (rd t684 (ji49)) ≥ (rd t684 x10_3)
          ·rw [if_pos c54] at H
           have c54b0 : decide ((rd t684 x10_3) ≤ (rd t684 (ji49))) = true := dT_q c54
           clear c54
           obtain rfl := oI_q H
           have p704 : 0 ≤ ((ji49) : Int) := oD_q (by assumption)
           have q704 : (ji49) < (t684.length : Int) := oD_q (by assumption)
           obtain ⟨ad704, e704, hx704_0⟩ := aI_q (rR_q HO_6.out).2.2 (ji49) p704 q704
           cases e704
           replace p704 := eq_true p704
           replace q704 := eq_true q704
           have p705 : 0 ≤ (x10_3 : Int) := oD_q (by assumption)
           have q705 : x10_3 < (t684.length : Int) := oD_q (by assumption)
           obtain ⟨ad705, e705, hx705_0⟩ := aI_q (rR_q HO_6.out).2.2 x10_3 p705 q705
           obtain rfl : ad704 = ad705 := (by injection e705)
           replace p705 := eq_true p705
           replace q705 := eq_true q705
           go_wp2
           repeat (go_quiet (fail); try go_wp2)
           go_ret
           exact ⟨by first | rfl | (simp [eN_q, eS_q] <;> rfl) | (simp only [← hji49]; first | rfl | (simp [eN_q, eS_q] <;> rfl)) | (simp [*, eN_q, eS_q] <;> rfl), bel HB.out⟩
          rw [if_neg c54] at H
          have c54b0 : decide ((rd t684 x10_3) ≤ (rd t684 (ji49))) = false := dF_q c54
          clear c54
          have H' := Ae_q H
          clear H
          have p704 : 0 ≤ ((ji49) : Int) := oD_q (by assumption)
          have q704 : (ji49) < (t684.length : Int) := oD_q (by assumption)
          obtain ⟨ad704, e704, hx704_0⟩ := aI_q (rR_q HO_6.out).2.2 (ji49) p704 q704
          cases e704
          replace p704 := eq_true p704
          replace q704 := eq_true q704
          have p705 : 0 ≤ (x10_3 : Int) := oD_q (by assumption)
          have q705 : x10_3 < (t684.length : Int) := oD_q (by assumption)
          obtain ⟨ad705, e705, hx705_0⟩ := aI_q (rR_q HO_6.out).2.2 x10_3 p705 q705
          obtain rfl : ad704 = ad705 := (by injection e705)
          replace p705 := eq_true p705
          replace q705 := eq_true q705
          go_wp2
          repeat (go_quiet (fail); try go_wp2)
          go_roundg k4
          case measure => have := HJ5.out; have := HK2.out; have := HK3.out; have := HK4.out; omega
          case rel => exact ⟨(wrap64 (x10_3 + 1)), m5_q, H', ⟨m34_q⟩, ⟨rup HO_4.out⟩, ⟨rup HO_6.out⟩, ⟨rup HO_8.out⟩, ⟨bel HB.out⟩⟩
         rw [if_pos c39] at H
         have c39b0 : decide (x12_4 < (t680.length : Int)) = true := dT_q c39
         clear c39
         by_cases c40 : x11_4 = true
         ·subst c40
          have H1 : (laws_FnRecallGuests.l2 k4 t680 t684 t693 x10_3 true (wrap64 (x12_4 + 1))) = some r := by rw [if_pos rfl] at H; exact H
          clear H
          have H := H1
          clear H1
          have H' := Ae_q H
          clear H
          go_wp2
          repeat (go_quiet (fail); try go_wp2)
          go_roundg k4
          case measure => have := HJ5.out; have := HK2.out; have := HK3.out; have := HK4.out; omega
          case rel => exact ⟨(true), (wrap64 (x12_4 + 1)), m5_q, m5_q, H', ⟨m34_q⟩, ⟨rup HO_4.out⟩, ⟨rup HO_6.out⟩, ⟨rup HO_8.out⟩, ⟨bel HB.out⟩⟩
         replace c40 := fM_q.mpr c40
         subst c40
         have H1 : (if 0 ≤ x12_4 then (if 0 ≤ x10_3 then (if x10_3 < (t684.length : Int) then (if ((rd_T49 t680 x12_4).f0) = (rd t684 x10_3) then ((laws_hasInt.f k4 t693 ((rd_T49 t680 x12_4).f1)).bind fun t703 => (laws_FnRecallGuests.l2 k4 t680 t684 t693 x10_3 t703 (wrap64 (x12_4 + 1)))) else (laws_FnRecallGuests.l2 k4 t680 t684 t693 x10_3 false (wrap64 (x12_4 + 1)))) else (none)) else (none)) else (none)) = some r := by rw [if_neg (show ¬ (false = true) by decide)] at H; exact H
         clear H
         have H := H1
         clear H1
         by_cases c41 : 0 ≤ x12_4
         rotate_left
         ·rw [if_neg c41] at H
          exact absurd H (by simp)
         rw [if_pos c41] at H
         have c41b0 : decide (0 ≤ x12_4) = true := dT_q c41
         clear c41
         by_cases c42 : 0 ≤ x10_3
         rotate_left
         ·rw [if_neg c42] at H
          exact absurd H (by simp)
         rw [if_pos c42] at H
         have c42b0 : decide (0 ≤ x10_3) = true := dT_q c42
         clear c42
         by_cases c43 : x10_3 < (t684.length : Int)
         rotate_left
         ·rw [if_neg c43] at H
          exact absurd H (by simp)
         rw [if_pos c43] at H
         have c43b0 : decide (x10_3 < (t684.length : Int)) = true := dT_q c43
         clear c43
         by_cases c44 : ((rd_T49 t680 x12_4).f0) = (rd t684 x10_3)
         rotate_left
         ·rw [if_neg c44] at H
          have c44b0 : (((rd_T49 t680 x12_4).f0) == (rd t684 x10_3)) = false := fN_q.mpr c44
          have c44b1 : (((rd_T49 t680 x12_4).f0) != (rd t684 x10_3)) = true := nI_q.mpr c44
          have H' := Ae_q H
          clear H
          have p700 : 0 ≤ (x12_4 : Int) := oD_q (by assumption)
          have q700 : x12_4 < (t680.length : Int) := oD_q (by assumption)
          obtain ⟨ad700, e700, hx700_0, hx700_1, hx700_2⟩ := at_T49 (rR_q HO_4.out).2.2 x12_4 p700 q700
          cases e700
          replace p700 := eq_true p700
          replace q700 := eq_true q700
          have p701 : 0 ≤ (x10_3 : Int) := oD_q (by assumption)
          have q701 : x10_3 < (t684.length : Int) := oD_q (by assumption)
          obtain ⟨ad701, e701, hx701_0⟩ := aI_q (rR_q HO_6.out).2.2 x10_3 p701 q701
          cases e701
          replace p701 := eq_true p701
          replace q701 := eq_true q701
          go_wp2
          repeat (go_quiet (fail); try go_wp2)
          go_roundg k4
          case measure => have := HJ5.out; have := HK2.out; have := HK3.out; have := HK4.out; omega
          case rel => exact ⟨(false), (wrap64 (x12_4 + 1)), m5_q, m5_q, H', ⟨m34_q⟩, ⟨rup HO_4.out⟩, ⟨rup HO_6.out⟩, ⟨rup HO_8.out⟩, ⟨bel HB.out⟩⟩
         rw [if_pos c44] at H
         have c44b0 : (((rd_T49 t680 x12_4).f0) == (rd t684 x10_3)) = true := beq_iff_eq.mpr c44
         have c44b1 : (((rd_T49 t680 x12_4).f0) != (rd t684 x10_3)) = false := nE_q.mpr c44
         clear c44
         replace H := oB_q.mp H
         obtain ⟨t703, A450, H⟩ := H
         replace H : (laws_FnRecallGuests.l2 k4 t680 t684 t693 x10_3 t703 (wrap64 (x12_4 + 1))) = some r := H
         have A45 := Ae_q A450
         clear A450
         have H' := Ae_q H
         clear H
         have p700 : 0 ≤ (x12_4 : Int) := oD_q (by assumption)
         have q700 : x12_4 < (t680.length : Int) := oD_q (by assumption)
         obtain ⟨ad700, e700, hx700_0, hx700_1, hx700_2⟩ := at_T49 (rR_q HO_4.out).2.2 x12_4 p700 q700
         cases e700
         replace p700 := eq_true p700
         replace q700 := eq_true q700
         have p701 : 0 ≤ (x10_3 : Int) := oD_q (by assumption)
         have q701 : x10_3 < (t684.length : Int) := oD_q (by assumption)
         obtain ⟨ad701, e701, hx701_0⟩ := aI_q (rR_q HO_6.out).2.2 x10_3 p701 q701
         cases e701
         replace p701 := eq_true p701
         replace q701 := eq_true q701
         have p702 : 0 ≤ (x12_4 : Int) := oD_q (by assumption)
         have q702 : x12_4 < (t680.length : Int) := oD_q (by assumption)
         obtain ⟨ad702, e702, hx702_0, hx702_1, hx702_2⟩ := at_T49 (rR_q HO_4.out).2.2 x12_4 p702 q702
         obtain rfl : ad700 = ad702 := (by injection e702)
         replace p702 := eq_true p702
         replace q702 := eq_true q702
         obtain ⟨Ao46, co46, eo46⟩ := rS_q HO_8.out
         subst eo46
         go_wp2_with (first | (go_at_call 24; (with_reducible refine (laws_hasInt.calls k4 _ _ t693 ((rd_T49 t680 x12_4).f1) t703 _ ?side1 ?side2 A45.out).mono ?_); (case side1 => exact m32_q); (case side2 => exact m33_q); rintro e w' ⟨rfl, ⟨nd, rfl⟩⟩; (try first | exact ⟨rfl, _, wD_q _ _ _⟩ | exact ⟨rfl, _, Eq.trans (wD_q _ _ _) (congrArg (World.drewN _) (nA_q _ _ _))⟩)))
         repeat (go_quiet (first | (go_at_call 24; (with_reducible refine (laws_hasInt.calls k4 _ _ t693 ((rd_T49 t680 x12_4).f1) t703 _ ?side1 ?side2 A45.out).mono ?_); (case side1 => exact m32_q); (case side2 => exact m33_q); rintro e w' ⟨rfl, ⟨nd, rfl⟩⟩; (try first | exact ⟨rfl, _, wD_q _ _ _⟩ | exact ⟨rfl, _, Eq.trans (wD_q _ _ _) (congrArg (World.drewN _) (nA_q _ _ _))⟩))); try go_wp2_with (first | (go_at_call 24; (with_reducible refine (laws_hasInt.calls k4 _ _ t693 ((rd_T49 t680 x12_4).f1) t703 _ ?side1 ?side2 A45.out).mono ?_); (case side1 => exact m32_q); (case side2 => exact m33_q); rintro e w' ⟨rfl, ⟨nd, rfl⟩⟩; (try first | exact ⟨rfl, _, wD_q _ _ _⟩ | exact ⟨rfl, _, Eq.trans (wD_q _ _ _) (congrArg (World.drewN _) (nA_q _ _ _))⟩))))
         go_roundg k4
         case measure => have := HJ5.out; have := HK2.out; have := HK3.out; have := HK4.out; omega
         case rel => exact ⟨(t703), (wrap64 (x12_4 + 1)), m5_q, m5_q, H', ⟨m34_q⟩, ⟨rup HO_4.out⟩, ⟨rup HO_6.out⟩, ⟨rup HO_8.out⟩, ⟨bel HB.out⟩⟩

def laws_FnRecallGuests.Pure : Prop := ∀ (l0 : List Int), l0.length ≤ maxLen → l0.length * 1 ≤ 140737488351232 → (∀ x ∈ l0, (Lit.int .u8 x).wf = true) → ∃ k, laws_FnRecallGuests.f k l0 = some true
theorem laws_FnRecallGuests.walk (P : laws_FnRecallGuests.Pure) (a0 : Option Addr) (len0 cap0 : Nat) (z0 : List Int) (w : World) (w0 : (a0 = none ∧ len0 = 0 ∧ cap0 = 0 ∧ z0 = []) ∨ ∃ x, a0 = some x ∧ len0 ≤ cap0 ∧ cap0 ≤ maxLen ∧ z0.length = cap0 ∧ (∀ i, i < z0.length → w.cell? (x.add i) = some (.int .u8 (z0.getD i 0))) ∧ ∀ n ∈ z0, (Lit.int .u8 n).wf = true) (y0 : len0 * 1 ≤ 140737488351232) :
    Calls Try.prog 11 #[.slice a0 len0 cap0] w fun e w' => e = .returned (.bool true) ∧ Below w.heap.size w w' := by
 obtain ⟨l0, rfl, hr0, hm0, hw0, hc0⟩ := ReadsInt.ofRowC w0
 obtain ⟨k, h⟩ := P l0 hm0 y0 hw0
 refine (laws_FnRecallGuests.calls k _ _ l0 true w (Kd.C_of_reads (d := (0 : Int)) (h1 := fun _ => rfl) hr0) hc0 h).mono ?_
 rintro e w' ⟨rfl, hd⟩
 exact ⟨rfl, hd⟩

end Go.Proofs.Ytnckblolijkdaaa.PBt
