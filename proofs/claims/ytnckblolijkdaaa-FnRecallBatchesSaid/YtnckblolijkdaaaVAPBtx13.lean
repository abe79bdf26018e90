import Derived.Test.YtnckblolijkdaaaVAPBtx0
import Derived.Test.YtnckblolijkdaaaVAPBtx6
import Derived.Test.YtnckblolijkdaaaVAPBtx11
import Derived.Test.YtnckblolijkdaaaVAPBtx12
namespace Go.Proofs.Ytnckblolijkdaaa.PBt
open Go.RowKit Go.Proofs.YtnckblolijkdaaaW.PrintWords Go.Proofs.YtnckblolijkdaaaW.PrintLast Go.Proofs.YtnckblolijkdaaaW.PrintMore
attribute [local go_sem] max2_int min2_int max_two min_two max_three min_three max_four min_four
set_option linter.unusedVariables false
set_option linter.unusedSimpArgs false

mutual
def laws_FnRecallBatches.j0 : Nat → List (S39) → Int → List Int → List Int → Bool → Option (Bool)
 | 0, _, _, _, _, _ => none
 | k + 1, x3, x4, x5, x6, x31 => if x31 = true then ((laws_sameInts.f k x5 x6).bind fun t277 => (some t277)) else (laws_FnRecallBatches.l0 k x3 x4 x5 0 0)
def laws_FnRecallBatches.l0 : Nat → List (S39) → Int → List Int → Int → Int → Option (Bool)
 | 0, _, _, _, _, _ => none
 | k + 1, x3, x4, x5, x7, x8 => if x8 < (x3.length : Int) then (if 0 ≤ x8 then ((laws_hasInt.f k ((rd_T39 x3 x8).f1) x4).bind fun t279 => (if t279 = true then (if x7 ≥ (x5.length : Int) then (some false) else (if 0 ≤ x7 then (if x7 < (x5.length : Int) then (if (rd x5 x7) = ((rd_T39 x3 x8).f0) then (laws_FnRecallBatches.l0 k x3 x4 x5 (wrap64 (x7 + 1)) (wrap64 (x8 + 1))) else (some false)) else (none)) else (none))) else (laws_FnRecallBatches.l0 k x3 x4 x5 x7 (wrap64 (x8 + 1))))) else (none)) else (some (x7 == (x5.length : Int)))
end
def laws_FnRecallBatches.f (k : Nat) (l0 : List Int) : Option (Bool) := if (l0.length : Int) > 1048576 then (some true) else ((spec_DrawRecallBatches.f k l0).bind fun bt265 => ((impl_RecallBatches.f k bt265.1 bt265.2).bind fun t269 => ((spec_RecallBatches.f k bt265.1 bt265.2).bind fun t272 => ((laws_sameInts.f k t269 t272).bind fun t275 => (if t275 = true then ((spec_BatchesValid.f k bt265.1).bind fun t276 => (laws_FnRecallBatches.j0 k bt265.1 bt265.2 t269 t272 (!t276))) else (laws_FnRecallBatches.j0 k bt265.1 bt265.2 t269 t272 true))))))
set_option maxHeartbeats 8000000 in
set_option maxRecDepth 100000 in
theorem laws_FnRecallBatches.calls (k : Nat) (A0 : Option Addr) (c0 : Nat) (l0 : List Int) (r : Bool) (w : World) (hr0 : Kd.C (Kd.int .u8) w A0 l0.length l0) (hc0 : l0.length ≤ c0) (h : laws_FnRecallBatches.f k l0 = some r) :
    Calls Try.prog 5 #[.slice A0 l0.length c0] w fun e w' => e = .returned (.bool r) ∧ Below w.heap.size w w' := by
 have HR0 := Ae_q hr0
 have HC0 := Ae_q hc0
 clear hr0 hc0
 have HB := Ae_q (bR_q w.heap.size w)
 have H : (if (l0.length : Int) > 1048576 then (some true) else ((spec_DrawRecallBatches.f k l0).bind fun bt265 => ((impl_RecallBatches.f k bt265.1 bt265.2).bind fun t269 => ((spec_RecallBatches.f k bt265.1 bt265.2).bind fun t272 => ((laws_sameInts.f k t269 t272).bind fun t275 => (if t275 = true then ((spec_BatchesValid.f k bt265.1).bind fun t276 => (laws_FnRecallBatches.j0 k bt265.1 bt265.2 t269 t272 (!t276))) else (laws_FnRecallBatches.j0 k bt265.1 bt265.2 t269 t272 true))))))) = some r := h
 clear h
 by_cases c2 : (l0.length : Int) > 1048576
 ·rw [if_pos c2] at H
  have c2b0 : decide (1048576 < (l0.length : Int)) = true := dT_q c2
  have c2b1 : decide (1048576 < l0.length) = true := dT_q (by omega)
  clear c2
  obtain rfl := oI_q H
  go_enter Try.func5, Try.ntmps5
  go_wp2
  repeat (go_quiet (fail); try go_wp2)
  go_ret
  exact ⟨m8_q, bel HB.out⟩
 rw [if_neg c2] at H
 have c2b0 : decide (1048576 < (l0.length : Int)) = false := dF_q c2
 have c2b1 : decide (1048576 < l0.length) = false := dF_q (by omega)
 clear c2
 replace H := oB_q.mp H
 obtain ⟨⟨t265, t268⟩, A30, H⟩ := H
 replace H : ((impl_RecallBatches.f k t265 t268).bind fun t269 => ((spec_RecallBatches.f k t265 t268).bind fun t272 => ((laws_sameInts.f k t269 t272).bind fun t275 => (if t275 = true then ((spec_BatchesValid.f k t265).bind fun t276 => (laws_FnRecallBatches.j0 k t265 t268 t269 t272 (!t276))) else (laws_FnRecallBatches.j0 k t265 t268 t269 t272 true))))) = some r := H
 have A3 := Ae_q A30
 clear A30
 replace H := oB_q.mp H
 obtain ⟨t269, A40, H⟩ := H
 replace H : ((spec_RecallBatches.f k t265 t268).bind fun t272 => ((laws_sameInts.f k t269 t272).bind fun t275 => (if t275 = true then ((spec_BatchesValid.f k t265).bind fun t276 => (laws_FnRecallBatches.j0 k t265 t268 t269 t272 (!t276))) else (laws_FnRecallBatches.j0 k t265 t268 t269 t272 true)))) = some r := H
 have A4 := Ae_q A40
 clear A40
 replace H := oB_q.mp H
 obtain ⟨t272, A50, H⟩ := H
 replace H : ((laws_sameInts.f k t269 t272).bind fun t275 => (if t275 = true then ((spec_BatchesValid.f k t265).bind fun t276 => (laws_FnRecallBatches.j0 k t265 t268 t269 t272 (!t276))) else (laws_FnRecallBatches.j0 k t265 t268 t269 t272 true))) = some r := H
 have A5 := Ae_q A50
 clear A50
 have HC6 := Ae_q H
 clear H
 go_enter Try.func5, Try.ntmps5
 go_upto_region 6 with (first | (go_at_call 20; (with_reducible refine (spec_DrawRecallBatches.calls k _ _ l0 t265 t268 _ ?side1 ?side2 A3.out).mono ?_); (case side1 => exact m23_q); (case side2 => exact HC0.out); rintro e w' ⟨v266, rfl, ho0, hb⟩; have HO267 := Ae_q (Kd.N_lower (Kd.N_mono (ok' := fun k_ => True) ho0 (fun k_ hk_ => trivial)) (bZ_q (bel HB.out))); replace HB := Ae_q (bT_q (bel HB.out) hb); (try clear hb); (try clear hb2); (try clear hk); (try clear hi); (try clear ho0); obtain ⟨Ao8, co8, eo8⟩ := Kd.N_slice HO267.out; subst eo8) | ((first | (go_at_call 21; (with_reducible refine (impl_RecallBatches.calls k _ _ t265 t268 t269 _ ?side1 ?side2 A4.out).mono ?_); (case side1 => exact m12_q); (case side2 => exact m28_q); rintro e w' ⟨v270, rfl, ho0, hb⟩; replace HO267 := Ae_q (Kd.N_elder' m16_q (rB_q ho0) hb); have HO271 := Ae_q (rL_q ho0 (bZ_q (bel HB.out))); replace HB := Ae_q (bT_q (bel HB.out) hb)) | (go_at_call 22; (with_reducible refine (spec_RecallBatches.calls k _ _ t265 t268 t272 _ ?side1 ?side2 A5.out).mono ?_); (case side1 => exact m12_q); (case side2 => exact m28_q); rintro e w' ⟨v273, rfl, ho0, hb⟩; replace HO267 := Ae_q (Kd.N_elder' m16_q (rB_q ho0) hb); have HO274 := Ae_q (rL_q (rW_q ho0 (rT_q (rup HO271.out))) (bZ_q (bel HB.out))); replace HO271 := Ae_q (rE_q (rup HO271.out) (rB_q ho0) hb); replace HB := Ae_q (bT_q (bel HB.out) hb))); (try clear hb); (try clear hb2); (try clear hk); (try clear hi); (try clear ho0)))
 repeat (go_quiet (first | (go_at_call 20; (with_reducible refine (spec_DrawRecallBatches.calls k _ _ l0 t265 t268 _ ?side1 ?side2 A3.out).mono ?_); (case side1 => exact m23_q); (case side2 => exact HC0.out); rintro e w' ⟨v266, rfl, ho0, hb⟩; have HO267 := Ae_q (Kd.N_lower (Kd.N_mono (ok' := fun k_ => True) ho0 (fun k_ hk_ => trivial)) (bZ_q (bel HB.out))); replace HB := Ae_q (bT_q (bel HB.out) hb); (try clear hb); (try clear hb2); (try clear hk); (try clear hi); (try clear ho0); obtain ⟨Ao8, co8, eo8⟩ := Kd.N_slice HO267.out; subst eo8) | ((first | (go_at_call 21; (with_reducible refine (impl_RecallBatches.calls k _ _ t265 t268 t269 _ ?side1 ?side2 A4.out).mono ?_); (case side1 => exact m12_q); (case side2 => exact m28_q); rintro e w' ⟨v270, rfl, ho0, hb⟩; replace HO267 := Ae_q (Kd.N_elder' m16_q (rB_q ho0) hb); have HO271 := Ae_q (rL_q ho0 (bZ_q (bel HB.out))); replace HB := Ae_q (bT_q (bel HB.out) hb)) | (go_at_call 22; (with_reducible refine (spec_RecallBatches.calls k _ _ t265 t268 t272 _ ?side1 ?side2 A5.out).mono ?_); (case side1 => exact m12_q); (case side2 => exact m28_q); rintro e w' ⟨v273, rfl, ho0, hb⟩; replace HO267 := Ae_q (Kd.N_elder' m16_q (rB_q ho0) hb); have HO274 := Ae_q (rL_q (rW_q ho0 (rT_q (rup HO271.out))) (bZ_q (bel HB.out))); replace HO271 := Ae_q (rE_q (rup HO271.out) (rB_q ho0) hb); replace HB := Ae_q (bT_q (bel HB.out) hb))); (try clear hb); (try clear hb2); (try clear hk); (try clear hi); (try clear ho0))); go_upto_region 6 with (first | (go_at_call 20; (with_reducible refine (spec_DrawRecallBatches.calls k _ _ l0 t265 t268 _ ?side1 ?side2 A3.out).mono ?_); (case side1 => exact m23_q); (case side2 => exact HC0.out); rintro e w' ⟨v266, rfl, ho0, hb⟩; have HO267 := Ae_q (Kd.N_lower (Kd.N_mono (ok' := fun k_ => True) ho0 (fun k_ hk_ => trivial)) (bZ_q (bel HB.out))); replace HB := Ae_q (bT_q (bel HB.out) hb); (try clear hb); (try clear hb2); (try clear hk); (try clear hi); (try clear ho0); obtain ⟨Ao8, co8, eo8⟩ := Kd.N_slice HO267.out; subst eo8) | ((first | (go_at_call 21; (with_reducible refine (impl_RecallBatches.calls k _ _ t265 t268 t269 _ ?side1 ?side2 A4.out).mono ?_); (case side1 => exact m12_q); (case side2 => exact m28_q); rintro e w' ⟨v270, rfl, ho0, hb⟩; replace HO267 := Ae_q (Kd.N_elder' m16_q (rB_q ho0) hb); have HO271 := Ae_q (rL_q ho0 (bZ_q (bel HB.out))); replace HB := Ae_q (bT_q (bel HB.out) hb)) | (go_at_call 22; (with_reducible refine (spec_RecallBatches.calls k _ _ t265 t268 t272 _ ?side1 ?side2 A5.out).mono ?_); (case side1 => exact m12_q); (case side2 => exact m28_q); rintro e w' ⟨v273, rfl, ho0, hb⟩; replace HO267 := Ae_q (Kd.N_elder' m16_q (rB_q ho0) hb); have HO274 := Ae_q (rL_q (rW_q ho0 (rT_q (rup HO271.out))) (bZ_q (bel HB.out))); replace HO271 := Ae_q (rE_q (rup HO271.out) (rB_q ho0) hb); replace HB := Ae_q (bT_q (bel HB.out) hb))); (try clear hb); (try clear hb2); (try clear hk); (try clear hi); (try clear ho0))))
 (try simp only [Act.put, sA_q, sZ_q, sS_q])
 go_cut [31] (fun v31 wc => ∃ (kq : Nat) (x31_5 : Bool), v31 = .bool x31_5 ∧ Aside0 (laws_FnRecallBatches.j0 kq t265 t268 t269 t272 x31_5 = some r) ∧ Aside0 (kq ≤ k) ∧ Aside0 (Kd.N k39 39 wc w.heap.size (fun k_ => some k_ ≠ (v270 : Value).ownBlock ∧ some k_ ≠ (v273 : Value).ownBlock) (.slice Ao8 t265.length co8) t265) ∧ Aside0 (Kd.R (Kd.int .i64) 3 wc w.heap.size (fun k_ => some k_ ≠ (v273 : Value).ownBlock) v270 t269) ∧ Aside0 (Kd.R (Kd.int .i64) 3 wc w.heap.size (fun k_ => some k_ ≠ (v270 : Value).ownBlock) v273 t272) ∧ Aside0 (Below w.heap.size w wc))
 case first =>
  have H := HC6.out
  clear HC6
  replace H := oB_q.mp H
  obtain ⟨t275, A110, H⟩ := H
  replace H : (if t275 = true then ((spec_BatchesValid.f k t265).bind fun t276 => (laws_FnRecallBatches.j0 k t265 t268 t269 t272 (!t276))) else (laws_FnRecallBatches.j0 k t265 t268 t269 t272 true)) = some r := H
  have A11 := Ae_q A110
  clear A110
  by_cases c12 : t275 = true
  rotate_left
  ·replace c12 := fM_q.mpr c12
   subst c12
   have H1 : (laws_FnRecallBatches.j0 k t265 t268 t269 t272 true) = some r := by rw [if_neg (show ¬ (false = true) by decide)] at H; exact H
   clear H
   have H := H1
   clear H1
   have H' := Ae_q H
   clear H
   obtain ⟨Ao17, co17, eo17⟩ := rS_q HO271.out
   subst eo17
   obtain ⟨Ao18, co18, eo18⟩ := rS_q HO274.out
   subst eo18
   go_wp2_with (first | (go_at_call 23; (with_reducible refine (laws_sameInts.calls k _ _ t269 _ _ t272 false _ ?side1 ?side2 ?side3 ?side4 A11.out).mono ?_); (case side1 => exact m34_q); (case side2 => exact m37_q); (case side3 => exact m35_q); (case side4 => exact m38_q); rintro e w' ⟨rfl, ⟨nd, rfl⟩⟩; (try first | exact ⟨rfl, _, wD_q _ _ _⟩ | exact ⟨rfl, _, Eq.trans (wD_q _ _ _) (congrArg (World.drewN _) (nA_q _ _ _))⟩)))
   repeat (go_quiet (first | (go_at_call 23; (with_reducible refine (laws_sameInts.calls k _ _ t269 _ _ t272 false _ ?side1 ?side2 ?side3 ?side4 A11.out).mono ?_); (case side1 => exact m34_q); (case side2 => exact m37_q); (case side3 => exact m35_q); (case side4 => exact m38_q); rintro e w' ⟨rfl, ⟨nd, rfl⟩⟩; (try first | exact ⟨rfl, _, wD_q _ _ _⟩ | exact ⟨rfl, _, Eq.trans (wD_q _ _ _) (congrArg (World.drewN _) (nA_q _ _ _))⟩))); try go_wp2_with (first | (go_at_call 23; (with_reducible refine (laws_sameInts.calls k _ _ t269 _ _ t272 false _ ?side1 ?side2 ?side3 ?side4 A11.out).mono ?_); (case side1 => exact m34_q); (case side2 => exact m37_q); (case side3 => exact m35_q); (case side4 => exact m38_q); rintro e w' ⟨rfl, ⟨nd, rfl⟩⟩; (try first | exact ⟨rfl, _, wD_q _ _ _⟩ | exact ⟨rfl, _, Eq.trans (wD_q _ _ _) (congrArg (World.drewN _) (nA_q _ _ _))⟩))))
   go_meet
   case rel => exact ⟨_, (true), m4_q, H', ⟨m40_q⟩, ⟨m29_q⟩, ⟨m30_q⟩, ⟨m31_q⟩, ⟨bel HB.out⟩⟩
  subst c12
  have H1 : ((spec_BatchesValid.f k t265).bind fun t276 => (laws_FnRecallBatches.j0 k t265 t268 t269 t272 (!t276))) = some r := by rw [if_pos rfl] at H; exact H
  clear H
  have H := H1
  clear H1
  replace H := oB_q.mp H
  obtain ⟨t276, A130, H⟩ := H
  replace H : (laws_FnRecallBatches.j0 k t265 t268 t269 t272 (!t276)) = some r := H
  have A13 := Ae_q A130
  clear A130
  have H' := Ae_q H
  clear H
  obtain ⟨Ao14, co14, eo14⟩ := rS_q HO271.out
  subst eo14
  obtain ⟨Ao15, co15, eo15⟩ := rS_q HO274.out
  subst eo15
  go_wp2_with (first | (go_at_call 23; (with_reducible refine (laws_sameInts.calls k _ _ t269 _ _ t272 true _ ?side1 ?side2 ?side3 ?side4 A11.out).mono ?_); (case side1 => exact m34_q); (case side2 => exact m37_q); (case side3 => exact m35_q); (case side4 => exact m38_q); rintro e w' ⟨rfl, ⟨nd, rfl⟩⟩; (try first | exact ⟨rfl, _, wD_q _ _ _⟩ | exact ⟨rfl, _, Eq.trans (wD_q _ _ _) (congrArg (World.drewN _) (nA_q _ _ _))⟩)) | (go_at_call 16; (with_reducible refine (spec_BatchesValid.calls k _ _ t265 t276 _ ?side1 ?side2 A13.out).mono ?_); (case side1 => exact m12_q); (case side2 => exact m28_q); rintro e w' ⟨rfl, hb⟩; replace HO267 := Ae_q (Kd.N_below m16_q hb); replace HO271 := Ae_q (rO_q (rup HO271.out) hb); replace HO274 := Ae_q (rO_q (rup HO274.out) hb); replace HB := Ae_q (bT_q (bel HB.out) hb); (try clear hb); (try clear hb2); (try clear hk); (try clear hi)))
  repeat (go_quiet (first | (go_at_call 23; (with_reducible refine (laws_sameInts.calls k _ _ t269 _ _ t272 true _ ?side1 ?side2 ?side3 ?side4 A11.out).mono ?_); (case side1 => exact m34_q); (case side2 => exact m37_q); (case side3 => exact m35_q); (case side4 => exact m38_q); rintro e w' ⟨rfl, ⟨nd, rfl⟩⟩; (try first | exact ⟨rfl, _, wD_q _ _ _⟩ | exact ⟨rfl, _, Eq.trans (wD_q _ _ _) (congrArg (World.drewN _) (nA_q _ _ _))⟩)) | (go_at_call 16; (with_reducible refine (spec_BatchesValid.calls k _ _ t265 t276 _ ?side1 ?side2 A13.out).mono ?_); (case side1 => exact m12_q); (case side2 => exact m28_q); rintro e w' ⟨rfl, hb⟩; replace HO267 := Ae_q (Kd.N_below m16_q hb); replace HO271 := Ae_q (rO_q (rup HO271.out) hb); replace HO274 := Ae_q (rO_q (rup HO274.out) hb); replace HB := Ae_q (bT_q (bel HB.out) hb); (try clear hb); (try clear hb2); (try clear hk); (try clear hi))); try go_wp2_with (first | (go_at_call 23; (with_reducible refine (laws_sameInts.calls k _ _ t269 _ _ t272 true _ ?side1 ?side2 ?side3 ?side4 A11.out).mono ?_); (case side1 => exact m34_q); (case side2 => exact m37_q); (case side3 => exact m35_q); (case side4 => exact m38_q); rintro e w' ⟨rfl, ⟨nd, rfl⟩⟩; (try first | exact ⟨rfl, _, wD_q _ _ _⟩ | exact ⟨rfl, _, Eq.trans (wD_q _ _ _) (congrArg (World.drewN _) (nA_q _ _ _))⟩)) | (go_at_call 16; (with_reducible refine (spec_BatchesValid.calls k _ _ t265 t276 _ ?side1 ?side2 A13.out).mono ?_); (case side1 => exact m12_q); (case side2 => exact m28_q); rintro e w' ⟨rfl, hb⟩; replace HO267 := Ae_q (Kd.N_below m16_q hb); replace HO271 := Ae_q (rO_q (rup HO271.out) hb); replace HO274 := Ae_q (rO_q (rup HO274.out) hb); replace HB := Ae_q (bT_q (bel HB.out) hb); (try clear hb); (try clear hb2); (try clear hk); (try clear hi))))
  go_meet
  case rel => exact ⟨_, (!t276), m4_q, H', ⟨m40_q⟩, ⟨m29_q⟩, ⟨m30_q⟩, ⟨m31_q⟩, ⟨bel HB.out⟩⟩
 case rest =>
  clear HC6
  try clear c1
  try clear c2
  try clear c2b0
  try clear c2b1
  try clear p2
  try clear c5
  try clear c12
  obtain ⟨kq, x31_5, rfl, HA, HJ5, HO_3, HO_5, HO_6, HB⟩ := hcut
  cases kq with
  | zero => exact absurd HA.out (by simp [laws_FnRecallBatches.j0])
  | succ kj5 =>
   have H := HA.out
   clear HA
   simp only [laws_FnRecallBatches.j0] at H
   by_cases c19 : x31_5 = true
   ·subst c19
    have H1 : ((laws_sameInts.f kj5 t269 t272).bind fun t277 => (some t277)) = some r := by rw [if_pos rfl] at H; exact H
    clear H
    have H := H1
    clear H1
    replace H := oB_q.mp H
    obtain ⟨t277, A200, H⟩ := H
    replace H : (some t277) = some r := H
    have A20 := Ae_q A200
    clear A200
    obtain rfl := oI_q H
    obtain ⟨Ao21, co21, eo21⟩ := rS_q HO_5.out
    subst eo21
    obtain ⟨Ao22, co22, eo22⟩ := rS_q HO_6.out
    subst eo22
    go_wp2_with (first | (go_at_call 23; (with_reducible refine (laws_sameInts.calls kj5 _ _ t269 _ _ t272 t277 _ ?side1 ?side2 ?side3 ?side4 A20.out).mono ?_); (case side1 => exact cup (rR_q HO_5.out).2.2); (case side2 => exact (rR_q HO_5.out).2.1); (case side3 => exact cup (rR_q HO_6.out).2.2); (case side4 => exact (rR_q HO_6.out).2.1); rintro e w' ⟨rfl, ⟨nd, rfl⟩⟩; (try first | exact ⟨rfl, _, wD_q _ _ _⟩ | exact ⟨rfl, _, Eq.trans (wD_q _ _ _) (congrArg (World.drewN _) (nA_q _ _ _))⟩)))
    repeat (go_quiet (first | (go_at_call 23; (with_reducible refine (laws_sameInts.calls kj5 _ _ t269 _ _ t272 t277 _ ?side1 ?side2 ?side3 ?side4 A20.out).mono ?_); (case side1 => exact cup (rR_q HO_5.out).2.2); (case side2 => exact (rR_q HO_5.out).2.1); (case side3 => exact cup (rR_q HO_6.out).2.2); (case side4 => exact (rR_q HO_6.out).2.1); rintro e w' ⟨rfl, ⟨nd, rfl⟩⟩; (try first | exact ⟨rfl, _, wD_q _ _ _⟩ | exact ⟨rfl, _, Eq.trans (wD_q _ _ _) (congrArg (World.drewN _) (nA_q _ _ _))⟩))); try go_wp2_with (first | (go_at_call 23; (with_reducible refine (laws_sameInts.calls kj5 _ _ t269 _ _ t272 t277 _ ?side1 ?side2 ?side3 ?side4 A20.out).mono ?_); (case side1 => exact cup (rR_q HO_5.out).2.2); (case side2 => exact (rR_q HO_5.out).2.1); (case side3 => exact cup (rR_q HO_6.out).2.2); (case side4 => exact (rR_q HO_6.out).2.1); rintro e w' ⟨rfl, ⟨nd, rfl⟩⟩; (try first | exact ⟨rfl, _, wD_q _ _ _⟩ | exact ⟨rfl, _, Eq.trans (wD_q _ _ _) (congrArg (World.drewN _) (nA_q _ _ _))⟩))))
    go_ret
    exact ⟨m8_q, bel HB.out⟩
   replace c19 := fM_q.mpr c19
   subst c19
   have H1 : (laws_FnRecallBatches.l0 kj5 t265 t268 t269 0 0) = some r := by rw [if_neg (show ¬ (false = true) by decide)] at H; exact H
   clear H
   have H := H1
   clear H1
   have H' := Ae_q H
   clear H
   go_wp2
   repeat (go_quiet (fail); try go_wp2)
   go_loopg [7, 8] kj5 (fun kq v7 v8 w' => ∃ (x7_2 : Int) (x8_2 : Int), v7 = .int .i64 x7_2 ∧ v8 = .int .i64 x8_2 ∧ Aside0 (laws_FnRecallBatches.l0 kq t265 t268 t269 x7_2 x8_2 = some r) ∧ Aside0 (kq ≤ kj5) ∧ Aside0 (Kd.N k39 39 w' w.heap.size (fun k_ => some k_ ≠ (v270 : Value).ownBlock) (.slice Ao8 t265.length co8) t265) ∧ Aside0 (Kd.R (Kd.int .i64) 3 w' w.heap.size (fun _ => True) v270 t269) ∧ Aside0 (Below w.heap.size w w'))
   case atStart => exact ⟨(0), (0), m4_q, m4_q, H', ⟨nR_q _⟩, ⟨by (with_reducible repeat (first | apply Kd.N_alloc | apply Kd.N_drewN | apply Kd.N_drew)); exact Kd.N_mono HO_3.out (fun _ hk => hk.1)⟩, ⟨by (with_reducible repeat (first | apply rA_q | apply rN_q | apply rD_q)); exact rM_q HO_5.out (fun _ hk => trivial)⟩, ⟨bel HB.out⟩⟩
   case round =>
    clear H'
    try clear c1
    try clear c2
    try clear c2b0
    try clear c2b1
    try clear p2
    try clear c5
    try clear c12
    try clear c19
    try clear p2
    obtain ⟨x7_2, x8_2, rfl, rfl, HA, HK2, HO_3, HO_5, HB⟩ := hrel
    cases gk with
    | zero => exact absurd HA.out (by simp [laws_FnRecallBatches.l0])
    | succ k2 =>
     have H := HA.out
     clear HA
     simp only [laws_FnRecallBatches.l0] at H
     by_cases c23 : x8_2 < (t265.length : Int)
     rotate_left
     ·rw [if_neg c23] at H
      have c23b0 : decide (x8_2 < (t265.length : Int)) = false := dF_q c23
      clear c23
      obtain rfl := oI_q H
      obtain ⟨Ao34, co34, eo34⟩ := rS_q HO_5.out
      subst eo34
      go_wp2
      repeat (go_quiet (fail); try go_wp2)
      go_ret
      exact ⟨m8_q, bel HB.out⟩
     rw [if_pos c23] at H
     have c23b0 : decide (x8_2 < (t265.length : Int)) = true := dT_q c23
     clear c23
     by_cases c24 : 0 ≤ x8_2
     rotate_left
     ·rw [if_neg c24] at H
      exact absurd H (by simp)
     rw [if_pos c24] at H
     have c24b0 : decide (0 ≤ x8_2) = true := dT_q c24
     clear c24
     replace H := oB_q.mp H
     obtain ⟨t279, A250, H⟩ := H
     replace H : (if t279 = true then (if x7_2 ≥ (t269.length : Int) then (some false) else (if 0 ≤ x7_2 then (if x7_2 < (t269.length : Int) then (if (rd t269 x7_2) = ((rd_T39 t265 x8_2).f0) then (laws_FnRecallBatches.l0 k2 t265 t268 t269 (wrap64 (x7_2 + 1)) (wrap64 (x8_2 + 1))) else (some false)) else (none)) else (none))) else (laws_FnRecallBatches.l0 k2 t265 t268 t269 x7_2 (wrap64 (x8_2 + 1)))) = some r := H
     have A25 := Ae_q A250
     clear A250
     by_cases c26 : t279 = true
     rotate_left
     ·replace c26 := fM_q.mpr c26
      subst c26
      have H1 : (laws_FnRecallBatches.l0 k2 t265 t268 t269 x7_2 (wrap64 (x8_2 + 1))) = some r := by rw [if_neg (show ¬ (false = true) by decide)] at H; exact H
      clear H
      have H := H1
      clear H1
      have H' := Ae_q H
      clear H
      have p278 : 0 ≤ (x8_2 : Int) := oD_q (by assumption)
      have q278 : x8_2 < (t265.length : Int) := oD_q (by assumption)
      obtain ⟨ad278, A278_1, c278_1, e278, hx278_0, hx278_1, hx278_2, hx278_3, hl278_1, hi278_1⟩ := at_T39 (Kd.N_reads' HO_3.out).2.2 x8_2 p278 q278
      cases e278
      obtain ⟨ce278, hce278, hMe278, hcc278⟩ := Kd.N_get HO_3.out z39 x8_2 p278 (by first | exact q278 | exact oD_q (by assumption) | (have e_ := (Kd.N_reads' HO_3.out).1; omega))
      obtain ⟨ua278_1, uc278_1, rfl, ul278_1, ge278_1⟩ := k39_openF hMe278
      have hv278_1 := hcc278 1 _ rfl
      rw [add_field _ _ 1 (by omega)] at hv278_1
      replace hv278_1 := oI_q (hv278_1.symm.trans hx278_1)
      injection hv278_1 with hva_ hvn_ hvc_
      rw [hva_] at ge278_1
      rw [hvc_] at ul278_1
      have HL278_1 := Ae_q (show Kd.V (Kd.int .i64) 3 _ w.heap.size _ _ ((rd_T39 t265 x8_2).f1) from Kd.V_mk ul278_1 ge278_1)
      clear hva_ hvn_ hvc_ ge278_1 ul278_1
      clear hcc278 hce278
      have HR278_1 := Ae_q hi278_1
      have HC278_1 := Ae_q hl278_1
      clear hi278_1 hl278_1
      replace p278 := eq_true p278
      replace q278 := eq_true q278
      go_wp2_with (first | (go_at_call 24; (with_reducible refine (laws_hasInt.calls k2 _ _ ((rd_T39 t265 x8_2).f1) t268 false _ ?side1 ?side2 A25.out).mono ?_); (case side1 => exact m41_q); (case side2 => exact m32_q); rintro e w' ⟨rfl, ⟨nd, rfl⟩⟩; (try first | exact ⟨rfl, _, wD_q _ _ _⟩ | exact ⟨rfl, _, Eq.trans (wD_q _ _ _) (congrArg (World.drewN _) (nA_q _ _ _))⟩)))
      repeat (go_quiet (first | (go_at_call 24; (with_reducible refine (laws_hasInt.calls k2 _ _ ((rd_T39 t265 x8_2).f1) t268 false _ ?side1 ?side2 A25.out).mono ?_); (case side1 => exact m41_q); (case side2 => exact m32_q); rintro e w' ⟨rfl, ⟨nd, rfl⟩⟩; (try first | exact ⟨rfl, _, wD_q _ _ _⟩ | exact ⟨rfl, _, Eq.trans (wD_q _ _ _) (congrArg (World.drewN _) (nA_q _ _ _))⟩))); try go_wp2_with (first | (go_at_call 24; (with_reducible refine (laws_hasInt.calls k2 _ _ ((rd_T39 t265 x8_2).f1) t268 false _ ?side1 ?side2 A25.out).mono ?_); (case side1 => exact m41_q); (case side2 => exact m32_q); rintro e w' ⟨rfl, ⟨nd, rfl⟩⟩; (try first | exact ⟨rfl, _, wD_q _ _ _⟩ | exact ⟨rfl, _, Eq.trans (wD_q _ _ _) (congrArg (World.drewN _) (nA_q _ _ _))⟩))))
      go_roundg k2
      case measure => have := HJ5.out; have := HK2.out; omega
      case rel => exact ⟨(x7_2), (wrap64 (x8_2 + 1)), m4_q, m4_q, H', ⟨by have := HJ5.out; have := HK2.out; omega⟩, ⟨m24_q⟩, ⟨rup HO_5.out⟩, ⟨bel HB.out⟩⟩
     subst c26
     have H1 : (if x7_2 ≥ (t269.length : Int) then (some false) else (if 0 ≤ x7_2 then (if x7_2 < (t269.length : Int) then (if (rd t269 x7_2) = ((rd_T39 t265 x8_2).f0) then (laws_FnRecallBatches.l0 k2 t265 t268 t269 (wrap64 (x7_2 + 1)) (wrap64 (x8_2 + 1))) else (some false)) else (none)) else (none))) = some r := by rw [if_pos rfl] at H; exact H
     clear H
     have H := H1
     clear H1
     by_cases c27 : x7_2 ≥ (t269.length : Int)
     ·rw [if_pos c27] at H
      have c27b0 : decide ((t269.length : Int) ≤ x7_2) = true := dT_q c27
      clear c27
      obtain rfl := oI_q H
      have p278 : 0 ≤ (x8_2 : Int) := oD_q (by assumption)
      have q278 : x8_2 < (t265.length : Int) := oD_q (by assumption)
      obtain ⟨ad278, A278_1, c278_1, e278, hx278_0, hx278_1, hx278_2, hx278_3, hl278_1, hi278_1⟩ := at_T39 (Kd.N_reads' HO_3.out).2.2 x8_2 p278 q278
      cases e278
      obtain ⟨ce278, hce278, hMe278, hcc278⟩ := Kd.N_get HO_3.out z39 x8_2 p278 (by first | exact q278 | exact oD_q (by assumption) | (have e_ := (Kd.N_reads' HO_3.out).1; omega))
      obtain ⟨ua278_1, uc278_1, rfl, ul278_1, ge278_1⟩ := k39_openF hMe278
      have hv278_1 := hcc278 1 _ rfl
      rw [add_field _ _ 1 (by omega)] at hv278_1
      replace hv278_1 := oI_q (hv278_1.symm.trans hx278_1)
      injection hv278_1 with hva_ hvn_ hvc_
      rw [hva_] at ge278_1
      rw [hvc_] at ul278_1
      have HL278_1 := Ae_q (show Kd.V (Kd.int .i64) 3 _ w.heap.size _ _ ((rd_T39 t265 x8_2).f1) from Kd.V_mk ul278_1 ge278_1)
      clear hva_ hvn_ hvc_ ge278_1 ul278_1
      clear hcc278 hce278
      have HR278_1 := Ae_q hi278_1
      have HC278_1 := Ae_q hl278_1
      clear hi278_1 hl278_1
      replace p278 := eq_true p278
      replace q278 := eq_true q278
      go_wp2_with (first | (go_at_call 24; (with_reducible refine (laws_hasInt.calls k2 _ _ ((rd_T39 t265 x8_2).f1) t268 true _ ?side1 ?side2 A25.out).mono ?_); (case side1 => exact m41_q); (case side2 => exact m32_q); rintro e w' ⟨rfl, ⟨nd, rfl⟩⟩; (try first | exact ⟨rfl, _, wD_q _ _ _⟩ | exact ⟨rfl, _, Eq.trans (wD_q _ _ _) (congrArg (World.drewN _) (nA_q _ _ _))⟩); obtain ⟨Ao28, co28, eo28⟩ := rS_q HO_5.out; subst eo28))
      repeat (go_quiet (first | (go_at_call 24; (with_reducible refine (laws_hasInt.calls k2 _ _ ((rd_T39 t265 x8_2).f1) t268 true _ ?side1 ?side2 A25.out).mono ?_); (case side1 => exact m41_q); (case side2 => exact m32_q); rintro e w' ⟨rfl, ⟨nd, rfl⟩⟩; (try first | exact ⟨rfl, _, wD_q _ _ _⟩ | exact ⟨rfl, _, Eq.trans (wD_q _ _ _) (congrArg (World.drewN _) (nA_q _ _ _))⟩); obtain ⟨Ao28, co28, eo28⟩ := rS_q HO_5.out; subst eo28)); try go_wp2_with (first | (go_at_call 24; (with_reducible refine (laws_hasInt.calls k2 _ _ ((rd_T39 t265 x8_2).f1) t268 true _ ?side1 ?side2 A25.out).mono ?_); (case side1 => exact m41_q); (case side2 => exact m32_q); rintro e w' ⟨rfl, ⟨nd, rfl⟩⟩; (try first | exact ⟨rfl, _, wD_q _ _ _⟩ | exact ⟨rfl, _, Eq.trans (wD_q _ _ _) (congrArg (World.drewN _) (nA_q _ _ _))⟩); obtain ⟨Ao28, co28, eo28⟩ := rS_q HO_5.out; subst eo28)))
      go_ret
      exact ⟨m8_q, bel HB.out⟩
     rw [if_neg c27] at H
     have c27b0 : decide ((t269.length : Int) ≤ x7_2) = false := dF_q c27
     clear c27
     by_cases c29 : 0 ≤ x7_2
     rotate_left
     ·rw [if_neg c29] at H
      exact absurd H (by simp)
     rw [if_pos c29] at H
     have c29b0 : decide (0 ≤ x7_2) = true := dT_q c29
     clear c29
     by_cases c30 : x7_2 < (t269.length : Int)
     rotate_left
     ·rw [if_neg c30] at H
      exact absurd H (by simp)
     rw [if_pos c30] at H
     have c30b0 : decide (x7_2 < (t269.length : Int)) = true := dT_q c30
     clear c30
     by_cases c31 : (rd t269 x7_2) = ((rd_T39 t265 x8_2).f0)
     rotate_left
     ·rw [if_neg c31] at H
      have c31b0 : ((rd t269 x7_2) == ((rd_T39 t265 x8_2).f0)) = false := fN_q.mpr c31
      have c31b1 : ((rd t269 x7_2) != ((rd_T39 t265 x8_2).f0)) = true := nI_q.mpr c31
      obtain rfl := oI_q H
      have p278 : 0 ≤ (x8_2 : Int) := oD_q (by assumption)
      have q278 : x8_2 < (t265.length : Int) := oD_q (by assumption)
      obtain ⟨ad278, A278_1, c278_1, e278, hx278_0, hx278_1, hx278_2, hx278_3, hl278_1, hi278_1⟩ := at_T39 (Kd.N_reads' HO_3.out).2.2 x8_2 p278 q278
      cases e278
      obtain ⟨ce278, hce278, hMe278, hcc278⟩ := Kd.N_get HO_3.out z39 x8_2 p278 (by first | exact q278 | exact oD_q (by assumption) | (have e_ := (Kd.N_reads' HO_3.out).1; omega))
      obtain ⟨ua278_1, uc278_1, rfl, ul278_1, ge278_1⟩ := k39_openF hMe278
      have hv278_1 := hcc278 1 _ rfl
      rw [add_field _ _ 1 (by omega)] at hv278_1
      replace hv278_1 := oI_q (hv278_1.symm.trans hx278_1)
      injection hv278_1 with hva_ hvn_ hvc_
      rw [hva_] at ge278_1
      rw [hvc_] at ul278_1
      have HL278_1 := Ae_q (show Kd.V (Kd.int .i64) 3 _ w.heap.size _ _ ((rd_T39 t265 x8_2).f1) from Kd.V_mk ul278_1 ge278_1)
      clear hva_ hvn_ hvc_ ge278_1 ul278_1
      clear hcc278 hce278
      have HR278_1 := Ae_q hi278_1
      have HC278_1 := Ae_q hl278_1
      clear hi278_1 hl278_1
      replace p278 := eq_true p278
      replace q278 := eq_true q278
      go_wp2_with (first | (go_at_call 24; (with_reducible refine (laws_hasInt.calls k2 _ _ ((rd_T39 t265 x8_2).f1) t268 true _ ?side1 ?side2 A25.out).mono ?_); (case side1 => exact m41_q); (case side2 => exact m32_q); rintro e w' ⟨rfl, ⟨nd, rfl⟩⟩; (try first | exact ⟨rfl, _, wD_q _ _ _⟩ | exact ⟨rfl, _, Eq.trans (wD_q _ _ _) (congrArg (World.drewN _) (nA_q _ _ _))⟩); obtain ⟨Ao33, co33, eo33⟩ := rS_q HO_5.out; subst eo33; have p280 : 0 ≤ (x7_2 : Int) := oD_q (by assumption); have q280 : x7_2 < (t269.length : Int) := oD_q (by assumption); obtain ⟨ad280, e280, hx280_0⟩ := aI_q (rR_q HO_5.out).2.2 x7_2 p280 q280; cases e280; replace p280 := eq_true p280; replace q280 := eq_true q280; have p281 : 0 ≤ (x8_2 : Int) := oD_q (by assumption); have q281 : x8_2 < (t265.length : Int) := oD_q (by assumption); obtain ⟨ad281, A281_1, c281_1, e281, hx281_0, hx281_1, hx281_2, hx281_3, hl281_1, hi281_1⟩ := at_T39 (Kd.N_reads' HO_3.out).2.2 x8_2 p281 q281; obtain rfl : ad278 = ad281 := (by injection e281); obtain ⟨ce281, hce281, hMe281, hcc281⟩ := Kd.N_get HO_3.out z39 x8_2 p281 (by first | exact q281 | exact oD_q (by assumption) | (have e_ := (Kd.N_reads' HO_3.out).1; omega)); obtain ⟨ua281_1, uc281_1, rfl, ul281_1, ge281_1⟩ := k39_openF hMe281; have hv281_1 := hcc281 1 _ rfl; rw [add_field _ _ 1 (by omega)] at hv281_1; replace hv281_1 := oI_q (hv281_1.symm.trans hx281_1); injection hv281_1 with hva_ hvn_ hvc_; rw [hva_] at ge281_1; rw [hvc_] at ul281_1; have HL281_1 := Ae_q (show Kd.V (Kd.int .i64) 3 _ w.heap.size _ _ ((rd_T39 t265 x8_2).f1) from Kd.V_mk ul281_1 ge281_1); clear hva_ hvn_ hvc_ ge281_1 ul281_1; clear hcc281 hce281; have HR281_1 := Ae_q hi281_1; have HC281_1 := Ae_q hl281_1; clear hi281_1 hl281_1; replace p281 := eq_true p281; replace q281 := eq_true q281; have ea_ := oI_q (hx278_1.symm.trans hx281_1); injection ea_ with ea_ en_ ec_; subst ea_; subst ec_; clear en_))
      repeat (go_quiet (first | (go_at_call 24; (with_reducible refine (laws_hasInt.calls k2 _ _ ((rd_T39 t265 x8_2).f1) t268 true _ ?side1 ?side2 A25.out).mono ?_); (case side1 => exact m41_q); (case side2 => exact m32_q); rintro e w' ⟨rfl, ⟨nd, rfl⟩⟩; (try first | exact ⟨rfl, _, wD_q _ _ _⟩ | exact ⟨rfl, _, Eq.trans (wD_q _ _ _) (congrArg (World.drewN _) (nA_q _ _ _))⟩); obtain ⟨Ao33, co33, eo33⟩ := rS_q HO_5.out; subst eo33; have p280 : 0 ≤ (x7_2 : Int) := oD_q (by assumption); have q280 : x7_2 < (t269.length : Int) := oD_q (by assumption); obtain ⟨ad280, e280, hx280_0⟩ := aI_q (rR_q HO_5.out).2.2 x7_2 p280 q280; cases e280; replace p280 := eq_true p280; replace q280 := eq_true q280; have p281 : 0 ≤ (x8_2 : Int) := oD_q (by assumption); have q281 : x8_2 < (t265.length : Int) := oD_q (by assumption); obtain ⟨ad281, A281_1, c281_1, e281, hx281_0, hx281_1, hx281_2, hx281_3, hl281_1, hi281_1⟩ := at_T39 (Kd.N_reads' HO_3.out).2.2 x8_2 p281 q281; obtain rfl : ad278 = ad281 := (by injection e281); obtain ⟨ce281, hce281, hMe281, hcc281⟩ := Kd.N_get HO_3.out z39 x8_2 p281 (by first | exact q281 | exact oD_q (by assumption) | (have e_ := (Kd.N_reads' HO_3.out).1; omega)); obtain ⟨ua281_1, uc281_1, rfl, ul281_1, ge281_1⟩ := k39_openF hMe281; have hv281_1 := hcc281 1 _ rfl; rw [add_field _ _ 1 (by omega)] at hv281_1; replace hv281_1 := oI_q (hv281_1.symm.trans hx281_1); injection hv281_1 with hva_ hvn_ hvc_; rw [hva_] at ge281_1; rw [hvc_] at ul281_1; have HL281_1 := Ae_q (show Kd.V (Kd.int .i64) 3 _ w.heap.size _ _ ((rd_T39 t265 x8_2).f1) from Kd.V_mk ul281_1 ge281_1); clear hva_ hvn_ hvc_ ge281_1 ul281_1; clear hcc281 hce281; have HR281_1 := Ae_q hi281_1; have HC281_1 := Ae_q hl281_1; clear hi281_1 hl281_1; replace p281 := eq_true p281; replace q281 := eq_true q281; have ea_ := oI_q (hx278_1.symm.trans hx281_1); injection ea_ with ea_ en_ ec_; subst ea_; subst ec_; clear en_)); try go_wp2_with (first | (go_at_call 24; (with_reducible refine (laws_hasInt.calls k2 _ _ ((rd_T39 t265 x8_2).f1) t268 true _ ?side1 ?side2 A25.out).mono ?_); (case side1 => exact m41_q); (case side2 => exact m32_q); rintro e w' ⟨rfl, ⟨nd, rfl⟩⟩; (try first | exact ⟨rfl, _, wD_q _ _ _⟩ | exact ⟨rfl, _, Eq.trans (wD_q _ _ _) (congrArg (World.drewN _) (nA_q _ _ _))⟩); obtain ⟨Ao33, co33, eo33⟩ := rS_q HO_5.out; subst eo33; have p280 : 0 ≤ (x7_2 : Int) := oD_q (by assumption); have q280 : x7_2 < (t269.length : Int) := oD_q (by assumption); obtain ⟨ad280, e280, hx280_0⟩ := aI_q (rR_q HO_5.out).2.2 x7_2 p280 q280; cases e280; replace p280 := eq_true p280; replace q280 := eq_true q280; have p281 : 0 ≤ (x8_2 : Int) := oD_q (by assumption); have q281 : x8_2 < (t265.length : Int) := oD_q (by assumption); obtain ⟨ad281, A281_1, c281_1, e281, hx281_0, hx281_1, hx281_2, hx281_3, hl281_1, hi281_1⟩ := at_T39 (Kd.N_reads' HO_3.out).2.2 x8_2 p281 q281; obtain rfl : ad278 = ad281 := (by injection e281); obtain ⟨ce281, hce281, hMe281, hcc281⟩ := Kd.N_get HO_3.out z39 x8_2 p281 (by first | exact q281 | exact oD_q (by assumption) | (have e_ := (Kd.N_reads' HO_3.out).1; omega)); obtain ⟨ua281_1, uc281_1, rfl, ul281_1, ge281_1⟩ := k39_openF hMe281; have hv281_1 := hcc281 1 _ rfl; rw [add_field _ _ 1 (by omega)] at hv281_1; replace hv281_1 := oI_q (hv281_1.symm.trans hx281_1); injection hv281_1 with hva_ hvn_ hvc_; rw [hva_] at ge281_1; rw [hvc_] at ul281_1; have HL281_1 := Ae_q (show Kd.V (Kd.int .i64) 3 _ w.heap.size _ _ ((rd_T39 t265 x8_2).f1) from Kd.V_mk ul281_1 ge281_1); clear hva_ hvn_ hvc_ ge281_1 ul281_1; clear hcc281 hce281; have HR281_1 := Ae_q hi281_1; have HC281_1 := Ae_q hl281_1; clear hi281_1 hl281_1; replace p281 := eq_true p281; replace q281 := eq_true q281; have ea_ := oI_q (hx278_1.symm.trans hx281_1); injection ea_ with ea_ en_ ec_; subst ea_; subst ec_; clear en_)))
      go_ret
      exact ⟨m8_q, bel HB.out⟩
     rw [if_pos c31] at H
     have c31b0 : ((rd t269 x7_2) == ((rd_T39 t265 x8_2).f0)) = true := beq_iff_eq.mpr c31
     have c31b1 : ((rd t269 x7_2) != ((rd_T39 t265 x8_2).f0)) = false := nE_q.mpr c31
     clear c31
     have H' := Ae_q H
     clear H
     have p278 : 0 ≤ (x8_2 : Int) := oD_q (by assumption)
     have q278 : x8_2 < (t265.length : Int) := oD_q (by assumption)
     obtain ⟨ad278, A278_1, c278_1, e278, hx278_0, hx278_1, hx278_2, hx278_3, hl278_1, hi278_1⟩ := at_T39 (Kd.N_reads' HO_3.out).2.2 x8_2 p278 q278
     cases e278
     obtain ⟨ce278, hce278, hMe278, hcc278⟩ := Kd.N_get HO_3.out z39 x8_2 p278 (by first | exact q278 | exact oD_q (by assumption) | (have e_ := (Kd.N_reads' HO_3.out).1; omega))
     obtain ⟨ua278_1, uc278_1, rfl, ul278_1, ge278_1⟩ := k39_openF hMe278
     have hv278_1 := hcc278 1 _ rfl
     rw [add_field _ _ 1 (by omega)] at hv278_1
     replace hv278_1 := oI_q (hv278_1.symm.trans hx278_1)
     injection hv278_1 with hva_ hvn_ hvc_
     rw [hva_] at ge278_1
     rw [hvc_] at ul278_1
     have HL278_1 := Ae_q (show Kd.V (Kd.int .i64) 3 _ w.heap.size _ _ ((rd_T39 t265 x8_2).f1) from Kd.V_mk ul278_1 ge278_1)
     clear hva_ hvn_ hvc_ ge278_1 ul278_1
     clear hcc278 hce278
     have HR278_1 := Ae_q hi278_1
     have HC278_1 := Ae_q hl278_1
     clear hi278_1 hl278_1
     replace p278 := eq_true p278
     replace q278 := eq_true q278
     go_wp2_with (first | (go_at_call 24; (with_reducible refine (laws_hasInt.calls k2 _ _ ((rd_T39 t265 x8_2).f1) t268 true _ ?side1 ?side2 A25.out).mono ?_); (case side1 => exact m41_q); (case side2 => exact m32_q); rintro e w' ⟨rfl, ⟨nd, rfl⟩⟩; (try first | exact ⟨rfl, _, wD_q _ _ _⟩ | exact ⟨rfl, _, Eq.trans (wD_q _ _ _) (congrArg (World.drewN _) (nA_q _ _ _))⟩); obtain ⟨Ao32, co32, eo32⟩ := rS_q HO_5.out; subst eo32; have p280 : 0 ≤ (x7_2 : Int) := oD_q (by assumption); have q280 : x7_2 < (t269.length : Int) := oD_q (by assumption); obtain ⟨ad280, e280, hx280_0⟩ := aI_q (rR_q HO_5.out).2.2 x7_2 p280 q280; cases e280; replace p280 := eq_true p280; replace q280 := eq_true q280; have p281 : 0 ≤ (x8_2 : Int) := oD_q (by assumption); have q281 : x8_2 < (t265.length : Int) := oD_q (by assumption); obtain ⟨ad281, A281_1, c281_1, e281, hx281_0, hx281_1, hx281_2, hx281_3, hl281_1, hi281_1⟩ := at_T39 (Kd.N_reads' HO_3.out).2.2 x8_2 p281 q281; obtain rfl : ad278 = ad281 := (by injection e281); obtain ⟨ce281, hce281, hMe281, hcc281⟩ := Kd.N_get HO_3.out z39 x8_2 p281 (by first | exact q281 | exact oD_q (by assumption) | (have e_ := (Kd.N_reads' HO_3.out).1; omega)); obtain ⟨ua281_1, uc281_1, rfl, ul281_1, ge281_1⟩ := k39_openF hMe281; have hv281_1 := hcc281 1 _ rfl; rw [add_field _ _ 1 (by omega)] at hv281_1; replace hv281_1 := oI_q (hv281_1.symm.trans hx281_1); injection hv281_1 with hva_ hvn_ hvc_; rw [hva_] at ge281_1; rw [hvc_] at ul281_1; have HL281_1 := Ae_q (show Kd.V (Kd.int .i64) 3 _ w.heap.size _ _ ((rd_T39 t265 x8_2).f1) from Kd.V_mk ul281_1 ge281_1); clear hva_ hvn_ hvc_ ge281_1 ul281_1; clear hcc281 hce281; have HR281_1 := Ae_q hi281_1; have HC281_1 := Ae_q hl281_1; clear hi281_1 hl281_1; replace p281 := eq_true p281; replace q281 := eq_true q281; have ea_ := oI_q (hx278_1.symm.trans hx281_1); injection ea_ with ea_ en_ ec_; subst ea_; subst ec_; clear en_))
     repeat (go_quiet (first | (go_at_call 24; (with_reducible refine (laws_hasInt.calls k2 _ _ ((rd_T39 t265 x8_2).f1) t268 true _ ?side1 ?side2 A25.out).mono ?_); (case side1 => exact m41_q); (case side2 => exact m32_q); rintro e w' ⟨rfl, ⟨nd, rfl⟩⟩; (try first | exact ⟨rfl, _, wD_q _ _ _⟩ | exact ⟨rfl, _, Eq.trans (wD_q _ _ _) (congrArg (World.drewN _) (nA_q _ _ _))⟩); obtain ⟨Ao32, co32, eo32⟩ := rS_q HO_5.out; subst eo32; have p280 : 0 ≤ (x7_2 : Int) := oD_q (by assumption); have q280 : x7_2 < (t269.length : Int) := oD_q (by assumption); obtain ⟨ad280, e280, hx280_0⟩ := aI_q (rR_q HO_5.out).2.2 x7_2 p280 q280; cases e280; replace p280 := eq_true p280; replace q280 := eq_true q280; have p281 : 0 ≤ (x8_2 : Int) := oD_q (by assumption); have q281 : x8_2 < (t265.length : Int) := oD_q (by assumption); obtain ⟨ad281, A281_1, c281_1, e281, hx281_0, hx281_1, hx281_2, hx281_3, hl281_1, hi281_1⟩ := at_T39 (Kd.N_reads' HO_3.out).2.2 x8_2 p281 q281; obtain rfl : ad278 = ad281 := (by injection e281); obtain ⟨ce281, hce281, hMe281, hcc281⟩ := Kd.N_get HO_3.out z39 x8_2 p281 (by first | exact q281 | exact oD_q (by assumption) | (have e_ := (Kd.N_reads' HO_3.out).1; omega)); obtain ⟨ua281_1, uc281_1, rfl, ul281_1, ge281_1⟩ := k39_openF hMe281; have hv281_1 := hcc281 1 _ rfl; rw [add_field _ _ 1 (by omega)] at hv281_1; replace hv281_1 := oI_q (hv281_1.symm.trans hx281_1); injection hv281_1 with hva_ hvn_ hvc_; rw [hva_] at ge281_1; rw [hvc_] at ul281_1; have HL281_1 := Ae_q (show Kd.V (Kd.int .i64) 3 _ w.heap.size _ _ ((rd_T39 t265 x8_2).f1) from Kd.V_mk ul281_1 ge281_1); clear hva_ hvn_ hvc_ ge281_1 ul281_1; clear hcc281 hce281; have HR281_1 := Ae_q hi281_1; have HC281_1 := Ae_q hl281_1; clear hi281_1 hl281_1; replace p281 := eq_true p281; replace q281 := eq_true q281; have ea_ := oI_q (hx278_1.symm.trans hx281_1); injection ea_ with ea_ en_ ec_; subst ea_; subst ec_; clear en_)); try go_wp2_with (first | (go_at_call 24; (with_reducible refine (laws_hasInt.calls k2 _ _ ((rd_T39 t265 x8_2).f1) t268 true _ ?side1 ?side2 A25.out).mono ?_); (case side1 => exact m41_q); (case side2 => exact m32_q); rintro e w' ⟨rfl, ⟨nd, rfl⟩⟩; (try first | exact ⟨rfl, _, wD_q _ _ _⟩ | exact ⟨rfl, _, Eq.trans (wD_q _ _ _) (congrArg (World.drewN _) (nA_q _ _ _))⟩); obtain ⟨Ao32, co32, eo32⟩ := rS_q HO_5.out; subst eo32; have p280 : 0 ≤ (x7_2 : Int) := oD_q (by assumption); have q280 : x7_2 < (t269.length : Int) := oD_q (by assumption); obtain ⟨ad280, e280, hx280_0⟩ := aI_q (rR_q HO_5.out).2.2 x7_2 p280 q280; cases e280; replace p280 := eq_true p280; replace q280 := eq_true q280; have p281 : 0 ≤ (x8_2 : Int) := oD_q (by assumption); have q281 : x8_2 < (t265.length : Int) := oD_q (by assumption); obtain ⟨ad281, A281_1, c281_1, e281, hx281_0, hx281_1, hx281_2, hx281_3, hl281_1, hi281_1⟩ := at_T39 (Kd.N_reads' HO_3.out).2.2 x8_2 p281 q281; obtain rfl : ad278 = ad281 := (by injection e281); obtain ⟨ce281, hce281, hMe281, hcc281⟩ := Kd.N_get HO_3.out z39 x8_2 p281 (by first | exact q281 | exact oD_q (by assumption) | (have e_ := (Kd.N_reads' HO_3.out).1; omega)); obtain ⟨ua281_1, uc281_1, rfl, ul281_1, ge281_1⟩ := k39_openF hMe281; have hv281_1 := hcc281 1 _ rfl; rw [add_field _ _ 1 (by omega)] at hv281_1; replace hv281_1 := oI_q (hv281_1.symm.trans hx281_1); injection hv281_1 with hva_ hvn_ hvc_; rw [hva_] at ge281_1; rw [hvc_] at ul281_1; have HL281_1 := Ae_q (show Kd.V (Kd.int .i64) 3 _ w.heap.size _ _ ((rd_T39 t265 x8_2).f1) from Kd.V_mk ul281_1 ge281_1); clear hva_ hvn_ hvc_ ge281_1 ul281_1; clear hcc281 hce281; have HR281_1 := Ae_q hi281_1; have HC281_1 := Ae_q hl281_1; clear hi281_1 hl281_1; replace p281 := eq_true p281; replace q281 := eq_true q281; have ea_ := oI_q (hx278_1.symm.trans hx281_1); injection ea_ with ea_ en_ ec_; subst ea_; subst ec_; clear en_)))
     go_roundg k2
     case measure => have := HJ5.out; have := HK2.out; omega
     case rel => exact ⟨(wrap64 (x7_2 + 1)), (wrap64 (x8_2 + 1)), m4_q, m4_q, H', ⟨by have := HJ5.out; have := HK2.out; omega⟩, ⟨m24_q⟩, ⟨rup HO_5.out⟩, ⟨bel HB.out⟩⟩

def laws_FnRecallBatches.Pure : Prop := ∀ (l0 : List Int), l0.length ≤ maxLen → l0.length * 1 ≤ 140737488351232 → (∀ x ∈ l0, (Lit.int .u8 x).wf = true) → ∃ k, laws_FnRecallBatches.f k l0 = some true
theorem laws_FnRecallBatches.walk (P : laws_FnRecallBatches.Pure) (a0 : Option Addr) (len0 cap0 : Nat) (z0 : List Int) (w : World) (w0 : (a0 = none ∧ len0 = 0 ∧ cap0 = 0 ∧ z0 = []) ∨ ∃ x, a0 = some x ∧ len0 ≤ cap0 ∧ cap0 ≤ maxLen ∧ z0.length = cap0 ∧ (∀ i, i < z0.length → w.cell? (x.add i) = some (.int .u8 (z0.getD i 0))) ∧ ∀ n ∈ z0, (Lit.int .u8 n).wf = true) (y0 : len0 * 1 ≤ 140737488351232) :
    Calls Try.prog 5 #[.slice a0 len0 cap0] w fun e w' => e = .returned (.bool true) ∧ Below w.heap.size w w' := by
 obtain ⟨l0, rfl, hr0, hm0, hw0, hc0⟩ := ReadsInt.ofRowC w0
 obtain ⟨k, h⟩ := P l0 hm0 y0 hw0
 refine (laws_FnRecallBatches.calls k _ _ l0 true w (Kd.C_of_reads (d := (0 : Int)) (h1 := fun _ => rfl) hr0) hc0 h).mono ?_
 rintro e w' ⟨rfl, hd⟩
 exact ⟨rfl, hd⟩

end Go.Proofs.Ytnckblolijkdaaa.PBt
