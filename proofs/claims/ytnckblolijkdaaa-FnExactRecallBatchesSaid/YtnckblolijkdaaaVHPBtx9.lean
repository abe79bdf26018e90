import Derived.Test.YtnckblolijkdaaaVHPBtx0
import Derived.Test.YtnckblolijkdaaaVHPBtx1
import Derived.Test.YtnckblolijkdaaaVHPBtx2
import Derived.Test.YtnckblolijkdaaaVHPBtx4
import Derived.Test.YtnckblolijkdaaaVHPBtx6
import Derived.Test.YtnckblolijkdaaaVHPBtx7
import Derived.Test.YtnckblolijkdaaaVHPBtx8
namespace Go.Proofs.Ytnckblolijkdaaa.PBt
open Go.RowKit Go.Proofs.YtnckblolijkdaaaW.PrintWords Go.Proofs.YtnckblolijkdaaaW.PrintLast Go.Proofs.YtnckblolijkdaaaW.PrintMore
attribute [local go_sem] max2_int min2_int max_two min_two max_three min_three max_four min_four
set_option linter.unusedVariables false
set_option linter.unusedSimpArgs false

def laws_FnExactRecallBatches.j0 : Nat → List (S69) → Int → List Int → List Int → Bool → Option (Bool)
 | 0, _, _, _, _, _ => none
 | k + 1, x0, x1, x6, x8, x46 => if x46 = true then (some false) else ((laws_markIntS.f k x8 1).bind fun bt203 => ((laws_heldIntS.f k bt203.2 1).bind fun t205 => (if t205 < 0 then (some false) else (if t205 = bt203.1 then ((laws_toBatchS.f k x0).bind fun t206 => ((impl_RecallBatches.f k t206 x1).bind fun t209 => ((laws_eqIntS.f k t209 x6).bind fun t212 => (if t212 = true then ((laws_heldIntS.f k bt203.2 1).bind fun t213 => (if t213 < 0 then (some false) else (if t213 = bt203.1 then (some true) else (some false)))) else (some false))))) else (some false)))))
def laws_FnExactRecallBatches.f (k : Nat) (l0 : List (S69)) (a1 : Int) : Option (Bool) := (laws_szBatchS.f k l0 1048576).bind fun t184 => (if t184 < 0 then (some true) else ((laws_toBatchS.f k l0).bind fun t185 => ((spec_RecallBatches.f k t185 a1).bind fun t188 => ((laws_toBatchS.f k l0).bind fun t191 => ((impl_RecallBatches.f k t191 a1).bind fun t194 => ((laws_eqIntS.f k t194 t188).bind fun t197 => (if t197 = true then ((laws_toBatchS.f k l0).bind fun t198 => ((laws_eqBatchS.f k t191 t198).bind fun t201 => (if t201 = true then (if (markBatchF t191 1) < 0 then (laws_FnExactRecallBatches.j0 k l0 a1 t188 t194 true) else ((laws_eqIntS.f k t194 t188).bind fun t202 => (laws_FnExactRecallBatches.j0 k l0 a1 t188 t194 (!t202)))) else (some false)))) else (some false))))))))
set_option maxHeartbeats 8000000 in
set_option maxRecDepth 100000 in
theorem laws_FnExactRecallBatches.calls (k : Nat) (A0 : Option Addr) (c0 : Nat) (l0 : List (S69)) (a1 : Int) (r : Bool) (w : World) (hr0 : Kd.C k69 w A0 l0.length l0) (hc0 : l0.length ≤ c0) (h : laws_FnExactRecallBatches.f k l0 a1 = some r) :
    Calls Try.prog 6 #[.slice A0 l0.length c0, .int .i64 a1] w fun e w' => e = .returned (.bool r) ∧ Below w.heap.size w w' := by
 have HR0 := Ae_q hr0
 have HC0 := Ae_q hc0
 clear hr0 hc0
 have HB := Ae_q (bR_q w.heap.size w)
 have H : ((laws_szBatchS.f k l0 1048576).bind fun t184 => (if t184 < 0 then (some true) else ((laws_toBatchS.f k l0).bind fun t185 => ((spec_RecallBatches.f k t185 a1).bind fun t188 => ((laws_toBatchS.f k l0).bind fun t191 => ((impl_RecallBatches.f k t191 a1).bind fun t194 => ((laws_eqIntS.f k t194 t188).bind fun t197 => (if t197 = true then ((laws_toBatchS.f k l0).bind fun t198 => ((laws_eqBatchS.f k t191 t198).bind fun t201 => (if t201 = true then (if (markBatchF t191 1) < 0 then (laws_FnExactRecallBatches.j0 k l0 a1 t188 t194 true) else ((laws_eqIntS.f k t194 t188).bind fun t202 => (laws_FnExactRecallBatches.j0 k l0 a1 t188 t194 (!t202)))) else (some false)))) else (some false))))))))) = some r := h
 clear h
 replace H := oB_q.mp H
 obtain ⟨t184, A30, H⟩ := H
 replace H : (if t184 < 0 then (some true) else ((laws_toBatchS.f k l0).bind fun t185 => ((spec_RecallBatches.f k t185 a1).bind fun t188 => ((laws_toBatchS.f k l0).bind fun t191 => ((impl_RecallBatches.f k t191 a1).bind fun t194 => ((laws_eqIntS.f k t194 t188).bind fun t197 => (if t197 = true then ((laws_toBatchS.f k l0).bind fun t198 => ((laws_eqBatchS.f k t191 t198).bind fun t201 => (if t201 = true then (if (markBatchF t191 1) < 0 then (laws_FnExactRecallBatches.j0 k l0 a1 t188 t194 true) else ((laws_eqIntS.f k t194 t188).bind fun t202 => (laws_FnExactRecallBatches.j0 k l0 a1 t188 t194 (!t202)))) else (some false)))) else (some false)))))))) = some r := H
 have A3 := Ae_q A30
 clear A30
 by_cases c4 : t184 < 0
 ·rw [if_pos c4] at H
  have c4b0 : decide (t184 < 0) = true := dT_q c4
  clear c4
  obtain rfl := oI_q H
  go_enter Try.func6, Try.ntmps6
  go_wp2_with (first | ((with_reducible refine gC_q (f := 17) rfl ?_); refine gL_q (some 15) rfl rfl Try.func17 m5_q rfl #[.slice A0 l0.length c0, .int .i64 1048576] rfl m0_q ?_; (with_reducible refine (laws_szBatchS.calls k _ _ l0 1048576 t184 _ ?side1 ?side2 A3.out).mono ?_); (case side1 => exact m16_q); (case side2 => exact m30_q); rintro e w' ⟨rfl, hb⟩; refine ⟨_, rfl, ?_⟩; replace HB := Ae_q (bT_q (bel HB.out) hb); (try clear hb); (try clear hb2); (try clear hk); (try clear hi)))
  go_ret
  exact ⟨m2_q, bel HB.out⟩
 rw [if_neg c4] at H
 have c4b0 : decide (t184 < 0) = false := dF_q c4
 clear c4
 replace H := oB_q.mp H
 obtain ⟨t185, A60, H⟩ := H
 replace H : ((spec_RecallBatches.f k t185 a1).bind fun t188 => ((laws_toBatchS.f k l0).bind fun t191 => ((impl_RecallBatches.f k t191 a1).bind fun t194 => ((laws_eqIntS.f k t194 t188).bind fun t197 => (if t197 = true then ((laws_toBatchS.f k l0).bind fun t198 => ((laws_eqBatchS.f k t191 t198).bind fun t201 => (if t201 = true then (if (markBatchF t191 1) < 0 then (laws_FnExactRecallBatches.j0 k l0 a1 t188 t194 true) else ((laws_eqIntS.f k t194 t188).bind fun t202 => (laws_FnExactRecallBatches.j0 k l0 a1 t188 t194 (!t202)))) else (some false)))) else (some false)))))) = some r := H
 have A6 := Ae_q A60
 clear A60
 replace H := oB_q.mp H
 obtain ⟨t188, A70, H⟩ := H
 replace H : ((laws_toBatchS.f k l0).bind fun t191 => ((impl_RecallBatches.f k t191 a1).bind fun t194 => ((laws_eqIntS.f k t194 t188).bind fun t197 => (if t197 = true then ((laws_toBatchS.f k l0).bind fun t198 => ((laws_eqBatchS.f k t191 t198).bind fun t201 => (if t201 = true then (if (markBatchF t191 1) < 0 then (laws_FnExactRecallBatches.j0 k l0 a1 t188 t194 true) else ((laws_eqIntS.f k t194 t188).bind fun t202 => (laws_FnExactRecallBatches.j0 k l0 a1 t188 t194 (!t202)))) else (some false)))) else (some false))))) = some r := H
 have A7 := Ae_q A70
 clear A70
 replace H := oB_q.mp H
 obtain ⟨t191, A80, H⟩ := H
 replace H : ((impl_RecallBatches.f k t191 a1).bind fun t194 => ((laws_eqIntS.f k t194 t188).bind fun t197 => (if t197 = true then ((laws_toBatchS.f k l0).bind fun t198 => ((laws_eqBatchS.f k t191 t198).bind fun t201 => (if t201 = true then (if (markBatchF t191 1) < 0 then (laws_FnExactRecallBatches.j0 k l0 a1 t188 t194 true) else ((laws_eqIntS.f k t194 t188).bind fun t202 => (laws_FnExactRecallBatches.j0 k l0 a1 t188 t194 (!t202)))) else (some false)))) else (some false)))) = some r := H
 have A8 := Ae_q A80
 clear A80
 replace H := oB_q.mp H
 obtain ⟨t194, A90, H⟩ := H
 replace H : ((laws_eqIntS.f k t194 t188).bind fun t197 => (if t197 = true then ((laws_toBatchS.f k l0).bind fun t198 => ((laws_eqBatchS.f k t191 t198).bind fun t201 => (if t201 = true then (if (markBatchF t191 1) < 0 then (laws_FnExactRecallBatches.j0 k l0 a1 t188 t194 true) else ((laws_eqIntS.f k t194 t188).bind fun t202 => (laws_FnExactRecallBatches.j0 k l0 a1 t188 t194 (!t202)))) else (some false)))) else (some false))) = some r := H
 have A9 := Ae_q A90
 clear A90
 replace H := oB_q.mp H
 obtain ⟨t197, A100, H⟩ := H
 replace H : (if t197 = true then ((laws_toBatchS.f k l0).bind fun t198 => ((laws_eqBatchS.f k t191 t198).bind fun t201 => (if t201 = true then (if (markBatchF t191 1) < 0 then (laws_FnExactRecallBatches.j0 k l0 a1 t188 t194 true) else ((laws_eqIntS.f k t194 t188).bind fun t202 => (laws_FnExactRecallBatches.j0 k l0 a1 t188 t194 (!t202)))) else (some false)))) else (some false)) = some r := H
 have A10 := Ae_q A100
 clear A100
 by_cases c11 : t197 = true
 rotate_left
 ·replace c11 := fM_q.mpr c11
  subst c11
  have H1 : (some false) = some r := by rw [if_neg (show ¬ (false = true) by decide)] at H; exact H
  clear H
  have H := H1
  clear H1
  obtain rfl := oI_q H
  go_enter Try.func6, Try.ntmps6
  go_wp2_with (first | ((with_reducible refine gC_q (f := 17) rfl ?_); refine gL_q (some 15) rfl rfl Try.func17 m5_q rfl #[.slice A0 l0.length c0, .int .i64 1048576] rfl m0_q ?_; (with_reducible refine (laws_szBatchS.calls k _ _ l0 1048576 t184 _ ?side1 ?side2 A3.out).mono ?_); (case side1 => exact m16_q); (case side2 => exact m30_q); rintro e w' ⟨rfl, hb⟩; refine ⟨_, rfl, ?_⟩; replace HB := Ae_q (bT_q (bel HB.out) hb); (try clear hb); (try clear hb2); (try clear hk); (try clear hi)) | ((with_reducible refine gC_q (f := 18) rfl ?_); (first | (refine gL_q (some 19) rfl rfl Try.func18 m5_q rfl #[.slice A0 l0.length c0] rfl m0_q ?_; (with_reducible refine (laws_toBatchS.calls k _ _ l0 t185 _ ?side1 ?side2 A6.out).mono ?_); (case side1 => exact m29_q); (case side2 => exact m30_q); rintro e w' ⟨v186, rfl, ho0, hb⟩; refine ⟨_, rfl, ?_⟩; have HO187 := Ae_q (Kd.S_lower ho0 (bZ_q (bel HB.out))); replace HB := Ae_q (bT_q (bel HB.out) hb); (try clear hb); (try clear hb2); (try clear hk); (try clear hi); (try clear ho0); obtain ⟨Ao78, co78, eo78⟩ := Kd.S_slice HO187.out; subst eo78) | (refine gL_q (some 23) rfl rfl Try.func18 m5_q rfl #[.slice A0 l0.length c0] rfl m0_q ?_; (with_reducible refine (laws_toBatchS.calls k _ _ l0 t191 _ ?side1 ?side2 A8.out).mono ?_); (case side1 => exact m29_q); (case side2 => exact m30_q); rintro e w' ⟨v192, rfl, ho0, hb⟩; refine ⟨_, rfl, ?_⟩; have HO193 := Ae_q (Kd.S_lower (Kd.S_new' (Kd.S_new' ho0 (Kd.S_lt m8_q)) (rT_q (rup HO190.out))) (bZ_q (bel HB.out))); replace HO187 := Ae_q (Kd.S_elder' m8_q (Kd.S_base ho0) hb); replace HO190 := Ae_q (rO_q (rup HO190.out) hb); replace HB := Ae_q (bT_q (bel HB.out) hb); (try clear hb); (try clear hb2); (try clear hk); (try clear hi); (try clear ho0); obtain ⟨Ao81, co81, eo81⟩ := Kd.S_slice HO193.out; subst eo81))) | ((with_reducible refine gC_q (f := 22) rfl ?_); refine gL_q (some 21) rfl rfl Try.func22 m5_q rfl #[.slice Ao78 t185.length co78, .int .i64 a1] rfl m0_q ?_; (with_reducible refine (spec_RecallBatches.calls k _ _ t185 a1 t188 _ ?side1 ?side2 A7.out).mono ?_); (case side1 => exact m22_q); (case side2 => exact (Kd.S_reads' HO187.out).2.1); rintro e w' ⟨v189, rfl, ho0, hb⟩; refine ⟨_, rfl, ?_⟩; replace HO187 := Ae_q (Kd.S_elder' m8_q (rB_q ho0) hb); have HO190 := Ae_q (rL_q ho0 (bZ_q (bel HB.out))); replace HB := Ae_q (bT_q (bel HB.out) hb); (try clear hb); (try clear hb2); (try clear hk); (try clear hi); (try clear ho0)) | ((with_reducible refine gC_q (f := 21) rfl ?_); refine gL_q (some 26) rfl rfl Try.func21 m5_q rfl #[.slice Ao81 t191.length co81, .int .i64 a1] rfl m0_q ?_; (with_reducible refine (impl_RecallBatches.calls k _ _ t191 a1 t194 _ ?side1 ?side2 A9.out).mono ?_); (case side1 => exact m14_q); (case side2 => exact m39_q); rintro e w' ⟨v195, rfl, ho0, hb⟩; refine ⟨_, rfl, ?_⟩; replace HO187 := Ae_q (Kd.S_elder' m8_q (rB_q ho0) hb); replace HO193 := Ae_q (Kd.S_elder' m11_q (rB_q ho0) hb); have HO196 := Ae_q (rL_q (rW_q ho0 (rT_q (rup HO190.out))) (bZ_q (bel HB.out))); replace HO190 := Ae_q (rE_q (rup HO190.out) (rB_q ho0) hb); replace HB := Ae_q (bT_q (bel HB.out) hb); (try clear hb); (try clear hb2); (try clear hk); (try clear hi); (try clear ho0); obtain ⟨Ao83, co83, eo83⟩ := rS_q HO196.out; subst eo83; obtain ⟨Ao84, co84, eo84⟩ := rS_q HO190.out; subst eo84) | ((with_reducible refine gC_q (f := 25) rfl ?_); refine gL_q (some 29) rfl rfl Try.func25 m5_q rfl #[.slice Ao83 t194.length co83, .slice Ao84 t188.length co84] rfl m0_q ?_; (with_reducible refine (laws_eqIntS.calls k _ _ t194 _ _ t188 false _ ?side1 ?side2 ?side3 ?side4 A10.out).mono ?_); (case side1 => exact m43_q); (case side2 => exact (rR_q HO196.out).2.1); (case side3 => exact m44_q); (case side4 => exact (rR_q HO190.out).2.1); rintro e w' ⟨rfl, ⟨nd, rfl⟩⟩; refine ⟨_, rfl, ?_⟩))
  go_ret
  exact ⟨m2_q, bel HB.out⟩
 subst c11
 have H1 : ((laws_toBatchS.f k l0).bind fun t198 => ((laws_eqBatchS.f k t191 t198).bind fun t201 => (if t201 = true then (if (markBatchF t191 1) < 0 then (laws_FnExactRecallBatches.j0 k l0 a1 t188 t194 true) else ((laws_eqIntS.f k t194 t188).bind fun t202 => (laws_FnExactRecallBatches.j0 k l0 a1 t188 t194 (!t202)))) else (some false)))) = some r := by rw [if_pos rfl] at H; exact H
 clear H
 have H := H1
 clear H1
 replace H := oB_q.mp H
 obtain ⟨t198, A120, H⟩ := H
 replace H : ((laws_eqBatchS.f k t191 t198).bind fun t201 => (if t201 = true then (if (markBatchF t191 1) < 0 then (laws_FnExactRecallBatches.j0 k l0 a1 t188 t194 true) else ((laws_eqIntS.f k t194 t188).bind fun t202 => (laws_FnExactRecallBatches.j0 k l0 a1 t188 t194 (!t202)))) else (some false))) = some r := H
 have A12 := Ae_q A120
 clear A120
 replace H := oB_q.mp H
 obtain ⟨t201, A130, H⟩ := H
 replace H : (if t201 = true then (if (markBatchF t191 1) < 0 then (laws_FnExactRecallBatches.j0 k l0 a1 t188 t194 true) else ((laws_eqIntS.f k t194 t188).bind fun t202 => (laws_FnExactRecallBatches.j0 k l0 a1 t188 t194 (!t202)))) else (some false)) = some r := H
 have A13 := Ae_q A130
 clear A130
 by_cases c14 : t201 = true
 rotate_left
 ·replace c14 := fM_q.mpr c14
  subst c14
  have H1 : (some false) = some r := by rw [if_neg (show ¬ (false = true) by decide)] at H; exact H
  clear H
  have H := H1
  clear H1
  obtain rfl := oI_q H
  go_enter Try.func6, Try.ntmps6
  go_wp2_with (first | ((with_reducible refine gC_q (f := 17) rfl ?_); refine gL_q (some 15) rfl rfl Try.func17 m5_q rfl #[.slice A0 l0.length c0, .int .i64 1048576] rfl m0_q ?_; (with_reducible refine (laws_szBatchS.calls k _ _ l0 1048576 t184 _ ?side1 ?side2 A3.out).mono ?_); (case side1 => exact m16_q); (case side2 => exact m30_q); rintro e w' ⟨rfl, hb⟩; refine ⟨_, rfl, ?_⟩; replace HB := Ae_q (bT_q (bel HB.out) hb); (try clear hb); (try clear hb2); (try clear hk); (try clear hi)) | ((with_reducible refine gC_q (f := 18) rfl ?_); (first | (refine gL_q (some 19) rfl rfl Try.func18 m5_q rfl #[.slice A0 l0.length c0] rfl m0_q ?_; (with_reducible refine (laws_toBatchS.calls k _ _ l0 t185 _ ?side1 ?side2 A6.out).mono ?_); (case side1 => exact m29_q); (case side2 => exact m30_q); rintro e w' ⟨v186, rfl, ho0, hb⟩; refine ⟨_, rfl, ?_⟩; have HO187 := Ae_q (Kd.S_lower ho0 (bZ_q (bel HB.out))); replace HB := Ae_q (bT_q (bel HB.out) hb); (try clear hb); (try clear hb2); (try clear hk); (try clear hi); (try clear ho0); obtain ⟨Ao66, co66, eo66⟩ := Kd.S_slice HO187.out; subst eo66) | (refine gL_q (some 23) rfl rfl Try.func18 m5_q rfl #[.slice A0 l0.length c0] rfl m0_q ?_; (with_reducible refine (laws_toBatchS.calls k _ _ l0 t191 _ ?side1 ?side2 A8.out).mono ?_); (case side1 => exact m29_q); (case side2 => exact m30_q); rintro e w' ⟨v192, rfl, ho0, hb⟩; refine ⟨_, rfl, ?_⟩; have HO193 := Ae_q (Kd.S_lower (Kd.S_new' (Kd.S_new' ho0 (Kd.S_lt m8_q)) (rT_q (rup HO190.out))) (bZ_q (bel HB.out))); replace HO187 := Ae_q (Kd.S_elder' m8_q (Kd.S_base ho0) hb); replace HO190 := Ae_q (rO_q (rup HO190.out) hb); replace HB := Ae_q (bT_q (bel HB.out) hb); (try clear hb); (try clear hb2); (try clear hk); (try clear hi); (try clear ho0); obtain ⟨Ao69, co69, eo69⟩ := Kd.S_slice HO193.out; subst eo69) | (refine gL_q (some 33) rfl rfl Try.func18 m5_q rfl #[.slice A0 l0.length c0] rfl m0_q ?_; (with_reducible refine (laws_toBatchS.calls k _ _ l0 t198 _ ?side1 ?side2 A12.out).mono ?_); (case side1 => exact m12_q); (case side2 => exact m30_q); rintro e w' ⟨v199, rfl, ho0, hb⟩; refine ⟨_, rfl, ?_⟩; have HO200 := Ae_q (Kd.S_lower (Kd.S_new' (Kd.S_new' (Kd.S_new' (Kd.S_new' ho0 (Kd.S_lt m8_q)) (rT_q (rup HO190.out))) (Kd.S_lt m11_q)) (rT_q (rup HO196.out))) (bZ_q (bel HB.out))); replace HO187 := Ae_q (Kd.S_elder' m8_q (Kd.S_base ho0) hb); replace HO190 := Ae_q (rO_q (rup HO190.out) hb); replace HO193 := Ae_q (Kd.S_elder' m11_q (Kd.S_base ho0) hb); replace HO196 := Ae_q (rO_q (rup HO196.out) hb); replace HB := Ae_q (bT_q (bel HB.out) hb); (try clear hb); (try clear hb2); (try clear hk); (try clear hi); (try clear ho0); obtain ⟨Ao74, co74, eo74⟩ := Kd.S_slice HO200.out; subst eo74))) | ((with_reducible refine gC_q (f := 22) rfl ?_); refine gL_q (some 21) rfl rfl Try.func22 m5_q rfl #[.slice Ao66 t185.length co66, .int .i64 a1] rfl m0_q ?_; (with_reducible refine (spec_RecallBatches.calls k _ _ t185 a1 t188 _ ?side1 ?side2 A7.out).mono ?_); (case side1 => exact m22_q); (case side2 => exact (Kd.S_reads' HO187.out).2.1); rintro e w' ⟨v189, rfl, ho0, hb⟩; refine ⟨_, rfl, ?_⟩; replace HO187 := Ae_q (Kd.S_elder' m8_q (rB_q ho0) hb); have HO190 := Ae_q (rL_q ho0 (bZ_q (bel HB.out))); replace HB := Ae_q (bT_q (bel HB.out) hb); (try clear hb); (try clear hb2); (try clear hk); (try clear hi); (try clear ho0)) | ((with_reducible refine gC_q (f := 21) rfl ?_); refine gL_q (some 26) rfl rfl Try.func21 m5_q rfl #[.slice Ao69 t191.length co69, .int .i64 a1] rfl m0_q ?_; (with_reducible refine (impl_RecallBatches.calls k _ _ t191 a1 t194 _ ?side1 ?side2 A9.out).mono ?_); (case side1 => exact m14_q); (case side2 => exact m39_q); rintro e w' ⟨v195, rfl, ho0, hb⟩; refine ⟨_, rfl, ?_⟩; replace HO187 := Ae_q (Kd.S_elder' m8_q (rB_q ho0) hb); replace HO193 := Ae_q (Kd.S_elder' m11_q (rB_q ho0) hb); have HO196 := Ae_q (rL_q (rW_q ho0 (rT_q (rup HO190.out))) (bZ_q (bel HB.out))); replace HO190 := Ae_q (rE_q (rup HO190.out) (rB_q ho0) hb); replace HB := Ae_q (bT_q (bel HB.out) hb); (try clear hb); (try clear hb2); (try clear hk); (try clear hi); (try clear ho0); obtain ⟨Ao71, co71, eo71⟩ := rS_q HO196.out; subst eo71; obtain ⟨Ao72, co72, eo72⟩ := rS_q HO190.out; subst eo72) | ((with_reducible refine gC_q (f := 25) rfl ?_); refine gL_q (some 29) rfl rfl Try.func25 m5_q rfl #[.slice Ao71 t194.length co71, .slice Ao72 t188.length co72] rfl m0_q ?_; (with_reducible refine (laws_eqIntS.calls k _ _ t194 _ _ t188 true _ ?side1 ?side2 ?side3 ?side4 A10.out).mono ?_); (case side1 => exact m43_q); (case side2 => exact (rR_q HO196.out).2.1); (case side3 => exact m44_q); (case side4 => exact (rR_q HO190.out).2.1); rintro e w' ⟨rfl, ⟨nd, rfl⟩⟩; refine ⟨_, rfl, ?_⟩) | ((with_reducible refine gC_q (f := 19) rfl ?_); refine gL_q (some 34) rfl rfl Try.func19 m5_q rfl #[.slice Ao69 t191.length co69, .slice Ao74 t198.length co74] rfl m0_q ?_; (with_reducible refine (laws_eqBatchS.calls k _ _ t191 _ _ t198 false _ ?side1 ?side2 ?side3 ?side4 A13.out).mono ?_); (case side1 => exact m14_q); (case side2 => exact m39_q); (case side3 => exact m28_q); (case side4 => exact (Kd.S_reads' HO200.out).2.1); rintro e w' ⟨rfl, hb⟩; refine ⟨_, rfl, ?_⟩; replace HO187 := Ae_q (Kd.S_below m8_q hb); replace HO190 := Ae_q (rO_q (rup HO190.out) hb); replace HO193 := Ae_q (Kd.S_below m11_q hb); replace HO196 := Ae_q (rO_q (rup HO196.out) hb); replace HO200 := Ae_q (Kd.S_below m36_q hb); replace HB := Ae_q (bT_q (bel HB.out) hb); (try clear hb); (try clear hb2); (try clear hk); (try clear hi)) | (go_at_call 26; (refine (laws_markBatchS.calls _ _ t191 1 _ w _ (bel HB.out) (Kd.S_R m11_q) rfl).mono ?_); rintro e w_mk ⟨rfl, hb, hkp⟩; have n0_ := Ae_q (mk_keep rfl (rup HO190.out) hkp (fun k e hp => by first | exact hp.2 e.symm | exact hp.1.2 e.symm | exact hp.1.1.2 e.symm | exact hp.1.1.1.2 e.symm | exact hp.1.1.1.1.2 e.symm | exact hp.1.1.1.1.1.2 e.symm | exact hp.1.1.1.1.1.1.2 e.symm | exact hp.1.1.1.1.1.1.1.2 e.symm)); have n1_ := Ae_q (mk_keep rfl (rup HO196.out) hkp (fun k e hp => by first | exact hp.2 e.symm | exact hp.1.2 e.symm | exact hp.1.1.2 e.symm | exact hp.1.1.1.2 e.symm | exact hp.1.1.1.1.2 e.symm | exact hp.1.1.1.1.1.2 e.symm | exact hp.1.1.1.1.1.1.2 e.symm | exact hp.1.1.1.1.1.1.1.2 e.symm)); have nB_ := Ae_q hb; clear HO190; clear HO196; clear HO187; clear HO193; clear HO200; clear HB; have HO190 := n0_; have HO196 := n1_; have HB := nB_; clear nB_; clear n0_ n1_; clear hb; clear hkp))
  go_ret
  exact ⟨m2_q, bel HB.out⟩
 subst c14
 have H1 : (if (markBatchF t191 1) < 0 then (laws_FnExactRecallBatches.j0 k l0 a1 t188 t194 true) else ((laws_eqIntS.f k t194 t188).bind fun t202 => (laws_FnExactRecallBatches.j0 k l0 a1 t188 t194 (!t202)))) = some r := by rw [if_pos rfl] at H; exact H
 clear H
 have H := H1
 clear H1
 have HC15 := Ae_q H
 clear H
 go_enter Try.func6, Try.ntmps6
 go_upto_region 14 with (first | ((with_reducible refine gC_q (f := 17) rfl ?_); refine gL_q (some 15) rfl rfl Try.func17 m5_q rfl #[.slice A0 l0.length c0, .int .i64 1048576] rfl m0_q ?_; (with_reducible refine (laws_szBatchS.calls k _ _ l0 1048576 t184 _ ?side1 ?side2 A3.out).mono ?_); (case side1 => exact m16_q); (case side2 => exact m30_q); rintro e w' ⟨rfl, hb⟩; refine ⟨_, rfl, ?_⟩; replace HB := Ae_q (bT_q (bel HB.out) hb); (try clear hb); (try clear hb2); (try clear hk); (try clear hi)) | ((with_reducible refine gC_q (f := 18) rfl ?_); (first | (refine gL_q (some 19) rfl rfl Try.func18 m5_q rfl #[.slice A0 l0.length c0] rfl m0_q ?_; (with_reducible refine (laws_toBatchS.calls k _ _ l0 t185 _ ?side1 ?side2 A6.out).mono ?_); (case side1 => exact m29_q); (case side2 => exact m30_q); rintro e w' ⟨v186, rfl, ho0, hb⟩; refine ⟨_, rfl, ?_⟩; have HO187 := Ae_q (Kd.S_lower ho0 (bZ_q (bel HB.out))); replace HB := Ae_q (bT_q (bel HB.out) hb); (try clear hb); (try clear hb2); (try clear hk); (try clear hi); (try clear ho0); obtain ⟨Ao18, co18, eo18⟩ := Kd.S_slice HO187.out; subst eo18) | (refine gL_q (some 23) rfl rfl Try.func18 m5_q rfl #[.slice A0 l0.length c0] rfl m0_q ?_; (with_reducible refine (laws_toBatchS.calls k _ _ l0 t191 _ ?side1 ?side2 A8.out).mono ?_); (case side1 => exact m29_q); (case side2 => exact m30_q); rintro e w' ⟨v192, rfl, ho0, hb⟩; refine ⟨_, rfl, ?_⟩; have HO193 := Ae_q (Kd.S_lower (Kd.S_new' (Kd.S_new' ho0 (Kd.S_lt m8_q)) (rT_q (rup HO190.out))) (bZ_q (bel HB.out))); replace HO187 := Ae_q (Kd.S_elder' m8_q (Kd.S_base ho0) hb); replace HO190 := Ae_q (rO_q (rup HO190.out) hb); replace HB := Ae_q (bT_q (bel HB.out) hb); (try clear hb); (try clear hb2); (try clear hk); (try clear hi); (try clear ho0); obtain ⟨Ao21, co21, eo21⟩ := Kd.S_slice HO193.out; subst eo21) | (refine gL_q (some 33) rfl rfl Try.func18 m5_q rfl #[.slice A0 l0.length c0] rfl m0_q ?_; (with_reducible refine (laws_toBatchS.calls k _ _ l0 t198 _ ?side1 ?side2 A12.out).mono ?_); (case side1 => exact m12_q); (case side2 => exact m30_q); rintro e w' ⟨v199, rfl, ho0, hb⟩; refine ⟨_, rfl, ?_⟩; have HO200 := Ae_q (Kd.S_lower (Kd.S_new' (Kd.S_new' (Kd.S_new' (Kd.S_new' ho0 (Kd.S_lt m8_q)) (rT_q (rup HO190.out))) (Kd.S_lt m11_q)) (rT_q (rup HO196.out))) (bZ_q (bel HB.out))); replace HO187 := Ae_q (Kd.S_elder' m8_q (Kd.S_base ho0) hb); replace HO190 := Ae_q (rO_q (rup HO190.out) hb); replace HO193 := Ae_q (Kd.S_elder' m11_q (Kd.S_base ho0) hb); replace HO196 := Ae_q (rO_q (rup HO196.out) hb); replace HB := Ae_q (bT_q (bel HB.out) hb); (try clear hb); (try clear hb2); (try clear hk); (try clear hi); (try clear ho0); obtain ⟨Ao26, co26, eo26⟩ := Kd.S_slice HO200.out; subst eo26))) | ((with_reducible refine gC_q (f := 22) rfl ?_); refine gL_q (some 21) rfl rfl Try.func22 m5_q rfl #[.slice Ao18 t185.length co18, .int .i64 a1] rfl m0_q ?_; (with_reducible refine (spec_RecallBatches.calls k _ _ t185 a1 t188 _ ?side1 ?side2 A7.out).mono ?_); (case side1 => exact m22_q); (case side2 => exact (Kd.S_reads' HO187.out).2.1); rintro e w' ⟨v189, rfl, ho0, hb⟩; refine ⟨_, rfl, ?_⟩; replace HO187 := Ae_q (Kd.S_elder' m8_q (rB_q ho0) hb); have HO190 := Ae_q (rL_q ho0 (bZ_q (bel HB.out))); replace HB := Ae_q (bT_q (bel HB.out) hb); (try clear hb); (try clear hb2); (try clear hk); (try clear hi); (try clear ho0)) | ((with_reducible refine gC_q (f := 21) rfl ?_); refine gL_q (some 26) rfl rfl Try.func21 m5_q rfl #[.slice Ao21 t191.length co21, .int .i64 a1] rfl m0_q ?_; (with_reducible refine (impl_RecallBatches.calls k _ _ t191 a1 t194 _ ?side1 ?side2 A9.out).mono ?_); (case side1 => exact m14_q); (case side2 => exact m39_q); rintro e w' ⟨v195, rfl, ho0, hb⟩; refine ⟨_, rfl, ?_⟩; replace HO187 := Ae_q (Kd.S_elder' m8_q (rB_q ho0) hb); replace HO193 := Ae_q (Kd.S_elder' m11_q (rB_q ho0) hb); have HO196 := Ae_q (rL_q (rW_q ho0 (rT_q (rup HO190.out))) (bZ_q (bel HB.out))); replace HO190 := Ae_q (rE_q (rup HO190.out) (rB_q ho0) hb); replace HB := Ae_q (bT_q (bel HB.out) hb); (try clear hb); (try clear hb2); (try clear hk); (try clear hi); (try clear ho0); obtain ⟨Ao23, co23, eo23⟩ := rS_q HO196.out; subst eo23; obtain ⟨Ao24, co24, eo24⟩ := rS_q HO190.out; subst eo24) | ((with_reducible refine gC_q (f := 25) rfl ?_); refine gL_q (some 29) rfl rfl Try.func25 m5_q rfl #[.slice Ao23 t194.length co23, .slice Ao24 t188.length co24] rfl m0_q ?_; (with_reducible refine (laws_eqIntS.calls k _ _ t194 _ _ t188 true _ ?side1 ?side2 ?side3 ?side4 A10.out).mono ?_); (case side1 => exact m43_q); (case side2 => exact (rR_q HO196.out).2.1); (case side3 => exact m44_q); (case side4 => exact (rR_q HO190.out).2.1); rintro e w' ⟨rfl, ⟨nd, rfl⟩⟩; refine ⟨_, rfl, ?_⟩) | ((with_reducible refine gC_q (f := 19) rfl ?_); refine gL_q (some 34) rfl rfl Try.func19 m5_q rfl #[.slice Ao21 t191.length co21, .slice Ao26 t198.length co26] rfl m0_q ?_; (with_reducible refine (laws_eqBatchS.calls k _ _ t191 _ _ t198 true _ ?side1 ?side2 ?side3 ?side4 A13.out).mono ?_); (case side1 => exact m14_q); (case side2 => exact m39_q); (case side3 => exact m28_q); (case side4 => exact (Kd.S_reads' HO200.out).2.1); rintro e w' ⟨rfl, hb⟩; refine ⟨_, rfl, ?_⟩; replace HO187 := Ae_q (Kd.S_below m8_q hb); replace HO190 := Ae_q (rO_q (rup HO190.out) hb); replace HO193 := Ae_q (Kd.S_below m11_q hb); replace HO196 := Ae_q (rO_q (rup HO196.out) hb); replace HO200 := Ae_q (Kd.S_below m36_q hb); replace HB := Ae_q (bT_q (bel HB.out) hb); (try clear hb); (try clear hb2); (try clear hk); (try clear hi)) | (go_at_call 26; (refine (laws_markBatchS.calls _ _ t191 1 _ w _ (bel HB.out) (Kd.S_R m11_q) rfl).mono ?_); rintro e w_mk ⟨rfl, hb, hkp⟩; have n0_ := Ae_q (mk_keep rfl (rup HO190.out) hkp (fun k e hp => by first | exact hp.2 e.symm | exact hp.1.2 e.symm | exact hp.1.1.2 e.symm | exact hp.1.1.1.2 e.symm | exact hp.1.1.1.1.2 e.symm | exact hp.1.1.1.1.1.2 e.symm | exact hp.1.1.1.1.1.1.2 e.symm | exact hp.1.1.1.1.1.1.1.2 e.symm)); have n1_ := Ae_q (mk_keep rfl (rup HO196.out) hkp (fun k e hp => by first | exact hp.2 e.symm | exact hp.1.2 e.symm | exact hp.1.1.2 e.symm | exact hp.1.1.1.2 e.symm | exact hp.1.1.1.1.2 e.symm | exact hp.1.1.1.1.1.2 e.symm | exact hp.1.1.1.1.1.1.2 e.symm | exact hp.1.1.1.1.1.1.1.2 e.symm)); have nB_ := Ae_q hb; clear HO190; clear HO196; clear HO187; clear HO193; clear HO200; clear HB; have HO190 := n0_; have HO196 := n1_; have HB := nB_; clear nB_; clear n0_ n1_; clear hb; clear hkp))
 (try simp only [Act.put, sA_q, sZ_q, sS_q])
 go_cut [46] (fun v46 wc => ∃ (kq : Nat) (x46_14 : Bool), v46 = .bool x46_14 ∧ Aside0 (laws_FnExactRecallBatches.j0 kq l0 a1 t188 t194 x46_14 = some r) ∧ Aside0 (kq ≤ k) ∧ Aside0 (Kd.R (Kd.int .i64) 3 wc w.heap.size (fun k_ => some k_ ≠ ((.slice Ao23 t194.length co23) : Value).ownBlock) (.slice Ao24 t188.length co24) t188) ∧ Aside0 (Kd.R (Kd.int .i64) 3 wc w.heap.size (fun k_ => some k_ ≠ ((.slice Ao24 t188.length co24) : Value).ownBlock) (.slice Ao23 t194.length co23) t194) ∧ Aside0 (Below w.heap.size w wc))
 case first =>
  have H := HC15.out
  clear HC15
  by_cases c28 : (markBatchF t191 1) < 0
  ·rw [if_pos c28] at H
   have c28b0 : decide ((markBatchF t191 1) < 0) = true := dT_q c28
   clear c28
   (first | rw [c28b0] | (simp only [i64_w, i32_w]; rw [c28b0]) | skip)
   have H' := Ae_q H
   clear H
   go_wp2
   go_meet
   case rel => exact ⟨_, (true), m3_q, H', ⟨by first | omega | exact nR_q _⟩, ⟨m32_q⟩, ⟨m33_q⟩, ⟨bel HB.out⟩⟩
  rw [if_neg c28] at H
  have c28b0 : decide ((markBatchF t191 1) < 0) = false := dF_q c28
  clear c28
  (first | rw [c28b0] | (simp only [i64_w, i32_w]; rw [c28b0]) | skip)
  replace H := oB_q.mp H
  obtain ⟨t202, A290, H⟩ := H
  replace H : (laws_FnExactRecallBatches.j0 k l0 a1 t188 t194 (!t202)) = some r := H
  have A29 := Ae_q A290
  clear A290
  have H' := Ae_q H
  clear H
  go_wp2_with (first | (go_at_call 25; (with_reducible refine (laws_eqIntS.calls k _ _ t194 _ _ t188 t202 _ ?side1 ?side2 ?side3 ?side4 A29.out).mono ?_); (case side1 => exact m43_q); (case side2 => exact (rR_q HO196.out).2.1); (case side3 => exact m44_q); (case side4 => exact (rR_q HO190.out).2.1); rintro e w' ⟨rfl, ⟨nd, rfl⟩⟩))
  go_meet
  case rel => exact ⟨_, (!t202), m3_q, H', ⟨by first | omega | exact nR_q _⟩, ⟨m32_q⟩, ⟨m33_q⟩, ⟨bel HB.out⟩⟩
 case rest =>
  clear HC15
  try clear c1
  try clear c2
  try clear p2
  try clear c4
  try clear c4b0
  try clear c6
  try clear c11
  try clear c14
  try clear c17
  try clear c18
  try clear c19
  try clear c21
  try clear c22
  try clear c25
  try clear c28
  try clear c28b0
  obtain ⟨kq, x46_14, rfl, HA, HJ14, HO_6, HO_8, HB⟩ := hcut
  cases kq with
  | zero => exact absurd HA.out (by simp [laws_FnExactRecallBatches.j0])
  | succ kj14 =>
   have H := HA.out
   clear HA
   simp only [laws_FnExactRecallBatches.j0] at H
   by_cases c30 : x46_14 = true
   ·subst c30
    have H1 : (some false) = some r := by rw [if_pos rfl] at H; exact H
    clear H
    have H := H1
    clear H1
    obtain rfl := oI_q H
    go_wp2
    go_ret
    exact ⟨m2_q, bel HB.out⟩
   replace c30 := fM_q.mpr c30
   subst c30
   have H1 : ((laws_markIntS.f kj14 t194 1).bind fun bt203 => ((laws_heldIntS.f kj14 bt203.2 1).bind fun t205 => (if t205 < 0 then (some false) else (if t205 = bt203.1 then ((laws_toBatchS.f kj14 l0).bind fun t206 => ((impl_RecallBatches.f kj14 t206 a1).bind fun t209 => ((laws_eqIntS.f kj14 t209 t188).bind fun t212 => (if t212 = true then ((laws_heldIntS.f kj14 bt203.2 1).bind fun t213 => (if t213 < 0 then (some false) else (if t213 = bt203.1 then (some true) else (some false)))) else (some false))))) else (some false))))) = some r := by rw [if_neg (show ¬ (false = true) by decide)] at H; exact H
   clear H
   have H := H1
   clear H1
   replace H := oB_q.mp H
   obtain ⟨⟨t203, t204⟩, A310, H⟩ := H
   replace H : ((laws_heldIntS.f kj14 t204 1).bind fun t205 => (if t205 < 0 then (some false) else (if t205 = t203 then ((laws_toBatchS.f kj14 l0).bind fun t206 => ((impl_RecallBatches.f kj14 t206 a1).bind fun t209 => ((laws_eqIntS.f kj14 t209 t188).bind fun t212 => (if t212 = true then ((laws_heldIntS.f kj14 t204 1).bind fun t213 => (if t213 < 0 then (some false) else (if t213 = t203 then (some true) else (some false)))) else (some false))))) else (some false)))) = some r := H
   have A31 := Ae_q A310
   clear A310
   replace H := oB_q.mp H
   obtain ⟨t205, A320, H⟩ := H
   replace H : (if t205 < 0 then (some false) else (if t205 = t203 then ((laws_toBatchS.f kj14 l0).bind fun t206 => ((impl_RecallBatches.f kj14 t206 a1).bind fun t209 => ((laws_eqIntS.f kj14 t209 t188).bind fun t212 => (if t212 = true then ((laws_heldIntS.f kj14 t204 1).bind fun t213 => (if t213 < 0 then (some false) else (if t213 = t203 then (some true) else (some false)))) else (some false))))) else (some false))) = some r := H
   have A32 := Ae_q A320
   clear A320
   by_cases c33 : t205 < 0
   ·rw [if_pos c33] at H
    have c33b0 : decide (t205 < 0) = true := dT_q c33
    clear c33
    obtain rfl := oI_q H
    go_wp2_with (first | ((with_reducible refine gC_q (f := 27) rfl ?_); refine gL_q (some 49) rfl rfl Try.func27 m5_q rfl #[.slice Ao23 t194.length co23, .int .i64 1] rfl m0_q ?_; (with_reducible refine (laws_markIntS.calls kj14 (fun k_ => some k_ = (.slice Ao23 t194.length co23 : Value).ownBlock) (.slice Ao23 t194.length co23) t194 1 t203 t204 w _ ?side1 ?side2 A31.out).mono ?_); (case side1 => exact m21_q); (case side2 => exact m37_q); rintro e w' ⟨rfl, hy0, hb, hkp⟩; refine ⟨_, rfl, ?_⟩; replace HO_6 := Ae_q (rM_q (ok' := fun k_ => some k_ ≠ (.slice Ao23 t194.length co23 : Value).ownBlock) (Kd.R_keptB (HO_6.out) hkp (fun k_ hk_ hs_ => (hk_) hs_)) (fun k_ hk_ => hk_.1)); replace HO_8 := Ae_q (Kd.R_reok rfl hy0 (fun k_ e_ => HO_8.out.1 k_ e_)); replace HB := Ae_q (hb); (try clear hb); (try clear hkp); (try clear hy0)) | ((with_reducible refine gC_q (f := 28) rfl ?_); refine gL_q (some 52) rfl rfl Try.func28 m5_q rfl #[.slice Ao23 t204.length co23, .int .i64 1] rfl m9_q ?_; (with_reducible refine (laws_heldIntS.calls kj14 _ _ t204 1 t205 _ ?side1 ?side2 A32.out).mono ?_); (case side1 => exact m38_q); (case side2 => exact m20_q); rintro e w' ⟨rfl, ⟨nd, rfl⟩⟩; refine ⟨_, rfl, ?_⟩))
    go_ret
    exact ⟨m2_q, bel HB.out⟩
   rw [if_neg c33] at H
   have c33b0 : decide (t205 < 0) = false := dF_q c33
   clear c33
   by_cases c35 : t205 = t203
   rotate_left
   ·rw [if_neg c35] at H
    have c35b0 : (t205 == t203) = false := fN_q.mpr c35
    have c35b1 : (t205 != t203) = true := nI_q.mpr c35
    obtain rfl := oI_q H
    go_wp2_with (first | ((with_reducible refine gC_q (f := 27) rfl ?_); refine gL_q (some 49) rfl rfl Try.func27 m5_q rfl #[.slice Ao23 t194.length co23, .int .i64 1] rfl m0_q ?_; (with_reducible refine (laws_markIntS.calls kj14 (fun k_ => some k_ = (.slice Ao23 t194.length co23 : Value).ownBlock) (.slice Ao23 t194.length co23) t194 1 t203 t204 w _ ?side1 ?side2 A31.out).mono ?_); (case side1 => exact m21_q); (case side2 => exact m37_q); rintro e w' ⟨rfl, hy0, hb, hkp⟩; refine ⟨_, rfl, ?_⟩; replace HO_6 := Ae_q (rM_q (ok' := fun k_ => some k_ ≠ (.slice Ao23 t194.length co23 : Value).ownBlock) (Kd.R_keptB (HO_6.out) hkp (fun k_ hk_ hs_ => (hk_) hs_)) (fun k_ hk_ => hk_.1)); replace HO_8 := Ae_q (Kd.R_reok rfl hy0 (fun k_ e_ => HO_8.out.1 k_ e_)); replace HB := Ae_q (hb); (try clear hb); (try clear hkp); (try clear hy0)) | ((with_reducible refine gC_q (f := 28) rfl ?_); refine gL_q (some 52) rfl rfl Try.func28 m5_q rfl #[.slice Ao23 t204.length co23, .int .i64 1] rfl m9_q ?_; (with_reducible refine (laws_heldIntS.calls kj14 _ _ t204 1 t205 _ ?side1 ?side2 A32.out).mono ?_); (case side1 => exact m38_q); (case side2 => exact m20_q); rintro e w' ⟨rfl, ⟨nd, rfl⟩⟩; refine ⟨_, rfl, ?_⟩))
    go_ret
    exact ⟨m2_q, bel HB.out⟩
   rw [if_pos c35] at H
   have c35b0 : (t205 == t203) = true := beq_iff_eq.mpr c35
   have c35b1 : (t205 != t203) = false := nE_q.mpr c35
   clear c35
   replace H := oB_q.mp H
   obtain ⟨t206, A360, H⟩ := H
   replace H : ((impl_RecallBatches.f kj14 t206 a1).bind fun t209 => ((laws_eqIntS.f kj14 t209 t188).bind fun t212 => (if t212 = true then ((laws_heldIntS.f kj14 t204 1).bind fun t213 => (if t213 < 0 then (some false) else (if t213 = t203 then (some true) else (some false)))) else (some false)))) = some r := H
   have A36 := Ae_q A360
   clear A360
   replace H := oB_q.mp H
   obtain ⟨t209, A370, H⟩ := H
   replace H : ((laws_eqIntS.f kj14 t209 t188).bind fun t212 => (if t212 = true then ((laws_heldIntS.f kj14 t204 1).bind fun t213 => (if t213 < 0 then (some false) else (if t213 = t203 then (some true) else (some false)))) else (some false))) = some r := H
   have A37 := Ae_q A370
   clear A370
   replace H := oB_q.mp H
   obtain ⟨t212, A380, H⟩ := H
   replace H : (if t212 = true then ((laws_heldIntS.f kj14 t204 1).bind fun t213 => (if t213 < 0 then (some false) else (if t213 = t203 then (some true) else (some false)))) else (some false)) = some r := H
   have A38 := Ae_q A380
   clear A380
   by_cases c39 : t212 = true
   rotate_left
   ·replace c39 := fM_q.mpr c39
    subst c39
    have H1 : (some false) = some r := by rw [if_neg (show ¬ (false = true) by decide)] at H; exact H
    clear H
    have H := H1
    clear H1
    obtain rfl := oI_q H
    go_wp2_with (first | ((with_reducible refine gC_q (f := 27) rfl ?_); refine gL_q (some 49) rfl rfl Try.func27 m5_q rfl #[.slice Ao23 t194.length co23, .int .i64 1] rfl m0_q ?_; (with_reducible refine (laws_markIntS.calls kj14 (fun k_ => some k_ = (.slice Ao23 t194.length co23 : Value).ownBlock) (.slice Ao23 t194.length co23) t194 1 t203 t204 w _ ?side1 ?side2 A31.out).mono ?_); (case side1 => exact m21_q); (case side2 => exact m37_q); rintro e w' ⟨rfl, hy0, hb, hkp⟩; refine ⟨_, rfl, ?_⟩; replace HO_6 := Ae_q (rM_q (ok' := fun k_ => some k_ ≠ (.slice Ao23 t194.length co23 : Value).ownBlock) (Kd.R_keptB (HO_6.out) hkp (fun k_ hk_ hs_ => (hk_) hs_)) (fun k_ hk_ => hk_.1)); replace HO_8 := Ae_q (Kd.R_reok rfl hy0 (fun k_ e_ => HO_8.out.1 k_ e_)); replace HB := Ae_q (hb); (try clear hb); (try clear hkp); (try clear hy0)) | ((with_reducible refine gC_q (f := 28) rfl ?_); refine gL_q (some 52) rfl rfl Try.func28 m5_q rfl #[.slice Ao23 t204.length co23, .int .i64 1] rfl m9_q ?_; (with_reducible refine (laws_heldIntS.calls kj14 _ _ t204 1 t205 _ ?side1 ?side2 A32.out).mono ?_); (case side1 => exact m38_q); (case side2 => exact m20_q); rintro e w' ⟨rfl, ⟨nd, rfl⟩⟩; refine ⟨_, rfl, ?_⟩) | ((with_reducible refine gC_q (f := 18) rfl ?_); refine gL_q (some 59) rfl rfl Try.func18 m5_q rfl #[.slice A0 l0.length c0] rfl m0_q ?_; (with_reducible refine (laws_toBatchS.calls kj14 _ _ l0 t206 _ ?side1 ?side2 A36.out).mono ?_); (case side1 => exact m12_q); (case side2 => exact m30_q); rintro e w' ⟨v207, rfl, ho0, hb⟩; refine ⟨_, rfl, ?_⟩; have HO208 := Ae_q (Kd.S_lower (Kd.S_new' (Kd.S_new' ho0 (rT_q (rup HO_6.out))) (rT_q (rup HO_8.out))) (bZ_q (bel HB.out))); replace HO_6 := Ae_q (rO_q (rup HO_6.out) hb); replace HO_8 := Ae_q (rO_q (rup HO_8.out) hb); replace HB := Ae_q (bT_q (bel HB.out) hb); (try clear hb); (try clear hb2); (try clear hk); (try clear hi); (try clear ho0); obtain ⟨Ao60, co60, eo60⟩ := Kd.S_slice HO208.out; subst eo60) | ((with_reducible refine gC_q (f := 21) rfl ?_); refine gL_q (some 61) rfl rfl Try.func21 m5_q rfl #[.slice Ao60 t206.length co60, .int .i64 a1] rfl m0_q ?_; (with_reducible refine (impl_RecallBatches.calls kj14 _ _ t206 a1 t209 _ ?side1 ?side2 A37.out).mono ?_); (case side1 => exact m19_q); (case side2 => exact m42_q); rintro e w' ⟨v210, rfl, ho0, hb⟩; refine ⟨_, rfl, ?_⟩; replace HO208 := Ae_q (Kd.S_elder' m26_q (rB_q ho0) hb); have HO211 := Ae_q (rL_q (rW_q (rW_q ho0 (rT_q (rup HO_6.out))) (rT_q (rup HO_8.out))) (bZ_q (bel HB.out))); replace HO_6 := Ae_q (rE_q (rup HO_6.out) (rB_q ho0) hb); replace HO_8 := Ae_q (rE_q (rup HO_8.out) (rB_q ho0) hb); replace HB := Ae_q (bT_q (bel HB.out) hb); (try clear hb); (try clear hb2); (try clear hk); (try clear hi); (try clear ho0); obtain ⟨Ao62, co62, eo62⟩ := rS_q HO211.out; subst eo62) | ((with_reducible refine gC_q (f := 25) rfl ?_); refine gL_q (some 64) rfl rfl Try.func25 m5_q rfl #[.slice Ao62 t209.length co62, .slice Ao24 t188.length co24] rfl m0_q ?_; (with_reducible refine (laws_eqIntS.calls kj14 _ _ t209 _ _ t188 false _ ?side1 ?side2 ?side3 ?side4 A38.out).mono ?_); (case side1 => exact m45_q); (case side2 => exact (rR_q HO211.out).2.1); (case side3 => exact m46_q); (case side4 => exact (rR_q HO_6.out).2.1); rintro e w' ⟨rfl, ⟨nd, rfl⟩⟩; refine ⟨_, rfl, ?_⟩))
    go_ret
    exact ⟨m2_q, bel HB.out⟩
   subst c39
   have H1 : ((laws_heldIntS.f kj14 t204 1).bind fun t213 => (if t213 < 0 then (some false) else (if t213 = t203 then (some true) else (some false)))) = some r := by rw [if_pos rfl] at H; exact H
   clear H
   have H := H1
   clear H1
   replace H := oB_q.mp H
   obtain ⟨t213, A400, H⟩ := H
   replace H : (if t213 < 0 then (some false) else (if t213 = t203 then (some true) else (some false))) = some r := H
   have A40 := Ae_q A400
   clear A400
   by_cases c41 : t213 < 0
   ·rw [if_pos c41] at H
    have c41b0 : decide (t213 < 0) = true := dT_q c41
    clear c41
    obtain rfl := oI_q H
    go_wp2_with (first | ((with_reducible refine gC_q (f := 27) rfl ?_); refine gL_q (some 49) rfl rfl Try.func27 m5_q rfl #[.slice Ao23 t194.length co23, .int .i64 1] rfl m0_q ?_; (with_reducible refine (laws_markIntS.calls kj14 (fun k_ => some k_ = (.slice Ao23 t194.length co23 : Value).ownBlock) (.slice Ao23 t194.length co23) t194 1 t203 t204 w _ ?side1 ?side2 A31.out).mono ?_); (case side1 => exact m21_q); (case side2 => exact m37_q); rintro e w' ⟨rfl, hy0, hb, hkp⟩; refine ⟨_, rfl, ?_⟩; replace HO_6 := Ae_q (rM_q (ok' := fun k_ => some k_ ≠ (.slice Ao23 t194.length co23 : Value).ownBlock) (Kd.R_keptB (HO_6.out) hkp (fun k_ hk_ hs_ => (hk_) hs_)) (fun k_ hk_ => hk_.1)); replace HO_8 := Ae_q (Kd.R_reok rfl hy0 (fun k_ e_ => HO_8.out.1 k_ e_)); replace HB := Ae_q (hb); (try clear hb); (try clear hkp); (try clear hy0)) | ((with_reducible refine gC_q (f := 28) rfl ?_); (first | (refine gL_q (some 52) rfl rfl Try.func28 m5_q rfl #[.slice Ao23 t204.length co23, .int .i64 1] rfl m9_q ?_; (with_reducible refine (laws_heldIntS.calls kj14 _ _ t204 1 t205 _ ?side1 ?side2 A32.out).mono ?_)) | (refine gL_q (some 68) rfl rfl Try.func28 m5_q rfl #[.slice Ao23 t204.length co23, .int .i64 1] rfl m9_q ?_; (with_reducible refine (laws_heldIntS.calls kj14 _ _ t204 1 t213 _ ?side1 ?side2 A40.out).mono ?_))); (case side1 => exact m38_q); (case side2 => exact m20_q); rintro e w' ⟨rfl, ⟨nd, rfl⟩⟩; refine ⟨_, rfl, ?_⟩) | ((with_reducible refine gC_q (f := 18) rfl ?_); refine gL_q (some 59) rfl rfl Try.func18 m5_q rfl #[.slice A0 l0.length c0] rfl m0_q ?_; (with_reducible refine (laws_toBatchS.calls kj14 _ _ l0 t206 _ ?side1 ?side2 A36.out).mono ?_); (case side1 => exact m12_q); (case side2 => exact m30_q); rintro e w' ⟨v207, rfl, ho0, hb⟩; refine ⟨_, rfl, ?_⟩; have HO208 := Ae_q (Kd.S_lower (Kd.S_new' (Kd.S_new' ho0 (rT_q (rup HO_6.out))) (rT_q (rup HO_8.out))) (bZ_q (bel HB.out))); replace HO_6 := Ae_q (rO_q (rup HO_6.out) hb); replace HO_8 := Ae_q (rO_q (rup HO_8.out) hb); replace HB := Ae_q (bT_q (bel HB.out) hb); (try clear hb); (try clear hb2); (try clear hk); (try clear hi); (try clear ho0); obtain ⟨Ao44, co44, eo44⟩ := Kd.S_slice HO208.out; subst eo44) | ((with_reducible refine gC_q (f := 21) rfl ?_); refine gL_q (some 61) rfl rfl Try.func21 m5_q rfl #[.slice Ao44 t206.length co44, .int .i64 a1] rfl m0_q ?_; (with_reducible refine (impl_RecallBatches.calls kj14 _ _ t206 a1 t209 _ ?side1 ?side2 A37.out).mono ?_); (case side1 => exact m19_q); (case side2 => exact m42_q); rintro e w' ⟨v210, rfl, ho0, hb⟩; refine ⟨_, rfl, ?_⟩; replace HO208 := Ae_q (Kd.S_elder' m26_q (rB_q ho0) hb); have HO211 := Ae_q (rL_q (rW_q (rW_q ho0 (rT_q (rup HO_6.out))) (rT_q (rup HO_8.out))) (bZ_q (bel HB.out))); replace HO_6 := Ae_q (rE_q (rup HO_6.out) (rB_q ho0) hb); replace HO_8 := Ae_q (rE_q (rup HO_8.out) (rB_q ho0) hb); replace HB := Ae_q (bT_q (bel HB.out) hb); (try clear hb); (try clear hb2); (try clear hk); (try clear hi); (try clear ho0); obtain ⟨Ao46, co46, eo46⟩ := rS_q HO211.out; subst eo46) | ((with_reducible refine gC_q (f := 25) rfl ?_); refine gL_q (some 64) rfl rfl Try.func25 m5_q rfl #[.slice Ao46 t209.length co46, .slice Ao24 t188.length co24] rfl m0_q ?_; (with_reducible refine (laws_eqIntS.calls kj14 _ _ t209 _ _ t188 true _ ?side1 ?side2 ?side3 ?side4 A38.out).mono ?_); (case side1 => exact m45_q); (case side2 => exact (rR_q HO211.out).2.1); (case side3 => exact m46_q); (case side4 => exact (rR_q HO_6.out).2.1); rintro e w' ⟨rfl, ⟨nd, rfl⟩⟩; refine ⟨_, rfl, ?_⟩))
    go_ret
    exact ⟨m2_q, bel HB.out⟩
   rw [if_neg c41] at H
   have c41b0 : decide (t213 < 0) = false := dF_q c41
   clear c41
   by_cases c47 : t213 = t203
   ·rw [if_pos c47] at H
    have c47b0 : (t213 == t203) = true := beq_iff_eq.mpr c47
    have c47b1 : (t213 != t203) = false := nE_q.mpr c47
    clear c47
    obtain rfl := oI_q H
    go_wp2_with (first | ((with_reducible refine gC_q (f := 27) rfl ?_); refine gL_q (some 49) rfl rfl Try.func27 m5_q rfl #[.slice Ao23 t194.length co23, .int .i64 1] rfl m0_q ?_; (with_reducible refine (laws_markIntS.calls kj14 (fun k_ => some k_ = (.slice Ao23 t194.length co23 : Value).ownBlock) (.slice Ao23 t194.length co23) t194 1 t203 t204 w _ ?side1 ?side2 A31.out).mono ?_); (case side1 => exact m21_q); (case side2 => exact m37_q); rintro e w' ⟨rfl, hy0, hb, hkp⟩; refine ⟨_, rfl, ?_⟩; replace HO_6 := Ae_q (rM_q (ok' := fun k_ => some k_ ≠ (.slice Ao23 t194.length co23 : Value).ownBlock) (Kd.R_keptB (HO_6.out) hkp (fun k_ hk_ hs_ => (hk_) hs_)) (fun k_ hk_ => hk_.1)); replace HO_8 := Ae_q (Kd.R_reok rfl hy0 (fun k_ e_ => HO_8.out.1 k_ e_)); replace HB := Ae_q (hb); (try clear hb); (try clear hkp); (try clear hy0)) | ((with_reducible refine gC_q (f := 28) rfl ?_); (first | (refine gL_q (some 52) rfl rfl Try.func28 m5_q rfl #[.slice Ao23 t204.length co23, .int .i64 1] rfl m9_q ?_; (with_reducible refine (laws_heldIntS.calls kj14 _ _ t204 1 t205 _ ?side1 ?side2 A32.out).mono ?_)) | (refine gL_q (some 68) rfl rfl Try.func28 m5_q rfl #[.slice Ao23 t204.length co23, .int .i64 1] rfl m9_q ?_; (with_reducible refine (laws_heldIntS.calls kj14 _ _ t204 1 t213 _ ?side1 ?side2 A40.out).mono ?_))); (case side1 => exact m38_q); (case side2 => exact m20_q); rintro e w' ⟨rfl, ⟨nd, rfl⟩⟩; refine ⟨_, rfl, ?_⟩) | ((with_reducible refine gC_q (f := 18) rfl ?_); refine gL_q (some 59) rfl rfl Try.func18 m5_q rfl #[.slice A0 l0.length c0] rfl m0_q ?_; (with_reducible refine (laws_toBatchS.calls kj14 _ _ l0 t206 _ ?side1 ?side2 A36.out).mono ?_); (case side1 => exact m12_q); (case side2 => exact m30_q); rintro e w' ⟨v207, rfl, ho0, hb⟩; refine ⟨_, rfl, ?_⟩; have HO208 := Ae_q (Kd.S_lower (Kd.S_new' (Kd.S_new' ho0 (rT_q (rup HO_6.out))) (rT_q (rup HO_8.out))) (bZ_q (bel HB.out))); replace HO_6 := Ae_q (rO_q (rup HO_6.out) hb); replace HO_8 := Ae_q (rO_q (rup HO_8.out) hb); replace HB := Ae_q (bT_q (bel HB.out) hb); (try clear hb); (try clear hb2); (try clear hk); (try clear hi); (try clear ho0); obtain ⟨Ao50, co50, eo50⟩ := Kd.S_slice HO208.out; subst eo50) | ((with_reducible refine gC_q (f := 21) rfl ?_); refine gL_q (some 61) rfl rfl Try.func21 m5_q rfl #[.slice Ao50 t206.length co50, .int .i64 a1] rfl m0_q ?_; (with_reducible refine (impl_RecallBatches.calls kj14 _ _ t206 a1 t209 _ ?side1 ?side2 A37.out).mono ?_); (case side1 => exact m19_q); (case side2 => exact m42_q); rintro e w' ⟨v210, rfl, ho0, hb⟩; refine ⟨_, rfl, ?_⟩; replace HO208 := Ae_q (Kd.S_elder' m26_q (rB_q ho0) hb); have HO211 := Ae_q (rL_q (rW_q (rW_q ho0 (rT_q (rup HO_6.out))) (rT_q (rup HO_8.out))) (bZ_q (bel HB.out))); replace HO_6 := Ae_q (rE_q (rup HO_6.out) (rB_q ho0) hb); replace HO_8 := Ae_q (rE_q (rup HO_8.out) (rB_q ho0) hb); replace HB := Ae_q (bT_q (bel HB.out) hb); (try clear hb); (try clear hb2); (try clear hk); (try clear hi); (try clear ho0); obtain ⟨Ao52, co52, eo52⟩ := rS_q HO211.out; subst eo52) | ((with_reducible refine gC_q (f := 25) rfl ?_); refine gL_q (some 64) rfl rfl Try.func25 m5_q rfl #[.slice Ao52 t209.length co52, .slice Ao24 t188.length co24] rfl m0_q ?_; (with_reducible refine (laws_eqIntS.calls kj14 _ _ t209 _ _ t188 true _ ?side1 ?side2 ?side3 ?side4 A38.out).mono ?_); (case side1 => exact m45_q); (case side2 => exact (rR_q HO211.out).2.1); (case side3 => exact m46_q); (case side4 => exact (rR_q HO_6.out).2.1); rintro e w' ⟨rfl, ⟨nd, rfl⟩⟩; refine ⟨_, rfl, ?_⟩))
    go_ret
    exact ⟨m2_q, bel HB.out⟩
   rw [if_neg c47] at H
   have c47b0 : (t213 == t203) = false := fN_q.mpr c47
   have c47b1 : (t213 != t203) = true := nI_q.mpr c47
   obtain rfl := oI_q H
   go_wp2_with (first | ((with_reducible refine gC_q (f := 27) rfl ?_); refine gL_q (some 49) rfl rfl Try.func27 m5_q rfl #[.slice Ao23 t194.length co23, .int .i64 1] rfl m0_q ?_; (with_reducible refine (laws_markIntS.calls kj14 (fun k_ => some k_ = (.slice Ao23 t194.length co23 : Value).ownBlock) (.slice Ao23 t194.length co23) t194 1 t203 t204 w _ ?side1 ?side2 A31.out).mono ?_); (case side1 => exact m21_q); (case side2 => exact m37_q); rintro e w' ⟨rfl, hy0, hb, hkp⟩; refine ⟨_, rfl, ?_⟩; replace HO_6 := Ae_q (rM_q (ok' := fun k_ => some k_ ≠ (.slice Ao23 t194.length co23 : Value).ownBlock) (Kd.R_keptB (HO_6.out) hkp (fun k_ hk_ hs_ => (hk_) hs_)) (fun k_ hk_ => hk_.1)); replace HO_8 := Ae_q (Kd.R_reok rfl hy0 (fun k_ e_ => HO_8.out.1 k_ e_)); replace HB := Ae_q (hb); (try clear hb); (try clear hkp); (try clear hy0)) | ((with_reducible refine gC_q (f := 28) rfl ?_); (first | (refine gL_q (some 52) rfl rfl Try.func28 m5_q rfl #[.slice Ao23 t204.length co23, .int .i64 1] rfl m9_q ?_; (with_reducible refine (laws_heldIntS.calls kj14 _ _ t204 1 t205 _ ?side1 ?side2 A32.out).mono ?_)) | (refine gL_q (some 68) rfl rfl Try.func28 m5_q rfl #[.slice Ao23 t204.length co23, .int .i64 1] rfl m9_q ?_; (with_reducible refine (laws_heldIntS.calls kj14 _ _ t204 1 t213 _ ?side1 ?side2 A40.out).mono ?_))); (case side1 => exact m38_q); (case side2 => exact m20_q); rintro e w' ⟨rfl, ⟨nd, rfl⟩⟩; refine ⟨_, rfl, ?_⟩) | ((with_reducible refine gC_q (f := 18) rfl ?_); refine gL_q (some 59) rfl rfl Try.func18 m5_q rfl #[.slice A0 l0.length c0] rfl m0_q ?_; (with_reducible refine (laws_toBatchS.calls kj14 _ _ l0 t206 _ ?side1 ?side2 A36.out).mono ?_); (case side1 => exact m12_q); (case side2 => exact m30_q); rintro e w' ⟨v207, rfl, ho0, hb⟩; refine ⟨_, rfl, ?_⟩; have HO208 := Ae_q (Kd.S_lower (Kd.S_new' (Kd.S_new' ho0 (rT_q (rup HO_6.out))) (rT_q (rup HO_8.out))) (bZ_q (bel HB.out))); replace HO_6 := Ae_q (rO_q (rup HO_6.out) hb); replace HO_8 := Ae_q (rO_q (rup HO_8.out) hb); replace HB := Ae_q (bT_q (bel HB.out) hb); (try clear hb); (try clear hb2); (try clear hk); (try clear hi); (try clear ho0); obtain ⟨Ao55, co55, eo55⟩ := Kd.S_slice HO208.out; subst eo55) | ((with_reducible refine gC_q (f := 21) rfl ?_); refine gL_q (some 61) rfl rfl Try.func21 m5_q rfl #[.slice Ao55 t206.length co55, .int .i64 a1] rfl m0_q ?_; (with_reducible refine (impl_RecallBatches.calls kj14 _ _ t206 a1 t209 _ ?side1 ?side2 A37.out).mono ?_); (case side1 => exact m19_q); (case side2 => exact m42_q); rintro e w' ⟨v210, rfl, ho0, hb⟩; refine ⟨_, rfl, ?_⟩; replace HO208 := Ae_q (Kd.S_elder' m26_q (rB_q ho0) hb); have HO211 := Ae_q (rL_q (rW_q (rW_q ho0 (rT_q (rup HO_6.out))) (rT_q (rup HO_8.out))) (bZ_q (bel HB.out))); replace HO_6 := Ae_q (rE_q (rup HO_6.out) (rB_q ho0) hb); replace HO_8 := Ae_q (rE_q (rup HO_8.out) (rB_q ho0) hb); replace HB := Ae_q (bT_q (bel HB.out) hb); (try clear hb); (try clear hb2); (try clear hk); (try clear hi); (try clear ho0); obtain ⟨Ao57, co57, eo57⟩ := rS_q HO211.out; subst eo57) | ((with_reducible refine gC_q (f := 25) rfl ?_); refine gL_q (some 64) rfl rfl Try.func25 m5_q rfl #[.slice Ao57 t209.length co57, .slice Ao24 t188.length co24] rfl m0_q ?_; (with_reducible refine (laws_eqIntS.calls kj14 _ _ t209 _ _ t188 true _ ?side1 ?side2 ?side3 ?side4 A38.out).mono ?_); (case side1 => exact m45_q); (case side2 => exact (rR_q HO211.out).2.1); (case side3 => exact m46_q); (case side4 => exact (rR_q HO_6.out).2.1); rintro e w' ⟨rfl, ⟨nd, rfl⟩⟩; refine ⟨_, rfl, ?_⟩))
   go_ret
   exact ⟨m2_q, bel HB.out⟩

def laws_FnExactRecallBatches.Pure : Prop := ∀ (l0 : List (S69)) (a1 : Int), l0.length ≤ maxLen → (∀ x ∈ l0, x.f1.length ≤ maxLen) → (Lit.int .i64 a1).wf = true → ∃ k, laws_FnExactRecallBatches.f k l0 a1 = some true

end Go.Proofs.Ytnckblolijkdaaa.PBt
