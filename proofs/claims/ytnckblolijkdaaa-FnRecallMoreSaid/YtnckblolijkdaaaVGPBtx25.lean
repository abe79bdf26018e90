import Derived.Test.YtnckblolijkdaaaVGPBtx0
import Derived.Test.YtnckblolijkdaaaVGPBtx1
import Derived.Test.YtnckblolijkdaaaVGPBtx2
import Derived.Test.YtnckblolijkdaaaVGPBtx3
import Derived.Test.YtnckblolijkdaaaVGPBtx15
namespace Go.Proofs.Ytnckblolijkdaaa.PBt
open Go.RowKit Go.Proofs.YtnckblolijkdaaaW.PrintWords Go.Proofs.YtnckblolijkdaaaW.PrintLast Go.Proofs.YtnckblolijkdaaaW.PrintMore
attribute [local go_sem] max2_int min2_int max_two min_two max_three min_three max_four min_four
set_option linter.unusedVariables false
set_option linter.unusedSimpArgs false

-- NOT PRINTED: function 10 (laws_FnExactPlatesWrong)

def spec_DrawRecallGuests.f (k : Nat) (l0 : List Int) : Option ((List (S39)) × (List (S49)) × Int) := (spec_l6Open.f l0).bind fun bt517 => ((spec_l92Batches.f k bt517.1 bt517.2).bind fun bt520 => ((spec_l92Plates.f k bt517.1 bt520.2 bt520.1).bind fun bt524 => ((spec_l6Rd_pick.f k bt517.1 bt524.2 7).bind fun bt528 => (some (bt520.1, bt524.1, bt528.1)))))
set_option maxHeartbeats 8000000 in
set_option maxRecDepth 100000 in
theorem spec_DrawRecallGuests.calls (k : Nat) (A0 : Option Addr) (c0 : Nat) (l0 : List Int) (r1 : List (S39)) (r2 : List (S49)) (r3 : Int) (w : World) (hr0 : Kd.C (Kd.int .u8) w A0 l0.length l0) (hc0 : l0.length ≤ c0) (h : spec_DrawRecallGuests.f k l0 = some (r1, r2, r3)) :
    Calls Try.prog 39 #[.slice A0 l0.length c0] w fun e w' => ∃ v0_ v1_ : Value, e = .returned (.tuple #[v0_, v1_, .int .i64 r3]) ∧ Kd.N k39 39 w' w.heap.size (fun k_ => (w.heap.size ≤ k_) ∧ some k_ ≠ (v1_ : Value).ownBlock) v0_ r1 ∧ Kd.R k49 49 w' w.heap.size (fun k_ => (w.heap.size ≤ k_)) v1_ r2 ∧ Below w.heap.size w w' := by
 have HR0 := Ae_q hr0
 have HC0 := Ae_q hc0
 clear hr0 hc0
 have HB := Ae_q (bR_q w.heap.size w)
 have H : ((spec_l6Open.f l0).bind fun bt517 => ((spec_l92Batches.f k bt517.1 bt517.2).bind fun bt520 => ((spec_l92Plates.f k bt517.1 bt520.2 bt520.1).bind fun bt524 => ((spec_l6Rd_pick.f k bt517.1 bt524.2 7).bind fun bt528 => (some (bt520.1, bt524.1, bt528.1)))))) = some (r1, r2, r3) := h
 clear h
 replace H := oB_q.mp H
 obtain ⟨⟨t517, t518⟩, A20, H⟩ := H
 replace H : ((spec_l92Batches.f k t517 t518).bind fun bt520 => ((spec_l92Plates.f k t517 bt520.2 bt520.1).bind fun bt524 => ((spec_l6Rd_pick.f k t517 bt524.2 7).bind fun bt528 => (some (bt520.1, bt524.1, bt528.1))))) = some (r1, r2, r3) := H
 have A2 := Ae_q A20
 clear A20
 replace H := oB_q.mp H
 obtain ⟨⟨t520, t523⟩, A30, H⟩ := H
 replace H : ((spec_l92Plates.f k t517 t523 t520).bind fun bt524 => ((spec_l6Rd_pick.f k t517 bt524.2 7).bind fun bt528 => (some (t520, bt524.1, bt528.1)))) = some (r1, r2, r3) := H
 have A3 := Ae_q A30
 clear A30
 replace H := oB_q.mp H
 obtain ⟨⟨t524, t527⟩, A40, H⟩ := H
 replace H : ((spec_l6Rd_pick.f k t517 t527 7).bind fun bt528 => (some (t520, t524, bt528.1))) = some (r1, r2, r3) := H
 have A4 := Ae_q A40
 clear A40
 replace H := oB_q.mp H
 obtain ⟨⟨t528, t529⟩, A50, H⟩ := H
 replace H : (some (t520, t524, t528)) = some (r1, r2, r3) := H
 have A5 := Ae_q A50
 clear A50
 simp only [oE_q, pE_q] at H
 obtain ⟨rfl, rfl, rfl⟩ := H
 go_enter Try.func39, Try.ntmps39
 go_wp2_with (first | ((with_reducible refine gC_q (f := 43) rfl ?_); refine gL_q (some 9) rfl rfl Try.func43 m9_q rfl #[.slice A0 l0.length c0] rfl m0_q ?_; (with_reducible refine (spec_l6Open.calls _ _ l0 t517 t518 w _ ?side1 ?side2 ?side3 A2.out).mono ?_); (case side1 => repeat (with_reducible first | exact HB.out | apply bA_q | apply pB_q | apply bD_q)); (case side2 => exact HR0.out); (case side3 => exact m41_q); rintro e w' ⟨g519, rfl, hi, hb, hb2⟩; refine ⟨_, rfl, ?_⟩; replace HB := Ae_q (hb); have HI519 := Ae_q (hi); (try clear hb); (try clear hb2); (try clear hk); (try clear hi)) | ((with_reducible refine gC_q (f := 42) rfl ?_); refine gL_q (some 11) rfl rfl Try.func42 m9_q rfl #[.pointer (some ⟨g519, 0, none⟩)] rfl m0_q ?_; (with_reducible refine (spec_l92Batches.calls k g519 t517 t518 t520 t523 w _ ?side1 ?side2 A3.out).mono ?_); (case side1 => exact m27_q); (case side2 => exact m15_q); rintro e w' ⟨v521, rfl, ho0, hi, hb, hk⟩; refine ⟨_, rfl, ?_⟩; have HO522 := Ae_q (Kd.N_lower (Kd.N_mono (ok' := fun k_ => (w.heap.size ≤ k_) ∧ k_ ≠ g519) ho0 (fun k_ hk_ => ⟨(nT_q (bZ_q m15_q) hk_), (IsS82.fresh m27_q k_ hk_)⟩)) (bZ_q m15_q)); replace HB := Ae_q (hb); replace HI519 := Ae_q (hi); (try clear hb); (try clear hb2); (try clear hk); (try clear hi); (try clear ho0); obtain ⟨Ao8, co8, eo8⟩ := Kd.N_slice HO522.out; subst eo8) | ((with_reducible refine gC_q (f := 55) rfl ?_); refine gL_q (some 14) rfl rfl Try.func55 m9_q rfl #[.pointer (some ⟨g519, 0, none⟩), .slice Ao8 t520.length co8] rfl m0_q ?_; (with_reducible refine (spec_l92Plates.calls k g519 t517 t523 _ _ t520 t524 t527 w _ ?side1 ?side2 ?side3 ?side4 A4.out).mono ?_); (case side1 => exact m27_q); (case side2 => exact m15_q); (case side3 => exact Kd.C_foot_ownV (base := 0) (Kd.N_V (Kd.N_mono (ok := fun k_ => (((w.heap.size ≤ k_)) ∧ k_ ≠ g519)) m31_q (fun k_ hk_ => (⟨hk_, hk_.2⟩ : _ ∧ k_ ≠ g519)))) (fun _ h_ => h_.2)); (case side4 => exact (Kd.N_reads' HO522.out).2.1); rintro e w' ⟨v525, rfl, ho0, hi, hb, hk⟩; refine ⟨_, rfl, ?_⟩; replace HO522 := Ae_q (Kd.N_mono (Kd.N_told (Kd.N_oldK (Kd.N_mono (ok := fun k_ => (((w.heap.size ≤ k_)) ∧ k_ ≠ g519)) m31_q (fun k_ hk_ => (⟨hk_, hk_.2⟩ : _ ∧ k_ ≠ g519))) hk) (rB_q ho0)) (fun _ h_ => h_.1)); have HO526 := Ae_q (rL_q (Kd.R_newM (M := fun k_ => (w.heap.size ≤ k_)) ho0 (bZ_q m15_q) (fun k_ h_ => h_)) (bZ_q m15_q)); replace HB := Ae_q (hb); replace HI519 := Ae_q (hi); (try clear hb); (try clear hb2); (try clear hk); (try clear hi); (try clear ho0)) | ((with_reducible refine gC_q (f := 52) rfl ?_); refine gL_q (some 18) rfl rfl Try.func52 m9_q rfl #[.pointer (some ⟨g519, 0, none⟩), .int .i64 7] rfl m0_q ?_; (with_reducible refine (spec_l6Rd_pick.calls k g519 t517 t527 7 t528 t529 w _ ?side1 ?side2 A5.out).mono ?_); (case side1 => exact m27_q); (case side2 => exact m15_q); rintro e w' ⟨rfl, hi, hb, hk⟩; refine ⟨_, rfl, ?_⟩; replace HO522 := Ae_q (Kd.N_mono (Kd.N_keep (Kd.N_mono (ok := fun k_ => ((((w.heap.size ≤ k_)) ∧ k_ ≠ g519) ∧ some k_ ≠ (v525 : Value).ownBlock)) m31_q (fun k_ hk_ => (⟨hk_, hk_.1.2⟩ : _ ∧ k_ ≠ g519))) hk (fun _ h => h.2)) (fun _ h => h.1)); replace HO526 := Ae_q (rM_q (rK_q (IsS82.apart (show IsS82 w _ g519 t517 t527 from by repeat (with_reducible first | exact HI519.out | apply i2_q | apply i0_q | apply i1_q | apply i3_q)) (rup HO526.out) (by decide)) hk (fun _ h => h.2)) (fun _ h => h.1)); replace HB := Ae_q (hb); replace HI519 := Ae_q (hi); (try clear hb); (try clear hb2); (try clear hk); (try clear hi)))
 go_ret3
 exact ⟨_, _, m6_q, by (with_reducible repeat (first | apply Kd.N_alloc | apply Kd.N_drewN | apply Kd.N_drew)); exact Kd.N_mono HO522.out (fun _ hk => ⟨hk.1.1, hk.2⟩), by (with_reducible repeat (first | apply rA_q | apply rN_q | apply rD_q)); exact rM_q HO526.out (fun _ hk => hk.1), m15_q⟩

end Go.Proofs.Ytnckblolijkdaaa.PBt
