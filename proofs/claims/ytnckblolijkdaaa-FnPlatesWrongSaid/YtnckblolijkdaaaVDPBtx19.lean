import Derived.Test.YtnckblolijkdaaaVDPBtx0
import Derived.Test.YtnckblolijkdaaaVDPBtx15
namespace Go.Proofs.Ytnckblolijkdaaa.PBt
open Go.RowKit Go.Proofs.YtnckblolijkdaaaW.PrintWords Go.Proofs.YtnckblolijkdaaaW.PrintLast Go.Proofs.YtnckblolijkdaaaW.PrintMore
attribute [local go_sem] max2_int min2_int max_two min_two max_three min_three max_four min_four
set_option linter.unusedVariables false
set_option linter.unusedSimpArgs false

def spec_DrawPlatesWrong.f (k : Nat) (l0 : List Int) : Option ((List (S39)) × (List (S49))) := (spec_DrawPlatesValid.f k l0).bind fun bt391 => (some (bt391.1, bt391.2))
set_option maxHeartbeats 8000000 in
set_option maxRecDepth 100000 in
theorem spec_DrawPlatesWrong.calls (k : Nat) (A0 : Option Addr) (c0 : Nat) (l0 : List Int) (r1 : List (S39)) (r2 : List (S49)) (w : World) (hr0 : Kd.C (Kd.int .u8) w A0 l0.length l0) (hc0 : l0.length ≤ c0) (h : spec_DrawPlatesWrong.f k l0 = some (r1, r2)) :
    Calls Try.prog 32 #[.slice A0 l0.length c0] w fun e w' => ∃ v0_ v1_ : Value, e = .returned (.tuple #[v0_, v1_]) ∧ Kd.N k39 39 w' w.heap.size (fun k_ => (w.heap.size ≤ k_) ∧ some k_ ≠ (v1_ : Value).ownBlock) v0_ r1 ∧ Kd.R k49 49 w' w.heap.size (fun k_ => (w.heap.size ≤ k_)) v1_ r2 ∧ Below w.heap.size w w' := by
 have HR0 := Ae_q hr0
 have HC0 := Ae_q hc0
 clear hr0 hc0
 have HB := Ae_q (bR_q w.heap.size w)
 have H : ((spec_DrawPlatesValid.f k l0).bind fun bt391 => (some (bt391.1, bt391.2))) = some (r1, r2) := h
 clear h
 replace H := oB_q.mp H
 obtain ⟨⟨t391, t394⟩, A20, H⟩ := H
 replace H : (some (t391, t394)) = some (r1, r2) := H
 have A2 := Ae_q A20
 clear A20
 simp only [oE_q, pE_q] at H
 obtain ⟨rfl, rfl⟩ := H
 go_enter Try.func32, Try.ntmps32
 go_wp2_with (first | ((with_reducible refine gC_q (f := 29) rfl ?_); refine gL_q (some 5) rfl rfl Try.func29 m14_q rfl #[.slice A0 l0.length c0] rfl m1_q ?_; (with_reducible refine (spec_DrawPlatesValid.calls k _ _ l0 t391 t394 _ ?side1 ?side2 A2.out).mono ?_); (case side1 => exact m36_q); (case side2 => exact m41_q); rintro e w' ⟨v392, v395, rfl, ho0, ho1, hb⟩; refine ⟨_, rfl, ?_⟩; have HO393 := Ae_q (Kd.N_lower (Kd.N_mono (ok' := fun k_ => (w.heap.size ≤ k_) ∧ some k_ ≠ (v395 : Value).ownBlock) ho0 (fun k_ hk_ => ⟨(nT_q (bZ_q (bel HB.out)) hk_.1), hk_.2⟩)) (bZ_q (bel HB.out))); have HO396 := Ae_q (rL_q (Kd.R_newM (M := fun k_ => (w.heap.size ≤ k_)) (rM_q (ok' := fun k_ => True) ho1 (fun _ hk_ => trivial)) (bZ_q (bel HB.out)) (fun k_ h_ => h_)) (bZ_q (bel HB.out))); replace HB := Ae_q (bT_q (bel HB.out) hb); (try clear hb); (try clear hb2); (try clear hk); (try clear hi); (try clear ho0); (try clear ho1)))
 go_ret2
 exact ⟨_, _, m7_q, by (with_reducible repeat (first | apply Kd.N_alloc | apply Kd.N_drewN | apply Kd.N_drew)); exact HO393.out, by (with_reducible repeat (first | apply rA_q | apply rN_q | apply rD_q)); exact rM_q HO396.out (fun _ hk => hk.1), bel HB.out⟩

-- NOT PRINTED: function 69 (impl_Batch)

end Go.Proofs.Ytnckblolijkdaaa.PBt
