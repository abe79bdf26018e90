import Derived.Test.YtfnpiacmlahegaaVQPRpx0
import Derived.Test.YtfnpiacmlahegaaVQPRpx1
import Derived.Test.YtfnpiacmlahegaaVQPRpx3
import Derived.Test.YtfnpiacmlahegaaVQPRpx5
import Derived.Test.YtfnpiacmlahegaaVQPRpx6
import Derived.Test.YtfnpiacmlahegaaVQPRpx7
import Derived.Test.YtfnpiacmlahegaaVQPRpx8
import Derived.Test.YtfnpiacmlahegaaVQPRpx10
import Derived.Test.YtfnpiacmlahegaaVQPRpx13
import Derived.Test.YtfnpiacmlahegaaVQPRpx14
import Derived.Test.YtfnpiacmlahegaaVQPRpx21
namespace Go.Proofs.Ytfnpiacmlahegaa.PRp
open Go.RowKit Go.Proofs.YtfnpiacmlahegaaW.PrintWords Go.Proofs.YtfnpiacmlahegaaW.PrintLast Go.Proofs.YtfnpiacmlahegaaW.PrintMore
attribute [local go_sem] max2_int min2_int max_two min_two max_three min_three max_four min_four
set_option linter.unusedVariables false
set_option linter.unusedSimpArgs false

mutual
def laws_FnExactPlanMake.j0 : Nat → List (S59) → List Int → Bool → List (S63) → List Int → Bool → Bool → Int → List Int → Int → List Int → Option (Bool)
 | 0, _, _, _, _, _, _, _, _, _, _, _ => none
 | k + 1, x0, x6, x7, x8, x10, x11, x53, x385000, x385001, x406000, x406001 => if x53 = true then (some false) else ((laws_toStepS.f k x0).bind fun t411 => ((laws_eqStepS.f k x8 t411).bind fun t414 => (if t414 = true then ((laws_toKitchen.f k x385000 x385001).bind fun bt415 => ((laws_eqKitchen.f k x406000 x406001 bt415.1 bt415.2).bind fun t419 => (if t419 = true then ((laws_markKitchen.f k x406000 x406001 (markStepF x8 1)).bind fun bt420 => (if bt420.1 < 0 then (laws_FnExactPlanMake.j1 k x0 x6 x7 x10 true x385000 x385001) else ((laws_eqIntS.f k x10 x6).bind fun t422 => (if t422 = true then (laws_FnExactPlanMake.j1 k x0 x6 x7 x10 (x11 != x7) x385000 x385001) else (laws_FnExactPlanMake.j1 k x0 x6 x7 x10 true x385000 x385001))))) else (some false)))) else (some false))))
def laws_FnExactPlanMake.j1 : Nat → List (S59) → List Int → Bool → List Int → Bool → Int → List Int → Option (Bool)
 | 0, _, _, _, _, _, _, _ => none
 | k + 1, x0, x6, x7, x10, x82, x385000, x385001 => if x82 = true then (some false) else ((laws_markIntS.f k x10 1).bind fun bt423 => ((laws_heldIntS.f k bt423.2 1).bind fun t425 => (if t425 < 0 then (some false) else (if t425 = bt423.1 then ((laws_toStepS.f k x0).bind fun t426 => ((laws_toKitchen.f k x385000 x385001).bind fun bt429 => ((impl_PlanMake.f k t426 bt429.1 bt429.2).bind fun bt433 => ((laws_eqIntS.f k bt433.1 x6).bind fun t437 => (if t437 = true then (laws_FnExactPlanMake.j2 k bt423.2 bt423.1 (bt433.2 != x7)) else (laws_FnExactPlanMake.j2 k bt423.2 bt423.1 true)))))) else (some false)))))
def laws_FnExactPlanMake.j2 : Nat → List Int → Int → Bool → Option (Bool)
 | 0, _, _, _ => none
 | k + 1, x10, x13, x110 => if x110 = true then (some false) else ((laws_heldIntS.f k x10 1).bind fun t438 => (if t438 < 0 then (some false) else (if t438 = x13 then (some true) else (some false))))
end
def laws_FnExactPlanMake.f (k : Nat) (l0 : List (S59)) (a1_0 : Int) (l1_1 : List Int) : Option (Bool) := (laws_szStepS.f k l0 1048576).bind fun t385 => (if t385 < 0 then (some true) else ((laws_szKitchen.f a1_0 l1_1 t385).bind fun t386 => (if t386 < 0 then (some true) else ((laws_toStepS.f k l0).bind fun t387 => ((laws_toKitchen.f k a1_0 l1_1).bind fun bt390 => ((spec_PlanMake.f k t387 bt390.1 bt390.2).bind fun bt394 => ((laws_toStepS.f k l0).bind fun t398 => ((laws_toKitchen.f k a1_0 l1_1).bind fun bt401 => ((impl_PlanMake.f k t398 bt401.1 bt401.2).bind fun bt406 => ((laws_eqIntS.f k bt406.1 bt394.1).bind fun t410 => (if t410 = true then (laws_FnExactPlanMake.j0 k l0 bt394.1 bt394.2 t398 bt406.1 bt406.2 (bt406.2 != bt394.2) a1_0 l1_1 bt401.1 bt401.2) else (laws_FnExactPlanMake.j0 k l0 bt394.1 bt394.2 t398 bt406.1 bt406.2 true a1_0 l1_1 bt401.1 bt401.2))))))))))))
def laws_FnExactPlanMake.T8 : Bool × List (List Nat × List Nat) := (true, [([], []), ([0], [0]), ([], []), ([2, 1], [2]), ([1, 3, 3], [1, 3]), ([4], [4]), ([5], [5]), ([5], [5]), ([6, 4, 0, 1, 2, 3, 4, 5, 6], [6]), ([7, 8, 0, 1, 2, 3, 4, 5, 6, 7, 8], [7])])
def laws_FnExactPlanMake.B8 : List Nat := [0, 1, 0, 7, 15, 31, 63, 63, 127, 511]
theorem laws_FnExactPlanMake.tab8 : rtab .any (opsOf Try.f4 8) = laws_FnExactPlanMake.T8 := by kernel_rfl
theorem laws_FnExactPlanMake.bits8 : waitsOk laws_FnExactPlanMake.T8.2 laws_FnExactPlanMake.B8 = true := by kernel_rfl
def laws_FnExactPlanMake.T31 : Bool × List (List Nat × List Nat) := (true, [([], []), ([0], [0]), ([], []), ([2, 1], [2]), ([1, 3, 3], [1, 3]), ([4], [4]), ([5], [5]), ([5], [5]), ([6, 4, 0, 1, 2, 3, 4, 5, 6], [6]), ([7, 8, 0, 1, 2, 3, 4, 5, 6, 7, 8], [7])])
def laws_FnExactPlanMake.B31 : List Nat := [0, 1, 0, 7, 15, 31, 63, 63, 127, 511]
theorem laws_FnExactPlanMake.tab31 : rtab .any (opsOf Try.f4 31) = laws_FnExactPlanMake.T31 := by kernel_rfl
theorem laws_FnExactPlanMake.bits31 : waitsOk laws_FnExactPlanMake.T31.2 laws_FnExactPlanMake.B31 = true := by kernel_rfl
set_option maxHeartbeats 8000000 in
set_option maxRecDepth 100000 in
theorem laws_FnExactPlanMake.calls (k : Nat) (A0 : Option Addr) (c0 : Nat) (l0 : List (S59)) (a1_0 : Int) (A1_1 : Option Addr) (c1_1 : Nat) (l1_1 : List Int) (r : Bool) (w : World) (hr0 : Kd.C k59 w A0 l0.length l0) (hc0 : l0.length ≤ c0) (hr1_1 : Kd.C kI_q w A1_1 l1_1.length l1_1) (hc1_1 : l1_1.length ≤ c1_1) (h : laws_FnExactPlanMake.f k l0 a1_0 l1_1 = some r) :
    Calls Try.prog 4 #[.slice A0 l0.length c0, .agg #[.int .i64 a1_0, .slice A1_1 l1_1.length c1_1]] w fun e w' => e = .returned (.bool r) ∧ Below w.heap.size w w' := by
 have hu39 := Try.underlying39
 have hu43 := Try.underlying43
 have HR0 := Ae_q hr0
 have HC0 := Ae_q hc0
 clear hr0 hc0
 have HR1_1 := Ae_q hr1_1
 have HC1_1 := Ae_q hc1_1
 clear hr1_1 hc1_1
 have HB := Ae_q (bR_q w.heap.size w)
 have H : ((laws_szStepS.f k l0 1048576).bind fun t385 => (if t385 < 0 then (some true) else ((laws_szKitchen.f a1_0 l1_1 t385).bind fun t386 => (if t386 < 0 then (some true) else ((laws_toStepS.f k l0).bind fun t387 => ((laws_toKitchen.f k a1_0 l1_1).bind fun bt390 => ((spec_PlanMake.f k t387 bt390.1 bt390.2).bind fun bt394 => ((laws_toStepS.f k l0).bind fun t398 => ((laws_toKitchen.f k a1_0 l1_1).bind fun bt401 => ((impl_PlanMake.f k t398 bt401.1 bt401.2).bind fun bt406 => ((laws_eqIntS.f k bt406.1 bt394.1).bind fun t410 => (if t410 = true then (laws_FnExactPlanMake.j0 k l0 bt394.1 bt394.2 t398 bt406.1 bt406.2 (bt406.2 != bt394.2) a1_0 l1_1 bt401.1 bt401.2) else (laws_FnExactPlanMake.j0 k l0 bt394.1 bt394.2 t398 bt406.1 bt406.2 true a1_0 l1_1 bt401.1 bt401.2))))))))))))) = some r := h
 clear h
 replace H := oB_q.mp H
 obtain ⟨t385, A30, H⟩ := H
 replace H : (if t385 < 0 then (some true) else ((laws_szKitchen.f a1_0 l1_1 t385).bind fun t386 => (if t386 < 0 then (some true) else ((laws_toStepS.f k l0).bind fun t387 => ((laws_toKitchen.f k a1_0 l1_1).bind fun bt390 => ((spec_PlanMake.f k t387 bt390.1 bt390.2).bind fun bt394 => ((laws_toStepS.f k l0).bind fun t398 => ((laws_toKitchen.f k a1_0 l1_1).bind fun bt401 => ((impl_PlanMake.f k t398 bt401.1 bt401.2).bind fun bt406 => ((laws_eqIntS.f k bt406.1 bt394.1).bind fun t410 => (if t410 = true then (laws_FnExactPlanMake.j0 k l0 bt394.1 bt394.2 t398 bt406.1 bt406.2 (bt406.2 != bt394.2) a1_0 l1_1 bt401.1 bt401.2) else (laws_FnExactPlanMake.j0 k l0 bt394.1 bt394.2 t398 bt406.1 bt406.2 true a1_0 l1_1 bt401.1 bt401.2)))))))))))) = some r := H
 have A3 := Ae_q A30
 clear A30
 by_cases c4 : t385 < 0
 ·rw [if_pos c4] at H
  have c4b0 : decide (t385 < 0) = true := dT_q c4
  clear c4
  obtain rfl := oI_q H
  go_enter Try.func4, Try.ntmps4
  go_wp2_with (first | ((with_reducible refine gD_q (N := 3) rfl ?_); refine bE_q ?hg (N := 3) ?hd (cs := #[.int .i64 a1_0, .slice A1_1 l1_1.length c1_1]) (t := 39) ?hr ?_; (case hd => rfl); (case hg => rfl); (case hr => exact m6_q); intro gb384 hg w' hbox hb; have BK384 := Ae_q (hbox); have GW384 := Ae_q ((by rw [hg]; exact (bZ_q (bel HB.out)) : w.heap.size ≤ gb384)); have GE384 := Ae_q ((by rw [hg]; exact (bZ_q (bel HB.out)) : w.heap.size ≤ gb384)); replace HB := Ae_q (bT_q (bel HB.out) hb); clear hb hbox hg) | ((with_reducible refine gC_q (f := 10) rfl ?_); refine gL_q (some 19) rfl rfl Try.func10 m10_q rfl #[.slice A0 l0.length c0, .int .i64 1048576] rfl m0_q ?_; (with_reducible refine (laws_szStepS.calls k _ _ l0 1048576 t385 _ ?side1 ?side2 A3.out).mono ?_); (case side1 => exact m23_q); (case side2 => exact m56_q); rintro e w' ⟨rfl, hb⟩; refine ⟨_, rfl, ?_⟩; replace BK384 := Ae_q (bB_q (g := gb384) (o := .cells #[.int .i64 a1_0, .slice A1_1 l1_1.length c1_1] 39 (0, 0)) (bup BK384.out) hb); replace HB := Ae_q (bT_q m11_q hb); (try clear hb); (try clear hb2); (try clear hk); (try clear hi)))
  go_ret
  exact ⟨m3_q, m11_q⟩
 rw [if_neg c4] at H
 have c4b0 : decide (t385 < 0) = false := dF_q c4
 clear c4
 replace H := oB_q.mp H
 obtain ⟨t386, A70, H⟩ := H
 replace H : (if t386 < 0 then (some true) else ((laws_toStepS.f k l0).bind fun t387 => ((laws_toKitchen.f k a1_0 l1_1).bind fun bt390 => ((spec_PlanMake.f k t387 bt390.1 bt390.2).bind fun bt394 => ((laws_toStepS.f k l0).bind fun t398 => ((laws_toKitchen.f k a1_0 l1_1).bind fun bt401 => ((impl_PlanMake.f k t398 bt401.1 bt401.2).bind fun bt406 => ((laws_eqIntS.f k bt406.1 bt394.1).bind fun t410 => (if t410 = true then (laws_FnExactPlanMake.j0 k l0 bt394.1 bt394.2 t398 bt406.1 bt406.2 (bt406.2 != bt394.2) a1_0 l1_1 bt401.1 bt401.2) else (laws_FnExactPlanMake.j0 k l0 bt394.1 bt394.2 t398 bt406.1 bt406.2 true a1_0 l1_1 bt401.1 bt401.2)))))))))) = some r := H
 have A7 := Ae_q A70
 clear A70
 by_cases c8 : t386 < 0
 ·rw [if_pos c8] at H
  have c8b0 : decide (t386 < 0) = true := dT_q c8
  clear c8
  obtain rfl := oI_q H
  go_enter Try.func4, Try.ntmps4
  go_wp2_with (first | ((with_reducible refine gD_q (N := 3) rfl ?_); refine bE_q ?hg (N := 3) ?hd (cs := #[.int .i64 a1_0, .slice A1_1 l1_1.length c1_1]) (t := 39) ?hr ?_; (case hd => rfl); (case hg => rfl); (case hr => exact m6_q); intro gb384 hg w' hbox hb; have BK384 := Ae_q (hbox); have GW384 := Ae_q ((by rw [hg]; exact (bZ_q (bel HB.out)) : w.heap.size ≤ gb384)); have GE384 := Ae_q ((by rw [hg]; exact (bZ_q (bel HB.out)) : w.heap.size ≤ gb384)); replace HB := Ae_q (bT_q (bel HB.out) hb); clear hb hbox hg) | ((with_reducible refine gC_q (f := 10) rfl ?_); refine gL_q (some 19) rfl rfl Try.func10 m10_q rfl #[.slice A0 l0.length c0, .int .i64 1048576] rfl m0_q ?_; (with_reducible refine (laws_szStepS.calls k _ _ l0 1048576 t385 _ ?side1 ?side2 A3.out).mono ?_); (case side1 => exact m23_q); (case side2 => exact m56_q); rintro e w10 ⟨rfl, hb⟩; refine ⟨_, rfl, ?_⟩; replace BK384 := Ae_q (bB_q (g := gb384) (o := .cells #[.int .i64 a1_0, .slice A1_1 l1_1.length c1_1] 39 (0, 0)) (bup BK384.out) hb); replace HB := Ae_q (bT_q m11_q hb); (try clear hb); (try clear hb2); (try clear hk); (try clear hi); have hcz11_0 : cI w10 gb384 0 a1_0 := cZ BK384 0 rfl; have hcz11_1 : w10.cell? ⟨gb384, 1, none⟩ = some (.slice A1_1 l1_1.length c1_1) := (bC_q BK384.out 1).trans rfl; have hfz11_0 := bF_q BK384.out 0; have hfz11_1 := bF_q BK384.out 1) | ((with_reducible refine gC_q (f := 21) rfl ?_); refine gL_q (some 24) rfl rfl Try.func21 m10_q rfl #[.agg #[.int .i64 a1_0, .slice A1_1 l1_1.length c1_1], .int .i64 t385] rfl m0_q ?_; (with_reducible refine (laws_szKitchen.calls a1_0 _ _ l1_1 t385 t386 _ ?side1 ?side2 A7.out).mono ?_); (case side1 => exact m31_q); (case side2 => exact m65_q); rintro e w' ⟨rfl, hb⟩; refine ⟨_, rfl, ?_⟩; replace BK384 := Ae_q (bB_q (g := gb384) (o := .cells #[.int .i64 a1_0, .slice A1_1 l1_1.length c1_1] 39 (0, 0)) (bup BK384.out) hb); replace HB := Ae_q (bT_q m11_q hb); (try clear hb); (try clear hb2); (try clear hk); (try clear hi)))
  go_ret
  exact ⟨m3_q, m11_q⟩
 rw [if_neg c8] at H
 have c8b0 : decide (t386 < 0) = false := dF_q c8
 clear c8
 replace H := oB_q.mp H
 obtain ⟨t387, A130, H⟩ := H
 replace H : ((laws_toKitchen.f k a1_0 l1_1).bind fun bt390 => ((spec_PlanMake.f k t387 bt390.1 bt390.2).bind fun bt394 => ((laws_toStepS.f k l0).bind fun t398 => ((laws_toKitchen.f k a1_0 l1_1).bind fun bt401 => ((impl_PlanMake.f k t398 bt401.1 bt401.2).bind fun bt406 => ((laws_eqIntS.f k bt406.1 bt394.1).bind fun t410 => (if t410 = true then (laws_FnExactPlanMake.j0 k l0 bt394.1 bt394.2 t398 bt406.1 bt406.2 (bt406.2 != bt394.2) a1_0 l1_1 bt401.1 bt401.2) else (laws_FnExactPlanMake.j0 k l0 bt394.1 bt394.2 t398 bt406.1 bt406.2 true a1_0 l1_1 bt401.1 bt401.2)))))))) = some r := H
 have A13 := Ae_q A130
 clear A130
 replace H := oB_q.mp H
 obtain ⟨⟨t390, t391⟩, A140, H⟩ := H
 replace H : ((spec_PlanMake.f k t387 t390 t391).bind fun bt394 => ((laws_toStepS.f k l0).bind fun t398 => ((laws_toKitchen.f k a1_0 l1_1).bind fun bt401 => ((impl_PlanMake.f k t398 bt401.1 bt401.2).bind fun bt406 => ((laws_eqIntS.f k bt406.1 bt394.1).bind fun t410 => (if t410 = true then (laws_FnExactPlanMake.j0 k l0 bt394.1 bt394.2 t398 bt406.1 bt406.2 (bt406.2 != bt394.2) a1_0 l1_1 bt401.1 bt401.2) else (laws_FnExactPlanMake.j0 k l0 bt394.1 bt394.2 t398 bt406.1 bt406.2 true a1_0 l1_1 bt401.1 bt401.2))))))) = some r := H
 have A14 := Ae_q A140
 clear A140
 replace H := oB_q.mp H
 obtain ⟨⟨t394, t397⟩, A150, H⟩ := H
 replace H : ((laws_toStepS.f k l0).bind fun t398 => ((laws_toKitchen.f k a1_0 l1_1).bind fun bt401 => ((impl_PlanMake.f k t398 bt401.1 bt401.2).bind fun bt406 => ((laws_eqIntS.f k bt406.1 t394).bind fun t410 => (if t410 = true then (laws_FnExactPlanMake.j0 k l0 t394 t397 t398 bt406.1 bt406.2 (bt406.2 != t397) a1_0 l1_1 bt401.1 bt401.2) else (laws_FnExactPlanMake.j0 k l0 t394 t397 t398 bt406.1 bt406.2 true a1_0 l1_1 bt401.1 bt401.2)))))) = some r := H
 have A15 := Ae_q A150
 clear A150
 replace H := oB_q.mp H
 obtain ⟨t398, A160, H⟩ := H
 replace H : ((laws_toKitchen.f k a1_0 l1_1).bind fun bt401 => ((impl_PlanMake.f k t398 bt401.1 bt401.2).bind fun bt406 => ((laws_eqIntS.f k bt406.1 t394).bind fun t410 => (if t410 = true then (laws_FnExactPlanMake.j0 k l0 t394 t397 t398 bt406.1 bt406.2 (bt406.2 != t397) a1_0 l1_1 bt401.1 bt401.2) else (laws_FnExactPlanMake.j0 k l0 t394 t397 t398 bt406.1 bt406.2 true a1_0 l1_1 bt401.1 bt401.2))))) = some r := H
 have A16 := Ae_q A160
 clear A160
 replace H := oB_q.mp H
 obtain ⟨⟨t401, t402⟩, A170, H⟩ := H
 replace H : ((impl_PlanMake.f k t398 t401 t402).bind fun bt406 => ((laws_eqIntS.f k bt406.1 t394).bind fun t410 => (if t410 = true then (laws_FnExactPlanMake.j0 k l0 t394 t397 t398 bt406.1 bt406.2 (bt406.2 != t397) a1_0 l1_1 t401 t402) else (laws_FnExactPlanMake.j0 k l0 t394 t397 t398 bt406.1 bt406.2 true a1_0 l1_1 t401 t402)))) = some r := H
 have A17 := Ae_q A170
 clear A170
 replace H := oB_q.mp H
 obtain ⟨⟨t406, t409⟩, A180, H⟩ := H
 replace H : ((laws_eqIntS.f k t406 t394).bind fun t410 => (if t410 = true then (laws_FnExactPlanMake.j0 k l0 t394 t397 t398 t406 t409 (t409 != t397) a1_0 l1_1 t401 t402) else (laws_FnExactPlanMake.j0 k l0 t394 t397 t398 t406 t409 true a1_0 l1_1 t401 t402))) = some r := H
 have A18 := Ae_q A180
 clear A180
 have HC19 := Ae_q H
 clear H
 go_enter Try.func4, Try.ntmps4
 try go_wp2_with (first | ((with_reducible refine gD_q (N := 3) rfl ?_); refine bE_q ?hg (N := 3) ?hd (cs := #[.int .i64 a1_0, .slice A1_1 l1_1.length c1_1]) (t := 39) ?hr ?_; (case hd => rfl); (case hg => rfl); (case hr => exact m6_q); intro gb384 hg w' hbox hb; have BK384 := Ae_q (hbox); have GW384 := Ae_q ((by rw [hg]; exact (bZ_q (bel HB.out)) : w.heap.size ≤ gb384)); have GE384 := Ae_q ((by rw [hg]; exact (bZ_q (bel HB.out)) : w.heap.size ≤ gb384)); replace HB := Ae_q (bT_q (bel HB.out) hb); clear hb hbox hg) | ((with_reducible refine gC_q (f := 10) rfl ?_); refine gL_q (some 19) rfl rfl Try.func10 m10_q rfl #[.slice A0 l0.length c0, .int .i64 1048576] rfl m0_q ?_; (with_reducible refine (laws_szStepS.calls k _ _ l0 1048576 t385 _ ?side1 ?side2 A3.out).mono ?_); (case side1 => exact m23_q); (case side2 => exact m56_q); rintro e w21 ⟨rfl, hb⟩; refine ⟨_, rfl, ?_⟩; replace BK384 := Ae_q (bB_q (g := gb384) (o := .cells #[.int .i64 a1_0, .slice A1_1 l1_1.length c1_1] 39 (0, 0)) (bup BK384.out) hb); replace HB := Ae_q (bT_q m11_q hb); (try clear hb); (try clear hb2); (try clear hk); (try clear hi); have hcz22_0 : cI w21 gb384 0 a1_0 := cZ BK384 0 rfl; have hcz22_1 : w21.cell? ⟨gb384, 1, none⟩ = some (.slice A1_1 l1_1.length c1_1) := (bC_q BK384.out 1).trans rfl; have hfz22_0 := bF_q BK384.out 0; have hfz22_1 := bF_q BK384.out 1) | ((with_reducible refine gC_q (f := 21) rfl ?_); refine gL_q (some 24) rfl rfl Try.func21 m10_q rfl #[.agg #[.int .i64 a1_0, .slice A1_1 l1_1.length c1_1], .int .i64 t385] rfl m0_q ?_; (with_reducible refine (laws_szKitchen.calls a1_0 _ _ l1_1 t385 t386 _ ?side1 ?side2 A7.out).mono ?_); (case side1 => exact m31_q); (case side2 => exact m65_q); rintro e w23 ⟨rfl, hb⟩; refine ⟨_, rfl, ?_⟩; replace BK384 := Ae_q (bB_q (g := gb384) (o := .cells #[.int .i64 a1_0, .slice A1_1 l1_1.length c1_1] 39 (0, 0)) (bup BK384.out) hb); replace HB := Ae_q (bT_q m11_q hb); (try clear hb); (try clear hb2); (try clear hk); (try clear hi)))
 replace BK384 := Ae_q (bW_q BK384.out)
 replace HB := Ae_q (bD_q HB.out)
 refine start_ (n := 10) (S := fun w' => w'.cell? ⟨gb384, 0, none⟩ = some (.int .i64 a1_0) ∧ w'.cell? ⟨gb384, 1, none⟩ = some (.slice A1_1 l1_1.length c1_1)) (ds := []) #[false, false, false, false, false, false, false, false, false, false] m10_q rfl rfl ⟨(bC_q BK384.out 0).trans rfl, (bC_q BK384.out 1).trans rfl⟩ (fun hHeld => ?_); refine with_tabW laws_FnExactPlanMake.tab8 laws_FnExactPlanMake.bits8 (fun HT_ HW_ => ?_)
 generalize w23.drew = w24 at BK384 HB hHeld ⊢
 refine pJ HT_ 0 28 rfl rfl ?_
 refine take_ (i := 2) (N := some 30) (v := ?_) (a' := ?_) #[true, false, true, false, false, false, false, false, false, false] rfl rfl (take_ofW HT_.out HW_.out m10_q) (fun _ _ _ h => h) (Or.inl ⟨by rfl, ?_⟩) hHeld ?_ ?_
 rotate_left
 ·rintro w' ⟨s0, s1⟩
  go_simp
  with_reducible rfl
 rotate_left
 ·simp only [pS_q]
  rfl
 refine one_ (i := 1) (N := some 29) #[true, true, true, false, false, false, false, false, false, false] rfl rfl (one_of HT_.out m10_q) (by decide) (fun K hK => ?_)
 refine goes_ Try.func12 m10_q rfl #[.slice A0 l0.length c0] (by rfl) rfl rfl m0_q ?_
 with_reducible refine (laws_toStepS.calls k _ _ l0 t387 _ ?side1 ?side2 A13.out).mono ?_
 (case side1 => exact m23_q)
 (case side2 => exact m56_q)
 rintro e w' ⟨v388, rfl, ho0, hb⟩
 refine ⟨_, rfl, ?_⟩
 have HO389 := Ae_q (Kd.S_lower ho0 (bZ_q m11_q))
 replace BK384 := Ae_q (bB_q (g := gb384) (o := .cells #[.int .i64 a1_0, .slice A1_1 l1_1.length c1_1] 39 (0, 0)) (bup BK384.out) hb)
 replace HB := Ae_q (bT_q m11_q hb)
 (try clear hb)
 (try clear hb2)
 (try clear hk)
 (try clear hi)
 (try clear ho0)
 refine hK.out _ _ ⟨(bC_q BK384.out 0).trans rfl, (bC_q BK384.out 1).trans rfl⟩ (fun hHeld => ?_)
 clear hK K
 refine nJ_q ?_
 refine one_ (i := 3) (N := some 31) #[true, true, true, true, false, false, false, false, false, false] rfl rfl (one_of HT_.out m10_q) (by decide) (fun K hK => ?_)
 refine goes_ Try.func23 m10_q rfl #[.agg #[.int .i64 a1_0, .slice A1_1 l1_1.length c1_1]] (by rfl) rfl rfl m0_q ?_
 with_reducible refine (laws_toKitchen.calls k a1_0 _ _ l1_1 t390 t391 _ ?side1 ?side2 A14.out).mono ?_
 (case side1 => exact m31_q)
 (case side2 => exact m65_q)
 rintro e w' ⟨v392, rfl, ho0, hb⟩
 refine ⟨_, rfl, ?_⟩
 replace HO389 := Ae_q (Kd.S_elder' m38_q (rB_q ho0) hb)
 have HO393 := Ae_q (rL_q ho0 (bZ_q m11_q))
 replace BK384 := Ae_q (bB_q (g := gb384) (o := .cells #[.int .i64 a1_0, .slice A1_1 l1_1.length c1_1] 39 (0, 0)) (bup BK384.out) hb)
 replace HB := Ae_q (bT_q m11_q hb)
 (try clear hb)
 (try clear hb2)
 (try clear hk)
 (try clear hi)
 (try clear ho0)
 obtain ⟨Ao27, co27, eo27⟩ := Kd.S_slice HO389.out
 (first | subst eo27 | (injection eo27 with f1_ f2_ f3_; have f4_ := f1_.symm; have f5_ := f3_.symm; clear f1_ f2_ f3_; subst f4_; subst f5_))
 obtain ⟨Ao28, co28, eo28⟩ := rS_q HO393.out
 (first | subst eo28 | (injection eo28 with f1_ f2_ f3_; have f4_ := f1_.symm; have f5_ := f3_.symm; clear f1_ f2_ f3_; subst f4_; subst f5_))
 refine hK.out _ _ ⟨(bC_q BK384.out 0).trans rfl, (bC_q BK384.out 1).trans rfl⟩ (fun hHeld => ?_)
 clear hK K
 refine nJ_q ?_
 refine one_ (i := 4) (N := some 32) #[true, true, true, true, true, false, false, false, false, false] rfl rfl (one_of HT_.out m10_q) (by decide) (fun K hK => ?_)
 refine goes_ Try.func22 m10_q rfl #[.slice Ao27 t387.length co27, .agg #[.int .i64 t390, .slice Ao28 t391.length co28]] (by rfl) rfl rfl m0_q ?_
 with_reducible refine (spec_PlanMake.calls k _ _ t387 t390 _ _ t391 t394 t397 _ ?side1 ?side2 ?side3 ?side4 A15.out).mono ?_
 (case side1 => repeat (first | exact (Kd.S_reads' HO389.out).2.2 | (with_reducible refine cA_q ?_ _) | (with_reducible refine cN_q ?_ _) | (with_reducible refine cD_q ?_)))
 (case side2 => exact (Kd.S_reads' HO389.out).2.1)
 (case side3 => exact cup (rR_q HO393.out).2.2)
 (case side4 => exact (rR_q HO393.out).2.1)
 rintro e w' ⟨v395, rfl, ho0, hb⟩
 refine ⟨_, rfl, ?_⟩
 replace HO389 := Ae_q (Kd.S_elder' m38_q (rB_q ho0) hb)
 have HO396 := Ae_q (rL_q (rW_q ho0 (rT_q (rup HO393.out))) (bZ_q m11_q))
 replace HO393 := Ae_q (rE_q (rup HO393.out) (rB_q ho0) hb)
 replace BK384 := Ae_q (bB_q (g := gb384) (o := .cells #[.int .i64 a1_0, .slice A1_1 l1_1.length c1_1] 39 (0, 0)) (bup BK384.out) hb)
 replace HB := Ae_q (bT_q m11_q hb)
 (try clear hb)
 (try clear hb2)
 (try clear hk)
 (try clear hi)
 (try clear ho0)
 refine hK.out _ _ ⟨(bC_q BK384.out 0).trans rfl, (bC_q BK384.out 1).trans rfl⟩ (fun hHeld => ?_)
 clear hK K
 refine nJ_q ?_
 refine pJ HT_ 5 27 rfl rfl ?_
 refine pJ HT_ 6 33 rfl rfl ?_
 refine pJ HT_ 7 34 rfl rfl ?_
 refine pJ HT_ 8 6 rfl rfl ?_
 refine pJ HT_ 9 7 rfl rfl ?_
 refine done_ (done_of HT_.out m10_q) ?_
 go_upto_region 12 with (first | ((with_reducible refine gC_q (f := 12) rfl ?_); refine gL_q (some 36) rfl rfl Try.func12 m10_q rfl #[.slice A0 l0.length c0] rfl m0_q ?_; (with_reducible refine (laws_toStepS.calls k _ _ l0 t398 _ ?side1 ?side2 A16.out).mono ?_); (case side1 => exact m23_q); (case side2 => exact m56_q); rintro e w30 ⟨v399, rfl, ho0, hb⟩; refine ⟨_, rfl, ?_⟩; have HO400 := Ae_q (Kd.S_lower (Kd.S_new' (Kd.S_new' (Kd.S_new' ho0 (Kd.S_lt m38_q)) (rT_q (rup HO393.out))) (rT_q (rup HO396.out))) (bZ_q m11_q)); replace HO389 := Ae_q (Kd.S_elder' m38_q (Kd.S_base ho0) hb); replace HO393 := Ae_q (rO_q (rup HO393.out) hb); replace HO396 := Ae_q (rO_q (rup HO396.out) hb); replace BK384 := Ae_q (bB_q (g := gb384) (o := .cells #[.int .i64 a1_0, .slice A1_1 l1_1.length c1_1] 39 (0, 0)) (bup BK384.out) hb); replace HB := Ae_q (bT_q m11_q hb); (try clear hb); (try clear hb2); (try clear hk); (try clear hi); (try clear ho0); have hcz31_0 : cI w30 gb384 0 a1_0 := cZ BK384 0 rfl; have hcz31_1 : w30.cell? ⟨gb384, 1, none⟩ = some (.slice A1_1 l1_1.length c1_1) := (bC_q BK384.out 1).trans rfl; have hfz31_0 := bF_q BK384.out 0; have hfz31_1 := bF_q BK384.out 1) | ((with_reducible refine gC_q (f := 23) rfl ?_); refine gL_q (some 38) rfl rfl Try.func23 m10_q rfl #[.agg #[.int .i64 a1_0, .slice A1_1 l1_1.length c1_1]] rfl m0_q ?_; (with_reducible refine (laws_toKitchen.calls k a1_0 _ _ l1_1 t401 t402 _ ?side1 ?side2 A17.out).mono ?_); (case side1 => exact m31_q); (case side2 => exact m65_q); rintro e w' ⟨v403, rfl, ho0, hb⟩; refine ⟨_, rfl, ?_⟩; replace HO389 := Ae_q (Kd.S_elder' m38_q (rB_q ho0) hb); replace HO400 := Ae_q (Kd.S_elder' m88_q (rB_q ho0) hb); have HO404 := Ae_q (rL_q (rW_q (rW_q ho0 (rT_q (rup HO393.out))) (rT_q (rup HO396.out))) (bZ_q m11_q)); replace HO393 := Ae_q (rE_q (rup HO393.out) (rB_q ho0) hb); replace HO396 := Ae_q (rE_q (rup HO396.out) (rB_q ho0) hb); replace BK384 := Ae_q (bB_q (g := gb384) (o := .cells #[.int .i64 a1_0, .slice A1_1 l1_1.length c1_1] 39 (0, 0)) (bup BK384.out) hb); replace HB := Ae_q (bT_q m11_q hb); (try clear hb); (try clear hb2); (try clear hk); (try clear hi); (try clear ho0)) | ((with_reducible refine gD_q (N := 9) rfl ?_); refine bE_q ?hg (N := 9) ?hd (cs := #[.int .i64 0, .slice none 0 0]) (t := 43) ?hr ?_; (case hd => rfl); (case hg => rfl); (case hr => exact m6_q); intro gb405 hg w33 hbox hb; replace HO389 := Ae_q (Kd.S_below m38_q hb); replace HO393 := Ae_q (rO_q (rup HO393.out) hb); replace HO396 := Ae_q (rO_q (rup HO396.out) hb); replace HO400 := Ae_q (Kd.S_below m88_q hb); replace HO404 := Ae_q (rO_q (rup HO404.out) hb); have BK405 := Ae_q (hbox); have GW405 := Ae_q ((by rw [hg]; exact (bZ_q m11_q) : w.heap.size ≤ gb405)); have GE405 := Ae_q ((by rw [hg]; exact (bZ_q m11_q) : w.heap.size ≤ gb405)); replace HB := Ae_q (bT_q m11_q hb); have NB384_405 := Ae_q ((by rw [hg]; exact nL_q (blk_lt (g := gb384) (o := .cells #[.int .i64 a1_0, .slice A1_1 l1_1.length c1_1] 39 (0, 0)) (bup BK384.out)) : gb384 ≠ gb405)); have NB405_384 := Ae_q ((by rw [hg]; exact nG_q (blk_lt (g := gb384) (o := .cells #[.int .i64 a1_0, .slice A1_1 l1_1.length c1_1] 39 (0, 0)) (bup BK384.out)) : gb405 ≠ gb384)); replace BK384 := Ae_q (bB_q (g := gb384) (o := .cells #[.int .i64 a1_0, .slice A1_1 l1_1.length c1_1] 39 (0, 0)) (bup BK384.out) hb); clear hb hbox hg; have hnb34 := NB405_384.out; have hnc34 := NB384_405.out; have hcz35_0 : cI w33 gb405 0 0 := cZ BK405 0 rfl; have hcz35_1 : w33.cell? ⟨gb405, 1, none⟩ = some (.slice none 0 0) := (bC_q BK405.out 1).trans rfl; have hfz35_0 := bF_q BK405.out 0; have hfz35_1 := bF_q BK405.out 1; obtain ⟨Ao36, co36, eo36⟩ := rS_q HO404.out; subst eo36; obtain ⟨Ao37, co37, eo37⟩ := Kd.S_slice HO400.out; subst eo37) | ((with_reducible refine gC_q (f := 24) rfl ?_); refine gL_q (some 42) rfl rfl Try.func24 m10_q rfl #[.slice Ao37 t398.length co37, .agg #[.int .i64 t401, .slice Ao36 t402.length co36]] rfl m0_q ?_; (with_reducible refine (impl_PlanMake.calls k _ _ t398 t401 _ _ t402 t406 t409 _ ?side1 ?side2 ?side3 ?side4 A18.out).mono ?_); (case side1 => refine (Kd.S_reads' (e := 63) (base := w.heap.size) (ok := fun k_ => ((((True ∧ some k_ ≠ (.slice Ao27 t387.length co27 : Value).ownBlock) ∧ some k_ ≠ (.slice Ao28 t391.length co28 : Value).ownBlock) ∧ some k_ ≠ (v395 : Value).ownBlock) ∧ some k_ ≠ (.slice Ao36 t402.length co36 : Value).ownBlock)) (n := t398.length) (c := co37) ?_).2.2; exact (by (with_reducible repeat (first | apply tA_q | apply tN_q | apply tD_q)); exact (Kd.S_mono (Kd.S_far (p := ⟨gb405, 1, none⟩) (Kd.S_far (p := ⟨gb405, 0, none⟩) (Kd.S_types HO400.out BK405.out (by decide)) (fun _ hk => by first | exact hk.2 | exact hk.2 | exact hk.1.2 | exact hk.1.1.2 | exact hk.1.1.1.2 | exact hk.1.1.1.1.2 | exact hk.1.1.1.1.1.2 | exact hk.1 | exact hk.1.1 | exact hk.1.1.1 | exact hk.1.1.1.1 | exact hk.1.1.1.1.1 | exact hk.2.1 | exact hk.2.2) (.int .i64 t401)) (fun _ hk => by first | exact hk.2 | exact hk.2 | exact hk.1.2 | exact hk.1.1.2 | exact hk.1.1.1.2 | exact hk.1.1.1.1.2 | exact hk.1.1.1.1.1.2 | exact hk.1 | exact hk.1.1 | exact hk.1.1.1 | exact hk.1.1.1.1 | exact hk.1.1.1.1.1 | exact hk.2.1 | exact hk.2.2) (.slice Ao36 t402.length co36)) (fun _ h_ => h_.1)))); (case side2 => exact (Kd.S_reads' HO400.out).2.1); (case side3 => refine (rR_q (e := 3) (base := w.heap.size) (ok := fun k_ => ((True ∧ some k_ ≠ (.slice Ao28 t391.length co28 : Value).ownBlock) ∧ some k_ ≠ (v395 : Value).ownBlock)) (n := t402.length) (c := co36) ?_).2.2; exact (by (with_reducible repeat (first | apply rA_q | apply rN_q | apply rD_q)); exact (rM_q (Kd.R_far (p := ⟨gb405, 1, none⟩) (Kd.R_far (p := ⟨gb405, 0, none⟩) (Kd.R_types HO404.out BK405.out (by decide)) (fun _ hk => by first | exact hk.2 | exact hk.2 | exact hk.1.2 | exact hk.1.1.2 | exact hk.1.1.1.2 | exact hk.1.1.1.1.2 | exact hk.1.1.1.1.1.2 | exact hk.1 | exact hk.1.1 | exact hk.1.1.1 | exact hk.1.1.1.1 | exact hk.1.1.1.1.1 | exact hk.2.1 | exact hk.2.2) (.int .i64 t401)) (fun _ hk => by first | exact hk.2 | exact hk.2 | exact hk.1.2 | exact hk.1.1.2 | exact hk.1.1.1.2 | exact hk.1.1.1.1.2 | exact hk.1.1.1.1.1.2 | exact hk.1 | exact hk.1.1 | exact hk.1.1.1 | exact hk.1.1.1.1 | exact hk.1.1.1.1.1 | exact hk.2.1 | exact hk.2.2) (.slice Ao36 t402.length co36)) (fun _ h_ => h_.1)))); (case side4 => exact (rR_q HO404.out).2.1); rintro e w' ⟨v407, rfl, ho0, hb⟩; refine ⟨_, rfl, ?_⟩; replace HO389 := Ae_q (Kd.S_elder' (by (with_reducible repeat (first | apply tA_q | apply tN_q | apply tD_q)); exact (Kd.S_mono (Kd.S_far (p := ⟨gb405, 1, none⟩) (Kd.S_far (p := ⟨gb405, 0, none⟩) (Kd.S_types HO389.out BK405.out (by decide)) (fun _ hk => by first | exact hk.2 | exact hk.2 | exact hk.1.2 | exact hk.1.1.2 | exact hk.1.1.1.2 | exact hk.1.1.1.1.2 | exact hk.1.1.1.1.1.2 | exact hk.1 | exact hk.1.1 | exact hk.1.1.1 | exact hk.1.1.1.1 | exact hk.1.1.1.1.1 | exact hk.2.1 | exact hk.2.2) (.int .i64 t401)) (fun _ hk => by first | exact hk.2 | exact hk.2 | exact hk.1.2 | exact hk.1.1.2 | exact hk.1.1.1.2 | exact hk.1.1.1.1.2 | exact hk.1.1.1.1.1.2 | exact hk.1 | exact hk.1.1 | exact hk.1.1.1 | exact hk.1.1.1.1 | exact hk.1.1.1.1.1 | exact hk.2.1 | exact hk.2.2) (.slice Ao36 t402.length co36)) (fun _ h_ => h_.1))) (rB_q ho0) hb); replace HO400 := Ae_q (Kd.S_elder' (by (with_reducible repeat (first | apply tA_q | apply tN_q | apply tD_q)); exact (Kd.S_mono (Kd.S_far (p := ⟨gb405, 1, none⟩) (Kd.S_far (p := ⟨gb405, 0, none⟩) (Kd.S_types HO400.out BK405.out (by decide)) (fun _ hk => by first | exact hk.2 | exact hk.2 | exact hk.1.2 | exact hk.1.1.2 | exact hk.1.1.1.2 | exact hk.1.1.1.1.2 | exact hk.1.1.1.1.1.2 | exact hk.1 | exact hk.1.1 | exact hk.1.1.1 | exact hk.1.1.1.1 | exact hk.1.1.1.1.1 | exact hk.2.1 | exact hk.2.2) (.int .i64 t401)) (fun _ hk => by first | exact hk.2 | exact hk.2 | exact hk.1.2 | exact hk.1.1.2 | exact hk.1.1.1.2 | exact hk.1.1.1.1.2 | exact hk.1.1.1.1.1.2 | exact hk.1 | exact hk.1.1 | exact hk.1.1.1 | exact hk.1.1.1.1 | exact hk.1.1.1.1.1 | exact hk.2.1 | exact hk.2.2) (.slice Ao36 t402.length co36)) (fun _ h_ => h_.1))) (rB_q ho0) hb); have HO408 := Ae_q (rL_q (rW_q (rW_q (rW_q ho0 (rT_q (by (with_reducible repeat (first | apply rA_q | apply rN_q | apply rD_q)); exact (rM_q (Kd.R_far (p := ⟨gb405, 1, none⟩) (Kd.R_far (p := ⟨gb405, 0, none⟩) (Kd.R_types HO393.out BK405.out (by decide)) (fun _ hk => by first | exact hk.2 | exact hk.2 | exact hk.1.2 | exact hk.1.1.2 | exact hk.1.1.1.2 | exact hk.1.1.1.1.2 | exact hk.1.1.1.1.1.2 | exact hk.1 | exact hk.1.1 | exact hk.1.1.1 | exact hk.1.1.1.1 | exact hk.1.1.1.1.1 | exact hk.2.1 | exact hk.2.2) (.int .i64 t401)) (fun _ hk => by first | exact hk.2 | exact hk.2 | exact hk.1.2 | exact hk.1.1.2 | exact hk.1.1.1.2 | exact hk.1.1.1.1.2 | exact hk.1.1.1.1.1.2 | exact hk.1 | exact hk.1.1 | exact hk.1.1.1 | exact hk.1.1.1.1 | exact hk.1.1.1.1.1 | exact hk.2.1 | exact hk.2.2) (.slice Ao36 t402.length co36)) (fun _ h_ => h_.1))))) (rT_q (by (with_reducible repeat (first | apply rA_q | apply rN_q | apply rD_q)); exact (rM_q (Kd.R_far (p := ⟨gb405, 1, none⟩) (Kd.R_far (p := ⟨gb405, 0, none⟩) (Kd.R_types HO396.out BK405.out (by decide)) (fun _ hk => by first | exact hk.2 | exact hk.2 | exact hk.1.2 | exact hk.1.1.2 | exact hk.1.1.1.2 | exact hk.1.1.1.1.2 | exact hk.1.1.1.1.1.2 | exact hk.1 | exact hk.1.1 | exact hk.1.1.1 | exact hk.1.1.1.1 | exact hk.1.1.1.1.1 | exact hk.2.1 | exact hk.2.2) (.int .i64 t401)) (fun _ hk => by first | exact hk.2 | exact hk.2 | exact hk.1.2 | exact hk.1.1.2 | exact hk.1.1.1.2 | exact hk.1.1.1.1.2 | exact hk.1.1.1.1.1.2 | exact hk.1 | exact hk.1.1 | exact hk.1.1.1 | exact hk.1.1.1.1 | exact hk.1.1.1.1.1 | exact hk.2.1 | exact hk.2.2) (.slice Ao36 t402.length co36)) (fun _ h_ => h_.1))))) (rT_q (by (with_reducible repeat (first | apply rA_q | apply rN_q | apply rD_q)); exact (rM_q (Kd.R_far (p := ⟨gb405, 1, none⟩) (Kd.R_far (p := ⟨gb405, 0, none⟩) (Kd.R_types HO404.out BK405.out (by decide)) (fun _ hk => by first | exact hk.2 | exact hk.2 | exact hk.1.2 | exact hk.1.1.2 | exact hk.1.1.1.2 | exact hk.1.1.1.1.2 | exact hk.1.1.1.1.1.2 | exact hk.1 | exact hk.1.1 | exact hk.1.1.1 | exact hk.1.1.1.1 | exact hk.1.1.1.1.1 | exact hk.2.1 | exact hk.2.2) (.int .i64 t401)) (fun _ hk => by first | exact hk.2 | exact hk.2 | exact hk.1.2 | exact hk.1.1.2 | exact hk.1.1.1.2 | exact hk.1.1.1.1.2 | exact hk.1.1.1.1.1.2 | exact hk.1 | exact hk.1.1 | exact hk.1.1.1 | exact hk.1.1.1.1 | exact hk.1.1.1.1.1 | exact hk.2.1 | exact hk.2.2) (.slice Ao36 t402.length co36)) (fun _ h_ => h_.1))))) (bZ_q m2_q)); replace HO393 := Ae_q (rE_q (by (with_reducible repeat (first | apply rA_q | apply rN_q | apply rD_q)); exact (rM_q (Kd.R_far (p := ⟨gb405, 1, none⟩) (Kd.R_far (p := ⟨gb405, 0, none⟩) (Kd.R_types HO393.out BK405.out (by decide)) (fun _ hk => by first | exact hk.2 | exact hk.2 | exact hk.1.2 | exact hk.1.1.2 | exact hk.1.1.1.2 | exact hk.1.1.1.1.2 | exact hk.1.1.1.1.1.2 | exact hk.1 | exact hk.1.1 | exact hk.1.1.1 | exact hk.1.1.1.1 | exact hk.1.1.1.1.1 | exact hk.2.1 | exact hk.2.2) (.int .i64 t401)) (fun _ hk => by first | exact hk.2 | exact hk.2 | exact hk.1.2 | exact hk.1.1.2 | exact hk.1.1.1.2 | exact hk.1.1.1.1.2 | exact hk.1.1.1.1.1.2 | exact hk.1 | exact hk.1.1 | exact hk.1.1.1 | exact hk.1.1.1.1 | exact hk.1.1.1.1.1 | exact hk.2.1 | exact hk.2.2) (.slice Ao36 t402.length co36)) (fun _ h_ => h_.1))) (rB_q ho0) hb); replace HO396 := Ae_q (rE_q (by (with_reducible repeat (first | apply rA_q | apply rN_q | apply rD_q)); exact (rM_q (Kd.R_far (p := ⟨gb405, 1, none⟩) (Kd.R_far (p := ⟨gb405, 0, none⟩) (Kd.R_types HO396.out BK405.out (by decide)) (fun _ hk => by first | exact hk.2 | exact hk.2 | exact hk.1.2 | exact hk.1.1.2 | exact hk.1.1.1.2 | exact hk.1.1.1.1.2 | exact hk.1.1.1.1.1.2 | exact hk.1 | exact hk.1.1 | exact hk.1.1.1 | exact hk.1.1.1.1 | exact hk.1.1.1.1.1 | exact hk.2.1 | exact hk.2.2) (.int .i64 t401)) (fun _ hk => by first | exact hk.2 | exact hk.2 | exact hk.1.2 | exact hk.1.1.2 | exact hk.1.1.1.2 | exact hk.1.1.1.1.2 | exact hk.1.1.1.1.1.2 | exact hk.1 | exact hk.1.1 | exact hk.1.1.1 | exact hk.1.1.1.1 | exact hk.1.1.1.1.1 | exact hk.2.1 | exact hk.2.2) (.slice Ao36 t402.length co36)) (fun _ h_ => h_.1))) (rB_q ho0) hb); replace HO404 := Ae_q (rE_q (by (with_reducible repeat (first | apply rA_q | apply rN_q | apply rD_q)); exact (rM_q (Kd.R_far (p := ⟨gb405, 1, none⟩) (Kd.R_far (p := ⟨gb405, 0, none⟩) (Kd.R_types HO404.out BK405.out (by decide)) (fun _ hk => by first | exact hk.2 | exact hk.2 | exact hk.1.2 | exact hk.1.1.2 | exact hk.1.1.1.2 | exact hk.1.1.1.1.2 | exact hk.1.1.1.1.1.2 | exact hk.1 | exact hk.1.1 | exact hk.1.1.1 | exact hk.1.1.1.1 | exact hk.1.1.1.1.1 | exact hk.2.1 | exact hk.2.2) (.int .i64 t401)) (fun _ hk => by first | exact hk.2 | exact hk.2 | exact hk.1.2 | exact hk.1.1.2 | exact hk.1.1.1.2 | exact hk.1.1.1.1.2 | exact hk.1.1.1.1.1.2 | exact hk.1 | exact hk.1.1 | exact hk.1.1.1 | exact hk.1.1.1.1 | exact hk.1.1.1.1.1 | exact hk.2.1 | exact hk.2.2) (.slice Ao36 t402.length co36)) (fun _ h_ => h_.1))) (rB_q ho0) hb); replace BK384 := Ae_q (bB_q (g := gb384) (o := .cells #[.int .i64 a1_0, .slice A1_1 l1_1.length c1_1] 39 (0, 0)) (by (with_reducible repeat (first | refine bN_q ?_ _ | refine bW_q ?_ | refine bL_q ?_ _)); refine blk_far ?_ NB384_405.out _; (with_reducible repeat (first | refine bN_q ?_ _ | refine bW_q ?_ | refine bL_q ?_ _)); refine blk_far ?_ NB384_405.out _; (with_reducible repeat (first | refine bN_q ?_ _ | refine bW_q ?_ | refine bL_q ?_ _)); exact BK384.out) hb); replace BK405 := Ae_q (bB_q (g := gb405) (o := .cells #[.int .i64 t401, .slice Ao36 t402.length co36] 43 (0, 0)) (by (with_reducible repeat (first | refine bN_q ?_ _ | refine bW_q ?_ | refine bL_q ?_ _)); refine blk_put (cs := #[.int .i64 t401, .slice none 0 0]) ?_ 1 _ rfl; (with_reducible repeat (first | refine bN_q ?_ _ | refine bW_q ?_ | refine bL_q ?_ _)); refine blk_put (cs := #[.int .i64 0, .slice none 0 0]) ?_ 0 _ rfl; (with_reducible repeat (first | refine bN_q ?_ _ | refine bW_q ?_ | refine bL_q ?_ _)); exact BK405.out) hb); replace HB := Ae_q (bT_q m2_q hb); (try clear hb); (try clear hb2); (try clear hk); (try clear hi); (try clear ho0)))
 (try simp only [Act.put, sA_q, sZ_q, sS_q])
 go_cut [53] (fun v53 wc => ∃ (kq : Nat) (x53_18 : Bool), v53 = .bool x53_18 ∧ Aside0 (laws_FnExactPlanMake.j0 kq l0 t394 t397 t398 t406 t409 x53_18 a1_0 l1_1 t401 t402 = some r) ∧ Aside0 (kq ≤ k) ∧ Aside0 (Kd.R kI_q 3 wc w.heap.size (fun k_ => some k_ ≠ (v407 : Value).ownBlock ∧ some k_ ≠ ((.slice Ao36 t402.length co36) : Value).ownBlock) v395 t394) ∧ Aside0 (Kd.S k63 63 wc w.heap.size (fun k_ => some k_ ≠ (v395 : Value).ownBlock ∧ some k_ ≠ (v407 : Value).ownBlock ∧ some k_ ≠ ((.slice Ao36 t402.length co36) : Value).ownBlock) (.slice Ao37 t398.length co37) t398) ∧ Aside0 (Kd.R kI_q 3 wc w.heap.size (fun k_ => some k_ ≠ (v395 : Value).ownBlock ∧ some k_ ≠ ((.slice Ao36 t402.length co36) : Value).ownBlock) v407 t406) ∧ Aside0 (Kd.R kI_q 3 wc w.heap.size (fun k_ => some k_ ≠ (v395 : Value).ownBlock ∧ some k_ ≠ (v407 : Value).ownBlock) (.slice Ao36 t402.length co36) t402) ∧ Aside0 (wc.heap[gb384]? = some (.cells #[.int .i64 a1_0, (.slice A1_1 l1_1.length c1_1)] 39 (0, 0))) ∧ Aside0 (wc.heap[gb405]? = some (.cells #[.int .i64 t401, (.slice Ao36 t402.length co36)] 43 (0, 0))) ∧ Aside0 (Below w.heap.size w wc))
 case first =>
  have H := HC19.out
  clear HC19
  replace H := oB_q.mp H
  obtain ⟨t410, A390, H⟩ := H
  replace H : (if t410 = true then (laws_FnExactPlanMake.j0 k l0 t394 t397 t398 t406 t409 (t409 != t397) a1_0 l1_1 t401 t402) else (laws_FnExactPlanMake.j0 k l0 t394 t397 t398 t406 t409 true a1_0 l1_1 t401 t402)) = some r := H
  have A39 := Ae_q A390
  clear A390
  by_cases c40 : t410 = true
  ·subst c40
   have H1 : (laws_FnExactPlanMake.j0 k l0 t394 t397 t398 t406 t409 (t409 != t397) a1_0 l1_1 t401 t402) = some r := by rw [if_pos rfl] at H; exact H
   clear H
   have H := H1
   clear H1
   have H' := Ae_q H
   clear H
   obtain ⟨Ao41, co41, eo41⟩ := rS_q HO408.out
   subst eo41
   obtain ⟨Ao42, co42, eo42⟩ := rS_q HO396.out
   subst eo42
   go_wp2_with (first | ((with_reducible refine gC_q (f := 16) rfl ?_); refine gL_q (some 47) rfl rfl Try.func16 m10_q rfl #[.slice Ao41 t406.length co41, .slice Ao42 t394.length co42] rfl m0_q ?_; (with_reducible refine (laws_eqIntS.calls k _ _ t406 _ _ t394 true _ ?side1 ?side2 ?side3 ?side4 A39.out).mono ?_); (case side1 => exact cup (rR_q HO408.out).2.2); (case side2 => exact (rR_q HO408.out).2.1); (case side3 => exact cup (rR_q HO396.out).2.2); (case side4 => exact (rR_q HO396.out).2.1); rintro e w' ⟨rfl, ⟨nd, rfl⟩⟩; refine ⟨_, rfl, ?_⟩))
   go_meet
   case rel => exact ⟨_, ((t409 != t397)), m4_q, H', ⟨m93_q⟩, ⟨m75_q⟩, ⟨m69_q⟩, ⟨m76_q⟩, ⟨m77_q⟩, ⟨bup BK384.out⟩, ⟨bup BK405.out⟩, ⟨m2_q⟩⟩
  replace c40 := fM_q.mpr c40
  subst c40
  have H1 : (laws_FnExactPlanMake.j0 k l0 t394 t397 t398 t406 t409 true a1_0 l1_1 t401 t402) = some r := by rw [if_neg (show ¬ (false = true) by decide)] at H; exact H
  clear H
  have H := H1
  clear H1
  have H' := Ae_q H
  clear H
  obtain ⟨Ao43, co43, eo43⟩ := rS_q HO408.out
  subst eo43
  obtain ⟨Ao44, co44, eo44⟩ := rS_q HO396.out
  subst eo44
  go_wp2_with (first | ((with_reducible refine gC_q (f := 16) rfl ?_); refine gL_q (some 47) rfl rfl Try.func16 m10_q rfl #[.slice Ao43 t406.length co43, .slice Ao44 t394.length co44] rfl m0_q ?_; (with_reducible refine (laws_eqIntS.calls k _ _ t406 _ _ t394 false _ ?side1 ?side2 ?side3 ?side4 A39.out).mono ?_); (case side1 => exact cup (rR_q HO408.out).2.2); (case side2 => exact (rR_q HO408.out).2.1); (case side3 => exact cup (rR_q HO396.out).2.2); (case side4 => exact (rR_q HO396.out).2.1); rintro e w' ⟨rfl, ⟨nd, rfl⟩⟩; refine ⟨_, rfl, ?_⟩))
  go_meet
  case rel => exact ⟨_, (true), m4_q, H', ⟨m93_q⟩, ⟨m75_q⟩, ⟨m69_q⟩, ⟨m76_q⟩, ⟨m77_q⟩, ⟨bup BK384.out⟩, ⟨bup BK405.out⟩, ⟨m2_q⟩⟩
 case rest =>
  clear HC19
  try clear c1
  try clear c2
  try clear p2
  try clear c3
  try clear c4
  try clear c4b0
  try clear c8
  try clear c8b0
  try clear c10
  try clear c12
  try clear c16
  try clear c21
  try clear c22
  try clear c23
  try clear c24
  try clear c34
  try clear c40
  try clear hcz11_0
  try clear hcz11_1
  try clear hcz22_0
  try clear hcz22_1
  try clear hcz31_0
  try clear hcz31_1
  try clear hcz35_0
  try clear hcz35_1
  try clear hfz11_0
  try clear hfz11_1
  try clear hfz22_0
  try clear hfz22_1
  try clear hfz31_0
  try clear hfz31_1
  try clear hfz35_0
  try clear hfz35_1
  obtain ⟨kq, x53_18, rfl, HA, HJ18, HO_6, HO_8, HO_10, HO_406001, BK384, BK405, HB⟩ := hcut
  cases kq with
  | zero => exact absurd HA.out (by simp [laws_FnExactPlanMake.j0])
  | succ kj18 =>
   have H := HA.out
   clear HA
   simp only [laws_FnExactPlanMake.j0] at H
   by_cases c45 : x53_18 = true
   ·subst c45
    have H1 : (some false) = some r := by rw [if_pos rfl] at H; exact H
    clear H
    have H := H1
    clear H1
    obtain rfl := oI_q H
    go_wp2
    go_ret
    exact ⟨m3_q, m2_q⟩
   replace c45 := fM_q.mpr c45
   subst c45
   have H1 : ((laws_toStepS.f kj18 l0).bind fun t411 => ((laws_eqStepS.f kj18 t398 t411).bind fun t414 => (if t414 = true then ((laws_toKitchen.f kj18 a1_0 l1_1).bind fun bt415 => ((laws_eqKitchen.f kj18 t401 t402 bt415.1 bt415.2).bind fun t419 => (if t419 = true then ((laws_markKitchen.f kj18 t401 t402 (markStepF t398 1)).bind fun bt420 => (if bt420.1 < 0 then (laws_FnExactPlanMake.j1 kj18 l0 t394 t397 t406 true a1_0 l1_1) else ((laws_eqIntS.f kj18 t406 t394).bind fun t422 => (if t422 = true then (laws_FnExactPlanMake.j1 kj18 l0 t394 t397 t406 (t409 != t397) a1_0 l1_1) else (laws_FnExactPlanMake.j1 kj18 l0 t394 t397 t406 true a1_0 l1_1))))) else (some false)))) else (some false)))) = some r := by rw [if_neg (show ¬ (false = true) by decide)] at H; exact H
   clear H
   have H := H1
   clear H1
   replace H := oB_q.mp H
   obtain ⟨t411, A460, H⟩ := H
   replace H : ((laws_eqStepS.f kj18 t398 t411).bind fun t414 => (if t414 = true then ((laws_toKitchen.f kj18 a1_0 l1_1).bind fun bt415 => ((laws_eqKitchen.f kj18 t401 t402 bt415.1 bt415.2).bind fun t419 => (if t419 = true then ((laws_markKitchen.f kj18 t401 t402 (markStepF t398 1)).bind fun bt420 => (if bt420.1 < 0 then (laws_FnExactPlanMake.j1 kj18 l0 t394 t397 t406 true a1_0 l1_1) else ((laws_eqIntS.f kj18 t406 t394).bind fun t422 => (if t422 = true then (laws_FnExactPlanMake.j1 kj18 l0 t394 t397 t406 (t409 != t397) a1_0 l1_1) else (laws_FnExactPlanMake.j1 kj18 l0 t394 t397 t406 true a1_0 l1_1))))) else (some false)))) else (some false))) = some r := H
   have A46 := Ae_q A460
   clear A460
   replace H := oB_q.mp H
   obtain ⟨t414, A470, H⟩ := H
   replace H : (if t414 = true then ((laws_toKitchen.f kj18 a1_0 l1_1).bind fun bt415 => ((laws_eqKitchen.f kj18 t401 t402 bt415.1 bt415.2).bind fun t419 => (if t419 = true then ((laws_markKitchen.f kj18 t401 t402 (markStepF t398 1)).bind fun bt420 => (if bt420.1 < 0 then (laws_FnExactPlanMake.j1 kj18 l0 t394 t397 t406 true a1_0 l1_1) else ((laws_eqIntS.f kj18 t406 t394).bind fun t422 => (if t422 = true then (laws_FnExactPlanMake.j1 kj18 l0 t394 t397 t406 (t409 != t397) a1_0 l1_1) else (laws_FnExactPlanMake.j1 kj18 l0 t394 t397 t406 true a1_0 l1_1))))) else (some false)))) else (some false)) = some r := H
   have A47 := Ae_q A470
   clear A470
   by_cases c48 : t414 = true
   rotate_left
   ·replace c48 := fM_q.mpr c48
    subst c48
    have H1 : (some false) = some r := by rw [if_neg (show ¬ (false = true) by decide)] at H; exact H
    clear H
    have H := H1
    clear H1
    obtain rfl := oI_q H
    go_wp2_with (first | ((with_reducible refine gC_q (f := 12) rfl ?_); refine gL_q (some 56) rfl rfl Try.func12 m10_q rfl #[.slice A0 l0.length c0] rfl m0_q ?_; (with_reducible refine (laws_toStepS.calls kj18 _ _ l0 t411 _ ?side1 ?side2 A46.out).mono ?_); (case side1 => exact m23_q); (case side2 => exact m56_q); rintro e w' ⟨v412, rfl, ho0, hb⟩; refine ⟨_, rfl, ?_⟩; have HO413 := Ae_q (Kd.S_lower (Kd.S_new' (Kd.S_new' (Kd.S_new' (Kd.S_new' ho0 (rT_q (rup HO_6.out))) (Kd.S_lt m16_q)) (rT_q (rup HO_10.out))) (rT_q (rup HO_406001.out))) (bZ_q m2_q)); replace HO_6 := Ae_q (rO_q (rup HO_6.out) hb); replace HO_8 := Ae_q (Kd.S_elder' m16_q (Kd.S_base ho0) hb); replace HO_10 := Ae_q (rO_q (rup HO_10.out) hb); replace HO_406001 := Ae_q (rO_q (rup HO_406001.out) hb); replace BK384 := Ae_q (bB_q (g := gb384) (o := .cells #[.int .i64 a1_0, .slice A1_1 l1_1.length c1_1] 39 (0, 0)) (bup BK384.out) hb); replace BK405 := Ae_q (bB_q (g := gb405) (o := .cells #[.int .i64 t401, .slice Ao36 t402.length co36] 43 (0, 0)) (bup BK405.out) hb); replace HB := Ae_q (bT_q m2_q hb); (try clear hb); (try clear hb2); (try clear hk); (try clear hi); (try clear ho0); obtain ⟨Ao110, co110, eo110⟩ := Kd.S_slice HO413.out; subst eo110) | ((with_reducible refine gC_q (f := 17) rfl ?_); refine gL_q (some 57) rfl rfl Try.func17 m10_q rfl #[.slice Ao37 t398.length co37, .slice Ao110 t411.length co110] rfl m0_q ?_; (with_reducible refine (laws_eqStepS.calls kj18 _ _ t398 _ _ t411 false _ ?side1 ?side2 ?side3 ?side4 A47.out).mono ?_); (case side1 => exact m46_q); (case side2 => exact (Kd.S_reads' HO_8.out).2.1); (case side3 => exact m45_q); (case side4 => exact (Kd.S_reads' HO413.out).2.1); rintro e w' ⟨rfl, hb⟩; refine ⟨_, rfl, ?_⟩; replace HO_6 := Ae_q (rO_q (rup HO_6.out) hb); replace HO_8 := Ae_q (Kd.S_below m16_q hb); replace HO_10 := Ae_q (rO_q (rup HO_10.out) hb); replace HO_406001 := Ae_q (rO_q (rup HO_406001.out) hb); replace HO413 := Ae_q (Kd.S_below m34_q hb); replace BK384 := Ae_q (bB_q (g := gb384) (o := .cells #[.int .i64 a1_0, .slice A1_1 l1_1.length c1_1] 39 (0, 0)) (bup BK384.out) hb); replace BK405 := Ae_q (bB_q (g := gb405) (o := .cells #[.int .i64 t401, .slice Ao36 t402.length co36] 43 (0, 0)) (bup BK405.out) hb); replace HB := Ae_q (bT_q m2_q hb); (try clear hb); (try clear hb2); (try clear hk); (try clear hi)) | (go_at_call 18; (refine (laws_markStepS.calls _ _ t398 1 _ w _ (bel HB.out) (Kd.S_R (Kd.S_bound m16_q)) rfl).mono ?_); rintro e w_mk ⟨rfl, hb, hkp⟩; have b0_ := Ae_q (mk_blk (bup BK384.out) hkp (fun hp => mk_tyb (bup BK384.out) hp.2.2.2 (by decide))); have b1_ := Ae_q (mk_blk (bup BK405.out) hkp (fun hp => mk_tyb (bup BK405.out) hp.2.2.2 (by decide))); have n0_ := Ae_q (mk_keep rfl (rup HO_6.out) hkp (fun k e hp => by first | exact hp.2 e.symm | exact hp.1.2 e.symm | exact hp.1.1.2 e.symm | exact hp.1.1.1.2 e.symm | exact hp.1.1.1.1.2 e.symm | exact hp.1.1.1.1.1.2 e.symm | exact hp.1.1.1.1.1.1.2 e.symm | exact hp.1.1.1.1.1.1.1.2 e.symm | exact hp.1.1.1.1.1.1.1.1.2 e.symm | exact hp.1.1.1.1.1.1.1.1.1.2 e.symm | exact hp.1 e.symm | (rw [← e] at hp; simp only [ne_eq, not_true_eq_false, and_false, false_and] at hp; done) | exact mk_ty (rup HO_6.out) e hp.2.2.2 (by decide))); have n1_ := Ae_q (mk_keep rfl (rup HO_10.out) hkp (fun k e hp => by first | exact hp.2 e.symm | exact hp.1.2 e.symm | exact hp.1.1.2 e.symm | exact hp.1.1.1.2 e.symm | exact hp.1.1.1.1.2 e.symm | exact hp.1.1.1.1.1.2 e.symm | exact hp.1.1.1.1.1.1.2 e.symm | exact hp.1.1.1.1.1.1.1.2 e.symm | exact hp.1.1.1.1.1.1.1.1.2 e.symm | exact hp.1.1.1.1.1.1.1.1.1.2 e.symm | exact hp.1 e.symm | (rw [← e] at hp; simp only [ne_eq, not_true_eq_false, and_false, false_and] at hp; done) | exact mk_ty (rup HO_10.out) e hp.2.2.2 (by decide))); have n2_ := Ae_q (mk_keep rfl (rup HO_406001.out) hkp (fun k e hp => by first | exact hp.2 e.symm | exact hp.1.2 e.symm | exact hp.1.1.2 e.symm | exact hp.1.1.1.2 e.symm | exact hp.1.1.1.1.2 e.symm | exact hp.1.1.1.1.1.2 e.symm | exact hp.1.1.1.1.1.1.2 e.symm | exact hp.1.1.1.1.1.1.1.2 e.symm | exact hp.1.1.1.1.1.1.1.1.2 e.symm | exact hp.1.1.1.1.1.1.1.1.1.2 e.symm | exact hp.1 e.symm | (rw [← e] at hp; simp only [ne_eq, not_true_eq_false, and_false, false_and] at hp; done) | exact mk_ty (rup HO_406001.out) e hp.2.2.2 (by decide))); have nB_ := Ae_q hb; clear HO_6; clear HO_10; clear HO_406001; clear HO_8; clear HO413; clear HB; clear BK384; have BK384 := b0_; clear b0_; clear BK405; have BK405 := b1_; clear b1_; have HO_6 := n0_; have HO_10 := n1_; have HO_406001 := n2_; have HB := nB_; clear nB_; clear n0_ n1_ n2_; clear hb; clear hkp))
    go_ret
    exact ⟨m3_q, m2_q⟩
   subst c48
   have H1 : ((laws_toKitchen.f kj18 a1_0 l1_1).bind fun bt415 => ((laws_eqKitchen.f kj18 t401 t402 bt415.1 bt415.2).bind fun t419 => (if t419 = true then ((laws_markKitchen.f kj18 t401 t402 (markStepF t398 1)).bind fun bt420 => (if bt420.1 < 0 then (laws_FnExactPlanMake.j1 kj18 l0 t394 t397 t406 true a1_0 l1_1) else ((laws_eqIntS.f kj18 t406 t394).bind fun t422 => (if t422 = true then (laws_FnExactPlanMake.j1 kj18 l0 t394 t397 t406 (t409 != t397) a1_0 l1_1) else (laws_FnExactPlanMake.j1 kj18 l0 t394 t397 t406 true a1_0 l1_1))))) else (some false)))) = some r := by rw [if_pos rfl] at H; exact H
   clear H
   have H := H1
   clear H1
   replace H := oB_q.mp H
   obtain ⟨⟨t415, t416⟩, A490, H⟩ := H
   replace H : ((laws_eqKitchen.f kj18 t401 t402 t415 t416).bind fun t419 => (if t419 = true then ((laws_markKitchen.f kj18 t401 t402 (markStepF t398 1)).bind fun bt420 => (if bt420.1 < 0 then (laws_FnExactPlanMake.j1 kj18 l0 t394 t397 t406 true a1_0 l1_1) else ((laws_eqIntS.f kj18 t406 t394).bind fun t422 => (if t422 = true then (laws_FnExactPlanMake.j1 kj18 l0 t394 t397 t406 (t409 != t397) a1_0 l1_1) else (laws_FnExactPlanMake.j1 kj18 l0 t394 t397 t406 true a1_0 l1_1))))) else (some false))) = some r := H
   have A49 := Ae_q A490
   clear A490
   replace H := oB_q.mp H
   obtain ⟨t419, A500, H⟩ := H
   replace H : (if t419 = true then ((laws_markKitchen.f kj18 t401 t402 (markStepF t398 1)).bind fun bt420 => (if bt420.1 < 0 then (laws_FnExactPlanMake.j1 kj18 l0 t394 t397 t406 true a1_0 l1_1) else ((laws_eqIntS.f kj18 t406 t394).bind fun t422 => (if t422 = true then (laws_FnExactPlanMake.j1 kj18 l0 t394 t397 t406 (t409 != t397) a1_0 l1_1) else (laws_FnExactPlanMake.j1 kj18 l0 t394 t397 t406 true a1_0 l1_1))))) else (some false)) = some r := H
   have A50 := Ae_q A500
   clear A500
   by_cases c51 : t419 = true
   rotate_left
   ·replace c51 := fM_q.mpr c51
    subst c51
    have H1 : (some false) = some r := by rw [if_neg (show ¬ (false = true) by decide)] at H; exact H
    clear H
    have H := H1
    clear H1
    obtain rfl := oI_q H
    try go_wp2_with (first | ((with_reducible refine gC_q (f := 12) rfl ?_); refine gL_q (some 56) rfl rfl Try.func12 m10_q rfl #[.slice A0 l0.length c0] rfl m0_q ?_; (with_reducible refine (laws_toStepS.calls kj18 _ _ l0 t411 _ ?side1 ?side2 A46.out).mono ?_); (case side1 => exact m23_q); (case side2 => exact m56_q); rintro e w' ⟨v412, rfl, ho0, hb⟩; refine ⟨_, rfl, ?_⟩; have HO413 := Ae_q (Kd.S_lower (Kd.S_new' (Kd.S_new' (Kd.S_new' (Kd.S_new' ho0 (rT_q (rup HO_6.out))) (Kd.S_lt m16_q)) (rT_q (rup HO_10.out))) (rT_q (rup HO_406001.out))) (bZ_q m2_q)); replace HO_6 := Ae_q (rO_q (rup HO_6.out) hb); replace HO_8 := Ae_q (Kd.S_elder' m16_q (Kd.S_base ho0) hb); replace HO_10 := Ae_q (rO_q (rup HO_10.out) hb); replace HO_406001 := Ae_q (rO_q (rup HO_406001.out) hb); replace BK384 := Ae_q (bB_q (g := gb384) (o := .cells #[.int .i64 a1_0, .slice A1_1 l1_1.length c1_1] 39 (0, 0)) (bup BK384.out) hb); replace BK405 := Ae_q (bB_q (g := gb405) (o := .cells #[.int .i64 t401, .slice Ao36 t402.length co36] 43 (0, 0)) (bup BK405.out) hb); replace HB := Ae_q (bT_q m2_q hb); (try clear hb); (try clear hb2); (try clear hk); (try clear hi); (try clear ho0); obtain ⟨Ao103, co103, eo103⟩ := Kd.S_slice HO413.out; subst eo103) | ((with_reducible refine gC_q (f := 17) rfl ?_); refine gL_q (some 57) rfl rfl Try.func17 m10_q rfl #[.slice Ao37 t398.length co37, .slice Ao103 t411.length co103] rfl m0_q ?_; (with_reducible refine (laws_eqStepS.calls kj18 _ _ t398 _ _ t411 true _ ?side1 ?side2 ?side3 ?side4 A47.out).mono ?_); (case side1 => exact m46_q); (case side2 => exact (Kd.S_reads' HO_8.out).2.1); (case side3 => exact m45_q); (case side4 => exact (Kd.S_reads' HO413.out).2.1); rintro e w104 ⟨rfl, hb⟩; refine ⟨_, rfl, ?_⟩; replace HO_6 := Ae_q (rO_q (rup HO_6.out) hb); replace HO_8 := Ae_q (Kd.S_below m16_q hb); replace HO_10 := Ae_q (rO_q (rup HO_10.out) hb); replace HO_406001 := Ae_q (rO_q (rup HO_406001.out) hb); replace HO413 := Ae_q (Kd.S_below m34_q hb); replace BK384 := Ae_q (bB_q (g := gb384) (o := .cells #[.int .i64 a1_0, .slice A1_1 l1_1.length c1_1] 39 (0, 0)) (bup BK384.out) hb); replace BK405 := Ae_q (bB_q (g := gb405) (o := .cells #[.int .i64 t401, .slice Ao36 t402.length co36] 43 (0, 0)) (bup BK405.out) hb); replace HB := Ae_q (bT_q m2_q hb); (try clear hb); (try clear hb2); (try clear hk); (try clear hi)) | (go_at_call 18; (refine (laws_markStepS.calls _ _ t398 1 _ w _ (bel HB.out) (Kd.S_R (Kd.S_bound m16_q)) rfl).mono ?_); rintro e w_mk ⟨rfl, hb, hkp⟩; have b0_ := Ae_q (mk_blk (bup BK384.out) hkp (fun hp => mk_tyb (bup BK384.out) hp.2.2.2 (by decide))); have b1_ := Ae_q (mk_blk (bup BK405.out) hkp (fun hp => mk_tyb (bup BK405.out) hp.2.2.2 (by decide))); have n0_ := Ae_q (mk_keep rfl (rup HO_6.out) hkp (fun k e hp => by first | exact hp.2 e.symm | exact hp.1.2 e.symm | exact hp.1.1.2 e.symm | exact hp.1.1.1.2 e.symm | exact hp.1.1.1.1.2 e.symm | exact hp.1.1.1.1.1.2 e.symm | exact hp.1.1.1.1.1.1.2 e.symm | exact hp.1.1.1.1.1.1.1.2 e.symm | exact hp.1.1.1.1.1.1.1.1.2 e.symm | exact hp.1.1.1.1.1.1.1.1.1.2 e.symm | exact hp.1 e.symm | (rw [← e] at hp; simp only [ne_eq, not_true_eq_false, and_false, false_and] at hp; done) | exact mk_ty (rup HO_6.out) e hp.2.2.2 (by decide))); have n1_ := Ae_q (mk_keep rfl (rup HO_10.out) hkp (fun k e hp => by first | exact hp.2 e.symm | exact hp.1.2 e.symm | exact hp.1.1.2 e.symm | exact hp.1.1.1.2 e.symm | exact hp.1.1.1.1.2 e.symm | exact hp.1.1.1.1.1.2 e.symm | exact hp.1.1.1.1.1.1.2 e.symm | exact hp.1.1.1.1.1.1.1.2 e.symm | exact hp.1.1.1.1.1.1.1.1.2 e.symm | exact hp.1.1.1.1.1.1.1.1.1.2 e.symm | exact hp.1 e.symm | (rw [← e] at hp; simp only [ne_eq, not_true_eq_false, and_false, false_and] at hp; done) | exact mk_ty (rup HO_10.out) e hp.2.2.2 (by decide))); have n2_ := Ae_q (mk_keep rfl (rup HO_406001.out) hkp (fun k e hp => by first | exact hp.2 e.symm | exact hp.1.2 e.symm | exact hp.1.1.2 e.symm | exact hp.1.1.1.2 e.symm | exact hp.1.1.1.1.2 e.symm | exact hp.1.1.1.1.1.2 e.symm | exact hp.1.1.1.1.1.1.2 e.symm | exact hp.1.1.1.1.1.1.1.2 e.symm | exact hp.1.1.1.1.1.1.1.1.2 e.symm | exact hp.1.1.1.1.1.1.1.1.1.2 e.symm | exact hp.1 e.symm | (rw [← e] at hp; simp only [ne_eq, not_true_eq_false, and_false, false_and] at hp; done) | exact mk_ty (rup HO_406001.out) e hp.2.2.2 (by decide))); have nB_ := Ae_q hb; clear HO_6; clear HO_10; clear HO_406001; clear HO_8; clear HO413; clear HB; clear BK384; have BK384 := b0_; clear b0_; clear BK405; have BK405 := b1_; clear b1_; have HO_6 := n0_; have HO_10 := n1_; have HO_406001 := n2_; have HB := nB_; clear nB_; clear n0_ n1_ n2_; clear hb; clear hkp))
    replace HO_6 := Ae_q (rD_q HO_6.out)
    replace HO_8 := Ae_q (tD_q HO_8.out)
    replace HO_10 := Ae_q (rD_q HO_10.out)
    replace HO_406001 := Ae_q (rD_q HO_406001.out)
    replace HO413 := Ae_q (tD_q HO413.out)
    replace BK384 := Ae_q (bW_q BK384.out)
    replace BK405 := Ae_q (bW_q BK405.out)
    replace HB := Ae_q (bD_q HB.out)
    refine start_ (n := 5) (S := fun w' => w'.cell? ⟨gb405, 0, none⟩ = some (.int .i64 t401) ∧ w'.cell? ⟨gb405, 1, none⟩ = some (.slice Ao36 t402.length co36) ∧ w'.cell? ⟨gb384, 0, none⟩ = some (.int .i64 a1_0) ∧ w'.cell? ⟨gb384, 1, none⟩ = some (.slice A1_1 l1_1.length c1_1)) (ds := []) #[false, false, false, false, false] m10_q rfl rfl ⟨(bC_q BK405.out 0).trans rfl, (bC_q BK405.out 1).trans rfl, (bC_q BK384.out 0).trans rfl, (bC_q BK384.out 1).trans rfl⟩ (fun hHeld => ?_)
    generalize w104.drew = w105 at HO_6 HO_8 HO_10 HO_406001 HO413 BK384 BK405 HB hHeld ⊢
    refine take_ (i := 0) (N := some 59) (v := ?_) (a' := ?_) #[true, false, false, false, false] rfl rfl m10_q (fun _ _ _ h => h) (Or.inl ⟨by rfl, ?_⟩) hHeld ?_ ?_
    rotate_left
    ·rintro w' ⟨s0, s1, s2, s3⟩
     go_simp
     with_reducible rfl
    rotate_left
    ·simp only [pS_q]
     rfl
    refine take_ (i := 1) (N := some 60) (v := ?_) (a' := ?_) #[true, true, false, false, false] rfl rfl m10_q (fun _ _ _ h => h) (Or.inl ⟨by rfl, ?_⟩) hHeld ?_ ?_
    rotate_left
    ·rintro w' ⟨s0, s1, s2, s3⟩
     go_simp
     with_reducible rfl
    rotate_left
    ·simp only [pS_q]
     rfl
    refine one_ (i := 2) (N := some 61) #[true, true, true, false, false] rfl rfl m10_q (by decide) (fun K hK => ?_)
    refine goes_ Try.func23 m10_q rfl #[.agg #[.int .i64 a1_0, .slice A1_1 l1_1.length c1_1]] (by rfl) rfl rfl m0_q ?_
    with_reducible refine (laws_toKitchen.calls kj18 a1_0 _ _ l1_1 t415 t416 _ ?side1 ?side2 A49.out).mono ?_
    (case side1 => exact m31_q)
    (case side2 => exact m65_q)
    rintro e w' ⟨v417, rfl, ho0, hb⟩
    refine ⟨_, rfl, ?_⟩
    replace HO_8 := Ae_q (Kd.S_elder' m16_q (rB_q ho0) hb)
    replace HO413 := Ae_q (Kd.S_elder' m34_q (rB_q ho0) hb)
    have HO418 := Ae_q (rL_q (rW_q (rW_q (rW_q ho0 (rT_q (rup HO_6.out))) (rT_q (rup HO_10.out))) (rT_q (rup HO_406001.out))) (bZ_q m2_q))
    replace HO_6 := Ae_q (rE_q (rup HO_6.out) (rB_q ho0) hb)
    replace HO_10 := Ae_q (rE_q (rup HO_10.out) (rB_q ho0) hb)
    replace HO_406001 := Ae_q (rE_q (rup HO_406001.out) (rB_q ho0) hb)
    replace BK384 := Ae_q (bB_q (g := gb384) (o := .cells #[.int .i64 a1_0, .slice A1_1 l1_1.length c1_1] 39 (0, 0)) (bup BK384.out) hb)
    replace BK405 := Ae_q (bB_q (g := gb405) (o := .cells #[.int .i64 t401, .slice Ao36 t402.length co36] 43 (0, 0)) (bup BK405.out) hb)
    replace HB := Ae_q (bT_q m2_q hb)
    (try clear hb)
    (try clear hb2)
    (try clear hk)
    (try clear hi)
    (try clear ho0)
    obtain ⟨Ao107, co107, eo107⟩ := rS_q HO418.out
    (first | subst eo107 | (injection eo107 with f1_ f2_ f3_; have f4_ := f1_.symm; have f5_ := f3_.symm; clear f1_ f2_ f3_; subst f4_; subst f5_))
    refine hK.out _ _ ⟨(bC_q BK405.out 0).trans rfl, (bC_q BK405.out 1).trans rfl, (bC_q BK384.out 0).trans rfl, (bC_q BK384.out 1).trans rfl⟩ (fun hHeld => ?_)
    clear hK K
    refine nJ_q ?_
    refine one_ (i := 3) (N := some 62) #[true, true, true, true, false] rfl rfl m10_q (by decide) (fun K hK => ?_)
    refine goes_ Try.func25 m10_q rfl #[.agg #[.int .i64 t401, .slice Ao36 t402.length co36], .agg #[.int .i64 t415, .slice Ao107 t416.length co107]] (by rfl) rfl rfl m0_q ?_
    with_reducible refine (laws_eqKitchen.calls kj18 t401 _ _ t402 t415 _ _ t416 false _ ?side1 ?side2 ?side3 ?side4 A50.out).mono ?_
    (case side1 => exact cup (rR_q HO_406001.out).2.2)
    (case side2 => exact (rR_q HO_406001.out).2.1)
    (case side3 => exact cup (rR_q HO418.out).2.2)
    (case side4 => exact (rR_q HO418.out).2.1)
    rintro e w' ⟨rfl, hb⟩
    refine ⟨_, rfl, ?_⟩
    replace HO_6 := Ae_q (rO_q (rup HO_6.out) hb)
    replace HO_8 := Ae_q (Kd.S_below m16_q hb)
    replace HO_10 := Ae_q (rO_q (rup HO_10.out) hb)
    replace HO_406001 := Ae_q (rO_q (rup HO_406001.out) hb)
    replace HO413 := Ae_q (Kd.S_below m34_q hb)
    replace HO418 := Ae_q (rO_q (rup HO418.out) hb)
    replace BK384 := Ae_q (bB_q (g := gb384) (o := .cells #[.int .i64 a1_0, .slice A1_1 l1_1.length c1_1] 39 (0, 0)) (bup BK384.out) hb)
    replace BK405 := Ae_q (bB_q (g := gb405) (o := .cells #[.int .i64 t401, .slice Ao36 t402.length co36] 43 (0, 0)) (bup BK405.out) hb)
    replace HB := Ae_q (bT_q m2_q hb)
    (try clear hb)
    (try clear hb2)
    (try clear hk)
    (try clear hi)
    refine hK.out _ _ ⟨(bC_q BK405.out 0).trans rfl, (bC_q BK405.out 1).trans rfl, (bC_q BK384.out 0).trans rfl, (bC_q BK384.out 1).trans rfl⟩ (fun hHeld => ?_)
    clear hK K
    refine nJ_q ?_
    refine pure_ (i := 4) (N := some 63) (v := ?_) (a' := ?_) #[true, true, true, true, true] rfl rfl m10_q (fun _ _ _ h => h) (Or.inl ⟨by rfl, ?_⟩) ?_ ?_
    rotate_left
    ·intro w'
     go_simp
     with_reducible rfl
    rotate_left
    ·simp only [pS_q]
     rfl
    refine done_ m10_q ?_
    try go_wp2
    go_ret
    exact ⟨m3_q, m2_q⟩
   subst c51
   have H1 : ((laws_markKitchen.f kj18 t401 t402 (markStepF t398 1)).bind fun bt420 => (if bt420.1 < 0 then (laws_FnExactPlanMake.j1 kj18 l0 t394 t397 t406 true a1_0 l1_1) else ((laws_eqIntS.f kj18 t406 t394).bind fun t422 => (if t422 = true then (laws_FnExactPlanMake.j1 kj18 l0 t394 t397 t406 (t409 != t397) a1_0 l1_1) else (laws_FnExactPlanMake.j1 kj18 l0 t394 t397 t406 true a1_0 l1_1))))) = some r := by rw [if_pos rfl] at H; exact H
   clear H
   have H := H1
   clear H1
   replace H := oB_q.mp H
   obtain ⟨⟨t420, t421⟩, A520, H⟩ := H
   replace H : (if t420 < 0 then (laws_FnExactPlanMake.j1 kj18 l0 t394 t397 t406 true a1_0 l1_1) else ((laws_eqIntS.f kj18 t406 t394).bind fun t422 => (if t422 = true then (laws_FnExactPlanMake.j1 kj18 l0 t394 t397 t406 (t409 != t397) a1_0 l1_1) else (laws_FnExactPlanMake.j1 kj18 l0 t394 t397 t406 true a1_0 l1_1)))) = some r := H
   have A52 := Ae_q A520
   clear A520
   have HC53 := Ae_q H
   clear H
   try go_wp2_with (first | ((with_reducible refine gC_q (f := 12) rfl ?_); refine gL_q (some 56) rfl rfl Try.func12 m10_q rfl #[.slice A0 l0.length c0] rfl m0_q ?_; (with_reducible refine (laws_toStepS.calls kj18 _ _ l0 t411 _ ?side1 ?side2 A46.out).mono ?_); (case side1 => exact m23_q); (case side2 => exact m56_q); rintro e w' ⟨v412, rfl, ho0, hb⟩; refine ⟨_, rfl, ?_⟩; have HO413 := Ae_q (Kd.S_lower (Kd.S_new' (Kd.S_new' (Kd.S_new' (Kd.S_new' ho0 (rT_q (rup HO_6.out))) (Kd.S_lt m16_q)) (rT_q (rup HO_10.out))) (rT_q (rup HO_406001.out))) (bZ_q m2_q)); replace HO_6 := Ae_q (rO_q (rup HO_6.out) hb); replace HO_8 := Ae_q (Kd.S_elder' m16_q (Kd.S_base ho0) hb); replace HO_10 := Ae_q (rO_q (rup HO_10.out) hb); replace HO_406001 := Ae_q (rO_q (rup HO_406001.out) hb); replace BK384 := Ae_q (bB_q (g := gb384) (o := .cells #[.int .i64 a1_0, .slice A1_1 l1_1.length c1_1] 39 (0, 0)) (bup BK384.out) hb); replace BK405 := Ae_q (bB_q (g := gb405) (o := .cells #[.int .i64 t401, .slice Ao36 t402.length co36] 43 (0, 0)) (bup BK405.out) hb); replace HB := Ae_q (bT_q m2_q hb); (try clear hb); (try clear hb2); (try clear hk); (try clear hi); (try clear ho0); obtain ⟨Ao55, co55, eo55⟩ := Kd.S_slice HO413.out; subst eo55) | ((with_reducible refine gC_q (f := 17) rfl ?_); refine gL_q (some 57) rfl rfl Try.func17 m10_q rfl #[.slice Ao37 t398.length co37, .slice Ao55 t411.length co55] rfl m0_q ?_; (with_reducible refine (laws_eqStepS.calls kj18 _ _ t398 _ _ t411 true _ ?side1 ?side2 ?side3 ?side4 A47.out).mono ?_); (case side1 => exact m46_q); (case side2 => exact (Kd.S_reads' HO_8.out).2.1); (case side3 => exact m45_q); (case side4 => exact (Kd.S_reads' HO413.out).2.1); rintro e w56 ⟨rfl, hb⟩; refine ⟨_, rfl, ?_⟩; replace HO_6 := Ae_q (rO_q (rup HO_6.out) hb); replace HO_8 := Ae_q (Kd.S_below m16_q hb); replace HO_10 := Ae_q (rO_q (rup HO_10.out) hb); replace HO_406001 := Ae_q (rO_q (rup HO_406001.out) hb); replace HO413 := Ae_q (Kd.S_below m34_q hb); replace BK384 := Ae_q (bB_q (g := gb384) (o := .cells #[.int .i64 a1_0, .slice A1_1 l1_1.length c1_1] 39 (0, 0)) (bup BK384.out) hb); replace BK405 := Ae_q (bB_q (g := gb405) (o := .cells #[.int .i64 t401, .slice Ao36 t402.length co36] 43 (0, 0)) (bup BK405.out) hb); replace HB := Ae_q (bT_q m2_q hb); (try clear hb); (try clear hb2); (try clear hk); (try clear hi)) | (go_at_call 18; (refine (laws_markStepS.calls _ _ t398 1 _ w _ (bel HB.out) (Kd.S_R (Kd.S_bound m16_q)) rfl).mono ?_); rintro e w_mk ⟨rfl, hb, hkp⟩; have b0_ := Ae_q (mk_blk (bup BK384.out) hkp (fun hp => mk_tyb (bup BK384.out) hp.2.2.2 (by decide))); have b1_ := Ae_q (mk_blk (bup BK405.out) hkp (fun hp => mk_tyb (bup BK405.out) hp.2.2.2 (by decide))); have n0_ := Ae_q (mk_keep rfl (rup HO_6.out) hkp (fun k e hp => by first | exact hp.2 e.symm | exact hp.1.2 e.symm | exact hp.1.1.2 e.symm | exact hp.1.1.1.2 e.symm | exact hp.1.1.1.1.2 e.symm | exact hp.1.1.1.1.1.2 e.symm | exact hp.1.1.1.1.1.1.2 e.symm | exact hp.1.1.1.1.1.1.1.2 e.symm | exact hp.1.1.1.1.1.1.1.1.2 e.symm | exact hp.1.1.1.1.1.1.1.1.1.2 e.symm | exact hp.1 e.symm | (rw [← e] at hp; simp only [ne_eq, not_true_eq_false, and_false, false_and] at hp; done) | exact mk_ty (rup HO_6.out) e hp.2.2.2 (by decide))); have n1_ := Ae_q (mk_keep rfl (rup HO_10.out) hkp (fun k e hp => by first | exact hp.2 e.symm | exact hp.1.2 e.symm | exact hp.1.1.2 e.symm | exact hp.1.1.1.2 e.symm | exact hp.1.1.1.1.2 e.symm | exact hp.1.1.1.1.1.2 e.symm | exact hp.1.1.1.1.1.1.2 e.symm | exact hp.1.1.1.1.1.1.1.2 e.symm | exact hp.1.1.1.1.1.1.1.1.2 e.symm | exact hp.1.1.1.1.1.1.1.1.1.2 e.symm | exact hp.1 e.symm | (rw [← e] at hp; simp only [ne_eq, not_true_eq_false, and_false, false_and] at hp; done) | exact mk_ty (rup HO_10.out) e hp.2.2.2 (by decide))); have n2_ := Ae_q (mk_keep rfl (rup HO_406001.out) hkp (fun k e hp => by first | exact hp.2 e.symm | exact hp.1.2 e.symm | exact hp.1.1.2 e.symm | exact hp.1.1.1.2 e.symm | exact hp.1.1.1.1.2 e.symm | exact hp.1.1.1.1.1.2 e.symm | exact hp.1.1.1.1.1.1.2 e.symm | exact hp.1.1.1.1.1.1.1.2 e.symm | exact hp.1.1.1.1.1.1.1.1.2 e.symm | exact hp.1.1.1.1.1.1.1.1.1.2 e.symm | exact hp.1 e.symm | (rw [← e] at hp; simp only [ne_eq, not_true_eq_false, and_false, false_and] at hp; done) | exact mk_ty (rup HO_406001.out) e hp.2.2.2 (by decide))); have nB_ := Ae_q hb; clear HO_6; clear HO_10; clear HO_406001; clear HO_8; clear HO413; clear HB; clear BK384; have BK384 := b0_; clear b0_; clear BK405; have BK405 := b1_; clear b1_; have HO_6 := n0_; have HO_10 := n1_; have HO_406001 := n2_; have HB := nB_; clear nB_; clear n0_ n1_ n2_; clear hb; clear hkp))
   replace HO_6 := Ae_q (rD_q HO_6.out)
   replace HO_8 := Ae_q (tD_q HO_8.out)
   replace HO_10 := Ae_q (rD_q HO_10.out)
   replace HO_406001 := Ae_q (rD_q HO_406001.out)
   replace HO413 := Ae_q (tD_q HO413.out)
   replace BK384 := Ae_q (bW_q BK384.out)
   replace BK405 := Ae_q (bW_q BK405.out)
   replace HB := Ae_q (bD_q HB.out)
   refine start_ (n := 5) (S := fun w' => w'.cell? ⟨gb405, 0, none⟩ = some (.int .i64 t401) ∧ w'.cell? ⟨gb405, 1, none⟩ = some (.slice Ao36 t402.length co36) ∧ w'.cell? ⟨gb384, 0, none⟩ = some (.int .i64 a1_0) ∧ w'.cell? ⟨gb384, 1, none⟩ = some (.slice A1_1 l1_1.length c1_1)) (ds := []) #[false, false, false, false, false] m10_q rfl rfl ⟨(bC_q BK405.out 0).trans rfl, (bC_q BK405.out 1).trans rfl, (bC_q BK384.out 0).trans rfl, (bC_q BK384.out 1).trans rfl⟩ (fun hHeld => ?_)
   generalize w56.drew = w57 at HO_6 HO_8 HO_10 HO_406001 HO413 BK384 BK405 HB hHeld ⊢
   refine take_ (i := 0) (N := some 59) (v := ?_) (a' := ?_) #[true, false, false, false, false] rfl rfl m10_q (fun _ _ _ h => h) (Or.inl ⟨by rfl, ?_⟩) hHeld ?_ ?_
   rotate_left
   ·rintro w' ⟨s0, s1, s2, s3⟩
    go_simp
    with_reducible rfl
   rotate_left
   ·simp only [pS_q]
    rfl
   refine take_ (i := 1) (N := some 60) (v := ?_) (a' := ?_) #[true, true, false, false, false] rfl rfl m10_q (fun _ _ _ h => h) (Or.inl ⟨by rfl, ?_⟩) hHeld ?_ ?_
   rotate_left
   ·rintro w' ⟨s0, s1, s2, s3⟩
    go_simp
    with_reducible rfl
   rotate_left
   ·simp only [pS_q]
    rfl
   refine one_ (i := 2) (N := some 61) #[true, true, true, false, false] rfl rfl m10_q (by decide) (fun K hK => ?_)
   refine goes_ Try.func23 m10_q rfl #[.agg #[.int .i64 a1_0, .slice A1_1 l1_1.length c1_1]] (by rfl) rfl rfl m0_q ?_
   with_reducible refine (laws_toKitchen.calls kj18 a1_0 _ _ l1_1 t415 t416 _ ?side1 ?side2 A49.out).mono ?_
   (case side1 => exact m31_q)
   (case side2 => exact m65_q)
   rintro e w' ⟨v417, rfl, ho0, hb⟩
   refine ⟨_, rfl, ?_⟩
   replace HO_8 := Ae_q (Kd.S_elder' m16_q (rB_q ho0) hb)
   replace HO413 := Ae_q (Kd.S_elder' m34_q (rB_q ho0) hb)
   have HO418 := Ae_q (rL_q (rW_q (rW_q (rW_q ho0 (rT_q (rup HO_6.out))) (rT_q (rup HO_10.out))) (rT_q (rup HO_406001.out))) (bZ_q m2_q))
   replace HO_6 := Ae_q (rE_q (rup HO_6.out) (rB_q ho0) hb)
   replace HO_10 := Ae_q (rE_q (rup HO_10.out) (rB_q ho0) hb)
   replace HO_406001 := Ae_q (rE_q (rup HO_406001.out) (rB_q ho0) hb)
   replace BK384 := Ae_q (bB_q (g := gb384) (o := .cells #[.int .i64 a1_0, .slice A1_1 l1_1.length c1_1] 39 (0, 0)) (bup BK384.out) hb)
   replace BK405 := Ae_q (bB_q (g := gb405) (o := .cells #[.int .i64 t401, .slice Ao36 t402.length co36] 43 (0, 0)) (bup BK405.out) hb)
   replace HB := Ae_q (bT_q m2_q hb)
   (try clear hb)
   (try clear hb2)
   (try clear hk)
   (try clear hi)
   (try clear ho0)
   obtain ⟨Ao59, co59, eo59⟩ := rS_q HO418.out
   (first | subst eo59 | (injection eo59 with f1_ f2_ f3_; have f4_ := f1_.symm; have f5_ := f3_.symm; clear f1_ f2_ f3_; subst f4_; subst f5_))
   refine hK.out _ _ ⟨(bC_q BK405.out 0).trans rfl, (bC_q BK405.out 1).trans rfl, (bC_q BK384.out 0).trans rfl, (bC_q BK384.out 1).trans rfl⟩ (fun hHeld => ?_)
   clear hK K
   refine nJ_q ?_
   refine one_ (i := 3) (N := some 62) #[true, true, true, true, false] rfl rfl m10_q (by decide) (fun K hK => ?_)
   refine goes_ Try.func25 m10_q rfl #[.agg #[.int .i64 t401, .slice Ao36 t402.length co36], .agg #[.int .i64 t415, .slice Ao59 t416.length co59]] (by rfl) rfl rfl m0_q ?_
   with_reducible refine (laws_eqKitchen.calls kj18 t401 _ _ t402 t415 _ _ t416 true _ ?side1 ?side2 ?side3 ?side4 A50.out).mono ?_
   (case side1 => exact cup (rR_q HO_406001.out).2.2)
   (case side2 => exact (rR_q HO_406001.out).2.1)
   (case side3 => exact cup (rR_q HO418.out).2.2)
   (case side4 => exact (rR_q HO418.out).2.1)
   rintro e w60 ⟨rfl, hb⟩
   refine ⟨_, rfl, ?_⟩
   replace HO_6 := Ae_q (rO_q (rup HO_6.out) hb)
   replace HO_8 := Ae_q (Kd.S_below m16_q hb)
   replace HO_10 := Ae_q (rO_q (rup HO_10.out) hb)
   replace HO_406001 := Ae_q (rO_q (rup HO_406001.out) hb)
   replace HO413 := Ae_q (Kd.S_below m34_q hb)
   replace HO418 := Ae_q (rO_q (rup HO418.out) hb)
   replace BK384 := Ae_q (bB_q (g := gb384) (o := .cells #[.int .i64 a1_0, .slice A1_1 l1_1.length c1_1] 39 (0, 0)) (bup BK384.out) hb)
   replace BK405 := Ae_q (bB_q (g := gb405) (o := .cells #[.int .i64 t401, .slice Ao36 t402.length co36] 43 (0, 0)) (bup BK405.out) hb)
   replace HB := Ae_q (bT_q m2_q hb)
   (try clear hb)
   (try clear hb2)
   (try clear hk)
   (try clear hi)
   refine hK.out _ _ ⟨(bC_q BK405.out 0).trans rfl, (bC_q BK405.out 1).trans rfl, (bC_q BK384.out 0).trans rfl, (bC_q BK384.out 1).trans rfl⟩ (fun hHeld => ?_)
   clear hK K
   refine nJ_q ?_
   refine pure_ (i := 4) (N := some 63) (v := ?_) (a' := ?_) #[true, true, true, true, true] rfl rfl m10_q (fun _ _ _ h => h) (Or.inl ⟨by rfl, ?_⟩) ?_ ?_
   rotate_left
   ·intro w'
    go_simp
    with_reducible rfl
   rotate_left
   ·simp only [pS_q]
    rfl
   refine done_ m10_q ?_
   have hnb61 := NB405_384.out
   have hnc61 := NB384_405.out
   have hcz62_0 : cI w60 gb405 0 t401 := cZ BK405 0 rfl
   have hcz62_1 : w60.cell? ⟨gb405, 1, none⟩ = some (.slice Ao36 t402.length co36) := (bC_q BK405.out 1).trans rfl
   have hfz62_0 := bF_q BK405.out 0
   have hfz62_1 := bF_q BK405.out 1
   go_upto_region 21 with (first | ((with_reducible refine gC_q (f := 26) rfl ?_); refine gL_q (some 69) rfl rfl Try.func26 m10_q rfl #[.agg #[.int .i64 t401, .slice Ao36 t402.length co36], .int .i64 (markStepF t398 1)] rfl m0_q ?_; (with_reducible refine (laws_markKitchen.calls kj18 t401 (fun k_ => some k_ = (.slice Ao36 t402.length co36 : Value).ownBlock) (.slice Ao36 t402.length co36) t402 (markStepF t398 1) t420 t421 w _ ?side1 ?side2 A52.out).mono ?_); (case side1 => exact m2_q); (case side2 => exact Kd.R_tight rfl HO_406001.out); rintro e w' ⟨rfl, hy0, hb, hkp⟩; refine ⟨_, rfl, ?_⟩; have n0_ := Ae_q (rM_q (ok' := fun k_ => some k_ ≠ (v407 : Value).ownBlock ∧ some k_ ≠ (.slice Ao36 t402.length co36 : Value).ownBlock ∧ some k_ ≠ (.slice Ao59 t416.length co59 : Value).ownBlock) (Kd.R_keptB (HO_6.out) hkp (fun k_ hk_ hs_ => (hk_.1.2) hs_)) (fun k_ hk_ => ⟨hk_.1.1.1, hk_.1.1.2, hk_.1.2⟩)); have n2_ := Ae_q (rM_q (ok' := fun k_ => some k_ ≠ (v395 : Value).ownBlock ∧ some k_ ≠ (.slice Ao36 t402.length co36 : Value).ownBlock ∧ some k_ ≠ (.slice Ao59 t416.length co59 : Value).ownBlock) (Kd.R_keptB (HO_10.out) hkp (fun k_ hk_ hs_ => (hk_.1.2) hs_)) (fun k_ hk_ => ⟨hk_.1.1.1, hk_.1.1.2, hk_.1.2⟩)); have n3_ := Ae_q (Kd.R_reok rfl hy0 (fun k_ e_ => HO_406001.out.1 k_ e_)); have n4_ := Ae_q (blk_kept (bup BK384.out) hkp (fun hs_ => (fun e_ => (Kd.R_ne HO_406001.out BK384.out (by decide)) e_) hs_)); have n5_ := Ae_q (blk_kept (bup BK405.out) hkp (fun hs_ => (fun e_ => (Kd.R_ne HO_406001.out BK405.out (by decide)) e_) hs_)); have n7_ := Ae_q (rM_q (ok' := fun k_ => some k_ ≠ (v395 : Value).ownBlock ∧ some k_ ≠ (v407 : Value).ownBlock ∧ some k_ ≠ (.slice Ao36 t402.length co36 : Value).ownBlock) (Kd.R_keptB (HO418.out) hkp (fun k_ hk_ hs_ => (hk_.2) hs_)) (fun k_ hk_ => ⟨hk_.1.1.1.2, hk_.1.1.2, hk_.1.2⟩)); have n8_ := Ae_q (hb); clear HO_6; clear HO_10; clear HO_406001; clear BK384; clear BK405; clear HO418; clear HB; have HO_6 := n0_; have HO_10 := n2_; have HO_406001 := n3_; have BK384 := n4_; have BK405 := n5_; have HO418 := n7_; have HB := n8_; clear n0_ n2_ n3_ n4_ n5_ n7_ n8_; (try clear hb); (try clear hkp); (try clear hy0)) | (go_at_call 18; (refine (laws_markStepS.calls _ _ t398 1 _ w _ (bel HB.out) (Kd.S_R (Kd.S_bound m16_q)) rfl).mono ?_); rintro e w_mk ⟨rfl, hb, hkp⟩; have b0_ := Ae_q (mk_blk (bup BK384.out) hkp (fun hp => mk_tyb (bup BK384.out) hp.2.2.2 (by decide))); have b1_ := Ae_q (mk_blk (bup BK405.out) hkp (fun hp => mk_tyb (bup BK405.out) hp.2.2.2 (by decide))); have n0_ := Ae_q (mk_keep rfl (rup HO_6.out) hkp (fun k e hp => by first | exact hp.2 e.symm | exact hp.1.2 e.symm | exact hp.1.1.2 e.symm | exact hp.1.1.1.2 e.symm | exact hp.1.1.1.1.2 e.symm | exact hp.1.1.1.1.1.2 e.symm | exact hp.1.1.1.1.1.1.2 e.symm | exact hp.1.1.1.1.1.1.1.2 e.symm | exact hp.1.1.1.1.1.1.1.1.2 e.symm | exact hp.1.1.1.1.1.1.1.1.1.2 e.symm | exact hp.1 e.symm | (rw [← e] at hp; simp only [ne_eq, not_true_eq_false, and_false, false_and] at hp; done) | exact mk_ty (rup HO_6.out) e hp.2.2.2 (by decide))); have n1_ := Ae_q (mk_keep rfl (rup HO_10.out) hkp (fun k e hp => by first | exact hp.2 e.symm | exact hp.1.2 e.symm | exact hp.1.1.2 e.symm | exact hp.1.1.1.2 e.symm | exact hp.1.1.1.1.2 e.symm | exact hp.1.1.1.1.1.2 e.symm | exact hp.1.1.1.1.1.1.2 e.symm | exact hp.1.1.1.1.1.1.1.2 e.symm | exact hp.1.1.1.1.1.1.1.1.2 e.symm | exact hp.1.1.1.1.1.1.1.1.1.2 e.symm | exact hp.1 e.symm | (rw [← e] at hp; simp only [ne_eq, not_true_eq_false, and_false, false_and] at hp; done) | exact mk_ty (rup HO_10.out) e hp.2.2.2 (by decide))); have n2_ := Ae_q (mk_keep rfl (rup HO_406001.out) hkp (fun k e hp => by first | exact hp.2 e.symm | exact hp.1.2 e.symm | exact hp.1.1.2 e.symm | exact hp.1.1.1.2 e.symm | exact hp.1.1.1.1.2 e.symm | exact hp.1.1.1.1.1.2 e.symm | exact hp.1.1.1.1.1.1.2 e.symm | exact hp.1.1.1.1.1.1.1.2 e.symm | exact hp.1.1.1.1.1.1.1.1.2 e.symm | exact hp.1.1.1.1.1.1.1.1.1.2 e.symm | exact hp.1 e.symm | (rw [← e] at hp; simp only [ne_eq, not_true_eq_false, and_false, false_and] at hp; done) | exact mk_ty (rup HO_406001.out) e hp.2.2.2 (by decide))); have n3_ := Ae_q (mk_keep rfl (rup HO418.out) hkp (fun k e hp => by first | exact hp.2 e.symm | exact hp.1.2 e.symm | exact hp.1.1.2 e.symm | exact hp.1.1.1.2 e.symm | exact hp.1.1.1.1.2 e.symm | exact hp.1.1.1.1.1.2 e.symm | exact hp.1.1.1.1.1.1.2 e.symm | exact hp.1.1.1.1.1.1.1.2 e.symm | exact hp.1.1.1.1.1.1.1.1.2 e.symm | exact hp.1.1.1.1.1.1.1.1.1.2 e.symm | exact hp.1 e.symm | (rw [← e] at hp; simp only [ne_eq, not_true_eq_false, and_false, false_and] at hp; done) | exact mk_ty (rup HO418.out) e hp.2.2.2 (by decide))); have nB_ := Ae_q hb; clear HO_6; clear HO_10; clear HO_406001; clear HO418; clear HO_8; clear HO413; clear HB; clear BK384; have BK384 := b0_; clear b0_; clear BK405; have BK405 := b1_; clear b1_; have HO_6 := n0_; have HO_10 := n1_; have HO_406001 := n2_; have HO418 := n3_; have HB := nB_; clear nB_; clear n0_ n1_ n2_ n3_; clear hb; clear hkp; have hcz62_0m : cI w_mk gb405 0 t401 := cZ BK405 0 rfl; have hcz62_1m : w_mk.cell? ⟨gb405, 1, none⟩ = some (.slice Ao36 t402.length co36) := (bC_q BK405.out 1).trans rfl; have hfz62_0m := bF_q BK405.out 0; have hfz62_1m := bF_q BK405.out 1))
   (try simp only [Act.put, sA_q, sZ_q, sS_q])
   go_cut [82] (fun v82 wc => ∃ (kq : Nat) (x82_52 : Bool), v82 = .bool x82_52 ∧ Aside0 (laws_FnExactPlanMake.j1 kq l0 t394 t397 t406 x82_52 a1_0 l1_1 = some r) ∧ Aside0 (kq ≤ kj18) ∧ Aside0 (Kd.R kI_q 3 wc w.heap.size (fun k_ => some k_ ≠ (v407 : Value).ownBlock ∧ some k_ ≠ ((.slice Ao36 t402.length co36) : Value).ownBlock) v395 t394) ∧ Aside0 (Kd.R kI_q 3 wc w.heap.size (fun k_ => some k_ ≠ (v395 : Value).ownBlock ∧ some k_ ≠ ((.slice Ao36 t402.length co36) : Value).ownBlock) v407 t406) ∧ Aside0 (Kd.R kI_q 3 wc w.heap.size (fun k_ => some k_ ≠ (v395 : Value).ownBlock ∧ some k_ ≠ (v407 : Value).ownBlock) (.slice Ao36 t402.length co36) t421) ∧ Aside0 (wc.heap[gb384]? = some (.cells #[.int .i64 a1_0, (.slice A1_1 l1_1.length c1_1)] 39 (0, 0))) ∧ Aside0 (wc.heap[gb405]? = some (.cells #[.int .i64 t401, (.slice Ao36 t402.length co36)] 43 (0, 0))) ∧ Aside0 (Below w.heap.size w wc))
   case first =>
    have H := HC53.out
    clear HC53
    by_cases c64 : t420 < 0
    ·rw [if_pos c64] at H
     have c64b0 : decide (t420 < 0) = true := dT_q c64
     clear c64
     (first | rw [c64b0] | (simp only [i64_w, i32_w]; rw [c64b0]) | skip)
     have H' := Ae_q H
     clear H
     go_wp2
     go_meet
     case rel => exact ⟨_, (true), m4_q, H', ⟨m95_q⟩, ⟨m60_q⟩, ⟨m58_q⟩, ⟨m55_q⟩, ⟨bup BK384.out⟩, ⟨bup BK405.out⟩, ⟨m2_q⟩⟩
    rw [if_neg c64] at H
    have c64b0 : decide (t420 < 0) = false := dF_q c64
    clear c64
    (first | rw [c64b0] | (simp only [i64_w, i32_w]; rw [c64b0]) | skip)
    replace H := oB_q.mp H
    obtain ⟨t422, A650, H⟩ := H
    replace H : (if t422 = true then (laws_FnExactPlanMake.j1 kj18 l0 t394 t397 t406 (t409 != t397) a1_0 l1_1) else (laws_FnExactPlanMake.j1 kj18 l0 t394 t397 t406 true a1_0 l1_1)) = some r := H
    have A65 := Ae_q A650
    clear A650
    by_cases c66 : t422 = true
    ·subst c66
     have H1 : (laws_FnExactPlanMake.j1 kj18 l0 t394 t397 t406 (t409 != t397) a1_0 l1_1) = some r := by rw [if_pos rfl] at H; exact H
     clear H
     have H := H1
     clear H1
     have H' := Ae_q H
     clear H
     obtain ⟨Ao67, co67, eo67⟩ := rS_q HO_10.out
     subst eo67
     obtain ⟨Ao68, co68, eo68⟩ := rS_q HO_6.out
     subst eo68
     go_wp2_with (first | (go_at_call 16; (with_reducible refine (laws_eqIntS.calls kj18 _ _ t406 _ _ t394 true _ ?side1 ?side2 ?side3 ?side4 A65.out).mono ?_); (case side1 => exact m80_q); (case side2 => exact m98_q); (case side3 => exact m57_q); (case side4 => exact m87_q); rintro e w' ⟨rfl, ⟨nd, rfl⟩⟩))
     go_meet
     case rel => exact ⟨_, ((t409 != t397)), m4_q, H', ⟨m95_q⟩, ⟨m60_q⟩, ⟨m58_q⟩, ⟨m55_q⟩, ⟨bup BK384.out⟩, ⟨bup BK405.out⟩, ⟨m2_q⟩⟩
    replace c66 := fM_q.mpr c66
    subst c66
    have H1 : (laws_FnExactPlanMake.j1 kj18 l0 t394 t397 t406 true a1_0 l1_1) = some r := by rw [if_neg (show ¬ (false = true) by decide)] at H; exact H
    clear H
    have H := H1
    clear H1
    have H' := Ae_q H
    clear H
    obtain ⟨Ao69, co69, eo69⟩ := rS_q HO_10.out
    subst eo69
    obtain ⟨Ao70, co70, eo70⟩ := rS_q HO_6.out
    subst eo70
    go_wp2_with (first | (go_at_call 16; (with_reducible refine (laws_eqIntS.calls kj18 _ _ t406 _ _ t394 false _ ?side1 ?side2 ?side3 ?side4 A65.out).mono ?_); (case side1 => exact m80_q); (case side2 => exact m98_q); (case side3 => exact m57_q); (case side4 => exact m87_q); rintro e w' ⟨rfl, ⟨nd, rfl⟩⟩))
    go_meet
    case rel => exact ⟨_, (true), m4_q, H', ⟨m95_q⟩, ⟨m60_q⟩, ⟨m58_q⟩, ⟨m55_q⟩, ⟨bup BK384.out⟩, ⟨bup BK405.out⟩, ⟨m2_q⟩⟩
   case rest =>
    clear HC53
    try clear c1
    try clear c2
    try clear p2
    try clear c3
    try clear c4
    try clear c4b0
    try clear c5
    try clear c6
    try clear c8
    try clear c8b0
    try clear c10
    try clear c12
    try clear c16
    try clear c17
    try clear c21
    try clear c22
    try clear c23
    try clear c24
    try clear c25
    try clear c26
    try clear c34
    try clear c40
    try clear c45
    try clear c48
    try clear c51
    try clear c61
    try clear c64
    try clear c64b0
    try clear c66
    try clear hcz11_0
    try clear hcz11_1
    try clear hcz22_0
    try clear hcz22_1
    try clear hcz31_0
    try clear hcz31_1
    try clear hcz35_0
    try clear hcz35_1
    try clear hcz62_0
    try clear hcz62_1
    try clear hfz11_0
    try clear hfz11_1
    try clear hfz22_0
    try clear hfz22_1
    try clear hfz31_0
    try clear hfz31_1
    try clear hfz35_0
    try clear hfz35_1
    try clear hfz62_0
    try clear hfz62_1
    try clear p2
    obtain ⟨kq, x82_52, rfl, HA, HJ52, HO_6, HO_10, HO_406001, BK384, BK405, HB⟩ := hcut
    have hl406001_52 := (rR_q HO_406001.out).1
    rw [hl406001_52] at HO_406001
    (try simp only [hl406001_52])
    (try simp only [hl406001_52] at BK384)
    (try simp only [hl406001_52] at BK405)
    (try simp only [hl406001_52] at HO_6)
    (try simp only [hl406001_52] at HO_10)
    cases kq with
    | zero => exact absurd HA.out (by simp [laws_FnExactPlanMake.j1])
    | succ kj52 =>
     have H := HA.out
     clear HA
     simp only [laws_FnExactPlanMake.j1] at H
     by_cases c71 : x82_52 = true
     ·subst c71
      have H1 : (some false) = some r := by rw [if_pos rfl] at H; exact H
      clear H
      have H := H1
      clear H1
      obtain rfl := oI_q H
      go_wp2
      go_ret
      exact ⟨m3_q, m2_q⟩
     replace c71 := fM_q.mpr c71
     subst c71
     have H1 : ((laws_markIntS.f kj52 t406 1).bind fun bt423 => ((laws_heldIntS.f kj52 bt423.2 1).bind fun t425 => (if t425 < 0 then (some false) else (if t425 = bt423.1 then ((laws_toStepS.f kj52 l0).bind fun t426 => ((laws_toKitchen.f kj52 a1_0 l1_1).bind fun bt429 => ((impl_PlanMake.f kj52 t426 bt429.1 bt429.2).bind fun bt433 => ((laws_eqIntS.f kj52 bt433.1 t394).bind fun t437 => (if t437 = true then (laws_FnExactPlanMake.j2 kj52 bt423.2 bt423.1 (bt433.2 != t397)) else (laws_FnExactPlanMake.j2 kj52 bt423.2 bt423.1 true)))))) else (some false))))) = some r := by rw [if_neg (show ¬ (false = true) by decide)] at H; exact H
     clear H
     have H := H1
     clear H1
     replace H := oB_q.mp H
     obtain ⟨⟨t423, t424⟩, A720, H⟩ := H
     replace H : ((laws_heldIntS.f kj52 t424 1).bind fun t425 => (if t425 < 0 then (some false) else (if t425 = t423 then ((laws_toStepS.f kj52 l0).bind fun t426 => ((laws_toKitchen.f kj52 a1_0 l1_1).bind fun bt429 => ((impl_PlanMake.f kj52 t426 bt429.1 bt429.2).bind fun bt433 => ((laws_eqIntS.f kj52 bt433.1 t394).bind fun t437 => (if t437 = true then (laws_FnExactPlanMake.j2 kj52 t424 t423 (bt433.2 != t397)) else (laws_FnExactPlanMake.j2 kj52 t424 t423 true)))))) else (some false)))) = some r := H
     have A72 := Ae_q A720
     clear A720
     replace H := oB_q.mp H
     obtain ⟨t425, A730, H⟩ := H
     replace H : (if t425 < 0 then (some false) else (if t425 = t423 then ((laws_toStepS.f kj52 l0).bind fun t426 => ((laws_toKitchen.f kj52 a1_0 l1_1).bind fun bt429 => ((impl_PlanMake.f kj52 t426 bt429.1 bt429.2).bind fun bt433 => ((laws_eqIntS.f kj52 bt433.1 t394).bind fun t437 => (if t437 = true then (laws_FnExactPlanMake.j2 kj52 t424 t423 (bt433.2 != t397)) else (laws_FnExactPlanMake.j2 kj52 t424 t423 true)))))) else (some false))) = some r := H
     have A73 := Ae_q A730
     clear A730
     by_cases c74 : t425 < 0
     ·rw [if_pos c74] at H
      have c74b0 : decide (t425 < 0) = true := dT_q c74
      clear c74
      obtain rfl := oI_q H
      obtain ⟨Ao75, co75, eo75⟩ := rS_q HO_10.out
      subst eo75
      go_wp2_with (first | ((with_reducible refine gC_q (f := 19) rfl ?_); refine gL_q (some 85) rfl rfl Try.func19 m10_q rfl #[.slice Ao75 t406.length co75, .int .i64 1] rfl m0_q ?_; (with_reducible refine (laws_markIntS.calls kj52 (fun k_ => some k_ = (.slice Ao75 t406.length co75 : Value).ownBlock) (.slice Ao75 t406.length co75) t406 1 t423 t424 w _ ?side1 ?side2 A72.out).mono ?_); (case side1 => exact m2_q); (case side2 => exact Kd.R_tight rfl HO_10.out); rintro e w' ⟨rfl, hy0, hb, hkp⟩; refine ⟨_, rfl, ?_⟩; replace HO_6 := Ae_q (rM_q (ok' := fun k_ => some k_ ≠ (.slice Ao75 t406.length co75 : Value).ownBlock ∧ some k_ ≠ (.slice Ao36 t421.length co36 : Value).ownBlock) (Kd.R_keptB (HO_6.out) hkp (fun k_ hk_ hs_ => (hk_.1) hs_)) (fun k_ hk_ => ⟨hk_.1.1, hk_.1.2⟩)); replace HO_406001 := Ae_q (rM_q (ok' := fun k_ => some k_ ≠ (v395 : Value).ownBlock ∧ some k_ ≠ (.slice Ao75 t406.length co75 : Value).ownBlock) (Kd.R_keptB (HO_406001.out) hkp (fun k_ hk_ hs_ => (hk_.2) hs_)) (fun k_ hk_ => ⟨hk_.1.1, hk_.1.2⟩)); replace BK384 := Ae_q (blk_kept (bup BK384.out) hkp (fun hs_ => (fun e_ => (Kd.R_ne HO_10.out BK384.out (by decide)) e_) hs_)); replace BK405 := Ae_q (blk_kept (bup BK405.out) hkp (fun hs_ => (fun e_ => (Kd.R_ne HO_10.out BK405.out (by decide)) e_) hs_)); replace HO_10 := Ae_q (Kd.R_reok rfl hy0 (fun k_ e_ => HO_10.out.1 k_ e_)); replace HB := Ae_q (hb); (try clear hb); (try clear hkp); (try clear hy0)) | ((with_reducible refine gC_q (f := 20) rfl ?_); refine gL_q (some 88) rfl rfl Try.func20 m10_q rfl #[.slice Ao75 t424.length co75, .int .i64 1] rfl m41_q ?_; (with_reducible refine (laws_heldIntS.calls kj52 _ _ t424 1 t425 _ ?side1 ?side2 A73.out).mono ?_); (case side1 => exact m80_q); (case side2 => exact m70_q); rintro e w' ⟨rfl, ⟨nd, rfl⟩⟩; refine ⟨_, rfl, ?_⟩))
      go_ret
      exact ⟨m3_q, m2_q⟩
     rw [if_neg c74] at H
     have c74b0 : decide (t425 < 0) = false := dF_q c74
     clear c74
     by_cases c77 : t425 = t423
     rotate_left
     ·rw [if_neg c77] at H
      have c77b0 : (t425 == t423) = false := fN_q.mpr c77
      have c77b1 : (t425 != t423) = true := nI_q.mpr c77
      obtain rfl := oI_q H
      obtain ⟨Ao100, co100, eo100⟩ := rS_q HO_10.out
      subst eo100
      go_wp2_with (first | ((with_reducible refine gC_q (f := 19) rfl ?_); refine gL_q (some 85) rfl rfl Try.func19 m10_q rfl #[.slice Ao100 t406.length co100, .int .i64 1] rfl m0_q ?_; (with_reducible refine (laws_markIntS.calls kj52 (fun k_ => some k_ = (.slice Ao100 t406.length co100 : Value).ownBlock) (.slice Ao100 t406.length co100) t406 1 t423 t424 w _ ?side1 ?side2 A72.out).mono ?_); (case side1 => exact m2_q); (case side2 => exact Kd.R_tight rfl HO_10.out); rintro e w' ⟨rfl, hy0, hb, hkp⟩; refine ⟨_, rfl, ?_⟩; replace HO_6 := Ae_q (rM_q (ok' := fun k_ => some k_ ≠ (.slice Ao100 t406.length co100 : Value).ownBlock ∧ some k_ ≠ (.slice Ao36 t421.length co36 : Value).ownBlock) (Kd.R_keptB (HO_6.out) hkp (fun k_ hk_ hs_ => (hk_.1) hs_)) (fun k_ hk_ => ⟨hk_.1.1, hk_.1.2⟩)); replace HO_406001 := Ae_q (rM_q (ok' := fun k_ => some k_ ≠ (v395 : Value).ownBlock ∧ some k_ ≠ (.slice Ao100 t406.length co100 : Value).ownBlock) (Kd.R_keptB (HO_406001.out) hkp (fun k_ hk_ hs_ => (hk_.2) hs_)) (fun k_ hk_ => ⟨hk_.1.1, hk_.1.2⟩)); replace BK384 := Ae_q (blk_kept (bup BK384.out) hkp (fun hs_ => (fun e_ => (Kd.R_ne HO_10.out BK384.out (by decide)) e_) hs_)); replace BK405 := Ae_q (blk_kept (bup BK405.out) hkp (fun hs_ => (fun e_ => (Kd.R_ne HO_10.out BK405.out (by decide)) e_) hs_)); replace HO_10 := Ae_q (Kd.R_reok rfl hy0 (fun k_ e_ => HO_10.out.1 k_ e_)); replace HB := Ae_q (hb); (try clear hb); (try clear hkp); (try clear hy0)) | ((with_reducible refine gC_q (f := 20) rfl ?_); refine gL_q (some 88) rfl rfl Try.func20 m10_q rfl #[.slice Ao100 t424.length co100, .int .i64 1] rfl m41_q ?_; (with_reducible refine (laws_heldIntS.calls kj52 _ _ t424 1 t425 _ ?side1 ?side2 A73.out).mono ?_); (case side1 => exact m80_q); (case side2 => exact m70_q); rintro e w' ⟨rfl, ⟨nd, rfl⟩⟩; refine ⟨_, rfl, ?_⟩))
      go_ret
      exact ⟨m3_q, m2_q⟩
     rw [if_pos c77] at H
     have c77b0 : (t425 == t423) = true := beq_iff_eq.mpr c77
     have c77b1 : (t425 != t423) = false := nE_q.mpr c77
     clear c77
     replace H := oB_q.mp H
     obtain ⟨t426, A780, H⟩ := H
     replace H : ((laws_toKitchen.f kj52 a1_0 l1_1).bind fun bt429 => ((impl_PlanMake.f kj52 t426 bt429.1 bt429.2).bind fun bt433 => ((laws_eqIntS.f kj52 bt433.1 t394).bind fun t437 => (if t437 = true then (laws_FnExactPlanMake.j2 kj52 t424 t423 (bt433.2 != t397)) else (laws_FnExactPlanMake.j2 kj52 t424 t423 true))))) = some r := H
     have A78 := Ae_q A780
     clear A780
     replace H := oB_q.mp H
     obtain ⟨⟨t429, t430⟩, A790, H⟩ := H
     replace H : ((impl_PlanMake.f kj52 t426 t429 t430).bind fun bt433 => ((laws_eqIntS.f kj52 bt433.1 t394).bind fun t437 => (if t437 = true then (laws_FnExactPlanMake.j2 kj52 t424 t423 (bt433.2 != t397)) else (laws_FnExactPlanMake.j2 kj52 t424 t423 true)))) = some r := H
     have A79 := Ae_q A790
     clear A790
     replace H := oB_q.mp H
     obtain ⟨⟨t433, t436⟩, A800, H⟩ := H
     replace H : ((laws_eqIntS.f kj52 t433 t394).bind fun t437 => (if t437 = true then (laws_FnExactPlanMake.j2 kj52 t424 t423 (t436 != t397)) else (laws_FnExactPlanMake.j2 kj52 t424 t423 true))) = some r := H
     have A80 := Ae_q A800
     clear A800
     have HC81 := Ae_q H
     clear H
     obtain ⟨Ao82, co82, eo82⟩ := rS_q HO_10.out
     subst eo82
     try go_wp2_with (first | ((with_reducible refine gC_q (f := 19) rfl ?_); refine gL_q (some 85) rfl rfl Try.func19 m10_q rfl #[.slice Ao82 t406.length co82, .int .i64 1] rfl m0_q ?_; (with_reducible refine (laws_markIntS.calls kj52 (fun k_ => some k_ = (.slice Ao82 t406.length co82 : Value).ownBlock) (.slice Ao82 t406.length co82) t406 1 t423 t424 w _ ?side1 ?side2 A72.out).mono ?_); (case side1 => exact m2_q); (case side2 => exact Kd.R_tight rfl HO_10.out); rintro e w83 ⟨rfl, hy0, hb, hkp⟩; refine ⟨_, rfl, ?_⟩; replace HO_6 := Ae_q (rM_q (ok' := fun k_ => some k_ ≠ (.slice Ao82 t406.length co82 : Value).ownBlock ∧ some k_ ≠ (.slice Ao36 t421.length co36 : Value).ownBlock) (Kd.R_keptB (HO_6.out) hkp (fun k_ hk_ hs_ => (hk_.1) hs_)) (fun k_ hk_ => ⟨hk_.1.1, hk_.1.2⟩)); replace HO_406001 := Ae_q (rM_q (ok' := fun k_ => some k_ ≠ (v395 : Value).ownBlock ∧ some k_ ≠ (.slice Ao82 t406.length co82 : Value).ownBlock) (Kd.R_keptB (HO_406001.out) hkp (fun k_ hk_ hs_ => (hk_.2) hs_)) (fun k_ hk_ => ⟨hk_.1.1, hk_.1.2⟩)); replace BK384 := Ae_q (blk_kept (bup BK384.out) hkp (fun hs_ => (fun e_ => (Kd.R_ne HO_10.out BK384.out (by decide)) e_) hs_)); replace BK405 := Ae_q (blk_kept (bup BK405.out) hkp (fun hs_ => (fun e_ => (Kd.R_ne HO_10.out BK405.out (by decide)) e_) hs_)); replace HO_10 := Ae_q (Kd.R_reok rfl hy0 (fun k_ e_ => HO_10.out.1 k_ e_)); replace HB := Ae_q (hb); (try clear hb); (try clear hkp); (try clear hy0)) | ((with_reducible refine gC_q (f := 20) rfl ?_); refine gL_q (some 88) rfl rfl Try.func20 m10_q rfl #[.slice Ao82 t424.length co82, .int .i64 1] rfl m41_q ?_; (with_reducible refine (laws_heldIntS.calls kj52 _ _ t424 1 t425 _ ?side1 ?side2 A73.out).mono ?_); (case side1 => exact m80_q); (case side2 => exact m70_q); rintro e w' ⟨rfl, ⟨nd, rfl⟩⟩; refine ⟨_, rfl, ?_⟩))
     (try (rw [drewN_self w83]; generalize hq_ : World.drewN w83 _ = w83; have n0_ : Aside0 (Kd.R kI_q 3 w83 w.heap.size (fun k_ => some k_ ≠ (.slice Ao36 t421.length co36 : Value).ownBlock ∧ some k_ ≠ (v395 : Value).ownBlock) (.slice Ao82 t406.length co82) t424) := ⟨by rw [← hq_]; exact (by (with_reducible repeat (first | apply rA_q | apply rN_q | apply rD_q)); exact rM_q HO_10.out (fun _ hk => ⟨hk.2, hk.1⟩))⟩; have n1_ : Aside0 (Kd.R kI_q 3 w83 w.heap.size (fun k_ => some k_ ≠ (.slice Ao82 t406.length co82 : Value).ownBlock ∧ some k_ ≠ (v395 : Value).ownBlock) (.slice Ao36 t421.length co36) t421) := ⟨by rw [← hq_]; exact (by (with_reducible repeat (first | apply rA_q | apply rN_q | apply rD_q)); exact rM_q HO_406001.out (fun _ hk => ⟨hk.2, hk.1⟩))⟩; have n2_ : Aside0 (Kd.R kI_q 3 w83 w.heap.size (fun k_ => some k_ ≠ (.slice Ao82 t406.length co82 : Value).ownBlock ∧ some k_ ≠ (.slice Ao36 t421.length co36 : Value).ownBlock) v395 t394) := ⟨by rw [← hq_]; exact (rup HO_6.out)⟩; have n3_ : Aside0 (w83.heap[gb384]? = some (.cells #[.int .i64 a1_0, .slice A1_1 l1_1.length c1_1] 39 (0, 0))) := ⟨by rw [← hq_]; exact (bup BK384.out)⟩; have n4_ : Aside0 (w83.heap[gb405]? = some (.cells #[.int .i64 t401, .slice Ao36 t421.length co36] 43 (0, 0))) := ⟨by rw [← hq_]; exact (bup BK405.out)⟩; have n5_ : Aside0 (Below w.heap.size w w83) := ⟨by rw [← hq_]; exact m2_q⟩; clear HO_10 HO_406001 HO_6 BK384 BK405 HB hq_; have HO_10 := n0_; have HO_406001 := n1_; have HO_6 := n2_; have BK384 := n3_; have BK405 := n4_; have HB := n5_; clear n0_ n1_ n2_ n3_ n4_ n5_))
     replace HO_6 := Ae_q (rD_q HO_6.out)
     replace HO_10 := Ae_q (rD_q HO_10.out)
     replace HO_406001 := Ae_q (rD_q HO_406001.out)
     replace BK384 := Ae_q (bW_q BK384.out)
     replace BK405 := Ae_q (bW_q BK405.out)
     replace HB := Ae_q (bD_q HB.out)
     refine start_ (n := 10) (S := fun w' => w'.cell? ⟨gb384, 0, none⟩ = some (.int .i64 a1_0) ∧ w'.cell? ⟨gb384, 1, none⟩ = some (.slice A1_1 l1_1.length c1_1)) (ds := []) #[false, false, false, false, false, false, false, false, false, false] m10_q rfl rfl ⟨(bC_q BK384.out 0).trans rfl, (bC_q BK384.out 1).trans rfl⟩ (fun hHeld => ?_); refine with_tabW laws_FnExactPlanMake.tab31 laws_FnExactPlanMake.bits31 (fun HT_ HW_ => ?_)
     generalize w83.drew = w84 at HO_6 HO_10 HO_406001 BK384 BK405 HB hHeld ⊢
     refine pJ HT_ 0 95 rfl rfl ?_
     refine take_ (i := 2) (N := some 97) (v := ?_) (a' := ?_) #[true, false, true, false, false, false, false, false, false, false] rfl rfl (take_ofW HT_.out HW_.out m10_q) (fun _ _ _ h => h) (Or.inl ⟨by rfl, ?_⟩) hHeld ?_ ?_
     rotate_left
     ·rintro w' ⟨s0, s1⟩
      go_simp
      with_reducible rfl
     rotate_left
     ·simp only [pS_q]
      rfl
     refine one_ (i := 1) (N := some 96) #[true, true, true, false, false, false, false, false, false, false] rfl rfl (one_of HT_.out m10_q) (by decide) (fun K hK => ?_)
     refine goes_ Try.func12 m10_q rfl #[.slice A0 l0.length c0] (by rfl) rfl rfl m0_q ?_
     with_reducible refine (laws_toStepS.calls kj52 _ _ l0 t426 _ ?side1 ?side2 A78.out).mono ?_
     (case side1 => exact m23_q)
     (case side2 => exact m56_q)
     rintro e w' ⟨v427, rfl, ho0, hb⟩
     refine ⟨_, rfl, ?_⟩
     have HO428 := Ae_q (Kd.S_lower (Kd.S_new' (Kd.S_new' (Kd.S_new' ho0 (rT_q (rup HO_6.out))) (rT_q (rup HO_10.out))) (rT_q (rup HO_406001.out))) (bZ_q m2_q))
     replace HO_6 := Ae_q (rO_q (rup HO_6.out) hb)
     replace HO_10 := Ae_q (rO_q (rup HO_10.out) hb)
     replace HO_406001 := Ae_q (rO_q (rup HO_406001.out) hb)
     replace BK384 := Ae_q (bB_q (g := gb384) (o := .cells #[.int .i64 a1_0, .slice A1_1 l1_1.length c1_1] 39 (0, 0)) (bup BK384.out) hb)
     replace BK405 := Ae_q (bB_q (g := gb405) (o := .cells #[.int .i64 t401, .slice Ao36 t421.length co36] 43 (0, 0)) (bup BK405.out) hb)
     replace HB := Ae_q (bT_q m2_q hb)
     (try clear hb)
     (try clear hb2)
     (try clear hk)
     (try clear hi)
     (try clear ho0)
     refine hK.out _ _ ⟨(bC_q BK384.out 0).trans rfl, (bC_q BK384.out 1).trans rfl⟩ (fun hHeld => ?_)
     clear hK K
     refine nJ_q ?_
     refine one_ (i := 3) (N := some 98) #[true, true, true, true, false, false, false, false, false, false] rfl rfl (one_of HT_.out m10_q) (by decide) (fun K hK => ?_)
     refine goes_ Try.func23 m10_q rfl #[.agg #[.int .i64 a1_0, .slice A1_1 l1_1.length c1_1]] (by rfl) rfl rfl m0_q ?_
     with_reducible refine (laws_toKitchen.calls kj52 a1_0 _ _ l1_1 t429 t430 _ ?side1 ?side2 A79.out).mono ?_
     (case side1 => exact m31_q)
     (case side2 => exact m65_q)
     rintro e w' ⟨v431, rfl, ho0, hb⟩
     refine ⟨_, rfl, ?_⟩
     replace HO428 := Ae_q (Kd.S_elder' m89_q (rB_q ho0) hb)
     have HO432 := Ae_q (rL_q (rW_q (rW_q (rW_q ho0 (rT_q (rup HO_6.out))) (rT_q (rup HO_10.out))) (rT_q (rup HO_406001.out))) (bZ_q m2_q))
     replace HO_6 := Ae_q (rE_q (rup HO_6.out) (rB_q ho0) hb)
     replace HO_10 := Ae_q (rE_q (rup HO_10.out) (rB_q ho0) hb)
     replace HO_406001 := Ae_q (rE_q (rup HO_406001.out) (rB_q ho0) hb)
     replace BK384 := Ae_q (bB_q (g := gb384) (o := .cells #[.int .i64 a1_0, .slice A1_1 l1_1.length c1_1] 39 (0, 0)) (bup BK384.out) hb)
     replace BK405 := Ae_q (bB_q (g := gb405) (o := .cells #[.int .i64 t401, .slice Ao36 t421.length co36] 43 (0, 0)) (bup BK405.out) hb)
     replace HB := Ae_q (bT_q m2_q hb)
     (try clear hb)
     (try clear hb2)
     (try clear hk)
     (try clear hi)
     (try clear ho0)
     obtain ⟨Ao87, co87, eo87⟩ := Kd.S_slice HO428.out
     (first | subst eo87 | (injection eo87 with f1_ f2_ f3_; have f4_ := f1_.symm; have f5_ := f3_.symm; clear f1_ f2_ f3_; subst f4_; subst f5_))
     obtain ⟨Ao88, co88, eo88⟩ := rS_q HO432.out
     (first | subst eo88 | (injection eo88 with f1_ f2_ f3_; have f4_ := f1_.symm; have f5_ := f3_.symm; clear f1_ f2_ f3_; subst f4_; subst f5_))
     refine hK.out _ _ ⟨(bC_q BK384.out 0).trans rfl, (bC_q BK384.out 1).trans rfl⟩ (fun hHeld => ?_)
     clear hK K
     refine nJ_q ?_
     refine one_ (i := 4) (N := some 99) #[true, true, true, true, true, false, false, false, false, false] rfl rfl (one_of HT_.out m10_q) (by decide) (fun K hK => ?_)
     refine goes_ Try.func24 m10_q rfl #[.slice Ao87 t426.length co87, .agg #[.int .i64 t429, .slice Ao88 t430.length co88]] (by rfl) rfl rfl m0_q ?_
     with_reducible refine (impl_PlanMake.calls kj52 _ _ t426 t429 _ _ t430 t433 t436 _ ?side1 ?side2 ?side3 ?side4 A80.out).mono ?_
     (case side1 => repeat (first | exact (Kd.S_reads' HO428.out).2.2 | (with_reducible refine cA_q ?_ _) | (with_reducible refine cN_q ?_ _) | (with_reducible refine cD_q ?_)))
     (case side2 => exact (Kd.S_reads' HO428.out).2.1)
     (case side3 => exact cup (rR_q HO432.out).2.2)
     (case side4 => exact (rR_q HO432.out).2.1)
     rintro e w' ⟨v434, rfl, ho0, hb⟩
     refine ⟨_, rfl, ?_⟩
     replace HO428 := Ae_q (Kd.S_elder' m89_q (rB_q ho0) hb)
     have HO435 := Ae_q (rL_q (rW_q (rW_q (rW_q (rW_q ho0 (rT_q (rup HO_6.out))) (rT_q (rup HO_10.out))) (rT_q (rup HO_406001.out))) (rT_q (rup HO432.out))) (bZ_q m2_q))
     replace HO_6 := Ae_q (rE_q (rup HO_6.out) (rB_q ho0) hb)
     replace HO_10 := Ae_q (rE_q (rup HO_10.out) (rB_q ho0) hb)
     replace HO_406001 := Ae_q (rE_q (rup HO_406001.out) (rB_q ho0) hb)
     replace HO432 := Ae_q (rE_q (rup HO432.out) (rB_q ho0) hb)
     replace BK384 := Ae_q (bB_q (g := gb384) (o := .cells #[.int .i64 a1_0, .slice A1_1 l1_1.length c1_1] 39 (0, 0)) (bup BK384.out) hb)
     replace BK405 := Ae_q (bB_q (g := gb405) (o := .cells #[.int .i64 t401, .slice Ao36 t421.length co36] 43 (0, 0)) (bup BK405.out) hb)
     replace HB := Ae_q (bT_q m2_q hb)
     (try clear hb)
     (try clear hb2)
     (try clear hk)
     (try clear hi)
     (try clear ho0)
     refine hK.out _ _ ⟨(bC_q BK384.out 0).trans rfl, (bC_q BK384.out 1).trans rfl⟩ (fun hHeld => ?_)
     clear hK K
     refine nJ_q ?_
     refine pJ HT_ 5 94 rfl rfl ?_
     refine pJ HT_ 6 100 rfl rfl ?_
     refine pJ HT_ 7 101 rfl rfl ?_
     refine pJ HT_ 8 15 rfl rfl ?_
     refine pJ HT_ 9 16 rfl rfl ?_
     refine done_ (done_of HT_.out m10_q) ?_
     go_upto_region 32 with (fail)
     go_cut [110] (fun v110 wc => ∃ (kq : Nat) (x110_80 : Bool), v110 = .bool x110_80 ∧ Aside0 (laws_FnExactPlanMake.j2 kq t424 t423 x110_80 = some r) ∧ Aside0 (kq ≤ kj52) ∧ Aside0 (Kd.R kI_q 3 wc w.heap.size (fun k_ => some k_ ≠ ((.slice Ao36 t421.length co36) : Value).ownBlock) (.slice Ao82 t406.length co82) t424) ∧ Aside0 (Kd.R kI_q 3 wc w.heap.size (fun k_ => some k_ ≠ ((.slice Ao82 t406.length co82) : Value).ownBlock) (.slice Ao36 t421.length co36) t421) ∧ Aside0 (wc.heap[gb384]? = some (.cells #[.int .i64 a1_0, (.slice A1_1 l1_1.length c1_1)] 39 (0, 0))) ∧ Aside0 (wc.heap[gb405]? = some (.cells #[.int .i64 t401, (.slice Ao36 t421.length co36)] 43 (0, 0))) ∧ Aside0 (Below w.heap.size w wc))
     case first =>
      have H := HC81.out
      clear HC81
      replace H := oB_q.mp H
      obtain ⟨t437, A900, H⟩ := H
      replace H : (if t437 = true then (laws_FnExactPlanMake.j2 kj52 t424 t423 (t436 != t397)) else (laws_FnExactPlanMake.j2 kj52 t424 t423 true)) = some r := H
      have A90 := Ae_q A900
      clear A900
      by_cases c91 : t437 = true
      ·subst c91
       have H1 : (laws_FnExactPlanMake.j2 kj52 t424 t423 (t436 != t397)) = some r := by rw [if_pos rfl] at H; exact H
       clear H
       have H := H1
       clear H1
       have H' := Ae_q H
       clear H
       obtain ⟨Ao92, co92, eo92⟩ := rS_q HO435.out
       subst eo92
       obtain ⟨Ao93, co93, eo93⟩ := rS_q HO_6.out
       subst eo93
       go_wp2_with (first | ((with_reducible refine gC_q (f := 16) rfl ?_); refine gL_q (some 104) rfl rfl Try.func16 m10_q rfl #[.slice Ao92 t433.length co92, .slice Ao93 t394.length co93] rfl m0_q ?_; (with_reducible refine (laws_eqIntS.calls kj52 _ _ t433 _ _ t394 true _ ?side1 ?side2 ?side3 ?side4 A90.out).mono ?_); (case side1 => exact cup (rR_q HO435.out).2.2); (case side2 => exact (rR_q HO435.out).2.1); (case side3 => exact m57_q); (case side4 => exact m87_q); rintro e w' ⟨rfl, ⟨nd, rfl⟩⟩; refine ⟨_, rfl, ?_⟩))
       go_meet
       case rel => exact ⟨_, ((t436 != t397)), m4_q, H', ⟨by have := HJ18.out; have := HJ52.out; first | omega | exact nR_q _⟩, ⟨m26_q⟩, ⟨m25_q⟩, ⟨m71_q⟩, ⟨m72_q⟩, ⟨m2_q⟩⟩
      replace c91 := fM_q.mpr c91
      subst c91
      have H1 : (laws_FnExactPlanMake.j2 kj52 t424 t423 true) = some r := by rw [if_neg (show ¬ (false = true) by decide)] at H; exact H
      clear H
      have H := H1
      clear H1
      have H' := Ae_q H
      clear H
      obtain ⟨Ao94, co94, eo94⟩ := rS_q HO435.out
      subst eo94
      obtain ⟨Ao95, co95, eo95⟩ := rS_q HO_6.out
      subst eo95
      go_wp2_with (first | ((with_reducible refine gC_q (f := 16) rfl ?_); refine gL_q (some 104) rfl rfl Try.func16 m10_q rfl #[.slice Ao94 t433.length co94, .slice Ao95 t394.length co95] rfl m0_q ?_; (with_reducible refine (laws_eqIntS.calls kj52 _ _ t433 _ _ t394 false _ ?side1 ?side2 ?side3 ?side4 A90.out).mono ?_); (case side1 => exact cup (rR_q HO435.out).2.2); (case side2 => exact (rR_q HO435.out).2.1); (case side3 => exact m57_q); (case side4 => exact m87_q); rintro e w' ⟨rfl, ⟨nd, rfl⟩⟩; refine ⟨_, rfl, ?_⟩))
      go_meet
      case rel => exact ⟨_, (true), m4_q, H', ⟨by have := HJ18.out; have := HJ52.out; first | omega | exact nR_q _⟩, ⟨m26_q⟩, ⟨m25_q⟩, ⟨m71_q⟩, ⟨m72_q⟩, ⟨m2_q⟩⟩
     case rest =>
      clear HC81
      try clear c1
      try clear c2
      try clear p2
      try clear c3
      try clear c4
      try clear c4b0
      try clear c5
      try clear c6
      try clear c7
      try clear c8
      try clear c8b0
      try clear c9
      try clear c10
      try clear c12
      try clear c16
      try clear c17
      try clear c19
      try clear c20
      try clear c21
      try clear c22
      try clear c23
      try clear c24
      try clear c25
      try clear c26
      try clear c34
      try clear c40
      try clear c45
      try clear c48
      try clear c51
      try clear c61
      try clear c64
      try clear c64b0
      try clear c66
      try clear c71
      try clear c74
      try clear c74b0
      try clear c77
      try clear c77b0
      try clear c77b1
      try clear c91
      try clear hcz11_0
      try clear hcz11_1
      try clear hcz22_0
      try clear hcz22_1
      try clear hcz31_0
      try clear hcz31_1
      try clear hcz35_0
      try clear hcz35_1
      try clear hcz62_0
      try clear hcz62_1
      try clear hfz11_0
      try clear hfz11_1
      try clear hfz22_0
      try clear hfz22_1
      try clear hfz31_0
      try clear hfz31_1
      try clear hfz35_0
      try clear hfz35_1
      try clear hfz62_0
      try clear hfz62_1
      try clear p2
      obtain ⟨kq, x110_80, rfl, HA, HJ80, HO_10, HO_406001, BK384, BK405, HB⟩ := hcut
      have hl10_80 := (rR_q HO_10.out).1
      rw [hl10_80] at HO_10
      (try simp only [hl10_80])
      (try simp only [hl10_80] at BK384)
      (try simp only [hl10_80] at BK405)
      (try simp only [hl10_80] at HO_406001)
      cases kq with
      | zero => exact absurd HA.out (by simp [laws_FnExactPlanMake.j2])
      | succ kj80 =>
       have H := HA.out
       clear HA
       simp only [laws_FnExactPlanMake.j2] at H
       by_cases c96 : x110_80 = true
       ·subst c96
        have H1 : (some false) = some r := by rw [if_pos rfl] at H; exact H
        clear H
        have H := H1
        clear H1
        obtain rfl := oI_q H
        go_wp2
        go_ret
        exact ⟨m3_q, m2_q⟩
       replace c96 := fM_q.mpr c96
       subst c96
       have H1 : ((laws_heldIntS.f kj80 t424 1).bind fun t438 => (if t438 < 0 then (some false) else (if t438 = t423 then (some true) else (some false)))) = some r := by rw [if_neg (show ¬ (false = true) by decide)] at H; exact H
       clear H
       have H := H1
       clear H1
       replace H := oB_q.mp H
       obtain ⟨t438, A970, H⟩ := H
       replace H : (if t438 < 0 then (some false) else (if t438 = t423 then (some true) else (some false))) = some r := H
       have A97 := Ae_q A970
       clear A970
       by_cases c98 : t438 < 0
       ·rw [if_pos c98] at H
        have c98b0 : decide (t438 < 0) = true := dT_q c98
        clear c98
        obtain rfl := oI_q H
        go_wp2_with (first | ((with_reducible refine gC_q (f := 20) rfl ?_); refine gL_q (some 113) rfl rfl Try.func20 m10_q rfl #[.slice Ao82 t424.length co82, .int .i64 1] rfl m0_q ?_; (with_reducible refine (laws_heldIntS.calls kj80 _ _ t424 1 t438 _ ?side1 ?side2 A97.out).mono ?_); (case side1 => exact m80_q); (case side2 => exact m98_q); rintro e w' ⟨rfl, ⟨nd, rfl⟩⟩; refine ⟨_, rfl, ?_⟩))
        go_ret
        exact ⟨m3_q, m2_q⟩
       rw [if_neg c98] at H
       have c98b0 : decide (t438 < 0) = false := dF_q c98
       clear c98
       by_cases c99 : t438 = t423
       ·rw [if_pos c99] at H
        have c99b0 : (t438 == t423) = true := beq_iff_eq.mpr c99
        have c99b1 : (t438 != t423) = false := nE_q.mpr c99
        clear c99
        obtain rfl := oI_q H
        go_wp2_with (first | ((with_reducible refine gC_q (f := 20) rfl ?_); refine gL_q (some 113) rfl rfl Try.func20 m10_q rfl #[.slice Ao82 t424.length co82, .int .i64 1] rfl m0_q ?_; (with_reducible refine (laws_heldIntS.calls kj80 _ _ t424 1 t438 _ ?side1 ?side2 A97.out).mono ?_); (case side1 => exact m80_q); (case side2 => exact m98_q); rintro e w' ⟨rfl, ⟨nd, rfl⟩⟩; refine ⟨_, rfl, ?_⟩))
        go_ret
        exact ⟨m3_q, m2_q⟩
       rw [if_neg c99] at H
       have c99b0 : (t438 == t423) = false := fN_q.mpr c99
       have c99b1 : (t438 != t423) = true := nI_q.mpr c99
       obtain rfl := oI_q H
       go_wp2_with (first | ((with_reducible refine gC_q (f := 20) rfl ?_); refine gL_q (some 113) rfl rfl Try.func20 m10_q rfl #[.slice Ao82 t424.length co82, .int .i64 1] rfl m0_q ?_; (with_reducible refine (laws_heldIntS.calls kj80 _ _ t424 1 t438 _ ?side1 ?side2 A97.out).mono ?_); (case side1 => exact m80_q); (case side2 => exact m98_q); rintro e w' ⟨rfl, ⟨nd, rfl⟩⟩; refine ⟨_, rfl, ?_⟩))
       go_ret
       exact ⟨m3_q, m2_q⟩

def laws_FnExactPlanMake.Pure : Prop := ∀ (l0 : List (S59)) (a1_0 : Int) (l1_1 : List Int), l0.length ≤ maxLen → (∀ x ∈ l0, x.f3.length ≤ maxLen) → l1_1.length ≤ maxLen → ∃ k, laws_FnExactPlanMake.f k l0 a1_0 l1_1 = some true

end Go.Proofs.Ytfnpiacmlahegaa.PRp
