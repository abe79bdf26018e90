import Derived.Test.YtfnpiacmlahegaaVEPRpx0
import Derived.Test.YtfnpiacmlahegaaVEPRpx1
import Derived.Test.YtfnpiacmlahegaaVEPRpx2
import Derived.Test.YtfnpiacmlahegaaVEPRpx3
import Derived.Test.YtfnpiacmlahegaaVEPRpx5
import Derived.Test.YtfnpiacmlahegaaVEPRpx6
import Derived.Test.YtfnpiacmlahegaaVEPRpx7
import Derived.Test.YtfnpiacmlahegaaVEPRpx8
namespace Go.Proofs.Ytfnpiacmlahegaa.PRp
open Go.RowKit Go.Proofs.YtfnpiacmlahegaaW.PrintWords Go.Proofs.YtfnpiacmlahegaaW.PrintLast Go.Proofs.YtfnpiacmlahegaaW.PrintMore
attribute [local go_sem] max2_int min2_int max_two min_two max_three min_three max_four min_four
set_option linter.unusedVariables false
set_option linter.unusedSimpArgs false

def laws_FnExactOutageHits.j0 : Nat → List (S59) → List Int → List Int → List Int → Bool → Int → Int → Int → Option (Bool)
 | 0, _, _, _, _, _, _, _, _ => none
 | k + 1, x0, x1, x8, x11, x67, x201000, x201001, x201002 => if x67 = true then (some false) else ((laws_markIntS.f k x11 1).bind fun bt238 => ((laws_heldIntS.f k bt238.2 1).bind fun t240 => (if t240 < 0 then (some false) else (if t240 = bt238.1 then ((laws_toStepS.f k x0).bind fun t241 => ((laws_toIntS.f k x1).bind fun t244 => ((laws_toOutage.f x201000 x201001 x201002).bind fun bt247 => ((impl_OutageHits.f k t241 t244 bt247.1 bt247.2.1 bt247.2.2).bind fun t250 => ((laws_eqIntS.f k t250 x8).bind fun t253 => (if t253 = true then ((laws_heldIntS.f k bt238.2 1).bind fun t254 => (if t254 < 0 then (some false) else (if t254 = bt238.1 then (some true) else (some false)))) else (some false))))))) else (some false)))))
def laws_FnExactOutageHits.f (k : Nat) (l0 : List (S59)) (l1 : List Int) (a2_0 : Int) (a2_1 : Int) (a2_2 : Int) : Option (Bool) := if (l1.length : Int) > 1048576 then (some true) else ((laws_szStepS.f k l0 1048576).bind fun t201 => (if t201 < 0 then (some true) else ((laws_toStepS.f k l0).bind fun t202 => ((laws_toIntS.f k l1).bind fun t205 => ((laws_toOutage.f a2_0 a2_1 a2_2).bind fun bt208 => ((spec_OutageHits.f k t202 t205 bt208.1 bt208.2.1 bt208.2.2).bind fun t211 => ((laws_toStepS.f k l0).bind fun t214 => ((laws_toIntS.f k l1).bind fun t217 => ((laws_toOutage.f a2_0 a2_1 a2_2).bind fun bt220 => ((impl_OutageHits.f k t214 t217 bt220.1 bt220.2.1 bt220.2.2).bind fun t223 => ((laws_eqIntS.f k t223 t211).bind fun t226 => (if t226 = true then ((laws_toStepS.f k l0).bind fun t227 => ((laws_eqStepS.f k t214 t227).bind fun t230 => (if t230 = true then ((laws_toIntS.f k l1).bind fun t231 => ((laws_eqIntS.f k t217 t231).bind fun t234 => (if t234 = true then ((laws_markIntS.f k t217 (markStepF t214 1)).bind fun bt235 => (if bt235.1 < 0 then (laws_FnExactOutageHits.j0 k l0 l1 t211 t223 true a2_0 a2_1 a2_2) else ((laws_eqIntS.f k t223 t211).bind fun t237 => (laws_FnExactOutageHits.j0 k l0 l1 t211 t223 (!t237) a2_0 a2_1 a2_2)))) else (some false)))) else (some false)))) else (some false)))))))))))))
def laws_FnExactOutageHits.T7 : Bool × List (List Nat × List Nat) := (true, [([], []), ([0], [0]), ([], []), ([2, 1], [2]), ([], []), ([4, 3], [4]), ([1, 3, 5, 5], [1, 3, 5]), ([6, 6, 0, 1, 2, 3, 4, 5, 6], [6])])
def laws_FnExactOutageHits.B7 : List Nat := [0, 1, 0, 7, 0, 31, 63, 127]
theorem laws_FnExactOutageHits.tab7 : rtab .any (opsOf Try.f3 7) = laws_FnExactOutageHits.T7 := by kernel_rfl
theorem laws_FnExactOutageHits.bits7 : waitsOk laws_FnExactOutageHits.T7.2 laws_FnExactOutageHits.B7 = true := by kernel_rfl
def laws_FnExactOutageHits.T30 : Bool × List (List Nat × List Nat) := (true, [([], []), ([0], [0]), ([], []), ([2, 1], [2]), ([], []), ([4, 3], [4]), ([1, 3, 5, 5], [1, 3, 5]), ([6, 6, 0, 1, 2, 3, 4, 5, 6], [6])])
def laws_FnExactOutageHits.B30 : List Nat := [0, 1, 0, 7, 0, 31, 63, 127]
theorem laws_FnExactOutageHits.tab30 : rtab .any (opsOf Try.f3 30) = laws_FnExactOutageHits.T30 := by kernel_rfl
theorem laws_FnExactOutageHits.bits30 : waitsOk laws_FnExactOutageHits.T30.2 laws_FnExactOutageHits.B30 = true := by kernel_rfl
set_option maxHeartbeats 8000000 in
set_option maxRecDepth 100000 in
theorem laws_FnExactOutageHits.calls (k : Nat) (A0 : Option Addr) (c0 : Nat) (l0 : List (S59)) (A1 : Option Addr) (c1 : Nat) (l1 : List Int) (a2_0 : Int) (a2_1 : Int) (a2_2 : Int) (r : Bool) (w : World) (hr0 : Kd.C k59 w A0 l0.length l0) (hc0 : l0.length ≤ c0) (hr1 : Kd.C kI_q w A1 l1.length l1) (hc1 : l1.length ≤ c1) (h : laws_FnExactOutageHits.f k l0 l1 a2_0 a2_1 a2_2 = some r) :
    Calls Try.prog 3 #[.slice A0 l0.length c0, .slice A1 l1.length c1, .agg #[.int .i64 a2_0, .int .i64 a2_1, .int .i64 a2_2]] w fun e w' => e = .returned (.bool r) ∧ Below w.heap.size w w' := by
 have hu25 := Try.underlying25
 have HR0 := Ae_q hr0
 have HC0 := Ae_q hc0
 clear hr0 hc0
 have HR1 := Ae_q hr1
 have HC1 := Ae_q hc1
 clear hr1 hc1
 have HB := Ae_q (bR_q w.heap.size w)
 have H : (if (l1.length : Int) > 1048576 then (some true) else ((laws_szStepS.f k l0 1048576).bind fun t201 => (if t201 < 0 then (some true) else ((laws_toStepS.f k l0).bind fun t202 => ((laws_toIntS.f k l1).bind fun t205 => ((laws_toOutage.f a2_0 a2_1 a2_2).bind fun bt208 => ((spec_OutageHits.f k t202 t205 bt208.1 bt208.2.1 bt208.2.2).bind fun t211 => ((laws_toStepS.f k l0).bind fun t214 => ((laws_toIntS.f k l1).bind fun t217 => ((laws_toOutage.f a2_0 a2_1 a2_2).bind fun bt220 => ((impl_OutageHits.f k t214 t217 bt220.1 bt220.2.1 bt220.2.2).bind fun t223 => ((laws_eqIntS.f k t223 t211).bind fun t226 => (if t226 = true then ((laws_toStepS.f k l0).bind fun t227 => ((laws_eqStepS.f k t214 t227).bind fun t230 => (if t230 = true then ((laws_toIntS.f k l1).bind fun t231 => ((laws_eqIntS.f k t217 t231).bind fun t234 => (if t234 = true then ((laws_markIntS.f k t217 (markStepF t214 1)).bind fun bt235 => (if bt235.1 < 0 then (laws_FnExactOutageHits.j0 k l0 l1 t211 t223 true a2_0 a2_1 a2_2) else ((laws_eqIntS.f k t223 t211).bind fun t237 => (laws_FnExactOutageHits.j0 k l0 l1 t211 t223 (!t237) a2_0 a2_1 a2_2)))) else (some false)))) else (some false)))) else (some false)))))))))))))) = some r := h
 clear h
 by_cases c4 : (l1.length : Int) > 1048576
 ·rw [if_pos c4] at H
  have c4b0 : decide (1048576 < (l1.length : Int)) = true := dT_q c4
  have c4b1 : decide (1048576 < l1.length) = true := dT_q (by omega)
  clear c4
  obtain rfl := oI_q H
  go_enter Try.func3, Try.ntmps3
  go_wp2_with (first | ((with_reducible refine gD_q (N := 5) rfl ?_); refine bE_q ?hg (N := 5) ?hd (cs := #[.int .i64 a2_0, .int .i64 a2_1, .int .i64 a2_2]) (t := 25) ?hr ?_; (case hd => rfl); (case hg => rfl); (case hr => exact m9_q); intro gb200 hg w' hbox hb; have BK200 := Ae_q (hbox); have GW200 := Ae_q ((by rw [hg]; exact (bZ_q (bel HB.out)) : w.heap.size ≤ gb200)); have GE200 := Ae_q ((by rw [hg]; exact (bZ_q (bel HB.out)) : w.heap.size ≤ gb200)); replace HB := Ae_q (bT_q (bel HB.out) hb); clear hb hbox hg))
  go_ret
  exact ⟨m2_q, m0_q⟩
 rw [if_neg c4] at H
 have c4b0 : decide (1048576 < (l1.length : Int)) = false := dF_q c4
 have c4b1 : decide (1048576 < l1.length) = false := dF_q (by omega)
 clear c4
 replace H := oB_q.mp H
 obtain ⟨t201, A60, H⟩ := H
 replace H : (if t201 < 0 then (some true) else ((laws_toStepS.f k l0).bind fun t202 => ((laws_toIntS.f k l1).bind fun t205 => ((laws_toOutage.f a2_0 a2_1 a2_2).bind fun bt208 => ((spec_OutageHits.f k t202 t205 bt208.1 bt208.2.1 bt208.2.2).bind fun t211 => ((laws_toStepS.f k l0).bind fun t214 => ((laws_toIntS.f k l1).bind fun t217 => ((laws_toOutage.f a2_0 a2_1 a2_2).bind fun bt220 => ((impl_OutageHits.f k t214 t217 bt220.1 bt220.2.1 bt220.2.2).bind fun t223 => ((laws_eqIntS.f k t223 t211).bind fun t226 => (if t226 = true then ((laws_toStepS.f k l0).bind fun t227 => ((laws_eqStepS.f k t214 t227).bind fun t230 => (if t230 = true then ((laws_toIntS.f k l1).bind fun t231 => ((laws_eqIntS.f k t217 t231).bind fun t234 => (if t234 = true then ((laws_markIntS.f k t217 (markStepF t214 1)).bind fun bt235 => (if bt235.1 < 0 then (laws_FnExactOutageHits.j0 k l0 l1 t211 t223 true a2_0 a2_1 a2_2) else ((laws_eqIntS.f k t223 t211).bind fun t237 => (laws_FnExactOutageHits.j0 k l0 l1 t211 t223 (!t237) a2_0 a2_1 a2_2)))) else (some false)))) else (some false)))) else (some false)))))))))))) = some r := H
 have A6 := Ae_q A60
 clear A60
 by_cases c7 : t201 < 0
 ·rw [if_pos c7] at H
  have c7b0 : decide (t201 < 0) = true := dT_q c7
  clear c7
  obtain rfl := oI_q H
  go_enter Try.func3, Try.ntmps3
  go_wp2_with (first | ((with_reducible refine gD_q (N := 5) rfl ?_); refine bE_q ?hg (N := 5) ?hd (cs := #[.int .i64 a2_0, .int .i64 a2_1, .int .i64 a2_2]) (t := 25) ?hr ?_; (case hd => rfl); (case hg => rfl); (case hr => exact m9_q); intro gb200 hg w' hbox hb; have BK200 := Ae_q (hbox); have GW200 := Ae_q ((by rw [hg]; exact (bZ_q (bel HB.out)) : w.heap.size ≤ gb200)); have GE200 := Ae_q ((by rw [hg]; exact (bZ_q (bel HB.out)) : w.heap.size ≤ gb200)); replace HB := Ae_q (bT_q (bel HB.out) hb); clear hb hbox hg) | ((with_reducible refine gC_q (f := 10) rfl ?_); refine gL_q (some 21) rfl rfl Try.func10 m8_q rfl #[.slice A0 l0.length c0, .int .i64 1048576] rfl m1_q ?_; (with_reducible refine (laws_szStepS.calls k _ _ l0 1048576 t201 _ ?side1 ?side2 A6.out).mono ?_); (case side1 => exact m25_q); (case side2 => exact m39_q); rintro e w' ⟨rfl, hb⟩; refine ⟨_, rfl, ?_⟩; replace BK200 := Ae_q (bB_q (g := gb200) (o := .cells #[.int .i64 a2_0, .int .i64 a2_1, .int .i64 a2_2] 25 (0, 0)) (bup BK200.out) hb); replace HB := Ae_q (bT_q m0_q hb); (try clear hb); (try clear hb2); (try clear hk); (try clear hi)))
  go_ret
  exact ⟨m2_q, m0_q⟩
 rw [if_neg c7] at H
 have c7b0 : decide (t201 < 0) = false := dF_q c7
 clear c7
 replace H := oB_q.mp H
 obtain ⟨t202, A100, H⟩ := H
 replace H : ((laws_toIntS.f k l1).bind fun t205 => ((laws_toOutage.f a2_0 a2_1 a2_2).bind fun bt208 => ((spec_OutageHits.f k t202 t205 bt208.1 bt208.2.1 bt208.2.2).bind fun t211 => ((laws_toStepS.f k l0).bind fun t214 => ((laws_toIntS.f k l1).bind fun t217 => ((laws_toOutage.f a2_0 a2_1 a2_2).bind fun bt220 => ((impl_OutageHits.f k t214 t217 bt220.1 bt220.2.1 bt220.2.2).bind fun t223 => ((laws_eqIntS.f k t223 t211).bind fun t226 => (if t226 = true then ((laws_toStepS.f k l0).bind fun t227 => ((laws_eqStepS.f k t214 t227).bind fun t230 => (if t230 = true then ((laws_toIntS.f k l1).bind fun t231 => ((laws_eqIntS.f k t217 t231).bind fun t234 => (if t234 = true then ((laws_markIntS.f k t217 (markStepF t214 1)).bind fun bt235 => (if bt235.1 < 0 then (laws_FnExactOutageHits.j0 k l0 l1 t211 t223 true a2_0 a2_1 a2_2) else ((laws_eqIntS.f k t223 t211).bind fun t237 => (laws_FnExactOutageHits.j0 k l0 l1 t211 t223 (!t237) a2_0 a2_1 a2_2)))) else (some false)))) else (some false)))) else (some false)))))))))) = some r := H
 have A10 := Ae_q A100
 clear A100
 replace H := oB_q.mp H
 obtain ⟨t205, A110, H⟩ := H
 replace H : ((laws_toOutage.f a2_0 a2_1 a2_2).bind fun bt208 => ((spec_OutageHits.f k t202 t205 bt208.1 bt208.2.1 bt208.2.2).bind fun t211 => ((laws_toStepS.f k l0).bind fun t214 => ((laws_toIntS.f k l1).bind fun t217 => ((laws_toOutage.f a2_0 a2_1 a2_2).bind fun bt220 => ((impl_OutageHits.f k t214 t217 bt220.1 bt220.2.1 bt220.2.2).bind fun t223 => ((laws_eqIntS.f k t223 t211).bind fun t226 => (if t226 = true then ((laws_toStepS.f k l0).bind fun t227 => ((laws_eqStepS.f k t214 t227).bind fun t230 => (if t230 = true then ((laws_toIntS.f k l1).bind fun t231 => ((laws_eqIntS.f k t217 t231).bind fun t234 => (if t234 = true then ((laws_markIntS.f k t217 (markStepF t214 1)).bind fun bt235 => (if bt235.1 < 0 then (laws_FnExactOutageHits.j0 k l0 l1 t211 t223 true a2_0 a2_1 a2_2) else ((laws_eqIntS.f k t223 t211).bind fun t237 => (laws_FnExactOutageHits.j0 k l0 l1 t211 t223 (!t237) a2_0 a2_1 a2_2)))) else (some false)))) else (some false)))) else (some false))))))))) = some r := H
 have A11 := Ae_q A110
 clear A110
 replace H := oB_q.mp H
 obtain ⟨⟨t208, t209, t210⟩, A120, H⟩ := H
 replace H : ((spec_OutageHits.f k t202 t205 t208 t209 t210).bind fun t211 => ((laws_toStepS.f k l0).bind fun t214 => ((laws_toIntS.f k l1).bind fun t217 => ((laws_toOutage.f a2_0 a2_1 a2_2).bind fun bt220 => ((impl_OutageHits.f k t214 t217 bt220.1 bt220.2.1 bt220.2.2).bind fun t223 => ((laws_eqIntS.f k t223 t211).bind fun t226 => (if t226 = true then ((laws_toStepS.f k l0).bind fun t227 => ((laws_eqStepS.f k t214 t227).bind fun t230 => (if t230 = true then ((laws_toIntS.f k l1).bind fun t231 => ((laws_eqIntS.f k t217 t231).bind fun t234 => (if t234 = true then ((laws_markIntS.f k t217 (markStepF t214 1)).bind fun bt235 => (if bt235.1 < 0 then (laws_FnExactOutageHits.j0 k l0 l1 t211 t223 true a2_0 a2_1 a2_2) else ((laws_eqIntS.f k t223 t211).bind fun t237 => (laws_FnExactOutageHits.j0 k l0 l1 t211 t223 (!t237) a2_0 a2_1 a2_2)))) else (some false)))) else (some false)))) else (some false)))))))) = some r := H
 have A12 := Ae_q A120
 clear A120
 replace H := oB_q.mp H
 obtain ⟨t211, A130, H⟩ := H
 replace H : ((laws_toStepS.f k l0).bind fun t214 => ((laws_toIntS.f k l1).bind fun t217 => ((laws_toOutage.f a2_0 a2_1 a2_2).bind fun bt220 => ((impl_OutageHits.f k t214 t217 bt220.1 bt220.2.1 bt220.2.2).bind fun t223 => ((laws_eqIntS.f k t223 t211).bind fun t226 => (if t226 = true then ((laws_toStepS.f k l0).bind fun t227 => ((laws_eqStepS.f k t214 t227).bind fun t230 => (if t230 = true then ((laws_toIntS.f k l1).bind fun t231 => ((laws_eqIntS.f k t217 t231).bind fun t234 => (if t234 = true then ((laws_markIntS.f k t217 (markStepF t214 1)).bind fun bt235 => (if bt235.1 < 0 then (laws_FnExactOutageHits.j0 k l0 l1 t211 t223 true a2_0 a2_1 a2_2) else ((laws_eqIntS.f k t223 t211).bind fun t237 => (laws_FnExactOutageHits.j0 k l0 l1 t211 t223 (!t237) a2_0 a2_1 a2_2)))) else (some false)))) else (some false)))) else (some false))))))) = some r := H
 have A13 := Ae_q A130
 clear A130
 replace H := oB_q.mp H
 obtain ⟨t214, A140, H⟩ := H
 replace H : ((laws_toIntS.f k l1).bind fun t217 => ((laws_toOutage.f a2_0 a2_1 a2_2).bind fun bt220 => ((impl_OutageHits.f k t214 t217 bt220.1 bt220.2.1 bt220.2.2).bind fun t223 => ((laws_eqIntS.f k t223 t211).bind fun t226 => (if t226 = true then ((laws_toStepS.f k l0).bind fun t227 => ((laws_eqStepS.f k t214 t227).bind fun t230 => (if t230 = true then ((laws_toIntS.f k l1).bind fun t231 => ((laws_eqIntS.f k t217 t231).bind fun t234 => (if t234 = true then ((laws_markIntS.f k t217 (markStepF t214 1)).bind fun bt235 => (if bt235.1 < 0 then (laws_FnExactOutageHits.j0 k l0 l1 t211 t223 true a2_0 a2_1 a2_2) else ((laws_eqIntS.f k t223 t211).bind fun t237 => (laws_FnExactOutageHits.j0 k l0 l1 t211 t223 (!t237) a2_0 a2_1 a2_2)))) else (some false)))) else (some false)))) else (some false)))))) = some r := H
 have A14 := Ae_q A140
 clear A140
 replace H := oB_q.mp H
 obtain ⟨t217, A150, H⟩ := H
 replace H : ((laws_toOutage.f a2_0 a2_1 a2_2).bind fun bt220 => ((impl_OutageHits.f k t214 t217 bt220.1 bt220.2.1 bt220.2.2).bind fun t223 => ((laws_eqIntS.f k t223 t211).bind fun t226 => (if t226 = true then ((laws_toStepS.f k l0).bind fun t227 => ((laws_eqStepS.f k t214 t227).bind fun t230 => (if t230 = true then ((laws_toIntS.f k l1).bind fun t231 => ((laws_eqIntS.f k t217 t231).bind fun t234 => (if t234 = true then ((laws_markIntS.f k t217 (markStepF t214 1)).bind fun bt235 => (if bt235.1 < 0 then (laws_FnExactOutageHits.j0 k l0 l1 t211 t223 true a2_0 a2_1 a2_2) else ((laws_eqIntS.f k t223 t211).bind fun t237 => (laws_FnExactOutageHits.j0 k l0 l1 t211 t223 (!t237) a2_0 a2_1 a2_2)))) else (some false)))) else (some false)))) else (some false))))) = some r := H
 have A15 := Ae_q A150
 clear A150
 replace H := oB_q.mp H
 obtain ⟨⟨t220, t221, t222⟩, A160, H⟩ := H
 replace H : ((impl_OutageHits.f k t214 t217 t220 t221 t222).bind fun t223 => ((laws_eqIntS.f k t223 t211).bind fun t226 => (if t226 = true then ((laws_toStepS.f k l0).bind fun t227 => ((laws_eqStepS.f k t214 t227).bind fun t230 => (if t230 = true then ((laws_toIntS.f k l1).bind fun t231 => ((laws_eqIntS.f k t217 t231).bind fun t234 => (if t234 = true then ((laws_markIntS.f k t217 (markStepF t214 1)).bind fun bt235 => (if bt235.1 < 0 then (laws_FnExactOutageHits.j0 k l0 l1 t211 t223 true a2_0 a2_1 a2_2) else ((laws_eqIntS.f k t223 t211).bind fun t237 => (laws_FnExactOutageHits.j0 k l0 l1 t211 t223 (!t237) a2_0 a2_1 a2_2)))) else (some false)))) else (some false)))) else (some false)))) = some r := H
 have A16 := Ae_q A160
 clear A160
 replace H := oB_q.mp H
 obtain ⟨t223, A170, H⟩ := H
 replace H : ((laws_eqIntS.f k t223 t211).bind fun t226 => (if t226 = true then ((laws_toStepS.f k l0).bind fun t227 => ((laws_eqStepS.f k t214 t227).bind fun t230 => (if t230 = true then ((laws_toIntS.f k l1).bind fun t231 => ((laws_eqIntS.f k t217 t231).bind fun t234 => (if t234 = true then ((laws_markIntS.f k t217 (markStepF t214 1)).bind fun bt235 => (if bt235.1 < 0 then (laws_FnExactOutageHits.j0 k l0 l1 t211 t223 true a2_0 a2_1 a2_2) else ((laws_eqIntS.f k t223 t211).bind fun t237 => (laws_FnExactOutageHits.j0 k l0 l1 t211 t223 (!t237) a2_0 a2_1 a2_2)))) else (some false)))) else (some false)))) else (some false))) = some r := H
 have A17 := Ae_q A170
 clear A170
 replace H := oB_q.mp H
 obtain ⟨t226, A180, H⟩ := H
 replace H : (if t226 = true then ((laws_toStepS.f k l0).bind fun t227 => ((laws_eqStepS.f k t214 t227).bind fun t230 => (if t230 = true then ((laws_toIntS.f k l1).bind fun t231 => ((laws_eqIntS.f k t217 t231).bind fun t234 => (if t234 = true then ((laws_markIntS.f k t217 (markStepF t214 1)).bind fun bt235 => (if bt235.1 < 0 then (laws_FnExactOutageHits.j0 k l0 l1 t211 t223 true a2_0 a2_1 a2_2) else ((laws_eqIntS.f k t223 t211).bind fun t237 => (laws_FnExactOutageHits.j0 k l0 l1 t211 t223 (!t237) a2_0 a2_1 a2_2)))) else (some false)))) else (some false)))) else (some false)) = some r := H
 have A18 := Ae_q A180
 clear A180
 by_cases c19 : t226 = true
 rotate_left
 ·replace c19 := fM_q.mpr c19
  subst c19
  have H1 : (some false) = some r := by rw [if_neg (show ¬ (false = true) by decide)] at H; exact H
  clear H
  have H := H1
  clear H1
  obtain rfl := oI_q H
  go_enter Try.func3, Try.ntmps3
  try go_wp2_with (first | ((with_reducible refine gD_q (N := 5) rfl ?_); refine bE_q ?hg (N := 5) ?hd (cs := #[.int .i64 a2_0, .int .i64 a2_1, .int .i64 a2_2]) (t := 25) ?hr ?_; (case hd => rfl); (case hg => rfl); (case hr => exact m9_q); intro gb200 hg w' hbox hb; have BK200 := Ae_q (hbox); have GW200 := Ae_q ((by rw [hg]; exact (bZ_q (bel HB.out)) : w.heap.size ≤ gb200)); have GE200 := Ae_q ((by rw [hg]; exact (bZ_q (bel HB.out)) : w.heap.size ≤ gb200)); replace HB := Ae_q (bT_q (bel HB.out) hb); clear hb hbox hg) | ((with_reducible refine gC_q (f := 10) rfl ?_); refine gL_q (some 21) rfl rfl Try.func10 m8_q rfl #[.slice A0 l0.length c0, .int .i64 1048576] rfl m1_q ?_; (with_reducible refine (laws_szStepS.calls k _ _ l0 1048576 t201 _ ?side1 ?side2 A6.out).mono ?_); (case side1 => exact m25_q); (case side2 => exact m39_q); rintro e w151 ⟨rfl, hb⟩; refine ⟨_, rfl, ?_⟩; replace BK200 := Ae_q (bB_q (g := gb200) (o := .cells #[.int .i64 a2_0, .int .i64 a2_1, .int .i64 a2_2] 25 (0, 0)) (bup BK200.out) hb); replace HB := Ae_q (bT_q m0_q hb); (try clear hb); (try clear hb2); (try clear hk); (try clear hi)))
  replace BK200 := Ae_q (bW_q BK200.out)
  replace HB := Ae_q (bD_q HB.out)
  refine start_ (n := 8) (S := fun w' => w'.cell? ⟨gb200, 0, none⟩ = some (.int .i64 a2_0) ∧ w'.cell? ⟨gb200, 1, none⟩ = some (.int .i64 a2_1) ∧ w'.cell? ⟨gb200, 2, none⟩ = some (.int .i64 a2_2)) (ds := []) #[false, false, false, false, false, false, false, false] m8_q rfl rfl ⟨(bC_q BK200.out 0).trans rfl, (bC_q BK200.out 1).trans rfl, (bC_q BK200.out 2).trans rfl⟩ (fun hHeld => ?_); refine with_tabW laws_FnExactOutageHits.tab7 laws_FnExactOutageHits.bits7 (fun HT_ HW_ => ?_)
  generalize w151.drew = w152 at BK200 HB hHeld ⊢
  refine pJ HT_ 0 24 rfl rfl ?_
  refine pJ HT_ 2 26 rfl rfl ?_
  refine take_ (i := 4) (N := some 28) (v := ?_) (a' := ?_) #[true, false, true, false, true, false, false, false] rfl rfl (take_ofW HT_.out HW_.out m8_q) (fun _ _ _ h => h) (Or.inl ⟨by rfl, ?_⟩) hHeld ?_ ?_
  rotate_left
  ·rintro w' ⟨s0, s1, s2⟩
   go_simp
   with_reducible rfl
  rotate_left
  ·simp only [pS_q]
   rfl
  refine one_ (i := 1) (N := some 25) #[true, true, true, false, true, false, false, false] rfl rfl (one_of HT_.out m8_q) (by decide) (fun K hK => ?_)
  refine goes_ Try.func12 m8_q rfl #[.slice A0 l0.length c0] (by rfl) rfl rfl m1_q ?_
  with_reducible refine (laws_toStepS.calls k _ _ l0 t202 _ ?side1 ?side2 A10.out).mono ?_
  (case side1 => exact m25_q)
  (case side2 => exact m39_q)
  rintro e w' ⟨v203, rfl, ho0, hb⟩
  refine ⟨_, rfl, ?_⟩
  have HO204 := Ae_q (Kd.S_lower ho0 (bZ_q m0_q))
  replace BK200 := Ae_q (bB_q (g := gb200) (o := .cells #[.int .i64 a2_0, .int .i64 a2_1, .int .i64 a2_2] 25 (0, 0)) (bup BK200.out) hb)
  replace HB := Ae_q (bT_q m0_q hb)
  (try clear hb)
  (try clear hb2)
  (try clear hk)
  (try clear hi)
  (try clear ho0)
  refine hK.out _ _ ⟨(bC_q BK200.out 0).trans rfl, (bC_q BK200.out 1).trans rfl, (bC_q BK200.out 2).trans rfl⟩ (fun hHeld => ?_)
  clear hK K
  refine nJ_q ?_
  refine one_ (i := 3) (N := some 27) #[true, true, true, true, true, false, false, false] rfl rfl (one_of HT_.out m8_q) (by decide) (fun K hK => ?_)
  refine goes_ Try.func13 m8_q rfl #[.slice A1 l1.length c1] (by rfl) rfl rfl m1_q ?_
  with_reducible refine (laws_toIntS.calls k _ _ l1 t205 _ ?side1 ?side2 A11.out).mono ?_
  (case side1 => exact m30_q)
  (case side2 => exact m46_q)
  rintro e w' ⟨v206, rfl, ho0, hb⟩
  refine ⟨_, rfl, ?_⟩
  replace HO204 := Ae_q (Kd.S_elder' m3_q (rB_q ho0) hb)
  have HO207 := Ae_q (rL_q ho0 (bZ_q m0_q))
  replace BK200 := Ae_q (bB_q (g := gb200) (o := .cells #[.int .i64 a2_0, .int .i64 a2_1, .int .i64 a2_2] 25 (0, 0)) (bup BK200.out) hb)
  replace HB := Ae_q (bT_q m0_q hb)
  (try clear hb)
  (try clear hb2)
  (try clear hk)
  (try clear hi)
  (try clear ho0)
  refine hK.out _ _ ⟨(bC_q BK200.out 0).trans rfl, (bC_q BK200.out 1).trans rfl, (bC_q BK200.out 2).trans rfl⟩ (fun hHeld => ?_)
  clear hK K
  refine nJ_q ?_
  refine one_ (i := 5) (N := some 29) #[true, true, true, true, true, true, false, false] rfl rfl (one_of HT_.out m8_q) (by decide) (fun K hK => ?_)
  refine goes_ Try.func14 m8_q rfl #[.agg #[.int .i64 a2_0, .int .i64 a2_1, .int .i64 a2_2]] (by rfl) rfl rfl m1_q ?_
  with_reducible refine (laws_toOutage.calls a2_0 a2_1 a2_2 t208 t209 t210 _ A12.out).mono ?_
  rintro e w' ⟨rfl, hb⟩
  refine ⟨_, rfl, ?_⟩
  replace HO204 := Ae_q (Kd.S_below m3_q hb)
  replace HO207 := Ae_q (rO_q (rup HO207.out) hb)
  replace BK200 := Ae_q (bB_q (g := gb200) (o := .cells #[.int .i64 a2_0, .int .i64 a2_1, .int .i64 a2_2] 25 (0, 0)) (bup BK200.out) hb)
  replace HB := Ae_q (bT_q m0_q hb)
  (try clear hb)
  (try clear hb2)
  (try clear hk)
  (try clear hi)
  obtain ⟨Ao156, co156, eo156⟩ := Kd.S_slice HO204.out
  (first | subst eo156 | (injection eo156 with f1_ f2_ f3_; have f4_ := f1_.symm; have f5_ := f3_.symm; clear f1_ f2_ f3_; subst f4_; subst f5_))
  obtain ⟨Ao157, co157, eo157⟩ := rS_q HO207.out
  (first | subst eo157 | (injection eo157 with f1_ f2_ f3_; have f4_ := f1_.symm; have f5_ := f3_.symm; clear f1_ f2_ f3_; subst f4_; subst f5_))
  refine hK.out _ _ ⟨(bC_q BK200.out 0).trans rfl, (bC_q BK200.out 1).trans rfl, (bC_q BK200.out 2).trans rfl⟩ (fun hHeld => ?_)
  clear hK K
  refine nJ_q ?_
  refine one_ (i := 6) (N := some 30) #[true, true, true, true, true, true, true, false] rfl rfl (one_of HT_.out m8_q) (by decide) (fun K hK => ?_)
  refine goes_ Try.func11 m8_q rfl #[.slice Ao156 t202.length co156, .slice Ao157 t205.length co157, .agg #[.int .i64 t208, .int .i64 t209, .int .i64 t210]] (by rfl) rfl rfl m1_q ?_
  with_reducible refine (spec_OutageHits.calls k _ _ t202 _ _ t205 t208 t209 t210 t211 _ ?side1 ?side2 ?side3 ?side4 A13.out).mono ?_
  (case side1 => exact m28_q)
  (case side2 => exact m60_q)
  (case side3 => exact m67_q)
  (case side4 => exact (rR_q HO207.out).2.1)
  rintro e w' ⟨v212, rfl, ho0, hb⟩
  refine ⟨_, rfl, ?_⟩
  replace HO204 := Ae_q (Kd.S_elder' m3_q (rB_q ho0) hb)
  have HO213 := Ae_q (rL_q (rW_q ho0 (rT_q (rup HO207.out))) (bZ_q m0_q))
  replace HO207 := Ae_q (rE_q (rup HO207.out) (rB_q ho0) hb)
  replace BK200 := Ae_q (bB_q (g := gb200) (o := .cells #[.int .i64 a2_0, .int .i64 a2_1, .int .i64 a2_2] 25 (0, 0)) (bup BK200.out) hb)
  replace HB := Ae_q (bT_q m0_q hb)
  (try clear hb)
  (try clear hb2)
  (try clear hk)
  (try clear hi)
  (try clear ho0)
  refine hK.out _ _ ⟨(bC_q BK200.out 0).trans rfl, (bC_q BK200.out 1).trans rfl, (bC_q BK200.out 2).trans rfl⟩ (fun hHeld => ?_)
  clear hK K
  refine nJ_q ?_
  refine pJ HT_ 7 8 rfl rfl ?_
  refine done_ (done_of HT_.out m8_q) ?_
  try go_wp2_with (first | ((with_reducible refine gC_q (f := 12) rfl ?_); refine gL_q (some 32) rfl rfl Try.func12 m8_q rfl #[.slice A0 l0.length c0] rfl m1_q ?_; (with_reducible refine (laws_toStepS.calls k _ _ l0 t214 _ ?side1 ?side2 A14.out).mono ?_); (case side1 => exact m25_q); (case side2 => exact m39_q); rintro e w' ⟨v215, rfl, ho0, hb⟩; refine ⟨_, rfl, ?_⟩; have HO216 := Ae_q (Kd.S_lower (Kd.S_new' (Kd.S_new' (Kd.S_new' ho0 (Kd.S_lt m3_q)) (rT_q (rup HO207.out))) (rT_q (rup HO213.out))) (bZ_q m0_q)); replace HO204 := Ae_q (Kd.S_elder' m3_q (Kd.S_base ho0) hb); replace HO207 := Ae_q (rO_q (rup HO207.out) hb); replace HO213 := Ae_q (rO_q (rup HO213.out) hb); replace BK200 := Ae_q (bB_q (g := gb200) (o := .cells #[.int .i64 a2_0, .int .i64 a2_1, .int .i64 a2_2] 25 (0, 0)) (bup BK200.out) hb); replace HB := Ae_q (bT_q m0_q hb); (try clear hb); (try clear hb2); (try clear hk); (try clear hi); (try clear ho0)) | ((with_reducible refine gC_q (f := 13) rfl ?_); refine gL_q (some 34) rfl rfl Try.func13 m8_q rfl #[.slice A1 l1.length c1] rfl m1_q ?_; (with_reducible refine (laws_toIntS.calls k _ _ l1 t217 _ ?side1 ?side2 A15.out).mono ?_); (case side1 => exact m30_q); (case side2 => exact m46_q); rintro e w160 ⟨v218, rfl, ho0, hb⟩; refine ⟨_, rfl, ?_⟩; replace HO204 := Ae_q (Kd.S_elder' m3_q (rB_q ho0) hb); replace HO216 := Ae_q (Kd.S_elder' m7_q (rB_q ho0) hb); have HO219 := Ae_q (rL_q (rW_q (rW_q ho0 (rT_q (rup HO207.out))) (rT_q (rup HO213.out))) (bZ_q m0_q)); replace HO207 := Ae_q (rE_q (rup HO207.out) (rB_q ho0) hb); replace HO213 := Ae_q (rE_q (rup HO213.out) (rB_q ho0) hb); replace BK200 := Ae_q (bB_q (g := gb200) (o := .cells #[.int .i64 a2_0, .int .i64 a2_1, .int .i64 a2_2] 25 (0, 0)) (bup BK200.out) hb); replace HB := Ae_q (bT_q m0_q hb); (try clear hb); (try clear hb2); (try clear hk); (try clear hi); (try clear ho0); have hcz161_0 : cI w160 gb200 0 a2_0 := cZ BK200 0 rfl; have hcz161_1 : cI w160 gb200 1 a2_1 := cZ BK200 1 rfl; have hcz161_2 : cI w160 gb200 2 a2_2 := cZ BK200 2 rfl; have hfz161_0 := bF_q BK200.out 0; have hfz161_1 := bF_q BK200.out 1; have hfz161_2 := bF_q BK200.out 2) | ((with_reducible refine gC_q (f := 14) rfl ?_); refine gL_q (some 38) rfl rfl Try.func14 m8_q rfl #[.agg #[.int .i64 a2_0, .int .i64 a2_1, .int .i64 a2_2]] rfl m1_q ?_; (with_reducible refine (laws_toOutage.calls a2_0 a2_1 a2_2 t220 t221 t222 _ A16.out).mono ?_); rintro e w' ⟨rfl, hb⟩; refine ⟨_, rfl, ?_⟩; replace HO204 := Ae_q (Kd.S_below m3_q hb); replace HO207 := Ae_q (rO_q (rup HO207.out) hb); replace HO213 := Ae_q (rO_q (rup HO213.out) hb); replace HO216 := Ae_q (Kd.S_below m7_q hb); replace HO219 := Ae_q (rO_q (rup HO219.out) hb); replace BK200 := Ae_q (bB_q (g := gb200) (o := .cells #[.int .i64 a2_0, .int .i64 a2_1, .int .i64 a2_2] 25 (0, 0)) (bup BK200.out) hb); replace HB := Ae_q (bT_q m0_q hb); (try clear hb); (try clear hb2); (try clear hk); (try clear hi); obtain ⟨Ao163, co163, eo163⟩ := Kd.S_slice HO216.out; subst eo163; obtain ⟨Ao164, co164, eo164⟩ := rS_q HO219.out; subst eo164) | ((with_reducible refine gC_q (f := 15) rfl ?_); refine gL_q (some 39) rfl rfl Try.func15 m8_q rfl #[.slice Ao163 t214.length co163, .slice Ao164 t217.length co164, .agg #[.int .i64 t220, .int .i64 t221, .int .i64 t222]] rfl m1_q ?_; (with_reducible refine (impl_OutageHits.calls k _ _ t214 _ _ t217 t220 t221 t222 t223 _ ?side1 ?side2 ?side3 ?side4 A17.out).mono ?_); (case side1 => exact m19_q); (case side2 => exact m47_q); (case side3 => exact m51_q); (case side4 => exact m56_q); rintro e w' ⟨v224, rfl, ho0, hb⟩; refine ⟨_, rfl, ?_⟩; replace HO204 := Ae_q (Kd.S_elder' m3_q (rB_q ho0) hb); replace HO216 := Ae_q (Kd.S_elder' m7_q (rB_q ho0) hb); have HO225 := Ae_q (rL_q (rW_q (rW_q (rW_q ho0 (rT_q (rup HO207.out))) (rT_q (rup HO213.out))) (rT_q (rup HO219.out))) (bZ_q m0_q)); replace HO207 := Ae_q (rE_q (rup HO207.out) (rB_q ho0) hb); replace HO213 := Ae_q (rE_q (rup HO213.out) (rB_q ho0) hb); replace HO219 := Ae_q (rE_q (rup HO219.out) (rB_q ho0) hb); replace BK200 := Ae_q (bB_q (g := gb200) (o := .cells #[.int .i64 a2_0, .int .i64 a2_1, .int .i64 a2_2] 25 (0, 0)) (bup BK200.out) hb); replace HB := Ae_q (bT_q m0_q hb); (try clear hb); (try clear hb2); (try clear hk); (try clear hi); (try clear ho0); obtain ⟨Ao166, co166, eo166⟩ := rS_q HO225.out; subst eo166; obtain ⟨Ao167, co167, eo167⟩ := rS_q HO213.out; subst eo167) | ((with_reducible refine gC_q (f := 16) rfl ?_); refine gL_q (some 42) rfl rfl Try.func16 m8_q rfl #[.slice Ao166 t223.length co166, .slice Ao167 t211.length co167] rfl m1_q ?_; (with_reducible refine (laws_eqIntS.calls k _ _ t223 _ _ t211 false _ ?side1 ?side2 ?side3 ?side4 A18.out).mono ?_); (case side1 => exact m57_q); (case side2 => exact m64_q); (case side3 => exact m58_q); (case side4 => exact m65_q); rintro e w' ⟨rfl, ⟨nd, rfl⟩⟩; refine ⟨_, rfl, ?_⟩))
  go_ret
  exact ⟨m2_q, m0_q⟩
 subst c19
 have H1 : ((laws_toStepS.f k l0).bind fun t227 => ((laws_eqStepS.f k t214 t227).bind fun t230 => (if t230 = true then ((laws_toIntS.f k l1).bind fun t231 => ((laws_eqIntS.f k t217 t231).bind fun t234 => (if t234 = true then ((laws_markIntS.f k t217 (markStepF t214 1)).bind fun bt235 => (if bt235.1 < 0 then (laws_FnExactOutageHits.j0 k l0 l1 t211 t223 true a2_0 a2_1 a2_2) else ((laws_eqIntS.f k t223 t211).bind fun t237 => (laws_FnExactOutageHits.j0 k l0 l1 t211 t223 (!t237) a2_0 a2_1 a2_2)))) else (some false)))) else (some false)))) = some r := by rw [if_pos rfl] at H; exact H
 clear H
 have H := H1
 clear H1
 replace H := oB_q.mp H
 obtain ⟨t227, A200, H⟩ := H
 replace H : ((laws_eqStepS.f k t214 t227).bind fun t230 => (if t230 = true then ((laws_toIntS.f k l1).bind fun t231 => ((laws_eqIntS.f k t217 t231).bind fun t234 => (if t234 = true then ((laws_markIntS.f k t217 (markStepF t214 1)).bind fun bt235 => (if bt235.1 < 0 then (laws_FnExactOutageHits.j0 k l0 l1 t211 t223 true a2_0 a2_1 a2_2) else ((laws_eqIntS.f k t223 t211).bind fun t237 => (laws_FnExactOutageHits.j0 k l0 l1 t211 t223 (!t237) a2_0 a2_1 a2_2)))) else (some false)))) else (some false))) = some r := H
 have A20 := Ae_q A200
 clear A200
 replace H := oB_q.mp H
 obtain ⟨t230, A210, H⟩ := H
 replace H : (if t230 = true then ((laws_toIntS.f k l1).bind fun t231 => ((laws_eqIntS.f k t217 t231).bind fun t234 => (if t234 = true then ((laws_markIntS.f k t217 (markStepF t214 1)).bind fun bt235 => (if bt235.1 < 0 then (laws_FnExactOutageHits.j0 k l0 l1 t211 t223 true a2_0 a2_1 a2_2) else ((laws_eqIntS.f k t223 t211).bind fun t237 => (laws_FnExactOutageHits.j0 k l0 l1 t211 t223 (!t237) a2_0 a2_1 a2_2)))) else (some false)))) else (some false)) = some r := H
 have A21 := Ae_q A210
 clear A210
 by_cases c22 : t230 = true
 rotate_left
 ·replace c22 := fM_q.mpr c22
  subst c22
  have H1 : (some false) = some r := by rw [if_neg (show ¬ (false = true) by decide)] at H; exact H
  clear H
  have H := H1
  clear H1
  obtain rfl := oI_q H
  go_enter Try.func3, Try.ntmps3
  try go_wp2_with (first | ((with_reducible refine gD_q (N := 5) rfl ?_); refine bE_q ?hg (N := 5) ?hd (cs := #[.int .i64 a2_0, .int .i64 a2_1, .int .i64 a2_2]) (t := 25) ?hr ?_; (case hd => rfl); (case hg => rfl); (case hr => exact m9_q); intro gb200 hg w' hbox hb; have BK200 := Ae_q (hbox); have GW200 := Ae_q ((by rw [hg]; exact (bZ_q (bel HB.out)) : w.heap.size ≤ gb200)); have GE200 := Ae_q ((by rw [hg]; exact (bZ_q (bel HB.out)) : w.heap.size ≤ gb200)); replace HB := Ae_q (bT_q (bel HB.out) hb); clear hb hbox hg) | ((with_reducible refine gC_q (f := 10) rfl ?_); refine gL_q (some 21) rfl rfl Try.func10 m8_q rfl #[.slice A0 l0.length c0, .int .i64 1048576] rfl m1_q ?_; (with_reducible refine (laws_szStepS.calls k _ _ l0 1048576 t201 _ ?side1 ?side2 A6.out).mono ?_); (case side1 => exact m25_q); (case side2 => exact m39_q); rintro e w130 ⟨rfl, hb⟩; refine ⟨_, rfl, ?_⟩; replace BK200 := Ae_q (bB_q (g := gb200) (o := .cells #[.int .i64 a2_0, .int .i64 a2_1, .int .i64 a2_2] 25 (0, 0)) (bup BK200.out) hb); replace HB := Ae_q (bT_q m0_q hb); (try clear hb); (try clear hb2); (try clear hk); (try clear hi)))
  replace BK200 := Ae_q (bW_q BK200.out)
  replace HB := Ae_q (bD_q HB.out)
  refine start_ (n := 8) (S := fun w' => w'.cell? ⟨gb200, 0, none⟩ = some (.int .i64 a2_0) ∧ w'.cell? ⟨gb200, 1, none⟩ = some (.int .i64 a2_1) ∧ w'.cell? ⟨gb200, 2, none⟩ = some (.int .i64 a2_2)) (ds := []) #[false, false, false, false, false, false, false, false] m8_q rfl rfl ⟨(bC_q BK200.out 0).trans rfl, (bC_q BK200.out 1).trans rfl, (bC_q BK200.out 2).trans rfl⟩ (fun hHeld => ?_); refine with_tabW laws_FnExactOutageHits.tab7 laws_FnExactOutageHits.bits7 (fun HT_ HW_ => ?_)
  generalize w130.drew = w131 at BK200 HB hHeld ⊢
  refine pJ HT_ 0 24 rfl rfl ?_
  refine pJ HT_ 2 26 rfl rfl ?_
  refine take_ (i := 4) (N := some 28) (v := ?_) (a' := ?_) #[true, false, true, false, true, false, false, false] rfl rfl (take_ofW HT_.out HW_.out m8_q) (fun _ _ _ h => h) (Or.inl ⟨by rfl, ?_⟩) hHeld ?_ ?_
  rotate_left
  ·rintro w' ⟨s0, s1, s2⟩
   go_simp
   with_reducible rfl
  rotate_left
  ·simp only [pS_q]
   rfl
  refine one_ (i := 1) (N := some 25) #[true, true, true, false, true, false, false, false] rfl rfl (one_of HT_.out m8_q) (by decide) (fun K hK => ?_)
  refine goes_ Try.func12 m8_q rfl #[.slice A0 l0.length c0] (by rfl) rfl rfl m1_q ?_
  with_reducible refine (laws_toStepS.calls k _ _ l0 t202 _ ?side1 ?side2 A10.out).mono ?_
  (case side1 => exact m25_q)
  (case side2 => exact m39_q)
  rintro e w' ⟨v203, rfl, ho0, hb⟩
  refine ⟨_, rfl, ?_⟩
  have HO204 := Ae_q (Kd.S_lower ho0 (bZ_q m0_q))
  replace BK200 := Ae_q (bB_q (g := gb200) (o := .cells #[.int .i64 a2_0, .int .i64 a2_1, .int .i64 a2_2] 25 (0, 0)) (bup BK200.out) hb)
  replace HB := Ae_q (bT_q m0_q hb)
  (try clear hb)
  (try clear hb2)
  (try clear hk)
  (try clear hi)
  (try clear ho0)
  refine hK.out _ _ ⟨(bC_q BK200.out 0).trans rfl, (bC_q BK200.out 1).trans rfl, (bC_q BK200.out 2).trans rfl⟩ (fun hHeld => ?_)
  clear hK K
  refine nJ_q ?_
  refine one_ (i := 3) (N := some 27) #[true, true, true, true, true, false, false, false] rfl rfl (one_of HT_.out m8_q) (by decide) (fun K hK => ?_)
  refine goes_ Try.func13 m8_q rfl #[.slice A1 l1.length c1] (by rfl) rfl rfl m1_q ?_
  with_reducible refine (laws_toIntS.calls k _ _ l1 t205 _ ?side1 ?side2 A11.out).mono ?_
  (case side1 => exact m30_q)
  (case side2 => exact m46_q)
  rintro e w' ⟨v206, rfl, ho0, hb⟩
  refine ⟨_, rfl, ?_⟩
  replace HO204 := Ae_q (Kd.S_elder' m3_q (rB_q ho0) hb)
  have HO207 := Ae_q (rL_q ho0 (bZ_q m0_q))
  replace BK200 := Ae_q (bB_q (g := gb200) (o := .cells #[.int .i64 a2_0, .int .i64 a2_1, .int .i64 a2_2] 25 (0, 0)) (bup BK200.out) hb)
  replace HB := Ae_q (bT_q m0_q hb)
  (try clear hb)
  (try clear hb2)
  (try clear hk)
  (try clear hi)
  (try clear ho0)
  refine hK.out _ _ ⟨(bC_q BK200.out 0).trans rfl, (bC_q BK200.out 1).trans rfl, (bC_q BK200.out 2).trans rfl⟩ (fun hHeld => ?_)
  clear hK K
  refine nJ_q ?_
  refine one_ (i := 5) (N := some 29) #[true, true, true, true, true, true, false, false] rfl rfl (one_of HT_.out m8_q) (by decide) (fun K hK => ?_)
  refine goes_ Try.func14 m8_q rfl #[.agg #[.int .i64 a2_0, .int .i64 a2_1, .int .i64 a2_2]] (by rfl) rfl rfl m1_q ?_
  with_reducible refine (laws_toOutage.calls a2_0 a2_1 a2_2 t208 t209 t210 _ A12.out).mono ?_
  rintro e w' ⟨rfl, hb⟩
  refine ⟨_, rfl, ?_⟩
  replace HO204 := Ae_q (Kd.S_below m3_q hb)
  replace HO207 := Ae_q (rO_q (rup HO207.out) hb)
  replace BK200 := Ae_q (bB_q (g := gb200) (o := .cells #[.int .i64 a2_0, .int .i64 a2_1, .int .i64 a2_2] 25 (0, 0)) (bup BK200.out) hb)
  replace HB := Ae_q (bT_q m0_q hb)
  (try clear hb)
  (try clear hb2)
  (try clear hk)
  (try clear hi)
  obtain ⟨Ao135, co135, eo135⟩ := Kd.S_slice HO204.out
  (first | subst eo135 | (injection eo135 with f1_ f2_ f3_; have f4_ := f1_.symm; have f5_ := f3_.symm; clear f1_ f2_ f3_; subst f4_; subst f5_))
  obtain ⟨Ao136, co136, eo136⟩ := rS_q HO207.out
  (first | subst eo136 | (injection eo136 with f1_ f2_ f3_; have f4_ := f1_.symm; have f5_ := f3_.symm; clear f1_ f2_ f3_; subst f4_; subst f5_))
  refine hK.out _ _ ⟨(bC_q BK200.out 0).trans rfl, (bC_q BK200.out 1).trans rfl, (bC_q BK200.out 2).trans rfl⟩ (fun hHeld => ?_)
  clear hK K
  refine nJ_q ?_
  refine one_ (i := 6) (N := some 30) #[true, true, true, true, true, true, true, false] rfl rfl (one_of HT_.out m8_q) (by decide) (fun K hK => ?_)
  refine goes_ Try.func11 m8_q rfl #[.slice Ao135 t202.length co135, .slice Ao136 t205.length co136, .agg #[.int .i64 t208, .int .i64 t209, .int .i64 t210]] (by rfl) rfl rfl m1_q ?_
  with_reducible refine (spec_OutageHits.calls k _ _ t202 _ _ t205 t208 t209 t210 t211 _ ?side1 ?side2 ?side3 ?side4 A13.out).mono ?_
  (case side1 => exact m28_q)
  (case side2 => exact m60_q)
  (case side3 => exact m67_q)
  (case side4 => exact (rR_q HO207.out).2.1)
  rintro e w' ⟨v212, rfl, ho0, hb⟩
  refine ⟨_, rfl, ?_⟩
  replace HO204 := Ae_q (Kd.S_elder' m3_q (rB_q ho0) hb)
  have HO213 := Ae_q (rL_q (rW_q ho0 (rT_q (rup HO207.out))) (bZ_q m0_q))
  replace HO207 := Ae_q (rE_q (rup HO207.out) (rB_q ho0) hb)
  replace BK200 := Ae_q (bB_q (g := gb200) (o := .cells #[.int .i64 a2_0, .int .i64 a2_1, .int .i64 a2_2] 25 (0, 0)) (bup BK200.out) hb)
  replace HB := Ae_q (bT_q m0_q hb)
  (try clear hb)
  (try clear hb2)
  (try clear hk)
  (try clear hi)
  (try clear ho0)
  refine hK.out _ _ ⟨(bC_q BK200.out 0).trans rfl, (bC_q BK200.out 1).trans rfl, (bC_q BK200.out 2).trans rfl⟩ (fun hHeld => ?_)
  clear hK K
  refine nJ_q ?_
  refine pJ HT_ 7 8 rfl rfl ?_
  refine done_ (done_of HT_.out m8_q) ?_
  try go_wp2_with (first | ((with_reducible refine gC_q (f := 12) rfl ?_); (first | (refine gL_q (some 32) rfl rfl Try.func12 m8_q rfl #[.slice A0 l0.length c0] rfl m1_q ?_; (with_reducible refine (laws_toStepS.calls k _ _ l0 t214 _ ?side1 ?side2 A14.out).mono ?_); (case side1 => exact m25_q); (case side2 => exact m39_q); rintro e w' ⟨v215, rfl, ho0, hb⟩; refine ⟨_, rfl, ?_⟩; have HO216 := Ae_q (Kd.S_lower (Kd.S_new' (Kd.S_new' (Kd.S_new' ho0 (Kd.S_lt m3_q)) (rT_q (rup HO207.out))) (rT_q (rup HO213.out))) (bZ_q m0_q)); replace HO204 := Ae_q (Kd.S_elder' m3_q (Kd.S_base ho0) hb); replace HO207 := Ae_q (rO_q (rup HO207.out) hb); replace HO213 := Ae_q (rO_q (rup HO213.out) hb); replace BK200 := Ae_q (bB_q (g := gb200) (o := .cells #[.int .i64 a2_0, .int .i64 a2_1, .int .i64 a2_2] 25 (0, 0)) (bup BK200.out) hb); replace HB := Ae_q (bT_q m0_q hb); (try clear hb); (try clear hb2); (try clear hk); (try clear hi); (try clear ho0)) | (refine gL_q (some 46) rfl rfl Try.func12 m8_q rfl #[.slice A0 l0.length c0] rfl m1_q ?_; (with_reducible refine (laws_toStepS.calls k _ _ l0 t227 _ ?side1 ?side2 A20.out).mono ?_); (case side1 => exact m72_q); (case side2 => exact m39_q); rintro e w' ⟨v228, rfl, ho0, hb⟩; refine ⟨_, rfl, ?_⟩; have HO229 := Ae_q (Kd.S_lower (Kd.S_new' (Kd.S_new' (Kd.S_new' (Kd.S_new' (Kd.S_new' (Kd.S_new' ho0 (Kd.S_lt m3_q)) (rT_q (rup HO207.out))) (rT_q (rup HO213.out))) (Kd.S_lt m7_q)) (rT_q (rup HO219.out))) (rT_q (rup HO225.out))) (bZ_q m0_q)); replace HO204 := Ae_q (Kd.S_elder' m3_q (Kd.S_base ho0) hb); replace HO207 := Ae_q (rO_q (rup HO207.out) hb); replace HO213 := Ae_q (rO_q (rup HO213.out) hb); replace HO216 := Ae_q (Kd.S_elder' m7_q (Kd.S_base ho0) hb); replace HO219 := Ae_q (rO_q (rup HO219.out) hb); replace HO225 := Ae_q (rO_q (rup HO225.out) hb); replace BK200 := Ae_q (bB_q (g := gb200) (o := .cells #[.int .i64 a2_0, .int .i64 a2_1, .int .i64 a2_2] 25 (0, 0)) (bup BK200.out) hb); replace HB := Ae_q (bT_q m0_q hb); (try clear hb); (try clear hb2); (try clear hk); (try clear hi); (try clear ho0); obtain ⟨Ao148, co148, eo148⟩ := Kd.S_slice HO229.out; subst eo148))) | ((with_reducible refine gC_q (f := 13) rfl ?_); refine gL_q (some 34) rfl rfl Try.func13 m8_q rfl #[.slice A1 l1.length c1] rfl m1_q ?_; (with_reducible refine (laws_toIntS.calls k _ _ l1 t217 _ ?side1 ?side2 A15.out).mono ?_); (case side1 => exact m30_q); (case side2 => exact m46_q); rintro e w139 ⟨v218, rfl, ho0, hb⟩; refine ⟨_, rfl, ?_⟩; replace HO204 := Ae_q (Kd.S_elder' m3_q (rB_q ho0) hb); replace HO216 := Ae_q (Kd.S_elder' m7_q (rB_q ho0) hb); have HO219 := Ae_q (rL_q (rW_q (rW_q ho0 (rT_q (rup HO207.out))) (rT_q (rup HO213.out))) (bZ_q m0_q)); replace HO207 := Ae_q (rE_q (rup HO207.out) (rB_q ho0) hb); replace HO213 := Ae_q (rE_q (rup HO213.out) (rB_q ho0) hb); replace BK200 := Ae_q (bB_q (g := gb200) (o := .cells #[.int .i64 a2_0, .int .i64 a2_1, .int .i64 a2_2] 25 (0, 0)) (bup BK200.out) hb); replace HB := Ae_q (bT_q m0_q hb); (try clear hb); (try clear hb2); (try clear hk); (try clear hi); (try clear ho0); have hcz140_0 : cI w139 gb200 0 a2_0 := cZ BK200 0 rfl; have hcz140_1 : cI w139 gb200 1 a2_1 := cZ BK200 1 rfl; have hcz140_2 : cI w139 gb200 2 a2_2 := cZ BK200 2 rfl; have hfz140_0 := bF_q BK200.out 0; have hfz140_1 := bF_q BK200.out 1; have hfz140_2 := bF_q BK200.out 2) | ((with_reducible refine gC_q (f := 14) rfl ?_); refine gL_q (some 38) rfl rfl Try.func14 m8_q rfl #[.agg #[.int .i64 a2_0, .int .i64 a2_1, .int .i64 a2_2]] rfl m1_q ?_; (with_reducible refine (laws_toOutage.calls a2_0 a2_1 a2_2 t220 t221 t222 _ A16.out).mono ?_); rintro e w' ⟨rfl, hb⟩; refine ⟨_, rfl, ?_⟩; replace HO204 := Ae_q (Kd.S_below m3_q hb); replace HO207 := Ae_q (rO_q (rup HO207.out) hb); replace HO213 := Ae_q (rO_q (rup HO213.out) hb); replace HO216 := Ae_q (Kd.S_below m7_q hb); replace HO219 := Ae_q (rO_q (rup HO219.out) hb); replace BK200 := Ae_q (bB_q (g := gb200) (o := .cells #[.int .i64 a2_0, .int .i64 a2_1, .int .i64 a2_2] 25 (0, 0)) (bup BK200.out) hb); replace HB := Ae_q (bT_q m0_q hb); (try clear hb); (try clear hb2); (try clear hk); (try clear hi); obtain ⟨Ao142, co142, eo142⟩ := Kd.S_slice HO216.out; subst eo142; obtain ⟨Ao143, co143, eo143⟩ := rS_q HO219.out; subst eo143) | ((with_reducible refine gC_q (f := 15) rfl ?_); refine gL_q (some 39) rfl rfl Try.func15 m8_q rfl #[.slice Ao142 t214.length co142, .slice Ao143 t217.length co143, .agg #[.int .i64 t220, .int .i64 t221, .int .i64 t222]] rfl m1_q ?_; (with_reducible refine (impl_OutageHits.calls k _ _ t214 _ _ t217 t220 t221 t222 t223 _ ?side1 ?side2 ?side3 ?side4 A17.out).mono ?_); (case side1 => exact m19_q); (case side2 => exact m47_q); (case side3 => exact m51_q); (case side4 => exact m56_q); rintro e w' ⟨v224, rfl, ho0, hb⟩; refine ⟨_, rfl, ?_⟩; replace HO204 := Ae_q (Kd.S_elder' m3_q (rB_q ho0) hb); replace HO216 := Ae_q (Kd.S_elder' m7_q (rB_q ho0) hb); have HO225 := Ae_q (rL_q (rW_q (rW_q (rW_q ho0 (rT_q (rup HO207.out))) (rT_q (rup HO213.out))) (rT_q (rup HO219.out))) (bZ_q m0_q)); replace HO207 := Ae_q (rE_q (rup HO207.out) (rB_q ho0) hb); replace HO213 := Ae_q (rE_q (rup HO213.out) (rB_q ho0) hb); replace HO219 := Ae_q (rE_q (rup HO219.out) (rB_q ho0) hb); replace BK200 := Ae_q (bB_q (g := gb200) (o := .cells #[.int .i64 a2_0, .int .i64 a2_1, .int .i64 a2_2] 25 (0, 0)) (bup BK200.out) hb); replace HB := Ae_q (bT_q m0_q hb); (try clear hb); (try clear hb2); (try clear hk); (try clear hi); (try clear ho0); obtain ⟨Ao145, co145, eo145⟩ := rS_q HO225.out; subst eo145; obtain ⟨Ao146, co146, eo146⟩ := rS_q HO213.out; subst eo146) | ((with_reducible refine gC_q (f := 16) rfl ?_); refine gL_q (some 42) rfl rfl Try.func16 m8_q rfl #[.slice Ao145 t223.length co145, .slice Ao146 t211.length co146] rfl m1_q ?_; (with_reducible refine (laws_eqIntS.calls k _ _ t223 _ _ t211 true _ ?side1 ?side2 ?side3 ?side4 A18.out).mono ?_); (case side1 => exact m57_q); (case side2 => exact m64_q); (case side3 => exact m58_q); (case side4 => exact m65_q); rintro e w' ⟨rfl, ⟨nd, rfl⟩⟩; refine ⟨_, rfl, ?_⟩) | ((with_reducible refine gC_q (f := 17) rfl ?_); refine gL_q (some 47) rfl rfl Try.func17 m8_q rfl #[.slice Ao142 t214.length co142, .slice Ao148 t227.length co148] rfl m1_q ?_; (with_reducible refine (laws_eqStepS.calls k _ _ t214 _ _ t227 false _ ?side1 ?side2 ?side3 ?side4 A21.out).mono ?_); (case side1 => exact m19_q); (case side2 => exact m47_q); (case side3 => exact m31_q); (case side4 => exact (Kd.S_reads' HO229.out).2.1); rintro e w' ⟨rfl, hb⟩; refine ⟨_, rfl, ?_⟩; replace HO204 := Ae_q (Kd.S_below m3_q hb); replace HO207 := Ae_q (rO_q (rup HO207.out) hb); replace HO213 := Ae_q (rO_q (rup HO213.out) hb); replace HO216 := Ae_q (Kd.S_below m7_q hb); replace HO219 := Ae_q (rO_q (rup HO219.out) hb); replace HO225 := Ae_q (rO_q (rup HO225.out) hb); replace HO229 := Ae_q (Kd.S_below m32_q hb); replace BK200 := Ae_q (bB_q (g := gb200) (o := .cells #[.int .i64 a2_0, .int .i64 a2_1, .int .i64 a2_2] 25 (0, 0)) (bup BK200.out) hb); replace HB := Ae_q (bT_q m0_q hb); (try clear hb); (try clear hb2); (try clear hk); (try clear hi)) | (go_at_call 18; (refine (laws_markStepS.calls _ _ t214 1 _ w _ (bel HB.out) (Kd.S_R (Kd.S_bound m7_q)) rfl).mono ?_); rintro e w_mk ⟨rfl, hb, hkp⟩; have b0_ := Ae_q (mk_blk (bup BK200.out) hkp (fun hp => mk_tyb (bup BK200.out) hp.2.2.2 (by decide))); have n0_ := Ae_q (mk_keep rfl (rup HO207.out) hkp (fun k e hp => by first | exact hp.1.2 e.symm | exact hp.1.1.2 e.symm | exact hp.1.1.1.2 e.symm | exact hp.1.1.1.1.2 e.symm | exact hp.1.1.1.1.1.2 e.symm | exact hp.1.1.1.1.1.1.2 e.symm | exact hp.1.1.1.1.1.1.1.2 e.symm | exact hp.1.1.1.1.1.1.1.1.2 e.symm | exact hp.1.1.1.1.1.1.1.1.1.2 e.symm | exact hp.1 e.symm | exact mk_ty (rup HO207.out) e hp.2.2.2 (by decide))); have n1_ := Ae_q (mk_keep rfl (rup HO213.out) hkp (fun k e hp => by first | exact hp.1.2 e.symm | exact hp.1.1.2 e.symm | exact hp.1.1.1.2 e.symm | exact hp.1.1.1.1.2 e.symm | exact hp.1.1.1.1.1.2 e.symm | exact hp.1.1.1.1.1.1.2 e.symm | exact hp.1.1.1.1.1.1.1.2 e.symm | exact hp.1.1.1.1.1.1.1.1.2 e.symm | exact hp.1.1.1.1.1.1.1.1.1.2 e.symm | exact hp.1 e.symm | exact mk_ty (rup HO213.out) e hp.2.2.2 (by decide))); have n2_ := Ae_q (mk_keep rfl (rup HO219.out) hkp (fun k e hp => by first | exact hp.1.2 e.symm | exact hp.1.1.2 e.symm | exact hp.1.1.1.2 e.symm | exact hp.1.1.1.1.2 e.symm | exact hp.1.1.1.1.1.2 e.symm | exact hp.1.1.1.1.1.1.2 e.symm | exact hp.1.1.1.1.1.1.1.2 e.symm | exact hp.1.1.1.1.1.1.1.1.2 e.symm | exact hp.1.1.1.1.1.1.1.1.1.2 e.symm | exact hp.1 e.symm | exact mk_ty (rup HO219.out) e hp.2.2.2 (by decide))); have n3_ := Ae_q (mk_keep rfl (rup HO225.out) hkp (fun k e hp => by first | exact hp.1.2 e.symm | exact hp.1.1.2 e.symm | exact hp.1.1.1.2 e.symm | exact hp.1.1.1.1.2 e.symm | exact hp.1.1.1.1.1.2 e.symm | exact hp.1.1.1.1.1.1.2 e.symm | exact hp.1.1.1.1.1.1.1.2 e.symm | exact hp.1.1.1.1.1.1.1.1.2 e.symm | exact hp.1.1.1.1.1.1.1.1.1.2 e.symm | exact hp.1 e.symm | exact mk_ty (rup HO225.out) e hp.2.2.2 (by decide))); have nB_ := Ae_q hb; clear HO207; clear HO213; clear HO219; clear HO225; clear HO204; clear HO216; clear HO229; clear HB; clear BK200; have BK200 := b0_; clear b0_; have HO207 := n0_; have HO213 := n1_; have HO219 := n2_; have HO225 := n3_; have HB := nB_; clear nB_; clear n0_ n1_ n2_ n3_; clear hb; clear hkp))
  go_ret
  exact ⟨m2_q, m0_q⟩
 subst c22
 have H1 : ((laws_toIntS.f k l1).bind fun t231 => ((laws_eqIntS.f k t217 t231).bind fun t234 => (if t234 = true then ((laws_markIntS.f k t217 (markStepF t214 1)).bind fun bt235 => (if bt235.1 < 0 then (laws_FnExactOutageHits.j0 k l0 l1 t211 t223 true a2_0 a2_1 a2_2) else ((laws_eqIntS.f k t223 t211).bind fun t237 => (laws_FnExactOutageHits.j0 k l0 l1 t211 t223 (!t237) a2_0 a2_1 a2_2)))) else (some false)))) = some r := by rw [if_pos rfl] at H; exact H
 clear H
 have H := H1
 clear H1
 replace H := oB_q.mp H
 obtain ⟨t231, A230, H⟩ := H
 replace H : ((laws_eqIntS.f k t217 t231).bind fun t234 => (if t234 = true then ((laws_markIntS.f k t217 (markStepF t214 1)).bind fun bt235 => (if bt235.1 < 0 then (laws_FnExactOutageHits.j0 k l0 l1 t211 t223 true a2_0 a2_1 a2_2) else ((laws_eqIntS.f k t223 t211).bind fun t237 => (laws_FnExactOutageHits.j0 k l0 l1 t211 t223 (!t237) a2_0 a2_1 a2_2)))) else (some false))) = some r := H
 have A23 := Ae_q A230
 clear A230
 replace H := oB_q.mp H
 obtain ⟨t234, A240, H⟩ := H
 replace H : (if t234 = true then ((laws_markIntS.f k t217 (markStepF t214 1)).bind fun bt235 => (if bt235.1 < 0 then (laws_FnExactOutageHits.j0 k l0 l1 t211 t223 true a2_0 a2_1 a2_2) else ((laws_eqIntS.f k t223 t211).bind fun t237 => (laws_FnExactOutageHits.j0 k l0 l1 t211 t223 (!t237) a2_0 a2_1 a2_2)))) else (some false)) = some r := H
 have A24 := Ae_q A240
 clear A240
 by_cases c25 : t234 = true
 rotate_left
 ·replace c25 := fM_q.mpr c25
  subst c25
  have H1 : (some false) = some r := by rw [if_neg (show ¬ (false = true) by decide)] at H; exact H
  clear H
  have H := H1
  clear H1
  obtain rfl := oI_q H
  go_enter Try.func3, Try.ntmps3
  try go_wp2_with (first | ((with_reducible refine gD_q (N := 5) rfl ?_); refine bE_q ?hg (N := 5) ?hd (cs := #[.int .i64 a2_0, .int .i64 a2_1, .int .i64 a2_2]) (t := 25) ?hr ?_; (case hd => rfl); (case hg => rfl); (case hr => exact m9_q); intro gb200 hg w' hbox hb; have BK200 := Ae_q (hbox); have GW200 := Ae_q ((by rw [hg]; exact (bZ_q (bel HB.out)) : w.heap.size ≤ gb200)); have GE200 := Ae_q ((by rw [hg]; exact (bZ_q (bel HB.out)) : w.heap.size ≤ gb200)); replace HB := Ae_q (bT_q (bel HB.out) hb); clear hb hbox hg) | ((with_reducible refine gC_q (f := 10) rfl ?_); refine gL_q (some 21) rfl rfl Try.func10 m8_q rfl #[.slice A0 l0.length c0, .int .i64 1048576] rfl m1_q ?_; (with_reducible refine (laws_szStepS.calls k _ _ l0 1048576 t201 _ ?side1 ?side2 A6.out).mono ?_); (case side1 => exact m25_q); (case side2 => exact m39_q); rintro e w107 ⟨rfl, hb⟩; refine ⟨_, rfl, ?_⟩; replace BK200 := Ae_q (bB_q (g := gb200) (o := .cells #[.int .i64 a2_0, .int .i64 a2_1, .int .i64 a2_2] 25 (0, 0)) (bup BK200.out) hb); replace HB := Ae_q (bT_q m0_q hb); (try clear hb); (try clear hb2); (try clear hk); (try clear hi)))
  replace BK200 := Ae_q (bW_q BK200.out)
  replace HB := Ae_q (bD_q HB.out)
  refine start_ (n := 8) (S := fun w' => w'.cell? ⟨gb200, 0, none⟩ = some (.int .i64 a2_0) ∧ w'.cell? ⟨gb200, 1, none⟩ = some (.int .i64 a2_1) ∧ w'.cell? ⟨gb200, 2, none⟩ = some (.int .i64 a2_2)) (ds := []) #[false, false, false, false, false, false, false, false] m8_q rfl rfl ⟨(bC_q BK200.out 0).trans rfl, (bC_q BK200.out 1).trans rfl, (bC_q BK200.out 2).trans rfl⟩ (fun hHeld => ?_); refine with_tabW laws_FnExactOutageHits.tab7 laws_FnExactOutageHits.bits7 (fun HT_ HW_ => ?_)
  generalize w107.drew = w108 at BK200 HB hHeld ⊢
  refine pJ HT_ 0 24 rfl rfl ?_
  refine pJ HT_ 2 26 rfl rfl ?_
  refine take_ (i := 4) (N := some 28) (v := ?_) (a' := ?_) #[true, false, true, false, true, false, false, false] rfl rfl (take_ofW HT_.out HW_.out m8_q) (fun _ _ _ h => h) (Or.inl ⟨by rfl, ?_⟩) hHeld ?_ ?_
  rotate_left
  ·rintro w' ⟨s0, s1, s2⟩
   go_simp
   with_reducible rfl
  rotate_left
  ·simp only [pS_q]
   rfl
  refine one_ (i := 1) (N := some 25) #[true, true, true, false, true, false, false, false] rfl rfl (one_of HT_.out m8_q) (by decide) (fun K hK => ?_)
  refine goes_ Try.func12 m8_q rfl #[.slice A0 l0.length c0] (by rfl) rfl rfl m1_q ?_
  with_reducible refine (laws_toStepS.calls k _ _ l0 t202 _ ?side1 ?side2 A10.out).mono ?_
  (case side1 => exact m25_q)
  (case side2 => exact m39_q)
  rintro e w' ⟨v203, rfl, ho0, hb⟩
  refine ⟨_, rfl, ?_⟩
  have HO204 := Ae_q (Kd.S_lower ho0 (bZ_q m0_q))
  replace BK200 := Ae_q (bB_q (g := gb200) (o := .cells #[.int .i64 a2_0, .int .i64 a2_1, .int .i64 a2_2] 25 (0, 0)) (bup BK200.out) hb)
  replace HB := Ae_q (bT_q m0_q hb)
  (try clear hb)
  (try clear hb2)
  (try clear hk)
  (try clear hi)
  (try clear ho0)
  refine hK.out _ _ ⟨(bC_q BK200.out 0).trans rfl, (bC_q BK200.out 1).trans rfl, (bC_q BK200.out 2).trans rfl⟩ (fun hHeld => ?_)
  clear hK K
  refine nJ_q ?_
  refine one_ (i := 3) (N := some 27) #[true, true, true, true, true, false, false, false] rfl rfl (one_of HT_.out m8_q) (by decide) (fun K hK => ?_)
  refine goes_ Try.func13 m8_q rfl #[.slice A1 l1.length c1] (by rfl) rfl rfl m1_q ?_
  with_reducible refine (laws_toIntS.calls k _ _ l1 t205 _ ?side1 ?side2 A11.out).mono ?_
  (case side1 => exact m30_q)
  (case side2 => exact m46_q)
  rintro e w' ⟨v206, rfl, ho0, hb⟩
  refine ⟨_, rfl, ?_⟩
  replace HO204 := Ae_q (Kd.S_elder' m3_q (rB_q ho0) hb)
  have HO207 := Ae_q (rL_q ho0 (bZ_q m0_q))
  replace BK200 := Ae_q (bB_q (g := gb200) (o := .cells #[.int .i64 a2_0, .int .i64 a2_1, .int .i64 a2_2] 25 (0, 0)) (bup BK200.out) hb)
  replace HB := Ae_q (bT_q m0_q hb)
  (try clear hb)
  (try clear hb2)
  (try clear hk)
  (try clear hi)
  (try clear ho0)
  refine hK.out _ _ ⟨(bC_q BK200.out 0).trans rfl, (bC_q BK200.out 1).trans rfl, (bC_q BK200.out 2).trans rfl⟩ (fun hHeld => ?_)
  clear hK K
  refine nJ_q ?_
  refine one_ (i := 5) (N := some 29) #[true, true, true, true, true, true, false, false] rfl rfl (one_of HT_.out m8_q) (by decide) (fun K hK => ?_)
  refine goes_ Try.func14 m8_q rfl #[.agg #[.int .i64 a2_0, .int .i64 a2_1, .int .i64 a2_2]] (by rfl) rfl rfl m1_q ?_
  with_reducible refine (laws_toOutage.calls a2_0 a2_1 a2_2 t208 t209 t210 _ A12.out).mono ?_
  rintro e w' ⟨rfl, hb⟩
  refine ⟨_, rfl, ?_⟩
  replace HO204 := Ae_q (Kd.S_below m3_q hb)
  replace HO207 := Ae_q (rO_q (rup HO207.out) hb)
  replace BK200 := Ae_q (bB_q (g := gb200) (o := .cells #[.int .i64 a2_0, .int .i64 a2_1, .int .i64 a2_2] 25 (0, 0)) (bup BK200.out) hb)
  replace HB := Ae_q (bT_q m0_q hb)
  (try clear hb)
  (try clear hb2)
  (try clear hk)
  (try clear hi)
  obtain ⟨Ao112, co112, eo112⟩ := Kd.S_slice HO204.out
  (first | subst eo112 | (injection eo112 with f1_ f2_ f3_; have f4_ := f1_.symm; have f5_ := f3_.symm; clear f1_ f2_ f3_; subst f4_; subst f5_))
  obtain ⟨Ao113, co113, eo113⟩ := rS_q HO207.out
  (first | subst eo113 | (injection eo113 with f1_ f2_ f3_; have f4_ := f1_.symm; have f5_ := f3_.symm; clear f1_ f2_ f3_; subst f4_; subst f5_))
  refine hK.out _ _ ⟨(bC_q BK200.out 0).trans rfl, (bC_q BK200.out 1).trans rfl, (bC_q BK200.out 2).trans rfl⟩ (fun hHeld => ?_)
  clear hK K
  refine nJ_q ?_
  refine one_ (i := 6) (N := some 30) #[true, true, true, true, true, true, true, false] rfl rfl (one_of HT_.out m8_q) (by decide) (fun K hK => ?_)
  refine goes_ Try.func11 m8_q rfl #[.slice Ao112 t202.length co112, .slice Ao113 t205.length co113, .agg #[.int .i64 t208, .int .i64 t209, .int .i64 t210]] (by rfl) rfl rfl m1_q ?_
  with_reducible refine (spec_OutageHits.calls k _ _ t202 _ _ t205 t208 t209 t210 t211 _ ?side1 ?side2 ?side3 ?side4 A13.out).mono ?_
  (case side1 => exact m28_q)
  (case side2 => exact m60_q)
  (case side3 => exact m67_q)
  (case side4 => exact (rR_q HO207.out).2.1)
  rintro e w' ⟨v212, rfl, ho0, hb⟩
  refine ⟨_, rfl, ?_⟩
  replace HO204 := Ae_q (Kd.S_elder' m3_q (rB_q ho0) hb)
  have HO213 := Ae_q (rL_q (rW_q ho0 (rT_q (rup HO207.out))) (bZ_q m0_q))
  replace HO207 := Ae_q (rE_q (rup HO207.out) (rB_q ho0) hb)
  replace BK200 := Ae_q (bB_q (g := gb200) (o := .cells #[.int .i64 a2_0, .int .i64 a2_1, .int .i64 a2_2] 25 (0, 0)) (bup BK200.out) hb)
  replace HB := Ae_q (bT_q m0_q hb)
  (try clear hb)
  (try clear hb2)
  (try clear hk)
  (try clear hi)
  (try clear ho0)
  refine hK.out _ _ ⟨(bC_q BK200.out 0).trans rfl, (bC_q BK200.out 1).trans rfl, (bC_q BK200.out 2).trans rfl⟩ (fun hHeld => ?_)
  clear hK K
  refine nJ_q ?_
  refine pJ HT_ 7 8 rfl rfl ?_
  refine done_ (done_of HT_.out m8_q) ?_
  try go_wp2_with (first | ((with_reducible refine gC_q (f := 12) rfl ?_); (first | (refine gL_q (some 32) rfl rfl Try.func12 m8_q rfl #[.slice A0 l0.length c0] rfl m1_q ?_; (with_reducible refine (laws_toStepS.calls k _ _ l0 t214 _ ?side1 ?side2 A14.out).mono ?_); (case side1 => exact m25_q); (case side2 => exact m39_q); rintro e w' ⟨v215, rfl, ho0, hb⟩; refine ⟨_, rfl, ?_⟩; have HO216 := Ae_q (Kd.S_lower (Kd.S_new' (Kd.S_new' (Kd.S_new' ho0 (Kd.S_lt m3_q)) (rT_q (rup HO207.out))) (rT_q (rup HO213.out))) (bZ_q m0_q)); replace HO204 := Ae_q (Kd.S_elder' m3_q (Kd.S_base ho0) hb); replace HO207 := Ae_q (rO_q (rup HO207.out) hb); replace HO213 := Ae_q (rO_q (rup HO213.out) hb); replace BK200 := Ae_q (bB_q (g := gb200) (o := .cells #[.int .i64 a2_0, .int .i64 a2_1, .int .i64 a2_2] 25 (0, 0)) (bup BK200.out) hb); replace HB := Ae_q (bT_q m0_q hb); (try clear hb); (try clear hb2); (try clear hk); (try clear hi); (try clear ho0)) | (refine gL_q (some 46) rfl rfl Try.func12 m8_q rfl #[.slice A0 l0.length c0] rfl m1_q ?_; (with_reducible refine (laws_toStepS.calls k _ _ l0 t227 _ ?side1 ?side2 A20.out).mono ?_); (case side1 => exact m72_q); (case side2 => exact m39_q); rintro e w' ⟨v228, rfl, ho0, hb⟩; refine ⟨_, rfl, ?_⟩; have HO229 := Ae_q (Kd.S_lower (Kd.S_new' (Kd.S_new' (Kd.S_new' (Kd.S_new' (Kd.S_new' (Kd.S_new' ho0 (Kd.S_lt m3_q)) (rT_q (rup HO207.out))) (rT_q (rup HO213.out))) (Kd.S_lt m7_q)) (rT_q (rup HO219.out))) (rT_q (rup HO225.out))) (bZ_q m0_q)); replace HO204 := Ae_q (Kd.S_elder' m3_q (Kd.S_base ho0) hb); replace HO207 := Ae_q (rO_q (rup HO207.out) hb); replace HO213 := Ae_q (rO_q (rup HO213.out) hb); replace HO216 := Ae_q (Kd.S_elder' m7_q (Kd.S_base ho0) hb); replace HO219 := Ae_q (rO_q (rup HO219.out) hb); replace HO225 := Ae_q (rO_q (rup HO225.out) hb); replace BK200 := Ae_q (bB_q (g := gb200) (o := .cells #[.int .i64 a2_0, .int .i64 a2_1, .int .i64 a2_2] 25 (0, 0)) (bup BK200.out) hb); replace HB := Ae_q (bT_q m0_q hb); (try clear hb); (try clear hb2); (try clear hk); (try clear hi); (try clear ho0); obtain ⟨Ao125, co125, eo125⟩ := Kd.S_slice HO229.out; subst eo125))) | ((with_reducible refine gC_q (f := 13) rfl ?_); (first | (refine gL_q (some 34) rfl rfl Try.func13 m8_q rfl #[.slice A1 l1.length c1] rfl m1_q ?_; (with_reducible refine (laws_toIntS.calls k _ _ l1 t217 _ ?side1 ?side2 A15.out).mono ?_); (case side1 => exact m30_q); (case side2 => exact m46_q); rintro e w116 ⟨v218, rfl, ho0, hb⟩; refine ⟨_, rfl, ?_⟩; replace HO204 := Ae_q (Kd.S_elder' m3_q (rB_q ho0) hb); replace HO216 := Ae_q (Kd.S_elder' m7_q (rB_q ho0) hb); have HO219 := Ae_q (rL_q (rW_q (rW_q ho0 (rT_q (rup HO207.out))) (rT_q (rup HO213.out))) (bZ_q m0_q)); replace HO207 := Ae_q (rE_q (rup HO207.out) (rB_q ho0) hb); replace HO213 := Ae_q (rE_q (rup HO213.out) (rB_q ho0) hb); replace BK200 := Ae_q (bB_q (g := gb200) (o := .cells #[.int .i64 a2_0, .int .i64 a2_1, .int .i64 a2_2] 25 (0, 0)) (bup BK200.out) hb); replace HB := Ae_q (bT_q m0_q hb); (try clear hb); (try clear hb2); (try clear hk); (try clear hi); (try clear ho0); have hcz117_0 : cI w116 gb200 0 a2_0 := cZ BK200 0 rfl; have hcz117_1 : cI w116 gb200 1 a2_1 := cZ BK200 1 rfl; have hcz117_2 : cI w116 gb200 2 a2_2 := cZ BK200 2 rfl; have hfz117_0 := bF_q BK200.out 0; have hfz117_1 := bF_q BK200.out 1; have hfz117_2 := bF_q BK200.out 2) | (refine gL_q (some 51) rfl rfl Try.func13 m8_q rfl #[.slice A1 l1.length c1] rfl m1_q ?_; (with_reducible refine (laws_toIntS.calls k _ _ l1 t231 _ ?side1 ?side2 A23.out).mono ?_); (case side1 => exact m30_q); (case side2 => exact m46_q); rintro e w' ⟨v232, rfl, ho0, hb⟩; refine ⟨_, rfl, ?_⟩; replace HO204 := Ae_q (Kd.S_elder' m3_q (rB_q ho0) hb); replace HO216 := Ae_q (Kd.S_elder' m7_q (rB_q ho0) hb); replace HO229 := Ae_q (Kd.S_elder' m32_q (rB_q ho0) hb); have HO233 := Ae_q (rL_q (rW_q (rW_q (rW_q (rW_q ho0 (rT_q (rup HO207.out))) (rT_q (rup HO213.out))) (rT_q (rup HO219.out))) (rT_q (rup HO225.out))) (bZ_q m0_q)); replace HO207 := Ae_q (rE_q (rup HO207.out) (rB_q ho0) hb); replace HO213 := Ae_q (rE_q (rup HO213.out) (rB_q ho0) hb); replace HO219 := Ae_q (rE_q (rup HO219.out) (rB_q ho0) hb); replace HO225 := Ae_q (rE_q (rup HO225.out) (rB_q ho0) hb); replace BK200 := Ae_q (bB_q (g := gb200) (o := .cells #[.int .i64 a2_0, .int .i64 a2_1, .int .i64 a2_2] 25 (0, 0)) (bup BK200.out) hb); replace HB := Ae_q (bT_q m0_q hb); (try clear hb); (try clear hb2); (try clear hk); (try clear hi); (try clear ho0); obtain ⟨Ao128, co128, eo128⟩ := rS_q HO233.out; subst eo128))) | ((with_reducible refine gC_q (f := 14) rfl ?_); refine gL_q (some 38) rfl rfl Try.func14 m8_q rfl #[.agg #[.int .i64 a2_0, .int .i64 a2_1, .int .i64 a2_2]] rfl m1_q ?_; (with_reducible refine (laws_toOutage.calls a2_0 a2_1 a2_2 t220 t221 t222 _ A16.out).mono ?_); rintro e w' ⟨rfl, hb⟩; refine ⟨_, rfl, ?_⟩; replace HO204 := Ae_q (Kd.S_below m3_q hb); replace HO207 := Ae_q (rO_q (rup HO207.out) hb); replace HO213 := Ae_q (rO_q (rup HO213.out) hb); replace HO216 := Ae_q (Kd.S_below m7_q hb); replace HO219 := Ae_q (rO_q (rup HO219.out) hb); replace BK200 := Ae_q (bB_q (g := gb200) (o := .cells #[.int .i64 a2_0, .int .i64 a2_1, .int .i64 a2_2] 25 (0, 0)) (bup BK200.out) hb); replace HB := Ae_q (bT_q m0_q hb); (try clear hb); (try clear hb2); (try clear hk); (try clear hi); obtain ⟨Ao119, co119, eo119⟩ := Kd.S_slice HO216.out; subst eo119; obtain ⟨Ao120, co120, eo120⟩ := rS_q HO219.out; subst eo120) | ((with_reducible refine gC_q (f := 15) rfl ?_); refine gL_q (some 39) rfl rfl Try.func15 m8_q rfl #[.slice Ao119 t214.length co119, .slice Ao120 t217.length co120, .agg #[.int .i64 t220, .int .i64 t221, .int .i64 t222]] rfl m1_q ?_; (with_reducible refine (impl_OutageHits.calls k _ _ t214 _ _ t217 t220 t221 t222 t223 _ ?side1 ?side2 ?side3 ?side4 A17.out).mono ?_); (case side1 => exact m19_q); (case side2 => exact m47_q); (case side3 => exact m51_q); (case side4 => exact m56_q); rintro e w' ⟨v224, rfl, ho0, hb⟩; refine ⟨_, rfl, ?_⟩; replace HO204 := Ae_q (Kd.S_elder' m3_q (rB_q ho0) hb); replace HO216 := Ae_q (Kd.S_elder' m7_q (rB_q ho0) hb); have HO225 := Ae_q (rL_q (rW_q (rW_q (rW_q ho0 (rT_q (rup HO207.out))) (rT_q (rup HO213.out))) (rT_q (rup HO219.out))) (bZ_q m0_q)); replace HO207 := Ae_q (rE_q (rup HO207.out) (rB_q ho0) hb); replace HO213 := Ae_q (rE_q (rup HO213.out) (rB_q ho0) hb); replace HO219 := Ae_q (rE_q (rup HO219.out) (rB_q ho0) hb); replace BK200 := Ae_q (bB_q (g := gb200) (o := .cells #[.int .i64 a2_0, .int .i64 a2_1, .int .i64 a2_2] 25 (0, 0)) (bup BK200.out) hb); replace HB := Ae_q (bT_q m0_q hb); (try clear hb); (try clear hb2); (try clear hk); (try clear hi); (try clear ho0); obtain ⟨Ao122, co122, eo122⟩ := rS_q HO225.out; subst eo122; obtain ⟨Ao123, co123, eo123⟩ := rS_q HO213.out; subst eo123) | ((with_reducible refine gC_q (f := 16) rfl ?_); (first | (refine gL_q (some 42) rfl rfl Try.func16 m8_q rfl #[.slice Ao122 t223.length co122, .slice Ao123 t211.length co123] rfl m1_q ?_; (with_reducible refine (laws_eqIntS.calls k _ _ t223 _ _ t211 true _ ?side1 ?side2 ?side3 ?side4 A18.out).mono ?_); (case side1 => exact m57_q); (case side2 => exact m64_q); (case side3 => exact m58_q); (case side4 => exact m65_q)) | (refine gL_q (some 52) rfl rfl Try.func16 m8_q rfl #[.slice Ao120 t217.length co120, .slice Ao128 t231.length co128] rfl m1_q ?_; (with_reducible refine (laws_eqIntS.calls k _ _ t217 _ _ t231 false _ ?side1 ?side2 ?side3 ?side4 A24.out).mono ?_); (case side1 => exact m51_q); (case side2 => exact m56_q); (case side3 => exact cup (rR_q HO233.out).2.2); (case side4 => exact (rR_q HO233.out).2.1))); rintro e w' ⟨rfl, ⟨nd, rfl⟩⟩; refine ⟨_, rfl, ?_⟩) | ((with_reducible refine gC_q (f := 17) rfl ?_); refine gL_q (some 47) rfl rfl Try.func17 m8_q rfl #[.slice Ao119 t214.length co119, .slice Ao125 t227.length co125] rfl m1_q ?_; (with_reducible refine (laws_eqStepS.calls k _ _ t214 _ _ t227 true _ ?side1 ?side2 ?side3 ?side4 A21.out).mono ?_); (case side1 => exact m19_q); (case side2 => exact m47_q); (case side3 => exact m31_q); (case side4 => exact (Kd.S_reads' HO229.out).2.1); rintro e w' ⟨rfl, hb⟩; refine ⟨_, rfl, ?_⟩; replace HO204 := Ae_q (Kd.S_below m3_q hb); replace HO207 := Ae_q (rO_q (rup HO207.out) hb); replace HO213 := Ae_q (rO_q (rup HO213.out) hb); replace HO216 := Ae_q (Kd.S_below m7_q hb); replace HO219 := Ae_q (rO_q (rup HO219.out) hb); replace HO225 := Ae_q (rO_q (rup HO225.out) hb); replace HO229 := Ae_q (Kd.S_below m32_q hb); replace BK200 := Ae_q (bB_q (g := gb200) (o := .cells #[.int .i64 a2_0, .int .i64 a2_1, .int .i64 a2_2] 25 (0, 0)) (bup BK200.out) hb); replace HB := Ae_q (bT_q m0_q hb); (try clear hb); (try clear hb2); (try clear hk); (try clear hi)) | (go_at_call 18; (refine (laws_markStepS.calls _ _ t214 1 _ w _ (bel HB.out) (Kd.S_R (Kd.S_bound m7_q)) rfl).mono ?_); rintro e w_mk ⟨rfl, hb, hkp⟩; have b0_ := Ae_q (mk_blk (bup BK200.out) hkp (fun hp => mk_tyb (bup BK200.out) hp.2.2.2 (by decide))); have n0_ := Ae_q (mk_keep rfl (rup HO207.out) hkp (fun k e hp => by first | exact hp.1.2 e.symm | exact hp.1.1.2 e.symm | exact hp.1.1.1.2 e.symm | exact hp.1.1.1.1.2 e.symm | exact hp.1.1.1.1.1.2 e.symm | exact hp.1.1.1.1.1.1.2 e.symm | exact hp.1.1.1.1.1.1.1.2 e.symm | exact hp.1.1.1.1.1.1.1.1.2 e.symm | exact hp.1.1.1.1.1.1.1.1.1.2 e.symm | exact hp.1 e.symm | exact mk_ty (rup HO207.out) e hp.2.2.2 (by decide))); have n1_ := Ae_q (mk_keep rfl (rup HO213.out) hkp (fun k e hp => by first | exact hp.1.2 e.symm | exact hp.1.1.2 e.symm | exact hp.1.1.1.2 e.symm | exact hp.1.1.1.1.2 e.symm | exact hp.1.1.1.1.1.2 e.symm | exact hp.1.1.1.1.1.1.2 e.symm | exact hp.1.1.1.1.1.1.1.2 e.symm | exact hp.1.1.1.1.1.1.1.1.2 e.symm | exact hp.1.1.1.1.1.1.1.1.1.2 e.symm | exact hp.1 e.symm | exact mk_ty (rup HO213.out) e hp.2.2.2 (by decide))); have n2_ := Ae_q (mk_keep rfl (rup HO219.out) hkp (fun k e hp => by first | exact hp.1.2 e.symm | exact hp.1.1.2 e.symm | exact hp.1.1.1.2 e.symm | exact hp.1.1.1.1.2 e.symm | exact hp.1.1.1.1.1.2 e.symm | exact hp.1.1.1.1.1.1.2 e.symm | exact hp.1.1.1.1.1.1.1.2 e.symm | exact hp.1.1.1.1.1.1.1.1.2 e.symm | exact hp.1.1.1.1.1.1.1.1.1.2 e.symm | exact hp.1 e.symm | exact mk_ty (rup HO219.out) e hp.2.2.2 (by decide))); have n3_ := Ae_q (mk_keep rfl (rup HO225.out) hkp (fun k e hp => by first | exact hp.1.2 e.symm | exact hp.1.1.2 e.symm | exact hp.1.1.1.2 e.symm | exact hp.1.1.1.1.2 e.symm | exact hp.1.1.1.1.1.2 e.symm | exact hp.1.1.1.1.1.1.2 e.symm | exact hp.1.1.1.1.1.1.1.2 e.symm | exact hp.1.1.1.1.1.1.1.1.2 e.symm | exact hp.1.1.1.1.1.1.1.1.1.2 e.symm | exact hp.1 e.symm | exact mk_ty (rup HO225.out) e hp.2.2.2 (by decide))); have n4_ := Ae_q (mk_keep rfl (rup HO233.out) hkp (fun k e hp => by first | exact hp.1.2 e.symm | exact hp.1.1.2 e.symm | exact hp.1.1.1.2 e.symm | exact hp.1.1.1.1.2 e.symm | exact hp.1.1.1.1.1.2 e.symm | exact hp.1.1.1.1.1.1.2 e.symm | exact hp.1.1.1.1.1.1.1.2 e.symm | exact hp.1.1.1.1.1.1.1.1.2 e.symm | exact hp.1.1.1.1.1.1.1.1.1.2 e.symm | exact hp.1 e.symm | exact mk_ty (rup HO233.out) e hp.2.2.2 (by decide))); have nB_ := Ae_q hb; clear HO207; clear HO213; clear HO219; clear HO225; clear HO233; clear HO204; clear HO216; clear HO229; clear HB; clear BK200; have BK200 := b0_; clear b0_; have HO207 := n0_; have HO213 := n1_; have HO219 := n2_; have HO225 := n3_; have HO233 := n4_; have HB := nB_; clear nB_; clear n0_ n1_ n2_ n3_ n4_; clear hb; clear hkp))
  go_ret
  exact ⟨m2_q, m0_q⟩
 subst c25
 have H1 : ((laws_markIntS.f k t217 (markStepF t214 1)).bind fun bt235 => (if bt235.1 < 0 then (laws_FnExactOutageHits.j0 k l0 l1 t211 t223 true a2_0 a2_1 a2_2) else ((laws_eqIntS.f k t223 t211).bind fun t237 => (laws_FnExactOutageHits.j0 k l0 l1 t211 t223 (!t237) a2_0 a2_1 a2_2)))) = some r := by rw [if_pos rfl] at H; exact H
 clear H
 have H := H1
 clear H1
 replace H := oB_q.mp H
 obtain ⟨⟨t235, t236⟩, A260, H⟩ := H
 replace H : (if t235 < 0 then (laws_FnExactOutageHits.j0 k l0 l1 t211 t223 true a2_0 a2_1 a2_2) else ((laws_eqIntS.f k t223 t211).bind fun t237 => (laws_FnExactOutageHits.j0 k l0 l1 t211 t223 (!t237) a2_0 a2_1 a2_2))) = some r := H
 have A26 := Ae_q A260
 clear A260
 have HC27 := Ae_q H
 clear H
 go_enter Try.func3, Try.ntmps3
 try go_wp2_with (first | ((with_reducible refine gD_q (N := 5) rfl ?_); refine bE_q ?hg (N := 5) ?hd (cs := #[.int .i64 a2_0, .int .i64 a2_1, .int .i64 a2_2]) (t := 25) ?hr ?_; (case hd => rfl); (case hg => rfl); (case hr => exact m9_q); intro gb200 hg w' hbox hb; have BK200 := Ae_q (hbox); have GW200 := Ae_q ((by rw [hg]; exact (bZ_q (bel HB.out)) : w.heap.size ≤ gb200)); have GE200 := Ae_q ((by rw [hg]; exact (bZ_q (bel HB.out)) : w.heap.size ≤ gb200)); replace HB := Ae_q (bT_q (bel HB.out) hb); clear hb hbox hg) | ((with_reducible refine gC_q (f := 10) rfl ?_); refine gL_q (some 21) rfl rfl Try.func10 m8_q rfl #[.slice A0 l0.length c0, .int .i64 1048576] rfl m1_q ?_; (with_reducible refine (laws_szStepS.calls k _ _ l0 1048576 t201 _ ?side1 ?side2 A6.out).mono ?_); (case side1 => exact m25_q); (case side2 => exact m39_q); rintro e w29 ⟨rfl, hb⟩; refine ⟨_, rfl, ?_⟩; replace BK200 := Ae_q (bB_q (g := gb200) (o := .cells #[.int .i64 a2_0, .int .i64 a2_1, .int .i64 a2_2] 25 (0, 0)) (bup BK200.out) hb); replace HB := Ae_q (bT_q m0_q hb); (try clear hb); (try clear hb2); (try clear hk); (try clear hi)))
 replace BK200 := Ae_q (bW_q BK200.out)
 replace HB := Ae_q (bD_q HB.out)
 refine start_ (n := 8) (S := fun w' => w'.cell? ⟨gb200, 0, none⟩ = some (.int .i64 a2_0) ∧ w'.cell? ⟨gb200, 1, none⟩ = some (.int .i64 a2_1) ∧ w'.cell? ⟨gb200, 2, none⟩ = some (.int .i64 a2_2)) (ds := []) #[false, false, false, false, false, false, false, false] m8_q rfl rfl ⟨(bC_q BK200.out 0).trans rfl, (bC_q BK200.out 1).trans rfl, (bC_q BK200.out 2).trans rfl⟩ (fun hHeld => ?_); refine with_tabW laws_FnExactOutageHits.tab7 laws_FnExactOutageHits.bits7 (fun HT_ HW_ => ?_)
 generalize w29.drew = w30 at BK200 HB hHeld ⊢
 refine pJ HT_ 0 24 rfl rfl ?_
 refine pJ HT_ 2 26 rfl rfl ?_
 refine take_ (i := 4) (N := some 28) (v := ?_) (a' := ?_) #[true, false, true, false, true, false, false, false] rfl rfl (take_ofW HT_.out HW_.out m8_q) (fun _ _ _ h => h) (Or.inl ⟨by rfl, ?_⟩) hHeld ?_ ?_
 rotate_left
 ·rintro w' ⟨s0, s1, s2⟩
  go_simp
  with_reducible rfl
 rotate_left
 ·simp only [pS_q]
  rfl
 refine one_ (i := 1) (N := some 25) #[true, true, true, false, true, false, false, false] rfl rfl (one_of HT_.out m8_q) (by decide) (fun K hK => ?_)
 refine goes_ Try.func12 m8_q rfl #[.slice A0 l0.length c0] (by rfl) rfl rfl m1_q ?_
 with_reducible refine (laws_toStepS.calls k _ _ l0 t202 _ ?side1 ?side2 A10.out).mono ?_
 (case side1 => exact m25_q)
 (case side2 => exact m39_q)
 rintro e w' ⟨v203, rfl, ho0, hb⟩
 refine ⟨_, rfl, ?_⟩
 have HO204 := Ae_q (Kd.S_lower ho0 (bZ_q m0_q))
 replace BK200 := Ae_q (bB_q (g := gb200) (o := .cells #[.int .i64 a2_0, .int .i64 a2_1, .int .i64 a2_2] 25 (0, 0)) (bup BK200.out) hb)
 replace HB := Ae_q (bT_q m0_q hb)
 (try clear hb)
 (try clear hb2)
 (try clear hk)
 (try clear hi)
 (try clear ho0)
 refine hK.out _ _ ⟨(bC_q BK200.out 0).trans rfl, (bC_q BK200.out 1).trans rfl, (bC_q BK200.out 2).trans rfl⟩ (fun hHeld => ?_)
 clear hK K
 refine nJ_q ?_
 refine one_ (i := 3) (N := some 27) #[true, true, true, true, true, false, false, false] rfl rfl (one_of HT_.out m8_q) (by decide) (fun K hK => ?_)
 refine goes_ Try.func13 m8_q rfl #[.slice A1 l1.length c1] (by rfl) rfl rfl m1_q ?_
 with_reducible refine (laws_toIntS.calls k _ _ l1 t205 _ ?side1 ?side2 A11.out).mono ?_
 (case side1 => exact m30_q)
 (case side2 => exact m46_q)
 rintro e w' ⟨v206, rfl, ho0, hb⟩
 refine ⟨_, rfl, ?_⟩
 replace HO204 := Ae_q (Kd.S_elder' m3_q (rB_q ho0) hb)
 have HO207 := Ae_q (rL_q ho0 (bZ_q m0_q))
 replace BK200 := Ae_q (bB_q (g := gb200) (o := .cells #[.int .i64 a2_0, .int .i64 a2_1, .int .i64 a2_2] 25 (0, 0)) (bup BK200.out) hb)
 replace HB := Ae_q (bT_q m0_q hb)
 (try clear hb)
 (try clear hb2)
 (try clear hk)
 (try clear hi)
 (try clear ho0)
 refine hK.out _ _ ⟨(bC_q BK200.out 0).trans rfl, (bC_q BK200.out 1).trans rfl, (bC_q BK200.out 2).trans rfl⟩ (fun hHeld => ?_)
 clear hK K
 refine nJ_q ?_
 refine one_ (i := 5) (N := some 29) #[true, true, true, true, true, true, false, false] rfl rfl (one_of HT_.out m8_q) (by decide) (fun K hK => ?_)
 refine goes_ Try.func14 m8_q rfl #[.agg #[.int .i64 a2_0, .int .i64 a2_1, .int .i64 a2_2]] (by rfl) rfl rfl m1_q ?_
 with_reducible refine (laws_toOutage.calls a2_0 a2_1 a2_2 t208 t209 t210 _ A12.out).mono ?_
 rintro e w' ⟨rfl, hb⟩
 refine ⟨_, rfl, ?_⟩
 replace HO204 := Ae_q (Kd.S_below m3_q hb)
 replace HO207 := Ae_q (rO_q (rup HO207.out) hb)
 replace BK200 := Ae_q (bB_q (g := gb200) (o := .cells #[.int .i64 a2_0, .int .i64 a2_1, .int .i64 a2_2] 25 (0, 0)) (bup BK200.out) hb)
 replace HB := Ae_q (bT_q m0_q hb)
 (try clear hb)
 (try clear hb2)
 (try clear hk)
 (try clear hi)
 obtain ⟨Ao34, co34, eo34⟩ := Kd.S_slice HO204.out
 (first | subst eo34 | (injection eo34 with f1_ f2_ f3_; have f4_ := f1_.symm; have f5_ := f3_.symm; clear f1_ f2_ f3_; subst f4_; subst f5_))
 obtain ⟨Ao35, co35, eo35⟩ := rS_q HO207.out
 (first | subst eo35 | (injection eo35 with f1_ f2_ f3_; have f4_ := f1_.symm; have f5_ := f3_.symm; clear f1_ f2_ f3_; subst f4_; subst f5_))
 refine hK.out _ _ ⟨(bC_q BK200.out 0).trans rfl, (bC_q BK200.out 1).trans rfl, (bC_q BK200.out 2).trans rfl⟩ (fun hHeld => ?_)
 clear hK K
 refine nJ_q ?_
 refine one_ (i := 6) (N := some 30) #[true, true, true, true, true, true, true, false] rfl rfl (one_of HT_.out m8_q) (by decide) (fun K hK => ?_)
 refine goes_ Try.func11 m8_q rfl #[.slice Ao34 t202.length co34, .slice Ao35 t205.length co35, .agg #[.int .i64 t208, .int .i64 t209, .int .i64 t210]] (by rfl) rfl rfl m1_q ?_
 with_reducible refine (spec_OutageHits.calls k _ _ t202 _ _ t205 t208 t209 t210 t211 _ ?side1 ?side2 ?side3 ?side4 A13.out).mono ?_
 (case side1 => exact m28_q)
 (case side2 => exact m60_q)
 (case side3 => exact m67_q)
 (case side4 => exact (rR_q HO207.out).2.1)
 rintro e w' ⟨v212, rfl, ho0, hb⟩
 refine ⟨_, rfl, ?_⟩
 replace HO204 := Ae_q (Kd.S_elder' m3_q (rB_q ho0) hb)
 have HO213 := Ae_q (rL_q (rW_q ho0 (rT_q (rup HO207.out))) (bZ_q m0_q))
 replace HO207 := Ae_q (rE_q (rup HO207.out) (rB_q ho0) hb)
 replace BK200 := Ae_q (bB_q (g := gb200) (o := .cells #[.int .i64 a2_0, .int .i64 a2_1, .int .i64 a2_2] 25 (0, 0)) (bup BK200.out) hb)
 replace HB := Ae_q (bT_q m0_q hb)
 (try clear hb)
 (try clear hb2)
 (try clear hk)
 (try clear hi)
 (try clear ho0)
 refine hK.out _ _ ⟨(bC_q BK200.out 0).trans rfl, (bC_q BK200.out 1).trans rfl, (bC_q BK200.out 2).trans rfl⟩ (fun hHeld => ?_)
 clear hK K
 refine nJ_q ?_
 refine pJ HT_ 7 8 rfl rfl ?_
 refine done_ (done_of HT_.out m8_q) ?_
 go_upto_region 20 with (first | ((with_reducible refine gC_q (f := 12) rfl ?_); (first | (refine gL_q (some 32) rfl rfl Try.func12 m8_q rfl #[.slice A0 l0.length c0] rfl m1_q ?_; (with_reducible refine (laws_toStepS.calls k _ _ l0 t214 _ ?side1 ?side2 A14.out).mono ?_); (case side1 => exact m25_q); (case side2 => exact m39_q); rintro e w' ⟨v215, rfl, ho0, hb⟩; refine ⟨_, rfl, ?_⟩; have HO216 := Ae_q (Kd.S_lower (Kd.S_new' (Kd.S_new' (Kd.S_new' ho0 (Kd.S_lt m3_q)) (rT_q (rup HO207.out))) (rT_q (rup HO213.out))) (bZ_q m0_q)); replace HO204 := Ae_q (Kd.S_elder' m3_q (Kd.S_base ho0) hb); replace HO207 := Ae_q (rO_q (rup HO207.out) hb); replace HO213 := Ae_q (rO_q (rup HO213.out) hb); replace BK200 := Ae_q (bB_q (g := gb200) (o := .cells #[.int .i64 a2_0, .int .i64 a2_1, .int .i64 a2_2] 25 (0, 0)) (bup BK200.out) hb); replace HB := Ae_q (bT_q m0_q hb); (try clear hb); (try clear hb2); (try clear hk); (try clear hi); (try clear ho0)) | (refine gL_q (some 46) rfl rfl Try.func12 m8_q rfl #[.slice A0 l0.length c0] rfl m1_q ?_; (with_reducible refine (laws_toStepS.calls k _ _ l0 t227 _ ?side1 ?side2 A20.out).mono ?_); (case side1 => exact m72_q); (case side2 => exact m39_q); rintro e w' ⟨v228, rfl, ho0, hb⟩; refine ⟨_, rfl, ?_⟩; have HO229 := Ae_q (Kd.S_lower (Kd.S_new' (Kd.S_new' (Kd.S_new' (Kd.S_new' (Kd.S_new' (Kd.S_new' ho0 (Kd.S_lt m3_q)) (rT_q (rup HO207.out))) (rT_q (rup HO213.out))) (Kd.S_lt m7_q)) (rT_q (rup HO219.out))) (rT_q (rup HO225.out))) (bZ_q m0_q)); replace HO204 := Ae_q (Kd.S_elder' m3_q (Kd.S_base ho0) hb); replace HO207 := Ae_q (rO_q (rup HO207.out) hb); replace HO213 := Ae_q (rO_q (rup HO213.out) hb); replace HO216 := Ae_q (Kd.S_elder' m7_q (Kd.S_base ho0) hb); replace HO219 := Ae_q (rO_q (rup HO219.out) hb); replace HO225 := Ae_q (rO_q (rup HO225.out) hb); replace BK200 := Ae_q (bB_q (g := gb200) (o := .cells #[.int .i64 a2_0, .int .i64 a2_1, .int .i64 a2_2] 25 (0, 0)) (bup BK200.out) hb); replace HB := Ae_q (bT_q m0_q hb); (try clear hb); (try clear hb2); (try clear hk); (try clear hi); (try clear ho0); obtain ⟨Ao47, co47, eo47⟩ := Kd.S_slice HO229.out; subst eo47))) | ((with_reducible refine gC_q (f := 13) rfl ?_); (first | (refine gL_q (some 34) rfl rfl Try.func13 m8_q rfl #[.slice A1 l1.length c1] rfl m1_q ?_; (with_reducible refine (laws_toIntS.calls k _ _ l1 t217 _ ?side1 ?side2 A15.out).mono ?_); (case side1 => exact m30_q); (case side2 => exact m46_q); rintro e w38 ⟨v218, rfl, ho0, hb⟩; refine ⟨_, rfl, ?_⟩; replace HO204 := Ae_q (Kd.S_elder' m3_q (rB_q ho0) hb); replace HO216 := Ae_q (Kd.S_elder' m7_q (rB_q ho0) hb); have HO219 := Ae_q (rL_q (rW_q (rW_q ho0 (rT_q (rup HO207.out))) (rT_q (rup HO213.out))) (bZ_q m0_q)); replace HO207 := Ae_q (rE_q (rup HO207.out) (rB_q ho0) hb); replace HO213 := Ae_q (rE_q (rup HO213.out) (rB_q ho0) hb); replace BK200 := Ae_q (bB_q (g := gb200) (o := .cells #[.int .i64 a2_0, .int .i64 a2_1, .int .i64 a2_2] 25 (0, 0)) (bup BK200.out) hb); replace HB := Ae_q (bT_q m0_q hb); (try clear hb); (try clear hb2); (try clear hk); (try clear hi); (try clear ho0); have hcz39_0 : cI w38 gb200 0 a2_0 := cZ BK200 0 rfl; have hcz39_1 : cI w38 gb200 1 a2_1 := cZ BK200 1 rfl; have hcz39_2 : cI w38 gb200 2 a2_2 := cZ BK200 2 rfl; have hfz39_0 := bF_q BK200.out 0; have hfz39_1 := bF_q BK200.out 1; have hfz39_2 := bF_q BK200.out 2) | (refine gL_q (some 51) rfl rfl Try.func13 m8_q rfl #[.slice A1 l1.length c1] rfl m1_q ?_; (with_reducible refine (laws_toIntS.calls k _ _ l1 t231 _ ?side1 ?side2 A23.out).mono ?_); (case side1 => exact m30_q); (case side2 => exact m46_q); rintro e w' ⟨v232, rfl, ho0, hb⟩; refine ⟨_, rfl, ?_⟩; replace HO204 := Ae_q (Kd.S_elder' m3_q (rB_q ho0) hb); replace HO216 := Ae_q (Kd.S_elder' m7_q (rB_q ho0) hb); replace HO229 := Ae_q (Kd.S_elder' m32_q (rB_q ho0) hb); have HO233 := Ae_q (rL_q (rW_q (rW_q (rW_q (rW_q ho0 (rT_q (rup HO207.out))) (rT_q (rup HO213.out))) (rT_q (rup HO219.out))) (rT_q (rup HO225.out))) (bZ_q m0_q)); replace HO207 := Ae_q (rE_q (rup HO207.out) (rB_q ho0) hb); replace HO213 := Ae_q (rE_q (rup HO213.out) (rB_q ho0) hb); replace HO219 := Ae_q (rE_q (rup HO219.out) (rB_q ho0) hb); replace HO225 := Ae_q (rE_q (rup HO225.out) (rB_q ho0) hb); replace BK200 := Ae_q (bB_q (g := gb200) (o := .cells #[.int .i64 a2_0, .int .i64 a2_1, .int .i64 a2_2] 25 (0, 0)) (bup BK200.out) hb); replace HB := Ae_q (bT_q m0_q hb); (try clear hb); (try clear hb2); (try clear hk); (try clear hi); (try clear ho0); obtain ⟨Ao50, co50, eo50⟩ := rS_q HO233.out; subst eo50))) | ((with_reducible refine gC_q (f := 14) rfl ?_); refine gL_q (some 38) rfl rfl Try.func14 m8_q rfl #[.agg #[.int .i64 a2_0, .int .i64 a2_1, .int .i64 a2_2]] rfl m1_q ?_; (with_reducible refine (laws_toOutage.calls a2_0 a2_1 a2_2 t220 t221 t222 _ A16.out).mono ?_); rintro e w' ⟨rfl, hb⟩; refine ⟨_, rfl, ?_⟩; replace HO204 := Ae_q (Kd.S_below m3_q hb); replace HO207 := Ae_q (rO_q (rup HO207.out) hb); replace HO213 := Ae_q (rO_q (rup HO213.out) hb); replace HO216 := Ae_q (Kd.S_below m7_q hb); replace HO219 := Ae_q (rO_q (rup HO219.out) hb); replace BK200 := Ae_q (bB_q (g := gb200) (o := .cells #[.int .i64 a2_0, .int .i64 a2_1, .int .i64 a2_2] 25 (0, 0)) (bup BK200.out) hb); replace HB := Ae_q (bT_q m0_q hb); (try clear hb); (try clear hb2); (try clear hk); (try clear hi); obtain ⟨Ao41, co41, eo41⟩ := Kd.S_slice HO216.out; subst eo41; obtain ⟨Ao42, co42, eo42⟩ := rS_q HO219.out; subst eo42) | ((with_reducible refine gC_q (f := 15) rfl ?_); refine gL_q (some 39) rfl rfl Try.func15 m8_q rfl #[.slice Ao41 t214.length co41, .slice Ao42 t217.length co42, .agg #[.int .i64 t220, .int .i64 t221, .int .i64 t222]] rfl m1_q ?_; (with_reducible refine (impl_OutageHits.calls k _ _ t214 _ _ t217 t220 t221 t222 t223 _ ?side1 ?side2 ?side3 ?side4 A17.out).mono ?_); (case side1 => exact m19_q); (case side2 => exact m47_q); (case side3 => exact m51_q); (case side4 => exact m56_q); rintro e w' ⟨v224, rfl, ho0, hb⟩; refine ⟨_, rfl, ?_⟩; replace HO204 := Ae_q (Kd.S_elder' m3_q (rB_q ho0) hb); replace HO216 := Ae_q (Kd.S_elder' m7_q (rB_q ho0) hb); have HO225 := Ae_q (rL_q (rW_q (rW_q (rW_q ho0 (rT_q (rup HO207.out))) (rT_q (rup HO213.out))) (rT_q (rup HO219.out))) (bZ_q m0_q)); replace HO207 := Ae_q (rE_q (rup HO207.out) (rB_q ho0) hb); replace HO213 := Ae_q (rE_q (rup HO213.out) (rB_q ho0) hb); replace HO219 := Ae_q (rE_q (rup HO219.out) (rB_q ho0) hb); replace BK200 := Ae_q (bB_q (g := gb200) (o := .cells #[.int .i64 a2_0, .int .i64 a2_1, .int .i64 a2_2] 25 (0, 0)) (bup BK200.out) hb); replace HB := Ae_q (bT_q m0_q hb); (try clear hb); (try clear hb2); (try clear hk); (try clear hi); (try clear ho0); obtain ⟨Ao44, co44, eo44⟩ := rS_q HO225.out; subst eo44; obtain ⟨Ao45, co45, eo45⟩ := rS_q HO213.out; subst eo45) | ((with_reducible refine gC_q (f := 16) rfl ?_); (first | (refine gL_q (some 42) rfl rfl Try.func16 m8_q rfl #[.slice Ao44 t223.length co44, .slice Ao45 t211.length co45] rfl m1_q ?_; (with_reducible refine (laws_eqIntS.calls k _ _ t223 _ _ t211 true _ ?side1 ?side2 ?side3 ?side4 A18.out).mono ?_); (case side1 => exact m57_q); (case side2 => exact m64_q); (case side3 => exact m58_q); (case side4 => exact m65_q)) | (refine gL_q (some 52) rfl rfl Try.func16 m8_q rfl #[.slice Ao42 t217.length co42, .slice Ao50 t231.length co50] rfl m1_q ?_; (with_reducible refine (laws_eqIntS.calls k _ _ t217 _ _ t231 true _ ?side1 ?side2 ?side3 ?side4 A24.out).mono ?_); (case side1 => exact m51_q); (case side2 => exact m56_q); (case side3 => exact cup (rR_q HO233.out).2.2); (case side4 => exact (rR_q HO233.out).2.1))); rintro e w' ⟨rfl, ⟨nd, rfl⟩⟩; refine ⟨_, rfl, ?_⟩) | ((with_reducible refine gC_q (f := 17) rfl ?_); refine gL_q (some 47) rfl rfl Try.func17 m8_q rfl #[.slice Ao41 t214.length co41, .slice Ao47 t227.length co47] rfl m1_q ?_; (with_reducible refine (laws_eqStepS.calls k _ _ t214 _ _ t227 true _ ?side1 ?side2 ?side3 ?side4 A21.out).mono ?_); (case side1 => exact m19_q); (case side2 => exact m47_q); (case side3 => exact m31_q); (case side4 => exact (Kd.S_reads' HO229.out).2.1); rintro e w' ⟨rfl, hb⟩; refine ⟨_, rfl, ?_⟩; replace HO204 := Ae_q (Kd.S_below m3_q hb); replace HO207 := Ae_q (rO_q (rup HO207.out) hb); replace HO213 := Ae_q (rO_q (rup HO213.out) hb); replace HO216 := Ae_q (Kd.S_below m7_q hb); replace HO219 := Ae_q (rO_q (rup HO219.out) hb); replace HO225 := Ae_q (rO_q (rup HO225.out) hb); replace HO229 := Ae_q (Kd.S_below m32_q hb); replace BK200 := Ae_q (bB_q (g := gb200) (o := .cells #[.int .i64 a2_0, .int .i64 a2_1, .int .i64 a2_2] 25 (0, 0)) (bup BK200.out) hb); replace HB := Ae_q (bT_q m0_q hb); (try clear hb); (try clear hb2); (try clear hk); (try clear hi)) | ((with_reducible refine gC_q (f := 19) rfl ?_); refine gL_q (some 59) rfl rfl Try.func19 m8_q rfl #[.slice Ao42 t217.length co42, .int .i64 (markStepF t214 1)] rfl m1_q ?_; (with_reducible refine (laws_markIntS.calls k (fun k_ => some k_ = (.slice Ao42 t217.length co42 : Value).ownBlock) (.slice Ao42 t217.length co42) t217 (markStepF t214 1) t235 t236 w _ ?side1 ?side2 A26.out).mono ?_); (case side1 => exact m0_q); (case side2 => exact Kd.R_tight rfl HO219.out); rintro e w' ⟨rfl, hy0, hb, hkp⟩; refine ⟨_, rfl, ?_⟩; have n0_ := Ae_q (blk_kept (bup BK200.out) hkp (fun hs_ => (fun e_ => (Kd.R_ne HO219.out BK200.out (by decide)) e_) hs_)); have n2_ := Ae_q (rM_q (ok' := fun k_ => some k_ ≠ (.slice Ao45 t211.length co45 : Value).ownBlock ∧ some k_ ≠ (.slice Ao42 t217.length co42 : Value).ownBlock ∧ some k_ ≠ (.slice Ao44 t223.length co44 : Value).ownBlock ∧ some k_ ≠ (.slice Ao50 t231.length co50 : Value).ownBlock) (Kd.R_keptB (HO207.out) hkp (fun k_ hk_ hs_ => (hk_.1.1.2) hs_)) (fun k_ hk_ => ⟨hk_.1.1.1.1.2, hk_.1.1.1.2, hk_.1.1.2, hk_.1.2⟩)); have n3_ := Ae_q (rM_q (ok' := fun k_ => some k_ ≠ (.slice Ao35 t205.length co35 : Value).ownBlock ∧ some k_ ≠ (.slice Ao42 t217.length co42 : Value).ownBlock ∧ some k_ ≠ (.slice Ao44 t223.length co44 : Value).ownBlock ∧ some k_ ≠ (.slice Ao50 t231.length co50 : Value).ownBlock) (Kd.R_keptB (HO213.out) hkp (fun k_ hk_ hs_ => (hk_.1.1.2) hs_)) (fun k_ hk_ => ⟨hk_.1.1.1.1.2, hk_.1.1.1.2, hk_.1.1.2, hk_.1.2⟩)); have n5_ := Ae_q (Kd.R_reok rfl hy0 (fun k_ e_ => HO219.out.1 k_ e_)); have n6_ := Ae_q (rM_q (ok' := fun k_ => some k_ ≠ (.slice Ao35 t205.length co35 : Value).ownBlock ∧ some k_ ≠ (.slice Ao45 t211.length co45 : Value).ownBlock ∧ some k_ ≠ (.slice Ao42 t217.length co42 : Value).ownBlock ∧ some k_ ≠ (.slice Ao50 t231.length co50 : Value).ownBlock) (Kd.R_keptB (HO225.out) hkp (fun k_ hk_ hs_ => (hk_.1.2) hs_)) (fun k_ hk_ => ⟨hk_.1.1.1.1.2, hk_.1.1.1.2, hk_.1.1.2, hk_.1.2⟩)); have n8_ := Ae_q (rM_q (ok' := fun k_ => some k_ ≠ (.slice Ao35 t205.length co35 : Value).ownBlock ∧ some k_ ≠ (.slice Ao45 t211.length co45 : Value).ownBlock ∧ some k_ ≠ (.slice Ao42 t217.length co42 : Value).ownBlock ∧ some k_ ≠ (.slice Ao44 t223.length co44 : Value).ownBlock) (Kd.R_keptB (HO233.out) hkp (fun k_ hk_ hs_ => (hk_.1.2) hs_)) (fun k_ hk_ => ⟨hk_.1.1.1.1.2, hk_.1.1.1.2, hk_.1.1.2, hk_.1.2⟩)); have n9_ := Ae_q (hb); clear BK200; clear HO207; clear HO213; clear HO219; clear HO225; clear HO233; clear HB; have BK200 := n0_; have HO207 := n2_; have HO213 := n3_; have HO219 := n5_; have HO225 := n6_; have HO233 := n8_; have HB := n9_; clear n0_ n2_ n3_ n5_ n6_ n8_ n9_; (try clear hb); (try clear hkp); (try clear hy0)) | (go_at_call 18; (refine (laws_markStepS.calls _ _ t214 1 _ w _ (bel HB.out) (Kd.S_R (Kd.S_bound m7_q)) rfl).mono ?_); rintro e w_mk ⟨rfl, hb, hkp⟩; have b0_ := Ae_q (mk_blk (bup BK200.out) hkp (fun hp => mk_tyb (bup BK200.out) hp.2.2.2 (by decide))); have n0_ := Ae_q (mk_keep rfl (rup HO207.out) hkp (fun k e hp => by first | exact hp.1.2 e.symm | exact hp.1.1.2 e.symm | exact hp.1.1.1.2 e.symm | exact hp.1.1.1.1.2 e.symm | exact hp.1.1.1.1.1.2 e.symm | exact hp.1.1.1.1.1.1.2 e.symm | exact hp.1.1.1.1.1.1.1.2 e.symm | exact hp.1.1.1.1.1.1.1.1.2 e.symm | exact hp.1.1.1.1.1.1.1.1.1.2 e.symm | exact hp.1 e.symm | exact mk_ty (rup HO207.out) e hp.2.2.2 (by decide))); have n1_ := Ae_q (mk_keep rfl (rup HO213.out) hkp (fun k e hp => by first | exact hp.1.2 e.symm | exact hp.1.1.2 e.symm | exact hp.1.1.1.2 e.symm | exact hp.1.1.1.1.2 e.symm | exact hp.1.1.1.1.1.2 e.symm | exact hp.1.1.1.1.1.1.2 e.symm | exact hp.1.1.1.1.1.1.1.2 e.symm | exact hp.1.1.1.1.1.1.1.1.2 e.symm | exact hp.1.1.1.1.1.1.1.1.1.2 e.symm | exact hp.1 e.symm | exact mk_ty (rup HO213.out) e hp.2.2.2 (by decide))); have n2_ := Ae_q (mk_keep rfl (rup HO219.out) hkp (fun k e hp => by first | exact hp.1.2 e.symm | exact hp.1.1.2 e.symm | exact hp.1.1.1.2 e.symm | exact hp.1.1.1.1.2 e.symm | exact hp.1.1.1.1.1.2 e.symm | exact hp.1.1.1.1.1.1.2 e.symm | exact hp.1.1.1.1.1.1.1.2 e.symm | exact hp.1.1.1.1.1.1.1.1.2 e.symm | exact hp.1.1.1.1.1.1.1.1.1.2 e.symm | exact hp.1 e.symm | exact mk_ty (rup HO219.out) e hp.2.2.2 (by decide))); have n3_ := Ae_q (mk_keep rfl (rup HO225.out) hkp (fun k e hp => by first | exact hp.1.2 e.symm | exact hp.1.1.2 e.symm | exact hp.1.1.1.2 e.symm | exact hp.1.1.1.1.2 e.symm | exact hp.1.1.1.1.1.2 e.symm | exact hp.1.1.1.1.1.1.2 e.symm | exact hp.1.1.1.1.1.1.1.2 e.symm | exact hp.1.1.1.1.1.1.1.1.2 e.symm | exact hp.1.1.1.1.1.1.1.1.1.2 e.symm | exact hp.1 e.symm | exact mk_ty (rup HO225.out) e hp.2.2.2 (by decide))); have n4_ := Ae_q (mk_keep rfl (rup HO233.out) hkp (fun k e hp => by first | exact hp.1.2 e.symm | exact hp.1.1.2 e.symm | exact hp.1.1.1.2 e.symm | exact hp.1.1.1.1.2 e.symm | exact hp.1.1.1.1.1.2 e.symm | exact hp.1.1.1.1.1.1.2 e.symm | exact hp.1.1.1.1.1.1.1.2 e.symm | exact hp.1.1.1.1.1.1.1.1.2 e.symm | exact hp.1.1.1.1.1.1.1.1.1.2 e.symm | exact hp.1 e.symm | exact mk_ty (rup HO233.out) e hp.2.2.2 (by decide))); have nB_ := Ae_q hb; clear HO207; clear HO213; clear HO219; clear HO225; clear HO233; clear HO204; clear HO216; clear HO229; clear HB; clear BK200; have BK200 := b0_; clear b0_; have HO207 := n0_; have HO213 := n1_; have HO219 := n2_; have HO225 := n3_; have HO233 := n4_; have HB := nB_; clear nB_; clear n0_ n1_ n2_ n3_ n4_; clear hb; clear hkp))
 (try simp only [Act.put, sA_q, sZ_q, sS_q])
 go_cut [67] (fun v67 wc => ∃ (kq : Nat) (x67_26 : Bool), v67 = .bool x67_26 ∧ Aside0 (laws_FnExactOutageHits.j0 kq l0 l1 t211 t223 x67_26 a2_0 a2_1 a2_2 = some r) ∧ Aside0 (kq ≤ k) ∧ Aside0 (Kd.R kI_q 3 wc w.heap.size (fun k_ => some k_ ≠ ((.slice Ao44 t223.length co44) : Value).ownBlock) (.slice Ao45 t211.length co45) t211) ∧ Aside0 (Kd.R kI_q 3 wc w.heap.size (fun k_ => some k_ ≠ ((.slice Ao45 t211.length co45) : Value).ownBlock) (.slice Ao44 t223.length co44) t223) ∧ Aside0 (wc.heap[gb200]? = some (.cells #[.int .i64 a2_0, .int .i64 a2_1, .int .i64 a2_2] 25 (0, 0))) ∧ Aside0 (Below w.heap.size w wc))
 case first =>
  have H := HC27.out
  clear HC27
  by_cases c52 : t235 < 0
  ·rw [if_pos c52] at H
   have c52b0 : decide (t235 < 0) = true := dT_q c52
   clear c52
   (first | rw [c52b0] | (simp only [i64_w, i32_w]; rw [c52b0]) | skip)
   have H' := Ae_q H
   clear H
   go_wp2
   go_meet
   case rel => exact ⟨_, (true), m4_q, H', ⟨m71_q⟩, ⟨m48_q⟩, ⟨m49_q⟩, ⟨bup BK200.out⟩, ⟨m0_q⟩⟩
  rw [if_neg c52] at H
  have c52b0 : decide (t235 < 0) = false := dF_q c52
  clear c52
  (first | rw [c52b0] | (simp only [i64_w, i32_w]; rw [c52b0]) | skip)
  replace H := oB_q.mp H
  obtain ⟨t237, A530, H⟩ := H
  replace H : (laws_FnExactOutageHits.j0 k l0 l1 t211 t223 (!t237) a2_0 a2_1 a2_2) = some r := H
  have A53 := Ae_q A530
  clear A530
  have H' := Ae_q H
  clear H
  go_wp2_with (first | (go_at_call 16; (with_reducible refine (laws_eqIntS.calls k _ _ t223 _ _ t211 t237 _ ?side1 ?side2 ?side3 ?side4 A53.out).mono ?_); (case side1 => exact m57_q); (case side2 => exact m64_q); (case side3 => exact m58_q); (case side4 => exact m65_q); rintro e w' ⟨rfl, ⟨nd, rfl⟩⟩))
  go_meet
  case rel => exact ⟨_, (!t237), m4_q, H', ⟨m71_q⟩, ⟨m48_q⟩, ⟨m49_q⟩, ⟨bup BK200.out⟩, ⟨m0_q⟩⟩
 case rest =>
  clear HC27
  try clear c1
  try clear c2
  try clear p2
  try clear c3
  try clear c4
  try clear c4b0
  try clear c4b1
  try clear c5
  try clear c7
  try clear c7b0
  try clear c10
  try clear c11
  try clear c12
  try clear c13
  try clear c14
  try clear c15
  try clear c16
  try clear c17
  try clear c19
  try clear c22
  try clear c25
  try clear c52
  try clear c52b0
  try clear hcz39_0
  try clear hcz39_1
  try clear hcz39_2
  try clear hfz39_0
  try clear hfz39_1
  try clear hfz39_2
  obtain ⟨kq, x67_26, rfl, HA, HJ26, HO_8, HO_11, BK200, HB⟩ := hcut
  cases kq with
  | zero => exact absurd HA.out (by simp [laws_FnExactOutageHits.j0])
  | succ kj26 =>
   have H := HA.out
   clear HA
   simp only [laws_FnExactOutageHits.j0] at H
   by_cases c54 : x67_26 = true
   ·subst c54
    have H1 : (some false) = some r := by rw [if_pos rfl] at H; exact H
    clear H
    have H := H1
    clear H1
    obtain rfl := oI_q H
    go_wp2
    go_ret
    exact ⟨m2_q, m0_q⟩
   replace c54 := fM_q.mpr c54
   subst c54
   have H1 : ((laws_markIntS.f kj26 t223 1).bind fun bt238 => ((laws_heldIntS.f kj26 bt238.2 1).bind fun t240 => (if t240 < 0 then (some false) else (if t240 = bt238.1 then ((laws_toStepS.f kj26 l0).bind fun t241 => ((laws_toIntS.f kj26 l1).bind fun t244 => ((laws_toOutage.f a2_0 a2_1 a2_2).bind fun bt247 => ((impl_OutageHits.f kj26 t241 t244 bt247.1 bt247.2.1 bt247.2.2).bind fun t250 => ((laws_eqIntS.f kj26 t250 t211).bind fun t253 => (if t253 = true then ((laws_heldIntS.f kj26 bt238.2 1).bind fun t254 => (if t254 < 0 then (some false) else (if t254 = bt238.1 then (some true) else (some false)))) else (some false))))))) else (some false))))) = some r := by rw [if_neg (show ¬ (false = true) by decide)] at H; exact H
   clear H
   have H := H1
   clear H1
   replace H := oB_q.mp H
   obtain ⟨⟨t238, t239⟩, A550, H⟩ := H
   replace H : ((laws_heldIntS.f kj26 t239 1).bind fun t240 => (if t240 < 0 then (some false) else (if t240 = t238 then ((laws_toStepS.f kj26 l0).bind fun t241 => ((laws_toIntS.f kj26 l1).bind fun t244 => ((laws_toOutage.f a2_0 a2_1 a2_2).bind fun bt247 => ((impl_OutageHits.f kj26 t241 t244 bt247.1 bt247.2.1 bt247.2.2).bind fun t250 => ((laws_eqIntS.f kj26 t250 t211).bind fun t253 => (if t253 = true then ((laws_heldIntS.f kj26 t239 1).bind fun t254 => (if t254 < 0 then (some false) else (if t254 = t238 then (some true) else (some false)))) else (some false))))))) else (some false)))) = some r := H
   have A55 := Ae_q A550
   clear A550
   replace H := oB_q.mp H
   obtain ⟨t240, A560, H⟩ := H
   replace H : (if t240 < 0 then (some false) else (if t240 = t238 then ((laws_toStepS.f kj26 l0).bind fun t241 => ((laws_toIntS.f kj26 l1).bind fun t244 => ((laws_toOutage.f a2_0 a2_1 a2_2).bind fun bt247 => ((impl_OutageHits.f kj26 t241 t244 bt247.1 bt247.2.1 bt247.2.2).bind fun t250 => ((laws_eqIntS.f kj26 t250 t211).bind fun t253 => (if t253 = true then ((laws_heldIntS.f kj26 t239 1).bind fun t254 => (if t254 < 0 then (some false) else (if t254 = t238 then (some true) else (some false)))) else (some false))))))) else (some false))) = some r := H
   have A56 := Ae_q A560
   clear A560
   by_cases c57 : t240 < 0
   ·rw [if_pos c57] at H
    have c57b0 : decide (t240 < 0) = true := dT_q c57
    clear c57
    obtain rfl := oI_q H
    go_wp2_with (first | ((with_reducible refine gC_q (f := 19) rfl ?_); refine gL_q (some 70) rfl rfl Try.func19 m8_q rfl #[.slice Ao44 t223.length co44, .int .i64 1] rfl m1_q ?_; (with_reducible refine (laws_markIntS.calls kj26 (fun k_ => some k_ = (.slice Ao44 t223.length co44 : Value).ownBlock) (.slice Ao44 t223.length co44) t223 1 t238 t239 w _ ?side1 ?side2 A55.out).mono ?_); (case side1 => exact m0_q); (case side2 => exact m52_q); rintro e w' ⟨rfl, hy0, hb, hkp⟩; refine ⟨_, rfl, ?_⟩; replace HO_8 := Ae_q (rM_q (ok' := fun k_ => some k_ ≠ (.slice Ao44 t223.length co44 : Value).ownBlock) (Kd.R_keptB (HO_8.out) hkp (fun k_ hk_ hs_ => (hk_) hs_)) (fun k_ hk_ => hk_.1)); replace BK200 := Ae_q (blk_kept (bup BK200.out) hkp (fun hs_ => (fun e_ => (Kd.R_ne HO_11.out BK200.out (by decide)) e_) hs_)); replace HO_11 := Ae_q (Kd.R_reok rfl hy0 (fun k_ e_ => HO_11.out.1 k_ e_)); replace HB := Ae_q (hb); (try clear hb); (try clear hkp); (try clear hy0)) | ((with_reducible refine gC_q (f := 20) rfl ?_); refine gL_q (some 73) rfl rfl Try.func20 m8_q rfl #[.slice Ao44 t239.length co44, .int .i64 1] rfl m14_q ?_; (with_reducible refine (laws_heldIntS.calls kj26 _ _ t239 1 t240 _ ?side1 ?side2 A56.out).mono ?_); (case side1 => exact m44_q); (case side2 => exact m24_q); rintro e w' ⟨rfl, ⟨nd, rfl⟩⟩; refine ⟨_, rfl, ?_⟩))
    go_ret
    exact ⟨m2_q, m0_q⟩
   rw [if_neg c57] at H
   have c57b0 : decide (t240 < 0) = false := dF_q c57
   clear c57
   by_cases c59 : t240 = t238
   rotate_left
   ·rw [if_neg c59] at H
    have c59b0 : (t240 == t238) = false := fN_q.mpr c59
    have c59b1 : (t240 != t238) = true := nI_q.mpr c59
    obtain rfl := oI_q H
    go_wp2_with (first | ((with_reducible refine gC_q (f := 19) rfl ?_); refine gL_q (some 70) rfl rfl Try.func19 m8_q rfl #[.slice Ao44 t223.length co44, .int .i64 1] rfl m1_q ?_; (with_reducible refine (laws_markIntS.calls kj26 (fun k_ => some k_ = (.slice Ao44 t223.length co44 : Value).ownBlock) (.slice Ao44 t223.length co44) t223 1 t238 t239 w _ ?side1 ?side2 A55.out).mono ?_); (case side1 => exact m0_q); (case side2 => exact m52_q); rintro e w' ⟨rfl, hy0, hb, hkp⟩; refine ⟨_, rfl, ?_⟩; replace HO_8 := Ae_q (rM_q (ok' := fun k_ => some k_ ≠ (.slice Ao44 t223.length co44 : Value).ownBlock) (Kd.R_keptB (HO_8.out) hkp (fun k_ hk_ hs_ => (hk_) hs_)) (fun k_ hk_ => hk_.1)); replace BK200 := Ae_q (blk_kept (bup BK200.out) hkp (fun hs_ => (fun e_ => (Kd.R_ne HO_11.out BK200.out (by decide)) e_) hs_)); replace HO_11 := Ae_q (Kd.R_reok rfl hy0 (fun k_ e_ => HO_11.out.1 k_ e_)); replace HB := Ae_q (hb); (try clear hb); (try clear hkp); (try clear hy0)) | ((with_reducible refine gC_q (f := 20) rfl ?_); refine gL_q (some 73) rfl rfl Try.func20 m8_q rfl #[.slice Ao44 t239.length co44, .int .i64 1] rfl m14_q ?_; (with_reducible refine (laws_heldIntS.calls kj26 _ _ t239 1 t240 _ ?side1 ?side2 A56.out).mono ?_); (case side1 => exact m44_q); (case side2 => exact m24_q); rintro e w' ⟨rfl, ⟨nd, rfl⟩⟩; refine ⟨_, rfl, ?_⟩))
    go_ret
    exact ⟨m2_q, m0_q⟩
   rw [if_pos c59] at H
   have c59b0 : (t240 == t238) = true := beq_iff_eq.mpr c59
   have c59b1 : (t240 != t238) = false := nE_q.mpr c59
   clear c59
   replace H := oB_q.mp H
   obtain ⟨t241, A600, H⟩ := H
   replace H : ((laws_toIntS.f kj26 l1).bind fun t244 => ((laws_toOutage.f a2_0 a2_1 a2_2).bind fun bt247 => ((impl_OutageHits.f kj26 t241 t244 bt247.1 bt247.2.1 bt247.2.2).bind fun t250 => ((laws_eqIntS.f kj26 t250 t211).bind fun t253 => (if t253 = true then ((laws_heldIntS.f kj26 t239 1).bind fun t254 => (if t254 < 0 then (some false) else (if t254 = t238 then (some true) else (some false)))) else (some false)))))) = some r := H
   have A60 := Ae_q A600
   clear A600
   replace H := oB_q.mp H
   obtain ⟨t244, A610, H⟩ := H
   replace H : ((laws_toOutage.f a2_0 a2_1 a2_2).bind fun bt247 => ((impl_OutageHits.f kj26 t241 t244 bt247.1 bt247.2.1 bt247.2.2).bind fun t250 => ((laws_eqIntS.f kj26 t250 t211).bind fun t253 => (if t253 = true then ((laws_heldIntS.f kj26 t239 1).bind fun t254 => (if t254 < 0 then (some false) else (if t254 = t238 then (some true) else (some false)))) else (some false))))) = some r := H
   have A61 := Ae_q A610
   clear A610
   replace H := oB_q.mp H
   obtain ⟨⟨t247, t248, t249⟩, A620, H⟩ := H
   replace H : ((impl_OutageHits.f kj26 t241 t244 t247 t248 t249).bind fun t250 => ((laws_eqIntS.f kj26 t250 t211).bind fun t253 => (if t253 = true then ((laws_heldIntS.f kj26 t239 1).bind fun t254 => (if t254 < 0 then (some false) else (if t254 = t238 then (some true) else (some false)))) else (some false)))) = some r := H
   have A62 := Ae_q A620
   clear A620
   replace H := oB_q.mp H
   obtain ⟨t250, A630, H⟩ := H
   replace H : ((laws_eqIntS.f kj26 t250 t211).bind fun t253 => (if t253 = true then ((laws_heldIntS.f kj26 t239 1).bind fun t254 => (if t254 < 0 then (some false) else (if t254 = t238 then (some true) else (some false)))) else (some false))) = some r := H
   have A63 := Ae_q A630
   clear A630
   replace H := oB_q.mp H
   obtain ⟨t253, A640, H⟩ := H
   replace H : (if t253 = true then ((laws_heldIntS.f kj26 t239 1).bind fun t254 => (if t254 < 0 then (some false) else (if t254 = t238 then (some true) else (some false)))) else (some false)) = some r := H
   have A64 := Ae_q A640
   clear A640
   by_cases c65 : t253 = true
   rotate_left
   ·replace c65 := fM_q.mpr c65
    subst c65
    have H1 : (some false) = some r := by rw [if_neg (show ¬ (false = true) by decide)] at H; exact H
    clear H
    have H := H1
    clear H1
    obtain rfl := oI_q H
    try go_wp2_with (first | ((with_reducible refine gC_q (f := 19) rfl ?_); refine gL_q (some 70) rfl rfl Try.func19 m8_q rfl #[.slice Ao44 t223.length co44, .int .i64 1] rfl m1_q ?_; (with_reducible refine (laws_markIntS.calls kj26 (fun k_ => some k_ = (.slice Ao44 t223.length co44 : Value).ownBlock) (.slice Ao44 t223.length co44) t223 1 t238 t239 w _ ?side1 ?side2 A55.out).mono ?_); (case side1 => exact m0_q); (case side2 => exact m52_q); rintro e w96 ⟨rfl, hy0, hb, hkp⟩; refine ⟨_, rfl, ?_⟩; replace HO_8 := Ae_q (rM_q (ok' := fun k_ => some k_ ≠ (.slice Ao44 t223.length co44 : Value).ownBlock) (Kd.R_keptB (HO_8.out) hkp (fun k_ hk_ hs_ => (hk_) hs_)) (fun k_ hk_ => hk_.1)); replace BK200 := Ae_q (blk_kept (bup BK200.out) hkp (fun hs_ => (fun e_ => (Kd.R_ne HO_11.out BK200.out (by decide)) e_) hs_)); replace HO_11 := Ae_q (Kd.R_reok rfl hy0 (fun k_ e_ => HO_11.out.1 k_ e_)); replace HB := Ae_q (hb); (try clear hb); (try clear hkp); (try clear hy0)) | ((with_reducible refine gC_q (f := 20) rfl ?_); refine gL_q (some 73) rfl rfl Try.func20 m8_q rfl #[.slice Ao44 t239.length co44, .int .i64 1] rfl m14_q ?_; (with_reducible refine (laws_heldIntS.calls kj26 _ _ t239 1 t240 _ ?side1 ?side2 A56.out).mono ?_); (case side1 => exact m44_q); (case side2 => exact m24_q); rintro e w' ⟨rfl, ⟨nd, rfl⟩⟩; refine ⟨_, rfl, ?_⟩))
    (try (rw [drewN_self w96]; generalize hq_ : World.drewN w96 _ = w96; have n0_ : Aside0 (Kd.R kI_q 3 w96 w.heap.size (fun k_ => some k_ ≠ (.slice Ao45 t211.length co45 : Value).ownBlock) (.slice Ao44 t223.length co44) t239) := ⟨m61_q⟩; have n1_ : Aside0 (Kd.R kI_q 3 w96 w.heap.size (fun k_ => some k_ ≠ (.slice Ao44 t223.length co44 : Value).ownBlock) (.slice Ao45 t211.length co45) t211) := ⟨m66_q⟩; have n2_ : Aside0 (w96.heap[gb200]? = some (.cells #[.int .i64 a2_0, .int .i64 a2_1, .int .i64 a2_2] 25 (0, 0))) := ⟨m62_q⟩; have n3_ : Aside0 (Below w.heap.size w w96) := ⟨by rw [← hq_]; exact m0_q⟩; clear HO_11 HO_8 BK200 HB hq_; have HO_11 := n0_; have HO_8 := n1_; have BK200 := n2_; have HB := n3_; clear n0_ n1_ n2_ n3_))
    replace HO_8 := Ae_q (rD_q HO_8.out)
    replace HO_11 := Ae_q (rD_q HO_11.out)
    replace BK200 := Ae_q (bW_q BK200.out)
    replace HB := Ae_q (bD_q HB.out)
    refine start_ (n := 8) (S := fun w' => w'.cell? ⟨gb200, 0, none⟩ = some (.int .i64 a2_0) ∧ w'.cell? ⟨gb200, 1, none⟩ = some (.int .i64 a2_1) ∧ w'.cell? ⟨gb200, 2, none⟩ = some (.int .i64 a2_2)) (ds := []) #[false, false, false, false, false, false, false, false] m8_q rfl rfl ⟨(bC_q BK200.out 0).trans rfl, (bC_q BK200.out 1).trans rfl, (bC_q BK200.out 2).trans rfl⟩ (fun hHeld => ?_); refine with_tabW laws_FnExactOutageHits.tab30 laws_FnExactOutageHits.bits30 (fun HT_ HW_ => ?_)
    generalize w96.drew = w97 at HO_8 HO_11 BK200 HB hHeld ⊢
    refine pJ HT_ 0 79 rfl rfl ?_
    refine pJ HT_ 2 81 rfl rfl ?_
    refine take_ (i := 4) (N := some 83) (v := ?_) (a' := ?_) #[true, false, true, false, true, false, false, false] rfl rfl (take_ofW HT_.out HW_.out m8_q) (fun _ _ _ h => h) (Or.inl ⟨by rfl, ?_⟩) hHeld ?_ ?_
    rotate_left
    ·rintro w' ⟨s0, s1, s2⟩
     go_simp
     with_reducible rfl
    rotate_left
    ·simp only [pS_q]
     rfl
    refine one_ (i := 1) (N := some 80) #[true, true, true, false, true, false, false, false] rfl rfl (one_of HT_.out m8_q) (by decide) (fun K hK => ?_)
    refine goes_ Try.func12 m8_q rfl #[.slice A0 l0.length c0] (by rfl) rfl rfl m1_q ?_
    with_reducible refine (laws_toStepS.calls kj26 _ _ l0 t241 _ ?side1 ?side2 A60.out).mono ?_
    (case side1 => exact m25_q)
    (case side2 => exact m39_q)
    rintro e w' ⟨v242, rfl, ho0, hb⟩
    refine ⟨_, rfl, ?_⟩
    have HO243 := Ae_q (Kd.S_lower (Kd.S_new' (Kd.S_new' ho0 (rT_q (rup HO_8.out))) (rT_q (rup HO_11.out))) (bZ_q m0_q))
    replace HO_8 := Ae_q (rO_q (rup HO_8.out) hb)
    replace HO_11 := Ae_q (rO_q (rup HO_11.out) hb)
    replace BK200 := Ae_q (bB_q (g := gb200) (o := .cells #[.int .i64 a2_0, .int .i64 a2_1, .int .i64 a2_2] 25 (0, 0)) (bup BK200.out) hb)
    replace HB := Ae_q (bT_q m0_q hb)
    (try clear hb)
    (try clear hb2)
    (try clear hk)
    (try clear hi)
    (try clear ho0)
    refine hK.out _ _ ⟨(bC_q BK200.out 0).trans rfl, (bC_q BK200.out 1).trans rfl, (bC_q BK200.out 2).trans rfl⟩ (fun hHeld => ?_)
    clear hK K
    refine nJ_q ?_
    refine one_ (i := 3) (N := some 82) #[true, true, true, true, true, false, false, false] rfl rfl (one_of HT_.out m8_q) (by decide) (fun K hK => ?_)
    refine goes_ Try.func13 m8_q rfl #[.slice A1 l1.length c1] (by rfl) rfl rfl m1_q ?_
    with_reducible refine (laws_toIntS.calls kj26 _ _ l1 t244 _ ?side1 ?side2 A61.out).mono ?_
    (case side1 => exact m30_q)
    (case side2 => exact m46_q)
    rintro e w' ⟨v245, rfl, ho0, hb⟩
    refine ⟨_, rfl, ?_⟩
    replace HO243 := Ae_q (Kd.S_elder' m20_q (rB_q ho0) hb)
    have HO246 := Ae_q (rL_q (rW_q (rW_q ho0 (rT_q (rup HO_8.out))) (rT_q (rup HO_11.out))) (bZ_q m0_q))
    replace HO_8 := Ae_q (rE_q (rup HO_8.out) (rB_q ho0) hb)
    replace HO_11 := Ae_q (rE_q (rup HO_11.out) (rB_q ho0) hb)
    replace BK200 := Ae_q (bB_q (g := gb200) (o := .cells #[.int .i64 a2_0, .int .i64 a2_1, .int .i64 a2_2] 25 (0, 0)) (bup BK200.out) hb)
    replace HB := Ae_q (bT_q m0_q hb)
    (try clear hb)
    (try clear hb2)
    (try clear hk)
    (try clear hi)
    (try clear ho0)
    refine hK.out _ _ ⟨(bC_q BK200.out 0).trans rfl, (bC_q BK200.out 1).trans rfl, (bC_q BK200.out 2).trans rfl⟩ (fun hHeld => ?_)
    clear hK K
    refine nJ_q ?_
    refine one_ (i := 5) (N := some 84) #[true, true, true, true, true, true, false, false] rfl rfl (one_of HT_.out m8_q) (by decide) (fun K hK => ?_)
    refine goes_ Try.func14 m8_q rfl #[.agg #[.int .i64 a2_0, .int .i64 a2_1, .int .i64 a2_2]] (by rfl) rfl rfl m1_q ?_
    with_reducible refine (laws_toOutage.calls a2_0 a2_1 a2_2 t247 t248 t249 _ A62.out).mono ?_
    rintro e w' ⟨rfl, hb⟩
    refine ⟨_, rfl, ?_⟩
    replace HO_8 := Ae_q (rO_q (rup HO_8.out) hb)
    replace HO_11 := Ae_q (rO_q (rup HO_11.out) hb)
    replace HO243 := Ae_q (Kd.S_below m20_q hb)
    replace HO246 := Ae_q (rO_q (rup HO246.out) hb)
    replace BK200 := Ae_q (bB_q (g := gb200) (o := .cells #[.int .i64 a2_0, .int .i64 a2_1, .int .i64 a2_2] 25 (0, 0)) (bup BK200.out) hb)
    replace HB := Ae_q (bT_q m0_q hb)
    (try clear hb)
    (try clear hb2)
    (try clear hk)
    (try clear hi)
    obtain ⟨Ao101, co101, eo101⟩ := Kd.S_slice HO243.out
    (first | subst eo101 | (injection eo101 with f1_ f2_ f3_; have f4_ := f1_.symm; have f5_ := f3_.symm; clear f1_ f2_ f3_; subst f4_; subst f5_))
    obtain ⟨Ao102, co102, eo102⟩ := rS_q HO246.out
    (first | subst eo102 | (injection eo102 with f1_ f2_ f3_; have f4_ := f1_.symm; have f5_ := f3_.symm; clear f1_ f2_ f3_; subst f4_; subst f5_))
    refine hK.out _ _ ⟨(bC_q BK200.out 0).trans rfl, (bC_q BK200.out 1).trans rfl, (bC_q BK200.out 2).trans rfl⟩ (fun hHeld => ?_)
    clear hK K
    refine nJ_q ?_
    refine one_ (i := 6) (N := some 85) #[true, true, true, true, true, true, true, false] rfl rfl (one_of HT_.out m8_q) (by decide) (fun K hK => ?_)
    refine goes_ Try.func15 m8_q rfl #[.slice Ao101 t241.length co101, .slice Ao102 t244.length co102, .agg #[.int .i64 t247, .int .i64 t248, .int .i64 t249]] (by rfl) rfl rfl m1_q ?_
    with_reducible refine (impl_OutageHits.calls kj26 _ _ t241 _ _ t244 t247 t248 t249 t250 _ ?side1 ?side2 ?side3 ?side4 A63.out).mono ?_
    (case side1 => exact m29_q)
    (case side2 => exact m63_q)
    (case side3 => exact m68_q)
    (case side4 => exact (rR_q HO246.out).2.1)
    rintro e w' ⟨v251, rfl, ho0, hb⟩
    refine ⟨_, rfl, ?_⟩
    replace HO243 := Ae_q (Kd.S_elder' m20_q (rB_q ho0) hb)
    have HO252 := Ae_q (rL_q (rW_q (rW_q (rW_q ho0 (rT_q (rup HO_8.out))) (rT_q (rup HO_11.out))) (rT_q (rup HO246.out))) (bZ_q m0_q))
    replace HO_8 := Ae_q (rE_q (rup HO_8.out) (rB_q ho0) hb)
    replace HO_11 := Ae_q (rE_q (rup HO_11.out) (rB_q ho0) hb)
    replace HO246 := Ae_q (rE_q (rup HO246.out) (rB_q ho0) hb)
    replace BK200 := Ae_q (bB_q (g := gb200) (o := .cells #[.int .i64 a2_0, .int .i64 a2_1, .int .i64 a2_2] 25 (0, 0)) (bup BK200.out) hb)
    replace HB := Ae_q (bT_q m0_q hb)
    (try clear hb)
    (try clear hb2)
    (try clear hk)
    (try clear hi)
    (try clear ho0)
    refine hK.out _ _ ⟨(bC_q BK200.out 0).trans rfl, (bC_q BK200.out 1).trans rfl, (bC_q BK200.out 2).trans rfl⟩ (fun hHeld => ?_)
    clear hK K
    refine nJ_q ?_
    refine pJ HT_ 7 15 rfl rfl ?_
    refine done_ (done_of HT_.out m8_q) ?_
    obtain ⟨Ao104, co104, eo104⟩ := rS_q HO252.out
    subst eo104
    try go_wp2_with (first | ((with_reducible refine gC_q (f := 16) rfl ?_); refine gL_q (some 88) rfl rfl Try.func16 m8_q rfl #[.slice Ao104 t250.length co104, .slice Ao45 t211.length co45] rfl m1_q ?_; (with_reducible refine (laws_eqIntS.calls kj26 _ _ t250 _ _ t211 false _ ?side1 ?side2 ?side3 ?side4 A64.out).mono ?_); (case side1 => exact m69_q); (case side2 => exact (rR_q HO252.out).2.1); (case side3 => exact m70_q); (case side4 => exact (rR_q HO_8.out).2.1); rintro e w' ⟨rfl, ⟨nd, rfl⟩⟩; refine ⟨_, rfl, ?_⟩))
    go_ret
    exact ⟨m2_q, m0_q⟩
   subst c65
   have H1 : ((laws_heldIntS.f kj26 t239 1).bind fun t254 => (if t254 < 0 then (some false) else (if t254 = t238 then (some true) else (some false)))) = some r := by rw [if_pos rfl] at H; exact H
   clear H
   have H := H1
   clear H1
   replace H := oB_q.mp H
   obtain ⟨t254, A660, H⟩ := H
   replace H : (if t254 < 0 then (some false) else (if t254 = t238 then (some true) else (some false))) = some r := H
   have A66 := Ae_q A660
   clear A660
   by_cases c67 : t254 < 0
   ·rw [if_pos c67] at H
    have c67b0 : decide (t254 < 0) = true := dT_q c67
    clear c67
    obtain rfl := oI_q H
    try go_wp2_with (first | ((with_reducible refine gC_q (f := 19) rfl ?_); refine gL_q (some 70) rfl rfl Try.func19 m8_q rfl #[.slice Ao44 t223.length co44, .int .i64 1] rfl m1_q ?_; (with_reducible refine (laws_markIntS.calls kj26 (fun k_ => some k_ = (.slice Ao44 t223.length co44 : Value).ownBlock) (.slice Ao44 t223.length co44) t223 1 t238 t239 w _ ?side1 ?side2 A55.out).mono ?_); (case side1 => exact m0_q); (case side2 => exact m52_q); rintro e w68 ⟨rfl, hy0, hb, hkp⟩; refine ⟨_, rfl, ?_⟩; replace HO_8 := Ae_q (rM_q (ok' := fun k_ => some k_ ≠ (.slice Ao44 t223.length co44 : Value).ownBlock) (Kd.R_keptB (HO_8.out) hkp (fun k_ hk_ hs_ => (hk_) hs_)) (fun k_ hk_ => hk_.1)); replace BK200 := Ae_q (blk_kept (bup BK200.out) hkp (fun hs_ => (fun e_ => (Kd.R_ne HO_11.out BK200.out (by decide)) e_) hs_)); replace HO_11 := Ae_q (Kd.R_reok rfl hy0 (fun k_ e_ => HO_11.out.1 k_ e_)); replace HB := Ae_q (hb); (try clear hb); (try clear hkp); (try clear hy0)) | ((with_reducible refine gC_q (f := 20) rfl ?_); refine gL_q (some 73) rfl rfl Try.func20 m8_q rfl #[.slice Ao44 t239.length co44, .int .i64 1] rfl m14_q ?_; (with_reducible refine (laws_heldIntS.calls kj26 _ _ t239 1 t240 _ ?side1 ?side2 A56.out).mono ?_); (case side1 => exact m44_q); (case side2 => exact m24_q); rintro e w' ⟨rfl, ⟨nd, rfl⟩⟩; refine ⟨_, rfl, ?_⟩))
    (try (rw [drewN_self w68]; generalize hq_ : World.drewN w68 _ = w68; have n0_ : Aside0 (Kd.R kI_q 3 w68 w.heap.size (fun k_ => some k_ ≠ (.slice Ao45 t211.length co45 : Value).ownBlock) (.slice Ao44 t223.length co44) t239) := ⟨m61_q⟩; have n1_ : Aside0 (Kd.R kI_q 3 w68 w.heap.size (fun k_ => some k_ ≠ (.slice Ao44 t223.length co44 : Value).ownBlock) (.slice Ao45 t211.length co45) t211) := ⟨m66_q⟩; have n2_ : Aside0 (w68.heap[gb200]? = some (.cells #[.int .i64 a2_0, .int .i64 a2_1, .int .i64 a2_2] 25 (0, 0))) := ⟨m62_q⟩; have n3_ : Aside0 (Below w.heap.size w w68) := ⟨by rw [← hq_]; exact m0_q⟩; clear HO_11 HO_8 BK200 HB hq_; have HO_11 := n0_; have HO_8 := n1_; have BK200 := n2_; have HB := n3_; clear n0_ n1_ n2_ n3_))
    replace HO_8 := Ae_q (rD_q HO_8.out)
    replace HO_11 := Ae_q (rD_q HO_11.out)
    replace BK200 := Ae_q (bW_q BK200.out)
    replace HB := Ae_q (bD_q HB.out)
    refine start_ (n := 8) (S := fun w' => w'.cell? ⟨gb200, 0, none⟩ = some (.int .i64 a2_0) ∧ w'.cell? ⟨gb200, 1, none⟩ = some (.int .i64 a2_1) ∧ w'.cell? ⟨gb200, 2, none⟩ = some (.int .i64 a2_2)) (ds := []) #[false, false, false, false, false, false, false, false] m8_q rfl rfl ⟨(bC_q BK200.out 0).trans rfl, (bC_q BK200.out 1).trans rfl, (bC_q BK200.out 2).trans rfl⟩ (fun hHeld => ?_); refine with_tabW laws_FnExactOutageHits.tab30 laws_FnExactOutageHits.bits30 (fun HT_ HW_ => ?_)
    generalize w68.drew = w69 at HO_8 HO_11 BK200 HB hHeld ⊢
    refine pJ HT_ 0 79 rfl rfl ?_
    refine pJ HT_ 2 81 rfl rfl ?_
    refine take_ (i := 4) (N := some 83) (v := ?_) (a' := ?_) #[true, false, true, false, true, false, false, false] rfl rfl (take_ofW HT_.out HW_.out m8_q) (fun _ _ _ h => h) (Or.inl ⟨by rfl, ?_⟩) hHeld ?_ ?_
    rotate_left
    ·rintro w' ⟨s0, s1, s2⟩
     go_simp
     with_reducible rfl
    rotate_left
    ·simp only [pS_q]
     rfl
    refine one_ (i := 1) (N := some 80) #[true, true, true, false, true, false, false, false] rfl rfl (one_of HT_.out m8_q) (by decide) (fun K hK => ?_)
    refine goes_ Try.func12 m8_q rfl #[.slice A0 l0.length c0] (by rfl) rfl rfl m1_q ?_
    with_reducible refine (laws_toStepS.calls kj26 _ _ l0 t241 _ ?side1 ?side2 A60.out).mono ?_
    (case side1 => exact m25_q)
    (case side2 => exact m39_q)
    rintro e w' ⟨v242, rfl, ho0, hb⟩
    refine ⟨_, rfl, ?_⟩
    have HO243 := Ae_q (Kd.S_lower (Kd.S_new' (Kd.S_new' ho0 (rT_q (rup HO_8.out))) (rT_q (rup HO_11.out))) (bZ_q m0_q))
    replace HO_8 := Ae_q (rO_q (rup HO_8.out) hb)
    replace HO_11 := Ae_q (rO_q (rup HO_11.out) hb)
    replace BK200 := Ae_q (bB_q (g := gb200) (o := .cells #[.int .i64 a2_0, .int .i64 a2_1, .int .i64 a2_2] 25 (0, 0)) (bup BK200.out) hb)
    replace HB := Ae_q (bT_q m0_q hb)
    (try clear hb)
    (try clear hb2)
    (try clear hk)
    (try clear hi)
    (try clear ho0)
    refine hK.out _ _ ⟨(bC_q BK200.out 0).trans rfl, (bC_q BK200.out 1).trans rfl, (bC_q BK200.out 2).trans rfl⟩ (fun hHeld => ?_)
    clear hK K
    refine nJ_q ?_
    refine one_ (i := 3) (N := some 82) #[true, true, true, true, true, false, false, false] rfl rfl (one_of HT_.out m8_q) (by decide) (fun K hK => ?_)
    refine goes_ Try.func13 m8_q rfl #[.slice A1 l1.length c1] (by rfl) rfl rfl m1_q ?_
    with_reducible refine (laws_toIntS.calls kj26 _ _ l1 t244 _ ?side1 ?side2 A61.out).mono ?_
    (case side1 => exact m30_q)
    (case side2 => exact m46_q)
    rintro e w' ⟨v245, rfl, ho0, hb⟩
    refine ⟨_, rfl, ?_⟩
    replace HO243 := Ae_q (Kd.S_elder' m20_q (rB_q ho0) hb)
    have HO246 := Ae_q (rL_q (rW_q (rW_q ho0 (rT_q (rup HO_8.out))) (rT_q (rup HO_11.out))) (bZ_q m0_q))
    replace HO_8 := Ae_q (rE_q (rup HO_8.out) (rB_q ho0) hb)
    replace HO_11 := Ae_q (rE_q (rup HO_11.out) (rB_q ho0) hb)
    replace BK200 := Ae_q (bB_q (g := gb200) (o := .cells #[.int .i64 a2_0, .int .i64 a2_1, .int .i64 a2_2] 25 (0, 0)) (bup BK200.out) hb)
    replace HB := Ae_q (bT_q m0_q hb)
    (try clear hb)
    (try clear hb2)
    (try clear hk)
    (try clear hi)
    (try clear ho0)
    refine hK.out _ _ ⟨(bC_q BK200.out 0).trans rfl, (bC_q BK200.out 1).trans rfl, (bC_q BK200.out 2).trans rfl⟩ (fun hHeld => ?_)
    clear hK K
    refine nJ_q ?_
    refine one_ (i := 5) (N := some 84) #[true, true, true, true, true, true, false, false] rfl rfl (one_of HT_.out m8_q) (by decide) (fun K hK => ?_)
    refine goes_ Try.func14 m8_q rfl #[.agg #[.int .i64 a2_0, .int .i64 a2_1, .int .i64 a2_2]] (by rfl) rfl rfl m1_q ?_
    with_reducible refine (laws_toOutage.calls a2_0 a2_1 a2_2 t247 t248 t249 _ A62.out).mono ?_
    rintro e w' ⟨rfl, hb⟩
    refine ⟨_, rfl, ?_⟩
    replace HO_8 := Ae_q (rO_q (rup HO_8.out) hb)
    replace HO_11 := Ae_q (rO_q (rup HO_11.out) hb)
    replace HO243 := Ae_q (Kd.S_below m20_q hb)
    replace HO246 := Ae_q (rO_q (rup HO246.out) hb)
    replace BK200 := Ae_q (bB_q (g := gb200) (o := .cells #[.int .i64 a2_0, .int .i64 a2_1, .int .i64 a2_2] 25 (0, 0)) (bup BK200.out) hb)
    replace HB := Ae_q (bT_q m0_q hb)
    (try clear hb)
    (try clear hb2)
    (try clear hk)
    (try clear hi)
    obtain ⟨Ao73, co73, eo73⟩ := Kd.S_slice HO243.out
    (first | subst eo73 | (injection eo73 with f1_ f2_ f3_; have f4_ := f1_.symm; have f5_ := f3_.symm; clear f1_ f2_ f3_; subst f4_; subst f5_))
    obtain ⟨Ao74, co74, eo74⟩ := rS_q HO246.out
    (first | subst eo74 | (injection eo74 with f1_ f2_ f3_; have f4_ := f1_.symm; have f5_ := f3_.symm; clear f1_ f2_ f3_; subst f4_; subst f5_))
    refine hK.out _ _ ⟨(bC_q BK200.out 0).trans rfl, (bC_q BK200.out 1).trans rfl, (bC_q BK200.out 2).trans rfl⟩ (fun hHeld => ?_)
    clear hK K
    refine nJ_q ?_
    refine one_ (i := 6) (N := some 85) #[true, true, true, true, true, true, true, false] rfl rfl (one_of HT_.out m8_q) (by decide) (fun K hK => ?_)
    refine goes_ Try.func15 m8_q rfl #[.slice Ao73 t241.length co73, .slice Ao74 t244.length co74, .agg #[.int .i64 t247, .int .i64 t248, .int .i64 t249]] (by rfl) rfl rfl m1_q ?_
    with_reducible refine (impl_OutageHits.calls kj26 _ _ t241 _ _ t244 t247 t248 t249 t250 _ ?side1 ?side2 ?side3 ?side4 A63.out).mono ?_
    (case side1 => exact m29_q)
    (case side2 => exact m63_q)
    (case side3 => exact m68_q)
    (case side4 => exact (rR_q HO246.out).2.1)
    rintro e w' ⟨v251, rfl, ho0, hb⟩
    refine ⟨_, rfl, ?_⟩
    replace HO243 := Ae_q (Kd.S_elder' m20_q (rB_q ho0) hb)
    have HO252 := Ae_q (rL_q (rW_q (rW_q (rW_q ho0 (rT_q (rup HO_8.out))) (rT_q (rup HO_11.out))) (rT_q (rup HO246.out))) (bZ_q m0_q))
    replace HO_8 := Ae_q (rE_q (rup HO_8.out) (rB_q ho0) hb)
    replace HO_11 := Ae_q (rE_q (rup HO_11.out) (rB_q ho0) hb)
    replace HO246 := Ae_q (rE_q (rup HO246.out) (rB_q ho0) hb)
    replace BK200 := Ae_q (bB_q (g := gb200) (o := .cells #[.int .i64 a2_0, .int .i64 a2_1, .int .i64 a2_2] 25 (0, 0)) (bup BK200.out) hb)
    replace HB := Ae_q (bT_q m0_q hb)
    (try clear hb)
    (try clear hb2)
    (try clear hk)
    (try clear hi)
    (try clear ho0)
    refine hK.out _ _ ⟨(bC_q BK200.out 0).trans rfl, (bC_q BK200.out 1).trans rfl, (bC_q BK200.out 2).trans rfl⟩ (fun hHeld => ?_)
    clear hK K
    refine nJ_q ?_
    refine pJ HT_ 7 15 rfl rfl ?_
    refine done_ (done_of HT_.out m8_q) ?_
    obtain ⟨Ao76, co76, eo76⟩ := rS_q HO252.out
    subst eo76
    try go_wp2_with (first | ((first | ((with_reducible refine gC_q (f := 16) rfl ?_); refine gL_q (some 88) rfl rfl Try.func16 m8_q rfl #[.slice Ao76 t250.length co76, .slice Ao45 t211.length co45] rfl m1_q ?_; (with_reducible refine (laws_eqIntS.calls kj26 _ _ t250 _ _ t211 true _ ?side1 ?side2 ?side3 ?side4 A64.out).mono ?_); (case side1 => exact m69_q); (case side2 => exact (rR_q HO252.out).2.1); (case side3 => exact m70_q); (case side4 => exact (rR_q HO_8.out).2.1)) | ((with_reducible refine gC_q (f := 20) rfl ?_); refine gL_q (some 92) rfl rfl Try.func20 m8_q rfl #[.slice Ao44 t239.length co44, .int .i64 1] rfl m14_q ?_; (with_reducible refine (laws_heldIntS.calls kj26 _ _ t239 1 t254 _ ?side1 ?side2 A66.out).mono ?_); (case side1 => exact m44_q); (case side2 => exact m24_q))); rintro e w' ⟨rfl, ⟨nd, rfl⟩⟩; refine ⟨_, rfl, ?_⟩))
    go_ret
    exact ⟨m2_q, m0_q⟩
   rw [if_neg c67] at H
   have c67b0 : decide (t254 < 0) = false := dF_q c67
   clear c67
   by_cases c77 : t254 = t238
   ·rw [if_pos c77] at H
    have c77b0 : (t254 == t238) = true := beq_iff_eq.mpr c77
    have c77b1 : (t254 != t238) = false := nE_q.mpr c77
    clear c77
    obtain rfl := oI_q H
    try go_wp2_with (first | ((with_reducible refine gC_q (f := 19) rfl ?_); refine gL_q (some 70) rfl rfl Try.func19 m8_q rfl #[.slice Ao44 t223.length co44, .int .i64 1] rfl m1_q ?_; (with_reducible refine (laws_markIntS.calls kj26 (fun k_ => some k_ = (.slice Ao44 t223.length co44 : Value).ownBlock) (.slice Ao44 t223.length co44) t223 1 t238 t239 w _ ?side1 ?side2 A55.out).mono ?_); (case side1 => exact m0_q); (case side2 => exact m52_q); rintro e w78 ⟨rfl, hy0, hb, hkp⟩; refine ⟨_, rfl, ?_⟩; replace HO_8 := Ae_q (rM_q (ok' := fun k_ => some k_ ≠ (.slice Ao44 t223.length co44 : Value).ownBlock) (Kd.R_keptB (HO_8.out) hkp (fun k_ hk_ hs_ => (hk_) hs_)) (fun k_ hk_ => hk_.1)); replace BK200 := Ae_q (blk_kept (bup BK200.out) hkp (fun hs_ => (fun e_ => (Kd.R_ne HO_11.out BK200.out (by decide)) e_) hs_)); replace HO_11 := Ae_q (Kd.R_reok rfl hy0 (fun k_ e_ => HO_11.out.1 k_ e_)); replace HB := Ae_q (hb); (try clear hb); (try clear hkp); (try clear hy0)) | ((with_reducible refine gC_q (f := 20) rfl ?_); refine gL_q (some 73) rfl rfl Try.func20 m8_q rfl #[.slice Ao44 t239.length co44, .int .i64 1] rfl m14_q ?_; (with_reducible refine (laws_heldIntS.calls kj26 _ _ t239 1 t240 _ ?side1 ?side2 A56.out).mono ?_); (case side1 => exact m44_q); (case side2 => exact m24_q); rintro e w' ⟨rfl, ⟨nd, rfl⟩⟩; refine ⟨_, rfl, ?_⟩))
    (try (rw [drewN_self w78]; generalize hq_ : World.drewN w78 _ = w78; have n0_ : Aside0 (Kd.R kI_q 3 w78 w.heap.size (fun k_ => some k_ ≠ (.slice Ao45 t211.length co45 : Value).ownBlock) (.slice Ao44 t223.length co44) t239) := ⟨m61_q⟩; have n1_ : Aside0 (Kd.R kI_q 3 w78 w.heap.size (fun k_ => some k_ ≠ (.slice Ao44 t223.length co44 : Value).ownBlock) (.slice Ao45 t211.length co45) t211) := ⟨m66_q⟩; have n2_ : Aside0 (w78.heap[gb200]? = some (.cells #[.int .i64 a2_0, .int .i64 a2_1, .int .i64 a2_2] 25 (0, 0))) := ⟨m62_q⟩; have n3_ : Aside0 (Below w.heap.size w w78) := ⟨by rw [← hq_]; exact m0_q⟩; clear HO_11 HO_8 BK200 HB hq_; have HO_11 := n0_; have HO_8 := n1_; have BK200 := n2_; have HB := n3_; clear n0_ n1_ n2_ n3_))
    replace HO_8 := Ae_q (rD_q HO_8.out)
    replace HO_11 := Ae_q (rD_q HO_11.out)
    replace BK200 := Ae_q (bW_q BK200.out)
    replace HB := Ae_q (bD_q HB.out)
    refine start_ (n := 8) (S := fun w' => w'.cell? ⟨gb200, 0, none⟩ = some (.int .i64 a2_0) ∧ w'.cell? ⟨gb200, 1, none⟩ = some (.int .i64 a2_1) ∧ w'.cell? ⟨gb200, 2, none⟩ = some (.int .i64 a2_2)) (ds := []) #[false, false, false, false, false, false, false, false] m8_q rfl rfl ⟨(bC_q BK200.out 0).trans rfl, (bC_q BK200.out 1).trans rfl, (bC_q BK200.out 2).trans rfl⟩ (fun hHeld => ?_); refine with_tabW laws_FnExactOutageHits.tab30 laws_FnExactOutageHits.bits30 (fun HT_ HW_ => ?_)
    generalize w78.drew = w79 at HO_8 HO_11 BK200 HB hHeld ⊢
    refine pJ HT_ 0 79 rfl rfl ?_
    refine pJ HT_ 2 81 rfl rfl ?_
    refine take_ (i := 4) (N := some 83) (v := ?_) (a' := ?_) #[true, false, true, false, true, false, false, false] rfl rfl (take_ofW HT_.out HW_.out m8_q) (fun _ _ _ h => h) (Or.inl ⟨by rfl, ?_⟩) hHeld ?_ ?_
    rotate_left
    ·rintro w' ⟨s0, s1, s2⟩
     go_simp
     with_reducible rfl
    rotate_left
    ·simp only [pS_q]
     rfl
    refine one_ (i := 1) (N := some 80) #[true, true, true, false, true, false, false, false] rfl rfl (one_of HT_.out m8_q) (by decide) (fun K hK => ?_)
    refine goes_ Try.func12 m8_q rfl #[.slice A0 l0.length c0] (by rfl) rfl rfl m1_q ?_
    with_reducible refine (laws_toStepS.calls kj26 _ _ l0 t241 _ ?side1 ?side2 A60.out).mono ?_
    (case side1 => exact m25_q)
    (case side2 => exact m39_q)
    rintro e w' ⟨v242, rfl, ho0, hb⟩
    refine ⟨_, rfl, ?_⟩
    have HO243 := Ae_q (Kd.S_lower (Kd.S_new' (Kd.S_new' ho0 (rT_q (rup HO_8.out))) (rT_q (rup HO_11.out))) (bZ_q m0_q))
    replace HO_8 := Ae_q (rO_q (rup HO_8.out) hb)
    replace HO_11 := Ae_q (rO_q (rup HO_11.out) hb)
    replace BK200 := Ae_q (bB_q (g := gb200) (o := .cells #[.int .i64 a2_0, .int .i64 a2_1, .int .i64 a2_2] 25 (0, 0)) (bup BK200.out) hb)
    replace HB := Ae_q (bT_q m0_q hb)
    (try clear hb)
    (try clear hb2)
    (try clear hk)
    (try clear hi)
    (try clear ho0)
    refine hK.out _ _ ⟨(bC_q BK200.out 0).trans rfl, (bC_q BK200.out 1).trans rfl, (bC_q BK200.out 2).trans rfl⟩ (fun hHeld => ?_)
    clear hK K
    refine nJ_q ?_
    refine one_ (i := 3) (N := some 82) #[true, true, true, true, true, false, false, false] rfl rfl (one_of HT_.out m8_q) (by decide) (fun K hK => ?_)
    refine goes_ Try.func13 m8_q rfl #[.slice A1 l1.length c1] (by rfl) rfl rfl m1_q ?_
    with_reducible refine (laws_toIntS.calls kj26 _ _ l1 t244 _ ?side1 ?side2 A61.out).mono ?_
    (case side1 => exact m30_q)
    (case side2 => exact m46_q)
    rintro e w' ⟨v245, rfl, ho0, hb⟩
    refine ⟨_, rfl, ?_⟩
    replace HO243 := Ae_q (Kd.S_elder' m20_q (rB_q ho0) hb)
    have HO246 := Ae_q (rL_q (rW_q (rW_q ho0 (rT_q (rup HO_8.out))) (rT_q (rup HO_11.out))) (bZ_q m0_q))
    replace HO_8 := Ae_q (rE_q (rup HO_8.out) (rB_q ho0) hb)
    replace HO_11 := Ae_q (rE_q (rup HO_11.out) (rB_q ho0) hb)
    replace BK200 := Ae_q (bB_q (g := gb200) (o := .cells #[.int .i64 a2_0, .int .i64 a2_1, .int .i64 a2_2] 25 (0, 0)) (bup BK200.out) hb)
    replace HB := Ae_q (bT_q m0_q hb)
    (try clear hb)
    (try clear hb2)
    (try clear hk)
    (try clear hi)
    (try clear ho0)
    refine hK.out _ _ ⟨(bC_q BK200.out 0).trans rfl, (bC_q BK200.out 1).trans rfl, (bC_q BK200.out 2).trans rfl⟩ (fun hHeld => ?_)
    clear hK K
    refine nJ_q ?_
    refine one_ (i := 5) (N := some 84) #[true, true, true, true, true, true, false, false] rfl rfl (one_of HT_.out m8_q) (by decide) (fun K hK => ?_)
    refine goes_ Try.func14 m8_q rfl #[.agg #[.int .i64 a2_0, .int .i64 a2_1, .int .i64 a2_2]] (by rfl) rfl rfl m1_q ?_
    with_reducible refine (laws_toOutage.calls a2_0 a2_1 a2_2 t247 t248 t249 _ A62.out).mono ?_
    rintro e w' ⟨rfl, hb⟩
    refine ⟨_, rfl, ?_⟩
    replace HO_8 := Ae_q (rO_q (rup HO_8.out) hb)
    replace HO_11 := Ae_q (rO_q (rup HO_11.out) hb)
    replace HO243 := Ae_q (Kd.S_below m20_q hb)
    replace HO246 := Ae_q (rO_q (rup HO246.out) hb)
    replace BK200 := Ae_q (bB_q (g := gb200) (o := .cells #[.int .i64 a2_0, .int .i64 a2_1, .int .i64 a2_2] 25 (0, 0)) (bup BK200.out) hb)
    replace HB := Ae_q (bT_q m0_q hb)
    (try clear hb)
    (try clear hb2)
    (try clear hk)
    (try clear hi)
    obtain ⟨Ao83, co83, eo83⟩ := Kd.S_slice HO243.out
    (first | subst eo83 | (injection eo83 with f1_ f2_ f3_; have f4_ := f1_.symm; have f5_ := f3_.symm; clear f1_ f2_ f3_; subst f4_; subst f5_))
    obtain ⟨Ao84, co84, eo84⟩ := rS_q HO246.out
    (first | subst eo84 | (injection eo84 with f1_ f2_ f3_; have f4_ := f1_.symm; have f5_ := f3_.symm; clear f1_ f2_ f3_; subst f4_; subst f5_))
    refine hK.out _ _ ⟨(bC_q BK200.out 0).trans rfl, (bC_q BK200.out 1).trans rfl, (bC_q BK200.out 2).trans rfl⟩ (fun hHeld => ?_)
    clear hK K
    refine nJ_q ?_
    refine one_ (i := 6) (N := some 85) #[true, true, true, true, true, true, true, false] rfl rfl (one_of HT_.out m8_q) (by decide) (fun K hK => ?_)
    refine goes_ Try.func15 m8_q rfl #[.slice Ao83 t241.length co83, .slice Ao84 t244.length co84, .agg #[.int .i64 t247, .int .i64 t248, .int .i64 t249]] (by rfl) rfl rfl m1_q ?_
    with_reducible refine (impl_OutageHits.calls kj26 _ _ t241 _ _ t244 t247 t248 t249 t250 _ ?side1 ?side2 ?side3 ?side4 A63.out).mono ?_
    (case side1 => exact m29_q)
    (case side2 => exact m63_q)
    (case side3 => exact m68_q)
    (case side4 => exact (rR_q HO246.out).2.1)
    rintro e w' ⟨v251, rfl, ho0, hb⟩
    refine ⟨_, rfl, ?_⟩
    replace HO243 := Ae_q (Kd.S_elder' m20_q (rB_q ho0) hb)
    have HO252 := Ae_q (rL_q (rW_q (rW_q (rW_q ho0 (rT_q (rup HO_8.out))) (rT_q (rup HO_11.out))) (rT_q (rup HO246.out))) (bZ_q m0_q))
    replace HO_8 := Ae_q (rE_q (rup HO_8.out) (rB_q ho0) hb)
    replace HO_11 := Ae_q (rE_q (rup HO_11.out) (rB_q ho0) hb)
    replace HO246 := Ae_q (rE_q (rup HO246.out) (rB_q ho0) hb)
    replace BK200 := Ae_q (bB_q (g := gb200) (o := .cells #[.int .i64 a2_0, .int .i64 a2_1, .int .i64 a2_2] 25 (0, 0)) (bup BK200.out) hb)
    replace HB := Ae_q (bT_q m0_q hb)
    (try clear hb)
    (try clear hb2)
    (try clear hk)
    (try clear hi)
    (try clear ho0)
    refine hK.out _ _ ⟨(bC_q BK200.out 0).trans rfl, (bC_q BK200.out 1).trans rfl, (bC_q BK200.out 2).trans rfl⟩ (fun hHeld => ?_)
    clear hK K
    refine nJ_q ?_
    refine pJ HT_ 7 15 rfl rfl ?_
    refine done_ (done_of HT_.out m8_q) ?_
    obtain ⟨Ao86, co86, eo86⟩ := rS_q HO252.out
    subst eo86
    try go_wp2_with (first | ((first | ((with_reducible refine gC_q (f := 16) rfl ?_); refine gL_q (some 88) rfl rfl Try.func16 m8_q rfl #[.slice Ao86 t250.length co86, .slice Ao45 t211.length co45] rfl m1_q ?_; (with_reducible refine (laws_eqIntS.calls kj26 _ _ t250 _ _ t211 true _ ?side1 ?side2 ?side3 ?side4 A64.out).mono ?_); (case side1 => exact m69_q); (case side2 => exact (rR_q HO252.out).2.1); (case side3 => exact m70_q); (case side4 => exact (rR_q HO_8.out).2.1)) | ((with_reducible refine gC_q (f := 20) rfl ?_); refine gL_q (some 92) rfl rfl Try.func20 m8_q rfl #[.slice Ao44 t239.length co44, .int .i64 1] rfl m14_q ?_; (with_reducible refine (laws_heldIntS.calls kj26 _ _ t239 1 t254 _ ?side1 ?side2 A66.out).mono ?_); (case side1 => exact m44_q); (case side2 => exact m24_q))); rintro e w' ⟨rfl, ⟨nd, rfl⟩⟩; refine ⟨_, rfl, ?_⟩))
    go_ret
    exact ⟨m2_q, m0_q⟩
   rw [if_neg c77] at H
   have c77b0 : (t254 == t238) = false := fN_q.mpr c77
   have c77b1 : (t254 != t238) = true := nI_q.mpr c77
   obtain rfl := oI_q H
   try go_wp2_with (first | ((with_reducible refine gC_q (f := 19) rfl ?_); refine gL_q (some 70) rfl rfl Try.func19 m8_q rfl #[.slice Ao44 t223.length co44, .int .i64 1] rfl m1_q ?_; (with_reducible refine (laws_markIntS.calls kj26 (fun k_ => some k_ = (.slice Ao44 t223.length co44 : Value).ownBlock) (.slice Ao44 t223.length co44) t223 1 t238 t239 w _ ?side1 ?side2 A55.out).mono ?_); (case side1 => exact m0_q); (case side2 => exact m52_q); rintro e w87 ⟨rfl, hy0, hb, hkp⟩; refine ⟨_, rfl, ?_⟩; replace HO_8 := Ae_q (rM_q (ok' := fun k_ => some k_ ≠ (.slice Ao44 t223.length co44 : Value).ownBlock) (Kd.R_keptB (HO_8.out) hkp (fun k_ hk_ hs_ => (hk_) hs_)) (fun k_ hk_ => hk_.1)); replace BK200 := Ae_q (blk_kept (bup BK200.out) hkp (fun hs_ => (fun e_ => (Kd.R_ne HO_11.out BK200.out (by decide)) e_) hs_)); replace HO_11 := Ae_q (Kd.R_reok rfl hy0 (fun k_ e_ => HO_11.out.1 k_ e_)); replace HB := Ae_q (hb); (try clear hb); (try clear hkp); (try clear hy0)) | ((with_reducible refine gC_q (f := 20) rfl ?_); refine gL_q (some 73) rfl rfl Try.func20 m8_q rfl #[.slice Ao44 t239.length co44, .int .i64 1] rfl m14_q ?_; (with_reducible refine (laws_heldIntS.calls kj26 _ _ t239 1 t240 _ ?side1 ?side2 A56.out).mono ?_); (case side1 => exact m44_q); (case side2 => exact m24_q); rintro e w' ⟨rfl, ⟨nd, rfl⟩⟩; refine ⟨_, rfl, ?_⟩))
   (try (rw [drewN_self w87]; generalize hq_ : World.drewN w87 _ = w87; have n0_ : Aside0 (Kd.R kI_q 3 w87 w.heap.size (fun k_ => some k_ ≠ (.slice Ao45 t211.length co45 : Value).ownBlock) (.slice Ao44 t223.length co44) t239) := ⟨m61_q⟩; have n1_ : Aside0 (Kd.R kI_q 3 w87 w.heap.size (fun k_ => some k_ ≠ (.slice Ao44 t223.length co44 : Value).ownBlock) (.slice Ao45 t211.length co45) t211) := ⟨m66_q⟩; have n2_ : Aside0 (w87.heap[gb200]? = some (.cells #[.int .i64 a2_0, .int .i64 a2_1, .int .i64 a2_2] 25 (0, 0))) := ⟨m62_q⟩; have n3_ : Aside0 (Below w.heap.size w w87) := ⟨by rw [← hq_]; exact m0_q⟩; clear HO_11 HO_8 BK200 HB hq_; have HO_11 := n0_; have HO_8 := n1_; have BK200 := n2_; have HB := n3_; clear n0_ n1_ n2_ n3_))
   replace HO_8 := Ae_q (rD_q HO_8.out)
   replace HO_11 := Ae_q (rD_q HO_11.out)
   replace BK200 := Ae_q (bW_q BK200.out)
   replace HB := Ae_q (bD_q HB.out)
   refine start_ (n := 8) (S := fun w' => w'.cell? ⟨gb200, 0, none⟩ = some (.int .i64 a2_0) ∧ w'.cell? ⟨gb200, 1, none⟩ = some (.int .i64 a2_1) ∧ w'.cell? ⟨gb200, 2, none⟩ = some (.int .i64 a2_2)) (ds := []) #[false, false, false, false, false, false, false, false] m8_q rfl rfl ⟨(bC_q BK200.out 0).trans rfl, (bC_q BK200.out 1).trans rfl, (bC_q BK200.out 2).trans rfl⟩ (fun hHeld => ?_); refine with_tabW laws_FnExactOutageHits.tab30 laws_FnExactOutageHits.bits30 (fun HT_ HW_ => ?_)
   generalize w87.drew = w88 at HO_8 HO_11 BK200 HB hHeld ⊢
   refine pJ HT_ 0 79 rfl rfl ?_
   refine pJ HT_ 2 81 rfl rfl ?_
   refine take_ (i := 4) (N := some 83) (v := ?_) (a' := ?_) #[true, false, true, false, true, false, false, false] rfl rfl (take_ofW HT_.out HW_.out m8_q) (fun _ _ _ h => h) (Or.inl ⟨by rfl, ?_⟩) hHeld ?_ ?_
   rotate_left
   ·rintro w' ⟨s0, s1, s2⟩
    go_simp
    with_reducible rfl
   rotate_left
   ·simp only [pS_q]
    rfl
   refine one_ (i := 1) (N := some 80) #[true, true, true, false, true, false, false, false] rfl rfl (one_of HT_.out m8_q) (by decide) (fun K hK => ?_)
   refine goes_ Try.func12 m8_q rfl #[.slice A0 l0.length c0] (by rfl) rfl rfl m1_q ?_
   with_reducible refine (laws_toStepS.calls kj26 _ _ l0 t241 _ ?side1 ?side2 A60.out).mono ?_
   (case side1 => exact m25_q)
   (case side2 => exact m39_q)
   rintro e w' ⟨v242, rfl, ho0, hb⟩
   refine ⟨_, rfl, ?_⟩
   have HO243 := Ae_q (Kd.S_lower (Kd.S_new' (Kd.S_new' ho0 (rT_q (rup HO_8.out))) (rT_q (rup HO_11.out))) (bZ_q m0_q))
   replace HO_8 := Ae_q (rO_q (rup HO_8.out) hb)
   replace HO_11 := Ae_q (rO_q (rup HO_11.out) hb)
   replace BK200 := Ae_q (bB_q (g := gb200) (o := .cells #[.int .i64 a2_0, .int .i64 a2_1, .int .i64 a2_2] 25 (0, 0)) (bup BK200.out) hb)
   replace HB := Ae_q (bT_q m0_q hb)
   (try clear hb)
   (try clear hb2)
   (try clear hk)
   (try clear hi)
   (try clear ho0)
   refine hK.out _ _ ⟨(bC_q BK200.out 0).trans rfl, (bC_q BK200.out 1).trans rfl, (bC_q BK200.out 2).trans rfl⟩ (fun hHeld => ?_)
   clear hK K
   refine nJ_q ?_
   refine one_ (i := 3) (N := some 82) #[true, true, true, true, true, false, false, false] rfl rfl (one_of HT_.out m8_q) (by decide) (fun K hK => ?_)
   refine goes_ Try.func13 m8_q rfl #[.slice A1 l1.length c1] (by rfl) rfl rfl m1_q ?_
   with_reducible refine (laws_toIntS.calls kj26 _ _ l1 t244 _ ?side1 ?side2 A61.out).mono ?_
   (case side1 => exact m30_q)
   (case side2 => exact m46_q)
   rintro e w' ⟨v245, rfl, ho0, hb⟩
   refine ⟨_, rfl, ?_⟩
   replace HO243 := Ae_q (Kd.S_elder' m20_q (rB_q ho0) hb)
   have HO246 := Ae_q (rL_q (rW_q (rW_q ho0 (rT_q (rup HO_8.out))) (rT_q (rup HO_11.out))) (bZ_q m0_q))
   replace HO_8 := Ae_q (rE_q (rup HO_8.out) (rB_q ho0) hb)
   replace HO_11 := Ae_q (rE_q (rup HO_11.out) (rB_q ho0) hb)
   replace BK200 := Ae_q (bB_q (g := gb200) (o := .cells #[.int .i64 a2_0, .int .i64 a2_1, .int .i64 a2_2] 25 (0, 0)) (bup BK200.out) hb)
   replace HB := Ae_q (bT_q m0_q hb)
   (try clear hb)
   (try clear hb2)
   (try clear hk)
   (try clear hi)
   (try clear ho0)
   refine hK.out _ _ ⟨(bC_q BK200.out 0).trans rfl, (bC_q BK200.out 1).trans rfl, (bC_q BK200.out 2).trans rfl⟩ (fun hHeld => ?_)
   clear hK K
   refine nJ_q ?_
   refine one_ (i := 5) (N := some 84) #[true, true, true, true, true, true, false, false] rfl rfl (one_of HT_.out m8_q) (by decide) (fun K hK => ?_)
   refine goes_ Try.func14 m8_q rfl #[.agg #[.int .i64 a2_0, .int .i64 a2_1, .int .i64 a2_2]] (by rfl) rfl rfl m1_q ?_
   with_reducible refine (laws_toOutage.calls a2_0 a2_1 a2_2 t247 t248 t249 _ A62.out).mono ?_
   rintro e w' ⟨rfl, hb⟩
   refine ⟨_, rfl, ?_⟩
   replace HO_8 := Ae_q (rO_q (rup HO_8.out) hb)
   replace HO_11 := Ae_q (rO_q (rup HO_11.out) hb)
   replace HO243 := Ae_q (Kd.S_below m20_q hb)
   replace HO246 := Ae_q (rO_q (rup HO246.out) hb)
   replace BK200 := Ae_q (bB_q (g := gb200) (o := .cells #[.int .i64 a2_0, .int .i64 a2_1, .int .i64 a2_2] 25 (0, 0)) (bup BK200.out) hb)
   replace HB := Ae_q (bT_q m0_q hb)
   (try clear hb)
   (try clear hb2)
   (try clear hk)
   (try clear hi)
   obtain ⟨Ao92, co92, eo92⟩ := Kd.S_slice HO243.out
   (first | subst eo92 | (injection eo92 with f1_ f2_ f3_; have f4_ := f1_.symm; have f5_ := f3_.symm; clear f1_ f2_ f3_; subst f4_; subst f5_))
   obtain ⟨Ao93, co93, eo93⟩ := rS_q HO246.out
   (first | subst eo93 | (injection eo93 with f1_ f2_ f3_; have f4_ := f1_.symm; have f5_ := f3_.symm; clear f1_ f2_ f3_; subst f4_; subst f5_))
   refine hK.out _ _ ⟨(bC_q BK200.out 0).trans rfl, (bC_q BK200.out 1).trans rfl, (bC_q BK200.out 2).trans rfl⟩ (fun hHeld => ?_)
   clear hK K
   refine nJ_q ?_
   refine one_ (i := 6) (N := some 85) #[true, true, true, true, true, true, true, false] rfl rfl (one_of HT_.out m8_q) (by decide) (fun K hK => ?_)
   refine goes_ Try.func15 m8_q rfl #[.slice Ao92 t241.length co92, .slice Ao93 t244.length co93, .agg #[.int .i64 t247, .int .i64 t248, .int .i64 t249]] (by rfl) rfl rfl m1_q ?_
   with_reducible refine (impl_OutageHits.calls kj26 _ _ t241 _ _ t244 t247 t248 t249 t250 _ ?side1 ?side2 ?side3 ?side4 A63.out).mono ?_
   (case side1 => exact m29_q)
   (case side2 => exact m63_q)
   (case side3 => exact m68_q)
   (case side4 => exact (rR_q HO246.out).2.1)
   rintro e w' ⟨v251, rfl, ho0, hb⟩
   refine ⟨_, rfl, ?_⟩
   replace HO243 := Ae_q (Kd.S_elder' m20_q (rB_q ho0) hb)
   have HO252 := Ae_q (rL_q (rW_q (rW_q (rW_q ho0 (rT_q (rup HO_8.out))) (rT_q (rup HO_11.out))) (rT_q (rup HO246.out))) (bZ_q m0_q))
   replace HO_8 := Ae_q (rE_q (rup HO_8.out) (rB_q ho0) hb)
   replace HO_11 := Ae_q (rE_q (rup HO_11.out) (rB_q ho0) hb)
   replace HO246 := Ae_q (rE_q (rup HO246.out) (rB_q ho0) hb)
   replace BK200 := Ae_q (bB_q (g := gb200) (o := .cells #[.int .i64 a2_0, .int .i64 a2_1, .int .i64 a2_2] 25 (0, 0)) (bup BK200.out) hb)
   replace HB := Ae_q (bT_q m0_q hb)
   (try clear hb)
   (try clear hb2)
   (try clear hk)
   (try clear hi)
   (try clear ho0)
   refine hK.out _ _ ⟨(bC_q BK200.out 0).trans rfl, (bC_q BK200.out 1).trans rfl, (bC_q BK200.out 2).trans rfl⟩ (fun hHeld => ?_)
   clear hK K
   refine nJ_q ?_
   refine pJ HT_ 7 15 rfl rfl ?_
   refine done_ (done_of HT_.out m8_q) ?_
   obtain ⟨Ao95, co95, eo95⟩ := rS_q HO252.out
   subst eo95
   try go_wp2_with (first | ((first | ((with_reducible refine gC_q (f := 16) rfl ?_); refine gL_q (some 88) rfl rfl Try.func16 m8_q rfl #[.slice Ao95 t250.length co95, .slice Ao45 t211.length co45] rfl m1_q ?_; (with_reducible refine (laws_eqIntS.calls kj26 _ _ t250 _ _ t211 true _ ?side1 ?side2 ?side3 ?side4 A64.out).mono ?_); (case side1 => exact m69_q); (case side2 => exact (rR_q HO252.out).2.1); (case side3 => exact m70_q); (case side4 => exact (rR_q HO_8.out).2.1)) | ((with_reducible refine gC_q (f := 20) rfl ?_); refine gL_q (some 92) rfl rfl Try.func20 m8_q rfl #[.slice Ao44 t239.length co44, .int .i64 1] rfl m14_q ?_; (with_reducible refine (laws_heldIntS.calls kj26 _ _ t239 1 t254 _ ?side1 ?side2 A66.out).mono ?_); (case side1 => exact m44_q); (case side2 => exact m24_q))); rintro e w' ⟨rfl, ⟨nd, rfl⟩⟩; refine ⟨_, rfl, ?_⟩))
   go_ret
   exact ⟨m2_q, m0_q⟩

def laws_FnExactOutageHits.Pure : Prop := ∀ (l0 : List (S59)) (l1 : List Int) (a2_0 : Int) (a2_1 : Int) (a2_2 : Int), l0.length ≤ maxLen → (∀ x ∈ l0, x.f3.length ≤ maxLen) → l1.length ≤ maxLen → (∀ x ∈ l1, (Lit.int .i64 x).wf = true) → ∃ k, laws_FnExactOutageHits.f k l0 l1 a2_0 a2_1 a2_2 = some true

end Go.Proofs.Ytfnpiacmlahegaa.PRp
