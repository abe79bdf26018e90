import Derived.Test.YtfnpiacmlahegaaVDPRpx0
import Derived.Test.YtfnpiacmlahegaaVDPRpx5
import Derived.Test.YtfnpiacmlahegaaVDPRpx23
import Derived.Test.YtfnpiacmlahegaaVDPRpx24
import Derived.Test.YtfnpiacmlahegaaVDPRpx26
import Derived.Test.YtfnpiacmlahegaaVDPRpx27
namespace Go.Proofs.Ytfnpiacmlahegaa.PRp
open Go.RowKit Go.Proofs.YtfnpiacmlahegaaW.PrintWords Go.Proofs.YtfnpiacmlahegaaW.PrintLast Go.Proofs.YtfnpiacmlahegaaW.PrintMore
attribute [local go_sem] max2_int min2_int max_two min_two max_three min_three max_four min_four
set_option linter.unusedVariables false
set_option linter.unusedSimpArgs false

mutual
def laws_FnRepairEarly.j0 : Nat → List Int → List Int → Bool → Option (Bool)
 | 0, _, _, _ => none
 | k + 1, x0, x1, x22 => if x22 = true then (some true) else ((spec_DrawOutageRepair.f k x0).bind fun bt712 => ((impl_OutageRepair.f k bt712.1 bt712.2.1 bt712.2.2.1 bt712.2.2.2.1 bt712.2.2.2.2.1 bt712.2.2.2.2.2.1 bt712.2.2.2.2.2.2).bind fun bt727 => ((spec_OutageRepair.f k bt712.1 bt712.2.1 bt712.2.2.1 bt712.2.2.2.1 bt712.2.2.2.2.1 bt712.2.2.2.2.2.1 bt712.2.2.2.2.2.2).bind fun bt731 => (if (bt727.2 != bt731.2) = true then (laws_FnRepairEarly.j1 k x1 bt712.1 bt712.2.2.2.1 bt727.1 bt727.2 bt731.1 bt731.2 true bt712.2.1 bt712.2.2.1 bt712.2.2.2.2.1 bt712.2.2.2.2.2.1 bt712.2.2.2.2.2.2) else ((laws_sameInts.f k bt727.1 bt731.1).bind fun t735 => (if t735 = true then (if bt727.2 = true then (laws_FnRepairEarly.j1 k x1 bt712.1 bt712.2.2.2.1 bt727.1 bt727.2 bt731.1 bt731.2 ((bt731.1.length : Int) == 0) bt712.2.1 bt712.2.2.1 bt712.2.2.2.2.1 bt712.2.2.2.2.2.1 bt712.2.2.2.2.2.2) else (laws_FnRepairEarly.j1 k x1 bt712.1 bt712.2.2.2.1 bt727.1 bt727.2 bt731.1 bt731.2 true bt712.2.1 bt712.2.2.1 bt712.2.2.2.2.1 bt712.2.2.2.2.2.1 bt712.2.2.2.2.2.2)) else (laws_FnRepairEarly.j1 k x1 bt712.1 bt712.2.2.2.1 bt727.1 bt727.2 bt731.1 bt731.2 true bt712.2.1 bt712.2.2.1 bt712.2.2.2.2.1 bt712.2.2.2.2.2.1 bt712.2.2.2.2.2.2)))))))
def laws_FnRepairEarly.j1 : Nat → List Int → List (S63) → List Int → List Int → Bool → List Int → Bool → Bool → Int → List Int → Int → Int → Int → Option (Bool)
 | 0, _, _, _, _, _, _, _, _, _, _, _, _, _ => none
 | k + 1, x1, x5, x7, x9, x10, x11, x12, x63, x726000, x726001, x727000, x727001, x727002 => if x63 = true then (if (x10 == x12) = true then ((laws_sameInts.f k x9 x11).bind fun t736 => (some t736)) else (some false)) else (if (x9.length : Int) = 0 then (none) else (if 0 ≤ (wrap64 ((wrap64 (1 + ((x1.length : Int) % (x9.length : Int)))) - 1)) then (if (wrap64 ((wrap64 (1 + ((x1.length : Int) % (x9.length : Int)))) - 1)) < (x9.length : Int) then (if (wrap64 ((wrap64 (1 + ((x1.length : Int) % (x9.length : Int)))) - 1)) < (x7.length : Int) then (if (rd x9 (wrap64 ((wrap64 (1 + ((x1.length : Int) % (x9.length : Int)))) - 1))) = (rd x7 (wrap64 ((wrap64 (1 + ((x1.length : Int) % (x9.length : Int)))) - 1))) then (some true) else ((some (([] : List Int) : List Int)).bind fun y739 => (if 0 ≤ (wrap64 (1 + ((x1.length : Int) % (x9.length : Int)))) then (if (wrap64 (1 + ((x1.length : Int) % (x9.length : Int)))) ≤ (x9.length : Int) then ((some (x9.take ((wrap64 (1 + ((x1.length : Int) % (x9.length : Int)))) : Int).toNat : List Int)).bind fun y742 => (if y739.length + y742.length < 17592186044416 then ((some (y739 ++ y742 : List Int)).bind fun y746 => (if (wrap64 ((wrap64 (1 + ((x1.length : Int) % (x9.length : Int)))) - 1)) < (y746.length : Int) then ((some (y746.set ((wrap64 ((wrap64 (1 + ((x1.length : Int) % (x9.length : Int)))) - 1)) : Int).toNat (wrap64 ((rd y746 (wrap64 ((wrap64 (1 + ((x1.length : Int) % (x9.length : Int)))) - 1))) - 1)) : List Int)).bind fun y750 => (if (wrap64 (1 + ((x1.length : Int) % (x9.length : Int)))) ≤ (x5.length : Int) then ((impl_PlanValid.f k (x5.take ((wrap64 (1 + ((x1.length : Int) % (x9.length : Int)))) : Int).toNat) x726000 x726001 y750).bind fun t755 => (if t755 = true then ((impl_OutageHits.f k (x5.take ((wrap64 (1 + ((x1.length : Int) % (x9.length : Int)))) : Int).toNat) y750 x727000 x727001 x727002).bind fun t760 => (some (decide ((t760.length : Int) > 0)))) else (some true))) else (none))) else (none))) else (none))) else (none)) else (none)))) else (none)) else (none)) else (none)))
end
def laws_FnRepairEarly.f (k : Nat) (l0 : List Int) (l1 : List Int) : Option (Bool) := if (l0.length : Int) > 1048576 then (laws_FnRepairEarly.j0 k l0 l1 true) else (laws_FnRepairEarly.j0 k l0 l1 (decide ((l1.length : Int) > 1048576)))
def laws_FnRepairEarly.T9 : Bool × List (List Nat × List Nat) := (true, [([], []), ([], []), ([1], [1]), ([0, 2], [0, 2]), ([3], [3]), ([], []), ([], []), ([6], [6]), ([5, 7], [5, 7]), ([8], [8]), ([4, 9], [4, 9])])
def laws_FnRepairEarly.B9 : List Nat := [0, 0, 2, 7, 15, 0, 0, 64, 224, 480, 1023]
theorem laws_FnRepairEarly.tab9 : rtab .any (opsOf Try.f6 9) = laws_FnRepairEarly.T9 := by kernel_rfl
theorem laws_FnRepairEarly.bits9 : waitsOk laws_FnRepairEarly.T9.2 laws_FnRepairEarly.B9 = true := by kernel_rfl
def laws_FnRepairEarly.T13 : Bool × List (List Nat × List Nat) := (true, [([], []), ([], []), ([0, 1], [0, 1]), ([], []), ([], []), ([2, 3, 4], [2, 3, 4]), ([5], [5]), ([6, 5], [6]), ([7], [7]), ([7], [7]), ([8, 9, 7], [7, 8, 9]), ([7], [7]), ([7], [7]), ([10, 11, 12, 7, 7], [7, 10, 11, 12]), ([13, 7], [7, 13]), ([14, 7], [7, 14]), ([7, 15], [7, 15]), ([16, 13, 0, 1, 2, 3, 4, 5, 6, 7, 8, 9, 10, 11, 12, 13, 14, 15, 16], [16])])
def laws_FnRepairEarly.B13 : List Nat := [0, 0, 3, 0, 0, 31, 63, 127, 255, 255, 1023, 255, 255, 8191, 16383, 32767, 65535, 131071]
theorem laws_FnRepairEarly.tab13 : rtab .any (opsOf Try.f6 13) = laws_FnRepairEarly.T13 := by kernel_rfl
theorem laws_FnRepairEarly.bits13 : waitsOk laws_FnRepairEarly.T13.2 laws_FnRepairEarly.B13 = true := by kernel_rfl
set_option maxHeartbeats 8000000 in
set_option maxRecDepth 100000 in
theorem laws_FnRepairEarly.calls (k : Nat) (A0 : Option Addr) (c0 : Nat) (l0 : List Int) (A1 : Option Addr) (c1 : Nat) (l1 : List Int) (r : Bool) (w : World) (hr0 : Kd.C (Kd.int .u8) w A0 l0.length l0) (hc0 : l0.length ≤ c0) (hr1 : Kd.C (Kd.int .u8) w A1 l1.length l1) (hc1 : l1.length ≤ c1) (h : laws_FnRepairEarly.f k l0 l1 = some r) :
    Calls Try.prog 6 #[.slice A0 l0.length c0, .slice A1 l1.length c1] w fun e w' => e = .returned (.bool r) ∧ Below w.heap.size w w' := by
 have hu43 := Try.underlying43
 have hu31 := Try.underlying31
 have HR0 := Ae_q hr0
 have HC0 := Ae_q hc0
 clear hr0 hc0
 have HR1 := Ae_q hr1
 have HC1 := Ae_q hc1
 clear hr1 hc1
 have HB := Ae_q (bR_q w.heap.size w)
 have H : (if (l0.length : Int) > 1048576 then (laws_FnRepairEarly.j0 k l0 l1 true) else (laws_FnRepairEarly.j0 k l0 l1 (decide ((l1.length : Int) > 1048576)))) = some r := h
 clear h
 have HC3 := Ae_q H
 clear H
 go_enter Try.func6, Try.ntmps6
 go_upto_region 1 with (fail)
 go_cut [22] (fun v22 wc => ∃ (kq : Nat) (x22_2 : Bool), v22 = .bool x22_2 ∧ Aside0 (laws_FnRepairEarly.j0 kq l0 l1 x22_2 = some r) ∧ Aside0 (kq ≤ k) ∧ Aside0 (Below w.heap.size w wc))
 case first =>
  have H := HC3.out
  clear HC3
  by_cases c4 : (l0.length : Int) > 1048576
  ·rw [if_pos c4] at H
   have c4b0 : decide (1048576 < (l0.length : Int)) = true := dT_q c4
   have c4b1 : decide (1048576 < l0.length) = true := dT_q (by omega)
   clear c4
   (first | rw [c4b0] | (simp only [i64_w, i32_w]; rw [c4b0]) | skip)
   have H' := Ae_q H
   clear H
   go_wp2
   go_meet
   case rel => exact ⟨_, (true), m7_q, H', ⟨m111_q⟩, ⟨bel HB.out⟩⟩
  rw [if_neg c4] at H
  have c4b0 : decide (1048576 < (l0.length : Int)) = false := dF_q c4
  have c4b1 : decide (1048576 < l0.length) = false := dF_q (by omega)
  clear c4
  (first | rw [c4b0] | (simp only [i64_w, i32_w]; rw [c4b0]) | skip)
  have H' := Ae_q H
  clear H
  go_wp2
  go_meet
  case rel => exact ⟨_, (decide ((l1.length : Int) > 1048576)), m7_q, H', ⟨m111_q⟩, ⟨bel HB.out⟩⟩
 case rest =>
  clear HC3
  try clear c1
  try clear p2
  try clear c4
  try clear c4b0
  try clear c4b1
  obtain ⟨kq, x22_2, rfl, HA, HJ2, HB⟩ := hcut
  cases kq with
  | zero => exact absurd HA.out (by simp [laws_FnRepairEarly.j0])
  | succ kj2 =>
   have H := HA.out
   clear HA
   simp only [laws_FnRepairEarly.j0] at H
   by_cases c5 : x22_2 = true
   ·subst c5
    have H1 : (some true) = some r := by rw [if_pos rfl] at H; exact H
    clear H
    have H := H1
    clear H1
    obtain rfl := oI_q H
    go_wp2
    go_ret
    exact ⟨m6_q, bel HB.out⟩
   replace c5 := fM_q.mpr c5
   subst c5
   have H1 : ((spec_DrawOutageRepair.f kj2 l0).bind fun bt712 => ((impl_OutageRepair.f kj2 bt712.1 bt712.2.1 bt712.2.2.1 bt712.2.2.2.1 bt712.2.2.2.2.1 bt712.2.2.2.2.2.1 bt712.2.2.2.2.2.2).bind fun bt727 => ((spec_OutageRepair.f kj2 bt712.1 bt712.2.1 bt712.2.2.1 bt712.2.2.2.1 bt712.2.2.2.2.1 bt712.2.2.2.2.2.1 bt712.2.2.2.2.2.2).bind fun bt731 => (if (bt727.2 != bt731.2) = true then (laws_FnRepairEarly.j1 kj2 l1 bt712.1 bt712.2.2.2.1 bt727.1 bt727.2 bt731.1 bt731.2 true bt712.2.1 bt712.2.2.1 bt712.2.2.2.2.1 bt712.2.2.2.2.2.1 bt712.2.2.2.2.2.2) else ((laws_sameInts.f kj2 bt727.1 bt731.1).bind fun t735 => (if t735 = true then (if bt727.2 = true then (laws_FnRepairEarly.j1 kj2 l1 bt712.1 bt712.2.2.2.1 bt727.1 bt727.2 bt731.1 bt731.2 ((bt731.1.length : Int) == 0) bt712.2.1 bt712.2.2.1 bt712.2.2.2.2.1 bt712.2.2.2.2.2.1 bt712.2.2.2.2.2.2) else (laws_FnRepairEarly.j1 kj2 l1 bt712.1 bt712.2.2.2.1 bt727.1 bt727.2 bt731.1 bt731.2 true bt712.2.1 bt712.2.2.1 bt712.2.2.2.2.1 bt712.2.2.2.2.2.1 bt712.2.2.2.2.2.2)) else (laws_FnRepairEarly.j1 kj2 l1 bt712.1 bt712.2.2.2.1 bt727.1 bt727.2 bt731.1 bt731.2 true bt712.2.1 bt712.2.2.1 bt712.2.2.2.2.1 bt712.2.2.2.2.2.1 bt712.2.2.2.2.2.2))))))) = some r := by rw [if_neg (show ¬ (false = true) by decide)] at H; exact H
   clear H
   have H := H1
   clear H1
   replace H := oB_q.mp H
   obtain ⟨⟨t712, t715, t716, t719, t722, t723, t724⟩, A60, H⟩ := H
   replace H : ((impl_OutageRepair.f kj2 t712 t715 t716 t719 t722 t723 t724).bind fun bt727 => ((spec_OutageRepair.f kj2 t712 t715 t716 t719 t722 t723 t724).bind fun bt731 => (if (bt727.2 != bt731.2) = true then (laws_FnRepairEarly.j1 kj2 l1 t712 t719 bt727.1 bt727.2 bt731.1 bt731.2 true t715 t716 t722 t723 t724) else ((laws_sameInts.f kj2 bt727.1 bt731.1).bind fun t735 => (if t735 = true then (if bt727.2 = true then (laws_FnRepairEarly.j1 kj2 l1 t712 t719 bt727.1 bt727.2 bt731.1 bt731.2 ((bt731.1.length : Int) == 0) t715 t716 t722 t723 t724) else (laws_FnRepairEarly.j1 kj2 l1 t712 t719 bt727.1 bt727.2 bt731.1 bt731.2 true t715 t716 t722 t723 t724)) else (laws_FnRepairEarly.j1 kj2 l1 t712 t719 bt727.1 bt727.2 bt731.1 bt731.2 true t715 t716 t722 t723 t724)))))) = some r := H
   have A6 := Ae_q A60
   clear A60
   replace H := oB_q.mp H
   obtain ⟨⟨t727, t730⟩, A70, H⟩ := H
   replace H : ((spec_OutageRepair.f kj2 t712 t715 t716 t719 t722 t723 t724).bind fun bt731 => (if (t730 != bt731.2) = true then (laws_FnRepairEarly.j1 kj2 l1 t712 t719 t727 t730 bt731.1 bt731.2 true t715 t716 t722 t723 t724) else ((laws_sameInts.f kj2 t727 bt731.1).bind fun t735 => (if t735 = true then (if t730 = true then (laws_FnRepairEarly.j1 kj2 l1 t712 t719 t727 t730 bt731.1 bt731.2 ((bt731.1.length : Int) == 0) t715 t716 t722 t723 t724) else (laws_FnRepairEarly.j1 kj2 l1 t712 t719 t727 t730 bt731.1 bt731.2 true t715 t716 t722 t723 t724)) else (laws_FnRepairEarly.j1 kj2 l1 t712 t719 t727 t730 bt731.1 bt731.2 true t715 t716 t722 t723 t724))))) = some r := H
   have A7 := Ae_q A70
   clear A70
   replace H := oB_q.mp H
   obtain ⟨⟨t731, t734⟩, A80, H⟩ := H
   replace H : (if (t730 != t734) = true then (laws_FnRepairEarly.j1 kj2 l1 t712 t719 t727 t730 t731 t734 true t715 t716 t722 t723 t724) else ((laws_sameInts.f kj2 t727 t731).bind fun t735 => (if t735 = true then (if t730 = true then (laws_FnRepairEarly.j1 kj2 l1 t712 t719 t727 t730 t731 t734 ((t731.length : Int) == 0) t715 t716 t722 t723 t724) else (laws_FnRepairEarly.j1 kj2 l1 t712 t719 t727 t730 t731 t734 true t715 t716 t722 t723 t724)) else (laws_FnRepairEarly.j1 kj2 l1 t712 t719 t727 t730 t731 t734 true t715 t716 t722 t723 t724)))) = some r := H
   have A8 := Ae_q A80
   clear A80
   have HC9 := Ae_q H
   clear H
   go_upto_region 6 with (first | ((with_reducible refine gC_q (f := 27) rfl ?_); refine gL_q (some 25) rfl rfl Try.func27 m8_q rfl #[.slice A0 l0.length c0] rfl m0_q ?_; (with_reducible refine (spec_DrawOutageRepair.calls kj2 _ _ l0 t712 t715 t716 t719 t722 t723 t724 _ ?side1 ?side2 A6.out).mono ?_); (case side1 => exact m42_q); (case side2 => exact m97_q); rintro e w' ⟨v713, v717, v720, rfl, ho0, ho1, ho2, hb⟩; refine ⟨_, rfl, ?_⟩; have HO714 := Ae_q (Kd.S_lower ho0 (bZ_q (bel HB.out))); have HO718 := Ae_q (rL_q ho1 (bZ_q (bel HB.out))); have HO721 := Ae_q (rL_q ho2 (bZ_q (bel HB.out))); replace HB := Ae_q (bT_q (bel HB.out) hb); (try clear hb); (try clear hb2); (try clear hk); (try clear hi); (try clear ho0); (try clear ho1); (try clear ho2)) | ((with_reducible refine gD_q (N := 6) rfl ?_); (try (refine gate_guard (by rfl) ?_; dsimp only)); refine bE_q ?hg (N := 6) ?hd (cs := #[.int .i64 0, .slice none 0 0]) (t := 43) ?hr ?_; (case hd => rfl); (case hg => rfl); (case hr => exact m5_q); intro gb725 hg w' hbox hb; replace HO714 := Ae_q (Kd.S_below m144_q hb); replace HO718 := Ae_q (rO_q (rup HO718.out) hb); replace HO721 := Ae_q (rO_q (rup HO721.out) hb); have BK725 := Ae_q (hbox); have GW725 := Ae_q ((by rw [hg]; exact (bZ_q (bel HB.out)) : w.heap.size ≤ gb725)); have GE725 := Ae_q ((by rw [hg]; exact (bZ_q (bel HB.out)) : w.heap.size ≤ gb725)); replace HB := Ae_q (bT_q (bel HB.out) hb); clear hb hbox hg) | ((with_reducible refine gD_q (N := 8) rfl ?_); (try (refine gate_guard (by rfl) ?_; dsimp only)); refine bE_q ?hg (N := 8) ?hd (cs := #[.int .i64 0, .int .i64 0, .int .i64 0]) (t := 31) ?hr ?_; (case hd => rfl); (case hg => rfl); (case hr => exact m5_q); intro gb726 hg w12 hbox hb; replace HO714 := Ae_q (Kd.S_below m144_q hb); replace HO718 := Ae_q (rO_q (rup HO718.out) hb); replace HO721 := Ae_q (rO_q (rup HO721.out) hb); have BK726 := Ae_q (hbox); have GW726 := Ae_q ((by rw [hg]; exact (bZ_q m137_q) : w.heap.size ≤ gb726)); have GE726 := Ae_q ((by rw [hg]; exact (bZ_q m137_q) : w.heap.size ≤ gb726)); replace HB := Ae_q (bT_q m137_q hb); have NB725_726 := Ae_q ((by rw [hg]; exact nL_q (blk_lt (g := gb725) (o := .cells #[.int .i64 0, .slice none 0 0] 43 (0, 0)) (bup BK725.out)) : gb725 ≠ gb726)); have NB726_725 := Ae_q ((by rw [hg]; exact nG_q (blk_lt (g := gb725) (o := .cells #[.int .i64 0, .slice none 0 0] 43 (0, 0)) (bup BK725.out)) : gb726 ≠ gb725)); replace BK725 := Ae_q (bB_q (g := gb725) (o := .cells #[.int .i64 0, .slice none 0 0] 43 (0, 0)) (bup BK725.out) hb); clear hb hbox hg; have hnb13 := NB725_726.out; have hnc13 := NB726_725.out; have hcz14_0 : cI w12 gb725 0 0 := cZ BK725 0 rfl; have hcz14_1 : w12.cell? ⟨gb725, 1, none⟩ = some (.slice none 0 0) := (bC_q BK725.out 1).trans rfl; have hfz14_0 := bF_q BK725.out 0; have hfz14_1 := bF_q BK725.out 1; obtain ⟨Ao15, co15, eo15⟩ := rS_q HO718.out; subst eo15; have hcz16_0 : cI w12 gb726 0 0 := cZ BK726 0 rfl; have hcz16_1 : cI w12 gb726 1 0 := cZ BK726 1 rfl; have hcz16_2 : cI w12 gb726 2 0 := cZ BK726 2 rfl; have hfz16_0 := bF_q BK726.out 0; have hfz16_1 := bF_q BK726.out 1; have hfz16_2 := bF_q BK726.out 2; obtain ⟨Ao17, co17, eo17⟩ := Kd.S_slice HO714.out; subst eo17; obtain ⟨Ao18, co18, eo18⟩ := rS_q HO721.out; subst eo18) | ((with_reducible refine gC_q (f := 28) rfl ?_); refine gL_q (some 35) rfl rfl Try.func28 m8_q rfl #[.slice Ao17 t712.length co17, .agg #[.int .i64 t715, .slice Ao15 t716.length co15], .slice Ao18 t719.length co18, .agg #[.int .i64 t722, .int .i64 t723, .int .i64 t724]] rfl m0_q ?_; (with_reducible refine (impl_OutageRepair.calls kj2 _ _ t712 t715 _ _ t716 _ _ t719 t722 t723 t724 t727 t730 _ ?side1 ?side2 ?side3 ?side4 ?side5 ?side6 A7.out).mono ?_); (case side1 => refine (Kd.S_reads' (e := 63) (base := w.heap.size) (ok := fun k_ => (some k_ ≠ (.slice Ao15 t716.length co15 : Value).ownBlock ∧ some k_ ≠ (.slice Ao18 t719.length co18 : Value).ownBlock)) (n := t712.length) (c := co17) ?_).2.2; exact (by (with_reducible repeat (first | apply tA_q | apply tN_q | apply tD_q)); exact (Kd.S_mono (Kd.S_mono (Kd.S_far (p := ⟨gb726, 2, none⟩) (Kd.S_far (p := ⟨gb726, 1, none⟩) (Kd.S_far (p := ⟨gb726, 0, none⟩) (Kd.S_far (p := ⟨gb725, 1, none⟩) (Kd.S_far (p := ⟨gb725, 0, none⟩) (Kd.S_types (Kd.S_types HO714.out BK725.out (by decide)) BK726.out (by decide)) (fun _ hk => hk.1.2) (.int .i64 t715)) (fun _ hk => hk.1.2) (.slice Ao15 t716.length co15)) (fun _ hk => hk.2) (.int .i64 t722)) (fun _ hk => hk.2) (.int .i64 t723)) (fun _ hk => hk.2) (.int .i64 t724)) (fun _ h_ => h_.1)) (fun _ h_ => h_.1)))); (case side2 => exact (Kd.S_reads' HO714.out).2.1); (case side3 => refine (rR_q (e := 3) (base := w.heap.size) (ok := fun k_ => some k_ ≠ (.slice Ao18 t719.length co18 : Value).ownBlock) (n := t716.length) (c := co15) ?_).2.2; exact (by (with_reducible repeat (first | apply rA_q | apply rN_q | apply rD_q)); exact (rM_q (rM_q (Kd.R_far (p := ⟨gb726, 2, none⟩) (Kd.R_far (p := ⟨gb726, 1, none⟩) (Kd.R_far (p := ⟨gb726, 0, none⟩) (Kd.R_far (p := ⟨gb725, 1, none⟩) (Kd.R_far (p := ⟨gb725, 0, none⟩) (Kd.R_types (Kd.R_types HO718.out BK725.out (by decide)) BK726.out (by decide)) (fun _ hk => hk.1.2) (.int .i64 t715)) (fun _ hk => hk.1.2) (.slice Ao15 t716.length co15)) (fun _ hk => hk.2) (.int .i64 t722)) (fun _ hk => hk.2) (.int .i64 t723)) (fun _ hk => hk.2) (.int .i64 t724)) (fun _ h_ => h_.1)) (fun _ h_ => h_.1)))); (case side4 => exact (rR_q HO718.out).2.1); (case side5 => refine (rR_q (e := 3) (base := w.heap.size) (ok := fun k_ => some k_ ≠ (.slice Ao15 t716.length co15 : Value).ownBlock) (n := t719.length) (c := co18) ?_).2.2; exact (by (with_reducible repeat (first | apply rA_q | apply rN_q | apply rD_q)); exact (rM_q (rM_q (Kd.R_far (p := ⟨gb726, 2, none⟩) (Kd.R_far (p := ⟨gb726, 1, none⟩) (Kd.R_far (p := ⟨gb726, 0, none⟩) (Kd.R_far (p := ⟨gb725, 1, none⟩) (Kd.R_far (p := ⟨gb725, 0, none⟩) (Kd.R_types (Kd.R_types HO721.out BK725.out (by decide)) BK726.out (by decide)) (fun _ hk => hk.1.2) (.int .i64 t715)) (fun _ hk => hk.1.2) (.slice Ao15 t716.length co15)) (fun _ hk => hk.2) (.int .i64 t722)) (fun _ hk => hk.2) (.int .i64 t723)) (fun _ hk => hk.2) (.int .i64 t724)) (fun _ h_ => h_.1)) (fun _ h_ => h_.1)))); (case side6 => exact (rR_q HO721.out).2.1); rintro e w19 ⟨v728, rfl, ho0, hb⟩; refine ⟨_, rfl, ?_⟩; replace HO714 := Ae_q (Kd.S_elder' (by (with_reducible repeat (first | apply tA_q | apply tN_q | apply tD_q)); exact (Kd.S_mono (Kd.S_mono (Kd.S_far (p := ⟨gb726, 2, none⟩) (Kd.S_far (p := ⟨gb726, 1, none⟩) (Kd.S_far (p := ⟨gb726, 0, none⟩) (Kd.S_far (p := ⟨gb725, 1, none⟩) (Kd.S_far (p := ⟨gb725, 0, none⟩) (Kd.S_types (Kd.S_types HO714.out BK725.out (by decide)) BK726.out (by decide)) (fun _ hk => hk.1.2) (.int .i64 t715)) (fun _ hk => hk.1.2) (.slice Ao15 t716.length co15)) (fun _ hk => hk.2) (.int .i64 t722)) (fun _ hk => hk.2) (.int .i64 t723)) (fun _ hk => hk.2) (.int .i64 t724)) (fun _ h_ => h_.1)) (fun _ h_ => h_.1))) (rB_q ho0) hb); have HO729 := Ae_q (rL_q (rW_q (rW_q ho0 (rT_q (by (with_reducible repeat (first | apply rA_q | apply rN_q | apply rD_q)); exact (rM_q (rM_q (Kd.R_far (p := ⟨gb726, 2, none⟩) (Kd.R_far (p := ⟨gb726, 1, none⟩) (Kd.R_far (p := ⟨gb726, 0, none⟩) (Kd.R_far (p := ⟨gb725, 1, none⟩) (Kd.R_far (p := ⟨gb725, 0, none⟩) (Kd.R_types (Kd.R_types HO718.out BK725.out (by decide)) BK726.out (by decide)) (fun _ hk => hk.1.2) (.int .i64 t715)) (fun _ hk => hk.1.2) (.slice Ao15 t716.length co15)) (fun _ hk => hk.2) (.int .i64 t722)) (fun _ hk => hk.2) (.int .i64 t723)) (fun _ hk => hk.2) (.int .i64 t724)) (fun _ h_ => h_.1)) (fun _ h_ => h_.1))))) (rT_q (by (with_reducible repeat (first | apply rA_q | apply rN_q | apply rD_q)); exact (rM_q (rM_q (Kd.R_far (p := ⟨gb726, 2, none⟩) (Kd.R_far (p := ⟨gb726, 1, none⟩) (Kd.R_far (p := ⟨gb726, 0, none⟩) (Kd.R_far (p := ⟨gb725, 1, none⟩) (Kd.R_far (p := ⟨gb725, 0, none⟩) (Kd.R_types (Kd.R_types HO721.out BK725.out (by decide)) BK726.out (by decide)) (fun _ hk => hk.1.2) (.int .i64 t715)) (fun _ hk => hk.1.2) (.slice Ao15 t716.length co15)) (fun _ hk => hk.2) (.int .i64 t722)) (fun _ hk => hk.2) (.int .i64 t723)) (fun _ hk => hk.2) (.int .i64 t724)) (fun _ h_ => h_.1)) (fun _ h_ => h_.1))))) (bZ_q m14_q)); replace HO718 := Ae_q (rE_q (by (with_reducible repeat (first | apply rA_q | apply rN_q | apply rD_q)); exact (rM_q (rM_q (Kd.R_far (p := ⟨gb726, 2, none⟩) (Kd.R_far (p := ⟨gb726, 1, none⟩) (Kd.R_far (p := ⟨gb726, 0, none⟩) (Kd.R_far (p := ⟨gb725, 1, none⟩) (Kd.R_far (p := ⟨gb725, 0, none⟩) (Kd.R_types (Kd.R_types HO718.out BK725.out (by decide)) BK726.out (by decide)) (fun _ hk => hk.1.2) (.int .i64 t715)) (fun _ hk => hk.1.2) (.slice Ao15 t716.length co15)) (fun _ hk => hk.2) (.int .i64 t722)) (fun _ hk => hk.2) (.int .i64 t723)) (fun _ hk => hk.2) (.int .i64 t724)) (fun _ h_ => h_.1)) (fun _ h_ => h_.1))) (rB_q ho0) hb); replace HO721 := Ae_q (rE_q (by (with_reducible repeat (first | apply rA_q | apply rN_q | apply rD_q)); exact (rM_q (rM_q (Kd.R_far (p := ⟨gb726, 2, none⟩) (Kd.R_far (p := ⟨gb726, 1, none⟩) (Kd.R_far (p := ⟨gb726, 0, none⟩) (Kd.R_far (p := ⟨gb725, 1, none⟩) (Kd.R_far (p := ⟨gb725, 0, none⟩) (Kd.R_types (Kd.R_types HO721.out BK725.out (by decide)) BK726.out (by decide)) (fun _ hk => hk.1.2) (.int .i64 t715)) (fun _ hk => hk.1.2) (.slice Ao15 t716.length co15)) (fun _ hk => hk.2) (.int .i64 t722)) (fun _ hk => hk.2) (.int .i64 t723)) (fun _ hk => hk.2) (.int .i64 t724)) (fun _ h_ => h_.1)) (fun _ h_ => h_.1))) (rB_q ho0) hb); replace BK725 := Ae_q (bB_q (g := gb725) (o := .cells #[.int .i64 t715, .slice Ao15 t716.length co15] 43 (0, 0)) (by (with_reducible repeat (first | refine bN_q ?_ _ | refine bW_q ?_ | refine bL_q ?_ _)); refine blk_far ?_ NB725_726.out _; (with_reducible repeat (first | refine bN_q ?_ _ | refine bW_q ?_ | refine bL_q ?_ _)); refine blk_far ?_ NB725_726.out _; (with_reducible repeat (first | refine bN_q ?_ _ | refine bW_q ?_ | refine bL_q ?_ _)); refine blk_far ?_ NB725_726.out _; (with_reducible repeat (first | refine bN_q ?_ _ | refine bW_q ?_ | refine bL_q ?_ _)); refine blk_put (cs := #[.int .i64 t715, .slice none 0 0]) ?_ 1 _ rfl; (with_reducible repeat (first | refine bN_q ?_ _ | refine bW_q ?_ | refine bL_q ?_ _)); refine blk_put (cs := #[.int .i64 0, .slice none 0 0]) ?_ 0 _ rfl; (with_reducible repeat (first | refine bN_q ?_ _ | refine bW_q ?_ | refine bL_q ?_ _)); exact BK725.out) hb); replace BK726 := Ae_q (bB_q (g := gb726) (o := .cells #[.int .i64 t722, .int .i64 t723, .int .i64 t724] 31 (0, 0)) (by (with_reducible repeat (first | refine bN_q ?_ _ | refine bW_q ?_ | refine bL_q ?_ _)); refine blk_put (cs := #[.int .i64 t722, .int .i64 t723, .int .i64 0]) ?_ 2 _ rfl; (with_reducible repeat (first | refine bN_q ?_ _ | refine bW_q ?_ | refine bL_q ?_ _)); refine blk_put (cs := #[.int .i64 t722, .int .i64 0, .int .i64 0]) ?_ 1 _ rfl; (with_reducible repeat (first | refine bN_q ?_ _ | refine bW_q ?_ | refine bL_q ?_ _)); refine blk_put (cs := #[.int .i64 0, .int .i64 0, .int .i64 0]) ?_ 0 _ rfl; (with_reducible repeat (first | refine bN_q ?_ _ | refine bW_q ?_ | refine bL_q ?_ _)); refine blk_far ?_ NB726_725.out _; (with_reducible repeat (first | refine bN_q ?_ _ | refine bW_q ?_ | refine bL_q ?_ _)); refine blk_far ?_ NB726_725.out _; (with_reducible repeat (first | refine bN_q ?_ _ | refine bW_q ?_ | refine bL_q ?_ _)); exact BK726.out) hb); replace HB := Ae_q (bT_q m14_q hb); (try clear hb); (try clear hb2); (try clear hk); (try clear hi); (try clear ho0); have hcz20_0 : cI w19 gb725 0 t715 := cZ BK725 0 rfl; have hcz20_1 : w19.cell? ⟨gb725, 1, none⟩ = some (.slice Ao15 t716.length co15) := (bC_q BK725.out 1).trans rfl; have hfz20_0 := bF_q BK725.out 0; have hfz20_1 := bF_q BK725.out 1; have hcz21_0 : cI w19 gb726 0 t722 := cZ BK726 0 rfl; have hcz21_1 : cI w19 gb726 1 t723 := cZ BK726 1 rfl; have hcz21_2 : cI w19 gb726 2 t724 := cZ BK726 2 rfl; have hfz21_0 := bF_q BK726.out 0; have hfz21_1 := bF_q BK726.out 1; have hfz21_2 := bF_q BK726.out 2) | ((with_reducible refine gC_q (f := 29) rfl ?_); refine gL_q (some 43) rfl rfl Try.func29 m8_q rfl #[.slice Ao17 t712.length co17, .agg #[.int .i64 t715, .slice Ao15 t716.length co15], .slice Ao18 t719.length co18, .agg #[.int .i64 t722, .int .i64 t723, .int .i64 t724]] rfl m0_q ?_; (with_reducible refine (spec_OutageRepair.calls kj2 _ _ t712 t715 _ _ t716 _ _ t719 t722 t723 t724 t731 t734 _ ?side1 ?side2 ?side3 ?side4 ?side5 ?side6 A8.out).mono ?_); (case side1 => repeat (first | exact (Kd.S_reads' HO714.out).2.2 | (with_reducible refine cA_q ?_ _) | (with_reducible refine cN_q ?_ _) | (with_reducible refine cD_q ?_))); (case side2 => exact (Kd.S_reads' HO714.out).2.1); (case side3 => exact cup (rR_q HO718.out).2.2); (case side4 => exact (rR_q HO718.out).2.1); (case side5 => exact cup (rR_q HO721.out).2.2); (case side6 => exact (rR_q HO721.out).2.1); rintro e w' ⟨v732, rfl, ho0, hb⟩; refine ⟨_, rfl, ?_⟩; replace HO714 := Ae_q (Kd.S_elder' m144_q (rB_q ho0) hb); have HO733 := Ae_q (rL_q (rW_q (rW_q (rW_q ho0 (rT_q (rup HO718.out))) (rT_q (rup HO721.out))) (rT_q (rup HO729.out))) (bZ_q m14_q)); replace HO718 := Ae_q (rE_q (rup HO718.out) (rB_q ho0) hb); replace HO721 := Ae_q (rE_q (rup HO721.out) (rB_q ho0) hb); replace HO729 := Ae_q (rE_q (rup HO729.out) (rB_q ho0) hb); replace BK725 := Ae_q (bB_q (g := gb725) (o := .cells #[.int .i64 t715, .slice Ao15 t716.length co15] 43 (0, 0)) (bup BK725.out) hb); replace BK726 := Ae_q (bB_q (g := gb726) (o := .cells #[.int .i64 t722, .int .i64 t723, .int .i64 t724] 31 (0, 0)) (bup BK726.out) hb); replace HB := Ae_q (bT_q m14_q hb); (try clear hb); (try clear hb2); (try clear hk); (try clear hi); (try clear ho0)))
   (try simp only [Act.put, sA_q, sZ_q, sS_q])
   go_cut [63] (fun v63 wc => ∃ (kq : Nat) (x63_8 : Bool), v63 = .bool x63_8 ∧ Aside0 (laws_FnRepairEarly.j1 kq l1 t712 t719 t727 t730 t731 t734 x63_8 t715 t716 t722 t723 t724 = some r) ∧ Aside0 (kq ≤ kj2) ∧ Aside0 (Kd.S k63 63 wc w.heap.size (fun k_ => some k_ ≠ ((.slice Ao18 t719.length co18) : Value).ownBlock ∧ some k_ ≠ (v728 : Value).ownBlock ∧ some k_ ≠ (v732 : Value).ownBlock ∧ some k_ ≠ ((.slice Ao15 t716.length co15) : Value).ownBlock) (.slice Ao17 t712.length co17) t712) ∧ Aside0 (Kd.R kI_q 3 wc w.heap.size (fun k_ => some k_ ≠ (v728 : Value).ownBlock ∧ some k_ ≠ (v732 : Value).ownBlock ∧ some k_ ≠ ((.slice Ao15 t716.length co15) : Value).ownBlock) (.slice Ao18 t719.length co18) t719) ∧ Aside0 (Kd.R kI_q 3 wc w.heap.size (fun k_ => some k_ ≠ ((.slice Ao18 t719.length co18) : Value).ownBlock ∧ some k_ ≠ (v732 : Value).ownBlock ∧ some k_ ≠ ((.slice Ao15 t716.length co15) : Value).ownBlock) v728 t727) ∧ Aside0 (Kd.R kI_q 3 wc w.heap.size (fun k_ => some k_ ≠ ((.slice Ao18 t719.length co18) : Value).ownBlock ∧ some k_ ≠ (v728 : Value).ownBlock ∧ some k_ ≠ ((.slice Ao15 t716.length co15) : Value).ownBlock) v732 t731) ∧ Aside0 (Kd.R kI_q 3 wc w.heap.size (fun k_ => some k_ ≠ ((.slice Ao18 t719.length co18) : Value).ownBlock ∧ some k_ ≠ (v728 : Value).ownBlock ∧ some k_ ≠ (v732 : Value).ownBlock) (.slice Ao15 t716.length co15) t716) ∧ Aside0 (wc.heap[gb725]? = some (.cells #[.int .i64 t715, (.slice Ao15 t716.length co15)] 43 (0, 0))) ∧ Aside0 (wc.heap[gb726]? = some (.cells #[.int .i64 t722, .int .i64 t723, .int .i64 t724] 31 (0, 0))) ∧ Aside0 (Below w.heap.size w wc))
   case first =>
    have H := HC9.out
    clear HC9
    by_cases c23 : (t730 != t734) = true
    ·rw [if_pos c23] at H
     have c23b0 : (t730 != t734) = true := c23
     (try (have c23b1 : decide (t730 = t734) = false := by simpa using c23))
     (try (have c23b2 : (t730 == t734) = false := by simpa using c23))
     (try (have c23b3 : ¬ (t730 = t734) := by simpa using c23))
     clear c23
     (first | rw [c23b0] | (simp only [i64_w, i32_w]; rw [c23b0]) | skip)
     have H' := Ae_q H
     clear H
     go_wp2
     go_meet
     case rel => exact ⟨_, (true), m7_q, H', ⟨m156_q⟩, ⟨m94_q⟩, ⟨m102_q⟩, ⟨m100_q⟩, ⟨m101_q⟩, ⟨m103_q⟩, ⟨bup BK725.out⟩, ⟨bup BK726.out⟩, ⟨m14_q⟩⟩
    rw [if_neg c23] at H
    have c23b0 : (t730 != t734) = false := by simpa using c23
    (try (have c23b1 : decide (t730 = t734) = true := by simpa using c23))
    (try (have c23b2 : (t730 == t734) = true := by simpa using c23))
    clear c23
    (first | rw [c23b0] | (simp only [i64_w, i32_w]; rw [c23b0]) | skip)
    replace H := oB_q.mp H
    obtain ⟨t735, A240, H⟩ := H
    replace H : (if t735 = true then (if t730 = true then (laws_FnRepairEarly.j1 kj2 l1 t712 t719 t727 t730 t731 t734 ((t731.length : Int) == 0) t715 t716 t722 t723 t724) else (laws_FnRepairEarly.j1 kj2 l1 t712 t719 t727 t730 t731 t734 true t715 t716 t722 t723 t724)) else (laws_FnRepairEarly.j1 kj2 l1 t712 t719 t727 t730 t731 t734 true t715 t716 t722 t723 t724)) = some r := H
    have A24 := Ae_q A240
    clear A240
    by_cases c25 : t735 = true
    rotate_left
    ·replace c25 := fM_q.mpr c25
     subst c25
     have H1 : (laws_FnRepairEarly.j1 kj2 l1 t712 t719 t727 t730 t731 t734 true t715 t716 t722 t723 t724) = some r := by rw [if_neg (show ¬ (false = true) by decide)] at H; exact H
     clear H
     have H := H1
     clear H1
     have H' := Ae_q H
     clear H
     obtain ⟨Ao31, co31, eo31⟩ := rS_q HO729.out
     subst eo31
     obtain ⟨Ao32, co32, eo32⟩ := rS_q HO733.out
     subst eo32
     go_wp2_with (first | (go_at_call 30; (with_reducible refine (laws_sameInts.calls kj2 _ _ t727 _ _ t731 false _ ?side1 ?side2 ?side3 ?side4 A24.out).mono ?_); (case side1 => exact cup (rR_q HO729.out).2.2); (case side2 => exact (rR_q HO729.out).2.1); (case side3 => exact cup (rR_q HO733.out).2.2); (case side4 => exact (rR_q HO733.out).2.1); rintro e w' ⟨rfl, ⟨nd, rfl⟩⟩))
     go_meet
     case rel => exact ⟨_, (true), m7_q, H', ⟨m156_q⟩, ⟨m94_q⟩, ⟨m102_q⟩, ⟨m100_q⟩, ⟨m101_q⟩, ⟨m103_q⟩, ⟨bup BK725.out⟩, ⟨bup BK726.out⟩, ⟨m14_q⟩⟩
    subst c25
    have H1 : (if t730 = true then (laws_FnRepairEarly.j1 kj2 l1 t712 t719 t727 t730 t731 t734 ((t731.length : Int) == 0) t715 t716 t722 t723 t724) else (laws_FnRepairEarly.j1 kj2 l1 t712 t719 t727 t730 t731 t734 true t715 t716 t722 t723 t724)) = some r := by rw [if_pos rfl] at H; exact H
    clear H
    have H := H1
    clear H1
    by_cases c26 : t730 = true
    ·subst c26
     have H1 : (laws_FnRepairEarly.j1 kj2 l1 t712 t719 t727 true t731 t734 ((t731.length : Int) == 0) t715 t716 t722 t723 t724) = some r := by rw [if_pos rfl] at H; exact H
     clear H
     have H := H1
     clear H1
     have H' := Ae_q H
     clear H
     obtain ⟨Ao27, co27, eo27⟩ := rS_q HO729.out
     subst eo27
     obtain ⟨Ao28, co28, eo28⟩ := rS_q HO733.out
     subst eo28
     go_wp2_with (first | (go_at_call 30; (with_reducible refine (laws_sameInts.calls kj2 _ _ t727 _ _ t731 true _ ?side1 ?side2 ?side3 ?side4 A24.out).mono ?_); (case side1 => exact cup (rR_q HO729.out).2.2); (case side2 => exact (rR_q HO729.out).2.1); (case side3 => exact cup (rR_q HO733.out).2.2); (case side4 => exact (rR_q HO733.out).2.1); rintro e w' ⟨rfl, ⟨nd, rfl⟩⟩))
     go_meet
     case rel => exact ⟨_, (((t731.length : Int) == 0)), m7_q, H', ⟨m156_q⟩, ⟨m94_q⟩, ⟨m102_q⟩, ⟨m100_q⟩, ⟨m101_q⟩, ⟨m103_q⟩, ⟨bup BK725.out⟩, ⟨bup BK726.out⟩, ⟨m14_q⟩⟩
    replace c26 := fM_q.mpr c26
    subst c26
    have H1 : (laws_FnRepairEarly.j1 kj2 l1 t712 t719 t727 false t731 t734 true t715 t716 t722 t723 t724) = some r := by rw [if_neg (show ¬ (false = true) by decide)] at H; exact H
    clear H
    have H := H1
    clear H1
    have H' := Ae_q H
    clear H
    obtain ⟨Ao29, co29, eo29⟩ := rS_q HO729.out
    subst eo29
    obtain ⟨Ao30, co30, eo30⟩ := rS_q HO733.out
    subst eo30
    go_wp2_with (first | (go_at_call 30; (with_reducible refine (laws_sameInts.calls kj2 _ _ t727 _ _ t731 true _ ?side1 ?side2 ?side3 ?side4 A24.out).mono ?_); (case side1 => exact cup (rR_q HO729.out).2.2); (case side2 => exact (rR_q HO729.out).2.1); (case side3 => exact cup (rR_q HO733.out).2.2); (case side4 => exact (rR_q HO733.out).2.1); rintro e w' ⟨rfl, ⟨nd, rfl⟩⟩))
    go_meet
    case rel => exact ⟨_, (true), m7_q, H', ⟨m156_q⟩, ⟨m94_q⟩, ⟨m102_q⟩, ⟨m100_q⟩, ⟨m101_q⟩, ⟨m103_q⟩, ⟨bup BK725.out⟩, ⟨bup BK726.out⟩, ⟨m14_q⟩⟩
   case rest =>
    clear HC9
    try clear c1
    try clear c2
    try clear p2
    try clear c4
    try clear c4b0
    try clear c4b1
    try clear c5
    try clear c6
    try clear c13
    try clear c23
    try clear c23b0
    try clear c23b1
    try clear c23b2
    try clear c25
    try clear c26
    try clear c27
    try clear c28
    try clear c29
    try clear hcz14_0
    try clear hcz14_1
    try clear hcz16_0
    try clear hcz16_1
    try clear hcz16_2
    try clear hcz20_0
    try clear hcz20_1
    try clear hcz21_0
    try clear hcz21_1
    try clear hcz21_2
    try clear hfz14_0
    try clear hfz14_1
    try clear hfz16_0
    try clear hfz16_1
    try clear hfz16_2
    try clear hfz20_0
    try clear hfz20_1
    try clear hfz21_0
    try clear hfz21_1
    try clear hfz21_2
    try clear p2
    obtain ⟨kq, x63_8, rfl, HA, HJ8, HO_5, HO_7, HO_9, HO_11, HO_726001, BK725, BK726, HB⟩ := hcut
    cases kq with
    | zero => exact absurd HA.out (by simp [laws_FnRepairEarly.j1])
    | succ kj8 =>
     have H := HA.out
     clear HA
     simp only [laws_FnRepairEarly.j1] at H
     by_cases c33 : x63_8 = true
     ·subst c33
      have H1 : (if (t730 == t734) = true then ((laws_sameInts.f kj8 t727 t731).bind fun t736 => (some t736)) else (some false)) = some r := by rw [if_pos rfl] at H; exact H
      clear H
      have H := H1
      clear H1
      by_cases c34 : (t730 == t734) = true
      rotate_left
      ·rw [if_neg c34] at H
       have c34b0 : (t730 == t734) = false := by simpa using c34
       (try (have c34b1 : decide (t730 = t734) = false := by simpa using c34))
       (try (have c34b2 : (t730 == t734) = false := by simpa using c34))
       (try (have c34b3 : ¬ (t730 = t734) := by simpa using c34))
       clear c34
       obtain rfl := oI_q H
       go_wp2
       go_ret
       exact ⟨m6_q, m14_q⟩
      rw [if_pos c34] at H
      have c34b0 : (t730 == t734) = true := c34
      (try (have c34b1 : decide (t730 = t734) = true := by simpa using c34))
      (try (have c34b2 : (t730 == t734) = true := by simpa using c34))
      clear c34
      replace H := oB_q.mp H
      obtain ⟨t736, A350, H⟩ := H
      replace H : (some t736) = some r := H
      have A35 := Ae_q A350
      clear A350
      obtain rfl := oI_q H
      obtain ⟨Ao36, co36, eo36⟩ := rS_q HO_9.out
      subst eo36
      obtain ⟨Ao37, co37, eo37⟩ := rS_q HO_11.out
      subst eo37
      go_wp2_with (first | (go_at_call 30; (with_reducible refine (laws_sameInts.calls kj8 _ _ t727 _ _ t731 t736 _ ?side1 ?side2 ?side3 ?side4 A35.out).mono ?_); (case side1 => exact cup (rR_q HO_9.out).2.2); (case side2 => exact (rR_q HO_9.out).2.1); (case side3 => exact cup (rR_q HO_11.out).2.2); (case side4 => exact (rR_q HO_11.out).2.1); rintro e w' ⟨rfl, ⟨nd, rfl⟩⟩))
      go_ret
      exact ⟨m6_q, m14_q⟩
     replace c33 := fM_q.mpr c33
     subst c33
     have H1 : (if (t727.length : Int) = 0 then (none) else (if 0 ≤ (wrap64 ((wrap64 (1 + ((l1.length : Int) % (t727.length : Int)))) - 1)) then (if (wrap64 ((wrap64 (1 + ((l1.length : Int) % (t727.length : Int)))) - 1)) < (t727.length : Int) then (if (wrap64 ((wrap64 (1 + ((l1.length : Int) % (t727.length : Int)))) - 1)) < (t719.length : Int) then (if (rd t727 (wrap64 ((wrap64 (1 + ((l1.length : Int) % (t727.length : Int)))) - 1))) = (rd t719 (wrap64 ((wrap64 (1 + ((l1.length : Int) % (t727.length : Int)))) - 1))) then (some true) else ((some (([] : List Int) : List Int)).bind fun y739 => (if 0 ≤ (wrap64 (1 + ((l1.length : Int) % (t727.length : Int)))) then (if (wrap64 (1 + ((l1.length : Int) % (t727.length : Int)))) ≤ (t727.length : Int) then ((some (t727.take ((wrap64 (1 + ((l1.length : Int) % (t727.length : Int)))) : Int).toNat : List Int)).bind fun y742 => (if y739.length + y742.length < 17592186044416 then ((some (y739 ++ y742 : List Int)).bind fun y746 => (if (wrap64 ((wrap64 (1 + ((l1.length : Int) % (t727.length : Int)))) - 1)) < (y746.length : Int) then ((some (y746.set ((wrap64 ((wrap64 (1 + ((l1.length : Int) % (t727.length : Int)))) - 1)) : Int).toNat (wrap64 ((rd y746 (wrap64 ((wrap64 (1 + ((l1.length : Int) % (t727.length : Int)))) - 1))) - 1)) : List Int)).bind fun y750 => (if (wrap64 (1 + ((l1.length : Int) % (t727.length : Int)))) ≤ (t712.length : Int) then ((impl_PlanValid.f kj8 (t712.take ((wrap64 (1 + ((l1.length : Int) % (t727.length : Int)))) : Int).toNat) t715 t716 y750).bind fun t755 => (if t755 = true then ((impl_OutageHits.f kj8 (t712.take ((wrap64 (1 + ((l1.length : Int) % (t727.length : Int)))) : Int).toNat) y750 t722 t723 t724).bind fun t760 => (some (decide ((t760.length : Int) > 0)))) else (some true))) else (none))) else (none))) else (none))) else (none)) else (none)))) else (none)) else (none)) else (none))) = some r := by rw [if_neg (show ¬ (false = true) by decide)] at H; exact H
     clear H
     have H := H1
     clear H1
     by_cases c38 : (t727.length : Int) = 0
     ·rw [if_pos c38] at H
      exact absurd H (by simp)
     rw [if_neg c38] at H
     have c38b0 : ((t727.length : Int) == 0) = false := fN_q.mpr c38
     have c38b1 : ((t727.length : Int) != 0) = true := nI_q.mpr c38
     have c38b2 : ¬ (t727 = []) := fun h_ => c38 (by rw [h_]; rfl)
     obtain ⟨ji39, hji39⟩ : ∃ j_ : Int, (wrap64 ((wrap64 (1 + ((l1.length : Int) % (t727.length : Int)))) - 1)) = j_ := ⟨_, rfl⟩
     replace H : (if 0 ≤ (ji39) then (if (ji39) < (t727.length : Int) then (if (ji39) < (t719.length : Int) then (if (rd t727 (ji39)) = (rd t719 (ji39)) then (some true) else ((some (([] : List Int) : List Int)).bind fun y739 => (if 0 ≤ (wrap64 (1 + ((l1.length : Int) % (t727.length : Int)))) then (if (wrap64 (1 + ((l1.length : Int) % (t727.length : Int)))) ≤ (t727.length : Int) then ((some (t727.take ((wrap64 (1 + ((l1.length : Int) % (t727.length : Int)))) : Int).toNat : List Int)).bind fun y742 => (if y739.length + y742.length < 17592186044416 then ((some (y739 ++ y742 : List Int)).bind fun y746 => (if (ji39) < (y746.length : Int) then ((some (y746.set ((ji39) : Int).toNat (wrap64 ((rd y746 (ji39)) - 1)) : List Int)).bind fun y750 => (if (wrap64 (1 + ((l1.length : Int) % (t727.length : Int)))) ≤ (t712.length : Int) then ((impl_PlanValid.f kj8 (t712.take ((wrap64 (1 + ((l1.length : Int) % (t727.length : Int)))) : Int).toNat) t715 t716 y750).bind fun t755 => (if t755 = true then ((impl_OutageHits.f kj8 (t712.take ((wrap64 (1 + ((l1.length : Int) % (t727.length : Int)))) : Int).toNat) y750 t722 t723 t724).bind fun t760 => (some (decide ((t760.length : Int) > 0)))) else (some true))) else (none))) else (none))) else (none))) else (none)) else (none)))) else (none)) else (none)) else (none)) = some r := by first | (rw [hji39] at H; exact H) | (simp only [hji39] at H ⊢; exact H)
     have hji39w : (IntKind.i64.wrap ((wrap64 (1 + ((l1.length : Int) % (t727.length : Int)))) - 1)) = ji39 := (i64_w _).trans hji39
     by_cases c40 : 0 ≤ (ji39)
     rotate_left
     ·rw [if_neg c40] at H
      exact absurd H (by simp)
     rw [if_pos c40] at H
     have c40b0 : decide (0 ≤ (ji39)) = true := dT_q c40
     clear c40
     by_cases c41 : (ji39) < (t727.length : Int)
     rotate_left
     ·rw [if_neg c41] at H
      exact absurd H (by simp)
     rw [if_pos c41] at H
     have c41b0 : decide ((ji39) < (t727.length : Int)) = true := dT_q c41
     clear c41
     by_cases c42 : (ji39) < (t719.length : Int)
     rotate_left
     ·rw [if_neg c42] at H
      exact absurd H (by simp)
     rw [if_pos c42] at H
     have c42b0 : decide ((ji39) < (t719.length : Int)) = true := dT_q c42
     clear c42
     by_cases c43 : (rd t727 (ji39)) = (rd t719 (ji39))
     ·rw [if_pos c43] at H
      have c43b0 : ((rd t727 (ji39)) == (rd t719 (ji39))) = true := beq_iff_eq.mpr c43
      have c43b1 : ((rd t727 (ji39)) != (rd t719 (ji39))) = false := nE_q.mpr c43
      clear c43
      obtain rfl := oI_q H
      obtain ⟨Ao44, co44, eo44⟩ := rS_q HO_9.out
      subst eo44
      try go_wp2
      replace HO_5 := Ae_q (tD_q HO_5.out)
      replace HO_7 := Ae_q (rD_q HO_7.out)
      replace HO_9 := Ae_q (rD_q HO_9.out)
      replace HO_11 := Ae_q (rD_q HO_11.out)
      replace HO_726001 := Ae_q (rD_q HO_726001.out)
      replace BK725 := Ae_q (bW_q BK725.out)
      replace BK726 := Ae_q (bW_q BK726.out)
      replace HB := Ae_q (bD_q HB.out)
      have p737 : 0 ≤ ((ji39) : Int) := oD_q (by assumption)
      have q737 : (ji39) < (t727.length : Int) := oD_q (by assumption)
      obtain ⟨ad737, e737, hx737_0⟩ := aI_q (rR_q HO_9.out).2.2 (ji39) p737 q737
      cases e737
      replace p737 := eq_true p737
      replace q737 := eq_true q737
      have p738 : 0 ≤ ((ji39) : Int) := oD_q (by assumption)
      have q738 : (ji39) < (t719.length : Int) := oD_q (by assumption)
      obtain ⟨ad738, e738, hx738_0⟩ := aI_q (rR_q HO_7.out).2.2 (ji39) p738 q738
      cases e738
      replace p738 := eq_true p738
      replace q738 := eq_true q738
      refine start_ (n := 11) (S := fun w' => w'.cell? (ad737.add ((ji39)).toNat) = some (.int .i64 (rd t727 (ji39))) ∧ w'.cell? (ad738.add ((ji39)).toNat) = some (.int .i64 (rd t719 (ji39)))) (ds := []) #[false, false, false, false, false, false, false, false, false, false, false] m8_q rfl rfl ⟨hx737_0, hx738_0⟩ (fun hHeld => ?_); refine with_tabW laws_FnRepairEarly.tab9 laws_FnRepairEarly.bits9 (fun HT_ HW_ => ?_)
      generalize wc.drew = w45 at HO_5 HO_7 HO_9 HO_11 HO_726001 BK725 BK726 HB hx737_0 hx738_0 hHeld ⊢
      refine pJ HT_ 0 78 rfl rfl ?_
      refine pJ HT_ 1 79 rfl rfl ?_
      refine pJ HT_ 2 80 rfl rfl ?_
      refine pJ HT_ 3 81 rfl rfl ?_
      refine pJ HT_ 5 83 rfl rfl ?_
      refine pJ HT_ 6 84 rfl rfl ?_
      refine pJ HT_ 7 85 rfl rfl ?_
      refine pJ HT_ 8 86 rfl rfl ?_
      refine take_ (i := 4) (N := some 82) (v := ?_) (a' := ?_) #[true, true, true, true, true, true, true, true, true, false, false] rfl rfl (take_ofW HT_.out HW_.out m8_q) (fun _ _ _ h => h) (Or.inl ⟨by rfl, ?_⟩) hHeld ?_ ?_
      rotate_left
      ·rintro w' ⟨s0, s1⟩
       go_simp
       with_reducible rfl
      rotate_left
      ·simp only [pS_q]
       rfl
      refine take_ (i := 9) (N := some 87) (v := ?_) (a' := ?_) #[true, true, true, true, true, true, true, true, true, true, false] rfl rfl (take_ofW HT_.out HW_.out m8_q) (fun _ _ _ h => h) (Or.inl ⟨by rfl, ?_⟩) hHeld ?_ ?_
      rotate_left
      ·rintro w' ⟨s0, s1⟩
       go_simp
       with_reducible rfl
      rotate_left
      ·simp only [pS_q]
       rfl
      refine pJ HT_ 10 88 rfl rfl ?_
      refine done_ (done_of HT_.out m8_q) ?_
      try go_wp2
      go_ret
      exact ⟨by first | rfl | (simp [eN_q, eS_q] <;> rfl) | (simp only [← hji39]; first | rfl | (simp [eN_q, eS_q] <;> rfl)) | (simp [*, eN_q, eS_q] <;> rfl), m14_q⟩
     rw [if_neg c43] at H
     have c43b0 : ((rd t727 (ji39)) == (rd t719 (ji39))) = false := fN_q.mpr c43
     have c43b1 : ((rd t727 (ji39)) != (rd t719 (ji39))) = true := nI_q.mpr c43
     obtain ⟨y739, hy739⟩ : ∃ y_ : List Int, y_ = (([] : List Int)) := ⟨_, rfl⟩
     replace H : (if 0 ≤ (wrap64 (1 + ((l1.length : Int) % (t727.length : Int)))) then (if (wrap64 (1 + ((l1.length : Int) % (t727.length : Int)))) ≤ (t727.length : Int) then ((some (t727.take ((wrap64 (1 + ((l1.length : Int) % (t727.length : Int)))) : Int).toNat : List Int)).bind fun y742 => (if y739.length + y742.length < 17592186044416 then ((some (y739 ++ y742 : List Int)).bind fun y746 => (if (ji39) < (y746.length : Int) then ((some (y746.set ((ji39) : Int).toNat (wrap64 ((rd y746 (ji39)) - 1)) : List Int)).bind fun y750 => (if (wrap64 (1 + ((l1.length : Int) % (t727.length : Int)))) ≤ (t712.length : Int) then ((impl_PlanValid.f kj8 (t712.take ((wrap64 (1 + ((l1.length : Int) % (t727.length : Int)))) : Int).toNat) t715 t716 y750).bind fun t755 => (if t755 = true then ((impl_OutageHits.f kj8 (t712.take ((wrap64 (1 + ((l1.length : Int) % (t727.length : Int)))) : Int).toNat) y750 t722 t723 t724).bind fun t760 => (some (decide ((t760.length : Int) > 0)))) else (some true))) else (none))) else (none))) else (none))) else (none)) else (none)) = some r := by first | (rw [hy739]; with_reducible exact H) | (have H2_ := (oS_q _ _).symm.trans H; rw [hy739]; with_reducible exact H2_) | (have H2_ := (oS_q _ _).symm.trans H; with_reducible exact H2_) | with_reducible exact H | (rw [hy739]; exact H) | exact H
     have Ny739 := Ae_q hy739
     clear hy739
     obtain ⟨ji46, hji46⟩ : ∃ j_ : Int, (wrap64 (1 + ((l1.length : Int) % (t727.length : Int)))) = j_ := ⟨_, rfl⟩
     replace H : (if 0 ≤ (ji46) then (if (ji46) ≤ (t727.length : Int) then ((some (t727.take ((ji46) : Int).toNat : List Int)).bind fun y742 => (if y739.length + y742.length < 17592186044416 then ((some (y739 ++ y742 : List Int)).bind fun y746 => (if (ji39) < (y746.length : Int) then ((some (y746.set ((ji39) : Int).toNat (wrap64 ((rd y746 (ji39)) - 1)) : List Int)).bind fun y750 => (if (ji46) ≤ (t712.length : Int) then ((impl_PlanValid.f kj8 (t712.take ((ji46) : Int).toNat) t715 t716 y750).bind fun t755 => (if t755 = true then ((impl_OutageHits.f kj8 (t712.take ((ji46) : Int).toNat) y750 t722 t723 t724).bind fun t760 => (some (decide ((t760.length : Int) > 0)))) else (some true))) else (none))) else (none))) else (none))) else (none)) else (none)) = some r := by first | (rw [hji46] at H; exact H) | (simp only [hji46] at H ⊢; exact H)
     have hji46w : (IntKind.i64.wrap (1 + ((l1.length : Int) % (t727.length : Int)))) = ji46 := (i64_w _).trans hji46
     have hji39x : wrap64 (ji46 - 1) = ji39 := by rw [← hji46]; exact hji39
     have hji39y : IntKind.i64.wrap (ji46 - 1) = ji39 := (i64_w _).trans hji39x
     by_cases c47 : 0 ≤ (ji46)
     rotate_left
     ·rw [if_neg c47] at H
      exact absurd H (by simp)
     rw [if_pos c47] at H
     have c47b0 := eq_true c47
     have c47b1 : decide (0 ≤ (ji46)) = true := dT_q c47
     clear c47
     by_cases c48 : (ji46) ≤ (t727.length : Int)
     rotate_left
     ·rw [if_neg c48] at H
      exact absurd H (by simp)
     rw [if_pos c48] at H
     have c48b0 := eq_true c48
     have c48b1 : decide ((ji46) ≤ (t727.length : Int)) = true := dT_q c48
     clear c48
     obtain ⟨y742, hy742⟩ : ∃ y_ : List Int, y_ = (t727.take ((ji46) : Int).toNat) := ⟨_, rfl⟩
     replace H : (if y739.length + y742.length < 17592186044416 then ((some (y739 ++ y742 : List Int)).bind fun y746 => (if (ji39) < (y746.length : Int) then ((some (y746.set ((ji39) : Int).toNat (wrap64 ((rd y746 (ji39)) - 1)) : List Int)).bind fun y750 => (if (ji46) ≤ (t712.length : Int) then ((impl_PlanValid.f kj8 (t712.take ((ji46) : Int).toNat) t715 t716 y750).bind fun t755 => (if t755 = true then ((impl_OutageHits.f kj8 (t712.take ((ji46) : Int).toNat) y750 t722 t723 t724).bind fun t760 => (some (decide ((t760.length : Int) > 0)))) else (some true))) else (none))) else (none))) else (none)) = some r := by first | (rw [hy742]; with_reducible exact H) | (have H2_ := (oS_q _ _).symm.trans H; rw [hy742]; with_reducible exact H2_) | (have H2_ := (oS_q _ _).symm.trans H; with_reducible exact H2_) | with_reducible exact H | (rw [hy742]; exact H) | exact H
     have Ny742 := Ae_q hy742
     clear hy742
     by_cases c49 : y739.length + y742.length < 17592186044416
     rotate_left
     ·rw [if_neg c49] at H
      exact absurd H (by simp)
     rw [if_pos c49] at H
     have LMc49 := Ae_q c49
     clear c49
     obtain ⟨y746, hy746⟩ : ∃ y_ : List Int, y_ = (y739 ++ y742) := ⟨_, rfl⟩
     replace H : (if (ji39) < (y746.length : Int) then ((some (y746.set ((ji39) : Int).toNat (wrap64 ((rd y746 (ji39)) - 1)) : List Int)).bind fun y750 => (if (ji46) ≤ (t712.length : Int) then ((impl_PlanValid.f kj8 (t712.take ((ji46) : Int).toNat) t715 t716 y750).bind fun t755 => (if t755 = true then ((impl_OutageHits.f kj8 (t712.take ((ji46) : Int).toNat) y750 t722 t723 t724).bind fun t760 => (some (decide ((t760.length : Int) > 0)))) else (some true))) else (none))) else (none)) = some r := by first | (rw [hy746]; with_reducible exact H) | (have H2_ := (oS_q _ _).symm.trans H; rw [hy746]; with_reducible exact H2_) | (have H2_ := (oS_q _ _).symm.trans H; with_reducible exact H2_) | with_reducible exact H | (rw [hy746]; exact H) | exact H
     have Ny746 := Ae_q hy746
     clear hy746
     by_cases c50 : (ji39) < (y746.length : Int)
     rotate_left
     ·rw [if_neg c50] at H
      exact absurd H (by simp)
     rw [if_pos c50] at H
     have c50b0 : decide ((ji39) < (y746.length : Int)) = true := dT_q c50
     clear c50
     obtain ⟨y750, hy750⟩ : ∃ y_ : List Int, y_ = (y746.set ((ji39) : Int).toNat (wrap64 ((rd y746 (ji39)) - 1))) := ⟨_, rfl⟩
     replace H : (if (ji46) ≤ (t712.length : Int) then ((impl_PlanValid.f kj8 (t712.take ((ji46) : Int).toNat) t715 t716 y750).bind fun t755 => (if t755 = true then ((impl_OutageHits.f kj8 (t712.take ((ji46) : Int).toNat) y750 t722 t723 t724).bind fun t760 => (some (decide ((t760.length : Int) > 0)))) else (some true))) else (none)) = some r := by first | (rw [hy750]; with_reducible exact H) | (have H2_ := (oS_q _ _).symm.trans H; rw [hy750]; with_reducible exact H2_) | (have H2_ := (oS_q _ _).symm.trans H; with_reducible exact H2_) | with_reducible exact H | (rw [hy750]; exact H) | exact H
     have Ny750 := Ae_q hy750
     clear hy750
     have c52b0 := eq_true (oD_q (by assumption) : 0 ≤ (ji46))
     by_cases c53 : (ji46) ≤ (t712.length : Int)
     rotate_left
     ·rw [if_neg c53] at H
      exact absurd H (by simp)
     rw [if_pos c53] at H
     have c53b0 := eq_true c53
     have c53b1 : decide ((ji46) ≤ (t712.length : Int)) = true := dT_q c53
     clear c53
     obtain ⟨y751, hy751⟩ : ∃ y_ : List (S63), y_ = (t712.take ((ji46) : Int).toNat) := ⟨_, rfl⟩
     replace H : ((impl_PlanValid.f kj8 y751 t715 t716 y750).bind fun t755 => (if t755 = true then ((impl_OutageHits.f kj8 (t712.take ((ji46) : Int).toNat) y750 t722 t723 t724).bind fun t760 => (some (decide ((t760.length : Int) > 0)))) else (some true))) = some r := by first | (rw [hy751]; with_reducible exact H) | (have H2_ := (oS_q _ _).symm.trans H; rw [hy751]; with_reducible exact H2_) | (have H2_ := (oS_q _ _).symm.trans H; with_reducible exact H2_) | with_reducible exact H | (rw [hy751]; exact H) | exact H
     have Ny751 := Ae_q hy751
     clear hy751
     replace H := oB_q.mp H
     obtain ⟨t755, A540, H⟩ := H
     replace H : (if t755 = true then ((impl_OutageHits.f kj8 (t712.take ((ji46) : Int).toNat) y750 t722 t723 t724).bind fun t760 => (some (decide ((t760.length : Int) > 0)))) else (some true)) = some r := H
     have A54 := Ae_q A540
     clear A540
     by_cases c55 : t755 = true
     rotate_left
     ·replace c55 := fM_q.mpr c55
      subst c55
      have H1 : (some true) = some r := by rw [if_neg (show ¬ (false = true) by decide)] at H; exact H
      clear H
      have H := H1
      clear H1
      obtain rfl := oI_q H
      obtain ⟨Ao74, co74, eo74⟩ := rS_q HO_9.out
      subst eo74
      try go_wp2
      replace HO_5 := Ae_q (tD_q HO_5.out)
      replace HO_7 := Ae_q (rD_q HO_7.out)
      replace HO_9 := Ae_q (rD_q HO_9.out)
      replace HO_11 := Ae_q (rD_q HO_11.out)
      replace HO_726001 := Ae_q (rD_q HO_726001.out)
      replace BK725 := Ae_q (bW_q BK725.out)
      replace BK726 := Ae_q (bW_q BK726.out)
      replace HB := Ae_q (bD_q HB.out)
      have p737 : 0 ≤ ((ji39) : Int) := oD_q (by assumption)
      have q737 : (ji39) < (t727.length : Int) := oD_q (by assumption)
      obtain ⟨ad737, e737, hx737_0⟩ := aI_q (rR_q HO_9.out).2.2 (ji39) p737 q737
      cases e737
      replace p737 := eq_true p737
      replace q737 := eq_true q737
      have p738 : 0 ≤ ((ji39) : Int) := oD_q (by assumption)
      have q738 : (ji39) < (t719.length : Int) := oD_q (by assumption)
      obtain ⟨ad738, e738, hx738_0⟩ := aI_q (rR_q HO_7.out).2.2 (ji39) p738 q738
      cases e738
      replace p738 := eq_true p738
      replace q738 := eq_true q738
      refine start_ (n := 11) (S := fun w' => w'.cell? (ad737.add ((ji39)).toNat) = some (.int .i64 (rd t727 (ji39))) ∧ w'.cell? (ad738.add ((ji39)).toNat) = some (.int .i64 (rd t719 (ji39)))) (ds := []) #[false, false, false, false, false, false, false, false, false, false, false] m8_q rfl rfl ⟨hx737_0, hx738_0⟩ (fun hHeld => ?_); refine with_tabW laws_FnRepairEarly.tab9 laws_FnRepairEarly.bits9 (fun HT_ HW_ => ?_)
      generalize wc.drew = w75 at HO_5 HO_7 HO_9 HO_11 HO_726001 BK725 BK726 HB hx737_0 hx738_0 hHeld ⊢
      refine pJ HT_ 0 78 rfl rfl ?_
      refine pJ HT_ 1 79 rfl rfl ?_
      refine pJ HT_ 2 80 rfl rfl ?_
      refine pJ HT_ 3 81 rfl rfl ?_
      refine pJ HT_ 5 83 rfl rfl ?_
      refine pJ HT_ 6 84 rfl rfl ?_
      refine pJ HT_ 7 85 rfl rfl ?_
      refine pJ HT_ 8 86 rfl rfl ?_
      refine take_ (i := 4) (N := some 82) (v := ?_) (a' := ?_) #[true, true, true, true, true, true, true, true, true, false, false] rfl rfl (take_ofW HT_.out HW_.out m8_q) (fun _ _ _ h => h) (Or.inl ⟨by rfl, ?_⟩) hHeld ?_ ?_
      rotate_left
      ·rintro w' ⟨s0, s1⟩
       go_simp
       with_reducible rfl
      rotate_left
      ·simp only [pS_q]
       rfl
      refine take_ (i := 9) (N := some 87) (v := ?_) (a' := ?_) #[true, true, true, true, true, true, true, true, true, true, false] rfl rfl (take_ofW HT_.out HW_.out m8_q) (fun _ _ _ h => h) (Or.inl ⟨by rfl, ?_⟩) hHeld ?_ ?_
      rotate_left
      ·rintro w' ⟨s0, s1⟩
       go_simp
       with_reducible rfl
      rotate_left
      ·simp only [pS_q]
       rfl
      refine pJ HT_ 10 88 rfl rfl ?_
      refine done_ (done_of HT_.out m8_q) ?_
      try go_wp2_with (first | ((with_reducible refine gD_q (N := 89) rfl ?_); (try (refine gate_guard (by rfl) ?_; dsimp only)); refine Kd.R_lit kI_q _ 3 ?hg (N := 89) ?hd (xs := ([] : List Int)) (inner := []) (ok := fun _ => True) (okp := fun _ => True) ?hr ?hp (fun _ hk => hk) trivial (bR_q _ _) (nR_q _) (by simp) ?_; (case hd => rfl); (case hg => rfl); (case hr => exact m5_q); (case hp => exact m104_q); intro v740 w76 ho77 hb hg_ hnew_; clear hg_ hnew_; (first | rw [← Ny739.out] at ho77 | (simp only [Int.reduceToNat] at ho77; rw [← Ny739.out] at ho77)); replace HO_5 := Ae_q (Kd.S_elder' m79_q (rB_q ho77) hb); have HO741 := Ae_q (rL_q (rW_q (rW_q (rW_q (rW_q ho77 (rT_q (rup HO_7.out))) (rT_q (rup HO_9.out))) (rT_q (rup HO_11.out))) (rT_q (rup HO_726001.out))) (bZ_q m14_q)); replace HO_7 := Ae_q (rE_q (rup HO_7.out) (rB_q ho77) hb); replace HO_9 := Ae_q (rE_q (rup HO_9.out) (rB_q ho77) hb); replace HO_11 := Ae_q (rE_q (rup HO_11.out) (rB_q ho77) hb); replace HO_726001 := Ae_q (rE_q (rup HO_726001.out) (rB_q ho77) hb); replace BK725 := Ae_q (bB_q (g := gb725) (o := .cells #[.int .i64 t715, .slice Ao15 t716.length co15] 43 (0, 0)) (bup BK725.out) hb); replace BK726 := Ae_q (bB_q (g := gb726) (o := .cells #[.int .i64 t722, .int .i64 t723, .int .i64 t724] 31 (0, 0)) (bup BK726.out) hb); replace HB := Ae_q (bT_q m14_q hb); clear hb ho77; have q78 : ((ji46) : Int) ≤ ((t727.length : Int) : Int) := oD_q (by assumption); obtain ⟨i078, hi078, _, hsz78, _⟩ := info_parts info3; have hroom78 : t727.length ≤ co74 := (rR_q HO_9.out).2.1; have hC78 : Kd.C kI_q _ (some ad737) t727.length t727 := (rR_q HO_9.out).2.2; have hcut78 := cut_to (P := Try.prog) 23 3 .i64 Try.underlying23 hi078 (some ad737) t727.length co74 (ji46) (oD_q (by assumption)) q78 hroom78; have hr78 := Kd.C_take (m := ((ji46) : Int).toNat) hC78 (by omega); have hy78 : y742.length = ((ji46) : Int).toNat := (by rw [Ny742.out, lT_q]; omega); rw [← Ny742.out] at hr78; rw [← hy78] at hcut78; have HR745 := Ae_q hr78; have HC745 := Ae_q (show y742.length ≤ co74 from by omega); clear hr78 hC78 hroom78 hi078 hsz78; have KY78 := Ae_q hy78; clear hy78; have KL78 := Ae_q (show ((ji46) : Int).toNat ≤ t727.length from by omega); replace q78 := eq_true q78) | ((with_reducible refine gate_builtin (b := .append) (xs := #[.tmp 89, .tmp 92]) rfl ?_); (try (refine gate_guard (by rfl) ?_; dsimp only)); at_builtin; refine Kd.R_append_rows kI_q (w0 := w) w.heap.size rfl (.tmp 89) (.tmp 92) 23 3 (.int .i64 0) 8 rfl Try.underlying23 info3 rfl (by decide) (by omega) v740 y739 y742 _ _ _ (fun k_ => some k_ ≠ (.slice (some ad738) t719.length co18 : Value).ownBlock ∧ some k_ ≠ (.slice (some ad737) t727.length co74 : Value).ownBlock ∧ some k_ ≠ (v732 : Value).ownBlock ∧ some k_ ≠ (.slice Ao15 t716.length co15 : Value).ownBlock) (fun _ => False) rfl rfl ?aO ?aR (fun _ _ h => h) (fun _ h => h.elim) ?aF ?aB ?aS ?aL ?_; (case aR => exact m168_q); (case aB => exact m14_q); (case aF => exact m122_q); (case aO => exact m139_q); (case aS => exact (bZ_q m14_q)); (case aL => have := LMc49.out; omega); intro v747 w79 ho hb hg hat; rw [← Ny746.out] at ho; replace HO_5 := Ae_q (Kd.S_after (ok := (fun k_ => some k_ ≠ (.slice (some ad738) t719.length co18 : Value).ownBlock ∧ some k_ ≠ (.slice (some ad737) t727.length co74 : Value).ownBlock ∧ some k_ ≠ (v732 : Value).ownBlock ∧ some k_ ≠ (.slice Ao15 t716.length co15 : Value).ownBlock)) m79_q hg hat); replace HO_7 := Ae_q (rF_q (ok := (fun k_ => some k_ ≠ (.slice (some ad737) t727.length co74 : Value).ownBlock ∧ some k_ ≠ (v732 : Value).ownBlock ∧ some k_ ≠ (.slice Ao15 t716.length co15 : Value).ownBlock)) (rup HO_7.out) hg hat); replace HO_11 := Ae_q (rF_q (ok := (fun k_ => some k_ ≠ (.slice (some ad738) t719.length co18 : Value).ownBlock ∧ some k_ ≠ (.slice (some ad737) t727.length co74 : Value).ownBlock ∧ some k_ ≠ (.slice Ao15 t716.length co15 : Value).ownBlock)) (rup HO_11.out) hg hat); replace HO_726001 := Ae_q (rF_q (ok := (fun k_ => some k_ ≠ (.slice (some ad738) t719.length co18 : Value).ownBlock ∧ some k_ ≠ (.slice (some ad737) t727.length co74 : Value).ownBlock ∧ some k_ ≠ (v732 : Value).ownBlock)) (rup HO_726001.out) hg hat); replace BK725 := Ae_q (bG_q (g := gb725) (o := .cells #[.int .i64 t715, .slice Ao15 t716.length co15] 43 (0, 0)) (bup BK725.out) hg (Kd.R_ne HO741.out BK725.out (by decide))); replace BK726 := Ae_q (bG_q (g := gb726) (o := .cells #[.int .i64 t722, .int .i64 t723, .int .i64 t724] 31 (0, 0)) (bup BK726.out) hg (Kd.R_ne HO741.out BK726.out (by decide))); replace HB := Ae_q (hb); replace HR745 := Ae_q ((show Kd.C kI_q w79 (some ad737) y742.length y742 from by rw [Ny742.out]; exact Kd.C_take (m := ((ji46) : Int).toNat) ((rR_q (rF_q (ok := (fun k_ => some k_ ≠ (.slice (some ad738) t719.length co18 : Value).ownBlock ∧ some k_ ≠ (v732 : Value).ownBlock ∧ some k_ ≠ (.slice Ao15 t716.length co15 : Value).ownBlock)) (rup HO_9.out) hg hat)).2.2) KL78.out)); replace HO_9 := Ae_q (rF_q (ok := (fun k_ => some k_ ≠ (.slice (some ad738) t719.length co18 : Value).ownBlock ∧ some k_ ≠ (v732 : Value).ownBlock ∧ some k_ ≠ (.slice Ao15 t716.length co15 : Value).ownBlock)) (rup HO_9.out) hg hat); have HO748 := Ae_q (ho); clear HO741; clear ho hb hg hat; obtain ⟨Ao80, co80, eo80⟩ := rS_q HO748.out; subst eo80; have p749 : 0 ≤ ((ji39) : Int) := oD_q (by assumption); have q749 : (ji39) < (y746.length : Int) := oD_q (by assumption); obtain ⟨ad749, e749, hx749_0⟩ := aI_q (rR_q HO748.out).2.2 (ji39) p749 q749; cases e749; replace p749 := eq_true p749; replace q749 := eq_true q749; have p51 : 0 ≤ ((ji39) : Int) := oD_q (by assumption); have q51 : ((ji39) : Int) < ((y746.length : Int) : Int) := oD_q (by assumption); obtain ⟨go51, co51, eo51, gb51, gl51, cl51, HG51⟩ := Kd.R_form HO748.out (by omega); (first | cases eo51 | (injection eo51 with ea_ en_ ec_; (first | subst ea_ | (injection ea_ with ea_; subst ea_)); subst ec_; clear en_)); have GB51 := Ae_q gb51; have GG51 := Ae_q HG51; clear gb51 gl51 HG51; (first | simp only [add_plain] at hx749_0 | skip); obtain ⟨hx51_0, hf51_0⟩ := Kd.R_celln 0 HO748.out ((ji39) : Int) p51 q51; replace p51 := eq_true p51; replace q51 := eq_true q51; obtain ⟨hy81_, hz81_⟩ := Kd.R_celln 0 HO748.out ((ji39) : Int) (oD_q (by assumption)) (oD_q (by assumption)); have HP81 := Kd.R_putg HO748.out ((ji39) : Int) (wrap64 ((rd y746 (ji39)) - 1))) | ((with_reducible refine gate_store (t := 3) (p := 103) rfl ?_); refine store_event (t := 3) (p := 103) (v := ?vo_w82) (w1 := (w79.setCell ⟨go51, ((ji39) : Int).toNat, none⟩ (.int .i64 (wrap64 ((rd y746 (ji39)) - 1))))) ?hg ?ho ?hn ?hr ?_; (case ho => rfl); (case hg => rfl); (case hn => rfl); (case hr => exact m5_q); intro w82 hw; have hg : w79.grownBy w82 (some go51) := (by rw [hw]; exact HP81.2); have hp_ : Kd.R kI_q 3 w82 w.heap.size (fun k_ => some k_ ≠ (.slice (some ad738) t719.length co18 : Value).ownBlock ∧ some k_ ≠ (.slice (some ad737) t727.length co74 : Value).ownBlock ∧ some k_ ≠ (v732 : Value).ownBlock ∧ some k_ ≠ (.slice Ao15 t716.length co15 : Value).ownBlock) (.slice (some ⟨go51, 0, none⟩) y746.length co80) y750 := (by rw [hw, Ny750.out]; exact HP81.1); clear HP81; replace HO_5 := Ae_q (Kd.S_after (v := (.slice (some ⟨go51, 0, none⟩) y746.length co80)) (v1 := (.slice (some ⟨go51, 0, none⟩) y746.length co80)) (ok := (fun k_ => some k_ ≠ (.slice (some ad738) t719.length co18 : Value).ownBlock ∧ some k_ ≠ (.slice (some ad737) t727.length co74 : Value).ownBlock ∧ some k_ ≠ (v732 : Value).ownBlock ∧ some k_ ≠ (.slice Ao15 t716.length co15 : Value).ownBlock)) m79_q hg (.inl rfl)); replace HO_7 := Ae_q (rF_q (v := (.slice (some ⟨go51, 0, none⟩) y746.length co80)) (v1 := (.slice (some ⟨go51, 0, none⟩) y746.length co80)) (ok := (fun k_ => some k_ ≠ (.slice (some ad737) t727.length co74 : Value).ownBlock ∧ some k_ ≠ (v732 : Value).ownBlock ∧ some k_ ≠ (.slice Ao15 t716.length co15 : Value).ownBlock)) (rup HO_7.out) hg (.inl rfl)); replace HO_11 := Ae_q (rF_q (v := (.slice (some ⟨go51, 0, none⟩) y746.length co80)) (v1 := (.slice (some ⟨go51, 0, none⟩) y746.length co80)) (ok := (fun k_ => some k_ ≠ (.slice (some ad738) t719.length co18 : Value).ownBlock ∧ some k_ ≠ (.slice (some ad737) t727.length co74 : Value).ownBlock ∧ some k_ ≠ (.slice Ao15 t716.length co15 : Value).ownBlock)) (rup HO_11.out) hg (.inl rfl)); replace HO_726001 := Ae_q (rF_q (v := (.slice (some ⟨go51, 0, none⟩) y746.length co80)) (v1 := (.slice (some ⟨go51, 0, none⟩) y746.length co80)) (ok := (fun k_ => some k_ ≠ (.slice (some ad738) t719.length co18 : Value).ownBlock ∧ some k_ ≠ (.slice (some ad737) t727.length co74 : Value).ownBlock ∧ some k_ ≠ (v732 : Value).ownBlock)) (rup HO_726001.out) hg (.inl rfl)); replace BK725 := Ae_q (bG_q (g := gb725) (o := .cells #[.int .i64 t715, .slice Ao15 t716.length co15] 43 (0, 0)) (bup BK725.out) hg (Kd.R_ne HO748.out BK725.out (by decide))); replace BK726 := Ae_q (bG_q (g := gb726) (o := .cells #[.int .i64 t722, .int .i64 t723, .int .i64 t724] 31 (0, 0)) (bup BK726.out) hg (Kd.R_ne HO748.out BK726.out (by decide))); replace HO748 := Ae_q (hp_); replace HB := Ae_q ((by rw [hw]; exact bS_q (HB.out) GB51.out : Below w.heap.size w w82)); replace HR745 := Ae_q ((show Kd.C kI_q w82 (some ad737) y742.length y742 from by rw [Ny742.out]; exact Kd.C_take (m := ((ji46) : Int).toNat) ((rR_q (rF_q (v := (.slice (some ⟨go51, 0, none⟩) y746.length co80)) (v1 := (.slice (some ⟨go51, 0, none⟩) y746.length co80)) (ok := (fun k_ => some k_ ≠ (.slice (some ad738) t719.length co18 : Value).ownBlock ∧ some k_ ≠ (v732 : Value).ownBlock ∧ some k_ ≠ (.slice Ao15 t716.length co15 : Value).ownBlock)) (rup HO_9.out) hg (.inl rfl))).2.2) KL78.out)); replace HO_9 := Ae_q (rF_q (v := (.slice (some ⟨go51, 0, none⟩) y746.length co80)) (v1 := (.slice (some ⟨go51, 0, none⟩) y746.length co80)) (ok := (fun k_ => some k_ ≠ (.slice (some ad738) t719.length co18 : Value).ownBlock ∧ some k_ ≠ (v732 : Value).ownBlock ∧ some k_ ≠ (.slice Ao15 t716.length co15 : Value).ownBlock)) (rup HO_9.out) hg (.inl rfl)); clear hg hw hp_))
      replace HO_5 := Ae_q (tD_q HO_5.out)
      replace HO_7 := Ae_q (rD_q HO_7.out)
      replace HO_9 := Ae_q (rD_q HO_9.out)
      replace HO_11 := Ae_q (rD_q HO_11.out)
      replace HO_726001 := Ae_q (rD_q HO_726001.out)
      replace HO748 := Ae_q (rD_q HO748.out)
      replace BK725 := Ae_q (bW_q BK725.out)
      replace BK726 := Ae_q (bW_q BK726.out)
      replace HR745 := Ae_q (cD_q HR745.out)
      replace HB := Ae_q (bD_q HB.out)
      have q84 : ((ji46) : Int) ≤ ((t712.length : Int) : Int) := oD_q (by assumption)
      obtain ⟨i084, hi084, _, hsz84, _⟩ := info_parts info63
      have hroom84 : t712.length ≤ co17 := (Kd.S_reads' HO_5.out).2.1
      have hC84 : Kd.C k63 _ Ao17 t712.length t712 := (Kd.S_reads' HO_5.out).2.2
      have hcut84 := cut_to (P := Try.prog) 28 63 .i64 Try.underlying28 hi084 Ao17 t712.length co17 (ji46) (oD_q (by assumption)) q84 hroom84
      have hr84 := Kd.C_take (m := ((ji46) : Int).toNat) hC84 (by omega)
      have hy84 : y751.length = ((ji46) : Int).toNat := (by rw [Ny751.out, lT_q]; omega)
      rw [← Ny751.out] at hr84
      rw [← hy84] at hcut84
      have HR754 := Ae_q hr84
      have HC754 := Ae_q (show y751.length ≤ co17 from by omega)
      clear hr84 hC84 hroom84 hi084 hsz84
      have KY84 := Ae_q hy84
      clear hy84
      have KL84 := Ae_q (show ((ji46) : Int).toNat ≤ t712.length from by omega)
      replace q84 := eq_true q84
      refine start_ (n := 18) (S := fun w' => w'.cell? ⟨gb725, 0, none⟩ = some (.int .i64 t715) ∧ w'.cell? ⟨gb725, 1, none⟩ = some (.slice Ao15 t716.length co15)) (ds := []) #[false, false, false, false, false, false, false, false, false, false, false, false, false, false, false, false, false, false] m8_q rfl rfl ⟨(bC_q BK725.out 0).trans rfl, (bC_q BK725.out 1).trans rfl⟩ (fun hHeld => ?_); refine with_tabW laws_FnRepairEarly.tab13 laws_FnRepairEarly.bits13 (fun HT_ HW_ => ?_)
      generalize w82.drew = w83 at HO_5 HO_7 HO_9 HO_11 HO_726001 HO748 BK725 BK726 HR745 HB HR754 hHeld ⊢
      refine pJ HT_ 0 104 rfl rfl ?_
      refine pJ HT_ 1 105 rfl rfl ?_
      refine pJ HT_ 2 106 rfl rfl ?_
      refine pJ HT_ 4 108 rfl rfl ?_
      refine take_ (i := 3) (N := some 107) (v := ?_) (a' := ?_) #[true, true, true, true, true, false, false, false, false, false, false, false, false, false, false, false, false, false] rfl rfl (take_ofW HT_.out HW_.out m8_q) (fun _ _ _ h => h) (Or.inl ⟨by rfl, ?_⟩) hHeld ?_ ?_
      rotate_left
      ·rintro w' ⟨s0, s1⟩
       go_simp
       with_reducible rfl
      rotate_left
      ·simp only [pS_q]
       rfl
      refine one_ (i := 5) (N := some 109) #[true, true, true, true, true, true, false, false, false, false, false, false, false, false, false, false, false, false] rfl rfl (one_of HT_.out m8_q) (by decide) (fun K hK => ?_)
      refine goes_ Try.func31 m8_q rfl #[.slice Ao17 y751.length co17, .agg #[.int .i64 t715, .slice Ao15 t716.length co15], .slice (some ⟨go51, 0, none⟩) y750.length co80] (by rfl) rfl rfl m99_q ?_
      with_reducible refine (impl_PlanValid.calls kj8 _ _ y751 t715 _ _ t716 _ _ y750 false _ ?side1 ?side2 ?side3 ?side4 ?side5 ?side6 A54.out).mono ?_
      (case side1 => exact m169_q)
      (case side2 => exact HC754.out)
      (case side3 => exact cup (rR_q HO_726001.out).2.2)
      (case side4 => exact (rR_q HO_726001.out).2.1)
      (case side5 => exact cup (rR_q HO748.out).2.2)
      (case side6 => exact m142_q)
      rintro e w' ⟨rfl, hb⟩
      refine ⟨_, rfl, ?_⟩
      replace HO_5 := Ae_q (Kd.S_below m79_q hb)
      replace HO_7 := Ae_q (rO_q (rup HO_7.out) hb)
      replace HO_9 := Ae_q (rO_q (rup HO_9.out) hb)
      replace HO_11 := Ae_q (rO_q (rup HO_11.out) hb)
      replace HO_726001 := Ae_q (rO_q (rup HO_726001.out) hb)
      replace HO748 := Ae_q (rO_q (rup HO748.out) hb)
      replace BK725 := Ae_q (bB_q (g := gb725) (o := .cells #[.int .i64 t715, .slice Ao15 t716.length co15] 43 (0, 0)) (bup BK725.out) hb)
      replace BK726 := Ae_q (bB_q (g := gb726) (o := .cells #[.int .i64 t722, .int .i64 t723, .int .i64 t724] 31 (0, 0)) (bup BK726.out) hb)
      replace HR745 := Ae_q (cB_q m72_q hb)
      replace HR754 := Ae_q (cB_q m73_q hb)
      replace HB := Ae_q (bT_q m14_q hb)
      (try clear hb)
      (try clear hb2)
      (try clear hk)
      (try clear hi)
      refine hK.out _ _ ⟨(bC_q BK725.out 0).trans rfl, (bC_q BK725.out 1).trans rfl⟩ (fun hHeld => ?_)
      clear hK K
      refine nJ_q ?_
      refine pJ HT_ 6 110 rfl rfl ?_
      refine pJ HT_ 7 111 rfl rfl ?_
      refine pV HT_ 8 112 rfl rfl ?_
      refine pV HT_ 9 113 rfl rfl ?_
      refine pV HT_ 10 114 rfl rfl ?_
      refine pV HT_ 11 115 rfl rfl ?_
      refine pV HT_ 12 116 rfl rfl ?_
      refine pV HT_ 13 117 rfl rfl ?_
      refine pV HT_ 14 118 rfl rfl ?_
      refine pV HT_ 15 119 rfl rfl ?_
      refine pJ HT_ 16 120 rfl rfl ?_
      refine pJ HT_ 17 4 rfl rfl ?_
      refine done_ (done_of HT_.out m8_q) ?_
      try go_wp2
      go_ret
      exact ⟨m138_q, m14_q⟩
     subst c55
     have H1 : ((impl_OutageHits.f kj8 (t712.take ((ji46) : Int).toNat) y750 t722 t723 t724).bind fun t760 => (some (decide ((t760.length : Int) > 0)))) = some r := by rw [if_pos rfl] at H; exact H
     clear H
     have H := H1
     clear H1
     have c56b0 := eq_true (oD_q (by assumption) : 0 ≤ (ji46))
     have c57b0 := eq_true (oD_q (by assumption) : (ji46) ≤ (t712.length : Int))
     obtain ⟨y756, hy756⟩ : ∃ y_ : List (S63), y_ = (t712.take ((ji46) : Int).toNat) := ⟨_, rfl⟩
     replace H : ((impl_OutageHits.f kj8 y756 y750 t722 t723 t724).bind fun t760 => (some (decide ((t760.length : Int) > 0)))) = some r := by first | (rw [hy756]; with_reducible exact H) | (have H2_ := (oS_q _ _).symm.trans H; rw [hy756]; with_reducible exact H2_) | (have H2_ := (oS_q _ _).symm.trans H; with_reducible exact H2_) | with_reducible exact H | (rw [hy756]; exact H) | exact H
     have Ny756 := Ae_q hy756
     clear hy756
     replace H := oB_q.mp H
     obtain ⟨t760, A580, H⟩ := H
     replace H : (some (decide ((t760.length : Int) > 0))) = some r := H
     have A58 := Ae_q A580
     clear A580
     obtain rfl := oI_q H
     obtain ⟨Ao59, co59, eo59⟩ := rS_q HO_9.out
     subst eo59
     try go_wp2
     replace HO_5 := Ae_q (tD_q HO_5.out)
     replace HO_7 := Ae_q (rD_q HO_7.out)
     replace HO_9 := Ae_q (rD_q HO_9.out)
     replace HO_11 := Ae_q (rD_q HO_11.out)
     replace HO_726001 := Ae_q (rD_q HO_726001.out)
     replace BK725 := Ae_q (bW_q BK725.out)
     replace BK726 := Ae_q (bW_q BK726.out)
     replace HB := Ae_q (bD_q HB.out)
     have p737 : 0 ≤ ((ji39) : Int) := oD_q (by assumption)
     have q737 : (ji39) < (t727.length : Int) := oD_q (by assumption)
     obtain ⟨ad737, e737, hx737_0⟩ := aI_q (rR_q HO_9.out).2.2 (ji39) p737 q737
     cases e737
     replace p737 := eq_true p737
     replace q737 := eq_true q737
     have p738 : 0 ≤ ((ji39) : Int) := oD_q (by assumption)
     have q738 : (ji39) < (t719.length : Int) := oD_q (by assumption)
     obtain ⟨ad738, e738, hx738_0⟩ := aI_q (rR_q HO_7.out).2.2 (ji39) p738 q738
     cases e738
     replace p738 := eq_true p738
     replace q738 := eq_true q738
     refine start_ (n := 11) (S := fun w' => w'.cell? (ad737.add ((ji39)).toNat) = some (.int .i64 (rd t727 (ji39))) ∧ w'.cell? (ad738.add ((ji39)).toNat) = some (.int .i64 (rd t719 (ji39)))) (ds := []) #[false, false, false, false, false, false, false, false, false, false, false] m8_q rfl rfl ⟨hx737_0, hx738_0⟩ (fun hHeld => ?_); refine with_tabW laws_FnRepairEarly.tab9 laws_FnRepairEarly.bits9 (fun HT_ HW_ => ?_)
     generalize wc.drew = w60 at HO_5 HO_7 HO_9 HO_11 HO_726001 BK725 BK726 HB hx737_0 hx738_0 hHeld ⊢
     refine pJ HT_ 0 78 rfl rfl ?_
     refine pJ HT_ 1 79 rfl rfl ?_
     refine pJ HT_ 2 80 rfl rfl ?_
     refine pJ HT_ 3 81 rfl rfl ?_
     refine pJ HT_ 5 83 rfl rfl ?_
     refine pJ HT_ 6 84 rfl rfl ?_
     refine pJ HT_ 7 85 rfl rfl ?_
     refine pJ HT_ 8 86 rfl rfl ?_
     refine take_ (i := 4) (N := some 82) (v := ?_) (a' := ?_) #[true, true, true, true, true, true, true, true, true, false, false] rfl rfl (take_ofW HT_.out HW_.out m8_q) (fun _ _ _ h => h) (Or.inl ⟨by rfl, ?_⟩) hHeld ?_ ?_
     rotate_left
     ·rintro w' ⟨s0, s1⟩
      go_simp
      with_reducible rfl
     rotate_left
     ·simp only [pS_q]
      rfl
     refine take_ (i := 9) (N := some 87) (v := ?_) (a' := ?_) #[true, true, true, true, true, true, true, true, true, true, false] rfl rfl (take_ofW HT_.out HW_.out m8_q) (fun _ _ _ h => h) (Or.inl ⟨by rfl, ?_⟩) hHeld ?_ ?_
     rotate_left
     ·rintro w' ⟨s0, s1⟩
      go_simp
      with_reducible rfl
     rotate_left
     ·simp only [pS_q]
      rfl
     refine pJ HT_ 10 88 rfl rfl ?_
     refine done_ (done_of HT_.out m8_q) ?_
     try go_wp2_with (first | ((with_reducible refine gD_q (N := 89) rfl ?_); (try (refine gate_guard (by rfl) ?_; dsimp only)); refine Kd.R_lit kI_q _ 3 ?hg (N := 89) ?hd (xs := ([] : List Int)) (inner := []) (ok := fun _ => True) (okp := fun _ => True) ?hr ?hp (fun _ hk => hk) trivial (bR_q _ _) (nR_q _) (by simp) ?_; (case hd => rfl); (case hg => rfl); (case hr => exact m5_q); (case hp => exact m104_q); intro v740 w61 ho62 hb hg_ hnew_; clear hg_ hnew_; (first | rw [← Ny739.out] at ho62 | (simp only [Int.reduceToNat] at ho62; rw [← Ny739.out] at ho62)); replace HO_5 := Ae_q (Kd.S_elder' m79_q (rB_q ho62) hb); have HO741 := Ae_q (rL_q (rW_q (rW_q (rW_q (rW_q ho62 (rT_q (rup HO_7.out))) (rT_q (rup HO_9.out))) (rT_q (rup HO_11.out))) (rT_q (rup HO_726001.out))) (bZ_q m14_q)); replace HO_7 := Ae_q (rE_q (rup HO_7.out) (rB_q ho62) hb); replace HO_9 := Ae_q (rE_q (rup HO_9.out) (rB_q ho62) hb); replace HO_11 := Ae_q (rE_q (rup HO_11.out) (rB_q ho62) hb); replace HO_726001 := Ae_q (rE_q (rup HO_726001.out) (rB_q ho62) hb); replace BK725 := Ae_q (bB_q (g := gb725) (o := .cells #[.int .i64 t715, .slice Ao15 t716.length co15] 43 (0, 0)) (bup BK725.out) hb); replace BK726 := Ae_q (bB_q (g := gb726) (o := .cells #[.int .i64 t722, .int .i64 t723, .int .i64 t724] 31 (0, 0)) (bup BK726.out) hb); replace HB := Ae_q (bT_q m14_q hb); clear hb ho62; have q63 : ((ji46) : Int) ≤ ((t727.length : Int) : Int) := oD_q (by assumption); obtain ⟨i063, hi063, _, hsz63, _⟩ := info_parts info3; have hroom63 : t727.length ≤ co59 := (rR_q HO_9.out).2.1; have hC63 : Kd.C kI_q _ (some ad737) t727.length t727 := (rR_q HO_9.out).2.2; have hcut63 := cut_to (P := Try.prog) 23 3 .i64 Try.underlying23 hi063 (some ad737) t727.length co59 (ji46) (oD_q (by assumption)) q63 hroom63; have hr63 := Kd.C_take (m := ((ji46) : Int).toNat) hC63 (by omega); have hy63 : y742.length = ((ji46) : Int).toNat := (by rw [Ny742.out, lT_q]; omega); rw [← Ny742.out] at hr63; rw [← hy63] at hcut63; have HR745 := Ae_q hr63; have HC745 := Ae_q (show y742.length ≤ co59 from by omega); clear hr63 hC63 hroom63 hi063 hsz63; have KY63 := Ae_q hy63; clear hy63; have KL63 := Ae_q (show ((ji46) : Int).toNat ≤ t727.length from by omega); replace q63 := eq_true q63) | ((with_reducible refine gate_builtin (b := .append) (xs := #[.tmp 89, .tmp 92]) rfl ?_); (try (refine gate_guard (by rfl) ?_; dsimp only)); at_builtin; refine Kd.R_append_rows kI_q (w0 := w) w.heap.size rfl (.tmp 89) (.tmp 92) 23 3 (.int .i64 0) 8 rfl Try.underlying23 info3 rfl (by decide) (by omega) v740 y739 y742 _ _ _ (fun k_ => some k_ ≠ (.slice (some ad738) t719.length co18 : Value).ownBlock ∧ some k_ ≠ (.slice (some ad737) t727.length co59 : Value).ownBlock ∧ some k_ ≠ (v732 : Value).ownBlock ∧ some k_ ≠ (.slice Ao15 t716.length co15 : Value).ownBlock) (fun _ => False) rfl rfl ?aO ?aR (fun _ _ h => h) (fun _ h => h.elim) ?aF ?aB ?aS ?aL ?_; (case aR => exact m168_q); (case aB => exact m14_q); (case aF => exact m122_q); (case aO => exact m139_q); (case aS => exact (bZ_q m14_q)); (case aL => have := LMc49.out; omega); intro v747 w64 ho hb hg hat; rw [← Ny746.out] at ho; replace HO_5 := Ae_q (Kd.S_after (ok := (fun k_ => some k_ ≠ (.slice (some ad738) t719.length co18 : Value).ownBlock ∧ some k_ ≠ (.slice (some ad737) t727.length co59 : Value).ownBlock ∧ some k_ ≠ (v732 : Value).ownBlock ∧ some k_ ≠ (.slice Ao15 t716.length co15 : Value).ownBlock)) m79_q hg hat); replace HO_7 := Ae_q (rF_q (ok := (fun k_ => some k_ ≠ (.slice (some ad737) t727.length co59 : Value).ownBlock ∧ some k_ ≠ (v732 : Value).ownBlock ∧ some k_ ≠ (.slice Ao15 t716.length co15 : Value).ownBlock)) (rup HO_7.out) hg hat); replace HO_11 := Ae_q (rF_q (ok := (fun k_ => some k_ ≠ (.slice (some ad738) t719.length co18 : Value).ownBlock ∧ some k_ ≠ (.slice (some ad737) t727.length co59 : Value).ownBlock ∧ some k_ ≠ (.slice Ao15 t716.length co15 : Value).ownBlock)) (rup HO_11.out) hg hat); replace HO_726001 := Ae_q (rF_q (ok := (fun k_ => some k_ ≠ (.slice (some ad738) t719.length co18 : Value).ownBlock ∧ some k_ ≠ (.slice (some ad737) t727.length co59 : Value).ownBlock ∧ some k_ ≠ (v732 : Value).ownBlock)) (rup HO_726001.out) hg hat); replace BK725 := Ae_q (bG_q (g := gb725) (o := .cells #[.int .i64 t715, .slice Ao15 t716.length co15] 43 (0, 0)) (bup BK725.out) hg (Kd.R_ne HO741.out BK725.out (by decide))); replace BK726 := Ae_q (bG_q (g := gb726) (o := .cells #[.int .i64 t722, .int .i64 t723, .int .i64 t724] 31 (0, 0)) (bup BK726.out) hg (Kd.R_ne HO741.out BK726.out (by decide))); replace HB := Ae_q (hb); replace HR745 := Ae_q ((show Kd.C kI_q w64 (some ad737) y742.length y742 from by rw [Ny742.out]; exact Kd.C_take (m := ((ji46) : Int).toNat) ((rR_q (rF_q (ok := (fun k_ => some k_ ≠ (.slice (some ad738) t719.length co18 : Value).ownBlock ∧ some k_ ≠ (v732 : Value).ownBlock ∧ some k_ ≠ (.slice Ao15 t716.length co15 : Value).ownBlock)) (rup HO_9.out) hg hat)).2.2) KL63.out)); replace HO_9 := Ae_q (rF_q (ok := (fun k_ => some k_ ≠ (.slice (some ad738) t719.length co18 : Value).ownBlock ∧ some k_ ≠ (v732 : Value).ownBlock ∧ some k_ ≠ (.slice Ao15 t716.length co15 : Value).ownBlock)) (rup HO_9.out) hg hat); have HO748 := Ae_q (ho); clear HO741; clear ho hb hg hat; obtain ⟨Ao65, co65, eo65⟩ := rS_q HO748.out; subst eo65; have p749 : 0 ≤ ((ji39) : Int) := oD_q (by assumption); have q749 : (ji39) < (y746.length : Int) := oD_q (by assumption); obtain ⟨ad749, e749, hx749_0⟩ := aI_q (rR_q HO748.out).2.2 (ji39) p749 q749; cases e749; replace p749 := eq_true p749; replace q749 := eq_true q749; have p51 : 0 ≤ ((ji39) : Int) := oD_q (by assumption); have q51 : ((ji39) : Int) < ((y746.length : Int) : Int) := oD_q (by assumption); obtain ⟨go51, co51, eo51, gb51, gl51, cl51, HG51⟩ := Kd.R_form HO748.out (by omega); (first | cases eo51 | (injection eo51 with ea_ en_ ec_; (first | subst ea_ | (injection ea_ with ea_; subst ea_)); subst ec_; clear en_)); have GB51 := Ae_q gb51; have GG51 := Ae_q HG51; clear gb51 gl51 HG51; (first | simp only [add_plain] at hx749_0 | skip); obtain ⟨hx51_0, hf51_0⟩ := Kd.R_celln 0 HO748.out ((ji39) : Int) p51 q51; replace p51 := eq_true p51; replace q51 := eq_true q51; obtain ⟨hy66_, hz66_⟩ := Kd.R_celln 0 HO748.out ((ji39) : Int) (oD_q (by assumption)) (oD_q (by assumption)); have HP66 := Kd.R_putg HO748.out ((ji39) : Int) (wrap64 ((rd y746 (ji39)) - 1))) | ((with_reducible refine gate_store (t := 3) (p := 103) rfl ?_); refine store_event (t := 3) (p := 103) (v := ?vo_w67) (w1 := (w64.setCell ⟨go51, ((ji39) : Int).toNat, none⟩ (.int .i64 (wrap64 ((rd y746 (ji39)) - 1))))) ?hg ?ho ?hn ?hr ?_; (case ho => rfl); (case hg => rfl); (case hn => rfl); (case hr => exact m5_q); intro w67 hw; have hg : w64.grownBy w67 (some go51) := (by rw [hw]; exact HP66.2); have hp_ : Kd.R kI_q 3 w67 w.heap.size (fun k_ => some k_ ≠ (.slice (some ad738) t719.length co18 : Value).ownBlock ∧ some k_ ≠ (.slice (some ad737) t727.length co59 : Value).ownBlock ∧ some k_ ≠ (v732 : Value).ownBlock ∧ some k_ ≠ (.slice Ao15 t716.length co15 : Value).ownBlock) (.slice (some ⟨go51, 0, none⟩) y746.length co65) y750 := (by rw [hw, Ny750.out]; exact HP66.1); clear HP66; replace HO_5 := Ae_q (Kd.S_after (v := (.slice (some ⟨go51, 0, none⟩) y746.length co65)) (v1 := (.slice (some ⟨go51, 0, none⟩) y746.length co65)) (ok := (fun k_ => some k_ ≠ (.slice (some ad738) t719.length co18 : Value).ownBlock ∧ some k_ ≠ (.slice (some ad737) t727.length co59 : Value).ownBlock ∧ some k_ ≠ (v732 : Value).ownBlock ∧ some k_ ≠ (.slice Ao15 t716.length co15 : Value).ownBlock)) m79_q hg (.inl rfl)); replace HO_7 := Ae_q (rF_q (v := (.slice (some ⟨go51, 0, none⟩) y746.length co65)) (v1 := (.slice (some ⟨go51, 0, none⟩) y746.length co65)) (ok := (fun k_ => some k_ ≠ (.slice (some ad737) t727.length co59 : Value).ownBlock ∧ some k_ ≠ (v732 : Value).ownBlock ∧ some k_ ≠ (.slice Ao15 t716.length co15 : Value).ownBlock)) (rup HO_7.out) hg (.inl rfl)); replace HO_11 := Ae_q (rF_q (v := (.slice (some ⟨go51, 0, none⟩) y746.length co65)) (v1 := (.slice (some ⟨go51, 0, none⟩) y746.length co65)) (ok := (fun k_ => some k_ ≠ (.slice (some ad738) t719.length co18 : Value).ownBlock ∧ some k_ ≠ (.slice (some ad737) t727.length co59 : Value).ownBlock ∧ some k_ ≠ (.slice Ao15 t716.length co15 : Value).ownBlock)) (rup HO_11.out) hg (.inl rfl)); replace HO_726001 := Ae_q (rF_q (v := (.slice (some ⟨go51, 0, none⟩) y746.length co65)) (v1 := (.slice (some ⟨go51, 0, none⟩) y746.length co65)) (ok := (fun k_ => some k_ ≠ (.slice (some ad738) t719.length co18 : Value).ownBlock ∧ some k_ ≠ (.slice (some ad737) t727.length co59 : Value).ownBlock ∧ some k_ ≠ (v732 : Value).ownBlock)) (rup HO_726001.out) hg (.inl rfl)); replace BK725 := Ae_q (bG_q (g := gb725) (o := .cells #[.int .i64 t715, .slice Ao15 t716.length co15] 43 (0, 0)) (bup BK725.out) hg (Kd.R_ne HO748.out BK725.out (by decide))); replace BK726 := Ae_q (bG_q (g := gb726) (o := .cells #[.int .i64 t722, .int .i64 t723, .int .i64 t724] 31 (0, 0)) (bup BK726.out) hg (Kd.R_ne HO748.out BK726.out (by decide))); replace HO748 := Ae_q (hp_); replace HB := Ae_q ((by rw [hw]; exact bS_q (HB.out) GB51.out : Below w.heap.size w w67)); replace HR745 := Ae_q ((show Kd.C kI_q w67 (some ad737) y742.length y742 from by rw [Ny742.out]; exact Kd.C_take (m := ((ji46) : Int).toNat) ((rR_q (rF_q (v := (.slice (some ⟨go51, 0, none⟩) y746.length co65)) (v1 := (.slice (some ⟨go51, 0, none⟩) y746.length co65)) (ok := (fun k_ => some k_ ≠ (.slice (some ad738) t719.length co18 : Value).ownBlock ∧ some k_ ≠ (v732 : Value).ownBlock ∧ some k_ ≠ (.slice Ao15 t716.length co15 : Value).ownBlock)) (rup HO_9.out) hg (.inl rfl))).2.2) KL63.out)); replace HO_9 := Ae_q (rF_q (v := (.slice (some ⟨go51, 0, none⟩) y746.length co65)) (v1 := (.slice (some ⟨go51, 0, none⟩) y746.length co65)) (ok := (fun k_ => some k_ ≠ (.slice (some ad738) t719.length co18 : Value).ownBlock ∧ some k_ ≠ (v732 : Value).ownBlock ∧ some k_ ≠ (.slice Ao15 t716.length co15 : Value).ownBlock)) (rup HO_9.out) hg (.inl rfl)); clear hg hw hp_))
     replace HO_5 := Ae_q (tD_q HO_5.out)
     replace HO_7 := Ae_q (rD_q HO_7.out)
     replace HO_9 := Ae_q (rD_q HO_9.out)
     replace HO_11 := Ae_q (rD_q HO_11.out)
     replace HO_726001 := Ae_q (rD_q HO_726001.out)
     replace HO748 := Ae_q (rD_q HO748.out)
     replace BK725 := Ae_q (bW_q BK725.out)
     replace BK726 := Ae_q (bW_q BK726.out)
     replace HR745 := Ae_q (cD_q HR745.out)
     replace HB := Ae_q (bD_q HB.out)
     have q69 : ((ji46) : Int) ≤ ((t712.length : Int) : Int) := oD_q (by assumption)
     obtain ⟨i069, hi069, _, hsz69, _⟩ := info_parts info63
     have hroom69 : t712.length ≤ co17 := (Kd.S_reads' HO_5.out).2.1
     have hC69 : Kd.C k63 _ Ao17 t712.length t712 := (Kd.S_reads' HO_5.out).2.2
     have hcut69 := cut_to (P := Try.prog) 28 63 .i64 Try.underlying28 hi069 Ao17 t712.length co17 (ji46) (oD_q (by assumption)) q69 hroom69
     have hr69 := Kd.C_take (m := ((ji46) : Int).toNat) hC69 (by omega)
     have hy69 : y751.length = ((ji46) : Int).toNat := (by rw [Ny751.out, lT_q]; omega)
     rw [← Ny751.out] at hr69
     rw [← hy69] at hcut69
     have HR754 := Ae_q hr69
     have HC754 := Ae_q (show y751.length ≤ co17 from by omega)
     clear hr69 hC69 hroom69 hi069 hsz69
     have KY69 := Ae_q hy69
     clear hy69
     have KL69 := Ae_q (show ((ji46) : Int).toNat ≤ t712.length from by omega)
     replace q69 := eq_true q69
     refine start_ (n := 18) (S := fun w' => w'.cell? ⟨gb725, 0, none⟩ = some (.int .i64 t715) ∧ w'.cell? ⟨gb725, 1, none⟩ = some (.slice Ao15 t716.length co15) ∧ w'.cell? ⟨gb726, 0, none⟩ = some (.int .i64 t722) ∧ w'.cell? ⟨gb726, 1, none⟩ = some (.int .i64 t723) ∧ w'.cell? ⟨gb726, 2, none⟩ = some (.int .i64 t724)) (ds := []) #[false, false, false, false, false, false, false, false, false, false, false, false, false, false, false, false, false, false] m8_q rfl rfl ⟨(bC_q BK725.out 0).trans rfl, (bC_q BK725.out 1).trans rfl, (bC_q BK726.out 0).trans rfl, (bC_q BK726.out 1).trans rfl, (bC_q BK726.out 2).trans rfl⟩ (fun hHeld => ?_); refine with_tabW laws_FnRepairEarly.tab13 laws_FnRepairEarly.bits13 (fun HT_ HW_ => ?_)
     generalize w67.drew = w68 at HO_5 HO_7 HO_9 HO_11 HO_726001 HO748 BK725 BK726 HR745 HB HR754 hHeld ⊢
     refine pJ HT_ 0 104 rfl rfl ?_
     refine pJ HT_ 1 105 rfl rfl ?_
     refine pJ HT_ 2 106 rfl rfl ?_
     refine pJ HT_ 4 108 rfl rfl ?_
     refine take_ (i := 3) (N := some 107) (v := ?_) (a' := ?_) #[true, true, true, true, true, false, false, false, false, false, false, false, false, false, false, false, false, false] rfl rfl (take_ofW HT_.out HW_.out m8_q) (fun _ _ _ h => h) (Or.inl ⟨by rfl, ?_⟩) hHeld ?_ ?_
     rotate_left
     ·rintro w' ⟨s0, s1, s2, s3, s4⟩
      go_simp
      with_reducible rfl
     rotate_left
     ·simp only [pS_q]
      rfl
     refine one_ (i := 5) (N := some 109) #[true, true, true, true, true, true, false, false, false, false, false, false, false, false, false, false, false, false] rfl rfl (one_of HT_.out m8_q) (by decide) (fun K hK => ?_)
     refine goes_ Try.func31 m8_q rfl #[.slice Ao17 y751.length co17, .agg #[.int .i64 t715, .slice Ao15 t716.length co15], .slice (some ⟨go51, 0, none⟩) y750.length co65] (by rfl) rfl rfl m99_q ?_
     with_reducible refine (impl_PlanValid.calls kj8 _ _ y751 t715 _ _ t716 _ _ y750 true _ ?side1 ?side2 ?side3 ?side4 ?side5 ?side6 A54.out).mono ?_
     (case side1 => exact m169_q)
     (case side2 => exact HC754.out)
     (case side3 => exact cup (rR_q HO_726001.out).2.2)
     (case side4 => exact (rR_q HO_726001.out).2.1)
     (case side5 => exact cup (rR_q HO748.out).2.2)
     (case side6 => exact m142_q)
     rintro e w' ⟨rfl, hb⟩
     refine ⟨_, rfl, ?_⟩
     replace HO_5 := Ae_q (Kd.S_below m79_q hb)
     replace HO_7 := Ae_q (rO_q (rup HO_7.out) hb)
     replace HO_9 := Ae_q (rO_q (rup HO_9.out) hb)
     replace HO_11 := Ae_q (rO_q (rup HO_11.out) hb)
     replace HO_726001 := Ae_q (rO_q (rup HO_726001.out) hb)
     replace HO748 := Ae_q (rO_q (rup HO748.out) hb)
     replace BK725 := Ae_q (bB_q (g := gb725) (o := .cells #[.int .i64 t715, .slice Ao15 t716.length co15] 43 (0, 0)) (bup BK725.out) hb)
     replace BK726 := Ae_q (bB_q (g := gb726) (o := .cells #[.int .i64 t722, .int .i64 t723, .int .i64 t724] 31 (0, 0)) (bup BK726.out) hb)
     replace HR745 := Ae_q (cB_q m72_q hb)
     replace HR754 := Ae_q (cB_q m73_q hb)
     replace HB := Ae_q (bT_q m14_q hb)
     (try clear hb)
     (try clear hb2)
     (try clear hk)
     (try clear hi)
     have q71 : ((ji46) : Int) ≤ ((t712.length : Int) : Int) := oD_q (by assumption)
     obtain ⟨i071, hi071, _, hsz71, _⟩ := info_parts info63
     have hroom71 : t712.length ≤ co17 := (Kd.S_reads' HO_5.out).2.1
     have hC71 : Kd.C k63 _ Ao17 t712.length t712 := (Kd.S_reads' HO_5.out).2.2
     have hcut71 := cut_to (P := Try.prog) 28 63 .i64 Try.underlying28 hi071 Ao17 t712.length co17 (ji46) (oD_q (by assumption)) q71 hroom71
     have hr71 := Kd.C_take (m := ((ji46) : Int).toNat) hC71 (by omega)
     have hy71 : y756.length = ((ji46) : Int).toNat := (by rw [Ny756.out, lT_q]; omega)
     rw [← Ny756.out] at hr71
     rw [← hy71] at hcut71
     have HR759 := Ae_q hr71
     have HC759 := Ae_q (show y756.length ≤ co17 from by omega)
     clear hr71 hC71 hroom71 hi071 hsz71
     have KY71 := Ae_q hy71
     clear hy71
     have KL71 := Ae_q (show ((ji46) : Int).toNat ≤ t712.length from by omega)
     replace q71 := eq_true q71
     refine hK.out _ _ ⟨(bC_q BK725.out 0).trans rfl, (bC_q BK725.out 1).trans rfl, (bC_q BK726.out 0).trans rfl, (bC_q BK726.out 1).trans rfl, (bC_q BK726.out 2).trans rfl⟩ (fun hHeld => ?_)
     clear hK K
     refine nJ_q ?_
     refine pJ HT_ 6 110 rfl rfl ?_
     refine pJ HT_ 7 111 rfl rfl ?_
     refine pJ HT_ 8 112 rfl rfl ?_
     refine pJ HT_ 9 113 rfl rfl ?_
     refine pJ HT_ 10 114 rfl rfl ?_
     refine pJ HT_ 11 115 rfl rfl ?_
     refine take_ (i := 12) (N := some 116) (v := ?_) (a' := ?_) #[true, true, true, true, true, true, true, true, true, true, true, true, true, false, false, false, false, false] rfl rfl (take_ofW HT_.out HW_.out m8_q) (fun _ _ _ h => h) (Or.inl ⟨by rfl, ?_⟩) hHeld ?_ ?_
     rotate_left
     ·rintro w' ⟨s0, s1, s2, s3, s4⟩
      go_simp
      with_reducible rfl
     rotate_left
     ·simp only [pS_q]
      rfl
     refine one_ (i := 13) (N := some 117) #[true, true, true, true, true, true, true, true, true, true, true, true, true, true, false, false, false, false] rfl rfl (one_of HT_.out m8_q) (by decide) (fun K hK => ?_)
     refine goes_ Try.func15 m8_q rfl #[.slice Ao17 y756.length co17, .slice (some ⟨go51, 0, none⟩) y750.length co65, .agg #[.int .i64 t722, .int .i64 t723, .int .i64 t724]] (by rfl) rfl rfl (by (try simp only [lM_q, lC_q, lN_q]); first | done | (rw [show y750.length = y746.length from (rR_q HO748.out).1.symm] <;> rfl) | rfl | (simp only [lD_q, lT_q]; rfl) | (simp only [Ny756.out, Ny751.out]; rfl) | (simp only [Ny756.out, Ny751.out, Ny750.out, List.length_set]; rfl)) ?_
     with_reducible refine (impl_OutageHits.calls kj8 _ _ y756 _ _ y750 t722 t723 t724 t760 _ ?side1 ?side2 ?side3 ?side4 A58.out).mono ?_
     (case side1 => repeat (first | exact m126_q | (with_reducible refine cA_q ?_ _) | (with_reducible refine cN_q ?_ _) | (with_reducible refine cD_q ?_)))
     (case side2 => exact HC759.out)
     (case side3 => exact cup (rR_q HO748.out).2.2)
     (case side4 => exact m142_q)
     rintro e w' ⟨v761, rfl, ho0, hb⟩
     refine ⟨_, rfl, ?_⟩
     replace HO_5 := Ae_q (Kd.S_elder' m79_q (rB_q ho0) hb)
     have HO762 := Ae_q (rL_q (rW_q (rW_q (rW_q (rW_q (rW_q ho0 (rT_q (rup HO_7.out))) (rT_q (rup HO_9.out))) (rT_q (rup HO_11.out))) (rT_q (rup HO_726001.out))) (rT_q (rup HO748.out))) (bZ_q m14_q))
     replace HO_7 := Ae_q (rE_q (rup HO_7.out) (rB_q ho0) hb)
     replace HO_9 := Ae_q (rE_q (rup HO_9.out) (rB_q ho0) hb)
     replace HO_11 := Ae_q (rE_q (rup HO_11.out) (rB_q ho0) hb)
     replace HO_726001 := Ae_q (rE_q (rup HO_726001.out) (rB_q ho0) hb)
     replace HO748 := Ae_q (rE_q (rup HO748.out) (rB_q ho0) hb)
     replace BK725 := Ae_q (bB_q (g := gb725) (o := .cells #[.int .i64 t715, .slice Ao15 t716.length co15] 43 (0, 0)) (bup BK725.out) hb)
     replace BK726 := Ae_q (bB_q (g := gb726) (o := .cells #[.int .i64 t722, .int .i64 t723, .int .i64 t724] 31 (0, 0)) (bup BK726.out) hb)
     replace HR745 := Ae_q (cB_q m72_q hb)
     replace HR754 := Ae_q (cB_q m73_q hb)
     replace HR759 := Ae_q (cB_q m126_q hb)
     replace HB := Ae_q (bT_q m14_q hb)
     (try clear hb)
     (try clear hb2)
     (try clear hk)
     (try clear hi)
     (try clear ho0)
     obtain ⟨Ao73, co73, eo73⟩ := rS_q HO762.out
     (first | subst eo73 | (injection eo73 with f1_ f2_ f3_; have f4_ := f1_.symm; have f5_ := f3_.symm; clear f1_ f2_ f3_; subst f4_; subst f5_))
     refine hK.out _ _ ⟨(bC_q BK725.out 0).trans rfl, (bC_q BK725.out 1).trans rfl, (bC_q BK726.out 0).trans rfl, (bC_q BK726.out 1).trans rfl, (bC_q BK726.out 2).trans rfl⟩ (fun hHeld => ?_)
     clear hK K
     refine nJ_q ?_
     refine pJ HT_ 14 118 rfl rfl ?_
     refine pJ HT_ 15 119 rfl rfl ?_
     refine pJ HT_ 16 120 rfl rfl ?_
     refine pJ HT_ 17 4 rfl rfl ?_
     refine done_ (done_of HT_.out m8_q) ?_
     try go_wp2
     go_ret
     exact ⟨m138_q, m14_q⟩

def laws_FnRepairEarly.Pure : Prop := ∀ (l0 : List Int) (l1 : List Int), l0.length ≤ maxLen → l0.length * 1 ≤ 140737488351232 → (∀ x ∈ l0, (Lit.int .u8 x).wf = true) → l1.length ≤ maxLen → l1.length * 1 ≤ 140737488351232 → (∀ x ∈ l1, (Lit.int .u8 x).wf = true) → ∃ k, laws_FnRepairEarly.f k l0 l1 = some true
theorem laws_FnRepairEarly.walk (P : laws_FnRepairEarly.Pure) (a0 : Option Addr) (len0 cap0 : Nat) (z0 : List Int) (a1 : Option Addr) (len1 cap1 : Nat) (z1 : List Int) (w : World) (w0 : (a0 = none ∧ len0 = 0 ∧ cap0 = 0 ∧ z0 = []) ∨ ∃ x, a0 = some x ∧ len0 ≤ cap0 ∧ cap0 ≤ maxLen ∧ z0.length = cap0 ∧ (∀ i, i < z0.length → w.cell? (x.add i) = some (.int .u8 (z0.getD i 0))) ∧ ∀ n ∈ z0, (Lit.int .u8 n).wf = true) (y0 : len0 * 1 ≤ 140737488351232) (w1 : (a1 = none ∧ len1 = 0 ∧ cap1 = 0 ∧ z1 = []) ∨ ∃ x, a1 = some x ∧ len1 ≤ cap1 ∧ cap1 ≤ maxLen ∧ z1.length = cap1 ∧ (∀ i, i < z1.length → w.cell? (x.add i) = some (.int .u8 (z1.getD i 0))) ∧ ∀ n ∈ z1, (Lit.int .u8 n).wf = true) (y1 : len1 * 1 ≤ 140737488351232) :
    Calls Try.prog 6 #[.slice a0 len0 cap0, .slice a1 len1 cap1] w fun e w' => e = .returned (.bool true) ∧ Below w.heap.size w w' := by
 obtain ⟨l0, rfl, hr0, hm0, hw0, hc0⟩ := ReadsInt.ofRowC w0
 obtain ⟨l1, rfl, hr1, hm1, hw1, hc1⟩ := ReadsInt.ofRowC w1
 obtain ⟨k, h⟩ := P l0 l1 hm0 y0 hw0 hm1 y1 hw1
 refine (laws_FnRepairEarly.calls k _ _ l0 _ _ l1 true w (Kd.C_of_reads (d := (0 : Int)) (h1 := fun _ => rfl) hr0) hc0 (Kd.C_of_reads (d := (0 : Int)) (h1 := fun _ => rfl) hr1) hc1 h).mono ?_
 rintro e w' ⟨rfl, hd⟩
 exact ⟨rfl, hd⟩

end Go.Proofs.Ytfnpiacmlahegaa.PRp
