import Derived.Test.YtbclhpibilbdbaaDoorVDPScx0
import Derived.Test.YtbclhpibilbdbaaDoorVDPScx17
import Derived.Test.YtbclhpibilbdbaaDoorVDPScx24
import Derived.Test.YtbclhpibilbdbaaDoorVDPScx27
import Derived.Test.YtbclhpibilbdbaaDoorVDPScx29
namespace Go.Proofs.YtbclhpibilbdbaaDoor.PSc
open Go.RowKit Go.Proofs.YtbclhpibilbdbaaDoorW.PrintWords Go.Proofs.YtbclhpibilbdbaaDoorW.PrintLast Go.Proofs.YtbclhpibilbdbaaDoorW.PrintMore
attribute [local go_sem] max2_int min2_int max_two min_two max_three min_three max_four min_four
set_option linter.unusedVariables false
set_option linter.unusedSimpArgs false

def laws_FnScriptCut.j0 : Nat → ByteArray → ByteArray → ByteArray → Bool → Option (Bool)
 | 0, _, _, _, _ => none
 | k + 1, x3, x4, x5, x22 => if x22 = true then (some (x4.toList == x5.toList)) else ((laws_completeLines.f k x3).bind fun t546 => ((impl_Execute.f k t546).bind fun t547 => (some (t547.toList == x4.toList))))
def laws_FnScriptCut.f (k : Nat) (l0 : List Int) : Option (Bool) := if (l0.length : Int) > 1048576 then (some true) else ((spec_DrawExecute.f k l0).bind fun t543 => ((impl_Execute.f k t543).bind fun t544 => ((spec_Execute.f k t543).bind fun t545 => (if t544.toList = t545.toList then (laws_FnScriptCut.j0 k t543 t544 t545 (decide ((t543.size : Int) > 600))) else (laws_FnScriptCut.j0 k t543 t544 t545 true)))))
set_option maxHeartbeats 8000000 in
set_option maxRecDepth 100000 in
theorem laws_FnScriptCut.calls (k : Nat) (A0 : Option Addr) (c0 : Nat) (l0 : List Int) (r : Bool) (w : World) (hr0 : Kd.C (Kd.int .u8) w A0 l0.length l0) (hc0 : l0.length ≤ c0) (h : laws_FnScriptCut.f k l0 = some r) (hG : Sh.GW w) :
    Calls Tryd.prog 4 #[.slice A0 l0.length c0] w fun e w' => e = .returned (.bool r) ∧ Below w.heap.size w w' := by
 have HG := Ae_q hG
 clear hG
 have HR0 := Ae_q hr0
 have HC0 := Ae_q hc0
 clear hr0 hc0
 have HB := Ae_q (bR_q w.heap.size w)
 have H : (if (l0.length : Int) > 1048576 then (some true) else ((spec_DrawExecute.f k l0).bind fun t543 => ((impl_Execute.f k t543).bind fun t544 => ((spec_Execute.f k t543).bind fun t545 => (if t544.toList = t545.toList then (laws_FnScriptCut.j0 k t543 t544 t545 (decide ((t543.size : Int) > 600))) else (laws_FnScriptCut.j0 k t543 t544 t545 true)))))) = some r := h
 clear h
 by_cases c2 : (l0.length : Int) > 1048576
 ·rw [if_pos c2] at H
  have c2b0 : decide (1048576 < (l0.length : Int)) = true := dT_q c2
  have c2b1 : decide (1048576 < l0.length) = true := dT_q (by omega)
  clear c2
  obtain rfl := oI_q H
  go_enter Tryd.func4, Tryd.ntmps4
  go_wp2
  go_ret
  exact ⟨m3_q, bel HB.out⟩
 rw [if_neg c2] at H
 have c2b0 : decide (1048576 < (l0.length : Int)) = false := dF_q c2
 have c2b1 : decide (1048576 < l0.length) = false := dF_q (by omega)
 clear c2
 replace H := oB_q.mp H
 obtain ⟨t543, A30, H⟩ := H
 replace H : ((impl_Execute.f k t543).bind fun t544 => ((spec_Execute.f k t543).bind fun t545 => (if t544.toList = t545.toList then (laws_FnScriptCut.j0 k t543 t544 t545 (decide ((t543.size : Int) > 600))) else (laws_FnScriptCut.j0 k t543 t544 t545 true)))) = some r := H
 have A3 := Ae_q A30
 clear A30
 replace H := oB_q.mp H
 obtain ⟨t544, A40, H⟩ := H
 replace H : ((spec_Execute.f k t543).bind fun t545 => (if t544.toList = t545.toList then (laws_FnScriptCut.j0 k t543 t544 t545 (decide ((t543.size : Int) > 600))) else (laws_FnScriptCut.j0 k t543 t544 t545 true))) = some r := H
 have A4 := Ae_q A40
 clear A40
 replace H := oB_q.mp H
 obtain ⟨t545, A50, H⟩ := H
 replace H : (if t544.toList = t545.toList then (laws_FnScriptCut.j0 k t543 t544 t545 (decide ((t543.size : Int) > 600))) else (laws_FnScriptCut.j0 k t543 t544 t545 true)) = some r := H
 have A5 := Ae_q A50
 clear A50
 have HC6 := Ae_q H
 clear H
 go_enter Tryd.func4, Tryd.ntmps4
 go_upto_region 6 with (first | ((first | ((with_reducible refine gC_q (f := 12) rfl ?_); refine gL_q (some 10) rfl rfl Tryd.func12 m7_q rfl #[.slice A0 l0.length c0] rfl m0_q ?_; (with_reducible refine (spec_DrawExecute.calls k _ _ l0 t543 _ ?side1 ?side2 A3.out).mono ?_); (case side1 => exact m36_q); (case side2 => exact m62_q)) | ((with_reducible refine gC_q (f := 13) rfl ?_); refine gL_q (some 12) rfl rfl Tryd.func13 m7_q rfl #[.string t543] rfl m0_q ?_; (with_reducible refine (impl_Execute.calls k t543 t544 _ A4.out m34_q).mono ?_)) | ((with_reducible refine gC_q (f := 14) rfl ?_); refine gL_q (some 14) rfl rfl Tryd.func14 m7_q rfl #[.string t543] rfl m0_q ?_; (with_reducible refine (spec_Execute.calls k t543 t545 _ A5.out).mono ?_))); rintro e w' ⟨rfl, hb⟩; refine ⟨_, rfl, ?_⟩; replace HB := Ae_q (bT_q (bel HB.out) hb); (try clear hb); (try clear hb2); (try clear hk); (try clear hi)))
 (try simp only [Act.put, sA_q, sZ_q, sS_q])
 go_cut [22] (fun v22 wc => ∃ (kq : Nat) (x22_5 : Bool), v22 = .bool x22_5 ∧ Aside0 (laws_FnScriptCut.j0 kq t543 t544 t545 x22_5 = some r) ∧ Aside0 (kq ≤ k) ∧ Aside0 (Below w.heap.size w wc))
 case first =>
  have H := HC6.out
  clear HC6
  by_cases c10 : t544.toList = t545.toList
  ·rw [if_pos c10] at H
   have c10b0 : (t544.toList == t545.toList) = true := beq_iff_eq.mpr c10
   have c10b1 : (t544.toList != t545.toList) = false := nE_q.mpr c10
   clear c10
   (first | rw [c10b0] | (simp only [i64_w, i32_w]; rw [c10b0]) | skip)
   have H' := Ae_q H
   clear H
   go_wp2
   go_meet
   case rel => exact ⟨_, (decide ((t543.size : Int) > 600)), m1_q, H', ⟨m44_q⟩, ⟨bel HB.out⟩⟩
  rw [if_neg c10] at H
  have c10b0 : (t544.toList == t545.toList) = false := fN_q.mpr c10
  have c10b1 : (t544.toList != t545.toList) = true := nI_q.mpr c10
  (first | rw [c10b0] | (simp only [i64_w, i32_w]; rw [c10b0]) | skip)
  have H' := Ae_q H
  clear H
  go_wp2
  go_meet
  case rel => exact ⟨_, (true), m1_q, H', ⟨m44_q⟩, ⟨bel HB.out⟩⟩
 case rest =>
  clear HC6
  try clear c1
  try clear c2
  try clear c2b0
  try clear c2b1
  try clear p2
  try clear c4
  try clear c10
  try clear c10b0
  try clear c10b1
  obtain ⟨kq, x22_5, rfl, HA, HJ5, HB⟩ := hcut
  cases kq with
  | zero => exact absurd HA.out (by simp [laws_FnScriptCut.j0])
  | succ kj5 =>
   have H := HA.out
   clear HA
   simp only [laws_FnScriptCut.j0] at H
   by_cases c11 : x22_5 = true
   ·subst c11
    have H1 : (some (t544.toList == t545.toList)) = some r := by rw [if_pos rfl] at H; exact H
    clear H
    have H := H1
    clear H1
    obtain rfl := oI_q H
    go_wp2
    go_ret
    exact ⟨m3_q, bel HB.out⟩
   replace c11 := fM_q.mpr c11
   subst c11
   have H1 : ((laws_completeLines.f kj5 t543).bind fun t546 => ((impl_Execute.f kj5 t546).bind fun t547 => (some (t547.toList == t544.toList)))) = some r := by rw [if_neg (show ¬ (false = true) by decide)] at H; exact H
   clear H
   have H := H1
   clear H1
   replace H := oB_q.mp H
   obtain ⟨t546, A120, H⟩ := H
   replace H : ((impl_Execute.f kj5 t546).bind fun t547 => (some (t547.toList == t544.toList))) = some r := H
   have A12 := Ae_q A120
   clear A120
   replace H := oB_q.mp H
   obtain ⟨t547, A130, H⟩ := H
   replace H : (some (t547.toList == t544.toList)) = some r := H
   have A13 := Ae_q A130
   clear A130
   obtain rfl := oI_q H
   go_wp2_with (first | ((with_reducible refine gC_q (f := 15) rfl ?_); refine gL_q (some 27) rfl rfl Tryd.func15 m7_q rfl #[.string t543] rfl m0_q ?_; (with_reducible refine (laws_completeLines.calls kj5 t543 t546 _ A12.out).mono ?_); rintro e w' ⟨rfl, ⟨nd, rfl⟩⟩; refine ⟨_, rfl, ?_⟩) | ((with_reducible refine gC_q (f := 13) rfl ?_); refine gL_q (some 28) rfl rfl Tryd.func13 m7_q rfl #[.string t546] rfl m0_q ?_; (with_reducible refine (impl_Execute.calls kj5 t546 t547 _ A13.out m34_q).mono ?_); rintro e w' ⟨rfl, hb⟩; refine ⟨_, rfl, ?_⟩; replace HB := Ae_q (bT_q (bel HB.out) hb); (try clear hb); (try clear hb2); (try clear hk); (try clear hi)))
   go_ret
   exact ⟨m3_q, bel HB.out⟩

def laws_FnScriptCut.Pure : Prop := ∀ (l0 : List Int), l0.length ≤ maxLen → l0.length * 1 ≤ 140737488351232 → (∀ x ∈ l0, (Lit.int .u8 x).wf = true) → ∃ k, laws_FnScriptCut.f k l0 = some true
theorem laws_FnScriptCut.walk (P : laws_FnScriptCut.Pure) (a0 : Option Addr) (len0 cap0 : Nat) (z0 : List Int) (w : World) (hG : Sh.GW w) (w0 : (a0 = none ∧ len0 = 0 ∧ cap0 = 0 ∧ z0 = []) ∨ ∃ x, a0 = some x ∧ len0 ≤ cap0 ∧ cap0 ≤ maxLen ∧ z0.length = cap0 ∧ (∀ i, i < z0.length → w.cell? (x.add i) = some (.int .u8 (z0.getD i 0))) ∧ ∀ n ∈ z0, (Lit.int .u8 n).wf = true) (y0 : len0 * 1 ≤ 140737488351232) :
    Calls Tryd.prog 4 #[.slice a0 len0 cap0] w fun e w' => e = .returned (.bool true) ∧ Below w.heap.size w w' := by
 obtain ⟨l0, rfl, hr0, hm0, hw0, hc0⟩ := ReadsInt.ofRowC w0
 obtain ⟨k, h⟩ := P l0 hm0 y0 hw0
 refine (laws_FnScriptCut.calls k _ _ l0 true w (Kd.C_of_reads (d := (0 : Int)) (h1 := fun _ => rfl) hr0) hc0 h hG).mono ?_
 rintro e w' ⟨rfl, hd⟩
 exact ⟨rfl, hd⟩

end Go.Proofs.YtbclhpibilbdbaaDoor.PSc
