import Derived.Test.YtnckblolijkdaaaVJPBtx0
import Derived.Test.YtnckblolijkdaaaVJPBtx4
import Derived.Test.YtnckblolijkdaaaVJPBtx7
import Derived.Test.YtnckblolijkdaaaVJPBtx9
namespace Go.Proofs.Ytnckblolijkdaaa.PBt
open Go.RowKit Go.Proofs.YtnckblolijkdaaaW.PrintWords Go.Proofs.YtnckblolijkdaaaW.PrintLast Go.Proofs.YtnckblolijkdaaaW.PrintMore
attribute [local go_sem] max2_int min2_int max_two min_two max_three min_three max_four min_four
set_option linter.unusedVariables false
set_option linter.unusedSimpArgs false

def spec_l6In.f (a0 : Int) (a1 : Int) (a2 : Int) : Option (Bool) := if a0 ≥ a1 then (some (decide (a0 ≤ a2))) else (some false)
set_option maxHeartbeats 8000000 in
set_option maxRecDepth 100000 in
theorem spec_l6In.calls (a0 : Int) (a1 : Int) (a2 : Int) (r : Bool) (w : World) (h : spec_l6In.f a0 a1 a2 = some r) :
    Calls Try.prog 59 #[.int .i64 a0, .int .i64 a1, .int .i64 a2] w fun e w' => e = .returned (.bool r) ∧ Drawn0 w w' := by
 have H : (if a0 ≥ a1 then (some (decide (a0 ≤ a2))) else (some false)) = some r := h
 clear h
 by_cases c4 : a0 ≥ a1
 ·rw [if_pos c4] at H
  have c4b0 : decide (a1 ≤ a0) = true := dT_q c4
  clear c4
  obtain rfl := oI_q H
  go_enter Try.func59, Try.ntmps59
  go_wp2
  go_ret
  exact ⟨m3_q, m8_q⟩
 rw [if_neg c4] at H
 have c4b0 : decide (a1 ≤ a0) = false := dF_q c4
 clear c4
 obtain rfl := oI_q H
 go_enter Try.func59, Try.ntmps59
 go_wp2
 go_ret
 exact ⟨m3_q, m8_q⟩

def spec_l42Batch.l0 : Nat → Int → Int → List Int → Int → Int → Option (Bool)
 | 0, _, _, _, _, _ => none
 | k + 1, x3, x163000, x163001, x163002, x163003 => if x3 < (x163001.length : Int) then (if 0 ≤ x3 then ((spec_l6In.f (rd x163001 x3) 1 20).bind fun t164 => (if t164 = true then (if x3 > 0 then (if 0 ≤ (wrap64 (x3 - 1)) then (if (wrap64 (x3 - 1)) < (x163001.length : Int) then (if (rd x163001 (wrap64 (x3 - 1))) ≥ (rd x163001 x3) then (some false) else (spec_l42Batch.l0 k (wrap64 (x3 + 1)) x163000 x163001 x163002 x163003)) else (none)) else (none)) else (spec_l42Batch.l0 k (wrap64 (x3 + 1)) x163000 x163001 x163002 x163003)) else (some false))) else (none)) else ((spec_l6In.f x163000 1 20).bind fun t167 => (if t167 = true then ((spec_l6In.f x163002 0 1439).bind fun t168 => (if t168 = true then ((spec_l6In.f x163003 x163002 1439).bind fun t169 => (some t169)) else (some false))) else (some false)))
def spec_l42Batch.f (k : Nat) (a0_0 : Int) (l0_1 : List Int) (a0_2 : Int) (a0_3 : Int) : Option (Bool) := spec_l42Batch.l0 k 0 a0_0 l0_1 a0_2 a0_3
set_option maxHeartbeats 8000000 in
set_option maxRecDepth 100000 in
theorem spec_l42Batch.calls (k : Nat) (a0_0 : Int) (A0_1 : Option Addr) (c0_1 : Nat) (l0_1 : List Int) (a0_2 : Int) (a0_3 : Int) (r : Bool) (w : World) (hr0_1 : Kd.C kI_q w A0_1 l0_1.length l0_1) (hc0_1 : l0_1.length ≤ c0_1) (h : spec_l42Batch.f k a0_0 l0_1 a0_2 a0_3 = some r) :
    Calls Try.prog 48 #[.agg #[.int .i64 a0_0, .slice A0_1 l0_1.length c0_1, .int .i64 a0_2, .int .i64 a0_3]] w fun e w' => e = .returned (.bool r) ∧ Below w.heap.size w w' := by
 have hu39 := Try.underlying39
 have HR0_1 := Ae_q hr0_1
 have HC0_1 := Ae_q hc0_1
 clear hr0_1 hc0_1
 have HB := Ae_q (bR_q w.heap.size w)
 have H : (spec_l42Batch.l0 k 0 a0_0 l0_1 a0_2 a0_3) = some r := h
 clear h
 have H' := Ae_q H
 clear H
 go_enter Try.func48, Try.ntmps48
 go_wp2_with (first | ((with_reducible refine gD_q (N := 1) rfl ?_); refine bE_q ?hg (N := 1) ?hd (cs := #[.int .i64 a0_0, .slice A0_1 l0_1.length c0_1, .int .i64 a0_2, .int .i64 a0_3]) (t := 39) ?hr ?_; (case hd => rfl); (case hg => rfl); (case hr => exact m6_q); intro gb162 hg w' hbox hb; have BK162 := Ae_q (hbox); have GW162 := Ae_q ((by rw [hg]; exact (bZ_q (bel HB.out)) : w.heap.size ≤ gb162)); have GE162 := Ae_q ((by rw [hg]; exact (bZ_q (bel HB.out)) : w.heap.size ≤ gb162)); replace HB := Ae_q (bT_q (bel HB.out) hb); clear hb hbox hg))
 repeat (go_quiet (first | ((with_reducible refine gD_q (N := 1) rfl ?_); refine bE_q ?hg (N := 1) ?hd (cs := #[.int .i64 a0_0, .slice A0_1 l0_1.length c0_1, .int .i64 a0_2, .int .i64 a0_3]) (t := 39) ?hr ?_; (case hd => rfl); (case hg => rfl); (case hr => exact m6_q); intro gb162 hg w' hbox hb; have BK162 := Ae_q (hbox); have GW162 := Ae_q ((by rw [hg]; exact (bZ_q (bel HB.out)) : w.heap.size ≤ gb162)); have GE162 := Ae_q ((by rw [hg]; exact (bZ_q (bel HB.out)) : w.heap.size ≤ gb162)); replace HB := Ae_q (bT_q (bel HB.out) hb); clear hb hbox hg)); try go_wp2_with (first | ((with_reducible refine gD_q (N := 1) rfl ?_); refine bE_q ?hg (N := 1) ?hd (cs := #[.int .i64 a0_0, .slice A0_1 l0_1.length c0_1, .int .i64 a0_2, .int .i64 a0_3]) (t := 39) ?hr ?_; (case hd => rfl); (case hg => rfl); (case hr => exact m6_q); intro gb162 hg w' hbox hb; have BK162 := Ae_q (hbox); have GW162 := Ae_q ((by rw [hg]; exact (bZ_q (bel HB.out)) : w.heap.size ≤ gb162)); have GE162 := Ae_q ((by rw [hg]; exact (bZ_q (bel HB.out)) : w.heap.size ≤ gb162)); replace HB := Ae_q (bT_q (bel HB.out) hb); clear hb hbox hg)))
 go_loopg [3] k (fun kq v3 w' => ∃ (x3_1 : Int), v3 = .int .i64 x3_1 ∧ Aside0 (spec_l42Batch.l0 kq x3_1 a0_0 l0_1 a0_2 a0_3 = some r) ∧ Aside0 (kq ≤ k) ∧ Aside0 (w'.heap[gb162]? = some (.cells #[.int .i64 a0_0, (.slice A0_1 l0_1.length c0_1), .int .i64 a0_2, .int .i64 a0_3] 39 (0, 0))) ∧ Aside0 (Below w.heap.size w w'))
 case atStart => exact ⟨(0), m3_q, H', ⟨nR_q _⟩, ⟨bup BK162.out⟩, ⟨m17_q⟩⟩
 case round =>
  clear H'
  try clear p2
  obtain ⟨x3_1, rfl, HA, HK1, BK162, HB⟩ := hrel
  cases gk with
  | zero => exact absurd HA.out (by simp [spec_l42Batch.l0])
  | succ k1 =>
   have H := HA.out
   clear HA
   simp only [spec_l42Batch.l0] at H
   by_cases c3 : x3_1 < (l0_1.length : Int)
   rotate_left
   ·rw [if_neg c3] at H
    have c3b0 : decide (x3_1 < (l0_1.length : Int)) = false := dF_q c3
    clear c3
    replace H := oB_q.mp H
    obtain ⟨t167, A160, H⟩ := H
    replace H : (if t167 = true then ((spec_l6In.f a0_2 0 1439).bind fun t168 => (if t168 = true then ((spec_l6In.f a0_3 a0_2 1439).bind fun t169 => (some t169)) else (some false))) else (some false)) = some r := H
    have A16 := Ae_q A160
    clear A160
    by_cases c17 : t167 = true
    rotate_left
    ·replace c17 := fM_q.mpr c17
     subst c17
     have H1 : (some false) = some r := by rw [if_neg (show ¬ (false = true) by decide)] at H; exact H
     clear H
     have H := H1
     clear H1
     obtain rfl := oI_q H
     have hcz23_0 : cI wr gb162 0 a0_0 := cZ BK162 0 rfl
     have hcz23_1 : wr.cell? ⟨gb162, 1, none⟩ = some (.slice A0_1 l0_1.length c0_1) := (bC_q BK162.out 1).trans rfl
     have hcz23_2 : cI wr gb162 2 a0_2 := cZ BK162 2 rfl
     have hcz23_3 : cI wr gb162 3 a0_3 := cZ BK162 3 rfl
     have hfz23_0 := bF_q BK162.out 0
     have hfz23_1 := bF_q BK162.out 1
     have hfz23_2 := bF_q BK162.out 2
     have hfz23_3 := bF_q BK162.out 3
     go_wp2_with (first | (go_at_call 59; (with_reducible refine (spec_l6In.calls a0_0 1 20 false _ A16.out).mono ?_); rintro e w' ⟨rfl, ⟨nd, rfl⟩⟩; (try first | exact ⟨rfl, _, wD_q _ _ _⟩ | exact ⟨rfl, _, Eq.trans (wD_q _ _ _) (congrArg (World.drewN _) (nA_q _ _ _))⟩)))
     repeat (go_quiet (first | (go_at_call 59; (with_reducible refine (spec_l6In.calls a0_0 1 20 false _ A16.out).mono ?_); rintro e w' ⟨rfl, ⟨nd, rfl⟩⟩; (try first | exact ⟨rfl, _, wD_q _ _ _⟩ | exact ⟨rfl, _, Eq.trans (wD_q _ _ _) (congrArg (World.drewN _) (nA_q _ _ _))⟩))); try go_wp2_with (first | (go_at_call 59; (with_reducible refine (spec_l6In.calls a0_0 1 20 false _ A16.out).mono ?_); rintro e w' ⟨rfl, ⟨nd, rfl⟩⟩; (try first | exact ⟨rfl, _, wD_q _ _ _⟩ | exact ⟨rfl, _, Eq.trans (wD_q _ _ _) (congrArg (World.drewN _) (nA_q _ _ _))⟩))))
     go_ret
     exact ⟨m2_q, m17_q⟩
    subst c17
    have H1 : ((spec_l6In.f a0_2 0 1439).bind fun t168 => (if t168 = true then ((spec_l6In.f a0_3 a0_2 1439).bind fun t169 => (some t169)) else (some false))) = some r := by rw [if_pos rfl] at H; exact H
    clear H
    have H := H1
    clear H1
    replace H := oB_q.mp H
    obtain ⟨t168, A180, H⟩ := H
    replace H : (if t168 = true then ((spec_l6In.f a0_3 a0_2 1439).bind fun t169 => (some t169)) else (some false)) = some r := H
    have A18 := Ae_q A180
    clear A180
    by_cases c19 : t168 = true
    rotate_left
    ·replace c19 := fM_q.mpr c19
     subst c19
     have H1 : (some false) = some r := by rw [if_neg (show ¬ (false = true) by decide)] at H; exact H
     clear H
     have H := H1
     clear H1
     obtain rfl := oI_q H
     have hcz22_0 : cI wr gb162 0 a0_0 := cZ BK162 0 rfl
     have hcz22_1 : wr.cell? ⟨gb162, 1, none⟩ = some (.slice A0_1 l0_1.length c0_1) := (bC_q BK162.out 1).trans rfl
     have hcz22_2 : cI wr gb162 2 a0_2 := cZ BK162 2 rfl
     have hcz22_3 : cI wr gb162 3 a0_3 := cZ BK162 3 rfl
     have hfz22_0 := bF_q BK162.out 0
     have hfz22_1 := bF_q BK162.out 1
     have hfz22_2 := bF_q BK162.out 2
     have hfz22_3 := bF_q BK162.out 3
     go_wp2_with (first | (go_at_call 59; (with_reducible refine (spec_l6In.calls a0_0 1 20 true _ A16.out).mono ?_); rintro e w' ⟨rfl, ⟨nd, rfl⟩⟩; (try first | exact ⟨rfl, _, wD_q _ _ _⟩ | exact ⟨rfl, _, Eq.trans (wD_q _ _ _) (congrArg (World.drewN _) (nA_q _ _ _))⟩)) | (go_at_call 59; (with_reducible refine (spec_l6In.calls a0_2 0 1439 false _ A18.out).mono ?_); rintro e w' ⟨rfl, ⟨nd, rfl⟩⟩; (try first | exact ⟨rfl, _, wD_q _ _ _⟩ | exact ⟨rfl, _, Eq.trans (wD_q _ _ _) (congrArg (World.drewN _) (nA_q _ _ _))⟩)))
     repeat (go_quiet (first | (go_at_call 59; (first | (with_reducible refine (spec_l6In.calls a0_0 1 20 true _ A16.out).mono ?_) | (with_reducible refine (spec_l6In.calls a0_2 0 1439 false _ A18.out).mono ?_)); rintro e w' ⟨rfl, ⟨nd, rfl⟩⟩; (try first | exact ⟨rfl, _, wD_q _ _ _⟩ | exact ⟨rfl, _, Eq.trans (wD_q _ _ _) (congrArg (World.drewN _) (nA_q _ _ _))⟩))); try go_wp2_with (first | (go_at_call 59; (first | (with_reducible refine (spec_l6In.calls a0_0 1 20 true _ A16.out).mono ?_) | (with_reducible refine (spec_l6In.calls a0_2 0 1439 false _ A18.out).mono ?_)); rintro e w' ⟨rfl, ⟨nd, rfl⟩⟩; (try first | exact ⟨rfl, _, wD_q _ _ _⟩ | exact ⟨rfl, _, Eq.trans (wD_q _ _ _) (congrArg (World.drewN _) (nA_q _ _ _))⟩))))
     go_ret
     exact ⟨m2_q, m17_q⟩
    subst c19
    have H1 : ((spec_l6In.f a0_3 a0_2 1439).bind fun t169 => (some t169)) = some r := by rw [if_pos rfl] at H; exact H
    clear H
    have H := H1
    clear H1
    replace H := oB_q.mp H
    obtain ⟨t169, A200, H⟩ := H
    replace H : (some t169) = some r := H
    have A20 := Ae_q A200
    clear A200
    obtain rfl := oI_q H
    have hcz21_0 : cI wr gb162 0 a0_0 := cZ BK162 0 rfl
    have hcz21_1 : wr.cell? ⟨gb162, 1, none⟩ = some (.slice A0_1 l0_1.length c0_1) := (bC_q BK162.out 1).trans rfl
    have hcz21_2 : cI wr gb162 2 a0_2 := cZ BK162 2 rfl
    have hcz21_3 : cI wr gb162 3 a0_3 := cZ BK162 3 rfl
    have hfz21_0 := bF_q BK162.out 0
    have hfz21_1 := bF_q BK162.out 1
    have hfz21_2 := bF_q BK162.out 2
    have hfz21_3 := bF_q BK162.out 3
    go_wp2_with (first | (go_at_call 59; (first | (with_reducible refine (spec_l6In.calls a0_0 1 20 true _ A16.out).mono ?_) | (with_reducible refine (spec_l6In.calls a0_2 0 1439 true _ A18.out).mono ?_) | (with_reducible refine (spec_l6In.calls a0_3 a0_2 1439 t169 _ A20.out).mono ?_)); rintro e w' ⟨rfl, ⟨nd, rfl⟩⟩; (try first | exact ⟨rfl, _, wD_q _ _ _⟩ | exact ⟨rfl, _, Eq.trans (wD_q _ _ _) (congrArg (World.drewN _) (nA_q _ _ _))⟩)))
    repeat (go_quiet (first | (go_at_call 59; (first | (with_reducible refine (spec_l6In.calls a0_0 1 20 true _ A16.out).mono ?_) | (with_reducible refine (spec_l6In.calls a0_2 0 1439 true _ A18.out).mono ?_) | (with_reducible refine (spec_l6In.calls a0_3 a0_2 1439 t169 _ A20.out).mono ?_)); rintro e w' ⟨rfl, ⟨nd, rfl⟩⟩; (try first | exact ⟨rfl, _, wD_q _ _ _⟩ | exact ⟨rfl, _, Eq.trans (wD_q _ _ _) (congrArg (World.drewN _) (nA_q _ _ _))⟩))); try go_wp2_with (first | (go_at_call 59; (first | (with_reducible refine (spec_l6In.calls a0_0 1 20 true _ A16.out).mono ?_) | (with_reducible refine (spec_l6In.calls a0_2 0 1439 true _ A18.out).mono ?_) | (with_reducible refine (spec_l6In.calls a0_3 a0_2 1439 t169 _ A20.out).mono ?_)); rintro e w' ⟨rfl, ⟨nd, rfl⟩⟩; (try first | exact ⟨rfl, _, wD_q _ _ _⟩ | exact ⟨rfl, _, Eq.trans (wD_q _ _ _) (congrArg (World.drewN _) (nA_q _ _ _))⟩))))
    go_ret
    exact ⟨m2_q, m17_q⟩
   rw [if_pos c3] at H
   have c3b0 : decide (x3_1 < (l0_1.length : Int)) = true := dT_q c3
   clear c3
   by_cases c4 : 0 ≤ x3_1
   rotate_left
   ·rw [if_neg c4] at H
    exact absurd H (by simp)
   rw [if_pos c4] at H
   have c4b0 : decide (0 ≤ x3_1) = true := dT_q c4
   clear c4
   replace H := oB_q.mp H
   obtain ⟨t164, A50, H⟩ := H
   replace H : (if t164 = true then (if x3_1 > 0 then (if 0 ≤ (wrap64 (x3_1 - 1)) then (if (wrap64 (x3_1 - 1)) < (l0_1.length : Int) then (if (rd l0_1 (wrap64 (x3_1 - 1))) ≥ (rd l0_1 x3_1) then (some false) else (spec_l42Batch.l0 k1 (wrap64 (x3_1 + 1)) a0_0 l0_1 a0_2 a0_3)) else (none)) else (none)) else (spec_l42Batch.l0 k1 (wrap64 (x3_1 + 1)) a0_0 l0_1 a0_2 a0_3)) else (some false)) = some r := H
   have A5 := Ae_q A50
   clear A50
   by_cases c6 : t164 = true
   rotate_left
   ·replace c6 := fM_q.mpr c6
    subst c6
    have H1 : (some false) = some r := by rw [if_neg (show ¬ (false = true) by decide)] at H; exact H
    clear H
    have H := H1
    clear H1
    obtain rfl := oI_q H
    have hcz15_0 : cI wr gb162 0 a0_0 := cZ BK162 0 rfl
    have hcz15_1 : wr.cell? ⟨gb162, 1, none⟩ = some (.slice A0_1 l0_1.length c0_1) := (bC_q BK162.out 1).trans rfl
    have hcz15_2 : cI wr gb162 2 a0_2 := cZ BK162 2 rfl
    have hcz15_3 : cI wr gb162 3 a0_3 := cZ BK162 3 rfl
    have hfz15_0 := bF_q BK162.out 0
    have hfz15_1 := bF_q BK162.out 1
    have hfz15_2 := bF_q BK162.out 2
    have hfz15_3 := bF_q BK162.out 3
    have p163 : 0 ≤ (x3_1 : Int) := oD_q (by assumption)
    have q163 : x3_1 < (l0_1.length : Int) := oD_q (by assumption)
    obtain ⟨ad163, e163, hx163_0⟩ := aI_q HR0_1.out x3_1 p163 q163
    cases e163
    replace hx163_0 := cel HB.out hx163_0
    replace p163 := eq_true p163
    replace q163 := eq_true q163
    go_wp2_with (first | (go_at_call 59; (with_reducible refine (spec_l6In.calls (rd l0_1 x3_1) 1 20 false _ A5.out).mono ?_); rintro e w' ⟨rfl, ⟨nd, rfl⟩⟩; (try first | exact ⟨rfl, _, wD_q _ _ _⟩ | exact ⟨rfl, _, Eq.trans (wD_q _ _ _) (congrArg (World.drewN _) (nA_q _ _ _))⟩)))
    repeat (go_quiet (first | (go_at_call 59; (with_reducible refine (spec_l6In.calls (rd l0_1 x3_1) 1 20 false _ A5.out).mono ?_); rintro e w' ⟨rfl, ⟨nd, rfl⟩⟩; (try first | exact ⟨rfl, _, wD_q _ _ _⟩ | exact ⟨rfl, _, Eq.trans (wD_q _ _ _) (congrArg (World.drewN _) (nA_q _ _ _))⟩))); try go_wp2_with (first | (go_at_call 59; (with_reducible refine (spec_l6In.calls (rd l0_1 x3_1) 1 20 false _ A5.out).mono ?_); rintro e w' ⟨rfl, ⟨nd, rfl⟩⟩; (try first | exact ⟨rfl, _, wD_q _ _ _⟩ | exact ⟨rfl, _, Eq.trans (wD_q _ _ _) (congrArg (World.drewN _) (nA_q _ _ _))⟩))))
    go_ret
    exact ⟨m2_q, m17_q⟩
   subst c6
   have H1 : (if x3_1 > 0 then (if 0 ≤ (wrap64 (x3_1 - 1)) then (if (wrap64 (x3_1 - 1)) < (l0_1.length : Int) then (if (rd l0_1 (wrap64 (x3_1 - 1))) ≥ (rd l0_1 x3_1) then (some false) else (spec_l42Batch.l0 k1 (wrap64 (x3_1 + 1)) a0_0 l0_1 a0_2 a0_3)) else (none)) else (none)) else (spec_l42Batch.l0 k1 (wrap64 (x3_1 + 1)) a0_0 l0_1 a0_2 a0_3)) = some r := by rw [if_pos rfl] at H; exact H
   clear H
   have H := H1
   clear H1
   by_cases c7 : x3_1 > 0
   rotate_left
   ·rw [if_neg c7] at H
    have c7b0 : decide (0 < x3_1) = false := dF_q c7
    clear c7
    have H' := Ae_q H
    clear H
    have hcz14_0 : cI wr gb162 0 a0_0 := cZ BK162 0 rfl
    have hcz14_1 : wr.cell? ⟨gb162, 1, none⟩ = some (.slice A0_1 l0_1.length c0_1) := (bC_q BK162.out 1).trans rfl
    have hcz14_2 : cI wr gb162 2 a0_2 := cZ BK162 2 rfl
    have hcz14_3 : cI wr gb162 3 a0_3 := cZ BK162 3 rfl
    have hfz14_0 := bF_q BK162.out 0
    have hfz14_1 := bF_q BK162.out 1
    have hfz14_2 := bF_q BK162.out 2
    have hfz14_3 := bF_q BK162.out 3
    have p163 : 0 ≤ (x3_1 : Int) := oD_q (by assumption)
    have q163 : x3_1 < (l0_1.length : Int) := oD_q (by assumption)
    obtain ⟨ad163, e163, hx163_0⟩ := aI_q HR0_1.out x3_1 p163 q163
    cases e163
    replace hx163_0 := cel HB.out hx163_0
    replace p163 := eq_true p163
    replace q163 := eq_true q163
    go_wp2_with (first | (go_at_call 59; (with_reducible refine (spec_l6In.calls (rd l0_1 x3_1) 1 20 true _ A5.out).mono ?_); rintro e w' ⟨rfl, ⟨nd, rfl⟩⟩; (try first | exact ⟨rfl, _, wD_q _ _ _⟩ | exact ⟨rfl, _, Eq.trans (wD_q _ _ _) (congrArg (World.drewN _) (nA_q _ _ _))⟩)))
    repeat (go_quiet (first | (go_at_call 59; (with_reducible refine (spec_l6In.calls (rd l0_1 x3_1) 1 20 true _ A5.out).mono ?_); rintro e w' ⟨rfl, ⟨nd, rfl⟩⟩; (try first | exact ⟨rfl, _, wD_q _ _ _⟩ | exact ⟨rfl, _, Eq.trans (wD_q _ _ _) (congrArg (World.drewN _) (nA_q _ _ _))⟩))); try go_wp2_with (first | (go_at_call 59; (with_reducible refine (spec_l6In.calls (rd l0_1 x3_1) 1 20 true _ A5.out).mono ?_); rintro e w' ⟨rfl, ⟨nd, rfl⟩⟩; (try first | exact ⟨rfl, _, wD_q _ _ _⟩ | exact ⟨rfl, _, Eq.trans (wD_q _ _ _) (congrArg (World.drewN _) (nA_q _ _ _))⟩))))
    go_roundg k1
    case measure => have := HK1.out; omega
    case rel => exact ⟨(wrap64 (x3_1 + 1)), m3_q, H', ⟨m28_q⟩, ⟨bup BK162.out⟩, ⟨m17_q⟩⟩
   rw [if_pos c7] at H
   have c7b0 : decide (0 < x3_1) = true := dT_q c7
   clear c7
   obtain ⟨ji8, hji8⟩ : ∃ j_ : Int, (wrap64 (x3_1 - 1)) = j_ := ⟨_, rfl⟩
   replace H : (if 0 ≤ (ji8) then (if (ji8) < (l0_1.length : Int) then (if (rd l0_1 (ji8)) ≥ (rd l0_1 x3_1) then (some false) else (spec_l42Batch.l0 k1 (wrap64 (x3_1 + 1)) a0_0 l0_1 a0_2 a0_3)) else (none)) else (none)) = some r := by first | (rw [hji8] at H; exact H) | (simp only [hji8] at H ⊢; exact H)
   (try rw [hji8] at A5)
   have hji8w : (IntKind.i64.wrap (x3_1 - 1)) = ji8 := (i64_w _).trans hji8
   by_cases c9 : 0 ≤ (ji8)
   rotate_left
   ·rw [if_neg c9] at H
    exact absurd H (by simp)
   rw [if_pos c9] at H
   have c9b0 : decide (0 ≤ (ji8)) = true := dT_q c9
   clear c9
   by_cases c10 : (ji8) < (l0_1.length : Int)
   rotate_left
   ·rw [if_neg c10] at H
    exact absurd H (by simp)
   rw [if_pos c10] at H
   have c10b0 : decide ((ji8) < (l0_1.length : Int)) = true := dT_q c10
   clear c10
   by_cases c11 : (rd l0_1 (ji8)) ≥ (rd l0_1 x3_1)
   ·rw [if_pos c11] at H
    have c11b0 : decide ((rd l0_1 x3_1) ≤ (rd l0_1 (ji8))) = true := dT_q c11
    clear c11
    obtain rfl := oI_q H
    have hcz12_0 : cI wr gb162 0 a0_0 := cZ BK162 0 rfl
    have hcz12_1 : wr.cell? ⟨gb162, 1, none⟩ = some (.slice A0_1 l0_1.length c0_1) := (bC_q BK162.out 1).trans rfl
    have hcz12_2 : cI wr gb162 2 a0_2 := cZ BK162 2 rfl
    have hcz12_3 : cI wr gb162 3 a0_3 := cZ BK162 3 rfl
    have hfz12_0 := bF_q BK162.out 0
    have hfz12_1 := bF_q BK162.out 1
    have hfz12_2 := bF_q BK162.out 2
    have hfz12_3 := bF_q BK162.out 3
    have p163 : 0 ≤ (x3_1 : Int) := oD_q (by assumption)
    have q163 : x3_1 < (l0_1.length : Int) := oD_q (by assumption)
    obtain ⟨ad163, e163, hx163_0⟩ := aI_q HR0_1.out x3_1 p163 q163
    cases e163
    replace hx163_0 := cel HB.out hx163_0
    replace p163 := eq_true p163
    replace q163 := eq_true q163
    go_wp2_with (first | (go_at_call 59; (with_reducible refine (spec_l6In.calls (rd l0_1 x3_1) 1 20 true _ A5.out).mono ?_); rintro e w' ⟨rfl, ⟨nd, rfl⟩⟩; (try first | exact ⟨rfl, _, wD_q _ _ _⟩ | exact ⟨rfl, _, Eq.trans (wD_q _ _ _) (congrArg (World.drewN _) (nA_q _ _ _))⟩); have p165 : 0 ≤ ((ji8) : Int) := oD_q (by assumption); have q165 : (ji8) < (l0_1.length : Int) := oD_q (by assumption); obtain ⟨ad165, e165, hx165_0⟩ := aI_q HR0_1.out (ji8) p165 q165; obtain rfl : ad163 = ad165 := (by injection e165); replace hx165_0 := cel HB.out hx165_0; replace p165 := eq_true p165; replace q165 := eq_true q165; have p166 : 0 ≤ (x3_1 : Int) := oD_q (by assumption); have q166 : x3_1 < (l0_1.length : Int) := oD_q (by assumption); obtain ⟨ad166, e166, hx166_0⟩ := aI_q HR0_1.out x3_1 p166 q166; obtain rfl : ad163 = ad166 := (by injection e166); replace hx166_0 := cel HB.out hx166_0; replace p166 := eq_true p166; replace q166 := eq_true q166))
    repeat (go_quiet (first | (go_at_call 59; (with_reducible refine (spec_l6In.calls (rd l0_1 x3_1) 1 20 true _ A5.out).mono ?_); rintro e w' ⟨rfl, ⟨nd, rfl⟩⟩; (try first | exact ⟨rfl, _, wD_q _ _ _⟩ | exact ⟨rfl, _, Eq.trans (wD_q _ _ _) (congrArg (World.drewN _) (nA_q _ _ _))⟩); have p165 : 0 ≤ ((ji8) : Int) := oD_q (by assumption); have q165 : (ji8) < (l0_1.length : Int) := oD_q (by assumption); obtain ⟨ad165, e165, hx165_0⟩ := aI_q HR0_1.out (ji8) p165 q165; obtain rfl : ad163 = ad165 := (by injection e165); replace hx165_0 := cel HB.out hx165_0; replace p165 := eq_true p165; replace q165 := eq_true q165; have p166 : 0 ≤ (x3_1 : Int) := oD_q (by assumption); have q166 : x3_1 < (l0_1.length : Int) := oD_q (by assumption); obtain ⟨ad166, e166, hx166_0⟩ := aI_q HR0_1.out x3_1 p166 q166; obtain rfl : ad163 = ad166 := (by injection e166); replace hx166_0 := cel HB.out hx166_0; replace p166 := eq_true p166; replace q166 := eq_true q166)); try go_wp2_with (first | (go_at_call 59; (with_reducible refine (spec_l6In.calls (rd l0_1 x3_1) 1 20 true _ A5.out).mono ?_); rintro e w' ⟨rfl, ⟨nd, rfl⟩⟩; (try first | exact ⟨rfl, _, wD_q _ _ _⟩ | exact ⟨rfl, _, Eq.trans (wD_q _ _ _) (congrArg (World.drewN _) (nA_q _ _ _))⟩); have p165 : 0 ≤ ((ji8) : Int) := oD_q (by assumption); have q165 : (ji8) < (l0_1.length : Int) := oD_q (by assumption); obtain ⟨ad165, e165, hx165_0⟩ := aI_q HR0_1.out (ji8) p165 q165; obtain rfl : ad163 = ad165 := (by injection e165); replace hx165_0 := cel HB.out hx165_0; replace p165 := eq_true p165; replace q165 := eq_true q165; have p166 : 0 ≤ (x3_1 : Int) := oD_q (by assumption); have q166 : x3_1 < (l0_1.length : Int) := oD_q (by assumption); obtain ⟨ad166, e166, hx166_0⟩ := aI_q HR0_1.out x3_1 p166 q166; obtain rfl : ad163 = ad166 := (by injection e166); replace hx166_0 := cel HB.out hx166_0; replace p166 := eq_true p166; replace q166 := eq_true q166)))
    go_ret
    exact ⟨by first | rfl | (simp [eN_q, eS_q] <;> rfl) | (simp only [← hji8]; first | rfl | (simp [eN_q, eS_q] <;> rfl)) | (simp [*, eN_q, eS_q] <;> rfl), m17_q⟩
   rw [if_neg c11] at H
   have c11b0 : decide ((rd l0_1 x3_1) ≤ (rd l0_1 (ji8))) = false := dF_q c11
   clear c11
   have H' := Ae_q H
   clear H
   have hcz13_0 : cI wr gb162 0 a0_0 := cZ BK162 0 rfl
   have hcz13_1 : wr.cell? ⟨gb162, 1, none⟩ = some (.slice A0_1 l0_1.length c0_1) := (bC_q BK162.out 1).trans rfl
   have hcz13_2 : cI wr gb162 2 a0_2 := cZ BK162 2 rfl
   have hcz13_3 : cI wr gb162 3 a0_3 := cZ BK162 3 rfl
   have hfz13_0 := bF_q BK162.out 0
   have hfz13_1 := bF_q BK162.out 1
   have hfz13_2 := bF_q BK162.out 2
   have hfz13_3 := bF_q BK162.out 3
   have p163 : 0 ≤ (x3_1 : Int) := oD_q (by assumption)
   have q163 : x3_1 < (l0_1.length : Int) := oD_q (by assumption)
   obtain ⟨ad163, e163, hx163_0⟩ := aI_q HR0_1.out x3_1 p163 q163
   cases e163
   replace hx163_0 := cel HB.out hx163_0
   replace p163 := eq_true p163
   replace q163 := eq_true q163
   go_wp2_with (first | (go_at_call 59; (with_reducible refine (spec_l6In.calls (rd l0_1 x3_1) 1 20 true _ A5.out).mono ?_); rintro e w' ⟨rfl, ⟨nd, rfl⟩⟩; (try first | exact ⟨rfl, _, wD_q _ _ _⟩ | exact ⟨rfl, _, Eq.trans (wD_q _ _ _) (congrArg (World.drewN _) (nA_q _ _ _))⟩); have p165 : 0 ≤ ((ji8) : Int) := oD_q (by assumption); have q165 : (ji8) < (l0_1.length : Int) := oD_q (by assumption); obtain ⟨ad165, e165, hx165_0⟩ := aI_q HR0_1.out (ji8) p165 q165; obtain rfl : ad163 = ad165 := (by injection e165); replace hx165_0 := cel HB.out hx165_0; replace p165 := eq_true p165; replace q165 := eq_true q165; have p166 : 0 ≤ (x3_1 : Int) := oD_q (by assumption); have q166 : x3_1 < (l0_1.length : Int) := oD_q (by assumption); obtain ⟨ad166, e166, hx166_0⟩ := aI_q HR0_1.out x3_1 p166 q166; obtain rfl : ad163 = ad166 := (by injection e166); replace hx166_0 := cel HB.out hx166_0; replace p166 := eq_true p166; replace q166 := eq_true q166))
   repeat (go_quiet (first | (go_at_call 59; (with_reducible refine (spec_l6In.calls (rd l0_1 x3_1) 1 20 true _ A5.out).mono ?_); rintro e w' ⟨rfl, ⟨nd, rfl⟩⟩; (try first | exact ⟨rfl, _, wD_q _ _ _⟩ | exact ⟨rfl, _, Eq.trans (wD_q _ _ _) (congrArg (World.drewN _) (nA_q _ _ _))⟩); have p165 : 0 ≤ ((ji8) : Int) := oD_q (by assumption); have q165 : (ji8) < (l0_1.length : Int) := oD_q (by assumption); obtain ⟨ad165, e165, hx165_0⟩ := aI_q HR0_1.out (ji8) p165 q165; obtain rfl : ad163 = ad165 := (by injection e165); replace hx165_0 := cel HB.out hx165_0; replace p165 := eq_true p165; replace q165 := eq_true q165; have p166 : 0 ≤ (x3_1 : Int) := oD_q (by assumption); have q166 : x3_1 < (l0_1.length : Int) := oD_q (by assumption); obtain ⟨ad166, e166, hx166_0⟩ := aI_q HR0_1.out x3_1 p166 q166; obtain rfl : ad163 = ad166 := (by injection e166); replace hx166_0 := cel HB.out hx166_0; replace p166 := eq_true p166; replace q166 := eq_true q166)); try go_wp2_with (first | (go_at_call 59; (with_reducible refine (spec_l6In.calls (rd l0_1 x3_1) 1 20 true _ A5.out).mono ?_); rintro e w' ⟨rfl, ⟨nd, rfl⟩⟩; (try first | exact ⟨rfl, _, wD_q _ _ _⟩ | exact ⟨rfl, _, Eq.trans (wD_q _ _ _) (congrArg (World.drewN _) (nA_q _ _ _))⟩); have p165 : 0 ≤ ((ji8) : Int) := oD_q (by assumption); have q165 : (ji8) < (l0_1.length : Int) := oD_q (by assumption); obtain ⟨ad165, e165, hx165_0⟩ := aI_q HR0_1.out (ji8) p165 q165; obtain rfl : ad163 = ad165 := (by injection e165); replace hx165_0 := cel HB.out hx165_0; replace p165 := eq_true p165; replace q165 := eq_true q165; have p166 : 0 ≤ (x3_1 : Int) := oD_q (by assumption); have q166 : x3_1 < (l0_1.length : Int) := oD_q (by assumption); obtain ⟨ad166, e166, hx166_0⟩ := aI_q HR0_1.out x3_1 p166 q166; obtain rfl : ad163 = ad166 := (by injection e166); replace hx166_0 := cel HB.out hx166_0; replace p166 := eq_true p166; replace q166 := eq_true q166)))
   go_roundg k1
   case measure => have := HK1.out; omega
   case rel => exact ⟨(wrap64 (x3_1 + 1)), m3_q, H', ⟨m28_q⟩, ⟨bup BK162.out⟩, ⟨m17_q⟩⟩

end Go.Proofs.Ytnckblolijkdaaa.PBt
