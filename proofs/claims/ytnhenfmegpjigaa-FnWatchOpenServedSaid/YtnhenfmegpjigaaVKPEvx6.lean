import Derived.Test.YtnhenfmegpjigaaVKPEvx0
import Derived.Test.YtnhenfmegpjigaaVKPEvx5
namespace Go.Proofs.Ytnhenfmegpjigaa.PEv
open Go.RowKit Go.Proofs.YtnhenfmegpjigaaW.PrintWords Go.Proofs.YtnhenfmegpjigaaW.PrintLast Go.Proofs.YtnhenfmegpjigaaW.PrintMore
attribute [local go_sem] max2_int min2_int max_two min_two max_three min_three max_four min_four
set_option linter.unusedVariables false
set_option linter.unusedSimpArgs false

def spec_l3Set.f (a0 : Int) : Option (Bool) := (spec_l6In.f a0 0 255).bind fun t188 => (some t188)
set_option maxHeartbeats 8000000 in
set_option maxRecDepth 100000 in
theorem spec_l3Set.calls (a0 : Int) (r : Bool) (w : World) (h : spec_l3Set.f a0 = some r) :
    Calls Try.prog 46 #[.int .i64 a0] w fun e w' => e = .returned (.bool r) ∧ Drawn0 w w' := by
 have H : ((spec_l6In.f a0 0 255).bind fun t188 => (some t188)) = some r := h
 clear h
 replace H := oB_q.mp H
 obtain ⟨t188, A20, H⟩ := H
 replace H : (some t188) = some r := H
 have A2 := Ae_q A20
 clear A20
 obtain rfl := oI_q H
 go_enter Try.func46, Try.ntmps46
 go_wp2_with (first | ((with_reducible refine gC_q (f := 45) rfl ?_); refine gL_q (some 4) rfl rfl Try.func45 (by kernel_rfl) rfl #[.int .i64 a0, .int .i64 0, .int .i64 255] rfl (by (try simp only [lM_q, lC_q, lN_q]); first | done | rfl | (simp only [lD_q, lT_q]; rfl)) ?_; (with_reducible refine (spec_l6In.calls a0 0 255 t188 _ A2.out).mono ?_); rintro e w' ⟨rfl, ⟨nd, rfl⟩⟩; refine ⟨_, rfl, ?_⟩))
 go_ret
 exact ⟨by first | rfl | (simp; done) | (simp [*]; done), by repeat (first | exact Drawn0.refl _ | apply Drawn0.step)⟩

mutual
def spec_EventsValid.l0 : Nat → List (S27) → Int → Option (Bool)
 | 0, _, _ => none
 | k + 1, x0, x3 => if x3 < (x0.length : Int) then (if 0 ≤ x3 then ((spec_l6In.f ((rd_T27 x0 x3).f1) 0 1439).bind fun t191 => (if t191 = true then ((spec_l6In.f ((rd_T27 x0 x3).f2) 1 20).bind fun t192 => (if t192 = true then (if x3 > 0 then (if 0 ≤ (wrap64 (x3 - 1)) then (if (wrap64 (x3 - 1)) < (x0.length : Int) then (spec_EventsValid.j1 k x0 x3 (decide (((rd_T27 x0 (wrap64 (x3 - 1))).f1) > ((rd_T27 x0 x3).f1))) ((rd_T27 x0 x3).f0) ((rd_T27 x0 x3).f1) ((rd_T27 x0 x3).f2) ((rd_T27 x0 x3).f3) ((rd_T27 x0 x3).f4) ((rd_T27 x0 x3).f5)) else (none)) else (none)) else (spec_EventsValid.j1 k x0 x3 false ((rd_T27 x0 x3).f0) ((rd_T27 x0 x3).f1) ((rd_T27 x0 x3).f2) ((rd_T27 x0 x3).f3) ((rd_T27 x0 x3).f4) ((rd_T27 x0 x3).f5))) else (spec_EventsValid.j1 k x0 x3 true ((rd_T27 x0 x3).f0) ((rd_T27 x0 x3).f1) ((rd_T27 x0 x3).f2) ((rd_T27 x0 x3).f3) ((rd_T27 x0 x3).f4) ((rd_T27 x0 x3).f5)))) else (spec_EventsValid.j1 k x0 x3 true ((rd_T27 x0 x3).f0) ((rd_T27 x0 x3).f1) ((rd_T27 x0 x3).f2) ((rd_T27 x0 x3).f3) ((rd_T27 x0 x3).f4) ((rd_T27 x0 x3).f5)))) else (none)) else (some (decide ((x0.length : Int) ≤ 24)))
def spec_EventsValid.j1 : Nat → List (S27) → Int → Bool → Int → Int → Int → Int → Int → Int → Option (Bool)
 | 0, _, _, _, _, _, _, _, _, _ => none
 | k + 1, x0, x3, x39, x191000, x191001, x191002, x191003, x191004, x191005 => if x39 = true then (some false) else (if x191000 = 1 then (if x191003 = 0 then ((spec_l3Set.f x191004).bind fun t194 => (if t194 = true then ((spec_l6In.f x191005 1 5).bind fun t195 => (if t195 = true then (spec_EventsValid.l0 k x0 (wrap64 (x3 + 1))) else (some false))) else (some false))) else (some false)) else (if x191000 = 2 then ((spec_l6In.f x191003 1 99).bind fun t196 => (if t196 = true then (if x191004 = 0 then (if x191005 = 0 then (spec_EventsValid.l0 k x0 (wrap64 (x3 + 1))) else (some false)) else (some false)) else (some false))) else (if x191000 = 3 then (if x191003 = 0 then (if x191004 = 0 then (if x191005 = 0 then (spec_EventsValid.l0 k x0 (wrap64 (x3 + 1))) else (some false)) else (some false)) else (some false)) else (some false))))
end
def spec_EventsValid.f (k : Nat) (l0 : List (S27)) : Option (Bool) := spec_EventsValid.l0 k l0 0
set_option maxHeartbeats 8000000 in
set_option maxRecDepth 100000 in
theorem spec_EventsValid.calls (k : Nat) (A0 : Option Addr) (c0 : Nat) (l0 : List (S27)) (r : Bool) (w : World) (hr0 : Kd.C k27 w A0 l0.length l0) (hc0 : l0.length ≤ c0) (h : spec_EventsValid.f k l0 = some r) :
    Calls Try.prog 17 #[.slice A0 l0.length c0] w fun e w' => e = .returned (.bool r) ∧ Below w.heap.size w w' := by
 have hu27 := Try.underlying27
 have HR0 := Ae_q hr0
 have HC0 := Ae_q hc0
 clear hr0 hc0
 have HB := Ae_q (bR_q w.heap.size w)
 have H : (spec_EventsValid.l0 k l0 0) = some r := h
 clear h
 have H' := Ae_q H
 clear H
 go_enter Try.func17, Try.ntmps17
 go_wp2
 repeat (go_quiet (fail); try go_wp2)
 go_loopg [3] k (fun kq v3 w' => ∃ (x3_1 : Int), v3 = .int .i64 x3_1 ∧ Aside0 (spec_EventsValid.l0 kq l0 x3_1 = some r) ∧ Aside0 (kq ≤ k) ∧ Aside0 (Below w.heap.size w w'))
 case atStart => exact ⟨(0), (by first | rfl | (simp; done) | (simp [*]; done)), H', ⟨nR_q _⟩, ⟨bel HB.out⟩⟩
 case round =>
  clear H'
  try clear c1
  obtain ⟨x3_1, rfl, HA, HK1, HB⟩ := hrel
  cases gk with
  | zero => exact absurd HA.out (by simp [spec_EventsValid.l0])
  | succ k1 =>
   have H := HA.out
   clear HA
   simp only [spec_EventsValid.l0] at H
   by_cases c2 : x3_1 < (l0.length : Int)
   rotate_left
   ·rw [if_neg c2] at H
    have c2b0 : decide (x3_1 < (l0.length : Int)) = false := dF_q c2
    clear c2
    obtain rfl := oI_q H
    go_wp2
    repeat (go_quiet (fail); try go_wp2)
    go_ret
    exact ⟨by first | rfl | (simp [eN_q, eS_q] <;> rfl) | (simp [*, eN_q, eS_q] <;> rfl), bel HB.out⟩
   rw [if_pos c2] at H
   have c2b0 : decide (x3_1 < (l0.length : Int)) = true := dT_q c2
   clear c2
   by_cases c3 : 0 ≤ x3_1
   rotate_left
   ·rw [if_neg c3] at H
    exact absurd H (by simp)
   rw [if_pos c3] at H
   have c3b0 : decide (0 ≤ x3_1) = true := dT_q c3
   clear c3
   have HC4 := Ae_q H
   clear H
   have p189 : 0 ≤ (x3_1 : Int) := oD_q (by assumption)
   have q189 : x3_1 < (l0.length : Int) := oD_q (by assumption)
   obtain ⟨ad189, e189, hx189_0, hx189_1, hx189_2, hx189_3, hx189_4, hx189_5⟩ := at_T27 HR0.out x3_1 p189 q189
   cases e189
   replace hx189_0 := cel HB.out hx189_0
   replace hx189_1 := cel HB.out hx189_1
   replace hx189_2 := cel HB.out hx189_2
   replace hx189_3 := cel HB.out hx189_3
   replace hx189_4 := cel HB.out hx189_4
   replace hx189_5 := cel HB.out hx189_5
   replace p189 := eq_true p189
   replace q189 := eq_true q189
   go_upto_region 5 with (first | ((with_reducible refine gD_q (N := 4) rfl ?_); refine bE_q ?hg (N := 4) ?hd (cs := #[.int .i64 0, .int .i64 0, .int .i64 0, .int .i64 0, .int .i64 0, .int .i64 0]) (t := 27) ?hr ?_; (case hd => rfl); (case hg => rfl); (case hr => first | (go_simp; done) | (go_simp; rfl)); intro gb190 hg w5 hbox hb; have n0_ := Ae_q (bT_q (bel HB.out) hb); have n1_ := Ae_q (hbox); have n2_ := Ae_q ((by rw [hg]; exact (bZ_q (bel HB.out)) : w.heap.size ≤ gb190)); have n3_ := Ae_q ((by rw [hg]; exact (bZ_q (bel HB.out)) : w.heap.size ≤ gb190)); clear HB; have HB := n0_; have BK190 := n1_; have GW190 := n2_; have GE190 := n3_; clear n0_ n1_ n2_ n3_; clear hb hbox hg; have hcz6_0 : cI w5 gb190 0 0 := cZ BK190 0 rfl; have hcz6_1 : cI w5 gb190 1 0 := cZ BK190 1 rfl; have hcz6_2 : cI w5 gb190 2 0 := cZ BK190 2 rfl; have hcz6_3 : cI w5 gb190 3 0 := cZ BK190 3 rfl; have hcz6_4 : cI w5 gb190 4 0 := cZ BK190 4 rfl; have hcz6_5 : cI w5 gb190 5 0 := cZ BK190 5 rfl; have hfz6_0 := bF_q BK190.out 0; have hfz6_1 := bF_q BK190.out 1; have hfz6_2 := bF_q BK190.out 2; have hfz6_3 := bF_q BK190.out 3; have hfz6_4 := bF_q BK190.out 4; have hfz6_5 := bF_q BK190.out 5))
   repeat (go_quiet (first | ((with_reducible refine gD_q (N := 4) rfl ?_); refine bE_q ?hg (N := 4) ?hd (cs := #[.int .i64 0, .int .i64 0, .int .i64 0, .int .i64 0, .int .i64 0, .int .i64 0]) (t := 27) ?hr ?_; (case hd => rfl); (case hg => rfl); (case hr => first | (go_simp; done) | (go_simp; rfl)); intro gb190 hg w5 hbox hb; have n0_ := Ae_q (bT_q (bel HB.out) hb); have n1_ := Ae_q (hbox); have n2_ := Ae_q ((by rw [hg]; exact (bZ_q (bel HB.out)) : w.heap.size ≤ gb190)); have n3_ := Ae_q ((by rw [hg]; exact (bZ_q (bel HB.out)) : w.heap.size ≤ gb190)); clear HB; have HB := n0_; have BK190 := n1_; have GW190 := n2_; have GE190 := n3_; clear n0_ n1_ n2_ n3_; clear hb hbox hg; have hcz6_0 : cI w5 gb190 0 0 := cZ BK190 0 rfl; have hcz6_1 : cI w5 gb190 1 0 := cZ BK190 1 rfl; have hcz6_2 : cI w5 gb190 2 0 := cZ BK190 2 rfl; have hcz6_3 : cI w5 gb190 3 0 := cZ BK190 3 rfl; have hcz6_4 : cI w5 gb190 4 0 := cZ BK190 4 rfl; have hcz6_5 : cI w5 gb190 5 0 := cZ BK190 5 rfl; have hfz6_0 := bF_q BK190.out 0; have hfz6_1 := bF_q BK190.out 1; have hfz6_2 := bF_q BK190.out 2; have hfz6_3 := bF_q BK190.out 3; have hfz6_4 := bF_q BK190.out 4; have hfz6_5 := bF_q BK190.out 5)); go_upto_region 5 with (first | ((with_reducible refine gD_q (N := 4) rfl ?_); refine bE_q ?hg (N := 4) ?hd (cs := #[.int .i64 0, .int .i64 0, .int .i64 0, .int .i64 0, .int .i64 0, .int .i64 0]) (t := 27) ?hr ?_; (case hd => rfl); (case hg => rfl); (case hr => first | (go_simp; done) | (go_simp; rfl)); intro gb190 hg w5 hbox hb; have n0_ := Ae_q (bT_q (bel HB.out) hb); have n1_ := Ae_q (hbox); have n2_ := Ae_q ((by rw [hg]; exact (bZ_q (bel HB.out)) : w.heap.size ≤ gb190)); have n3_ := Ae_q ((by rw [hg]; exact (bZ_q (bel HB.out)) : w.heap.size ≤ gb190)); clear HB; have HB := n0_; have BK190 := n1_; have GW190 := n2_; have GE190 := n3_; clear n0_ n1_ n2_ n3_; clear hb hbox hg; have hcz6_0 : cI w5 gb190 0 0 := cZ BK190 0 rfl; have hcz6_1 : cI w5 gb190 1 0 := cZ BK190 1 rfl; have hcz6_2 : cI w5 gb190 2 0 := cZ BK190 2 rfl; have hcz6_3 : cI w5 gb190 3 0 := cZ BK190 3 rfl; have hcz6_4 : cI w5 gb190 4 0 := cZ BK190 4 rfl; have hcz6_5 : cI w5 gb190 5 0 := cZ BK190 5 rfl; have hfz6_0 := bF_q BK190.out 0; have hfz6_1 := bF_q BK190.out 1; have hfz6_2 := bF_q BK190.out 2; have hfz6_3 := bF_q BK190.out 3; have hfz6_4 := bF_q BK190.out 4; have hfz6_5 := bF_q BK190.out 5)))
   (try simp only [Act.put, sA_q, sZ_q, sS_q])
   go_cut [39] (fun v39 wc => ∃ (kq : Nat) (x39_3 : Bool), v39 = .bool x39_3 ∧ Aside0 (spec_EventsValid.j1 kq l0 x3_1 x39_3 ((rd_T27 l0 x3_1).f0) ((rd_T27 l0 x3_1).f1) ((rd_T27 l0 x3_1).f2) ((rd_T27 l0 x3_1).f3) ((rd_T27 l0 x3_1).f4) ((rd_T27 l0 x3_1).f5) = some r) ∧ Aside0 (kq ≤ k1) ∧ Aside0 (wc.heap[gb190]? = some (.cells #[.int .i64 ((rd_T27 l0 x3_1).f0), .int .i64 ((rd_T27 l0 x3_1).f1), .int .i64 ((rd_T27 l0 x3_1).f2), .int .i64 ((rd_T27 l0 x3_1).f3), .int .i64 ((rd_T27 l0 x3_1).f4), .int .i64 ((rd_T27 l0 x3_1).f5)] 27 (0, 0))) ∧ Aside0 (Below w.heap.size w wc))
   case first =>
    have H := HC4.out
    clear HC4
    replace H := oB_q.mp H
    obtain ⟨t191, A70, H⟩ := H
    replace H : (if t191 = true then ((spec_l6In.f ((rd_T27 l0 x3_1).f2) 1 20).bind fun t192 => (if t192 = true then (if x3_1 > 0 then (if 0 ≤ (wrap64 (x3_1 - 1)) then (if (wrap64 (x3_1 - 1)) < (l0.length : Int) then (spec_EventsValid.j1 k1 l0 x3_1 (decide (((rd_T27 l0 (wrap64 (x3_1 - 1))).f1) > ((rd_T27 l0 x3_1).f1))) ((rd_T27 l0 x3_1).f0) ((rd_T27 l0 x3_1).f1) ((rd_T27 l0 x3_1).f2) ((rd_T27 l0 x3_1).f3) ((rd_T27 l0 x3_1).f4) ((rd_T27 l0 x3_1).f5)) else (none)) else (none)) else (spec_EventsValid.j1 k1 l0 x3_1 false ((rd_T27 l0 x3_1).f0) ((rd_T27 l0 x3_1).f1) ((rd_T27 l0 x3_1).f2) ((rd_T27 l0 x3_1).f3) ((rd_T27 l0 x3_1).f4) ((rd_T27 l0 x3_1).f5))) else (spec_EventsValid.j1 k1 l0 x3_1 true ((rd_T27 l0 x3_1).f0) ((rd_T27 l0 x3_1).f1) ((rd_T27 l0 x3_1).f2) ((rd_T27 l0 x3_1).f3) ((rd_T27 l0 x3_1).f4) ((rd_T27 l0 x3_1).f5)))) else (spec_EventsValid.j1 k1 l0 x3_1 true ((rd_T27 l0 x3_1).f0) ((rd_T27 l0 x3_1).f1) ((rd_T27 l0 x3_1).f2) ((rd_T27 l0 x3_1).f3) ((rd_T27 l0 x3_1).f4) ((rd_T27 l0 x3_1).f5))) = some r := H
    have A7 := Ae_q A70
    clear A70
    by_cases c8 : t191 = true
    rotate_left
    ·replace c8 := fM_q.mpr c8
     subst c8
     have H1 : (spec_EventsValid.j1 k1 l0 x3_1 true ((rd_T27 l0 x3_1).f0) ((rd_T27 l0 x3_1).f1) ((rd_T27 l0 x3_1).f2) ((rd_T27 l0 x3_1).f3) ((rd_T27 l0 x3_1).f4) ((rd_T27 l0 x3_1).f5)) = some r := by rw [if_neg (show ¬ (false = true) by decide)] at H; exact H
     clear H
     have H := H1
     clear H1
     have H' := Ae_q H
     clear H
     have hcz18_0 : cI w5 gb190 0 0 := cZ BK190 0 rfl
     have hcz18_1 : cI w5 gb190 1 0 := cZ BK190 1 rfl
     have hcz18_2 : cI w5 gb190 2 0 := cZ BK190 2 rfl
     have hcz18_3 : cI w5 gb190 3 0 := cZ BK190 3 rfl
     have hcz18_4 : cI w5 gb190 4 0 := cZ BK190 4 rfl
     have hcz18_5 : cI w5 gb190 5 0 := cZ BK190 5 rfl
     have hfz18_0 := bF_q BK190.out 0
     have hfz18_1 := bF_q BK190.out 1
     have hfz18_2 := bF_q BK190.out 2
     have hfz18_3 := bF_q BK190.out 3
     have hfz18_4 := bF_q BK190.out 4
     have hfz18_5 := bF_q BK190.out 5
     go_wp2_with (first | (go_at_call 45; (with_reducible refine (spec_l6In.calls ((rd_T27 l0 x3_1).f1) 0 1439 false _ A7.out).mono ?_); rintro e w' ⟨rfl, ⟨nd, rfl⟩⟩; (try first | exact ⟨rfl, _, wD_q _ _ _⟩ | exact ⟨rfl, _, Eq.trans (wD_q _ _ _) (congrArg (World.drewN _) (nA_q _ _ _))⟩)))
     repeat (go_quiet (first | (go_at_call 45; (with_reducible refine (spec_l6In.calls ((rd_T27 l0 x3_1).f1) 0 1439 false _ A7.out).mono ?_); rintro e w' ⟨rfl, ⟨nd, rfl⟩⟩; (try first | exact ⟨rfl, _, wD_q _ _ _⟩ | exact ⟨rfl, _, Eq.trans (wD_q _ _ _) (congrArg (World.drewN _) (nA_q _ _ _))⟩))); try go_wp2_with (first | (go_at_call 45; (with_reducible refine (spec_l6In.calls ((rd_T27 l0 x3_1).f1) 0 1439 false _ A7.out).mono ?_); rintro e w' ⟨rfl, ⟨nd, rfl⟩⟩; (try first | exact ⟨rfl, _, wD_q _ _ _⟩ | exact ⟨rfl, _, Eq.trans (wD_q _ _ _) (congrArg (World.drewN _) (nA_q _ _ _))⟩))))
     go_meet
     case rel => exact ⟨_, (true), (by first | rfl | (simp; done) | (simp [*]; done)), H', ⟨by have := HK1.out; first | omega | exact nR_q _⟩, ⟨by (with_reducible repeat (first | refine bN_q ?_ _ | refine bW_q ?_ | refine bL_q ?_ _)); refine blk_put (cs := #[.int .i64 ((rd_T27 l0 x3_1).f0), .int .i64 ((rd_T27 l0 x3_1).f1), .int .i64 ((rd_T27 l0 x3_1).f2), .int .i64 ((rd_T27 l0 x3_1).f3), .int .i64 ((rd_T27 l0 x3_1).f4), .int .i64 0]) ?_ 5 _ rfl; (with_reducible repeat (first | refine bN_q ?_ _ | refine bW_q ?_ | refine bL_q ?_ _)); refine blk_put (cs := #[.int .i64 ((rd_T27 l0 x3_1).f0), .int .i64 ((rd_T27 l0 x3_1).f1), .int .i64 ((rd_T27 l0 x3_1).f2), .int .i64 ((rd_T27 l0 x3_1).f3), .int .i64 0, .int .i64 0]) ?_ 4 _ rfl; (with_reducible repeat (first | refine bN_q ?_ _ | refine bW_q ?_ | refine bL_q ?_ _)); refine blk_put (cs := #[.int .i64 ((rd_T27 l0 x3_1).f0), .int .i64 ((rd_T27 l0 x3_1).f1), .int .i64 ((rd_T27 l0 x3_1).f2), .int .i64 0, .int .i64 0, .int .i64 0]) ?_ 3 _ rfl; (with_reducible repeat (first | refine bN_q ?_ _ | refine bW_q ?_ | refine bL_q ?_ _)); refine blk_put (cs := #[.int .i64 ((rd_T27 l0 x3_1).f0), .int .i64 ((rd_T27 l0 x3_1).f1), .int .i64 0, .int .i64 0, .int .i64 0, .int .i64 0]) ?_ 2 _ rfl; (with_reducible repeat (first | refine bN_q ?_ _ | refine bW_q ?_ | refine bL_q ?_ _)); refine blk_put (cs := #[.int .i64 ((rd_T27 l0 x3_1).f0), .int .i64 0, .int .i64 0, .int .i64 0, .int .i64 0, .int .i64 0]) ?_ 1 _ rfl; (with_reducible repeat (first | refine bN_q ?_ _ | refine bW_q ?_ | refine bL_q ?_ _)); refine blk_put (cs := #[.int .i64 0, .int .i64 0, .int .i64 0, .int .i64 0, .int .i64 0, .int .i64 0]) ?_ 0 _ rfl; (with_reducible repeat (first | refine bN_q ?_ _ | refine bW_q ?_ | refine bL_q ?_ _)); exact BK190.out⟩, ⟨by repeat (with_reducible first | exact HB.out | apply bA_q | apply pB_q | apply bD_q | refine bS_q ?_ GE190.out)⟩⟩
    subst c8
    have H1 : ((spec_l6In.f ((rd_T27 l0 x3_1).f2) 1 20).bind fun t192 => (if t192 = true then (if x3_1 > 0 then (if 0 ≤ (wrap64 (x3_1 - 1)) then (if (wrap64 (x3_1 - 1)) < (l0.length : Int) then (spec_EventsValid.j1 k1 l0 x3_1 (decide (((rd_T27 l0 (wrap64 (x3_1 - 1))).f1) > ((rd_T27 l0 x3_1).f1))) ((rd_T27 l0 x3_1).f0) ((rd_T27 l0 x3_1).f1) ((rd_T27 l0 x3_1).f2) ((rd_T27 l0 x3_1).f3) ((rd_T27 l0 x3_1).f4) ((rd_T27 l0 x3_1).f5)) else (none)) else (none)) else (spec_EventsValid.j1 k1 l0 x3_1 false ((rd_T27 l0 x3_1).f0) ((rd_T27 l0 x3_1).f1) ((rd_T27 l0 x3_1).f2) ((rd_T27 l0 x3_1).f3) ((rd_T27 l0 x3_1).f4) ((rd_T27 l0 x3_1).f5))) else (spec_EventsValid.j1 k1 l0 x3_1 true ((rd_T27 l0 x3_1).f0) ((rd_T27 l0 x3_1).f1) ((rd_T27 l0 x3_1).f2) ((rd_T27 l0 x3_1).f3) ((rd_T27 l0 x3_1).f4) ((rd_T27 l0 x3_1).f5)))) = some r := by rw [if_pos rfl] at H; exact H
    clear H
    have H := H1
    clear H1
    replace H := oB_q.mp H
    obtain ⟨t192, A90, H⟩ := H
    replace H : (if t192 = true then (if x3_1 > 0 then (if 0 ≤ (wrap64 (x3_1 - 1)) then (if (wrap64 (x3_1 - 1)) < (l0.length : Int) then (spec_EventsValid.j1 k1 l0 x3_1 (decide (((rd_T27 l0 (wrap64 (x3_1 - 1))).f1) > ((rd_T27 l0 x3_1).f1))) ((rd_T27 l0 x3_1).f0) ((rd_T27 l0 x3_1).f1) ((rd_T27 l0 x3_1).f2) ((rd_T27 l0 x3_1).f3) ((rd_T27 l0 x3_1).f4) ((rd_T27 l0 x3_1).f5)) else (none)) else (none)) else (spec_EventsValid.j1 k1 l0 x3_1 false ((rd_T27 l0 x3_1).f0) ((rd_T27 l0 x3_1).f1) ((rd_T27 l0 x3_1).f2) ((rd_T27 l0 x3_1).f3) ((rd_T27 l0 x3_1).f4) ((rd_T27 l0 x3_1).f5))) else (spec_EventsValid.j1 k1 l0 x3_1 true ((rd_T27 l0 x3_1).f0) ((rd_T27 l0 x3_1).f1) ((rd_T27 l0 x3_1).f2) ((rd_T27 l0 x3_1).f3) ((rd_T27 l0 x3_1).f4) ((rd_T27 l0 x3_1).f5))) = some r := H
    have A9 := Ae_q A90
    clear A90
    by_cases c10 : t192 = true
    rotate_left
    ·replace c10 := fM_q.mpr c10
     subst c10
     have H1 : (spec_EventsValid.j1 k1 l0 x3_1 true ((rd_T27 l0 x3_1).f0) ((rd_T27 l0 x3_1).f1) ((rd_T27 l0 x3_1).f2) ((rd_T27 l0 x3_1).f3) ((rd_T27 l0 x3_1).f4) ((rd_T27 l0 x3_1).f5)) = some r := by rw [if_neg (show ¬ (false = true) by decide)] at H; exact H
     clear H
     have H := H1
     clear H1
     have H' := Ae_q H
     clear H
     have hcz17_0 : cI w5 gb190 0 0 := cZ BK190 0 rfl
     have hcz17_1 : cI w5 gb190 1 0 := cZ BK190 1 rfl
     have hcz17_2 : cI w5 gb190 2 0 := cZ BK190 2 rfl
     have hcz17_3 : cI w5 gb190 3 0 := cZ BK190 3 rfl
     have hcz17_4 : cI w5 gb190 4 0 := cZ BK190 4 rfl
     have hcz17_5 : cI w5 gb190 5 0 := cZ BK190 5 rfl
     have hfz17_0 := bF_q BK190.out 0
     have hfz17_1 := bF_q BK190.out 1
     have hfz17_2 := bF_q BK190.out 2
     have hfz17_3 := bF_q BK190.out 3
     have hfz17_4 := bF_q BK190.out 4
     have hfz17_5 := bF_q BK190.out 5
     go_wp2_with (first | (go_at_call 45; (with_reducible refine (spec_l6In.calls ((rd_T27 l0 x3_1).f1) 0 1439 true _ A7.out).mono ?_); rintro e w' ⟨rfl, ⟨nd, rfl⟩⟩; (try first | exact ⟨rfl, _, wD_q _ _ _⟩ | exact ⟨rfl, _, Eq.trans (wD_q _ _ _) (congrArg (World.drewN _) (nA_q _ _ _))⟩)) | (go_at_call 45; (with_reducible refine (spec_l6In.calls ((rd_T27 l0 x3_1).f2) 1 20 false _ A9.out).mono ?_); rintro e w' ⟨rfl, ⟨nd, rfl⟩⟩; (try first | exact ⟨rfl, _, wD_q _ _ _⟩ | exact ⟨rfl, _, Eq.trans (wD_q _ _ _) (congrArg (World.drewN _) (nA_q _ _ _))⟩)))
     repeat (go_quiet (first | (go_at_call 45; (with_reducible refine (spec_l6In.calls ((rd_T27 l0 x3_1).f1) 0 1439 true _ A7.out).mono ?_); rintro e w' ⟨rfl, ⟨nd, rfl⟩⟩; (try first | exact ⟨rfl, _, wD_q _ _ _⟩ | exact ⟨rfl, _, Eq.trans (wD_q _ _ _) (congrArg (World.drewN _) (nA_q _ _ _))⟩)) | (go_at_call 45; (with_reducible refine (spec_l6In.calls ((rd_T27 l0 x3_1).f2) 1 20 false _ A9.out).mono ?_); rintro e w' ⟨rfl, ⟨nd, rfl⟩⟩; (try first | exact ⟨rfl, _, wD_q _ _ _⟩ | exact ⟨rfl, _, Eq.trans (wD_q _ _ _) (congrArg (World.drewN _) (nA_q _ _ _))⟩))); try go_wp2_with (first | (go_at_call 45; (with_reducible refine (spec_l6In.calls ((rd_T27 l0 x3_1).f1) 0 1439 true _ A7.out).mono ?_); rintro e w' ⟨rfl, ⟨nd, rfl⟩⟩; (try first | exact ⟨rfl, _, wD_q _ _ _⟩ | exact ⟨rfl, _, Eq.trans (wD_q _ _ _) (congrArg (World.drewN _) (nA_q _ _ _))⟩)) | (go_at_call 45; (with_reducible refine (spec_l6In.calls ((rd_T27 l0 x3_1).f2) 1 20 false _ A9.out).mono ?_); rintro e w' ⟨rfl, ⟨nd, rfl⟩⟩; (try first | exact ⟨rfl, _, wD_q _ _ _⟩ | exact ⟨rfl, _, Eq.trans (wD_q _ _ _) (congrArg (World.drewN _) (nA_q _ _ _))⟩))))
     go_meet
     case rel => exact ⟨_, (true), (by first | rfl | (simp; done) | (simp [*]; done)), H', ⟨by have := HK1.out; first | omega | exact nR_q _⟩, ⟨by (with_reducible repeat (first | refine bN_q ?_ _ | refine bW_q ?_ | refine bL_q ?_ _)); refine blk_put (cs := #[.int .i64 ((rd_T27 l0 x3_1).f0), .int .i64 ((rd_T27 l0 x3_1).f1), .int .i64 ((rd_T27 l0 x3_1).f2), .int .i64 ((rd_T27 l0 x3_1).f3), .int .i64 ((rd_T27 l0 x3_1).f4), .int .i64 0]) ?_ 5 _ rfl; (with_reducible repeat (first | refine bN_q ?_ _ | refine bW_q ?_ | refine bL_q ?_ _)); refine blk_put (cs := #[.int .i64 ((rd_T27 l0 x3_1).f0), .int .i64 ((rd_T27 l0 x3_1).f1), .int .i64 ((rd_T27 l0 x3_1).f2), .int .i64 ((rd_T27 l0 x3_1).f3), .int .i64 0, .int .i64 0]) ?_ 4 _ rfl; (with_reducible repeat (first | refine bN_q ?_ _ | refine bW_q ?_ | refine bL_q ?_ _)); refine blk_put (cs := #[.int .i64 ((rd_T27 l0 x3_1).f0), .int .i64 ((rd_T27 l0 x3_1).f1), .int .i64 ((rd_T27 l0 x3_1).f2), .int .i64 0, .int .i64 0, .int .i64 0]) ?_ 3 _ rfl; (with_reducible repeat (first | refine bN_q ?_ _ | refine bW_q ?_ | refine bL_q ?_ _)); refine blk_put (cs := #[.int .i64 ((rd_T27 l0 x3_1).f0), .int .i64 ((rd_T27 l0 x3_1).f1), .int .i64 0, .int .i64 0, .int .i64 0, .int .i64 0]) ?_ 2 _ rfl; (with_reducible repeat (first | refine bN_q ?_ _ | refine bW_q ?_ | refine bL_q ?_ _)); refine blk_put (cs := #[.int .i64 ((rd_T27 l0 x3_1).f0), .int .i64 0, .int .i64 0, .int .i64 0, .int .i64 0, .int .i64 0]) ?_ 1 _ rfl; (with_reducible repeat (first | refine bN_q ?_ _ | refine bW_q ?_ | refine bL_q ?_ _)); refine blk_put (cs := #[.int .i64 0, .int .i64 0, .int .i64 0, .int .i64 0, .int .i64 0, .int .i64 0]) ?_ 0 _ rfl; (with_reducible repeat (first | refine bN_q ?_ _ | refine bW_q ?_ | refine bL_q ?_ _)); exact BK190.out⟩, ⟨by repeat (with_reducible first | exact HB.out | apply bA_q | apply pB_q | apply bD_q | refine bS_q ?_ GE190.out)⟩⟩
    subst c10
    have H1 : (if x3_1 > 0 then (if 0 ≤ (wrap64 (x3_1 - 1)) then (if (wrap64 (x3_1 - 1)) < (l0.length : Int) then (spec_EventsValid.j1 k1 l0 x3_1 (decide (((rd_T27 l0 (wrap64 (x3_1 - 1))).f1) > ((rd_T27 l0 x3_1).f1))) ((rd_T27 l0 x3_1).f0) ((rd_T27 l0 x3_1).f1) ((rd_T27 l0 x3_1).f2) ((rd_T27 l0 x3_1).f3) ((rd_T27 l0 x3_1).f4) ((rd_T27 l0 x3_1).f5)) else (none)) else (none)) else (spec_EventsValid.j1 k1 l0 x3_1 false ((rd_T27 l0 x3_1).f0) ((rd_T27 l0 x3_1).f1) ((rd_T27 l0 x3_1).f2) ((rd_T27 l0 x3_1).f3) ((rd_T27 l0 x3_1).f4) ((rd_T27 l0 x3_1).f5))) = some r := by rw [if_pos rfl] at H; exact H
    clear H
    have H := H1
    clear H1
    by_cases c11 : x3_1 > 0
    rotate_left
    ·rw [if_neg c11] at H
     have c11b0 : decide (0 < x3_1) = false := dF_q c11
     clear c11
     (first | rw [c11b0] | (simp only [i64_w, i32_w]; rw [c11b0]) | skip)
     have H' := Ae_q H
     clear H
     have hcz16_0 : cI w5 gb190 0 0 := cZ BK190 0 rfl
     have hcz16_1 : cI w5 gb190 1 0 := cZ BK190 1 rfl
     have hcz16_2 : cI w5 gb190 2 0 := cZ BK190 2 rfl
     have hcz16_3 : cI w5 gb190 3 0 := cZ BK190 3 rfl
     have hcz16_4 : cI w5 gb190 4 0 := cZ BK190 4 rfl
     have hcz16_5 : cI w5 gb190 5 0 := cZ BK190 5 rfl
     have hfz16_0 := bF_q BK190.out 0
     have hfz16_1 := bF_q BK190.out 1
     have hfz16_2 := bF_q BK190.out 2
     have hfz16_3 := bF_q BK190.out 3
     have hfz16_4 := bF_q BK190.out 4
     have hfz16_5 := bF_q BK190.out 5
     go_wp2_with (first | (go_at_call 45; (with_reducible refine (spec_l6In.calls ((rd_T27 l0 x3_1).f1) 0 1439 true _ A7.out).mono ?_); rintro e w' ⟨rfl, ⟨nd, rfl⟩⟩; (try first | exact ⟨rfl, _, wD_q _ _ _⟩ | exact ⟨rfl, _, Eq.trans (wD_q _ _ _) (congrArg (World.drewN _) (nA_q _ _ _))⟩)) | (go_at_call 45; (with_reducible refine (spec_l6In.calls ((rd_T27 l0 x3_1).f2) 1 20 true _ A9.out).mono ?_); rintro e w' ⟨rfl, ⟨nd, rfl⟩⟩; (try first | exact ⟨rfl, _, wD_q _ _ _⟩ | exact ⟨rfl, _, Eq.trans (wD_q _ _ _) (congrArg (World.drewN _) (nA_q _ _ _))⟩)))
     repeat (go_quiet (first | (go_at_call 45; (with_reducible refine (spec_l6In.calls ((rd_T27 l0 x3_1).f1) 0 1439 true _ A7.out).mono ?_); rintro e w' ⟨rfl, ⟨nd, rfl⟩⟩; (try first | exact ⟨rfl, _, wD_q _ _ _⟩ | exact ⟨rfl, _, Eq.trans (wD_q _ _ _) (congrArg (World.drewN _) (nA_q _ _ _))⟩)) | (go_at_call 45; (with_reducible refine (spec_l6In.calls ((rd_T27 l0 x3_1).f2) 1 20 true _ A9.out).mono ?_); rintro e w' ⟨rfl, ⟨nd, rfl⟩⟩; (try first | exact ⟨rfl, _, wD_q _ _ _⟩ | exact ⟨rfl, _, Eq.trans (wD_q _ _ _) (congrArg (World.drewN _) (nA_q _ _ _))⟩))); try go_wp2_with (first | (go_at_call 45; (with_reducible refine (spec_l6In.calls ((rd_T27 l0 x3_1).f1) 0 1439 true _ A7.out).mono ?_); rintro e w' ⟨rfl, ⟨nd, rfl⟩⟩; (try first | exact ⟨rfl, _, wD_q _ _ _⟩ | exact ⟨rfl, _, Eq.trans (wD_q _ _ _) (congrArg (World.drewN _) (nA_q _ _ _))⟩)) | (go_at_call 45; (with_reducible refine (spec_l6In.calls ((rd_T27 l0 x3_1).f2) 1 20 true _ A9.out).mono ?_); rintro e w' ⟨rfl, ⟨nd, rfl⟩⟩; (try first | exact ⟨rfl, _, wD_q _ _ _⟩ | exact ⟨rfl, _, Eq.trans (wD_q _ _ _) (congrArg (World.drewN _) (nA_q _ _ _))⟩))))
     go_meet
     case rel => exact ⟨_, (false), (by first | rfl | (simp; done) | (simp [*]; done)), H', ⟨by have := HK1.out; first | omega | exact nR_q _⟩, ⟨by (with_reducible repeat (first | refine bN_q ?_ _ | refine bW_q ?_ | refine bL_q ?_ _)); refine blk_put (cs := #[.int .i64 ((rd_T27 l0 x3_1).f0), .int .i64 ((rd_T27 l0 x3_1).f1), .int .i64 ((rd_T27 l0 x3_1).f2), .int .i64 ((rd_T27 l0 x3_1).f3), .int .i64 ((rd_T27 l0 x3_1).f4), .int .i64 0]) ?_ 5 _ rfl; (with_reducible repeat (first | refine bN_q ?_ _ | refine bW_q ?_ | refine bL_q ?_ _)); refine blk_put (cs := #[.int .i64 ((rd_T27 l0 x3_1).f0), .int .i64 ((rd_T27 l0 x3_1).f1), .int .i64 ((rd_T27 l0 x3_1).f2), .int .i64 ((rd_T27 l0 x3_1).f3), .int .i64 0, .int .i64 0]) ?_ 4 _ rfl; (with_reducible repeat (first | refine bN_q ?_ _ | refine bW_q ?_ | refine bL_q ?_ _)); refine blk_put (cs := #[.int .i64 ((rd_T27 l0 x3_1).f0), .int .i64 ((rd_T27 l0 x3_1).f1), .int .i64 ((rd_T27 l0 x3_1).f2), .int .i64 0, .int .i64 0, .int .i64 0]) ?_ 3 _ rfl; (with_reducible repeat (first | refine bN_q ?_ _ | refine bW_q ?_ | refine bL_q ?_ _)); refine blk_put (cs := #[.int .i64 ((rd_T27 l0 x3_1).f0), .int .i64 ((rd_T27 l0 x3_1).f1), .int .i64 0, .int .i64 0, .int .i64 0, .int .i64 0]) ?_ 2 _ rfl; (with_reducible repeat (first | refine bN_q ?_ _ | refine bW_q ?_ | refine bL_q ?_ _)); refine blk_put (cs := #[.int .i64 ((rd_T27 l0 x3_1).f0), .int .i64 0, .int .i64 0, .int .i64 0, .int .i64 0, .int .i64 0]) ?_ 1 _ rfl; (with_reducible repeat (first | refine bN_q ?_ _ | refine bW_q ?_ | refine bL_q ?_ _)); refine blk_put (cs := #[.int .i64 0, .int .i64 0, .int .i64 0, .int .i64 0, .int .i64 0, .int .i64 0]) ?_ 0 _ rfl; (with_reducible repeat (first | refine bN_q ?_ _ | refine bW_q ?_ | refine bL_q ?_ _)); exact BK190.out⟩, ⟨by repeat (with_reducible first | exact HB.out | apply bA_q | apply pB_q | apply bD_q | refine bS_q ?_ GE190.out)⟩⟩
    rw [if_pos c11] at H
    have c11b0 : decide (0 < x3_1) = true := dT_q c11
    clear c11
    (first | rw [c11b0] | (simp only [i64_w, i32_w]; rw [c11b0]) | skip)
    obtain ⟨ji12, hji12⟩ : ∃ j_ : Int, (wrap64 (x3_1 - 1)) = j_ := ⟨_, rfl⟩
    replace H : (if 0 ≤ (ji12) then (if (ji12) < (l0.length : Int) then (spec_EventsValid.j1 k1 l0 x3_1 (decide (((rd_T27 l0 (ji12)).f1) > ((rd_T27 l0 x3_1).f1))) ((rd_T27 l0 x3_1).f0) ((rd_T27 l0 x3_1).f1) ((rd_T27 l0 x3_1).f2) ((rd_T27 l0 x3_1).f3) ((rd_T27 l0 x3_1).f4) ((rd_T27 l0 x3_1).f5)) else (none)) else (none)) = some r := by first | (rw [hji12] at H; exact H) | (simp only [hji12] at H ⊢; exact H)
    (try rw [hji12] at A7)
    (try rw [hji12] at A9)
    have hji12w : (IntKind.i64.wrap (x3_1 - 1)) = ji12 := (i64_w _).trans hji12
    by_cases c13 : 0 ≤ (ji12)
    rotate_left
    ·rw [if_neg c13] at H
     exact absurd H (by simp)
    rw [if_pos c13] at H
    have c13b0 : decide (0 ≤ (ji12)) = true := dT_q c13
    clear c13
    by_cases c14 : (ji12) < (l0.length : Int)
    rotate_left
    ·rw [if_neg c14] at H
     exact absurd H (by simp)
    rw [if_pos c14] at H
    have c14b0 : decide ((ji12) < (l0.length : Int)) = true := dT_q c14
    clear c14
    have H' := Ae_q H
    clear H
    have hcz15_0 : cI w5 gb190 0 0 := cZ BK190 0 rfl
    have hcz15_1 : cI w5 gb190 1 0 := cZ BK190 1 rfl
    have hcz15_2 : cI w5 gb190 2 0 := cZ BK190 2 rfl
    have hcz15_3 : cI w5 gb190 3 0 := cZ BK190 3 rfl
    have hcz15_4 : cI w5 gb190 4 0 := cZ BK190 4 rfl
    have hcz15_5 : cI w5 gb190 5 0 := cZ BK190 5 rfl
    have hfz15_0 := bF_q BK190.out 0
    have hfz15_1 := bF_q BK190.out 1
    have hfz15_2 := bF_q BK190.out 2
    have hfz15_3 := bF_q BK190.out 3
    have hfz15_4 := bF_q BK190.out 4
    have hfz15_5 := bF_q BK190.out 5
    have p193 : 0 ≤ ((ji12) : Int) := oD_q (by assumption); have q193 : (ji12) < (l0.length : Int) := oD_q (by assumption); obtain ⟨ad193, e193, hx193_0, hx193_1, hx193_2, hx193_3, hx193_4, hx193_5⟩ := at_T27 HR0.out (ji12) p193 q193; obtain rfl : ad189 = ad193 := (by injection e193); have hn193_0 : ad189.block ≠ gb190 := nL_q (Nat.lt_of_lt_of_le (by have := wL_q _ _ hx193_0; first | rwa [add_block] at this | exact this) GW190.out); have hn193_1 : ad189.block ≠ gb190 := nL_q (Nat.lt_of_lt_of_le (by have := wL_q _ _ hx193_0; first | rwa [add_block] at this | exact this) GW190.out); have hn193_2 : ad189.block ≠ gb190 := nL_q (Nat.lt_of_lt_of_le (by have := wL_q _ _ hx193_0; first | rwa [add_block] at this | exact this) GW190.out); have hn193_3 : ad189.block ≠ gb190 := nL_q (Nat.lt_of_lt_of_le (by have := wL_q _ _ hx193_0; first | rwa [add_block] at this | exact this) GW190.out); have hn193_4 : ad189.block ≠ gb190 := nL_q (Nat.lt_of_lt_of_le (by have := wL_q _ _ hx193_0; first | rwa [add_block] at this | exact this) GW190.out); have hn193_5 : ad189.block ≠ gb190 := nL_q (Nat.lt_of_lt_of_le (by have := wL_q _ _ hx193_0; first | rwa [add_block] at this | exact this) GW190.out); replace hx193_1 := cel HB.out hx193_1; replace hx193_1 := (cell_far (p := ⟨gb190, 0, none⟩) (by first | (rw [add_block]; exact hn193_0) | (show (Addr.add _ _).block ≠ _; rw [add_block]; exact hn193_0) | exact hn193_0) (.int .i64 ((rd_T27 l0 x3_1).f0))).trans hx193_1; replace hx193_1 := (cell_far (p := ⟨gb190, 1, none⟩) (by first | (rw [add_block]; exact hn193_1) | (show (Addr.add _ _).block ≠ _; rw [add_block]; exact hn193_1) | exact hn193_1) (.int .i64 ((rd_T27 l0 x3_1).f1))).trans hx193_1; replace hx193_1 := (cell_far (p := ⟨gb190, 2, none⟩) (by first | (rw [add_block]; exact hn193_2) | (show (Addr.add _ _).block ≠ _; rw [add_block]; exact hn193_2) | exact hn193_2) (.int .i64 ((rd_T27 l0 x3_1).f2))).trans hx193_1; replace hx193_1 := (cell_far (p := ⟨gb190, 3, none⟩) (by first | (rw [add_block]; exact hn193_3) | (show (Addr.add _ _).block ≠ _; rw [add_block]; exact hn193_3) | exact hn193_3) (.int .i64 ((rd_T27 l0 x3_1).f3))).trans hx193_1; replace hx193_1 := (cell_far (p := ⟨gb190, 4, none⟩) (by first | (rw [add_block]; exact hn193_4) | (show (Addr.add _ _).block ≠ _; rw [add_block]; exact hn193_4) | exact hn193_4) (.int .i64 ((rd_T27 l0 x3_1).f4))).trans hx193_1; replace hx193_1 := (cell_far (p := ⟨gb190, 5, none⟩) (by first | (rw [add_block]; exact hn193_5) | (show (Addr.add _ _).block ≠ _; rw [add_block]; exact hn193_5) | exact hn193_5) (.int .i64 ((rd_T27 l0 x3_1).f5))).trans hx193_1; clear hn193_0; clear hn193_1; clear hn193_2; clear hn193_3; clear hn193_4; clear hn193_5; replace p193 := eq_true p193; replace q193 := eq_true q193; clear hx193_0 hx193_2 hx193_3 hx193_4 hx193_5
    go_wp2_with (first | (go_at_call 45; (with_reducible refine (spec_l6In.calls ((rd_T27 l0 x3_1).f1) 0 1439 true _ A7.out).mono ?_); rintro e w' ⟨rfl, ⟨nd, rfl⟩⟩; (try first | exact ⟨rfl, _, wD_q _ _ _⟩ | exact ⟨rfl, _, Eq.trans (wD_q _ _ _) (congrArg (World.drewN _) (nA_q _ _ _))⟩)) | (go_at_call 45; (with_reducible refine (spec_l6In.calls ((rd_T27 l0 x3_1).f2) 1 20 true _ A9.out).mono ?_); rintro e w' ⟨rfl, ⟨nd, rfl⟩⟩; (try first | exact ⟨rfl, _, wD_q _ _ _⟩ | exact ⟨rfl, _, Eq.trans (wD_q _ _ _) (congrArg (World.drewN _) (nA_q _ _ _))⟩)))
    repeat (go_quiet (first | (go_at_call 45; (with_reducible refine (spec_l6In.calls ((rd_T27 l0 x3_1).f1) 0 1439 true _ A7.out).mono ?_); rintro e w' ⟨rfl, ⟨nd, rfl⟩⟩; (try first | exact ⟨rfl, _, wD_q _ _ _⟩ | exact ⟨rfl, _, Eq.trans (wD_q _ _ _) (congrArg (World.drewN _) (nA_q _ _ _))⟩)) | (go_at_call 45; (with_reducible refine (spec_l6In.calls ((rd_T27 l0 x3_1).f2) 1 20 true _ A9.out).mono ?_); rintro e w' ⟨rfl, ⟨nd, rfl⟩⟩; (try first | exact ⟨rfl, _, wD_q _ _ _⟩ | exact ⟨rfl, _, Eq.trans (wD_q _ _ _) (congrArg (World.drewN _) (nA_q _ _ _))⟩))); try go_wp2_with (first | (go_at_call 45; (with_reducible refine (spec_l6In.calls ((rd_T27 l0 x3_1).f1) 0 1439 true _ A7.out).mono ?_); rintro e w' ⟨rfl, ⟨nd, rfl⟩⟩; (try first | exact ⟨rfl, _, wD_q _ _ _⟩ | exact ⟨rfl, _, Eq.trans (wD_q _ _ _) (congrArg (World.drewN _) (nA_q _ _ _))⟩)) | (go_at_call 45; (with_reducible refine (spec_l6In.calls ((rd_T27 l0 x3_1).f2) 1 20 true _ A9.out).mono ?_); rintro e w' ⟨rfl, ⟨nd, rfl⟩⟩; (try first | exact ⟨rfl, _, wD_q _ _ _⟩ | exact ⟨rfl, _, Eq.trans (wD_q _ _ _) (congrArg (World.drewN _) (nA_q _ _ _))⟩))))
    go_meet
    case rel => exact ⟨_, (decide (((rd_T27 l0 (ji12)).f1) > ((rd_T27 l0 x3_1).f1))), (by first | rfl | (simp; done) | (simp only [← hji12] <;> (first | rfl | simp)) | (simp [*]; done)), H', ⟨by have := HK1.out; first | omega | exact nR_q _⟩, ⟨by (with_reducible repeat (first | refine bN_q ?_ _ | refine bW_q ?_ | refine bL_q ?_ _)); refine blk_put (cs := #[.int .i64 ((rd_T27 l0 x3_1).f0), .int .i64 ((rd_T27 l0 x3_1).f1), .int .i64 ((rd_T27 l0 x3_1).f2), .int .i64 ((rd_T27 l0 x3_1).f3), .int .i64 ((rd_T27 l0 x3_1).f4), .int .i64 0]) ?_ 5 _ rfl; (with_reducible repeat (first | refine bN_q ?_ _ | refine bW_q ?_ | refine bL_q ?_ _)); refine blk_put (cs := #[.int .i64 ((rd_T27 l0 x3_1).f0), .int .i64 ((rd_T27 l0 x3_1).f1), .int .i64 ((rd_T27 l0 x3_1).f2), .int .i64 ((rd_T27 l0 x3_1).f3), .int .i64 0, .int .i64 0]) ?_ 4 _ rfl; (with_reducible repeat (first | refine bN_q ?_ _ | refine bW_q ?_ | refine bL_q ?_ _)); refine blk_put (cs := #[.int .i64 ((rd_T27 l0 x3_1).f0), .int .i64 ((rd_T27 l0 x3_1).f1), .int .i64 ((rd_T27 l0 x3_1).f2), .int .i64 0, .int .i64 0, .int .i64 0]) ?_ 3 _ rfl; (with_reducible repeat (first | refine bN_q ?_ _ | refine bW_q ?_ | refine bL_q ?_ _)); refine blk_put (cs := #[.int .i64 ((rd_T27 l0 x3_1).f0), .int .i64 ((rd_T27 l0 x3_1).f1), .int .i64 0, .int .i64 0, .int .i64 0, .int .i64 0]) ?_ 2 _ rfl; (with_reducible repeat (first | refine bN_q ?_ _ | refine bW_q ?_ | refine bL_q ?_ _)); refine blk_put (cs := #[.int .i64 ((rd_T27 l0 x3_1).f0), .int .i64 0, .int .i64 0, .int .i64 0, .int .i64 0, .int .i64 0]) ?_ 1 _ rfl; (with_reducible repeat (first | refine bN_q ?_ _ | refine bW_q ?_ | refine bL_q ?_ _)); refine blk_put (cs := #[.int .i64 0, .int .i64 0, .int .i64 0, .int .i64 0, .int .i64 0, .int .i64 0]) ?_ 0 _ rfl; (with_reducible repeat (first | refine bN_q ?_ _ | refine bW_q ?_ | refine bL_q ?_ _)); exact BK190.out⟩, ⟨by repeat (with_reducible first | exact HB.out | apply bA_q | apply pB_q | apply bD_q | refine bS_q ?_ GE190.out)⟩⟩
   case rest =>
    clear HC4
    try clear c1
    try clear p1
    try clear q1
    try clear hx1
    try clear c2
    try clear c2b0
    try clear p2
    try clear c3
    try clear c3b0
    try clear p6
    try clear c8
    try clear c10
    try clear c11
    try clear c11b0
    try clear c13
    try clear c13b0
    try clear c14
    try clear c14b0
    try clear c17
    try clear p18
    try clear q18
    try clear hx18
    try clear hcz15_0
    try clear hcz15_1
    try clear hcz15_2
    try clear hcz15_3
    try clear hcz15_4
    try clear hcz15_5
    try clear hcz16_0
    try clear hcz16_1
    try clear hcz16_2
    try clear hcz16_3
    try clear hcz16_4
    try clear hcz16_5
    try clear hcz17_0
    try clear hcz17_1
    try clear hcz17_2
    try clear hcz17_3
    try clear hcz17_4
    try clear hcz17_5
    try clear hcz18_0
    try clear hcz18_1
    try clear hcz18_2
    try clear hcz18_3
    try clear hcz18_4
    try clear hcz18_5
    try clear hcz6_0
    try clear hcz6_1
    try clear hcz6_2
    try clear hcz6_3
    try clear hcz6_4
    try clear hcz6_5
    try clear hfz15_0
    try clear hfz15_1
    try clear hfz15_2
    try clear hfz15_3
    try clear hfz15_4
    try clear hfz15_5
    try clear hfz16_0
    try clear hfz16_1
    try clear hfz16_2
    try clear hfz16_3
    try clear hfz16_4
    try clear hfz16_5
    try clear hfz17_0
    try clear hfz17_1
    try clear hfz17_2
    try clear hfz17_3
    try clear hfz17_4
    try clear hfz17_5
    try clear hfz18_0
    try clear hfz18_1
    try clear hfz18_2
    try clear hfz18_3
    try clear hfz18_4
    try clear hfz18_5
    try clear hfz6_0
    try clear hfz6_1
    try clear hfz6_2
    try clear hfz6_3
    try clear hfz6_4
    try clear hfz6_5
    try clear hx189_0
    try clear hx189_1
    try clear hx189_2
    try clear hx189_3
    try clear hx189_4
    try clear hx189_5
    try clear hx193_0
    try clear hx193_1
    try clear hx193_2
    try clear hx193_3
    try clear hx193_4
    try clear hx193_5
    try clear p189
    try clear p193
    try clear q189
    try clear q193
    obtain ⟨kq, x39_3, rfl, HA, HJ3, BK190, HB⟩ := hcut
    cases kq with
    | zero => exact absurd HA.out (by simp [spec_EventsValid.j1])
    | succ kj3 =>
     have H := HA.out
     clear HA
     simp only [spec_EventsValid.j1] at H
     by_cases c19 : x39_3 = true
     ·subst c19
      have H1 : (some false) = some r := by rw [if_pos rfl] at H; exact H
      clear H
      have H := H1
      clear H1
      obtain rfl := oI_q H
      go_wp2
      repeat (go_quiet (fail); try go_wp2)
      go_ret
      exact ⟨by first | rfl | (simp [eN_q, eS_q] <;> rfl) | (simp [*, eN_q, eS_q] <;> rfl), by repeat (with_reducible first | exact HB.out | apply bA_q | apply pB_q | apply bD_q | refine bS_q ?_ GE190.out)⟩
     replace c19 := fM_q.mpr c19
     subst c19
     have H1 : (if ((rd_T27 l0 x3_1).f0) = 1 then (if ((rd_T27 l0 x3_1).f3) = 0 then ((spec_l3Set.f ((rd_T27 l0 x3_1).f4)).bind fun t194 => (if t194 = true then ((spec_l6In.f ((rd_T27 l0 x3_1).f5) 1 5).bind fun t195 => (if t195 = true then (spec_EventsValid.l0 kj3 l0 (wrap64 (x3_1 + 1))) else (some false))) else (some false))) else (some false)) else (if ((rd_T27 l0 x3_1).f0) = 2 then ((spec_l6In.f ((rd_T27 l0 x3_1).f3) 1 99).bind fun t196 => (if t196 = true then (if ((rd_T27 l0 x3_1).f4) = 0 then (if ((rd_T27 l0 x3_1).f5) = 0 then (spec_EventsValid.l0 kj3 l0 (wrap64 (x3_1 + 1))) else (some false)) else (some false)) else (some false))) else (if ((rd_T27 l0 x3_1).f0) = 3 then (if ((rd_T27 l0 x3_1).f3) = 0 then (if ((rd_T27 l0 x3_1).f4) = 0 then (if ((rd_T27 l0 x3_1).f5) = 0 then (spec_EventsValid.l0 kj3 l0 (wrap64 (x3_1 + 1))) else (some false)) else (some false)) else (some false)) else (some false)))) = some r := by rw [if_neg (show ¬ (false = true) by decide)] at H; exact H
     clear H
     have H := H1
     clear H1
     by_cases c20 : ((rd_T27 l0 x3_1).f0) = 1
     ·rw [if_pos c20] at H
      have c20b0 : (((rd_T27 l0 x3_1).f0) == 1) = true := beq_iff_eq.mpr c20
      have c20b1 : (((rd_T27 l0 x3_1).f0) != 1) = false := nE_q.mpr c20
      clear c20
      by_cases c21 : ((rd_T27 l0 x3_1).f3) = 0
      rotate_left
      ·rw [if_neg c21] at H
       have c21b0 : (((rd_T27 l0 x3_1).f3) == 0) = false := fN_q.mpr c21
       have c21b1 : (((rd_T27 l0 x3_1).f3) != 0) = true := nI_q.mpr c21
       obtain rfl := oI_q H
       have hcz29_0 : cI wc gb190 0 ((rd_T27 l0 x3_1).f0) := cZ BK190 0 rfl
       have hcz29_1 : cI wc gb190 1 ((rd_T27 l0 x3_1).f1) := cZ BK190 1 rfl
       have hcz29_2 : cI wc gb190 2 ((rd_T27 l0 x3_1).f2) := cZ BK190 2 rfl
       have hcz29_3 : cI wc gb190 3 ((rd_T27 l0 x3_1).f3) := cZ BK190 3 rfl
       have hcz29_4 : cI wc gb190 4 ((rd_T27 l0 x3_1).f4) := cZ BK190 4 rfl
       have hcz29_5 : cI wc gb190 5 ((rd_T27 l0 x3_1).f5) := cZ BK190 5 rfl
       have hfz29_0 := bF_q BK190.out 0
       have hfz29_1 := bF_q BK190.out 1
       have hfz29_2 := bF_q BK190.out 2
       have hfz29_3 := bF_q BK190.out 3
       have hfz29_4 := bF_q BK190.out 4
       have hfz29_5 := bF_q BK190.out 5
       go_wp2
       repeat (go_quiet (fail); try go_wp2)
       go_ret
       exact ⟨by first | rfl | (simp [eN_q, eS_q] <;> rfl) | (simp [*, eN_q, eS_q] <;> rfl), by repeat (with_reducible first | exact HB.out | apply bA_q | apply pB_q | apply bD_q | refine bS_q ?_ GE190.out)⟩
      rw [if_pos c21] at H
      have c21b0 : (((rd_T27 l0 x3_1).f3) == 0) = true := beq_iff_eq.mpr c21
      have c21b1 : (((rd_T27 l0 x3_1).f3) != 0) = false := nE_q.mpr c21
      clear c21
      replace H := oB_q.mp H
      obtain ⟨t194, A220, H⟩ := H
      replace H : (if t194 = true then ((spec_l6In.f ((rd_T27 l0 x3_1).f5) 1 5).bind fun t195 => (if t195 = true then (spec_EventsValid.l0 kj3 l0 (wrap64 (x3_1 + 1))) else (some false))) else (some false)) = some r := H
      have A22 := Ae_q A220
      clear A220
      by_cases c23 : t194 = true
      rotate_left
      ·replace c23 := fM_q.mpr c23
       subst c23
       have H1 : (some false) = some r := by rw [if_neg (show ¬ (false = true) by decide)] at H; exact H
       clear H
       have H := H1
       clear H1
       obtain rfl := oI_q H
       have hcz28_0 : cI wc gb190 0 ((rd_T27 l0 x3_1).f0) := cZ BK190 0 rfl
       have hcz28_1 : cI wc gb190 1 ((rd_T27 l0 x3_1).f1) := cZ BK190 1 rfl
       have hcz28_2 : cI wc gb190 2 ((rd_T27 l0 x3_1).f2) := cZ BK190 2 rfl
       have hcz28_3 : cI wc gb190 3 ((rd_T27 l0 x3_1).f3) := cZ BK190 3 rfl
       have hcz28_4 : cI wc gb190 4 ((rd_T27 l0 x3_1).f4) := cZ BK190 4 rfl
       have hcz28_5 : cI wc gb190 5 ((rd_T27 l0 x3_1).f5) := cZ BK190 5 rfl
       have hfz28_0 := bF_q BK190.out 0
       have hfz28_1 := bF_q BK190.out 1
       have hfz28_2 := bF_q BK190.out 2
       have hfz28_3 := bF_q BK190.out 3
       have hfz28_4 := bF_q BK190.out 4
       have hfz28_5 := bF_q BK190.out 5
       go_wp2_with (first | (go_at_call 46; (with_reducible refine (spec_l3Set.calls ((rd_T27 l0 x3_1).f4) false _ A22.out).mono ?_); rintro e w' ⟨rfl, ⟨nd, rfl⟩⟩; (try first | exact ⟨rfl, _, wD_q _ _ _⟩ | exact ⟨rfl, _, Eq.trans (wD_q _ _ _) (congrArg (World.drewN _) (nA_q _ _ _))⟩)))
       repeat (go_quiet (first | (go_at_call 46; (with_reducible refine (spec_l3Set.calls ((rd_T27 l0 x3_1).f4) false _ A22.out).mono ?_); rintro e w' ⟨rfl, ⟨nd, rfl⟩⟩; (try first | exact ⟨rfl, _, wD_q _ _ _⟩ | exact ⟨rfl, _, Eq.trans (wD_q _ _ _) (congrArg (World.drewN _) (nA_q _ _ _))⟩))); try go_wp2_with (first | (go_at_call 46; (with_reducible refine (spec_l3Set.calls ((rd_T27 l0 x3_1).f4) false _ A22.out).mono ?_); rintro e w' ⟨rfl, ⟨nd, rfl⟩⟩; (try first | exact ⟨rfl, _, wD_q _ _ _⟩ | exact ⟨rfl, _, Eq.trans (wD_q _ _ _) (congrArg (World.drewN _) (nA_q _ _ _))⟩))))
       go_ret
       exact ⟨by first | rfl | (simp [eN_q, eS_q] <;> rfl) | (simp [*, eN_q, eS_q] <;> rfl), by repeat (with_reducible first | exact HB.out | apply bA_q | apply pB_q | apply bD_q | refine bS_q ?_ GE190.out)⟩
      subst c23
      have H1 : ((spec_l6In.f ((rd_T27 l0 x3_1).f5) 1 5).bind fun t195 => (if t195 = true then (spec_EventsValid.l0 kj3 l0 (wrap64 (x3_1 + 1))) else (some false))) = some r := by rw [if_pos rfl] at H; exact H
      clear H
      have H := H1
      clear H1
      replace H := oB_q.mp H
      obtain ⟨t195, A240, H⟩ := H
      replace H : (if t195 = true then (spec_EventsValid.l0 kj3 l0 (wrap64 (x3_1 + 1))) else (some false)) = some r := H
      have A24 := Ae_q A240
      clear A240
      by_cases c25 : t195 = true
      rotate_left
      ·replace c25 := fM_q.mpr c25
       subst c25
       have H1 : (some false) = some r := by rw [if_neg (show ¬ (false = true) by decide)] at H; exact H
       clear H
       have H := H1
       clear H1
       obtain rfl := oI_q H
       have hcz27_0 : cI wc gb190 0 ((rd_T27 l0 x3_1).f0) := cZ BK190 0 rfl
       have hcz27_1 : cI wc gb190 1 ((rd_T27 l0 x3_1).f1) := cZ BK190 1 rfl
       have hcz27_2 : cI wc gb190 2 ((rd_T27 l0 x3_1).f2) := cZ BK190 2 rfl
       have hcz27_3 : cI wc gb190 3 ((rd_T27 l0 x3_1).f3) := cZ BK190 3 rfl
       have hcz27_4 : cI wc gb190 4 ((rd_T27 l0 x3_1).f4) := cZ BK190 4 rfl
       have hcz27_5 : cI wc gb190 5 ((rd_T27 l0 x3_1).f5) := cZ BK190 5 rfl
       have hfz27_0 := bF_q BK190.out 0
       have hfz27_1 := bF_q BK190.out 1
       have hfz27_2 := bF_q BK190.out 2
       have hfz27_3 := bF_q BK190.out 3
       have hfz27_4 := bF_q BK190.out 4
       have hfz27_5 := bF_q BK190.out 5
       go_wp2_with (first | (go_at_call 46; (with_reducible refine (spec_l3Set.calls ((rd_T27 l0 x3_1).f4) true _ A22.out).mono ?_); rintro e w' ⟨rfl, ⟨nd, rfl⟩⟩; (try first | exact ⟨rfl, _, wD_q _ _ _⟩ | exact ⟨rfl, _, Eq.trans (wD_q _ _ _) (congrArg (World.drewN _) (nA_q _ _ _))⟩)) | (go_at_call 45; (with_reducible refine (spec_l6In.calls ((rd_T27 l0 x3_1).f5) 1 5 false _ A24.out).mono ?_); rintro e w' ⟨rfl, ⟨nd, rfl⟩⟩; (try first | exact ⟨rfl, _, wD_q _ _ _⟩ | exact ⟨rfl, _, Eq.trans (wD_q _ _ _) (congrArg (World.drewN _) (nA_q _ _ _))⟩)))
       repeat (go_quiet (first | (go_at_call 46; (with_reducible refine (spec_l3Set.calls ((rd_T27 l0 x3_1).f4) true _ A22.out).mono ?_); rintro e w' ⟨rfl, ⟨nd, rfl⟩⟩; (try first | exact ⟨rfl, _, wD_q _ _ _⟩ | exact ⟨rfl, _, Eq.trans (wD_q _ _ _) (congrArg (World.drewN _) (nA_q _ _ _))⟩)) | (go_at_call 45; (with_reducible refine (spec_l6In.calls ((rd_T27 l0 x3_1).f5) 1 5 false _ A24.out).mono ?_); rintro e w' ⟨rfl, ⟨nd, rfl⟩⟩; (try first | exact ⟨rfl, _, wD_q _ _ _⟩ | exact ⟨rfl, _, Eq.trans (wD_q _ _ _) (congrArg (World.drewN _) (nA_q _ _ _))⟩))); try go_wp2_with (first | (go_at_call 46; (with_reducible refine (spec_l3Set.calls ((rd_T27 l0 x3_1).f4) true _ A22.out).mono ?_); rintro e w' ⟨rfl, ⟨nd, rfl⟩⟩; (try first | exact ⟨rfl, _, wD_q _ _ _⟩ | exact ⟨rfl, _, Eq.trans (wD_q _ _ _) (congrArg (World.drewN _) (nA_q _ _ _))⟩)) | (go_at_call 45; (with_reducible refine (spec_l6In.calls ((rd_T27 l0 x3_1).f5) 1 5 false _ A24.out).mono ?_); rintro e w' ⟨rfl, ⟨nd, rfl⟩⟩; (try first | exact ⟨rfl, _, wD_q _ _ _⟩ | exact ⟨rfl, _, Eq.trans (wD_q _ _ _) (congrArg (World.drewN _) (nA_q _ _ _))⟩))))
       go_ret
       exact ⟨by first | rfl | (simp [eN_q, eS_q] <;> rfl) | (simp [*, eN_q, eS_q] <;> rfl), by repeat (with_reducible first | exact HB.out | apply bA_q | apply pB_q | apply bD_q | refine bS_q ?_ GE190.out)⟩
      subst c25
      have H1 : (spec_EventsValid.l0 kj3 l0 (wrap64 (x3_1 + 1))) = some r := by rw [if_pos rfl] at H; exact H
      clear H
      have H := H1
      clear H1
      have H' := Ae_q H
      clear H
      have hcz26_0 : cI wc gb190 0 ((rd_T27 l0 x3_1).f0) := cZ BK190 0 rfl
      have hcz26_1 : cI wc gb190 1 ((rd_T27 l0 x3_1).f1) := cZ BK190 1 rfl
      have hcz26_2 : cI wc gb190 2 ((rd_T27 l0 x3_1).f2) := cZ BK190 2 rfl
      have hcz26_3 : cI wc gb190 3 ((rd_T27 l0 x3_1).f3) := cZ BK190 3 rfl
      have hcz26_4 : cI wc gb190 4 ((rd_T27 l0 x3_1).f4) := cZ BK190 4 rfl
      have hcz26_5 : cI wc gb190 5 ((rd_T27 l0 x3_1).f5) := cZ BK190 5 rfl
      have hfz26_0 := bF_q BK190.out 0
      have hfz26_1 := bF_q BK190.out 1
      have hfz26_2 := bF_q BK190.out 2
      have hfz26_3 := bF_q BK190.out 3
      have hfz26_4 := bF_q BK190.out 4
      have hfz26_5 := bF_q BK190.out 5
      go_wp2_with (first | (go_at_call 46; (with_reducible refine (spec_l3Set.calls ((rd_T27 l0 x3_1).f4) true _ A22.out).mono ?_); rintro e w' ⟨rfl, ⟨nd, rfl⟩⟩; (try first | exact ⟨rfl, _, wD_q _ _ _⟩ | exact ⟨rfl, _, Eq.trans (wD_q _ _ _) (congrArg (World.drewN _) (nA_q _ _ _))⟩)) | (go_at_call 45; (with_reducible refine (spec_l6In.calls ((rd_T27 l0 x3_1).f5) 1 5 true _ A24.out).mono ?_); rintro e w' ⟨rfl, ⟨nd, rfl⟩⟩; (try first | exact ⟨rfl, _, wD_q _ _ _⟩ | exact ⟨rfl, _, Eq.trans (wD_q _ _ _) (congrArg (World.drewN _) (nA_q _ _ _))⟩)))
      repeat (go_quiet (first | (go_at_call 46; (with_reducible refine (spec_l3Set.calls ((rd_T27 l0 x3_1).f4) true _ A22.out).mono ?_); rintro e w' ⟨rfl, ⟨nd, rfl⟩⟩; (try first | exact ⟨rfl, _, wD_q _ _ _⟩ | exact ⟨rfl, _, Eq.trans (wD_q _ _ _) (congrArg (World.drewN _) (nA_q _ _ _))⟩)) | (go_at_call 45; (with_reducible refine (spec_l6In.calls ((rd_T27 l0 x3_1).f5) 1 5 true _ A24.out).mono ?_); rintro e w' ⟨rfl, ⟨nd, rfl⟩⟩; (try first | exact ⟨rfl, _, wD_q _ _ _⟩ | exact ⟨rfl, _, Eq.trans (wD_q _ _ _) (congrArg (World.drewN _) (nA_q _ _ _))⟩))); try go_wp2_with (first | (go_at_call 46; (with_reducible refine (spec_l3Set.calls ((rd_T27 l0 x3_1).f4) true _ A22.out).mono ?_); rintro e w' ⟨rfl, ⟨nd, rfl⟩⟩; (try first | exact ⟨rfl, _, wD_q _ _ _⟩ | exact ⟨rfl, _, Eq.trans (wD_q _ _ _) (congrArg (World.drewN _) (nA_q _ _ _))⟩)) | (go_at_call 45; (with_reducible refine (spec_l6In.calls ((rd_T27 l0 x3_1).f5) 1 5 true _ A24.out).mono ?_); rintro e w' ⟨rfl, ⟨nd, rfl⟩⟩; (try first | exact ⟨rfl, _, wD_q _ _ _⟩ | exact ⟨rfl, _, Eq.trans (wD_q _ _ _) (congrArg (World.drewN _) (nA_q _ _ _))⟩))))
      go_roundg kj3
      case measure => have := HK1.out; have := HJ3.out; omega
      case rel => exact ⟨(wrap64 (x3_1 + 1)), (by first | rfl | (simp; done) | (simp [*]; done)), H', ⟨by have := HK1.out; have := HJ3.out; omega⟩, ⟨by repeat (with_reducible first | exact HB.out | apply bA_q | apply pB_q | apply bD_q | refine bS_q ?_ GE190.out)⟩⟩
     rw [if_neg c20] at H
     have c20b0 : (((rd_T27 l0 x3_1).f0) == 1) = false := fN_q.mpr c20
     have c20b1 : (((rd_T27 l0 x3_1).f0) != 1) = true := nI_q.mpr c20
     by_cases c30 : ((rd_T27 l0 x3_1).f0) = 2
     rotate_left
     ·rw [if_neg c30] at H
      have c30b0 : (((rd_T27 l0 x3_1).f0) == 2) = false := fN_q.mpr c30
      have c30b1 : (((rd_T27 l0 x3_1).f0) != 2) = true := nI_q.mpr c30
      by_cases c39 : ((rd_T27 l0 x3_1).f0) = 3
      rotate_left
      ·rw [if_neg c39] at H
       have c39b0 : (((rd_T27 l0 x3_1).f0) == 3) = false := fN_q.mpr c39
       have c39b1 : (((rd_T27 l0 x3_1).f0) != 3) = true := nI_q.mpr c39
       obtain rfl := oI_q H
       have hcz47_0 : cI wc gb190 0 ((rd_T27 l0 x3_1).f0) := cZ BK190 0 rfl
       have hcz47_1 : cI wc gb190 1 ((rd_T27 l0 x3_1).f1) := cZ BK190 1 rfl
       have hcz47_2 : cI wc gb190 2 ((rd_T27 l0 x3_1).f2) := cZ BK190 2 rfl
       have hcz47_3 : cI wc gb190 3 ((rd_T27 l0 x3_1).f3) := cZ BK190 3 rfl
       have hcz47_4 : cI wc gb190 4 ((rd_T27 l0 x3_1).f4) := cZ BK190 4 rfl
       have hcz47_5 : cI wc gb190 5 ((rd_T27 l0 x3_1).f5) := cZ BK190 5 rfl
       have hfz47_0 := bF_q BK190.out 0
       have hfz47_1 := bF_q BK190.out 1
       have hfz47_2 := bF_q BK190.out 2
       have hfz47_3 := bF_q BK190.out 3
       have hfz47_4 := bF_q BK190.out 4
       have hfz47_5 := bF_q BK190.out 5
       go_wp2
       repeat (go_quiet (fail); try go_wp2)
       go_ret
       exact ⟨by first | rfl | (simp [eN_q, eS_q] <;> rfl) | (simp [*, eN_q, eS_q] <;> rfl), by repeat (with_reducible first | exact HB.out | apply bA_q | apply pB_q | apply bD_q | refine bS_q ?_ GE190.out)⟩
      rw [if_pos c39] at H
      have c39b0 : (((rd_T27 l0 x3_1).f0) == 3) = true := beq_iff_eq.mpr c39
      have c39b1 : (((rd_T27 l0 x3_1).f0) != 3) = false := nE_q.mpr c39
      clear c39
      by_cases c40 : ((rd_T27 l0 x3_1).f3) = 0
      rotate_left
      ·rw [if_neg c40] at H
       have c40b0 : (((rd_T27 l0 x3_1).f3) == 0) = false := fN_q.mpr c40
       have c40b1 : (((rd_T27 l0 x3_1).f3) != 0) = true := nI_q.mpr c40
       obtain rfl := oI_q H
       have hcz46_0 : cI wc gb190 0 ((rd_T27 l0 x3_1).f0) := cZ BK190 0 rfl
       have hcz46_1 : cI wc gb190 1 ((rd_T27 l0 x3_1).f1) := cZ BK190 1 rfl
       have hcz46_2 : cI wc gb190 2 ((rd_T27 l0 x3_1).f2) := cZ BK190 2 rfl
       have hcz46_3 : cI wc gb190 3 ((rd_T27 l0 x3_1).f3) := cZ BK190 3 rfl
       have hcz46_4 : cI wc gb190 4 ((rd_T27 l0 x3_1).f4) := cZ BK190 4 rfl
       have hcz46_5 : cI wc gb190 5 ((rd_T27 l0 x3_1).f5) := cZ BK190 5 rfl
       have hfz46_0 := bF_q BK190.out 0
       have hfz46_1 := bF_q BK190.out 1
       have hfz46_2 := bF_q BK190.out 2
       have hfz46_3 := bF_q BK190.out 3
       have hfz46_4 := bF_q BK190.out 4
       have hfz46_5 := bF_q BK190.out 5
       go_wp2
       repeat (go_quiet (fail); try go_wp2)
       go_ret
       exact ⟨by first | rfl | (simp [eN_q, eS_q] <;> rfl) | (simp [*, eN_q, eS_q] <;> rfl), by repeat (with_reducible first | exact HB.out | apply bA_q | apply pB_q | apply bD_q | refine bS_q ?_ GE190.out)⟩
      rw [if_pos c40] at H
      have c40b0 : (((rd_T27 l0 x3_1).f3) == 0) = true := beq_iff_eq.mpr c40
      have c40b1 : (((rd_T27 l0 x3_1).f3) != 0) = false := nE_q.mpr c40
      clear c40
      by_cases c41 : ((rd_T27 l0 x3_1).f4) = 0
      rotate_left
      ·rw [if_neg c41] at H
       have c41b0 : (((rd_T27 l0 x3_1).f4) == 0) = false := fN_q.mpr c41
       have c41b1 : (((rd_T27 l0 x3_1).f4) != 0) = true := nI_q.mpr c41
       obtain rfl := oI_q H
       have hcz45_0 : cI wc gb190 0 ((rd_T27 l0 x3_1).f0) := cZ BK190 0 rfl
       have hcz45_1 : cI wc gb190 1 ((rd_T27 l0 x3_1).f1) := cZ BK190 1 rfl
       have hcz45_2 : cI wc gb190 2 ((rd_T27 l0 x3_1).f2) := cZ BK190 2 rfl
       have hcz45_3 : cI wc gb190 3 ((rd_T27 l0 x3_1).f3) := cZ BK190 3 rfl
       have hcz45_4 : cI wc gb190 4 ((rd_T27 l0 x3_1).f4) := cZ BK190 4 rfl
       have hcz45_5 : cI wc gb190 5 ((rd_T27 l0 x3_1).f5) := cZ BK190 5 rfl
       have hfz45_0 := bF_q BK190.out 0
       have hfz45_1 := bF_q BK190.out 1
       have hfz45_2 := bF_q BK190.out 2
       have hfz45_3 := bF_q BK190.out 3
       have hfz45_4 := bF_q BK190.out 4
       have hfz45_5 := bF_q BK190.out 5
       go_wp2
       repeat (go_quiet (fail); try go_wp2)
       go_ret
       exact ⟨by first | rfl | (simp [eN_q, eS_q] <;> rfl) | (simp [*, eN_q, eS_q] <;> rfl), by repeat (with_reducible first | exact HB.out | apply bA_q | apply pB_q | apply bD_q | refine bS_q ?_ GE190.out)⟩
      rw [if_pos c41] at H
      have c41b0 : (((rd_T27 l0 x3_1).f4) == 0) = true := beq_iff_eq.mpr c41
      have c41b1 : (((rd_T27 l0 x3_1).f4) != 0) = false := nE_q.mpr c41
      clear c41
      by_cases c42 : ((rd_T27 l0 x3_1).f5) = 0
      rotate_left
      ·rw [if_neg c42] at H
       have c42b0 : (((rd_T27 l0 x3_1).f5) == 0) = false := fN_q.mpr c42
       have c42b1 : (((rd_T27 l0 x3_1).f5) != 0) = true := nI_q.mpr c42
       obtain rfl := oI_q H
       have hcz44_0 : cI wc gb190 0 ((rd_T27 l0 x3_1).f0) := cZ BK190 0 rfl
       have hcz44_1 : cI wc gb190 1 ((rd_T27 l0 x3_1).f1) := cZ BK190 1 rfl
       have hcz44_2 : cI wc gb190 2 ((rd_T27 l0 x3_1).f2) := cZ BK190 2 rfl
       have hcz44_3 : cI wc gb190 3 ((rd_T27 l0 x3_1).f3) := cZ BK190 3 rfl
       have hcz44_4 : cI wc gb190 4 ((rd_T27 l0 x3_1).f4) := cZ BK190 4 rfl
       have hcz44_5 : cI wc gb190 5 ((rd_T27 l0 x3_1).f5) := cZ BK190 5 rfl
       have hfz44_0 := bF_q BK190.out 0
       have hfz44_1 := bF_q BK190.out 1
       have hfz44_2 := bF_q BK190.out 2
       have hfz44_3 := bF_q BK190.out 3
       have hfz44_4 := bF_q BK190.out 4
       have hfz44_5 := bF_q BK190.out 5
       go_wp2
       repeat (go_quiet (fail); try go_wp2)
       go_ret
       exact ⟨by first | rfl | (simp [eN_q, eS_q] <;> rfl) | (simp [*, eN_q, eS_q] <;> rfl), by repeat (with_reducible first | exact HB.out | apply bA_q | apply pB_q | apply bD_q | refine bS_q ?_ GE190.out)⟩
      rw [if_pos c42] at H
      have c42b0 : (((rd_T27 l0 x3_1).f5) == 0) = true := beq_iff_eq.mpr c42
      have c42b1 : (((rd_T27 l0 x3_1).f5) != 0) = false := nE_q.mpr c42
      clear c42
      have H' := Ae_q H
      clear H
      have hcz43_0 : cI wc gb190 0 ((rd_T27 l0 x3_1).f0) := cZ BK190 0 rfl
      have hcz43_1 : cI wc gb190 1 ((rd_T27 l0 x3_1).f1) := cZ BK190 1 rfl
      have hcz43_2 : cI wc gb190 2 ((rd_T27 l0 x3_1).f2) := cZ BK190 2 rfl
      have hcz43_3 : cI wc gb190 3 ((rd_T27 l0 x3_1).f3) := cZ BK190 3 rfl
      have hcz43_4 : cI wc gb190 4 ((rd_T27 l0 x3_1).f4) := cZ BK190 4 rfl
      have hcz43_5 : cI wc gb190 5 ((rd_T27 l0 x3_1).f5) := cZ BK190 5 rfl
      have hfz43_0 := bF_q BK190.out 0
      have hfz43_1 := bF_q BK190.out 1
      have hfz43_2 := bF_q BK190.out 2
      have hfz43_3 := bF_q BK190.out 3
      have hfz43_4 := bF_q BK190.out 4
      have hfz43_5 := bF_q BK190.out 5
      go_wp2
      repeat (go_quiet (fail); try go_wp2)
      go_roundg kj3
      case measure => have := HK1.out; have := HJ3.out; omega
      case rel => exact ⟨(wrap64 (x3_1 + 1)), (by first | rfl | (simp; done) | (simp [*]; done)), H', ⟨by have := HK1.out; have := HJ3.out; omega⟩, ⟨by repeat (with_reducible first | exact HB.out | apply bA_q | apply pB_q | apply bD_q | refine bS_q ?_ GE190.out)⟩⟩
     rw [if_pos c30] at H
     have c30b0 : (((rd_T27 l0 x3_1).f0) == 2) = true := beq_iff_eq.mpr c30
     have c30b1 : (((rd_T27 l0 x3_1).f0) != 2) = false := nE_q.mpr c30
     clear c30
     replace H := oB_q.mp H
     obtain ⟨t196, A310, H⟩ := H
     replace H : (if t196 = true then (if ((rd_T27 l0 x3_1).f4) = 0 then (if ((rd_T27 l0 x3_1).f5) = 0 then (spec_EventsValid.l0 kj3 l0 (wrap64 (x3_1 + 1))) else (some false)) else (some false)) else (some false)) = some r := H
     have A31 := Ae_q A310
     clear A310
     by_cases c32 : t196 = true
     rotate_left
     ·replace c32 := fM_q.mpr c32
      subst c32
      have H1 : (some false) = some r := by rw [if_neg (show ¬ (false = true) by decide)] at H; exact H
      clear H
      have H := H1
      clear H1
      obtain rfl := oI_q H
      have hcz38_0 : cI wc gb190 0 ((rd_T27 l0 x3_1).f0) := cZ BK190 0 rfl
      have hcz38_1 : cI wc gb190 1 ((rd_T27 l0 x3_1).f1) := cZ BK190 1 rfl
      have hcz38_2 : cI wc gb190 2 ((rd_T27 l0 x3_1).f2) := cZ BK190 2 rfl
      have hcz38_3 : cI wc gb190 3 ((rd_T27 l0 x3_1).f3) := cZ BK190 3 rfl
      have hcz38_4 : cI wc gb190 4 ((rd_T27 l0 x3_1).f4) := cZ BK190 4 rfl
      have hcz38_5 : cI wc gb190 5 ((rd_T27 l0 x3_1).f5) := cZ BK190 5 rfl
      have hfz38_0 := bF_q BK190.out 0
      have hfz38_1 := bF_q BK190.out 1
      have hfz38_2 := bF_q BK190.out 2
      have hfz38_3 := bF_q BK190.out 3
      have hfz38_4 := bF_q BK190.out 4
      have hfz38_5 := bF_q BK190.out 5
      go_wp2_with (first | (go_at_call 45; (with_reducible refine (spec_l6In.calls ((rd_T27 l0 x3_1).f3) 1 99 false _ A31.out).mono ?_); rintro e w' ⟨rfl, ⟨nd, rfl⟩⟩; (try first | exact ⟨rfl, _, wD_q _ _ _⟩ | exact ⟨rfl, _, Eq.trans (wD_q _ _ _) (congrArg (World.drewN _) (nA_q _ _ _))⟩)))
      repeat (go_quiet (first | (go_at_call 45; (with_reducible refine (spec_l6In.calls ((rd_T27 l0 x3_1).f3) 1 99 false _ A31.out).mono ?_); rintro e w' ⟨rfl, ⟨nd, rfl⟩⟩; (try first | exact ⟨rfl, _, wD_q _ _ _⟩ | exact ⟨rfl, _, Eq.trans (wD_q _ _ _) (congrArg (World.drewN _) (nA_q _ _ _))⟩))); try go_wp2_with (first | (go_at_call 45; (with_reducible refine (spec_l6In.calls ((rd_T27 l0 x3_1).f3) 1 99 false _ A31.out).mono ?_); rintro e w' ⟨rfl, ⟨nd, rfl⟩⟩; (try first | exact ⟨rfl, _, wD_q _ _ _⟩ | exact ⟨rfl, _, Eq.trans (wD_q _ _ _) (congrArg (World.drewN _) (nA_q _ _ _))⟩))))
      go_ret
      exact ⟨by first | rfl | (simp [eN_q, eS_q] <;> rfl) | (simp [*, eN_q, eS_q] <;> rfl), by repeat (with_reducible first | exact HB.out | apply bA_q | apply pB_q | apply bD_q | refine bS_q ?_ GE190.out)⟩
     subst c32
     have H1 : (if ((rd_T27 l0 x3_1).f4) = 0 then (if ((rd_T27 l0 x3_1).f5) = 0 then (spec_EventsValid.l0 kj3 l0 (wrap64 (x3_1 + 1))) else (some false)) else (some false)) = some r := by rw [if_pos rfl] at H; exact H
     clear H
     have H := H1
     clear H1
     by_cases c33 : ((rd_T27 l0 x3_1).f4) = 0
     rotate_left
     ·rw [if_neg c33] at H
      have c33b0 : (((rd_T27 l0 x3_1).f4) == 0) = false := fN_q.mpr c33
      have c33b1 : (((rd_T27 l0 x3_1).f4) != 0) = true := nI_q.mpr c33
      obtain rfl := oI_q H
      have hcz37_0 : cI wc gb190 0 ((rd_T27 l0 x3_1).f0) := cZ BK190 0 rfl
      have hcz37_1 : cI wc gb190 1 ((rd_T27 l0 x3_1).f1) := cZ BK190 1 rfl
      have hcz37_2 : cI wc gb190 2 ((rd_T27 l0 x3_1).f2) := cZ BK190 2 rfl
      have hcz37_3 : cI wc gb190 3 ((rd_T27 l0 x3_1).f3) := cZ BK190 3 rfl
      have hcz37_4 : cI wc gb190 4 ((rd_T27 l0 x3_1).f4) := cZ BK190 4 rfl
      have hcz37_5 : cI wc gb190 5 ((rd_T27 l0 x3_1).f5) := cZ BK190 5 rfl
      have hfz37_0 := bF_q BK190.out 0
      have hfz37_1 := bF_q BK190.out 1
      have hfz37_2 := bF_q BK190.out 2
      have hfz37_3 := bF_q BK190.out 3
      have hfz37_4 := bF_q BK190.out 4
      have hfz37_5 := bF_q BK190.out 5
      go_wp2_with (first | (go_at_call 45; (with_reducible refine (spec_l6In.calls ((rd_T27 l0 x3_1).f3) 1 99 true _ A31.out).mono ?_); rintro e w' ⟨rfl, ⟨nd, rfl⟩⟩; (try first | exact ⟨rfl, _, wD_q _ _ _⟩ | exact ⟨rfl, _, Eq.trans (wD_q _ _ _) (congrArg (World.drewN _) (nA_q _ _ _))⟩)))
      repeat (go_quiet (first | (go_at_call 45; (with_reducible refine (spec_l6In.calls ((rd_T27 l0 x3_1).f3) 1 99 true _ A31.out).mono ?_); rintro e w' ⟨rfl, ⟨nd, rfl⟩⟩; (try first | exact ⟨rfl, _, wD_q _ _ _⟩ | exact ⟨rfl, _, Eq.trans (wD_q _ _ _) (congrArg (World.drewN _) (nA_q _ _ _))⟩))); try go_wp2_with (first | (go_at_call 45; (with_reducible refine (spec_l6In.calls ((rd_T27 l0 x3_1).f3) 1 99 true _ A31.out).mono ?_); rintro e w' ⟨rfl, ⟨nd, rfl⟩⟩; (try first | exact ⟨rfl, _, wD_q _ _ _⟩ | exact ⟨rfl, _, Eq.trans (wD_q _ _ _) (congrArg (World.drewN _) (nA_q _ _ _))⟩))))
      go_ret
      exact ⟨by first | rfl | (simp [eN_q, eS_q] <;> rfl) | (simp [*, eN_q, eS_q] <;> rfl), by repeat (with_reducible first | exact HB.out | apply bA_q | apply pB_q | apply bD_q | refine bS_q ?_ GE190.out)⟩
     rw [if_pos c33] at H
     have c33b0 : (((rd_T27 l0 x3_1).f4) == 0) = true := beq_iff_eq.mpr c33
     have c33b1 : (((rd_T27 l0 x3_1).f4) != 0) = false := nE_q.mpr c33
     clear c33
     by_cases c34 : ((rd_T27 l0 x3_1).f5) = 0
     rotate_left
     ·rw [if_neg c34] at H
      have c34b0 : (((rd_T27 l0 x3_1).f5) == 0) = false := fN_q.mpr c34
      have c34b1 : (((rd_T27 l0 x3_1).f5) != 0) = true := nI_q.mpr c34
      obtain rfl := oI_q H
      have hcz36_0 : cI wc gb190 0 ((rd_T27 l0 x3_1).f0) := cZ BK190 0 rfl
      have hcz36_1 : cI wc gb190 1 ((rd_T27 l0 x3_1).f1) := cZ BK190 1 rfl
      have hcz36_2 : cI wc gb190 2 ((rd_T27 l0 x3_1).f2) := cZ BK190 2 rfl
      have hcz36_3 : cI wc gb190 3 ((rd_T27 l0 x3_1).f3) := cZ BK190 3 rfl
      have hcz36_4 : cI wc gb190 4 ((rd_T27 l0 x3_1).f4) := cZ BK190 4 rfl
      have hcz36_5 : cI wc gb190 5 ((rd_T27 l0 x3_1).f5) := cZ BK190 5 rfl
      have hfz36_0 := bF_q BK190.out 0
      have hfz36_1 := bF_q BK190.out 1
      have hfz36_2 := bF_q BK190.out 2
      have hfz36_3 := bF_q BK190.out 3
      have hfz36_4 := bF_q BK190.out 4
      have hfz36_5 := bF_q BK190.out 5
      go_wp2_with (first | (go_at_call 45; (with_reducible refine (spec_l6In.calls ((rd_T27 l0 x3_1).f3) 1 99 true _ A31.out).mono ?_); rintro e w' ⟨rfl, ⟨nd, rfl⟩⟩; (try first | exact ⟨rfl, _, wD_q _ _ _⟩ | exact ⟨rfl, _, Eq.trans (wD_q _ _ _) (congrArg (World.drewN _) (nA_q _ _ _))⟩)))
      repeat (go_quiet (first | (go_at_call 45; (with_reducible refine (spec_l6In.calls ((rd_T27 l0 x3_1).f3) 1 99 true _ A31.out).mono ?_); rintro e w' ⟨rfl, ⟨nd, rfl⟩⟩; (try first | exact ⟨rfl, _, wD_q _ _ _⟩ | exact ⟨rfl, _, Eq.trans (wD_q _ _ _) (congrArg (World.drewN _) (nA_q _ _ _))⟩))); try go_wp2_with (first | (go_at_call 45; (with_reducible refine (spec_l6In.calls ((rd_T27 l0 x3_1).f3) 1 99 true _ A31.out).mono ?_); rintro e w' ⟨rfl, ⟨nd, rfl⟩⟩; (try first | exact ⟨rfl, _, wD_q _ _ _⟩ | exact ⟨rfl, _, Eq.trans (wD_q _ _ _) (congrArg (World.drewN _) (nA_q _ _ _))⟩))))
      go_ret
      exact ⟨by first | rfl | (simp [eN_q, eS_q] <;> rfl) | (simp [*, eN_q, eS_q] <;> rfl), by repeat (with_reducible first | exact HB.out | apply bA_q | apply pB_q | apply bD_q | refine bS_q ?_ GE190.out)⟩
     rw [if_pos c34] at H
     have c34b0 : (((rd_T27 l0 x3_1).f5) == 0) = true := beq_iff_eq.mpr c34
     have c34b1 : (((rd_T27 l0 x3_1).f5) != 0) = false := nE_q.mpr c34
     clear c34
     have H' := Ae_q H
     clear H
     have hcz35_0 : cI wc gb190 0 ((rd_T27 l0 x3_1).f0) := cZ BK190 0 rfl
     have hcz35_1 : cI wc gb190 1 ((rd_T27 l0 x3_1).f1) := cZ BK190 1 rfl
     have hcz35_2 : cI wc gb190 2 ((rd_T27 l0 x3_1).f2) := cZ BK190 2 rfl
     have hcz35_3 : cI wc gb190 3 ((rd_T27 l0 x3_1).f3) := cZ BK190 3 rfl
     have hcz35_4 : cI wc gb190 4 ((rd_T27 l0 x3_1).f4) := cZ BK190 4 rfl
     have hcz35_5 : cI wc gb190 5 ((rd_T27 l0 x3_1).f5) := cZ BK190 5 rfl
     have hfz35_0 := bF_q BK190.out 0
     have hfz35_1 := bF_q BK190.out 1
     have hfz35_2 := bF_q BK190.out 2
     have hfz35_3 := bF_q BK190.out 3
     have hfz35_4 := bF_q BK190.out 4
     have hfz35_5 := bF_q BK190.out 5
     go_wp2_with (first | (go_at_call 45; (with_reducible refine (spec_l6In.calls ((rd_T27 l0 x3_1).f3) 1 99 true _ A31.out).mono ?_); rintro e w' ⟨rfl, ⟨nd, rfl⟩⟩; (try first | exact ⟨rfl, _, wD_q _ _ _⟩ | exact ⟨rfl, _, Eq.trans (wD_q _ _ _) (congrArg (World.drewN _) (nA_q _ _ _))⟩)))
     repeat (go_quiet (first | (go_at_call 45; (with_reducible refine (spec_l6In.calls ((rd_T27 l0 x3_1).f3) 1 99 true _ A31.out).mono ?_); rintro e w' ⟨rfl, ⟨nd, rfl⟩⟩; (try first | exact ⟨rfl, _, wD_q _ _ _⟩ | exact ⟨rfl, _, Eq.trans (wD_q _ _ _) (congrArg (World.drewN _) (nA_q _ _ _))⟩))); try go_wp2_with (first | (go_at_call 45; (with_reducible refine (spec_l6In.calls ((rd_T27 l0 x3_1).f3) 1 99 true _ A31.out).mono ?_); rintro e w' ⟨rfl, ⟨nd, rfl⟩⟩; (try first | exact ⟨rfl, _, wD_q _ _ _⟩ | exact ⟨rfl, _, Eq.trans (wD_q _ _ _) (congrArg (World.drewN _) (nA_q _ _ _))⟩))))
     go_roundg kj3
     case measure => have := HK1.out; have := HJ3.out; omega
     case rel => exact ⟨(wrap64 (x3_1 + 1)), (by first | rfl | (simp; done) | (simp [*]; done)), H', ⟨by have := HK1.out; have := HJ3.out; omega⟩, ⟨by repeat (with_reducible first | exact HB.out | apply bA_q | apply pB_q | apply bD_q | refine bS_q ?_ GE190.out)⟩⟩

end Go.Proofs.Ytnhenfmegpjigaa.PEv
