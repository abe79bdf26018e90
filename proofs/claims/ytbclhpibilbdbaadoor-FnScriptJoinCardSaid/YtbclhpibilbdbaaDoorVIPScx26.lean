import Derived.Test.YtbclhpibilbdbaaDoorVIPScx0
import Derived.Test.YtbclhpibilbdbaaDoorVIPScx17
namespace Go.Proofs.YtbclhpibilbdbaaDoor.PSc
open Go.RowKit Go.Proofs.YtbclhpibilbdbaaDoorW.PrintWords Go.Proofs.YtbclhpibilbdbaaDoorW.PrintLast Go.Proofs.YtbclhpibilbdbaaDoorW.PrintMore
attribute [local go_sem] max2_int min2_int max_two min_two max_three min_three max_four min_four
set_option linter.unusedVariables false
set_option linter.unusedSimpArgs false

def IsS39 (w0 W : World) (g : Nat) (f0 : List Int) (f1 : Int) : Prop := ∃ A0 c0, W.heap[g]? = some (.cells #[.slice A0 f0.length c0, .int .i64 f1] 39 (0, 0)) ∧ w0.heap.size ≤ g ∧ Kd.C (Kd.int .u8) w0 A0 f0.length f0
theorem IsS39.grown {w0 W : World} {g : Nat} {f0 : List Int} {f1 : Int} {W1 : World} {row : Option Nat} (h : IsS39 w0 W g f0 f1) (hw : W.grownBy W1 row) (hne : some g ≠ row) : IsS39 w0 W1 g f0 f1 := by
 obtain ⟨A0, c0, hb, hg, hr0⟩ := h
 exact ⟨A0, c0, bG_q hb hw hne, hg, hr0⟩
theorem IsS39.fresh {w0 W : World} {g : Nat} {f0 : List Int} {f1 : Int} (h : IsS39 w0 W g f0 f1) : ∀ k, W.heap.size ≤ k → k ≠ g := by
 obtain ⟨A0, c0, hb, hg, hr0⟩ := h
 exact Kd.freshB hb
theorem IsS39.kept {w0 W : World} {g : Nat} {f0 : List Int} {f1 : Int} {W1 : World} {S : Nat → Prop} (h : IsS39 w0 W g f0 f1) (hk : Kept W W1 S) (hne : ¬ S g) : IsS39 w0 W1 g f0 f1 := by
 obtain ⟨A0, c0, hb, hg, hr0⟩ := h
 exact ⟨A0, c0, blk_kept hb hk hne, hg, hr0⟩
theorem IsS39.below {w0 W : World} {g : Nat} {f0 : List Int} {f1 : Int} {W1 : World} (h : IsS39 w0 W g f0 f1) (hw : Below W.heap.size W W1) : IsS39 w0 W1 g f0 f1 := h.grown (grown_of_below hw none) (by simp)
theorem IsS39.alloc {w0 W : World} {g : Nat} {f0 : List Int} {f1 : Int} (h : IsS39 w0 W g f0 f1) (o : Obj) : IsS39 w0 (W.alloc o) g f0 f1 := h.below (bA_q (bR_q _ _) o)
theorem IsS39.drewN {w0 W : World} {g : Nat} {f0 : List Int} {f1 : Int} (h : IsS39 w0 W g f0 f1) (m : Nat) : IsS39 w0 (W.drewN m) g f0 f1 := h
theorem IsS39.drew {w0 W : World} {g : Nat} {f0 : List Int} {f1 : Int} (h : IsS39 w0 W g f0 f1) : IsS39 w0 W.drew g f0 f1 := h
theorem IsS39.at_ {w0 W : World} {g : Nat} {f0 : List Int} {f1 : Int} {w' : World} {m : Nat} (hq : W.drewN m = w') (h : IsS39 w0 W g f0 f1) : IsS39 w0 w' g f0 f1 := by subst hq; exact IsS39.drewN h m
theorem IsS39.apart {w0 W : World} {g : Nat} {f0 : List Int} {f1 : Int} {α : Type} {d : Kd α} {e : Nat} {base : Nat} {ok : Nat → Prop} {v : Value} {xs : List α} (h : IsS39 w0 W g f0 f1) (ho : d.R e W base ok v xs) (ht : ∀ q, q ∈ e :: d.E → q ≠ 39) : d.R e W base (fun k => ok k ∧ k ≠ g) v xs := by
 obtain ⟨A0, c0, hb, hg, hr0⟩ := h
 exact Kd.R_types ho hb ht
theorem IsS39.own_ne {w0 W : World} {g : Nat} {f0 : List Int} {f1 : Int} {α : Type} {d : Kd α} {e : Nat} {base : Nat} {ok : Nat → Prop} {v : Value} {xs : List α} (h : IsS39 w0 W g f0 f1) (ho : d.R e W base ok v xs) (ht : e ≠ 39) : some g ≠ v.ownBlock := by
 obtain ⟨A0, c0, hb, hg, hr0⟩ := h
 exact Kd.R_ne ho hb ht
theorem IsS39.ge {w0 W : World} {g : Nat} {f0 : List Int} {f1 : Int} (h : IsS39 w0 W g f0 f1) : w0.heap.size ≤ g := by
 obtain ⟨A0, c0, hb, hg, hr0⟩ := h
 exact hg
theorem cellS39_0 {W : World} {g : Nat} {A0 : Option Addr} {c0 : Nat} {f0 : List Int} {f1 : Int} (h : W.heap[g]? = some (.cells #[.slice A0 f0.length c0, .int .i64 f1] 39 (0, 0))) : W.cell? ⟨g, 0, none⟩ = some (.slice A0 f0.length c0) := (bC_q h 0).trans rfl
theorem cellS39_1 {W : World} {g : Nat} {A0 : Option Addr} {c0 : Nat} {f0 : List Int} {f1 : Int} (h : W.heap[g]? = some (.cells #[.slice A0 f0.length c0, .int .i64 f1] 39 (0, 0))) : W.cell? ⟨g, 1, none⟩ = some (.int .i64 f1) := (bC_q h 1).trans rfl
theorem IsS39.set_1 {w0 W : World} {g : Nat} {f0 : List Int} {f1 : Int} (h : IsS39 w0 W g f0 f1) (x : Int) : IsS39 w0 (W.setCell ⟨g, 1, none⟩ (.int .i64 x)) g f0 x := by
 obtain ⟨A0, c0, hb, hg, hr0⟩ := h
 exact ⟨A0, c0, by simpa using blk_set hb 1 (.int .i64 x), hg, hr0⟩
def spec_l6Open.f (l0 : List Int) : Option (List Int × Int) := if (l0.length : Int) > 2000 then (if 2000 ≤ (l0.length : Int) then (some (l0.take 2000, 0)) else (none)) else (some (l0, 0))
set_option maxHeartbeats 8000000 in
set_option maxRecDepth 100000 in
theorem spec_l6Open.calls (A0 : Option Addr) (c0 : Nat) (l0 : List Int) (r1 : List Int) (r2 : Int) (w0 w : World) (hB : Below w0.heap.size w0 w) (hr0 : Kd.C (Kd.int .u8) w0 A0 l0.length l0) (hc0 : l0.length ≤ c0) (h : spec_l6Open.f l0 = some (r1, r2)) :
    Calls Tryd.prog 17 #[.slice A0 l0.length c0] w fun e w' => ∃ g_ : Nat, e = .returned (.pointer (some ⟨g_, 0, none⟩)) ∧ IsS39 w0 w' g_ r1 r2 ∧ Below w0.heap.size w0 w' ∧ Below w.heap.size w w' := by
 have hu39 := Tryd.underlying39
 have HR0 := Ae_q hr0
 have HC0 := Ae_q hc0
 clear hr0 hc0
 have HBW := Ae_q (bR_q w.heap.size w)
 have HW0 := Ae_q hB.size
 have HB := Ae_q hB
 clear hB
 have H : (if (l0.length : Int) > 2000 then (if 2000 ≤ (l0.length : Int) then (some (l0.take 2000, 0)) else (none)) else (some (l0, 0))) = some (r1, r2) := h
 clear h
 by_cases c2 : (l0.length : Int) > 2000
 rotate_left
 ·rw [if_neg c2] at H
  have c2b0 : decide (2000 < (l0.length : Int)) = false := dF_q c2
  have c2b1 : decide (2000 < l0.length) = false := dF_q (by omega)
  clear c2
  simp only [oE_q, pE_q] at H
  obtain ⟨rfl, rfl⟩ := H
  go_enter Tryd.func17, Tryd.ntmps17
  go_wp2_with (first | ((with_reducible refine gD_q (N := 10) rfl ?_); refine bE_q ?hg (N := 10) ?hd (cs := #[.slice A0 l0.length c0, .int .i64 0]) (t := 39) ?hr ?_; (case hd => rfl); (case hg => rfl); (case hr => exact m13_q); intro gb473 hg w' hbox hb; replace HB := Ae_q (bT_q (bel HB.out) hb); have BK473 := Ae_q (hbox); have GW473 := Ae_q ((by rw [hg]; exact (bZ_q m54_q) : w.heap.size ≤ gb473)); have GE473 := Ae_q ((nT_q HW0.out (by rw [hg]; exact (bZ_q m54_q) : w.heap.size ≤ gb473) : w0.heap.size ≤ gb473)); replace HBW := Ae_q (bT_q HBW.out hb); clear hb hbox hg))
  go_ret
  exact ⟨_, rfl, (show IsS39 w0 _ gb473 l0 0 from ⟨_, _, bup BK473.out, GE473.out, HR0.out⟩), by repeat (with_reducible first | exact HB.out | apply bA_q | apply pB_q | apply bD_q | refine bS_q ?_ GE473.out), by repeat (with_reducible first | exact HBW.out | apply bA_q | apply pB_q | apply bD_q | refine bS_q ?_ GW473.out)⟩
 rw [if_pos c2] at H
 have c2b0 : decide (2000 < (l0.length : Int)) = true := dT_q c2
 have c2b1 : decide (2000 < l0.length) = true := dT_q (by omega)
 clear c2
 by_cases c3 : 2000 ≤ (l0.length : Int)
 rotate_left
 ·rw [if_neg c3] at H
  exact absurd H (by simp)
 rw [if_pos c3] at H
 have c3b0 := eq_true c3
 have c3b1 : decide (2000 ≤ (l0.length : Int)) = true := dT_q c3
 clear c3
 simp only [oE_q, pE_q] at H
 obtain ⟨rfl, rfl⟩ := H
 obtain ⟨i04, hi04, _, hsz4, _⟩ := info_parts info5
 obtain ⟨hcut4, hA4, hC4⟩ := print_take_of (P := Tryd.prog) (Value.int .u8) 0 22 5 .i64 Tryd.underlying22 hi04 hsz4 A0 c0 l0 2000 (by omega) (oD_q (by assumption)) HC0.out
 have HR471 := Ae_q (Kd.C_of_reads (h1 := fun _ => rfl) (hA4 _ (Kd.reads_of_C HR0.out)))
 have HC471 := Ae_q hC4
 clear hA4 hC4 hi04 hsz4
 go_enter Tryd.func17, Tryd.ntmps17
 go_wp2_with (first | ((with_reducible refine gD_q (N := 10) rfl ?_); refine bE_q ?hg (N := 10) ?hd (cs := #[.slice A0 (l0.take 2000).length c0, .int .i64 0]) (t := 39) ?hr ?_; (case hd => rfl); (case hg => rfl); (case hr => exact m13_q); intro gb472 hg w' hbox hb; replace HB := Ae_q (bT_q (bel HB.out) hb); have BK472 := Ae_q (hbox); have GW472 := Ae_q ((by rw [hg]; exact (bZ_q m54_q) : w.heap.size ≤ gb472)); have GE472 := Ae_q ((nT_q HW0.out (by rw [hg]; exact (bZ_q m54_q) : w.heap.size ≤ gb472) : w0.heap.size ≤ gb472)); replace HBW := Ae_q (bT_q HBW.out hb); clear hb hbox hg))
 go_ret
 exact ⟨_, rfl, (show IsS39 w0 _ gb472 (l0.take 2000) 0 from ⟨_, _, bup BK472.out, GE472.out, HR471.out⟩), by repeat (with_reducible first | exact HB.out | apply bA_q | apply pB_q | apply bD_q | refine bS_q ?_ GE472.out), by repeat (with_reducible first | exact HBW.out | apply bA_q | apply pB_q | apply bD_q | refine bS_q ?_ GW472.out)⟩

def spec_l6Rd_pick.j0 : Nat → Int → Bool → List Int → Int → Option (Int × Int)
 | 0, _, _, _, _ => none
 | k + 1, x1, x24, x1000, x1001 => if x24 = true then (some (0, x1001)) else (if (wrap64 (x1001 - 1)) < (x1000.length : Int) then (if 0 ≤ (wrap64 (x1001 - 1)) then (if x1 = 0 then (none) else (some (Int.tmod (wrap64 (rd x1000 (wrap64 (x1001 - 1)))) x1, x1001))) else (none)) else (if (x1000.length : Int) = 0 then (none) else (if 0 ≤ (Int.tmod (wrap64 (x1001 - 1)) (x1000.length : Int)) then (if (Int.tmod (wrap64 (x1001 - 1)) (x1000.length : Int)) < (x1000.length : Int) then (if 0 ≤ (Int.tmod (wrap64 ((wrap64 ((wrap64 (x1001 - 1)) * 7)) + 3)) (x1000.length : Int)) then (if (Int.tmod (wrap64 ((wrap64 ((wrap64 (x1001 - 1)) * 7)) + 3)) (x1000.length : Int)) < (x1000.length : Int) then (if x1 = 0 then (none) else (some (Int.tmod (Go.bits .xor .i64 (wrap64 ((wrap64 ((wrap64 ((wrap64 ((wrap64 (rd x1000 (Int.tmod (wrap64 (x1001 - 1)) (x1000.length : Int)))) * 131)) + (wrap64 ((wrap64 (rd x1000 (Int.tmod (wrap64 ((wrap64 ((wrap64 (x1001 - 1)) * 7)) + 3)) (x1000.length : Int)))) * 1117)))) + (wrap64 ((wrap64 (x1001 - 1)) * 29)))) + (wrap64 ((wrap64 (Int.tdiv (wrap64 (x1001 - 1)) (x1000.length : Int))) * 53)))) (wrap64 (Int.tdiv (wrap64 ((wrap64 ((wrap64 ((wrap64 ((wrap64 (rd x1000 (Int.tmod (wrap64 (x1001 - 1)) (x1000.length : Int)))) * 131)) + (wrap64 ((wrap64 (rd x1000 (Int.tmod (wrap64 ((wrap64 ((wrap64 (x1001 - 1)) * 7)) + 3)) (x1000.length : Int)))) * 1117)))) + (wrap64 ((wrap64 (x1001 - 1)) * 29)))) + (wrap64 ((wrap64 (Int.tdiv (wrap64 (x1001 - 1)) (x1000.length : Int))) * 53)))) 64))) x1, x1001))) else (none)) else (none)) else (none)) else (none))))
def spec_l6Rd_pick.f (k : Nat) (s0_0 : List Int) (s0_1 : Int) (a1 : Int) : Option (Int × Int) := if a1 < 1 then (spec_l6Rd_pick.j0 k a1 true s0_0 (wrap64 (s0_1 + 1))) else (spec_l6Rd_pick.j0 k a1 ((s0_0.length : Int) == 0) s0_0 (wrap64 (s0_1 + 1)))
set_option maxHeartbeats 8000000 in
set_option maxRecDepth 100000 in
theorem spec_l6Rd_pick.calls (k : Nat) (g : Nat) (s0_0 : List Int) (s0_1 : Int) (a1 : Int) (r1 : Int) (r2 : Int) (w0 w : World) (hI : IsS39 w0 w g s0_0 s0_1) (hB : Below w0.heap.size w0 w) (h : spec_l6Rd_pick.f k s0_0 s0_1 a1 = some (r1, r2)) :
    Calls Tryd.prog 18 #[.pointer (some ⟨g, 0, none⟩), .int .i64 a1] w fun e w' => e = .returned (.int .i64 r1) ∧ IsS39 w0 w' g s0_0 r2 ∧ Below w0.heap.size w0 w' ∧ KeepBut w w' g none := by
 have HI0 := Ae_q hI
 have HK := Ae_q (KeepBut.refl w g none)
 have HL := Ae_q hB.size
 clear hI
 have HW0 := Ae_q hB.size
 have HB := Ae_q hB
 clear hB
 have H : (if a1 < 1 then (spec_l6Rd_pick.j0 k a1 true s0_0 (wrap64 (s0_1 + 1))) else (spec_l6Rd_pick.j0 k a1 ((s0_0.length : Int) == 0) s0_0 (wrap64 (s0_1 + 1)))) = some (r1, r2) := h
 clear h
 have HC3 := Ae_q H
 clear H
 obtain ⟨ASz4_0, cSz4_0, HGz4, hgz4, HSz4_0⟩ := HI0.out
 have hcz4_0 := cellS39_0 HGz4
 have hcz4_1 := cellS39_1 HGz4
 have hfz4_1 := bF_q HGz4 1
 clear HGz4 hgz4
 go_enter Tryd.func18, Tryd.ntmps18
 go_upto_region 2 with (fail)
 repeat (go_quiet (fail); go_upto_region 2 with (fail))
 go_cut [24] (fun v24 wc => ∃ (kq : Nat) (x24_2 : Bool), v24 = .bool x24_2 ∧ Aside0 (spec_l6Rd_pick.j0 kq a1 x24_2 s0_0 (wrap64 (s0_1 + 1)) = some (r1, r2)) ∧ Aside0 (kq ≤ k) ∧ Aside0 (IsS39 w0 wc g s0_0 (wrap64 (s0_1 + 1))) ∧ Aside0 (KeepBut w wc g none) ∧ Aside0 (Below w0.heap.size w0 wc))
 case first =>
  have H := HC3.out
  clear HC3
  by_cases c5 : a1 < 1
  ·rw [if_pos c5] at H
   have c5b0 : decide (a1 < 1) = true := dT_q c5
   clear c5
   (first | rw [c5b0] | (simp only [i64_w, i32_w]; rw [c5b0]) | skip)
   have H' := Ae_q H
   clear H
   go_wp2
   repeat (go_quiet (fail); try go_wp2)
   go_meet
   case rel => exact ⟨_, (true), m1_q, H', ⟨m48_q⟩, ⟨m5_q⟩, ⟨m9_q⟩, ⟨m6_q⟩⟩
  rw [if_neg c5] at H
  have c5b0 : decide (a1 < 1) = false := dF_q c5
  clear c5
  (first | rw [c5b0] | (simp only [i64_w, i32_w]; rw [c5b0]) | skip)
  have H' := Ae_q H
  clear H
  obtain ⟨ASz6_0, cSz6_0, HGz6, hgz6, HSz6_0⟩ := HI0.out
  have hcz6_0 := cellS39_0 HGz6
  have hcz6_1 := cellS39_1 HGz6
  have hfz6_1 := bF_q HGz6 1
  clear HGz6 hgz6
  go_wp2
  repeat (go_quiet (fail); try go_wp2)
  go_meet
  case rel => exact ⟨_, (((s0_0.length : Int) == 0)), m1_q, H', ⟨m48_q⟩, ⟨m5_q⟩, ⟨m9_q⟩, ⟨m6_q⟩⟩
 case rest =>
  clear HC3
  try clear c1
  try clear p2
  try clear c5
  try clear c5b0
  try clear p6
  try clear hcz4_0
  try clear hcz4_1
  try clear hcz6_0
  try clear hcz6_1
  try clear hfz4_1
  try clear hfz6_1
  obtain ⟨kq, x24_2, rfl, HA, HJ2, HI0, HK, HB⟩ := hcut
  cases kq with
  | zero => exact absurd HA.out (by simp [spec_l6Rd_pick.j0])
  | succ kj2 =>
   have H := HA.out
   clear HA
   simp only [spec_l6Rd_pick.j0] at H
   by_cases c7 : x24_2 = true
   ·subst c7
    have H1 : (some (0, (wrap64 (s0_1 + 1)))) = some (r1, r2) := by rw [if_pos rfl] at H; exact H
    clear H
    have H := H1
    clear H1
    simp only [oE_q, pE_q] at H
    obtain ⟨rfl, rfl⟩ := H
    go_wp2
    repeat (go_quiet (fail); try go_wp2)
    go_ret
    exact ⟨m3_q, m5_q, m6_q, m9_q⟩
   replace c7 := fM_q.mpr c7
   subst c7
   have H1 : (if (wrap64 ((wrap64 (s0_1 + 1)) - 1)) < (s0_0.length : Int) then (if 0 ≤ (wrap64 ((wrap64 (s0_1 + 1)) - 1)) then (if a1 = 0 then (none) else (some (Int.tmod (wrap64 (rd s0_0 (wrap64 ((wrap64 (s0_1 + 1)) - 1)))) a1, (wrap64 (s0_1 + 1))))) else (none)) else (if (s0_0.length : Int) = 0 then (none) else (if 0 ≤ (Int.tmod (wrap64 ((wrap64 (s0_1 + 1)) - 1)) (s0_0.length : Int)) then (if (Int.tmod (wrap64 ((wrap64 (s0_1 + 1)) - 1)) (s0_0.length : Int)) < (s0_0.length : Int) then (if 0 ≤ (Int.tmod (wrap64 ((wrap64 ((wrap64 ((wrap64 (s0_1 + 1)) - 1)) * 7)) + 3)) (s0_0.length : Int)) then (if (Int.tmod (wrap64 ((wrap64 ((wrap64 ((wrap64 (s0_1 + 1)) - 1)) * 7)) + 3)) (s0_0.length : Int)) < (s0_0.length : Int) then (if a1 = 0 then (none) else (some (Int.tmod (Go.bits .xor .i64 (wrap64 ((wrap64 ((wrap64 ((wrap64 ((wrap64 (rd s0_0 (Int.tmod (wrap64 ((wrap64 (s0_1 + 1)) - 1)) (s0_0.length : Int)))) * 131)) + (wrap64 ((wrap64 (rd s0_0 (Int.tmod (wrap64 ((wrap64 ((wrap64 ((wrap64 (s0_1 + 1)) - 1)) * 7)) + 3)) (s0_0.length : Int)))) * 1117)))) + (wrap64 ((wrap64 ((wrap64 (s0_1 + 1)) - 1)) * 29)))) + (wrap64 ((wrap64 (Int.tdiv (wrap64 ((wrap64 (s0_1 + 1)) - 1)) (s0_0.length : Int))) * 53)))) (wrap64 (Int.tdiv (wrap64 ((wrap64 ((wrap64 ((wrap64 ((wrap64 (rd s0_0 (Int.tmod (wrap64 ((wrap64 (s0_1 + 1)) - 1)) (s0_0.length : Int)))) * 131)) + (wrap64 ((wrap64 (rd s0_0 (Int.tmod (wrap64 ((wrap64 ((wrap64 ((wrap64 (s0_1 + 1)) - 1)) * 7)) + 3)) (s0_0.length : Int)))) * 1117)))) + (wrap64 ((wrap64 ((wrap64 (s0_1 + 1)) - 1)) * 29)))) + (wrap64 ((wrap64 (Int.tdiv (wrap64 ((wrap64 (s0_1 + 1)) - 1)) (s0_0.length : Int))) * 53)))) 64))) a1, (wrap64 (s0_1 + 1))))) else (none)) else (none)) else (none)) else (none)))) = some (r1, r2) := by rw [if_neg (show ¬ (false = true) by decide)] at H; exact H
   clear H
   have H := H1
   clear H1
   by_cases c8 : (wrap64 ((wrap64 (s0_1 + 1)) - 1)) < (s0_0.length : Int)
   ·rw [if_pos c8] at H
    have c8b0 : decide ((wrap64 ((wrap64 (s0_1 + 1)) - 1)) < (s0_0.length : Int)) = true := dT_q c8
    clear c8
    obtain ⟨ji9, hji9⟩ : ∃ j_ : Int, (wrap64 ((wrap64 (s0_1 + 1)) - 1)) = j_ := ⟨_, rfl⟩
    replace H : (if 0 ≤ (ji9) then (if a1 = 0 then (none) else (some (Int.tmod (wrap64 (rd s0_0 (ji9))) a1, (wrap64 (s0_1 + 1))))) else (none)) = some (r1, r2) := by first | (rw [hji9] at H; exact H) | (simp only [hji9] at H ⊢; exact H)
    (try rw [hji9] at c8b0)
    have hji9w : (IntKind.i64.wrap ((wrap64 (s0_1 + 1)) - 1)) = ji9 := (i64_w _).trans hji9
    by_cases c10 : 0 ≤ (ji9)
    rotate_left
    ·rw [if_neg c10] at H
     exact absurd H (by simp)
    rw [if_pos c10] at H
    have c10b0 : decide (0 ≤ (ji9)) = true := dT_q c10
    clear c10
    by_cases c11 : a1 = 0
    ·rw [if_pos c11] at H
     exact absurd H (by simp)
    rw [if_neg c11] at H
    have c11b0 : (a1 == 0) = false := fN_q.mpr c11
    have c11b1 : (a1 != 0) = true := nI_q.mpr c11
    simp only [oE_q, pE_q] at H
    obtain ⟨rfl, rfl⟩ := H
    obtain ⟨ASz12_0, cSz12_0, HGz12, hgz12, HSz12_0⟩ := HI0.out
    have hcz12_0 := cellS39_0 HGz12
    have hcz12_1 := cellS39_1 HGz12
    have hfz12_1 := bF_q HGz12 1
    clear HGz12 hgz12
    have p474 : 0 ≤ ((ji9) : Int) := oD_q (by assumption)
    have q474 : (ji9) < (s0_0.length : Int) := oD_q (by assumption)
    obtain ⟨ad474, e474, hx474_0⟩ := aI_q HSz12_0 (ji9) p474 q474
    cases e474
    replace hx474_0 := pw_cell_below HB.out hx474_0
    replace p474 := eq_true p474
    replace q474 := eq_true q474
    go_wp2
    repeat (go_quiet (fail); try go_wp2)
    go_ret
    exact ⟨by first | rfl | (simp [eN_q, eS_q] <;> rfl) | (simp only [← hji9]; first | rfl | (simp [eN_q, eS_q] <;> rfl)) | (simp [*, eN_q, eS_q] <;> rfl), m5_q, m6_q, m9_q⟩
   rw [if_neg c8] at H
   have c8b0 : decide ((wrap64 ((wrap64 (s0_1 + 1)) - 1)) < (s0_0.length : Int)) = false := dF_q c8
   clear c8
   by_cases c13 : (s0_0.length : Int) = 0
   ·rw [if_pos c13] at H
    exact absurd H (by simp)
   rw [if_neg c13] at H
   have c13b0 : ((s0_0.length : Int) == 0) = false := fN_q.mpr c13
   have c13b1 : ((s0_0.length : Int) != 0) = true := nI_q.mpr c13
   have c13b2 : ¬ (s0_0 = []) := fun h_ => c13 (by rw [h_]; rfl)
   obtain ⟨ji14, hji14⟩ : ∃ j_ : Int, (Int.tmod (wrap64 ((wrap64 (s0_1 + 1)) - 1)) (s0_0.length : Int)) = j_ := ⟨_, rfl⟩
   replace H : (if 0 ≤ (ji14) then (if (ji14) < (s0_0.length : Int) then (if 0 ≤ (Int.tmod (wrap64 ((wrap64 ((wrap64 ((wrap64 (s0_1 + 1)) - 1)) * 7)) + 3)) (s0_0.length : Int)) then (if (Int.tmod (wrap64 ((wrap64 ((wrap64 ((wrap64 (s0_1 + 1)) - 1)) * 7)) + 3)) (s0_0.length : Int)) < (s0_0.length : Int) then (if a1 = 0 then (none) else (some (Int.tmod (Go.bits .xor .i64 (wrap64 ((wrap64 ((wrap64 ((wrap64 ((wrap64 (rd s0_0 (ji14))) * 131)) + (wrap64 ((wrap64 (rd s0_0 (Int.tmod (wrap64 ((wrap64 ((wrap64 ((wrap64 (s0_1 + 1)) - 1)) * 7)) + 3)) (s0_0.length : Int)))) * 1117)))) + (wrap64 ((wrap64 ((wrap64 (s0_1 + 1)) - 1)) * 29)))) + (wrap64 ((wrap64 (Int.tdiv (wrap64 ((wrap64 (s0_1 + 1)) - 1)) (s0_0.length : Int))) * 53)))) (wrap64 (Int.tdiv (wrap64 ((wrap64 ((wrap64 ((wrap64 ((wrap64 (rd s0_0 (ji14))) * 131)) + (wrap64 ((wrap64 (rd s0_0 (Int.tmod (wrap64 ((wrap64 ((wrap64 ((wrap64 (s0_1 + 1)) - 1)) * 7)) + 3)) (s0_0.length : Int)))) * 1117)))) + (wrap64 ((wrap64 ((wrap64 (s0_1 + 1)) - 1)) * 29)))) + (wrap64 ((wrap64 (Int.tdiv (wrap64 ((wrap64 (s0_1 + 1)) - 1)) (s0_0.length : Int))) * 53)))) 64))) a1, (wrap64 (s0_1 + 1))))) else (none)) else (none)) else (none)) else (none)) = some (r1, r2) := by first | (rw [hji14] at H; exact H) | (simp only [hji14] at H ⊢; exact H)
   by_cases c15 : 0 ≤ (ji14)
   rotate_left
   ·rw [if_neg c15] at H
    exact absurd H (by simp)
   rw [if_pos c15] at H
   have c15b0 : decide (0 ≤ (ji14)) = true := dT_q c15
   clear c15
   by_cases c16 : (ji14) < (s0_0.length : Int)
   rotate_left
   ·rw [if_neg c16] at H
    exact absurd H (by simp)
   rw [if_pos c16] at H
   have c16b0 : decide ((ji14) < (s0_0.length : Int)) = true := dT_q c16
   clear c16
   obtain ⟨ji17, hji17⟩ : ∃ j_ : Int, (Int.tmod (wrap64 ((wrap64 ((wrap64 ((wrap64 (s0_1 + 1)) - 1)) * 7)) + 3)) (s0_0.length : Int)) = j_ := ⟨_, rfl⟩
   replace H : (if 0 ≤ (ji17) then (if (ji17) < (s0_0.length : Int) then (if a1 = 0 then (none) else (some (Int.tmod (Go.bits .xor .i64 (wrap64 ((wrap64 ((wrap64 ((wrap64 ((wrap64 (rd s0_0 (ji14))) * 131)) + (wrap64 ((wrap64 (rd s0_0 (ji17))) * 1117)))) + (wrap64 ((wrap64 ((wrap64 (s0_1 + 1)) - 1)) * 29)))) + (wrap64 ((wrap64 (Int.tdiv (wrap64 ((wrap64 (s0_1 + 1)) - 1)) (s0_0.length : Int))) * 53)))) (wrap64 (Int.tdiv (wrap64 ((wrap64 ((wrap64 ((wrap64 ((wrap64 (rd s0_0 (ji14))) * 131)) + (wrap64 ((wrap64 (rd s0_0 (ji17))) * 1117)))) + (wrap64 ((wrap64 ((wrap64 (s0_1 + 1)) - 1)) * 29)))) + (wrap64 ((wrap64 (Int.tdiv (wrap64 ((wrap64 (s0_1 + 1)) - 1)) (s0_0.length : Int))) * 53)))) 64))) a1, (wrap64 (s0_1 + 1))))) else (none)) else (none)) = some (r1, r2) := by first | (rw [hji17] at H; exact H) | (simp only [hji17] at H ⊢; exact H)
   by_cases c18 : 0 ≤ (ji17)
   rotate_left
   ·rw [if_neg c18] at H
    exact absurd H (by simp)
   rw [if_pos c18] at H
   have c18b0 : decide (0 ≤ (ji17)) = true := dT_q c18
   clear c18
   by_cases c19 : (ji17) < (s0_0.length : Int)
   rotate_left
   ·rw [if_neg c19] at H
    exact absurd H (by simp)
   rw [if_pos c19] at H
   have c19b0 : decide ((ji17) < (s0_0.length : Int)) = true := dT_q c19
   clear c19
   by_cases c20 : a1 = 0
   ·rw [if_pos c20] at H
    exact absurd H (by simp)
   rw [if_neg c20] at H
   have c20b0 : (a1 == 0) = false := fN_q.mpr c20
   have c20b1 : (a1 != 0) = true := nI_q.mpr c20
   simp only [oE_q, pE_q] at H
   obtain ⟨rfl, rfl⟩ := H
   obtain ⟨ASz21_0, cSz21_0, HGz21, hgz21, HSz21_0⟩ := HI0.out
   have hcz21_0 := cellS39_0 HGz21
   have hcz21_1 := cellS39_1 HGz21
   have hfz21_1 := bF_q HGz21 1
   clear HGz21 hgz21
   have p475 : 0 ≤ ((ji14) : Int) := oD_q (by assumption)
   have q475 : (ji14) < (s0_0.length : Int) := oD_q (by assumption)
   obtain ⟨ad475, e475, hx475_0⟩ := aI_q HSz21_0 (ji14) p475 q475
   cases e475
   replace hx475_0 := pw_cell_below HB.out hx475_0
   replace p475 := eq_true p475
   replace q475 := eq_true q475
   have p476 : 0 ≤ ((ji17) : Int) := oD_q (by assumption)
   have q476 : (ji17) < (s0_0.length : Int) := oD_q (by assumption)
   obtain ⟨ad476, e476, hx476_0⟩ := aI_q HSz21_0 (ji17) p476 q476
   obtain rfl : ad475 = ad476 := (by injection e476)
   replace hx476_0 := pw_cell_below HB.out hx476_0
   replace p476 := eq_true p476
   replace q476 := eq_true q476
   go_wp2
   repeat (go_quiet (fail); try go_wp2)
   go_ret
   exact ⟨by first | rfl | (simp [eN_q, eS_q] <;> rfl) | (simp only [← hji14, ← hji17]; first | rfl | (simp [eN_q, eS_q] <;> rfl)) | (simp [*, eN_q, eS_q] <;> rfl), m5_q, m6_q, m9_q⟩

def spec_l6Rd_of.f (k : Nat) (s0_0 : List Int) (s0_1 : Int) (l1 : List ByteArray) : Option (ByteArray × Int) := (spec_l6Rd_pick.f k s0_0 s0_1 (l1.length : Int)).bind fun bt477 => (if 0 ≤ bt477.1 then (if bt477.1 < (l1.length : Int) then (some (rdOf ByteArray.empty l1 bt477.1, bt477.2)) else (none)) else (none))
set_option maxHeartbeats 8000000 in
set_option maxRecDepth 100000 in
theorem spec_l6Rd_of.calls (k : Nat) (g : Nat) (s0_0 : List Int) (s0_1 : Int) (A1 : Option Addr) (c1 : Nat) (l1 : List ByteArray) (r1 : ByteArray) (r2 : Int) (w0 w : World) (hI : IsS39 w0 w g s0_0 s0_1) (hB : Below w0.heap.size w0 w) (hr1 : Kd.C Kd.string w A1 l1.length l1) (hc1 : l1.length ≤ c1) (hf1 : ∀ ad, A1 = some ad → 0 < l1.length → ad.block ≠ g) (h : spec_l6Rd_of.f k s0_0 s0_1 l1 = some (r1, r2)) :
    Calls Tryd.prog 27 #[.pointer (some ⟨g, 0, none⟩), .slice A1 l1.length c1] w fun e w' => e = .returned (.string r1) ∧ IsS39 w0 w' g s0_0 r2 ∧ Below w0.heap.size w0 w' ∧ KeepBut w w' g none := by
 have HR1 := Ae_q hr1
 have HC1 := Ae_q hc1
 clear hr1 hc1
 have HI0 := Ae_q hI
 have HK := Ae_q (KeepBut.refl w g none)
 have HL := Ae_q hB.size
 clear hI
 have HW0 := Ae_q hB.size
 have HB := Ae_q hB
 clear hB
 have H : ((spec_l6Rd_pick.f k s0_0 s0_1 (l1.length : Int)).bind fun bt477 => (if 0 ≤ bt477.1 then (if bt477.1 < (l1.length : Int) then (some (rdOf ByteArray.empty l1 bt477.1, bt477.2)) else (none)) else (none))) = some (r1, r2) := h
 clear h
 replace H := oB_q.mp H
 obtain ⟨⟨t477, t478⟩, A30, H⟩ := H
 replace H : (if 0 ≤ t477 then (if t477 < (l1.length : Int) then (some (rdOf ByteArray.empty l1 t477, t478)) else (none)) else (none)) = some (r1, r2) := H
 have A3 := Ae_q A30
 clear A30
 by_cases c4 : 0 ≤ t477
 rotate_left
 ·rw [if_neg c4] at H
  exact absurd H (by simp)
 rw [if_pos c4] at H
 have c4b0 : decide (0 ≤ t477) = true := dT_q c4
 clear c4
 by_cases c5 : t477 < (l1.length : Int)
 rotate_left
 ·rw [if_neg c5] at H
  exact absurd H (by simp)
 rw [if_pos c5] at H
 have c5b0 : decide (t477 < (l1.length : Int)) = true := dT_q c5
 clear c5
 simp only [oE_q, pE_q] at H
 obtain ⟨rfl, rfl⟩ := H
 go_enter Tryd.func27, Tryd.ntmps27
 go_wp2_with (first | ((with_reducible refine gC_q (f := 18) rfl ?_); refine gL_q (some 9) rfl rfl Tryd.func18 m7_q rfl #[.pointer (some ⟨g, 0, none⟩), .int .i64 (l1.length : Int)] rfl m0_q ?_; (with_reducible refine (spec_l6Rd_pick.calls k g s0_0 s0_1 (l1.length : Int) t477 t478 w0 _ ?side1 ?side2 A3.out).mono ?_); (case side1 => exact m5_q); (case side2 => exact m6_q); rintro e w' ⟨rfl, hi, hb, hk⟩; refine ⟨_, rfl, ?_⟩; replace HK := Ae_q (kT_q m9_q hk (.inl rfl)); replace HB := Ae_q (hb); replace HI0 := Ae_q (hi); (try clear hb); (try clear hb2); (try clear hk); (try clear hi); have p479 : 0 ≤ (t477 : Int) := oD_q (by assumption); have q479 : t477 < (l1.length : Int) := oD_q (by assumption); obtain ⟨ad479, e479, hx479_0⟩ := Kd.at_string HR1.out t477 p479 q479; cases e479; replace hx479_0 := keep_cell HK.out hx479_0 (by first | (rw [add_block]; exact hf1 _ rfl (by omega)) | exact hf1 _ rfl (by omega) | exact hf1 ad479 rfl (by omega)); replace p479 := eq_true p479; replace q479 := eq_true q479))
 go_ret
 exact ⟨m3_q, m5_q, m6_q, m9_q⟩

def spec_l92Line.j0 : Nat → Int → Bool → List Int → Int → Option (ByteArray × Int)
 | 0, _, _, _, _ => none
 | k + 1, x4, x28, x1000, x1001 => if x28 = true then ((spec_l6Rd_pick.f k x1000 x1001 3).bind fun bt496 => ((spec_l6Dec.f k (wrap64 (1 + bt496.1))).bind fun t498 => (if 5 + t498.size ≤ 9223372036854775807 then (if ((⟨#[116, 97, 107, 101, 32]⟩ : ByteArray) ++ t498).size + 1 ≤ 9223372036854775807 then ((spec_l6Rd_pick.f k x1000 bt496.2 30).bind fun bt499 => ((spec_l6Dec.f k bt499.1).bind fun t501 => (if (((⟨#[116, 97, 107, 101, 32]⟩ : ByteArray) ++ t498) ++ (⟨#[32]⟩ : ByteArray)).size + t501.size ≤ 9223372036854775807 then (if ((((⟨#[116, 97, 107, 101, 32]⟩ : ByteArray) ++ t498) ++ (⟨#[32]⟩ : ByteArray)) ++ t501).size + 1 ≤ 9223372036854775807 then ((spec_l6Rd_pick.f k x1000 bt499.2 5).bind fun bt502 => ((spec_l6Dec.f k bt502.1).bind fun t504 => (if (((((⟨#[116, 97, 107, 101, 32]⟩ : ByteArray) ++ t498) ++ (⟨#[32]⟩ : ByteArray)) ++ t501) ++ (⟨#[32]⟩ : ByteArray)).size + t504.size ≤ 9223372036854775807 then (some ((((((⟨#[116, 97, 107, 101, 32]⟩ : ByteArray) ++ t498) ++ (⟨#[32]⟩ : ByteArray)) ++ t501) ++ (⟨#[32]⟩ : ByteArray)) ++ t504, bt502.2)) else (none)))) else (none)) else (none)))) else (none)) else (none)))) else (if x4 = 5 then ((spec_l6Rd_pick.f k x1000 x1001 22).bind fun bt505 => ((spec_l6Dec.f k bt505.1).bind fun t507 => (if 4 + t507.size ≤ 9223372036854775807 then (if ((⟨#[112, 117, 116, 32]⟩ : ByteArray) ++ t507).size + 1 ≤ 9223372036854775807 then ((spec_l6Rd_pick.f k x1000 bt505.2 3).bind fun bt508 => ((spec_l6Dec.f k (wrap64 (bt508.1 * 50))).bind fun t510 => (if (((⟨#[112, 117, 116, 32]⟩ : ByteArray) ++ t507) ++ (⟨#[32]⟩ : ByteArray)).size + t510.size ≤ 9223372036854775807 then (if ((((⟨#[112, 117, 116, 32]⟩ : ByteArray) ++ t507) ++ (⟨#[32]⟩ : ByteArray)) ++ t510).size + 1 ≤ 9223372036854775807 then ((spec_l6Rd_pick.f k x1000 bt508.2 3).bind fun bt511 => ((spec_l6Dec.f k (wrap64 (bt511.1 * 5000))).bind fun t513 => (if (((((⟨#[112, 117, 116, 32]⟩ : ByteArray) ++ t507) ++ (⟨#[32]⟩ : ByteArray)) ++ t510) ++ (⟨#[32]⟩ : ByteArray)).size + t513.size ≤ 9223372036854775807 then (some ((((((⟨#[112, 117, 116, 32]⟩ : ByteArray) ++ t507) ++ (⟨#[32]⟩ : ByteArray)) ++ t510) ++ (⟨#[32]⟩ : ByteArray)) ++ t513, bt511.2)) else (none)))) else (none)) else (none)))) else (none)) else (none)))) else ((spec_l6Rd_pick.f k x1000 x1001 3).bind fun bt514 => ((spec_l6Dec.f k (wrap64 (1 + bt514.1))).bind fun t516 => (if 4 + t516.size ≤ 9223372036854775807 then (if ((⟨#[112, 117, 116, 32]⟩ : ByteArray) ++ t516).size + 1 ≤ 9223372036854775807 then ((spec_l6Rd_pick.f k x1000 bt514.2 6).bind fun bt517 => ((spec_l6Dec.f k bt517.1).bind fun t519 => (if (((⟨#[112, 117, 116, 32]⟩ : ByteArray) ++ t516) ++ (⟨#[32]⟩ : ByteArray)).size + t519.size ≤ 9223372036854775807 then (if ((((⟨#[112, 117, 116, 32]⟩ : ByteArray) ++ t516) ++ (⟨#[32]⟩ : ByteArray)) ++ t519).size + 1 ≤ 9223372036854775807 then ((spec_l6Rd_pick.f k x1000 bt517.2 40).bind fun bt520 => ((spec_l6Dec.f k (wrap64 (1 + bt520.1))).bind fun t522 => (if (((((⟨#[112, 117, 116, 32]⟩ : ByteArray) ++ t516) ++ (⟨#[32]⟩ : ByteArray)) ++ t519) ++ (⟨#[32]⟩ : ByteArray)).size + t522.size ≤ 9223372036854775807 then (some ((((((⟨#[112, 117, 116, 32]⟩ : ByteArray) ++ t516) ++ (⟨#[32]⟩ : ByteArray)) ++ t519) ++ (⟨#[32]⟩ : ByteArray)) ++ t522, bt520.2)) else (none)))) else (none)) else (none)))) else (none)) else (none)))))
def spec_l92Line.f (k : Nat) (s0_0 : List Int) (s0_1 : Int) : Option (ByteArray × Int) := (spec_l6Rd_pick.f k s0_0 s0_1 10).bind fun bt480 => (if bt480.1 = 0 then ((spec_l6Rd_pick.f k s0_0 bt480.2 6).bind fun bt482 => ((spec_l6Dec.f k bt482.1).bind fun t484 => (if 5 + t484.size ≤ 9223372036854775807 then (some ((⟨#[100, 114, 111, 112, 32]⟩ : ByteArray) ++ t484, bt482.2)) else (none)))) else (if bt480.1 = 1 then ((spec_l6Rd_pick.f k s0_0 bt480.2 3).bind fun bt485 => ((spec_l6Dec.f k (wrap64 (1 + bt485.1))).bind fun t487 => (if 5 + t487.size ≤ 9223372036854775807 then (if ((⟨#[104, 97, 118, 101, 32]⟩ : ByteArray) ++ t487).size + 1 ≤ 9223372036854775807 then ((spec_l6Rd_pick.f k s0_0 bt485.2 6).bind fun bt488 => ((spec_l6Dec.f k bt488.1).bind fun t490 => (if (((⟨#[104, 97, 118, 101, 32]⟩ : ByteArray) ++ t487) ++ (⟨#[32]⟩ : ByteArray)).size + t490.size ≤ 9223372036854775807 then (some ((((⟨#[104, 97, 118, 101, 32]⟩ : ByteArray) ++ t487) ++ (⟨#[32]⟩ : ByteArray)) ++ t490, bt488.2)) else (none)))) else (none)) else (none)))) else (if bt480.1 = 2 then ((spec_l6Rd_of.f k s0_0 bt480.2 (([(⟨#[115, 104, 111, 119]⟩ : ByteArray), (⟨#[119, 104, 97, 116]⟩ : ByteArray), (⟨#[]⟩ : ByteArray), (⟨#[112, 117, 116, 32, 49, 32, 50]⟩ : ByteArray), (⟨#[115, 104, 111, 119, 32, 49]⟩ : ByteArray), (⟨#[116, 97, 107, 101, 32, 49, 32, 120, 32, 50]⟩ : ByteArray), (⟨#[100, 114, 111, 112]⟩ : ByteArray)] : List ByteArray))).bind fun bt494 => (some (bt494.1, bt494.2))) else (if bt480.1 = 3 then (spec_l92Line.j0 k bt480.1 (bt480.1 == 3) s0_0 bt480.2) else (spec_l92Line.j0 k bt480.1 (bt480.1 == 4) s0_0 bt480.2)))))
set_option maxHeartbeats 8000000 in
set_option maxRecDepth 100000 in
theorem spec_l92Line.calls (k : Nat) (g : Nat) (s0_0 : List Int) (s0_1 : Int) (r1 : ByteArray) (r2 : Int) (w0 w : World) (hI : IsS39 w0 w g s0_0 s0_1) (hB : Below w0.heap.size w0 w) (h : spec_l92Line.f k s0_0 s0_1 = some (r1, r2)) :
    Calls Tryd.prog 19 #[.pointer (some ⟨g, 0, none⟩)] w fun e w' => e = .returned (.string r1) ∧ IsS39 w0 w' g s0_0 r2 ∧ Below w0.heap.size w0 w' ∧ KeepBut w w' g none := by
 have HI0 := Ae_q hI
 have HK := Ae_q (KeepBut.refl w g none)
 have HL := Ae_q hB.size
 clear hI
 have HW0 := Ae_q hB.size
 have HB := Ae_q hB
 clear hB
 have H : ((spec_l6Rd_pick.f k s0_0 s0_1 10).bind fun bt480 => (if bt480.1 = 0 then ((spec_l6Rd_pick.f k s0_0 bt480.2 6).bind fun bt482 => ((spec_l6Dec.f k bt482.1).bind fun t484 => (if 5 + t484.size ≤ 9223372036854775807 then (some ((⟨#[100, 114, 111, 112, 32]⟩ : ByteArray) ++ t484, bt482.2)) else (none)))) else (if bt480.1 = 1 then ((spec_l6Rd_pick.f k s0_0 bt480.2 3).bind fun bt485 => ((spec_l6Dec.f k (wrap64 (1 + bt485.1))).bind fun t487 => (if 5 + t487.size ≤ 9223372036854775807 then (if ((⟨#[104, 97, 118, 101, 32]⟩ : ByteArray) ++ t487).size + 1 ≤ 9223372036854775807 then ((spec_l6Rd_pick.f k s0_0 bt485.2 6).bind fun bt488 => ((spec_l6Dec.f k bt488.1).bind fun t490 => (if (((⟨#[104, 97, 118, 101, 32]⟩ : ByteArray) ++ t487) ++ (⟨#[32]⟩ : ByteArray)).size + t490.size ≤ 9223372036854775807 then (some ((((⟨#[104, 97, 118, 101, 32]⟩ : ByteArray) ++ t487) ++ (⟨#[32]⟩ : ByteArray)) ++ t490, bt488.2)) else (none)))) else (none)) else (none)))) else (if bt480.1 = 2 then ((spec_l6Rd_of.f k s0_0 bt480.2 (([(⟨#[115, 104, 111, 119]⟩ : ByteArray), (⟨#[119, 104, 97, 116]⟩ : ByteArray), (⟨#[]⟩ : ByteArray), (⟨#[112, 117, 116, 32, 49, 32, 50]⟩ : ByteArray), (⟨#[115, 104, 111, 119, 32, 49]⟩ : ByteArray), (⟨#[116, 97, 107, 101, 32, 49, 32, 120, 32, 50]⟩ : ByteArray), (⟨#[100, 114, 111, 112]⟩ : ByteArray)] : List ByteArray))).bind fun bt494 => (some (bt494.1, bt494.2))) else (if bt480.1 = 3 then (spec_l92Line.j0 k bt480.1 (bt480.1 == 3) s0_0 bt480.2) else (spec_l92Line.j0 k bt480.1 (bt480.1 == 4) s0_0 bt480.2)))))) = some (r1, r2) := h
 clear h
 replace H := oB_q.mp H
 obtain ⟨⟨t480, t481⟩, A20, H⟩ := H
 replace H : (if t480 = 0 then ((spec_l6Rd_pick.f k s0_0 t481 6).bind fun bt482 => ((spec_l6Dec.f k bt482.1).bind fun t484 => (if 5 + t484.size ≤ 9223372036854775807 then (some ((⟨#[100, 114, 111, 112, 32]⟩ : ByteArray) ++ t484, bt482.2)) else (none)))) else (if t480 = 1 then ((spec_l6Rd_pick.f k s0_0 t481 3).bind fun bt485 => ((spec_l6Dec.f k (wrap64 (1 + bt485.1))).bind fun t487 => (if 5 + t487.size ≤ 9223372036854775807 then (if ((⟨#[104, 97, 118, 101, 32]⟩ : ByteArray) ++ t487).size + 1 ≤ 9223372036854775807 then ((spec_l6Rd_pick.f k s0_0 bt485.2 6).bind fun bt488 => ((spec_l6Dec.f k bt488.1).bind fun t490 => (if (((⟨#[104, 97, 118, 101, 32]⟩ : ByteArray) ++ t487) ++ (⟨#[32]⟩ : ByteArray)).size + t490.size ≤ 9223372036854775807 then (some ((((⟨#[104, 97, 118, 101, 32]⟩ : ByteArray) ++ t487) ++ (⟨#[32]⟩ : ByteArray)) ++ t490, bt488.2)) else (none)))) else (none)) else (none)))) else (if t480 = 2 then ((spec_l6Rd_of.f k s0_0 t481 (([(⟨#[115, 104, 111, 119]⟩ : ByteArray), (⟨#[119, 104, 97, 116]⟩ : ByteArray), (⟨#[]⟩ : ByteArray), (⟨#[112, 117, 116, 32, 49, 32, 50]⟩ : ByteArray), (⟨#[115, 104, 111, 119, 32, 49]⟩ : ByteArray), (⟨#[116, 97, 107, 101, 32, 49, 32, 120, 32, 50]⟩ : ByteArray), (⟨#[100, 114, 111, 112]⟩ : ByteArray)] : List ByteArray))).bind fun bt494 => (some (bt494.1, bt494.2))) else (if t480 = 3 then (spec_l92Line.j0 k t480 (t480 == 3) s0_0 t481) else (spec_l92Line.j0 k t480 (t480 == 4) s0_0 t481))))) = some (r1, r2) := H
 have A2 := Ae_q A20
 clear A20
 by_cases c3 : t480 = 0
 ·rw [if_pos c3] at H
  have c3b0 : (t480 == 0) = true := beq_iff_eq.mpr c3
  have c3b1 : (t480 != 0) = false := nE_q.mpr c3
  clear c3
  replace H := oB_q.mp H
  obtain ⟨⟨t482, t483⟩, A40, H⟩ := H
  replace H : ((spec_l6Dec.f k t482).bind fun t484 => (if 5 + t484.size ≤ 9223372036854775807 then (some ((⟨#[100, 114, 111, 112, 32]⟩ : ByteArray) ++ t484, t483)) else (none))) = some (r1, r2) := H
  have A4 := Ae_q A40
  clear A40
  replace H := oB_q.mp H
  obtain ⟨t484, A50, H⟩ := H
  replace H : (if 5 + t484.size ≤ 9223372036854775807 then (some ((⟨#[100, 114, 111, 112, 32]⟩ : ByteArray) ++ t484, t483)) else (none)) = some (r1, r2) := H
  have A5 := Ae_q A50
  clear A50
  by_cases c6 : 5 + t484.size ≤ 9223372036854775807
  rotate_left
  ·rw [if_neg c6] at H
   exact absurd H (by simp)
  rw [if_pos c6] at H
  have c6b0 := eq_true c6
  have c6b1 : decide (5 + t484.size ≤ 9223372036854775807) = true := dT_q c6
  try have c6b2 : (9223372036854775807 < 5 + t484.size) = False := eq_false (Nat.not_lt.2 c6)
  simp only [oE_q, pE_q] at H
  obtain ⟨rfl, rfl⟩ := H
  go_enter Tryd.func19, Tryd.ntmps19
  go_wp2_with (first | ((with_reducible refine gC_q (f := 18) rfl ?_); (first | (refine gL_q (some 4) rfl rfl Tryd.func18 m7_q rfl #[.pointer (some ⟨g, 0, none⟩), .int .i64 10] rfl m0_q ?_; (with_reducible refine (spec_l6Rd_pick.calls k g s0_0 s0_1 10 t480 t481 w0 _ ?side1 ?side2 A2.out).mono ?_)) | (refine gL_q (some 8) rfl rfl Tryd.func18 m7_q rfl #[.pointer (some ⟨g, 0, none⟩), .int .i64 6] rfl m0_q ?_; (with_reducible refine (spec_l6Rd_pick.calls k g s0_0 t481 6 t482 t483 w0 _ ?side1 ?side2 A4.out).mono ?_))); (case side1 => exact m5_q); (case side2 => exact m6_q); rintro e w' ⟨rfl, hi, hb, hk⟩; refine ⟨_, rfl, ?_⟩; replace HK := Ae_q (kT_q m9_q hk (.inl rfl)); replace HB := Ae_q (hb); replace HI0 := Ae_q (hi); (try clear hb); (try clear hb2); (try clear hk); (try clear hi)) | ((with_reducible refine gC_q (f := 26) rfl ?_); refine gL_q (some 9) rfl rfl Tryd.func26 m7_q rfl #[.int .i64 t482] rfl m0_q ?_; (with_reducible refine (spec_l6Dec.calls k t482 t484 _ A5.out).mono ?_); rintro e w' ⟨rfl, hb⟩; refine ⟨_, rfl, ?_⟩; replace HK := Ae_q (kT_q m9_q (kO_q hb g none) (.inl rfl)); replace HB := Ae_q (bT_q m6_q hb); replace HI0 := Ae_q (IsS39.below m5_q hb); (try clear hb); (try clear hb2); (try clear hk); (try clear hi)))
  go_ret
  exact ⟨m3_q, m5_q, m6_q, m9_q⟩
 rw [if_neg c3] at H
 have c3b0 : (t480 == 0) = false := fN_q.mpr c3
 have c3b1 : (t480 != 0) = true := nI_q.mpr c3
 by_cases c10 : t480 = 1
 ·rw [if_pos c10] at H
  have c10b0 : (t480 == 1) = true := beq_iff_eq.mpr c10
  have c10b1 : (t480 != 1) = false := nE_q.mpr c10
  clear c10
  replace H := oB_q.mp H
  obtain ⟨⟨t485, t486⟩, A110, H⟩ := H
  replace H : ((spec_l6Dec.f k (wrap64 (1 + t485))).bind fun t487 => (if 5 + t487.size ≤ 9223372036854775807 then (if ((⟨#[104, 97, 118, 101, 32]⟩ : ByteArray) ++ t487).size + 1 ≤ 9223372036854775807 then ((spec_l6Rd_pick.f k s0_0 t486 6).bind fun bt488 => ((spec_l6Dec.f k bt488.1).bind fun t490 => (if (((⟨#[104, 97, 118, 101, 32]⟩ : ByteArray) ++ t487) ++ (⟨#[32]⟩ : ByteArray)).size + t490.size ≤ 9223372036854775807 then (some ((((⟨#[104, 97, 118, 101, 32]⟩ : ByteArray) ++ t487) ++ (⟨#[32]⟩ : ByteArray)) ++ t490, bt488.2)) else (none)))) else (none)) else (none))) = some (r1, r2) := H
  have A11 := Ae_q A110
  clear A110
  replace H := oB_q.mp H
  obtain ⟨t487, A120, H⟩ := H
  replace H : (if 5 + t487.size ≤ 9223372036854775807 then (if ((⟨#[104, 97, 118, 101, 32]⟩ : ByteArray) ++ t487).size + 1 ≤ 9223372036854775807 then ((spec_l6Rd_pick.f k s0_0 t486 6).bind fun bt488 => ((spec_l6Dec.f k bt488.1).bind fun t490 => (if (((⟨#[104, 97, 118, 101, 32]⟩ : ByteArray) ++ t487) ++ (⟨#[32]⟩ : ByteArray)).size + t490.size ≤ 9223372036854775807 then (some ((((⟨#[104, 97, 118, 101, 32]⟩ : ByteArray) ++ t487) ++ (⟨#[32]⟩ : ByteArray)) ++ t490, bt488.2)) else (none)))) else (none)) else (none)) = some (r1, r2) := H
  have A12 := Ae_q A120
  clear A120
  by_cases c13 : 5 + t487.size ≤ 9223372036854775807
  rotate_left
  ·rw [if_neg c13] at H
   exact absurd H (by simp)
  rw [if_pos c13] at H
  have c13b0 := eq_true c13
  have c13b1 : decide (5 + t487.size ≤ 9223372036854775807) = true := dT_q c13
  try have c13b2 : (9223372036854775807 < 5 + t487.size) = False := eq_false (Nat.not_lt.2 c13)
  by_cases c14 : ((⟨#[104, 97, 118, 101, 32]⟩ : ByteArray) ++ t487).size + 1 ≤ 9223372036854775807
  rotate_left
  ·rw [if_neg c14] at H
   exact absurd H (by simp)
  rw [if_pos c14] at H
  have c14b0 := eq_true c14
  have c14b1 : decide (((⟨#[104, 97, 118, 101, 32]⟩ : ByteArray) ++ t487).size + 1 ≤ 9223372036854775807) = true := dT_q c14
  try have c14b2 : (9223372036854775807 < ((⟨#[104, 97, 118, 101, 32]⟩ : ByteArray) ++ t487).size + 1) = False := eq_false (Nat.not_lt.2 c14)
  have c14b3 : (9223372036854775807 < 5 + t487.size + 1) = False := eq_false (by have h_ := c14; have e0_ : (⟨#[104, 97, 118, 101, 32]⟩ : ByteArray).size = 5 := rfl; simp only [ByteArray.size_append, e0_] at h_; omega)
  replace H := oB_q.mp H
  obtain ⟨⟨t488, t489⟩, A150, H⟩ := H
  replace H : ((spec_l6Dec.f k t488).bind fun t490 => (if (((⟨#[104, 97, 118, 101, 32]⟩ : ByteArray) ++ t487) ++ (⟨#[32]⟩ : ByteArray)).size + t490.size ≤ 9223372036854775807 then (some ((((⟨#[104, 97, 118, 101, 32]⟩ : ByteArray) ++ t487) ++ (⟨#[32]⟩ : ByteArray)) ++ t490, t489)) else (none))) = some (r1, r2) := H
  have A15 := Ae_q A150
  clear A150
  replace H := oB_q.mp H
  obtain ⟨t490, A160, H⟩ := H
  replace H : (if (((⟨#[104, 97, 118, 101, 32]⟩ : ByteArray) ++ t487) ++ (⟨#[32]⟩ : ByteArray)).size + t490.size ≤ 9223372036854775807 then (some ((((⟨#[104, 97, 118, 101, 32]⟩ : ByteArray) ++ t487) ++ (⟨#[32]⟩ : ByteArray)) ++ t490, t489)) else (none)) = some (r1, r2) := H
  have A16 := Ae_q A160
  clear A160
  by_cases c17 : (((⟨#[104, 97, 118, 101, 32]⟩ : ByteArray) ++ t487) ++ (⟨#[32]⟩ : ByteArray)).size + t490.size ≤ 9223372036854775807
  rotate_left
  ·rw [if_neg c17] at H
   exact absurd H (by simp)
  rw [if_pos c17] at H
  have c17b0 := eq_true c17
  have c17b1 : decide ((((⟨#[104, 97, 118, 101, 32]⟩ : ByteArray) ++ t487) ++ (⟨#[32]⟩ : ByteArray)).size + t490.size ≤ 9223372036854775807) = true := dT_q c17
  try have c17b2 : (9223372036854775807 < (((⟨#[104, 97, 118, 101, 32]⟩ : ByteArray) ++ t487) ++ (⟨#[32]⟩ : ByteArray)).size + t490.size) = False := eq_false (Nat.not_lt.2 c17)
  have c17b3 : (9223372036854775807 < 5 + t487.size + 1 + t490.size) = False := eq_false (by have h_ := c17; have e0_ : (⟨#[104, 97, 118, 101, 32]⟩ : ByteArray).size = 5 := rfl; have e1_ : (⟨#[32]⟩ : ByteArray).size = 1 := rfl; simp only [ByteArray.size_append, e0_, e1_] at h_; omega)
  simp only [oE_q, pE_q] at H
  obtain ⟨rfl, rfl⟩ := H
  go_enter Tryd.func19, Tryd.ntmps19
  go_wp2_with (first | ((with_reducible refine gC_q (f := 18) rfl ?_); (first | (refine gL_q (some 4) rfl rfl Tryd.func18 m7_q rfl #[.pointer (some ⟨g, 0, none⟩), .int .i64 10] rfl m0_q ?_; (with_reducible refine (spec_l6Rd_pick.calls k g s0_0 s0_1 10 t480 t481 w0 _ ?side1 ?side2 A2.out).mono ?_)) | (refine gL_q (some 14) rfl rfl Tryd.func18 m7_q rfl #[.pointer (some ⟨g, 0, none⟩), .int .i64 3] rfl m0_q ?_; (with_reducible refine (spec_l6Rd_pick.calls k g s0_0 t481 3 t485 t486 w0 _ ?side1 ?side2 A11.out).mono ?_)) | (refine gL_q (some 20) rfl rfl Tryd.func18 m7_q rfl #[.pointer (some ⟨g, 0, none⟩), .int .i64 6] rfl m0_q ?_; (with_reducible refine (spec_l6Rd_pick.calls k g s0_0 t486 6 t488 t489 w0 _ ?side1 ?side2 A15.out).mono ?_))); (case side1 => exact m5_q); (case side2 => exact m6_q); rintro e w' ⟨rfl, hi, hb, hk⟩; refine ⟨_, rfl, ?_⟩; replace HK := Ae_q (kT_q m9_q hk (.inl rfl)); replace HB := Ae_q (hb); replace HI0 := Ae_q (hi); (try clear hb); (try clear hb2); (try clear hk); (try clear hi)) | ((with_reducible refine gC_q (f := 26) rfl ?_); (first | (refine gL_q (some 16) rfl rfl Tryd.func26 m7_q rfl #[.int .i64 (wrap64 (1 + t485))] rfl m0_q ?_; (with_reducible refine (spec_l6Dec.calls k (wrap64 (1 + t485)) t487 _ A12.out).mono ?_)) | (refine gL_q (some 21) rfl rfl Tryd.func26 m7_q rfl #[.int .i64 t488] rfl m0_q ?_; (with_reducible refine (spec_l6Dec.calls k t488 t490 _ A16.out).mono ?_))); rintro e w' ⟨rfl, hb⟩; refine ⟨_, rfl, ?_⟩; replace HK := Ae_q (kT_q m9_q (kO_q hb g none) (.inl rfl)); replace HB := Ae_q (bT_q m6_q hb); replace HI0 := Ae_q (IsS39.below m5_q hb); (try clear hb); (try clear hb2); (try clear hk); (try clear hi)))
  go_ret
  exact ⟨m3_q, m5_q, m6_q, m9_q⟩
 rw [if_neg c10] at H
 have c10b0 : (t480 == 1) = false := fN_q.mpr c10
 have c10b1 : (t480 != 1) = true := nI_q.mpr c10
 by_cases c23 : t480 = 2
 ·rw [if_pos c23] at H
  have c23b0 : (t480 == 2) = true := beq_iff_eq.mpr c23
  have c23b1 : (t480 != 2) = false := nE_q.mpr c23
  clear c23
  obtain ⟨y491, hy491⟩ : ∃ y_ : List ByteArray, y_ = (([(⟨#[115, 104, 111, 119]⟩ : ByteArray), (⟨#[119, 104, 97, 116]⟩ : ByteArray), (⟨#[]⟩ : ByteArray), (⟨#[112, 117, 116, 32, 49, 32, 50]⟩ : ByteArray), (⟨#[115, 104, 111, 119, 32, 49]⟩ : ByteArray), (⟨#[116, 97, 107, 101, 32, 49, 32, 120, 32, 50]⟩ : ByteArray), (⟨#[100, 114, 111, 112]⟩ : ByteArray)] : List ByteArray)) := ⟨_, rfl⟩
  replace H : ((spec_l6Rd_of.f k s0_0 t481 y491).bind fun bt494 => (some (bt494.1, bt494.2))) = some (r1, r2) := by first | (rw [hy491]; with_reducible exact H) | (have H2_ := (oS_q _ _).symm.trans H; rw [hy491]; with_reducible exact H2_) | (have H2_ := (oS_q _ _).symm.trans H; with_reducible exact H2_) | with_reducible exact H | (rw [hy491]; exact H) | exact H
  have Ny491 := Ae_q hy491
  clear hy491
  replace H := oB_q.mp H
  obtain ⟨⟨t494, t495⟩, A240, H⟩ := H
  replace H : (some (t494, t495)) = some (r1, r2) := H
  have A24 := Ae_q A240
  clear A240
  simp only [oE_q, pE_q] at H
  obtain ⟨rfl, rfl⟩ := H
  go_enter Tryd.func19, Tryd.ntmps19
  go_wp2_with (first | ((with_reducible refine gC_q (f := 18) rfl ?_); refine gL_q (some 4) rfl rfl Tryd.func18 m7_q rfl #[.pointer (some ⟨g, 0, none⟩), .int .i64 10] rfl m0_q ?_; (with_reducible refine (spec_l6Rd_pick.calls k g s0_0 s0_1 10 t480 t481 w0 _ ?side1 ?side2 A2.out).mono ?_); (case side1 => exact m5_q); (case side2 => exact m6_q); rintro e w' ⟨rfl, hi, hb, hk⟩; refine ⟨_, rfl, ?_⟩; replace HK := Ae_q (kT_q m9_q hk (.inl rfl)); replace HB := Ae_q (hb); replace HI0 := Ae_q (hi); (try clear hb); (try clear hb2); (try clear hk); (try clear hi)) | ((with_reducible refine gD_q (N := 26) rfl ?_); refine Kd.R_lit Kd.string _ 9 ?hg (N := 26) ?hd (xs := ([(⟨#[115, 104, 111, 119]⟩ : ByteArray), (⟨#[119, 104, 97, 116]⟩ : ByteArray), (⟨#[]⟩ : ByteArray), (⟨#[112, 117, 116, 32, 49, 32, 50]⟩ : ByteArray), (⟨#[115, 104, 111, 119, 32, 49]⟩ : ByteArray), (⟨#[116, 97, 107, 101, 32, 49, 32, 120, 32, 50]⟩ : ByteArray), (⟨#[100, 114, 111, 112]⟩ : ByteArray)] : List ByteArray)) (inner := [.string (⟨#[115, 104, 111, 119]⟩ : ByteArray), .string (⟨#[119, 104, 97, 116]⟩ : ByteArray), .string (⟨#[]⟩ : ByteArray), .string (⟨#[112, 117, 116, 32, 49, 32, 50]⟩ : ByteArray), .string (⟨#[115, 104, 111, 119, 32, 49]⟩ : ByteArray), .string (⟨#[116, 97, 107, 101, 32, 49, 32, 120, 32, 50]⟩ : ByteArray), .string (⟨#[100, 114, 111, 112]⟩ : ByteArray)]) (ok := fun _ => True) (okp := fun _ => True) ?hr ?hp (fun _ hk => hk) trivial (bR_q _ _) (nR_q _) (by simp) ?_; (case hd => rfl); (case hg => rfl); (case hr => exact m13_q); (case hp => exact (Reps.one (show Kd.M Kd.string _ _ _ (⟨#[115, 104, 111, 119]⟩ : ByteArray) [.string (⟨#[115, 104, 111, 119]⟩ : ByteArray)] from rfl) (Reps.one (show Kd.M Kd.string _ _ _ (⟨#[119, 104, 97, 116]⟩ : ByteArray) [.string (⟨#[119, 104, 97, 116]⟩ : ByteArray)] from rfl) (Reps.one (show Kd.M Kd.string _ _ _ (⟨#[]⟩ : ByteArray) [.string (⟨#[]⟩ : ByteArray)] from rfl) (Reps.one (show Kd.M Kd.string _ _ _ (⟨#[112, 117, 116, 32, 49, 32, 50]⟩ : ByteArray) [.string (⟨#[112, 117, 116, 32, 49, 32, 50]⟩ : ByteArray)] from rfl) (Reps.one (show Kd.M Kd.string _ _ _ (⟨#[115, 104, 111, 119, 32, 49]⟩ : ByteArray) [.string (⟨#[115, 104, 111, 119, 32, 49]⟩ : ByteArray)] from rfl) (Reps.one (show Kd.M Kd.string _ _ _ (⟨#[116, 97, 107, 101, 32, 49, 32, 120, 32, 50]⟩ : ByteArray) [.string (⟨#[116, 97, 107, 101, 32, 49, 32, 120, 32, 50]⟩ : ByteArray)] from rfl) (Reps.one (show Kd.M Kd.string _ _ _ (⟨#[100, 114, 111, 112]⟩ : ByteArray) [.string (⟨#[100, 114, 111, 112]⟩ : ByteArray)] from rfl) (Reps.none _ _))))))))); intro v492 w26 ho27 hb hg_ hnew_; clear hg_ hnew_; (first | rw [← Ny491.out] at ho27 | (simp only [Int.reduceToNat] at ho27; rw [← Ny491.out] at ho27)); have HO493 := Ae_q (rL_q ho27 (keep_size (w := w) (g := g) (row := none) m9_q)); replace HK := Ae_q (kT_q m9_q (kO_q hb g none) (.inl rfl)); replace HB := Ae_q (bT_q m6_q hb); replace HI0 := Ae_q (IsS39.below m5_q hb); clear hb ho27; obtain ⟨Ao28, co28, eo28⟩ := rS_q HO493.out; subst eo28) | ((with_reducible refine gC_q (f := 27) rfl ?_); refine gL_q (some 27) rfl rfl Tryd.func27 m7_q rfl #[.pointer (some ⟨g, 0, none⟩), .slice Ao28 y491.length co28] rfl m0_q ?_; (with_reducible refine (spec_l6Rd_of.calls k g s0_0 t481 _ _ y491 t494 t495 w0 _ ?side1 ?side2 ?side3 ?side4 ?side5 A24.out).mono ?_); (case side1 => exact m5_q); (case side2 => exact m6_q); (case side3 => exact cup (rR_q HO493.out).2.2); (case side4 => exact (rR_q HO493.out).2.1); (case side5 => exact far_slice (IsS39.own_ne HI0.out HO493.out (by decide))); rintro e w' ⟨rfl, hi, hb, hk⟩; refine ⟨_, rfl, ?_⟩; replace HO493 := Ae_q (rM_q (rK_q (IsS39.apart (show IsS39 w0 _ g s0_0 t481 from by repeat (with_reducible first | exact HI0.out | apply IsS39.alloc | apply IsS39.drewN | apply IsS39.drew | apply IsS39.set_1)) (rup HO493.out) (by decide)) hk (fun _ h => h.2)) (fun _ h => h.1)); replace HK := Ae_q (kT_q m9_q hk (.inl rfl)); replace HB := Ae_q (hb); replace HI0 := Ae_q (hi); (try clear hb); (try clear hb2); (try clear hk); (try clear hi)))
  go_ret
  exact ⟨m3_q, m5_q, m6_q, m9_q⟩
 rw [if_neg c23] at H
 have c23b0 : (t480 == 2) = false := fN_q.mpr c23
 have c23b1 : (t480 != 2) = true := nI_q.mpr c23
 have HC30 := Ae_q H
 clear H
 go_enter Tryd.func19, Tryd.ntmps19
 go_upto_if 28 with (first | ((with_reducible refine gC_q (f := 18) rfl ?_); refine gL_q (some 4) rfl rfl Tryd.func18 m7_q rfl #[.pointer (some ⟨g, 0, none⟩), .int .i64 10] rfl m0_q ?_; (with_reducible refine (spec_l6Rd_pick.calls k g s0_0 s0_1 10 t480 t481 w0 _ ?side1 ?side2 A2.out).mono ?_); (case side1 => exact m5_q); (case side2 => exact m6_q); rintro e w' ⟨rfl, hi, hb, hk⟩; refine ⟨_, rfl, ?_⟩; replace HK := Ae_q (kT_q m9_q hk (.inl rfl)); replace HB := Ae_q (hb); replace HI0 := Ae_q (hi); (try clear hb); (try clear hb2); (try clear hk); (try clear hi)))
 (try simp only [Act.put, sA_q, sZ_q, sS_q])
 go_cut [28] (fun v28 wc => ∃ (kq : Nat) (x28_29 : Bool), v28 = .bool x28_29 ∧ Aside0 (spec_l92Line.j0 kq t480 x28_29 s0_0 t481 = some (r1, r2)) ∧ Aside0 (kq ≤ k) ∧ Aside0 (IsS39 w0 wc g s0_0 t481) ∧ Aside0 (KeepBut w wc g none) ∧ Aside0 (Below w0.heap.size w0 wc))
 case first =>
  have H := HC30.out
  clear HC30
  by_cases c32 : t480 = 3
  ·rw [if_pos c32] at H
   have c32b0 : (t480 == 3) = true := beq_iff_eq.mpr c32
   have c32b1 : (t480 != 3) = false := nE_q.mpr c32
   clear c32
   (first | rw [c32b0] | (simp only [i64_w, i32_w]; rw [c32b0]) | skip)
   have H' := Ae_q H
   clear H
   go_wp2
   go_meet
   case rel => exact ⟨_, ((t480 == 3)), m1_q, H', ⟨m48_q⟩, ⟨m5_q⟩, ⟨m9_q⟩, ⟨m6_q⟩⟩
  rw [if_neg c32] at H
  have c32b0 : (t480 == 3) = false := fN_q.mpr c32
  have c32b1 : (t480 != 3) = true := nI_q.mpr c32
  (first | rw [c32b0] | (simp only [i64_w, i32_w]; rw [c32b0]) | skip)
  have H' := Ae_q H
  clear H
  go_wp2
  go_meet
  case rel => exact ⟨_, ((t480 == 4)), m1_q, H', ⟨m48_q⟩, ⟨m5_q⟩, ⟨m9_q⟩, ⟨m6_q⟩⟩
 case rest =>
  clear HC30
  try clear c1
  try clear c2
  try clear p2
  try clear c3
  try clear c3b0
  try clear c3b1
  try clear c6
  try clear c6b0
  try clear c6b1
  try clear c6b2
  try clear p6
  try clear c10
  try clear c10b0
  try clear c10b1
  try clear c13
  try clear c13b0
  try clear c13b1
  try clear c13b2
  try clear c14
  try clear c14b0
  try clear c14b1
  try clear c14b2
  try clear c17
  try clear c17b0
  try clear c17b1
  try clear c17b2
  try clear c18
  try clear c19
  try clear c23
  try clear c23b0
  try clear c23b1
  try clear c26
  try clear c27
  try clear c32
  try clear c32b0
  try clear c32b1
  obtain ⟨kq, x28_29, rfl, HA, HJ29, HI0, HK, HB⟩ := hcut
  cases kq with
  | zero => exact absurd HA.out (by simp [spec_l92Line.j0])
  | succ kj29 =>
   have H := HA.out
   clear HA
   simp only [spec_l92Line.j0] at H
   by_cases c33 : x28_29 = true
   ·subst c33
    have H1 : ((spec_l6Rd_pick.f kj29 s0_0 t481 3).bind fun bt496 => ((spec_l6Dec.f kj29 (wrap64 (1 + bt496.1))).bind fun t498 => (if 5 + t498.size ≤ 9223372036854775807 then (if ((⟨#[116, 97, 107, 101, 32]⟩ : ByteArray) ++ t498).size + 1 ≤ 9223372036854775807 then ((spec_l6Rd_pick.f kj29 s0_0 bt496.2 30).bind fun bt499 => ((spec_l6Dec.f kj29 bt499.1).bind fun t501 => (if (((⟨#[116, 97, 107, 101, 32]⟩ : ByteArray) ++ t498) ++ (⟨#[32]⟩ : ByteArray)).size + t501.size ≤ 9223372036854775807 then (if ((((⟨#[116, 97, 107, 101, 32]⟩ : ByteArray) ++ t498) ++ (⟨#[32]⟩ : ByteArray)) ++ t501).size + 1 ≤ 9223372036854775807 then ((spec_l6Rd_pick.f kj29 s0_0 bt499.2 5).bind fun bt502 => ((spec_l6Dec.f kj29 bt502.1).bind fun t504 => (if (((((⟨#[116, 97, 107, 101, 32]⟩ : ByteArray) ++ t498) ++ (⟨#[32]⟩ : ByteArray)) ++ t501) ++ (⟨#[32]⟩ : ByteArray)).size + t504.size ≤ 9223372036854775807 then (some ((((((⟨#[116, 97, 107, 101, 32]⟩ : ByteArray) ++ t498) ++ (⟨#[32]⟩ : ByteArray)) ++ t501) ++ (⟨#[32]⟩ : ByteArray)) ++ t504, bt502.2)) else (none)))) else (none)) else (none)))) else (none)) else (none)))) = some (r1, r2) := by rw [if_pos rfl] at H; exact H
    clear H
    have H := H1
    clear H1
    replace H := oB_q.mp H
    obtain ⟨⟨t496, t497⟩, A340, H⟩ := H
    replace H : ((spec_l6Dec.f kj29 (wrap64 (1 + t496))).bind fun t498 => (if 5 + t498.size ≤ 9223372036854775807 then (if ((⟨#[116, 97, 107, 101, 32]⟩ : ByteArray) ++ t498).size + 1 ≤ 9223372036854775807 then ((spec_l6Rd_pick.f kj29 s0_0 t497 30).bind fun bt499 => ((spec_l6Dec.f kj29 bt499.1).bind fun t501 => (if (((⟨#[116, 97, 107, 101, 32]⟩ : ByteArray) ++ t498) ++ (⟨#[32]⟩ : ByteArray)).size + t501.size ≤ 9223372036854775807 then (if ((((⟨#[116, 97, 107, 101, 32]⟩ : ByteArray) ++ t498) ++ (⟨#[32]⟩ : ByteArray)) ++ t501).size + 1 ≤ 9223372036854775807 then ((spec_l6Rd_pick.f kj29 s0_0 bt499.2 5).bind fun bt502 => ((spec_l6Dec.f kj29 bt502.1).bind fun t504 => (if (((((⟨#[116, 97, 107, 101, 32]⟩ : ByteArray) ++ t498) ++ (⟨#[32]⟩ : ByteArray)) ++ t501) ++ (⟨#[32]⟩ : ByteArray)).size + t504.size ≤ 9223372036854775807 then (some ((((((⟨#[116, 97, 107, 101, 32]⟩ : ByteArray) ++ t498) ++ (⟨#[32]⟩ : ByteArray)) ++ t501) ++ (⟨#[32]⟩ : ByteArray)) ++ t504, bt502.2)) else (none)))) else (none)) else (none)))) else (none)) else (none))) = some (r1, r2) := H
    have A34 := Ae_q A340
    clear A340
    replace H := oB_q.mp H
    obtain ⟨t498, A350, H⟩ := H
    replace H : (if 5 + t498.size ≤ 9223372036854775807 then (if ((⟨#[116, 97, 107, 101, 32]⟩ : ByteArray) ++ t498).size + 1 ≤ 9223372036854775807 then ((spec_l6Rd_pick.f kj29 s0_0 t497 30).bind fun bt499 => ((spec_l6Dec.f kj29 bt499.1).bind fun t501 => (if (((⟨#[116, 97, 107, 101, 32]⟩ : ByteArray) ++ t498) ++ (⟨#[32]⟩ : ByteArray)).size + t501.size ≤ 9223372036854775807 then (if ((((⟨#[116, 97, 107, 101, 32]⟩ : ByteArray) ++ t498) ++ (⟨#[32]⟩ : ByteArray)) ++ t501).size + 1 ≤ 9223372036854775807 then ((spec_l6Rd_pick.f kj29 s0_0 bt499.2 5).bind fun bt502 => ((spec_l6Dec.f kj29 bt502.1).bind fun t504 => (if (((((⟨#[116, 97, 107, 101, 32]⟩ : ByteArray) ++ t498) ++ (⟨#[32]⟩ : ByteArray)) ++ t501) ++ (⟨#[32]⟩ : ByteArray)).size + t504.size ≤ 9223372036854775807 then (some ((((((⟨#[116, 97, 107, 101, 32]⟩ : ByteArray) ++ t498) ++ (⟨#[32]⟩ : ByteArray)) ++ t501) ++ (⟨#[32]⟩ : ByteArray)) ++ t504, bt502.2)) else (none)))) else (none)) else (none)))) else (none)) else (none)) = some (r1, r2) := H
    have A35 := Ae_q A350
    clear A350
    by_cases c36 : 5 + t498.size ≤ 9223372036854775807
    rotate_left
    ·rw [if_neg c36] at H
     exact absurd H (by simp)
    rw [if_pos c36] at H
    have c36b0 := eq_true c36
    have c36b1 : decide (5 + t498.size ≤ 9223372036854775807) = true := dT_q c36
    try have c36b2 : (9223372036854775807 < 5 + t498.size) = False := eq_false (Nat.not_lt.2 c36)
    by_cases c37 : ((⟨#[116, 97, 107, 101, 32]⟩ : ByteArray) ++ t498).size + 1 ≤ 9223372036854775807
    rotate_left
    ·rw [if_neg c37] at H
     exact absurd H (by simp)
    rw [if_pos c37] at H
    have c37b0 := eq_true c37
    have c37b1 : decide (((⟨#[116, 97, 107, 101, 32]⟩ : ByteArray) ++ t498).size + 1 ≤ 9223372036854775807) = true := dT_q c37
    try have c37b2 : (9223372036854775807 < ((⟨#[116, 97, 107, 101, 32]⟩ : ByteArray) ++ t498).size + 1) = False := eq_false (Nat.not_lt.2 c37)
    have c37b3 : (9223372036854775807 < 5 + t498.size + 1) = False := eq_false (by have h_ := c37; have e0_ : (⟨#[116, 97, 107, 101, 32]⟩ : ByteArray).size = 5 := rfl; simp only [ByteArray.size_append, e0_] at h_; omega)
    replace H := oB_q.mp H
    obtain ⟨⟨t499, t500⟩, A380, H⟩ := H
    replace H : ((spec_l6Dec.f kj29 t499).bind fun t501 => (if (((⟨#[116, 97, 107, 101, 32]⟩ : ByteArray) ++ t498) ++ (⟨#[32]⟩ : ByteArray)).size + t501.size ≤ 9223372036854775807 then (if ((((⟨#[116, 97, 107, 101, 32]⟩ : ByteArray) ++ t498) ++ (⟨#[32]⟩ : ByteArray)) ++ t501).size + 1 ≤ 9223372036854775807 then ((spec_l6Rd_pick.f kj29 s0_0 t500 5).bind fun bt502 => ((spec_l6Dec.f kj29 bt502.1).bind fun t504 => (if (((((⟨#[116, 97, 107, 101, 32]⟩ : ByteArray) ++ t498) ++ (⟨#[32]⟩ : ByteArray)) ++ t501) ++ (⟨#[32]⟩ : ByteArray)).size + t504.size ≤ 9223372036854775807 then (some ((((((⟨#[116, 97, 107, 101, 32]⟩ : ByteArray) ++ t498) ++ (⟨#[32]⟩ : ByteArray)) ++ t501) ++ (⟨#[32]⟩ : ByteArray)) ++ t504, bt502.2)) else (none)))) else (none)) else (none))) = some (r1, r2) := H
    have A38 := Ae_q A380
    clear A380
    replace H := oB_q.mp H
    obtain ⟨t501, A390, H⟩ := H
    replace H : (if (((⟨#[116, 97, 107, 101, 32]⟩ : ByteArray) ++ t498) ++ (⟨#[32]⟩ : ByteArray)).size + t501.size ≤ 9223372036854775807 then (if ((((⟨#[116, 97, 107, 101, 32]⟩ : ByteArray) ++ t498) ++ (⟨#[32]⟩ : ByteArray)) ++ t501).size + 1 ≤ 9223372036854775807 then ((spec_l6Rd_pick.f kj29 s0_0 t500 5).bind fun bt502 => ((spec_l6Dec.f kj29 bt502.1).bind fun t504 => (if (((((⟨#[116, 97, 107, 101, 32]⟩ : ByteArray) ++ t498) ++ (⟨#[32]⟩ : ByteArray)) ++ t501) ++ (⟨#[32]⟩ : ByteArray)).size + t504.size ≤ 9223372036854775807 then (some ((((((⟨#[116, 97, 107, 101, 32]⟩ : ByteArray) ++ t498) ++ (⟨#[32]⟩ : ByteArray)) ++ t501) ++ (⟨#[32]⟩ : ByteArray)) ++ t504, bt502.2)) else (none)))) else (none)) else (none)) = some (r1, r2) := H
    have A39 := Ae_q A390
    clear A390
    by_cases c40 : (((⟨#[116, 97, 107, 101, 32]⟩ : ByteArray) ++ t498) ++ (⟨#[32]⟩ : ByteArray)).size + t501.size ≤ 9223372036854775807
    rotate_left
    ·rw [if_neg c40] at H
     exact absurd H (by simp)
    rw [if_pos c40] at H
    have c40b0 := eq_true c40
    have c40b1 : decide ((((⟨#[116, 97, 107, 101, 32]⟩ : ByteArray) ++ t498) ++ (⟨#[32]⟩ : ByteArray)).size + t501.size ≤ 9223372036854775807) = true := dT_q c40
    try have c40b2 : (9223372036854775807 < (((⟨#[116, 97, 107, 101, 32]⟩ : ByteArray) ++ t498) ++ (⟨#[32]⟩ : ByteArray)).size + t501.size) = False := eq_false (Nat.not_lt.2 c40)
    have c40b3 : (9223372036854775807 < 5 + t498.size + 1 + t501.size) = False := eq_false (by have h_ := c40; have e0_ : (⟨#[116, 97, 107, 101, 32]⟩ : ByteArray).size = 5 := rfl; have e1_ : (⟨#[32]⟩ : ByteArray).size = 1 := rfl; simp only [ByteArray.size_append, e0_, e1_] at h_; omega)
    by_cases c41 : ((((⟨#[116, 97, 107, 101, 32]⟩ : ByteArray) ++ t498) ++ (⟨#[32]⟩ : ByteArray)) ++ t501).size + 1 ≤ 9223372036854775807
    rotate_left
    ·rw [if_neg c41] at H
     exact absurd H (by simp)
    rw [if_pos c41] at H
    have c41b0 := eq_true c41
    have c41b1 : decide (((((⟨#[116, 97, 107, 101, 32]⟩ : ByteArray) ++ t498) ++ (⟨#[32]⟩ : ByteArray)) ++ t501).size + 1 ≤ 9223372036854775807) = true := dT_q c41
    try have c41b2 : (9223372036854775807 < ((((⟨#[116, 97, 107, 101, 32]⟩ : ByteArray) ++ t498) ++ (⟨#[32]⟩ : ByteArray)) ++ t501).size + 1) = False := eq_false (Nat.not_lt.2 c41)
    have c41b3 : (9223372036854775807 < 5 + t498.size + 1 + t501.size + 1) = False := eq_false (by have h_ := c41; have e0_ : (⟨#[116, 97, 107, 101, 32]⟩ : ByteArray).size = 5 := rfl; have e1_ : (⟨#[32]⟩ : ByteArray).size = 1 := rfl; simp only [ByteArray.size_append, e0_, e1_] at h_; omega)
    replace H := oB_q.mp H
    obtain ⟨⟨t502, t503⟩, A420, H⟩ := H
    replace H : ((spec_l6Dec.f kj29 t502).bind fun t504 => (if (((((⟨#[116, 97, 107, 101, 32]⟩ : ByteArray) ++ t498) ++ (⟨#[32]⟩ : ByteArray)) ++ t501) ++ (⟨#[32]⟩ : ByteArray)).size + t504.size ≤ 9223372036854775807 then (some ((((((⟨#[116, 97, 107, 101, 32]⟩ : ByteArray) ++ t498) ++ (⟨#[32]⟩ : ByteArray)) ++ t501) ++ (⟨#[32]⟩ : ByteArray)) ++ t504, t503)) else (none))) = some (r1, r2) := H
    have A42 := Ae_q A420
    clear A420
    replace H := oB_q.mp H
    obtain ⟨t504, A430, H⟩ := H
    replace H : (if (((((⟨#[116, 97, 107, 101, 32]⟩ : ByteArray) ++ t498) ++ (⟨#[32]⟩ : ByteArray)) ++ t501) ++ (⟨#[32]⟩ : ByteArray)).size + t504.size ≤ 9223372036854775807 then (some ((((((⟨#[116, 97, 107, 101, 32]⟩ : ByteArray) ++ t498) ++ (⟨#[32]⟩ : ByteArray)) ++ t501) ++ (⟨#[32]⟩ : ByteArray)) ++ t504, t503)) else (none)) = some (r1, r2) := H
    have A43 := Ae_q A430
    clear A430
    by_cases c44 : (((((⟨#[116, 97, 107, 101, 32]⟩ : ByteArray) ++ t498) ++ (⟨#[32]⟩ : ByteArray)) ++ t501) ++ (⟨#[32]⟩ : ByteArray)).size + t504.size ≤ 9223372036854775807
    rotate_left
    ·rw [if_neg c44] at H
     exact absurd H (by simp)
    rw [if_pos c44] at H
    have c44b0 := eq_true c44
    have c44b1 : decide ((((((⟨#[116, 97, 107, 101, 32]⟩ : ByteArray) ++ t498) ++ (⟨#[32]⟩ : ByteArray)) ++ t501) ++ (⟨#[32]⟩ : ByteArray)).size + t504.size ≤ 9223372036854775807) = true := dT_q c44
    try have c44b2 : (9223372036854775807 < (((((⟨#[116, 97, 107, 101, 32]⟩ : ByteArray) ++ t498) ++ (⟨#[32]⟩ : ByteArray)) ++ t501) ++ (⟨#[32]⟩ : ByteArray)).size + t504.size) = False := eq_false (Nat.not_lt.2 c44)
    have c44b3 : (9223372036854775807 < 5 + t498.size + 1 + t501.size + 1 + t504.size) = False := eq_false (by have h_ := c44; have e0_ : (⟨#[116, 97, 107, 101, 32]⟩ : ByteArray).size = 5 := rfl; have e1_ : (⟨#[32]⟩ : ByteArray).size = 1 := rfl; simp only [ByteArray.size_append, e0_, e1_] at h_; omega)
    simp only [oE_q, pE_q] at H
    obtain ⟨rfl, rfl⟩ := H
    go_wp2_with (first | ((with_reducible refine gC_q (f := 18) rfl ?_); (first | (refine gL_q (some 32) rfl rfl Tryd.func18 m7_q rfl #[.pointer (some ⟨g, 0, none⟩), .int .i64 3] rfl m0_q ?_; (with_reducible refine (spec_l6Rd_pick.calls kj29 g s0_0 t481 3 t496 t497 w0 _ ?side1 ?side2 A34.out).mono ?_)) | (refine gL_q (some 38) rfl rfl Tryd.func18 m7_q rfl #[.pointer (some ⟨g, 0, none⟩), .int .i64 30] rfl m0_q ?_; (with_reducible refine (spec_l6Rd_pick.calls kj29 g s0_0 t497 30 t499 t500 w0 _ ?side1 ?side2 A38.out).mono ?_)) | (refine gL_q (some 43) rfl rfl Tryd.func18 m7_q rfl #[.pointer (some ⟨g, 0, none⟩), .int .i64 5] rfl m0_q ?_; (with_reducible refine (spec_l6Rd_pick.calls kj29 g s0_0 t500 5 t502 t503 w0 _ ?side1 ?side2 A42.out).mono ?_))); (case side1 => exact m5_q); (case side2 => exact m6_q); rintro e w' ⟨rfl, hi, hb, hk⟩; refine ⟨_, rfl, ?_⟩; replace HK := Ae_q (kT_q m9_q hk (.inl rfl)); replace HB := Ae_q (hb); replace HI0 := Ae_q (hi); (try clear hb); (try clear hb2); (try clear hk); (try clear hi)) | ((with_reducible refine gC_q (f := 26) rfl ?_); (first | (refine gL_q (some 34) rfl rfl Tryd.func26 m7_q rfl #[.int .i64 (wrap64 (1 + t496))] rfl m0_q ?_; (with_reducible refine (spec_l6Dec.calls kj29 (wrap64 (1 + t496)) t498 _ A35.out).mono ?_)) | (refine gL_q (some 39) rfl rfl Tryd.func26 m7_q rfl #[.int .i64 t499] rfl m0_q ?_; (with_reducible refine (spec_l6Dec.calls kj29 t499 t501 _ A39.out).mono ?_)) | (refine gL_q (some 44) rfl rfl Tryd.func26 m7_q rfl #[.int .i64 t502] rfl m0_q ?_; (with_reducible refine (spec_l6Dec.calls kj29 t502 t504 _ A43.out).mono ?_))); rintro e w' ⟨rfl, hb⟩; refine ⟨_, rfl, ?_⟩; replace HK := Ae_q (kT_q m9_q (kO_q hb g none) (.inl rfl)); replace HB := Ae_q (bT_q m6_q hb); replace HI0 := Ae_q (IsS39.below m5_q hb); (try clear hb); (try clear hb2); (try clear hk); (try clear hi)))
    go_ret
    exact ⟨m3_q, m5_q, m6_q, m9_q⟩
   replace c33 := fM_q.mpr c33
   subst c33
   have H1 : (if t480 = 5 then ((spec_l6Rd_pick.f kj29 s0_0 t481 22).bind fun bt505 => ((spec_l6Dec.f kj29 bt505.1).bind fun t507 => (if 4 + t507.size ≤ 9223372036854775807 then (if ((⟨#[112, 117, 116, 32]⟩ : ByteArray) ++ t507).size + 1 ≤ 9223372036854775807 then ((spec_l6Rd_pick.f kj29 s0_0 bt505.2 3).bind fun bt508 => ((spec_l6Dec.f kj29 (wrap64 (bt508.1 * 50))).bind fun t510 => (if (((⟨#[112, 117, 116, 32]⟩ : ByteArray) ++ t507) ++ (⟨#[32]⟩ : ByteArray)).size + t510.size ≤ 9223372036854775807 then (if ((((⟨#[112, 117, 116, 32]⟩ : ByteArray) ++ t507) ++ (⟨#[32]⟩ : ByteArray)) ++ t510).size + 1 ≤ 9223372036854775807 then ((spec_l6Rd_pick.f kj29 s0_0 bt508.2 3).bind fun bt511 => ((spec_l6Dec.f kj29 (wrap64 (bt511.1 * 5000))).bind fun t513 => (if (((((⟨#[112, 117, 116, 32]⟩ : ByteArray) ++ t507) ++ (⟨#[32]⟩ : ByteArray)) ++ t510) ++ (⟨#[32]⟩ : ByteArray)).size + t513.size ≤ 9223372036854775807 then (some ((((((⟨#[112, 117, 116, 32]⟩ : ByteArray) ++ t507) ++ (⟨#[32]⟩ : ByteArray)) ++ t510) ++ (⟨#[32]⟩ : ByteArray)) ++ t513, bt511.2)) else (none)))) else (none)) else (none)))) else (none)) else (none)))) else ((spec_l6Rd_pick.f kj29 s0_0 t481 3).bind fun bt514 => ((spec_l6Dec.f kj29 (wrap64 (1 + bt514.1))).bind fun t516 => (if 4 + t516.size ≤ 9223372036854775807 then (if ((⟨#[112, 117, 116, 32]⟩ : ByteArray) ++ t516).size + 1 ≤ 9223372036854775807 then ((spec_l6Rd_pick.f kj29 s0_0 bt514.2 6).bind fun bt517 => ((spec_l6Dec.f kj29 bt517.1).bind fun t519 => (if (((⟨#[112, 117, 116, 32]⟩ : ByteArray) ++ t516) ++ (⟨#[32]⟩ : ByteArray)).size + t519.size ≤ 9223372036854775807 then (if ((((⟨#[112, 117, 116, 32]⟩ : ByteArray) ++ t516) ++ (⟨#[32]⟩ : ByteArray)) ++ t519).size + 1 ≤ 9223372036854775807 then ((spec_l6Rd_pick.f kj29 s0_0 bt517.2 40).bind fun bt520 => ((spec_l6Dec.f kj29 (wrap64 (1 + bt520.1))).bind fun t522 => (if (((((⟨#[112, 117, 116, 32]⟩ : ByteArray) ++ t516) ++ (⟨#[32]⟩ : ByteArray)) ++ t519) ++ (⟨#[32]⟩ : ByteArray)).size + t522.size ≤ 9223372036854775807 then (some ((((((⟨#[112, 117, 116, 32]⟩ : ByteArray) ++ t516) ++ (⟨#[32]⟩ : ByteArray)) ++ t519) ++ (⟨#[32]⟩ : ByteArray)) ++ t522, bt520.2)) else (none)))) else (none)) else (none)))) else (none)) else (none))))) = some (r1, r2) := by rw [if_neg (show ¬ (false = true) by decide)] at H; exact H
   clear H
   have H := H1
   clear H1
   by_cases c51 : t480 = 5
   rotate_left
   ·rw [if_neg c51] at H
    have c51b0 : (t480 == 5) = false := fN_q.mpr c51
    have c51b1 : (t480 != 5) = true := nI_q.mpr c51
    replace H := oB_q.mp H
    obtain ⟨⟨t514, t515⟩, A690, H⟩ := H
    replace H : ((spec_l6Dec.f kj29 (wrap64 (1 + t514))).bind fun t516 => (if 4 + t516.size ≤ 9223372036854775807 then (if ((⟨#[112, 117, 116, 32]⟩ : ByteArray) ++ t516).size + 1 ≤ 9223372036854775807 then ((spec_l6Rd_pick.f kj29 s0_0 t515 6).bind fun bt517 => ((spec_l6Dec.f kj29 bt517.1).bind fun t519 => (if (((⟨#[112, 117, 116, 32]⟩ : ByteArray) ++ t516) ++ (⟨#[32]⟩ : ByteArray)).size + t519.size ≤ 9223372036854775807 then (if ((((⟨#[112, 117, 116, 32]⟩ : ByteArray) ++ t516) ++ (⟨#[32]⟩ : ByteArray)) ++ t519).size + 1 ≤ 9223372036854775807 then ((spec_l6Rd_pick.f kj29 s0_0 bt517.2 40).bind fun bt520 => ((spec_l6Dec.f kj29 (wrap64 (1 + bt520.1))).bind fun t522 => (if (((((⟨#[112, 117, 116, 32]⟩ : ByteArray) ++ t516) ++ (⟨#[32]⟩ : ByteArray)) ++ t519) ++ (⟨#[32]⟩ : ByteArray)).size + t522.size ≤ 9223372036854775807 then (some ((((((⟨#[112, 117, 116, 32]⟩ : ByteArray) ++ t516) ++ (⟨#[32]⟩ : ByteArray)) ++ t519) ++ (⟨#[32]⟩ : ByteArray)) ++ t522, bt520.2)) else (none)))) else (none)) else (none)))) else (none)) else (none))) = some (r1, r2) := H
    have A69 := Ae_q A690
    clear A690
    replace H := oB_q.mp H
    obtain ⟨t516, A700, H⟩ := H
    replace H : (if 4 + t516.size ≤ 9223372036854775807 then (if ((⟨#[112, 117, 116, 32]⟩ : ByteArray) ++ t516).size + 1 ≤ 9223372036854775807 then ((spec_l6Rd_pick.f kj29 s0_0 t515 6).bind fun bt517 => ((spec_l6Dec.f kj29 bt517.1).bind fun t519 => (if (((⟨#[112, 117, 116, 32]⟩ : ByteArray) ++ t516) ++ (⟨#[32]⟩ : ByteArray)).size + t519.size ≤ 9223372036854775807 then (if ((((⟨#[112, 117, 116, 32]⟩ : ByteArray) ++ t516) ++ (⟨#[32]⟩ : ByteArray)) ++ t519).size + 1 ≤ 9223372036854775807 then ((spec_l6Rd_pick.f kj29 s0_0 bt517.2 40).bind fun bt520 => ((spec_l6Dec.f kj29 (wrap64 (1 + bt520.1))).bind fun t522 => (if (((((⟨#[112, 117, 116, 32]⟩ : ByteArray) ++ t516) ++ (⟨#[32]⟩ : ByteArray)) ++ t519) ++ (⟨#[32]⟩ : ByteArray)).size + t522.size ≤ 9223372036854775807 then (some ((((((⟨#[112, 117, 116, 32]⟩ : ByteArray) ++ t516) ++ (⟨#[32]⟩ : ByteArray)) ++ t519) ++ (⟨#[32]⟩ : ByteArray)) ++ t522, bt520.2)) else (none)))) else (none)) else (none)))) else (none)) else (none)) = some (r1, r2) := H
    have A70 := Ae_q A700
    clear A700
    by_cases c71 : 4 + t516.size ≤ 9223372036854775807
    rotate_left
    ·rw [if_neg c71] at H
     exact absurd H (by simp)
    rw [if_pos c71] at H
    have c71b0 := eq_true c71
    have c71b1 : decide (4 + t516.size ≤ 9223372036854775807) = true := dT_q c71
    try have c71b2 : (9223372036854775807 < 4 + t516.size) = False := eq_false (Nat.not_lt.2 c71)
    by_cases c72 : ((⟨#[112, 117, 116, 32]⟩ : ByteArray) ++ t516).size + 1 ≤ 9223372036854775807
    rotate_left
    ·rw [if_neg c72] at H
     exact absurd H (by simp)
    rw [if_pos c72] at H
    have c72b0 := eq_true c72
    have c72b1 : decide (((⟨#[112, 117, 116, 32]⟩ : ByteArray) ++ t516).size + 1 ≤ 9223372036854775807) = true := dT_q c72
    try have c72b2 : (9223372036854775807 < ((⟨#[112, 117, 116, 32]⟩ : ByteArray) ++ t516).size + 1) = False := eq_false (Nat.not_lt.2 c72)
    have c72b3 : (9223372036854775807 < 4 + t516.size + 1) = False := eq_false (by have h_ := c72; have e0_ : (⟨#[112, 117, 116, 32]⟩ : ByteArray).size = 4 := rfl; simp only [ByteArray.size_append, e0_] at h_; omega)
    replace H := oB_q.mp H
    obtain ⟨⟨t517, t518⟩, A730, H⟩ := H
    replace H : ((spec_l6Dec.f kj29 t517).bind fun t519 => (if (((⟨#[112, 117, 116, 32]⟩ : ByteArray) ++ t516) ++ (⟨#[32]⟩ : ByteArray)).size + t519.size ≤ 9223372036854775807 then (if ((((⟨#[112, 117, 116, 32]⟩ : ByteArray) ++ t516) ++ (⟨#[32]⟩ : ByteArray)) ++ t519).size + 1 ≤ 9223372036854775807 then ((spec_l6Rd_pick.f kj29 s0_0 t518 40).bind fun bt520 => ((spec_l6Dec.f kj29 (wrap64 (1 + bt520.1))).bind fun t522 => (if (((((⟨#[112, 117, 116, 32]⟩ : ByteArray) ++ t516) ++ (⟨#[32]⟩ : ByteArray)) ++ t519) ++ (⟨#[32]⟩ : ByteArray)).size + t522.size ≤ 9223372036854775807 then (some ((((((⟨#[112, 117, 116, 32]⟩ : ByteArray) ++ t516) ++ (⟨#[32]⟩ : ByteArray)) ++ t519) ++ (⟨#[32]⟩ : ByteArray)) ++ t522, bt520.2)) else (none)))) else (none)) else (none))) = some (r1, r2) := H
    have A73 := Ae_q A730
    clear A730
    replace H := oB_q.mp H
    obtain ⟨t519, A740, H⟩ := H
    replace H : (if (((⟨#[112, 117, 116, 32]⟩ : ByteArray) ++ t516) ++ (⟨#[32]⟩ : ByteArray)).size + t519.size ≤ 9223372036854775807 then (if ((((⟨#[112, 117, 116, 32]⟩ : ByteArray) ++ t516) ++ (⟨#[32]⟩ : ByteArray)) ++ t519).size + 1 ≤ 9223372036854775807 then ((spec_l6Rd_pick.f kj29 s0_0 t518 40).bind fun bt520 => ((spec_l6Dec.f kj29 (wrap64 (1 + bt520.1))).bind fun t522 => (if (((((⟨#[112, 117, 116, 32]⟩ : ByteArray) ++ t516) ++ (⟨#[32]⟩ : ByteArray)) ++ t519) ++ (⟨#[32]⟩ : ByteArray)).size + t522.size ≤ 9223372036854775807 then (some ((((((⟨#[112, 117, 116, 32]⟩ : ByteArray) ++ t516) ++ (⟨#[32]⟩ : ByteArray)) ++ t519) ++ (⟨#[32]⟩ : ByteArray)) ++ t522, bt520.2)) else (none)))) else (none)) else (none)) = some (r1, r2) := H
    have A74 := Ae_q A740
    clear A740
    by_cases c75 : (((⟨#[112, 117, 116, 32]⟩ : ByteArray) ++ t516) ++ (⟨#[32]⟩ : ByteArray)).size + t519.size ≤ 9223372036854775807
    rotate_left
    ·rw [if_neg c75] at H
     exact absurd H (by simp)
    rw [if_pos c75] at H
    have c75b0 := eq_true c75
    have c75b1 : decide ((((⟨#[112, 117, 116, 32]⟩ : ByteArray) ++ t516) ++ (⟨#[32]⟩ : ByteArray)).size + t519.size ≤ 9223372036854775807) = true := dT_q c75
    try have c75b2 : (9223372036854775807 < (((⟨#[112, 117, 116, 32]⟩ : ByteArray) ++ t516) ++ (⟨#[32]⟩ : ByteArray)).size + t519.size) = False := eq_false (Nat.not_lt.2 c75)
    have c75b3 : (9223372036854775807 < 4 + t516.size + 1 + t519.size) = False := eq_false (by have h_ := c75; have e0_ : (⟨#[112, 117, 116, 32]⟩ : ByteArray).size = 4 := rfl; have e1_ : (⟨#[32]⟩ : ByteArray).size = 1 := rfl; simp only [ByteArray.size_append, e0_, e1_] at h_; omega)
    by_cases c76 : ((((⟨#[112, 117, 116, 32]⟩ : ByteArray) ++ t516) ++ (⟨#[32]⟩ : ByteArray)) ++ t519).size + 1 ≤ 9223372036854775807
    rotate_left
    ·rw [if_neg c76] at H
     exact absurd H (by simp)
    rw [if_pos c76] at H
    have c76b0 := eq_true c76
    have c76b1 : decide (((((⟨#[112, 117, 116, 32]⟩ : ByteArray) ++ t516) ++ (⟨#[32]⟩ : ByteArray)) ++ t519).size + 1 ≤ 9223372036854775807) = true := dT_q c76
    try have c76b2 : (9223372036854775807 < ((((⟨#[112, 117, 116, 32]⟩ : ByteArray) ++ t516) ++ (⟨#[32]⟩ : ByteArray)) ++ t519).size + 1) = False := eq_false (Nat.not_lt.2 c76)
    have c76b3 : (9223372036854775807 < 4 + t516.size + 1 + t519.size + 1) = False := eq_false (by have h_ := c76; have e0_ : (⟨#[112, 117, 116, 32]⟩ : ByteArray).size = 4 := rfl; have e1_ : (⟨#[32]⟩ : ByteArray).size = 1 := rfl; simp only [ByteArray.size_append, e0_, e1_] at h_; omega)
    replace H := oB_q.mp H
    obtain ⟨⟨t520, t521⟩, A770, H⟩ := H
    replace H : ((spec_l6Dec.f kj29 (wrap64 (1 + t520))).bind fun t522 => (if (((((⟨#[112, 117, 116, 32]⟩ : ByteArray) ++ t516) ++ (⟨#[32]⟩ : ByteArray)) ++ t519) ++ (⟨#[32]⟩ : ByteArray)).size + t522.size ≤ 9223372036854775807 then (some ((((((⟨#[112, 117, 116, 32]⟩ : ByteArray) ++ t516) ++ (⟨#[32]⟩ : ByteArray)) ++ t519) ++ (⟨#[32]⟩ : ByteArray)) ++ t522, t521)) else (none))) = some (r1, r2) := H
    have A77 := Ae_q A770
    clear A770
    replace H := oB_q.mp H
    obtain ⟨t522, A780, H⟩ := H
    replace H : (if (((((⟨#[112, 117, 116, 32]⟩ : ByteArray) ++ t516) ++ (⟨#[32]⟩ : ByteArray)) ++ t519) ++ (⟨#[32]⟩ : ByteArray)).size + t522.size ≤ 9223372036854775807 then (some ((((((⟨#[112, 117, 116, 32]⟩ : ByteArray) ++ t516) ++ (⟨#[32]⟩ : ByteArray)) ++ t519) ++ (⟨#[32]⟩ : ByteArray)) ++ t522, t521)) else (none)) = some (r1, r2) := H
    have A78 := Ae_q A780
    clear A780
    by_cases c79 : (((((⟨#[112, 117, 116, 32]⟩ : ByteArray) ++ t516) ++ (⟨#[32]⟩ : ByteArray)) ++ t519) ++ (⟨#[32]⟩ : ByteArray)).size + t522.size ≤ 9223372036854775807
    rotate_left
    ·rw [if_neg c79] at H
     exact absurd H (by simp)
    rw [if_pos c79] at H
    have c79b0 := eq_true c79
    have c79b1 : decide ((((((⟨#[112, 117, 116, 32]⟩ : ByteArray) ++ t516) ++ (⟨#[32]⟩ : ByteArray)) ++ t519) ++ (⟨#[32]⟩ : ByteArray)).size + t522.size ≤ 9223372036854775807) = true := dT_q c79
    try have c79b2 : (9223372036854775807 < (((((⟨#[112, 117, 116, 32]⟩ : ByteArray) ++ t516) ++ (⟨#[32]⟩ : ByteArray)) ++ t519) ++ (⟨#[32]⟩ : ByteArray)).size + t522.size) = False := eq_false (Nat.not_lt.2 c79)
    have c79b3 : (9223372036854775807 < 4 + t516.size + 1 + t519.size + 1 + t522.size) = False := eq_false (by have h_ := c79; have e0_ : (⟨#[112, 117, 116, 32]⟩ : ByteArray).size = 4 := rfl; have e1_ : (⟨#[32]⟩ : ByteArray).size = 1 := rfl; simp only [ByteArray.size_append, e0_, e1_] at h_; omega)
    simp only [oE_q, pE_q] at H
    obtain ⟨rfl, rfl⟩ := H
    go_wp2_with (first | ((with_reducible refine gC_q (f := 18) rfl ?_); (first | (refine gL_q (some 65) rfl rfl Tryd.func18 m7_q rfl #[.pointer (some ⟨g, 0, none⟩), .int .i64 3] rfl m0_q ?_; (with_reducible refine (spec_l6Rd_pick.calls kj29 g s0_0 t481 3 t514 t515 w0 _ ?side1 ?side2 A69.out).mono ?_)) | (refine gL_q (some 71) rfl rfl Tryd.func18 m7_q rfl #[.pointer (some ⟨g, 0, none⟩), .int .i64 6] rfl m0_q ?_; (with_reducible refine (spec_l6Rd_pick.calls kj29 g s0_0 t515 6 t517 t518 w0 _ ?side1 ?side2 A73.out).mono ?_)) | (refine gL_q (some 76) rfl rfl Tryd.func18 m7_q rfl #[.pointer (some ⟨g, 0, none⟩), .int .i64 40] rfl m0_q ?_; (with_reducible refine (spec_l6Rd_pick.calls kj29 g s0_0 t518 40 t520 t521 w0 _ ?side1 ?side2 A77.out).mono ?_))); (case side1 => exact m5_q); (case side2 => exact m6_q); rintro e w' ⟨rfl, hi, hb, hk⟩; refine ⟨_, rfl, ?_⟩; replace HK := Ae_q (kT_q m9_q hk (.inl rfl)); replace HB := Ae_q (hb); replace HI0 := Ae_q (hi); (try clear hb); (try clear hb2); (try clear hk); (try clear hi)) | ((with_reducible refine gC_q (f := 26) rfl ?_); (first | (refine gL_q (some 67) rfl rfl Tryd.func26 m7_q rfl #[.int .i64 (wrap64 (1 + t514))] rfl m0_q ?_; (with_reducible refine (spec_l6Dec.calls kj29 (wrap64 (1 + t514)) t516 _ A70.out).mono ?_)) | (refine gL_q (some 72) rfl rfl Tryd.func26 m7_q rfl #[.int .i64 t517] rfl m0_q ?_; (with_reducible refine (spec_l6Dec.calls kj29 t517 t519 _ A74.out).mono ?_)) | (refine gL_q (some 78) rfl rfl Tryd.func26 m7_q rfl #[.int .i64 (wrap64 (1 + t520))] rfl m0_q ?_; (with_reducible refine (spec_l6Dec.calls kj29 (wrap64 (1 + t520)) t522 _ A78.out).mono ?_))); rintro e w' ⟨rfl, hb⟩; refine ⟨_, rfl, ?_⟩; replace HK := Ae_q (kT_q m9_q (kO_q hb g none) (.inl rfl)); replace HB := Ae_q (bT_q m6_q hb); replace HI0 := Ae_q (IsS39.below m5_q hb); (try clear hb); (try clear hb2); (try clear hk); (try clear hi)))
    go_ret
    exact ⟨m3_q, m5_q, m6_q, m9_q⟩
   rw [if_pos c51] at H
   have c51b0 : (t480 == 5) = true := beq_iff_eq.mpr c51
   have c51b1 : (t480 != 5) = false := nE_q.mpr c51
   clear c51
   replace H := oB_q.mp H
   obtain ⟨⟨t505, t506⟩, A520, H⟩ := H
   replace H : ((spec_l6Dec.f kj29 t505).bind fun t507 => (if 4 + t507.size ≤ 9223372036854775807 then (if ((⟨#[112, 117, 116, 32]⟩ : ByteArray) ++ t507).size + 1 ≤ 9223372036854775807 then ((spec_l6Rd_pick.f kj29 s0_0 t506 3).bind fun bt508 => ((spec_l6Dec.f kj29 (wrap64 (bt508.1 * 50))).bind fun t510 => (if (((⟨#[112, 117, 116, 32]⟩ : ByteArray) ++ t507) ++ (⟨#[32]⟩ : ByteArray)).size + t510.size ≤ 9223372036854775807 then (if ((((⟨#[112, 117, 116, 32]⟩ : ByteArray) ++ t507) ++ (⟨#[32]⟩ : ByteArray)) ++ t510).size + 1 ≤ 9223372036854775807 then ((spec_l6Rd_pick.f kj29 s0_0 bt508.2 3).bind fun bt511 => ((spec_l6Dec.f kj29 (wrap64 (bt511.1 * 5000))).bind fun t513 => (if (((((⟨#[112, 117, 116, 32]⟩ : ByteArray) ++ t507) ++ (⟨#[32]⟩ : ByteArray)) ++ t510) ++ (⟨#[32]⟩ : ByteArray)).size + t513.size ≤ 9223372036854775807 then (some ((((((⟨#[112, 117, 116, 32]⟩ : ByteArray) ++ t507) ++ (⟨#[32]⟩ : ByteArray)) ++ t510) ++ (⟨#[32]⟩ : ByteArray)) ++ t513, bt511.2)) else (none)))) else (none)) else (none)))) else (none)) else (none))) = some (r1, r2) := H
   have A52 := Ae_q A520
   clear A520
   replace H := oB_q.mp H
   obtain ⟨t507, A530, H⟩ := H
   replace H : (if 4 + t507.size ≤ 9223372036854775807 then (if ((⟨#[112, 117, 116, 32]⟩ : ByteArray) ++ t507).size + 1 ≤ 9223372036854775807 then ((spec_l6Rd_pick.f kj29 s0_0 t506 3).bind fun bt508 => ((spec_l6Dec.f kj29 (wrap64 (bt508.1 * 50))).bind fun t510 => (if (((⟨#[112, 117, 116, 32]⟩ : ByteArray) ++ t507) ++ (⟨#[32]⟩ : ByteArray)).size + t510.size ≤ 9223372036854775807 then (if ((((⟨#[112, 117, 116, 32]⟩ : ByteArray) ++ t507) ++ (⟨#[32]⟩ : ByteArray)) ++ t510).size + 1 ≤ 9223372036854775807 then ((spec_l6Rd_pick.f kj29 s0_0 bt508.2 3).bind fun bt511 => ((spec_l6Dec.f kj29 (wrap64 (bt511.1 * 5000))).bind fun t513 => (if (((((⟨#[112, 117, 116, 32]⟩ : ByteArray) ++ t507) ++ (⟨#[32]⟩ : ByteArray)) ++ t510) ++ (⟨#[32]⟩ : ByteArray)).size + t513.size ≤ 9223372036854775807 then (some ((((((⟨#[112, 117, 116, 32]⟩ : ByteArray) ++ t507) ++ (⟨#[32]⟩ : ByteArray)) ++ t510) ++ (⟨#[32]⟩ : ByteArray)) ++ t513, bt511.2)) else (none)))) else (none)) else (none)))) else (none)) else (none)) = some (r1, r2) := H
   have A53 := Ae_q A530
   clear A530
   by_cases c54 : 4 + t507.size ≤ 9223372036854775807
   rotate_left
   ·rw [if_neg c54] at H
    exact absurd H (by simp)
   rw [if_pos c54] at H
   have c54b0 := eq_true c54
   have c54b1 : decide (4 + t507.size ≤ 9223372036854775807) = true := dT_q c54
   try have c54b2 : (9223372036854775807 < 4 + t507.size) = False := eq_false (Nat.not_lt.2 c54)
   by_cases c55 : ((⟨#[112, 117, 116, 32]⟩ : ByteArray) ++ t507).size + 1 ≤ 9223372036854775807
   rotate_left
   ·rw [if_neg c55] at H
    exact absurd H (by simp)
   rw [if_pos c55] at H
   have c55b0 := eq_true c55
   have c55b1 : decide (((⟨#[112, 117, 116, 32]⟩ : ByteArray) ++ t507).size + 1 ≤ 9223372036854775807) = true := dT_q c55
   try have c55b2 : (9223372036854775807 < ((⟨#[112, 117, 116, 32]⟩ : ByteArray) ++ t507).size + 1) = False := eq_false (Nat.not_lt.2 c55)
   have c55b3 : (9223372036854775807 < 4 + t507.size + 1) = False := eq_false (by have h_ := c55; have e0_ : (⟨#[112, 117, 116, 32]⟩ : ByteArray).size = 4 := rfl; simp only [ByteArray.size_append, e0_] at h_; omega)
   replace H := oB_q.mp H
   obtain ⟨⟨t508, t509⟩, A560, H⟩ := H
   replace H : ((spec_l6Dec.f kj29 (wrap64 (t508 * 50))).bind fun t510 => (if (((⟨#[112, 117, 116, 32]⟩ : ByteArray) ++ t507) ++ (⟨#[32]⟩ : ByteArray)).size + t510.size ≤ 9223372036854775807 then (if ((((⟨#[112, 117, 116, 32]⟩ : ByteArray) ++ t507) ++ (⟨#[32]⟩ : ByteArray)) ++ t510).size + 1 ≤ 9223372036854775807 then ((spec_l6Rd_pick.f kj29 s0_0 t509 3).bind fun bt511 => ((spec_l6Dec.f kj29 (wrap64 (bt511.1 * 5000))).bind fun t513 => (if (((((⟨#[112, 117, 116, 32]⟩ : ByteArray) ++ t507) ++ (⟨#[32]⟩ : ByteArray)) ++ t510) ++ (⟨#[32]⟩ : ByteArray)).size + t513.size ≤ 9223372036854775807 then (some ((((((⟨#[112, 117, 116, 32]⟩ : ByteArray) ++ t507) ++ (⟨#[32]⟩ : ByteArray)) ++ t510) ++ (⟨#[32]⟩ : ByteArray)) ++ t513, bt511.2)) else (none)))) else (none)) else (none))) = some (r1, r2) := H
   have A56 := Ae_q A560
   clear A560
   replace H := oB_q.mp H
   obtain ⟨t510, A570, H⟩ := H
   replace H : (if (((⟨#[112, 117, 116, 32]⟩ : ByteArray) ++ t507) ++ (⟨#[32]⟩ : ByteArray)).size + t510.size ≤ 9223372036854775807 then (if ((((⟨#[112, 117, 116, 32]⟩ : ByteArray) ++ t507) ++ (⟨#[32]⟩ : ByteArray)) ++ t510).size + 1 ≤ 9223372036854775807 then ((spec_l6Rd_pick.f kj29 s0_0 t509 3).bind fun bt511 => ((spec_l6Dec.f kj29 (wrap64 (bt511.1 * 5000))).bind fun t513 => (if (((((⟨#[112, 117, 116, 32]⟩ : ByteArray) ++ t507) ++ (⟨#[32]⟩ : ByteArray)) ++ t510) ++ (⟨#[32]⟩ : ByteArray)).size + t513.size ≤ 9223372036854775807 then (some ((((((⟨#[112, 117, 116, 32]⟩ : ByteArray) ++ t507) ++ (⟨#[32]⟩ : ByteArray)) ++ t510) ++ (⟨#[32]⟩ : ByteArray)) ++ t513, bt511.2)) else (none)))) else (none)) else (none)) = some (r1, r2) := H
   have A57 := Ae_q A570
   clear A570
   by_cases c58 : (((⟨#[112, 117, 116, 32]⟩ : ByteArray) ++ t507) ++ (⟨#[32]⟩ : ByteArray)).size + t510.size ≤ 9223372036854775807
   rotate_left
   ·rw [if_neg c58] at H
    exact absurd H (by simp)
   rw [if_pos c58] at H
   have c58b0 := eq_true c58
   have c58b1 : decide ((((⟨#[112, 117, 116, 32]⟩ : ByteArray) ++ t507) ++ (⟨#[32]⟩ : ByteArray)).size + t510.size ≤ 9223372036854775807) = true := dT_q c58
   try have c58b2 : (9223372036854775807 < (((⟨#[112, 117, 116, 32]⟩ : ByteArray) ++ t507) ++ (⟨#[32]⟩ : ByteArray)).size + t510.size) = False := eq_false (Nat.not_lt.2 c58)
   have c58b3 : (9223372036854775807 < 4 + t507.size + 1 + t510.size) = False := eq_false (by have h_ := c58; have e0_ : (⟨#[112, 117, 116, 32]⟩ : ByteArray).size = 4 := rfl; have e1_ : (⟨#[32]⟩ : ByteArray).size = 1 := rfl; simp only [ByteArray.size_append, e0_, e1_] at h_; omega)
   by_cases c59 : ((((⟨#[112, 117, 116, 32]⟩ : ByteArray) ++ t507) ++ (⟨#[32]⟩ : ByteArray)) ++ t510).size + 1 ≤ 9223372036854775807
   rotate_left
   ·rw [if_neg c59] at H
    exact absurd H (by simp)
   rw [if_pos c59] at H
   have c59b0 := eq_true c59
   have c59b1 : decide (((((⟨#[112, 117, 116, 32]⟩ : ByteArray) ++ t507) ++ (⟨#[32]⟩ : ByteArray)) ++ t510).size + 1 ≤ 9223372036854775807) = true := dT_q c59
   try have c59b2 : (9223372036854775807 < ((((⟨#[112, 117, 116, 32]⟩ : ByteArray) ++ t507) ++ (⟨#[32]⟩ : ByteArray)) ++ t510).size + 1) = False := eq_false (Nat.not_lt.2 c59)
   have c59b3 : (9223372036854775807 < 4 + t507.size + 1 + t510.size + 1) = False := eq_false (by have h_ := c59; have e0_ : (⟨#[112, 117, 116, 32]⟩ : ByteArray).size = 4 := rfl; have e1_ : (⟨#[32]⟩ : ByteArray).size = 1 := rfl; simp only [ByteArray.size_append, e0_, e1_] at h_; omega)
   replace H := oB_q.mp H
   obtain ⟨⟨t511, t512⟩, A600, H⟩ := H
   replace H : ((spec_l6Dec.f kj29 (wrap64 (t511 * 5000))).bind fun t513 => (if (((((⟨#[112, 117, 116, 32]⟩ : ByteArray) ++ t507) ++ (⟨#[32]⟩ : ByteArray)) ++ t510) ++ (⟨#[32]⟩ : ByteArray)).size + t513.size ≤ 9223372036854775807 then (some ((((((⟨#[112, 117, 116, 32]⟩ : ByteArray) ++ t507) ++ (⟨#[32]⟩ : ByteArray)) ++ t510) ++ (⟨#[32]⟩ : ByteArray)) ++ t513, t512)) else (none))) = some (r1, r2) := H
   have A60 := Ae_q A600
   clear A600
   replace H := oB_q.mp H
   obtain ⟨t513, A610, H⟩ := H
   replace H : (if (((((⟨#[112, 117, 116, 32]⟩ : ByteArray) ++ t507) ++ (⟨#[32]⟩ : ByteArray)) ++ t510) ++ (⟨#[32]⟩ : ByteArray)).size + t513.size ≤ 9223372036854775807 then (some ((((((⟨#[112, 117, 116, 32]⟩ : ByteArray) ++ t507) ++ (⟨#[32]⟩ : ByteArray)) ++ t510) ++ (⟨#[32]⟩ : ByteArray)) ++ t513, t512)) else (none)) = some (r1, r2) := H
   have A61 := Ae_q A610
   clear A610
   by_cases c62 : (((((⟨#[112, 117, 116, 32]⟩ : ByteArray) ++ t507) ++ (⟨#[32]⟩ : ByteArray)) ++ t510) ++ (⟨#[32]⟩ : ByteArray)).size + t513.size ≤ 9223372036854775807
   rotate_left
   ·rw [if_neg c62] at H
    exact absurd H (by simp)
   rw [if_pos c62] at H
   have c62b0 := eq_true c62
   have c62b1 : decide ((((((⟨#[112, 117, 116, 32]⟩ : ByteArray) ++ t507) ++ (⟨#[32]⟩ : ByteArray)) ++ t510) ++ (⟨#[32]⟩ : ByteArray)).size + t513.size ≤ 9223372036854775807) = true := dT_q c62
   try have c62b2 : (9223372036854775807 < (((((⟨#[112, 117, 116, 32]⟩ : ByteArray) ++ t507) ++ (⟨#[32]⟩ : ByteArray)) ++ t510) ++ (⟨#[32]⟩ : ByteArray)).size + t513.size) = False := eq_false (Nat.not_lt.2 c62)
   have c62b3 : (9223372036854775807 < 4 + t507.size + 1 + t510.size + 1 + t513.size) = False := eq_false (by have h_ := c62; have e0_ : (⟨#[112, 117, 116, 32]⟩ : ByteArray).size = 4 := rfl; have e1_ : (⟨#[32]⟩ : ByteArray).size = 1 := rfl; simp only [ByteArray.size_append, e0_, e1_] at h_; omega)
   simp only [oE_q, pE_q] at H
   obtain ⟨rfl, rfl⟩ := H
   go_wp2_with (first | ((with_reducible refine gC_q (f := 18) rfl ?_); (first | (refine gL_q (some 49) rfl rfl Tryd.func18 m7_q rfl #[.pointer (some ⟨g, 0, none⟩), .int .i64 22] rfl m0_q ?_; (with_reducible refine (spec_l6Rd_pick.calls kj29 g s0_0 t481 22 t505 t506 w0 _ ?side1 ?side2 A52.out).mono ?_)) | (refine gL_q (some 54) rfl rfl Tryd.func18 m7_q rfl #[.pointer (some ⟨g, 0, none⟩), .int .i64 3] rfl m0_q ?_; (with_reducible refine (spec_l6Rd_pick.calls kj29 g s0_0 t506 3 t508 t509 w0 _ ?side1 ?side2 A56.out).mono ?_)) | (refine gL_q (some 60) rfl rfl Tryd.func18 m7_q rfl #[.pointer (some ⟨g, 0, none⟩), .int .i64 3] rfl m0_q ?_; (with_reducible refine (spec_l6Rd_pick.calls kj29 g s0_0 t509 3 t511 t512 w0 _ ?side1 ?side2 A60.out).mono ?_))); (case side1 => exact m5_q); (case side2 => exact m6_q); rintro e w' ⟨rfl, hi, hb, hk⟩; refine ⟨_, rfl, ?_⟩; replace HK := Ae_q (kT_q m9_q hk (.inl rfl)); replace HB := Ae_q (hb); replace HI0 := Ae_q (hi); (try clear hb); (try clear hb2); (try clear hk); (try clear hi)) | ((with_reducible refine gC_q (f := 26) rfl ?_); (first | (refine gL_q (some 50) rfl rfl Tryd.func26 m7_q rfl #[.int .i64 t505] rfl m0_q ?_; (with_reducible refine (spec_l6Dec.calls kj29 t505 t507 _ A53.out).mono ?_)) | (refine gL_q (some 56) rfl rfl Tryd.func26 m7_q rfl #[.int .i64 (wrap64 (t508 * 50))] rfl m0_q ?_; (with_reducible refine (spec_l6Dec.calls kj29 (wrap64 (t508 * 50)) t510 _ A57.out).mono ?_)) | (refine gL_q (some 62) rfl rfl Tryd.func26 m7_q rfl #[.int .i64 (wrap64 (t511 * 5000))] rfl m0_q ?_; (with_reducible refine (spec_l6Dec.calls kj29 (wrap64 (t511 * 5000)) t513 _ A61.out).mono ?_))); rintro e w' ⟨rfl, hb⟩; refine ⟨_, rfl, ?_⟩; replace HK := Ae_q (kT_q m9_q (kO_q hb g none) (.inl rfl)); replace HB := Ae_q (bT_q m6_q hb); replace HI0 := Ae_q (IsS39.below m5_q hb); (try clear hb); (try clear hb2); (try clear hk); (try clear hi)))
   go_ret
   exact ⟨m3_q, m5_q, m6_q, m9_q⟩

abbrev i0_q := @IsS39.drewN
abbrev i1_q := @IsS39.ge
abbrev i2_q := @IsS39.alloc
abbrev i3_q := @IsS39.drew
abbrev i4_q := @IsS39.set_1
end Go.Proofs.YtbclhpibilbdbaaDoor.PSc
