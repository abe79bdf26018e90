import Derived.Test.YtnckblolijkdaaaVJPBtx0
import Derived.Test.YtnckblolijkdaaaVJPBtx7
import Derived.Test.YtnckblolijkdaaaVJPBtx15
import Derived.Test.YtnckblolijkdaaaVJWSortC
namespace Go.Proofs.Ytnckblolijkdaaa.PBt
open Go.RowKit Go.Proofs.YtnckblolijkdaaaW.PrintWords Go.Proofs.YtnckblolijkdaaaW.PrintLast Go.Proofs.YtnckblolijkdaaaW.PrintMore
attribute [local go_sem] max2_int min2_int max_two min_two max_three min_three max_four min_four
set_option linter.unusedVariables false
set_option linter.unusedSimpArgs false

-- HAND rounds=1 making=1
-- HANDIMPORT Derived.Test.YtnckblolijkdaaaWSortC
theorem rg_take (n m : Nat) (ys : List Int) (cur : Array Value) (hl : ys.length = n) (hm : m ≤ n) (hc : n ≤ cur.size) : (Go.Sort.putCells (Value.int .i64) 0 ys.toArray cur).toList.take (m * 1) = encs (Value.int .i64) (ys.take m) := by
 apply List.ext_getElem?
 intro i
 simp only [Go.Sort.putCells, encs, Nat.mul_one]
 by_cases hi : i < m
 rotate_left
 ·rw [List.getElem?_take_eq_none (by omega), List.getElem?_eq_none (by simp; omega)]
 have h1 : i < ys.length := by omega
 have h2 : i < cur.size := by omega
 rw [List.getElem?_take_of_lt hi]
 simp [hi, h1, h2]
theorem rg_put {w : World} {base g cap q : Nat} {xs ys : List Int} {os : Array Obj} (h : w.ownsRow base 3 1 (.slice (some ⟨g, 0, none⟩) xs.length cap) xs.length (encs (Value.int .i64) xs)) (hl : ys.length = xs.length) (m : Nat) (hm : m ≤ xs.length) :
    (Go.Sort.grow (Go.Sort.putRow (Value.int .i64) (Go.Sort.ahead w q) g 0 ys.toArray) os).ownsRow base 3 1 (.slice (some ⟨g, 0, none⟩) m cap) m (encs (Value.int .i64) (ys.take m)) ∧ Below base w (Go.Sort.grow (Go.Sort.putRow (Value.int .i64) (Go.Sort.ahead w q) g 0 ys.toArray) os) := by
 obtain ⟨hlen, h2⟩ := h
 rcases h2 with ⟨e, _⟩ | ⟨g', cap', cur, e, hb, hh, hnc, hcm, hsz, htk⟩
 ·cases e
 cases e
 have hg : g < w.heap.size := blk_lt hh
 refine ⟨⟨by simp [encs]; omega, .inr ⟨g, cap, Go.Sort.putCells (Value.int .i64) 0 ys.toArray cur, rfl, hb, ?_, by omega, hcm, by simpa [Go.Sort.putCells] using hsz, rg_take _ _ _ _ hl hm (by omega)⟩⟩, ?_⟩
 ·simp only [Go.Sort.grow, Go.Sort.putRow, Go.Sort.mapBlock, Go.Sort.ahead]
  rw [Array.getElem?_append_left (by simpa using hg), Array.getElem?_modify, if_pos rfl, hh]
  rfl
 refine ⟨rfl, rfl, rfl, by simp [Go.Sort.grow, Go.Sort.ahead], fun k hk => ?_⟩
 simp only [Go.Sort.grow, Go.Sort.putRow, Go.Sort.mapBlock, Go.Sort.ahead]
 rw [Array.getElem?_append_left (by simp; omega), Array.getElem?_modify, if_neg (by omega)]
theorem rg_holds {w : World} {base g cap : Nat} {xs : List Int} (h : w.ownsRow base 3 1 (.slice (some ⟨g, 0, none⟩) xs.length cap) xs.length (encs (Value.int .i64) xs)) : Go.Sort.Holds (Value.int .i64) w g 0 xs.toArray ∧ g < w.heap.size ∧ xs.length ≤ cap ∧ cap ≤ maxLen := by
 obtain ⟨hlen, h2⟩ := h
 rcases h2 with ⟨e, _⟩ | ⟨g', cap', cur, e, hb, hh, hnc, hcm, hsz, htk⟩
 ·cases e
 cases e
 refine ⟨fun j hj => ⟨?_, by simp [World.frozen?, hh]⟩, blk_lt hh, hnc, hcm⟩
 have hj' : j < xs.length := by simpa using hj
 rw [Nat.zero_add, bC_q hh j]
 have : (cur.toList.take (xs.length * 1))[j]? = (encs (Value.int .i64) xs)[j]? := by rw [htk]
 rw [List.getElem?_take_of_lt (by omega)] at this
 simp only [encs, List.getElem?_map, Array.getElem?_toList] at this
 rw [this]; simp [hj']
theorem rg_sort {base : Nat} {ok : Nat → Prop} (v : Value) (xs : List Int) (w : World) (hr : Kd.R kI_q 3 w base ok v xs) (hbig : xs.length < 4611686018427387904) :
    Calls Try.prog 63 #[v] w fun e w' => e = .returned (.tuple #[]) ∧ Kd.R kI_q 3 w' base ok v (xs.mergeSort fun x y => decide (x ≤ y)) ∧ Below base w w' := by
 have ho := Kd.own_of_R hr
 have hok := hr.1
 have ho2 := ho
 obtain ⟨hlen, h2⟩ := ho
 rcases h2 with ⟨rfl, hz⟩ | ⟨g, cap, cur, rfl, _⟩
 ·obtain rfl : xs = [] := List.eq_nil_of_length_eq_zero hz
  refine (Go.Proofs.Ytnckblolijkdaaa.Srt.slices_Sort_int_none none 0 w).mono ?_
  rintro e w' ⟨rfl, rfl⟩
  exact ⟨rfl, by simpa using hr, bR_q _ _⟩
 obtain ⟨hH, hg, hc, hm⟩ := rg_holds ho2
 refine (Go.Proofs.Ytnckblolijkdaaa.Srt.slices_Sort_int g 0 cap xs w hH hg hbig).mono ?_
 rintro e w' ⟨rfl, n, os, rfl⟩
 have hl : (xs.mergeSort fun x y => decide (x ≤ y)).length = xs.length := List.length_mergeSort xs
 have hp := rg_put (q := n) (os := os) (ys := xs.mergeSort fun x y => decide (x ≤ y)) ho2 hl xs.length (nR_q _)
 rw [show (xs.mergeSort fun x y => decide (x ≤ y)).take xs.length = xs.mergeSort fun x y => decide (x ≤ y) from List.take_of_length_le (by omega)] at hp
 refine ⟨rfl, Kd.R_of_own ?_ hok, hp.2⟩
 rw [hl]; exact hp.1
theorem rg_comp {base : Nat} {ok : Nat → Prop} (v : Value) (xs : List Int) (w : World) (hr : Kd.R kI_q 3 w base ok v xs) :
    Calls Try.prog 64 #[v] w fun e w' => ∃ v', e = .returned v' ∧ Kd.R kI_q 3 w' base ok v' (Go.Lib.compact xs) ∧ Below base w w' := by
 have ho := Kd.own_of_R hr
 have hok := hr.1
 have ho2 := ho
 obtain ⟨hlen, h2⟩ := ho
 rcases h2 with ⟨rfl, hz⟩ | ⟨g, cap, cur, rfl, _⟩
 ·obtain rfl : xs = [] := List.eq_nil_of_length_eq_zero hz
  refine (Go.Proofs.Ytnckblolijkdaaa.Srt.slices_Compact_int_empty none 0 w).mono ?_
  rintro e w' ⟨rfl, rfl⟩
  exact ⟨_, rfl, hr, bR_q _ _⟩
 obtain ⟨hH, hg, hc, hm⟩ := rg_holds ho2
 have hmx : maxLen ≤ 9223372036854775807 := by unfold maxLen; omega
 refine (Go.Proofs.Ytnckblolijkdaaa.Srt.slices_Compact_int g 0 cap xs w hH (by omega) hc).mono ?_
 rintro e w' ⟨rfl, q, rfl⟩
 have hle : (Go.Lib.compact xs).length ≤ xs.length := by
  unfold Go.Lib.compact Go.Lib.compactUpTo
  rw [List.length_map]
  exact nT_q (List.length_filter_le _ _) (by simp)
 have hp := rg_put (q := q) (os := #[]) (ys := Go.Lib.compact xs ++ List.replicate (xs.length - (Go.Lib.compact xs).length) 0) ho2 (by simp; omega) (Go.Lib.compact xs).length hle
 rw [List.take_left' rfl] at hp
 have e0 : ∀ W : World, Go.Sort.grow W #[] = W := fun W => by simp [Go.Sort.grow]
 rw [e0] at hp
 exact ⟨_, rfl, Kd.R_of_own hp.1 (fun k hk => hok k (by simpa [Value.ownBlock] using hk)), hp.2⟩
def impl_RecallGuests.l0 : Nat → List Int → List Int → List (S49) → Int → Int → Option (List Int)
 | 0, _, _, _, _, _ => none
 | k + 1, x7, x8, x20, x21, x22 => if x22 < x21 then (if 0 ≤ x22 then (if x22 < (x20.length : Int) then ((slices_Contains_int_int.f k x8 ((rd_T49 x20 x22).f1)).bind fun t344 => (if t344 = true then (if x7.length < 17592186044416 then (impl_RecallGuests.l0 k (x7 ++ [(rd_T49 x20 x22).f0]) x8 x20 x21 (wrap64 (x22 + 1))) else (none)) else (impl_RecallGuests.l0 k x7 x8 x20 x21 (wrap64 (x22 + 1))))) else (none)) else (none)) else (if x7.length < 4611686018427387904 then (some (Go.Lib.compact (x7.mergeSort fun x y => decide (x ≤ y)))) else (none))
def impl_RecallGuests.f (k : Nat) (l0 : List (S39)) (l1 : List (S49)) (a2 : Int) : Option (List Int) := (some (([] : List Int) : List Int)).bind fun y335 => ((impl_PlatesValid.f k l0 l1).bind fun t338 => (if t338 = true then ((impl_RecallBatches.f k l0 a2).bind fun t339 => (impl_RecallGuests.l0 k y335 t339 l1 (l1.length : Int) 0)) else (some y335)))
set_option maxHeartbeats 8000000 in
set_option maxRecDepth 100000 in
theorem impl_RecallGuests.calls (k : Nat) (A0 : Option Addr) (c0 : Nat) (l0 : List (S39)) (A1 : Option Addr) (c1 : Nat) (l1 : List (S49)) (a2 : Int) (r : List Int) (w : World) (hr0 : Kd.C k39 w A0 l0.length l0) (hc0 : l0.length ≤ c0) (hr1 : Kd.C k49 w A1 l1.length l1) (hc1 : l1.length ≤ c1) (h : impl_RecallGuests.f k l0 l1 a2 = some r) :
    Calls Try.prog 40 #[.slice A0 l0.length c0, .slice A1 l1.length c1, .int .i64 a2] w fun e w' => ∃ v0_ : Value, e = .returned (v0_) ∧ Kd.R kI_q 3 w' w.heap.size (fun _ => True) v0_ r ∧ Below w.heap.size w w' := by
 have hu49 := Try.underlying49
 have HR0 := Ae_q hr0
 have HC0 := Ae_q hc0
 clear hr0 hc0
 have HR1 := Ae_q hr1
 have HC1 := Ae_q hc1
 clear hr1 hc1
 have HB := Ae_q (bR_q w.heap.size w)
 have H : ((some (([] : List Int) : List Int)).bind fun y335 => ((impl_PlatesValid.f k l0 l1).bind fun t338 => (if t338 = true then ((impl_RecallBatches.f k l0 a2).bind fun t339 => (impl_RecallGuests.l0 k y335 t339 l1 (l1.length : Int) 0)) else (some y335)))) = some r := h
 clear h
 obtain ⟨y335, hy335⟩ : ∃ y_ : List Int, y_ = (([] : List Int)) := ⟨_, rfl⟩
 replace H : ((impl_PlatesValid.f k l0 l1).bind fun t338 => (if t338 = true then ((impl_RecallBatches.f k l0 a2).bind fun t339 => (impl_RecallGuests.l0 k y335 t339 l1 (l1.length : Int) 0)) else (some y335))) = some r := by first | (rw [hy335]; with_reducible exact H) | (have H2_ := (oS_q _ _).symm.trans H; rw [hy335]; with_reducible exact H2_) | (have H2_ := (oS_q _ _).symm.trans H; with_reducible exact H2_) | with_reducible exact H | (rw [hy335]; exact H) | exact H
 have Ny335 := Ae_q hy335
 clear hy335
 replace H := oB_q.mp H
 obtain ⟨t338, A40, H⟩ := H
 replace H : (if t338 = true then ((impl_RecallBatches.f k l0 a2).bind fun t339 => (impl_RecallGuests.l0 k y335 t339 l1 (l1.length : Int) 0)) else (some y335)) = some r := H
 have A4 := Ae_q A40
 clear A40
 by_cases c5 : t338 = true
 rotate_left
 ·replace c5 := fM_q.mpr c5
  subst c5
  have H1 : (some y335) = some r := by rw [if_neg (show ¬ (false = true) by decide)] at H; exact H
  clear H
  have H := H1
  clear H1
  obtain rfl := oI_q H
  go_enter Try.func40, Try.ntmps40
  go_wp2_with (first | ((with_reducible refine gD_q (N := 11) rfl ?_); refine Kd.R_lit kI_q _ 3 ?hg (N := 11) ?hd (xs := ([] : List Int)) (inner := []) (ok := fun _ => True) (okp := fun _ => True) ?hr ?hp (fun _ hk => hk) trivial (bR_q _ _) (nR_q _) (by simp) ?_; (case hd => rfl); (case hg => rfl); (case hr => exact m6_q); (case hp => exact m62_q); intro v336 w24 ho25 hb hg_ hnew_; clear hg_ hnew_; (first | rw [← Ny335.out] at ho25 | (simp only [Int.reduceToNat] at ho25; rw [← Ny335.out] at ho25)); have HO337 := Ae_q (rL_q ho25 (bZ_q (bel HB.out))); replace HB := Ae_q (bT_q (bel HB.out) hb); clear hb ho25) | ((with_reducible refine gC_q (f := 30) rfl ?_); refine gL_q (some 14) rfl rfl Try.func30 m5_q rfl #[.slice A0 l0.length c0, .slice A1 l1.length c1] rfl m0_q ?_; (with_reducible refine (impl_PlatesValid.calls k _ _ l0 _ _ l1 false _ ?side1 ?side2 ?side3 ?side4 A4.out).mono ?_); (case side1 => exact m34_q); (case side2 => exact m32_q); (case side3 => exact m21_q); (case side4 => exact m39_q); rintro e w' ⟨rfl, hb⟩; refine ⟨_, rfl, ?_⟩; replace HO337 := Ae_q (rO_q (rup HO337.out) hb); replace HB := Ae_q (bT_q (bel HB.out) hb); (try clear hb); (try clear hb2); (try clear hk); (try clear hi)))
  go_ret
  exact ⟨_, m2_q, rup HO337.out, bel HB.out⟩
 subst c5
 have H1 : ((impl_RecallBatches.f k l0 a2).bind fun t339 => (impl_RecallGuests.l0 k y335 t339 l1 (l1.length : Int) 0)) = some r := by rw [if_pos rfl] at H; exact H
 clear H
 have H := H1
 clear H1
 replace H := oB_q.mp H
 obtain ⟨t339, A60, H⟩ := H
 replace H : (impl_RecallGuests.l0 k y335 t339 l1 (l1.length : Int) 0) = some r := H
 have A6 := Ae_q A60
 clear A60
 have H' := Ae_q H
 clear H
 go_enter Try.func40, Try.ntmps40
 go_wp2_with (first | ((with_reducible refine gD_q (N := 11) rfl ?_); refine Kd.R_lit kI_q _ 3 ?hg (N := 11) ?hd (xs := ([] : List Int)) (inner := []) (ok := fun _ => True) (okp := fun _ => True) ?hr ?hp (fun _ hk => hk) trivial (bR_q _ _) (nR_q _) (by simp) ?_; (case hd => rfl); (case hg => rfl); (case hr => exact m6_q); (case hp => exact m62_q); intro v336 w7 ho8 hb hg_ hnew_; clear hg_ hnew_; (first | rw [← Ny335.out] at ho8 | (simp only [Int.reduceToNat] at ho8; rw [← Ny335.out] at ho8)); have HO337 := Ae_q (rL_q ho8 (bZ_q (bel HB.out))); replace HB := Ae_q (bT_q (bel HB.out) hb); clear hb ho8) | ((with_reducible refine gC_q (f := 30) rfl ?_); refine gL_q (some 14) rfl rfl Try.func30 m5_q rfl #[.slice A0 l0.length c0, .slice A1 l1.length c1] rfl m0_q ?_; (with_reducible refine (impl_PlatesValid.calls k _ _ l0 _ _ l1 true _ ?side1 ?side2 ?side3 ?side4 A4.out).mono ?_); (case side1 => exact m34_q); (case side2 => exact m32_q); (case side3 => exact m21_q); (case side4 => exact m39_q); rintro e w' ⟨rfl, hb⟩; refine ⟨_, rfl, ?_⟩; replace HO337 := Ae_q (rO_q (rup HO337.out) hb); replace HB := Ae_q (bT_q (bel HB.out) hb); (try clear hb); (try clear hb2); (try clear hk); (try clear hi)) | ((with_reducible refine gC_q (f := 21) rfl ?_); refine gL_q (some 19) rfl rfl Try.func21 m5_q rfl #[.slice A0 l0.length c0, .int .i64 a2] rfl m0_q ?_; (with_reducible refine (impl_RecallBatches.calls k _ _ l0 a2 t339 _ ?side1 ?side2 A6.out).mono ?_); (case side1 => exact m34_q); (case side2 => exact m32_q); rintro e w' ⟨v340, rfl, ho0, hb⟩; refine ⟨_, rfl, ?_⟩; have HO341 := Ae_q (rL_q (rW_q ho0 (rT_q (rup HO337.out))) (bZ_q (bel HB.out))); replace HO337 := Ae_q (rE_q (rup HO337.out) (rB_q ho0) hb); replace HB := Ae_q (bT_q (bel HB.out) hb); (try clear hb); (try clear hb2); (try clear hk); (try clear hi); (try clear ho0)))
 go_loopg [7, 22] k (fun kq v7 v22 w' => ∃ (x7_1 : List Int) (x22_1 : Int), v22 = .int .i64 x22_1 ∧ Aside0 (impl_RecallGuests.l0 kq x7_1 t339 l1 (l1.length : Int) x22_1 = some r) ∧ Aside0 (kq ≤ k) ∧ Aside0 (Kd.R kI_q 3 w' w.heap.size (fun k_ => some k_ ≠ (v340 : Value).ownBlock) v7 x7_1) ∧ Aside0 (Kd.R kI_q 3 w' w.heap.size (fun k_ => some k_ ≠ (v7 : Value).ownBlock) v340 t339) ∧ Aside0 (Below w.heap.size w w'))
 case atStart => exact ⟨(y335), (0), m3_q, H', ⟨nR_q _⟩, ⟨by (with_reducible repeat (first | apply rA_q | apply rN_q | apply rD_q)); exact rM_q HO337.out (fun _ hk => hk.2)⟩, ⟨by (with_reducible repeat (first | apply rA_q | apply rN_q | apply rD_q)); exact rM_q HO341.out (fun _ hk => hk.2)⟩, ⟨bel HB.out⟩⟩
 case round =>
  clear H'
  try clear c1
  try clear c2
  try clear p2
  try clear c3
  try clear c4
  try clear c5
  obtain ⟨x7_1, x22_1, rfl, HA, HK1, HO_7, HO_8, HB⟩ := hrel
  cases gk with
  | zero => exact absurd HA.out (by simp [impl_RecallGuests.l0])
  | succ k1 =>
   have H := HA.out
   clear HA
   simp only [impl_RecallGuests.l0] at H
   by_cases c11 : x22_1 < (l1.length : Int)
   rotate_left
   ·rw [if_neg c11] at H
    have c11b0 : decide (x22_1 < (l1.length : Int)) = false := dF_q c11
    clear c11
    by_cases c17 : x7_1.length < 4611686018427387904
    rotate_left
    ·rw [if_neg c17] at H
     exact absurd H (by simp)
    rw [if_pos c17] at H
    obtain rfl := oI_q H
    have C17 := Ae_q c17
    clear c17
    go_wp2_with (first | (go_at_call 63; refine (rg_sort (base := w.heap.size) (ok := fun _ => True) _ x7_1 _ m43_q C17.out).mono ?_; rintro e w' ⟨rfl, ho9, hb9⟩; have HO9 := Ae_q ho9; have HB9 := Ae_q (Below.trans (bel HB.out) hb9); clear ho9 hb9) | (go_at_call 64; refine (rg_comp (base := w.heap.size) _ _ _ (rup HO9.out)).mono ?_; rintro e w' ⟨v10, rfl, ho10, hb10⟩; have HO10 := Ae_q ho10; have HB10 := Ae_q (Below.trans (bel HB9.out) hb10); clear ho10 hb10))
    go_ret
    exact ⟨_, rfl, rup HO10.out, bel HB10.out⟩
   rw [if_pos c11] at H
   have c11b0 : decide (x22_1 < (l1.length : Int)) = true := dT_q c11
   clear c11
   by_cases c12 : 0 ≤ x22_1
   rotate_left
   ·rw [if_neg c12] at H
    exact absurd H (by simp)
   rw [if_pos c12] at H
   have c12b0 : decide (0 ≤ x22_1) = true := dT_q c12
   clear c12
   by_cases c13 : x22_1 < (l1.length : Int)
   rotate_left
   ·rw [if_neg c13] at H
    exact absurd H (by simp)
   rw [if_pos c13] at H
   have c13b0 : decide (x22_1 < (l1.length : Int)) = true := dT_q c13
   clear c13
   replace H := oB_q.mp H
   obtain ⟨t344, A140, H⟩ := H
   replace H : (if t344 = true then (if x7_1.length < 17592186044416 then (impl_RecallGuests.l0 k1 (x7_1 ++ [(rd_T49 l1 x22_1).f0]) t339 l1 (l1.length : Int) (wrap64 (x22_1 + 1))) else (none)) else (impl_RecallGuests.l0 k1 x7_1 t339 l1 (l1.length : Int) (wrap64 (x22_1 + 1)))) = some r := H
   have A14 := Ae_q A140
   clear A140
   by_cases c15 : t344 = true
   rotate_left
   ·replace c15 := fM_q.mpr c15
    subst c15
    have H1 : (impl_RecallGuests.l0 k1 x7_1 t339 l1 (l1.length : Int) (wrap64 (x22_1 + 1))) = some r := by rw [if_neg (show ¬ (false = true) by decide)] at H; exact H
    clear H
    have H := H1
    clear H1
    have H' := Ae_q H
    clear H
    have p342 : 0 ≤ (x22_1 : Int) := oD_q (by assumption)
    have q342 : x22_1 < (l1.length : Int) := oD_q (by assumption)
    obtain ⟨ad342, e342, hx342_0, hx342_1, hx342_2⟩ := at_T49 HR1.out x22_1 p342 q342
    cases e342
    replace hx342_0 := cel HB.out hx342_0
    replace hx342_1 := cel HB.out hx342_1
    replace hx342_2 := cel HB.out hx342_2
    replace p342 := eq_true p342
    replace q342 := eq_true q342
    go_wp2_with (first | ((with_reducible refine gD_q (N := 10) rfl ?_); refine bE_q ?hg (N := 10) ?hd (cs := #[.int .i64 0, .int .i64 0, .int .i64 0]) (t := 49) ?hr ?_; (case hd => rfl); (case hg => rfl); (case hr => exact m6_q); intro gb343 hg w21 hbox hb; replace HO_7 := Ae_q (rO_q (rup HO_7.out) hb); replace HO_8 := Ae_q (rO_q (rup HO_8.out) hb); have BK343 := Ae_q (hbox); have GW343 := Ae_q ((by rw [hg]; exact (bZ_q (bel HB.out)) : w.heap.size ≤ gb343)); have GE343 := Ae_q ((by rw [hg]; exact (bZ_q (bel HB.out)) : w.heap.size ≤ gb343)); replace HB := Ae_q (bT_q (bel HB.out) hb); clear hb hbox hg; have hcz22_0 : cI w21 gb343 0 0 := cZ BK343 0 rfl; have hcz22_1 : cI w21 gb343 1 0 := cZ BK343 1 rfl; have hcz22_2 : cI w21 gb343 2 0 := cZ BK343 2 rfl; have hfz22_0 := bF_q BK343.out 0; have hfz22_1 := bF_q BK343.out 1; have hfz22_2 := bF_q BK343.out 2; obtain ⟨Ao23, co23, eo23⟩ := rS_q HO_8.out; subst eo23) | ((with_reducible refine gC_q (f := 53) rfl ?_); refine gL_q (some 29) rfl rfl Try.func53 m5_q rfl #[.slice Ao23 t339.length co23, .int .i64 ((rd_T49 l1 x22_1).f1)] rfl m0_q ?_; (with_reducible refine (slices_Contains_int_int.calls k1 _ _ t339 ((rd_T49 l1 x22_1).f1) false _ ?side1 ?side2 A14.out).mono ?_); (case side1 => refine (rR_q (e := 3) (base := w.heap.size) (ok := fun k_ => some k_ ≠ (u7 : Value).ownBlock) (n := t339.length) (c := co23) ?_).2.2; exact (by (with_reducible repeat (first | apply rA_q | apply rN_q | apply rD_q)); exact (rM_q (Kd.R_far (p := ⟨gb343, 2, none⟩) (Kd.R_far (p := ⟨gb343, 1, none⟩) (Kd.R_far (p := ⟨gb343, 0, none⟩) (Kd.R_types HO_8.out BK343.out (by decide)) (fun _ hk => hk.2) (.int .i64 ((rd_T49 l1 x22_1).f0))) (fun _ hk => hk.2) (.int .i64 ((rd_T49 l1 x22_1).f1))) (fun _ hk => hk.2) (.int .i64 ((rd_T49 l1 x22_1).f2))) (fun _ h_ => h_.1)))); (case side2 => exact m51_q); rintro e w' ⟨rfl, ⟨nd, rfl⟩⟩; refine ⟨_, rfl, ?_⟩))
    go_roundg k1
    case measure => have := HK1.out; omega
    case rel => exact ⟨(x7_1), (wrap64 (x22_1 + 1)), m3_q, H', ⟨m28_q⟩, ⟨by (with_reducible repeat (first | apply rA_q | apply rN_q | apply rD_q)); exact rM_q (Kd.R_far (p := ⟨gb343, 2, none⟩) (Kd.R_far (p := ⟨gb343, 1, none⟩) (Kd.R_far (p := ⟨gb343, 0, none⟩) (Kd.R_types HO_7.out BK343.out (by decide)) (fun _ hk => hk.2) (.int .i64 ((rd_T49 l1 x22_1).f0))) (fun _ hk => hk.2) (.int .i64 ((rd_T49 l1 x22_1).f1))) (fun _ hk => hk.2) (.int .i64 ((rd_T49 l1 x22_1).f2))) (fun _ hk => hk.1)⟩, ⟨by (with_reducible repeat (first | apply rA_q | apply rN_q | apply rD_q)); exact rM_q (Kd.R_far (p := ⟨gb343, 2, none⟩) (Kd.R_far (p := ⟨gb343, 1, none⟩) (Kd.R_far (p := ⟨gb343, 0, none⟩) (Kd.R_types HO_8.out BK343.out (by decide)) (fun _ hk => hk.2) (.int .i64 ((rd_T49 l1 x22_1).f0))) (fun _ hk => hk.2) (.int .i64 ((rd_T49 l1 x22_1).f1))) (fun _ hk => hk.2) (.int .i64 ((rd_T49 l1 x22_1).f2))) (fun _ hk => hk.1)⟩, ⟨m33_q⟩⟩
   subst c15
   have H1 : (if x7_1.length < 17592186044416 then (impl_RecallGuests.l0 k1 (x7_1 ++ [(rd_T49 l1 x22_1).f0]) t339 l1 (l1.length : Int) (wrap64 (x22_1 + 1))) else (none)) = some r := by rw [if_pos rfl] at H; exact H
   clear H
   have H := H1
   clear H1
   by_cases c16 : x7_1.length < 17592186044416
   rotate_left
   ·rw [if_neg c16] at H
    exact absurd H (by simp)
   rw [if_pos c16] at H
   have LMc16 := Ae_q c16
   clear c16
   obtain ⟨y345, hy345⟩ : ∃ y_ : List Int, y_ = (x7_1 ++ [(rd_T49 l1 x22_1).f0]) := ⟨_, rfl⟩
   replace H : (impl_RecallGuests.l0 k1 y345 t339 l1 (l1.length : Int) (wrap64 (x22_1 + 1))) = some r := by first | (rw [hy345]; with_reducible exact H) | (have H2_ := (oS_q _ _).symm.trans H; rw [hy345]; with_reducible exact H2_) | (have H2_ := (oS_q _ _).symm.trans H; with_reducible exact H2_) | with_reducible exact H | (rw [hy345]; exact H) | exact H
   have Ny345 := Ae_q hy345
   clear hy345
   have H' := Ae_q H
   clear H
   have p342 : 0 ≤ (x22_1 : Int) := oD_q (by assumption)
   have q342 : x22_1 < (l1.length : Int) := oD_q (by assumption)
   obtain ⟨ad342, e342, hx342_0, hx342_1, hx342_2⟩ := at_T49 HR1.out x22_1 p342 q342
   cases e342
   replace hx342_0 := cel HB.out hx342_0
   replace hx342_1 := cel HB.out hx342_1
   replace hx342_2 := cel HB.out hx342_2
   replace p342 := eq_true p342
   replace q342 := eq_true q342
   go_wp2_with (first | ((with_reducible refine gD_q (N := 10) rfl ?_); refine bE_q ?hg (N := 10) ?hd (cs := #[.int .i64 0, .int .i64 0, .int .i64 0]) (t := 49) ?hr ?_; (case hd => rfl); (case hg => rfl); (case hr => exact m6_q); intro gb343 hg w17 hbox hb; replace HO_7 := Ae_q (rO_q (rup HO_7.out) hb); replace HO_8 := Ae_q (rO_q (rup HO_8.out) hb); have BK343 := Ae_q (hbox); have GW343 := Ae_q ((by rw [hg]; exact (bZ_q (bel HB.out)) : w.heap.size ≤ gb343)); have GE343 := Ae_q ((by rw [hg]; exact (bZ_q (bel HB.out)) : w.heap.size ≤ gb343)); replace HB := Ae_q (bT_q (bel HB.out) hb); clear hb hbox hg; have hcz18_0 : cI w17 gb343 0 0 := cZ BK343 0 rfl; have hcz18_1 : cI w17 gb343 1 0 := cZ BK343 1 rfl; have hcz18_2 : cI w17 gb343 2 0 := cZ BK343 2 rfl; have hfz18_0 := bF_q BK343.out 0; have hfz18_1 := bF_q BK343.out 1; have hfz18_2 := bF_q BK343.out 2; obtain ⟨Ao19, co19, eo19⟩ := rS_q HO_8.out; subst eo19) | ((with_reducible refine gC_q (f := 53) rfl ?_); refine gL_q (some 29) rfl rfl Try.func53 m5_q rfl #[.slice Ao19 t339.length co19, .int .i64 ((rd_T49 l1 x22_1).f1)] rfl m0_q ?_; (with_reducible refine (slices_Contains_int_int.calls k1 _ _ t339 ((rd_T49 l1 x22_1).f1) true _ ?side1 ?side2 A14.out).mono ?_); (case side1 => refine (rR_q (e := 3) (base := w.heap.size) (ok := fun k_ => some k_ ≠ (u7 : Value).ownBlock) (n := t339.length) (c := co19) ?_).2.2; exact (by (with_reducible repeat (first | apply rA_q | apply rN_q | apply rD_q)); exact (rM_q (Kd.R_far (p := ⟨gb343, 2, none⟩) (Kd.R_far (p := ⟨gb343, 1, none⟩) (Kd.R_far (p := ⟨gb343, 0, none⟩) (Kd.R_types HO_8.out BK343.out (by decide)) (fun _ hk => hk.2) (.int .i64 ((rd_T49 l1 x22_1).f0))) (fun _ hk => hk.2) (.int .i64 ((rd_T49 l1 x22_1).f1))) (fun _ hk => hk.2) (.int .i64 ((rd_T49 l1 x22_1).f2))) (fun _ h_ => h_.1)))); (case side2 => exact m51_q); rintro e w' ⟨rfl, ⟨nd, rfl⟩⟩; refine ⟨_, rfl, ?_⟩) | ((with_reducible refine gate_builtin (b := .append) (xs := #[.tmp 30, .tmp 33]) rfl ?_); at_builtin; refine Kd.R_append kI_q (w0 := w) w.heap.size rfl (.tmp 30) (.tmp 33) 34 3 (.int .i64 0) 8 rfl Try.underlying34 info3 rfl (by decide) (by omega) u7 x7_1 ((rd_T49 l1 x22_1).f0) [.int .i64 ((rd_T49 l1 x22_1).f0)] (fun k_ => some k_ ≠ (.slice Ao19 t339.length co19 : Value).ownBlock) (fun _ => False) rfl m6_q ?aP (fun _ hk => hk.elim) ?aF ?aO ?aB ?aS ?aL ?_; (case aP => exact rfl); (case aB => exact m33_q); (case aF => exact (fun k_ hk => Kd.fresh' (rT_q (by (with_reducible repeat (first | apply rA_q | apply rN_q | apply rD_q)); exact (rM_q (Kd.R_far (p := ⟨gb343, 2, none⟩) (Kd.R_far (p := ⟨gb343, 1, none⟩) (Kd.R_far (p := ⟨gb343, 0, none⟩) (Kd.R_types HO_8.out BK343.out (by decide)) (fun _ hk => hk.2) (.int .i64 ((rd_T49 l1 x22_1).f0))) (fun _ hk => hk.2) (.int .i64 ((rd_T49 l1 x22_1).f1))) (fun _ hk => hk.2) (.int .i64 ((rd_T49 l1 x22_1).f2))) (fun _ h_ => h_.1)))) k_ hk)); (case aO => exact (by (with_reducible repeat (first | apply rA_q | apply rN_q | apply rD_q)); exact rM_q (Kd.R_far (p := ⟨gb343, 2, none⟩) (Kd.R_far (p := ⟨gb343, 1, none⟩) (Kd.R_far (p := ⟨gb343, 0, none⟩) (Kd.R_types HO_7.out BK343.out (by decide)) (fun _ hk => hk.2) (.int .i64 ((rd_T49 l1 x22_1).f0))) (fun _ hk => hk.2) (.int .i64 ((rd_T49 l1 x22_1).f1))) (fun _ hk => hk.2) (.int .i64 ((rd_T49 l1 x22_1).f2))) (fun _ hk => hk.1))); (case aS => exact (bZ_q m33_q)); (case aL => have := LMc16.out; omega); intro v346 w20 ho hb hg hat; rw [← Ny345.out] at ho; replace HO_8 := Ae_q (rF_q (ok := (fun _ => True)) (by (with_reducible repeat (first | apply rA_q | apply rN_q | apply rD_q)); exact rM_q (Kd.R_far (p := ⟨gb343, 2, none⟩) (Kd.R_far (p := ⟨gb343, 1, none⟩) (Kd.R_far (p := ⟨gb343, 0, none⟩) (Kd.R_types HO_8.out BK343.out (by decide)) (fun _ hk => hk.2) (.int .i64 ((rd_T49 l1 x22_1).f0))) (fun _ hk => hk.2) (.int .i64 ((rd_T49 l1 x22_1).f1))) (fun _ hk => hk.2) (.int .i64 ((rd_T49 l1 x22_1).f2))) (fun _ hk => ⟨trivial, hk.1⟩)) hg hat); replace BK343 := Ae_q (bG_q (g := gb343) (o := .cells #[.int .i64 ((rd_T49 l1 x22_1).f0), .int .i64 ((rd_T49 l1 x22_1).f1), .int .i64 ((rd_T49 l1 x22_1).f2)] 49 (0, 0)) (by (with_reducible repeat (first | refine bN_q ?_ _ | refine bW_q ?_ | refine bL_q ?_ _)); refine blk_put (cs := #[.int .i64 ((rd_T49 l1 x22_1).f0), .int .i64 ((rd_T49 l1 x22_1).f1), .int .i64 0]) ?_ 2 _ rfl; (with_reducible repeat (first | refine bN_q ?_ _ | refine bW_q ?_ | refine bL_q ?_ _)); refine blk_put (cs := #[.int .i64 ((rd_T49 l1 x22_1).f0), .int .i64 0, .int .i64 0]) ?_ 1 _ rfl; (with_reducible repeat (first | refine bN_q ?_ _ | refine bW_q ?_ | refine bL_q ?_ _)); refine blk_put (cs := #[.int .i64 0, .int .i64 0, .int .i64 0]) ?_ 0 _ rfl; (with_reducible repeat (first | refine bN_q ?_ _ | refine bW_q ?_ | refine bL_q ?_ _)); exact BK343.out) hg (Kd.R_ne HO_7.out BK343.out (by decide))); replace HB := Ae_q (hb); have HO347 := Ae_q (ho); clear HO_7; clear ho hb hg hat))
   go_roundg k1
   case measure => have := HK1.out; omega
   case rel => exact ⟨(y345), (wrap64 (x22_1 + 1)), m3_q, H', ⟨m28_q⟩, ⟨rup HO347.out⟩, ⟨m45_q⟩, ⟨m33_q⟩⟩

end Go.Proofs.Ytnckblolijkdaaa.PBt
