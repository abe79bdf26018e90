import Derived.Test.YtnhenfmegpjigaaVKPEvx0
import Derived.RangeFuncNested
import Derived.RangeFuncBound
import Derived.RangeFuncCalls
import Derived.RangeFuncLeaves
import Derived.RangeFuncBox
import Derived.Shelf.Abstract
import Derived.OwnWalkIn
import Derived.TacticsInMore
import Derived.LoopNIn
import Derived.LoopIn
import Derived.Lib.Hide
import Derived.Shelf.RegionOpen
namespace Go.Proofs.Ytnhenfmegpjigaa.PEv
open Go.RowKit Go.Proofs.YtnhenfmegpjigaaW.PrintWords Go.Proofs.YtnhenfmegpjigaaW.PrintLast Go.Proofs.YtnhenfmegpjigaaW.PrintMore
attribute [local go_sem] max2_int min2_int max_two min_two max_three min_three max_four min_four
set_option linter.unusedVariables false
set_option linter.unusedSimpArgs false

-- HAND rounds=0 making=1
-- HANDIMPORT Derived.RangeFuncNested
-- HANDIMPORT Derived.RangeFuncBound
-- HANDIMPORT Derived.RangeFuncCalls
-- HANDIMPORT Derived.RangeFuncLeaves
-- HANDIMPORT Derived.RangeFuncBox
-- HANDIMPORT Derived.Shelf.Abstract
-- HANDIMPORT Derived.OwnWalkIn
-- HANDIMPORT Derived.TacticsInMore
-- HANDIMPORT Derived.LoopNIn
-- HANDIMPORT Derived.LoopIn
-- HANDIMPORT Derived.Lib.Hide
-- HANDIMPORT Derived.Shelf.RegionOpen
open Go.Shelf
attribute [local go_sem] Oper.semAt_some

def encE (x : S27) : Value := .agg #[.int .i64 x.f0, .int .i64 x.f1, .int .i64 x.f2, .int .i64 x.f3, .int .i64 x.f4, .int .i64 x.f5]
def bkAt (zs : List S27) (j : Nat) : Int × S27 := ((zs.length : Int) - 1 - j, rd_T27 zs ((zs.length : Int) - 1 - j))
def bk (zs : List S27) (k : Nat) : List (Int × S27) := (List.range k).map (bkAt zs)
theorem bk_succ (zs : List S27) (k : Nat) : bk zs (k + 1) = bk zs k ++ [bkAt zs k] := by simp [bk, List.range_succ]
theorem bk_length (zs : List S27) (k : Nat) : (bk zs k).length = k := by simp [bk]

set_option maxRecDepth 100000 in
set_option maxHeartbeats 2000000 in
theorem bw1_in (F : Fence) (n : Nat) (h74 : F.fn 74) (hro : F.round = none) (hn : 1 ≤ n) (l Bs : Nat) (A : Option Addr) (c : Nat) (zs : List S27) (hz : zs.length ≤ 9223372036854775807) (w : World) (hC : Kd.C k27 w A zs.length zs) (J Jx : List (Int × S27) → World → Prop)
    (hY : ∀ pre x W, J pre W → pre.length < zs.length → YieldAt F (n - 1) Try.prog l #[.int .i64 x.1, encE x.2] W fun e W' =>
      (e = .returned (.bool true) ∧ J (pre ++ [x]) W' ∧ Below w.heap.size W W') ∨ (e = .returned (.bool false) ∧ Jx (pre ++ [x]) W'))
    (W : World) (hBs : Bs < w.heap.size) (hBc : w.cell? ⟨Bs, 0, none⟩ = some (.slice A zs.length c)) (hW : Below w.heap.size w W) (h0 : J [] W) :
 CallsIn F n Try.prog 74 #[.func (.yield l) #[] #[], .pointer (some ⟨Bs, 0, none⟩)] W fun e W' => (∃ v, e = .returned v) ∧
  (J (bk zs zs.length) W' ∨ (∃ k, k ≤ zs.length ∧ Jx (bk zs k) W')) := by
 have hBW : W.cell? ⟨Bs, 0, none⟩ = some (.slice A zs.length c) := (hW.cell (p := ⟨Bs, 0, none⟩) hBs).trans hBc
 refine callsIn_of_wp Try.func74 rfl h74 ?_ hro
 simp only [Try.ntmps74, List.size_toArray, List.length_cons, List.length_nil, Nat.reduceAdd, Nat.reduceSub, Array.replicate_succ, Array.replicate_zero, List.push_toArray, List.append_toArray, List.nil_append, List.cons_append]
 gi_wp2
 gi_loopw [3] (fun i wr => ∃ k : Nat, k ≤ zs.length ∧ i = .int .i64 ((zs.length : Int) - 1 - k) ∧ J (bk zs k) wr ∧ Below w.heap.size w wr)
 (fun i _ => (intOf i + 1).toNat)
 case atStart => exact ⟨0, Nat.zero_le _, by simp, h0, hW⟩
 case round =>
 obtain ⟨k, hk, rfl, hJs, hnx⟩ := hrel
 have hBr : wr.cell? ⟨Bs, 0, none⟩ = some (.slice A zs.length c) := (hnx.cell (p := ⟨Bs, 0, none⟩) hBs).trans hBc
 by_cases hlt : k < zs.length
 rotate_left
 ·obtain rfl : k = zs.length := by omega
  have e0 : (zs.length : Int) - 1 - zs.length = -1 := by omega
  rw [e0]
  gi_wp2
  go_end0
  exact ⟨⟨_, rfl⟩, .inl hJs⟩
 obtain ⟨fn, tmps, assign, body, hy, hR⟩ := hY _ (bkAt zs k) wr hJs (by rw [bk_length]; exact hlt)
 obtain ⟨iv, hiv⟩ : ∃ iv : Int, (zs.length : Int) - 1 - k = iv := ⟨_, rfl⟩
 have e1 : bkAt zs k = (iv, rd_T27 zs iv) := by unfold bkAt; rw [hiv]
 have i0 : 0 ≤ iv := by omega
 have i1 : iv < (zs.length : Int) := by omega
 rw [e1] at hy hR
 dsimp only [encE] at hy hR
 obtain ⟨ad, eA, c0, c1, c2, c3, c4, c5⟩ := at_T27 hC iv i0 i1
 cases eA
 replace c0 := pw_cell_below hnx c0
 replace c1 := pw_cell_below hnx c1
 replace c2 := pw_cell_below hnx c2
 replace c3 := pw_cell_below hnx c3
 replace c4 := pw_cell_below hnx c4
 replace c5 := pw_cell_below hnx c5
 have Hiv := Lib.hid hiv
 rw [hiv]
 clear hiv
 have q0 := eq_true i0
 have q1 := eq_true i1
 gi_wp2
 refine hR.mono ?_
 rintro e W3 (⟨rfl, hJ3, hk3⟩ | ⟨rfl, hJx3⟩)
 ·gi_wp2
  go_roundw
  case rel => exact ⟨k + 1, by omega, (by have h5 := Hiv.out; have e7 : iv - 1 = (zs.length : Int) - 1 - ((k + 1 : Nat) : Int) := (by omega); rw [← e7]), by rw [bk_succ, e1]; exact hJ3, hnx.trans hk3⟩
  case measure => simp [intOf]; omega
 gi_wp2
 refine bodyPost_ret (results_none rfl _ _ _) rfl ?_
 exact ⟨⟨_, rfl⟩, .inr ⟨k + 1, by omega, by rw [bk_succ, e1]; exact hJx3⟩⟩

set_option maxHeartbeats 1000000 in
theorem bw_in (F : Fence) (n : Nat) (h67 : F.fn 67) (hro : F.round = none) (a : Option Addr) (len cap : Nat) (w : World) :
    CallsIn F n Try.prog 67 #[.slice a len cap] w fun e w' => e = .returned (.func (.func 74) #[] #[.pointer (some ⟨w.heap.size, 0, none⟩)]) ∧ w' = w.alloc (.cells #[.slice a len cap] 23) := by
 refine callsIn_of_wp Try.func67 rfl h67 ?_ hro
 simp only [Try.ntmps67, List.size_toArray, List.length_cons, List.length_nil, Nat.reduceAdd, Nat.reduceSub, Array.replicate_succ, Array.replicate_zero, List.push_toArray, List.append_toArray, List.nil_append, List.cons_append]
 gi_wp2
 go_ret
 exact ⟨rfl, rfl⟩

theorem bw_stops (F : Fence) (n : Nat) (h74 : F.fn 74) (hro : F.round = none) (hn : 1 ≤ n) (Bs : Nat) (A : Option Addr) (c : Nat) (zs : List S27) (hz : zs.length ≤ 9223372036854775807) (w : World) (hBs : Bs < w.heap.size)
    (hBc : w.cell? ⟨Bs, 0, none⟩ = some (.slice A zs.length c)) (hC : Kd.C k27 w A zs.length zs) :
    SeqStopsK F n Try.prog 74 #[.pointer (some ⟨Bs, 0, none⟩)] (fun x : Int × S27 => #[Value.int .i64 x.1, encE x.2]) (Below w.heap.size) (fun ys => ys = bk zs zs.length)
      (fun pre => ∃ k, k ≤ zs.length ∧ pre = bk zs k) zs.length w := fun l J Jx W hW _ _ hY h0 =>
 (bw1_in F n h74 hro hn l Bs A c zs hz w hC J Jx hY W hBs hBc hW h0).mono fun e W' ⟨he, h⟩ => ⟨he, h.elim (fun h => .inl ⟨_, rfl, h⟩) (fun ⟨k, hk, h⟩ => .inr ⟨_, ⟨k, hk, rfl⟩, h⟩)⟩


theorem bk_map (zs : List S27) (k : Nat) (hk : k ≤ zs.length) : (bk zs k).map (·.2) = zs.reverse.take k := by
 apply List.ext_getElem
 ·simp [bk]; omega
 intro i h1 h2
 have hi : i < k := by simpa [bk] using h1
 have e : ((zs.length : Int) - 1 - i).toNat = zs.length - 1 - i := by omega
 simp [bk, bkAt, rd_T27, e, List.getElem_reverse, List.getD_eq_getElem?_getD, List.getElem?_eq_getElem (show zs.length - 1 - i < zs.length by omega)]
theorem blk_own {A B : World} {row : Option Nat} {g : Nat} {cs : Array Value} {t : TypeId} (h : A.heap[g]? = some (.cells cs t (0, 0))) (hg : A.grownBy B row) (hr : ∀ r, row = some r → ∃ o : Obj, A.heap[r]? = some o ∧ o.isCells = false) : B.heap[g]? = some (.cells cs t (0, 0)) :=
 bG_q h hg (fun e => by obtain ⟨o, ho, hc⟩ := hr g e.symm; rw [h] at ho; cases ho; cases hc)
theorem set6 {W : World} {g t : Nat} {a b c d e f : Value} (h : W.heap[g]? = some (.cells #[a, b, c, d, e, f] t (0, 0))) (x0 x1 x2 x3 x4 x5 : Value) :
    ((((((W.setCell ⟨g, 0, none⟩ x0).setCell ⟨g, 1, none⟩ x1).setCell ⟨g, 2, none⟩ x2).setCell ⟨g, 3, none⟩ x3).setCell ⟨g, 4, none⟩ x4).setCell ⟨g, 5, none⟩ x5).heap[g]? = some (.cells #[x0, x1, x2, x3, x4, x5] t (0, 0)) := by
 simpa using blk_set (blk_set (blk_set (blk_set (blk_set (blk_set h 0 x0) 1 x1) 2 x2) 3 x3) 4 x4) 5 x5
def isMk (b : Int) (x : S27) : Prop := x.f2 = b ∧ x.f0 ≠ 2
instance (b : Int) (x : S27) : Decidable (isMk b x) := by unfold isMk; infer_instance
def impl_made.go (b : Int) : List S27 → Int × Int × Int × Int × Int × Int × Bool
 | [] => (0, 0, 0, 0, 0, 0, false)
 | x :: r => if isMk b x then (x.f0, x.f1, x.f2, x.f3, x.f4, x.f5, x.f0 == 1) else impl_made.go b r
def impl_made.f (l0 : List (S27)) (a1 : Int) : Option (Int × Int × Int × Int × Int × Int × Bool) := some (impl_made.go a1 l0.reverse)
theorem made_none (b : Int) : ∀ l : List S27, (∀ x ∈ l, ¬ isMk b x) → impl_made.go b l = (0, 0, 0, 0, 0, 0, false)
 | [], _ => rfl
 | x :: r, h => by rw [impl_made.go, if_neg (h x (List.mem_cons_self)), made_none b r (fun y hy => h y (List.mem_cons_of_mem _ hy))]
theorem made_hit (b : Int) (y : S27) (q : List S27) (hy : isMk b y) : ∀ p : List S27, (∀ x ∈ p, ¬ isMk b x) → impl_made.go b (p ++ y :: q) = (y.f0, y.f1, y.f2, y.f3, y.f4, y.f5, y.f0 == 1)
 | [], _ => by rw [List.nil_append, impl_made.go, if_pos hy]
 | x :: r, h => by rw [List.cons_append, impl_made.go, if_neg (h x (List.mem_cons_self)), made_hit b y q hy r (fun z hz => h z (List.mem_cons_of_mem _ hz))]


theorem bk_none {a1 : Int} {zs : List S27} (h : ∀ p ∈ bk zs zs.length, ¬ isMk a1 p.2) : ∀ y ∈ zs.reverse, ¬ isMk a1 y := by
 intro y hy
 have e := bk_map zs zs.length (nR_q _)
 rw [List.take_of_length_le (by simp)] at e
 rw [← e] at hy
 obtain ⟨p, hp, rfl⟩ := List.mem_map.1 hy
 exact h p hp
theorem bk_hit {a1 : Int} {zs : List S27} {k : Nat} {ini : List (Int × S27)} {last : Int × S27} (hk : k ≤ zs.length) (e1 : bk zs k = ini ++ [last]) (e2 : ∀ p ∈ ini, ¬ isMk a1 p.2) (e3 : isMk a1 last.2) :
    impl_made.go a1 zs.reverse = (last.2.f0, last.2.f1, last.2.f2, last.2.f3, last.2.f4, last.2.f5, last.2.f0 == 1) := by
 have e := bk_map zs k hk
 rw [e1, List.map_append] at e
 have e4 : zs.reverse = ini.map (·.2) ++ last.2 :: zs.reverse.drop k := by
  have h5 := (List.take_append_drop k zs.reverse).symm
  rw [← e] at h5
  exact h5.trans (by simp)
 rw [e4]
 exact made_hit a1 last.2 _ e3 _ (fun x hx => by obtain ⟨p, hp, rfl⟩ := List.mem_map.1 hx; exact e2 p hp)
theorem blk_set1 {W : World} {g t : Nat} {a : Value} (h : W.heap[g]? = some (.cells #[a] t (0, 0))) (x : Value) : (W.setCell ⟨g, 0, none⟩ x).heap[g]? = some (.cells #[x] t (0, 0)) := by simpa using blk_set h 0 x
theorem far6 {W : World} {g g' t : Nat} {cs : Array Value} (h : W.heap[g']? = some (.cells cs t (0, 0))) (hne : g' ≠ g) (x0 x1 x2 x3 x4 x5 : Value) :
    ((((((W.setCell ⟨g, 0, none⟩ x0).setCell ⟨g, 1, none⟩ x1).setCell ⟨g, 2, none⟩ x2).setCell ⟨g, 3, none⟩ x3).setCell ⟨g, 4, none⟩ x4).setCell ⟨g, 5, none⟩ x5).heap[g']? = some (.cells cs t (0, 0)) :=
 blk_far (p := ⟨g, 5, none⟩) (blk_far (p := ⟨g, 4, none⟩) (blk_far (p := ⟨g, 3, none⟩) (blk_far (p := ⟨g, 2, none⟩) (blk_far (p := ⟨g, 1, none⟩) (blk_far (p := ⟨g, 0, none⟩) h hne x0) hne x1) hne x2) hne x3) hne x4) hne x5
theorem end7 {w W : World} {a b c d e f h : Value} (i3 : W.heap[w.heap.size + 1]? = some (.cells #[a, b, c, d, e, f] 27 (0, 0))) (i4 : W.heap[w.heap.size + 1 + 1]? = some (.cells #[h] 4 (0, 0))) (iB : Below w.heap.size w W) (v0 v1 v2 v3 v4 v5 v6 : Value) :
    KeepsOthers W (((((((W.setCell ⟨w.heap.size + 1, 0, none⟩ v0).setCell ⟨w.heap.size + 1, 1, none⟩ v1).setCell ⟨w.heap.size + 1, 2, none⟩ v2).setCell ⟨w.heap.size + 1, 3, none⟩ v3).setCell ⟨w.heap.size + 1, 4, none⟩ v4).setCell ⟨w.heap.size + 1, 5, none⟩ v5).setCell ⟨w.heap.size + 1 + 1, 0, none⟩ v6) ∧ (((((((W.setCell ⟨w.heap.size + 1, 0, none⟩ v0).setCell ⟨w.heap.size + 1, 1, none⟩ v1).setCell ⟨w.heap.size + 1, 2, none⟩ v2).setCell ⟨w.heap.size + 1, 3, none⟩ v3).setCell ⟨w.heap.size + 1, 4, none⟩ v4).setCell ⟨w.heap.size + 1, 5, none⟩ v5).setCell ⟨w.heap.size + 1 + 1, 0, none⟩ v6).heap[w.heap.size + 1]? = some (.cells #[v0, v1, v2, v3, v4, v5] 27 (0, 0)) ∧ (((((((W.setCell ⟨w.heap.size + 1, 0, none⟩ v0).setCell ⟨w.heap.size + 1, 1, none⟩ v1).setCell ⟨w.heap.size + 1, 2, none⟩ v2).setCell ⟨w.heap.size + 1, 3, none⟩ v3).setCell ⟨w.heap.size + 1, 4, none⟩ v4).setCell ⟨w.heap.size + 1, 5, none⟩ v5).setCell ⟨w.heap.size + 1 + 1, 0, none⟩ v6).heap[w.heap.size + 1 + 1]? = some (.cells #[v6] 4 (0, 0)) ∧ Below w.heap.size w (((((((W.setCell ⟨w.heap.size + 1, 0, none⟩ v0).setCell ⟨w.heap.size + 1, 1, none⟩ v1).setCell ⟨w.heap.size + 1, 2, none⟩ v2).setCell ⟨w.heap.size + 1, 3, none⟩ v3).setCell ⟨w.heap.size + 1, 4, none⟩ v4).setCell ⟨w.heap.size + 1, 5, none⟩ v5).setCell ⟨w.heap.size + 1 + 1, 0, none⟩ v6) := by
 refine ⟨?_, ?_, ?_, ?_⟩
 ·exact ((((((KeepsOthers.setCell _ _ _).trans (KeepsOthers.setCell _ _ _)).trans (KeepsOthers.setCell _ _ _)).trans (KeepsOthers.setCell _ _ _)).trans (KeepsOthers.setCell _ _ _)).trans (KeepsOthers.setCell _ _ _)).trans (KeepsOthers.setCell _ _ _)
 ·exact blk_far (p := ⟨w.heap.size + 1 + 1, 0, none⟩) (set6 i3 _ _ _ _ _ _) (show w.heap.size + 1 ≠ w.heap.size + 1 + 1 by omega) _
 ·exact blk_set1 (far6 i4 (by omega) _ _ _ _ _ _) _
 exact bS_q (bS_q (bS_q (bS_q (bS_q (bS_q (bS_q iB (by omega)) (by omega)) (by omega)) (by omega)) (by omega)) (by omega)) (by omega)
theorem end7d {w W : World} {a b c d e f h : Value} (i3 : W.heap[w.heap.size + 1]? = some (.cells #[a, b, c, d, e, f] 27 (0, 0))) (i4 : W.heap[w.heap.size + 1 + 1]? = some (.cells #[h] 4 (0, 0))) (iB : Below w.heap.size w W) (v0 v1 v2 v3 v4 v5 v6 : Value) :
    KeepsOthers W (((((((W.setCell ⟨w.heap.size + 1, 0, none⟩ v0).setCell ⟨w.heap.size + 1, 1, none⟩ v1).setCell ⟨w.heap.size + 1, 2, none⟩ v2).setCell ⟨w.heap.size + 1, 3, none⟩ v3).setCell ⟨w.heap.size + 1, 4, none⟩ v4).setCell ⟨w.heap.size + 1, 5, none⟩ v5).setCell ⟨w.heap.size + 1 + 1, 0, none⟩ v6).drew ∧ (((((((W.setCell ⟨w.heap.size + 1, 0, none⟩ v0).setCell ⟨w.heap.size + 1, 1, none⟩ v1).setCell ⟨w.heap.size + 1, 2, none⟩ v2).setCell ⟨w.heap.size + 1, 3, none⟩ v3).setCell ⟨w.heap.size + 1, 4, none⟩ v4).setCell ⟨w.heap.size + 1, 5, none⟩ v5).setCell ⟨w.heap.size + 1 + 1, 0, none⟩ v6).drew.heap[w.heap.size + 1]? = some (.cells #[v0, v1, v2, v3, v4, v5] 27 (0, 0)) ∧ (((((((W.setCell ⟨w.heap.size + 1, 0, none⟩ v0).setCell ⟨w.heap.size + 1, 1, none⟩ v1).setCell ⟨w.heap.size + 1, 2, none⟩ v2).setCell ⟨w.heap.size + 1, 3, none⟩ v3).setCell ⟨w.heap.size + 1, 4, none⟩ v4).setCell ⟨w.heap.size + 1, 5, none⟩ v5).setCell ⟨w.heap.size + 1 + 1, 0, none⟩ v6).drew.heap[w.heap.size + 1 + 1]? = some (.cells #[v6] 4 (0, 0)) ∧ Below w.heap.size w (((((((W.setCell ⟨w.heap.size + 1, 0, none⟩ v0).setCell ⟨w.heap.size + 1, 1, none⟩ v1).setCell ⟨w.heap.size + 1, 2, none⟩ v2).setCell ⟨w.heap.size + 1, 3, none⟩ v3).setCell ⟨w.heap.size + 1, 4, none⟩ v4).setCell ⟨w.heap.size + 1, 5, none⟩ v5).setCell ⟨w.heap.size + 1 + 1, 0, none⟩ v6).drew := by
 have h := end7 i3 i4 iB v0 v1 v2 v3 v4 v5 v6
 have e : ∀ X : World, X.drew.heap = X.heap := fun _ => rfl
 rw [e]
 exact ⟨h.1.trans (KeepsOthers.drew _), h.2.1, h.2.2.1, below_drew h.2.2.2⟩
set_option maxHeartbeats 1000000 in
theorem made_out {F : Fence} {n D : Nat} {tmps : Array Value} {w W0 X W : World} {v0 v1 v2 v3 v4 v5 v6 : Value} {R : Ending → Prop} (hs : w.heap.size + 3 ≤ W0.heap.size) (h : KeepsOthers X W ∧ W.heap[w.heap.size + 1]? = some (.cells #[v0, v1, v2, v3, v4, v5] 27 (0, 0)) ∧ W.heap[w.heap.size + 1 + 1]? = some (.cells #[v6] 4 (0, 0)) ∧ Below w.heap.size w W)
    (hD : W0.heap.size ≤ D) (hK : W.heap[D]? = some (.deferred (some []))) (hR : R (.returned (.tuple #[.agg #[v0, v1, v2, v3, v4, v5], v6])))
    (ht : tmps[4]? = some (.pointer (some ⟨w.heap.size + 1, 0, none⟩))) (ht' : tmps[5]? = some (.pointer (some ⟨w.heap.size + 1 + 1, 0, none⟩))) :
    bodyPostM F n Try.prog Try.f51 (fun e w' => R e ∧ Below w.heap.size w w') Exit.ret { tmps := tmps, defers := [{ target := Target.collected D, args := #[] }] } W := by
 refine ⟨by simp, .inl ⟨_, _, rfl, run_takeDeferred hK, ?_⟩⟩
 have g1 : (W.putObj D (.deferred none)).heap[w.heap.size + 1]? = some (.cells #[v0, v1, v2, v3, v4, v5] 27 (0, 0)) := (World.putObj_heap_other (by omega)).trans h.2.1
 have g2 : (W.putObj D (.deferred none)).heap[w.heap.size + 1 + 1]? = some (.cells #[v6] 4 (0, 0)) := (World.putObj_heap_other (by omega)).trans h.2.2.1
 have c0 : (W.putObj D (.deferred none)).cell? ⟨w.heap.size + 1, 0, none⟩ = some v0 := (bC_q g1 0).trans rfl
 have c1 : (W.putObj D (.deferred none)).cell? ⟨w.heap.size + 1, 1, none⟩ = some v1 := (bC_q g1 1).trans rfl
 have c2 : (W.putObj D (.deferred none)).cell? ⟨w.heap.size + 1, 2, none⟩ = some v2 := (bC_q g1 2).trans rfl
 have c3 : (W.putObj D (.deferred none)).cell? ⟨w.heap.size + 1, 3, none⟩ = some v3 := (bC_q g1 3).trans rfl
 have c4 : (W.putObj D (.deferred none)).cell? ⟨w.heap.size + 1, 4, none⟩ = some v4 := (bC_q g1 4).trans rfl
 have c5 : (W.putObj D (.deferred none)).cell? ⟨w.heap.size + 1, 5, none⟩ = some v5 := (bC_q g1 5).trans rfl
 have c6 : (W.putObj D (.deferred none)).cell? ⟨w.heap.size + 1 + 1, 0, none⟩ = some v6 := (bC_q g2 0).trans rfl
 refine ⟨.tuple #[.agg #[v0, v1, v2, v3, v4, v5], v6], ?_, hR, ?_⟩
 ·simp [results, Try.f51, go_sem, ht, ht', c0, c1, c2, c3, c4, c5, c6]
 exact h.2.2.2.trans (belowK_b (w := W0) (by omega) W D _ _ hD hK rfl rfl)

set_option maxRecDepth 100000 in
set_option maxHeartbeats 4000000 in
theorem made_in (F : Fence) (n : Nat) (h51 : F.fn 51) (h67 : F.fn 67) (h74 : F.fn 74) (hro : F.round = none) (hn : 3 ≤ n) (A0 : Option Addr) (c0 : Nat) (l0 : List (S27)) (a1 : Int) (w : World) (hr0 : Aside0 (Kd.C k27 w A0 l0.length l0)) :
    CallsIn F n Try.prog 51 #[.slice A0 l0.length c0, .int .i64 a1] w fun e w' => (∃ r1 r2 r3 r4 r5 r6 r7, impl_made.go a1 l0.reverse = (r1, r2, r3, r4, r5, r6, r7) ∧ e = .returned (.tuple #[.agg #[.int .i64 r1, .int .i64 r2, .int .i64 r3, .int .i64 r4, .int .i64 r5, .int .i64 r6], .bool r7])) ∧ Below w.heap.size w w' := by
 have h1 : 1 ≤ n := by omega
 refine callsIn_of_wp_marks Try.func51 rfl h51 ?_ hro
 simp only [Try.ntmps51, List.size_toArray, List.length_cons, List.length_nil, Nat.reduceAdd, Nat.reduceSub, Array.replicate_succ, Array.replicate_zero, List.push_toArray, List.append_toArray, List.nil_append, List.cons_append]
 gi_wp2_with (gi_at_call 67; refine (bw_in F (n - 1) h67 hro _ _ _ _).mono ?_; rintro e w' ⟨rfl, rfl⟩)
 have hz : l0.length ≤ 9223372036854775807 := hr0.out.2.1
 obtain ⟨W0, hW0⟩ : ∃ W0, ((((w.alloc (.cells #[.int .i64 a1] 3)).alloc (.cells #[.int .i64 0, .int .i64 0, .int .i64 0, .int .i64 0, .int .i64 0, .int .i64 0] 27)).alloc (.cells #[.bool false] 4)).alloc (.cells #[.slice A0 l0.length c0] 23)) = W0 := ⟨_, rfl⟩
 have hs0 : W0.heap.size = w.heap.size + 4 := by rw [← hW0]; simp
 have hB0 : Below w.heap.size w W0 := by rw [← hW0]; exact bA_q (bA_q (bA_q (bA_q (bR_q _ _) _) _) _) _
 have k0 : W0.heap[w.heap.size]? = some (.cells #[.int .i64 a1] 3 (0, 0)) := by rw [← hW0]; exact bL_q (bL_q (bL_q (heap_alloc_new w _) _) _) _
 have k1 : W0.heap[w.heap.size + 1]? = some (.cells #[.int .i64 0, .int .i64 0, .int .i64 0, .int .i64 0, .int .i64 0, .int .i64 0] 27 (0, 0)) := by rw [← hW0]; exact bL_q (bL_q (by simpa using heap_alloc_new (w.alloc _) _) _) _
 have k2 : W0.heap[w.heap.size + 1 + 1]? = some (.cells #[.bool false] 4 (0, 0)) := by rw [← hW0]; exact bL_q (by simpa using heap_alloc_new ((w.alloc _).alloc _) _) _
 have k3 : W0.heap[w.heap.size + 1 + 1 + 1]? = some (.cells #[.slice A0 l0.length c0] 23 (0, 0)) := by rw [← hW0]; simpa using heap_alloc_new (((w.alloc _).alloc _).alloc _) _
 have hC0 : Kd.C k27 W0 A0 l0.length l0 := cB_q hr0.out hB0
 rw [hW0]
 refine wpIn_rangeFunc_ownH hro h1 (gf := 74) (lb := #[.pointer (some ⟨w.heap.size + 1 + 1 + 1, 0, none⟩)]) rfl h74 (enters_of Try.func74 (by kernel_rfl) rfl)
  (bw_stops F (n - 1) h74 hro (by omega) (w.heap.size + 1 + 1 + 1) A0 c0 l0 hz W0 (by omega) ((bC_q k3 0).trans rfl) hC0) belowK_t (belowK_b (nR_q _)) (bR_q _ _) (fun _ => rfl)
  (fun pre W => ((∀ p ∈ pre, ¬ isMk a1 p.2) ∧ W.heap[w.heap.size]? = some (.cells #[.int .i64 a1] 3 (0, 0)) ∧ W.heap[w.heap.size + 1]? = some (.cells #[.int .i64 0, .int .i64 0, .int .i64 0, .int .i64 0, .int .i64 0, .int .i64 0] 27 (0, 0)) ∧ W.heap[w.heap.size + 1 + 1]? = some (.cells #[.bool false] 4 (0, 0)) ∧ W0.heap.size ≤ W.heap.size) ∧ Below w.heap.size w W)
  (fun c pre W => (c = .ret ∧ ∃ (ini : List (Int × S27)) (last : Int × S27), pre = ini ++ [last] ∧ (∀ p ∈ ini, ¬ isMk a1 p.2) ∧ isMk a1 last.2 ∧ W.heap[w.heap.size + 1]? = some (.cells #[.int .i64 last.2.f0, .int .i64 last.2.f1, .int .i64 last.2.f2, .int .i64 last.2.f3, .int .i64 last.2.f4, .int .i64 last.2.f5] 27 (0, 0)) ∧ W.heap[w.heap.size + 1 + 1]? = some (.cells #[.bool (last.2.f0 == 1)] 4 (0, 0))) ∧ Below w.heap.size w W)
  (OwnFrom.and (Own.from (fun s A B row hs hg hr => ⟨hs.1, blk_own hs.2.1 hg hr, blk_own hs.2.2.1 hg hr, blk_own hs.2.2.2.1 hg hr, nT_q hs.2.2.2.2 hg.size⟩) _) (ownFrom_below (nR_q _) (by omega)))
  (fun c => OwnFrom.and (Own.from (fun s A B row hs hg hr => by obtain ⟨hc, ini, last, e1, e2, e3, e4, e5⟩ := hs; exact ⟨hc, ini, last, e1, e2, e3, blk_own e4 hg hr, blk_own e5 hg hr⟩) _) (ownFrom_below (nR_q _) (by omega)))
  ⟨⟨by simp, k0, k1, k2, nR_q _⟩, hB0⟩
  (fun x a' W => ∃ Bx, W0.heap.size ≤ Bx ∧ W.heap[Bx]? = some (.cells #[.int .i64 x.2.f0, .int .i64 x.2.f1, .int .i64 x.2.f2, .int .i64 x.2.f3, .int .i64 x.2.f4, .int .i64 x.2.f5] 27 (0, 0)) ∧ a' = { tmps := #[.slice A0 l0.length c0, .int .i64 a1, undef, .pointer (some ⟨w.heap.size, 0, none⟩), .pointer (some ⟨w.heap.size + 1, 0, none⟩), .pointer (some ⟨w.heap.size + 1 + 1, 0, none⟩), undef, (.pointer (some ⟨Bx, 0, none⟩)), .slice A0 l0.length c0, .func (.func 74) #[] #[.pointer (some ⟨w.heap.size + 1 + 1 + 1, 0, none⟩)], .int .i64 x.1, encE x.2, undef, undef, undef, undef, undef, undef, undef, undef, undef, undef, undef, undef, undef, undef], defers := [] })
  (fun x a' => Own.from (fun _ A B row hs hg hr => by obtain ⟨Bx, h1, h2, h3⟩ := hs; exact ⟨Bx, h1, blk_own h2 hg hr, h3⟩) _) ?assign ?body ?done ?stop
 case assign =>
  rintro l pre x W K ⟨⟨i1, i2, i3, i4, i5⟩, iB⟩ hK
  dsimp only [encE]
  gi_wp2
  exact hK _ _ ((KeepsOthers.alloc _ _).from _) ((bR_q _ W).alloc i5 _) ⟨⟨i1, bL_q i2 _, bL_q i3 _, bL_q i4 _, by simp; omega⟩, bA_q iB _⟩ ⟨W.heap.size, i5, heap_alloc_new W _, rfl⟩
 case body =>
  rintro l pre x a' W hl hrec ⟨⟨i1, i2, i3, i4, i5⟩, iB⟩ ⟨Bx, hBx, kx, rfl⟩ hlen
  clear hrec
  have x0 : W.cell? ⟨Bx, 0, none⟩ = some (.int .i64 x.2.f0) := (bC_q kx 0).trans rfl
  have x1 : W.cell? ⟨Bx, 1, none⟩ = some (.int .i64 x.2.f1) := (bC_q kx 1).trans rfl
  have x2 : W.cell? ⟨Bx, 2, none⟩ = some (.int .i64 x.2.f2) := (bC_q kx 2).trans rfl
  have x3 : W.cell? ⟨Bx, 3, none⟩ = some (.int .i64 x.2.f3) := (bC_q kx 3).trans rfl
  have x4 : W.cell? ⟨Bx, 4, none⟩ = some (.int .i64 x.2.f4) := (bC_q kx 4).trans rfl
  have x5 : W.cell? ⟨Bx, 5, none⟩ = some (.int .i64 x.2.f5) := (bC_q kx 5).trans rfl
  have y0 : W.cell? ⟨w.heap.size, 0, none⟩ = some (.int .i64 a1) := (bC_q i2 0).trans rfl
  have HI := Ae_q (And.intro i2 (And.intro i3 i4))
  have HX := Ae_q kx
  have HE := Ae_q (end7d i3 i4 iB (.int .i64 x.2.f0) (.int .i64 x.2.f1) (.int .i64 x.2.f2) (.int .i64 x.2.f3) (.int .i64 x.2.f4) (.int .i64 x.2.f5) (.bool (x.2.f0 == 1)))
  have z0 : W.cell? ⟨w.heap.size + 1, 0, none⟩ = some (.int .i64 0) := (bC_q i3 0).trans rfl
  have z1 : W.cell? ⟨w.heap.size + 1, 1, none⟩ = some (.int .i64 0) := (bC_q i3 1).trans rfl
  have z2 : W.cell? ⟨w.heap.size + 1, 2, none⟩ = some (.int .i64 0) := (bC_q i3 2).trans rfl
  have z3 : W.cell? ⟨w.heap.size + 1, 3, none⟩ = some (.int .i64 0) := (bC_q i3 3).trans rfl
  have z4 : W.cell? ⟨w.heap.size + 1, 4, none⟩ = some (.int .i64 0) := (bC_q i3 4).trans rfl
  have z5 : W.cell? ⟨w.heap.size + 1, 5, none⟩ = some (.int .i64 0) := (bC_q i3 5).trans rfl
  have z6 : W.cell? ⟨w.heap.size + 1 + 1, 0, none⟩ = some (.bool false) := (bC_q i4 0).trans rfl
  have f0 := bF_q i3 0
  have f1 := bF_q i3 1
  have f2 := bF_q i3 2
  have f3 := bF_q i3 3
  have f4 := bF_q i3 4
  have f5 := bF_q i3 5
  have f6 := bF_q i4 0
  clear i2 i3 i4 kx
  have no : ¬ isMk a1 x.2 → ∀ p ∈ pre ++ [x], ¬ isMk a1 p.2 := fun h p hp => (List.mem_append.1 hp).elim (i1 p) (fun e => by simp at e; subst e; exact h)
  by_cases hb : x.2.f2 = a1
  rotate_left
  ·have hb0 : (x.2.f2 == a1) = false := by simp [hb]
   have Hb := no (fun h => hb h.1)
   clear hb no
   gi_wp2
   exact ⟨KeepsFrom.refl _ _, bR_q _ _, ⟨⟨Hb, HI.out.1, HI.out.2.1, HI.out.2.2, i5⟩, iB⟩⟩
  have hb0 : (x.2.f2 == a1) = true := by simp [hb]
  by_cases hk : x.2.f0 = 2
  ·have hk0 : (x.2.f0 != 2) = false := by simp [hk]
   have Hb := no (fun h => h.2 hk)
   clear hb hk no
   gi_wp2
   exact ⟨KeepsFrom.refl _ _, bR_q _ _, ⟨⟨Hb, HI.out.1, HI.out.2.1, HI.out.2.2, i5⟩, iB⟩⟩
  have hk0 : (x.2.f0 != 2) = true := by simp [hk]
  have Hb := Lib.hid (And.intro hb hk)
  clear hb hk no
  have n1 : ¬ Bx = w.heap.size + 1 := by omega
  have n2 : ¬ Bx = w.heap.size + 1 + 1 := by omega
  have n3 : ¬ w.heap.size + 1 = Bx := by omega
  have n4 : ¬ w.heap.size + 1 + 1 = Bx := by omega
  gi_wp2
  gi_region
  all_goals gi_wp2
  all_goals
   exact ⟨HE.out.1.from _, ⟨rfl, pre, x, rfl, i1, Hb.out, HE.out.2.1, HE.out.2.2.1⟩, HE.out.2.2.2⟩
 case done =>
  rintro D ys W hD rfl ⟨⟨i1, i2, i3, i4, i5⟩, iB⟩ hK
  have z0 : W.cell? ⟨w.heap.size + 1, 0, none⟩ = some (.int .i64 0) := (bC_q i3 0).trans rfl
  have z1 : W.cell? ⟨w.heap.size + 1, 1, none⟩ = some (.int .i64 0) := (bC_q i3 1).trans rfl
  have z2 : W.cell? ⟨w.heap.size + 1, 2, none⟩ = some (.int .i64 0) := (bC_q i3 2).trans rfl
  have z3 : W.cell? ⟨w.heap.size + 1, 3, none⟩ = some (.int .i64 0) := (bC_q i3 3).trans rfl
  have z4 : W.cell? ⟨w.heap.size + 1, 4, none⟩ = some (.int .i64 0) := (bC_q i3 4).trans rfl
  have z5 : W.cell? ⟨w.heap.size + 1, 5, none⟩ = some (.int .i64 0) := (bC_q i3 5).trans rfl
  have z6 : W.cell? ⟨w.heap.size + 1 + 1, 0, none⟩ = some (.bool false) := (bC_q i4 0).trans rfl
  have f0 := bF_q i3 0
  have f1 := bF_q i3 1
  have f2 := bF_q i3 2
  have f3 := bF_q i3 3
  have f4 := bF_q i3 4
  have f5 := bF_q i3 5
  have f6 := bF_q i4 0
  have HE := Ae_q (end7 i3 i4 iB (.int .i64 0) (.int .i64 0) (.int .i64 0) (.int .i64 0) (.int .i64 0) (.int .i64 0) (.bool false))
  clear i2 i3 i4
  gi_wp2
  refine made_out (by omega) HE.out hD (HE.out.1.same D _ hK rfl) ?_ rfl rfl
  exact ⟨_, _, _, _, _, _, _, made_none a1 l0.reverse (bk_none i1), rfl⟩
 case stop =>
  rintro D c pre W hD ⟨k, hk, rfl⟩ ⟨⟨rfl, ini, last, e1, e2, e3, b1, b2⟩, iB⟩ hK
  have HE := Ae_q (And.intro (KeepsOthers.refl W) (And.intro b1 (And.intro b2 iB)))
  clear b1 b2
  gi_wp2
  refine made_out (by omega) HE.out hD hK ?_ rfl rfl
  exact ⟨_, _, _, _, _, _, _, bk_hit hk e1 e2 e3, rfl⟩

theorem impl_made.calls (A0 : Option Addr) (c0 : Nat) (l0 : List (S27)) (a1 : Int) (r1 : Int) (r2 : Int) (r3 : Int) (r4 : Int) (r5 : Int) (r6 : Int) (r7 : Bool) (w : World) (hr0 : Kd.C k27 w A0 l0.length l0) (hc0 : l0.length ≤ c0) (h : impl_made.f l0 a1 = some (r1, r2, r3, r4, r5, r6, r7)) :
    Calls Try.prog 51 #[.slice A0 l0.length c0, .int .i64 a1] w fun e w' => e = .returned (.tuple #[.agg #[.int .i64 r1, .int .i64 r2, .int .i64 r3, .int .i64 r4, .int .i64 r5, .int .i64 r6], .bool r7]) ∧ Below w.heap.size w w' := by
 refine (callsIn_wide (n := 3)).1 ?_
 have h' := oI_q h
 refine (made_in Fence.wide 3 trivial trivial trivial rfl (nR_q _) A0 c0 l0 a1 w ⟨hr0⟩).mono ?_
 rintro e w' ⟨⟨s1, s2, s3, s4, s5, s6, s7, hs, rfl⟩, hB⟩
 rw [hs] at h'
 simp only [pE_q] at h'
 obtain ⟨rfl, rfl, rfl, rfl, rfl, rfl, rfl⟩ := h'
 exact ⟨rfl, hB⟩

end Go.Proofs.Ytnhenfmegpjigaa.PEv
