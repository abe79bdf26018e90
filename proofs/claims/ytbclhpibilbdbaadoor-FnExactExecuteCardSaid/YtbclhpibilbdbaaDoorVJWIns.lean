import Derived.Test.YtbclhpibilbdbaaDoorProg
import Derived.Test.YtbclhpibilbdbaaDoorVJWMore
import Derived.Test.YtbclhpibilbdbaaDoorVJWLast
import Derived.Lib.Overlaps
import Derived.Lib.AppendZerosOnto
import Derived.Lib.SliceRun
import Derived.Laws.Externs
import Derived.Laws.CopyOwn
import Derived.Laws.CopyRow
import Derived.Shelf.RegionOpenPlain
import Derived.WalkKit
import Derived.Lib.Walk
import Derived.Lib.Hide
namespace Go.Proofs.YtbclhpibilbdbaaDoor.Sh
open Go.RowKit Go.Lib Go.Proofs.YtbclhpibilbdbaaDoorW.PrintWords
set_option linter.unusedVariables false
set_option linter.unusedSimpArgs false
variable {P : Program}
theorem run_copy_sz (w : World) (dT sT ty elem : TypeId) (size g o dLen dCap : Nat) (a : Addr) (sLen sCap : Nat) (cur : List Value) (t : TypeId) (cs : List Value)
    (hu : P.underlying dT = some (.slice elem)) (hs : (P.info? elem).map (·.size) = some size)
    (hg : w.heap[g]? = some (.cells cur.toArray t (0, 0))) (hn : cs.length = Nat.min sLen dLen * size)
    (hsrc : ∀ j v, cs[j]? = some v → w.cell? (a.add j) = some v) (hfit : o + cs.length ≤ cur.length) (h1 : ∀ v ∈ cs, v.oneCell' = true) :
    (Builtin.copy_ #[dT, sT] ty #[.slice (some ⟨g, o, none⟩) dLen dCap, .slice (some a) sLen sCap]).run P w =
      .ok (goInt (Nat.min sLen dLen)) (w.setRow g (splice cur o cs).toArray) := by
  have hl := run_loadCells_list (P := P) w a cs hsrc
  have hst := run_storeCells_at P g o t cs 0 cur.toArray w hg (by simpa using hfit) h1
  cases hq : P.info? elem with
  | none => simp [hq] at hs
  | some i =>
    have hi : i.size = size := by simpa [hq] using hs
    simp [Builtin.copy_, run_underlying hu, Builtin.lenOf, Builtin.firstCells, sizeOf, typeInfo, hq, hi, ← hn, hl, hst, splice]
theorem wpList_copy_run3 (w : World) {ops : Array Oper} {rest : List Oper} {o : Oper} {a : Act} {Q : Exit → Act → World → Prop} (hgd : o.guard = none) (d s : Operand) (t t' : TypeId)
    (ho : o.op = .call { callee := .builtin .copy, args := #[d, s], argTypes := #[t, t'] }) (v u : Value) (hd : a.eval d = v) (hs : a.eval s = u) {v' : Value} {w' : World}
    (hr : (Builtin.copy_ #[t, t'] o.type #[v, u]).run P w = .ok v' w') (h : wpList P ops Q rest (a.put o.dst v') w') : wpList P ops Q (o :: rest) a w :=
  wpList_plain hgd fun _ hK => by
    unfold Oper.wp execOp
    simp only [ho, resolve, invoke, builtin, Sem.run_bind, Sem.run_pure, Result.andThen_ok, List.map_toArray, List.map_cons, List.map_nil, hd, hs, hr]
    exact hK _ _ h
theorem step_copy_run3 {ops : Array Oper} {o : Oper} {a : Act} {w : World} {K : Act → World → Prop} {Q : Exit → Act → World → Prop} {E : Prop}
    (hg : o.guard = none) (d x : Operand) (dT sT : TypeId) (hop : o.op = Op.call { callee := Callee.builtin Builtin.copy, args := #[d, x], argTypes := #[dT, sT] })
    (v u : Value) (hd : a.eval d = v) (hx : a.eval x = u) {v' : Value} {w' : World} (hr : (Builtin.copy_ #[dT, sT] o.type #[v, u]).run P w = .ok v' w') (hK : K (a.put o.dst v') w') :
    if Region.wanted o (yielded ops a.tmps) = true then Oper.wp P o a w K Q else E := by
  have hw : Region.wanted o (yielded ops a.tmps) = true := by simp [Region.wanted, hg]
  rw [if_pos hw]
  unfold Oper.wp
  simp [execOp, hop, resolve, invoke, builtin, hd, hx, hr, Result.andThen]
  exact hK
theorem row_cell {w : World} {g : Nat} {cur : List Value} {t : TypeId} (h : w.heap[g]? = some (.cells cur.toArray t (0, 0))) (j : Nat) : w.cell? ⟨g, j, none⟩ = cur[j]? := by
  simp [World.cell?, h]
theorem add_lit3 (g o j : Nat) : (⟨g, o, none⟩ : Addr).add j = ⟨g, o + j, none⟩ := by unfold Addr.add; split <;> simp_all
theorem lot_size : (Tryd.prog.info? 49).map (·.size) = some 3 := by kernel_rfl
theorem lot_info : (Tryd.prog.info? 49).map (fun i => (i.zero, i.size, i.bytes)) = some (some (.agg #[.int .i64 0, .int .i64 0, .int .i64 0]), 3, 24) := by kernel_rfl
theorem no_overlap (w : World) (vb g o lb cb : Nat) (vs cur : List Value) (hv : w.heap[vb]? = some (.cells vs.toArray 49 (0, 0))) (hg : w.heap[g]? = some (.cells cur.toArray 49 (0, 0))) (hne : vb ≠ g) (hc : cur.length ≠ 0) :
    (callFunc 66 #[.slice (some ⟨vb, 0, none⟩) 1 1, .slice (some ⟨g, o, none⟩) lb cb]).run Tryd.prog w = .ok (.value (.bool false)) w := by
  rw [run_callFunc_extern Tryd.func66 (by kernel_rfl) (by kernel_rfl) (by kernel_rfl) (e := Extern.SlicesOverlaps.overlaps #[32, 32] #[4]) (by kernel_rfl),
    Lib.run_overlaps_apart w 32 4 49 Tryd.underlying32 3 (by intro w; kernel_rfl) ⟨vb, 0, none⟩ ⟨g, o, none⟩ 1 1 lb cb hne 49 49 vs.length cur.length (by simp [World.shape?, hv]) (by simp [World.shape?, hg]) hc (by simp [World.frozen?, hv]) (by simp [World.frozen?, hv])]
  rfl
set_option maxHeartbeats 4000000 in
set_option maxRecDepth 100000 in
theorem insert_room (g n c i vb : Nat) (cur vs : List Value) (w : World) (hi : i < n) (hroom : n + 1 ≤ c) (hc63 : c ≤ 9223372036854775807) (hne : vb ≠ g)
    (hg : w.heap[g]? = some (.cells cur.toArray 49 (0, 0))) (hcl : cur.length = c * 3) (hv : w.heap[vb]? = some (.cells vs.toArray 49 (0, 0))) (hvl : vs.length = 3) (h1c : ∀ v ∈ cur.take (n * 3), v.oneCell' = true) (h1v : ∀ v ∈ vs, v.oneCell' = true) :
    Calls Tryd.prog 50 #[.slice (some ⟨g, 0, none⟩) n c, .int .i64 i, .slice (some ⟨vb, 0, none⟩) 1 1] w fun e w' =>
      e = .returned (.slice (some ⟨g, 0, none⟩) (n + 1) c) ∧ w' = (w.drew.setRow g (splice cur ((i + 1) * 3) ((cur.take (n * 3)).drop (i * 3))).toArray).setRow g (splice (splice cur ((i + 1) * 3) ((cur.take (n * 3)).drop (i * 3))) (i * 3) vs).toArray := by
  have u32 := run_underlying Tryd.underlying32
  have hz2 : ¬ ((i : Int) = (n : Int)) := by omega
  have hov : ∀ (lb cb : Nat), (callFunc 66 #[.slice (some ⟨vb, 0, none⟩) 1 1, .slice (some ⟨g, (i + 1) * 3, none⟩) lb cb]).run Tryd.prog w = .ok (.value (.bool false)) w := fun lb cb => no_overlap w vb g _ lb cb vs cur hv hg hne (by omega)
  have hw1 : IntKind.i64.wrap ((i : Int) + 1) = (i : Int) + 1 := by rw [IntKind.wrap_i64]; omega
  have hb1 : (0 : Int) ≤ (i : Int) + 1 := by omega
  have hin : i ≤ n := by omega
  have htn : ((i : Int) + 1).toNat = i + 1 := by omega
  have hb2 : ¬ (c = i + 1) := by omega
  have hb3 : (i : Int) ≤ (n : Int) + 1 := by omega
  have hb4 : ¬ (c = i) := by omega
  obtain ⟨D, hD⟩ : ∃ D, D = (cur.take (n * 3)).drop (i * 3) := ⟨_, rfl⟩
  rw [← hD]
  have hDl : D.length = (n - i) * 3 := by rw [hD, List.length_drop, List.length_take, hcl]; omega
  obtain ⟨cur2, hc2⟩ : ∃ c, c = splice cur ((i + 1) * 3) D := ⟨_, rfl⟩
  rw [← hc2]
  have hc2l : cur2.length = c * 3 := by rw [hc2, length_splice _ _ _ (by rw [hDl, hcl]; omega), hcl]
  obtain ⟨W1, hW1⟩ : ∃ W1, W1 = w.drew.setRow g cur2.toArray := ⟨_, rfl⟩
  rw [← hW1]
  have hcp1 : ∀ ty dc sc, (Builtin.copy_ #[32, 32] ty #[.slice (some ⟨g, (i + 1) * 3, none⟩) (n + 1 - (i + 1)) dc, .slice (some ⟨g, i * 3, none⟩) (n + 1 - i) sc]).run Tryd.prog w.drew = .ok (goInt ((n - i : Nat) : Int)) W1 := fun ty dc sc => by
    have hm : Nat.min (n + 1 - i) (n + 1 - (i + 1)) = n - i := by simp only [Nat.min_def]; split <;> omega
    have h := run_copy_sz (P := Tryd.prog) w.drew 32 32 ty 49 3 g ((i + 1) * 3) (n + 1 - (i + 1)) dc ⟨g, i * 3, none⟩ (n + 1 - i) sc cur 49 D Tryd.underlying32 lot_size hg (by rw [hm, hDl])
      (fun j v hj => by
        rw [add_lit3]
        have := row_cell hg (i * 3 + j)
        rw [hD, List.getElem?_drop, List.getElem?_take] at hj
        split at hj
        · exact this.trans hj
        · cases hj) (by rw [hDl, hcl]; omega) (fun v hv => h1c v (by rw [hD] at hv; exact List.mem_of_mem_drop hv))
    rw [hm, ← hc2, ← hW1] at h
    exact h
  have hg1 : W1.heap[g]? = some (.cells cur2.toArray 49 (0, 0)) := by rw [hW1]; exact setRow_heap w.drew g _ _ 49 (0, 0) hg
  have hv1 : W1.heap[vb]? = some (.cells vs.toArray 49 (0, 0)) := by rw [hW1]; exact (setRow_other w.drew g vb _ hne).trans hv
  have hcp2 : ∀ ty dc, (Builtin.copy_ #[32, 32] ty #[.slice (some ⟨g, i * 3, none⟩) (n + 1 - i) dc, .slice (some ⟨vb, 0, none⟩) 1 1]).run Tryd.prog W1 = .ok (goInt 1) (W1.setRow g (splice cur2 (i * 3) vs).toArray) := fun ty dc => by
    have hm : Nat.min 1 (n + 1 - i) = 1 := by simp only [Nat.min_def]; split <;> omega
    have h := run_copy_sz (P := Tryd.prog) W1 32 32 ty 49 3 g (i * 3) (n + 1 - i) dc ⟨vb, 0, none⟩ 1 1 cur2 49 vs Tryd.underlying32 lot_size hg1 (by rw [hm, hvl])
      (fun j v hj => by rw [add_lit3, Nat.zero_add]; exact (row_cell hv1 j).trans hj) (by rw [hvl, hc2l]; omega) h1v
    rw [hm] at h
    exact h
  have HC1 := Lib.hid hcp1
  have HC2 := Lib.hid hcp2
  clear hc2 hD hDl hcp1 hcp2 hc2l hg1 hv1 hcl hvl hW1 hg hv h1c h1v
  have mixed : Tryd.prog.follows Departure.mixedOrders = true := by kernel_rfl
  go_enter Tryd.func50, Tryd.ntmps50
  go_wp2_with (simp only [hov])
  go_region_law_o (refine step_copy_run3 rfl _ _ 32 32 rfl (.slice (some ⟨g, (i + 1) * 3, none⟩) (n + 1 - (i + 1)) (c - (i + 1))) (.slice (some ⟨g, i * 3, none⟩) (n + 1 - i) (c - i)) (by simp [Act.eval, Act.put]) (by simp [Act.eval, Act.put]) (HC1.out _ _ _) ?_)
  go_wp2_with (with_reducible refine wpList_copy_run3 _ rfl _ _ 32 32 rfl (.slice (some ⟨g, i * 3, none⟩) (n + 1 - i) (c - i)) (.slice (some ⟨vb, 0, none⟩) 1 1) rfl rfl (HC2.out _ _) ?_)
  go_ret
  exact ⟨rfl, rfl⟩
set_option maxHeartbeats 4000000 in
set_option maxRecDepth 100000 in
theorem insert_grow (g n c i vb : Nat) (cur vs : List Value) (w : World) (hi : i < n) (hnc : n ≤ c) (hroom : c < n + 1) (hbig : (n + 1) * 24 ≤ 140737488355328) (hne : vb ≠ g)
    (hg : w.heap[g]? = some (.cells cur.toArray 49 (0, 0))) (hcl : cur.length = c * 3) (hv : w.heap[vb]? = some (.cells vs.toArray 49 (0, 0))) (hvl : vs.length = 3) (h1c : ∀ v ∈ cur.take (n * 3), v.oneCell' = true) (h1v : ∀ v ∈ vs, v.oneCell' = true) :
    Calls Tryd.prog 50 #[.slice (some ⟨g, 0, none⟩) n c, .int .i64 i, .slice (some ⟨vb, 0, none⟩) 1 1] w fun e w' =>
      ∃ (G : Nat) (row : List Value), e = .returned (.slice (some ⟨w.heap.size, 0, none⟩) (n + 1) G) ∧ n + 1 ≤ G ∧ G ≤ maxLen ∧ row.length = G * 3 ∧ row.take (i * 3) = cur.take (i * 3) ∧
        Below w.heap.size w w' ∧ w'.heap[w.heap.size]? = some (.cells (splice (splice row (i * 3) vs) ((i + 1) * 3) ((cur.take (n * 3)).drop (i * 3))).toArray 49 (0, 0)) := by
  have u32 := run_underlying Tryd.underlying32
  obtain ⟨i0, hi0, hz0, hzs, hzb⟩ := info_parts lot_info
  have hz2 : ¬ ((i : Int) = (n : Int)) := by omega
  have hz3 : (c : Int) < (n : Int) + 1 := by omega
  have hgw : g < w.heap.size := by
    rcases Nat.lt_or_ge g w.heap.size with h | h
    · exact h
    · rw [Array.getElem?_eq_none h] at hg; cases hg
  have hvw : vb < w.heap.size := by
    rcases Nat.lt_or_ge vb w.heap.size with h | h
    · exact h
    · rw [Array.getElem?_eq_none h] at hv; cases hv
  have hkk : (n : Int) + 1 - (i : Int) = ((n + 1 - i : Nat) : Int) := by omega
  have hik : i + (n + 1 - i) = n + 1 := by omega
  obtain ⟨D, hD⟩ : ∃ D, D = (cur.take (n * 3)).drop (i * 3) := ⟨_, rfl⟩
  rw [← hD]
  have hDl : D.length = (n - i) * 3 := by rw [hD, List.length_drop, List.length_take, hcl]; omega
  obtain ⟨G, hG⟩ : ∃ G, G = grownCap w (n + 1) c 49 := ⟨_, rfl⟩
  have hGn : n + 1 ≤ G := by rw [hG]; exact grownCap_ge w _ _ _
  have hGm : G ≤ maxLen := by rw [hG]; exact grownCap_le_maxLen w (n + 1) c 49 (by unfold maxLen; omega)
  have hG63 : G ≤ 9223372036854775807 := by unfold maxLen at hGm; exact hGm
  obtain ⟨row, hrow⟩ : ∃ row : List Value, row = cur.take (i * 3) ++ (Builtin.zeroCells (Value.agg #[.int .i64 0, .int .i64 0, .int .i64 0]).cells (n + 1 - i)).toList ++ (Builtin.zeroCells (Value.agg #[.int .i64 0, .int .i64 0, .int .i64 0]).cells (G - (n + 1))).toList := ⟨_, rfl⟩
  have hzl : ∀ k, (Builtin.zeroCells (Value.agg #[.int .i64 0, .int .i64 0, .int .i64 0]).cells k).toList.length = k * 3 := fun k => by simp [Builtin.zeroCells, Value.cells]
  have hrl : row.length = G * 3 := by rw [hrow, List.length_append, List.length_append, hzl, hzl, List.length_take, hcl]; omega
  have hrt : row.take (i * 3) = cur.take (i * 3) := by
    have : (cur.take (i * 3)).length = i * 3 := by rw [List.length_take, hcl]; omega
    rw [hrow, List.append_assoc, List.take_append_of_le_length (by omega), List.take_of_length_le (by omega)]
  obtain ⟨W1, hW1⟩ : ∃ W1, W1 = w.drew.alloc (.cells row.toArray 49) := ⟨_, rfl⟩
  have hrz : ∀ ty, (Builtin.append_ #[32, 3] ty #[.slice (some ⟨g, 0, none⟩) i c, .int .i64 ((n : Int) + 1 - (i : Int))]).run Tryd.prog w = .ok (.slice (some ⟨w.heap.size, 0, none⟩) (n + 1) G) W1 := fun ty => by
    have hold : (Builtin.firstCells i0.size i (.slice (some ⟨g, 0, none⟩) i c)).run Tryd.prog w.drew = .ok (cur.take (i * 3)).toArray w.drew := by
      rw [hzs]
      exact run_firstCells_some w.drew 3 i ⟨g, 0, none⟩ i c (cur.take (i * 3)) (by rw [List.length_take]; omega) (fun j v hj => by
        rw [add_lit3, Nat.zero_add]
        rw [List.getElem?_take] at hj
        split at hj
        · exact (row_cell hg j).trans hj
        · cases hj)
    have h := Lib.run_append_grow_zeros w 32 3 ty 49 i0 _ .i64 .i64 Tryd.underlying32 Tryd.underlying3 hi0 hz0 (some ⟨g, 0, none⟩) i c (cur.take (i * 3)) hold (n + 1 - i) (by omega) (by omega) (by omega) (by omega) (by rw [hzb]; omega) (by rw [hzb, hik]; exact growslice_fits hroom hbig)
    rw [hik, ← hG] at h
    have er : (cur.take (i * 3)).toArray ++ Builtin.zeroCells (Value.agg #[.int .i64 0, .int .i64 0, .int .i64 0]).cells (n + 1 - i) ++ Builtin.zeroCells (Value.agg #[.int .i64 0, .int .i64 0, .int .i64 0]).cells (G - (n + 1)) = row.toArray := by
      rw [hrow]; apply Array.ext'; simp
    rw [hkk, hW1, ← er, h]
  have hS : w.drew.heap.size = w.heap.size := rfl
  have hN1 : W1.heap[w.heap.size]? = some (.cells row.toArray 49 (0, 0)) := by rw [hW1]; exact heap_alloc_new w.drew _
  have hg1 : W1.heap[g]? = some (.cells cur.toArray 49 (0, 0)) := by rw [hW1]; exact (Below.heap_alloc w.drew _ g hgw).trans hg
  have hv1 : W1.heap[vb]? = some (.cells vs.toArray 49 (0, 0)) := by rw [hW1]; exact (Below.heap_alloc w.drew _ vb hvw).trans hv
  have hb1 : Below w.heap.size w W1 := by rw [hW1]; exact (show Below w.heap.size w w.drew from ⟨rfl, rfl, rfl, Nat.le_refl _, fun _ _ => rfl⟩).alloc (Nat.le_refl _) _
  obtain ⟨row2, hr2⟩ : ∃ c, c = splice row (i * 3) vs := ⟨_, rfl⟩
  have hr2l : row2.length = G * 3 := by rw [hr2, length_splice _ _ _ (by rw [hvl, hrl]; omega), hrl]
  obtain ⟨W2, hW2⟩ : ∃ W2, W2 = W1.setRow w.heap.size row2.toArray := ⟨_, rfl⟩
  have hcpA : ∀ ty dc, (Builtin.copy_ #[32, 32] ty #[.slice (some ⟨w.heap.size, i * 3, none⟩) (n + 1 - i) dc, .slice (some ⟨vb, 0, none⟩) 1 1]).run Tryd.prog W1 = .ok (goInt 1) W2 := fun ty dc => by
    have hm : Nat.min 1 (n + 1 - i) = 1 := by simp only [Nat.min_def]; split <;> omega
    have h := run_copy_sz (P := Tryd.prog) W1 32 32 ty 49 3 w.heap.size (i * 3) (n + 1 - i) dc ⟨vb, 0, none⟩ 1 1 row 49 vs Tryd.underlying32 lot_size hN1 (by rw [hm, hvl])
      (fun j v hj => by rw [add_lit3, Nat.zero_add]; exact (row_cell hv1 j).trans hj) (by rw [hvl, hrl]; omega) h1v
    rw [hm, ← hr2, ← hW2] at h
    exact h
  have hN2 : W2.heap[w.heap.size]? = some (.cells row2.toArray 49 (0, 0)) := by rw [hW2]; exact setRow_heap W1 w.heap.size _ _ 49 (0, 0) hN1
  have hg2 : W2.heap[g]? = some (.cells cur.toArray 49 (0, 0)) := by rw [hW2]; exact (setRow_other W1 w.heap.size g _ (by omega)).trans hg1
  have hb2 : Below w.heap.size w W2 := by rw [hW2]; exact below_setRow hb1 (Nat.le_refl _) _
  obtain ⟨W3, hW3⟩ : ∃ W3, W3 = W2.drew.setRow w.heap.size (splice row2 ((i + 1) * 3) D).toArray := ⟨_, rfl⟩
  have hcpB : ∀ ty dc sc, (Builtin.copy_ #[32, 32] ty #[.slice (some ⟨w.heap.size, (i + 1) * 3, none⟩) (n + 1 - (i + 1)) dc, .slice (some ⟨g, i * 3, none⟩) (n - i) sc]).run Tryd.prog W2.drew = .ok (goInt ((n - i : Nat) : Int)) W3 := fun ty dc sc => by
    have hm : Nat.min (n - i) (n + 1 - (i + 1)) = n - i := by simp only [Nat.min_def]; split <;> omega
    have h := run_copy_sz (P := Tryd.prog) W2.drew 32 32 ty 49 3 w.heap.size ((i + 1) * 3) (n + 1 - (i + 1)) dc ⟨g, i * 3, none⟩ (n - i) sc row2 49 D Tryd.underlying32 lot_size hN2 (by rw [hm, hDl])
      (fun j v hj => by
        rw [add_lit3]
        have := row_cell (w := W2.drew) hg2 (i * 3 + j)
        rw [hD, List.getElem?_drop, List.getElem?_take] at hj
        split at hj
        · exact this.trans hj
        · cases hj) (by rw [hDl, hr2l]; omega) (fun v hv => h1c v (by rw [hD] at hv; exact List.mem_of_mem_drop hv))
    rw [hm, ← hW3] at h
    exact h
  have hN3 : W3.heap[w.heap.size]? = some (.cells (splice row2 ((i + 1) * 3) D).toArray 49 (0, 0)) := by rw [hW3]; exact setRow_heap W2.drew w.heap.size _ _ 49 (0, 0) hN2
  have hb3 : Below w.heap.size w W3 := by rw [hW3]; exact below_setRow (hb2.trans (show Below w.heap.size W2 W2.drew from ⟨rfl, rfl, rfl, Nat.le_refl _, fun _ _ => rfl⟩)) (Nat.le_refl _) _
  have HC1 := Lib.hid hcpA
  have HC2 := Lib.hid hcpB
  have HZ := Lib.hid hrz
  have HN := Lib.hid hN3
  have HR := Lib.hid (And.intro hrl hrt)
  have HQ := Lib.hid hr2
  have hw1 : IntKind.i64.wrap ((i : Int) + 1) = (i : Int) + 1 := by rw [IntKind.wrap_i64]; omega
  have hw2 : (0 : Int) ≤ (i : Int) + 1 := by omega
  have hin : i ≤ n := by omega
  have htn : ((i : Int) + 1).toNat = i + 1 := by omega
  have hGi : ¬ (G = i) := by omega
  have hGi1 : ¬ (G = i + 1) := by omega
  have hci : ¬ (c = i) := by omega
  have hb5 : (i : Int) ≤ (n : Int) := by omega
  have mixed : Tryd.prog.follows Departure.mixedOrders = true := by kernel_rfl
  clear hkk hik hD hDl hG hrow hzl hrl hrt hW1 hrz hS hN1 hg1 hv1 hb1 hr2 hr2l hW2 hcpA hN2 hg2 hb2 hW3 hcpB hN3 hcl hvl hg hv h1c h1v hi0 hz0 hzs hzb hGm
  go_enter Tryd.func50, Tryd.ntmps50
  go_wp2_with (first
    | (at_builtin; refine Lib.wpList_append_run _ rfl _ _ _ _ rfl _ _ rfl rfl _ _ (HZ.out _) ?_)
    | (with_reducible refine wpList_copy_run3 _ rfl _ _ 32 32 rfl (.slice (some ⟨w.heap.size, i * 3, none⟩) (n + 1 - i) (G - i)) (.slice (some ⟨vb, 0, none⟩) 1 1) rfl rfl (HC1.out _ _) ?_))
  go_region_law_o (refine step_copy_run3 rfl _ _ 32 32 rfl (.slice (some ⟨w.heap.size, (i + 1) * 3, none⟩) (n + 1 - (i + 1)) (G - (i + 1))) (.slice (some ⟨g, i * 3, none⟩) (n - i) (c - i)) (by simp [Act.eval, Act.put]) (by simp [Act.eval, Act.put]) (HC2.out _ _ _) ?_)
  go_wp2
  go_ret
  exact ⟨G, row, rfl, hGn, by unfold maxLen; exact hG63, HR.out.1, HR.out.2, hb3, by have h := HN.out; rw [HQ.out] at h; exact h⟩
theorem splice_two {α : Type} (L D vs : List α) (p : Nat) (h : p + vs.length + D.length ≤ L.length) : (splice (splice L (p + vs.length) D) p vs).take (p + vs.length + D.length) = L.take p ++ vs ++ D := by
  have e1 : (splice L (p + vs.length) D).take p = L.take p := by
    unfold splice
    rw [List.take_append_of_le_length (by rw [List.length_take]; omega), List.take_take]
    congr 1; omega
  have e2 : (splice L (p + vs.length) D).drop (p + vs.length) = D ++ L.drop (p + vs.length + D.length) := by
    unfold splice
    rw [List.drop_append_of_le_length (by rw [List.length_take]; omega), List.drop_eq_nil_of_le (by rw [List.length_take]; omega), List.nil_append]
  have e3 : splice (splice L (p + vs.length) D) p vs = (L.take p ++ vs ++ D) ++ L.drop (p + vs.length + D.length) := by
    rw [splice, e1, e2]; simp
  rw [e3, List.take_append_of_le_length (by simp only [List.length_append, List.length_take]; omega), List.take_of_length_le (by simp only [List.length_append, List.length_take]; omega)]
theorem splice_next {α : Type} (L D vs : List α) (p : Nat) (h : p + vs.length + D.length ≤ L.length) : (splice (splice L p vs) (p + vs.length) D).take (p + vs.length + D.length) = L.take p ++ vs ++ D := by
  have e1 : (splice L p vs).take (p + vs.length) = L.take p ++ vs := by
    have hl : (L.take p).length = p := by rw [List.length_take]; omega
    unfold splice
    rw [← List.append_assoc, List.take_append_of_le_length (by simp only [List.length_append, hl]; omega), List.take_of_length_le (by simp only [List.length_append, hl]; omega)]
  have hl2 : (splice L p vs).length = L.length := length_splice _ _ _ (by omega)
  rw [splice, e1, ← List.append_assoc, List.take_append_of_le_length (by simp only [List.length_append, List.length_take]; omega), List.take_of_length_le (by simp only [List.length_append, List.length_take]; omega)]
theorem own_of_block {w : World} {base g n c : Nat} {cur xs : List Value} (hb : base ≤ g) (hg : w.heap[g]? = some (.cells cur.toArray 49 (0, 0))) (hn : n ≤ c) (hc : c ≤ maxLen) (hcl : cur.length = c * 3) (hx : cur.take (n * 3) = xs) : w.ownsRow base 49 3 (.slice (some ⟨g, 0, none⟩) n c) n xs :=
  ⟨by rw [← hx, List.length_take, hcl]; omega, .inr ⟨g, c, cur.toArray, rfl, hb, hg, hn, hc, by simpa using hcl, by simpa using hx⟩⟩
set_option maxHeartbeats 4000000 in
set_option maxRecDepth 100000 in
theorem insert_own (base : Nat) (v : Value) (n i vb : Nat) (xs vs : List Value) (w : World) (hbase : base ≤ w.heap.size) (hown : w.ownsRow base 49 3 v n xs) (hi : i ≤ n) (hn : n ≤ 1048576)
    (hv : w.heap[vb]? = some (.cells vs.toArray 49 (0, 0))) (hvb : some vb ≠ v.ownBlock) (hvl : vs.length = 3) (h1c : ∀ u ∈ xs, u.oneCell' = true) (h1v : ∀ u ∈ vs, u.oneCell' = true) :
    Calls Tryd.prog 50 #[v, .int .i64 i, .slice (some ⟨vb, 0, none⟩) 1 1] w fun e w' => ∃ v', e = .returned v' ∧ w'.ownsRow base 49 3 v' (n + 1) (xs.take (i * 3) ++ vs ++ xs.drop (i * 3)) ∧ w.grownBy w' v.ownBlock ∧ (v'.ownBlock = v.ownBlock ∨ v'.ownBlock = some w.heap.size) := by
  by_cases hin : i = n
  · subst hin
    obtain ⟨i0, hi0, hz0, hzs, hzb⟩ := info_parts lot_info
    have hx3 : xs.length = i * 3 := hown.1
    have e1 : xs.take (i * 3) ++ vs ++ xs.drop (i * 3) = xs ++ vs := by rw [List.take_of_length_le (by omega), List.drop_eq_nil_of_le (by omega), List.append_nil]
    rw [e1]
    rcases hown.2 with ⟨rfl, rfl⟩ | ⟨g, c, cur, rfl, hbg, hg, hnc, hc63, hcs, hct⟩
    · have hcell : ∀ j u, vs[j]? = some u → w.cell? ((⟨vb, 0, none⟩ : Addr).add j) = some u := fun j u hj => by rw [add_lit3, Nat.zero_add]; exact (row_cell hv j).trans hj
      obtain ⟨v1, w1, hrun, ho1, hg1, _, hat1⟩ := run_append_own_at (P := Tryd.prog) w base 32 32 49 i0 _ 3 24 Tryd.underlying32 hi0 hz0 hzs hzb rfl (by omega) (.slice none 0 0) 0 xs hown ⟨vb, 0, none⟩ 1 1 vs (by rw [hvl]) hcell h1v (by unfold maxLen; omega) (by omega) hbase
      have HP := Lib.hid (And.intro ho1 (And.intro hg1 hat1))
      have HR := Lib.hid hrun
      clear ho1 hg1 hat1 hrun
      go_enter Tryd.func50, Tryd.ntmps50
      go_wp2_with (at_builtin; refine Lib.wpList_append_run _ rfl _ _ _ _ rfl _ _ rfl rfl _ _ HR.out ?_)
      go_ret
      exact ⟨_, rfl, HP.out.1, HP.out.2.1, HP.out.2.2⟩
    · have hcell : ∀ j u, vs[j]? = some u → w.cell? ((⟨vb, 0, none⟩ : Addr).add j) = some u := fun j u hj => by rw [add_lit3, Nat.zero_add]; exact (row_cell hv j).trans hj
      have hcz : c ≤ 9223372036854775807 := by unfold maxLen at hc63; exact hc63
      have hii : ((i : Int) == (i : Int)) = true := by simp
      obtain ⟨v1, w1, hrun, ho1, hg1, _, hat1⟩ := run_append_own_at (P := Tryd.prog) w base 32 32 49 i0 _ 3 24 Tryd.underlying32 hi0 hz0 hzs hzb rfl (by omega) (.slice (some ⟨g, 0, none⟩) i c) i xs hown ⟨vb, 0, none⟩ 1 1 vs (by rw [hvl]) hcell h1v (by unfold maxLen; omega) (by omega) hbase
      have HP := Lib.hid (And.intro ho1 (And.intro hg1 hat1))
      have HR := Lib.hid hrun
      clear hct hcs ho1 hg1 hat1 hrun
      go_enter Tryd.func50, Tryd.ntmps50
      go_wp2_with (at_builtin; refine Lib.wpList_append_run _ rfl _ _ _ _ rfl _ _ rfl rfl _ _ HR.out ?_)
      all_goals (go_ret; exact ⟨_, rfl, HP.out.1, HP.out.2.1, HP.out.2.2⟩)
  · rcases hown.2 with ⟨rfl, rfl⟩ | ⟨g, c, cur, rfl, hbg, hg, hnc, hc63, hcs, hct⟩
    · omega
    · have hne : vb ≠ g := fun e => hvb (by rw [e]; rfl)
      have hcz : c ≤ 9223372036854775807 := by unfold maxLen at hc63; exact hc63
      have hg' : w.heap[g]? = some (.cells cur.toList.toArray 49 (0, 0)) := by simpa using hg
      have hcl : cur.toList.length = c * 3 := by simpa using hcs
      have hDl : (xs.drop (i * 3)).length = (n - i) * 3 := by rw [List.length_drop, hown.1]; omega
      by_cases hroom : n + 1 ≤ c
      · refine (insert_room g n c i vb cur.toList vs w (by omega) hroom hcz hne hg' hcl hv hvl (by rw [hct]; exact h1c) h1v).mono ?_
        rintro e w' ⟨rfl, rfl⟩
        rw [hct]
        have hs := splice_two cur.toList (xs.drop (i * 3)) vs (i * 3) (by rw [hvl, hDl, hcl]; omega)
        rw [hvl, hDl] at hs
        have e3 : (i + 1) * 3 = i * 3 + 3 := by omega
        have e4 : i * 3 + 3 + (n - i) * 3 = (n + 1) * 3 := by omega
        rw [e4, ← e3] at hs
        have hl1 : (splice cur.toList ((i + 1) * 3) (xs.drop (i * 3))).length = c * 3 := by rw [length_splice _ _ _ (by rw [hDl, hcl]; omega), hcl]
        have ht : cur.toList.take (i * 3) = xs.take (i * 3) := by rw [← hct, List.take_take]; congr 1; omega
        refine ⟨_, rfl, own_of_block hbg (setRow_heap _ g _ _ 49 (0, 0) (setRow_heap w.drew g _ _ 49 (0, 0) hg)) hroom hc63 (by rw [length_splice _ _ _ (by rw [hvl, hl1]; omega), hl1]) (by rw [hs, ht]), ?_⟩
        refine ⟨⟨rfl, rfl, rfl, by simp [World.setRow], fun k hk hne' => ?_⟩, .inl rfl⟩
        have hkg : k ≠ g := fun e => hne' (by rw [e]; rfl)
        exact (setRow_other _ g k _ hkg).trans (setRow_other w.drew g k _ hkg)
      · refine (insert_grow g n c i vb cur.toList vs w (by omega) hnc (by omega) (by omega) hne hg' hcl hv hvl (by rw [hct]; exact h1c) h1v).mono ?_
        rintro e w' ⟨G, row, rfl, hG1, hG2, hrl, hrt, hb, hN⟩
        rw [hct] at hN
        have hs := splice_next row (xs.drop (i * 3)) vs (i * 3) (by rw [hvl, hDl, hrl]; omega)
        rw [hvl, hDl] at hs
        have e3 : (i + 1) * 3 = i * 3 + 3 := by omega
        have e4 : i * 3 + 3 + (n - i) * 3 = (n + 1) * 3 := by omega
        rw [e4, ← e3] at hs
        have hl1 : (splice row (i * 3) vs).length = G * 3 := by rw [length_splice _ _ _ (by rw [hvl, hrl]; omega), hrl]
        have ht : cur.toList.take (i * 3) = xs.take (i * 3) := by rw [← hct, List.take_take]; congr 1; omega
        refine ⟨_, rfl, own_of_block hbase hN hG1 hG2 (by rw [length_splice _ _ _ (by rw [hDl, hl1]; omega), hl1]) (by rw [hs, hrt, ht]), ?_⟩
        exact ⟨⟨hb.os, hb.tape, hb.output, hb.size, fun k hk _ => hb.block k hk⟩, .inr rfl⟩
end Go.Proofs.YtbclhpibilbdbaaDoor.Sh
