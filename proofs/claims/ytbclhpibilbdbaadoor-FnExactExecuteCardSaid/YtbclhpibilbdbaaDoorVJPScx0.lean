import Derived.Test.YtbclhpibilbdbaaDoorProg
import Derived.Below
import Derived.Deep.Draws
import Derived.Deep.AppendLies
import Derived.Maps.AppendAt
import Derived.OwnWalk
import Derived.Laws.BytesArg
import Derived.Laws.MakeOwn
import Derived.Laws.OwnMore
import Derived.Deep.OwnRows
import Derived.Tactics
import Derived.Lib.ConvBytes
import Derived.Laws.Slices
import Derived.WalkKit
import Derived.KernelRfl
import Derived.RowKit3
import Derived.Deep.LoopGhost
import Derived.Deep.QuietTactic
import Derived.BigQuiet
import Derived.WideLaws
import Derived.Deep.DeepCutAuto
import Derived.Deep.CutBlock
import Derived.Deep.RegionHeld3
import Derived.Laws.Rows
import Derived.Lib.AppendStr
import Derived.ArgAppend
import Derived.Laws.IdiomCopy
import Derived.OrdersHeld
import Derived.Laws.BitsLemmas
import Derived.RowKit
import Derived.Test.YtbclhpibilbdbaaDoorVJWWords
import Derived.Test.YtbclhpibilbdbaaDoorVJWLast
import Derived.Test.YtbclhpibilbdbaaDoorVJWTab
import Derived.Test.YtbclhpibilbdbaaDoorVJWFour
import Derived.Test.YtbclhpibilbdbaaDoorVJWQPut
import Derived.Test.YtbclhpibilbdbaaDoorVJWApart
import Derived.Test.YtbclhpibilbdbaaDoorVJWArr
import Derived.Test.YtbclhpibilbdbaaDoorVJWZeros
import Derived.Test.YtbclhpibilbdbaaDoorVJWFoot
import Derived.Test.YtbclhpibilbdbaaDoorVJWKept
import Derived.Test.YtbclhpibilbdbaaDoorVJWShare
import Derived.Test.YtbclhpibilbdbaaDoorVJWN
import Derived.Test.YtbclhpibilbdbaaDoorVJWFootNe
import Derived.Test.YtbclhpibilbdbaaDoorVJWAt
import Derived.Test.YtbclhpibilbdbaaDoorVJWEqStruct
import Derived.Test.YtbclhpibilbdbaaDoorVJWRepsOne
import Derived.Test.YtbclhpibilbdbaaDoorVJWInv
import Derived.Test.YtbclhpibilbdbaaDoorVJWInvWords
import Derived.Test.YtbclhpibilbdbaaDoorVJWGuard
import Derived.Test.YtbclhpibilbdbaaDoorVJWNEv
import Derived.Test.YtbclhpibilbdbaaDoorVJWMore
namespace Go.Proofs.YtbclhpibilbdbaaDoor.PSc
open Go.RowKit Go.Proofs.YtbclhpibilbdbaaDoorW.PrintWords Go.Proofs.YtbclhpibilbdbaaDoorW.PrintLast Go.Proofs.YtbclhpibilbdbaaDoorW.PrintMore
attribute [local go_sem] max2_int min2_int max_two min_two max_three min_three max_four min_four
set_option linter.unusedVariables false
set_option linter.unusedSimpArgs false



def errW : Option Int → Value
 | none => .nilIface
 | some c => .iface 83 (.int .i64 c)
theorem errW_none : errW none = .nilIface := rfl
theorem errW_some (c : Int) : errW (some c) = .iface 83 (.int .i64 c) := rfl

theorem info3 : (Tryd.prog.info? 3).map (fun i => (i.zero, i.size, i.bytes)) = some (some (.int .i64 0), 1, 8) := by kernel_rfl
theorem info9 : (Tryd.prog.info? 9).map (fun i => (i.zero, i.size, i.bytes)) = some (some (.string ⟨#[]⟩), 1, 16) := by kernel_rfl
theorem info49 : (Tryd.prog.info? 49).map (fun i => (i.zero, i.size, i.bytes)) = some (some (.agg #[(.int .i64 0), (.int .i64 0), (.int .i64 0)]), 3, 24) := by kernel_rfl
-- the values' own types
structure S49 where
 f0 : Int
 f1 : Int
 f2 : Int
def z49 : S49 := ⟨(0 : Int), (0 : Int), (0 : Int)⟩
def k49 : Kd S49 := Kd.iso (Kd.pair (Kd.int .i64) (Kd.pair (Kd.int .i64) (Kd.int .i64))) (fun x : S49 => (x.f0, x.f1, x.f2))
theorem k49_open {w : World} {x : S49} {cs : List Value} (h : k49.K w x cs) : cs = [.int .i64 x.f0, .int .i64 x.f1, .int .i64 x.f2] := by
 obtain ⟨_, _, rfl, rfl, ⟨_, _, rfl, rfl, rfl⟩⟩ := h
 exact rfl
theorem k49_openM {w : World} {base : Nat} {ok : Nat → Prop} {x : S49} {cs : List Value} (h : k49.M w base ok x cs) : cs = [.int .i64 x.f0, .int .i64 x.f1, .int .i64 x.f2] := by
 obtain ⟨_, _, rfl, rfl, ⟨_, _, rfl, rfl, rfl⟩⟩ := h
 exact rfl
theorem k49_mkM (w : World) (base : Nat) (ok : Nat → Prop) (x : S49)  : k49.M w base ok x [.int .i64 x.f0, .int .i64 x.f1, .int .i64 x.f2] := ⟨[.int .i64 x.f0], [.int .i64 x.f1, .int .i64 x.f2], rfl, rfl, ⟨[.int .i64 x.f1], [.int .i64 x.f2], rfl, rfl, rfl⟩⟩
def rd_T49 (xs : List S49) (i : Int) : S49 := xs.getD i.toNat z49
theorem at_T49 {w : World} {A : Option Addr} {n : Nat} {xs : List S49} (h : Kd.C k49 w A n xs) (i : Int) (h0 : 0 ≤ i) (h1 : i < n) : ∃ ad , A = some ad ∧ w.cell? (ad.add (i.toNat * 3)) = some (.int .i64 (rd_T49 xs i).f0) ∧ w.cell? ⟨(ad.add (i.toNat * 3)).block, (ad.add (i.toNat * 3)).off + 1, none⟩ = some (.int .i64 (rd_T49 xs i).f1) ∧ w.cell? ⟨(ad.add (i.toNat * 3)).block, (ad.add (i.toNat * 3)).off + 2, none⟩ = some (.int .i64 (rd_T49 xs i).f2) := by
 obtain ⟨ad, c, e, _, hK, hc0⟩ := Kd.C_get h z49 i h0 h1
 have hc : ∀ j u, c[j]? = some u → w.cell? (ad.add (i.toNat * 3 + j)) = some u := hc0
 obtain rfl := k49_open hK
 exact ⟨ad, e, hc 0 _ rfl, by rw [← add_field _ _ 1 (by omega)]; exact hc 1 _ rfl, by rw [← add_field _ _ 2 (by omega)]; exact hc 2 _ rfl⟩

class Up (W W' : World) : Prop where
 h : Below W.heap.size W W'
instance (W : World) : Up W W := ⟨Below.refl _ _⟩
instance (W W' : World) (o : Obj) [u : Up W W'] : Up W (W'.alloc o) := ⟨below_alloc u.h o⟩
instance (W W' : World) [u : Up W W'] : Up W W'.drew := ⟨below_drew1 u.h⟩
instance (W W' : World) (n : Nat) [u : Up W W'] : Up W (W'.drewN n) := ⟨pw_below_drewN u.h n⟩
theorem bel {w W W' : World} (h : Below w.heap.size w W) [u : Up W W'] : Below w.heap.size w W' := h.trans (u.h.mono h.size)
theorem rup {α : Type} {d : Kd α} {e base : Nat} {ok : Nat → Prop} {v : Value} {xs : List α} {W W' : World} (h : d.R e W base ok v xs) [u : Up W W'] : d.R e W' base ok v xs := Kd.R_below h u.h
theorem cup {α : Type} {d : Kd α} {A : Option Addr} {n : Nat} {xs : List α} {W W' : World} (h : d.C W A n xs) [u : Up W W'] : d.C W' A n xs := Kd.C_below h u.h
theorem bup {W W' : World} {g : Nat} {o : Obj} (h : W.heap[g]? = some o) [u : Up W W'] : W'.heap[g]? = some o := (u.h.block g (blk_lt h)).trans h
theorem cel {w W : World} {a : Addr} {v : Value} (h : Below w.heap.size w W) (hc : w.cell? a = some v) : W.cell? a = some v := (h.cell (World.block_lt_of_cell? w _ hc)).trans hc

abbrev Ae_q := @Aside0.mk
abbrev sA_q := @List.setIfInBounds_toArray
abbrev sZ_q := @List.set_cons_zero
abbrev sS_q := @List.set_cons_succ
abbrev pB_q := @pw_below_drewN
abbrev bS_q := @below_set
abbrev oD_q := @of_decide_eq_true
abbrev bD_q := @below_drew1
abbrev bA_q := @below_alloc
abbrev wL_q := @World.block_lt_of_cell?
abbrev bC_q := @blk_cell
abbrev oB_q := @Option.bind_eq_some_iff
abbrev lT_q := @List.length_take
abbrev lD_q := @List.length_drop
abbrev lM_q := @List.map_toArray
abbrev lC_q := @List.map_cons
abbrev lN_q := @List.map_nil
abbrev bF_q := @blk_frozen
abbrev dT_q := @decide_eq_true
abbrev oS_q := @Option.bind_some
abbrev bT_q := @below_step
abbrev bZ_q := @below_size
abbrev bN_q := @blk_drewN
abbrev bL_q := @blk_alloc
abbrev bW_q := @blk_drew
abbrev eS_q := @errW_some
abbrev eN_q := @errW_none
abbrev cN_q := @Kd.C_drewN
abbrev cA_q := @Kd.C_alloc
abbrev cD_q := @Kd.C_drew
abbrev rN_q := @Kd.R_drewN
abbrev rA_q := @Kd.R_alloc
abbrev rD_q := @Kd.R_drew
abbrev rM_q := @Kd.R_mono
abbrev bB_q := @blk_below
abbrev gC_q := @gate_callee
abbrev gD_q := @gate_dst
abbrev bE_q := @box_event
abbrev gL_q := @goesL_
abbrev oI_q := @Option.some.inj
abbrev rR_q := @Kd.R_reads'
abbrev aI_q := @Kd.at_int
abbrev rE_q := @Kd.R_elder'
abbrev rL_q := @Kd.R_lower
abbrev rB_q := @Kd.R_base
abbrev rT_q := @Kd.R_lt
abbrev rW_q := @Kd.R_new'
abbrev rF_q := @Kd.R_after
abbrev fM_q := @Bool.eq_false_iff
abbrev fN_q := @beq_eq_false_iff_ne
abbrev cB_q := @Kd.C_below
abbrev nR_q := @Nat.le_refl
abbrev bR_q := @Below.refl
abbrev dF_q := @decide_eq_false
abbrev oE_q := @Option.some.injEq
abbrev nE_q := @bne_eq_false_iff_eq
abbrev rS_q := @Kd.R_slice
abbrev nL_q := @Nat.ne_of_lt
abbrev nG_q := @Nat.ne_of_gt
abbrev rO_q := @Kd.R_below
abbrev nI_q := @bne_iff_ne
abbrev rI_q := @Kd.R_lit_step
abbrev nT_q := @Nat.le_trans
abbrev bG_q := @blk_grown
abbrev pE_q := @Prod.mk.injEq
abbrev cI (w : World) (g j : Nat) (x : Int) : Prop := w.cell? ⟨g, j, none⟩ = some (.int .i64 x)
theorem cZ {w : World} {g : Nat} {t : TypeId} {cs : Array Value} (h : Aside0 (w.heap[g]? = some (.cells cs t (0, 0)))) (j : Nat) {v : Value} (e : cs[j]? = some v) : w.cell? ⟨g, j, none⟩ = some v := (blk_cell h.out j).trans e
theorem pS_q : (∀ (a : Act) (N : Nat) (v : Value), Act.put a (some N) v = { a with tmps := a.tmps.setIfInBounds N v }) ∧ (∀ (l : List Value) (i : Nat) (v : Value), l.toArray.setIfInBounds i v = (l.set i v).toArray) ∧ (∀ (x : Value) (l : List Value) (v : Value), (x :: l).set 0 v = v :: l) ∧ (∀ (x : Value) (l : List Value) (n : Nat) (v : Value), (x :: l).set (n + 1) v = x :: l.set n v) ∧ (∀ n : Int, IntKind.i64.wrap n = Go.RowKit.wrap64 n) ∧ (∀ n : Int, IntKind.i32.wrap n = Go.RowKit.wrap32 n) :=
  ⟨fun _ _ _ => rfl, fun l i v => List.setIfInBounds_toArray l i v, fun _ _ _ => rfl, fun _ _ _ _ => rfl, i64_w, i32_w⟩

section
variable {P : Program} {md : Region.Mode} {ops : Array Oper} {Q : Exit → Act → World → Prop} {S : World → Prop} {ds : List Nat} {T : Bool × List (List Nat × List Nat)}
theorem pI {oi : Oper} {v : Value} {fuel : Nat} {l : Array Bool} {a : Act} {w : World} (hT : Aside0 (rtab md ops = T)) (i N : Nat) (hi : ops[i]? = some oi) (hN : oi.dst = some N) (hc : anyT T l.toList (l.toList.set i true) i = true)
    (hQ : ∀ c a w, Q (.panic c) (a.put oi.dst v) w → Q (.panic c) a w) (hw : Region.wanted oi (yielded ops a.tmps) = true) (hy : ∀ w, (execOp a.eval oi).run P w = .ok (.value v) w) {a' : Act} (ha : a.put (some N) v = a')
    (h : wpAnyLast P md ops Q S ds fuel (l.setIfInBounds i true) a' w) : wpAnyLast P md ops Q S ds (fuel + 1) l a w := pure_ (l.setIfInBounds i true) hi hN (any_of hT.out (by rw [Array.toList_setIfInBounds]; exact hc)) hQ (.inl ⟨hw, hy⟩) ha h
theorem pU {oi : Oper} {fuel : Nat} {l : Array Bool} {a : Act} {w : World} (hT : Aside0 (rtab md ops = T)) (i N : Nat) (hi : ops[i]? = some oi) (hN : oi.dst = some N) (hc : anyT T l.toList (l.toList.set i true) i = true)
    (hQ : ∀ c a w, Q (.panic c) (a.put oi.dst undef) w → Q (.panic c) a w) (hw : Region.wanted oi (yielded ops a.tmps) = false) {a' : Act} (ha : a.put (some N) undef = a')
    (h : wpAnyLast P md ops Q S ds fuel (l.setIfInBounds i true) a' w) : wpAnyLast P md ops Q S ds (fuel + 1) l a w := pure_ (l.setIfInBounds i true) hi hN (any_of hT.out (by rw [Array.toList_setIfInBounds]; exact hc)) hQ (.inr ⟨hw, rfl⟩) ha h
end

section
variable {P : Program} {md : Region.Mode} {ops : Array Oper} {Q : Exit → Act → World → Prop} {S : World → Prop} {ds : List Nat} {T : Bool × List (List Nat × List Nat)}
theorem pJ {oi : Oper} {v : Value} {fuel : Nat} {l : Array Bool} {a : Act} {w : World} (hT : Aside0 (rtab md ops = T)) (i N : Nat) (hi : ops[i]? = some oi) (hN : oi.dst = some N) {a' : Act}
    (h : wpAnyLast P md ops Q S ds fuel (l.setIfInBounds i true) a' w) (hc : anyT T l.toList (l.toList.set i true) i = true := by kernel_rfl) (hQ : ∀ c a w, Q (.panic c) (a.put oi.dst v) w → Q (.panic c) a w := by exact fun _ _ _ h => h)
    (hw : Region.wanted oi (yielded ops a.tmps) = true := by rfl) (hy : ∀ w, (execOp a.eval oi).run P w = .ok (.value v) w := by (intro w'; go_simp; with_reducible rfl)) (ha : a.put (some N) v = a' := by (simp only [pS_q]; rfl)) : wpAnyLast P md ops Q S ds (fuel + 1) l a w := pI hT i N hi hN hc hQ hw hy ha h
theorem pV {oi : Oper} {fuel : Nat} {l : Array Bool} {a : Act} {w : World} (hT : Aside0 (rtab md ops = T)) (i N : Nat) (hi : ops[i]? = some oi) (hN : oi.dst = some N) {a' : Act}
    (h : wpAnyLast P md ops Q S ds fuel (l.setIfInBounds i true) a' w) (hc : anyT T l.toList (l.toList.set i true) i = true := by kernel_rfl) (hQ : ∀ c a w, Q (.panic c) (a.put oi.dst undef) w → Q (.panic c) a w := by exact fun _ _ _ h => h)
    (hw : Region.wanted oi (yielded ops a.tmps) = false := by rfl) (ha : a.put (some N) undef = a' := by (simp only [pS_q]; rfl)) : wpAnyLast P md ops Q S ds (fuel + 1) l a w := pU hT i N hi hN hc hQ hw ha h
theorem nJ_q {fuel : Nat} {l : Array Bool} {a a' : Act} {w : World} (h : wpAnyLast P md ops Q S ds fuel l a' w) (e : a = a' := by (show Act.put _ (some _) _ = _; simp only [pS_q]; rfl)) : wpAnyLast P md ops Q S ds fuel l a w := norm_ e h
end

theorem m0_q {P : Prop} (h : P := by ((try simp only [lM_q, lC_q, lN_q]); first | done | rfl | (simp only [lD_q, lT_q]; rfl))) : P := h
theorem m1_q {P : Prop} (h : P := by (repeat (with_reducible first | exact HK.out | apply Kept.alloc | apply Kept.drewN | apply Kept.drew))) : P := h
theorem m2_q {P : Prop} (h : P := by (first | rfl | (simp; done) | (simp [*]; done))) : P := h
theorem m3_q {P : Prop} (h : P := by (first | rfl | (simp [eN_q, eS_q] <;> rfl) | (simp [*, eN_q, eS_q] <;> rfl))) : P := h
theorem m4_q {P : Prop} (h : P := by (first | exact HK.out.1 | exact (show Kept w _ (fun k_ => P0_ k_) from by repeat (with_reducible first | exact HK.out | apply Kept.alloc | apply Kept.drewN | apply Kept.drew)).1)) : P := h
theorem m5_q {P : Prop} (h : P := by (repeat (with_reducible first | exact HB.out | apply bA_q | apply pB_q | apply bD_q | refine bS_q ?_ GE182.out))) : P := h
theorem m6_q {P : Prop} (h : P := by kernel_rfl) : P := h
theorem m7_q {P : Prop} (h : P := by ((with_reducible repeat (first | refine bN_q ?_ _ | refine bW_q ?_ | refine bL_q ?_ _)); refine blk_put (cs := #[.int .i64 ((rd_T49 l0 x19_1).f0), .int .i64 ((rd_T49 l0 x19_1).f1), .int .i64 0]) ?_ 2 _ rfl; (with_reducible repeat (first | refine bN_q ?_ _ | refine bW_q ?_ | refine bL_q ?_ _)); refine blk_put (cs := #[.int .i64 ((rd_T49 l0 x19_1).f0), .int .i64 0, .int .i64 0]) ?_ 1 _ rfl; (with_reducible repeat (first | refine bN_q ?_ _ | refine bW_q ?_ | refine bL_q ?_ _)); refine blk_put (cs := #[.int .i64 0, .int .i64 0, .int .i64 0]) ?_ 0 _ rfl; (with_reducible repeat (first | refine bN_q ?_ _ | refine bW_q ?_ | refine bL_q ?_ _)); exact BK227.out)) : P := h
theorem m8_q {P : Prop} (h : P := by ((with_reducible repeat (first | refine bN_q ?_ _ | refine bW_q ?_ | refine bL_q ?_ _)); refine blk_put (cs := #[.int .i64 ((rd_T49 l0 x7_1).f0), .int .i64 ((rd_T49 l0 x7_1).f1), .int .i64 0]) ?_ 2 _ rfl; (with_reducible repeat (first | refine bN_q ?_ _ | refine bW_q ?_ | refine bL_q ?_ _)); refine blk_put (cs := #[.int .i64 ((rd_T49 l0 x7_1).f0), .int .i64 0, .int .i64 0]) ?_ 1 _ rfl; (with_reducible repeat (first | refine bN_q ?_ _ | refine bW_q ?_ | refine bL_q ?_ _)); refine blk_put (cs := #[.int .i64 0, .int .i64 0, .int .i64 0]) ?_ 0 _ rfl; (with_reducible repeat (first | refine bN_q ?_ _ | refine bW_q ?_ | refine bL_q ?_ _)); exact BK159.out)) : P := h
theorem m9_q {P : Prop} (h : P := by (repeat (with_reducible first | exact HB.out | apply bA_q | apply pB_q | apply bD_q | refine bS_q ?_ GE337.out | refine bS_q ?_ GE345.out))) : P := h
theorem m10_q {P : Prop} (h : P := by (first | (go_simp; done) | (go_simp; rfl))) : P := h
theorem m11_q {P : Prop} (h : P := by (repeat (with_reducible first | exact HB.out | apply bA_q | apply pB_q | apply bD_q | refine bS_q ?_ GE362.out))) : P := h
theorem m12_q {P : Prop} (h : P := by ((with_reducible repeat (first | refine bN_q ?_ _ | refine bW_q ?_ | refine bL_q ?_ _)); refine blk_put (cs := #[.int .i64 ((rd_T49 l0 x13_2).f0), .int .i64 ((rd_T49 l0 x13_2).f1), .int .i64 0]) ?_ 2 _ rfl; (with_reducible repeat (first | refine bN_q ?_ _ | refine bW_q ?_ | refine bL_q ?_ _)); refine blk_put (cs := #[.int .i64 ((rd_T49 l0 x13_2).f0), .int .i64 0, .int .i64 0]) ?_ 1 _ rfl; (with_reducible repeat (first | refine bN_q ?_ _ | refine bW_q ?_ | refine bL_q ?_ _)); refine blk_put (cs := #[.int .i64 0, .int .i64 0, .int .i64 0]) ?_ 0 _ rfl; (with_reducible repeat (first | refine bN_q ?_ _ | refine bW_q ?_ | refine bL_q ?_ _)); exact BK389.out)) : P := h
theorem m13_q {P : Prop} (h : P := by ((with_reducible repeat (first | refine bN_q ?_ _ | refine bW_q ?_ | refine bL_q ?_ _)); refine blk_put (cs := #[.int .i64 ((rd_T49 l0 x7_1).f0), .int .i64 ((rd_T49 l0 x7_1).f1), .int .i64 0]) ?_ 2 _ rfl; (with_reducible repeat (first | refine bN_q ?_ _ | refine bW_q ?_ | refine bL_q ?_ _)); refine blk_put (cs := #[.int .i64 ((rd_T49 l0 x7_1).f0), .int .i64 0, .int .i64 0]) ?_ 1 _ rfl; (with_reducible repeat (first | refine bN_q ?_ _ | refine bW_q ?_ | refine bL_q ?_ _)); refine blk_put (cs := #[.int .i64 0, .int .i64 0, .int .i64 0]) ?_ 0 _ rfl; (with_reducible repeat (first | refine bN_q ?_ _ | refine bW_q ?_ | refine bL_q ?_ _)); exact BK345.out)) : P := h
theorem m14_q {P : Prop} (h : P := by (repeat (with_reducible first | exact HB.out | apply bA_q | apply pB_q | apply bD_q | refine bS_q ?_ GE209.out))) : P := h
theorem m15_q {P : Prop} (h : P := by (repeat (with_reducible first | exact HB.out | apply bA_q | apply pB_q | apply bD_q | refine bS_q ?_ GE389.out))) : P := h
theorem m16_q {P : Prop} (h : P := by (repeat (with_reducible first | exact HB.out | apply bA_q | apply pB_q | apply bD_q | refine bS_q ?_ GE159.out))) : P := h
theorem m17_q {P : Prop} (h : P := by ((with_reducible repeat (first | refine bN_q ?_ _ | refine bW_q ?_ | refine bL_q ?_ _)); refine blk_far ?_ NB337_345.out _; (with_reducible repeat (first | refine bN_q ?_ _ | refine bW_q ?_ | refine bL_q ?_ _)); refine blk_far ?_ NB337_345.out _; (with_reducible repeat (first | refine bN_q ?_ _ | refine bW_q ?_ | refine bL_q ?_ _)); refine blk_far ?_ NB337_345.out _; (with_reducible repeat (first | refine bN_q ?_ _ | refine bW_q ?_ | refine bL_q ?_ _)); exact BK337.out)) : P := h
theorem m18_q {P : Prop} (h : P := by (repeat (first | exact Drawn0.refl _ | apply Drawn0.step))) : P := h
theorem m19_q {P : Prop} (h : P := by ((with_reducible repeat (first | apply rA_q | apply rN_q | apply rD_q)); exact rM_q (Kd.R_far (p := ⟨gb389, 2, none⟩) (Kd.R_far (p := ⟨gb389, 1, none⟩) (Kd.R_far (p := ⟨gb389, 0, none⟩) (rM_q HO_11.out (fun k_ hk => (⟨hk, hk.2⟩ : _ ∧ k_ ≠ gb389))) (fun _ hk => hk.2) (.int .i64 ((rd_T49 l0 x13_2).f0))) (fun _ hk => hk.2) (.int .i64 ((rd_T49 l0 x13_2).f1))) (fun _ hk => hk.2) (.int .i64 ((rd_T49 l0 x13_2).f2))) (fun _ hk => ⟨hk.1.1, hk.1.2⟩))) : P := h
theorem m20_q {P : Prop} (h : P := by ((with_reducible repeat (first | apply rA_q | apply rN_q | apply rD_q)); exact rM_q (Kd.R_far (p := ⟨gb389, 2, none⟩) (Kd.R_far (p := ⟨gb389, 1, none⟩) (Kd.R_far (p := ⟨gb389, 0, none⟩) (rM_q HO_12.out (fun k_ hk => (⟨hk, hk.2⟩ : _ ∧ k_ ≠ gb389))) (fun _ hk => hk.2) (.int .i64 ((rd_T49 l0 x13_2).f0))) (fun _ hk => hk.2) (.int .i64 ((rd_T49 l0 x13_2).f1))) (fun _ hk => hk.2) (.int .i64 ((rd_T49 l0 x13_2).f2))) (fun _ hk => ⟨hk.1.1, hk.1.2⟩))) : P := h
theorem m21_q {P : Prop} (h : P := by ((with_reducible repeat (first | refine bN_q ?_ _ | refine bW_q ?_ | refine bL_q ?_ _)); refine blk_put (cs := #[.int .i64 ((rd_T49 l0 x31_2).f0), .int .i64 ((rd_T49 l0 x31_2).f1), .int .i64 0]) ?_ 2 _ rfl; (with_reducible repeat (first | refine bN_q ?_ _ | refine bW_q ?_ | refine bL_q ?_ _)); refine blk_put (cs := #[.int .i64 ((rd_T49 l0 x31_2).f0), .int .i64 0, .int .i64 0]) ?_ 1 _ rfl; (with_reducible repeat (first | refine bN_q ?_ _ | refine bW_q ?_ | refine bL_q ?_ _)); refine blk_put (cs := #[.int .i64 0, .int .i64 0, .int .i64 0]) ?_ 0 _ rfl; (with_reducible repeat (first | refine bN_q ?_ _ | refine bW_q ?_ | refine bL_q ?_ _)); exact BK209.out)) : P := h
theorem m22_q {P : Prop} (h : P := by ((with_reducible repeat (first | apply rA_q | apply rN_q | apply rD_q)); exact rM_q (Kd.R_far (p := ⟨gb345, 2, none⟩) (Kd.R_far (p := ⟨gb345, 1, none⟩) (Kd.R_far (p := ⟨gb345, 0, none⟩) (rM_q HO_5.out (fun k_ hk => (⟨hk, hk.2⟩ : _ ∧ k_ ≠ gb345))) (fun _ hk => hk.2) (.int .i64 ((rd_T49 l0 x7_1).f0))) (fun _ hk => hk.2) (.int .i64 ((rd_T49 l0 x7_1).f1))) (fun _ hk => hk.2) (.int .i64 ((rd_T49 l0 x7_1).f2))) (fun _ hk => ⟨hk.1.1, hk.1.2⟩))) : P := h
theorem m23_q {P : Prop} (h : P := by exact (fun k_ hk => ⟨Kd.freshB (g := gb337) (o := .cells #[.int .i64 a1_0, .int .i64 a1_1, .int .i64 a1_2] 49 (0, 0)) (bup BK337.out) k_ hk, Kd.freshB (g := gb345) (o := .cells #[.int .i64 ((rd_T49 l0 x7_1).f0), .int .i64 ((rd_T49 l0 x7_1).f1), .int .i64 ((rd_T49 l0 x7_1).f2)] 49 (0, 0)) (bup BK345.out) k_ hk⟩)) : P := h
theorem m24_q {P : Prop} (h : P := by (repeat (with_reducible first | exact HB.out | apply bA_q | apply pB_q | apply bD_q | refine bS_q ?_ GE337.out))) : P := h
theorem m25_q {P : Prop} (h : P := by (repeat (with_reducible first | exact HB.out | apply bA_q | apply pB_q | apply bD_q | refine bS_q ?_ GE330.out))) : P := h
theorem m26_q {P : Prop} (h : P := by ((with_reducible repeat (first | apply rA_q | apply rN_q | apply rD_q)); exact rM_q (Kd.R_far (p := ⟨gb209, 2, none⟩) (Kd.R_far (p := ⟨gb209, 1, none⟩) (Kd.R_far (p := ⟨gb209, 0, none⟩) (rM_q HO_11.out (fun k_ hk => (⟨hk, hk.2⟩ : _ ∧ k_ ≠ gb209))) (fun _ hk => hk.2) (.int .i64 ((rd_T49 l0 x31_2).f0))) (fun _ hk => hk.2) (.int .i64 ((rd_T49 l0 x31_2).f1))) (fun _ hk => hk.2) (.int .i64 ((rd_T49 l0 x31_2).f2))) (fun _ hk => ⟨hk.1.1, hk.1.2⟩))) : P := h
theorem m27_q {P : Prop} (h : P := by ((with_reducible repeat (first | apply rA_q | apply rN_q | apply rD_q)); exact rM_q (Kd.R_far (p := ⟨gb209, 2, none⟩) (Kd.R_far (p := ⟨gb209, 1, none⟩) (Kd.R_far (p := ⟨gb209, 0, none⟩) (rM_q HO_12.out (fun k_ hk => (⟨hk, hk.2⟩ : _ ∧ k_ ≠ gb209))) (fun _ hk => hk.2) (.int .i64 ((rd_T49 l0 x31_2).f0))) (fun _ hk => hk.2) (.int .i64 ((rd_T49 l0 x31_2).f1))) (fun _ hk => hk.2) (.int .i64 ((rd_T49 l0 x31_2).f2))) (fun _ hk => ⟨hk.1.1, hk.1.2⟩))) : P := h
theorem m28_q {P : Prop} (h : P := by (repeat (with_reducible first | exact HB.out | apply bA_q | apply pB_q | apply bD_q | refine bS_q ?_ GE169.out))) : P := h
theorem m29_q {P : Prop} (h : P := by (first | exact HG.out | exact HG.out.on (bel HB.out))) : P := h
theorem m30_q {P : Prop} (h : P := by (first | exact Kd.R_nil _ _ _ _ _ | exact Kd.N_nil _ _ _ _ _ | exact Kd.V_nil _ _ _ _ _ | exact Kd.Q_nil _ _ _ _ _ | exact Kd.S_nil _ _ _ _ _)) : P := h
theorem m31_q {P : Prop} (h : P := by (repeat (with_reducible first | exact HB.out | apply bA_q | apply pB_q | apply bD_q | refine bS_q ?_ GE227.out))) : P := h
theorem m32_q {P : Prop} (h : P := by ((with_reducible repeat (first | refine bN_q ?_ _ | refine bW_q ?_ | refine bL_q ?_ _)); refine blk_put (cs := #[.int .i64 ((rd_T49 l0 x13_2).f0), .int .i64 ((rd_T49 l0 x13_2).f1), .int .i64 ((rd_T49 l0 x13_2).f2)]) ?_ 2 _ rfl; (with_reducible repeat (first | refine bN_q ?_ _ | refine bW_q ?_ | refine bL_q ?_ _)); exact BK389.out)) : P := h
theorem m33_q {P : Prop} (h : P := by ((with_reducible repeat (first | refine bN_q ?_ _ | refine bW_q ?_ | refine bL_q ?_ _)); refine blk_put (cs := #[.int .i64 ((rd_T49 l0 x7_1).f0), .int .i64 ((rd_T49 l0 x7_1).f1), .int .i64 ((rd_T49 l0 x7_1).f2)]) ?_ 2 _ rfl; (with_reducible repeat (first | refine bN_q ?_ _ | refine bW_q ?_ | refine bL_q ?_ _)); exact BK345.out)) : P := h
theorem m34_q {P : Prop} (h : P := by ((with_reducible repeat (first | apply rA_q | apply rN_q | apply rD_q)); exact rM_q HO_11.out (fun _ hk => ⟨hk.2, hk.1⟩))) : P := h
theorem m35_q {P : Prop} (h : P := by (repeat (with_reducible first | exact HB.out | apply bA_q | apply pB_q | apply bD_q | refine bS_q ?_ GE123.out))) : P := h
theorem m36_q {P : Prop} (h : P := by (repeat (first | exact HR0.out | (with_reducible refine cA_q ?_ _) | (with_reducible refine cN_q ?_ _) | (with_reducible refine cD_q ?_)))) : P := h
theorem m37_q {P : Prop} (h : P := by exact cup (cB_q HR0.out HB.out)) : P := h
theorem m38_q {P : Prop} (h : P := by (have := HK1.out; omega)) : P := h
theorem m39_q {P : Prop} (h : P := by exact (fun k_ hk => ⟨Kd.fresh' (rT_q (rup HO_11.out)) k_ hk, Kd.freshB (g := gb209) (o := .cells #[.int .i64 ((rd_T49 l0 x31_2).f0), .int .i64 ((rd_T49 l0 x31_2).f1), .int .i64 ((rd_T49 l0 x31_2).f2)] 49 (0, 0)) (bup BK209.out) k_ hk⟩)) : P := h
theorem m40_q {P : Prop} (h : P := by exact (fun k_ hk => ⟨Kd.fresh' (rT_q (rup HO_11.out)) k_ hk, Kd.freshB (g := gb389) (o := .cells #[.int .i64 ((rd_T49 l0 x13_2).f0), .int .i64 ((rd_T49 l0 x13_2).f1), .int .i64 ((rd_T49 l0 x13_2).f2)] 49 (0, 0)) (bup BK389.out) k_ hk⟩)) : P := h
theorem m41_q {P : Prop} (h : P := by ((with_reducible repeat (first | refine bN_q ?_ _ | refine bW_q ?_ | refine bL_q ?_ _)); refine blk_far ?_ NB337_345.out _; (with_reducible repeat (first | refine bN_q ?_ _ | refine bW_q ?_ | refine bL_q ?_ _)); exact BK337.out)) : P := h
theorem m42_q {P : Prop} (h : P := by (repeat (with_reducible first | exact HB.out | apply bA_q | apply pB_q | apply bD_q | refine bS_q ?_ GE150.out | refine bS_q ?_ GE151.out))) : P := h
theorem m43_q {P : Prop} (h : P := by (repeat (with_reducible first | exact HB.out | apply bA_q | apply pB_q | apply bD_q | refine bS_q ?_ GE330.out | refine bS_q ?_ GE331.out))) : P := h
theorem m44_q {P : Prop} (h : P := by exact cup (rR_q HO_0.out).2.2) : P := h
theorem m45_q {P : Prop} (h : P := by (have := HK1.out; first | omega | exact nR_q _)) : P := h
theorem m46_q {P : Prop} (h : P := by exact (Reps.none _ _)) : P := h
theorem m47_q {P : Prop} (h : P := by exact (rR_q HO_0.out).2.1) : P := h
theorem m48_q {P : Prop} (h : P := by (first | omega | exact nR_q _)) : P := h
theorem m49_q {P : Prop} (h : P := by ((with_reducible repeat (first | apply rA_q | apply rN_q | apply rD_q)); exact rM_q HO381.out (fun _ hk => hk.2))) : P := h
theorem m50_q {P : Prop} (h : P := by ((with_reducible repeat (first | apply rA_q | apply rN_q | apply rD_q)); exact rM_q HO384.out (fun _ hk => hk.2))) : P := h
theorem m51_q {P : Prop} (h : P := by (repeat (with_reducible first | exact HB.out | apply bA_q | apply pB_q | apply bD_q | refine bS_q ?_ GE143.out))) : P := h
theorem m52_q {P : Prop} (h : P := by (repeat (with_reducible first | exact HB.out | apply bA_q | apply pB_q | apply bD_q | refine bS_q ?_ GE150.out))) : P := h
theorem m53_q {P : Prop} (h : P := by (repeat (with_reducible first | exact HB.out | apply bA_q | apply pB_q | apply bD_q | refine bS_q ?_ GE199.out))) : P := h
theorem m54_q {P : Prop} (h : P := by exact (Reps.one (show Kd.M (Kd.int .u8) _ _ _ ((wrap64 (48 + (Int.tmod a0 10))) % 256) [.int .u8 ((wrap64 (48 + (Int.tmod a0 10))) % 256)] from rfl) (Reps.none _ _))) : P := h
theorem m55_q {P : Prop} (h : P := by (repeat (with_reducible first | exact HB.out | apply bA_q | apply pB_q | apply bD_q | refine bS_q ?_ GE326.out))) : P := h
theorem m56_q {P : Prop} (h : P := by (repeat (first | exact (cB_q HR0.out (bel HB.out)) | (with_reducible refine cA_q ?_ _) | (with_reducible refine cN_q ?_ _) | (with_reducible refine cD_q ?_)))) : P := h
theorem m57_q {P : Prop} (h : P := by (have := HJ4.out; have := HK2.out; first | omega | exact nR_q _)) : P := h
theorem m58_q {P : Prop} (h : P := by (have := HJ4.out; have := HK2.out; have := HJ17.out; have := HJ23.out; omega)) : P := h
theorem m59_q {P : Prop} (h : P := by exact k49_mkM _ _ _ (⟨((rd_T49 l0 x7_1).f0), ((rd_T49 l0 x7_1).f1), ((rd_T49 l0 x7_1).f2)⟩ : S49)) : P := h
theorem m60_q {P : Prop} (h : P := by exact HC0.out) : P := h
theorem m61_q {P : Prop} (h : P := by exact (fun k_ hk => Kd.freshB (g := gb182) (o := .cells #[.int .i64 a1_0, .int .i64 a1_1, .int .i64 a1_2] 49 (0, 0)) (bup BK182.out) k_ hk)) : P := h
theorem m62_q {P : Prop} (h : P := by (repeat (with_reducible first | exact HB.out | apply bA_q | apply pB_q | apply bD_q | refine bS_q ?_ GB18.out | refine bS_q ?_ GE182.out))) : P := h
theorem m63_q {P : Prop} (h : P := by ((with_reducible repeat (first | apply rA_q | apply rN_q | apply rD_q)); exact rM_q HO_12.out (fun _ hk => ⟨hk.2, hk.1⟩))) : P := h
theorem m64_q {P : Prop} (h : P := by exact k49_mkM _ _ _ (⟨((rd_T49 l0 x31_2).f0), ((rd_T49 l0 x31_2).f1), wrap64 (((rd_T49 l0 x31_2).f2) - x15_23)⟩ : S49)) : P := h
theorem m65_q {P : Prop} (h : P := by (have := HK1.out; have := HJ6.out; have := HJ23.out; have := HJ42.out; have := HJ64.out; first | omega | exact nR_q _)) : P := h
theorem m66_q {P : Prop} (h : P := by (have := HJ4.out; have := HK2.out; have := HJ21.out; omega)) : P := h
theorem m67_q {P : Prop} (h : P := by ((try simp only [lM_q, lC_q, lN_q]); first | done | (simp only [hji8]; rfl) | rfl | (simp only [lD_q, lT_q]; rfl))) : P := h
theorem m68_q {P : Prop} (h : P := by ((try simp only [lM_q, lC_q, lN_q]); first | done | (simp only [hji6]; rfl) | rfl | (simp only [lD_q, lT_q]; rfl))) : P := h
theorem m69_q {P : Prop} (h : P := by ((with_reducible repeat (first | apply rA_q | apply rN_q | apply rD_q)); exact rM_q HO_0.out (fun _ hk => hk.1.1))) : P := h
theorem m70_q {P : Prop} (h : P := by ((try simp only [lM_q, lC_q, lN_q]); first | done | (simp only [hji7]; rfl) | rfl | (simp only [lD_q, lT_q]; rfl))) : P := h
theorem m71_q {P : Prop} (h : P := by ((with_reducible repeat (first | apply rA_q | apply rN_q | apply rD_q)); exact rM_q HO187.out (fun _ hk => hk.2))) : P := h
theorem m72_q {P : Prop} (h : P := by ((with_reducible repeat (first | apply rA_q | apply rN_q | apply rD_q)); exact rM_q HO_11.out (fun _ hk => hk.1))) : P := h
theorem m73_q {P : Prop} (h : P := by ((with_reducible repeat (first | apply rA_q | apply rN_q | apply rD_q)); exact rM_q HO_12.out (fun _ hk => hk.1))) : P := h
theorem m74_q {P : Prop} (h : P := by ((with_reducible repeat (first | apply rA_q | apply rN_q | apply rD_q)); exact rM_q HO_12.out (fun _ hk => hk.2))) : P := h
theorem m75_q {P : Prop} (h : P := by ((with_reducible repeat (first | apply rA_q | apply rN_q | apply rD_q)); exact rM_q HO221.out (fun _ hk => hk.2))) : P := h
theorem m76_q {P : Prop} (h : P := by ((with_reducible repeat (first | apply rA_q | apply rN_q | apply rD_q)); exact rM_q HO224.out (fun _ hk => hk.2))) : P := h
theorem m77_q {P : Prop} (h : P := by ((with_reducible repeat (first | apply rA_q | apply rN_q | apply rD_q)); exact rM_q HO_7.out (fun _ hk => hk.2))) : P := h
theorem m78_q {P : Prop} (h : P := by ((with_reducible repeat (first | apply rA_q | apply rN_q | apply rD_q)); exact rM_q HO_6.out (fun _ hk => hk.2))) : P := h
theorem m79_q {P : Prop} (h : P := by ((with_reducible repeat (first | apply rA_q | apply rN_q | apply rD_q)); exact rM_q HO_0.out (fun _ hk => hk.1))) : P := h
theorem m80_q {P : Prop} (h : P := by (have := HK1.out; have := HJ18.out; have := HJ34.out; have := HJ52.out; first | omega | exact nR_q _)) : P := h
theorem m81_q {P : Prop} (h : P := by (have := HK1.out; have := HJ6.out; have := HJ23.out; have := HJ42.out; first | omega | exact nR_q _)) : P := h
theorem m82_q {P : Prop} (h : P := by exact k49_mkM _ _ _ (⟨(rd_T49 l0 x19_1).f0, (rd_T49 l0 x19_1).f1, (rd_T49 l0 x19_1).f2⟩ : S49)) : P := h
theorem m83_q {P : Prop} (h : P := by (first | rfl | (simp; done) | (simp only [← hji31] <;> (first | rfl | simp)) | (simp [*]; done))) : P := h
theorem m84_q {P : Prop} (h : P := by (first | rfl | (simp; done) | (simp only [← hji6] <;> (first | rfl | simp)) | (simp [*]; done))) : P := h
theorem m85_q {P : Prop} (h : P := by exact k49_mkM _ _ _ (⟨(rd_T49 l0 x8_1).f0, (rd_T49 l0 x8_1).f1, (rd_T49 l0 x8_1).f2⟩ : S49)) : P := h
theorem m86_q {P : Prop} (h : P := by ((with_reducible repeat (first | apply rA_q | apply rN_q | apply rD_q)); exact HQ26.out)) : P := h
theorem m87_q {P : Prop} (h : P := by ((with_reducible repeat (first | apply rA_q | apply rN_q | apply rD_q)); exact HQ33.out)) : P := h
theorem m88_q {P : Prop} (h : P := by exact k49_mkM _ _ _ (⟨((rd_T49 l0 x31_2).f0), ((rd_T49 l0 x31_2).f1), x15_23⟩ : S49)) : P := h
theorem m89_q {P : Prop} (h : P := by (repeat (with_reducible first | exact HB.out | apply bA_q | apply pB_q | apply bD_q))) : P := h
theorem m90_q {P : Prop} (h : P := by exact k49_mkM _ _ _ (⟨((rd_T49 l0 x13_2).f0), ((rd_T49 l0 x13_2).f1), ji31⟩ : S49)) : P := h
theorem m91_q {P : Prop} (h : P := by (have := HK1.out; have := HJ18.out; have := HJ34.out; first | omega | exact nR_q _)) : P := h
theorem m92_q {P : Prop} (h : P := by (have := HJ4.out; have := HK2.out; have := HJ17.out; first | omega | exact nR_q _)) : P := h
theorem m93_q {P : Prop} (h : P := by (have := HK1.out; have := HJ6.out; have := HJ23.out; first | omega | exact nR_q _)) : P := h
theorem m94_q {P : Prop} (h : P := by (have := HK1.out; have := HJ7.out; omega)) : P := h
theorem m95_q {P : Prop} (h : P := by exact (bZ_q (bel HB.out))) : P := h
theorem m96_q {P : Prop} (h : P := by simp only [putAll, Act.put, sA_q, sZ_q, sS_q]) : P := h
theorem m97_q {P : Prop} (h : P := by exact cup (rR_q HO187.out).2.2) : P := h
theorem m98_q {P : Prop} (h : P := by exact (bel HB.out)) : P := h
end Go.Proofs.YtbclhpibilbdbaaDoor.PSc
