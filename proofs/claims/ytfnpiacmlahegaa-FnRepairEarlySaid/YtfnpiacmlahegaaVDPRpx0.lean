import Derived.Test.YtfnpiacmlahegaaProg
import Derived.Below
import Derived.Deep.Draws
import Derived.Deep.AppendLies
import Derived.Maps.AppendAt
import Derived.OwnWalk
import Derived.Laws.BytesArg
import Derived.Laws.MakeOwn
import Derived.Laws.OwnMore
import Derived.Deep.OwnRows
import Derived.Tactics
import Derived.Lib.ConvBytes
import Derived.Laws.Slices
import Derived.WalkKit
import Derived.KernelRfl
import Derived.RowKit3
import Derived.Deep.LoopGhost
import Derived.Deep.QuietTactic
import Derived.BigQuiet
import Derived.WideLaws
import Derived.Deep.DeepCutAuto
import Derived.Deep.CutBlock
import Derived.Deep.RegionHeld3
import Derived.Laws.Rows
import Derived.Lib.AppendStr
import Derived.ArgAppend
import Derived.Laws.IdiomCopy
import Derived.OrdersHeld
import Derived.Laws.BitsLemmas
import Derived.RowKit
import Derived.Test.YtfnpiacmlahegaaVDWWords
import Derived.Test.YtfnpiacmlahegaaVDWLast
import Derived.Test.YtfnpiacmlahegaaVDWTab
import Derived.Test.YtfnpiacmlahegaaVDWFour
import Derived.Test.YtfnpiacmlahegaaVDWQPut
import Derived.Test.YtfnpiacmlahegaaVDWApart
import Derived.Test.YtfnpiacmlahegaaVDWArr
import Derived.Test.YtfnpiacmlahegaaVDWZeros
import Derived.Test.YtfnpiacmlahegaaVDWFoot
import Derived.Test.YtfnpiacmlahegaaVDWKept
import Derived.Test.YtfnpiacmlahegaaVDWShare
import Derived.Test.YtfnpiacmlahegaaVDWN
import Derived.Test.YtfnpiacmlahegaaVDWFootNe
import Derived.Test.YtfnpiacmlahegaaVDWAt
import Derived.Test.YtfnpiacmlahegaaVDWEqStruct
import Derived.Test.YtfnpiacmlahegaaVDWRepsOne
import Derived.Test.YtfnpiacmlahegaaVDWInv
import Derived.Test.YtfnpiacmlahegaaVDWInvWords
import Derived.Test.YtfnpiacmlahegaaVDWGuard
import Derived.Test.YtfnpiacmlahegaaVDWNEv
import Derived.Test.YtfnpiacmlahegaaVDWMore
namespace Go.Proofs.Ytfnpiacmlahegaa.PRp
open Go.RowKit Go.Proofs.YtfnpiacmlahegaaW.PrintWords Go.Proofs.YtfnpiacmlahegaaW.PrintLast Go.Proofs.YtfnpiacmlahegaaW.PrintMore
attribute [local go_sem] max2_int min2_int max_two min_two max_three min_three max_four min_four
set_option linter.unusedVariables false
set_option linter.unusedSimpArgs false



def errW : Option Int → Value
 | none => .nilIface
 | some c => .iface 0 (.int .i64 c)
theorem errW_none : errW none = .nilIface := rfl
theorem errW_some (c : Int) : errW (some c) = .iface 0 (.int .i64 c) := rfl

theorem info3 : (Try.prog.info? 3).map (fun i => (i.zero, i.size, i.bytes)) = some (some (.int .i64 0), 1, 8) := by kernel_rfl
theorem info5 : (Try.prog.info? 5).map (fun i => (i.zero, i.size, i.bytes)) = some (some (.int .u8 0), 1, 1) := by kernel_rfl
theorem info63 : (Try.prog.info? 63).map (fun i => (i.zero, i.size, i.bytes)) = some (some (.agg #[(.int .i64 0), (.int .i64 0), (.int .i64 0), (.slice none 0 0)]), 4, 48) := by kernel_rfl
structure S59 where
 f0 : Int
 f1 : Int
 f2 : Int
 f3 : (List Int)
structure S63 where
 f0 : Int
 f1 : Int
 f2 : Int
 f3 : (List Int)
def z63 : S63 := ⟨(0 : Int), (0 : Int), (0 : Int), ([] : List Int)⟩
def k63 : Kd S63 := Kd.iso (Kd.pair (Kd.int .i64) (Kd.pair (Kd.int .i64) (Kd.pair (Kd.int .i64) (Kd.slice 3 (Kd.int .i64))))) (fun x : S63 => (x.f0, x.f1, x.f2, x.f3))
theorem k63_open {w : World} {x : S63} {cs : List Value} (h : k63.K w x cs) : ∃ A3 c3, cs = [.int .i64 x.f0, .int .i64 x.f1, .int .i64 x.f2, .slice A3 x.f3.length c3] ∧ x.f3.length ≤ c3 ∧ (Kd.int .i64).C w A3 x.f3.length x.f3 := by
 obtain ⟨_, _, rfl, rfl, ⟨_, _, rfl, rfl, ⟨_, _, rfl, rfl, ⟨A3, c3, rfl, l3, g3⟩⟩⟩⟩ := h
 exact ⟨A3, c3, rfl, l3, g3⟩
theorem k63_openM {w : World} {base : Nat} {ok : Nat → Prop} {x : S63} {cs : List Value} (h : k63.M w base ok x cs) : ∃ v3, cs = [.int .i64 x.f0, .int .i64 x.f1, .int .i64 x.f2, v3] ∧ (Kd.int .i64).R 3 w base ok v3 x.f3 := by
 obtain ⟨_, _, rfl, rfl, ⟨_, _, rfl, rfl, ⟨_, _, rfl, rfl, ⟨v3, rfl, g3⟩⟩⟩⟩ := h
 exact ⟨v3, rfl, g3⟩
theorem k63_mkM (w : World) (base : Nat) (ok : Nat → Prop) (x : S63) {v3 : Value} (g3 : (Kd.int .i64).R 3 w base ok v3 x.f3) : k63.M w base ok x [.int .i64 x.f0, .int .i64 x.f1, .int .i64 x.f2, v3] := ⟨[.int .i64 x.f0], [.int .i64 x.f1, .int .i64 x.f2, v3], rfl, rfl, ⟨[.int .i64 x.f1], [.int .i64 x.f2, v3], rfl, rfl, ⟨[.int .i64 x.f2], [v3], rfl, rfl, ⟨v3, rfl, g3⟩⟩⟩⟩
def rd_T63 (xs : List S63) (i : Int) : S63 := xs.getD i.toNat z63
theorem at_T63 {w : World} {A : Option Addr} {n : Nat} {xs : List S63} (h : Kd.C k63 w A n xs) (i : Int) (h0 : 0 ≤ i) (h1 : i < n) : ∃ ad A3 c3, A = some ad ∧ w.cell? (ad.add (i.toNat * 4)) = some (.int .i64 (rd_T63 xs i).f0) ∧ w.cell? ⟨(ad.add (i.toNat * 4)).block, (ad.add (i.toNat * 4)).off + 1, none⟩ = some (.int .i64 (rd_T63 xs i).f1) ∧ w.cell? ⟨(ad.add (i.toNat * 4)).block, (ad.add (i.toNat * 4)).off + 2, none⟩ = some (.int .i64 (rd_T63 xs i).f2) ∧ w.cell? ⟨(ad.add (i.toNat * 4)).block, (ad.add (i.toNat * 4)).off + 3, none⟩ = some (.slice A3 (rd_T63 xs i).f3.length c3) ∧ (rd_T63 xs i).f3.length ≤ c3 ∧ (Kd.int .i64).C w A3 (rd_T63 xs i).f3.length (rd_T63 xs i).f3 := by
 obtain ⟨ad, c, e, _, hK, hc0⟩ := Kd.C_get h z63 i h0 h1
 have hc : ∀ j u, c[j]? = some u → w.cell? (ad.add (i.toNat * 4 + j)) = some u := hc0
 obtain ⟨A3, c3, rfl, l3, g3⟩ := k63_open hK
 exact ⟨ad, A3, c3, e, hc 0 _ rfl, by rw [← add_field _ _ 1 (by omega)]; exact hc 1 _ rfl, by rw [← add_field _ _ 2 (by omega)]; exact hc 2 _ rfl, by rw [← add_field _ _ 3 (by omega)]; exact hc 3 _ rfl, l3, g3⟩

class Up (W W' : World) : Prop where
 h : Below W.heap.size W W'
instance (W : World) : Up W W := ⟨Below.refl _ _⟩
instance (W W' : World) (o : Obj) [u : Up W W'] : Up W (W'.alloc o) := ⟨below_alloc u.h o⟩
instance (W W' : World) [u : Up W W'] : Up W W'.drew := ⟨below_drew1 u.h⟩
instance (W W' : World) (n : Nat) [u : Up W W'] : Up W (W'.drewN n) := ⟨pw_below_drewN u.h n⟩
theorem bel {w W W' : World} (h : Below w.heap.size w W) [u : Up W W'] : Below w.heap.size w W' := h.trans (u.h.mono h.size)
theorem rup {α : Type} {d : Kd α} {e base : Nat} {ok : Nat → Prop} {v : Value} {xs : List α} {W W' : World} (h : d.R e W base ok v xs) [u : Up W W'] : d.R e W' base ok v xs := Kd.R_below h u.h
theorem cup {α : Type} {d : Kd α} {A : Option Addr} {n : Nat} {xs : List α} {W W' : World} (h : d.C W A n xs) [u : Up W W'] : d.C W' A n xs := Kd.C_below h u.h
theorem bup {W W' : World} {g : Nat} {o : Obj} (h : W.heap[g]? = some o) [u : Up W W'] : W'.heap[g]? = some o := (u.h.block g (blk_lt h)).trans h
theorem cel {w W : World} {a : Addr} {v : Value} (h : Below w.heap.size w W) (hc : w.cell? a = some v) : W.cell? a = some v := (h.cell (World.block_lt_of_cell? w _ hc)).trans hc

abbrev Ae_q := @Aside0.mk
abbrev sA_q := @List.setIfInBounds_toArray
abbrev sZ_q := @List.set_cons_zero
abbrev sS_q := @List.set_cons_succ
abbrev pB_q := @pw_below_drewN
abbrev bS_q := @below_set
abbrev oD_q := @of_decide_eq_true
abbrev bD_q := @below_drew1
abbrev bA_q := @below_alloc
abbrev bC_q := @blk_cell
abbrev kS_q := @KeepBut.set_
abbrev oB_q := @Option.bind_eq_some_iff
abbrev lT_q := @List.length_take
abbrev lD_q := @List.length_drop
abbrev lM_q := @List.map_toArray
abbrev lC_q := @List.map_cons
abbrev lN_q := @List.map_nil
abbrev bF_q := @blk_frozen
abbrev dT_q := @decide_eq_true
abbrev kN_q := @keep_drewN
abbrev kA_q := @keep_alloc
abbrev kD_q := @keep_drew
abbrev wD_q := @World.drewN_drewN
abbrev oS_q := @Option.bind_some
abbrev bT_q := @below_step
abbrev kT_q := @KeepBut.trans
abbrev bZ_q := @below_size
abbrev bN_q := @blk_drewN
abbrev bL_q := @blk_alloc
abbrev bW_q := @blk_drew
abbrev kF_q := @keep_far
abbrev eS_q := @errW_some
abbrev eN_q := @errW_none
abbrev cN_q := @Kd.C_drewN
abbrev cA_q := @Kd.C_alloc
abbrev cD_q := @Kd.C_drew
abbrev rN_q := @Kd.R_drewN
abbrev rA_q := @Kd.R_alloc
abbrev rD_q := @Kd.R_drew
abbrev rM_q := @Kd.R_mono
abbrev bB_q := @blk_below
abbrev gC_q := @gate_callee
abbrev gD_q := @gate_dst
abbrev bE_q := @box_event
abbrev gL_q := @goesL_
abbrev oI_q := @Option.some.inj
abbrev kB_q := @KeepBut.blk
abbrev rR_q := @Kd.R_reads'
abbrev aI_q := @Kd.at_int
abbrev tN_q := @Kd.S_drewN
abbrev tA_q := @Kd.S_alloc
abbrev tD_q := @Kd.S_drew
abbrev rE_q := @Kd.R_elder'
abbrev rL_q := @Kd.R_lower
abbrev rB_q := @Kd.R_base
abbrev rT_q := @Kd.R_lt
abbrev rW_q := @Kd.R_new'
abbrev rF_q := @Kd.R_after
abbrev kO_q := @KeepBut.of_below
abbrev fM_q := @Bool.eq_false_iff
abbrev fN_q := @beq_eq_false_iff_ne
abbrev cB_q := @Kd.C_below
abbrev nR_q := @Nat.le_refl
abbrev bR_q := @Below.refl
abbrev dF_q := @decide_eq_false
abbrev oE_q := @Option.some.injEq
abbrev nE_q := @bne_eq_false_iff_eq
abbrev nA_q := @Nat.add_assoc
abbrev rP_q := @Kd.R_append_rows_step
abbrev rS_q := @Kd.R_slice
abbrev nL_q := @Nat.ne_of_lt
abbrev nG_q := @Nat.ne_of_gt
abbrev rO_q := @Kd.R_below
abbrev nI_q := @bne_iff_ne
abbrev rI_q := @Kd.R_lit_step
abbrev nT_q := @Nat.le_trans
abbrev rK_q := @Kd.R_keep
abbrev bG_q := @blk_grown
abbrev pE_q := @Prod.mk.injEq
abbrev kI_q := Kd.int .i64
abbrev cI (w : World) (g j : Nat) (x : Int) : Prop := w.cell? ⟨g, j, none⟩ = some (.int .i64 x)
theorem cZ {w : World} {g : Nat} {t : TypeId} {cs : Array Value} (h : Aside0 (w.heap[g]? = some (.cells cs t (0, 0)))) (j : Nat) {v : Value} (e : cs[j]? = some v) : w.cell? ⟨g, j, none⟩ = some v := (blk_cell h.out j).trans e
theorem pS_q : (∀ (a : Act) (N : Nat) (v : Value), Act.put a (some N) v = { a with tmps := a.tmps.setIfInBounds N v }) ∧ (∀ (l : List Value) (i : Nat) (v : Value), l.toArray.setIfInBounds i v = (l.set i v).toArray) ∧ (∀ (x : Value) (l : List Value) (v : Value), (x :: l).set 0 v = v :: l) ∧ (∀ (x : Value) (l : List Value) (n : Nat) (v : Value), (x :: l).set (n + 1) v = x :: l.set n v) ∧ (∀ n : Int, IntKind.i64.wrap n = Go.RowKit.wrap64 n) ∧ (∀ n : Int, IntKind.i32.wrap n = Go.RowKit.wrap32 n) :=
  ⟨fun _ _ _ => rfl, fun l i v => List.setIfInBounds_toArray l i v, fun _ _ _ => rfl, fun _ _ _ _ => rfl, i64_w, i32_w⟩

section
variable {P : Program} {md : Region.Mode} {ops : Array Oper} {Q : Exit → Act → World → Prop} {S : World → Prop} {ds : List Nat} {T : Bool × List (List Nat × List Nat)}
theorem pI {oi : Oper} {v : Value} {fuel : Nat} {l : Array Bool} {a : Act} {w : World} (hT : Aside0 (rtab md ops = T)) (i N : Nat) (hi : ops[i]? = some oi) (hN : oi.dst = some N) (hc : anyT T l.toList (l.toList.set i true) i = true)
    (hQ : ∀ c a w, Q (.panic c) (a.put oi.dst v) w → Q (.panic c) a w) (hw : Region.wanted oi (yielded ops a.tmps) = true) (hy : ∀ w, (execOp a.eval oi).run P w = .ok (.value v) w) {a' : Act} (ha : a.put (some N) v = a')
    (h : wpAnyLast P md ops Q S ds fuel (l.setIfInBounds i true) a' w) : wpAnyLast P md ops Q S ds (fuel + 1) l a w := pure_ (l.setIfInBounds i true) hi hN (any_of hT.out (by rw [Array.toList_setIfInBounds]; exact hc)) hQ (.inl ⟨hw, hy⟩) ha h
theorem pU {oi : Oper} {fuel : Nat} {l : Array Bool} {a : Act} {w : World} (hT : Aside0 (rtab md ops = T)) (i N : Nat) (hi : ops[i]? = some oi) (hN : oi.dst = some N) (hc : anyT T l.toList (l.toList.set i true) i = true)
    (hQ : ∀ c a w, Q (.panic c) (a.put oi.dst undef) w → Q (.panic c) a w) (hw : Region.wanted oi (yielded ops a.tmps) = false) {a' : Act} (ha : a.put (some N) undef = a')
    (h : wpAnyLast P md ops Q S ds fuel (l.setIfInBounds i true) a' w) : wpAnyLast P md ops Q S ds (fuel + 1) l a w := pure_ (l.setIfInBounds i true) hi hN (any_of hT.out (by rw [Array.toList_setIfInBounds]; exact hc)) hQ (.inr ⟨hw, rfl⟩) ha h
end

section
variable {P : Program} {md : Region.Mode} {ops : Array Oper} {Q : Exit → Act → World → Prop} {S : World → Prop} {ds : List Nat} {T : Bool × List (List Nat × List Nat)}
theorem pJ {oi : Oper} {v : Value} {fuel : Nat} {l : Array Bool} {a : Act} {w : World} (hT : Aside0 (rtab md ops = T)) (i N : Nat) (hi : ops[i]? = some oi) (hN : oi.dst = some N) {a' : Act}
    (h : wpAnyLast P md ops Q S ds fuel (l.setIfInBounds i true) a' w) (hc : anyT T l.toList (l.toList.set i true) i = true := by kernel_rfl) (hQ : ∀ c a w, Q (.panic c) (a.put oi.dst v) w → Q (.panic c) a w := by exact fun _ _ _ h => h)
    (hw : Region.wanted oi (yielded ops a.tmps) = true := by rfl) (hy : ∀ w, (execOp a.eval oi).run P w = .ok (.value v) w := by (intro w'; go_simp; with_reducible rfl)) (ha : a.put (some N) v = a' := by (simp only [pS_q]; rfl)) : wpAnyLast P md ops Q S ds (fuel + 1) l a w := pI hT i N hi hN hc hQ hw hy ha h
theorem pV {oi : Oper} {fuel : Nat} {l : Array Bool} {a : Act} {w : World} (hT : Aside0 (rtab md ops = T)) (i N : Nat) (hi : ops[i]? = some oi) (hN : oi.dst = some N) {a' : Act}
    (h : wpAnyLast P md ops Q S ds fuel (l.setIfInBounds i true) a' w) (hc : anyT T l.toList (l.toList.set i true) i = true := by kernel_rfl) (hQ : ∀ c a w, Q (.panic c) (a.put oi.dst undef) w → Q (.panic c) a w := by exact fun _ _ _ h => h)
    (hw : Region.wanted oi (yielded ops a.tmps) = false := by rfl) (ha : a.put (some N) undef = a' := by (simp only [pS_q]; rfl)) : wpAnyLast P md ops Q S ds (fuel + 1) l a w := pU hT i N hi hN hc hQ hw ha h
theorem nJ_q {fuel : Nat} {l : Array Bool} {a a' : Act} {w : World} (h : wpAnyLast P md ops Q S ds fuel l a' w) (e : a = a' := by (show Act.put _ (some _) _ = _; simp only [pS_q]; rfl)) : wpAnyLast P md ops Q S ds fuel l a w := norm_ e h
end

theorem m0_q {P : Prop} (h : P := by ((try simp only [lM_q, lC_q, lN_q]); first | done | rfl | (simp only [lD_q, lT_q]; rfl))) : P := h
theorem m1_q {P : Prop} (h : P := by (repeat (with_reducible first | exact HB.out | apply bA_q | apply pB_q | apply bD_q | refine bS_q ?_ GE630.out | refine bS_q ?_ GE631.out))) : P := h
theorem m2_q {P : Prop} (h : P := by (repeat (with_reducible first | exact HB.out | apply bA_q | apply pB_q | apply bD_q | refine bS_q ?_ GE353.out))) : P := h
theorem m3_q {P : Prop} (h : P := by (repeat (with_reducible first | exact HB.out | apply bA_q | apply pB_q | apply bD_q | refine bS_q ?_ GE293.out))) : P := h
theorem m4_q {P : Prop} (h : P := by (repeat (with_reducible first | exact HK.out | apply kS_q | apply kN_q | apply kD_q | apply kA_q))) : P := h
theorem m5_q {P : Prop} (h : P := by (first | (go_simp; done) | (go_simp; rfl))) : P := h
theorem m6_q {P : Prop} (h : P := by (first | rfl | (simp [eN_q, eS_q] <;> rfl) | (simp [*, eN_q, eS_q] <;> rfl))) : P := h
theorem m7_q {P : Prop} (h : P := by (first | rfl | (simp; done) | (simp [*]; done))) : P := h
theorem m8_q {P : Prop} (h : P := by kernel_rfl) : P := h
theorem m9_q {P : Prop} (h : P := by (repeat (with_reducible first | exact HB.out | apply bA_q | apply pB_q | apply bD_q | refine bS_q ?_ (i5_q HI0.out)))) : P := h
theorem m10_q {P : Prop} (h : P := by (repeat (with_reducible first | exact HK.out | apply kS_q | apply kN_q | apply kD_q | apply kA_q | refine kF_q ?_ GW499.out _ | refine kF_q ?_ GW513.out _))) : P := h
theorem m11_q {P : Prop} (h : P := by (repeat (with_reducible first | exact HI0.out | apply i2_q | apply i1_q | apply i0_q | apply i3_q))) : P := h
theorem m12_q {P : Prop} (h : P := by (repeat (with_reducible first | exact HB.out | apply bA_q | apply pB_q | apply bD_q | refine bS_q ?_ (i5_q HI0.out) | refine bS_q ?_ GE499.out | refine bS_q ?_ GE513.out))) : P := h
theorem m13_q {P : Prop} (h : P := by (repeat (with_reducible first | exact HI0.out | apply i2_q | apply i1_q | apply i0_q | apply i3_q | refine i4_q ?_ NB0_499.out _ | refine i4_q ?_ NB0_513.out _))) : P := h
theorem m14_q {P : Prop} (h : P := by (repeat (with_reducible first | exact HB.out | apply bA_q | apply pB_q | apply bD_q | refine bS_q ?_ GE725.out | refine bS_q ?_ GE726.out))) : P := h
theorem m15_q {P : Prop} (h : P := by (repeat (with_reducible first | exact HK.out | apply kS_q | apply kN_q | apply kD_q | apply kA_q | refine kF_q ?_ GW499.out _))) : P := h
theorem m16_q {P : Prop} (h : P := by ((with_reducible repeat (first | refine bN_q ?_ _ | refine bW_q ?_ | refine bL_q ?_ _)); refine blk_put (cs := #[.int .i64 ((rd_T63 l0 x9_1).f0), .int .i64 ((rd_T63 l0 x9_1).f1), .int .i64 ((rd_T63 l0 x9_1).f2), .slice none 0 0]) ?_ 3 _ rfl; (with_reducible repeat (first | refine bN_q ?_ _ | refine bW_q ?_ | refine bL_q ?_ _)); refine blk_put (cs := #[.int .i64 ((rd_T63 l0 x9_1).f0), .int .i64 ((rd_T63 l0 x9_1).f1), .int .i64 0, .slice none 0 0]) ?_ 2 _ rfl; (with_reducible repeat (first | refine bN_q ?_ _ | refine bW_q ?_ | refine bL_q ?_ _)); refine blk_put (cs := #[.int .i64 ((rd_T63 l0 x9_1).f0), .int .i64 0, .int .i64 0, .slice none 0 0]) ?_ 1 _ rfl; (with_reducible repeat (first | refine bN_q ?_ _ | refine bW_q ?_ | refine bL_q ?_ _)); refine blk_put (cs := #[.int .i64 0, .int .i64 0, .int .i64 0, .slice none 0 0]) ?_ 0 _ rfl; (with_reducible repeat (first | refine bN_q ?_ _ | refine bW_q ?_ | refine bL_q ?_ _)); exact BK161.out)) : P := h
theorem m17_q {P : Prop} (h : P := by ((with_reducible repeat (first | refine bN_q ?_ _ | refine bW_q ?_ | refine bL_q ?_ _)); refine blk_put (cs := #[.int .i64 ((rd_T63 l0 x3_1).f0), .int .i64 ((rd_T63 l0 x3_1).f1), .int .i64 ((rd_T63 l0 x3_1).f2), .slice none 0 0]) ?_ 3 _ rfl; (with_reducible repeat (first | refine bN_q ?_ _ | refine bW_q ?_ | refine bL_q ?_ _)); refine blk_put (cs := #[.int .i64 ((rd_T63 l0 x3_1).f0), .int .i64 ((rd_T63 l0 x3_1).f1), .int .i64 0, .slice none 0 0]) ?_ 2 _ rfl; (with_reducible repeat (first | refine bN_q ?_ _ | refine bW_q ?_ | refine bL_q ?_ _)); refine blk_put (cs := #[.int .i64 ((rd_T63 l0 x3_1).f0), .int .i64 0, .int .i64 0, .slice none 0 0]) ?_ 1 _ rfl; (with_reducible repeat (first | refine bN_q ?_ _ | refine bW_q ?_ | refine bL_q ?_ _)); refine blk_put (cs := #[.int .i64 0, .int .i64 0, .int .i64 0, .slice none 0 0]) ?_ 0 _ rfl; (with_reducible repeat (first | refine bN_q ?_ _ | refine bW_q ?_ | refine bL_q ?_ _)); exact BK106.out)) : P := h
theorem m18_q {P : Prop} (h : P := by (repeat (with_reducible first | exact HB.out | apply bA_q | apply pB_q | apply bD_q | refine bS_q ?_ GE339.out | refine bS_q ?_ GE341.out))) : P := h
theorem m19_q {P : Prop} (h : P := by ((with_reducible repeat (first | refine bN_q ?_ _ | refine bW_q ?_ | refine bL_q ?_ _)); refine blk_put (cs := #[.int .i64 (wrap64 (1 + t569)), .int .i64 t567, .int .i64 0]) ?_ 2 _ rfl; (with_reducible repeat (first | refine bN_q ?_ _ | refine bW_q ?_ | refine bL_q ?_ _)); refine blk_put (cs := #[.int .i64 (wrap64 (1 + t569)), .int .i64 0, .int .i64 0]) ?_ 1 _ rfl; (with_reducible repeat (first | refine bN_q ?_ _ | refine bW_q ?_ | refine bL_q ?_ _)); refine blk_put (cs := #[.int .i64 0, .int .i64 0, .int .i64 0]) ?_ 0 _ rfl; (with_reducible repeat (first | refine bN_q ?_ _ | refine bW_q ?_ | refine bL_q ?_ _)); exact BK573.out)) : P := h
theorem m20_q {P : Prop} (h : P := by (repeat (with_reducible first | exact HB.out | apply bA_q | apply pB_q | apply bD_q | refine bS_q ?_ GE609.out | refine bS_q ?_ GE610.out))) : P := h
theorem m21_q {P : Prop} (h : P := by (repeat (with_reducible first | exact HB.out | apply bA_q | apply pB_q | apply bD_q | refine bS_q ?_ GE283.out))) : P := h
theorem m22_q {P : Prop} (h : P := by (repeat (with_reducible first | exact HK.out | apply kS_q | apply kN_q | apply kD_q | apply kA_q | refine kF_q ?_ GW566.out _))) : P := h
theorem m23_q {P : Prop} (h : P := by ((with_reducible repeat (first | refine bN_q ?_ _ | refine bW_q ?_ | refine bL_q ?_ _)); refine blk_put (cs := #[.int .i64 ((rd_T63 l0 x23_2).f0), .int .i64 ((rd_T63 l0 x23_2).f1), .int .i64 ((rd_T63 l0 x23_2).f2), .slice none 0 0]) ?_ 3 _ rfl; (with_reducible repeat (first | refine bN_q ?_ _ | refine bW_q ?_ | refine bL_q ?_ _)); refine blk_put (cs := #[.int .i64 ((rd_T63 l0 x23_2).f0), .int .i64 ((rd_T63 l0 x23_2).f1), .int .i64 0, .slice none 0 0]) ?_ 2 _ rfl; (with_reducible repeat (first | refine bN_q ?_ _ | refine bW_q ?_ | refine bL_q ?_ _)); refine blk_put (cs := #[.int .i64 ((rd_T63 l0 x23_2).f0), .int .i64 0, .int .i64 0, .slice none 0 0]) ?_ 1 _ rfl; (with_reducible repeat (first | refine bN_q ?_ _ | refine bW_q ?_ | refine bL_q ?_ _)); refine blk_put (cs := #[.int .i64 0, .int .i64 0, .int .i64 0, .slice none 0 0]) ?_ 0 _ rfl; (with_reducible repeat (first | refine bN_q ?_ _ | refine bW_q ?_ | refine bL_q ?_ _)); exact BK184.out)) : P := h
theorem m24_q {P : Prop} (h : P := by ((with_reducible repeat (first | refine bN_q ?_ _ | refine bW_q ?_ | refine bL_q ?_ _)); refine blk_put (cs := #[.int .i64 ((rd_T63 l0 x15_1).f0), .int .i64 ((rd_T63 l0 x15_1).f1), .int .i64 ((rd_T63 l0 x15_1).f2), .slice none 0 0]) ?_ 3 _ rfl; (with_reducible repeat (first | refine bN_q ?_ _ | refine bW_q ?_ | refine bL_q ?_ _)); refine blk_put (cs := #[.int .i64 ((rd_T63 l0 x15_1).f0), .int .i64 ((rd_T63 l0 x15_1).f1), .int .i64 0, .slice none 0 0]) ?_ 2 _ rfl; (with_reducible repeat (first | refine bN_q ?_ _ | refine bW_q ?_ | refine bL_q ?_ _)); refine blk_put (cs := #[.int .i64 ((rd_T63 l0 x15_1).f0), .int .i64 0, .int .i64 0, .slice none 0 0]) ?_ 1 _ rfl; (with_reducible repeat (first | refine bN_q ?_ _ | refine bW_q ?_ | refine bL_q ?_ _)); refine blk_put (cs := #[.int .i64 0, .int .i64 0, .int .i64 0, .slice none 0 0]) ?_ 0 _ rfl; (with_reducible repeat (first | refine bN_q ?_ _ | refine bW_q ?_ | refine bL_q ?_ _)); exact BK334.out)) : P := h
theorem m25_q {P : Prop} (h : P := by ((with_reducible repeat (first | refine bN_q ?_ _ | refine bW_q ?_ | refine bL_q ?_ _)); refine blk_put (cs := #[.int .i64 ((rd_T63 l0 x27_2).f0), .int .i64 ((rd_T63 l0 x27_2).f1), .int .i64 ((rd_T63 l0 x27_2).f2), .slice none 0 0]) ?_ 3 _ rfl; (with_reducible repeat (first | refine bN_q ?_ _ | refine bW_q ?_ | refine bL_q ?_ _)); refine blk_put (cs := #[.int .i64 ((rd_T63 l0 x27_2).f0), .int .i64 ((rd_T63 l0 x27_2).f1), .int .i64 0, .slice none 0 0]) ?_ 2 _ rfl; (with_reducible repeat (first | refine bN_q ?_ _ | refine bW_q ?_ | refine bL_q ?_ _)); refine blk_put (cs := #[.int .i64 ((rd_T63 l0 x27_2).f0), .int .i64 0, .int .i64 0, .slice none 0 0]) ?_ 1 _ rfl; (with_reducible repeat (first | refine bN_q ?_ _ | refine bW_q ?_ | refine bL_q ?_ _)); refine blk_put (cs := #[.int .i64 0, .int .i64 0, .int .i64 0, .slice none 0 0]) ?_ 0 _ rfl; (with_reducible repeat (first | refine bN_q ?_ _ | refine bW_q ?_ | refine bL_q ?_ _)); exact BK617.out)) : P := h
theorem m26_q {P : Prop} (h : P := by ((with_reducible repeat (first | apply tA_q | apply tN_q | apply tD_q)); exact HO_3.out)) : P := h
theorem m27_q {P : Prop} (h : P := by ((with_reducible repeat (first | refine bN_q ?_ _ | refine bW_q ?_ | refine bL_q ?_ _)); refine blk_far ?_ NB566_573.out _; (with_reducible repeat (first | refine bN_q ?_ _ | refine bW_q ?_ | refine bL_q ?_ _)); refine blk_far ?_ NB566_573.out _; (with_reducible repeat (first | refine bN_q ?_ _ | refine bW_q ?_ | refine bL_q ?_ _)); refine blk_far ?_ NB566_573.out _; (with_reducible repeat (first | refine bN_q ?_ _ | refine bW_q ?_ | refine bL_q ?_ _)); exact BK566.out)) : P := h
theorem m28_q {P : Prop} (h : P := by (repeat (with_reducible first | exact HB.out | apply bA_q | apply pB_q | apply bD_q | refine bS_q ?_ (i5_q HI0.out) | refine bS_q ?_ GE566.out | refine bS_q ?_ GE573.out))) : P := h
theorem m29_q {P : Prop} (h : P := by (repeat (with_reducible first | exact HK.out | apply kS_q | apply kN_q | apply kD_q | apply kA_q | refine kF_q ?_ GW566.out _ | refine kF_q ?_ GW573.out _))) : P := h
theorem m30_q {P : Prop} (h : P := by (repeat (with_reducible first | exact HB.out | apply bA_q | apply pB_q | apply bD_q | refine bS_q ?_ GE177.out))) : P := h
theorem m31_q {P : Prop} (h : P := by (repeat (with_reducible first | exact HK.out | apply kS_q | apply kN_q | apply kD_q | apply kA_q | refine kF_q ?_ GW548.out _))) : P := h
theorem m32_q {P : Prop} (h : P := by (repeat (with_reducible first | exact HI0.out | apply i2_q | apply i1_q | apply i0_q | apply i3_q | refine i4_q ?_ NB0_566.out _ | refine i4_q ?_ NB0_573.out _))) : P := h
theorem m33_q {P : Prop} (h : P := by ((with_reducible repeat (first | refine bN_q ?_ _ | refine bW_q ?_ | refine bL_q ?_ _)); refine blk_put (cs := #[.int .i64 (wrap64 (3 + t500)), .slice none 0 0]) ?_ 1 _ rfl; (with_reducible repeat (first | refine bN_q ?_ _ | refine bW_q ?_ | refine bL_q ?_ _)); refine blk_put (cs := #[.int .i64 0, .slice none 0 0]) ?_ 0 _ rfl; (with_reducible repeat (first | refine bN_q ?_ _ | refine bW_q ?_ | refine bL_q ?_ _)); exact BK513.out)) : P := h
theorem m34_q {P : Prop} (h : P := by (repeat (with_reducible first | exact HB.out | apply bA_q | apply pB_q | apply bD_q | refine bS_q ?_ (i5_q HI0.out) | refine bS_q ?_ GE499.out))) : P := h
theorem m35_q {P : Prop} (h : P := by (repeat (with_reducible first | exact HB.out | apply bA_q | apply pB_q | apply bD_q | refine bS_q ?_ GE623.out))) : P := h
theorem m36_q {P : Prop} (h : P := by (repeat (with_reducible first | exact HI0.out | apply i2_q | apply i1_q | apply i0_q | apply i3_q | refine i4_q ?_ NB0_499.out _))) : P := h
theorem m37_q {P : Prop} (h : P := by ((with_reducible repeat (first | refine bN_q ?_ _ | refine bW_q ?_ | refine bL_q ?_ _)); refine blk_put (cs := #[.int .i64 (wrap64 (1 + t569)), .int .i64 t567, .int .i64 0]) ?_ 2 _ rfl; (with_reducible repeat (first | refine bN_q ?_ _ | refine bW_q ?_ | refine bL_q ?_ _)); refine blk_put (cs := #[.int .i64 (wrap64 (1 + t569)), .int .i64 0, .int .i64 0]) ?_ 1 _ rfl; (with_reducible repeat (first | refine bN_q ?_ _ | refine bW_q ?_ | refine bL_q ?_ _)); refine blk_put (cs := #[.int .i64 0, .int .i64 0, .int .i64 0]) ?_ 0 _ rfl; (with_reducible repeat (first | refine bN_q ?_ _ | refine bW_q ?_ | refine bL_q ?_ _)); refine blk_far ?_ NB566_573.out _; (with_reducible repeat (first | refine bN_q ?_ _ | refine bW_q ?_ | refine bL_q ?_ _)); exact BK566.out)) : P := h
theorem m38_q {P : Prop} (h : P := by exact (Reps.one (show Kd.M kI_q _ _ _ (wrap64 (1 + t502)) [.int .i64 (wrap64 (1 + t502))] from rfl) (Reps.one (show Kd.M kI_q _ _ _ (wrap64 (1 + t504)) [.int .i64 (wrap64 (1 + t504))] from rfl) (Reps.one (show Kd.M kI_q _ _ _ (wrap64 (1 + t506)) [.int .i64 (wrap64 (1 + t506))] from rfl) (Reps.one (show Kd.M kI_q _ _ _ t508 [.int .i64 t508] from rfl) (Reps.none _ _)))))) : P := h
theorem m39_q {P : Prop} (h : P := by ((with_reducible repeat (first | apply rA_q | apply rN_q | apply rD_q)); exact rM_q HO646.out (fun _ hk => ⟨hk.2, hk.1⟩))) : P := h
theorem m40_q {P : Prop} (h : P := by (repeat (with_reducible first | exact HB.out | apply bA_q | apply pB_q | apply bD_q | refine bS_q ?_ (i5_q HI0.out) | refine bS_q ?_ GE566.out))) : P := h
theorem m41_q {P : Prop} (h : P := by ((with_reducible repeat (first | refine bN_q ?_ _ | refine bW_q ?_ | refine bL_q ?_ _)); refine blk_far ?_ NB499_513.out _; (with_reducible repeat (first | refine bN_q ?_ _ | refine bW_q ?_ | refine bL_q ?_ _)); refine blk_far ?_ NB499_513.out _; (with_reducible repeat (first | refine bN_q ?_ _ | refine bW_q ?_ | refine bL_q ?_ _)); exact BK499.out)) : P := h
theorem m42_q {P : Prop} (h : P := by exact cup (cB_q HR0.out HB.out)) : P := h
theorem m43_q {P : Prop} (h : P := by (repeat (with_reducible first | exact HB.out | apply bA_q | apply pB_q | apply bD_q | refine bS_q ?_ GE609.out | refine bS_q ?_ GE610.out | refine bS_q ?_ GE617.out))) : P := h
theorem m44_q {P : Prop} (h : P := by (repeat (with_reducible first | exact HI0.out | apply i2_q | apply i1_q | apply i0_q | apply i3_q | refine i4_q ?_ NB0_566.out _))) : P := h
theorem m45_q {P : Prop} (h : P := by (repeat (with_reducible first | exact HK.out | apply kS_q | apply kN_q | apply kD_q | apply kA_q | refine kF_q ?_ GW465.out _))) : P := h
theorem m46_q {P : Prop} (h : P := by (repeat (with_reducible first | exact HK.out | apply kS_q | apply kN_q | apply kD_q | apply kA_q | refine kF_q ?_ GW548.out _ | refine kF_q ?_ GW558.out _))) : P := h
theorem m47_q {P : Prop} (h : P := by (repeat (with_reducible first | exact HB.out | apply bA_q | apply pB_q | apply bD_q | refine bS_q ?_ GE339.out))) : P := h
theorem m48_q {P : Prop} (h : P := by (repeat (with_reducible first | exact HB.out | apply bA_q | apply pB_q | apply bD_q | refine bS_q ?_ (i5_q HI588.out) | refine bS_q ?_ GE584.out | refine bS_q ?_ GE585.out))) : P := h
theorem m49_q {P : Prop} (h : P := by ((with_reducible repeat (first | refine bN_q ?_ _ | refine bW_q ?_ | refine bL_q ?_ _)); refine blk_far ?_ NB177_184.out _; (with_reducible repeat (first | refine bN_q ?_ _ | refine bW_q ?_ | refine bL_q ?_ _)); refine blk_far ?_ NB177_184.out _; (with_reducible repeat (first | refine bN_q ?_ _ | refine bW_q ?_ | refine bL_q ?_ _)); refine blk_far ?_ NB177_184.out _; (with_reducible repeat (first | refine bN_q ?_ _ | refine bW_q ?_ | refine bL_q ?_ _)); refine blk_far ?_ NB177_184.out _; (with_reducible repeat (first | refine bN_q ?_ _ | refine bW_q ?_ | refine bL_q ?_ _)); exact BK177.out)) : P := h
theorem m50_q {P : Prop} (h : P := by ((with_reducible repeat (first | refine bN_q ?_ _ | refine bW_q ?_ | refine bL_q ?_ _)); refine blk_far ?_ NB609_617.out _; (with_reducible repeat (first | refine bN_q ?_ _ | refine bW_q ?_ | refine bL_q ?_ _)); refine blk_far ?_ NB609_617.out _; (with_reducible repeat (first | refine bN_q ?_ _ | refine bW_q ?_ | refine bL_q ?_ _)); refine blk_far ?_ NB609_617.out _; (with_reducible repeat (first | refine bN_q ?_ _ | refine bW_q ?_ | refine bL_q ?_ _)); refine blk_far ?_ NB609_617.out _; (with_reducible repeat (first | refine bN_q ?_ _ | refine bW_q ?_ | refine bL_q ?_ _)); exact BK609.out)) : P := h
theorem m51_q {P : Prop} (h : P := by ((with_reducible repeat (first | refine bN_q ?_ _ | refine bW_q ?_ | refine bL_q ?_ _)); refine blk_far ?_ NB610_617.out _; (with_reducible repeat (first | refine bN_q ?_ _ | refine bW_q ?_ | refine bL_q ?_ _)); refine blk_far ?_ NB610_617.out _; (with_reducible repeat (first | refine bN_q ?_ _ | refine bW_q ?_ | refine bL_q ?_ _)); refine blk_far ?_ NB610_617.out _; (with_reducible repeat (first | refine bN_q ?_ _ | refine bW_q ?_ | refine bL_q ?_ _)); refine blk_far ?_ NB610_617.out _; (with_reducible repeat (first | refine bN_q ?_ _ | refine bW_q ?_ | refine bL_q ?_ _)); exact BK610.out)) : P := h
theorem m52_q {P : Prop} (h : P := by simp only [putAll, Act.put, sA_q, sZ_q, sS_q]) : P := h
theorem m53_q {P : Prop} (h : P := by (repeat (with_reducible first | exact HB.out | apply bA_q | apply pB_q | apply bD_q | refine bS_q ?_ (i5_q HI0.out) | refine bS_q ?_ GE465.out))) : P := h
theorem m54_q {P : Prop} (h : P := by (repeat (with_reducible first | exact HB.out | apply bA_q | apply pB_q | apply bD_q | refine bS_q ?_ GE161.out))) : P := h
theorem m55_q {P : Prop} (h : P := by (repeat (with_reducible first | exact HB.out | apply bA_q | apply pB_q | apply bD_q | refine bS_q ?_ GE106.out))) : P := h
theorem m56_q {P : Prop} (h : P := by (repeat (with_reducible first | exact HB.out | apply bA_q | apply pB_q | apply bD_q | refine bS_q ?_ GE177.out | refine bS_q ?_ GE184.out))) : P := h
theorem m57_q {P : Prop} (h : P := by ((with_reducible repeat (first | apply rA_q | apply rN_q | apply rD_q)); exact rM_q HO649.out (fun _ hk => ⟨hk.2, hk.1⟩))) : P := h
theorem m58_q {P : Prop} (h : P := by ((with_reducible repeat (first | apply rA_q | apply rN_q | apply rD_q)); exact rM_q HO_10.out (fun _ hk => ⟨hk.2, hk.1⟩))) : P := h
theorem m59_q {P : Prop} (h : P := by (repeat (with_reducible first | exact HI0.out | apply i2_q | apply i1_q | apply i0_q | apply i3_q | refine i4_q ?_ NB0_465.out _))) : P := h
theorem m60_q {P : Prop} (h : P := by (repeat (with_reducible first | exact HB.out | apply bA_q | apply pB_q | apply bD_q | refine bS_q ?_ GE175.out))) : P := h
theorem m61_q {P : Prop} (h : P := by (repeat (with_reducible first | exact HB.out | apply bA_q | apply pB_q | apply bD_q | refine bS_q ?_ GE262.out))) : P := h
theorem m62_q {P : Prop} (h : P := by (repeat (with_reducible first | exact HB.out | apply bA_q | apply pB_q | apply bD_q | refine bS_q ?_ GE121.out))) : P := h
theorem m63_q {P : Prop} (h : P := by exact fun W x_ b_ hW_ hx_ => impl_mayO.calls a3_0 a3_1 a3_2 _ _ _ _ A616_3 c616_3 gb610 gb617 x_ b_ W (bB_q (g := gb610) (o := .cells #[.int .i64 a3_0, .int .i64 a3_1, .int .i64 a3_2] 31 (0, 0)) (bup BK610.out) hW_) (bB_q (g := gb617) (o := .cells #[.int .i64 ((rd_T63 l0 x27_2).f0), .int .i64 ((rd_T63 l0 x27_2).f1), .int .i64 ((rd_T63 l0 x27_2).f2), .slice A616_3 ((rd_T63 l0 x27_2).f3).length c616_3] 63 (0, 0)) (bup BK617.out) hW_) (cB_q (cup (cB_q HR616_3.out HB.out)) hW_) HC616_3.out hx_) : P := h
theorem m64_q {P : Prop} (h : P := by exact cup (cB_q HR2.out HB.out)) : P := h
theorem m65_q {P : Prop} (h : P := by ((with_reducible repeat (first | apply rA_q | apply rN_q | apply rD_q)); exact rM_q HO310.out (fun _ hk => ⟨hk.2, hk.1⟩))) : P := h
theorem m66_q {P : Prop} (h : P := by exact (fun k_ hk => ⟨Kd.fresh' (rT_q (rup HO_10.out)) k_ hk, Kd.fresh' (rT_q (rup HO649.out)) k_ hk⟩)) : P := h
theorem m67_q {P : Prop} (h : P := by exact cup (cB_q HR1_1.out HB.out)) : P := h
theorem m68_q {P : Prop} (h : P := by ((with_reducible repeat (first | apply rA_q | apply rN_q | apply rD_q)); exact rM_q HO361.out (fun _ hk => hk.2))) : P := h
theorem m69_q {P : Prop} (h : P := by ((with_reducible repeat (first | apply rA_q | apply rN_q | apply rD_q)); exact rM_q HO364.out (fun _ hk => hk.2))) : P := h
theorem m70_q {P : Prop} (h : P := by (repeat (with_reducible first | exact HB.out | apply bA_q | apply pB_q | apply bD_q | refine bS_q ?_ GE605.out))) : P := h
theorem m71_q {P : Prop} (h : P := by exact (Reps.one (show Kd.M kI_q _ _ _ x12_3 [.int .i64 x12_3] from rfl) (Reps.none _ _))) : P := h
theorem m72_q {P : Prop} (h : P := by (repeat (first | (with_reducible exact HR745.out) | (with_reducible refine cA_q ?_ _) | (with_reducible refine cN_q ?_ _) | (with_reducible refine cD_q ?_) | exact HR745.out))) : P := h
theorem m73_q {P : Prop} (h : P := by (repeat (first | (with_reducible exact HR754.out) | (with_reducible refine cA_q ?_ _) | (with_reducible refine cN_q ?_ _) | (with_reducible refine cD_q ?_) | exact HR754.out))) : P := h
theorem m74_q {P : Prop} (h : P := by ((with_reducible repeat (first | refine bN_q ?_ _ | refine bW_q ?_ | refine bL_q ?_ _)); refine blk_put (cs := #[.int .i64 (wrap64 (3 + t500)), .slice none 0 0]) ?_ 1 _ rfl; (with_reducible repeat (first | refine bN_q ?_ _ | refine bW_q ?_ | refine bL_q ?_ _)); refine blk_put (cs := #[.int .i64 0, .slice none 0 0]) ?_ 0 _ rfl; (with_reducible repeat (first | refine bN_q ?_ _ | refine bW_q ?_ | refine bL_q ?_ _)); exact BK499.out)) : P := h
theorem m75_q {P : Prop} (h : P := by (repeat (with_reducible first | exact HB.out | apply bA_q | apply pB_q | apply bD_q | refine bS_q ?_ (i5_q HI0.out) | refine bS_q ?_ GE548.out))) : P := h
theorem m76_q {P : Prop} (h : P := by (repeat (with_reducible first | exact HB.out | apply bA_q | apply pB_q | apply bD_q | refine bS_q ?_ (i5_q HI0.out) | refine bS_q ?_ GE548.out | refine bS_q ?_ GE558.out))) : P := h
theorem m77_q {P : Prop} (h : P := by ((with_reducible repeat (first | refine bN_q ?_ _ | refine bW_q ?_ | refine bL_q ?_ _)); refine blk_put (cs := #[.int .i64 t553, .slice none 0 0]) ?_ 1 _ rfl; (with_reducible repeat (first | refine bN_q ?_ _ | refine bW_q ?_ | refine bL_q ?_ _)); refine blk_put (cs := #[.int .i64 0, .slice none 0 0]) ?_ 0 _ rfl; (with_reducible repeat (first | refine bN_q ?_ _ | refine bW_q ?_ | refine bL_q ?_ _)); exact BK558.out)) : P := h
theorem m78_q {P : Prop} (h : P := by ((with_reducible repeat (first | refine bN_q ?_ _ | refine bW_q ?_ | refine bL_q ?_ _)); refine blk_put (cs := #[.int .i64 t553, .slice none 0 0]) ?_ 1 _ rfl; (with_reducible repeat (first | refine bN_q ?_ _ | refine bW_q ?_ | refine bL_q ?_ _)); refine blk_put (cs := #[.int .i64 0, .slice none 0 0]) ?_ 0 _ rfl; (with_reducible repeat (first | refine bN_q ?_ _ | refine bW_q ?_ | refine bL_q ?_ _)); exact BK548.out)) : P := h
theorem m79_q {P : Prop} (h : P := by ((with_reducible repeat (first | apply tA_q | apply tN_q | apply tD_q)); exact HO_5.out)) : P := h
theorem m80_q {P : Prop} (h : P := by (repeat (with_reducible first | exact HB.out | apply bA_q | apply pB_q | apply bD_q | refine bS_q ?_ GE334.out))) : P := h
theorem m81_q {P : Prop} (h : P := by (repeat (with_reducible first | exact HI0.out | apply i2_q | apply i1_q | apply i0_q | apply i3_q | refine i4_q ?_ NB0_548.out _))) : P := h
theorem m82_q {P : Prop} (h : P := by ((with_reducible repeat (first | apply rA_q | apply rN_q | apply rD_q)); exact rM_q HO_10.out (fun _ hk => ⟨hk.1.2, hk.2⟩))) : P := h
theorem m83_q {P : Prop} (h : P := by ((with_reducible repeat (first | apply rA_q | apply rN_q | apply rD_q)); exact rM_q HO643.out (fun _ hk => ⟨hk.1.2, hk.2⟩))) : P := h
theorem m84_q {P : Prop} (h : P := by ((with_reducible repeat (first | apply rA_q | apply rN_q | apply rD_q)); exact rM_q HO649.out (fun _ hk => ⟨hk.1.2, hk.2⟩))) : P := h
theorem m85_q {P : Prop} (h : P := by ((with_reducible repeat (first | apply rA_q | apply rN_q | apply rD_q)); exact rM_q HO313.out (fun _ hk => ⟨hk.2, hk.1⟩))) : P := h
theorem m86_q {P : Prop} (h : P := by ((with_reducible repeat (first | apply rA_q | apply rN_q | apply rD_q)); exact rM_q HO_6.out (fun _ hk => ⟨hk.2, hk.1⟩))) : P := h
theorem m87_q {P : Prop} (h : P := by exact (Reps.one (show Kd.M kI_q _ _ _ x12_1 [.int .i64 x12_1] from rfl) (Reps.none _ _))) : P := h
theorem m88_q {P : Prop} (h : P := by ((with_reducible repeat (first | refine bN_q ?_ _ | refine bW_q ?_ | refine bL_q ?_ _)); refine blk_far ?_ NB548_558.out _; (with_reducible repeat (first | refine bN_q ?_ _ | refine bW_q ?_ | refine bL_q ?_ _)); refine blk_far ?_ NB548_558.out _; (with_reducible repeat (first | refine bN_q ?_ _ | refine bW_q ?_ | refine bL_q ?_ _)); exact BK548.out)) : P := h
theorem m89_q {P : Prop} (h : P := by (repeat (with_reducible first | exact HI0.out | apply IsS83.alloc | apply IsS83.drewN | apply IsS83.drew | apply IsS83.set_1))) : P := h
theorem m90_q {P : Prop} (h : P := by (repeat (first | exact Drawn0.refl _ | apply Drawn0.step))) : P := h
theorem m91_q {P : Prop} (h : P := by exact (Reps.one (show Kd.M kI_q _ _ _ (-1) [.int .i64 (-1)] from rfl) (Reps.one (show Kd.M kI_q _ _ _ 0 [.int .i64 0] from rfl) (Reps.one (show Kd.M kI_q _ _ _ 4 [.int .i64 4] from rfl) (Reps.none _ _))))) : P := h
theorem m92_q {P : Prop} (h : P := by exact (Reps.one (show Kd.M kI_q _ _ _ x8_3 [.int .i64 x8_3] from rfl) (Reps.none _ _))) : P := h
theorem m93_q {P : Prop} (h : P := by exact (fun k_ hk => ⟨Kd.fresh' (rT_q (rup HO_6.out)) k_ hk, Kd.fresh' (rT_q (rup HO313.out)) k_ hk⟩)) : P := h
theorem m94_q {P : Prop} (h : P := by ((with_reducible repeat (first | apply tA_q | apply tN_q | apply tD_q)); exact Kd.S_mono HO714.out (fun _ hk => ⟨hk.1.1.2, ⟨hk.1.2, ⟨hk.2, hk.1.1.1⟩⟩⟩))) : P := h
theorem m95_q {P : Prop} (h : P := by (repeat (with_reducible first | exact HB.out | apply bA_q | apply pB_q | apply bD_q | refine bS_q ?_ (IsS83.ge HI0.out)))) : P := h
theorem m96_q {P : Prop} (h : P := by (repeat (with_reducible first | exact HB.out | apply bA_q | apply pB_q | apply bD_q | refine bS_q ?_ (i5_q HI588.out) | refine bS_q ?_ GE584.out | refine bS_q ?_ GE585.out | refine bS_q ?_ GE600.out))) : P := h
theorem m97_q {P : Prop} (h : P := by exact HC0.out) : P := h
theorem m98_q {P : Prop} (h : P := by (repeat (with_reducible first | exact HB.out | apply bA_q | apply pB_q | apply bD_q | refine bS_q ?_ GE258.out))) : P := h
theorem m99_q {P : Prop} (h : P := by ((try simp only [lM_q, lC_q, lN_q]); first | done | (rw [show y750.length = y746.length from (rR_q HO748.out).1.symm] <;> rfl) | rfl | (simp only [lD_q, lT_q]; rfl) | (simp only [Ny751.out, Ny756.out]; rfl) | (simp only [Ny751.out, Ny756.out, Ny750.out, List.length_set]; rfl))) : P := h
theorem m100_q {P : Prop} (h : P := by ((with_reducible repeat (first | apply rA_q | apply rN_q | apply rD_q)); exact rM_q HO729.out (fun _ hk => ⟨hk.1.2, ⟨hk.2, hk.1.1.2⟩⟩))) : P := h
theorem m101_q {P : Prop} (h : P := by ((with_reducible repeat (first | apply rA_q | apply rN_q | apply rD_q)); exact rM_q HO733.out (fun _ hk => ⟨hk.1.2, ⟨hk.2, hk.1.1.2⟩⟩))) : P := h
theorem m102_q {P : Prop} (h : P := by ((with_reducible repeat (first | apply rA_q | apply rN_q | apply rD_q)); exact rM_q HO721.out (fun _ hk => ⟨hk.1.2, ⟨hk.2, hk.1.1⟩⟩))) : P := h
theorem m103_q {P : Prop} (h : P := by ((with_reducible repeat (first | apply rA_q | apply rN_q | apply rD_q)); exact rM_q HO718.out (fun _ hk => ⟨hk.1.1, ⟨hk.1.2, hk.2⟩⟩))) : P := h
theorem m104_q {P : Prop} (h : P := by exact (Reps.none _ _)) : P := h
theorem m105_q {P : Prop} (h : P := by ((with_reducible repeat (first | apply rA_q | apply rN_q | apply rD_q)); exact rM_q HO307.out (fun _ hk => ⟨hk.1.2, hk.2⟩))) : P := h
theorem m106_q {P : Prop} (h : P := by ((with_reducible repeat (first | apply rA_q | apply rN_q | apply rD_q)); exact rM_q HO313.out (fun _ hk => ⟨hk.1.2, hk.2⟩))) : P := h
theorem m107_q {P : Prop} (h : P := by ((with_reducible repeat (first | apply rA_q | apply rN_q | apply rD_q)); exact rM_q HO364.out (fun _ hk => ⟨trivial, hk⟩))) : P := h
theorem m108_q {P : Prop} (h : P := by ((with_reducible repeat (first | apply rA_q | apply rN_q | apply rD_q)); exact rM_q HO_6.out (fun _ hk => ⟨hk.1.2, hk.2⟩))) : P := h
theorem m109_q {P : Prop} (h : P := by (repeat (with_reducible first | exact HI0.out | apply i2_q | apply i1_q | apply i0_q | apply i3_q | refine i4_q ?_ NB0_548.out _ | refine i4_q ?_ NB0_558.out _))) : P := h
theorem m110_q {P : Prop} (h : P := by (have := HK1.out; first | omega | exact nR_q _)) : P := h
theorem m111_q {P : Prop} (h : P := by (first | omega | exact nR_q _)) : P := h
theorem m112_q {P : Prop} (h : P := by ((with_reducible repeat (first | apply tA_q | apply tN_q | apply tD_q)); exact HO449.out)) : P := h
theorem m113_q {P : Prop} (h : P := by ((with_reducible repeat (first | apply tA_q | apply tN_q | apply tD_q)); exact HO551.out)) : P := h
theorem m114_q {P : Prop} (h : P := by (first | rfl | (simp [eN_q, eS_q] <;> rfl) | (simp only [← hji10]; first | rfl | (simp [eN_q, eS_q] <;> rfl)) | (simp [*, eN_q, eS_q] <;> rfl))) : P := h
theorem m115_q {P : Prop} (h : P := by (first | rfl | (simp [eN_q, eS_q] <;> rfl) | (simp only [← hji4]; first | rfl | (simp [eN_q, eS_q] <;> rfl)) | (simp [*, eN_q, eS_q] <;> rfl))) : P := h
theorem m116_q {P : Prop} (h : P := by (repeat (with_reducible first | exact HB.out | apply bA_q | apply pB_q | apply bD_q | refine bS_q ?_ GE175.out | refine bS_q ?_ GE176.out))) : P := h
theorem m117_q {P : Prop} (h : P := by (repeat (with_reducible first | exact HB.out | apply bA_q | apply pB_q | apply bD_q | refine bS_q ?_ GE262.out | refine bS_q ?_ GE263.out))) : P := h
theorem m118_q {P : Prop} (h : P := by (repeat (with_reducible first | exact HB.out | apply bA_q | apply pB_q | apply bD_q | refine bS_q ?_ GE121.out | refine bS_q ?_ GE122.out))) : P := h
theorem m119_q {P : Prop} (h : P := by exact HC1_1.out) : P := h
theorem m120_q {P : Prop} (h : P := by exact HC2.out) : P := h
theorem m121_q {P : Prop} (h : P := by (repeat (with_reducible first | exact HI588.out | apply i2_q | apply i1_q | apply i0_q | apply i3_q | refine i4_q ?_ NB588_584.out _ | refine i4_q ?_ NB588_585.out _ | refine i4_q ?_ NB588_600.out _))) : P := h
theorem m122_q {P : Prop} (h : P := by exact (fun k_ hk => ⟨Kd.fresh' (rT_q (rup HO_7.out)) k_ hk, Kd.fresh' (rT_q (rup HO_9.out)) k_ hk, Kd.fresh' (rT_q (rup HO_11.out)) k_ hk, Kd.fresh' (rT_q (rup HO_726001.out)) k_ hk⟩)) : P := h
theorem m123_q {P : Prop} (h : P := by ((with_reducible repeat (first | apply rA_q | apply rN_q | apply rD_q)); exact rM_q HO649.out (fun _ hk => ⟨hk.2, hk.1.2⟩))) : P := h
theorem m124_q {P : Prop} (h : P := by ((with_reducible repeat (first | apply rA_q | apply rN_q | apply rD_q)); exact rM_q HO_10.out (fun _ hk => ⟨hk.2, hk.1.2⟩))) : P := h
theorem m125_q {P : Prop} (h : P := by exact cup (rR_q HO_10.out).2.2) : P := h
theorem m126_q {P : Prop} (h : P := by (repeat (first | (with_reducible exact HR759.out) | (with_reducible refine cA_q ?_ _) | (with_reducible refine cN_q ?_ _) | (with_reducible refine cD_q ?_) | exact HR759.out))) : P := h
theorem m127_q {P : Prop} (h : P := by (repeat (with_reducible first | exact HBW.out | apply bA_q | apply pB_q | apply bD_q))) : P := h
theorem m128_q {P : Prop} (h : P := by ((with_reducible repeat (first | apply rA_q | apply rN_q | apply rD_q)); exact rM_q HO512.out (fun _ hk => hk.2))) : P := h
theorem m129_q {P : Prop} (h : P := by ((with_reducible repeat (first | apply rA_q | apply rN_q | apply rD_q)); exact rM_q HO526.out (fun _ hk => hk.2))) : P := h
theorem m130_q {P : Prop} (h : P := by ((with_reducible repeat (first | apply rA_q | apply rN_q | apply rD_q)); exact rM_q HO643.out (fun _ hk => hk.2))) : P := h
theorem m131_q {P : Prop} (h : P := by (repeat (with_reducible first | exact HB.out | apply bA_q | apply pB_q | apply bD_q | refine bS_q ?_ GE171.out))) : P := h
theorem m132_q {P : Prop} (h : P := by (repeat (with_reducible first | exact HB.out | apply bA_q | apply pB_q | apply bD_q | refine bS_q ?_ GE584.out))) : P := h
theorem m133_q {P : Prop} (h : P := by (repeat (with_reducible first | exact HI588.out | apply i2_q | apply i1_q | apply i0_q | apply i3_q | refine i4_q ?_ NB588_584.out _ | refine i4_q ?_ NB588_585.out _))) : P := h
theorem m134_q {P : Prop} (h : P := by (repeat (with_reducible first | exact HB.out | apply bA_q | apply pB_q | apply bD_q | refine bS_q ?_ GE609.out))) : P := h
theorem m135_q {P : Prop} (h : P := by (repeat (with_reducible first | exact HB.out | apply bA_q | apply pB_q | apply bD_q | refine bS_q ?_ GE117.out))) : P := h
theorem m136_q {P : Prop} (h : P := by (repeat (with_reducible first | exact HB.out | apply bA_q | apply pB_q | apply bD_q | refine bS_q ?_ GE630.out))) : P := h
theorem m137_q {P : Prop} (h : P := by (repeat (with_reducible first | exact HB.out | apply bA_q | apply pB_q | apply bD_q | refine bS_q ?_ GE725.out))) : P := h
theorem m138_q {P : Prop} (h : P := by (first | rfl | (simp [eN_q, eS_q] <;> rfl) | (simp only [← hji39, ← hji46]; first | rfl | (simp [eN_q, eS_q] <;> rfl)) | (simp [*, eN_q, eS_q] <;> rfl))) : P := h
theorem m139_q {P : Prop} (h : P := by ((with_reducible repeat (first | apply rA_q | apply rN_q | apply rD_q)); exact rM_q HO741.out (fun _ hk => ⟨hk.1.1.1.2, ⟨hk.1.1.2, ⟨hk.1.2, hk.2⟩⟩⟩))) : P := h
theorem m140_q {P : Prop} (h : P := by (have := HK1.out; have := HJ3.out; have := HK3.out; omega)) : P := h
theorem m141_q {P : Prop} (h : P := by (first | exact Kd.R_nil _ _ _ _ _ | exact Kd.N_nil _ _ _ _ _ | exact Kd.V_nil _ _ _ _ _ | exact Kd.Q_nil _ _ _ _ _ | exact Kd.S_nil _ _ _ _ _)) : P := h
theorem m142_q {P : Prop} (h : P := by (rw [show y750.length = y746.length from (rR_q HO748.out).1.symm]; exact (rR_q HO748.out).2.1)) : P := h
theorem m143_q {P : Prop} (h : P := by (have := LMc36.out; omega)) : P := h
theorem m144_q {P : Prop} (h : P := by ((with_reducible repeat (first | apply tA_q | apply tN_q | apply tD_q)); exact HO714.out)) : P := h
theorem m145_q {P : Prop} (h : P := by ((with_reducible repeat (first | apply tA_q | apply tN_q | apply tD_q)); exact Kd.S_mono HO_3.out (fun k_ hk => ⟨hk, fun e_ => e_⟩))) : P := h
theorem m146_q {P : Prop} (h : P := by with_reducible repeat (first | exact HB.out | apply bA_q | apply pB_q | apply bD_q)) : P := h
theorem m147_q {P : Prop} (h : P := by (have := HK1.out; omega)) : P := h
theorem m148_q {P : Prop} (h : P := by ((with_reducible repeat (first | apply rA_q | apply rN_q | apply rD_q)); exact rM_q HO313.out (fun _ hk => ⟨hk.2, hk.1.2⟩))) : P := h
theorem m149_q {P : Prop} (h : P := by ((with_reducible repeat (first | apply rA_q | apply rN_q | apply rD_q)); exact rM_q HO_6.out (fun _ hk => ⟨hk.2, hk.1.2⟩))) : P := h
theorem m150_q {P : Prop} (h : P := by exact (fun k_ hk => Kd.fresh' (rT_q (rup HO364.out)) k_ hk)) : P := h
theorem m151_q {P : Prop} (h : P := by ((with_reducible repeat (first | apply tA_q | apply tN_q | apply tD_q)); exact Kd.S_mono HO_3.out (fun _ hk => trivial))) : P := h
theorem m152_q {P : Prop} (h : P := by ((with_reducible repeat (first | apply rA_q | apply rN_q | apply rD_q)); exact rM_q HO307.out (fun _ hk => hk.2))) : P := h
theorem m153_q {P : Prop} (h : P := by (repeat (with_reducible first | exact HB.out | apply bA_q | apply pB_q | apply bD_q | refine bS_q ?_ GE270.out))) : P := h
theorem m154_q {P : Prop} (h : P := by exact cup (rR_q HO_6.out).2.2) : P := h
theorem m155_q {P : Prop} (h : P := by exact (fun _ _ => trivial)) : P := h
theorem m156_q {P : Prop} (h : P := by (have := HJ2.out; first | omega | exact nR_q _)) : P := h
theorem m157_q {P : Prop} (h : P := by exact (fun k_ hk => Kd.fresh' (rT_q (rup HO_10.out)) k_ hk)) : P := h
theorem m158_q {P : Prop} (h : P := by ((with_reducible repeat (first | apply tA_q | apply tN_q | apply tD_q)); exact HO591.out)) : P := h
theorem m159_q {P : Prop} (h : P := by (have := HK1.out; have := HJ4.out; have := HK3.out; omega)) : P := h
theorem m160_q {P : Prop} (h : P := by (have := HJ3.out; have := HK2.out; have := HK3.out; omega)) : P := h
theorem m161_q {P : Prop} (h : P := by (have := HJ4.out; have := HK2.out; have := HK3.out; omega)) : P := h
theorem m162_q {P : Prop} (h : P := by (have := LMc25.out; omega)) : P := h
theorem m163_q {P : Prop} (h : P := by exact cup (cB_q HR639_3.out HB.out)) : P := h
theorem m164_q {P : Prop} (h : P := by exact cup (cB_q HR358.out HB.out)) : P := h
theorem m165_q {P : Prop} (h : P := by (have := HK1.out; have := HJ10.out; omega)) : P := h
theorem m166_q {P : Prop} (h : P := by exact cup (rR_q HO364.out).2.2) : P := h
theorem m167_q {P : Prop} (h : P := by exact cup (rR_q HO367.out).2.2) : P := h
theorem m168_q {P : Prop} (h : P := by (repeat (first | exact m72_q | (with_reducible refine cA_q ?_ _) | (with_reducible refine cN_q ?_ _) | (with_reducible refine cD_q ?_)))) : P := h
theorem m169_q {P : Prop} (h : P := by (repeat (first | exact m73_q | (with_reducible refine cA_q ?_ _) | (with_reducible refine cN_q ?_ _) | (with_reducible refine cD_q ?_)))) : P := h
theorem m170_q {P : Prop} (h : P := by exact (bZ_q m1_q)) : P := h
theorem m171_q {P : Prop} (h : P := by exact (bZ_q m3_q)) : P := h
end Go.Proofs.Ytfnpiacmlahegaa.PRp
