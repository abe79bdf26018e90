import Derived.Test.YtbclhpibilbdbaaDoorVJPScx0
import Derived.Test.YtbclhpibilbdbaaDoorVJWIns
namespace Go.Proofs.YtbclhpibilbdbaaDoor.PSc
open Go.RowKit Go.Proofs.YtbclhpibilbdbaaDoorW.PrintWords Go.Proofs.YtbclhpibilbdbaaDoorW.PrintLast Go.Proofs.YtbclhpibilbdbaaDoorW.PrintMore
attribute [local go_sem] max2_int min2_int max_two min_two max_three min_three max_four min_four
set_option linter.unusedVariables false
set_option linter.unusedSimpArgs false

-- HAND rounds=0 making=1
-- HANDIMPORT Derived.Test.YtbclhpibilbdbaaDoorWIns
def insL (l : List S49) (i : Int) (x : S49) : List S49 := l.take i.toNat ++ [x] ++ l.drop i.toNat
theorem reps_app {α : Type} {R : α → List Value → Prop} {size : Nat} {a b : List α} {ca cb : List Value} (ha : Reps R size a ca) (hb : Reps R size b cb) : Reps R size (a ++ b) (ca ++ cb) := by
 refine ⟨by rw [List.length_append, List.length_append, ha.1, hb.1, Nat.add_mul], fun j p hj => ?_⟩
 rcases Nat.lt_or_ge j a.length with h | h
 ·rw [List.getElem?_append_left h] at hj
  have h1 := ha.2 j p hj
  have hle : j * size + size ≤ ca.length := by rw [ha.1, ← Nat.succ_mul]; exact Nat.mul_le_mul_right _ h
  rw [List.drop_append_of_le_length (by omega), List.take_append_of_le_length (by rw [lD_q]; omega)]
  exact h1
 rw [List.getElem?_append_right h] at hj
 have h1 := hb.2 (j - a.length) p hj
 have e : j * size = ca.length + (j - a.length) * size := by rw [ha.1, ← Nat.add_mul]; congr 1; omega
 rw [e, List.drop_append]
 have e2 : ca.drop (ca.length + (j - a.length) * size) = [] := List.drop_eq_nil_of_le (by omega)
 rw [e2, List.nil_append, show ca.length + (j - a.length) * size - ca.length = (j - a.length) * size by omega]
 exact h1
theorem reps_take {α : Type} {R : α → List Value → Prop} {size : Nat} {a : List α} {ca : List Value} (ha : Reps R size a ca) (i : Nat) (hi : i ≤ a.length) : Reps R size (a.take i) (ca.take (i * size)) := by
 have hle : i * size ≤ ca.length := by rw [ha.1]; exact Nat.mul_le_mul_right _ hi
 refine ⟨by rw [lT_q, lT_q, Nat.min_eq_left hle, Nat.min_eq_left hi], fun j p hj => ?_⟩
 rw [List.getElem?_take] at hj
 split at hj
 ·rename_i h
  have h1 := ha.2 j p hj
  have h2 : j * size + size ≤ i * size := by rw [← Nat.succ_mul]; exact Nat.mul_le_mul_right _ h
  rw [List.drop_take, List.take_take, Nat.min_eq_left (by omega)]
  exact h1
 cases hj
theorem reps_drop {α : Type} {R : α → List Value → Prop} {size : Nat} {a : List α} {ca : List Value} (ha : Reps R size a ca) (i : Nat) : Reps R size (a.drop i) (ca.drop (i * size)) := by
 refine ⟨by rw [lD_q, lD_q, ha.1, Nat.sub_mul], fun j p hj => ?_⟩
 rw [List.getElem?_drop] at hj
 have h1 := ha.2 (i + j) p hj
 rw [List.drop_drop, ← Nat.add_mul]
 exact h1
theorem insert_lot {w0 : World} (base : Nat) (v : Value) (xs : List S49) (i : Int) (a b c : Int) (vb : Nat) (W : World) (ok : Nat → Prop) (hI : 0 ≤ i ∧ i ≤ xs.length) (hl : xs.length ≤ 1048576)
    (hV : W.heap[vb]? = some (.cells #[.int .i64 a, .int .i64 b, .int .i64 c] 49 (0, 0))) (hN : some vb ≠ v.ownBlock) (hR : Kd.R k49 49 W base ok v xs) (hF : ∀ k, W.heap.size ≤ k → ok k) (hB : Below base w0 W) (hbase : base ≤ W.heap.size) :
    Calls Tryd.prog 50 #[v, .int .i64 i, .slice (some ⟨vb, 0, none⟩) 1 1] W fun e w' => ∃ v', e = .returned v' ∧ Kd.R k49 49 w' base ok v' (insL xs i ⟨a, b, c⟩) ∧ Below base w0 w' ∧ W.grownBy w' v.ownBlock := by
 obtain ⟨q, rfl⟩ : ∃ q : Nat, i = q := ⟨i.toNat, by omega⟩
 obtain ⟨h0, inner, ho, hr⟩ := hR
 have hone : ∀ u ∈ inner, u.oneCell' = true := by
  intro u hu
  obtain ⟨j, hj, rfl⟩ := List.getElem_of_mem hu
  have hlen := hr.1
  have hd : k49.sz = 3 := rfl
  have hjl : j / 3 < xs.length := by rw [hlen, hd] at hj; omega
  have h1 := k49_openM (hr.2 (j / 3) xs[j / 3] (List.getElem?_eq_getElem hjl))
  rw [hd] at h1
  have h2 : inner[j] ∈ (inner.drop (j / 3 * 3)).take 3 := by
   rw [List.mem_iff_getElem?]
   refine ⟨j % 3, ?_⟩
   rw [List.getElem?_take, if_pos (Nat.mod_lt _ (by omega)), List.getElem?_drop, show j / 3 * 3 + j % 3 = j by omega, List.getElem?_eq_getElem hj]
  rw [h1] at h2
  simp only [List.mem_cons, List.not_mem_nil, or_false] at h2
  rcases h2 with e | e | e <;> rw [e] <;> rfl
 refine (Sh.insert_own base v xs.length q vb inner [.int .i64 a, .int .i64 b, .int .i64 c] W hbase ho (by omega) hl (by simpa using hV) hN rfl hone (by intro u hu; simp only [List.mem_cons, List.not_mem_nil, or_false] at hu; rcases hu with e | e | e <;> rw [e] <;> rfl)).mono ?_
 rintro e w' ⟨v', rfl, ho', hg, hat⟩
 have hrow : ∀ k, v'.ownBlock = some k → ok k := by
  intro k hk
  rcases hat with h | h
  ·exact h0 k (h ▸ hk)
  rw [h] at hk; exact hF k (by have := oI_q hk; omega)
 have hlenq : (insL xs q ⟨a, b, c⟩).length = xs.length + 1 := by simp only [insL, List.length_append, lT_q, lD_q, List.length_singleton]; omega
 refine ⟨v', rfl, ⟨hrow, inner.take (q * 3) ++ [.int .i64 a, .int .i64 b, .int .i64 c] ++ inner.drop (q * 3), ?_, ?_⟩, hB.grown hg hbase (fun k hk => own_base ho k hk), hg⟩
 ·rw [hlenq]; exact ho'
 have hr' : Reps (k49.M w' base (fun k => ok k ∧ some k ≠ v'.ownBlock)) 3 xs inner := hr.imp_ (fun p c hp => by rw [k49_openM hp]; exact k49_mkM _ _ _ _)
 have h1 : Reps (k49.M w' base (fun k => ok k ∧ some k ≠ v'.ownBlock)) 3 [(⟨a, b, c⟩ : S49)] [.int .i64 a, .int .i64 b, .int .i64 c] := by
  have h := Reps.snoc (Reps.none (k49.M w' base (fun k => ok k ∧ some k ≠ v'.ownBlock)) 3) (k49_mkM w' base (fun k => ok k ∧ some k ≠ v'.ownBlock) (⟨a, b, c⟩ : S49)) rfl
  simpa using h
 exact reps_app (reps_app (reps_take hr' q (by omega)) h1) (reps_drop hr' q)
theorem R_kept_ty {w w1 : World} {base base' : Nat} {ok ok' : Nat → Prop} {v u : Value} {xs : List ByteArray} {ys : List S49} (h : Kd.R Kd.string 9 w base ok v xs) (g : Kd.R k49 49 w base' ok' u ys) (hk : Kept w w1 (fun k => some k = u.ownBlock)) : Kd.R Kd.string 9 w1 base ok v xs := by
 obtain ⟨h0, inner, ho, hr⟩ := h
 refine ⟨h0, inner, own_move ho (fun k hb => hk.2 k (own_lt ho k hb) (fun e => ?_)), hr⟩
 obtain ⟨c1, hc1⟩ := own_typed ho k hb
 exact Kd.R_ne g hc1 (by decide) e

end Go.Proofs.YtbclhpibilbdbaaDoor.PSc
