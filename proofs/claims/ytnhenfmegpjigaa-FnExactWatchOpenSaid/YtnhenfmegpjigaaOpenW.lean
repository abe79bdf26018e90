/- Arguments that are slices of structs, or structs, read as lists and structures of the printed kinds. Condition: each type is as its own table row says (given by closed facts at the caller's). -/
import Derived.Test.YtnhenfmegpjigaaWWords
import Derived.Deep.Slices
import Derived.Deep.Fields
import Derived.ChangeSame
import Derived.ChangeArms
import Derived.Below
import Derived.ChangeSlices
namespace Go.Proofs.Ytnhenfmegpjigaa.Op
open Go.RowKit Go.Proofs.YtnhenfmegpjigaaW.PrintWords Go.ChangeShapes Go.WideShapes Go.Deep
set_option linter.unusedVariables false

/-- what can be read at type e is of the kind d -/
def Opens {α : Type} (P : Program) (d : Kd α) (e : TypeId) : Prop :=
  ∀ (H : Type) (enc : TypeId × Value → H) (w : World) (base : Nat) (spare : Nat → Bool) (held : Bool) (fuel : Nat) (cs : List Value) (x : DataW H × List MemPlace),
    DataW.trod enc P w base spare held fuel e cs = some x → ∃ a : α, d.K w a cs
theorem opens_int {P : Program} {k : IntKind} {e : TypeId} (ht : P.underlying e = some (.int k)) : Opens P (Kd.int k) e := by
  intro H enc w base spare held fuel cs x h
  obtain ⟨n, rfl, _, _⟩ := DataW.trod_int ht h
  exact ⟨n, rfl⟩
theorem list_of {α : Type} {Q : Nat → α → Prop} : ∀ n : Nat, (∀ i, i < n → ∃ y, Q i y) → ∃ xs : List α, xs.length = n ∧ ∀ i p, xs[i]? = some p → Q i p
  | 0, _ => ⟨[], rfl, fun i p h => by simp at h⟩
  | n + 1, h => by
    obtain ⟨xs, hl, hx⟩ := list_of n (fun i hi => h i (by omega))
    obtain ⟨y, hy⟩ := h n (by omega)
    refine ⟨xs ++ [y], by simp [hl], fun i p hp => ?_⟩
    by_cases hi : i < n
    · rw [List.getElem?_append_left (by omega)] at hp; exact hx i p hp
    · rw [List.getElem?_append_right (by omega)] at hp
      by_cases e : i = n
      · subst e; rw [hl, Nat.sub_self] at hp; simp at hp; subst hp; exact hy
      · have : i - xs.length = (i - xs.length - 1) + 1 := by omega
        rw [this] at hp; simp at hp
theorem opens_row {α : Type} {P : Program} {d : Kd α} {t e : TypeId} (ht : P.underlying t = some (.slice e)) (hC : P.cellsOf e = d.sz) (hd : Opens P d e)
    {H : Type} {enc : TypeId × Value → H} {w : World} {base : Nat} {spare : Nat → Bool} {held : Bool} {fuel : Nat} {cs : List Value} {x : DataW H × List MemPlace}
    (h : DataW.trod enc P w base spare held fuel t cs = some x) : ∃ (A : Option Addr) (xs : List α) (c : Nat), cs = [.slice A xs.length c] ∧ xs.length ≤ c ∧ xs.length ≤ maxLen ∧ d.C w A xs.length xs := by
  rcases open_slice ht h with ⟨rfl, _⟩ | ⟨a, len, cap, m, n, D, Pl, rfl, _, hl, hm, hmm, _, hi⟩
  · exact ⟨none, [], 0, rfl, Nat.le_refl _, Nat.zero_le _, rfl, by simp, fun h => absurd h (Nat.lt_irrefl 0)⟩
  · have hlm : len ≤ m := by rw [hmm]; split <;> omega
    obtain ⟨xs, hlen, hx⟩ := list_of (Q := fun i (y : α) => ∃ cs', w.cells? base (a.add (i * P.cellsOf e)) (P.cellsOf e) = some cs' ∧ d.K w y cs') len (fun i hlt => by
      obtain ⟨cs', hc, ht'⟩ := hi i (by omega)
      obtain ⟨y, hy⟩ := hd _ _ _ _ _ _ _ _ _ ht'
      exact ⟨y, cs', hc, hy⟩)
    subst hlen
    have hmx : xs.length ≤ maxLen := by omega
    refine ⟨some a, xs, cap, rfl, hl, hmx, rfl, by unfold maxLen at hmx; exact hmx, fun _ => ⟨a, rfl, fun j p hj => ?_⟩⟩
    obtain ⟨cs', hc, hK⟩ := hx j p hj
    obtain ⟨_, hcl, hat⟩ := World.cells?_some hc
    have hs := d.K_len hK
    refine ⟨cs', hs, hK, fun i u hu => ?_⟩
    have hil : i < P.cellsOf e := by
      rw [hC, ← hs]; exact (List.getElem?_eq_some_iff.1 hu).1
    have := hat i hil
    rw [← hu, ← this, Go.Deep.add_add, hC]
theorem C_all {α : Type} {d : Kd α} {w : World} {A : Option Addr} {n : Nat} {xs : List α} {Q : α → Prop} (h : d.C w A n xs) (hQ : ∀ x cs, d.K w x cs → Q x) : ∀ x ∈ xs, Q x := by
  intro x hx
  obtain ⟨j, hj, he⟩ := List.getElem_of_mem hx
  obtain ⟨ad, _, hc⟩ := h.2.2 (by have := h.1; omega)
  obtain ⟨c, _, hK, _⟩ := hc j x (by rw [List.getElem?_eq_getElem hj, he])
  exact hQ x c hK
theorem opens_slice {α : Type} {P : Program} {d : Kd α} {t e : TypeId} (ht : P.underlying t = some (.slice e)) (hC : P.cellsOf e = d.sz) (hd : Opens P d e) : Opens P (Kd.slice e d) t := by
  intro H enc w base spare held fuel cs x h
  obtain ⟨A, xs, c, rfl, hc, _, hr⟩ := opens_row ht hC hd h
  exact ⟨xs, A, c, rfl, hc, hr⟩
theorem opens_ints {P : Program} {k : IntKind} {t e : TypeId} (ht : P.underlying t = some (.slice e)) (he : P.underlying e = some (.int k)) (hC : P.cellsOf e = 1)
    {H : Type} {enc : TypeId × Value → H} {w : World} {base : Nat} {held : Bool} {fuel : Nat} {a : Option Addr} {len cap : Nat} {x : DataW H × List MemPlace}
    (h : DataW.trod enc P w base (fun _ => true) held fuel t (Value.slice a len cap).cells.toList = some x) :
    ∃ l : List Int, len = l.length ∧ Kd.C (Kd.int k) w a l.length l ∧ l.length ≤ cap ∧ l.length ≤ maxLen ∧ ∀ y ∈ l, (Lit.int k y).wf = true := by
  have hrow : (a = none ∧ len = 0 ∧ cap = 0 ∧ ([] : List Int) = []) ∨ ∃ (zs : List Int) (x : Addr), a = some x ∧ len ≤ cap ∧ cap ≤ maxLen ∧ zs.length = cap ∧ (∀ i, i < zs.length → w.cell? (x.add i) = some (.int k (zs.getD i 0))) ∧ ∀ n ∈ zs, (Lit.int k n).wf = true := by
    rcases open_ints ht he hC h with ⟨hcs, _⟩ | ⟨x, l, c, zs, hcs, _, hl, hm, hz, _, hcell, hwz⟩
    · simp [Value.cells] at hcs
      obtain ⟨rfl, rfl, rfl⟩ := hcs
      exact .inl ⟨rfl, rfl, rfl, rfl⟩
    · simp [Value.cells] at hcs
      obtain ⟨rfl, rfl, rfl⟩ := hcs
      exact .inr ⟨zs, _, rfl, hl, hm, by simpa using hz, hcell, hwz⟩
  rcases hrow with ⟨rfl, rfl, rfl, _⟩ | ⟨zs, y, h1⟩
  · exact ⟨[], rfl, Kd.C_nil _ _, Nat.le_refl _, Nat.zero_le _, fun _ h => by cases h⟩
  · obtain ⟨l, rfl, hr, hm, hw, hc⟩ := ReadsInt.ofRowC (.inr ⟨y, h1⟩)
    exact ⟨l, rfl, Kd.C_of_reads (d := (0 : Int)) (h1 := fun _ => rfl) hr, hc, hm, hw⟩
/-- cells in line, one a field -/
def OpensL {α : Type} (P : Program) (d : Kd α) (ts : List TypeId) : Prop :=
  ∀ (H : Type) (enc : TypeId × Value → H) (w : World) (base : Nat) (spare : Nat → Bool) (held : Bool) (fuel : Nat) (cs : List Value), cs.length = ts.length →
    (∀ i t, ts[i]? = some t → ∃ y, DataW.trod enc P w base spare held fuel t ((cs.drop i).take 1) = some y) → ∃ a : α, d.K w a cs
theorem opensL_one {α : Type} {P : Program} {d : Kd α} {t : TypeId} (h : Opens P d t) : OpensL P d [t] := by
  intro H enc w base spare held fuel cs hl hf
  obtain ⟨y, hy⟩ := hf 0 t rfl
  match cs, hl with
  | [c], _ => exact h _ _ _ _ _ _ _ _ _ hy
theorem opensL_cons {α β : Type} {P : Program} {d : Kd α} {d' : Kd β} {t : TypeId} {ts : List TypeId} (h : Opens P d t) (hl : OpensL P d' ts) : OpensL P (Kd.pair d d') (t :: ts) := by
  intro H enc w base spare held fuel cs hlen hf
  match cs, hlen with
  | c :: cs, hlen =>
    obtain ⟨y, hy⟩ := hf 0 t rfl
    obtain ⟨a, ha⟩ := h _ _ _ _ _ _ _ _ _ hy
    obtain ⟨b, hb⟩ := hl H enc w base spare held fuel cs (by simpa using hlen) (fun i t' ht' => hf (i + 1) t' (by simpa using ht'))
    exact ⟨(a, b), [c], cs, rfl, by simpa using ha, hb⟩
theorem opens_struct {α β : Type} {P : Program} {d : Kd α} {f : β → α} {g : α → β} {t : TypeId} {fs : Array Field} {ts : List TypeId} (hfg : ∀ a, f (g a) = a) (ht : P.underlying t = some (.struct fs)) (hone : oneCellFields P fs = true) (hC : P.cellsOf t = ts.length)
    (hts : fs.toList.map (·.type) = ts) (hl : OpensL P d ts) : Opens P (Kd.iso d f) t := by
  intro H enc w base spare held fuel cs x h
  obtain ⟨ys, n, _, _, hlen, hyl, hf⟩ := DataW.trod_struct ht h
  have key : ∃ a : α, d.K w a cs := by
    refine hl H enc w base spare held n cs (by rw [hlen, hC]) (fun i t' ht' => ?_)
    have hlt : i < ts.length := (List.getElem?_eq_some_iff.1 ht').1
    have hfl : fs.size = ts.length := by rw [← hts]; simp
    have hfi : fs[i]? = some (fs[i]'(by omega)) := Array.getElem?_eq_getElem (by omega)
    obtain ⟨ho, hk⟩ := hone_of hone i _ hfi
    have he : (fs[i]'(by omega)).type = t' := by
      have : (fs.toList.map (·.type))[i]? = some t' := by rw [hts]; exact ht'
      rw [List.getElem?_map, Array.getElem?_toList, hfi] at this
      simpa using this
    have h1 := hf i _ hfi
    rw [ho, hk, he] at h1
    have hyi : ys[i]? = some (ys[i]'(by omega)) := List.getElem?_eq_getElem (by omega)
    exact ⟨_, h1.trans hyi⟩
  obtain ⟨a, ha⟩ := key
  exact ⟨g a, by show d.K w (f (g a)) cs; rw [hfg]; exact ha⟩
end Go.Proofs.Ytnhenfmegpjigaa.Op
