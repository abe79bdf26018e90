/- Batches that are there at a minute: what WatchOpen computes, over plain lists. Condition: fewer than 2^40 events. -/
import Derived.Test.YtnhenfmegpjigaaEvEvents
import Derived.Test.YtnhenfmegpjigaaPEvx10
import Derived.Test.YtnhenfmegpjigaaPEvx11
import Derived.Test.YtnhenfmegpjigaaPEvx12
namespace Go.Proofs.Ytnhenfmegpjigaa.BEv
open Go.RowKit Go.Proofs.Ytnhenfmegpjigaa.PEv Go.Proofs.YtnhenfmegpjigaaW.PrintWords Go.Proofs.YtnhenfmegpjigaaW.PrintLast Go.Proofs.YtnhenfmegpjigaaW.PrintMore
set_option linter.unusedVariables false
set_option linter.unusedSimpArgs false
/-- the first event of a list from behind that made or dropped a batch -/
def lk (b : Int) : List S27 → Option S27
  | [] => none
  | x :: r => if isMk b x then some x else lk b r
theorem go_lk (b : Int) : ∀ l : List S27, impl_made.go b l = match lk b l with | none => (0, 0, 0, 0, 0, 0, false) | some x => (x.f0, x.f1, x.f2, x.f3, x.f4, x.f5, x.f0 == 1)
  | [] => rfl
  | x :: r => by
    rw [impl_made.go, lk]
    by_cases h : isMk b x
    · rw [if_pos h, if_pos h]
    · rw [if_neg h, if_neg h]; exact go_lk b r
theorem lk_mem (b : Int) : ∀ (l : List S27) (x : S27), lk b l = some x → x ∈ l
  | [], x, h => by simp [lk] at h
  | y :: r, x, h => by
    rw [lk] at h
    by_cases hm : isMk b y
    · rw [if_pos hm] at h; cases h; simp
    · rw [if_neg hm] at h; exact List.mem_cons_of_mem _ (lk_mem b r x h)
def there (pre : List S27) (m b : Int) : Bool := match lk b pre.reverse with | none => false | some x => decide (x.f0 = 1 ∧ m - x.f1 ≤ 120)
def opn (pre : List S27) (m : Int) : Nat → Int → List Int
  | 0, _ => []
  | n + 1, b => if there pre m b = true then b :: opn pre m n (b + 1) else opn pre m n (b + 1)
theorem opn_len (pre : List S27) (m : Int) : ∀ n b, (opn pre m n b).length ≤ n
  | 0, b => by simp [opn]
  | n + 1, b => by have := opn_len pre m n (b + 1); rw [opn]; split <;> simp <;> omega
def manyF (m : Int) : List S27 → Nat
  | [] => 0
  | x :: r => if x.f1 ≤ m then manyF m r + 1 else 0
theorem many_le (m : Int) : ∀ l, manyF m l ≤ l.length
  | [] => by simp [manyF]
  | x :: r => by have := many_le m r; rw [manyF]; split <;> simp <;> omega
def openF (l : List S27) (m : Int) : List Int := if EValid l ∧ (0 ≤ m ∧ m ≤ 1439) then opn (l.take (manyF m l)) m 20 1 else []
theorem EOk.all : ∀ {q : Option Int} {l : List S27}, EOk q l → ∀ x ∈ l, E1 x ∧ E2 x
  | _, [], _, x, h => by cases h
  | q, y :: r, hh, x, h => by
    rcases List.mem_cons.1 h with rfl | h
    · exact ⟨hh.1, hh.2.1⟩
    · exact EOk.all hh.2.2.2 x h
theorem impl_many (xs : List S27) (hb : xs.length ≤ 1099511627776) (m : Int) (out r : List Int) : ∀ (s p : List S27), xs = p ++ s → Ev (fun k => impl_WatchOpen.j2 k xs m out ((p.length + manyF m s : Nat) : Int)) r → Ev (fun k => impl_WatchOpen.l0 k xs m out (p.length : Int)) r := by
  intro s
  induction s with
  | nil => intro p hx hr; refine ev_succ ?_; simp only [impl_WatchOpen.l0]; exact ev_neg (by subst hx; simp) (by simpa [manyF] using hr)
  | cons x s ih =>
    intro p hx hr; refine ev_succ ?_
    simp only [impl_WatchOpen.l0, rd27s hx, wlen hx hb]
    refine ev_pos (len_at hx) (ev_pos (by omega) (ev_ite (fun h => ih (p ++ [x]) (snoc_at hx) ?_) (fun h => ?_)))
    · rw [manyF, if_pos h] at hr
      have e : (p ++ [x]).length + manyF m s = p.length + (manyF m s + 1) := by simp; omega
      rw [e]; exact hr
    · rw [manyF, if_neg h] at hr; exact hr
theorem spec_many (xs : List S27) (hb : xs.length ≤ 1099511627776) (m : Int) (out r : List Int) : ∀ (s p : List S27), xs = p ++ s → Ev (fun k => spec_WatchOpen.j2 k xs m out ((p.length + manyF m s : Nat) : Int)) r → Ev (fun k => spec_WatchOpen.l0 k xs m out (p.length : Int)) r := by
  intro s
  induction s with
  | nil => intro p hx hr; refine ev_succ ?_; simp only [spec_WatchOpen.l0]; exact ev_neg (by subst hx; simp) (by simpa [manyF] using hr)
  | cons x s ih =>
    intro p hx hr; refine ev_succ ?_
    simp only [spec_WatchOpen.l0, rd27s hx, wlen hx hb]
    refine ev_pos (len_at hx) (ev_pos (by omega) (ev_ite (fun h => ih (p ++ [x]) (snoc_at hx) ?_) (fun h => ?_)))
    · rw [manyF, if_pos h] at hr
      have e : (p ++ [x]).length + manyF m s = p.length + (manyF m s + 1) := by simp; omega
      rw [e]; exact hr
    · rw [manyF, if_neg h] at hr; exact hr
theorem impl_open_loop (xs : List S27) (hv : EValid xs) (m : Int) (hm : 0 ≤ m ∧ m ≤ 1439) (n : Nat) (hn : n ≤ xs.length) : ∀ (d : Nat) (b : Int) (out : List Int), b + d = 21 → 1 ≤ b → (out.length : Int) ≤ b →
    Ev (fun k => impl_WatchOpen.l1 k xs m out (n : Int) b) (out ++ opn (xs.take n) m d b) := by
  intro d
  induction d with
  | zero => intro b out hb h1 ho; refine ev_succ ?_; simp only [impl_WatchOpen.l1]; exact ev_neg (by omega) (ev_const (by simp [opn]))
  | succ d ih =>
    intro b out hb h1 ho; refine ev_succ ?_
    simp only [impl_WatchOpen.l1, impl_made.f, Option.bind_some, go_lk]
    rw [w64 (x := b + 1) (by omega) (by omega), opn, there]
    have e : ((n : Int)).toNat = n := by simp
    rw [e]
    refine ev_pos (by omega) (ev_pos (by omega) (ev_pos (by omega) ?_))
    have hmem := lk_mem b (xs.take n).reverse
    cases hl : lk b (xs.take n).reverse with
    | none => exact ev_neg (by simp) (ev_eq (ih (b + 1) out (by omega) (by omega) (by omega)) (by simp))
    | some x =>
      have hx := EOk.all hv.1 x (List.mem_of_mem_take (List.mem_reverse.1 (hmem x hl)))
      have h2 := hx.1.1
      dsimp only
      rw [w64 (x := m - x.f1) (by omega) (by omega)]
      refine ev_ite (fun h3 => ev_ite (fun h4 => ev_pos (by omega) (ev_eq (ih (b + 1) (out ++ [b]) (by omega) (by omega) (by simp; omega)) ?_)) (fun h4 => ev_eq (ih (b + 1) out (by omega) (by omega) (by omega)) ?_)) (fun h3 => ev_eq (ih (b + 1) out (by omega) (by omega) (by omega)) ?_)
      · have h5 : x.f0 = 1 := by simpa using h3
        rw [if_pos (decide_eq_true ⟨h5, h4⟩)]; simp
      · rw [if_neg (by simp only [decide_eq_true_eq]; exact fun z => h4 z.2)]
      · have h5 : ¬ x.f0 = 1 := by simpa using h3
        rw [if_neg (by simp only [decide_eq_true_eq]; exact fun z => h5 z.1)]
/-- what the reference's place tells -/
def Inv (l : List S27) (b : Int) (p : List S27) (out : Int) : Prop := match lk b p.reverse with
  | none => out = -1
  | some x => (x.f0 = 1 → 0 ≤ out ∧ out < (p.length : Int) ∧ rd_T27 l out = x) ∧ (x.f0 ≠ 1 → out = -1)
theorem made_loop (xs : List S27) (hb : xs.length ≤ 1099511627776) (hv : EValid xs) (b : Int) (n : Nat) (hn : n ≤ xs.length) : ∀ (s p : List S27) (out : Int), xs.take n = p ++ s → Inv xs b p out →
    ∃ r, Ev (fun k => spec_l43Made.l0 k xs (n : Int) b out (p.length : Int)) r ∧ Inv xs b (xs.take n) r := by
  intro s
  induction s with
  | nil =>
    intro p out hx hi
    have hp : p.length = n := by have := congrArg List.length hx; simp at this; omega
    refine ⟨out, ev_succ ?_, by rw [hx]; simpa using hi⟩
    simp only [spec_l43Made.l0]; exact ev_neg (by omega) (Ev.now _)
  | cons x s ih =>
    intro p out hx hi
    have hx2 : xs = p ++ x :: (s ++ xs.drop n) := by
      have e := (List.take_append_drop n xs).symm
      rw [hx] at e
      exact e.trans (by simp)
    have hpn : p.length < n := by have := congrArg List.length hx; simp at this; omega
    have hE := (EOk.all hv.1 x (by rw [hx2]; simp)).2
    have erev : (p ++ [x]).reverse = x :: p.reverse := by simp
    have hstep : ∀ out', Inv xs b (p ++ [x]) out' → (∀ r, Ev (fun k => spec_l43Made.l0 k xs (n : Int) b out' ((p ++ [x]).length : Int)) r → Ev (fun k => spec_l43Made.l0 (k + 1) xs (n : Int) b out (p.length : Int)) r) →
        ∃ r, Ev (fun k => spec_l43Made.l0 k xs (n : Int) b out (p.length : Int)) r ∧ Inv xs b (xs.take n) r := by
      intro out' h1 h2
      obtain ⟨r, h3, h4⟩ := ih (p ++ [x]) out' (by rw [hx]; simp) h1
      exact ⟨r, ev_succ (h2 r h3), h4⟩
    by_cases hbx : x.f2 = b
    · by_cases h1 : x.f0 = 1
      · refine hstep (p.length : Int) ?_ (fun r hr => ?_)
        · unfold Inv; rw [erev, lk, if_pos ⟨hbx, by omega⟩]
          exact ⟨fun _ => ⟨by omega, by simp; omega, rd27s hx2⟩, fun h => absurd h1 h⟩
        · simp only [spec_l43Made.l0, rd27s hx2, wlen hx2 hb]
          exact ev_pos (by omega) (ev_pos (by omega) (ev_pos (by omega) (ev_pos hbx (ev_pos h1 hr))))
      · by_cases h3 : x.f0 = 3
        · refine hstep (-1) ?_ (fun r hr => ?_)
          · unfold Inv; rw [erev, lk, if_pos ⟨hbx, by omega⟩]
            exact ⟨fun h => absurd h h1, fun _ => rfl⟩
          · simp only [spec_l43Made.l0, rd27s hx2, wlen hx2 hb]
            exact ev_pos (by omega) (ev_pos (by omega) (ev_pos (by omega) (ev_pos hbx (ev_neg h1 (ev_pos h3 hr)))))
        · have h2 : x.f0 = 2 := by
            have hE' := hE
            simp only [E2] at hE'; omega
          refine hstep out ?_ (fun r hr => ?_)
          · unfold Inv at hi ⊢
            rw [erev, lk, if_neg (fun h => h.2 h2)]
            cases hl : lk b p.reverse with
            | none => rw [hl] at hi; exact hi
            | some y => rw [hl] at hi; exact ⟨fun h => ⟨(hi.1 h).1, by have := (hi.1 h).2.1; simp; omega, (hi.1 h).2.2⟩, hi.2⟩
          · simp only [spec_l43Made.l0, rd27s hx2, wlen hx2 hb]
            exact ev_pos (by omega) (ev_pos (by omega) (ev_pos (by omega) (ev_pos hbx (ev_neg h1 (ev_neg h3 hr)))))
    · refine hstep out ?_ (fun r hr => ?_)
      · unfold Inv at hi ⊢
        rw [erev, lk, if_neg (fun h => hbx h.1)]
        cases hl : lk b p.reverse with
        | none => rw [hl] at hi; exact hi
        | some y => rw [hl] at hi; exact ⟨fun h => ⟨(hi.1 h).1, by have := (hi.1 h).2.1; simp; omega, (hi.1 h).2.2⟩, hi.2⟩
      · simp only [spec_l43Made.l0, rd27s hx2, wlen hx2 hb]
        exact ev_pos (by omega) (ev_pos (by omega) (ev_pos (by omega) (ev_neg hbx hr)))
theorem spec_open_loop (xs : List S27) (hbx : xs.length ≤ 1099511627776) (hv : EValid xs) (m : Int) (hm : 0 ≤ m ∧ m ≤ 1439) (n : Nat) (hn : n ≤ xs.length) : ∀ (d : Nat) (b : Int) (out : List Int), b + d = 21 → 1 ≤ b → (out.length : Int) ≤ b →
    Ev (fun k => spec_WatchOpen.l1 k xs m out (n : Int) b) (out ++ opn (xs.take n) m d b) := by
  intro d
  induction d with
  | zero => intro b out hb h1 ho; refine ev_succ ?_; simp only [spec_WatchOpen.l1]; exact ev_neg (by omega) (ev_const (by simp [opn]))
  | succ d ih =>
    intro b out hb h1 ho; refine ev_succ ?_
    obtain ⟨r, hr, hi⟩ := made_loop xs hbx hv b n hn (xs.take n) [] (-1) rfl (by simp [Inv, lk])
    simp only [spec_WatchOpen.l1]
    rw [w64 (x := b + 1) (by omega) (by omega), opn, there]
    refine ev_pos (by omega) (Ev.bind (show Ev (fun k => spec_l43Made.f k xs (n : Int) b) r from hr) ?_)
    unfold Inv at hi
    have hmem := lk_mem b (xs.take n).reverse
    cases hl : lk b (xs.take n).reverse with
    | none =>
      rw [hl] at hi
      dsimp only at hi
      exact ev_neg (by omega) (ev_eq (ih (b + 1) out (by omega) (by omega) (by omega)) (by simp))
    | some x =>
      rw [hl] at hi
      dsimp only at hi
      have hx := EOk.all hv.1 x (List.mem_of_mem_take (List.mem_reverse.1 (hmem x hl)))
      have h2 := hx.1.1
      dsimp only
      by_cases h3 : x.f0 = 1
      · obtain ⟨i1, i2, i3⟩ := hi.1 h3
        have i4 : r < (xs.length : Int) := by simp at i2; omega
        rw [i3, w64 (x := x.f1 + 120) (by omega) (by omega)]
        refine ev_pos (by omega) (ev_pos i1 (ev_pos i4 (ev_ite (fun h4 => ev_pos (by omega) (ev_eq (ih (b + 1) (out ++ [b]) (by omega) (by omega) (by simp; omega)) ?_)) (fun h4 => ev_eq (ih (b + 1) out (by omega) (by omega) (by omega)) ?_))))
        · rw [if_pos (decide_eq_true ⟨h3, by omega⟩)]; simp
        · rw [if_neg (by simp only [decide_eq_true_eq]; exact fun z => h4 (by have := z.2; omega))]
      · have := hi.2 h3
        refine ev_neg (by omega) (ev_eq (ih (b + 1) out (by omega) (by omega) (by omega)) ?_)
        rw [if_neg (by simp only [decide_eq_true_eq]; exact fun z => h3 z.1)]
theorem impl_open (xs : List S27) (hb : xs.length ≤ 1099511627776) (m : Int) : Ev (fun k => impl_WatchOpen.f k xs m) (openF xs m) := by
  have no : ∀ t, t = true → Ev (fun k => impl_WatchOpen.j0 k xs m [] t) [] := by
    intro t ht; refine ev_succ ?_; simp only [impl_WatchOpen.j0]; exact ev_pos ht (Ev.now _)
  unfold impl_WatchOpen.f openF
  simp only [Option.bind_some, minute_ev]
  refine Ev.bind (impl_valid xs hb) (ev_ite (fun h1 => ?_) (fun h1 => ?_))
  · have h1' := of_decide_eq_true h1
    by_cases h2 : 0 ≤ m ∧ m ≤ 1439
    · rw [if_pos ⟨h1', h2⟩]
      refine ev_succ ?_; simp only [impl_WatchOpen.j0]
      refine ev_neg (by simp [h2]) (impl_many xs hb m [] _ xs [] rfl (ev_succ ?_))
      simp only [impl_WatchOpen.j2]
      have := impl_open_loop xs h1' m h2 (manyF m xs) (many_le m xs) 20 1 [] (by omega) (by omega) (by simp)
      simpa using this
    · rw [if_neg (fun z => h2 z.2)]; exact no _ (by simp [h2])
  · rw [if_neg (fun z => h1 (decide_eq_true z.1))]; exact no _ rfl
theorem spec_open (xs : List S27) (hb : xs.length ≤ 1099511627776) (m : Int) : Ev (fun k => spec_WatchOpen.f k xs m) (openF xs m) := by
  have no : ∀ t, t = true → Ev (fun k => spec_WatchOpen.j0 k xs m [] t) [] := by
    intro t ht; refine ev_succ ?_; simp only [spec_WatchOpen.j0]; exact ev_pos ht (Ev.now _)
  unfold spec_WatchOpen.f openF
  simp only [Option.bind_some, in_ev]
  refine Ev.bind (spec_valid xs hb) (ev_ite (fun h1 => ?_) (fun h1 => ?_))
  · have h1' := of_decide_eq_true h1
    by_cases h2 : 0 ≤ m ∧ m ≤ 1439
    · rw [if_pos ⟨h1', h2⟩]
      refine ev_succ ?_; simp only [spec_WatchOpen.j0]
      refine ev_neg (by simp [h2]) (spec_many xs hb m [] _ xs [] rfl (ev_succ ?_))
      simp only [spec_WatchOpen.j2]
      have := spec_open_loop xs hb h1' m h2 (manyF m xs) (many_le m xs) 20 1 [] (by omega) (by omega) (by simp)
      simpa using this
    · rw [if_neg (fun z => h2 z.2)]; exact no _ (by simp [h2])
  · rw [if_neg (fun z => h1 (decide_eq_true z.1))]; exact no _ rfl
theorem open_len (l : List S27) (m : Int) : (openF l m).length ≤ 20 := by
  unfold openF; split
  · exact opn_len _ _ _ _
  · simp
end Go.Proofs.Ytnhenfmegpjigaa.BEv
