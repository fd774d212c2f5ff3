import PyProof.Rows.All
import Wide.All
import OpenK.AllK
import Wide.FinOn
import HandS.ClsMeth
import HandS.Deep
import HandS.Defaults
import HandS.DictComp
import HandS.ForMost
import HandS.Head0
import HandS.Head1
import HandS.Head2
import HandS.HeadEnd
import HandS.HeadHook1
import HandS.HeadHook2
import HandS.IsInst
import HandS.More
import HandS.Nested
import HandS.NoneIn
import HandS.SetKeys
import HandS.SortInts
import HandS.TupLen
import HandS.Walk
import HandS.Wide
import KE.KDictKeyed
import KE.KStateDown
import KE.KSuper
import PySem.Challenge.RW_endlessplane_k53_whole_strands_of_trails
set_option Elab.async false
set_option linter.all false
set_option maxRecDepth 100000
set_option maxHeartbeats 0
/-! K53Math -/
section
/-! Plain mathematics of the law: strands of a trail. No program in sight. -/
namespace K53
abbrev Cell := Int × Int
abbrev Pr := Int × Int

/-! ### steps and paths -/
/-- the pair of a step's letter (by its code) -/
def stepOf (c : Nat) : Cell := if c = 69 then (1, 0) else if c = 78 then (0, 1) else if c = 87 then (-1, 0) else (0, -1)
def plus (a b : Cell) : Cell := (a.1 + b.1, a.2 + b.2)
def pathFrom : Cell → List Nat → List Cell
  | p, [] => [p]
  | p, c :: r => p :: pathFrom (plus p (stepOf c)) r
def goal : Cell → List Nat → Cell
  | p, [] => p
  | p, c :: r => goal (plus p (stepOf c)) r

theorem pathFrom_ne (p : Cell) (w : List Nat) : pathFrom p w ≠ [] := by cases w <;> simp [pathFrom]
theorem pathFrom_len (p : Cell) (w : List Nat) : (pathFrom p w).length = w.length + 1 := by
  induction w generalizing p with
  | nil => rfl
  | cons c r ih => simp [pathFrom, ih]
theorem pathFrom_snoc (p : Cell) (w : List Nat) (c : Nat) : pathFrom p (w ++ [c]) = pathFrom p w ++ [plus (goal p w) (stepOf c)] := by
  induction w generalizing p with
  | nil => rfl
  | cons d r ih => simp [pathFrom, goal, ih]
theorem goal_snoc (p : Cell) (w : List Nat) (c : Nat) : goal p (w ++ [c]) = plus (goal p w) (stepOf c) := by
  induction w generalizing p with
  | nil => rfl
  | cons d r ih => simp [goal, ih]
theorem pathFrom_last (p : Cell) (w : List Nat) : (pathFrom p w)[w.length]? = some (goal p w) := by
  induction w generalizing p with
  | nil => rfl
  | cons c r ih => simp [pathFrom, goal, ih]
theorem plus_assoc (a b c : Cell) : plus (plus a b) c = plus a (plus b c) := by
  simp only [plus, Prod.mk.injEq]; omega
theorem plus_comm (a b : Cell) : plus a b = plus b a := by
  simp only [plus, Prod.mk.injEq]; omega
theorem plus_zero (a : Cell) : plus a (0, 0) = a := by simp [plus]
theorem zero_plus (a : Cell) : plus (0, 0) a = a := by simp [plus]
theorem pathFrom_shift (p q : Cell) (w : List Nat) : pathFrom (plus p q) w = (pathFrom q w).map (plus p) := by
  induction w generalizing q with
  | nil => rfl
  | cons c r ih => simp [pathFrom, plus_assoc, ih]
theorem pathFrom_map (p : Cell) (w : List Nat) : pathFrom p w = (pathFrom (0, 0) w).map (plus p) := by
  have := pathFrom_shift p (0, 0) w
  rwa [plus_zero] at this
theorem goal_shift (p q : Cell) (w : List Nat) : goal (plus p q) w = plus p (goal q w) := by
  induction w generalizing q with
  | nil => rfl
  | cons c r ih => simp [goal, plus_assoc, ih]
theorem goal_map (p : Cell) (w : List Nat) : goal p w = plus p (goal (0, 0) w) := by
  have := goal_shift p (0, 0) w
  rwa [plus_zero] at this
theorem goal_append (p : Cell) (u w : List Nat) : goal p (u ++ w) = goal (goal p u) w := by
  induction u generalizing p with
  | nil => rfl
  | cons c r ih => simp [goal, ih]
theorem mem_pathFrom_append (p : Cell) (u w : List Nat) (c : Cell) : c ∈ pathFrom p (u ++ w) ↔ c ∈ pathFrom p u ∨ c ∈ pathFrom (goal p u) w := by
  induction u generalizing p with
  | nil =>
    simp only [List.nil_append, goal]
    constructor
    · exact .inr
    · rintro (h | h)
      · have : c = p := by simpa [pathFrom] using h
        subst this
        cases w <;> simp [pathFrom]
      · exact h
  | cons d r ih => simp [pathFrom, goal, ih, or_assoc]
/-- how far a path goes -/
theorem step_small (c : Nat) : -1 ≤ (stepOf c).1 ∧ (stepOf c).1 ≤ 1 ∧ -1 ≤ (stepOf c).2 ∧ (stepOf c).2 ≤ 1 := by
  unfold stepOf
  repeat (first | split | decide)
def Near (B : Int) (c : Cell) : Prop := -B ≤ c.1 ∧ c.1 ≤ B ∧ -B ≤ c.2 ∧ c.2 ≤ B
theorem near_path (w : List Nat) : ∀ (p : Cell) (B : Int), Near B p → ∀ c ∈ pathFrom p w, Near (B + w.length) c := by
  induction w with
  | nil =>
    intro p B h c hc
    have : c = p := by simpa [pathFrom] using hc
    subst this
    simpa using h
  | cons d r ih =>
    intro p B h c hc
    have s := step_small d
    simp only [pathFrom, List.mem_cons] at hc
    rcases hc with rfl | hc
    · unfold Near at *
      simp only [List.length_cons]
      omega
    · have h' : Near (B + 1) (plus p (stepOf d)) := by
        unfold Near plus at *
        dsimp only
        omega
      have := ih _ _ h' c hc
      unfold Near at *
      simp only [List.length_cons]
      omega
theorem near_goal (w : List Nat) (p : Cell) (B : Int) (h : Near B p) : Near (B + w.length) (goal p w) :=
  near_path w p B h _ (List.mem_of_getElem? (pathFrom_last p w))

/-! ### the foot of an offset -/
def axisOf (o v : Cell) : Int × Int := if v.1 ≠ 0 then (o.1, v.1) else (o.2, v.2)
def timesIn (o v : Cell) : Int := if v.1 ≠ 0 then o.1.fdiv v.1 else o.2.fdiv v.2
def footOf (o v : Cell) : Cell × Int := if v = (0, 0) then (o, 0) else ((o.1 - timesIn o v * v.1, o.2 - timesIn o v * v.2), timesIn o v)
def mulC (n : Int) (v : Cell) : Cell := (n * v.1, n * v.2)
/-- f is what is left of itself -/
def Normal (v f : Cell) : Prop := v ≠ (0, 0) → timesIn f v = 0
theorem vne {v : Cell} (h : v ≠ (0, 0)) : v.1 ≠ 0 ∨ v.2 ≠ 0 := by
  obtain ⟨a, b⟩ := v
  by_cases ha : a = 0
  · by_cases hb : b = 0
    · subst ha hb; exact absurd rfl h
    · exact .inr hb
  · exact .inl ha
theorem timesIn_add {v : Cell} (h : v ≠ (0, 0)) (o : Cell) (n : Int) : timesIn (plus o (mulC n v)) v = timesIn o v + n := by
  unfold timesIn plus mulC
  by_cases h1 : v.1 = 0
  · have h2 : v.2 ≠ 0 := (vne h).resolve_left fun q => q h1
    rw [if_neg (by simpa using h1), if_neg (by simpa using h1)]
    exact Int.add_mul_fdiv_right _ _ h2
  · rw [if_pos h1, if_pos h1]
    exact Int.add_mul_fdiv_right _ _ h1
theorem foot_normal (o v : Cell) : Normal v (footOf o v).1 := by
  intro h
  unfold footOf
  rw [if_neg h]
  have := timesIn_add h o (-timesIn o v)
  have e : plus o (mulC (-timesIn o v) v) = (o.1 - timesIn o v * v.1, o.2 - timesIn o v * v.2) := by
    unfold plus mulC
    simp only [Prod.mk.injEq, Int.neg_mul]
    omega
  rw [e] at this
  rw [this]
  omega
theorem foot_back (o v : Cell) : o = plus (footOf o v).1 (mulC (footOf o v).2 v) := by
  unfold footOf
  split
  · simp [plus, mulC]
  · obtain ⟨a, b⟩ := o
    unfold plus mulC
    dsimp only
    generalize timesIn (a, b) v * v.1 = p
    generalize timesIn (a, b) v * v.2 = q
    simp only [Prod.mk.injEq]
    omega
theorem foot_of_normal {v f : Cell} (hn : Normal v f) (h : v ≠ (0, 0)) (n : Int) : footOf (plus f (mulC n v)) v = (f, n) := by
  have e : timesIn (plus f (mulC n v)) v = n := by rw [timesIn_add h, hn h]; omega
  unfold footOf
  rw [if_neg h, e]
  obtain ⟨a, b⟩ := f
  unfold plus mulC
  dsimp only
  generalize n * v.1 = p
  generalize n * v.2 = q
  simp only [Prod.mk.injEq, and_true]
  omega
theorem foot_zero (v : Cell) : footOf (0, 0) v = ((0, 0), 0) := by
  by_cases h : v = (0, 0)
  · unfold footOf; rw [if_pos h]
  · have := foot_of_normal (v := v) (f := (0, 0)) (fun _ => by unfold timesIn; split <;> simp) h 0
    simpa [plus, mulC] using this
theorem foot_vzero (o : Cell) : footOf o (0, 0) = (o, 0) := by unfold footOf; rw [if_pos rfl]

/-! ### rows: by feet, in the order in which they come -/
abbrev Rows := List (Cell × List Pr)
def addRow : Rows → Cell → Pr → Rows
  | [], f, e => [(f, [e])]
  | (g, row) :: r, f, e => if g = f then (g, row ++ [e]) :: r else (g, row) :: addRow r f e
/-- of the first n offsets -/
def rowsTo (os : List Cell) (v : Cell) : Nat → Rows
  | 0 => []
  | n + 1 => addRow (rowsTo os v n) (footOf (os.getD n (0, 0)) v).1 ((footOf (os.getD n (0, 0)) v).2, (n : Int))

theorem addRow_keys (r : Rows) (f : Cell) (e : Pr) : (addRow r f e).map (·.1) = if f ∈ r.map (·.1) then r.map (·.1) else r.map (·.1) ++ [f] := by
  induction r with
  | nil => simp [addRow]
  | cons x r ih =>
    obtain ⟨g, row⟩ := x
    unfold addRow
    by_cases h : g = f
    · subst h; simp
    · rw [if_neg h]
      have h' : ¬ f = g := fun q => h q.symm
      simp only [List.map_cons, ih, List.mem_cons, h', false_or]
      split <;> simp
theorem addRow_nodup {r : Rows} {f : Cell} {e : Pr} (h : (r.map (·.1)).Nodup) : ((addRow r f e).map (·.1)).Nodup := by
  rw [addRow_keys]
  split
  · exact h
  · rename_i hf
    rw [List.nodup_append]
    refine ⟨h, by simp, ?_⟩
    intro a ha b hb
    have : b = f := by simpa using hb
    subst this
    rintro rfl
    exact hf ha
/-- what stands in a row behind one more -/
theorem mem_addRow {r : Rows} {f : Cell} {e : Pr} {g : Cell} {row : List Pr} (h : (g, row) ∈ addRow r f e) :
    ((g, row) ∈ r) ∨ (g = f ∧ ((row = [e]) ∨ ∃ row', (f, row') ∈ r ∧ row = row' ++ [e])) := by
  induction r with
  | nil =>
    simp only [addRow, List.mem_singleton, Prod.mk.injEq] at h
    exact .inr ⟨h.1, .inl h.2⟩
  | cons x r ih =>
    obtain ⟨k, rk⟩ := x
    unfold addRow at h
    by_cases hk : k = f
    · rw [if_pos hk] at h
      rcases List.mem_cons.mp h with h | h
      · simp only [Prod.mk.injEq] at h
        obtain ⟨rfl, rfl⟩ := h
        exact .inr ⟨hk, .inr ⟨rk, by rw [← hk]; exact List.mem_cons_self, rfl⟩⟩
      · exact .inl (List.mem_cons_of_mem _ h)
    · rw [if_neg hk] at h
      rcases List.mem_cons.mp h with h | h
      · exact .inl (by rw [h]; exact List.mem_cons_self)
      · rcases ih h with h | ⟨e1, h | ⟨row', h1, h2⟩⟩
        · exact .inl (List.mem_cons_of_mem _ h)
        · exact .inr ⟨e1, .inl h⟩
        · exact .inr ⟨e1, .inr ⟨row', List.mem_cons_of_mem _ h1, h2⟩⟩
/-- what stood in a row stands there still -/
theorem addRow_keeps {r : Rows} {f : Cell} {e : Pr} {g : Cell} {x : Pr} (h : ∃ row, (g, row) ∈ r ∧ x ∈ row) : ∃ row, (g, row) ∈ addRow r f e ∧ x ∈ row := by
  obtain ⟨row, h1, h2⟩ := h
  induction r with
  | nil => cases h1
  | cons y r ih =>
    obtain ⟨k, rk⟩ := y
    unfold addRow
    rcases List.mem_cons.mp h1 with h1 | h1
    · simp only [Prod.mk.injEq] at h1
      obtain ⟨rfl, rfl⟩ := h1
      split
      · exact ⟨_, List.mem_cons_self, List.mem_append_left _ h2⟩
      · exact ⟨_, List.mem_cons_self, h2⟩
    · split
      · exact ⟨row, List.mem_cons_of_mem _ h1, h2⟩
      · obtain ⟨row', q1, q2⟩ := ih h1
        exact ⟨row', List.mem_cons_of_mem _ q1, q2⟩
theorem addRow_new (r : Rows) (f : Cell) (e : Pr) : ∃ row, (f, row) ∈ addRow r f e ∧ e ∈ row := by
  induction r with
  | nil => exact ⟨[e], by simp [addRow], by simp⟩
  | cons y r ih =>
    obtain ⟨k, rk⟩ := y
    unfold addRow
    by_cases h : k = f
    · rw [if_pos h]; exact ⟨rk ++ [e], by rw [h]; exact List.mem_cons_self, by simp⟩
    · rw [if_neg h]
      obtain ⟨row, q1, q2⟩ := ih
      exact ⟨row, List.mem_cons_of_mem _ q1, q2⟩

structure RowsOk (os : List Cell) (v : Cell) (n : Nat) (r : Rows) : Prop where
  nd : (r.map (·.1)).Nodup
  ne : ∀ g row, (g, row) ∈ r → row ≠ []
  of : ∀ g row, (g, row) ∈ r → ∀ e ∈ row, ∃ k : Nat, k < n ∧ e.2 = (k : Int) ∧ footOf (os.getD k (0, 0)) v = (g, e.1)
  all : ∀ k : Nat, k < n → ∃ row, ((footOf (os.getD k (0, 0)) v).1, row) ∈ r ∧ ((footOf (os.getD k (0, 0)) v).2, (k : Int)) ∈ row
theorem rows_ok (os : List Cell) (v : Cell) : ∀ n, RowsOk os v n (rowsTo os v n)
  | 0 => ⟨by simp [rowsTo], fun _ _ h => by simp [rowsTo] at h, fun _ _ h => by simp [rowsTo] at h, fun k h => by omega⟩
  | n + 1 => by
    have ih := rows_ok os v n
    unfold rowsTo
    generalize hf : (footOf (os.getD n (0, 0)) v) = ft at *
    refine ⟨addRow_nodup ih.nd, fun g row h => ?_, fun g row h e he => ?_, fun k hk => ?_⟩
    · rcases mem_addRow h with h | ⟨_, h | ⟨row', _, h⟩⟩
      · exact ih.ne _ _ h
      · rw [h]; simp
      · rw [h]; simp
    · rcases mem_addRow h with h | ⟨rfl, h | ⟨row', h1, h⟩⟩
      · obtain ⟨k, h1, h2⟩ := ih.of _ _ h e he
        exact ⟨k, by omega, h2⟩
      · rw [h] at he
        have : e = (ft.2, (n : Int)) := by simpa using he
        subst this
        exact ⟨n, by omega, rfl, hf⟩
      · rw [h] at he
        rcases List.mem_append.mp he with he | he
        · obtain ⟨k, q1, q2⟩ := ih.of _ _ h1 e he
          exact ⟨k, by omega, q2⟩
        · have : e = (ft.2, (n : Int)) := by simpa using he
          subst this
          exact ⟨n, by omega, rfl, hf⟩
    · by_cases e : k < n
      · exact addRow_keeps (ih.all k e)
      · have : k = n := by omega
        subst this
        rw [hf]
        exact addRow_new _ _ _

/-! ### joined stretches -/
def joinGo : Pr → List Pr → List Pr
  | c, [] => [c]
  | c, p :: r => if p.1 ≤ c.2 then joinGo (c.1, max c.2 p.2) r else c :: joinGo p r
def join : List Pr → List Pr
  | [] => []
  | p :: r => joinGo p r
/-- one more stretch behind -/
def joinStep (acc : List Pr) (p : Pr) : List Pr :=
  match acc.getLast? with
  | none => [p]
  | some c => if p.1 ≤ c.2 then acc.dropLast ++ [(c.1, max c.2 p.2)] else acc ++ [p]
theorem joinGo_ne (c : Pr) (r : List Pr) : joinGo c r ≠ [] := by
  induction r generalizing c with
  | nil => simp [joinGo]
  | cons p r ih => unfold joinGo; split <;> simp [ih]
theorem joinStep_cons (c : Pr) (acc : List Pr) (h : acc ≠ []) (p : Pr) : joinStep (c :: acc) p = c :: joinStep acc p := by
  obtain ⟨x, r, rfl⟩ := List.exists_cons_of_ne_nil h
  unfold joinStep
  rw [List.getLast?_cons_cons]
  cases hl : (x :: r).getLast? with
  | none => simp at hl
  | some z => dsimp only; split <;> simp
theorem joinGo_snoc (c : Pr) (r : List Pr) (p : Pr) : joinGo c (r ++ [p]) = joinStep (joinGo c r) p := by
  induction r generalizing c with
  | nil => simp [joinGo, joinStep]
  | cons q r ih =>
    simp only [List.cons_append, joinGo]
    split
    · exact ih _
    · rw [ih, joinStep_cons _ _ (joinGo_ne _ _)]
theorem join_snoc (r : List Pr) (p : Pr) : join (r ++ [p]) = joinStep (join r) p := by
  cases r with
  | nil => simp [join, joinGo, joinStep]
  | cons c r => exact joinGo_snoc c r p

def Cov (xs : List Pr) (n : Int) : Prop := ∃ p ∈ xs, p.1 ≤ n ∧ n < p.2
def Full (xs : List Pr) : Prop := ∀ p ∈ xs, p.1 < p.2
def Lows (xs : List Pr) : Prop := xs.Pairwise fun a b => a.1 ≤ b.1
/-- ascending, not touching -/
def Canon (xs : List Pr) : Prop := Full xs ∧ xs.Pairwise fun a b => a.2 < b.1

theorem cov_cons (c : Pr) (r : List Pr) (n : Int) : Cov (c :: r) n ↔ (c.1 ≤ n ∧ n < c.2) ∨ Cov r n := by
  unfold Cov
  constructor
  · rintro ⟨p, hp, h⟩
    rcases List.mem_cons.mp hp with rfl | hp
    · exact .inl h
    · exact .inr ⟨p, hp, h⟩
  · rintro (h | ⟨p, hp, h⟩)
    · exact ⟨c, List.mem_cons_self, h⟩
    · exact ⟨p, List.mem_cons_of_mem _ hp, h⟩
theorem joinGo_cov (c : Pr) (r : List Pr) (hc : c.1 < c.2) (hf : Full r) (hl : Lows (c :: r)) (n : Int) : Cov (joinGo c r) n ↔ Cov (c :: r) n := by
  induction r generalizing c with
  | nil => exact Iff.rfl
  | cons p r ih =>
    have hp : p.1 < p.2 := hf p List.mem_cons_self
    have hf' : Full r := fun q hq => hf q (List.mem_cons_of_mem _ hq)
    obtain ⟨h1, h2⟩ := List.pairwise_cons.mp hl
    obtain ⟨h3, h4⟩ := List.pairwise_cons.mp h2
    have hcp : c.1 ≤ p.1 := h1 p List.mem_cons_self
    unfold joinGo
    split
    · rename_i hle
      have hc' : (c.1, max c.2 p.2).1 < (c.1, max c.2 p.2).2 := by dsimp only; omega
      have hl' : Lows ((c.1, max c.2 p.2) :: r) := List.pairwise_cons.mpr ⟨fun q hq => h1 q (List.mem_cons_of_mem _ hq), h4⟩
      rw [ih _ hc' hf' hl']
      rw [cov_cons, cov_cons, cov_cons]
      constructor
      · rintro (⟨a, b⟩ | h)
        · by_cases q : n < c.2
          · exact .inl ⟨a, q⟩
          · refine .inr (.inl ⟨by omega, ?_⟩)
            have b' : n < max c.2 p.2 := b
            omega
        · exact .inr (.inr h)
      · rintro (⟨a, b⟩ | ⟨a, b⟩ | h)
        · exact .inl ⟨a, by show n < max c.2 p.2; omega⟩
        · exact .inl ⟨by show c.1 ≤ n; omega, by show n < max c.2 p.2; omega⟩
        · exact .inr h
    · have := ih p hp hf' h2
      rw [cov_cons, cov_cons c, this]
theorem joinGo_canon (c : Pr) (r : List Pr) (hc : c.1 < c.2) (hf : Full r) (hl : Lows (c :: r)) : Canon (joinGo c r) ∧ ∀ q ∈ joinGo c r, c.1 ≤ q.1 := by
  induction r generalizing c with
  | nil =>
    refine ⟨⟨fun q hq => ?_, by simp [joinGo]⟩, fun q hq => ?_⟩
    · have : q = c := by simpa [joinGo] using hq
      rw [this]; exact hc
    · have : q = c := by simpa [joinGo] using hq
      rw [this]; exact Int.le_refl _
  | cons p r ih =>
    have hp : p.1 < p.2 := hf p List.mem_cons_self
    have hf' : Full r := fun q hq => hf q (List.mem_cons_of_mem _ hq)
    obtain ⟨h1, h2⟩ := List.pairwise_cons.mp hl
    obtain ⟨h3, h4⟩ := List.pairwise_cons.mp h2
    have hcp : c.1 ≤ p.1 := h1 p List.mem_cons_self
    unfold joinGo
    split
    · have hc' : (c.1, max c.2 p.2).1 < (c.1, max c.2 p.2).2 := by dsimp only; omega
      have hl' : Lows ((c.1, max c.2 p.2) :: r) := List.pairwise_cons.mpr ⟨fun q hq => h1 q (List.mem_cons_of_mem _ hq), h4⟩
      exact ih _ hc' hf' hl'
    · obtain ⟨⟨k1, k2⟩, k3⟩ := ih p hp hf' h2
      refine ⟨⟨fun q hq => ?_, List.pairwise_cons.mpr ⟨fun q hq => ?_, k2⟩⟩, fun q hq => ?_⟩
      · rcases List.mem_cons.mp hq with rfl | hq
        · exact hc
        · exact k1 q hq
      · have := k3 q hq
        omega
      · rcases List.mem_cons.mp hq with rfl | hq
        · exact Int.le_refl _
        · have := k3 q hq
          omega
theorem join_cov {xs : List Pr} (hf : Full xs) (hl : Lows xs) (n : Int) : Cov (join xs) n ↔ Cov xs n := by
  cases xs with
  | nil => exact Iff.rfl
  | cons c r => exact joinGo_cov c r (hf c List.mem_cons_self) (fun q hq => hf q (List.mem_cons_of_mem _ hq)) hl n
theorem join_canon {xs : List Pr} (hf : Full xs) (hl : Lows xs) : Canon (join xs) := by
  cases xs with
  | nil => exact ⟨fun q hq => (by cases hq), List.Pairwise.nil⟩
  | cons c r => exact (joinGo_canon c r (hf c List.mem_cons_self) (fun q hq => hf q (List.mem_cons_of_mem _ hq)) hl).1

theorem canon_tail {c : Pr} {r : List Pr} (h : Canon (c :: r)) : Canon r := ⟨fun q hq => h.1 q (List.mem_cons_of_mem _ hq), (List.pairwise_cons.mp h.2).2⟩
theorem canon_above {c : Pr} {r : List Pr} (h : Canon (c :: r)) {n : Int} (hn : Cov r n) : c.2 < n := by
  obtain ⟨p, hp, h1, h2⟩ := hn
  have := (List.pairwise_cons.mp h.2).1 p hp
  omega
theorem canon_below {c : Pr} {r : List Pr} (h : Canon (c :: r)) {n : Int} (hn : Cov (c :: r) n) : c.1 ≤ n := by
  obtain ⟨p, hp, h1, h2⟩ := hn
  rcases List.mem_cons.mp hp with rfl | hp
  · exact h1
  · have := canon_above h ⟨p, hp, h1, h2⟩
    have := h.1 c List.mem_cons_self
    omega
theorem canon_eq : ∀ {xs ys : List Pr}, Canon xs → Canon ys → (∀ n, Cov xs n ↔ Cov ys n) → xs = ys
  | [], [], _, _, _ => rfl
  | [], c :: r, _, hy, h => by
    have hc := hy.1 c List.mem_cons_self
    obtain ⟨p, hp, _⟩ := (h c.1).mpr ⟨c, List.mem_cons_self, by omega, hc⟩
    cases hp
  | c :: r, [], hx, _, h => by
    have hc := hx.1 c List.mem_cons_self
    obtain ⟨p, hp, _⟩ := (h c.1).mp ⟨c, List.mem_cons_self, by omega, hc⟩
    cases hp
  | (a, b) :: r, (c, d) :: t, hx, hy, h => by
    have hab : a < b := hx.1 (a, b) List.mem_cons_self
    have hcd : c < d := hy.1 (c, d) List.mem_cons_self
    have in1 : ∀ n, a ≤ n → n < b → Cov ((a, b) :: r) n := fun n h1 h2 => ⟨(a, b), List.mem_cons_self, h1, h2⟩
    have in2 : ∀ n, c ≤ n → n < d → Cov ((c, d) :: t) n := fun n h1 h2 => ⟨(c, d), List.mem_cons_self, h1, h2⟩
    have e1 : a = c := by
      have h1 := canon_below hy ((h a).mp (in1 a (by omega) hab))
      have h2 := canon_below hx ((h c).mpr (in2 c (by omega) hcd))
      dsimp only at h1 h2
      omega
    subst e1
    have out1 : ¬ Cov ((a, b) :: r) b := fun ⟨p, hp, h1, h2⟩ => by
      rcases List.mem_cons.mp hp with rfl | hp
      · dsimp only at h2; omega
      · have := canon_above hx ⟨p, hp, h1, h2⟩
        dsimp only at this; omega
    have out2 : ¬ Cov ((a, d) :: t) d := fun ⟨p, hp, h1, h2⟩ => by
      rcases List.mem_cons.mp hp with rfl | hp
      · dsimp only at h2; omega
      · have := canon_above hy ⟨p, hp, h1, h2⟩
        dsimp only at this; omega
    have e2 : b = d := by
      rcases Int.lt_trichotomy b d with q | q | q
      · exact absurd ((h b).mpr (in2 b (by omega) q)) out1
      · exact q
      · exact absurd ((h d).mp (in1 d (by omega) q)) out2
    subst e2
    have ih := canon_eq (canon_tail hx) (canon_tail hy) fun n => by
      constructor
      · intro hn
        have ab := canon_above hx hn
        obtain ⟨p, hp, h1, h2⟩ := hn
        obtain ⟨p', hp', h1', h2'⟩ := (h n).mp ⟨p, List.mem_cons_of_mem _ hp, h1, h2⟩
        rcases List.mem_cons.mp hp' with rfl | hp'
        · dsimp only at h2' ab; omega
        · exact ⟨p', hp', h1', h2'⟩
      · intro hn
        have ab := canon_above hy hn
        obtain ⟨p, hp, h1, h2⟩ := hn
        obtain ⟨p', hp', h1', h2'⟩ := (h n).mpr ⟨p, List.mem_cons_of_mem _ hp, h1, h2⟩
        rcases List.mem_cons.mp hp' with rfl | hp'
        · dsimp only at h2' ab; omega
        · exact ⟨p', hp', h1', h2'⟩
    rw [ih]
end K53
end

/-! K53Math2 -/
section
namespace K53

/-! ### least, greatest, sorted -/
def minL : List Int → Int
  | [] => 0
  | x :: r => r.foldl min x
theorem foldl_min (r : List Int) (x : Int) : r.foldl min x ≤ x ∧ (∀ y ∈ r, r.foldl min x ≤ y) ∧ (r.foldl min x = x ∨ r.foldl min x ∈ r) := by
  induction r generalizing x with
  | nil => simp
  | cons a r ih =>
    obtain ⟨h1, h2, h3⟩ := ih (min x a)
    simp only [List.foldl_cons]
    refine ⟨by omega, fun y hy => ?_, ?_⟩
    · rcases List.mem_cons.mp hy with rfl | hy
      · omega
      · exact h2 y hy
    · rcases h3 with h | h
      · by_cases q : x ≤ a
        · left; omega
        · right; rw [h, show min x a = a by omega]; exact List.mem_cons_self
      · exact .inr (List.mem_cons_of_mem _ h)
theorem minL_mem {xs : List Int} (h : xs ≠ []) : minL xs ∈ xs := by
  cases xs with
  | nil => exact absurd rfl h
  | cons x r =>
    rcases (foldl_min r x).2.2 with q | q
    · show r.foldl min x ∈ _; rw [q]; exact List.mem_cons_self
    · exact List.mem_cons_of_mem _ q
theorem minL_le {xs : List Int} {x : Int} (h : x ∈ xs) : minL xs ≤ x := by
  cases xs with
  | nil => cases h
  | cons a r =>
    rcases List.mem_cons.mp h with rfl | h
    · exact (foldl_min r x).1
    · exact (foldl_min r a).2.1 x h
theorem minL_eq {xs : List Int} {m : Int} (h : m ∈ xs) (hl : ∀ x ∈ xs, m ≤ x) : m = minL xs := by
  have h1 := minL_le h
  have h2 := hl _ (minL_mem (List.ne_nil_of_mem h))
  omega
def maxL : List Int → Int
  | [] => 0
  | x :: r => r.foldl max x
theorem foldl_max (r : List Int) (x : Int) : x ≤ r.foldl max x ∧ (∀ y ∈ r, y ≤ r.foldl max x) ∧ (r.foldl max x = x ∨ r.foldl max x ∈ r) := by
  induction r generalizing x with
  | nil => simp
  | cons a r ih =>
    obtain ⟨h1, h2, h3⟩ := ih (max x a)
    simp only [List.foldl_cons]
    refine ⟨by omega, fun y hy => ?_, ?_⟩
    · rcases List.mem_cons.mp hy with rfl | hy
      · omega
      · exact h2 y hy
    · rcases h3 with h | h
      · by_cases q : a ≤ x
        · left; omega
        · right; rw [h, show max x a = a by omega]; exact List.mem_cons_self
      · exact .inr (List.mem_cons_of_mem _ h)
theorem maxL_mem {xs : List Int} (h : xs ≠ []) : maxL xs ∈ xs := by
  cases xs with
  | nil => exact absurd rfl h
  | cons x r =>
    rcases (foldl_max r x).2.2 with q | q
    · show r.foldl max x ∈ _; rw [q]; exact List.mem_cons_self
    · exact List.mem_cons_of_mem _ q
theorem le_maxL {xs : List Int} {x : Int} (h : x ∈ xs) : x ≤ maxL xs := by
  cases xs with
  | nil => cases h
  | cons a r =>
    rcases List.mem_cons.mp h with rfl | h
    · exact (foldl_max r x).1
    · exact (foldl_max r a).2.1 x h
theorem maxL_eq {xs : List Int} {m : Int} (h : m ∈ xs) (hl : ∀ x ∈ xs, x ≤ m) : m = maxL xs := by
  have h1 := le_maxL h
  have h2 := hl _ (maxL_mem (List.ne_nil_of_mem h))
  omega

def sortI (xs : List Int) : List Int := xs.mergeSort (fun a b => decide (a ≤ b))
theorem sortI_perm (xs : List Int) : (sortI xs).Perm xs := List.mergeSort_perm _ _
theorem sortI_up (xs : List Int) : (sortI xs).Pairwise (· ≤ ·) := by
  have := List.pairwise_mergeSort (le := fun (a b : Int) => decide (a ≤ b)) (fun a b c h1 h2 => by simp at *; omega) (fun a b => by simp; omega) xs
  exact this.imp fun h => by simpa using h
theorem sortI_eq {xs ys : List Int} (hp : ys.Perm xs) (hs : ys.Pairwise (· ≤ ·)) : ys = sortI xs :=
  List.Perm.eq_of_pairwise (le := (· ≤ ·)) (fun a b _ _ h1 h2 => Int.le_antisymm h1 h2) hs (sortI_up xs) (hp.trans (sortI_perm xs).symm)

/-! ### pairs by their lows -/
def ranks (ps : List Pr) : List Int := ps.mapIdx fun i p => p.1 * (ps.length : Int) + (i : Int)
def byLows (ps : List Pr) : List Pr := (sortI (ranks ps)).map fun r => ps.getD (r.fmod (ps.length : Int)).toNat (0, 0)
theorem rank_back {ps : List Pr} {r : Int} (h : r ∈ ranks ps) : ∃ (i : Nat) (hi : i < ps.length), r = (ps[i]).1 * (ps.length : Int) + i ∧ ps.getD (r.fmod (ps.length : Int)).toNat (0, 0) = ps[i] := by
  obtain ⟨i, hi, rfl⟩ := List.mem_mapIdx.mp h
  refine ⟨i, hi, rfl, ?_⟩
  have e : ((ps[i]).1 * (ps.length : Int) + (i : Int)).fmod (ps.length : Int) = i := by
    rw [Int.fmod_eq_emod_of_nonneg _ (by omega), Int.add_comm, Int.add_mul_emod_self_right]
    exact Int.emod_eq_of_lt (by omega) (by omega)
  rw [e]
  simp [hi]
theorem byLows_perm (ps : List Pr) : (byLows ps).Perm ps := by
  have h1 : (byLows ps).Perm ((ranks ps).map fun r => ps.getD (r.fmod (ps.length : Int)).toNat (0, 0)) := (sortI_perm _).map _
  have h2 : ((ranks ps).map fun r => ps.getD (r.fmod (ps.length : Int)).toNat (0, 0)) = ps := by
    apply List.ext_getElem
    · simp [ranks]
    · intro i h1 h2
      rw [List.getElem_map]
      have hi : i < (ranks ps).length := by simpa [ranks] using h2
      have e : (ranks ps)[i] = (ps[i]).1 * (ps.length : Int) + (i : Int) := by simp [ranks]
      rw [e]
      have e : ((ps[i]).1 * (ps.length : Int) + (i : Int)).fmod (ps.length : Int) = i := by
        rw [Int.fmod_eq_emod_of_nonneg _ (by omega), Int.add_comm, Int.add_mul_emod_self_right]
        exact Int.emod_eq_of_lt (by omega) (by omega)
      rw [e]
      simp [h2]
  rw [h2] at h1
  exact h1
theorem byLows_lows (ps : List Pr) : Lows (byLows ps) := by
  unfold Lows byLows
  rw [List.pairwise_map]
  refine (sortI_up (ranks ps)).imp_of_mem fun {a b} ha hb hab => ?_
  obtain ⟨i, hi, e1, e2⟩ := rank_back ((sortI_perm _).mem_iff.mp ha)
  obtain ⟨j, hj, e3, e4⟩ := rank_back ((sortI_perm _).mem_iff.mp hb)
  rw [e2, e4]
  rw [e1, e3] at hab
  rcases Int.lt_or_le (ps[j]).1 (ps[i]).1 with h | h
  · exfalso
    have h1 : ((ps[j]).1 + 1) * (ps.length : Int) ≤ (ps[i]).1 * (ps.length : Int) := Int.mul_le_mul_of_nonneg_right (by omega) (by omega)
    rw [Int.add_mul, Int.one_mul] at h1
    omega
  · exact h
theorem full_perm {xs ys : List Pr} (h : xs.Perm ys) (hf : Full ys) : Full xs := fun p hp => hf p (h.mem_iff.mp hp)
theorem cov_perm {xs ys : List Pr} (h : xs.Perm ys) (n : Int) : Cov xs n ↔ Cov ys n :=
  ⟨fun ⟨p, hp, q⟩ => ⟨p, h.mem_iff.mp hp, q⟩, fun ⟨p, hp, q⟩ => ⟨p, h.mem_iff.mpr hp, q⟩⟩
/-- the told row of some pairs -/
def told (ps : List Pr) : List Pr := join (byLows ps)
theorem told_cov {ps : List Pr} (hf : Full ps) (n : Int) : Cov (told ps) n ↔ Cov ps n := by
  unfold told
  rw [join_cov (full_perm (byLows_perm ps) hf) (byLows_lows ps), cov_perm (byLows_perm ps)]
theorem told_canon {ps : List Pr} (hf : Full ps) : Canon (told ps) := join_canon (full_perm (byLows_perm ps) hf) (byLows_lows ps)

/-- the law's own joining -/
def highAt (ps : List Pr) (l : Int) : Int := maxL ((ps.filter fun p => decide (p.1 = l)).map (·.2))
def joinL (ps : List Pr) : List Pr := join ((sortI (ps.map (·.1))).map fun l => (l, highAt ps l))
theorem highAt_mem {ps : List Pr} {p : Pr} (h : p ∈ ps) : (p.1, highAt ps p.1) ∈ ps ∧ p.2 ≤ highAt ps p.1 := by
  have hm : p.2 ∈ ((ps.filter fun q => decide (q.1 = p.1)).map (·.2)) := List.mem_map.mpr ⟨p, List.mem_filter.mpr ⟨h, by simp⟩, rfl⟩
  refine ⟨?_, le_maxL hm⟩
  obtain ⟨q, hq, e⟩ := List.mem_map.mp (maxL_mem (List.ne_nil_of_mem hm))
  obtain ⟨h1, h2⟩ := List.mem_filter.mp hq
  have h2 : q.1 = p.1 := by simpa using h2
  have : (p.1, highAt ps p.1) = q := by
    unfold highAt
    rw [← e, ← h2]
  rw [this]
  exact h1
theorem joinL_eq {ps : List Pr} (hf : Full ps) : joinL ps = told ps := by
  have hmem : ∀ q ∈ (sortI (ps.map (·.1))).map (fun l => (l, highAt ps l)), q ∈ ps := fun q hq => by
    obtain ⟨l, hl, rfl⟩ := List.mem_map.mp hq
    obtain ⟨p, hp, rfl⟩ := List.mem_map.mp ((sortI_perm _).mem_iff.mp hl)
    exact (highAt_mem hp).1
  have hf' : Full ((sortI (ps.map (·.1))).map fun l => (l, highAt ps l)) := fun q hq => hf q (hmem q hq)
  have hl' : Lows ((sortI (ps.map (·.1))).map fun l => (l, highAt ps l)) := by
    unfold Lows
    rw [List.pairwise_map]
    exact sortI_up _
  refine canon_eq (join_canon hf' hl') (told_canon hf) fun n => ?_
  rw [told_cov hf]
  unfold joinL
  rw [join_cov hf' hl']
  constructor
  · rintro ⟨q, hq, h⟩
    exact ⟨q, hmem q hq, h⟩
  · rintro ⟨p, hp, h1, h2⟩
    have := (highAt_mem hp).2
    exact ⟨(p.1, highAt ps p.1), List.mem_map.mpr ⟨p.1, (sortI_perm _).mem_iff.mpr (List.mem_map.mpr ⟨p, hp, rfl⟩), rfl⟩, h1, by show n < highAt ps p.1; omega⟩
theorem told_same {ps : List Pr} (h : ps ≠ []) (he : ∀ p ∈ ps, p = (0, 1)) : told ps = [(0, 1)] := by
  have hf : Full ps := fun p hp => by rw [he p hp]; decide
  refine canon_eq (told_canon hf) ⟨fun q hq => ?_, by simp⟩ fun n => ?_
  · have : q = (0, 1) := by simpa using hq
    rw [this]; decide
  · rw [told_cov hf]
    constructor
    · rintro ⟨p, hp, q⟩
      exact ⟨(0, 1), by simp, by rw [← he p hp]; exact q⟩
    · rintro ⟨p, hp, q⟩
      obtain ⟨x, r, rfl⟩ := List.exists_cons_of_ne_nil h
      have : p = (0, 1) := by simpa using hp
      subst this
      exact ⟨x, List.mem_cons_self, by rw [he x List.mem_cons_self]; exact q⟩

/-! ### the strands that the program tells -/
def rnd (N : Int) (k : Int) : Int := if k = 0 then 1 else N
def least (row : List Pr) : Int := minL (row.map (·.1))
def rowPairs (v : Cell) (N : Int) (row : List Pr) : List Pr :=
  if v = (0, 0) then row.map fun _ => (0, 1) else row.map fun e => (e.1 - least row, e.1 - least row + rnd N e.2)
def firstOf (cell v f : Cell) (row : List Pr) : Cell := (cell.1 + f.1 + least row * v.1, cell.2 + f.2 + least row * v.2)
def lastOf (os : List Cell) : Cell := os.getD (os.length - 1) (0, 0)
def lastStep (os : List Cell) (N : Int) : Nat := if N > 0 then os.length else 1
def rowsOf (os : List Cell) (N : Int) : Rows := rowsTo os (lastOf os) (lastStep os N)
def strandOf (cell v : Cell) (N : Int) (fr : Cell × List Pr) : Cell × List Pr := (firstOf cell v fr.1 fr.2, told (rowPairs v N fr.2))
def strandsP (cell : Cell) (os : List Cell) (N : Int) : List (Cell × List Pr) := (rowsOf os N).map (strandOf cell (lastOf os) N)

theorem rowPairs_full {v : Cell} {N : Int} {row : List Pr} (h : ∀ e ∈ row, e.2 = 0 ∨ 0 < N) : Full (rowPairs v N row) := by
  intro p hp
  unfold rowPairs at hp
  split at hp
  · obtain ⟨e, _, rfl⟩ := List.mem_map.mp hp
    decide
  · obtain ⟨e, he, rfl⟩ := List.mem_map.mp hp
    dsimp only
    unfold rnd
    rcases h e he with q | q
    · rw [if_pos q]; omega
    · split <;> omega
theorem rows_steps {os : List Cell} {N : Int} {f : Cell} {row : List Pr} (h : (f, row) ∈ rowsOf os N) : ∀ e ∈ row, (0 ≤ e.2 ∧ e.2 < lastStep os N) ∧ (e.2 = 0 ∨ 0 < N) := by
  intro e he
  obtain ⟨k, hk, e1, _⟩ := (rows_ok os (lastOf os) (lastStep os N)).of f row h e he
  refine ⟨⟨by omega, by omega⟩, ?_⟩
  unfold lastStep at hk
  split at hk <;> omega
theorem rowPairs_ne {v : Cell} {N : Int} {row : List Pr} (h : row ≠ []) : rowPairs v N row ≠ [] := by
  unfold rowPairs
  split <;> simpa using h

/-! ### in order: by y, then x -/
section
variable {α : Type}
def dedup [DecidableEq α] (xs : List α) : List α := xs.foldl (fun acc x => if x ∈ acc then acc else acc ++ [x]) []
theorem dedup_go [DecidableEq α] (xs acc : List α) : acc.Nodup → (xs.foldl (fun acc x => if x ∈ acc then acc else acc ++ [x]) acc).Nodup ∧ ∀ y, y ∈ xs.foldl (fun acc x => if x ∈ acc then acc else acc ++ [x]) acc ↔ y ∈ acc ∨ y ∈ xs := by
  induction xs generalizing acc with
  | nil => intro h; exact ⟨h, fun y => by simp⟩
  | cons x r ih =>
    intro h
    simp only [List.foldl_cons]
    by_cases hx : x ∈ acc
    · rw [if_pos hx]
      obtain ⟨h1, h2⟩ := ih acc h
      refine ⟨h1, fun y => ?_⟩
      rw [h2, List.mem_cons]
      constructor
      · rintro (q | q)
        · exact .inl q
        · exact .inr (.inr q)
      · rintro (q | rfl | q)
        · exact .inl q
        · exact .inl hx
        · exact .inr q
    · rw [if_neg hx]
      have hn : (acc ++ [x]).Nodup := by
        rw [List.nodup_append]
        refine ⟨h, by simp, ?_⟩
        intro a ha b hb
        have : b = x := by simpa using hb
        subst this
        rintro rfl
        exact hx ha
      obtain ⟨h1, h2⟩ := ih _ hn
      refine ⟨h1, fun y => ?_⟩
      rw [h2, List.mem_cons, List.mem_append, List.mem_singleton, or_assoc]
theorem dedup_nodup [DecidableEq α] (xs : List α) : (dedup xs).Nodup := (dedup_go xs [] List.nodup_nil).1
theorem mem_dedup [DecidableEq α] {xs : List α} {y : α} : y ∈ dedup xs ↔ y ∈ xs := by
  rw [dedup, (dedup_go xs [] List.nodup_nil).2]
  simp
theorem dedup_snoc [DecidableEq α] (xs : List α) (x : α) : dedup (xs ++ [x]) = if x ∈ dedup xs then dedup xs else dedup xs ++ [x] := by
  unfold dedup
  rw [List.foldl_append]
  rfl
theorem dedup_of_nodup [DecidableEq α] (xs : List α) (h : xs.Nodup) : dedup xs = xs := by
  have key : ∀ (xs acc : List α), (acc ++ xs).Nodup → xs.foldl (fun acc x => if x ∈ acc then acc else acc ++ [x]) acc = acc ++ xs := by
    intro xs
    induction xs with
    | nil => intro acc _; simp
    | cons x r ih =>
      intro acc h
      have hx : x ∉ acc := fun hx => by
        rw [List.nodup_append] at h
        exact h.2.2 x hx x List.mem_cons_self rfl
      simp only [List.foldl_cons]
      rw [if_neg hx, ih _ (by simpa using h)]
      simp
  exact key xs [] (by simpa using h)
theorem dedup_map {β : Type} [DecidableEq α] [DecidableEq β] (f : α → β) (hf : ∀ a b, f a = f b → a = b) (xs : List α) : dedup (xs.map f) = (dedup xs).map f := by
  have key : ∀ (xs acc : List α), (xs.map f).foldl (fun acc x => if x ∈ acc then acc else acc ++ [x]) (acc.map f) = (xs.foldl (fun acc x => if x ∈ acc then acc else acc ++ [x]) acc).map f := by
    intro xs
    induction xs with
    | nil => intro acc; rfl
    | cons x r ih =>
      intro acc
      simp only [List.map_cons, List.foldl_cons]
      have : f x ∈ acc.map f ↔ x ∈ acc := by
        constructor
        · intro h
          obtain ⟨a, ha, e⟩ := List.mem_map.mp h
          rwa [← hf _ _ e]
        · exact fun h => List.mem_map.mpr ⟨x, h, rfl⟩
      by_cases hx : x ∈ acc
      · rw [if_pos hx, if_pos (this.mpr hx)]
        exact ih acc
      · rw [if_neg hx, if_neg (fun h => hx (this.mp h))]
        have := ih (acc ++ [x])
        rwa [List.map_append] at this
  exact key xs []

variable (L : List (Cell × α))
def ysOf : List Int := sortI (dedup (L.map (·.1.2)))
def xsOf (y : Int) : List Int := sortI ((L.filter fun e => decide (e.1.2 = y)).map (·.1.1))
def at_ (c : Cell) : List (Cell × α) := L.filter fun e => decide (e.1 = c)
def inOrder : List (Cell × α) := (ysOf L).flatMap fun y => (xsOf L y).flatMap fun x => at_ L (x, y)

theorem part_perm {κ : Type} [DecidableEq κ] (key : (Cell × α) → κ) : ∀ (ks : List κ) (L : List (Cell × α)), ks.Nodup → (∀ e ∈ L, key e ∈ ks) → (ks.flatMap fun k => L.filter fun e => decide (key e = k)).Perm L
  | [], L, _, h => by
    cases L with
    | nil => simp
    | cons e r => exact absurd (h e List.mem_cons_self) (by simp)
  | k :: ks, L, nd, h => by
    obtain ⟨n1, n2⟩ := List.nodup_cons.mp nd
    have ih := part_perm key ks (L.filter fun e => !decide (key e = k)) n2 fun e he => by
      obtain ⟨h1, h2⟩ := List.mem_filter.mp he
      rcases List.mem_cons.mp (h e h1) with q | q
      · simp [q] at h2
      · exact q
    have e : (ks.flatMap fun k' => (L.filter fun e => !decide (key e = k)).filter fun e => decide (key e = k')) = ks.flatMap fun k' => L.filter fun e => decide (key e = k') := by
      rw [List.flatMap_def, List.flatMap_def]
      congr 1
      apply List.map_congr_left
      intro k' hk'
      rw [List.filter_filter]
      apply List.filter_congr
      intro x _
      by_cases q : key x = k'
      · have : ¬ k' = k := fun z => n1 (z ▸ hk')
        simp [q, this]
      · simp [q]
    rw [e] at ih
    rw [List.flatMap_cons]
    exact ((List.Perm.refl _).append ih).trans (List.filter_append_perm _ L)
theorem flatMap_perm {β γ : Type} (l : List β) (f g : β → List γ) (h : ∀ b ∈ l, (f b).Perm (g b)) : (l.flatMap f).Perm (l.flatMap g) := by
  induction l with
  | nil => simp
  | cons a l ih =>
    rw [List.flatMap_cons, List.flatMap_cons]
    exact (h a List.mem_cons_self).append (ih fun b hb => h b (List.mem_cons_of_mem _ hb))
theorem ysOf_nodup : (ysOf L).Nodup := (dedup_nodup _).perm (sortI_perm _).symm
theorem mem_ysOf {y : Int} : y ∈ ysOf L ↔ ∃ e ∈ L, e.1.2 = y := by
  unfold ysOf
  rw [(sortI_perm _).mem_iff, mem_dedup, List.mem_map]
theorem mem_xsOf {x y : Int} : x ∈ xsOf L y ↔ ∃ e ∈ L, e.1 = (x, y) := by
  unfold xsOf
  rw [(sortI_perm _).mem_iff, List.mem_map]
  constructor
  · rintro ⟨e, he, rfl⟩
    obtain ⟨h1, h2⟩ := List.mem_filter.mp he
    have h2 : e.1.2 = y := by simpa using h2
    exact ⟨e, h1, by rw [← h2]⟩
  · rintro ⟨e, he, h⟩
    exact ⟨e, List.mem_filter.mpr ⟨he, by simp [h]⟩, by rw [h]⟩
theorem xsOf_nodup (nd : (L.map (·.1)).Nodup) (y : Int) : (xsOf L y).Nodup := by
  refine List.Nodup.perm ?_ (sortI_perm _).symm
  have h1 : ((L.filter fun e => decide (e.1.2 = y)).map (·.1)).Nodup := nd.sublist (List.Sublist.map _ List.filter_sublist)
  unfold List.Nodup at h1 ⊢
  rw [List.pairwise_map] at h1 ⊢
  refine h1.imp_of_mem fun {a b} ha hb hab => ?_
  have ha := (List.mem_filter.mp ha).2
  have hb := (List.mem_filter.mp hb).2
  simp only [decide_eq_true_eq] at ha hb
  intro q
  exact hab (Prod.ext q (ha.trans hb.symm))
theorem inOrder_perm (nd : (L.map (·.1)).Nodup) : (inOrder L).Perm L := by
  refine List.Perm.trans (flatMap_perm _ _ (fun y => L.filter fun e => decide (e.1.2 = y)) fun y hy => ?_) (part_perm (fun e => e.1.2) _ L (ysOf_nodup L) fun e he => (mem_ysOf L).mpr ⟨e, he, rfl⟩)
  have h := part_perm (fun e : Cell × α => e.1.1) (xsOf L y) (L.filter fun e => decide (e.1.2 = y)) (xsOf_nodup L nd y) fun e he => by
    obtain ⟨h1, h2⟩ := List.mem_filter.mp he
    have h2 : e.1.2 = y := by simpa using h2
    exact (mem_xsOf L).mpr ⟨e, h1, by rw [← h2]⟩
  refine List.Perm.trans (List.Perm.of_eq ?_) h
  rw [List.flatMap_def, List.flatMap_def]
  congr 1
  apply List.map_congr_left
  intro x _
  unfold at_
  rw [List.filter_filter]
  apply List.filter_congr
  intro e _
  by_cases q : e.1 = (x, y)
  · simp [q]
  · have : ¬ (e.1.1 = x ∧ e.1.2 = y) := fun ⟨a, b⟩ => q (Prod.ext a b)
    simp only [q, decide_false]
    by_cases a : e.1.1 = x
    · have b : ¬ e.1.2 = y := fun b => this ⟨a, b⟩
      simp [a, b]
    · simp [a]
/-- at a cell that comes once stands one pair -/
theorem at_one {L : List (Cell × α)} (nd : (L.map (·.1)).Nodup) {c : Cell} {a : α} (h : (c, a) ∈ L) : at_ L c = [(c, a)] := by
  induction L with
  | nil => cases h
  | cons e r ih =>
    obtain ⟨n1, n2⟩ := List.nodup_cons.mp (show (e.1 :: r.map (·.1)).Nodup from nd)
    unfold at_
    rw [List.filter_cons]
    rcases List.mem_cons.mp h with rfl | h
    · rw [if_pos (by simp)]
      congr 1
      rw [List.filter_eq_nil_iff]
      intro x hx q
      have q : x.1 = c := by simpa using q
      exact n1 (List.mem_map.mpr ⟨x, hx, q⟩)
    · have : ¬ e.1 = c := fun q => n1 (List.mem_map.mpr ⟨(c, a), h, q.symm⟩)
      rw [if_neg (by simpa using this)]
      exact ih n2 h
end
end K53
end

/-! K53Math3 -/
section
namespace K53

/-! ### the law's lots -/
def apart (a b v : Cell) : Option Int :=
  if (b.1 - a.1) * v.2 ≠ (b.2 - a.2) * v.1 then none
  else if v.1 ≠ 0 then (if (b.1 - a.1).fmod v.1 ≠ 0 then none else some ((b.1 - a.1).fdiv v.1))
  else (if (b.2 - a.2).fmod v.2 ≠ 0 then none else some ((b.2 - a.2).fdiv v.2))
abbrev Lot := List (Cell × Int)
def headOf (l : Lot) : Cell := (l.getD 0 ((0, 0), 0)).1
/-- one more offset: into the first lot that it fits -/
def addLot (v : Cell) : List Lot → Cell × Int → List Lot
  | [], o => [[o]]
  | l :: r, o => if (apart (headOf l) o.1 v).isSome then (l ++ [o]) :: r else l :: addLot v r o
def lotsTo (os : List Cell) (v : Cell) : Nat → List Lot
  | 0 => []
  | n + 1 => addLot v (lotsTo os v n) (os.getD n (0, 0), (n : Int))
def lotSteps (v : Cell) (l : Lot) : List Int := l.map fun x => (apart (headOf l) x.1 v).getD 0
def lotLeast (v : Cell) (l : Lot) : Int := minL (lotSteps v l)
def lotFirst (v : Cell) (l : Lot) : Cell := ((l.filter fun x => decide ((apart (headOf l) x.1 v).getD 0 = lotLeast v l)).getD 0 ((0, 0), 0)).1
def lotPairs (v : Cell) (N : Int) (l : Lot) : List Pr := l.map fun x => ((apart (headOf l) x.1 v).getD 0 - lotLeast v l, (apart (headOf l) x.1 v).getD 0 - lotLeast v l + (if x.2 = 0 then 1 else N))
def lotStrand (v : Cell) (N : Int) (l : Lot) : Cell × List Pr := (lotFirst v l, joinL (lotPairs v N l))

def at3 (cell v f : Cell) (m : Int) : Cell := plus cell (plus f (mulC m v))
def toLot (cell v : Cell) (fr : Cell × List Pr) : Lot := fr.2.map fun e => (at3 cell v fr.1 e.1, e.2)

theorem apart_same {v : Cell} (h : v ≠ (0, 0)) (cell f : Cell) (a b : Int) : apart (at3 cell v f a) (at3 cell v f b) v = some (b - a) := by
  have e1 : (at3 cell v f b).1 - (at3 cell v f a).1 = (b - a) * v.1 := by
    simp only [at3, plus, mulC, Int.sub_mul]; omega
  have e2 : (at3 cell v f b).2 - (at3 cell v f a).2 = (b - a) * v.2 := by
    simp only [at3, plus, mulC, Int.sub_mul]; omega
  unfold apart
  rw [e1, e2]
  have e3 : (b - a) * v.1 * v.2 = (b - a) * v.2 * v.1 := by
    rw [Int.mul_assoc, Int.mul_assoc, Int.mul_comm v.1]
  rw [if_neg (by simp [e3])]
  by_cases h1 : v.1 = 0
  · have h2 : v.2 ≠ 0 := (vne h).resolve_left fun q => q h1
    rw [if_neg (by simpa using h1), if_neg (by simp [Int.mul_fmod_left]), Int.mul_fdiv_cancel _ h2]
  · rw [if_pos h1, if_neg (by simp [Int.mul_fmod_left]), Int.mul_fdiv_cancel _ h1]
theorem apart_none {v : Cell} (h : v ≠ (0, 0)) (cell : Cell) {f g : Cell} (hf : Normal v f) (hg : Normal v g) (hfg : f ≠ g) (a b : Int) : apart (at3 cell v f a) (at3 cell v g b) v = none := by
  have e1 : (at3 cell v g b).1 - (at3 cell v f a).1 = (g.1 - f.1) + (b - a) * v.1 := by
    simp only [at3, plus, mulC, Int.sub_mul]; omega
  have e2 : (at3 cell v g b).2 - (at3 cell v f a).2 = (g.2 - f.2) + (b - a) * v.2 := by
    simp only [at3, plus, mulC, Int.sub_mul]; omega
  unfold apart
  rw [e1, e2]
  by_cases hc : ((g.1 - f.1) + (b - a) * v.1) * v.2 = ((g.2 - f.2) + (b - a) * v.2) * v.1
  · rw [if_neg (by simpa using hc)]
    have hc' : (g.1 - f.1) * v.2 = (g.2 - f.2) * v.1 := by
      rw [Int.add_mul, Int.add_mul] at hc
      have e3 : (b - a) * v.1 * v.2 = (b - a) * v.2 * v.1 := by
        rw [Int.mul_assoc, Int.mul_assoc, Int.mul_comm v.1]
      omega
    have nf := hf h
    have ng := hg h
    unfold timesIn at nf ng
    by_cases h1 : v.1 = 0
    · have h2 : v.2 ≠ 0 := (vne h).resolve_left fun q => q h1
      rw [if_neg (by simpa using h1)] at nf ng ⊢
      rw [if_pos]
      intro q
      apply hfg
      rw [h1, Int.mul_zero] at hc'
      have x0 : g.1 - f.1 = 0 := (Int.mul_eq_zero.mp hc').resolve_right h2
      obtain ⟨k, hk⟩ := Int.dvd_of_fmod_eq_zero q
      have e3 : g.2 = f.2 + (k - (b - a)) * v.2 := by
        rw [Int.sub_mul, Int.mul_comm k]; omega
      rw [e3, Int.add_mul_fdiv_right _ _ h2, nf] at ng
      have e4 : k - (b - a) = 0 := by omega
      rw [e4] at e3
      exact Prod.ext (by omega) (by omega)
    · rw [if_pos h1] at nf ng ⊢
      rw [if_pos]
      intro q
      apply hfg
      obtain ⟨k, hk⟩ := Int.dvd_of_fmod_eq_zero q
      have e3 : g.1 = f.1 + (k - (b - a)) * v.1 := by
        rw [Int.sub_mul, Int.mul_comm k]; omega
      rw [e3, Int.add_mul_fdiv_right _ _ h1, nf] at ng
      have e4 : k - (b - a) = 0 := by omega
      rw [e4] at e3
      have x0 : g.1 - f.1 = 0 := by omega
      rw [x0, Int.zero_mul] at hc'
      have y0 : g.2 - f.2 = 0 := (Int.mul_eq_zero.mp hc'.symm).resolve_right h1
      exact Prod.ext (by omega) (by omega)
  · rw [if_pos hc]

theorem head_toLot {cell v f : Cell} {e : Pr} {row : List Pr} : headOf (toLot cell v (f, e :: row)) = at3 cell v f e.1 := rfl
theorem addLot_rows {v : Cell} (h : v ≠ (0, 0)) (cell : Cell) {f : Cell} (hf : Normal v f) (m k : Int) : ∀ (r : Rows), (∀ g row, (g, row) ∈ r → row ≠ [] ∧ Normal v g) →
    addLot v (r.map (toLot cell v)) (at3 cell v f m, k) = (addRow r f (m, k)).map (toLot cell v)
  | [], _ => rfl
  | (g, row) :: r, hr => by
    obtain ⟨h1, h2⟩ := hr g row List.mem_cons_self
    obtain ⟨e, t, rfl⟩ := List.exists_cons_of_ne_nil h1
    have ih := addLot_rows h cell hf m k r fun g row q => hr g row (List.mem_cons_of_mem _ q)
    unfold addRow
    rw [List.map_cons]
    unfold addLot
    rw [head_toLot]
    by_cases hg : g = f
    · subst hg
      rw [apart_same h, if_pos rfl, if_pos (show (some (m - e.1)).isSome = true from rfl), List.map_cons]
      congr 1
      simp [toLot]
    · rw [apart_none h cell h2 hf hg, if_neg (by simp), if_neg hg, List.map_cons, ih]
theorem rows_normal {os : List Cell} {v : Cell} {n : Nat} {g : Cell} {row : List Pr} (h : (g, row) ∈ rowsTo os v n) : Normal v g := by
  obtain ⟨e, t, rfl⟩ := List.exists_cons_of_ne_nil ((rows_ok os v n).ne _ _ h)
  obtain ⟨k, _, _, q⟩ := (rows_ok os v n).of _ _ h e List.mem_cons_self
  have := foot_normal (os.getD k (0, 0)) v
  rwa [q] at this
theorem lots_rows {v : Cell} (h : v ≠ (0, 0)) (cell : Cell) (os : List Cell) : ∀ n, n ≤ os.length → lotsTo (os.map (plus cell)) v n = (rowsTo os v n).map (toLot cell v)
  | 0, _ => rfl
  | n + 1, hn => by
    have ih := lots_rows h cell os n (by omega)
    unfold lotsTo rowsTo
    rw [ih]
    have e : (os.map (plus cell)).getD n (0, 0) = at3 cell v (footOf (os.getD n (0, 0)) v).1 (footOf (os.getD n (0, 0)) v).2 := by
      unfold at3
      rw [← foot_back]
      simp [List.getD, show n < os.length by omega]
    rw [e]
    exact addLot_rows h cell (foot_normal _ _) _ _ _ fun g row q => ⟨(rows_ok os v n).ne _ _ q, rows_normal q⟩

theorem lot_step {v : Cell} (h : v ≠ (0, 0)) (cell f : Cell) (e0 : Pr) (t : List Pr) (e : Pr) : (apart (headOf (toLot cell v (f, e0 :: t))) (at3 cell v f e.1) v) = some (e.1 - e0.1) := by
  rw [head_toLot, apart_same h]
theorem minL_sub (xs : List Int) (h : xs ≠ []) (c : Int) : minL (xs.map (· - c)) = minL xs - c := by
  refine (minL_eq (List.mem_map.mpr ⟨_, minL_mem h, rfl⟩) fun x hx => ?_).symm
  obtain ⟨y, hy, rfl⟩ := List.mem_map.mp hx
  have := minL_le hy
  omega
theorem lotLeast_row {v : Cell} (h : v ≠ (0, 0)) (cell f : Cell) (e0 : Pr) (t : List Pr) : lotLeast v (toLot cell v (f, e0 :: t)) = least (e0 :: t) - e0.1 := by
  unfold lotLeast lotSteps least
  rw [← minL_sub _ (by simp) e0.1]
  congr 1
  unfold toLot
  rw [List.map_map, List.map_map]
  apply List.map_congr_left
  intro e _
  show (apart (headOf (toLot cell v (f, e0 :: t))) (at3 cell v f e.1) v).getD 0 = e.1 - e0.1
  rw [lot_step h]
  rfl
theorem lotStrand_row {v : Cell} (h : v ≠ (0, 0)) (cell f : Cell) (N : Int) (row : List Pr) (hr : row ≠ []) (hs : ∀ e ∈ row, e.2 = 0 ∨ 0 < N) : lotStrand v N (toLot cell v (f, row)) = strandOf cell v N (f, row) := by
  obtain ⟨e0, t, rfl⟩ := List.exists_cons_of_ne_nil hr
  have hl := lotLeast_row h cell f e0 t
  have e1 : lotFirst v (toLot cell v (f, e0 :: t)) = firstOf cell v f (e0 :: t) := by
    unfold lotFirst
    rw [hl]
    have hm : least (e0 :: t) ∈ (e0 :: t).map (·.1) := minL_mem (by simp)
    obtain ⟨z, hz, ez⟩ := List.mem_map.mp hm
    have hz' : (at3 cell v f z.1, z.2) ∈ (toLot cell v (f, e0 :: t)).filter fun x => decide ((apart (headOf (toLot cell v (f, e0 :: t))) x.1 v).getD 0 = least (e0 :: t) - e0.1) := by
      refine List.mem_filter.mpr ⟨List.mem_map.mpr ⟨z, hz, rfl⟩, ?_⟩
      rw [lot_step h, ← ez]
      simp
    obtain ⟨x, r, hx⟩ := List.exists_cons_of_ne_nil (List.ne_nil_of_mem hz')
    rw [hx]
    have hx' : x ∈ (toLot cell v (f, e0 :: t)).filter fun x => decide ((apart (headOf (toLot cell v (f, e0 :: t))) x.1 v).getD 0 = least (e0 :: t) - e0.1) := by
      rw [hx]; exact List.mem_cons_self
    obtain ⟨q1, q2⟩ := List.mem_filter.mp hx'
    obtain ⟨e, he, rfl⟩ := List.mem_map.mp q1
    rw [lot_step h] at q2
    have q2 : e.1 - e0.1 = least (e0 :: t) - e0.1 := by simpa using q2
    show at3 cell v f e.1 = _
    rw [show e.1 = least (e0 :: t) by omega]
    unfold at3 plus mulC firstOf
    simp only [Prod.mk.injEq]
    omega
  have e2 : lotPairs v N (toLot cell v (f, e0 :: t)) = rowPairs v N (e0 :: t) := by
    unfold lotPairs rowPairs
    rw [if_neg h, hl]
    show List.map _ (List.map (fun e => (at3 cell v f e.1, e.2)) (e0 :: t)) = _
    rw [List.map_map]
    apply List.map_congr_left
    intro e _
    show ((apart (headOf (toLot cell v (f, e0 :: t))) (at3 cell v f e.1) v).getD 0 - (least (e0 :: t) - e0.1), (apart (headOf (toLot cell v (f, e0 :: t))) (at3 cell v f e.1) v).getD 0 - (least (e0 :: t) - e0.1) + _) = _
    rw [lot_step h]
    show (e.1 - e0.1 - (least (e0 :: t) - e0.1), e.1 - e0.1 - (least (e0 :: t) - e0.1) + _) = _
    rw [show e.1 - e0.1 - (least (e0 :: t) - e0.1) = e.1 - least (e0 :: t) by omega]
    rfl
  unfold lotStrand strandOf
  rw [e1, e2]
  congr 1
  exact joinL_eq (rowPairs_full hs)
/-- every item of a lot lies some number of shifts behind its first -/
theorem lots_apart {v : Cell} (h : v ≠ (0, 0)) (cell : Cell) (os : List Cell) {n : Nat} (hn : n ≤ os.length) {l : Lot} (hl : l ∈ lotsTo (os.map (plus cell)) v n) : l ≠ [] ∧ ∀ x ∈ l, ∃ s, apart (headOf l) x.1 v = some s := by
  rw [lots_rows h cell os n hn] at hl
  obtain ⟨⟨f, row⟩, hfr, rfl⟩ := List.mem_map.mp hl
  obtain ⟨e0, t, rfl⟩ := List.exists_cons_of_ne_nil ((rows_ok os v n).ne _ _ hfr)
  refine ⟨by simp [toLot], fun x hx => ?_⟩
  obtain ⟨e, he, rfl⟩ := List.mem_map.mp hx
  exact ⟨_, lot_step h cell f e0 t e⟩

/-- the law's strands, ahead of the order -/
def dueRow (cell : Cell) (os : List Cell) (N : Int) : List (Cell × List Pr) :=
  if N = 0 then [(cell, [(0, 1)])]
  else if lastOf os = (0, 0) then (dedup (os.map (plus cell))).map fun o => (o, [(0, 1)])
  else (lotsTo (os.map (plus cell)) (lastOf os) os.length).map (lotStrand (lastOf os) N)

theorem keys_vzero (os : List Cell) : ∀ n, n ≤ os.length → (rowsTo os (0, 0) n).map (·.1) = dedup (os.take n)
  | 0, _ => by simp [rowsTo, dedup]
  | n + 1, hn => by
    have ih := keys_vzero os n (by omega)
    unfold rowsTo
    rw [addRow_keys, ih, foot_vzero]
    have e : os.take (n + 1) = os.take n ++ [os.getD n (0, 0)] := by
      rw [List.take_add_one]
      simp [List.getD, show n < os.length by omega]
    rw [e, dedup_snoc]
    by_cases hx : os.getD n (0, 0) ∈ dedup (os.take n)
    · rw [if_pos hx, if_pos hx]
    · rw [if_neg hx, if_neg hx]
theorem plus_inj (c a b : Cell) (h : plus c a = plus c b) : a = b := by
  unfold plus at h
  simp only [Prod.mk.injEq] at h
  exact Prod.ext (by omega) (by omega)
theorem due_strands (cell : Cell) (os : List Cell) (N : Int) (hN : 0 ≤ N) (hz : os.getD 0 (0, 0) = (0, 0)) : dueRow cell os N = strandsP cell os N := by
  unfold dueRow strandsP rowsOf
  by_cases h0 : N = 0
  · subst h0
    rw [if_pos rfl]
    show _ = (rowsTo os (lastOf os) 1).map _
    have e : rowsTo os (lastOf os) 1 = [((0, 0), [(0, 0)])] := by
      show addRow [] (footOf (os.getD 0 (0, 0)) (lastOf os)).1 ((footOf (os.getD 0 (0, 0)) (lastOf os)).2, ((0 : Nat) : Int)) = _
      rw [hz, foot_zero]
      rfl
    rw [e]
    show _ = [(firstOf cell (lastOf os) (0, 0) [(0, 0)], told (rowPairs (lastOf os) 0 [(0, 0)]))]
    have e1 : firstOf cell (lastOf os) (0, 0) [(0, 0)] = cell := by
      show (cell.1 + 0 + 0 * _, cell.2 + 0 + 0 * _) = cell
      simp
    have e2 : told (rowPairs (lastOf os) 0 [(0, 0)]) = [(0, 1)] := by
      refine told_same (rowPairs_ne (by simp)) fun p hp => ?_
      unfold rowPairs at hp
      split at hp
      · simpa using hp
      · have : p = ((0 : Int) - least [(0, 0)], 0 - least [(0, 0)] + rnd 0 0) := by simpa using hp
        rw [this]
        rfl
    rw [e1, e2]
  · have hp : 0 < N := by omega
    have hl : lastStep os N = os.length := by unfold lastStep; rw [if_pos hp]
    rw [if_neg h0, hl]
    by_cases hv : lastOf os = (0, 0)
    · rw [if_pos hv, hv, dedup_map _ (plus_inj cell)]
      have hk := keys_vzero os os.length (Nat.le_refl _)
      rw [List.take_length] at hk
      rw [← hk, List.map_map, List.map_map]
      apply List.map_congr_left
      rintro ⟨f, row⟩ hfr
      have ok := rows_ok os (0, 0) os.length
      show (plus cell f, [(0, 1)]) = (firstOf cell (0, 0) f row, told (rowPairs (0, 0) N row))
      have e2 : told (rowPairs (0, 0) N row) = [(0, 1)] := by
        refine told_same (rowPairs_ne (ok.ne _ _ hfr)) fun p hp => ?_
        unfold rowPairs at hp
        rw [if_pos rfl] at hp
        obtain ⟨_, _, rfl⟩ := List.mem_map.mp hp
        rfl
      rw [e2]
      congr 1
      simp [firstOf, plus]
    · rw [if_neg hv, lots_rows hv cell os _ (Nat.le_refl _), List.map_map]
      apply List.map_congr_left
      rintro ⟨f, row⟩ hfr
      have ok := rows_ok os (lastOf os) os.length
      exact lotStrand_row hv cell f N row (ok.ne _ _ hfr) fun e _ => .inr hp

/-! ### the first cells are unlike -/
theorem least_mem {row : List Pr} (h : row ≠ []) : ∃ e ∈ row, e.1 = least row := by
  have : least row ∈ row.map (·.1) := minL_mem (by simpa using h)
  obtain ⟨e, he, q⟩ := List.mem_map.mp this
  exact ⟨e, he, q⟩
def minus (a b : Cell) : Cell := (a.1 - b.1, a.2 - b.2)
theorem plus_minus (a b : Cell) : plus b (minus a b) = a := by
  unfold plus minus
  exact Prod.ext (by dsimp only; omega) (by dsimp only; omega)
theorem minus_plus (a b : Cell) : minus (plus b a) b = a := by
  unfold plus minus
  exact Prod.ext (by dsimp only; omega) (by dsimp only; omega)
theorem first_at3 (cell v f : Cell) (row : List Pr) : firstOf cell v f row = at3 cell v f (least row) := by
  unfold firstOf at3 plus mulC
  exact Prod.ext (by dsimp only; omega) (by dsimp only; omega)
theorem foot_at3 {v f : Cell} (hf : Normal v f) (cell : Cell) (n : Int) : (footOf (minus (at3 cell v f n) cell) v).1 = f ∧ (v ≠ (0, 0) → (footOf (minus (at3 cell v f n) cell) v).2 = n) := by
  unfold at3
  rw [minus_plus]
  by_cases h : v = (0, 0)
  · subst h
    rw [foot_vzero]
    refine ⟨?_, fun q => absurd rfl q⟩
    simp [plus, mulC]
  · rw [foot_of_normal hf h]
    exact ⟨rfl, fun _ => rfl⟩
theorem strands_nodup (cell : Cell) (os : List Cell) (N : Int) : ((strandsP cell os N).map (·.1)).Nodup := by
  unfold strandsP
  rw [List.map_map]
  have ok := rows_ok os (lastOf os) (lastStep os N)
  have nd := ok.nd
  unfold List.Nodup at nd ⊢
  rw [List.pairwise_map] at nd ⊢
  refine nd.imp_of_mem fun {a b} ha hb hab q => hab ?_
  have q : firstOf cell (lastOf os) a.1 a.2 = firstOf cell (lastOf os) b.1 b.2 := q
  rw [first_at3, first_at3] at q
  have h1 := (foot_at3 (rows_normal (g := a.1) (row := a.2) ha) cell (least a.2)).1
  have h2 := (foot_at3 (rows_normal (g := b.1) (row := b.2) hb) cell (least b.2)).1
  rw [q, h2] at h1
  exact h1.symm

/-! ### the cells -/
def rangeI (lo hi : Int) : List Int := (List.range (hi - lo).toNat).map fun (i : Nat) => lo + (i : Int)
theorem mem_rangeI {lo hi n : Int} : n ∈ rangeI lo hi ↔ lo ≤ n ∧ n < hi := by
  unfold rangeI
  rw [List.mem_map]
  constructor
  · rintro ⟨i, hi, rfl⟩
    have := List.mem_range.mp hi
    omega
  · rintro ⟨h1, h2⟩
    exact ⟨(n - lo).toNat, List.mem_range.mpr (by omega), by omega⟩
theorem rangeI_nodup (lo hi : Int) : (rangeI lo hi).Nodup := by
  unfold rangeI List.Nodup
  rw [List.pairwise_map]
  exact List.nodup_range.imp fun h q => h (by omega)
def cellAt (c v : Cell) (n : Int) : Cell := (c.1 + n * v.1, c.2 + n * v.2)
def strandCells (v : Cell) (s : Cell × List Pr) : List Cell := s.2.flatMap fun p => (rangeI p.1 p.2).map (cellAt s.1 v)
def cellsOf (v : Cell) (L : List (Cell × List Pr)) : List Cell := L.flatMap (strandCells v)
def sizeOf_ (st : List Pr) : Int := (st.map fun p => p.2 - p.1).sum
def manyOf (L : List (Cell × List Pr)) : Int := (L.map fun s => sizeOf_ s.2).sum

/-- of the trail: o_k and i shifts more -/
def InTrail (cell : Cell) (os : List Cell) (N : Int) (c : Cell) : Prop := ∃ (k : Nat) (i : Int), k < lastStep os N ∧ 0 ≤ i ∧ i < rnd N k ∧ c = plus cell (plus (os.getD k (0, 0)) (mulC i (lastOf os)))

theorem at3_add (cell v f : Cell) (m i : Int) : plus cell (plus (plus f (mulC m v)) (mulC i v)) = at3 cell v f (m + i) := by
  unfold at3 plus mulC
  exact Prod.ext (by simp only [Int.add_mul]; omega) (by simp only [Int.add_mul]; omega)
theorem cellAt_first (cell v f : Cell) (row : List Pr) (n : Int) : cellAt (firstOf cell v f row) v n = at3 cell v f (least row + n) := by
  unfold cellAt firstOf at3 plus mulC
  exact Prod.ext (by simp only [Int.add_mul]; omega) (by simp only [Int.add_mul]; omega)
theorem mem_strandCells {v c : Cell} {s : Cell × List Pr} : c ∈ strandCells v s ↔ ∃ n, Cov s.2 n ∧ c = cellAt s.1 v n := by
  unfold strandCells
  rw [List.mem_flatMap]
  constructor
  · rintro ⟨p, hp, h⟩
    obtain ⟨n, hn, rfl⟩ := List.mem_map.mp h
    obtain ⟨h1, h2⟩ := mem_rangeI.mp hn
    exact ⟨n, ⟨p, hp, h1, h2⟩, rfl⟩
  · rintro ⟨n, ⟨p, hp, h1, h2⟩, rfl⟩
    exact ⟨p, hp, List.mem_map.mpr ⟨n, mem_rangeI.mpr ⟨h1, h2⟩, rfl⟩⟩
theorem at3_zero (cell f : Cell) (m n : Int) : at3 cell (0, 0) f m = at3 cell (0, 0) f n := by simp [at3, plus, mulC]
theorem mem_strands {cell : Cell} {os : List Cell} {N : Int} (hN : 0 ≤ N) {c : Cell} : c ∈ cellsOf (lastOf os) (strandsP cell os N) ↔ InTrail cell os N c := by
  have ok := rows_ok os (lastOf os) (lastStep os N)
  have steps : ∀ {f row}, (f, row) ∈ rowsOf os N → ∀ e ∈ row, (0 ≤ e.2 ∧ e.2 < lastStep os N) ∧ (e.2 = 0 ∨ 0 < N) := fun h => rows_steps h
  unfold cellsOf strandsP
  rw [List.mem_flatMap]
  constructor
  · rintro ⟨s, hs, hc⟩
    obtain ⟨⟨f, row⟩, hfr, rfl⟩ := List.mem_map.mp hs
    obtain ⟨n, hn, rfl⟩ := mem_strandCells.mp hc
    have hfull := rowPairs_full (v := lastOf os) (N := N) (row := row) fun e he => (steps hfr e he).2
    have hn : Cov (told (rowPairs (lastOf os) N row)) n := hn
    rw [told_cov hfull] at hn
    show InTrail cell os N (cellAt (firstOf cell (lastOf os) f row) (lastOf os) n)
    rw [cellAt_first]
    obtain ⟨p, hp, h1, h2⟩ := hn
    unfold rowPairs at hp
    by_cases hv : lastOf os = (0, 0)
    · rw [if_pos hv] at hp
      obtain ⟨e, he, rfl⟩ := List.mem_map.mp hp
      obtain ⟨k, hk, e1, e2⟩ := ok.of f row hfr e he
      refine ⟨k, 0, hk, Int.le_refl _, ?_, ?_⟩
      · have := (steps hfr e he).2
        unfold rnd
        rw [← e1]
        rcases this with q | q
        · rw [if_pos q]; decide
        · split <;> omega
      · have e3 := foot_back (os.getD k (0, 0)) (lastOf os)
        rw [e2] at e3
        rw [e3, at3_add, hv]
        exact at3_zero _ _ _ _
    · rw [if_neg hv] at hp
      obtain ⟨e, he, rfl⟩ := List.mem_map.mp hp
      obtain ⟨k, hk, e1, e2⟩ := ok.of f row hfr e he
      dsimp only at h1 h2
      rw [e1] at h2
      refine ⟨k, least row + n - e.1, hk, by omega, by omega, ?_⟩
      have e3 := foot_back (os.getD k (0, 0)) (lastOf os)
      rw [e2] at e3
      rw [e3, at3_add]
      congr 1
      dsimp only
      omega
  · rintro ⟨k, i, hk, h1, h2, rfl⟩
    obtain ⟨row, hfr, he⟩ := ok.all k hk
    have e3 := foot_back (os.getD k (0, 0)) (lastOf os)
    generalize hft : footOf (os.getD k (0, 0)) (lastOf os) = ft at *
    obtain ⟨f, m⟩ := ft
    refine ⟨_, List.mem_map.mpr ⟨(f, row), hfr, rfl⟩, ?_⟩
    have hfull := rowPairs_full (v := lastOf os) (N := N) (row := row) fun e he => (steps hfr e he).2
    rw [e3, at3_add, mem_strandCells]
    show ∃ n, Cov (told (rowPairs (lastOf os) N row)) n ∧ _ = cellAt (firstOf cell (lastOf os) f row) (lastOf os) n
    by_cases hv : lastOf os = (0, 0)
    · refine ⟨0, ?_, ?_⟩
      · rw [told_cov hfull]
        unfold rowPairs
        rw [if_pos hv]
        exact ⟨(0, 1), List.mem_map.mpr ⟨_, he, rfl⟩, by decide, by decide⟩
      · rw [cellAt_first, hv]
        exact at3_zero _ _ _ _
    · refine ⟨m + i - least row, ?_, ?_⟩
      · rw [told_cov hfull]
        unfold rowPairs
        rw [if_neg hv]
        exact ⟨_, List.mem_map.mpr ⟨_, he, rfl⟩, by dsimp only; omega, by dsimp only; omega⟩
      · rw [cellAt_first]
        congr 1
        dsimp only
        omega
theorem mulC_inj {v : Cell} (h : v ≠ (0, 0)) {a b : Int} (e : mulC a v = mulC b v) : a = b := by
  unfold mulC at e
  simp only [Prod.mk.injEq] at e
  rcases vne h with q | q
  · exact Int.eq_of_mul_eq_mul_right q e.1
  · exact Int.eq_of_mul_eq_mul_right q e.2
theorem at3_inj {cell v f : Cell} (h : v ≠ (0, 0)) {a b : Int} (e : at3 cell v f a = at3 cell v f b) : a = b := by
  unfold at3 at e
  exact mulC_inj h (plus_inj _ _ _ (plus_inj _ _ _ e))
theorem strand_nodup {cell v f : Cell} {N : Int} {row : List Pr} (hr : row ≠ []) (hs : ∀ e ∈ row, e.2 = 0 ∨ 0 < N) : (strandCells v (strandOf cell v N (f, row))).Nodup := by
  have hfull := rowPairs_full (v := v) (N := N) (row := row) hs
  show ((told (rowPairs v N row)).flatMap fun p => (rangeI p.1 p.2).map (cellAt (firstOf cell v f row) v)).Nodup
  by_cases hv : v = (0, 0)
  · have e : told (rowPairs v N row) = [(0, 1)] := by
      refine told_same (rowPairs_ne hr) fun p hp => ?_
      unfold rowPairs at hp
      rw [if_pos hv] at hp
      obtain ⟨_, _, rfl⟩ := List.mem_map.mp hp
      rfl
    rw [e]
    have : rangeI 0 1 = [0] := rfl
    simp [this]
  · obtain ⟨c1, c2⟩ := told_canon hfull
    unfold List.Nodup
    rw [List.pairwise_flatMap]
    refine ⟨fun p _ => ?_, ?_⟩
    · rw [List.pairwise_map]
      refine (rangeI_nodup p.1 p.2).imp fun {a b} hab q => hab ?_
      rw [cellAt_first, cellAt_first] at q
      have := at3_inj hv q
      omega
    · refine c2.imp_of_mem fun {p q} hp hq hpq x hx y hy hxy => ?_
      obtain ⟨a, ha, rfl⟩ := List.mem_map.mp hx
      obtain ⟨b, hb, rfl⟩ := List.mem_map.mp hy
      rw [cellAt_first, cellAt_first] at hxy
      have := at3_inj hv hxy
      obtain ⟨_, h2⟩ := mem_rangeI.mp ha
      obtain ⟨h3, _⟩ := mem_rangeI.mp hb
      omega
theorem cells_nodup (cell : Cell) (os : List Cell) (N : Int) : (cellsOf (lastOf os) (strandsP cell os N)).Nodup := by
  have ok := rows_ok os (lastOf os) (lastStep os N)
  unfold cellsOf strandsP
  unfold List.Nodup
  rw [List.pairwise_flatMap]
  refine ⟨fun s hs => ?_, ?_⟩
  · obtain ⟨⟨f, row⟩, hfr, rfl⟩ := List.mem_map.mp hs
    exact strand_nodup (ok.ne _ _ hfr) fun e he => (rows_steps hfr e he).2
  · rw [List.pairwise_map]
    have nd := ok.nd
    unfold List.Nodup at nd
    rw [List.pairwise_map] at nd
    refine nd.imp_of_mem fun {a b} ha hb hab x hx y hy hxy => hab ?_
    obtain ⟨n, _, rfl⟩ := mem_strandCells.mp hx
    obtain ⟨m, _, rfl⟩ := mem_strandCells.mp hy
    have hxy : cellAt (firstOf cell (lastOf os) a.1 a.2) (lastOf os) n = cellAt (firstOf cell (lastOf os) b.1 b.2) (lastOf os) m := hxy
    rw [cellAt_first, cellAt_first] at hxy
    have h1 := (foot_at3 (rows_normal (g := a.1) (row := a.2) ha) cell (least a.2 + n)).1
    have h2 := (foot_at3 (rows_normal (g := b.1) (row := b.2) hb) cell (least b.2 + m)).1
    rw [hxy, h2] at h1
    exact h1.symm

theorem rangeI_len {lo hi : Int} (h : lo ≤ hi) : ((rangeI lo hi).length : Int) = hi - lo := by
  unfold rangeI
  rw [List.length_map, List.length_range]
  omega
theorem strandCells_len (v : Cell) (s : Cell × List Pr) (h : ∀ p ∈ s.2, p.1 ≤ p.2) : ((strandCells v s).length : Int) = sizeOf_ s.2 := by
  obtain ⟨c, st⟩ := s
  unfold strandCells sizeOf_
  dsimp only at h ⊢
  induction st with
  | nil => rfl
  | cons p r ih =>
    rw [List.flatMap_cons, List.length_append, List.map_cons, List.sum_cons, List.length_map]
    have h1 := rangeI_len (h p List.mem_cons_self)
    have h2 := ih fun q hq => h q (List.mem_cons_of_mem _ hq)
    omega
theorem cellsOf_len (v : Cell) (L : List (Cell × List Pr)) (h : ∀ s ∈ L, ∀ p ∈ s.2, p.1 ≤ p.2) : ((cellsOf v L).length : Int) = manyOf L := by
  unfold cellsOf manyOf
  induction L with
  | nil => rfl
  | cons s r ih =>
    rw [List.flatMap_cons, List.length_append, List.map_cons, List.sum_cons]
    have h1 := strandCells_len v s (h s List.mem_cons_self)
    have h2 := ih fun q hq => h q (List.mem_cons_of_mem _ hq)
    omega
theorem strands_full {cell : Cell} {os : List Cell} {N : Int} {s : Cell × List Pr} (h : s ∈ strandsP cell os N) : Full s.2 := by
  obtain ⟨⟨f, row⟩, hfr, rfl⟩ := List.mem_map.mp h
  exact (told_canon (rowPairs_full (v := lastOf os) (N := N) (row := row) fun e he => (rows_steps hfr e he).2)).1

theorem sum_perm {xs ys : List Int} (h : xs.Perm ys) : xs.sum = ys.sum := by
  induction h with
  | nil => rfl
  | cons x _ ih => rw [List.sum_cons, List.sum_cons, ih]
  | swap x y l => simp only [List.sum_cons]; omega
  | trans _ _ a b => exact a.trans b

/-! ### the path -/
def rep (w : List Nat) (n : Nat) : List Nat := (List.replicate n w).flatten
theorem rep_succ (w : List Nat) (n : Nat) : rep w (n + 1) = w ++ rep w n := rfl
theorem mem_path_one (p : Cell) (w : List Nat) (c : Cell) : c ∈ pathFrom p w ↔ ∃ k : Nat, k ≤ w.length ∧ c = plus p ((pathFrom (0, 0) w).getD k (0, 0)) := by
  rw [pathFrom_map]
  constructor
  · intro h
    obtain ⟨o, ho, rfl⟩ := List.mem_map.mp h
    obtain ⟨k, hk, e⟩ := List.mem_iff_getElem.mp ho
    refine ⟨k, by rw [pathFrom_len] at hk; omega, ?_⟩
    rw [← e]
    simp [List.getD, hk]
  · rintro ⟨k, hk, rfl⟩
    have hk' : k < (pathFrom (0, 0) w).length := by rw [pathFrom_len]; omega
    refine List.mem_map.mpr ⟨_, ?_, rfl⟩
    simp [List.getD, hk']
theorem last_path (w : List Nat) : lastOf (pathFrom (0, 0) w) = goal (0, 0) w := by
  unfold lastOf List.getD
  rw [pathFrom_len, Nat.add_sub_cancel, pathFrom_last]
  rfl
theorem zero_path (w : List Nat) : (pathFrom (0, 0) w).getD 0 (0, 0) = (0, 0) := by cases w <;> rfl
theorem mem_path_rep (p : Cell) (w : List Nat) (n : Nat) (c : Cell) : c ∈ pathFrom p (rep w n) ↔ c = p ∨ ∃ (k : Nat) (i : Nat), k ≤ w.length ∧ i < n ∧ c = plus p (plus ((pathFrom (0, 0) w).getD k (0, 0)) (mulC i (goal (0, 0) w))) := by
  induction n generalizing p with
  | zero =>
    constructor
    · intro h
      exact .inl (by simpa [rep, pathFrom] using h)
    · rintro (rfl | ⟨k, i, _, h, _⟩)
      · simp [rep, pathFrom]
      · omega
  | succ n ih =>
    rw [rep_succ, mem_pathFrom_append, ih, mem_path_one, goal_map p w]
    constructor
    · rintro (⟨k, hk, rfl⟩ | rfl | ⟨k, i, hk, hi, rfl⟩)
      · exact .inr ⟨k, 0, hk, by omega, by simp [mulC, plus]⟩
      · refine .inr ⟨w.length, 0, Nat.le_refl _, by omega, ?_⟩
        have : (pathFrom (0, 0) w).getD w.length (0, 0) = goal (0, 0) w := by
          unfold List.getD; rw [pathFrom_last]; rfl
        rw [this]
        simp [mulC, plus]
      · refine .inr ⟨k, i + 1, hk, by omega, ?_⟩
        unfold plus mulC
        exact Prod.ext (by simp only [Int.natCast_add, Int.add_mul]; omega) (by simp only [Int.natCast_add, Int.add_mul]; omega)
    · rintro (rfl | ⟨k, i, hk, hi, rfl⟩)
      · refine .inl ⟨0, by omega, ?_⟩
        rw [zero_path, plus_zero]
      · cases i with
        | zero => exact .inl ⟨k, hk, by simp [mulC, plus]⟩
        | succ i =>
          refine .inr (.inr ⟨k, i, hk, by omega, ?_⟩)
          unfold plus mulC
          exact Prod.ext (by simp only [Int.natCast_add, Int.add_mul]; omega) (by simp only [Int.natCast_add, Int.add_mul]; omega)
theorem rnd_zero (N : Int) : rnd N ((0 : Nat) : Int) = 1 := if_pos rfl
theorem path_trail (cell : Cell) (w : List Nat) (hw : w ≠ []) (N : Int) (hN : 0 ≤ N) (c : Cell) : c ∈ pathFrom cell (rep w N.toNat) ↔ InTrail cell (pathFrom (0, 0) w) N c := by
  rw [mem_path_rep]
  unfold InTrail
  rw [last_path]
  constructor
  · rintro (rfl | ⟨k, i, hk, hi, rfl⟩)
    · refine ⟨0, 0, ?_, Int.le_refl _, by rw [rnd_zero]; decide, ?_⟩
      · unfold lastStep; rw [pathFrom_len]; split <;> omega
      · rw [zero_path]; simp [plus, mulC]
    · have hp : N > 0 := by omega
      have hl : lastStep (pathFrom (0, 0) w) N = w.length + 1 := by unfold lastStep; rw [if_pos hp, pathFrom_len]
      rw [hl]
      cases k with
      | zero =>
        cases i with
        | zero => exact ⟨0, 0, by omega, Int.le_refl _, by rw [rnd_zero]; decide, rfl⟩
        | succ i =>
          -- i + 1 shifts behind the start: the end of round i
          refine ⟨w.length, (i : Int), by omega, by omega, ?_, ?_⟩
          · have hl := List.length_pos_iff.mpr hw
            unfold rnd
            rw [if_neg (by omega)]
            omega
          · have : (pathFrom (0, 0) w).getD w.length (0, 0) = goal (0, 0) w := by
              unfold List.getD; rw [pathFrom_last]; rfl
            rw [this, zero_path]
            unfold plus mulC
            exact Prod.ext (by simp only [Int.natCast_add, Int.add_mul]; omega) (by simp only [Int.natCast_add, Int.add_mul]; omega)
      | succ k =>
        refine ⟨k + 1, (i : Int), by omega, by omega, ?_, rfl⟩
        unfold rnd
        rw [if_neg (by omega)]
        omega
  · rintro ⟨k, i, hk, h1, h2, rfl⟩
    cases k with
    | zero =>
      have : i = 0 := by
        unfold rnd at h2
        rw [if_pos (by rfl)] at h2
        omega
      subst this
      refine .inl ?_
      rw [zero_path]
      simp [plus, mulC]
    | succ k =>
      unfold lastStep at hk
      unfold rnd at h2
      rw [if_neg (by omega)] at h2
      rw [if_pos (by omega), pathFrom_len] at hk
      refine .inr ⟨k + 1, i.toNat, by omega, by omega, ?_⟩
      rw [show ((i.toNat : Nat) : Int) = i by omega]

/-! ### value in trail -/
def rowAt (r : Rows) (f : Cell) : Option (List Pr) := (r.find? fun e => decide (e.1 = f)).map (·.2)
def visits (cell : Cell) (os : List Cell) (N : Int) (c : Cell) : Int :=
  let ft := footOf (minus c cell) (lastOf os)
  match rowAt (rowsOf os N) ft.1 with
  | none => 0
  | some row => if lastOf os = (0, 0) then (row.map fun e => rnd N e.2).sum
      else ((row.filter fun e => decide (e.1 ≤ ft.2) && decide (ft.2 < e.1 + rnd N e.2)).length : Int)
theorem rowAt_some {r : Rows} {f : Cell} {row : List Pr} (h : rowAt r f = some row) : (f, row) ∈ r := by
  unfold rowAt at h
  rw [Option.map_eq_some_iff] at h
  obtain ⟨e, h1, rfl⟩ := h
  have h2 : e.1 = f := by simpa using List.find?_some h1
  have := List.mem_of_find?_eq_some h1
  rw [← h2]
  exact this
theorem rowAt_of {r : Rows} (nd : (r.map (·.1)).Nodup) {f : Cell} {row : List Pr} (h : (f, row) ∈ r) : rowAt r f = some row := by
  unfold rowAt
  rw [Option.map_eq_some_iff]
  induction r with
  | nil => cases h
  | cons x r ih =>
    obtain ⟨n1, n2⟩ := List.nodup_cons.mp (show (x.1 :: r.map (·.1)).Nodup from nd)
    rw [List.find?_cons]
    rcases List.mem_cons.mp h with rfl | h
    · exact ⟨(f, row), by simp, rfl⟩
    · have : ¬ x.1 = f := fun q => n1 (List.mem_map.mpr ⟨_, h, q.symm⟩)
      rw [decide_eq_false this]
      exact ih n2 h
theorem rowAt_none {r : Rows} {f : Cell} : rowAt r f = none ↔ f ∉ r.map (·.1) := by
  unfold rowAt
  rw [Option.map_eq_none_iff, List.find?_eq_none]
  constructor
  · intro h hm
    obtain ⟨e, he, rfl⟩ := List.mem_map.mp hm
    exact h e he (by simp)
  · intro h e he q
    have q : e.1 = f := by simpa using q
    exact h (List.mem_map.mpr ⟨e, he, q⟩)
theorem sum_pos_of : ∀ {xs : List Int}, xs ≠ [] → (∀ x ∈ xs, 0 < x) → 0 < xs.sum
  | [x], _, h => by
    have := h x List.mem_cons_self
    simpa using this
  | x :: y :: r, _, h => by
    have h1 := h x List.mem_cons_self
    have h2 := sum_pos_of (xs := y :: r) (by simp) fun z hz => h z (List.mem_cons_of_mem _ hz)
    rw [List.sum_cons]
    omega
theorem visits_trail (cell : Cell) (os : List Cell) (N : Int) (hN : 0 ≤ N) (c : Cell) : 0 < visits cell os N c ↔ InTrail cell os N c := by
  have ok := rows_ok os (lastOf os) (lastStep os N)
  have hb := foot_back (minus c cell) (lastOf os)
  have hc : c = plus cell (minus c cell) := (plus_minus c cell).symm
  unfold visits
  dsimp only
  generalize hft : footOf (minus c cell) (lastOf os) = ft at *
  cases hr : rowAt (rowsOf os N) ft.1 with
  | none =>
    dsimp only
    refine ⟨fun h => absurd h (by decide), fun ⟨k, i, hk, _, _, e⟩ => ?_⟩
    exfalso
    obtain ⟨row, h1, _⟩ := ok.all k hk
    have : ft.1 = (footOf (os.getD k (0, 0)) (lastOf os)).1 := by
      have e3 := foot_back (os.getD k (0, 0)) (lastOf os)
      rw [e3, at3_add] at e
      have := (foot_at3 (foot_normal (os.getD k (0, 0)) (lastOf os)) cell ((footOf (os.getD k (0, 0)) (lastOf os)).2 + i)).1
      rw [← e, hft] at this
      exact this
    rw [this] at hr
    exact rowAt_none.mp hr (List.mem_map.mpr ⟨_, h1, rfl⟩)
  | some row =>
    have hm : (ft.1, row) ∈ rowsOf os N := rowAt_some hr
    have hst := rows_steps hm
    dsimp only
    by_cases hv : lastOf os = (0, 0)
    · rw [if_pos hv]
      constructor
      · intro _
        obtain ⟨e, t, rfl⟩ := List.exists_cons_of_ne_nil (ok.ne _ _ hm)
        obtain ⟨k, hk, e1, e2⟩ := ok.of _ _ hm e List.mem_cons_self
        refine ⟨k, 0, hk, Int.le_refl _, ?_, ?_⟩
        · have := (hst e List.mem_cons_self).2
          unfold rnd
          rw [← e1]
          rcases this with q | q
          · rw [if_pos q]; decide
          · split <;> omega
        · have e3 := foot_back (os.getD k (0, 0)) (lastOf os)
          rw [e2] at e3
          rw [hc, hb, e3]
          rw [hv]
          simp [plus, mulC]
      · intro _
        refine sum_pos_of (by simpa using ok.ne _ _ hm) fun x hx => ?_
        obtain ⟨e, he, rfl⟩ := List.mem_map.mp hx
        unfold rnd
        have := (hst e he).2
        rcases this with q | q
        · rw [if_pos q]; decide
        · split <;> omega
    · rw [if_neg hv]
      constructor
      · intro h
        have hne : (row.filter fun e => decide (e.1 ≤ ft.2) && decide (ft.2 < e.1 + rnd N e.2)) ≠ [] := fun q => by
          rw [q] at h; simp at h
        obtain ⟨e, t, he⟩ := List.exists_cons_of_ne_nil hne
        have hem : e ∈ row.filter fun e => decide (e.1 ≤ ft.2) && decide (ft.2 < e.1 + rnd N e.2) := by rw [he]; exact List.mem_cons_self
        obtain ⟨q1, q2⟩ := List.mem_filter.mp hem
        simp only [Bool.and_eq_true, decide_eq_true_eq] at q2
        obtain ⟨k, hk, e1, e2⟩ := ok.of _ _ hm e q1
        refine ⟨k, ft.2 - e.1, hk, by omega, by rw [← e1]; omega, ?_⟩
        have e3 := foot_back (os.getD k (0, 0)) (lastOf os)
        rw [e2] at e3
        rw [hc, hb, e3, at3_add]
        unfold at3
        dsimp only
        rw [show e.1 + (ft.2 - e.1) = ft.2 by omega]
      · rintro ⟨k, i, hk, h1, h2, e⟩
        obtain ⟨row', q1, q2⟩ := ok.all k hk
        have e3 := foot_back (os.getD k (0, 0)) (lastOf os)
        have hn := foot_normal (os.getD k (0, 0)) (lastOf os)
        generalize footOf (os.getD k (0, 0)) (lastOf os) = gm at *
        obtain ⟨g, m⟩ := gm
        dsimp only at *
        rw [e3, at3_add] at e
        obtain ⟨z1, z2⟩ := foot_at3 hn cell (m + i)
        rw [← e, hft] at z1 z2
        have z2 := z2 hv
        rw [← z1] at q1
        have : row' = row := by
          have := rowAt_of ok.nd q1
          have hr' : rowAt (rowsTo os (lastOf os) (lastStep os N)) ft.1 = some row := hr
          rw [hr'] at this
          exact (Option.some.inj this).symm
        subst this
        have : (m, (k : Int)) ∈ row'.filter fun e => decide (e.1 ≤ ft.2) && decide (ft.2 < e.1 + rnd N e.2) := by
          refine List.mem_filter.mpr ⟨q2, ?_⟩
          simp only [Bool.and_eq_true, decide_eq_true_eq]
          rw [z2]
          omega
        have := List.length_pos_of_mem this
        omega

/-! ### the law, in plain words -/
section
variable (cell : Cell) (w : List Nat) (hw : w ≠ []) (N : Int)
abbrev offs : List Cell := pathFrom (0, 0) w
/-- what is due -/
def due : List (Cell × List Pr) := inOrder (dueRow cell (offs w) N)
theorem due_eq (hN : 0 ≤ N) : due cell w N = inOrder (strandsP cell (offs w) N) := by
  unfold due
  rw [due_strands cell (offs w) N hN (zero_path w)]
theorem due_perm (hN : 0 ≤ N) : (due cell w N).Perm (strandsP cell (offs w) N) := by
  rw [due_eq cell w N hN]
  exact inOrder_perm _ (strands_nodup cell (offs w) N)
theorem due_full (hN : 0 ≤ N) : ∀ s ∈ due cell w N, ∀ p ∈ s.2, p.1 ≤ p.2 := fun s hs p hp => by
  have := strands_full ((due_perm cell w N hN).mem_iff.mp hs) p hp
  omega
theorem many_due (hN : 0 ≤ N) : manyOf (strandsP cell (offs w) N) = manyOf (due cell w N) :=
  (sum_perm ((due_perm cell w N hN).map _)).symm
theorem due_cells_len (hN : 0 ≤ N) : ((cellsOf (goal (0, 0) w) (due cell w N)).length : Int) = manyOf (due cell w N) := cellsOf_len _ _ (due_full cell w N hN)
theorem due_cells_perm (hN : 0 ≤ N) : (cellsOf (goal (0, 0) w) (due cell w N)).Perm (cellsOf (lastOf (offs w)) (strandsP cell (offs w) N)) := by
  rw [last_path]
  exact (due_perm cell w N hN).flatMap_right _
include hw in
theorem due_cells_mem (hN : 0 ≤ N) (c : Cell) : c ∈ cellsOf (goal (0, 0) w) (due cell w N) ↔ c ∈ pathFrom cell (rep w N.toNat) := by
  rw [(due_cells_perm cell w N hN).mem_iff, mem_strands hN, path_trail cell w hw N hN]
include hw in
theorem path_dedup_len (hN : 0 ≤ N) : (dedup (pathFrom cell (rep w N.toNat))).length = (cellsOf (goal (0, 0) w) (due cell w N)).length := by
  have n1 := dedup_nodup (pathFrom cell (rep w N.toNat))
  have n2 : (cellsOf (goal (0, 0) w) (due cell w N)).Nodup := (cells_nodup cell (offs w) N).perm (due_cells_perm cell w N hN).symm
  exact ((List.perm_ext_iff_of_nodup n1 n2).mpr fun c => by rw [mem_dedup, due_cells_mem cell w hw N hN]).length_eq
include hw in
theorem in_trail (hN : 0 ≤ N) (c : Cell) : 0 < visits cell (offs w) N c ↔ c ∈ pathFrom cell (rep w N.toNat) := by
  rw [visits_trail cell (offs w) N hN, path_trail cell w hw N hN]
end
end K53
end

/-! K53L -/
section
/-! A typed layer over the hand layer: worlds (what is finished, what stands), representations, what a reading evaluates to. -/
namespace K53
open PySem PySem.Spec PyProof.Rows L2

/-! ### worlds -/
/-- G: the finished objects; H: all that is tracked -/
structure Wd where
  G : Hp
  H : Hp
def IsDct : HO → Prop
  | .dT _ => True
  | .dK _ => True
  | _ => False
/-- what G holds, H holds; a dict may be locked -/
def Sub (G H : Hp) : Prop := ∀ a o, G a = some o → H a = some o ∨ (IsDct o ∧ ∃ od, H a = some (.frz od o))
structure Le (W W' : Wd) : Prop where
  g : Same W.G W'.G
  h : Sub W.H W'.H
  s : Sub W'.G W'.H
  n : ∀ b o, W'.G b = some o → W.G b = some o ∨ W.H b = none ∨ ∃ xs, o = .tup xs
  u : ∀ b o, IsDct o → W.H b = some o → W.G b = none → W'.H b = some o
section
variable {G H H' : Hp} {a p : Addr} {W W1 W2 : Wd}
theorem Sub.keep {o : HO} (s : Sub G H) (h : G a = some o) (n : ¬ IsDct o) : H a = some o := by
  rcases s a _ h with q | ⟨e, _⟩
  · exact q
  · exact absurd e n
theorem Sub.lst {xs : List V} (s : Sub G H) (h : G a = some (.lst xs)) : H a = some (.lst xs) := s.keep h fun z => z
theorem Sub.tup {xs : List V} (s : Sub G H) (h : G a = some (.tup xs)) : H a = some (.tup xs) := s.keep h fun z => z
theorem Sub.ins {C dx : Addr} {fs : List (Str × V)} (s : Sub G H) (h : G a = some (.ins C dx fs)) : H a = some (.ins C dx fs) := s.keep h fun z => z
theorem Sub.frz {od : Obj} {u : HO} (s : Sub G H) (h : G a = some (.frz od u)) : H a = some (.frz od u) := s.keep h fun z => z
theorem Sub.dT {kvs : List (List Key × V)} (s : Sub G H) (h : G a = some (.dT kvs)) : Rd H a (.dT kvs) := by
  rcases s a _ h with q | ⟨_, od, q⟩
  · exact .inl q
  · exact .inr ⟨od, q⟩
theorem Sub.dK {kvs : List (Key × V)} (s : Sub G H) (h : G a = some (.dK kvs)) : Rd H a (.dK kvs) := by
  rcases s a _ h with q | ⟨_, od, q⟩
  · exact .inl q
  · exact .inr ⟨od, q⟩
theorem Sub.rd {u : HO} (s : Sub G H) (hd : IsDct u) (h : Rd G a u) : Rd H a u := by
  rcases h with h | ⟨od, h⟩
  · rcases s a _ h with q | ⟨_, od, q⟩
    · exact .inl q
    · exact .inr ⟨od, q⟩
  · exact .inr ⟨od, s.frz h⟩
theorem Sub.free (s : Sub G H) (h : H p = none) : G p = none := by
  cases q : G p with
  | none => rfl
  | some o =>
    rcases s p o q with z | ⟨_, _, z⟩ <;> rw [h] at z <;> cases z
theorem Sub.refl (H : Hp) : Sub H H := fun _ _ h => .inl h
theorem Sub.of_same (e : Same G H) : Sub G H := fun a o h => .inl (e a o h)
theorem Sub.trans {I : Hp} (s : Sub G H) (t : Sub H I) : Sub G I := fun a o h => by
  rcases s a o h with q | ⟨d, od, q⟩
  · exact t a o q
  · exact .inr ⟨d, od, t.frz q⟩
theorem Same_upd {H H' : Hp} {o : HO} (e : Same H H') (h : H p = none) : Same H (upd H' p o) := fun b u q => by
  rw [upd_ne (ne_of_none q h)]
  exact e b u q
theorem Same_new {o : HO} (h : H p = none) : Same H (upd H p o) := Same_upd (Same.refl H) h
theorem Sub.upd {o : HO} (s : Sub G H) (h : G p = none) : Sub G (L2.upd H p o) := fun b u q => by
  rw [upd_ne (ne_of_none q h)]
  exact s b u q
theorem Le.refl (s : Sub W.G W.H) : Le W W := ⟨Same.refl _, Sub.refl _, s, fun _ _ h => .inl h, fun _ _ _ h _ => h⟩
theorem Le.gone {u : HO} (l : Le W W1) (h : W.H p = some u) (hn : ∀ xs, u ≠ .tup xs) (g : W.G p = none) : W1.G p = none := by
  cases q : W1.G p with
  | none => rfl
  | some o =>
    rcases l.n p o q with z | z | ⟨xs, z⟩
    · rw [g] at z; cases z
    · rw [h] at z; cases z
    · subst z
      have h1 := l.s.tup q
      rcases l.h p u h with h2 | ⟨_, _, h2⟩ <;> rw [h1] at h2 <;> cases h2
      exact absurd rfl (hn xs)
theorem Le.trans (a : Le W W1) (b : Le W1 W2) : Le W W2 := ⟨a.g.trans b.g, a.h.trans b.h, b.s, fun c o h => by
  rcases b.n c o h with q | q | q
  · exact a.n c o q
  · exact .inr (.inl (a.h.free q))
  · exact .inr (.inr q), fun c o d h g => b.u c o d (a.u c o d h g) (a.gone h (fun xs e => by subst e; exact d) g)⟩
/-- a new finished object -/
theorem Le.new {o : HO} (s : Sub W.G W.H) (h : W.H p = none) : Le W ⟨upd W.G p o, upd W.H p o⟩ :=
  ⟨Same_new (s.free h), Sub.upd (Sub.refl _) h, fun a u e => by
    by_cases q : a = p
    · subst q
      have e : upd W.G a o a = some u := e
      rw [upd_same] at e
      left
      show upd W.H a o a = some u
      rw [upd_same]
      exact e
    · have e : upd W.G p o a = some u := e
      rw [upd_ne q] at e
      show upd W.H p o a = some u ∨ (IsDct u ∧ ∃ od, upd W.H p o a = some (.frz od u))
      rw [upd_ne q]
      exact s a u e, fun b u e => by
    by_cases q : b = p
    · subst q
      exact .inr (.inl h)
    · have e : upd W.G p o b = some u := e
      rw [upd_ne q] at e
      exact .inl e, fun b u _ e _ => by
    show upd W.H p o b = some u
    rw [upd_ne (ne_of_none e h)]
    exact e⟩
/-- a new object that is not finished -/
theorem Le.mut {o : HO} (s : Sub W.G W.H) (h : W.H p = none) : Le W ⟨W.G, upd W.H p o⟩ :=
  ⟨Same.refl _, Sub.upd (Sub.refl _) h, Sub.upd s (s.free h), fun b u e => .inl e, fun b u _ e _ => by
    show upd W.H p o b = some u
    rw [upd_ne (ne_of_none e h)]
    exact e⟩
/-- an unfinished object, new since W, is written again -/
theorem Le.write {o : HO} (l : Le W W1) (hp : W.H p = none) (hg : W1.G p = none) : Le W ⟨W1.G, upd W1.H p o⟩ :=
  ⟨l.g, Sub.upd l.h hp, Sub.upd l.s hg, fun b u e => l.n b u e, fun b u d e g => by
    show upd W1.H p o b = some u
    rw [upd_ne (ne_of_none e hp)]
    exact l.u b u d e g⟩
/-- it is finished -/
theorem Le.done {o : HO} (l : Le W W1) (hp : W.H p = none) (hg : W1.G p = none) (h : W1.H p = some o) : Le W ⟨upd W1.G p o, W1.H⟩ :=
  ⟨Same_upd l.g (by
      cases q : W.G p with
      | none => rfl
      | some u => rw [l.g p u q] at hg; cases hg), l.h, fun a u e => by
    by_cases q : a = p
    · subst q
      have e : upd W1.G a o a = some u := e
      rw [upd_same] at e
      cases e
      exact .inl h
    · have e : upd W1.G p o a = some u := e
      rw [upd_ne q] at e
      exact l.s a u e, fun b u e => by
    by_cases q : b = p
    · subst q
      exact .inr (.inl hp)
    · have e : upd W1.G p o b = some u := e
      rw [upd_ne q] at e
      exact l.n b u e, fun b u d e g => l.u b u d e g⟩
/-- a dict is locked -/
theorem Le.lock {u : HO} {od : Obj} (s : Sub W.G W.H) (hd : IsDct u) (h : W.H p = some u) (hg : W.G p ≠ none) : Le W ⟨W.G, upd W.H p (.frz od u)⟩ := by
  have key : ∀ a o, W.H a = some o → upd W.H p (.frz od u) a = some o ∨ (IsDct o ∧ ∃ od', upd W.H p (.frz od u) a = some (.frz od' o)) := fun a o e => by
    by_cases q : a = p
    · subst q
      rw [h] at e
      cases e
      exact .inr ⟨hd, od, upd_same⟩
    · rw [upd_ne q]
      exact .inl e
  refine ⟨Same.refl _, key, fun a o e => ?_, fun b u e => .inl e, fun b v _ e g => by
    show upd W.H p _ b = _
    rw [upd_ne (fun z => by subst z; exact hg g)]
    exact e⟩
  rcases s a o e with q | ⟨d, od', q⟩
  · exact key a o q
  · refine .inr ⟨d, od', ?_⟩
    have : a ≠ p := fun z => by
      subst z
      rw [h] at q
      cases q
      exact hd
    show upd W.H p (.frz od u) a = _
    rw [upd_ne this]
    exact q
theorem Le.fresh (l : Le W W1) (h : W1.H p = none) : W.H p = none := l.h.free h
/-- a tuple that stands is taken into what is finished -/
theorem Le.take {xs : List V} (s : Sub W.G W.H) (h : W.H p = some (.tup xs)) (g : W.G p = none) : Le W ⟨upd W.G p (.tup xs), W.H⟩ :=
  ⟨Same_new g, Sub.refl _, fun a u e => by
    by_cases q : a = p
    · subst q
      have e : upd W.G a (.tup xs) a = some u := e
      rw [upd_same] at e
      cases e
      exact .inl h
    · have e : upd W.G p (.tup xs) a = some u := e
      rw [upd_ne q] at e
      exact s a u e, fun b u e => by
    by_cases q : b = p
    · subst q
      have e : upd W.G b (.tup xs) b = some u := e
      rw [upd_same] at e
      cases e
      exact .inr (.inr ⟨xs, rfl⟩)
    · have e : upd W.G p (.tup xs) b = some u := e
      rw [upd_ne q] at e
      exact .inl e, fun b u _ e _ => e⟩
theorem ne_none {o : HO} (h : H p = some o) : H p ≠ none := fun z => by rw [h] at z; cases z
end

/-! ### representations -/
class Mn {α : Type} (A : Hp → α → V → Prop) : Prop where
  mn : ∀ {G G' : Hp} {x : α} {v : V}, Same G G' → A G x v → A G' x v
section
variable {α β γ δ : Type}
def rI (_ : Hp) (i : Int) (v : V) : Prop := v = .int i
def rB (_ : Hp) (b : Bool) (v : V) : Prop := v = .bl b
def rS (_ : Hp) (s : Str) (v : V) : Prop := v = .str s
def rO (_ : Hp) (o : Option Int) (v : V) : Prop := v = (match o with | none => .non | some i => .int i)
def rP (A : Hp → α → V → Prop) (B : Hp → β → V → Prop) (G : Hp) (p : α × β) (v : V) : Prop := ∃ a x y, v = .ref a ∧ G a = some (.tup [x, y]) ∧ A G p.1 x ∧ B G p.2 y
def rL (A : Hp → α → V → Prop) (G : Hp) (xs : List α) (v : V) : Prop := ∃ a vs, v = .ref a ∧ G a = some (.lst vs) ∧ Paired (A G) xs vs
def rT (A : Hp → α → V → Prop) (G : Hp) (xs : List α) (v : V) : Prop := ∃ a vs, v = .ref a ∧ G a = some (.tup vs) ∧ Paired (A G) xs vs
instance : Mn rI := ⟨fun _ h => h⟩
instance : Mn rB := ⟨fun _ h => h⟩
instance : Mn rS := ⟨fun _ h => h⟩
instance : Mn rO := ⟨fun _ h => h⟩
variable {A : Hp → α → V → Prop} {B : Hp → β → V → Prop}
instance [Mn A] [Mn B] : Mn (rP A B) := ⟨fun e ⟨a, x, y, h1, h2, h3, h4⟩ => ⟨a, x, y, h1, e _ _ h2, Mn.mn e h3, Mn.mn e h4⟩⟩
instance [Mn A] : Mn (rL A) := ⟨fun e ⟨a, vs, h1, h2, h3⟩ => ⟨a, vs, h1, e _ _ h2, Paired.mapP h3 fun _ _ => Mn.mn e⟩⟩
instance [Mn A] : Mn (rT A) := ⟨fun e ⟨a, vs, h1, h2, h3⟩ => ⟨a, vs, h1, e _ _ h2, Paired.mapP h3 fun _ _ => Mn.mn e⟩⟩
theorem pa_mono [Mn A] {G G' : Hp} {xs : List α} {vs : List V} (e : Same G G') (h : Paired (A G) xs vs) : Paired (A G') xs vs := Paired.mapP h fun _ _ => Mn.mn e
theorem pa_ints {G : Hp} : ∀ {xs : List Int} {vs : List V}, Paired (rI G) xs vs → vs = xs.map V.int
  | _, _, .nil => rfl
  | _, _, .cons h t => by rw [show _ = V.int _ from h, pa_ints t]; rfl
theorem pa_bools {G : Hp} : ∀ {xs : List Bool} {vs : List V}, Paired (rB G) xs vs → vs = xs.map V.bl
  | _, _, .nil => rfl
  | _, _, .cons h t => by rw [show _ = V.bl _ from h, pa_bools t]; rfl
theorem pa_strs {G : Hp} : ∀ {xs : List Str} {vs : List V}, Paired (rS G) xs vs → vs = xs.map V.str
  | _, _, .nil => rfl
  | _, _, .cons h t => by rw [show _ = V.str _ from h, pa_strs t]; rfl
theorem pa_of_ints {G : Hp} : ∀ (xs : List Int), Paired (rI G) xs (xs.map V.int)
  | [] => .nil
  | x :: r => .cons rfl (pa_of_ints r)
theorem pa_app {G : Hp} : ∀ {xs ys : List α} {vs ws : List V}, Paired (A G) xs vs → Paired (A G) ys ws → Paired (A G) (xs ++ ys) (vs ++ ws)
  | _, _, _, _, .nil, h => h
  | _, _, _, _, .cons h t, q => .cons h (pa_app t q)
theorem pa_at {G : Hp} : ∀ {xs : List α} {vs : List V} {i : Nat} {v : V}, Paired (A G) xs vs → vs[i]? = some v → ∃ x, xs[i]? = some x ∧ A G x v
  | _, _, _, _, .nil, e => by simp at e
  | _, _, 0, _, .cons h _, e => by
    simp only [List.getElem?_cons_zero, Option.some.injEq] at e
    subst e
    exact ⟨_, rfl, h⟩
  | _, _, i + 1, v, .cons _ t, e => by
    simp only [List.getElem?_cons_succ] at e ⊢
    exact pa_at t e
theorem pa_get {G : Hp} : ∀ {xs : List α} {vs : List V} {i : Nat} {x : α}, Paired (A G) xs vs → xs[i]? = some x → ∃ v, vs[i]? = some v ∧ A G x v
  | _, _, _, _, .nil, e => by simp at e
  | _, _, 0, _, .cons h _, e => by
    simp only [List.getElem?_cons_zero, Option.some.injEq] at e
    subst e
    exact ⟨_, rfl, h⟩
  | _, _, i + 1, v, .cons _ t, e => by
    simp only [List.getElem?_cons_succ] at e ⊢
    exact pa_get t e
theorem pa_drop {G : Hp} : ∀ {xs : List α} {vs : List V}, Paired (A G) xs vs → Paired (A G) xs.dropLast vs.dropLast
  | _, _, .nil => .nil
  | _, _, .cons h .nil => .nil
  | _, _, .cons h (.cons h2 t) => .cons h (pa_drop (.cons h2 t))
theorem pa_ext {G : Hp} : ∀ {xs : List α} {vs : List V}, xs.length = vs.length → (∀ (i : Nat) (x : α) (v : V), xs[i]? = some x → vs[i]? = some v → A G x v) → Paired (A G) xs vs
  | [], [], _, _ => .nil
  | [], _ :: _, h, _ => by cases h
  | _ :: _, [], h, _ => by cases h
  | x :: xs, v :: vs, h, f => .cons (f 0 x v rfl rfl) (pa_ext (by simpa using h) fun i y w h1 h2 => f (i + 1) y w (by simpa using h1) (by simpa using h2))
end

/-! ### what a reading evaluates to -/
section
variable {α β γ δ : Type}
def Ev (te : TE) (σ : L2.St) (W : Wd) (A : Hp → α → V → Prop) (x : α) : Prop := ∀ W1, Le W W1 → ∀ Q : VK, (∀ v W2, Le W1 W2 → A W2.G x v → Q v W2.H) → te σ W1.H Q
def Et (tt : TT) (σ : L2.St) (W : Wd) (b : Bool) : Prop := ∀ W1, Le W W1 → ∀ Q : Bool → Hp → Prop, (∀ W2, Le W1 W2 → Q b W2.H) → tt σ W1.H Q
def EvA (ta : TA) (σ : L2.St) (W : Wd) (R : Hp → List V → Prop) : Prop := ∀ W1, Le W W1 → ∀ Q : List V → Hp → Prop, (∀ vs W2, Le W1 W2 → R W2.G vs → Q vs W2.H) → ta σ W1.H Q
variable {A : Hp → α → V → Prop} {B : Hp → β → V → Prop} {C : Hp → γ → V → Prop} {D : Hp → δ → V → Prop} {σ : L2.St} {W W' : Wd} {K : PySem.W.Frag} {ta tb tc te : TE} {t u : TT} {x : α} {y : β} {z : γ} {i j : Int}
theorem Ev.mono (l : Le W W') (h : Ev te σ W A x) : Ev te σ W' A x := fun W1 l1 => h W1 (l.trans l1)
theorem Et.mono {b : Bool} (l : Le W W') (h : Et t σ W b) : Et t σ W' b := fun W1 l1 => h W1 (l.trans l1)
theorem e_var [Mn A] {k : Nat} {v : V} (h : A W.G x v) (e : σ[k]? = some (some v)) : Ev (tVar k) σ W A x := fun W1 l Q q => ⟨v, e, q v W1 (Le.refl l.s) (Mn.mn l.g h)⟩
theorem e_int : Ev (tC (.int i)) σ W rI i := fun W1 l _ q => q _ W1 (Le.refl l.s) rfl
theorem e_bl {b : Bool} : Ev (tC (.bl b)) σ W rB b := fun W1 l _ q => q _ W1 (Le.refl l.s) rfl
theorem e_str {s : Str} : Ev (tC (.str s)) σ W rS s := fun W1 l _ q => q _ W1 (Le.refl l.s) rfl
theorem e_non : Ev (tC .non) σ W rO none := fun W1 l _ q => q _ W1 (Le.refl l.s) rfl
theorem e_is {x' : α} (h : Ev te σ W A x) (e : x = x') : Ev te σ W A x' := e ▸ h
theorem e_sub {A' : Hp → α → V → Prop} {x' : β} {B' : Hp → β → V → Prop} (h : Ev te σ W A x) (e : ∀ G v, A G x v → B' G x' v) : Ev te σ W B' x' := fun W1 l Q q => h W1 l Q fun v W2 l2 a => q v W2 l2 (e _ _ a)
theorem t_is {b b' : Bool} (h : Et t σ W b) (e : b = b') : Et t σ W b' := e ▸ h
/-- two operands, then a rule on their values that changes nothing -/
theorem e_op {r : R2} [Mn A] (ha : Ev ta σ W A x) (hb : Ev tb σ W B y) (hr : ∀ W1 v w (Q : VK), Le W W1 → A W1.G x v → B W1.G y w → (∀ u W2, Le W1 W2 → C W2.G z u → Q u W2.H) → r v w W1.H Q) : Ev (tOp r ta tb) σ W C z := fun W1 l Q q =>
  ha W1 l _ fun v W2 l2 h2 => hb W2 (l.trans l2) _ fun w W3 l3 h3 => hr W3 v w Q ((l.trans l2).trans l3) (Mn.mn l3.g h2) h3 fun u W4 l4 h4 => q u W4 ((l2.trans l3).trans l4) h4
theorem e_un {r : V → Hp → VK → Prop} (ha : Ev ta σ W A x) (hr : ∀ W1 v (Q : VK), Le W W1 → A W1.G x v → (∀ u W2, Le W1 W2 → C W2.G z u → Q u W2.H) → r v W1.H Q) : Ev (tUn r ta) σ W C z := fun W1 l Q q =>
  ha W1 l _ fun v W2 l2 h2 => hr W2 v Q (l.trans l2) h2 fun u W3 l3 h3 => q u W3 (l2.trans l3) h3
theorem e_opI {g : Int → Int → V} (ha : Ev ta σ W rI i) (hb : Ev tb σ W rI j) (h : C W.G z (g i j)) [Mn C] : Ev (tOp (rI0 g) ta tb) σ W C z :=
  e_op ha hb fun W1 v w Q l h1 h2 q => ⟨i, j, h1, h2, q _ W1 (Le.refl l.s) (Mn.mn l.g h)⟩
theorem e_opC {P : Int → Int → Prop} {g : Int → Int → V} (ha : Ev ta σ W rI i) (hb : Ev tb σ W rI j) (hc : P i j) (h : C W.G z (g i j)) [Mn C] : Ev (tOp (L2.rI P g) ta tb) σ W C z :=
  e_op ha hb fun W1 v w Q l h1 h2 q => ⟨i, j, h1, h2, hc, q _ W1 (Le.refl l.s) (Mn.mn l.g h)⟩
theorem e_add (ha : Ev ta σ W rI i) (hb : Ev tb σ W rI j) : Ev (tOp (rI0 fun i j => .int (i + j)) ta tb) σ W rI (i + j) := e_opI ha hb rfl
theorem e_sub' (ha : Ev ta σ W rI i) (hb : Ev tb σ W rI j) : Ev (tOp (rI0 fun i j => .int (i - j)) ta tb) σ W rI (i - j) := e_opI ha hb rfl
theorem e_mul (ha : Ev ta σ W rI i) (hb : Ev tb σ W rI j) (h : CMul i j) : Ev (tOp (L2.rI CMul fun i j => .int (i * j)) ta tb) σ W rI (i * j) := e_opC ha hb h rfl
theorem e_fdiv (ha : Ev ta σ W rI i) (hb : Ev tb σ W rI j) (h : CDivN i j) : Ev (tOp (L2.rI CDivN fun i j => .int (i.fdiv j)) ta tb) σ W rI (i.fdiv j) := e_opC ha hb h rfl
theorem e_fmod (ha : Ev ta σ W rI i) (hb : Ev tb σ W rI j) (h : j ≠ 0) : Ev (tOp (L2.rI (fun _ j => j ≠ 0) fun i j => .int (i.fmod j)) ta tb) σ W rI (i.fmod j) := e_opC ha hb h rfl
theorem e_pow (ha : Ev ta σ W rI i) (hb : Ev tb σ W rI j) (h : CPow i j) : Ev (tOp (L2.rI CPow fun i j => .int (i ^ j.toNat)) ta tb) σ W rI (i ^ j.toNat) := e_opC ha hb h rfl
theorem e_lt (ha : Ev ta σ W rI i) (hb : Ev tb σ W rI j) : Ev (tOp (rI0 fun i j => .bl (decide (i < j))) ta tb) σ W rB (decide (i < j)) := e_opI ha hb rfl
theorem e_le (ha : Ev ta σ W rI i) (hb : Ev tb σ W rI j) : Ev (tOp (rI0 fun i j => .bl (decide (i ≤ j))) ta tb) σ W rB (decide (i ≤ j)) := e_opI ha hb rfl
theorem e_gt (ha : Ev ta σ W rI i) (hb : Ev tb σ W rI j) : Ev (tOp (rI0 fun i j => .bl (decide (j < i))) ta tb) σ W rB (decide (j < i)) := e_opI ha hb rfl
theorem e_ge (ha : Ev ta σ W rI i) (hb : Ev tb σ W rI j) : Ev (tOp (rI0 fun i j => .bl (decide (j ≤ i))) ta tb) σ W rB (decide (j ≤ i)) := e_opI ha hb rfl
theorem dec_i {i j : Int} : decide (V.int i = V.int j) = decide (i = j) := by simp
theorem e_eqI (ha : Ev ta σ W rI i) (hb : Ev tb σ W rI j) : Ev (tOp rEq ta tb) σ W rB (decide (i = j)) :=
  e_op ha hb fun W1 v w Q l h1 h2 q => by
    obtain rfl : v = .int i := h1
    obtain rfl : w = .int j := h2
    exact ⟨rfl, q _ W1 (Le.refl l.s) (by show V.bl _ = V.bl _; rw [dec_i])⟩
theorem e_neI (ha : Ev ta σ W rI i) (hb : Ev tb σ W rI j) : Ev (tOp rNe ta tb) σ W rB (!decide (i = j)) :=
  e_op ha hb fun W1 v w Q l h1 h2 q => by
    obtain rfl : v = .int i := h1
    obtain rfl : w = .int j := h2
    exact ⟨rfl, q _ W1 (Le.refl l.s) (by show V.bl _ = V.bl _; rw [dec_i])⟩
/-- == of two bools -/
theorem e_neB {a b : Bool} (ha : Ev ta σ W rB a) (hb : Ev tb σ W rB b) : Ev (tOp rNe ta tb) σ W rB (!decide (a = b)) :=
  e_op ha hb fun W1 v w Q l h1 h2 q => by
    obtain rfl : v = .bl a := h1
    obtain rfl : w = .bl b := h2
    exact ⟨rfl, q _ W1 (Le.refl l.s) (by show V.bl _ = V.bl _; simp)⟩
theorem nonV {o : Option Int} : decide ((match o with | none => V.non | some i => .int i) = V.non) = o.isNone := by cases o <;> simp
theorem e_isN {o : Option Int} (ha : Ev ta σ W rO o) : Ev (tIsN ta) σ W rB o.isNone := fun W1 l Q q => ha W1 l _ fun v W2 l2 h => by
  obtain rfl : v = _ := h
  exact q _ W2 l2 (by show V.bl _ = V.bl _; rw [nonV])
theorem e_notN {o : Option Int} (ha : Ev ta σ W rO o) : Ev (tNotN ta) σ W rB o.isSome := fun W1 l Q q => ha W1 l _ fun v W2 l2 h => by
  obtain rfl : v = _ := h
  exact q _ W2 l2 (by show V.bl _ = V.bl _; rw [nonV]; cases o <;> rfl)
theorem e_someI (ha : Ev ta σ W rI i) : Ev ta σ W rO (some i) := e_sub (A' := rI) ha fun _ _ h => h
/-- bools -/
theorem e_and {a b : Bool} (h1 : Ev ta σ W rB a) (h2 : a = true → Ev tb σ W rB b) : Ev (tAndV ta tb) σ W rB (a && b) := fun W1 l Q q => h1 W1 l _ fun v W2 l2 e => ⟨a, e, by
  cases a with
  | true => exact h2 rfl W2 (l.trans l2) Q fun v W3 l3 h => q v W3 (l2.trans l3) h
  | false => exact q _ W2 l2 rfl⟩
theorem e_or {a b : Bool} (h1 : Ev ta σ W rB a) (h2 : a = false → Ev tb σ W rB b) : Ev (tOrV ta tb) σ W rB (a || b) := fun W1 l Q q => h1 W1 l _ fun v W2 l2 e => ⟨a, e, by
  cases a with
  | true => exact q _ W2 l2 rfl
  | false => exact h2 rfl W2 (l.trans l2) Q fun v W3 l3 h => q v W3 (l2.trans l3) h⟩
theorem e_not {a : Bool} (h1 : Ev ta σ W rB a) : Ev (tNotV ta) σ W rB (!a) := fun W1 l Q q => h1 W1 l _ fun v W2 l2 e => ⟨a, e, q _ W2 l2 rfl⟩
theorem t_B {b : Bool} (h : Ev te σ W rB b) : Et (tB te) σ W b := fun W1 l Q q => h W1 l _ fun v W2 l2 e => ⟨b, e, q W2 l2⟩
theorem t_test {b : Bool} (h : Ev te σ W rB b) : Et (tTest te) σ W b := fun W1 l Q q => h W1 l _ fun v W2 l2 e => ⟨b, e, q W2 l2⟩
theorem t_and {a b : Bool} (h1 : Et t σ W a) (h2 : a = true → Et u σ W b) : Et (tAnd t u) σ W (a && b) := fun W1 l Q q => h1 W1 l _ fun W2 l2 => by
  cases a with
  | true => exact h2 rfl W2 (l.trans l2) Q fun W3 l3 => q W3 (l2.trans l3)
  | false => exact q W2 l2
theorem t_or {a b : Bool} (h1 : Et t σ W a) (h2 : a = false → Et u σ W b) : Et (tOr t u) σ W (a || b) := fun W1 l Q q => h1 W1 l _ fun W2 l2 => by
  cases a with
  | true => exact q W2 l2
  | false => exact h2 rfl W2 (l.trans l2) Q fun W3 l3 => q W3 (l2.trans l3)
theorem t_not {a : Bool} (h1 : Et t σ W a) : Et (tNot t) σ W (!a) := fun W1 l Q q => h1 W1 l _ fun W2 l2 => q W2 l2
theorem t_yes : Et tYes σ W true := fun W1 l Q q => q W1 (Le.refl l.s)
theorem e_if {b : Bool} (h : Et t σ W b) (h1 : b = true → Ev ta σ W A x) (h2 : b = false → Ev tb σ W A x) : Ev (tIf t ta tb) σ W A x := fun W1 l Q q => h W1 l _ fun W2 l2 => by
  cases b with
  | true => exact h1 rfl W2 (l.trans l2) Q fun v W3 l3 h => q v W3 (l2.trans l3) h
  | false => exact h2 rfl W2 (l.trans l2) Q fun v W3 l3 h => q v W3 (l2.trans l3) h
/-- a rel1 b rel2 c of ints -/
theorem e_chain {g1 g2 : Int → Int → Bool} {k : Int} (ha : Ev ta σ W rI i) (hb : Ev tb σ W rI j) (hc : Ev tc σ W rI k) :
    Ev (tChain (rI0 fun i j => .bl (g1 i j)) (rI0 fun i j => .bl (g2 i j)) ta tb tc) σ W rB (g1 i j && g2 j k) := fun W1 l Q q =>
  ha W1 l _ fun v W2 l2 h2 => hb W2 (l.trans l2) _ fun w W3 l3 h3 => ⟨i, j, h2, h3, g1 i j, rfl, by
    generalize g1 i j = b at q ⊢
    cases b with
    | true => exact hc W3 ((l.trans l2).trans l3) _ fun u W4 l4 h4 => ⟨j, k, h3, h4, q _ W4 ((l2.trans l3).trans l4) (by show V.bl _ = V.bl _; simp)⟩
    | false => exact q _ W3 (l2.trans l3) (by show V.bl _ = V.bl _; simp)⟩
/-! tuples, lists -/
theorem e_pair [Mn A] [Mn B] (ha : Ev ta σ W A x) (hb : Ev tb σ W B y) : Ev (tTup (tCons ta (tCons tb tNil))) σ W (rP A B) (x, y) := fun W1 l Q q =>
  ha W1 l _ fun v W2 l2 h2 => hb W2 (l.trans l2) _ fun w W3 l3 h3 => ⟨by show 2 ≤ sizeLine; decide, fun p hp => q _ ⟨upd W3.G p _, upd W3.H p _⟩ ((l2.trans l3).trans (Le.new l3.s hp))
    ⟨p, v, w, rfl, upd_same, Mn.mn (Same_new (l3.s.free hp)) (Mn.mn l3.g h2), Mn.mn (Same_new (l3.s.free hp)) h3⟩⟩
theorem ea_nil : EvA tNil σ W (fun G vs => Paired (A G) [] vs) := fun W1 l Q q => q _ W1 (Le.refl l.s) .nil
theorem ea_cons [Mn A] {ts : TA} {xs : List α} (ha : Ev ta σ W A x) (hs : EvA ts σ W (fun G vs => Paired (A G) xs vs)) : EvA (tCons ta ts) σ W (fun G vs => Paired (A G) (x :: xs) vs) := fun W1 l Q q =>
  ha W1 l _ fun v W2 l2 h2 => hs W2 (l.trans l2) _ fun vs W3 l3 h3 => q _ W3 (l2.trans l3) (.cons (Mn.mn l3.g h2) h3)
theorem e_lst [Mn A] {ts : TA} {xs : List α} (hs : EvA ts σ W (fun G vs => Paired (A G) xs vs)) (hl : xs.length ≤ 100000) : Ev (tLst ts) σ W (rL A) xs := fun W1 l Q q =>
  hs W1 l _ fun vs W2 l2 h2 => ⟨by rw [← Paired.length h2]; exact Nat.le_trans hl (by decide), fun p hp => q _ ⟨upd W2.G p _, upd W2.H p _⟩ (l2.trans (Le.new l2.s hp)) ⟨p, vs, rfl, upd_same, pa_mono (Same_new (l2.s.free hp)) h2⟩⟩
theorem e_fst (h : Ev ta σ W (rP A B) (x, y)) : Ev (tOp (rIxT K) ta (tC (.int 0))) σ W A x := fun W1 l Q q =>
  h W1 l _ fun v W2 l2 ⟨a, x', y', e, g, h1, h2⟩ => ⟨a, [x', y'], 0, x', e, rfl, SqT.of (l2.s.tup g), rfl, q _ W2 l2 h1⟩
theorem e_snd (h : Ev ta σ W (rP A B) (x, y)) : Ev (tOp (rIxT K) ta (tC (.int 1))) σ W B y := fun W1 l Q q =>
  h W1 l _ fun v W2 l2 ⟨a, x', y', e, g, h1, h2⟩ => ⟨a, [x', y'], 1, y', e, rfl, SqT.of (l2.s.tup g), rfl, q _ W2 l2 h2⟩
theorem e_fst' {p : α × β} (h : Ev ta σ W (rP A B) p) : Ev (tOp (rIxT K) ta (tC (.int 0))) σ W A p.1 := e_fst (y := p.2) h
theorem e_snd' {p : α × β} (h : Ev ta σ W (rP A B) p) : Ev (tOp (rIxT K) ta (tC (.int 1))) σ W B p.2 := e_snd (x := p.1) h
theorem atI_nat' {xs : List V} {k : Nat} {v : V} (h : xs[k]? = some v) : atI xs (k : Int) = some v := atI_nat h
theorem e_ixL {xs : List α} {k : Nat} (h : Ev ta σ W (rL A) xs) (hi : Ev tb σ W rI (k : Int)) (e : xs[k]? = some x) [Mn A] : Ev (tOp (rIxL K) ta tb) σ W A x :=
  e_op h hi fun W1 v w Q l ⟨a, vs, e1, g, ps⟩ h2 q => by
    obtain ⟨v', e2, hv⟩ := pa_get ps e
    exact ⟨a, vs, k, v', e1, h2, SqL.of (l.s.lst g), atI_nat e2, q _ W1 (Le.refl l.s) hv⟩
theorem e_ixT {xs : List α} {k : Nat} (h : Ev ta σ W (rT A) xs) (hi : Ev tb σ W rI (k : Int)) (e : xs[k]? = some x) [Mn A] : Ev (tOp (rIxT K) ta tb) σ W A x :=
  e_op h hi fun W1 v w Q l ⟨a, vs, e1, g, ps⟩ h2 q => by
    obtain ⟨v', e2, hv⟩ := pa_get ps e
    exact ⟨a, vs, k, v', e1, h2, SqT.of (l.s.tup g), atI_nat e2, q _ W1 (Le.refl l.s) hv⟩
theorem atI_m1 {xs : List V} {v : V} (h : xs[xs.length - 1]? = some v) : atI xs (-1) = some v := by
  have hl : 0 < xs.length := by
    rcases Nat.eq_zero_or_pos xs.length with q | q
    · rw [List.eq_nil_of_length_eq_zero q] at h; cases h
    · exact q
  unfold atI ixN
  rw [if_neg (by decide), if_pos (by omega), show ((-1 : Int) + (xs.length : Int)).toNat = xs.length - 1 by omega]
  exact h
theorem e_lastT {xs : List α} (h : Ev ta σ W (rT A) xs) (e : xs[xs.length - 1]? = some x) : Ev (tOp (rIxT K) ta (tUn (rU fun i => .int (-i)) (tC (.int 1)))) σ W A x := fun W1 l Q q =>
  h W1 l _ fun v W2 l2 ⟨a, vs, e1, g, ps⟩ => by
    obtain ⟨v', e2, hv⟩ := pa_get ps e
    rw [Paired.length ps] at e2
    exact ⟨1, rfl, a, vs, -1, v', e1, rfl, SqT.of (l2.s.tup g), atI_m1 e2, q _ W2 l2 hv⟩
theorem e_lastL {xs : List α} (h : Ev ta σ W (rL A) xs) (e : xs[xs.length - 1]? = some x) : Ev (tOp (rIxL K) ta (tUn (rU fun i => .int (-i)) (tC (.int 1)))) σ W A x := fun W1 l Q q =>
  h W1 l _ fun v W2 l2 ⟨a, vs, e1, g, ps⟩ => by
    obtain ⟨v', e2, hv⟩ := pa_get ps e
    rw [Paired.length ps] at e2
    exact ⟨1, rfl, a, vs, -1, v', e1, rfl, SqL.of (l2.s.lst g), atI_m1 e2, q _ W2 l2 hv⟩
theorem e_cat {xs ys : List α} (ha : Ev ta σ W (rL A) xs) (hb : Ev tb σ W (rL A) ys) [Mn A] (hl : xs.length + ys.length ≤ 100000) : Ev (tOp rCat ta tb) σ W (rL A) (xs ++ ys) :=
  e_op ha hb fun W1 v w Q l ⟨a, vs, e1, g, ps⟩ ⟨b, ws, e2, g2, ps2⟩ q => ⟨a, b, vs, ws, e1, e2, l.s.lst g, l.s.lst g2, by
      rw [← Paired.length ps, ← Paired.length ps2]
      exact Nat.le_trans hl (by decide), fun p hp => q _ ⟨upd W1.G p _, upd W1.H p _⟩ (Le.new l.s hp) ⟨p, _, rfl, upd_same, pa_mono (Same_new (l.s.free hp)) (pa_app ps ps2)⟩⟩
/-! built-ins -/
theorem e_cb1 {r : List V → Hp → VK → Prop} (ha : Ev ta σ W A x) (hr : ∀ W1 v (Q : VK), Le W W1 → A W1.G x v → (∀ u W2, Le W1 W2 → C W2.G z u → Q u W2.H) → r [v] W1.H Q) : Ev (tCB r (tCons ta tNil)) σ W C z := fun W1 l Q q =>
  ha W1 l _ fun v W2 l2 h2 => hr W2 v Q (l.trans l2) h2 fun u W3 l3 h3 => q u W3 (l2.trans l3) h3
abbrev rLenQ (K : PySem.W.Frag) : List V → Hp → VK → Prop := fun xs H Q => ∃ p ys, xs = [.ref p] ∧ (SqL K H p ys ∨ SqT K H p ys) ∧ Q (.int ys.length) H
theorem e_lenL {xs : List α} (ha : Ev ta σ W (rL A) xs) : Ev (tCB (rLenQ K) (tCons ta tNil)) σ W rI (xs.length : Int) :=
  e_cb1 ha fun W1 v Q l ⟨a, vs, e1, g, ps⟩ q => ⟨a, vs, by rw [e1], .inl (SqL.of (l.s.lst g)), q _ W1 (Le.refl l.s) (by rw [← Paired.length ps]; rfl)⟩
theorem e_lenT {xs : List α} (ha : Ev ta σ W (rT A) xs) : Ev (tCB (rLenQ K) (tCons ta tNil)) σ W rI (xs.length : Int) :=
  e_cb1 ha fun W1 v Q l ⟨a, vs, e1, g, ps⟩ q => ⟨a, vs, by rw [e1], .inr (SqT.of (l.s.tup g)), q _ W1 (Le.refl l.s) (by rw [← Paired.length ps]; rfl)⟩
abbrev rLenStr : List V → Hp → VK → Prop := fun xs H Q => ∃ z, xs = [.str z] ∧ z.length ≤ sizeLine ∧ Q (.int z.length) H
theorem e_lenS {s : Str} (ha : Ev ta σ W rS s) (h : s.length ≤ 100000) : Ev (tCB rLenStr (tCons ta tNil)) σ W rI (s.length : Int) :=
  e_cb1 ha fun W1 v Q l e q => ⟨s, by rw [show v = _ from e], Nat.le_trans h (by decide), q _ W1 (Le.refl l.s) rfl⟩
abbrev rInt1 : List V → Hp → VK → Prop := fun xs H Q => (∃ i, xs = [.int i] ∧ Q (.int i) H) ∨ ∃ k, xs = [.bl k] ∧ Q (.int (if k then 1 else 0)) H
theorem e_intI (ha : Ev ta σ W rI i) : Ev (tCB rInt1 (tCons ta tNil)) σ W rI i := e_cb1 ha fun W1 v Q l e q => .inl ⟨i, by rw [show v = _ from e], q _ W1 (Le.refl l.s) rfl⟩
theorem e_intB {b : Bool} (ha : Ev ta σ W rB b) : Ev (tCB rInt1 (tCons ta tNil)) σ W rI (if b then 1 else 0) := e_cb1 ha fun W1 v Q l e q => .inr ⟨b, by rw [show v = _ from e], q _ W1 (Le.refl l.s) rfl⟩
abbrev rAbsI : List V → Hp → VK → Prop := fun xs H Q => ∃ i, xs = [.int i] ∧ Q (.int (if i < 0 then -i else i)) H
theorem e_abs (ha : Ev ta σ W rI i) : Ev (tCB rAbsI (tCons ta tNil)) σ W rI (if i < 0 then -i else i) := e_cb1 ha fun W1 v Q l e q => ⟨i, by rw [show v = _ from e], q _ W1 (Le.refl l.s) rfl⟩
theorem sq_ints {G H : Hp} {a : Addr} {xs : List Int} {vs : List V} (s : Sub G H) (g : G a = some (.lst vs)) (ps : Paired (rI G) xs vs) : SqL K H a (xs.map V.int) := by
  rw [← pa_ints ps]
  exact SqL.of (s.lst g)
theorem e_sum {xs : List Int} (ha : Ev ta σ W (rL rI) xs) : Ev (tCB (rSum K) (tCons ta tNil)) σ W rI xs.sum :=
  e_cb1 ha fun W1 v Q l ⟨a, vs, e1, g, ps⟩ q => ⟨a, xs, by rw [e1], sq_ints l.s g ps, q _ W1 (Le.refl l.s) rfl⟩
theorem e_all {xs : List Bool} (ha : Ev ta σ W (rL rB) xs) : Ev (tCB (rAll K) (tCons ta tNil)) σ W rB (xs.all id) :=
  e_cb1 ha fun W1 v Q l ⟨a, vs, e1, g, ps⟩ q => ⟨a, xs, by rw [e1], by rw [← pa_bools ps]; exact SqL.of (l.s.lst g), q _ W1 (Le.refl l.s) rfl⟩
theorem e_min {xs : List Int} (ha : Ev ta σ W (rL rI) xs) (h : xs ≠ []) : Ev (tCB (rMin K) (tCons ta tNil)) σ W rI (minL xs) :=
  e_cb1 ha fun W1 v Q l ⟨a, vs, e1, g, ps⟩ q => ⟨a, xs, by rw [e1], sq_ints l.s g ps, List.length_pos_iff.mpr h, fun m hm hle => q _ W1 (Le.refl l.s) (by rw [minL_eq hm hle]; rfl)⟩
theorem e_max {xs : List Int} (ha : Ev ta σ W (rL rI) xs) (h : xs ≠ []) : Ev (tCB (rMax K) (tCons ta tNil)) σ W rI (maxL xs) :=
  e_cb1 ha fun W1 v Q l ⟨a, vs, e1, g, ps⟩ q => ⟨a, xs, by rw [e1], sq_ints l.s g ps, List.length_pos_iff.mpr h, fun m hm hle => q _ W1 (Le.refl l.s) (by rw [maxL_eq hm hle]; rfl)⟩
abbrev rMaxTwo : List V → Hp → VK → Prop := fun xs H Q => ∃ i j, xs = [.int i, .int j] ∧ Q (.int (if j > i then j else i)) H
theorem e_max2 (ha : Ev ta σ W rI i) (hb : Ev tb σ W rI j) : Ev (tCB rMaxTwo (tCons ta (tCons tb tNil))) σ W rI (max i j) := fun W1 l Q q =>
  ha W1 l _ fun v W2 l2 h2 => hb W2 (l.trans l2) _ fun w W3 l3 h3 => ⟨i, j, by rw [show v = _ from h2, show w = _ from h3], q _ W3 (l2.trans l3) (by show V.int _ = V.int _; congr 1; split <;> omega)⟩
theorem e_sorted {xs : List Int} (ha : Ev ta σ W (rL rI) xs) : Ev (tCB (rSortedI K) (tCons ta tNil)) σ W (rL rI) (sortI xs) :=
  e_cb1 ha fun W1 v Q l ⟨a, vs, e1, g, ps⟩ q => ⟨a, xs, by rw [e1], sq_ints l.s g ps, fun ns p hp hs hn => by
    rw [sortI_eq hp hs]
    exact q _ ⟨upd W1.G p _, upd W1.H p _⟩ (Le.new l.s hn) ⟨p, _, rfl, upd_same, pa_of_ints _⟩⟩
end

/-! ### promises -/
section
variable {α β γ δ ε : Type}
/-- a def that changes nothing: In tells the arguments, Pre what is asked, f x is handed back -/
def Prm (In : Hp → α → List V → Prop) (Pre : α → Prop) (B : Hp → β → V → Prop) (f : α → β) : Sp := fun vs H Q _ => ∃ (G : Hp) (x : α), Sub G H ∧ In G x vs ∧ Pre x ∧ ∀ v W', Le ⟨G, H⟩ W' → B W'.G (f x) v → Q v W'.H
def In1 (A : Hp → α → V → Prop) : Hp → α → List V → Prop := fun G x vs => ∃ a, vs = [a] ∧ A G x a
def In2 (A : Hp → α → V → Prop) (B : Hp → β → V → Prop) : Hp → α × β → List V → Prop := fun G x vs => ∃ a b, vs = [a, b] ∧ A G x.1 a ∧ B G x.2 b
def In3 (A : Hp → α → V → Prop) (B : Hp → β → V → Prop) (C : Hp → γ → V → Prop) : Hp → α × β × γ → List V → Prop := fun G x vs => ∃ a b c, vs = [a, b, c] ∧ A G x.1 a ∧ B G x.2.1 b ∧ C G x.2.2 c
variable {A : Hp → α → V → Prop} {B : Hp → β → V → Prop} {C : Hp → γ → V → Prop} {D : Hp → δ → V → Prop} {σ : L2.St} {W : Wd} {ta tb tc : TE} {E : XK} {x : α} {y : β} {z : γ}
theorem pr_len1 {Pre : α → Prop} {f : α → δ} (vs : List V) (H : Hp) (Q : VK) (E : XK) (h : Prm (In1 A) Pre D f vs H Q E) : vs.length = 1 := by
  obtain ⟨G, x, _, ⟨a, rfl, _⟩, _⟩ := h
  rfl
theorem pr_len2 {Pre : α × β → Prop} {f : α × β → δ} (vs : List V) (H : Hp) (Q : VK) (E : XK) (h : Prm (In2 A B) Pre D f vs H Q E) : vs.length = 2 := by
  obtain ⟨G, x, _, ⟨a, b, rfl, _⟩, _⟩ := h
  rfl
theorem pr_len3 {Pre : α × β × γ → Prop} {f : α × β × γ → δ} (vs : List V) (H : Hp) (Q : VK) (E : XK) (h : Prm (In3 A B C) Pre D f vs H Q E) : vs.length = 3 := by
  obtain ⟨G, x, _, ⟨a, b, c, rfl, _⟩, _⟩ := h
  rfl
theorem e_call1 {Pre : α → Prop} {f : α → δ} (ha : Ev ta σ W A x) (hp : Pre x) : Ev (tCall (Prm (In1 A) Pre D f) [] E (tCons ta tNil)) σ W D (f x) := fun W1 l Q q =>
  ha W1 l _ fun v W2 l2 h2 => ⟨W2.G, x, l2.s, ⟨v, rfl, h2⟩, hp, fun u W3 l3 h3 => q u W3 (l2.trans l3) h3⟩
theorem e_call2 [Mn A] {Pre : α × β → Prop} {f : α × β → δ} (ha : Ev ta σ W A x) (hb : Ev tb σ W B y) (hp : Pre (x, y)) : Ev (tCall (Prm (In2 A B) Pre D f) [] E (tCons ta (tCons tb tNil))) σ W D (f (x, y)) := fun W1 l Q q =>
  ha W1 l _ fun v W2 l2 h2 => hb W2 (l.trans l2) _ fun w W3 l3 h3 => ⟨W3.G, (x, y), l3.s, ⟨v, w, rfl, Mn.mn l3.g h2, h3⟩, hp, fun u W4 l4 h4 => q u W4 ((l2.trans l3).trans l4) h4⟩
theorem e_call3 [Mn A] [Mn B] {Pre : α × β × γ → Prop} {f : α × β × γ → δ} (ha : Ev ta σ W A x) (hb : Ev tb σ W B y) (hc : Ev tc σ W C z) (hp : Pre (x, y, z)) : Ev (tCall (Prm (In3 A B C) Pre D f) [] E (tCons ta (tCons tb (tCons tc tNil)))) σ W D (f (x, y, z)) := fun W1 l Q q =>
  ha W1 l _ fun v W2 l2 h2 => hb W2 (l.trans l2) _ fun w W3 l3 h3 => hc W3 ((l.trans l2).trans l3) _ fun u W4 l4 h4 =>
    ⟨W4.G, (x, y, z), l4.s, ⟨v, w, u, rfl, Mn.mn (l3.g.trans l4.g) h2, Mn.mn l4.g h3, h4⟩, hp, fun u W5 l5 h5 => q u W5 (((l2.trans l3).trans l4).trans l5) h5⟩
end

/-! ### statements -/
section
variable {α β γ : Type} {A : Hp → α → V → Prop} {B : Hp → β → V → Prop} {σ : L2.St} {W : Wd} {D : Ends} {te : TE} {t : TT} {tu tw : TS} {x : α}
theorem s_set {i : Nat} (s : Sub W.G W.H) (h : Ev te σ W A x) (k : ∀ v W', Le W W' → A W'.G x v → D.nx (σ.set i (some v)) W'.H) : tAsg te (gName i) D σ W.H := h W (Le.refl s) _ k
theorem s_ret (s : Sub W.G W.H) (h : Ev te σ W A x) (k : ∀ v W', Le W W' → A W'.G x v → D.rt v W'.H) : tRet te D σ W.H := h W (Le.refl s) _ k
theorem s_if {b : Bool} (s : Sub W.G W.H) (h : Et t σ W b) (h1 : b = true → ∀ W', Le W W' → tu D σ W'.H) (h2 : b = false → ∀ W', Le W W' → tw D σ W'.H) : tIfS t tu tw D σ W.H := h W (Le.refl s) _ fun W' l => by
  cases b with
  | true => exact h1 rfl W' l
  | false => exact h2 rfl W' l
theorem s_drop (s : Sub W.G W.H) (h : Ev te σ W A x) (k : ∀ W', Le W W' → D.nx σ W'.H) : tDrop te D σ W.H := h W (Le.refl s) _ fun _ W' l _ => k W' l
end
end K53
end

/-! K53L2 -/
section
/-! Iterations, loops, comprehensions, dicts, instances over worlds. -/
namespace K53
open PySem PySem.Spec PyProof.Rows L2
section
variable {α β γ δ : Type} {A : Hp → α → V → Prop} {B : Hp → β → V → Prop} {C : Hp → γ → V → Prop} {σ : L2.St} {W : Wd} {K : PySem.W.Frag} {te tl ta tb : TE} {xs : List α}

/-! ### iterations -/
/-- under S: xs.length turns, each gives the next of xs -/
def AIt (J : It) (A : Hp → α → V → Prop) (xs : List α) (S : Wd → Prop) : Prop := ∀ W, S W → J.stop xs.length W.H ∧ (∀ i, i < xs.length → J.go i W.H) ∧
  ∀ i v H', i < xs.length → J.yld i W.H v H' → ∃ W' x, H' = W'.H ∧ Le W W' ∧ xs[i]? = some x ∧ A W'.G x v
def Ig (wi : TI) (σ : L2.St) (W : Wd) (A : Hp → α → V → Prop) (xs : List α) : Prop := ∀ W1, Le W W1 → ∀ R : It → Hp → Prop,
  (∀ J W2, Le W1 W2 → AIt J A xs (fun W3 => Same W2.G W3.G ∧ Sub W3.G W3.H) → R J W2.H) → wi σ W1.H R
def Iw (wi : TI) (σ : L2.St) (W : Wd) (A : Hp → α → V → Prop) (xs : List α) : Prop := ∀ W1, Le W W1 → ∀ R : It → Hp → Prop,
  (∀ J W2, Le W1 W2 → AIt J A xs (fun W3 => Le W2 W3) → R J W2.H) → wi σ W1.H R
theorem Ig.w {wi : TI} (h : Ig wi σ W A xs) : Iw wi σ W A xs := fun W1 l R q => h W1 l R fun J W2 l2 a => q J W2 l2 fun W3 l3 => a W3 ⟨l3.g, l3.s⟩
theorem get_in {i : Nat} (h : i < xs.length) : ∃ x, xs[i]? = some x := ⟨xs[i], by simp [h]⟩
theorem ig_list [Mn A] (h : Ev tl σ W (rL A) xs) : Ig (iList K tl) σ W A xs := fun W1 l R q => h W1 l _ fun v W2 l2 ⟨a, vs, e, g, ps⟩ =>
  ⟨a, e, ⟨vs, SqL.of (l2.s.lst g)⟩, q _ W2 l2 fun W3 ⟨g3, s3⟩ => by
    have hS : SqL K W3.H a vs := SqL.of (s3.lst (g3 _ _ g))
    have hl := Paired.length ps
    refine ⟨⟨vs, hS, by omega⟩, fun i hi => ⟨vs, vs[i], hS, by simp [show i < vs.length by omega]⟩, fun i v H' hi ⟨e1, y⟩ => ?_⟩
    subst e1
    obtain ⟨x, h1, h2⟩ := pa_at ps (y vs hS)
    exact ⟨W3, x, rfl, Le.refl s3, h1, Mn.mn g3 h2⟩⟩
theorem ig_tup [Mn A] (h : Ev tl σ W (rT A) xs) : Ig (iTup K tl) σ W A xs := fun W1 l R q => h W1 l _ fun v W2 l2 ⟨a, vs, e, g, ps⟩ =>
  ⟨a, e, ⟨vs, SqT.of (l2.s.tup g)⟩, q _ W2 l2 fun W3 ⟨g3, s3⟩ => by
    have hS : SqT K W3.H a vs := SqT.of (s3.tup (g3 _ _ g))
    have hl := Paired.length ps
    refine ⟨⟨vs, hS, by omega⟩, fun i hi => ⟨vs, vs[i], hS, by simp [show i < vs.length by omega]⟩, fun i v H' hi ⟨e1, y⟩ => ?_⟩
    subst e1
    obtain ⟨x, h1, h2⟩ := pa_at ps (y vs hS)
    exact ⟨W3, x, rfl, Le.refl s3, h1, Mn.mn g3 h2⟩⟩
def enumI (xs : List α) : List (Int × α) := xs.mapIdx fun i x => ((i : Int), x)
theorem ig_enum [Mn A] (h : Ev tl σ W (rL A) xs) : Ig (iEnum K (tCons tl tNil)) σ W (rP rI A) (enumI xs) := fun W1 l R q => h W1 l _ fun v W2 l2 ⟨a, vs, e, g, ps⟩ =>
  ⟨a, vs, by rw [e], SqL.of (l2.s.lst g), q _ W2 l2 fun W3 ⟨g3, s3⟩ => by
    have hS : SqL K W3.H a vs := SqL.of (s3.lst (g3 _ _ g))
    have hl := Paired.length ps
    have he : (enumI xs).length = xs.length := by simp [enumI]
    refine ⟨⟨vs, hS, by omega⟩, fun i hi => ⟨vs, vs[i]'(by omega), hS, by simp [show i < vs.length by omega]⟩, fun i v H' hi ⟨T, x, e1, hT, e2, y⟩ => ?_⟩
    obtain ⟨x', h1, h2⟩ := pa_at ps (y vs hS)
    refine ⟨⟨upd W3.G T _, upd W3.H T _⟩, ((i : Int), x'), e2, Le.new s3 hT, by simp [enumI, h1], T, .int (i : Nat), x, e1, upd_same, rfl, Mn.mn (g3.trans (Same_new (s3.free hT))) h2⟩⟩
theorem ig_rng1 {n : Int} (h : Ev te σ W rI n) (hn : 0 ≤ n ∧ n ≤ 100000) : Ig (iRng1 (tCons te tNil)) σ W rI (rangeI 0 n) := fun W1 l R q => h W1 l _ fun v W2 l2 e =>
  ⟨n, by rw [show v = _ from e], by omega, by omega, q _ W2 l2 fun W3 ⟨g3, s3⟩ => by
    have hl : (rangeI 0 n).length = n.toNat := by simp [rangeI]
    refine ⟨by show n.toNat ≤ _; omega, fun i hi => by show i < n.toNat; omega, fun i v H' hi ⟨e1, e2⟩ => ⟨W3, (i : Int), e1, Le.refl s3, ?_, ?_⟩⟩
    · have : i < n.toNat := by omega
      simp [rangeI, this]
    · rw [e2]; show V.int _ = V.int _; congr 1; omega⟩
theorem ig_rng2 {lo n : Int} (h : Ev ta σ W rI lo) (h2 : Ev tb σ W rI n) (hn : -100000 ≤ lo ∧ lo ≤ 100000 ∧ -100000 ≤ n ∧ n ≤ 100000) : Ig (iRng2 (tCons ta (tCons tb tNil))) σ W rI (rangeI lo n) := fun W1 l R q => h W1 l _ fun v W2 l2 e => h2 W2 (l.trans l2) _ fun w W3 l3 e2 =>
  ⟨lo, n, by rw [show v = _ from e, show w = _ from e2], ⟨by omega, by omega, by omega, by omega⟩, q _ W3 (l2.trans l3) fun W4 ⟨g3, s3⟩ => by
    have hl : (rangeI lo n).length = (n - lo).toNat := by simp [rangeI]
    refine ⟨by show (n - lo).toNat ≤ _; omega, fun i hi => by show i < (n - lo).toNat; omega, fun i v H' hi ⟨e1, e2⟩ => ⟨W4, lo + (i : Int), e1, Le.refl s3, ?_, ?_⟩⟩
    · have : i < (n - lo).toNat := by omega
      simp [rangeI, this]
    · rw [e2]; rfl⟩
/-- a letter of a text, by its code -/
def rC (_ : Hp) (c : Nat) (v : V) : Prop := v = .str ⟨#[c]⟩
instance : Mn rC := ⟨fun _ h => h⟩
theorem ig_str {s : Str} (h : Ev te σ W rS s) : Ig (iStr te) σ W rC s.cps.toList := fun W1 l R q => h W1 l _ fun v W2 l2 e =>
  ⟨s, e, q _ W2 l2 fun W3 ⟨g3, s3⟩ => by
    refine ⟨by show s.cps.size ≤ _; simp, fun i hi => by show i < s.cps.size; simpa using hi, fun i v H' hi ⟨e1, c, h1, h2⟩ => ⟨W3, c, e1, Le.refl s3, by simpa using h1, h2⟩⟩⟩

/-! ### targets -/
theorem g_pair {i j : Nat} {p : α × β} {v : V} {Q : L2.St → Hp → Prop} (s : Sub W.G W.H) (h : rP A B W.G p v) (k : ∀ a b, A W.G p.1 a → B W.G p.2 b → Q ((σ.set i (some a)).set j (some b)) W.H) :
    gTup K 2 (gCons (gName i) (gCons (gName j) gNil)) v σ W.H Q := by
  obtain ⟨a, x, y, e, g, h1, h2⟩ := h
  exact ⟨a, [x, y], e, SqT.of (s.tup g), rfl, x, [y], rfl, y, [], rfl, rfl, k x y h1 h2⟩

/-! ### comprehensions -/
theorem e_lc {wi : TI} {g : TG} {tt : TT} {vs : List Nat} (p : α → Bool) (f : α → β) [Mn B] (hi : Iw wi σ W A xs) (hx : xs.length ≤ 40000)
    (hs : ∀ x v W1, x ∈ xs → Le W W1 → A W1.G x v → ∃ σ2, (∀ Q : L2.St → Hp → Prop, Q σ2 W1.H → g v (wipe σ vs) W1.H Q) ∧ wipe σ2 vs = wipe σ vs ∧ Et tt σ2 W1 (p x) ∧ (p x = true → Ev te σ2 W1 B (f x))) :
    Ev (tLc wi g tt te vs) σ W (rL B) ((xs.filter p).map f) := fun W1 l Q q => hi W1 l _ fun J W2 l2 a => fun Dl hD => by
  refine ⟨fun i m H => m = xs.length - i ∧ i ≤ xs.length ∧ ∃ G ws, Le W2 ⟨G, H⟩ ∧ G Dl = none ∧ H Dl = some (.lst ws) ∧ Paired (B G) (((xs.take i).filter p).map f) ws,
    ⟨xs.length, by simp, Nat.zero_le _, W2.G, [], Le.mut l2.s hD, l2.s.free hD, upd_same, .nil⟩, ?_⟩
  rintro i m H ⟨rfl, hi', G, ws, lG, gD, hH, ps⟩
  obtain ⟨stop, go, yld⟩ := a ⟨G, H⟩ lG
  by_cases hlt : i < xs.length
  · refine .inr ⟨go i hlt, fun H' => ∃ G' ws', Le W2 ⟨G', H'⟩ ∧ G' Dl = none ∧ H' Dl = some (.lst ws') ∧ Paired (B G') (((xs.take (i + 1)).filter p).map f) ws',
      fun H' h' => ⟨xs.length - (i + 1), by omega, rfl, hlt, h'⟩, fun v H' y => ?_⟩
    obtain ⟨W3, x, e, l3, hx', hA⟩ := yld i v H' hlt y
    subst e
    have hmem : x ∈ xs := List.mem_of_getElem? hx'
    have lW3 : Le W2 W3 := lG.trans l3
    obtain ⟨σ2, hg, hw, ht, he⟩ := hs x v W3 hmem ((l.trans l2).trans lW3) hA
    have gD3 : W3.G Dl = none := l3.gone hH (fun _ z => nomatch z) gD
    have hH3 : W3.H Dl = some (.lst ws) := l3.h.lst hH
    have etake : xs.take (i + 1) = xs.take i ++ [x] := by rw [List.take_add_one, hx']; rfl
    refine hg _ ⟨hw, ht W3 (Le.refl l3.s) _ fun W4 l4 => ?_⟩
    have gD4 : W4.G Dl = none := l4.gone hH3 (fun _ z => nomatch z) gD3
    have hH4 : W4.H Dl = some (.lst ws) := l4.h.lst hH3
    cases hp : p x with
    | true =>
      refine he hp W4 l4 _ fun z W5 l5 hz => ?_
      have gD5 : W5.G Dl = none := l5.gone hH4 (fun _ z => nomatch z) gD4
      have hH5 : W5.H Dl = some (.lst ws) := l5.h.lst hH4
      refine ⟨ws, hH5, ?_, W5.G, ws ++ [z], ((lW3.trans l4).trans l5).write hD gD5, gD5, upd_same, ?_⟩
      · rw [← Paired.length ps, List.length_map]
        refine Nat.lt_of_le_of_lt (List.length_filter_le _ _) ?_
        rw [List.length_take]
        exact Nat.lt_of_le_of_lt (Nat.min_le_right _ _) (Nat.lt_of_le_of_lt hx (by decide))
      · rw [etake, List.filter_append, List.map_append]
        refine pa_app (pa_mono ((l3.g.trans l4.g).trans l5.g) ps) ?_
        rw [List.filter_cons, if_pos hp]
        exact .cons hz .nil
    | false =>
      refine ⟨W4.G, ws, lW3.trans l4, gD4, hH4, ?_⟩
      rw [etake, List.filter_append, List.map_append, List.filter_cons, if_neg (by rw [hp]; decide)]
      simpa using pa_mono (l3.g.trans l4.g) ps
  · have e : i = xs.length := by omega
    subst e
    refine .inl ⟨stop, ?_⟩
    rw [List.take_length] at ps
    exact q _ ⟨upd G Dl _, H⟩ (l2.trans (lG.done hD gD hH)) ⟨Dl, ws, rfl, upd_same, pa_mono (Same_new gD) ps⟩
theorem filter_yes (xs : List α) : xs.filter (fun _ => true) = xs := by simp
/-- no test -/
theorem e_lc1 {wi : TI} {g : TG} {vs : List Nat} (f : α → β) [Mn B] (hi : Iw wi σ W A xs) (hx : xs.length ≤ 40000)
    (hs : ∀ x v W1, x ∈ xs → Le W W1 → A W1.G x v → ∃ σ2, (∀ Q : L2.St → Hp → Prop, Q σ2 W1.H → g v (wipe σ vs) W1.H Q) ∧ wipe σ2 vs = wipe σ vs ∧ Ev te σ2 W1 B (f x)) :
    Ev (tLc wi g tYes te vs) σ W (rL B) (xs.map f) := by
  have := e_lc (tt := tYes) (B := B) (fun _ => true) f hi hx (g := g) (vs := vs) (te := te) fun x v W1 hm l a => by
    obtain ⟨σ2, h1, h2, h3⟩ := hs x v W1 hm l a
    exact ⟨σ2, h1, h2, t_yes, fun _ => h3⟩
  rwa [filter_yes] at this

/-! ### loops -/
/-- behind a turn that began at W -/
def Nx (W : Wd) (P : L2.St → Wd → Prop) : L2.St → Hp → Prop := fun σ H => ∃ G, Same W.G G ∧ Sub G H ∧ P σ ⟨G, H⟩
theorem s_for {wi : TI} {g : TG} {tu : TS} {D : Ends} (Pv : Nat → L2.St → Wd → Prop) (s : Sub W.G W.H) (hi : Ig wi σ W A xs) (h0 : ∀ W1, Le W W1 → Pv 0 σ W1)
    (hs : ∀ i x v σ' W' W4, xs[i]? = some x → Pv i σ' W' → Sub W'.G W'.H → Le W' W4 → A W4.G x v → g v σ' W4.H fun σ2 H2 => tu { D with nx := Nx W' (Pv (i + 1)), ct := Nx W' (Pv (i + 1)), bk := D.nx } σ2 H2)
    (hd : ∀ σ' W', Sub W'.G W'.H → Pv xs.length σ' W' → D.nx σ' W'.H) : tFor wi g tu D σ W.H := hi W (Le.refl s) _ fun J W2 l2 a => by
  refine ⟨fun i m σ' H => m = xs.length - i ∧ i ≤ xs.length ∧ ∃ G, Same W2.G G ∧ Sub G H ∧ Pv i σ' ⟨G, H⟩, ⟨xs.length, by simp, Nat.zero_le _, W2.G, Same.refl _, l2.s, h0 W2 l2⟩, ?_⟩
  rintro i m σ' H ⟨rfl, hi', G, g3, s3, pv⟩
  obtain ⟨stop, go, yld⟩ := a ⟨G, H⟩ ⟨g3, s3⟩
  by_cases hlt : i < xs.length
  · refine .inr ⟨go i hlt, Nx ⟨G, H⟩ (Pv (i + 1)), fun σ2 H' ⟨G', h1, h2, h3⟩ => ⟨xs.length - (i + 1), by omega, rfl, hlt, G', g3.trans h1, h2, h3⟩, fun v H' y => ?_⟩
    obtain ⟨W4, x, e, l4, hx', hA⟩ := yld i v H' hlt y
    subst e
    exact hs i x v σ' ⟨G, H⟩ W4 hx' pv s3 l4 hA
  · have e : i = xs.length := by omega
    subst e
    exact .inl ⟨stop, hd σ' ⟨G, H⟩ s3 pv⟩

/-! ### instances -/
/-- an instance of the class at C whose attributes F tells -/
def rIn (C : Addr) (F : Hp → α → List (Str × V) → Prop) (G : Hp) (x : α) (v : V) : Prop := ∃ a dx fs, v = .ref a ∧ G a = some (.ins C dx fs) ∧ F G x fs
class MnF (F : Hp → α → List (Str × V) → Prop) : Prop where
  mn : ∀ {G G' : Hp} {x : α} {fs : List (Str × V)}, Same G G' → F G x fs → F G' x fs
instance {Cc : Addr} {F : Hp → α → List (Str × V) → Prop} [MnF F] : Mn (rIn Cc F) := ⟨fun e ⟨a, dx, fs, h1, h2, h3⟩ => ⟨a, dx, fs, h1, e _ _ h2, MnF.mn e h3⟩⟩
/-- the attribute f is y -/
def Has (f : Str) (B : Hp → β → V → Prop) (G : Hp) (y : β) (fs : List (Str × V)) : Prop := ∃ v, fs.lookup f = some v ∧ B G y v
theorem Has.mono {f : Str} [Mn B] {G G' : Hp} {y : β} {fs : List (Str × V)} (e : Same G G') (h : Has f B G y fs) : Has f B G' y fs := let ⟨v, h1, h2⟩ := h; ⟨v, h1, Mn.mn e h2⟩
theorem e_fld {Cc : Addr} {F : Hp → α → List (Str × V) → Prop} {x : α} {y : β} {f : Str} (h : Ev te σ W (rIn Cc F) x) (c : Cls K Cc) (n : NoAttr K Cc f) (hf : ∀ G fs, F G x fs → Has f B G y fs) : Ev (tFld K te f) σ W B y := fun W1 l Q q =>
  h W1 l _ fun v W2 l2 ⟨a, dx, fs, e, g, hF⟩ => by
    obtain ⟨u, h1, h2⟩ := hf W2.G fs hF
    exact ⟨a, Cc, dx, fs, u, e, l2.s.ins g, c, n, h1, q u W2 l2 h2⟩
/-- o.m(..) -/
theorem e_meth0 {Cc : Addr} {F : Hp → α → List (Str × V) → Prop} {x : α} {m : Str} {Pre : α → Prop} {f : α → β} {E : XK} (h : Ev te σ W (rIn Cc F) x) (hm : ∀ G fs, F G x fs → fs.lookup m = none) (hp : Pre x) :
    Ev (tMeth Cc m (Prm (In1 (rIn Cc F)) Pre B f) [] E te tNil) σ W B (f x) := fun W1 l Q q =>
  h W1 l _ fun v W2 l2 ⟨a, dx, fs, e, g, hF⟩ => ⟨a, dx, fs, e, l2.s.ins g, hm _ _ hF, W2.G, x, l2.s, ⟨v, rfl, a, dx, fs, e, g, hF⟩, hp, fun u W3 l3 h3 => q u W3 (l2.trans l3) h3⟩
theorem e_meth1 {Cc : Addr} {F : Hp → α → List (Str × V) → Prop} [MnF F] {x : α} {y : β} {m : Str} {Pre : α × β → Prop} {f : α × β → γ} {E : XK} (h : Ev te σ W (rIn Cc F) x) (hm : ∀ G fs, F G x fs → fs.lookup m = none) (ha : Ev ta σ W B y) (hp : Pre (x, y)) :
    Ev (tMeth Cc m (Prm (In2 (rIn Cc F) B) Pre C f) [] E te (tCons ta tNil)) σ W C (f (x, y)) := fun W1 l Q q =>
  h W1 l _ fun v W2 l2 ⟨a, dx, fs, e, g, hF⟩ => ⟨a, dx, fs, e, l2.s.ins g, hm _ _ hF, ha W2 (l.trans l2) _ fun w W3 l3 h3 =>
    ⟨W3.G, (x, y), l3.s, ⟨v, w, rfl, ⟨a, dx, fs, e, l3.g _ _ g, MnF.mn l3.g hF⟩, h3⟩, hp, fun u W4 l4 h4 => q u W4 ((l2.trans l3).trans l4) h4⟩⟩
theorem e_meth2 {Cc : Addr} {F : Hp → α → List (Str × V) → Prop} [MnF F] [Mn B] {x : α} {y : β} {z : γ} {D : Hp → δ → V → Prop} {m : Str} {Pre : α × β × γ → Prop} {f : α × β × γ → δ} {E : XK} (h : Ev te σ W (rIn Cc F) x) (hm : ∀ G fs, F G x fs → fs.lookup m = none) (ha : Ev ta σ W B y) (hb : Ev tb σ W C z) (hp : Pre (x, y, z)) :
    Ev (tMeth Cc m (Prm (In3 (rIn Cc F) B C) Pre D f) [] E te (tCons ta (tCons tb tNil))) σ W D (f (x, y, z)) := fun W1 l Q q =>
  h W1 l _ fun v W2 l2 ⟨a, dx, fs, e, g, hF⟩ => ⟨a, dx, fs, e, l2.s.ins g, hm _ _ hF, ha W2 (l.trans l2) _ fun w W3 l3 h3 => hb W3 ((l.trans l2).trans l3) _ fun u W4 l4 h4 =>
    ⟨W4.G, (x, y, z), l4.s, ⟨v, w, u, rfl, ⟨a, dx, fs, e, (l3.g.trans l4.g) _ _ g, MnF.mn (l3.g.trans l4.g) hF⟩, Mn.mn l4.g h3, h4⟩, hp, fun u W5 l5 h5 => q u W5 (((l2.trans l3).trans l4).trans l5) h5⟩⟩

/-! ### dicts -/
/-- what was looked at may be a dict: from here on it is locked -/
def tLk (te : TE) : TE := fun σ H Q => te σ H fun x H1 => ∃ d u, x = .ref d ∧ ((H1 d = some u ∧ Mut (some u) ∧ ∀ od, Q x (upd H1 d (.frz od u))) ∨ ((∃ od, H1 d = some (.frz od u)) ∧ Q x H1))
theorem pe_lk {X : Cx} {e : Expr} {t : TE} (h : PE X e t) : PE X e (tLk t) := by
  refine ⟨fun pins s σ H Q I hw => ?_⟩
  refine thn (h.run pins s σ H _ I hw) fun v s1 ⟨x, H1, I1, r, d, u, ex, q⟩ => ?_
  rcases q with ⟨hd, mu, q⟩ | ⟨_, q⟩
  · obtain ⟨od, I2⟩ := I1.lock hd mu
    exact ⟨x, _, I2, r, q od⟩
  · exact ⟨x, H1, I1, r, q⟩
/-- keys that are pairs of ints -/
def kC (c : Cell) : List Key := [.inl c.1, .inl c.2]
theorem kC_inj {a b : Cell} (h : kC a = kC b) : a = b := by
  unfold kC at h
  simp only [List.cons.injEq, Sum.inl.injEq, and_true] at h
  exact Prod.ext h.1 h.2
abbrev rCell : Hp → Cell → V → Prop := rP rI rI
theorem cell_tup {G : Hp} {c : Cell} {v : V} (h : rCell G c v) : ∃ a, v = .ref a ∧ G a = some (.tup ((kC c).map kV)) := by
  obtain ⟨a, x, y, e, g, h1, h2⟩ := h
  obtain rfl : x = .int c.1 := h1
  obtain rfl : y = .int c.2 := h2
  exact ⟨a, e, g⟩
theorem tup_cell {G : Hp} {c : Cell} {a : Addr} (h : G a = some (.tup ((kC c).map kV))) : rCell G c (.ref a) := ⟨a, _, _, rfl, h, rfl, rfl⟩
/-- a dict from cells to what B tells -/
def rDT (B : Hp → β → V → Prop) (G : Hp) (r : List (Cell × β)) (v : V) : Prop := ∃ a kvs, v = .ref a ∧ G a = some (.dT kvs) ∧ Paired (fun (p : Cell × β) (q : List Key × V) => q.1 = kC p.1 ∧ B G p.2 q.2) r kvs
instance [Mn B] : Mn (rDT B) := ⟨fun e ⟨a, kvs, h1, h2, h3⟩ => ⟨a, kvs, h1, e _ _ h2, Paired.mapP h3 fun _ _ h => ⟨h.1, Mn.mn e h.2⟩⟩⟩
def lookC (r : List (Cell × β)) (c : Cell) : Option β := (r.find? fun e => decide (e.1 = c)).map (·.2)
theorem val_dt {G : Hp} {c : Cell} : ∀ {r : List (Cell × β)} {kvs : List (List Key × V)}, Paired (fun (p : Cell × β) (q : List Key × V) => q.1 = kC p.1 ∧ B G p.2 q.2) r kvs →
    (lookC r c = none ∧ valV kvs (kC c) = none) ∨ ∃ y v, lookC r c = some y ∧ valV kvs (kC c) = some v ∧ B G y v
  | _, _, .nil => .inl ⟨rfl, rfl⟩
  | _, _, .cons (a := p) (b := q) h t => by
    obtain ⟨h1, h2⟩ := h
    by_cases e : p.1 = c
    · refine .inr ⟨p.2, q.2, ?_, ?_, h2⟩
      · unfold lookC; rw [List.find?_cons, decide_eq_true e]; rfl
      · unfold valV; rw [List.find?_cons, decide_eq_true (by rw [h1, e])]; rfl
    · have e' : ¬ q.1 = kC c := fun z => e (kC_inj (h1.symm.trans z))
      have ih := val_dt (c := c) t
      unfold lookC valV at ih ⊢
      rw [List.find?_cons, List.find?_cons, decide_eq_false e, decide_eq_false e']
      exact ih
theorem e_dget {r : List (Cell × β)} {c : Cell} {y : β} [Mn B] (hd : Ev ta σ W (rDT B) r) (hk : Ev tb σ W rCell c) (e : lookC r c = some y) : Ev (tDGet ta tb) σ W B y := fun W1 l Q q =>
  hd W1 l _ fun v W2 l2 ⟨a, kvs, e1, g, ps⟩ => hk W2 (l.trans l2) _ fun w W3 l3 hc => by
    obtain ⟨b, e2, g2⟩ := cell_tup hc
    rcases val_dt (c := c) ps with ⟨z, _⟩ | ⟨y', v', h1, h2, h3⟩
    · rw [e] at z; cases z
    · rw [e] at h1
      cases h1
      exact ⟨a, v', e1, .inr ⟨kvs, kC c, b, l3.s.dT (l3.g _ _ g), e2, l3.s.tup g2, h2.symm⟩, q _ W3 (l2.trans l3) (Mn.mn l3.g h3)⟩
theorem e_dnotin {r : List (Cell × β)} {c : Cell} [Mn B] (hk : Ev tb σ W rCell c) (hd : Ev ta σ W (rDT B) r) : Ev (tDNotIn tb ta) σ W rB (lookC r c).isNone := fun W1 l Q q =>
  hk W1 l _ fun w W2 l2 hc => hd W2 (l.trans l2) _ fun v W3 l3 ⟨a, kvs, e1, g, ps⟩ => by
    obtain ⟨b, e2, g2⟩ := cell_tup hc
    refine ⟨a, valV kvs (kC c), e1, .inr ⟨kvs, kC c, b, l3.s.dT g, e2, l3.s.tup (l3.g _ _ g2), rfl⟩, ?_⟩
    rcases val_dt (c := c) ps with ⟨h1, h2⟩ | ⟨y', v', h1, h2, h3⟩
    · rw [h2]; exact q _ W3 (l2.trans l3) (by rw [h1]; rfl)
    · rw [h2]; exact q _ W3 (l2.trans l3) (by rw [h1]; rfl)
/-- for c in d -/
theorem iw_keysT {r : List (Cell × β)} (h : Ev te σ W (rDT B) r) : Iw (iKeys (tLk te)) σ W rCell (r.map (·.1)) := fun W1 l R q => h W1 l _ fun v W2 l2 ⟨a, kvs, e, g, ps⟩ => by
  have hl := Paired.length ps
  have fin : ∀ W3 od, Le W2 W3 → W3.H a = some (.frz od (.dT kvs)) → AIt (Itkt a od kvs) rCell (r.map (·.1)) (fun W4 => Le W3 W4) := fun W3 od l3 h3 W4 l4 => by
    have h4 : W4.H a = some (.frz od (.dT kvs)) := l4.h.frz h3
    have hm : (r.map (·.1)).length = kvs.length := by rw [List.length_map]; exact hl
    refine ⟨⟨h4, Nat.le_of_eq hm.symm⟩, fun i hi => ⟨h4, by omega⟩, fun i v H' hi ⟨e1, k, u, b, h5, h6, h7⟩ => ?_⟩
    obtain ⟨p, hp⟩ : ∃ p, r[i]? = some p := ⟨r[i]'(by rw [List.length_map] at hi; exact hi), by rw [List.length_map] at hi; simp [hi]⟩
    obtain ⟨q', hq1, hq2⟩ := L2.paired_get ps hp
    rw [h5] at hq1
    cases hq1
    obtain ⟨hq2, _⟩ := hq2
    have hq2 : k = kC p.1 := hq2
    subst hq2
    -- the key's own tuple is taken into what is finished
    cases hg : W4.G b with
    | some o =>
      have ho : W4.H b = some o ∨ _ := l4.s b o hg
      have : o = .tup ((kC p.1).map kV) := by
        rcases ho with z | ⟨_, _, z⟩ <;> rw [h7] at z <;> cases z
        rfl
      subst this
      exact ⟨W4, p.1, e1, Le.refl l4.s, by rw [List.getElem?_map, hp]; rfl, by rw [h6]; exact tup_cell hg⟩
    | none => exact ⟨⟨upd W4.G b _, W4.H⟩, p.1, e1, Le.take l4.s h7 hg, by rw [List.getElem?_map, hp]; rfl, by rw [h6]; exact tup_cell upd_same⟩
  rcases l2.s.dT g with hh | ⟨od, hh⟩
  · refine ⟨a, _, e, .inl ⟨hh, trivial, fun od => ?_⟩⟩
    have lk : Le W2 ⟨W2.G, upd W2.H a (.frz od (.dT kvs))⟩ := Le.lock l2.s trivial hh (ne_none g)
    exact ⟨a, od, e, .inr ⟨kvs, upd_same, q _ ⟨W2.G, upd W2.H a (.frz od (.dT kvs))⟩ (l2.trans lk) (fin _ od lk upd_same)⟩⟩
  · exact ⟨a, _, e, .inr ⟨⟨od, hh⟩, a, od, e, .inr ⟨kvs, hh, q _ W2 l2 (fin W2 od (Le.refl l2.s) hh)⟩⟩⟩
end
end K53
end

/-! K53R -/
section
/-! Rules that the hand layer lacks: own __contains__, str * int, setdefault and dict() with tuple keys, a dict comprehension given to a local name; calls by short names. -/
namespace K53
open PySem PySem.Spec PyProof.Rows L2
/-! ### calls -/
structure Cal (P : Program) (w : World) (K : PySem.W.Frag) (mg : Str → Option Value) (base : Heap) (k : Nat) (x : Str) (sp : Sp) (dvs : List V) : Prop where
  ex : ∃ (f : Addr) (fd : FuncData) (ps : List Str) (ds : List Value), FnOk P w K mg base CX0 k f fd ps sp ∧ mg x = some (.ref f) ∧ PySem.W.keepIn K (.ref f) = true ∧ Binds K fd ps ds ∧ Vals dvs ds
structure Met (P : Program) (w : World) (K : PySem.W.Frag) (mg : Str → Option Value) (base : Heap) (k : Nat) (C : Addr) (m : Str) (sp : Sp) (dvs : List V) : Prop where
  ex : ∃ (f : Addr) (fd : FuncData) (ps : List Str) (ds : List Value), Cls K C ∧ Meth K C m f ∧ FnOk P w K mg base CX0 k f fd ps sp ∧ Binds K fd ps ds ∧ Vals dvs ds
structure Mak (P : Program) (w : World) (K : PySem.W.Frag) (mg : Str → Option Value) (base : Heap) (k : Nat) (x : Str) (C : Addr) (sp : Sp) (dvs : List V) : Prop where
  ex : ∃ (f : Addr) (fd : FuncData) (ps : List Str) (ds : List Value), Mk K C f ∧ FnOk P w K mg base CX0 k f fd ps sp ∧ mg x = some (.ref C) ∧ Binds K fd ps ds ∧ Vals dvs ds
section
variable {X : Cx} {k j : Nat} {C : Addr} {x m : Str} {sp : Sp} {dvs : List V} {p pos apos : Pos} {e o : Expr} {es : List Expr} {ta : TE} {t : TA}
theorem pe_cal (c : Cal X.prog X.w X.K X.mg X.base k x sp dvs) (hr : Room j X.A) (hk : k ≤ j) (hg : Gl X x) (ha : PA X (e :: es) t)
    (hdb : (x == ("__debug__" : Str)) = false := by decide) (he : starEach (e :: es) X.env = (false, eval e X.env) :: starEach es X.env := by rfl) (hpl : (backTo pos (starEach es X.env)).any (·.1) = false := by rfl) :
    PE X (.Call (.Name x p) (e :: es) [] pos) (tCall sp dvs E0 t) := by
  obtain ⟨f, fd, ps, ds, F, hm, kp, b, d⟩ := c.ex
  exact pe_call F (hr.mono hk) hg hm kp b d pass0 ha hdb he hpl
theorem pe_mkr (c : Mak X.prog X.w X.K X.mg X.base k x C sp dvs) (hr : Room j X.A) (hk : k + 1 ≤ j) (hg : Gl X x) (ha : PA X (e :: es) t)
    (hdb : (x == ("__debug__" : Str)) = false := by decide) (he : starEach (e :: es) X.env = (false, eval e X.env) :: starEach es X.env := by rfl) (hpl : (backTo pos (starEach es X.env)).any (·.1) = false := by rfl) :
    PE X (.Call (.Name x p) (e :: es) [] pos) (tMake C sp dvs E0 t) := by
  obtain ⟨f, fd, ps, ds, M, F, hm, b, d⟩ := c.ex
  exact pe_make M F (hr.mono hk) hg hm b d pass0 ha hdb he hpl
theorem pe_mtd {pl : Sem Bool} (c : Met X.prog X.w X.K X.mg X.base k C m sp dvs) (hr : Room j X.A) (hk : k ≤ j) (he : PE X o ta) (ha : PA X (e :: es) t)
    (hst : starEach (e :: es) X.env = (false, eval e X.env) :: starEach es X.env := by rfl) (hpl : (backTo pos (starEach es X.env)).any (·.1) = false := by rfl)
    (ht : eval (.Call (.Attribute o m apos) (e :: es) [] pos) X.env = (do
      let ov ← eval o X.env
      standAt apos.atName
      let (f, first) ← holding [ov] (getMethod ov m pl)
      callWith pos f first (backTo pos (starEach (e :: es) X.env)) (backToKw pos (keywordEach [] X.env))) := by rfl) :
    PE X (.Call (.Attribute o m apos) (e :: es) [] pos) (tMeth C m sp dvs E0 ta t) := by
  obtain ⟨f, fd, ps, ds, hc, hm, F, b, d⟩ := c.ex
  exact pe_meth (pl := pl) he hc hm F (hr.mono hk) b d pass0 ha hst hpl ht
theorem pe_mtd0 {pl : Sem Bool} (c : Met X.prog X.w X.K X.mg X.base k C m sp dvs) (hr : Room j X.A) (hk : k ≤ j) (he : PE X o ta)
    (ht : eval (.Call (.Attribute o m apos) [] [] pos) X.env = (do
      let ov ← eval o X.env
      standAt apos.atName
      let (f, first) ← holding [ov] (getMethod ov m pl)
      callWith pos f first (backTo pos (starEach [] X.env)) (backToKw pos (keywordEach [] X.env))) := by rfl) :
    PE X (.Call (.Attribute o m apos) [] [] pos) (tMeth C m sp dvs E0 ta tNil) := by
  obtain ⟨f, fd, ps, ds, hc, hm, F, b, d⟩ := c.ex
  exact pe_meth0 (pl := pl) he hc hm F (hr.mono hk) b d pass0 ht
end
/-! ### x in o, o of a class with its own __contains__ -/
def rOwnIn (C : Addr) (sp : Sp) : R2 := fun x y H Q => ∃ a dx fs, y = .ref a ∧ H a = some (.ins C dx fs) ∧ sp [y, x] H (fun z H' => ∃ b, z = .bl b ∧ Q (.bl b) H') E0
theorem op_contains {X : Cx} {k j : Nat} {C : Addr} {sp : Sp} (c : Met X.prog X.w X.K X.mg X.base k C "__contains__" sp []) (hr : Room j X.A) (hk : k ≤ j) : OpR X (compareOp .In) (rOwnIn C sp) := by
  intro pins s σ H x y v u Q I rx ry h
  obtain ⟨a, dx, fs, rfl, ea, q⟩ := h
  cases (show u = Value.ref a from ry)
  obtain ⟨f, fd, ps, ds, hc, hm, F, b, d⟩ := c.ex
  cases d
  obtain ⟨mA, O, _⟩ := ins_get I.hok ea
  obtain ⟨od, J, _⟩ := O.look
  obtain ⟨m, hF⟩ := I.fr
  refine PySem.W.in_K hF I.ok.mod.kin J hm.at_ hm.fn ?_
  refine thn (run_fn (us := [.ref a, v]) (vs := [.ref a, x]) F (hr.mono hk) b .nil pass0 I (.cons rfl (.cons rx .nil)) q) fun w' s' ⟨z, H', I', rz, b', e, q'⟩ => ?_
  subst e
  cases (show w' = Value.bool b' from rz)
  exact wpAny_truthy_bool ⟨.bl b', H', I', rfl, q'⟩
/-! ### str * int -/
abbrev rRepS : R2 := fun x y H Q => ∃ (z : Str) (n : Int), x = .str z ∧ y = .int n ∧ (n < 2 ^ 62 ∧ -(2 ^ 62) ≤ n) ∧ z.length * n.toNat ≤ 100000 ∧ Q (.str (Txt.mul z n)) H
theorem op_rep_str {X : Cx} : OpR X (binaryOp .Mult) rRepS := by
  intro pins s σ H x y v u Q I rx ry h
  obtain ⟨z, n, rfl, rfl, ⟨h1, h2⟩, hz, q⟩ := h
  obtain ⟨t, rfl⟩ := rx
  obtain ⟨t', rfl⟩ := ry
  have hs : sizeLine = 16777216 := sizeLine_eq
  refine SB.mul ⟨?_, fun hn hne hc => ?_, fun hn hne => ?_⟩ fun t' k => ⟨.str (Txt.mul z n), H, I.tok k, ⟨t', rfl⟩, q⟩
  · rw [decide_eq_false (by omega), decide_eq_false (by omega)]; rfl
  · have h3 : n.toNat ≥ 1 := by omega
    have h4 : z.length * n.toNat ≤ 100000 := hz
    have h5 : ((z.length : Int) * n) ≤ 100000 := by
      have : ((z.length * n.toNat : Nat) : Int) ≤ 100000 := by omega
      rw [Int.natCast_mul] at this
      rwa [show ((n.toNat : Nat) : Int) = n by omega] at this
    have h6 : (z.length : Int) ≤ (2 ^ 63 - 1) / n := by
      rw [Int.le_ediv_iff_mul_le (by omega)]
      omega
    omega
  · unfold Builtin.Str.tooLong
    first | (simp only [decide_eq_false_iff_not]; omega) | simp
/-! ### dicts with tuple keys -/
section
variable {X : Cx} {pins : List (Addr × Obj)} {σ : L2.St} {H : Hp} {s : Shared} {a b : Addr} {r : Value} {d : V} {A : Around} {E : Value → Shared → Prop}
theorem d_setdT {kvs : List (List Key × V)} {k : List Key} {Q : Value → Shared → Prop} (hu : A.units + 1 < cLine) (I : Inv X pins σ H s) (e : H a = some (.dT kvs)) (eb : H b = some (.tup (k.map kV))) (rd : RelV d r) (hl : kvs.length < sizeLine)
    (h1 : ∀ v, valV kvs k = some v → ∀ (w' : Value) (s' : Shared), Inv X pins σ H s' → RelV v w' → Q w' s') (h2 : valV kvs k = none → ∀ (w' : Value) (s' : Shared), Inv X pins σ (upd H a (.dT (putK kvs k d))) s' → RelV d w' → Q w' s') :
    wpAny (model X.prog X.w) A (call (.builtin "dict.setdefault") [.ref a, .ref b, r]) Q E s := by
  obtain ⟨z, hd, xs, rel, dd⟩ := dt_of I.hok e
  have hz : xs.length ≤ sizeLine := by rw [← Paired.length rel]; exact z
  refine call_setdefault_heap (hsz := hz) (knd := tupleKind (mixKind X.prog X.w)) (tupleKind_room_in1 hu) (key_of I.hok eb) hd dd (fun p hp => ?_) fun hn h' dd' hs => ?_
  · have q := rel.val k
    rw [hp] at q
    cases q0 : valV kvs k with
    | none => rw [q0] at q; exact (show False from q).elim
    | some v0 => rw [q0] at q; exact h1 v0 q0 _ _ (I.tok _) q
  · have q := rel.val k
    rw [hn] at q
    cases q0 : valV kvs k with
    | some v0 => rw [q0] at q; exact (show False from q).elim
    | none =>
      have hl2 : (putK kvs k d).length ≤ sizeLine := by have := length_putK kvs k d; omega
      obtain ⟨q, es, ep, hq, h2', h3, h4, _, h5⟩ := dd'
      refine h2 q0 _ _ (d_write I (by rw [e]; exact True.intro) hs ⟨q, hq⟩ ⟨hl2, hd, _, (rel.put k eb rd).keeps fun c ys ec => ?_, q, es, ep, hq, h2', h3, h4, h5⟩) rd
      rw [upd_ne (ne_of ec e (fun z => nomatch z))]
      exact ec
end
/-- d.setdefault(y, z), the keys of d tuples -/
def tDSetT (td ty tx : TE) : TE := fun σ H Q => td σ H fun x H1 => ∃ a, x = .ref a ∧ IsD H1 a ∧ ty σ H1 fun y H2 => tx σ H2 fun z H3 => ∃ (kvs : List (List Key × V)) (k : List Key) (b : Addr), H3 a = some (.dT kvs) ∧ y = .ref b ∧ H3 b = some (.tup (k.map kV)) ∧ kvs.length < sizeLine ∧
  (∀ v, valV kvs k = some v → Q v H3) ∧ (valV kvs k = none → Q z (upd H3 a (.dT (putK kvs k z))))
section
variable {X : Cx} {o e f : Expr} {td ty tx : TE} {apos cpos : Pos}
theorem pe_dsetT (hu : X.A.units + 1 < cLine) (ho : PE X o td) (he : PE X e ty) (hf : PE X f tx) (m : M2 X o "setdefault" apos e f cpos) : PE X (.Call (.Attribute o "setdefault" apos) [e, f] [] cpos) (tDSetT td ty tx) := by
  refine ⟨fun pins s σ H Q I h => ?_⟩
  refine wpAny_Call_method m.base m.few m.line PySem.F.plainAttrs_dict PySem.F.slot_dict_setdefault PySem.F.type_dict_setdefault (thn (ho.run pins s σ H _ I h) fun u s1 ⟨x, H1, I1, rx, a, ex, d, q1⟩ => ?_)
  subst ex
  obtain rfl : u = Value.ref a := rx
  obtain ⟨t1, t2, _⟩ := isD_at I1 d
  refine ⟨t1, t2, ?_⟩
  rw [m.trees]
  refine Calls.callWith_builtin rfl (Calls.evalArgs_plain (Calls.spliced_cons (thn (he.run pins s1 σ H1 _ I1 q1) fun iv s2 ⟨y, H2, I2, ry, q2⟩ =>
    Calls.spliced_cons (thn (hf.run pins s2 σ H2 _ I2 q2) fun fv s3 ⟨z, H3, I3, rz, kvs, k, b, ea, ey, eb, hl, q3, q4⟩ => Calls.spliced_nil ?_))))
  subst ey
  cases (show iv = Value.ref b from ry)
  exact d_setdT hu I3 ea eb rz hl (fun v hv w' s4 I4 rw' => ⟨v, _, I4, rw', q3 v hv⟩) fun hn w' s4 I4 rw' => ⟨z, _, I4, rw', q4 hn⟩
end
def mergeT (kvs more : List (List Key × V)) : List (List Key × V) := more.foldl (fun acc kv => putK acc kv.1 kv.2) kvs
theorem length_mergeT : ∀ (more kvs : List (List Key × V)), (mergeT kvs more).length ≤ kvs.length + more.length
  | [], kvs => by show kvs.length ≤ kvs.length + 0; omega
  | p :: r, kvs => by
    have h1 := length_mergeT r (putK kvs p.1 p.2)
    have h2 := length_putK kvs p.1 p.2
    show (mergeT (putK kvs p.1 p.2) r).length ≤ _
    rw [List.length_cons]; omega
theorem KT.merge {H : Hp} {more : List (List Key × V)} {rs : List (List Key × Addr × Value)} (r : KT H more rs) : ∀ {kvs : List (List Key × V)} {xs : List (List Key × Addr × Value)}, KT H kvs xs → KT H (mergeT kvs more) (storedAllH xs rs) := by
  induction r with
  | nil => intro _ _ h; exact h
  | @cons p q ps qs h t ih =>
    intro kvs xs r0
    have e : KT H (putK kvs p.1 p.2) (storedH xs q.1 q.2.1 q.2.2) := by
      have := r0.put p.1 h.2.1 h.2.2
      rw [← h.1]
      rw [h.1] at this ⊢
      exact this
    exact ih e
section
variable {X : Cx}
theorem pairs_ofT {pins : List (Addr × Obj)} {σ : L2.St} {H : Hp} {s : Shared} (I : Inv X pins σ H s) : ∀ {ps : List Addr} {kvs : List (List Key × V)}, Paired (fun p (kv : List Key × V) => ∃ b, SqT X.K H p [.ref b, kv.2] ∧ H b = some (.tup (kv.1.map kV))) ps kvs →
    ∃ prs : List (List Key × Addr × Value), KT H kvs prs ∧ prs.length = ps.length ∧ ∀ (j : Nat) (q : List Key × Addr × Value), prs[j]? = some q → ∃ (p : Addr), ps[j]? = some p ∧ IsTup s.heap p #[.ref q.2.1, q.2.2]
  | _, _, .nil => ⟨[], .nil, rfl, fun j q e => by simp at e⟩
  | _, _, .cons (a := p) (b := kv) ⟨b, h, hb⟩ t => by
    obtain ⟨prs, r, hl, hp⟩ := pairs_ofT I t
    obtain ⟨its, rv, ht, _⟩ := I.tuple h
    obtain ⟨u, y, ei, ru, ry⟩ := vals2 rv
    subst ei
    cases (show u = Value.ref b from ru)
    refine ⟨(kv.1, b, y) :: prs, .cons ⟨rfl, hb, ry⟩ r, by rw [List.length_cons, List.length_cons, hl], fun j q e => ?_⟩
    cases j with
    | zero =>
      have e' : (kv.1, b, y) = q := Option.some.inj e
      subst e'
      exact ⟨p, rfl, ht⟩
    | succ j =>
      obtain ⟨p', e1, e2⟩ := hp j q (by simpa using e)
      exact ⟨p', by simpa using e1, e2⟩
theorem kt_keys {P : Program} {w : World} {H : Hp} {h : Heap} (ok : HOk P w H h) : ∀ {l : List (List Key × V)} {m : List (List Key × Addr × Value)}, KT H l m → ∀ x ∈ m, (tupleKind (mixKind P w)).is h x.1 x.2.1
  | _, _, .nil, x, hx => nomatch hx
  | _, _, .cons (a := p) (b := q) hq t, x, hx => by
    rcases List.mem_cons.mp hx with e | hx
    · subst e
      exact key_of ok (by rw [← hq.1]; exact hq.2.1)
    · exact kt_keys ok t x hx
abbrev rDictT (K : PySem.W.Frag) : List V → Hp → VK → Prop := fun xs H Q => ∃ (a : Addr) (ps : List Addr) (kvs : List (List Key × V)), xs = [.ref a] ∧ SqL K H a (ps.map V.ref) ∧ Paired (fun p (kv : List Key × V) => ∃ b, SqT K H p [.ref b, kv.2] ∧ H b = some (.tup (kv.1.map kV))) ps kvs ∧
    ∀ p, H p = none → Q (.ref p) (upd H p (.dT (mergeT [] kvs)))
/-- dict(xs) of a list of pairs (key, value), the keys tuples -/
theorem call_dictT (hcalm : X.calm = true) (hu : X.A.units + 2 < cLine) : CallR X (.type "dict") (rDictT X.K) := by
  intro pins s σ H xs us Q I r q
  obtain ⟨a, ps, kvs, ex, hq, hp, q⟩ := q
  subst ex
  obtain ⟨u, eu, rx⟩ := vals1 r
  subst eu
  cases rx
  obtain ⟨its, rv, pl, hz⟩ := I.list hq
  have ei := refs_at rv
  subst ei
  rw [List.length_map] at hz
  obtain ⟨prs, rel, hl, hpr⟩ := pairs_ofT I hp
  obtain ⟨o, n, ho, hc, hd, hdat⟩ := pl
  have keys := kt_keys I.hok rel
  refine call_dict_pairsH (knd := tupleKind (mixKind X.prog X.w)) (ps := prs) (PairArg.list a (ps.map Value.ref).toArray (fun j => ps.getD j 0) (prs.map fun q => (Value.ref q.2.1, q.2.2))) (I.ok.hd hcalm) (show X.A.in1.units + 1 < cLine from hu) ⟨⟨o, n, ho, hc, hd, hdat⟩, ?_⟩ ?_ (fun h' hk x hx => ?_) (by rw [List.length_map, hl]; exact hz) fun h' tk hd' k => ?_
  · refine ⟨by simp [hl], fun j k v e => ?_⟩
    rw [List.getElem?_map] at e
    obtain ⟨q', e1, e2⟩ := Option.map_eq_some_iff.mp e
    obtain ⟨p', h1, h2⟩ := hpr j q' e1
    cases e2
    refine ⟨by simp [h1], ?_⟩
    show PairAt s.heap (ps.getD j 0) (Value.ref q'.2.1) q'.2.2
    rw [show ps.getD j 0 = p' by simp [List.getD, h1]]
    exact .inl h2
  · refine ⟨by simp, fun i key v hr => ?_⟩
    have hr : (prs.map fun q => (Value.ref q.2.1, q.2.2))[i]? = some (key, v) := hr
    rw [List.getElem?_map] at hr
    obtain ⟨q', e1, e2⟩ := Option.map_eq_some_iff.mp hr
    cases e2
    exact ⟨q'.1, q'.2.1, e1, rfl⟩
  · refine tupleKind_stays.stays (fun b o' _ _ e _ => ?_) (keys x hx)
    exact hk b o' (Nat.ne_of_lt (Heap.lt_size e)) (fun z => nomatch z) e
  · have hm : (s.heap.objs.size == sysModules) = false := beq_eq_false_iff_ne.mpr (Nat.ne_of_gt I.big)
    have hlen : (mergeT [] kvs).length ≤ sizeLine := by
      refine Nat.le_trans (length_mergeT kvs []) ?_
      rw [List.length_nil, Nat.zero_add, Paired.length rel, hl]
      exact hz
    have hn : H s.heap.objs.size = none := I.hok.fresh (Nat.le_refl _)
    obtain ⟨q', es, ep, hq', h2', h3, h4, _, h5⟩ := hd'
    refine ⟨.ref s.heap.objs.size, upd H s.heap.objs.size (.dT (mergeT [] kvs)), I.laid (t' := tk) (fun b o' e => k b o' (fun z => nomatch z) e) (Nat.le_refl _) ?_, rfl, q _ hn⟩
    refine ⟨hlen, hm, _, ((KT.merge rel .nil).keeps fun c ys ec => ?_), q', es, ep, hq', h2', h3, h4, h5⟩
    rw [upd_ne (ne_of_none ec hn)]
    exact ec
end
/-! ### name = {..} by a comprehension -/
section
variable {X : Cx}
theorem ps_setDc {i : Nat} {y : Str} {py : Pos} {kx vx tg iter : Expr} {ifs : List Expr} {scope : Scope} {own : List (Str × Nat)} {pos spos : Pos} {wi : TI} {g : TG} {tt : TT} {tk tv : TE} (hc : X.calm = true) (hN : X.N.Nodup) (hy : X.N[i]? = some y) (hyl : X.env.scope.names.lookup y = some .local)
    (hsw : swapsWith (.DictComp kx vx [⟨tg, iter, ifs, 0⟩] scope pos) (some (.Name y py)) spos.line X.env = pure true) (hi : PI X tg iter wi) (ok : BlkOk X.N X.env.scope scope own)
    (hg : ∀ (s : Shared) (H : Hp) (C : Addr) (cl : List (Str × Addr)) (fp : List Addr), PG (X.blk s H scope (compEnvC scope cl C X.env) fp) tg g) (ht : ∀ (s : Shared) (H : Hp) (C : Addr) (cl : List (Str × Addr)) (fp : List Addr), PTs (X.blk s H scope (compEnvC scope cl C X.env) fp) ifs tt)
    (hk : ∀ (s : Shared) (H : Hp) (C : Addr) (cl : List (Str × Addr)) (fp : List Addr), PE (X.blk s H scope (compEnvC scope cl C X.env) fp) kx tk)
    (he : ∀ (s : Shared) (H : Hp) (C : Addr) (cl : List (Str × Addr)) (fp : List Addr), PE (X.blk s H scope (compEnvC scope cl C X.env) fp) vx tv) (hs : ∀ x, foldedSetIterable iter X.env x = pure x := by intro _; rfl) :
    PS X (.Assign [.Name y py] (.DictComp kx vx [⟨tg, iter, ifs, 0⟩] scope pos) spos) (tAsg (tDc wi g tt tk tv (own.map (·.2))) (gName i)) := by
  refine ⟨fun pins s σ H D I h => ?_⟩
  rw [exec_Assign_Name_used _ _ _ _ hsw]
  refine wpAny_bind (wpAny_standAt (wpAny_bind ?_))
  show wpAny _ X.A (do let _ ← comprehension (.DictComp kx vx [⟨tg, iter, ifs, 0⟩] scope pos) scope X.env (firstIterPos [⟨tg, iter, ifs, 0⟩] pos) newDict false (eval iter X.env) (some (assign (.Name y py) X.env))) _ _ s
  have h : tDc wi g tt tk tv (own.map (·.2)) σ H (fun x H1 => gName i x σ H1 D.nx) := h
  refine wpAny_bind (thn (dc_core (Qf := fun _ s' => SP X pins D .next s') hc hN I hi ok hg ht hk he hs h fun L C s' m H' I' q hn f => ?_) fun _ s' hq => wpAny_pure (wpAny_pure hq))
  show wpAny _ _ (assign (.Name y py) X.env (.ref L)) _ _ _
  refine wpAny_assign_Name (store_ok2 (v := V.ref L) I' hN hy (.inl hyl) rfl (fun s2 I2 ⟨a, sb, ha⟩ => ?_) (.inr hyl))
  obtain ⟨f0, f1, f2, f3, f4, f5⟩ := f
  have haC : C ≠ a := by
    rcases ha with z | z
    · rw [z]; exact f1
    · exact fun e => f4 y a z e.symm
  refine ⟨m, hn.sameBut sb haC, fun h3 sb3 => ?_⟩
  exact ⟨_, H', I2.turned (t' := s2.toks) (fun b o hb e => (sb3.2 b hb).trans e) f0 f1 f3 f4 f5, q⟩
theorem sw_trueD {kx vx : Expr} {gs : List Comprehension} {scope : Scope} {pos py : Pos} {y : Str} {l : Nat} {env : Env} (hk : env.scope.kind = .function) (hy : env.scope.names.lookup y = some .local) (hl : (py.line == pos.line) = true)
    (ha : (scope.names.any fun (n, k) => n == y && (k == .local || k == .cell)) = false) : swapsWith (.DictComp kx vx gs scope pos) (some (.Name y py)) l env = pure true := by
  have ky : env.kindOf y = some .local := hy
  have hb : env.blockKind = .function := by unfold Env.blockKind; rw [hk]; rfl
  unfold swapsWith
  simp only [hb, ky, ha, Expr.pos, hl]
  rfl
end
/-! ### rules whose text is told (in comprehensions) -/
section
variable {X : Cx} {K : PySem.W.Frag}
theorem ix_listK (hK : X.K = K) : IxR X (rIxL K) := by subst hK; exact ix_list
theorem ix_tupK (hK : X.K = K) : IxR X (rIxT K) := by subst hK; exact ix_tup
theorem op_eqDK (hK : X.K = K) (hu : X.A.units + 64 < cLine) : OpR X (compareOp .Eq) (rEqD K) := by subst hK; exact op_eqD hu
theorem op_neDK (hK : X.K = K) (hu : X.A.units + 64 < cLine) : OpR X (compareOp .NotEq) (rNeD K) := by subst hK; exact op_neD hu
theorem op_inDK (hK : X.K = K) (hu : X.A.units + 65 < cLine) : OpR X (compareOp .In) (rInD K) := by subst hK; exact op_inD hu
theorem pg_tupK {es : List Expr} {k : Nat} {t : TGs} {n : Nat} {pos : Pos} (hK : X.K = K) (hc : X.calm = true) (h : PGs X es t)
    (hn : (assignEach es X.env).length = n := by rfl) (hst : (assignEach es X.env).findIdx? (·.1) = none := by rfl) : PG X (.Tuple es k pos) (gTup K n t) := by subst hK; exact pg_tup hc h hn hst
theorem pe_fldK {e : Expr} {f : Str} {pos : Pos} {ta : TE} (hK : X.K = K) (he : PE X e ta) (hb : attributeBase e f X.env (eval e X.env) = eval e X.env) : PE X (.Attribute e f pos) (tFld K ta f) := by subst hK; exact pe_fld he hb
end
end K53
end

/-! K53X -/
section
/-! Names and what they stand for; lists that are still written; more readings. -/
namespace K53
open PySem PySem.Spec PyProof.Rows L2
/-! ### names -/
structure Bu (mg : Str → Option Value) : Prop where
  len_ : mg "len" = none
  isinstance_ : mg "isinstance" = none
  int_ : mg "int" = none
  all_ : mg "all" = none
  sum_ : mg "sum" = none
  min_ : mg "min" = none
  max_ : mg "max" = none
  abs_ : mg "abs" = none
  sorted_ : mg "sorted" = none
  tuple_ : mg "tuple" = none
  list_ : mg "list" = none
  dict_ : mg "dict" = none
  range_ : mg "range" = none
  enumerate_ : mg "enumerate" = none
  str_ : mg "str" = none
  bool_ : mg "bool" = none
  mgSTEPS : ∃ t, mg "STEPS" = some (.str "ENWS" t)
  mgMOST : ∃ t, mg "MOST_LETTERS" = some (.int 24 t)
structure Dn (K : PySem.W.Frag) (mg : Str → Option Value) (x : Str) (st : Stmt) (dvs : List V) : Prop where
  ex : ∃ (f : Addr) (fd : FuncData), FunD K x x (defArgs st) (defBody st) (defScope st) dvs [] f fd ∧ mg x = some (.ref f)
structure Dm (K : PySem.W.Frag) (C : Addr) (x qual : Str) (st : Stmt) (dvs : List V) : Prop where
  ex : ∃ (f : Addr) (fd : FuncData), FunD K x qual (defArgs st) (defBody st) (defScope st) dvs [] f fd ∧ Cls K C ∧ Meth K C x f
structure Di (K : PySem.W.Frag) (mg : Str → Option Value) (C : Addr) (cx qual : Str) (st : Stmt) (dvs : List V) : Prop where
  ex : ∃ (f : Addr) (fd : FuncData), FunD K "__init__" qual (defArgs st) (defBody st) (defScope st) dvs [] f fd ∧ Cls K C ∧ Mk K C f ∧ mg cx = some (.ref C)
abbrev HBind (x qual : Str) (st : Stmt) (ps : List Str) : Prop := ∀ (kV doc pm : Value) (an : Option Addr) (cdv ct : Value) (us : List Value), us.length = ps.length → bindArgs (PySem.W.fnOf x qual (defArgs st) (defBody st) (defScope st) .none kV doc pm an cdv ct) ⟨us, []⟩ = pure (ps.zip us)
abbrev HBody (P : Program) (w : World) (K : PySem.W.Frag) (mg : Str → Option Value) (base : Heap) (N : List Str) (qual : Str) (st : Stmt) (k : Nat) (sp : Sp) : Prop := ∀ (f : Addr) (cdv : Value) (A : Around) (outer : List Env) (s : Shared) (H : Hp) (vs : List V) (Q : VK) (E : XK), Room k (A.deeper (envOfC qual (defScope st) s.heap.objs.size f cdv)) → sp vs H Q E →
      ∃ t, PSs (cxOf CX0 P w K mg base N qual (defScope st) f cdv A outer s H E) (defBody st) t ∧ t { nx := fun _ H' => Q .non H', rt := Q } (start N vs) H
section
variable {P : Program} {w : World} {K : PySem.W.Frag} {mg : Str → Option Value} {base : Heap} {x qual cx : Str} {st : Stmt} {N ps : List Str} {k : Nat} {sp : Sp} {C : Addr} {dvs : List V}
theorem Dn.cal (D : Dn K mg x st []) (S : FnScope N ps (defScope st)) (hb : HBind x x st ps) (len : ∀ vs H Q E, sp vs H Q E → vs.length = ps.length) (hbody : HBody P w K mg base N x st k sp) : Cal P w K mg base (k + 1) x sp [] := by
  obtain ⟨f, fd, F, hm⟩ := D.ex
  exact ⟨f, fd, ps, [], F.ok S len fun cdv => hbody f cdv, hm, F.kp, F.bindsN hb, .nil⟩
theorem Dm.met (D : Dm K C x qual st []) (S : FnScope N ps (defScope st)) (hb : HBind x qual st ps) (len : ∀ vs H Q E, sp vs H Q E → vs.length = ps.length) (hbody : HBody P w K mg base N qual st k sp) : Met P w K mg base (k + 1) C x sp [] := by
  obtain ⟨f, fd, F, hc, hm⟩ := D.ex
  exact ⟨f, fd, ps, [], hc, hm, F.ok S len fun cdv => hbody f cdv, F.bindsN hb, .nil⟩
theorem Di.mak (D : Di K mg C cx qual st []) (S : FnScope N ps (defScope st)) (hb : HBind "__init__" qual st ps) (len : ∀ vs H Q E, sp vs H Q E → vs.length = ps.length) (hbody : HBody P w K mg base N qual st k sp) : Mak P w K mg base (k + 1) cx C sp [] := by
  obtain ⟨f, fd, F, hc, hm, hg⟩ := D.ex
  exact ⟨f, fd, ps, [], hm, F.ok S len fun cdv => hbody f cdv, hg, F.bindsN hb, .nil⟩
/-- defaults behind the first n values -/
abbrev HBindD (x qual : Str) (st : Stmt) (ps : List Str) (n : Nat) (dvs : List V) : Prop := ∀ (T : Addr) (kV doc pm : Value) (an : Option Addr) (cdv ct : Value) (us its : List Value), us.length = n → its.length = dvs.length →
      ∃ k, bindArgs (PySem.W.fnOf x qual (defArgs st) (defBody st) (defScope st) (.ref T) kV doc pm an cdv ct) ⟨us, []⟩ = seqItems? (.ref T) >>= k ∧ k (some its.toArray) = pure (ps.zip (us ++ its.drop 0))
theorem Dn.calD {n : Nat} (D : Dn K mg x st dvs) (S : FnScope N ps (defScope st)) (hd : dvs ≠ []) (hn : n + (dvs.length - 0) = ps.length) (hb : HBindD x x st ps n dvs) (len : ∀ vs H Q E, sp vs H Q E → vs.length = ps.length) (hbody : HBody P w K mg base N x st k sp) : Cal P w K mg base (k + 1) x sp dvs := by
  obtain ⟨f, fd, F, hm⟩ := D.ex
  obtain ⟨ds, hv, hB⟩ := F.binds1 n 0 hd hn hb
  exact ⟨f, fd, ps, ds, F.ok S len fun cdv => hbody f cdv, hm, F.kp, hB, hv⟩
theorem Dm.metD {n : Nat} (D : Dm K C x qual st dvs) (S : FnScope N ps (defScope st)) (hd : dvs ≠ []) (hn : n + (dvs.length - 0) = ps.length) (hb : HBindD x qual st ps n dvs) (len : ∀ vs H Q E, sp vs H Q E → vs.length = ps.length) (hbody : HBody P w K mg base N qual st k sp) : Met P w K mg base (k + 1) C x sp dvs := by
  obtain ⟨f, fd, F, hc, hm⟩ := D.ex
  obtain ⟨ds, hv, hB⟩ := F.binds1 n 0 hd hn hb
  exact ⟨f, fd, ps, ds, hc, hm, F.ok S len fun cdv => hbody f cdv, hB, hv⟩
theorem hu_of {j : Nat} {A : Around} (r : Room j A) : A.units + 1 < cLine := by have := r.un; omega
theorem hu2_of {j : Nat} {A : Around} (r : Room j A) : A.units + 2 < cLine := by have := r.un; omega
theorem hu65_of {j : Nat} {A : Around} (r : Room j A) : A.units + 65 < cLine := by have := r.un; omega
end

/-! ### values of several kinds -/
inductive Pt
  | i (n : Int)
  | b (x : Bool)
def rPt (_ : Hp) (p : Pt) (v : V) : Prop := v = (match p with | .i n => .int n | .b x => .bl x)
instance : Mn rPt := ⟨fun _ h => h⟩
def Pt.isI : Pt → Bool
  | .i _ => true
  | .b _ => false
inductive Ov
  | non
  | int (i : Int)
  | lst (xs : List Pt)
  | tup (xs : List Pt)
  | str (s : Str)
def rOv (G : Hp) (o : Ov) (v : V) : Prop := match o with
  | .non => v = .non
  | .int i => v = .int i
  | .lst xs => rL rPt G xs v
  | .tup xs => rT rPt G xs v
  | .str s => v = .str s
instance : Mn rOv := ⟨fun {G G' x v} e h => by
  cases x with
  | non => exact h
  | int i => exact h
  | lst xs => exact Mn.mn (A := rL rPt) e h
  | tup xs => exact Mn.mn (A := rT rPt) e h
  | str s => exact h⟩
def Ov.isC : Ov → Bool
  | .tup xs => decide (xs.length = 2) && xs.all Pt.isI
  | _ => false
def Ov.ofC (c : Cell) : Ov := .tup [.i c.1, .i c.2]
theorem ov_of_cell {G : Hp} {c : Cell} {v : V} (h : rCell G c v) : rOv G (.ofC c) v := by
  obtain ⟨a, x, y, e, g, h1, h2⟩ := h
  exact ⟨a, [x, y], e, g, .cons h1 (.cons h2 .nil)⟩
theorem ofC_isC (c : Cell) : (Ov.ofC c).isC = true := rfl
/-- texts as lists of codes -/
def rW (_ : Hp) (w : List Nat) (v : V) : Prop := v = .str ⟨w.toArray⟩
instance : Mn rW := ⟨fun _ h => h⟩
def Lets (w : List Nat) : Prop := w ≠ [] ∧ w.length ≤ 24 ∧ ∀ c ∈ w, c = 69 ∨ c = 78 ∨ c = 87 ∨ c = 83

section
variable {α β γ δ : Type} {A : Hp → α → V → Prop} {B : Hp → β → V → Prop} {C : Hp → γ → V → Prop} {σ : L2.St} {W W0 W1 : Wd} {K : PySem.W.Frag} {te tl ta tb tc : TE} {xs : List α} {x : α} {y : β}
theorem rPt_of_i {G : Hp} {i : Int} {v : V} (h : rI G i v) : rPt G (.i i) v := h
theorem e_pt {i : Int} (h : Ev te σ W rI i) : Ev te σ W rPt (.i i) := e_sub (A' := rI) h fun _ _ h => h
theorem ty_pt {H G : Hp} {p : Pt} {v : V} (h : rPt G p v) : ∃ T, TyX K H v (.type T) ∧ ((p.isI = true ∧ T = "int") ∨ (p.isI = false ∧ T = "bool")) := by
  cases p with
  | i n => exact ⟨_, by rw [show v = _ from h]; exact .base (.int n), .inl ⟨rfl, rfl⟩⟩
  | b n => exact ⟨_, by rw [show v = _ from h]; exact .base (.bl n), .inr ⟨rfl, rfl⟩⟩
/-- isinstance(x, T), x of the type T' -/
theorem e_isiT {T : String} {f : α → Bool} (ha : Ev ta σ W A x) (ht : ∀ W1 v, Le W W1 → A W1.G x v → ∃ T', TyX K W1.H v (.type T') ∧ kitB T' T = some (f x)) : Ev (tCB (rIsi K) (tCons ta (tCons (tC (.ty T)) tNil))) σ W rB (f x) := fun W1 l Q q =>
  ha W1 l _ fun v W2 l2 h2 => by
    obtain ⟨T', h3, h4⟩ := ht W2 v (l.trans l2) h2
    exact ⟨v, .ty T, .type T', .type T, f x, rfl, .ty T, h3, kit_ty h4, q _ W2 l2 rfl⟩
theorem e_isiI {p : Pt} (ha : Ev ta σ W rPt p) : Ev (tCB (rIsi K) (tCons ta (tCons (tC (.ty "int")) tNil))) σ W rB true :=
  e_isiT (f := fun _ => true) ha fun W1 v l h => by
    obtain ⟨T, h1, ⟨_, rfl⟩ | ⟨_, rfl⟩⟩ := ty_pt (K := K) (H := W1.H) h
    · exact ⟨_, h1, by decide +kernel⟩
    · exact ⟨_, h1, by decide +kernel⟩
theorem e_isiB {p : Pt} (ha : Ev ta σ W rPt p) : Ev (tCB (rIsi K) (tCons ta (tCons (tC (.ty "bool")) tNil))) σ W rB (!p.isI) :=
  e_isiT (f := fun p => !p.isI) ha fun W1 v l h => by
    obtain ⟨T, h1, ⟨e, rfl⟩ | ⟨e, rfl⟩⟩ := ty_pt (K := K) (H := W1.H) h
    · exact ⟨_, h1, by rw [e]; decide +kernel⟩
    · exact ⟨_, h1, by rw [e]; decide +kernel⟩
def Ov.isT : Ov → Bool
  | .tup _ => true
  | _ => false
theorem e_isiTup {o : Ov} (ha : Ev ta σ W rOv o) : Ev (tCB (rIsi K) (tCons ta (tCons (tC (.ty "tuple")) tNil))) σ W rB o.isT :=
  e_isiT (f := Ov.isT) ha fun W1 v l h => by
    cases o with
    | non => exact ⟨"NoneType", by rw [show v = _ from h]; exact .base .non, by show _ = some false; decide +kernel⟩
    | int i => exact ⟨"int", by rw [show v = _ from h]; exact .base (.int i), by show _ = some false; decide +kernel⟩
    | str i => exact ⟨"str", by rw [show v = _ from h]; exact .base (.str i), by show _ = some false; decide +kernel⟩
    | lst xs =>
      obtain ⟨a, vs, e, g, _⟩ := h
      exact ⟨"list", by rw [e]; exact .base (.lst (l.s.lst g)), by show _ = some false; decide +kernel⟩
    | tup xs =>
      obtain ⟨a, vs, e, g, _⟩ := h
      exact ⟨"tuple", by rw [e]; exact .base (.tup (l.s.tup g)), by show _ = some true; decide +kernel⟩
theorem e_isiStr {w : List Nat} (ha : Ev ta σ W rW w) : Ev (tCB (rIsi K) (tCons ta (tCons (tC (.ty "str")) tNil))) σ W rB true :=
  e_isiT (f := fun _ => true) ha fun W1 v l h => ⟨"str", by rw [show v = _ from h]; exact .base (.str _), by decide +kernel⟩

/-! ### lists that are still written -/
/-- at p stands the list of xs, new since W0, not finished -/
structure Mu (A : Hp → α → V → Prop) (W0 W : Wd) (xs : List α) (p : Addr) : Prop where
  l : Le W0 W
  p0 : W0.H p = none
  g : W.G p = none
  h : ∃ vs, W.H p = some (.lst vs) ∧ Paired (A W.G) xs vs
theorem Mu.le {p : Addr} [Mn A] (m : Mu A W0 W xs p) (l : Le W W1) : Mu A W0 W1 xs p := by
  obtain ⟨vs, h1, h2⟩ := m.h
  exact ⟨m.l.trans l, m.p0, l.gone h1 (fun _ z => nomatch z) m.g, vs, l.h.lst h1, pa_mono l.g h2⟩
/-- another object is written -/
theorem Mu.other {p q : Addr} {o : HO} (m : Mu A W0 W xs p) (l : Le W0 ⟨W.G, upd W.H q o⟩) (e : p ≠ q) : Mu A W0 ⟨W.G, upd W.H q o⟩ xs p := by
  obtain ⟨vs, h1, h2⟩ := m.h
  exact ⟨l, m.p0, m.g, vs, by show upd W.H q o p = _; rw [upd_ne e]; exact h1, h2⟩
/-- a new object -/
theorem Mu.fresh {p q : Addr} (m : Mu A W0 W xs p) (h : W.H q = none) : p ≠ q := fun e => by
  subst e
  obtain ⟨vs, h1, _⟩ := m.h
  rw [h] at h1
  cases h1
theorem Mu.ne {p q : Addr} {o : HO} (m : Mu A W0 W xs p) (h : W.G q = some o) : p ≠ q := fun e => by
  subst e
  rw [m.g] at h
  cases h
theorem Mu.done {p : Addr} [Mn A] (m : Mu A W0 W xs p) : Le W0 ⟨upd W.G p (.lst m.h.choose), W.H⟩ ∧ rL A (upd W.G p (.lst m.h.choose)) xs (.ref p) := by
  have h := m.h.choose_spec
  exact ⟨m.l.done m.p0 m.g h.1, p, _, rfl, upd_same, pa_mono (Same_new m.g) h.2⟩
theorem Mu.sub {p : Addr} (m : Mu A W0 W xs p) : Sub W.G W.H := m.l.s
/-- x = [..] -/
theorem s_newlist {D : Ends} {ts : TA} {i : Nat} [Mn A] (l0 : Le W0 W) (hs : EvA ts σ W (fun G vs => Paired (A G) xs vs)) (hl : xs.length ≤ 100000)
    (k : ∀ p W1 vs, Le W W1 → W1.H p = none → Mu A W0 ⟨W1.G, upd W1.H p (.lst vs)⟩ xs p → D.nx (σ.set i (some (.ref p))) (upd W1.H p (.lst vs))) : tAsg (tLst ts) (gName i) D σ W.H :=
  hs W (Le.refl l0.s) _ fun vs W2 l2 h2 => ⟨by rw [← Paired.length h2]; exact Nat.le_trans hl (by decide), fun p hp => k p W2 vs l2 hp
    ⟨(l0.trans l2).trans (Le.mut l2.s hp), (l0.trans l2).h.free hp, l2.s.free hp, vs, upd_same, h2⟩⟩
/-- x.append(e) -/
theorem s_append {D : Ends} {i : Nat} {p : Addr} [Mn A] (m : Mu A W0 W xs p) (hv : σ[i]? = some (some (.ref p))) (hl : xs.length < 100000) (ha : Ev ta σ W A x)
    (k : ∀ W1 vs, Le W W1 → Mu A W0 ⟨W1.G, upd W1.H p (.lst vs)⟩ (xs ++ [x]) p → D.nx σ (upd W1.H p (.lst vs))) : tDrop (tBM K "list" rAppend (tVar i) (tCons ta tNil)) D σ W.H := by
  obtain ⟨vs, h1, h2⟩ := m.h
  refine ⟨.ref p, hv, .inl ⟨rfl, vs, SqL.of h1⟩, ha W (Le.refl m.l.s) _ fun v W2 l2 h3 => ?_⟩
  have m2 := m.le l2
  obtain ⟨ws, h4, h5⟩ := m2.h
  have h6 := l2.h.lst h1
  rw [h4] at h6
  cases h6
  refine ⟨p, vs, v, rfl, rfl, h4, ?_, k W2 _ l2 ⟨m2.l.write m2.p0 m2.g, m2.p0, m2.g, _, upd_same, pa_app h5 (.cons h3 .nil)⟩⟩
  rw [← Paired.length h2]
  exact Nat.lt_of_lt_of_le hl (by decide)
/-- x[-1] -/
theorem e_muLast {i : Nat} {p : Addr} [Mn A] (m : Mu A W0 W xs p) (hv : σ[i]? = some (some (.ref p))) (e : xs[xs.length - 1]? = some x) : Ev (tOp (rIxL K) (tVar i) (tUn (rU fun i => .int (-i)) (tC (.int 1)))) σ W A x := fun W1 l Q q => by
  have m1 := m.le l
  obtain ⟨vs, h1, h2⟩ := m1.h
  obtain ⟨v', e2, hv2⟩ := pa_get h2 e
  rw [Paired.length h2] at e2
  exact ⟨_, hv, 1, rfl, p, vs, -1, v', rfl, rfl, SqL.of h1, atI_m1 e2, q _ W1 (Le.refl l.s) hv2⟩
/-- x[-1] = e -/
theorem s_setLast {D : Ends} {i : Nat} {p : Addr} [Mn A] (m : Mu A W0 W xs p) (hv : σ[i]? = some (some (.ref p))) (hn : xs ≠ []) (ha : Ev ta σ W A x)
    (k : ∀ W1 vs, Le W W1 → Mu A W0 ⟨W1.G, upd W1.H p (.lst vs)⟩ (xs.dropLast ++ [x]) p → D.nx σ (upd W1.H p (.lst vs))) : tAsg ta (gSub (tVar i) (tUn (rU fun i => .int (-i)) (tC (.int 1))) rSetL) D σ W.H := by
  refine ha W (Le.refl m.l.s) _ fun v W2 l2 h3 => ?_
  have m2 := m.le l2
  obtain ⟨vs, h1, h2⟩ := m2.h
  have hlen := Paired.length h2
  have hp : 0 < vs.length := by rw [← hlen]; exact List.length_pos_iff.mpr hn
  refine ⟨_, hv, 1, rfl, p, vs, -1, vs.length - 1, rfl, rfl, h1, ?_, k W2 _ l2 ⟨m2.l.write m2.p0 m2.g, m2.p0, m2.g, _, upd_same, ?_⟩⟩
  · unfold ixN
    rw [if_neg (by decide), if_pos (by omega)]
    congr 1
    omega
  · have hne : vs ≠ [] := List.length_pos_iff.mp hp
    have : vs.set (vs.length - 1) v = vs.dropLast ++ [v] := by
      conv => lhs; rw [← List.dropLast_concat_getLast hne]
      rw [List.set_append_right _ _ (by simp)]
      simp
    rw [this]
    exact pa_app (pa_drop h2) (.cons h3 .nil)
theorem setLast_eq (xs : List α) : xs.dropLast = xs.dropLast := rfl
/-- x, where x is a list that is still written, as the end of a def -/
theorem e_muTuple {i : Nat} {p : Addr} [Mn A] (m : Mu A W0 W xs p) (hv : σ[i]? = some (some (.ref p))) :
    Ev (tCB (fun xs H Q => ∃ p ys, xs = [.ref p] ∧ ((SqL K H p ys ∧ ∀ l, H l = none → Q (.ref l) (upd H l (.tup ys))) ∨ (SqT K H p ys ∧ Q (.ref p) H))) (tCons (tVar i) tNil)) σ W (rT A) xs := fun W1 l Q q => by
  have m1 := m.le l
  obtain ⟨vs, h1, h2⟩ := m1.h
  exact ⟨_, hv, p, vs, rfl, .inl ⟨SqL.of h1, fun t ht => q _ ⟨upd W1.G t _, upd W1.H t _⟩ (Le.new l.s ht) ⟨t, vs, rfl, upd_same, pa_mono (Same_new (l.s.free ht)) h2⟩⟩⟩
theorem s_retMu {D : Ends} {i : Nat} {p : Addr} [Mn A] (m : Mu A W0 W xs p) (hv : σ[i]? = some (some (.ref p))) (k : ∀ v W', Le W0 W' → rL A W'.G xs v → D.rt v W'.H) : tRet (tVar i) D σ W.H :=
  ⟨_, hv, k _ ⟨upd W.G p (.lst m.h.choose), W.H⟩ m.done.1 m.done.2⟩
end
/-! ### tests of data -/
/-- a representation that is plain data -/
class Da {α : Type} [DecidableEq α] (A : Hp → α → V → Prop) where
  toD : α → PyData
  dn : Nat
  dp : ∀ {K : PySem.W.Frag} {G H : Hp} {x : α} {v : V}, Sub G H → A G x v → Dp K H v (toD x)
  eq : ∀ x y, PyData.eqv (toD x) (toD y) = decide (x = y)
  lay : ∀ x, (toD x).canLay0 = true
  dep : ∀ x, (toD x).depth ≤ dn
section
variable {α β γ δ : Type} [DecidableEq α] [DecidableEq β] {A : Hp → α → V → Prop} {B : Hp → β → V → Prop} {σ : L2.St} {W W0 W1 : Wd} {K : PySem.W.Frag} {te tl ta tb tc : TE} {xs : List α} {x : α} {y : β}
instance : Da rI := ⟨fun i => .int i, 0, fun _ h => by rw [show _ = V.int _ from h]; exact .int _, fun x y => by simp [PyData.eqv, Bool.beq_eq_decide_eq], fun _ => by simp [PyData.canLay0], fun _ => by simp [PyData.depth]⟩
instance : Da rB := ⟨fun i => .bool i, 0, fun _ h => by rw [show _ = V.bl _ from h]; exact .bl _, fun x y => by simp [PyData.eqv, Bool.beq_eq_decide_eq], fun _ => by simp [PyData.canLay0], fun _ => by simp [PyData.depth]⟩
def oD : Option Int → PyData
  | none => .none
  | some i => .int i
instance : Da rO := ⟨oD, 0, fun {K G H x v} _ h => by
    cases x with
    | none => rw [show v = V.non from h]; exact .non
    | some i => rw [show v = V.int i from h]; exact .int _, fun x y => by cases x <;> cases y <;> simp [oD, PyData.eqv, Bool.beq_eq_decide_eq], fun x => by cases x <;> simp [oD, PyData.canLay0], fun x => by cases x <;> simp [oD, PyData.depth]⟩
instance instDaP [i1 : Da A] [i2 : Da B] : Da (rP A B) where
  toD p := .tuple [Da.toD A p.1, Da.toD B p.2]
  dn := 1 + max i1.dn i2.dn
  dp s h := by
    obtain ⟨a, x, y, rfl, g, h1, h2⟩ := h
    exact .tup (SqT.of (s.tup g)) (.cons (Da.dp s h1) (.cons (Da.dp s h2) .nil))
  eq x y := by
    obtain ⟨x1, x2⟩ := x
    obtain ⟨y1, y2⟩ := y
    simp [PyData.eqv, PyData.eqvAll, Da.eq, Bool.decide_and]
  lay x := by simp [PyData.canLay0, PyData.canLayAll0, Da.lay]
  dep x := by
    have h1 := Da.dep (A := A) x.1
    have h2 := Da.dep (A := B) x.2
    simp only [PyData.depth, PyData.depthAll]
    omega
theorem dpAll {K : PySem.W.Frag} {G H : Hp} [Da A] (s : Sub G H) : ∀ {xs : List α} {vs : List V}, Paired (A G) xs vs → DpAll K H vs (xs.map (Da.toD A))
  | _, _, .nil => .nil
  | _, _, .cons h t => .cons (Da.dp s h) (dpAll s t)
theorem eqAll [Da A] : ∀ (xs ys : List α), PyData.eqvAll (xs.map (Da.toD A)) (ys.map (Da.toD A)) = decide (xs = ys)
  | [], [] => by simp [PyData.eqvAll]
  | [], y :: ys => by simp [PyData.eqvAll]
  | x :: xs, [] => by simp [PyData.eqvAll]
  | x :: xs, y :: ys => by simp [PyData.eqvAll, Da.eq, eqAll xs ys, Bool.decide_and]
theorem layAll [Da A] : ∀ (xs : List α), PyData.canLayAll0 (xs.map (Da.toD A)) = true
  | [] => by simp [PyData.canLayAll0]
  | x :: xs => by simp [PyData.canLayAll0, Da.lay, layAll xs]
theorem depAll [i1 : Da A] : ∀ (xs : List α), PyData.depthAll (xs.map (Da.toD A)) ≤ i1.dn
  | [] => by simp [PyData.depthAll]
  | x :: xs => by
    have h1 := Da.dep (A := A) x
    have h2 := depAll xs
    simp only [List.map_cons, PyData.depthAll]
    omega
instance instDaL [i1 : Da A] : Da (rL A) where
  toD xs := .list (xs.map (Da.toD A))
  dn := 1 + i1.dn
  dp s h := by
    obtain ⟨a, vs, rfl, g, ps⟩ := h
    exact .lst (SqL.of (s.lst g)) (dpAll s ps)
  eq x y := by simp only [PyData.eqv]; exact eqAll x y
  lay x := by simp only [PyData.canLay0]; exact layAll x
  dep x := by
    have h2 := depAll (A := A) x
    simp only [PyData.depth]
    omega
theorem da_shaped [i1 : Da A] (h : i1.dn ≤ 64) (x : α) : SeqAt.shaped (Da.toD A x) = true := by
  unfold SeqAt.shaped
  rw [Da.lay, decide_eq_true (Nat.le_trans (Da.dep x) h)]
  rfl
theorem e_eqD [Mn A] [i1 : Da A] {z : α} (ha : Ev ta σ W A x) (hb : Ev tb σ W A z) (h : i1.dn ≤ 64) : Ev (tOp (rEqD K) ta tb) σ W rB (decide (x = z)) :=
  e_op ha hb fun W1 v w Q l h1 h2 q => ⟨_, _, Da.dp l.s h1, Da.dp l.s h2, da_shaped h x, da_shaped h z, q _ W1 (Le.refl l.s) (by rw [Da.eq]; rfl)⟩
theorem e_neD [Mn A] [i1 : Da A] {z : α} (ha : Ev ta σ W A x) (hb : Ev tb σ W A z) (h : i1.dn ≤ 64) : Ev (tOp (rNeD K) ta tb) σ W rB (!decide (x = z)) :=
  e_op ha hb fun W1 v w Q l h1 h2 q => ⟨_, _, Da.dp l.s h1, Da.dp l.s h2, da_shaped h x, da_shaped h z, q _ W1 (Le.refl l.s) (by rw [Da.eq]; rfl)⟩
/-- x != [] for a list that is still written -/
theorem e_muNe {i : Nat} {p : Addr} [Mn A] [i1 : Da A] (m : Mu A W0 W xs p) (hv : σ[i]? = some (some (.ref p))) (h : i1.dn ≤ 60) : Ev (tOp (rNeD K) (tVar i) (tLst tNil)) σ W rB (!decide (xs = [])) := fun W1 l Q q => by
  have m1 := m.le l
  refine ⟨_, hv, by show 0 ≤ sizeLine; exact Nat.zero_le _, fun t ht => ?_⟩
  have l2 : Le W1 ⟨upd W1.G t (.lst []), upd W1.H t (.lst [])⟩ := Le.new l.s ht
  have m2 := m1.le l2
  obtain ⟨vs, h1, h2⟩ := m2.h
  refine ⟨.list (xs.map (Da.toD A)), .list ([].map (Da.toD A)), .lst (SqL.of h1) (dpAll l2.s h2), .lst (SqL.of upd_same) .nil, da_shaped (A := rL A) (by show 1 + i1.dn ≤ 64; omega) xs, da_shaped (A := rL A) (by show 1 + i1.dn ≤ 64; omega) [], q _ _ l2 ?_⟩
  show V.bl _ = V.bl _
  congr 2
  exact (Da.eq (A := rL A) xs [])
theorem e_muEq {i : Nat} {p : Addr} [Mn A] [i1 : Da A] (m : Mu A W0 W xs p) (hv : σ[i]? = some (some (.ref p))) (h : i1.dn ≤ 60) : Ev (tOp (rEqD K) (tVar i) (tLst tNil)) σ W rB (decide (xs = [])) := fun W1 l Q q => by
  have m1 := m.le l
  refine ⟨_, hv, by show 0 ≤ sizeLine; exact Nat.zero_le _, fun t ht => ?_⟩
  have l2 : Le W1 ⟨upd W1.G t (.lst []), upd W1.H t (.lst [])⟩ := Le.new l.s ht
  have m2 := m1.le l2
  obtain ⟨vs, h1, h2⟩ := m2.h
  refine ⟨.list (xs.map (Da.toD A)), .list ([].map (Da.toD A)), .lst (SqL.of h1) (dpAll l2.s h2), .lst (SqL.of upd_same) .nil, da_shaped (A := rL A) (by show 1 + i1.dn ≤ 64; omega) xs, da_shaped (A := rL A) (by show 1 + i1.dn ≤ 64; omega) [], q _ _ l2 ?_⟩
  show V.bl _ = V.bl _
  congr 1
  exact (Da.eq (A := rL A) xs [])
/-- x in xs -/
theorem e_inD [Mn A] [i1 : Da A] {ys : List α} (ha : Ev ta σ W A x) (hb : Ev tb σ W (rL A) ys) (h : i1.dn ≤ 60) : Ev (tOp (rInD K) ta tb) σ W rB (decide (x ∈ ys)) :=
  e_op ha hb fun W1 v w Q l h1 h2 q => ⟨_, ys.map (Da.toD A), Da.dp l.s h1, Da.dp (A := rL A) l.s h2, da_shaped (by omega) x, da_shaped (A := rL A) (by show 1 + i1.dn ≤ 64; omega) ys, q _ W1 (Le.refl l.s) (by
    show V.bl _ = V.bl _
    congr 1
    rw [List.any_map]
    have : (fun z => PyData.eqv z (Da.toD A x)) ∘ Da.toD A = fun z => decide (z = x) := by
      funext z
      exact Da.eq z x
    rw [this, Bool.eq_iff_iff]
    simp)⟩
end
/-! ### comprehensions over one name, over two names -/
section
variable {α β γ δ : Type} {A : Hp → α → V → Prop} {B : Hp → β → V → Prop} {C : Hp → γ → V → Prop} {D : Hp → δ → V → Prop} {σ : L2.St} {W : Wd} {K : PySem.W.Frag} {te : TE} {xs : List α} {wi : TI} {tt : TT} {vs : List Nat} {i j : Nat}
theorem e_lcn (p : α → Bool) (f : α → β) [Mn B] (hi : Iw wi σ W A xs) (hx : xs.length ≤ 40000) (hs : ∀ x v W1, x ∈ xs → Le W W1 → A W1.G x v → Et tt ((wipe σ vs).set i (some v)) W1 (p x) ∧ (p x = true → Ev te ((wipe σ vs).set i (some v)) W1 B (f x)))
    (hw : ∀ v, wipe ((wipe σ vs).set i (some v)) vs = wipe σ vs := by intro v; rfl) : Ev (tLc wi (gName i) tt te vs) σ W (rL B) ((xs.filter p).map f) :=
  e_lc p f hi hx fun x v W1 hm l a => ⟨_, fun Q h => h, hw v, (hs x v W1 hm l a).1, (hs x v W1 hm l a).2⟩
theorem e_lcn1 (f : α → β) [Mn B] (hi : Iw wi σ W A xs) (hx : xs.length ≤ 40000) (hs : ∀ x v W1, x ∈ xs → Le W W1 → A W1.G x v → Ev te ((wipe σ vs).set i (some v)) W1 B (f x))
    (hw : ∀ v, wipe ((wipe σ vs).set i (some v)) vs = wipe σ vs := by intro v; rfl) : Ev (tLc wi (gName i) tYes te vs) σ W (rL B) (xs.map f) :=
  e_lc1 f hi hx fun x v W1 hm l a => ⟨_, fun Q h => h, hw v, hs x v W1 hm l a⟩
variable {ys : List (γ × δ)}
theorem e_lcp (p : γ × δ → Bool) (f : γ × δ → β) [Mn B] (hi : Iw wi σ W (rP C D) ys) (hx : ys.length ≤ 40000) (hs : ∀ x a b W1, x ∈ ys → Le W W1 → C W1.G x.1 a → D W1.G x.2 b → Et tt (((wipe σ vs).set i (some a)).set j (some b)) W1 (p x) ∧ (p x = true → Ev te (((wipe σ vs).set i (some a)).set j (some b)) W1 B (f x)))
    (hw : ∀ a b, wipe (((wipe σ vs).set i (some a)).set j (some b)) vs = wipe σ vs := by intro a b; rfl) : Ev (tLc wi (gTup K 2 (gCons (gName i) (gCons (gName j) gNil))) tt te vs) σ W (rL B) ((ys.filter p).map f) :=
  e_lc p f hi hx fun x v W1 hm l a => by
    obtain ⟨t, u, y, e, g, h1, h2⟩ := a
    exact ⟨_, fun Q h => ⟨t, [u, y], e, SqT.of (l.s.tup g), rfl, u, [y], rfl, y, [], rfl, rfl, h⟩, hw u y, (hs x u y W1 hm l h1 h2).1, (hs x u y W1 hm l h1 h2).2⟩
theorem e_lcp1 (f : γ × δ → β) [Mn B] (hi : Iw wi σ W (rP C D) ys) (hx : ys.length ≤ 40000) (hs : ∀ x a b W1, x ∈ ys → Le W W1 → C W1.G x.1 a → D W1.G x.2 b → Ev te (((wipe σ vs).set i (some a)).set j (some b)) W1 B (f x))
    (hw : ∀ a b, wipe (((wipe σ vs).set i (some a)).set j (some b)) vs = wipe σ vs := by intro a b; rfl) : Ev (tLc wi (gTup K 2 (gCons (gName i) (gCons (gName j) gNil))) tYes te vs) σ W (rL B) (ys.map f) :=
  e_lc1 f hi hx fun x v W1 hm l a => by
    obtain ⟨t, u, y, e, g, h1, h2⟩ := a
    exact ⟨_, fun Q h => ⟨t, [u, y], e, SqT.of (l.s.tup g), rfl, u, [y], rfl, y, [], rfl, rfl, h⟩, hw u y, hs x u y W1 hm l h1 h2⟩
end
/-! ### more statements -/
section
variable {α β γ δ : Type} {A : Hp → α → V → Prop} {B : Hp → β → V → Prop} {C : Hp → γ → V → Prop} {σ : L2.St} {W W0 : Wd} {K : PySem.W.Frag} {te ta tb : TE} {D : Ends} {i j : Nat} {x : α} {y : β}
theorem s_unp {p : α × β} (s : Sub W.G W.H) (h : Ev ta σ W (rP A B) p) (k : ∀ a b W', Le W W' → A W'.G p.1 a → B W'.G p.2 b → D.nx ((σ.set i (some a)).set j (some b)) W'.H) :
    tAsg ta (gTup K 2 (gCons (gName i) (gCons (gName j) gNil))) D σ W.H := h W (Le.refl s) _ fun v W2 l2 ⟨t, u, y, e, g, h1, h2⟩ => ⟨t, [u, y], e, SqT.of (l2.s.tup g), rfl, u, [y], rfl, y, [], rfl, rfl, k u y W2 l2 h1 h2⟩
theorem s_par [Mn A] (s : Sub W.G W.H) (ha : Ev ta σ W A x) (hb : Ev tb σ W B y) (k : ∀ a b W', Le W W' → A W'.G x a → B W'.G y b → D.nx ((σ.set i (some a)).set j (some b)) W'.H) :
    tPar i j (tCons ta (tCons tb tNil)) D σ W.H := ha W (Le.refl s) _ fun v W2 l2 h2 => hb W2 l2 _ fun w W3 l3 h3 => ⟨v, w, rfl, k v w W3 (l2.trans l3) (Mn.mn l3.g h2) h3⟩
/-! ### instances that are still written -/
structure Iu (W0 W : Wd) (Cc a dx : Addr) (fs : List (Str × V)) : Prop where
  l : Le W0 W
  p0 : W0.H a = none
  g : W.G a = none
  h : W.H a = some (.ins Cc dx fs)
theorem Iu.le {W1 : Wd} {Cc a dx : Addr} {fs : List (Str × V)} (m : Iu W0 W Cc a dx fs) (l : Le W W1) : Iu W0 W1 Cc a dx fs := ⟨m.l.trans l, m.p0, l.gone m.h (fun _ z => nomatch z) m.g, l.h.ins m.h⟩
theorem s_fld {Cc a dx : Addr} {fs : List (Str × V)} {f : Str} (m : Iu W0 W Cc a dx fs) (hv : σ[i]? = some (some (.ref a))) (c : Cls K Cc) (n : NoAttr K Cc f) (hl : fs.length < 1000) (h : Ev te σ W B y)
    (k : ∀ W1 v, Le W W1 → B W1.G y v → Iu W0 ⟨W1.G, upd W1.H a (.ins Cc dx (putF f v fs))⟩ Cc a dx (putF f v fs) → D.nx σ (upd W1.H a (.ins Cc dx (putF f v fs)))) : sFld K (tVar i) te f D σ W.H :=
  h W (Le.refl m.l.s) _ fun v W1 l1 h1 => by
    have m1 := m.le l1
    exact ⟨.ref a, hv, a, Cc, dx, fs, rfl, m1.h, c, n, hl, k W1 v l1 h1 ⟨m1.l.write m1.p0 m1.g, m1.p0, m1.g, upd_same⟩⟩
/-- a class's __init__: the instance is at a -/
def PrmI (Cc : Addr) (In : Hp → α → List V → Prop) (Pre : α → Prop) (F : Hp → β → List (Str × V) → Prop) (f : α → β) : Sp := fun vs H Q _ => ∃ (W0 : Wd) (G : Hp) (a dx : Addr) (ws : List V) (x : α), vs = .ref a :: ws ∧ Iu W0 ⟨G, H⟩ Cc a dx [] ∧ In G x ws ∧ Pre x ∧
  ∀ W' fs, Iu W0 W' Cc a dx fs → F W'.G (f x) fs → Q .non W'.H
theorem e_make {Cc : Addr} {In : Hp → α → List V → Prop} {Pre : α → Prop} {F : Hp → β → List (Str × V) → Prop} [MnF F] {f : α → β} {E : XK} {ts : TA} {x : α} (h : EvA ts σ W (fun G vs => In G x vs)) (hp : Pre x) : Ev (tMake Cc (PrmI Cc In Pre F f) [] E ts) σ W (rIn Cc F) (f x) := fun W1 l Q q =>
  h W1 l _ fun vs W2 l2 h2 a dx ha hd hn => by
    have l3 : Le W2 ⟨W2.G, upd W2.H dx (.own a)⟩ := Le.mut l2.s hd
    have ha3 : (upd W2.H dx (.own a)) a = none := by rw [upd_ne (fun z => hn z.symm)]; exact ha
    have l4 : Le ⟨W2.G, upd W2.H dx (.own a)⟩ ⟨W2.G, upd (upd W2.H dx (.own a)) a (.ins Cc dx [])⟩ := Le.mut l3.s ha3
    refine ⟨W2, W2.G, a, dx, vs ++ [], x, rfl, ⟨l3.trans l4, ha, l2.s.free ha, upd_same⟩, by rw [List.append_nil]; exact h2, hp, fun W' fs m hF => ⟨rfl, ?_⟩⟩
    exact q _ ⟨upd W'.G a (.ins Cc dx fs), W'.H⟩ (l2.trans (m.l.done m.p0 m.g m.h)) ⟨a, dx, fs, rfl, upd_same, MnF.mn (Same_new m.g) hF⟩
theorem ea_in1 (h : Ev te σ W A x) : EvA (tCons te tNil) σ W (fun G vs => In1 A G x vs) := fun W1 l Q q => h W1 l _ fun v W2 l2 h2 => q _ W2 l2 ⟨v, rfl, h2⟩
theorem ea_in2 [Mn A] (ha : Ev ta σ W A x) (hb : Ev tb σ W B y) : EvA (tCons ta (tCons tb tNil)) σ W (fun G vs => In2 A B G (x, y) vs) := fun W1 l Q q =>
  ha W1 l _ fun v W2 l2 h2 => hb W2 (l.trans l2) _ fun w W3 l3 h3 => q _ W3 (l2.trans l3) ⟨v, w, rfl, Mn.mn l3.g h2, h3⟩
theorem ea_in3 [Mn A] [Mn B] {tc : TE} {z : γ} (ha : Ev ta σ W A x) (hb : Ev tb σ W B y) (hc : Ev tc σ W C z) : EvA (tCons ta (tCons tb (tCons tc tNil))) σ W (fun G vs => In3 A B C G (x, y, z) vs) := fun W1 l Q q =>
  ha W1 l _ fun v W2 l2 h2 => hb W2 (l.trans l2) _ fun w W3 l3 h3 => hc W3 ((l.trans l2).trans l3) _ fun u W4 l4 h4 => q _ W4 ((l2.trans l3).trans l4) ⟨v, w, u, rfl, Mn.mn (l3.g.trans l4.g) h2, Mn.mn l4.g h3, h4⟩
/-- o.m() whose values are defaults -/
theorem e_meth0d {Cc : Addr} {F : Hp → α → List (Str × V) → Prop} {x : α} {y : β} {z : γ} {d1 d2 : V} {m : Str} {E : XK} {δ : Type} {D : Hp → δ → V → Prop} {Pre : α × β × γ → Prop} {f : α × β × γ → δ} (h : Ev te σ W (rIn Cc F) x) (hm : ∀ G fs, F G x fs → fs.lookup m = none) (h1 : ∀ G, B G y d1) (h2 : ∀ G, C G z d2) (hp : Pre (x, y, z)) :
    Ev (tMeth Cc m (Prm (In3 (rIn Cc F) B C) Pre D f) [d1, d2] E te tNil) σ W D (f (x, y, z)) := fun W1 l Q q =>
  h W1 l _ fun v W2 l2 ⟨a, dx, fs, e, g, hF⟩ => ⟨a, dx, fs, e, l2.s.ins g, hm _ _ hF, W2.G, (x, y, z), l2.s, ⟨v, d1, d2, rfl, ⟨a, dx, fs, e, g, hF⟩, h1 _, h2 _⟩, hp, fun u W3 l3 h3 => q u W3 (l2.trans l3) h3⟩
/-- p[i] of a pair of the same kind -/
theorem e_ixP {p : α × α} {b : Bool} (h : Ev ta σ W (rP A A) p) (hi : Ev tb σ W rI (if b then 0 else 1)) [Mn A] : Ev (tOp (rIxT K) ta tb) σ W A (if b then p.1 else p.2) :=
  e_op h hi fun W1 v w Q l ⟨a, x', y', e, g, h1, h2⟩ e2 q => by
    cases b with
    | true => exact ⟨a, [x', y'], 0, x', e, e2, SqT.of (l.s.tup g), rfl, q _ W1 (Le.refl l.s) h1⟩
    | false => exact ⟨a, [x', y'], 1, y', e, e2, SqT.of (l.s.tup g), rfl, q _ W1 (Le.refl l.s) h2⟩
end
end K53
end

/-! K53S -/
section
/-! super().__init__(..) in the __init__ of an ordinary class. -/
namespace K53
open PySem PySem.Spec PyProof.Rows L2 NdefX ClX
/-- a block of a def's own body, run at the def's own code -/
structure AtS (X : Cx) (c : Code) (sts : List Stmt) (t : TS) : Prop where
  run : ∀ (pins : List (Addr × Obj)) (s : Shared) (σ : L2.St) (H : Hp) (D : Ends), Inv X pins σ H s → t D σ H → _root_.PySem.wpAt (model X.prog X.w) X.A c (execs sts X.env) (fun fl s' => SP X pins D fl s') X.xe s
section
variable {X : Cx} {c : Code} {st : Stmt} {sts : List Stmt} {t u : TS}
theorem at_ps (h : PSs X sts t) : AtS X c sts t := ⟨fun pins s σ H D I q => _root_.PySem.wpAt_of_wpAny (h.run pins s σ H D I q)⟩
theorem at_seq (h : ∀ (pins : List (Addr × Obj)) (s : Shared) (σ : L2.St) (H : Hp) (D : Ends), Inv X pins σ H s → t D σ H → _root_.PySem.wpAt (model X.prog X.w) X.A c (exec st X.env) (fun fl s' => SP X pins D fl s') X.xe s) (r : AtS X c sts u) : AtS X c (st :: sts) (tSeq t u) := by
  refine ⟨fun pins s σ H D I q => ?_⟩
  refine ks_wpAt_execs_cons (ks_wpAt_mono (h pins s σ H { D with nx := u D } I q) (fun f s1 q => ?_) fun _ _ y => y)
  cases f with
  | next =>
    obtain ⟨σ', H', I', q⟩ := q
    exact r.run pins s1 σ' H' D I' q
  | ret v => exact q
  | brk => exact q
  | cont => exact q
theorem at_cons (h : PS X st t) (r : AtS X c sts u) : AtS X c (st :: sts) (tSeq t u) := at_seq (fun pins s σ H D I q => _root_.PySem.wpAt_of_wpAny (h.run pins s σ H D I q)) r
end
section
variable {X : Cx} {c : Code} {st : Stmt} {sts : List Stmt} {t u : TS}
theorem at_consN (h : PS X.nox st t) (r : AtS X c sts u) : AtS X c (st :: sts) (tSeq t u) := at_cons ⟨fun pins s σ H D I hw => wpAny_mono (h.run pins s σ H D (I.wish _) hw) (fun _ _ q => q.unwish) fun _ _ z => False.elim z⟩ r
end
/-- what of the text the super call asks: C the class that the def stands in, fI the next __init__ -/
structure SupK (P : Program) (K : PySem.W.Frag) (mg : Str → Option Value) (C f fI cc cda : Addr) (fd : FuncData) : Prop where
  fn : ∃ (oc : Value) (od : Option Addr) (osl : Array (Option Value)), K.lookup f = some ⟨oc, od, .func fd, osl⟩
  hp : ∃ ar, (fd.params.posonlyargs ++ fd.params.args).head? = some ar ∧ ar.arg = "self"
  code : ∃ (ccl : Value) (cdd : Option Addr) (vs : Array Value) (ccs : Array (Option Value)) (file : Str) (tf : Tok), K.lookup cda = some ⟨ccl, cdd, .fields vs, ccs⟩ ∧ vs[2]? = some (.str file tf) ∧ ((P.main.file : Str) == file) = true
  cell : ∃ (cl : Value) (cld : Option Addr) (csl : Array (Option Value)), K.lookup cc = some ⟨cl, cld, .cell (some (.ref C)), csl⟩
  cls : ∃ cd, PySem.W.clsIn K C = some cd
  sub : PySem.W.mroIn K C (.ref C) = some true
  none : mg "super" = .none
  top : (P.main.scope.names.lookup ("super" : Str)).isSome = false
  ho : PySem.W.nsIn K cStatics "thirdparty.any" = some .none
  hm : PySem.W.ks_superIn K C C "__init__" = some (some (.ref fI))
  ty : PySem.W.typeIn K (.ref fI) = some (.type "function")
  fi : PySem.W.fnIn K fI = true
def tSup (C : Addr) (i : Nat) (sp : Sp) (ta : TA) : TE := fun σ H Q => ∃ a dx fs, σ[i]? = some (some (.ref a)) ∧ H a = some (.ins C dx fs) ∧ ta σ H fun vs H1 => sp (.ref a :: vs) H1 Q E0
section
variable {X : Cx} {body rest : List Stmt} {u : TS} {F : NF} {f fI cc C : Addr} {fd : FuncData} {k j i : Nat} {sp : Sp} {ta : TA} {p0 p1 apos cpos pos : Pos} {e : Expr} {es : List Expr} {pl : Sem Bool}
theorem at_super (K0 : SupK X.prog X.K X.mg C f fI cc F.c fd) (hE : X.env = envF F f X.env.locals) (hcl : F.cl = [(("__class__" : Str), cc)]) (hks : F.scope.names.lookup ("super" : Str) = some .globalImplicit) (hkc : F.scope.names.lookup ("__class__" : Str) = some .free)
    (hka : F.scope.names.lookup ("self" : Str) = some .local) (hN : X.N[i]? = some "self") (G : FnR X.prog X.w X.K X.mg X.base CX0 k fI sp) (hr : Room j X.A) (hk : k ≤ j) (ha : PA X (e :: es) ta) (r : AtS X (.func body X.env) rest u)
    (hst : starEach (e :: es) X.env = (false, eval e X.env) :: starEach es X.env := by rfl) (hpl : (backTo cpos (starEach es X.env)).any (·.1) = false := by rfl)
    (hsw : swapsWith (.Call (.Attribute (.Call (.Name "super" p0) [] [] p1) "__init__" apos) (e :: es) [] cpos) none pos.line X.env = pure false := by rfl)
    (hev : eval (.Call (.Attribute (.Call (.Name "super" p0) [] [] p1) "__init__" apos) (e :: es) [] cpos) X.env = (do
      let ov ← attributeBase (.Call (.Name "super" p0) [] [] p1) "__init__" X.env (eval (.Call (.Name "super" p0) [] [] p1) X.env)
      standAt apos.atName
      let (f, first) ← holding [ov] (getMethod ov "__init__" pl)
      callWith cpos f first (backTo cpos (starEach (e :: es) X.env)) []) := by rfl) :
    AtS X (.func body X.env) (.Expr (.Call (.Attribute (.Call (.Name "super" p0) [] [] p1) "__init__" apos) (e :: es) [] cpos) pos :: rest) (tSeq (tDrop (tSup C i sp ta)) u) := by
  refine at_seq (fun pins s σ H D I q => ?_) r
  obtain ⟨a, dx, fs, hv, hins, q⟩ := q
  refine ks_wpAt_Expr_any (prog := X.prog) (w := X.w) ?_ I.quiet hsw
  refine ks_wpAt_MethodCall (pl := pl) ?_ hev
  have kX := I.kIn
  obtain ⟨oc, od, osl, hf⟩ := K0.fn
  obtain ⟨ar, hp, har⟩ := K0.hp
  obtain ⟨ccl, cdd, vs, ccs, file, tf, hcode, hvs, hfile⟩ := K0.code
  obtain ⟨cl, cld, csl, hcell⟩ := K0.cell
  obtain ⟨cd, hD⟩ := K0.cls
  have ekind : X.env.scope = F.scope := by rw [hE]
  have ekind2 : ∀ x, X.env.kindOf x = F.scope.names.lookup x := fun x => by rw [hE]; rfl
  have efun : X.env.func = some f := by rw [hE]
  have ecode : X.env.code = .ref F.c := by rw [hE]
  have ecells : X.env.cells = [(("__class__" : Str), cc)] := by rw [hE]; exact hcl
  obtain ⟨mA, O, _⟩ := ins_get I.hok hins
  obtain ⟨odx, J, _⟩ := O.look
  obtain ⟨oD, hD1, hD2⟩ : ∃ oD, s.heap.get? C = some oD ∧ oD.data = .cls cd := by
    unfold PySem.W.clsIn at hD
    split at hD
    · rename_i c d cd' sl ho
      cases hD
      exact ⟨_, kX _ _ ho, rfl⟩
    · cases hD
  refine ks_wpAt_super_base (env := X.env) (f := f) (cc := F.c) ((ekind2 _).trans hks) ((ekind2 _).trans hkc) (by decide) efun (kX _ _ hf) rfl hp ecode (kX _ _ hcode) rfl hvs hfile K0.top ?_
  obtain ⟨mb, hb1, hb2⟩ := I.mod.blt
  refine PySem.W.ks_loadName_global I.ok.kind ((ekind2 _).trans hks) (Calls.loadGlobal_builtin (by rw [I.ok.glob]; exact I.mod.glob.keeps I.bk) K0.none (by rw [I.ok.blt]; exact hb1.keeps I.bk) ((hb2 "super" (by decide)).trans (show bootBuiltins "super" = some (.type "super") by decide +kernel)) ⟨rfl, ?_⟩)
  refine wpAny_loadName_free (c := cc) (v := .ref C) I.ok.kind ((ekind2 _).trans hkc) (by rw [ecells]; rfl) ⟨_, kX _ _ hcell, rfl⟩ ?_
  obtain ⟨m, hns, hl⟩ := I.loc
  obtain ⟨u', ru, hlook⟩ := hl i "self" (.ref a) hN hv (.inl (by rw [ekind]; exact hka))
  have hu' : u' = .ref a := ru
  subst hu'
  have hm : m "self" = some (.ref a) := by
    rcases hlook with ⟨_, z⟩ | ⟨z, _⟩
    · exact z
    · rcases z with z | z <;> rw [(ekind2 _).trans hka] at z <;> cases z
  rw [har]
  refine wpAny_loadName_local I.ok.kind ((ekind2 _).trans hka) hns hm ?_
  refine ks_wpAny_isType_cls hD1 hD2 ⟨rfl, ?_⟩
  refine ks_wpAny_call_super hD1 hD2 J.at_ J.cls (fun c e => ?_) (PySem.W.looks_mroIn kX K0.sub) (fun h' e k => ?_)
  · have := J.no
    unfold PySem.W.notCls at this
    rw [e] at this
    exact Bool.noConfusion this
  have I1 := pin_new (t' := s.toks) I k (Nat.le_refl _) e (fun v z => nomatch z)
  have kX1 := I1.kIn
  obtain ⟨of, hof, hofc⟩ : ∃ of, h'.get? fI = some of ∧ of.cls = .type "function" := by
    have ht' : (X.K.lookup fI).map (·.cls) = some (.type "function") := K0.ty
    cases z : X.K.lookup fI with
    | none => rw [z] at ht'; cases ht'
    | some of => rw [z] at ht'; exact ⟨of, kX1 _ _ z, Option.some.inj ht'⟩
  have hm' := K0.hm
  unfold PySem.W.ks_superIn at hm'
  rw [hD] at hm'
  refine ks_wpAny_getMethod_super (l₀ := cd.mro) e (PySem.W.looks_opaque kX1 K0.ho) (fun A Q E s k q => wpAny_bind ((PySem.W.looks_clsIn kX1 hD) A _ E s k (wpAny_pure q))) rfl kX1 hm' hof hofc (PySem.W.ks_ne kX J hD) (by decide) ?_
  have I2 := met_new (g := fI) (C := a) I1
  refine callwith_cm I2 (base_none I1 (Nat.le_refl _)) K0.fi (thn (ha.run cpos _ _ σ H _ I2 q) fun us s3 ⟨vs, H2, I3, rv, q2⟩ => ⟨⟨pin_at I3, I3.kIn⟩, ?_⟩) hst hpl
  refine thn (run_cm (Q := fun _ H1 => D.nx σ H1) (G.mono hk) hr pass0 I3 rv (E := E0) q2) fun w' s4 ⟨v', H4, I4, _, q4⟩ => ?_
  exact ⟨σ, H4, unpin I4, q4⟩
end
/-! ### the rule: a def with the class's cell, by its body -/
section
variable {P : Program} {w : World} {K : PySem.W.Frag} {mg : Str → Option Value} {base : Heap} {k : Nat} {f cc C : Addr} {F : NF} {dV kV doc pm ct oc : Value} {an od : Option Addr} {osl : Array (Option Value)} {N ps : List Str} {sp : Sp}
theorem fn_ofS (lk : K.lookup f = some ⟨oc, od, .func (PySem.W.fnX F.name F.qual F.params F.body F.scope F.cl dV kV doc pm an (.ref F.c) ct), osl⟩) (hcd : PySem.W.codeIn K (.ref F.c) F.qual = true) (S : NScope N ps ["__class__"] F.scope) (hcl : F.cl = [(("__class__" : Str), cc)])
    (hcell : ∃ (cl : Value) (cld : Option Addr) (csl : Array (Option Value)), K.lookup cc = some ⟨cl, cld, .cell (some (.ref C)), csl⟩) (len : ∀ vs H Q E, sp vs H Q E → vs.length = ps.length)
    (hbody : ∀ (A : Around) (outer : List Env) (s : Shared) (H : Hp) (vs : List V) (Q : VK) (E : XK), Room k (A.deeper (envF F f s.heap.objs.size)) → sp vs H Q E →
      ∃ t, AtS (ncx CX0 P w K mg base N F f A outer s H E) (.func F.body (envF F f s.heap.objs.size)) F.body t ∧ t { nx := fun _ H' => Q .non H', rt := Q } (startF N vs [none]) H) :
    FnOk P w K mg base CX0 (k + 1) f (PySem.W.fnX F.name F.qual F.params F.body F.scope F.cl dV kV doc pm an (.ref F.c) ct) ps sp := by
  refine ⟨len, fun A outer s H args us vs Q E hr e0 hb r hsp => ?_⟩
  have hl := len _ _ _ _ hsp
  have KX : K.In s.heap := e0.mod.kin.keeps fun b o e => (e0.bs b o e).1
  have lim : s.heap.NoLimit := e0.mod.nolimit.keeps fun b o e => (e0.bs b o e).1
  obtain ⟨cl, cld, csl, hcell⟩ := hcell
  refine codeAny_call_function hr.depth (KX _ _ lk) rfl S.co S.gen rfl (PySem.W.codeRec_of KX hcd) (hb _ _ _ _ ?_)
  refine wpAny_newFunctionEnv S.nocell (fun ⟨n, _⟩ hy => S.par n (List.of_mem_zip hy).1) (fun h₁ hns hsb => ⟨lim.fresh _ hsb, ?_⟩) S.kind
  show codeAny _ _ (.func F.body (envF F f s.heap.objs.size)) _ _
  have kp : ∀ b o, s.heap.get? b = some o → h₁.get? b = some o := fun b o e => hsb.extBut b o (Nat.ne_of_lt (Heap.lt_size e)) (Heap.get?_push_of_some _ e)
  obtain ⟨t, ht, hq⟩ := hbody A outer s H vs Q E (hr.deeper _) hsp
  have Cc : CellsAt F.cl ["__class__"] [none] s.heap H := by
    rw [hcl]
    have hb := e0.bs
    refine ⟨rfl, fun y c e => ?_, fun x y c e1 e2 => ?_, fun i y e => ?_⟩
    · have : c = cc := by
        unfold List.lookup at e
        split at e
        · exact (Option.some.inj e).symm
        · cases e
      subst this
      obtain ⟨o, ho⟩ : ∃ o, base.get? c = some o := ⟨_, e0.mod.kin _ _ hcell⟩
      exact ⟨(hb c o ho).2, _, _, KX _ _ hcell, rfl⟩
    · have k1 : ∀ z, List.lookup z [(("__class__" : Str), cc)] = some c → z = "__class__" := fun z hz => by
        unfold List.lookup at hz
        split at hz
        · rename_i q; exact eq_of_beq q
        · cases hz
      rw [k1 x e1, k1 y e2]
    · cases i with
      | zero =>
        simp at e
        subst e
        exact ⟨cc, by simp [List.lookup], fun v hv => by simp at hv⟩
      | succ i => simp at e
  have I : Inv (ncx CX0 P w K mg base N F f A outer s H E) [] (startF N vs [none]) H { s with heap := h₁, toks := s.toks + (ps.zip us).length } := inv_startN S hr.hd e0 hl r Cc hns kp
  refine ks_codeAny_funcAt (ks_wpAt_mono (ht.run [] _ (startF N vs [none]) H _ I hq) (fun fl s' hs => ?_) fun e s' hs => hs)
  have fin : ∀ {σ' : L2.St} {H' : Hp} {v : V} {u : Value}, Inv (ncx CX0 P w K mg base N F f A outer s H E) [] σ' H' s' → L2.RelV v u → Q v H' → CE outer P w H s Q u s' :=
    fun {σ' H' v u} J rv q => ⟨v, H', J.os, J.bare, J.base, J.hok, rv, q⟩
  cases fl with
  | ret u =>
    obtain ⟨v, σ', H', J, rv, q⟩ := hs
    exact fin J rv q
  | next =>
    obtain ⟨σ', H', J, q⟩ := hs
    exact fin (v := V.non) (u := Value.none) J rfl q
  | brk =>
    obtain ⟨_, _, _, q⟩ := hs
    exact False.elim q
  | cont =>
    obtain ⟨_, _, _, q⟩ := hs
    exact False.elim q
end
end K53
end

/-! K53M -/
section
/-! A dict whose values are lists, while it is built. -/
namespace K53
open PySem PySem.Spec PyProof.Rows L2
/-- many objects are finished at once -/
theorem Le.doneAll {W W1 : Wd} {S : List Addr} (l : Le W W1) (hS : ∀ b ∈ S, W.H b = none ∧ W1.G b = none) : Le W ⟨fun b => if b ∈ S then W1.H b else W1.G b, W1.H⟩ := by
  refine ⟨fun b o h => ?_, l.h, fun b o h => ?_, fun b o h => ?_, l.u⟩
  · have n : b ∉ S := fun z => by
      have h1 := (hS b z).2
      rw [l.g b o h] at h1
      cases h1
    show (if b ∈ S then W1.H b else W1.G b) = some o
    rw [if_neg n]
    exact l.g b o h
  · have h : (if b ∈ S then W1.H b else W1.G b) = some o := h
    by_cases n : b ∈ S
    · rw [if_pos n] at h; exact .inl h
    · rw [if_neg n] at h; exact l.s b o h
  · have h : (if b ∈ S then W1.H b else W1.G b) = some o := h
    by_cases n : b ∈ S
    · exact .inr (.inl (hS b n).1)
    · rw [if_neg n] at h; exact l.n b o h
theorem same_doneAll {W1 : Wd} {S : List Addr} (hS : ∀ b ∈ S, W1.G b = none) : Same W1.G (fun b => if b ∈ S then W1.H b else W1.G b) := fun b o h => by
  have n : b ∉ S := fun z => by
    rw [hS b z] at h
    cases h
  show (if b ∈ S then W1.H b else W1.G b) = some o
  rw [if_neg n]
  exact h
section
variable {α β : Type} {A : Hp → α → V → Prop} {σ : L2.St} {W W0 W1 : Wd} {K : PySem.W.Frag} {te ta : TE}
/-- a list at a, new since W0, not finished -/
structure Ro (A : Hp → α → V → Prop) (W0 W : Wd) (xs : List α) (a : Addr) : Prop where
  a0 : W0.H a = none
  g : W.G a = none
  h : ∃ vs, W.H a = some (.lst vs) ∧ Paired (A W.G) xs vs
theorem Ro.le [Mn A] {xs : List α} {a : Addr} (m : Ro A W0 W xs a) (l : Le W W1) : Ro A W0 W1 xs a := by
  obtain ⟨vs, h1, h2⟩ := m.h
  exact ⟨m.a0, l.gone h1 (fun _ z => nomatch z) m.g, vs, l.h.lst h1, pa_mono l.g h2⟩
theorem Ro.other {xs : List α} {a q : Addr} {o : HO} (m : Ro A W0 W xs a) (e : a ≠ q) : Ro A W0 ⟨W.G, upd W.H q o⟩ xs a := by
  obtain ⟨vs, h1, h2⟩ := m.h
  exact ⟨m.a0, m.g, vs, by show upd W.H q o a = _; rw [upd_ne e]; exact h1, h2⟩
def adOf : V → Addr
  | .ref a => a
  | _ => 0
/-- the row e stands as q -/
def RoE (A : Hp → α → V → Prop) (W0 W : Wd) (e : Cell × List α) (q : List Key × V) : Prop := q.1 = kC e.1 ∧ q.2 = .ref (adOf q.2) ∧ Ro A W0 W e.2 (adOf q.2)
structure Mr (A : Hp → α → V → Prop) (W0 W : Wd) (r : List (Cell × List α)) (p : Addr) : Prop where
  l : Le W0 W
  p0 : W0.H p = none
  g : W.G p = none
  h : ∃ kvs, W.H p = some (.dT kvs) ∧ Paired (RoE A W0 W) r kvs ∧ (kvs.map fun q => adOf q.2).Nodup
def addRowG (A : Hp → α → V → Prop) : List (Cell × List α) → Cell → α → List (Cell × List α)
  | [], f, e => [(f, [e])]
  | (g, row) :: r, f, e => if g = f then (g, row ++ [e]) :: r else (g, row) :: addRowG A r f e
theorem addRowG_eq : ∀ (r : Rows) (f : Cell) (e : Pr) (A : Hp → Pr → V → Prop), addRowG A r f e = addRow r f e
  | [], _, _, _ => rfl
  | (g, row) :: r, f, e, A => by unfold addRowG addRow; rw [addRowG_eq r f e A]
theorem addRowG_none : ∀ {r : List (Cell × List α)} {f : Cell} {e : α}, (∀ x ∈ r, x.1 ≠ f) → addRowG A r f e = r ++ [(f, [e])]
  | [], _, _, _ => rfl
  | (g, row) :: r, f, e, h => by
    unfold addRowG
    rw [if_neg (h (g, row) List.mem_cons_self), addRowG_none fun x hx => h x (List.mem_cons_of_mem _ hx)]
    rfl
theorem Mr.le [Mn A] {r : List (Cell × List α)} {p : Addr} (m : Mr A W0 W r p) (l : Le W W1) : Mr A W0 W1 r p := by
  obtain ⟨kvs, h1, h2, h3⟩ := m.h
  exact ⟨m.l.trans l, m.p0, l.gone h1 (fun _ z => nomatch z) m.g, kvs, l.u p _ trivial h1 m.g, Paired.mapP h2 fun _ _ h => ⟨h.1, h.2.1, h.2.2.le l⟩, h3⟩
theorem roe_mem {r : List (Cell × List α)} {kvs : List (List Key × V)} (h : Paired (RoE A W0 W) r kvs) : ∀ q ∈ kvs, ∃ e ∈ r, RoE A W0 W e q := by
  induction h with
  | nil => intro q hq; cases hq
  | @cons e q r kvs h t ih =>
    intro q' hq
    rcases List.mem_cons.mp hq with rfl | hq
    · exact ⟨e, List.mem_cons_self, h⟩
    · obtain ⟨e', h1, h2⟩ := ih q' hq
      exact ⟨e', List.mem_cons_of_mem _ h1, h2⟩
theorem roe_memL {r : List (Cell × List α)} {kvs : List (List Key × V)} (h : Paired (RoE A W0 W) r kvs) : ∀ e ∈ r, ∃ q ∈ kvs, RoE A W0 W e q := by
  induction h with
  | nil => intro q hq; cases hq
  | @cons e q r kvs h t ih =>
    intro q' hq
    rcases List.mem_cons.mp hq with rfl | hq
    · exact ⟨q, List.mem_cons_self, h⟩
    · obtain ⟨e', h1, h2⟩ := ih q' hq
      exact ⟨e', List.mem_cons_of_mem _ h1, h2⟩
/-- no row has the address q -/
theorem roe_other {r : List (Cell × List α)} {kvs : List (List Key × V)} {q : Addr} {o : HO} (h : Paired (RoE A W0 W) r kvs) (n : q ∉ kvs.map fun x => adOf x.2) : Paired (RoE A W0 ⟨W.G, upd W.H q o⟩) r kvs := by
  induction h with
  | nil => exact .nil
  | @cons e q' r kvs h t ih =>
    have h1 : q ≠ adOf q'.2 := fun z => n (by rw [List.map_cons, z]; exact List.mem_cons_self)
    exact .cons ⟨h.1, h.2.1, h.2.2.other fun z => h1 z.symm⟩ (ih fun z => n (by rw [List.map_cons]; exact List.mem_cons_of_mem _ z))
/-- the row of f takes one more -/
theorem roe_add {f : Cell} {e : α} {a : Addr} {v : V} {ws : List V} : ∀ {r : List (Cell × List α)} {kvs : List (List Key × V)}, Paired (RoE A W0 W) r kvs → (kvs.map fun q => adOf q.2).Nodup → valV kvs (kC f) = some (.ref a) → W.H a = some (.lst ws) → A W.G e v →
    Paired (RoE A W0 ⟨W.G, upd W.H a (.lst (ws ++ [v]))⟩) (addRowG A r f e) kvs
  | _, _, .nil, _, hv, _, _ => by cases hv
  | (g, row) :: r, q :: kvs, .cons h t, nd, hv, hw, he => by
    rw [List.map_cons] at nd
    obtain ⟨n1, n2⟩ := List.nodup_cons.mp nd
    unfold addRowG
    by_cases hg : g = f
    · rw [if_pos hg]
      have hq : q.2 = .ref a := by
        unfold valV at hv
        rw [List.find?_cons, decide_eq_true (by rw [h.1, hg])] at hv
        exact Option.some.inj hv
      have ha : adOf q.2 = a := by rw [hq]; rfl
      refine .cons ⟨h.1, h.2.1, ?_⟩ (roe_other t (by rw [← ha]; exact n1))
      rw [ha]
      obtain ⟨vs, h1, h2⟩ := h.2.2.h
      rw [ha, hw] at h1
      cases h1
      exact ⟨by rw [← ha]; exact h.2.2.a0, by rw [← ha]; exact h.2.2.g, _, upd_same, pa_app h2 (.cons he .nil)⟩
    · rw [if_neg hg]
      have hv' : valV kvs (kC f) = some (.ref a) := by
        unfold valV at hv ⊢
        rw [List.find?_cons, decide_eq_false (fun z => hg (kC_inj (h.1.symm.trans z)))] at hv
        exact hv
      have hm : ∃ q' ∈ kvs, q'.2 = .ref a := by
        unfold valV at hv'
        obtain ⟨q', h1, h2⟩ := Option.map_eq_some_iff.mp hv'
        exact ⟨q', List.mem_of_find?_eq_some h1, h2⟩
      have hne : adOf q.2 ≠ a := fun z => by
        obtain ⟨q', h1, h2⟩ := hm
        exact n1 (List.mem_map.mpr ⟨q', h1, by rw [h2, z]; rfl⟩)
      exact .cons ⟨h.1, h.2.1, h.2.2.other hne⟩ (roe_add t n2 hv' hw he)
theorem val_none {f : Cell} {r : List (Cell × List α)} {kvs : List (List Key × V)} (h : Paired (RoE A W0 W) r kvs) (hv : valV kvs (kC f) = none) : ∀ x ∈ r, x.1 ≠ f := fun x hx z => by
  obtain ⟨q, hq, he⟩ := roe_memL h x hx
  unfold valV at hv
  rw [Option.map_eq_none_iff, List.find?_eq_none] at hv
  exact hv q hq (by rw [he.1, z]; simp)
theorem val_some {f : Cell} {r : List (Cell × List α)} {kvs : List (List Key × V)} {v : V} (h : Paired (RoE A W0 W) r kvs) (hv : valV kvs (kC f) = some v) : ∃ q ∈ kvs, q.2 = v ∧ v = .ref (adOf v) ∧ ∃ xs, Ro A W0 W xs (adOf v) := by
  unfold valV at hv
  obtain ⟨q, h1, h2⟩ := Option.map_eq_some_iff.mp hv
  have hq := List.mem_of_find?_eq_some h1
  obtain ⟨e, _, he⟩ := roe_mem h q hq
  subst h2
  exact ⟨q, hq, rfl, he.2.1, _, he.2.2⟩
theorem roe_len {r : List (Cell × List α)} {kvs : List (List Key × V)} (h : Paired (RoE A W0 W) r kvs) : r.length = kvs.length := Paired.length h
theorem pa_snocR {γ δ : Type} {R : γ → δ → Prop} : ∀ {xs : List γ} {ys : List δ} {x : γ} {y : δ}, Paired R xs ys → R x y → Paired R (xs ++ [x]) (ys ++ [y])
  | _, _, _, _, .nil, h => .cons h .nil
  | _, _, _, _, .cons a t, h => .cons a (pa_snocR t h)
/-- d.setdefault(f, []).append(e) -/
theorem s_rowAdd {D : Ends} {i : Nat} {p : Addr} {tk : TE} {f : Cell} {e : α} {r : List (Cell × List α)} [Mn A] (m : Mr A W0 W r p) (hv : σ[i]? = some (some (.ref p))) (hl : r.length < 100000) (hll : ∀ x ∈ r, x.2.length < 100000) (hk : Ev tk σ W rCell f) (he : ∀ W', Same W.G W'.G → Ev te σ W' A e)
    (k : ∀ W1, Same W.G W1.G → Sub W1.G W1.H → Mr A W0 W1 (addRowG A r f e) p → D.nx σ W1.H) : tDrop (tBM K "list" rAppend (tDSetT (tVar i) tk (tLst tNil)) (tCons te tNil)) D σ W.H := by
  obtain ⟨kvs0, h10, _⟩ := m.h
  refine ⟨.ref p, hv, p, rfl, .inr ⟨kvs0, .inl h10⟩, hk W (Le.refl m.l.s) _ fun y W1 l1 hy => ⟨by show 0 ≤ sizeLine; exact Nat.zero_le _, fun q hq => ?_⟩⟩
  have m1 := m.le l1
  obtain ⟨kvs, h1, h2, h3⟩ := m1.h
  obtain ⟨b, ey, gb⟩ := cell_tup hy
  have hb := l1.s.tup gb
  have l2 : Le W1 ⟨W1.G, upd W1.H q (.lst [])⟩ := Le.mut l1.s hq
  have m2 := m1.le l2
  have e2 : upd W1.H q (.lst []) p = some (.dT kvs) := by rw [upd_ne (ne_of_none h1 hq)]; exact h1
  have hb2 : upd W1.H q (.lst []) b = some (.tup ((kC f).map kV)) := by rw [upd_ne (ne_of_none hb hq)]; exact hb
  have hlen : kvs.length < sizeLine := by rw [← roe_len h2]; exact Nat.lt_of_lt_of_le hl (by decide)
  refine ⟨kvs, kC f, b, e2, ey, hb2, hlen, fun v hval => ?_, fun hval => ?_⟩
  · obtain ⟨q', hq', e1, e3, xs, ro⟩ := val_some h2 hval
    have ro2 := ro.le l2
    obtain ⟨ws, hws, _⟩ := ro2.h
    refine ⟨by rw [e3]; exact .inl ⟨rfl, ws, SqL.of hws⟩, he ⟨W1.G, upd W1.H q (.lst [])⟩ (l1.trans l2).g _ (Le.refl l2.s) _ fun ev W4 l4 hev => ?_⟩
    have m4 := m2.le l4
    obtain ⟨kvs4, h41, h42, h43⟩ := m4.h
    have : kvs4 = kvs := by
      have z := l4.u p (.dT kvs) trivial e2 m2.g
      rw [h41] at z
      cases z
      rfl
    subst this
    have ro4 := ro2.le l4
    obtain ⟨ws4, hws4, hpa4⟩ := ro4.h
    have hlw : ws4.length < sizeLine := by
      obtain ⟨e', he', hroe⟩ := roe_mem h42 q' hq'
      have hh := hroe.2.2.h
      rw [e1] at hh
      obtain ⟨vs', hv1, hv2⟩ := hh
      rw [hws4] at hv1
      cases hv1
      rw [← Paired.length hv2]
      exact Nat.lt_of_lt_of_le (hll e' he') (by decide)
    refine ⟨adOf v, ws4, ev, by rw [← e3], rfl, hws4, hlw, ?_⟩
    refine k ⟨W4.G, upd W4.H (adOf v) (.lst (ws4 ++ [ev]))⟩ ((l1.g.trans l2.g).trans l4.g) (m4.l.write ro4.a0 ro4.g).s ⟨m4.l.write ro4.a0 ro4.g, m4.p0, m4.g, kvs4, ?_, roe_add h42 h43 (by rw [hval, ← e3]) hws4 hev, h43⟩
    show upd W4.H (adOf v) _ p = _
    rw [upd_ne (fun z => by rw [z, hws4] at h41; cases h41)]
    exact h41
  · have hn := val_none h2 hval
    have eput : putK kvs (kC f) (.ref q) = kvs ++ [(kC f, .ref q)] := by
      unfold putK
      rw [if_neg]
      intro z
      obtain ⟨x, hx, hd⟩ := List.any_eq_true.mp z
      unfold valV at hval
      rw [Option.map_eq_none_iff, List.find?_eq_none] at hval
      exact hval x hx hd
    rw [eput]
    have q0 : W0.H q = none := m1.l.h.free hq
    have gq : W1.G q = none := l1.s.free hq
    have hqp : q ≠ p := fun z => by rw [z] at hq; rw [h1] at hq; cases hq
    have nin : q ∉ kvs.map fun x => adOf x.2 := fun z => by
      obtain ⟨x, hx, hz⟩ := List.mem_map.mp z
      obtain ⟨e', _, hroe⟩ := roe_mem h2 x hx
      obtain ⟨vs', hv1, _⟩ := hroe.2.2.h
      rw [hz, hq] at hv1
      cases hv1
    -- the world with the new list in the dict
    have lw : Le W0 ⟨W1.G, upd (upd W1.H q (.lst [])) p (.dT (kvs ++ [(kC f, .ref q)]))⟩ := (m1.l.trans l2).write m1.p0 m1.g
    have m3 : Mr A W0 ⟨W1.G, upd (upd W1.H q (.lst [])) p (.dT (kvs ++ [(kC f, .ref q)]))⟩ (r ++ [(f, [])]) p := by
      refine ⟨lw, m1.p0, m1.g, _, upd_same, ?_, ?_⟩
      · have hp : p ∉ kvs.map fun x => adOf x.2 := fun z => by
          obtain ⟨x, hx, hz⟩ := List.mem_map.mp z
          obtain ⟨e', _, hroe⟩ := roe_mem h2 x hx
          obtain ⟨vs', hv1, _⟩ := hroe.2.2.h
          rw [hz, h1] at hv1
          cases hv1
        refine pa_snocR (roe_other (W := ⟨W1.G, upd W1.H q (.lst [])⟩) (roe_other h2 nin) hp) ⟨rfl, rfl, q0, gq, [], ?_, .nil⟩
        show upd (upd W1.H q (.lst [])) p _ q = _
        rw [upd_ne hqp, upd_same]
      · rw [List.map_append]
        exact List.nodup_append.mpr ⟨h3, by simp, fun a ha b hb' => fun z => by
          subst z
          rw [List.map_cons, List.map_nil, List.mem_singleton] at hb'
          subst hb'
          exact nin ha⟩
    have ehq : upd (upd W1.H q (.lst [])) p (.dT (kvs ++ [(kC f, .ref q)])) q = some (.lst []) := by rw [upd_ne hqp, upd_same]
    refine ⟨.inl ⟨rfl, [], SqL.of ehq⟩, he ⟨W1.G, upd (upd W1.H q (.lst [])) p (.dT (kvs ++ [(kC f, V.ref q)]))⟩ l1.g ⟨W1.G, upd (upd W1.H q (.lst [])) p (.dT (kvs ++ [(kC f, V.ref q)]))⟩ (Le.refl lw.s) _ fun ev W4 l4 hev => ?_⟩
    have m4 := m3.le l4
    obtain ⟨kvs4, h41, h42, h43⟩ := m4.h
    have : kvs4 = kvs ++ [(kC f, .ref q)] := by
      have z := l4.u p (.dT (kvs ++ [(kC f, .ref q)])) trivial upd_same m3.g
      rw [h41] at z
      cases z
      rfl
    subst this
    have hq4 : W4.H q = some (.lst []) := l4.h.lst ehq
    have gq4 : W4.G q = none := l4.gone ehq (fun _ z => nomatch z) gq
    have hval4 : valV (kvs ++ [(kC f, .ref q)]) (kC f) = some (.ref q) := by
      unfold valV at hval ⊢
      rw [List.find?_append, Option.map_eq_none_iff.mp hval]
      simp
    have ladd := roe_add (f := f) (e := e) h42 h43 hval4 hq4 hev
    have hne : ∀ x ∈ r, x.1 ≠ f := hn
    refine ⟨q, [], ev, rfl, rfl, hq4, by decide, ?_⟩
    refine k ⟨W4.G, upd W4.H q (.lst ([] ++ [ev]))⟩ (l1.g.trans l4.g) (m4.l.write q0 gq4).s ⟨m4.l.write q0 gq4, m4.p0, m4.g, _, ?_, ?_, h43⟩
    · show upd W4.H q _ p = _
      rw [upd_ne (fun z => hqp z.symm)]
      exact h41
    · have e1 : addRowG A (r ++ [(f, [])]) f e = addRowG A r f e := by
        have go : ∀ r : List (Cell × List α), (∀ x ∈ r, x.1 ≠ f) → addRowG A (r ++ [(f, [])]) f e = r ++ [(f, [e])] := by
          intro r
          induction r with
          | nil => intro _; unfold addRowG; simp
          | cons x r ih =>
            obtain ⟨g, row⟩ := x
            intro h
            show addRowG A ((g, row) :: (r ++ [(f, [])])) f e = _
            unfold addRowG
            rw [if_neg (h (g, row) List.mem_cons_self), ih fun y hy => h y (List.mem_cons_of_mem _ hy)]
            rfl
        rw [go r hn, addRowG_none hn]
      rw [← e1]
      exact ladd
theorem s_newDict {D : Ends} {i : Nat} (l0 : Le W0 W) (k : ∀ p, W.H p = none → Mr A W0 ⟨W.G, upd W.H p (.dT [])⟩ [] p → D.nx (σ.set i (some (.ref p))) (upd W.H p (.dT []))) : tAsg tDNewT (gName i) D σ W.H :=
  fun p hp => k p hp ⟨l0.trans (Le.mut l0.s hp), l0.h.free hp, l0.s.free hp, [], upd_same, .nil, List.nodup_nil⟩
/-- it is finished -/
theorem Mr.done [Mn A] {r : List (Cell × List α)} {p : Addr} (m : Mr A W0 W r p) : ∃ G, Same W.G G ∧ Le W0 ⟨G, W.H⟩ ∧ rDT (rL A) G r (.ref p) := by
  obtain ⟨kvs, h1, h2, h3⟩ := m.h
  have hS : ∀ b ∈ p :: kvs.map fun q => adOf q.2, W0.H b = none ∧ W.G b = none := fun b hb => by
    rcases List.mem_cons.mp hb with rfl | hb
    · exact ⟨m.p0, m.g⟩
    · obtain ⟨q, hq, rfl⟩ := List.mem_map.mp hb
      obtain ⟨e, _, he⟩ := roe_mem h2 q hq
      exact ⟨he.2.2.a0, he.2.2.g⟩
  have sm := same_doneAll (W1 := W) fun b hb => (hS b hb).2
  refine ⟨_, sm, m.l.doneAll hS, p, kvs, rfl, ?_, ?_⟩
  · show (if p ∈ _ then W.H p else W.G p) = _
    rw [if_pos List.mem_cons_self]
    exact h1
  · have go : ∀ {r : List (Cell × List α)} {ks : List (List Key × V)}, Paired (RoE A W0 W) r ks → (∀ q ∈ ks, q ∈ kvs) → Paired (fun (e : Cell × List α) (q : List Key × V) => q.1 = kC e.1 ∧ rL A (fun b => if b ∈ p :: kvs.map (fun q => adOf q.2) then W.H b else W.G b) e.2 q.2) r ks := by
      intro r ks h
      induction h with
      | nil => intro _; exact .nil
      | @cons e q r ks h t ih =>
        intro hs
        refine .cons ⟨h.1, ?_⟩ (ih fun x hx => hs x (List.mem_cons_of_mem _ hx))
        obtain ⟨vs, hv1, hv2⟩ := h.2.2.h
        refine ⟨adOf q.2, vs, h.2.1, ?_, pa_mono sm hv2⟩
        show (if adOf q.2 ∈ _ then W.H (adOf q.2) else W.G (adOf q.2)) = _
        rw [if_pos (List.mem_cons_of_mem _ (List.mem_map.mpr ⟨q, hs q List.mem_cons_self, rfl⟩))]
        exact hv1
    exact go h2 fun q hq => hq
end
end K53
end

/-! K53N -/
section
/-! Dicts by their keys; dict(..) of pairs; a dict while it is built; a text several times. -/
namespace K53
open PySem PySem.Spec PyProof.Rows L2
theorem putK_keys {κ : Type} [DecidableEq κ] (kvs : List (κ × V)) (k : κ) (v : V) : (putK kvs k v).map (·.1) = if k ∈ kvs.map (·.1) then kvs.map (·.1) else kvs.map (·.1) ++ [k] := by
  unfold putK
  by_cases h : k ∈ kvs.map (·.1)
  · have : (kvs.any fun kv => decide (kv.1 = k)) = true := by
      obtain ⟨x, hx, e⟩ := List.mem_map.mp h
      exact List.any_eq_true.mpr ⟨x, hx, by simpa using e⟩
    rw [if_pos this, if_pos h, List.map_map]
    refine List.map_congr_left fun x hx => ?_
    simp only [Function.comp]
    split <;> rfl
  · have : ¬ (kvs.any fun kv => decide (kv.1 = k)) = true := fun z => by
      obtain ⟨x, hx, e⟩ := List.any_eq_true.mp z
      exact h (List.mem_map.mpr ⟨x, hx, by simpa using e⟩)
    rw [if_neg this, if_neg h, List.map_append]
    rfl
theorem merge_keys {κ : Type} [DecidableEq κ] : ∀ (more kvs : List (κ × V)), (more.foldl (fun acc kv => putK acc kv.1 kv.2) kvs).map (·.1) = (more.map (·.1)).foldl (fun acc x => if x ∈ acc then acc else acc ++ [x]) (kvs.map (·.1))
  | [], kvs => rfl
  | x :: r, kvs => by
    rw [List.foldl_cons, merge_keys r, putK_keys, List.map_cons, List.foldl_cons]
/-- a dict with int keys -/
def rKI (G : Hp) (ks : List Int) (v : V) : Prop := ∃ a kvs, v = .ref a ∧ G a = some (.dK kvs) ∧ kvs.map (·.1) = ks.map (Sum.inl : Int → Key)
/-- a dict with cell keys -/
def rKC (G : Hp) (ks : List Cell) (v : V) : Prop := ∃ a kvs, v = .ref a ∧ G a = some (.dT kvs) ∧ kvs.map (·.1) = ks.map kC
instance : Mn rKI := ⟨fun e ⟨a, kvs, h1, h2, h3⟩ => ⟨a, kvs, h1, e _ _ h2, h3⟩⟩
instance : Mn rKC := ⟨fun e ⟨a, kvs, h1, h2, h3⟩ => ⟨a, kvs, h1, e _ _ h2, h3⟩⟩
section
variable {α β γ δ : Type} {A : Hp → α → V → Prop} {B : Hp → β → V → Prop} {C : Hp → γ → V → Prop} {σ : L2.St} {W W0 W1 : Wd} {K : PySem.W.Frag} {te tk tv ta : TE} {xs : List α}
theorem keys_of_dt {G : Hp} : ∀ {r : List (Cell × β)} {kvs : List (List Key × V)}, Paired (fun (p : Cell × β) (q : List Key × V) => q.1 = kC p.1 ∧ B G p.2 q.2) r kvs → kvs.map (·.1) = (r.map (·.1)).map kC
  | _, _, .nil => rfl
  | _, _, .cons h t => by rw [List.map_cons, List.map_cons, List.map_cons, keys_of_dt t, h.1]
theorem rKC_of {G : Hp} {r : List (Cell × β)} {v : V} (h : rDT B G r v) : rKC G (r.map (·.1)) v := by
  obtain ⟨a, kvs, e, g, ps⟩ := h
  exact ⟨a, kvs, e, g, keys_of_dt ps⟩
theorem iw_keysC {ks : List Cell} (h : Ev te σ W rKC ks) : Iw (iKeys (tLk te)) σ W rCell ks := fun W1 l R q => h W1 l _ fun v W2 l2 ⟨a, kvs, e, g, ps⟩ => by
  have hl : kvs.length = ks.length := by have := congrArg List.length ps; simpa using this
  have fin : ∀ W3 od, Le W2 W3 → W3.H a = some (.frz od (.dT kvs)) → AIt (Itkt a od kvs) rCell ks (fun W4 => Le W3 W4) := fun W3 od l3 h3 W4 l4 => by
    have h4 : W4.H a = some (.frz od (.dT kvs)) := l4.h.frz h3
    refine ⟨⟨h4, Nat.le_of_eq hl⟩, fun i hi => ⟨h4, by omega⟩, fun i v H' hi ⟨e1, k, u, b, h5, h6, h7⟩ => ?_⟩
    have hk : ks[i]? = some ks[i] := by simp [hi]
    have hk2 : k = kC ks[i] := by
      have z := congrArg (·[i]?) ps
      simp only [List.getElem?_map, h5, hk, Option.map_some] at z
      exact Option.some.inj z
    subst hk2
    cases hg : W4.G b with
    | some o =>
      have ho : W4.H b = some o ∨ _ := l4.s b o hg
      have : o = .tup ((kC ks[i]).map kV) := by
        rcases ho with z | ⟨_, _, z⟩ <;> rw [h7] at z <;> cases z
        rfl
      subst this
      exact ⟨W4, ks[i], e1, Le.refl l4.s, hk, by rw [h6]; exact tup_cell hg⟩
    | none => exact ⟨⟨upd W4.G b _, W4.H⟩, ks[i], e1, Le.take l4.s h7 hg, hk, by rw [h6]; exact tup_cell upd_same⟩
  rcases l2.s.dT g with hh | ⟨od, hh⟩
  · refine ⟨a, _, e, .inl ⟨hh, trivial, fun od => ?_⟩⟩
    have lk : Le W2 ⟨W2.G, upd W2.H a (.frz od (.dT kvs))⟩ := Le.lock l2.s trivial hh (ne_none g)
    exact ⟨a, od, e, .inr ⟨kvs, upd_same, q _ ⟨W2.G, upd W2.H a (.frz od (.dT kvs))⟩ (l2.trans lk) (fin _ od lk upd_same)⟩⟩
  · exact ⟨a, _, e, .inr ⟨⟨od, hh⟩, a, od, e, .inr ⟨kvs, hh, q _ W2 l2 (fin W2 od (Le.refl l2.s) hh)⟩⟩⟩
theorem iw_keysI {ks : List Int} (h : Ev te σ W rKI ks) : Iw (iKeys (tLk te)) σ W K53.rI ks := fun W1 l R q => h W1 l _ fun v W2 l2 ⟨a, kvs, e, g, ps⟩ => by
  have hl : kvs.length = ks.length := by have := congrArg List.length ps; simpa using this
  have fin : ∀ W3 od, Le W2 W3 → W3.H a = some (.frz od (.dK kvs)) → AIt (Itk a od kvs) K53.rI ks (fun W4 => Le W3 W4) := fun W3 od l3 h3 W4 l4 => by
    have h4 : W4.H a = some (.frz od (.dK kvs)) := l4.h.frz h3
    refine ⟨⟨h4, Nat.le_of_eq hl⟩, fun i hi => ⟨h4, by omega⟩, fun i v H' hi ⟨e1, k, u, h5, h6⟩ => ?_⟩
    have hk : ks[i]? = some ks[i] := by simp [hi]
    have hk2 : k = Sum.inl ks[i] := by
      have z := congrArg (·[i]?) ps
      simp only [List.getElem?_map, h5, hk, Option.map_some] at z
      exact Option.some.inj z
    subst hk2
    exact ⟨W4, ks[i], e1, Le.refl l4.s, hk, by rw [h6]; rfl⟩
  rcases l2.s.dK g with hh | ⟨od, hh⟩
  · refine ⟨a, _, e, .inl ⟨hh, trivial, fun od => ?_⟩⟩
    have lk : Le W2 ⟨W2.G, upd W2.H a (.frz od (.dK kvs))⟩ := Le.lock l2.s trivial hh (ne_none g)
    exact ⟨a, od, e, .inl ⟨kvs, upd_same, q _ ⟨W2.G, upd W2.H a (.frz od (.dK kvs))⟩ (l2.trans lk) (fin _ od lk upd_same)⟩⟩
  · exact ⟨a, _, e, .inr ⟨⟨od, hh⟩, a, od, e, .inl ⟨kvs, hh, q _ W2 l2 (fin W2 od (Le.refl l2.s) hh)⟩⟩⟩
/-! ### dict(pairs) -/
abbrev rDictP (K : PySem.W.Frag) : List V → Hp → VK → Prop := fun xs H Q => ∃ (a : Addr) (ps : List Addr) (kvs : List (Key × V)), xs = [.ref a] ∧ SqL K H a (ps.map V.ref) ∧ Paired (fun p kv => SqT K H p [kV kv.1, kv.2]) ps kvs ∧ ∀ p, H p = none → Q (.ref p) (upd H p (.dK (mergeK [] kvs)))
theorem pairsI {G H : Hp} (s : Sub G H) : ∀ {xs : List (Int × Int)} {vs : List V}, Paired (rP K53.rI K53.rI G) xs vs → ∃ (ps : List Addr) (kvs : List (Key × V)), vs = ps.map V.ref ∧ Paired (fun p kv => SqT K H p [kV kv.1, kv.2]) ps kvs ∧ kvs.map (·.1) = (xs.map (·.1)).map (Sum.inl : Int → Key)
  | _, _, .nil => ⟨[], [], rfl, .nil, rfl⟩
  | _, _, .cons (a := x) ⟨p, u, y, e, g, h1, h2⟩ t => by
    obtain ⟨ps, kvs, e1, e2, e3⟩ := pairsI s t
    refine ⟨p :: ps, (.inl x.1, y) :: kvs, by rw [e, e1]; rfl, .cons ?_ e2, by rw [List.map_cons, List.map_cons, List.map_cons, e3]⟩
    have : SqT K H p [u, y] := SqT.of (s.tup g)
    rw [show u = .int x.1 from h1] at this
    exact this
theorem e_dictI {ps : List (Int × Int)} (h : Ev te σ W (rL (rP K53.rI K53.rI)) ps) : Ev (tCB (rDictP K) (tCons te tNil)) σ W rKI (dedup (ps.map (·.1))) :=
  e_cb1 h fun W1 v Q l ⟨a, vs, e, g, pr⟩ q => by
    obtain ⟨ads, kvs, e1, e2, e3⟩ := pairsI (K := K) l.s pr
    refine ⟨a, ads, kvs, by rw [e], by rw [← e1]; exact SqL.of (l.s.lst g), e2, fun p hp => q _ ⟨upd W1.G p _, upd W1.H p _⟩ (Le.new l.s hp) ⟨p, _, rfl, upd_same, ?_⟩⟩
    show (kvs.foldl (fun acc kv => putK acc kv.1 kv.2) []).map (·.1) = _
    rw [merge_keys, e3]
    show dedup _ = _
    rw [dedup_map _ (fun a b h => Sum.inl.inj h)]
theorem pairsC {G H : Hp} (s : Sub G H) : ∀ {xs : List (Cell × Int)} {vs : List V}, Paired (rP rCell K53.rI G) xs vs → ∃ (ps : List Addr) (kvs : List (List Key × V)), vs = ps.map V.ref ∧ Paired (fun p (kv : List Key × V) => ∃ b, SqT K H p [.ref b, kv.2] ∧ H b = some (.tup (kv.1.map kV))) ps kvs ∧ kvs.map (·.1) = (xs.map (·.1)).map kC
  | _, _, .nil => ⟨[], [], rfl, .nil, rfl⟩
  | _, _, .cons (a := x) ⟨p, u, y, e, g, h1, h2⟩ t => by
    obtain ⟨ps, kvs, e1, e2, e3⟩ := pairsC s t
    obtain ⟨b, eb, gb⟩ := cell_tup h1
    refine ⟨p :: ps, (kC x.1, y) :: kvs, by rw [e, e1]; rfl, .cons ⟨b, ?_, s.tup gb⟩ e2, by rw [List.map_cons, List.map_cons, List.map_cons, e3]⟩
    have : SqT K H p [u, y] := SqT.of (s.tup g)
    rw [eb] at this
    exact this
theorem merge_kC {ks : List Cell} {kvs : List (List Key × V)} (e : kvs.map (·.1) = ks.map kC) : (mergeT [] kvs).map (·.1) = (dedup ks).map kC := by
  unfold mergeT
  rw [merge_keys, e]
  show dedup _ = _
  rw [dedup_map _ fun a b h => kC_inj h]
theorem e_dictC {ps : List (Cell × Int)} (h : Ev te σ W (rL (rP rCell K53.rI)) ps) : Ev (tCB (rDictT K) (tCons te tNil)) σ W rKC (dedup (ps.map (·.1))) :=
  e_cb1 h fun W1 v Q l ⟨a, vs, e, g, pr⟩ q => by
    obtain ⟨ads, kvs, e1, e2, e3⟩ := pairsC (K := K) l.s pr
    exact ⟨a, ads, kvs, by rw [e], by rw [← e1]; exact SqL.of (l.s.lst g), e2, fun p hp => q _ ⟨upd W1.G p _, upd W1.H p _⟩ (Le.new l.s hp) ⟨p, _, rfl, upd_same, merge_kC e3⟩⟩
/-- len(dict(pairs)) -/
theorem e_lenDict {ps : List (Cell × Int)} (h : Ev te σ W (rL (rP rCell K53.rI)) ps) : Ev (tCB rLenT (tCons (tCB (rDictT K) (tCons te tNil)) tNil)) σ W K53.rI ((dedup (ps.map (·.1))).length : Int) := fun W1 l Q q =>
  h W1 l _ fun v W2 l2 ⟨a, vs, e, g, pr⟩ => by
    obtain ⟨ads, kvs, e1, e2, e3⟩ := pairsC (K := K) l2.s pr
    refine ⟨a, ads, kvs, by rw [e], by rw [← e1]; exact SqL.of (l2.s.lst g), e2, fun p hp => ⟨p, _, rfl, upd_same, q _ ⟨upd W2.G p _, upd W2.H p _⟩ (l2.trans (Le.new l2.s hp)) ?_⟩⟩
    have z := congrArg List.length (merge_kC e3)
    rw [List.length_map, List.length_map] at z
    show V.int _ = V.int _
    rw [z]
theorem dedup_len {κ : Type} [DecidableEq κ] (xs : List κ) : (dedup xs).length ≤ xs.length := by
  have go : ∀ (n : Nat) (xs : List κ), xs.length = n → (dedup xs).length ≤ n := by
    intro n
    induction n with
    | zero => intro xs h; rw [List.eq_nil_of_length_eq_zero h]; exact Nat.le_refl _
    | succ n ih =>
      intro xs h
      have hne : xs ≠ [] := fun z => by rw [z] at h; cases h
      rw [← List.dropLast_concat_getLast hne, dedup_snoc]
      have := ih xs.dropLast (by rw [List.length_dropLast]; omega)
      split
      · omega
      · rw [List.length_append]; simp; omega
  exact go _ xs rfl
/-! ### {k: v for x in xs} with int keys -/
theorem e_dcn {wi : TI} {vs : List Nat} {i : Nat} (f : α → Int) (b : α → β) [Mn B] (hi : Iw wi σ W A xs) (hx : xs.length ≤ 40000)
    (hs : ∀ x v W1, x ∈ xs → Le W W1 → A W1.G x v → Ev tk ((wipe σ vs).set i (some v)) W1 K53.rI (f x) ∧ Ev tv ((wipe σ vs).set i (some v)) W1 B (b x)) (hw : ∀ v, wipe ((wipe σ vs).set i (some v)) vs = wipe σ vs := by intro v; rfl) :
    Ev (tDc wi (gName i) tYes tk tv vs) σ W rKI (dedup (xs.map f)) := fun W1 l Q q => hi W1 l _ fun J W2 l2 a => fun Dl hD => by
  refine ⟨fun i m H => m = xs.length - i ∧ i ≤ xs.length ∧ ∃ G kvs, Le W2 ⟨G, H⟩ ∧ G Dl = none ∧ H Dl = some (.dK kvs) ∧ kvs.map (·.1) = (dedup ((xs.take i).map f)).map (Sum.inl : Int → Key),
    ⟨xs.length, by simp, Nat.zero_le _, W2.G, [], Le.mut l2.s hD, l2.s.free hD, upd_same, rfl⟩, ?_⟩
  rintro i m H ⟨rfl, hi', G, kvs, lG, gD, hH, ps⟩
  obtain ⟨stop, go, yld⟩ := a ⟨G, H⟩ lG
  by_cases hlt : i < xs.length
  · refine .inr ⟨go i hlt, fun H' => ∃ G' kvs', Le W2 ⟨G', H'⟩ ∧ G' Dl = none ∧ H' Dl = some (.dK kvs') ∧ kvs'.map (·.1) = (dedup ((xs.take (i + 1)).map f)).map (Sum.inl : Int → Key),
      fun H' h' => ⟨xs.length - (i + 1), by omega, rfl, hlt, h'⟩, fun v H' y => ?_⟩
    obtain ⟨W3, x, e, l3, hx', hA⟩ := yld i v H' hlt y
    subst e
    have hmem : x ∈ xs := List.mem_of_getElem? hx'
    have lW3 : Le W2 W3 := lG.trans l3
    obtain ⟨hk, hv⟩ := hs x v W3 hmem ((l.trans l2).trans lW3) hA
    have gD3 : W3.G Dl = none := l3.gone hH (fun _ z => nomatch z) gD
    have hH3 : W3.H Dl = some (.dK kvs) := l3.u Dl _ trivial hH gD
    have etake : xs.take (i + 1) = xs.take i ++ [x] := by rw [List.take_add_one, hx']; rfl
    refine ⟨hw v, ?_⟩
    refine hk W3 (Le.refl l3.s) _ fun kv W4 l4 ekv => hv W4 l4 _ fun z W5 l5 hz => ?_
    have gD4 : W4.G Dl = none := l4.gone hH3 (fun _ z => nomatch z) gD3
    have hH4 : W4.H Dl = some (.dK kvs) := l4.u Dl (.dK kvs) trivial hH3 gD3
    have gD5 : W5.G Dl = none := l5.gone hH4 (fun _ z => nomatch z) gD4
    have hH5 : W5.H Dl = some (.dK kvs) := l5.u Dl (.dK kvs) trivial hH4 gD4
    have hlen : kvs.length ≤ i := by
      have z := congrArg List.length ps
      rw [List.length_map, List.length_map] at z
      rw [z]
      have z2 : (dedup ((xs.take i).map f)).length ≤ ((xs.take i).map f).length := dedup_len _
      rw [List.length_map, List.length_take] at z2
      omega
    refine ⟨kvs, .inl (f x), ekv, hH5, Nat.lt_of_le_of_lt (Nat.le_trans hlen (Nat.le_trans (Nat.le_of_lt hlt) hx)) (by decide), W5.G, putK kvs (.inl (f x)) z, ((lW3.trans l4).trans l5).write hD gD5, gD5, upd_same, ?_⟩
    rw [putK_keys, ps, etake, List.map_append, List.map_cons, List.map_nil, dedup_snoc]
    by_cases hm : f x ∈ dedup ((xs.take i).map f)
    · rw [if_pos (List.mem_map.mpr ⟨_, hm, rfl⟩), if_pos hm]
    · rw [if_neg (fun z => by obtain ⟨y, h1, h2⟩ := List.mem_map.mp z; cases h2; exact hm h1), if_neg hm, List.map_append]
      rfl
  · have e : i = xs.length := by omega
    subst e
    refine .inl ⟨stop, ?_⟩
    rw [List.take_length] at ps
    exact q _ ⟨upd G Dl _, H⟩ (l2.trans (lG.done hD gD hH)) ⟨Dl, kvs, rfl, upd_same, ps⟩
/-! ### a dict from cells to finished values, while it is built -/
structure Md (B : Hp → β → V → Prop) (W0 W : Wd) (r : List (Cell × β)) (p : Addr) : Prop where
  l : Le W0 W
  p0 : W0.H p = none
  g : W.G p = none
  h : ∃ kvs, W.H p = some (.dT kvs) ∧ Paired (fun (e : Cell × β) (q : List Key × V) => q.1 = kC e.1 ∧ B W.G e.2 q.2) r kvs
variable {r : List (Cell × β)} {p : Addr}
theorem Md.le [Mn B] (m : Md B W0 W r p) (l : Le W W1) : Md B W0 W1 r p := by
  obtain ⟨kvs, h1, h2⟩ := m.h
  exact ⟨m.l.trans l, m.p0, l.gone h1 (fun _ z => nomatch z) m.g, kvs, l.u p _ trivial h1 m.g, Paired.mapP h2 fun _ _ h => ⟨h.1, Mn.mn l.g h.2⟩⟩
theorem s_newMd {D : Ends} {i : Nat} (l0 : Le W0 W) (k : ∀ p, W.H p = none → Md B W0 ⟨W.G, upd W.H p (.dT [])⟩ [] p → D.nx (σ.set i (some (.ref p))) (upd W.H p (.dT []))) : tAsg tDNewT (gName i) D σ W.H :=
  fun p hp => k p hp ⟨l0.trans (Le.mut l0.s hp), l0.h.free hp, l0.s.free hp, [], upd_same, .nil⟩
/-- d[c] = e, c new -/
theorem s_dput {D : Ends} {i : Nat} {f : Cell} {y : β} [Mn B] (m : Md B W0 W r p) (hv : σ[i]? = some (some (.ref p))) (hl : r.length < 100000) (hn : f ∉ r.map (·.1)) (he : Ev te σ W B y) (hk : Ev tk σ W rCell f)
    (k : ∀ W1, Same W.G W1.G → Md B W0 W1 (r ++ [(f, y)]) p → D.nx σ W1.H) : sDPut (tVar i) tk te D σ W.H := by
  refine he W (Le.refl m.l.s) _ fun v W1 l1 h1 => ⟨_, hv, hk W1 l1 _ fun u W2 l2 h2 => ?_⟩
  have m2 := (m.le l1).le l2
  obtain ⟨kvs, h3, h4⟩ := m2.h
  obtain ⟨b, eb, gb⟩ := cell_tup h2
  have hlen : kvs.length < sizeLine := by rw [← Paired.length h4]; exact Nat.lt_of_lt_of_le hl (by decide)
  refine ⟨p, _, rfl, .inr ⟨kvs, kC f, b, h3, eb, l2.s.tup gb, hlen, rfl⟩, ?_⟩
  have eput : putK kvs (kC f) v = kvs ++ [(kC f, v)] := by
    unfold putK
    rw [if_neg]
    intro z
    obtain ⟨x, hx, hd⟩ := List.any_eq_true.mp z
    have hk2 := keys_of_dt h4
    have : kC f ∈ kvs.map (·.1) := List.mem_map.mpr ⟨x, hx, by simpa using hd⟩
    rw [hk2] at this
    obtain ⟨g, hg, e⟩ := List.mem_map.mp this
    rw [kC_inj e] at hg
    exact hn hg
  rw [eput]
  exact k ⟨W2.G, upd W2.H p (.dT (kvs ++ [(kC f, v)]))⟩ (l1.g.trans l2.g) ⟨m2.l.write m2.p0 m2.g, m2.p0, m2.g, _, upd_same, pa_snocR h4 ⟨rfl, Mn.mn l2.g h1⟩⟩
theorem Md.done [Mn B] (m : Md B W0 W r p) : ∃ G, Same W.G G ∧ Le W0 ⟨G, W.H⟩ ∧ rDT B G r (.ref p) := by
  obtain ⟨kvs, h1, h2⟩ := m.h
  refine ⟨upd W.G p (.dT kvs), Same_new m.g, m.l.done m.p0 m.g h1, ⟨p, kvs, rfl, upd_same, Paired.mapP h2 fun _ _ h => ⟨h.1, Mn.mn (Same_new m.g) h.2⟩⟩⟩
end
/-! ### a text several times -/
def repW (w : List Nat) (n : Nat) : List Nat := rep w n
theorem foldl_app : ∀ (n : Nat) (w : Array Nat) (acc : Array Nat), ((List.replicate n w).foldl (· ++ ·) acc).toList = acc.toList ++ rep w.toList n
  | 0, w, acc => by simp [rep]
  | n + 1, w, acc => by
    rw [List.replicate_succ, List.foldl_cons, foldl_app n w, rep_succ]
    simp
theorem mul_rep (w : List Nat) (n : Int) (hn : 0 ≤ n) : Txt.mul ⟨w.toArray⟩ n = ⟨(rep w n.toNat).toArray⟩ := by
  unfold Txt.mul
  by_cases h : n < 1
  · have : n.toNat = 0 := by omega
    rw [if_pos h, this]
    rfl
  · rw [if_neg h]
    split
    · rename_i h2
      simp only [Bool.or_eq_true, beq_iff_eq] at h2
      rcases h2 with h2 | h2
      · subst h2
        simp [rep]
      · have : w = [] := by
          have z : w.toArray.size = 0 := h2
          simpa using z
        subst this
        have : rep [] n.toNat = [] := by unfold rep; simp
        rw [this]
    · congr 1
      apply Array.ext'
      rw [foldl_app]
      simp
theorem e_repW {σ : L2.St} {W : Wd} {ta tb : TE} {w : List Nat} {n : Int} (ha : Ev ta σ W rW w) (hb : Ev tb σ W K53.rI n) (hn : 0 ≤ n ∧ n ≤ 100000) (hl : w.length * n.toNat ≤ 100000) : Ev (tOp rRepS ta tb) σ W rW (rep w n.toNat) :=
  e_op ha hb fun W1 v u Q l h1 h2 q => ⟨⟨w.toArray⟩, n, h1, h2, ⟨by omega, by omega⟩, by show w.toArray.size * _ ≤ _; simpa using hl, q _ W1 (Le.refl l.s) (by show V.str _ = V.str _; rw [mul_rep w n hn.1])⟩
end K53
end

/-! K53O -/
section
/-! A list of lists while it is built; the list of those that fit. -/
namespace K53
open PySem PySem.Spec PyProof.Rows L2
abbrev rItem : Hp → Cell × Int → V → Prop := rP rCell K53.rI
def rV (_ : Hp) (x : V) (v : V) : Prop := v = x
instance : Mn rV := ⟨fun _ h => h⟩
section
variable {α β : Type} {A : Hp → α → V → Prop} {σ : L2.St} {W W0 W1 : Wd} {K : PySem.W.Frag} {te ta : TE}
/-- for x in xs, xs a list that stands and stays -/
theorem s_forH {D : Ends} {k : Nat} {p : Addr} {vs : List V} {g : TG} {tu : TS} (Pv : Nat → L2.St → Wd → Prop) (s : Sub W.G W.H) (hv : σ[k]? = some (some (.ref p))) (hp : W.H p = some (.lst vs)) (h0 : Pv 0 σ W) (hk : ∀ i σ' W', Pv i σ' W' → W'.H p = some (.lst vs))
    (hs : ∀ i v σ' W', vs[i]? = some v → Pv i σ' W' → Sub W'.G W'.H → g v σ' W'.H fun σ2 H2 => tu { D with nx := Nx W' (Pv (i + 1)), ct := Nx W' (Pv (i + 1)), bk := D.nx } σ2 H2)
    (hd : ∀ σ' W', Sub W'.G W'.H → Pv vs.length σ' W' → D.nx σ' W'.H) : tFor (iList K (tVar k)) g tu D σ W.H := by
  refine ⟨.ref p, hv, p, rfl, ⟨vs, SqL.of hp⟩, fun i m σ' H => m = vs.length - i ∧ i ≤ vs.length ∧ ∃ G, Sub G H ∧ Pv i σ' ⟨G, H⟩, ⟨vs.length, by simp, Nat.zero_le _, W.G, s, h0⟩, ?_⟩
  rintro i m σ' H ⟨rfl, hi', G, s3, pv⟩
  have hS : SqL K H p vs := SqL.of (hk i σ' ⟨G, H⟩ pv)
  by_cases hlt : i < vs.length
  · refine .inr ⟨⟨vs, vs[i], hS, by simp [hlt]⟩, Nx ⟨G, H⟩ (Pv (i + 1)), fun σ2 H' ⟨G', h1, h2, h3⟩ => ⟨vs.length - (i + 1), by omega, rfl, hlt, G', h2, h3⟩, fun v H' ⟨e1, y⟩ => ?_⟩
    subst e1
    exact hs i v σ' ⟨G, H'⟩ (y vs hS) pv s3
  · have e : i = vs.length := by omega
    subst e
    exact .inl ⟨⟨vs, hS, by omega⟩, hd σ' ⟨G, H⟩ s3 pv⟩
/-- x[0] of a list that is still written -/
theorem e_roIx0 {k : Nat} {xs : List α} {a : Addr} {x : α} [Mn A] (m : Ro A W0 W xs a) (hv : σ[k]? = some (some (.ref a))) (e : xs[0]? = some x) : Ev (tOp (rIxL K) (tVar k) (tC (.int 0))) σ W A x := fun W1 l Q q => by
  have m1 := m.le l
  obtain ⟨vs, h1, h2⟩ := m1.h
  obtain ⟨v', e2, hv2⟩ := pa_get h2 e
  exact ⟨_, hv, a, vs, 0, v', rfl, rfl, SqL.of h1, atI_nat (j := 0) e2, q _ W1 (Le.refl l.s) hv2⟩
def RoL (W0 W : Wd) (l : Lot) (v : V) : Prop := v = .ref (adOf v) ∧ Ro rItem W0 W l (adOf v)
structure Ml (W0 W : Wd) (ls : List Lot) (vs : List V) (p : Addr) : Prop where
  l : Le W0 W
  p0 : W0.H p = none
  g : W.G p = none
  h : W.H p = some (.lst vs)
  r : Paired (RoL W0 W) ls vs
  nd : (vs.map adOf).Nodup
  pn : p ∉ vs.map adOf
variable {ls : List Lot} {vs : List V} {p : Addr}
theorem Ml.le (m : Ml W0 W ls vs p) (l : Le W W1) : Ml W0 W1 ls vs p :=
  ⟨m.l.trans l, m.p0, l.gone m.h (fun _ z => nomatch z) m.g, l.h.lst m.h, Paired.mapP m.r fun _ _ h => ⟨h.1, h.2.le l⟩, m.nd, m.pn⟩
theorem Ml.lst (m : Ml W0 W ls vs p) {v : V} (h : v ∈ vs) : ∃ l ∈ ls, RoL W0 W l v := by
  have := m.r
  clear m
  induction this with
  | nil => cases h
  | @cons a b r s h1 t ih =>
    rcases List.mem_cons.mp h with rfl | h
    · exact ⟨a, List.mem_cons_self, h1⟩
    · obtain ⟨l, h2, h3⟩ := ih h
      exact ⟨l, List.mem_cons_of_mem _ h2, h3⟩
theorem rol_other {q : Addr} {o : HO} (h : Paired (RoL W0 W) ls vs) (n : q ∉ vs.map adOf) : Paired (RoL W0 ⟨W.G, upd W.H q o⟩) ls vs := by
  induction h with
  | nil => exact .nil
  | @cons e v r kvs h t ih =>
    have h1 : q ≠ adOf v := fun z => n (by rw [List.map_cons, z]; exact List.mem_cons_self)
    exact .cons ⟨h.1, h.2.other fun z => h1 z.symm⟩ (ih fun z => n (by rw [List.map_cons]; exact List.mem_cons_of_mem _ z))
/-- not one of the lists -/
theorem Ml.nin (m : Ml W0 W ls vs p) {q : Addr} (h : W.H q = none) : q ∉ vs.map adOf := fun z => by
  obtain ⟨x, hx, hz⟩ := List.mem_map.mp z
  obtain ⟨l, _, h1⟩ := m.lst hx
  obtain ⟨ws, h2, _⟩ := h1.2.h
  rw [hz, h] at h2
  cases h2
/-- an object that is none of them is written -/
theorem Ml.other {q : Addr} {o : HO} (m : Ml W0 W ls vs p) (l : Le W0 ⟨W.G, upd W.H q o⟩) (e : q ≠ p) (n : q ∉ vs.map adOf) : Ml W0 ⟨W.G, upd W.H q o⟩ ls vs p :=
  ⟨l, m.p0, m.g, by show upd W.H q o p = _; rw [upd_ne (fun z => e z.symm)]; exact m.h, rol_other m.r n, m.nd, m.pn⟩
def filt (ok : Lot → Bool) : List Lot → List V → List V
  | l :: ls, v :: vs => if ok l then v :: filt ok ls vs else filt ok ls vs
  | _, _ => []
theorem filt_snoc {ok : Lot → Bool} : ∀ {ls : List Lot} {vs : List V} {l : Lot} {v : V}, ls.length = vs.length → filt ok (ls ++ [l]) (vs ++ [v]) = filt ok ls vs ++ (if ok l then [v] else [])
  | [], [], l, v, _ => by simp [filt]
  | a :: ls, b :: vs, l, v, h => by
    have ih := filt_snoc (ok := ok) (ls := ls) (vs := vs) (l := l) (v := v) (by simpa using h)
    simp only [List.cons_append, filt]
    rw [ih]
    split <;> simp
  | [], _ :: _, _, _, h => by cases h
  | _ :: _, [], _, _, h => by cases h
theorem filt_mem {ok : Lot → Bool} : ∀ {ls : List Lot} {vs : List V} {x : V}, x ∈ filt ok ls vs → x ∈ vs
  | l :: ls, v :: vs, x, h => by
    unfold filt at h
    split at h
    · rcases List.mem_cons.mp h with rfl | h
      · exact List.mem_cons_self
      · exact List.mem_cons_of_mem _ (filt_mem h)
    · exact List.mem_cons_of_mem _ (filt_mem h)
  | [], _, x, h => by simp [filt] at h
  | _ :: _, [], x, h => by simp [filt] at h
theorem filt_len {ok : Lot → Bool} : ∀ (ls : List Lot) (vs : List V), (filt ok ls vs).length ≤ vs.length
  | l :: ls, v :: vs => by
    unfold filt
    have := filt_len (ok := ok) ls vs
    split <;> simp <;> omega
  | [], _ => by simp [filt]
  | _ :: _, [] => by simp [filt]
theorem addLot_none {v : Cell} {o : Cell × Int} : ∀ {ls : List Lot} {vs : List V}, ls.length = vs.length → filt (fun l => (apart (headOf l) o.1 v).isSome) ls vs = [] → addLot v ls o = ls ++ [[o]]
  | [], _, _, _ => rfl
  | l :: ls, w :: vs, h, e => by
    unfold filt at e
    unfold addLot
    split at e
    · cases e
    · rename_i hn
      rw [if_neg hn, addLot_none (by simpa using h) e]
      rfl
  | _ :: _, [], h, _ => by cases h
theorem rol_add {v : Cell} {o : Cell × Int} {m : V} {ov : V} {ws ms : List V} : ∀ {ls : List Lot} {vs : List V}, Paired (RoL W0 W) ls vs → (vs.map adOf).Nodup → filt (fun l => (apart (headOf l) o.1 v).isSome) ls vs = m :: ms → W.H (adOf m) = some (.lst ws) → rItem W.G o ov →
    Paired (RoL W0 ⟨W.G, upd W.H (adOf m) (.lst (ws ++ [ov]))⟩) (addLot v ls o) vs
  | [], [], .nil, _, e, _, _ => by simp [filt] at e
  | l :: ls, w :: vs, .cons h t, nd, e, hw, ho => by
    rw [List.map_cons] at nd
    obtain ⟨n1, n2⟩ := List.nodup_cons.mp nd
    unfold filt at e
    unfold addLot
    by_cases hok : (apart (headOf l) o.1 v).isSome = true
    · rw [if_pos hok] at e ⊢
      injection e with e1 e2
      subst e1
      refine .cons ⟨h.1, ?_⟩ (rol_other t n1)
      obtain ⟨vs', h1, h2⟩ := h.2.h
      rw [hw] at h1
      cases h1
      exact ⟨h.2.a0, h.2.g, _, upd_same, pa_app h2 (.cons ho .nil)⟩
    · rw [if_neg hok] at e ⊢
      have hm : m ∈ vs := filt_mem (by rw [e]; exact List.mem_cons_self)
      have hne : adOf w ≠ adOf m := fun z => n1 (by rw [z]; exact List.mem_map.mpr ⟨m, hm, rfl⟩)
      exact .cons ⟨h.1, h.2.other hne⟩ (rol_add t n2 e hw ho)
/-- xs == [] for a list of such lists -/
theorem dp_rol (hs : Sub W.G W.H) : ∀ {ms : List V}, (∀ x ∈ ms, ∃ l, RoL W0 W l x) → ∃ ls : List Lot, DpAll K W.H ms (ls.map (Da.toD (rL rItem))) ∧ ls.length = ms.length
  | [], _ => ⟨[], .nil, rfl⟩
  | x :: r, h => by
    obtain ⟨ls, h1, h2⟩ := dp_rol hs (ms := r) fun y hy => h y (List.mem_cons_of_mem _ hy)
    obtain ⟨l, e, ro⟩ := h x List.mem_cons_self
    obtain ⟨ws, h3, h4⟩ := ro.h
    refine ⟨l :: ls, .cons ?_ h1, by simp [h2]⟩
    rw [e]
    exact .lst (SqL.of h3) (dpAll hs h4)
theorem e_mineEq {k : Nat} {q : Addr} {ms : List V} (m : Mu rV W0 W ms q) (hv : σ[k]? = some (some (.ref q))) (hr : ∀ x ∈ ms, ∃ l, RoL W0 W l x) : Ev (tOp (rEqD K) (tVar k) (tLst tNil)) σ W rB (decide (ms = [])) := fun W1 l Q q' => by
  refine ⟨_, hv, by show 0 ≤ sizeLine; exact Nat.zero_le _, fun t ht => ?_⟩
  have l2 : Le W1 ⟨upd W1.G t (.lst []), upd W1.H t (.lst [])⟩ := Le.new l.s ht
  have m2 := (m.le l).le l2
  obtain ⟨vs, h1, h2⟩ := m2.h
  have hvs : vs = ms := by
    have go : ∀ {xs ys : List V}, Paired (rV (⟨upd W1.G t (.lst []), upd W1.H t (.lst [])⟩ : Wd).G) xs ys → ys = xs := by
      intro xs ys h
      induction h with
      | nil => rfl
      | cons h t ih => rw [ih, show _ = _ from h]
    exact go h2
  subst hvs
  obtain ⟨ls, h3, h4⟩ := dp_rol (K := K) (W0 := W0) l2.s (ms := vs) fun x hx => by
    obtain ⟨lt, e, ro⟩ := hr x hx
    exact ⟨lt, e, (ro.le l).le l2⟩
  refine ⟨.list (ls.map (Da.toD (rL rItem))), .list ([].map (Da.toD (rL rItem))), .lst (SqL.of h1) h3, .lst (SqL.of upd_same) .nil, da_shaped (A := rL (rL rItem)) (by decide) ls, da_shaped (A := rL (rL rItem)) (by decide) [], q' _ _ l2 ?_⟩
  show V.bl _ = V.bl _
  congr 1
  have := Da.eq (A := rL (rL rItem)) ls []
  refine Eq.trans this ?_
  cases vs with
  | nil => cases ls with
    | nil => rfl
    | cons _ _ => cases h4
  | cons _ _ => cases ls with
    | nil => cases h4
    | cons _ _ => rfl
/-- lots.append([o]) -/
theorem s_lotNew {D : Ends} {i : Nat} {o : Cell × Int} (m : Ml W0 W ls vs p) (hv : σ[i]? = some (some (.ref p))) (hl : vs.length < 100000) (ha : Ev ta σ W rItem o)
    (k : ∀ W1 t, Same W.G W1.G → Ml W0 W1 (ls ++ [[o]]) (vs ++ [.ref t]) p → D.nx σ W1.H) : tDrop (tBM K "list" rAppend (tVar i) (tCons (tLst (tCons ta tNil)) tNil)) D σ W.H := by
  refine ⟨.ref p, hv, .inl ⟨rfl, vs, SqL.of m.h⟩, ha W (Le.refl m.l.s) _ fun v W1 l1 h1 => ⟨by show 1 ≤ sizeLine; decide, fun t ht => ?_⟩⟩
  have m1 := m.le l1
  have htp : t ≠ p := fun z => by rw [z, m1.h] at ht; cases ht
  have nin := m1.nin ht
  have l2 : Le W0 ⟨W1.G, upd W1.H t (.lst [v])⟩ := m1.l.trans (Le.mut l1.s ht)
  have m2 : Ml W0 ⟨W1.G, upd W1.H t (.lst [v])⟩ ls vs p := m1.other l2 htp nin
  refine ⟨p, vs, .ref t, rfl, rfl, m2.h, Nat.lt_of_lt_of_le hl (by decide), k ⟨W1.G, upd (upd W1.H t (.lst [v])) p (.lst (vs ++ [.ref t]))⟩ t l1.g ⟨l2.write m1.p0 m1.g, m1.p0, m1.g, upd_same, ?_, ?_, ?_⟩⟩
  · refine pa_snocR (rol_other (W := ⟨W1.G, upd W1.H t (.lst [v])⟩) m2.r m2.pn) ⟨rfl, m1.l.h.free ht, l1.s.free ht, [v], ?_, .cons h1 .nil⟩
    show upd (upd W1.H t (.lst [v])) p _ t = _
    rw [upd_ne htp, upd_same]
  · rw [List.map_append]
    exact List.nodup_append.mpr ⟨m.nd, by simp, fun a ha b hb => fun z => by
      subst z
      rw [List.map_cons, List.map_nil, List.mem_singleton] at hb
      subst hb
      exact nin ha⟩
  · rw [List.map_append]
    intro z
    rcases List.mem_append.mp z with z | z
    · exact m.pn z
    · rw [List.map_cons, List.map_nil, List.mem_singleton] at z
      exact htp z.symm
/-- mine[0].append(o) -/
theorem s_lotAdd {D : Ends} {i : Nat} {o : Cell × Int} {v : Cell} {q : Addr} {mv : V} {ms : List V} (m : Ml W0 W ls vs p) (mm : Mu rV W0 W (mv :: ms) q) (hf : filt (fun l => (apart (headOf l) o.1 v).isSome) ls vs = mv :: ms) (hv : σ[i]? = some (some (.ref q))) (hl : ∀ l ∈ ls, l.length < 100000) (ha : Ev ta σ W rItem o)
    (k : ∀ W1, Same W.G W1.G → Ml W0 W1 (addLot v ls o) vs p → D.nx σ W1.H) : tDrop (tBM K "list" rAppend (tOp (rIxL K) (tVar i) (tC (.int 0))) (tCons ta tNil)) D σ W.H := by
  obtain ⟨ws, h1, h2⟩ := mm.h
  cases h2 with
  | cons hx ht =>
    rename_i v0 vr
    have hx : v0 = mv := hx
    subst hx
    have hmem : v0 ∈ vs := filt_mem (by rw [hf]; exact List.mem_cons_self)
    obtain ⟨l, hl1, hro⟩ := m.lst hmem
    obtain ⟨ys, hy1, hy2⟩ := hro.2.h
    refine ⟨_, hv, q, _, 0, v0, rfl, rfl, SqL.of h1, atI_nat (j := 0) rfl, ?_, ha W (Le.refl m.l.s) _ fun ov W1 l1 ho => ?_⟩
    · rw [hro.1]
      exact .inl ⟨rfl, ys, SqL.of hy1⟩
    · have m1 := m.le l1
      have hy3 := l1.h.lst hy1
      have hro1 := hro.2.le l1
      have hap : adOf v0 ≠ p := fun z => m.pn (by rw [← z]; exact List.mem_map.mpr ⟨v0, hmem, rfl⟩)
      have lw := m1.l.write hro1.a0 hro1.g (o := .lst (ys ++ [ov]))
      refine ⟨adOf v0, ys, ov, hro.1, rfl, hy3, ?_, k ⟨W1.G, upd W1.H (adOf v0) (.lst (ys ++ [ov]))⟩ l1.g ⟨lw, m1.p0, m1.g, ?_, rol_add m1.r m1.nd hf hy3 ho, m1.nd, m1.pn⟩⟩
      · rw [← Paired.length hy2]
        exact Nat.lt_of_lt_of_le (hl l hl1) (by decide)
      · show upd W1.H (adOf v0) _ p = _
        rw [upd_ne (fun z => hap z.symm)]
        exact m1.h
/-- all of it is finished -/
theorem Ml.done (m : Ml W0 W ls vs p) : ∃ G, Same W.G G ∧ Le W0 ⟨G, W.H⟩ ∧ rL (rL rItem) G ls (.ref p) := by
  have hS : ∀ b ∈ p :: vs.map adOf, W0.H b = none ∧ W.G b = none := fun b hb => by
    rcases List.mem_cons.mp hb with rfl | hb
    · exact ⟨m.p0, m.g⟩
    · obtain ⟨x, hx, rfl⟩ := List.mem_map.mp hb
      obtain ⟨l, _, hr⟩ := m.lst hx
      exact ⟨hr.2.a0, hr.2.g⟩
  have sm := same_doneAll (W1 := W) fun b hb => (hS b hb).2
  refine ⟨_, sm, m.l.doneAll hS, p, vs, rfl, ?_, ?_⟩
  · show (if p ∈ _ then W.H p else W.G p) = _
    rw [if_pos List.mem_cons_self]
    exact m.h
  · have go : ∀ {r : List Lot} {ks : List V}, Paired (RoL W0 W) r ks → (∀ q ∈ ks, q ∈ vs) → Paired (rL rItem (fun b => if b ∈ p :: vs.map adOf then W.H b else W.G b)) r ks := by
      intro r ks h
      induction h with
      | nil => intro _; exact .nil
      | @cons e q r ks h t ih =>
        intro hs
        refine .cons ?_ (ih fun x hx => hs x (List.mem_cons_of_mem _ hx))
        obtain ⟨ys, hv1, hv2⟩ := h.2.h
        refine ⟨adOf q, ys, h.1, ?_, pa_mono sm hv2⟩
        show (if adOf q ∈ _ then W.H (adOf q) else W.G (adOf q)) = _
        rw [if_pos (List.mem_cons_of_mem _ (List.mem_map.mpr ⟨q, hs q List.mem_cons_self, rfl⟩))]
        exact hv1
    exact go m.r fun q hq => hq
/-- something else is finished -/
theorem Mu.fin {A : Hp → α → V → Prop} [Mn A] {xs : List α} {q : Addr} {o : HO} (m : Mu A W0 W xs p) (l : Le W0 ⟨upd W.G q o, W.H⟩) (hg : W.G q = none) (e : p ≠ q) : Mu A W0 ⟨upd W.G q o, W.H⟩ xs p := by
  obtain ⟨vs, h1, h2⟩ := m.h
  exact ⟨l, m.p0, by show upd W.G q o p = none; rw [upd_ne e]; exact m.g, vs, h1, pa_mono (Same_new hg) h2⟩
end
end K53
end

/-! K53D1 -/
section
/-! The defs of the program, first part: integers, cells, words. -/
namespace K53
open PySem PySem.Spec PyProof.Rows L2
def top (i : Nat) : Stmt := PySem.Challenge.pw_endlessplane_k53_whole_strands_of_trails.main.body.getD i (.Pass ⟨0, 0, 0, 0⟩)
/-- where the classes stand -/
structure Ca where
  Trail : Addr
  Spread : Addr
  Stretch : Addr
  Members : Addr
abbrev Q_is_integer (P : Program) (w : World) (K : PySem.W.Frag) (mg : Str → Option Value) (base : Heap) (c : Ca) : Prop := Cal P w K mg base 1 "is_integer" (Prm (In1 rPt) (fun _ => True) rB Pt.isI) []
abbrev Q_is_count (P : Program) (w : World) (K : PySem.W.Frag) (mg : Str → Option Value) (base : Heap) (c : Ca) : Prop := Cal P w K mg base 2 "is_count" (Prm (In1 rI) (fun _ => True) rB (fun n => decide (0 ≤ n))) []
abbrev Q_is_cell (P : Program) (w : World) (K : PySem.W.Frag) (mg : Str → Option Value) (base : Heap) (c : Ca) : Prop := Cal P w K mg base 2 "is_cell" (Prm (In1 rOv) (fun o => match o with | .tup xs => xs.length ≤ 100 | _ => True) rB Ov.isC) []
abbrev Q_is_word (P : Program) (w : World) (K : PySem.W.Frag) (mg : Str → Option Value) (base : Heap) (c : Ca) : Prop := Cal P w K mg base 1 "is_word" (Prm (In1 rW) Lets rB (fun _ => true)) []
abbrev Q_step_of (P : Program) (w : World) (K : PySem.W.Frag) (mg : Str → Option Value) (base : Heap) (c : Ca) : Prop := Cal P w K mg base 1 "step_of" (Prm (In1 rC) (fun c => c = 69 ∨ c = 78 ∨ c = 87 ∨ c = 83) rCell stepOf) []
abbrev Q_check_word (P : Program) (w : World) (K : PySem.W.Frag) (mg : Str → Option Value) (base : Heap) (c : Ca) : Prop := Cal P w K mg base 2 "check_word" (Prm (In1 rW) Lets rO (fun _ => none)) []
abbrev Q_path_of (P : Program) (w : World) (K : PySem.W.Frag) (mg : Str → Option Value) (base : Heap) (c : Ca) : Prop := Cal P w K mg base 2 "path_of" (Prm (In1 rW) Lets (rT rCell) (pathFrom (0, 0))) []
abbrev Q_offsets_of (P : Program) (w : World) (K : PySem.W.Frag) (mg : Str → Option Value) (base : Heap) (c : Ca) : Prop := Cal P w K mg base 3 "offsets_of" (Prm (In1 rW) Lets (rT rCell) (pathFrom (0, 0))) []
abbrev Q_shifted (P : Program) (w : World) (K : PySem.W.Frag) (mg : Str → Option Value) (base : Heap) (c : Ca) : Prop := Cal P w K mg base 1 "shifted" (Prm (In3 rCell rCell rI) (fun x => -100 ≤ x.2.1.1 ∧ x.2.1.1 ≤ 100 ∧ -100 ≤ x.2.1.2 ∧ x.2.1.2 ≤ 100) rCell (fun x => (x.1.1 + x.2.1.1 * x.2.2, x.1.2 + x.2.1.2 * x.2.2))) [.int 1]
section
variable {P : Program} {w : World} {K : PySem.W.Frag} {mg : Str → Option Value} {base : Heap} {c : Ca}
abbrev s_is_integer : Stmt := (top 4)
abbrev N_is_integer : List Str := ["value"]
theorem sc_is_integer : FnScope N_is_integer ["value"] (defScope s_is_integer) := ⟨rfl, rfl, rfl, by decide +kernel, rfl, by decide +kernel, by decide +kernel⟩
theorem c_is_integer (B : Bu mg) (D : Dn K mg "is_integer" s_is_integer [])  : Q_is_integer P w K mg base c := by
  refine D.cal sc_is_integer (fun _ _ _ _ _ _ us hl => match us, hl with | [_], _ => rfl) pr_len1 fun f cdv A outer s H vs Q E hr hsp => ⟨_, PSs.nox (pss_one (ps_ret (pe_and (pe_callB call_isi (by rfl) B.isinstance_ (by decide +kernel) (pa_cons (pv 0) (pa_cons (pe_bltn (v := .ty "int") (by rfl) B.int_ (by decide +kernel) rfl) pa_nil))) (pe_one (pe_not (pe_callB call_isi (by rfl) B.isinstance_ (by decide +kernel) (pa_cons (pv 0) (pa_cons (pe_bltn (v := .ty "bool") (by rfl) B.bool_ (by decide +kernel) rfl) pa_nil)))))))), ?_⟩
  obtain ⟨G, x, sb, ⟨v, e, hv⟩, hp, q⟩ := hsp
  subst e
  exact s_ret (W := ⟨G, H⟩) sb (e_is (e_and (e_isiI (e_var hv rfl)) fun _ => e_not (e_is (e_isiB (e_var hv rfl)) rfl)) (by simp)) q
abbrev s_is_count : Stmt := (top 5)
abbrev N_is_count : List Str := ["value"]
theorem sc_is_count : FnScope N_is_count ["value"] (defScope s_is_count) := ⟨rfl, rfl, rfl, by decide +kernel, rfl, by decide +kernel, by decide +kernel⟩
theorem c_is_count (B : Bu mg) (D : Dn K mg "is_count" s_is_count []) (G_is_integer : Q_is_integer P w K mg base c) : Q_is_count P w K mg base c := by
  refine D.cal sc_is_count (fun _ _ _ _ _ _ us hl => match us, hl with | [_], _ => rfl) pr_len1 fun f cdv A outer s H vs Q E hr hsp => ⟨_, PSs.nox (pss_one (ps_ret (pe_and (pe_cal G_is_integer hr (by decide) (by rfl) (pa_cons (pv 0) pa_nil)) (pe_one (pe_cmpR op_ge (pv 0) pe_int (nomark _)))))), ?_⟩
  obtain ⟨G, x, sb, ⟨v, e, hv⟩, hp, q⟩ := hsp
  subst e
  exact s_ret (W := ⟨G, H⟩) sb (e_is (e_and (e_call1 (e_pt (e_var hv rfl)) trivial) fun _ => e_ge (e_var hv rfl) e_int) (by simp [Pt.isI])) q
abbrev s_is_cell : Stmt := (top 7)
abbrev N_is_cell : List Str := ["value", "part"]
theorem sc_is_cell : FnScope N_is_cell ["value"] (defScope s_is_cell) := ⟨rfl, rfl, rfl, by decide +kernel, rfl, by decide +kernel, by decide +kernel⟩
theorem c_is_cell (B : Bu mg) (D : Dn K mg "is_cell" s_is_cell []) (G_is_integer : Q_is_integer P w K mg base c) : Q_is_cell P w K mg base c := by
  refine D.cal sc_is_cell (fun _ _ _ _ _ _ us hl => match us, hl with | [_], _ => rfl) pr_len1 fun f cdv A outer s H vs Q E hr hsp => ⟨_, PSs.nox (pss_one (ps_ret (pe_and (pe_callB call_isi (by rfl) B.isinstance_ (by decide +kernel) (pa_cons (pv 0) (pa_cons (pe_bltn (v := .ty "tuple") (by rfl) B.tuple_ (by decide +kernel) rfl) pa_nil))) (pe_and (pe_cmpR op_eq (pe_callB call_len_seq (by rfl) B.len_ (by decide +kernel) (pa_cons (pv 0) pa_nil)) pe_int (nomark _)) (pe_one (pe_callB (cr_all rfl) (by rfl) B.all_ (by decide +kernel) (pa_cons (pe_lc (own := [("part", 1)]) rfl sc_is_cell.nd (pi_tup (pv 0)) (blkOk_by (N := N_is_cell) (sc := defScope s_is_cell) (by decide +kernel)) (fun _ _ _ _ _ => (pg_name (i := 1) sc_is_cell.nd rfl (Or.inl rfl))) (fun _ _ _ _ _ => pts_nil) (fun _ _ _ _ _ => (pe_cal G_is_integer hr (by decide) (by rfl) (pa_cons (pv 1) pa_nil)))) pa_nil))))))), ?_⟩
  obtain ⟨G, x, sb, ⟨v, e, hv⟩, hp, q⟩ := hsp
  subst e
  refine s_ret (W := ⟨G, H⟩) (x := x.isC) sb (e_is (e_and (e_isiTup (e_var hv rfl)) (b := x.isC) fun ht => ?_) (by cases x <;> rfl)) q
  cases x with
  | tup xs =>
    have hv' : rT rPt G xs v := hv
    refine e_and (a := decide (xs.length = 2)) (e_is (e_eqI (e_lenT (xs := xs) (e_var hv' rfl)) e_int) (by simp; omega)) fun _ => ?_
    refine e_is (e_all (e_lcn1 Pt.isI (ig_tup (xs := xs) (e_var hv' rfl)).w (Nat.le_trans hp (by decide)) fun x v W1 hx l hx2 => e_call1 (e_var hx2 rfl) trivial)) (by simp [List.all_map])
  | _ => cases ht
theorem e_lenW {w : List Nat} {σ : L2.St} {W : Wd} {ta : TE} (ha : Ev ta σ W rW w) (h : w.length ≤ 100000) : Ev (tCB rLenStr (tCons ta tNil)) σ W rI (w.length : Int) :=
  e_is (e_lenS (s := ⟨w.toArray⟩) ha (by show w.toArray.size ≤ _; simpa using h)) (by show ((w.toArray.size : Nat) : Int) = _; simp)
theorem ig_strW {w : List Nat} {σ : L2.St} {W : Wd} {te : TE} (h : Ev te σ W rW w) : Ig (iStr te) σ W rC w := by
  have := ig_str (s := ⟨w.toArray⟩) h
  simpa using this
theorem e_inSign {cc : Nat} {z : Str} {σ : L2.St} {W : Wd} {ta tb : TE} (ha : Ev ta σ W rC cc) (hb : Ev tb σ W rS z) : Ev (tOp (fun x y H Q => ∃ (c : Nat) (z : Str), x = .str ⟨#[c]⟩ ∧ y = .str z ∧ Q (.bl (decide (c ∈ z.cps.toList))) H) ta tb) σ W rB (decide (cc ∈ z.cps.toList)) :=
  e_op ha hb fun W1 v w Q l h1 h2 q => ⟨cc, z, h1, h2, q _ W1 (Le.refl l.s) rfl⟩
theorem lets_in {w : List Nat} (h : Lets w) : ∀ c ∈ w, decide (c ∈ ("ENWS" : Str).cps.toList) = true := fun c hc => by
  rcases h.2.2 c hc with rfl | rfl | rfl | rfl <;> decide +kernel
abbrev s_is_word : Stmt := (top 8)
abbrev N_is_word : List Str := ["value", "letter"]
theorem sc_is_word : FnScope N_is_word ["value"] (defScope s_is_word) := ⟨rfl, rfl, rfl, by decide +kernel, rfl, by decide +kernel, by decide +kernel⟩
theorem c_is_word (B : Bu mg) (D : Dn K mg "is_word" s_is_word [])  : Q_is_word P w K mg base c := by
  refine D.cal sc_is_word (fun _ _ _ _ _ _ us hl => match us, hl with | [_], _ => rfl) pr_len1 fun f cdv A outer s H vs Q E hr hsp => ⟨_, PSs.nox (pss_cons (ps_if (PW.pt (pw_or (pt_not (pt_val (pe_callB call_isi (by rfl) B.isinstance_ (by decide +kernel) (pa_cons (pv 0) (pa_cons (pe_bltn (v := .ty "str") (by rfl) B.str_ (by decide +kernel) rfl) pa_nil))))) (pw_or1 (pt_not (pt_chain op_le op_le pe_int (pe_callB call_len_str (by rfl) B.len_ (by decide +kernel) (pa_cons (pv 0) pa_nil)) (pe_glob (v := .int 24) (by rfl) B.mgMOST.choose_spec ⟨_, rfl⟩)))))) (pss_one (ps_ret pe_bl)) pss_nil) (pss_one (ps_ret (pe_callB (cr_all rfl) (by rfl) B.all_ (by decide +kernel) (pa_cons (pe_lc (own := [("letter", 1)]) rfl sc_is_word.nd (pi_str (pv 0)) (blkOk_by (N := N_is_word) (sc := defScope s_is_word) (by decide +kernel)) (fun _ _ _ _ _ => (pg_name (i := 1) sc_is_word.nd rfl (Or.inl rfl))) (fun _ _ _ _ _ => pts_nil) (fun _ _ _ _ _ => (pe_cmpR op_in_sign (pv 1) (pe_glob (v := .str "ENWS") (by rfl) B.mgSTEPS.choose_spec ⟨_, rfl⟩) (by rfl)))) pa_nil))))), ?_⟩
  obtain ⟨G, x, sb, ⟨v, e, hv⟩, hp, q⟩ := hsp
  subst e
  have hl : 0 < x.length := List.length_pos_iff.mpr hp.1
  have hl2 := hp.2.1
  refine s_if (W := ⟨G, H⟩) (b := false) sb (t_is (t_or (t_not (t_B (e_isiStr (e_var hv rfl)))) fun _ => t_not (t_B (e_chain (g1 := fun i j => decide (i ≤ j)) (g2 := fun i j => decide (i ≤ j)) e_int (e_lenW (e_var hv rfl) (by omega)) e_int))) (by simp; omega)) (fun z => by cases z) fun _ W' l => ?_
  refine s_ret (W := W') l.s (e_is (e_all (e_lcn1 (fun _ => true) (ig_strW (e_var (Mn.mn l.g hv) rfl)).w (by omega) fun x v W1 hx l hx2 => e_is (e_inSign (e_var hx2 rfl) e_str) (lets_in hp x hx))) (by simp)) fun v W'' l2 h => q v W'' (l.trans l2) h
end
end K53
end

/-! K53D2 -/
section
/-! The defs of the program, second part: steps, paths. -/
namespace K53
open PySem PySem.Spec PyProof.Rows L2
theorem val_steps {v1 v2 v3 v4 : V} {a : Nat} (hc : a = 69 ∨ a = 78 ∨ a = 87 ∨ a = 83) : valV (mergeK [] [(.inr ("E" : Str), v1), (.inr ("N" : Str), v2), (.inr ("W" : Str), v3), (.inr ("S" : Str), v4)]) (.inr ⟨#[a]⟩) = some (if a = 69 then v1 else if a = 78 then v2 else if a = 87 then v3 else v4) := by
  rcases hc with rfl | rfl | rfl | rfl <;> rfl
section
variable {P : Program} {w : World} {K : PySem.W.Frag} {mg : Str → Option Value} {base : Heap} {c : Ca} {σ : L2.St} {W W0 : Wd} {te : TE}
abbrev tSteps : TE := tDisp [(tC (.str "E"), tTup (tCons (tC (.int 1)) (tCons (tC (.int 0)) tNil))), (tC (.str "N"), tTup (tCons (tC (.int 0)) (tCons (tC (.int 1)) tNil))),
  (tC (.str "W"), tTup (tCons (tUn (rU fun i => .int (-i)) (tC (.int 1))) (tCons (tC (.int 0)) tNil))), (tC (.str "S"), tTup (tCons (tC (.int 0)) (tCons (tUn (rU fun i => .int (-i)) (tC (.int 1))) tNil)))]
theorem tPairs_str {s : V} {tv : TE} {r : List (TE × TE)} {H : Hp} {Q : List (V × V) → Hp → Prop} : tPairs ((tC s, tv) :: r) σ H Q = tv σ H fun y H2 => tPairs r σ H2 fun ps H3 => Q ((s, y) :: ps) H3 := rfl
theorem e_neg {i : Int} (h : Ev te σ W rI i) : Ev (tUn (rU fun i => .int (-i)) te) σ W rI (-i) := e_un h fun W1 v Q l h1 q => ⟨i, h1, q _ W1 (Le.refl l.s) rfl⟩
theorem e_steps {a : Nat} (h : Ev te σ W rC a) (hc : a = 69 ∨ a = 78 ∨ a = 87 ∨ a = 83) : Ev (tDGet tSteps te) σ W rCell (stepOf a) := fun W1 l Q q p hp => by
  have l2 : Le W1 ⟨W1.G, upd W1.H p (.dK [])⟩ := Le.mut l.s hp
  have g2 : (⟨W1.G, upd W1.H p (.dK [])⟩ : Wd).G p = none := l.s.free hp
  have e2 : (⟨W1.G, upd W1.H p (.dK [])⟩ : Wd).H p = some (.dK []) := upd_same
  have step : ∀ {W2 : Wd} {t : TE} {x : Cell} (Q2 : VK), Le W1 W2 → W2.G p = none → W2.H p = some (.dK []) → Ev t σ W2 rCell x → (∀ v W3, Le W2 W3 → Le W1 W3 → W3.G p = none → W3.H p = some (.dK []) → rCell W3.G x v → Q2 v W3.H) → t σ W2.H Q2 := fun {W2 t x} Q2 l g e ev k =>
    ev W2 (Le.refl l.s) _ fun v W3 l3 h3 => k v W3 l3 (l.trans l3) (l3.gone e (fun _ z => nomatch z) g) (l3.u _ _ trivial e g) h3
  rw [tPairs_str]
  refine step (W2 := ⟨W1.G, upd W1.H p (.dK [])⟩) _ l2 g2 e2 (e_pair e_int e_int : Ev _ σ _ rCell (1, 0)) fun v1 W3 m3 l3 g3 e3 h1 => ?_
  rw [tPairs_str]
  refine step (W2 := W3) _ l3 g3 e3 (e_pair e_int e_int : Ev _ σ _ rCell (0, 1)) fun v2 W4 m4 l4 g4 e4 h2 => ?_
  rw [tPairs_str]
  refine step (W2 := W4) _ l4 g4 e4 (e_pair (e_neg e_int) e_int : Ev _ σ _ rCell (-1, 0)) fun v3 W5 m5 l5 g5 e5 h3 => ?_
  rw [tPairs_str]
  refine step (W2 := W5) _ l5 g5 e5 (e_pair e_int (e_neg e_int) : Ev _ σ _ rCell (0, -1)) fun v4 W6 m6 l6 g6 e6 h4 => ?_
  rw [tPairs]
  refine ⟨e6, [(.inr "E", v1), (.inr "N", v2), (.inr "W", v3), (.inr "S", v4)], rfl, by simp, ?_⟩
  have l7 := l6.write hp g6 (o := .dK (mergeK [] [(.inr "E", v1), (.inr "N", v2), (.inr "W", v3), (.inr "S", v4)]))
  refine h _ (l.trans l7) _ fun y W8 l8 hy => ?_
  have e8 := l8.u p (.dK _) trivial upd_same g6
  refine ⟨p, _, rfl, .inl ⟨_, .inr ⟨#[a]⟩, .inl e8, hy, (val_steps hc).symm⟩, q _ W8 (l7.trans l8) ?_⟩
  have m := l8.g
  have n4 := Mn.mn m h4
  have n3 := Mn.mn (m6.g.trans m) h3
  have n2 := Mn.mn ((m5.g.trans m6.g).trans m) h2
  have n1 := Mn.mn (((m4.g.trans m5.g).trans m6.g).trans m) h1
  unfold stepOf
  by_cases k1 : a = 69
  · rw [if_pos k1, if_pos k1]; exact n1
  · by_cases k2 : a = 78
    · rw [if_neg k1, if_neg k1, if_pos k2, if_pos k2]; exact n2
    · by_cases k3 : a = 87
      · rw [if_neg k1, if_neg k1, if_neg k2, if_neg k2, if_pos k3, if_pos k3]; exact n3
      · rw [if_neg k1, if_neg k1, if_neg k2, if_neg k2, if_neg k3, if_neg k3]; exact n4
abbrev s_step_of : Stmt := (top 9)
abbrev N_step_of : List Str := ["letter"]
theorem sc_step_of : FnScope N_step_of ["letter"] (defScope s_step_of) := ⟨rfl, rfl, rfl, by decide +kernel, rfl, by decide +kernel, by decide +kernel⟩
theorem c_step_of (B : Bu mg) (D : Dn K mg "step_of" s_step_of [])  : Q_step_of P w K mg base c := by
  refine D.cal sc_step_of (fun _ _ _ _ _ _ us hl => match us, hl with | [_], _ => rfl) pr_len1 fun f cdv A outer s H vs Q E hr hsp => ⟨_, PSs.nox (pss_one (ps_ret (pe_dget (hu_of hr) (pe_disp (pps_cons pe_str (pe_tup (pa_cons pe_int (pa_cons pe_int pa_nil))) (pps_cons pe_str (pe_tup (pa_cons pe_int (pa_cons pe_int pa_nil))) (pps_cons pe_str (pe_tup (pa_cons (pe_un un_neg pe_int) (pa_cons pe_int pa_nil))) (pps_cons pe_str (pe_tup (pa_cons pe_int (pa_cons (pe_un un_neg pe_int) pa_nil))) pps_nil)))) rfl rfl (by simp) (by decide)) (pv 0) (fun _ _ => rfl)))), ?_⟩
  obtain ⟨G, x, sb, ⟨v, e, hv⟩, hp, q⟩ := hsp
  subst e
  exact s_ret (W := ⟨G, H⟩) sb (e_steps (e_var hv rfl) hp) q
abbrev s_shifted : Stmt := (top 10)
abbrev N_shifted : List Str := ["cell", "step", "times"]
theorem sc_shifted : FnScope N_shifted ["cell", "step", "times"] (defScope s_shifted) := ⟨rfl, rfl, rfl, by decide +kernel, rfl, by decide +kernel, by decide +kernel⟩
theorem c_shifted (B : Bu mg) (D : Dn K mg "shifted" s_shifted [.int 1]) : Q_shifted P w K mg base c := by
  refine D.calD (n := 2) sc_shifted (by simp) rfl (fun T kV doc pm an cdv ct us its hu hi => match us, hu, its, hi with | [_, _], _, [_], _ => ⟨_, rfl, rfl⟩) pr_len3 fun f cdv A outer s H vs Q E hr hsp => ⟨_, PSs.nox (pss_one (ps_ret (pe_tup (pa_cons (pe_op op_add (pe_ix ix_tup (pv 0) pe_int (fun _ _ => rfl)) (pe_op op_mul (pe_ix ix_tup (pv 1) pe_int (fun _ _ => rfl)) (pv 2))) (pa_cons (pe_op op_add (pe_ix ix_tup (pv 0) pe_int (fun _ _ => rfl)) (pe_op op_mul (pe_ix ix_tup (pv 1) pe_int (fun _ _ => rfl)) (pv 2))) pa_nil))))), ?_⟩
  obtain ⟨G, ⟨a, b, t⟩, sb, ⟨v, v2, v3, e, hv, hv2, hv3⟩, hp, q⟩ := hsp
  subst e
  exact s_ret (W := ⟨G, H⟩) sb (e_pair (e_add (e_fst' (e_var hv rfl)) (e_mul (e_fst' (e_var hv2 rfl)) (e_var hv3 rfl) (.inl ⟨by have := hp.1; dsimp only at this ⊢; omega, by have := hp.2.1; dsimp only at this ⊢; omega⟩)))
    (e_add (e_snd' (e_var hv rfl)) (e_mul (e_snd' (e_var hv2 rfl)) (e_var hv3 rfl) (.inl ⟨by have := hp.2.2.1; dsimp only at this ⊢; omega, by have := hp.2.2.2; dsimp only at this ⊢; omega⟩)))) q
/-- a call whose last value is a default -/
theorem e_call2d {α β γ δ : Type} {A : Hp → α → V → Prop} {B : Hp → β → V → Prop} {C : Hp → γ → V → Prop} {D : Hp → δ → V → Prop} {ta tb : TE} {E : XK} {x : α} {y : β} {z : γ} {d : V} [Mn A] {Pre : α × β × γ → Prop} {f : α × β × γ → δ} (ha : Ev ta σ W A x) (hb : Ev tb σ W B y) (hd : ∀ G, C G z d) (hp : Pre (x, y, z)) : Ev (tCall (Prm (In3 A B C) Pre D f) [d] E (tCons ta (tCons tb tNil))) σ W D (f (x, y, z)) := fun W1 l Q q =>
  ha W1 l _ fun v W2 l2 h2 => hb W2 (l.trans l2) _ fun w W3 l3 h3 => ⟨W3.G, (x, y, z), l3.s, ⟨v, w, d, rfl, Mn.mn l3.g h2, h3, hd _⟩, hp, fun u W4 l4 h4 => q u W4 ((l2.trans l3).trans l4) h4⟩
abbrev s_check_word : Stmt := (top 36)
abbrev N_check_word : List Str := ["word"]
theorem sc_check_word : FnScope N_check_word ["word"] (defScope s_check_word) := ⟨rfl, rfl, rfl, by decide +kernel, rfl, by decide +kernel, by decide +kernel⟩
theorem c_check_word (B : Bu mg) (D : Dn K mg "check_word" s_check_word []) (G_is_word : Q_is_word P w K mg base c) : Q_check_word P w K mg base c := by
  refine D.cal sc_check_word (fun _ _ _ _ _ _ us hl => match us, hl with | [_], _ => rfl) pr_len1 fun f cdv A outer s H vs Q E hr hsp => ⟨_, PSs.nox (pss_one (ps_if (pt_not (pt_val (pe_cal G_is_word hr (by decide) (by rfl) (pa_cons (pv 0) pa_nil)))) (pss_one ps_never) pss_nil)), ?_⟩
  obtain ⟨G, x, sb, ⟨v, e, hv⟩, hp, q⟩ := hsp
  subst e
  exact s_if (W := ⟨G, H⟩) (b := false) sb (t_is (t_not (t_B (e_call1 (e_var hv rfl) hp))) (by rfl)) (fun z => by cases z) fun _ W' l => q _ W' l rfl
abbrev s_offsets_of : Stmt := (top 37)
abbrev N_offsets_of : List Str := ["word"]
theorem sc_offsets_of : FnScope N_offsets_of ["word"] (defScope s_offsets_of) := ⟨rfl, rfl, rfl, by decide +kernel, rfl, by decide +kernel, by decide +kernel⟩
theorem c_offsets_of (B : Bu mg) (D : Dn K mg "offsets_of" s_offsets_of []) (G_check_word : Q_check_word P w K mg base c) (G_path_of : Q_path_of P w K mg base c) : Q_offsets_of P w K mg base c := by
  refine D.cal sc_offsets_of (fun _ _ _ _ _ _ us hl => match us, hl with | [_], _ => rfl) pr_len1 fun f cdv A outer s H vs Q E hr hsp => ⟨_, PSs.nox (pss_cons (ps_expr (pe_cal G_check_word hr (by decide) (by rfl) (pa_cons (pv 0) pa_nil))) (pss_one (ps_ret (pe_cal G_path_of hr (by decide) (by rfl) (pa_cons (pv 0) pa_nil))))), ?_⟩
  obtain ⟨G, x, sb, ⟨v, e, hv⟩, hp, q⟩ := hsp
  subst e
  exact s_drop (W := ⟨G, H⟩) sb (e_call1 (e_var hv rfl) hp) fun W' l => s_ret (W := W') l.s (e_call1 (e_var (Mn.mn l.g hv) rfl) hp) fun v W'' l2 h => q v W'' (l.trans l2) h
abbrev s_path_of : Stmt := (top 35)
abbrev N_path_of : List Str := ["word", "found", "letter"]
theorem sc_path_of : FnScope N_path_of ["word"] (defScope s_path_of) := ⟨rfl, rfl, rfl, by decide +kernel, rfl, by decide +kernel, by decide +kernel⟩
theorem c_path_of (B : Bu mg) (D : Dn K mg "path_of" s_path_of []) (G_shifted : Q_shifted P w K mg base c) (G_step_of : Q_step_of P w K mg base c) : Q_path_of P w K mg base c := by
  refine D.cal sc_path_of (fun _ _ _ _ _ _ us hl => match us, hl with | [_], _ => rfl) pr_len1 fun f cdv A outer s H vs Q E hr hsp => ⟨_, PSs.nox (pss_cons (ps_set (i := 1) sc_path_of.nd rfl (Or.inl rfl) (pe_lst (pa_cons (pe_tup (pa_cons pe_int (pa_cons pe_int pa_nil))) pa_nil))) (pss_cons (ps_for PassesOwn.never rfl (pi_str (pv 0)) (pg_name (i := 2) sc_path_of.nd rfl (Or.inl rfl)) (pss_one (ps_expr (pe_bm PySem.F.plainAttrs_list PySem.F.slot_list_append PySem.F.type_list_append mt_append (pv 1) (pa_cons (pe_cal G_shifted hr (by decide) (by rfl) (pa_cons (pe_ix ix_list (pv 1) (pe_un un_neg pe_int) (fun _ _ => rfl)) (pa_cons (pe_cal G_step_of hr (by decide) (by rfl) (pa_cons (pv 2) pa_nil)) pa_nil))) pa_nil))))) (pss_one (ps_ret (pe_callTy call_tuple_of (by rfl) B.tuple_ (by decide +kernel) (pa_cons (pv 1) pa_nil)))))), ?_⟩
  obtain ⟨G, x, sb, ⟨v, e, hv⟩, hp, q⟩ := hsp
  subst e
  have hx : x.length ≤ 24 := hp.2.1
  refine s_newlist (W0 := ⟨G, H⟩) (W := ⟨G, H⟩) (A := rCell) (xs := [(0, 0)]) (Le.refl sb) (ea_cons (e_pair e_int e_int) ea_nil) (by decide) fun p W1 ws l1 hp1 m => ?_
  refine s_for (xs := x) (W := ⟨W1.G, upd W1.H p (.lst ws)⟩) (A := rC) (fun i σ W => (∃ u, σ = [some v, some (.ref p), u]) ∧ Mu rCell ⟨G, H⟩ W (pathFrom (0, 0) (x.take i)) p) m.l.s (ig_strW (e_var (Mn.mn l1.g hv) rfl)) (fun W1 l => ⟨⟨none, rfl⟩, m.le l⟩) ?_ ?_
  · rintro i a va σ' W' W4 hi ⟨⟨u, rfl⟩, m'⟩ s' l4 ha
    have hlt : i < x.length := by
      rcases Nat.lt_or_ge i x.length with z | z
      · exact z
      · rw [List.getElem?_eq_none z] at hi; cases hi
    have hl : (x.take i).length = i := by rw [List.length_take]; omega
    have hlast : (pathFrom (0, 0) (x.take i))[(pathFrom (0, 0) (x.take i)).length - 1]? = some (goal (0, 0) (x.take i)) := by
      rw [pathFrom_len]
      exact pathFrom_last _ _
    have ha' := step_small a
    refine s_append (W0 := ⟨G, H⟩) (W := W4) (A := rCell) (m'.le l4) rfl (by rw [pathFrom_len]; omega) (e_call2d (e_muLast (m'.le l4) rfl hlast) (e_call1 (e_var ha rfl) (hp.2.2 a (List.mem_of_getElem? hi))) (fun _ => rfl) ⟨by dsimp only; omega, by dsimp only; omega, by dsimp only; omega, by dsimp only; omega⟩) fun W5 ws l5 m5 => ?_
    refine ⟨W5.G, l4.g.trans l5.g, m5.sub, ⟨_, rfl⟩, ?_⟩
    have e : x.take (i + 1) = x.take i ++ [a] := by rw [List.take_add_one, hi]; rfl
    rw [e, pathFrom_snoc]
    simpa [plus] using m5
  · rintro σ' W' s' ⟨⟨u, rfl⟩, m'⟩
    rw [List.take_length] at m'
    exact s_ret (W := W') m'.sub (e_muTuple m' rfl) fun v W'' l2 h => q v W'' (m'.l.trans l2) h
end
end K53
end

/-! K53D3 -/
section
/-! The defs of the program, third part: feet, stretches. -/
namespace K53
open PySem PySem.Spec PyProof.Rows L2
/-- small -/
def Sm (v : Cell) : Prop := -100 ≤ v.1 ∧ v.1 ≤ 100 ∧ -100 ≤ v.2 ∧ v.2 ≤ 100
/-- rounds 0 and 1, that is all -/
abbrev OneP (x : Pr × Int × Int) : Prop := x.1.1 < x.1.2 ∧ x.2 = (0, 1)
abbrev Q_multiple_below (P : Program) (w : World) (K : PySem.W.Frag) (mg : Str → Option Value) (base : Heap) (c : Ca) : Prop := Cal P w K mg base 1 "multiple_below" (Prm (In2 rCell rCell) (fun x => Sm x.2 ∧ x.2 ≠ (0, 0)) rI (fun x => timesIn x.1 x.2)) []
abbrev Q_foot_of (P : Program) (w : World) (K : PySem.W.Frag) (mg : Str → Option Value) (base : Heap) (c : Ca) : Prop := Cal P w K mg base 2 "foot_of" (Prm (In2 rCell rCell) (fun x => Sm x.2) (rP rCell rI) (fun x => footOf x.1 x.2)) []
abbrev Q_check_integer (P : Program) (w : World) (K : PySem.W.Frag) (mg : Str → Option Value) (base : Heap) (c : Ca) : Prop := Cal P w K mg base 2 "check_integer" (Prm (In1 rI) (fun _ => True) rO (fun _ => none)) []
abbrev Q_check_remainder (P : Program) (w : World) (K : PySem.W.Frag) (mg : Str → Option Value) (base : Heap) (c : Ca) : Prop := Cal P w K mg base 3 "check_remainder" (Prm (In2 rI rI) (fun x => x.2 = 1) rO (fun _ => none)) []
abbrev Q_first_in (P : Program) (w : World) (K : PySem.W.Frag) (mg : Str → Option Value) (base : Heap) (c : Ca) : Prop := Cal P w K mg base 1 "first_in" (Prm (In3 (rP rI rI) rI rI) OneP rI (fun x => x.1.1)) []
abbrev Q_final_in (P : Program) (w : World) (K : PySem.W.Frag) (mg : Str → Option Value) (base : Heap) (c : Ca) : Prop := Cal P w K mg base 1 "final_in" (Prm (In3 (rP rI rI) rI rI) OneP rI (fun x => x.1.2 - 1)) []
abbrev Q_count_in (P : Program) (w : World) (K : PySem.W.Frag) (mg : Str → Option Value) (base : Heap) (c : Ca) : Prop := Cal P w K mg base 2 "count_in" (Prm (In3 (rP rI rI) rI rI) OneP rI (fun x => x.1.2 - x.1.1)) []
abbrev Q_counted (P : Program) (w : World) (K : PySem.W.Frag) (mg : Str → Option Value) (base : Heap) (c : Ca) : Prop := Cal P w K mg base 3 "counted" (Prm (In3 (rL (rP rI rI)) rI rI) (fun x => (∀ p ∈ x.1, p.1 < p.2) ∧ x.1.length ≤ 40000 ∧ x.2 = (0, 1)) rI (fun x => sizeOf_ x.1)) []
theorem fmod1 (a : Int) : a.fmod 1 = 0 := by simp [Int.fmod_eq_emod_of_nonneg]
theorem fdiv1 (a : Int) : a.fdiv 1 = a := by simp
section
variable {P : Program} {w : World} {K : PySem.W.Frag} {mg : Str → Option Value} {base : Heap} {c : Ca}
abbrev s_multiple_below : Stmt := (top 39)
abbrev N_multiple_below : List Str := ["offset", "shift", "axis"]
theorem sc_multiple_below : FnScope N_multiple_below ["offset", "shift"] (defScope s_multiple_below) := ⟨rfl, rfl, rfl, by decide +kernel, rfl, by decide +kernel, by decide +kernel⟩
theorem c_multiple_below (B : Bu mg) (D : Dn K mg "multiple_below" s_multiple_below [])  : Q_multiple_below P w K mg base c := by
  refine D.cal sc_multiple_below (fun _ _ _ _ _ _ us hl => match us, hl with | [_, _], _ => rfl) pr_len2 fun f cdv A outer s H vs Q E hr hsp => ⟨_, PSs.nox (pss_cons (ps_set (i := 2) sc_multiple_below.nd rfl (Or.inl rfl) (pe_ifExp (pt_cmpR op_ne (pe_ix ix_tup (pv 1) pe_int (fun _ _ => rfl)) pe_int (nomark _)) pe_int pe_int)) (pss_one (ps_ret (pe_op op_fdivN (pe_callTy call_int1 (by rfl) B.int_ (by decide +kernel) (pa_cons (pe_ix ix_tup (pv 0) (pv 2) (fun _ _ => rfl)) pa_nil)) (pe_callTy call_int1 (by rfl) B.int_ (by decide +kernel) (pa_cons (pe_ix ix_tup (pv 1) (pv 2) (fun _ _ => rfl)) pa_nil)))))), ?_⟩
  obtain ⟨G, x, sb, ⟨v, v2, e, hv, hv2⟩, hp, q⟩ := hsp
  subst e
  obtain ⟨o, s'⟩ := x
  obtain ⟨⟨k1, k2, k3, k4⟩, hne⟩ := hp
  dsimp only at k1 k2 k3 k4 hne
  refine s_set (W := ⟨G, H⟩) (x := if decide (s'.1 ≠ 0) then (0 : Int) else 1) sb (e_if (b := decide (s'.1 ≠ 0)) (t_is (t_test (e_neI (e_fst' (e_var hv2 rfl)) e_int)) (by simp)) (fun z => e_is e_int (by rw [z]; rfl)) (fun z => e_is e_int (by rw [z]; rfl))) fun va W' l ha => ?_
  refine s_ret (W := W') l.s (e_is (e_fdiv (e_intI (e_ixP (e_var (Mn.mn l.g hv) rfl) (e_var ha rfl))) (e_intI (e_ixP (e_var (Mn.mn l.g hv2) rfl) (e_var ha rfl))) ?_) ?_) fun v W'' l2 h => q v W'' (l.trans l2) h
  · rcases vne hne with z | z
    · by_cases y : s'.1 = 0
      · exact absurd y z
      · simp only [y, ne_eq, not_false_eq_true, decide_true, if_true]; exact ⟨y, by omega⟩
    · by_cases y : s'.1 = 0
      · simp only [y, ne_eq, not_true_eq_false, decide_false, if_false, Bool.false_eq_true]; exact ⟨z, by omega⟩
      · simp only [y, ne_eq, not_false_eq_true, decide_true, if_true]; exact ⟨y, by omega⟩
  · unfold timesIn
    by_cases y : s'.1 = 0 <;> simp [y]
abbrev s_foot_of : Stmt := (top 40)
abbrev N_foot_of : List Str := ["offset", "shift", "times"]
theorem sc_foot_of : FnScope N_foot_of ["offset", "shift"] (defScope s_foot_of) := ⟨rfl, rfl, rfl, by decide +kernel, rfl, by decide +kernel, by decide +kernel⟩
theorem c_foot_of (B : Bu mg) (D : Dn K mg "foot_of" s_foot_of []) (G_multiple_below : Q_multiple_below P w K mg base c) : Q_foot_of P w K mg base c := by
  refine D.cal sc_foot_of (fun _ _ _ _ _ _ us hl => match us, hl with | [_, _], _ => rfl) pr_len2 fun f cdv A outer s H vs Q E hr hsp => ⟨_, PSs.nox (pss_cons (ps_if (pt_cmpR (op_eqD hr.units) (pv 1) (pe_tup (pa_cons pe_int (pa_cons pe_int pa_nil))) (nomark _)) (pss_one (ps_ret (pe_tup (pa_cons (pv 0) (pa_cons pe_int pa_nil))))) pss_nil) (pss_cons (ps_set (i := 2) sc_foot_of.nd rfl (Or.inl rfl) (pe_cal G_multiple_below hr (by decide) (by rfl) (pa_cons (pv 0) (pa_cons (pv 1) pa_nil)))) (pss_one (ps_ret (pe_tup (pa_cons (pe_tup (pa_cons (pe_op op_sub (pe_ix ix_tup (pv 0) pe_int (fun _ _ => rfl)) (pe_op op_mul (pv 2) (pe_ix ix_tup (pv 1) pe_int (fun _ _ => rfl)))) (pa_cons (pe_op op_sub (pe_ix ix_tup (pv 0) pe_int (fun _ _ => rfl)) (pe_op op_mul (pv 2) (pe_ix ix_tup (pv 1) pe_int (fun _ _ => rfl)))) pa_nil))) (pa_cons (pv 2) pa_nil))))))), ?_⟩
  obtain ⟨G, x, sb, ⟨v, v2, e, hv, hv2⟩, hp, q⟩ := hsp
  subst e
  obtain ⟨o, s'⟩ := x
  have hp' := hp
  obtain ⟨k1, k2, k3, k4⟩ := hp
  dsimp only at k1 k2 k3 k4
  refine s_if (W := ⟨G, H⟩) (b := decide (s' = (0, 0))) sb (t_test (e_eqD (e_var hv2 rfl) (e_pair e_int e_int) (by decide))) (fun z W' l => ?_) (fun z W' l => ?_)
  · have z : s' = (0, 0) := of_decide_eq_true z
    exact s_ret (W := W') l.s (e_is (e_pair (e_var (Mn.mn l.g hv) rfl) e_int) (by subst z; show _ = footOf o (0, 0); unfold footOf; rw [if_pos rfl])) fun v W'' l2 h => q v W'' (l.trans l2) h
  · have z : s' ≠ (0, 0) := of_decide_eq_false z
    refine s_set (W := W') l.s (e_call2 (e_var (Mn.mn l.g hv) rfl) (e_var (Mn.mn l.g hv2) rfl) ⟨hp', z⟩) fun va W1 l1 ha => ?_
    have m := l.g.trans l1.g
    refine s_ret (W := W1) l1.s (e_is (e_pair (e_pair (e_sub' (e_fst' (e_var (Mn.mn m hv) rfl)) (e_mul (e_var ha rfl) (e_fst' (e_var (Mn.mn m hv2) rfl)) (.inr ⟨by dsimp only; omega, by dsimp only; omega⟩)))
      (e_sub' (e_snd' (e_var (Mn.mn m hv) rfl)) (e_mul (e_var ha rfl) (e_snd' (e_var (Mn.mn m hv2) rfl)) (.inr ⟨by dsimp only; omega, by dsimp only; omega⟩)))) (e_var ha rfl)) ?_) fun v W'' l2 h => q v W'' ((l.trans l1).trans l2) h
    show _ = footOf o s'
    unfold footOf
    rw [if_neg z]
abbrev s_check_integer : Stmt := (top 17)
abbrev N_check_integer : List Str := ["number"]
theorem sc_check_integer : FnScope N_check_integer ["number"] (defScope s_check_integer) := ⟨rfl, rfl, rfl, by decide +kernel, rfl, by decide +kernel, by decide +kernel⟩
theorem c_check_integer (B : Bu mg) (D : Dn K mg "check_integer" s_check_integer []) (G_is_integer : Q_is_integer P w K mg base c) : Q_check_integer P w K mg base c := by
  refine D.cal sc_check_integer (fun _ _ _ _ _ _ us hl => match us, hl with | [_], _ => rfl) pr_len1 fun f cdv A outer s H vs Q E hr hsp => ⟨_, PSs.nox (pss_one (ps_if (pt_not (pt_val (pe_cal G_is_integer hr (by decide) (by rfl) (pa_cons (pv 0) pa_nil)))) (pss_one ps_never) pss_nil)), ?_⟩
  obtain ⟨G, x, sb, ⟨v, e, hv⟩, hp, q⟩ := hsp
  subst e
  exact s_if (W := ⟨G, H⟩) (b := false) sb (t_is (t_not (t_B (e_call1 (e_pt (e_var hv rfl)) trivial))) rfl) (fun z => by cases z) fun _ W' l => q _ W' l rfl
abbrev s_check_remainder : Stmt := (top 18)
abbrev N_check_remainder : List Str := ["r", "p"]
theorem sc_check_remainder : FnScope N_check_remainder ["r", "p"] (defScope s_check_remainder) := ⟨rfl, rfl, rfl, by decide +kernel, rfl, by decide +kernel, by decide +kernel⟩
theorem c_check_remainder (B : Bu mg) (D : Dn K mg "check_remainder" s_check_remainder []) (G_check_integer : Q_check_integer P w K mg base c) (G_is_integer : Q_is_integer P w K mg base c) : Q_check_remainder P w K mg base c := by
  refine D.cal sc_check_remainder (fun _ _ _ _ _ _ us hl => match us, hl with | [_, _], _ => rfl) pr_len2 fun f cdv A outer s H vs Q E hr hsp => ⟨_, PSs.nox (pss_cons (ps_expr (pe_cal G_check_integer hr (by decide) (by rfl) (pa_cons (pv 0) pa_nil))) (pss_one (ps_if (PW.pt (pw_or (pt_not (pt_val (pe_cal G_is_integer hr (by decide) (by rfl) (pa_cons (pv 1) pa_nil)))) (pw_or1 (pt_cmpR op_lt (pv 1) pe_int (nomark _))))) (pss_one ps_never) pss_nil))), ?_⟩
  obtain ⟨G, x, sb, ⟨v, v2, e, hv, hv2⟩, hp, q⟩ := hsp
  subst e
  obtain ⟨r, p⟩ := x
  obtain rfl : p = 1 := hp
  refine s_drop (W := ⟨G, H⟩) sb (e_call1 (e_var hv rfl) trivial) fun W1 l1 => ?_
  exact s_if (W := W1) (b := false) l1.s (t_is (t_or (t_not (t_B (e_call1 (e_pt (e_var (Mn.mn l1.g hv2) rfl)) trivial))) fun _ => t_test (e_lt (e_var (Mn.mn l1.g hv2) rfl) e_int)) rfl) (fun z => by cases z) fun _ W' l => q _ W' (l1.trans l) rfl
abbrev s_first_in : Stmt := (top 24)
abbrev N_first_in : List Str := ["pair", "r", "p", "low", "high", "first"]
theorem sc_first_in : FnScope N_first_in ["pair", "r", "p"] (defScope s_first_in) := ⟨rfl, rfl, rfl, by decide +kernel, rfl, by decide +kernel, by decide +kernel⟩
theorem c_first_in (B : Bu mg) (D : Dn K mg "first_in" s_first_in [])  : Q_first_in P w K mg base c := by
  refine D.cal sc_first_in (fun _ _ _ _ _ _ us hl => match us, hl with | [_, _, _], _ => rfl) pr_len3 fun f cdv A outer s H vs Q E hr hsp => ⟨_, PSs.nox (pss_cons (ps_asg (pv 0) (pg_tup rfl (pgs_cons (pg_name (i := 3) sc_first_in.nd rfl (Or.inl rfl)) (pgs_cons (pg_name (i := 4) sc_first_in.nd rfl (Or.inl rfl)) pgs_nil)))) (pss_cons (ps_if (pt_cmp (pc_isN (pv 3))) (pss_one (ps_ret pe_non)) pss_nil) (pss_cons (ps_set (i := 5) sc_first_in.nd rfl (Or.inl rfl) (pe_op op_add (pv 3) (pe_op op_modN (pe_callTy call_int1 (by rfl) B.int_ (by decide +kernel) (pa_cons (pe_op op_sub (pv 1) (pv 3)) pa_nil)) (pv 2)))) (pss_one (ps_ret (pe_ifExp (PW.pt (pw_or (pt_cmp (pc_isN (pv 4))) (pw_or1 (pt_cmpR op_lt (pv 5) (pv 4) (nomark _))))) (pv 5) pe_non)))))), ?_⟩
  obtain ⟨G, x, sb, ⟨v, v2, v3, e, hv, hv2, hv3⟩, hp, q⟩ := hsp
  subst e
  obtain ⟨⟨lo, hi⟩, r, p⟩ := x
  obtain ⟨h1, h2⟩ := hp
  dsimp only at h1 h2
  cases h2
  refine s_unp (W := ⟨G, H⟩) (A := rI) (B := rI) sb (e_var hv rfl) fun a b W1 l1 ha hb => ?_
  refine s_if (W := W1) (b := false) l1.s (t_is (t_test (e_isN (e_someI (e_var (A := rI) ha rfl)))) rfl) (fun z => by cases z) fun _ W2 l2 => ?_
  have m := l1.g.trans l2.g
  refine s_set (W := W2) l2.s (e_is (x' := lo) (e_add (e_var (A := rI) (Mn.mn l2.g ha) rfl) (e_fmod (e_intI (e_sub' (e_var (Mn.mn m hv2) rfl) (e_var (A := rI) (Mn.mn l2.g ha) rfl))) (e_var (Mn.mn m hv3) rfl) (show (1 : Int) ≠ 0 by decide))) (by rw [fmod1]; exact Int.add_zero _)) fun va W3 l3 hf => ?_
  exact s_ret (W := W3) l3.s (e_if (b := true) (t_is (t_or (t_test (e_isN (e_someI (e_var (A := rI) (Mn.mn (l2.g.trans l3.g) hb) rfl)))) fun _ => t_test (e_lt (e_var hf rfl) (e_var (A := rI) (Mn.mn (l2.g.trans l3.g) hb) rfl))) (by simpa using h1)) (fun _ => e_var hf rfl) (fun z => by cases z)) fun v W' l => q v W' (((l1.trans l2).trans l3).trans l)
abbrev s_final_in : Stmt := (top 25)
abbrev N_final_in : List Str := ["pair", "r", "p", "low", "high", "final"]
theorem sc_final_in : FnScope N_final_in ["pair", "r", "p"] (defScope s_final_in) := ⟨rfl, rfl, rfl, by decide +kernel, rfl, by decide +kernel, by decide +kernel⟩
theorem c_final_in (B : Bu mg) (D : Dn K mg "final_in" s_final_in [])  : Q_final_in P w K mg base c := by
  refine D.cal sc_final_in (fun _ _ _ _ _ _ us hl => match us, hl with | [_, _, _], _ => rfl) pr_len3 fun f cdv A outer s H vs Q E hr hsp => ⟨_, PSs.nox (pss_cons (ps_asg (pv 0) (pg_tup rfl (pgs_cons (pg_name (i := 3) sc_final_in.nd rfl (Or.inl rfl)) (pgs_cons (pg_name (i := 4) sc_final_in.nd rfl (Or.inl rfl)) pgs_nil)))) (pss_cons (ps_if (pt_cmp (pc_isN (pv 4))) (pss_one (ps_ret pe_non)) pss_nil) (pss_cons (ps_set (i := 5) sc_final_in.nd rfl (Or.inl rfl) (pe_op op_sub (pe_op op_sub (pv 4) pe_int) (pe_op op_modN (pe_callTy call_int1 (by rfl) B.int_ (by decide +kernel) (pa_cons (pe_op op_sub (pe_op op_sub (pv 4) pe_int) (pv 1)) pa_nil)) (pv 2)))) (pss_one (ps_ret (pe_ifExp (PW.pt (pw_or (pt_cmp (pc_isN (pv 3))) (pw_or1 (pt_cmpR op_ge (pv 5) (pv 3) (nomark _))))) (pv 5) pe_non)))))), ?_⟩
  obtain ⟨G, x, sb, ⟨v, v2, v3, e, hv, hv2, hv3⟩, hp, q⟩ := hsp
  subst e
  obtain ⟨⟨lo, hi⟩, r, p⟩ := x
  obtain ⟨h1, h2⟩ := hp
  dsimp only at h1 h2
  cases h2
  refine s_unp (W := ⟨G, H⟩) (A := rI) (B := rI) sb (e_var hv rfl) fun a b W1 l1 ha hb => ?_
  refine s_if (W := W1) (b := false) l1.s (t_is (t_test (e_isN (e_someI (e_var (A := rI) hb rfl)))) rfl) (fun z => by cases z) fun _ W2 l2 => ?_
  have m := l1.g.trans l2.g
  refine s_set (W := W2) l2.s (e_is (x' := hi - 1) (e_sub' (e_sub' (e_var (A := rI) (Mn.mn l2.g hb) rfl) e_int) (e_fmod (e_intI (e_sub' (e_sub' (e_var (A := rI) (Mn.mn l2.g hb) rfl) e_int) (e_var (Mn.mn m hv2) rfl))) (e_var (Mn.mn m hv3) rfl) (show (1 : Int) ≠ 0 by decide))) (by rw [fmod1]; exact Int.sub_zero _)) fun va W3 l3 hf => ?_
  exact s_ret (W := W3) l3.s (e_if (b := true) (t_is (t_or (t_test (e_isN (e_someI (e_var (A := rI) (Mn.mn (l2.g.trans l3.g) ha) rfl)))) fun _ => t_test (e_ge (e_var hf rfl) (e_var (A := rI) (Mn.mn (l2.g.trans l3.g) ha) rfl))) (by simp; omega)) (fun _ => e_var hf rfl) (fun z => by cases z)) fun v W' l => q v W' (((l1.trans l2).trans l3).trans l)
abbrev s_count_in : Stmt := (top 26)
abbrev N_count_in : List Str := ["pair", "r", "p", "first", "final"]
theorem sc_count_in : FnScope N_count_in ["pair", "r", "p"] (defScope s_count_in) := ⟨rfl, rfl, rfl, by decide +kernel, rfl, by decide +kernel, by decide +kernel⟩
theorem c_count_in (B : Bu mg) (D : Dn K mg "count_in" s_count_in []) (G_final_in : Q_final_in P w K mg base c) (G_first_in : Q_first_in P w K mg base c) : Q_count_in P w K mg base c := by
  refine D.cal sc_count_in (fun _ _ _ _ _ _ us hl => match us, hl with | [_, _, _], _ => rfl) pr_len3 fun f cdv A outer s H vs Q E hr hsp => ⟨_, PSs.nox (pss_cons (ps_if (PW.pt (pw_or (pt_cmp (pc_isN (pe_ix ix_tup (pv 0) pe_int (fun _ _ => rfl)))) (pw_or1 (pt_cmp (pc_isN (pe_ix ix_tup (pv 0) pe_int (fun _ _ => rfl))))))) (pss_one (ps_ret pe_non)) pss_nil) (pss_cons (ps_par (i := 3) (j := 4) rfl sc_count_in.nd rfl rfl (by decide) rfl rfl (pa_cons (pe_cal G_first_in hr (by decide) (by rfl) (pa_cons (pv 0) (pa_cons (pv 1) (pa_cons (pv 2) pa_nil)))) (pa_cons (pe_cal G_final_in hr (by decide) (by rfl) (pa_cons (pv 0) (pa_cons (pv 1) (pa_cons (pv 2) pa_nil)))) pa_nil)) (by rfl)) (pss_one (ps_ret (pe_ifExp (pt_cmp (pc_isN (pv 3))) pe_int (pe_op op_add (pe_op op_fdivN (pe_callTy call_int1 (by rfl) B.int_ (by decide +kernel) (pa_cons (pe_op op_sub (pv 4) (pv 3)) pa_nil)) (pv 2)) pe_int)))))), ?_⟩
  obtain ⟨G, x, sb, ⟨v, v2, v3, e, hv, hv2, hv3⟩, hp, q⟩ := hsp
  subst e
  obtain ⟨⟨lo, hi⟩, r, p⟩ := x
  have hp' := hp
  obtain ⟨h1, h2⟩ := hp
  dsimp only at h1 h2
  cases h2
  refine s_if (W := ⟨G, H⟩) (b := false) sb (t_is (t_or (t_test (e_isN (e_someI (e_fst' (e_var hv rfl))))) fun _ => t_test (e_isN (e_someI (e_snd' (e_var hv rfl))))) rfl) (fun z => by cases z) fun _ W1 l1 => ?_
  have g1 := Mn.mn l1.g hv
  refine s_par (W := W1) l1.s (e_call3 (e_var g1 rfl) (e_var (Mn.mn l1.g hv2) rfl) (e_var (Mn.mn l1.g hv3) rfl) hp') (e_call3 (e_var g1 rfl) (e_var (Mn.mn l1.g hv2) rfl) (e_var (Mn.mn l1.g hv3) rfl) hp') fun a b W2 l2 ha hb => ?_
  refine s_ret (W := W2) l2.s (e_if (b := false) (t_is (t_test (e_isN (e_someI (e_var (A := rI) ha rfl)))) rfl) (fun z => by cases z) fun _ => e_is (e_add (e_fdiv (e_intI (e_sub' (e_var (A := rI) hb rfl) (e_var (A := rI) ha rfl))) (e_var (Mn.mn (l1.g.trans l2.g) hv3) rfl) (show CDivN _ 1 from ⟨by decide, by decide⟩)) e_int) (by rw [fdiv1]; dsimp only; omega)) fun v W' l => q v W' ((l1.trans l2).trans l)
theorem inV_none {G : Hp} : ∀ {xs : List Int} {vs : List V}, Paired (K53.rI G) xs vs → vs.all flatV = true ∧ inV .non vs = false
  | _, _, .nil => ⟨rfl, rfl⟩
  | _, _, .cons h t => by
    obtain ⟨h1, h2⟩ := inV_none t
    rw [show _ = V.int _ from h]
    refine ⟨by simp [h1, flatV], ?_⟩
    unfold inV at h2 ⊢
    rw [List.any_cons, h2]
    rfl
theorem e_noneIn {σ : L2.St} {W : Wd} {tb : TE} {xs : List Int} (hb : Ev tb σ W (rL K53.rI) xs) : Ev (tOp (L2.rIn K false) (tC .non) tb) σ W rB false :=
  e_op e_non hb fun W1 v w Q l h1 ⟨a, vs, e, g, ps⟩ q => by
    obtain rfl : v = .non := h1
    have := inV_none ps
    exact ⟨a, vs, e, .inl (SqL.of (l.s.lst g)), rfl, this.1, q _ W1 (Le.refl l.s) (by rw [this.2]; rfl)⟩
abbrev s_counted : Stmt := (top 27)
abbrev N_counted : List Str := ["pairs", "r", "p", "counts", "pair", "count"]
theorem sc_counted : FnScope N_counted ["pairs", "r", "p"] (defScope s_counted) := ⟨rfl, rfl, rfl, by decide +kernel, rfl, by decide +kernel, by decide +kernel⟩
theorem c_counted (B : Bu mg) (D : Dn K mg "counted" s_counted []) (G_count_in : Q_count_in P w K mg base c) : Q_counted P w K mg base c := by
  refine D.cal sc_counted (fun _ _ _ _ _ _ us hl => match us, hl with | [_, _, _], _ => rfl) pr_len3 fun f cdv A outer s H vs Q E hr hsp => ⟨_, PSs.nox (pss_cons (ps_setLc (i := 3) rfl sc_counted.nd rfl rfl (sw_true rfl rfl rfl (by decide +kernel)) (own := [("pair", 4)]) (pi_list (pv 0)) (blkOk_by (N := N_counted) (sc := defScope s_counted) (by decide +kernel)) (fun _ _ _ _ _ => (pg_name (i := 4) sc_counted.nd rfl (Or.inl rfl))) (fun _ _ _ _ _ => pts_nil) (fun _ _ _ _ _ => (pe_cal G_count_in hr (by decide) (by rfl) (pa_cons (pv 4) (pa_cons (pv 1) (pa_cons (pv 2) pa_nil)))))) (pss_one (ps_ret (pe_ifExp (pt_cmpR op_in_seq pe_non (pv 3) (by rfl)) pe_non (pe_callB (cr_sum rfl) (by rfl) B.sum_ (by decide +kernel) (pa_cons (pe_lc (own := [("count", 5)]) rfl sc_counted.nd (pi_list (pv 3)) (blkOk_by (N := N_counted) (sc := defScope s_counted) (by decide +kernel)) (fun _ _ _ _ _ => (pg_name (i := 5) sc_counted.nd rfl (Or.inl rfl))) (fun _ _ _ _ _ => pts_nil) (fun _ _ _ _ _ => (pe_callTy call_int1 (by rfl) B.int_ (by decide +kernel) (pa_cons (pv 5) pa_nil)))) pa_nil)))))), ?_⟩
  obtain ⟨G, x, sb, ⟨v, v2, v3, e, hv, hv2, hv3⟩, hp, q⟩ := hsp
  subst e
  obtain ⟨ps, r, p⟩ := x
  obtain ⟨h1, h2, h3⟩ := hp
  dsimp only at h1 h2 h3
  cases h3
  refine s_set (W := ⟨G, H⟩) (A := rL K53.rI) (x := ps.map fun p => p.2 - p.1) sb ?_ fun va W1 l1 ha => ?_
  · exact e_lcn1 (A := rP K53.rI K53.rI) (fun p : Pr => p.2 - p.1) (ig_list (xs := ps) (e_var hv rfl)).w h2 fun x va W1 hx l ha => e_call3 (e_var ha rfl) (e_var (Mn.mn l.g hv2) rfl) (e_var (Mn.mn l.g hv3) rfl) ⟨h1 x hx, rfl⟩
  exact s_ret (W := W1) l1.s (e_if (b := false) (t_test (e_noneIn (e_var ha rfl))) (fun z => by cases z) fun _ => e_is (e_sum (e_lcn1 (A := K53.rI) (fun i => i) (ig_list (e_var ha rfl)).w (by rw [List.length_map]; exact h2) fun x va W1 hx l ha => e_intI (e_var ha rfl))) (by rw [List.map_id']; rfl)) fun v W' l => q v W' (l1.trans l)
end
end K53
end

/-! K53D5 -/
section
/-! The defs of the program: by_lows, united. -/
namespace K53
open PySem PySem.Spec PyProof.Rows L2
abbrev rPr : Hp → Pr → V → Prop := rP K53.rI K53.rI
abbrev rStr : Hp → Cell × List Pr → V → Prop := rP rCell (rL rPr)
abbrev Q_by_lows (P : Program) (w : World) (K : PySem.W.Frag) (mg : Str → Option Value) (base : Heap) (c : Ca) : Prop := Cal P w K mg base 1 "by_lows" (Prm (In1 (rL rPr)) (fun ps => ps.length ≤ 40000) (rL rPr) byLows) []
abbrev Q_united (P : Program) (w : World) (K : PySem.W.Frag) (mg : Str → Option Value) (base : Heap) (c : Ca) : Prop := Cal P w K mg base 2 "united" (Prm (In1 (rL rPr)) (fun ps => ps.length ≤ 40000) (rL rPr) told) []
theorem enum_ranks (ps : List Pr) : (enumI (ps.map (·.1))).map (fun q => q.2 * (ps.length : Int) + q.1) = ranks ps := by
  unfold enumI ranks
  refine List.ext_getElem (by simp) fun i h1 h2 => ?_
  simp
theorem byLows_len (ps : List Pr) : (byLows ps).length = ps.length := (byLows_perm ps).length_eq
theorem take_snoc {α : Type} {xs : List α} {i : Nat} {x : α} (h : xs[i]? = some x) : xs.take (i + 1) = xs.take i ++ [x] := by rw [List.take_add_one, h]; rfl
theorem lt_of_get {α : Type} {xs : List α} {i : Nat} {x : α} (h : xs[i]? = some x) : i < xs.length := by
  rcases Nat.lt_or_ge i xs.length with z | z
  · exact z
  · rw [List.getElem?_eq_none z] at h; cases h
theorem last_get {α : Type} {xs : List α} {c : α} (h : xs.getLast? = some c) : xs[xs.length - 1]? = some c := by rw [← List.getLast?_eq_getElem?]; exact h
theorem joinStep_len (acc : List Pr) (p : Pr) : (joinStep acc p).length ≤ acc.length + 1 := by
  unfold joinStep
  split
  · simp
  · split
    · rename_i c h _
      have : acc ≠ [] := fun z => by rw [z] at h; cases h
      have := List.length_pos_iff.mpr this
      simp only [List.length_append, List.length_dropLast, List.length_singleton]
      omega
    · simp
theorem join_len : ∀ (n : Nat) (xs : List Pr), xs.length = n → (join xs).length ≤ n
  | 0, xs, h => by rw [List.eq_nil_of_length_eq_zero h]; exact Nat.le_refl _
  | n + 1, xs, h => by
    have hne : xs ≠ [] := fun z => by rw [z] at h; cases h
    have e := List.dropLast_concat_getLast hne
    rw [← e, join_snoc]
    have := join_len n xs.dropLast (by rw [List.length_dropLast]; omega)
    have := joinStep_len (join xs.dropLast) (xs.getLast hne)
    omega
section
variable {P : Program} {w : World} {K : PySem.W.Frag} {mg : Str → Option Value} {base : Heap} {c : Ca}
abbrev s_by_lows : Stmt := (top 20)
abbrev N_by_lows : List Str := ["pairs", "lows", "many", "ranked", "others", "pair", "place", "low", "rank"]
theorem sc_by_lows : FnScope N_by_lows ["pairs"] (defScope s_by_lows) := ⟨rfl, rfl, rfl, by decide +kernel, rfl, by decide +kernel, by decide +kernel⟩
theorem c_by_lows (B : Bu mg) (D : Dn K mg "by_lows" s_by_lows [])  : Q_by_lows P w K mg base c := by
  refine D.cal sc_by_lows (fun _ _ _ _ _ _ us hl => match us, hl with | [_], _ => rfl) pr_len1 fun f cdv A outer s H vs Q E hr hsp => ⟨_, PSs.nox (pss_cons (ps_setLc (i := 1) rfl sc_by_lows.nd rfl rfl (sw_true rfl rfl rfl (by decide +kernel)) (own := [("pair", 5)]) (pi_list (pv 0)) (blkOk_by (N := N_by_lows) (sc := defScope s_by_lows) (by decide +kernel)) (fun _ _ _ _ _ => (pg_name (i := 5) sc_by_lows.nd rfl (Or.inl rfl))) (fun _ _ _ _ _ => (pts_one (pt_cmp (pc_notN (pe_ix (ix_tupK (K := K) rfl) (pv 5) pe_int (fun _ _ => rfl)))))) (fun _ _ _ _ _ => (pe_ix (ix_tupK (K := K) rfl) (pv 5) pe_int (fun _ _ => rfl)))) (pss_cons (ps_set (i := 2) sc_by_lows.nd rfl (Or.inr rfl) (pe_callB call_len_seq (by rfl) B.len_ (by decide +kernel) (pa_cons (pv 1) pa_nil))) (pss_cons (ps_set (i := 3) sc_by_lows.nd rfl (Or.inl rfl) (pe_callB cr_sortedI (by rfl) B.sorted_ (by decide +kernel) (pa_cons (pe_lc (own := [("place", 6), ("low", 7)]) rfl sc_by_lows.nd (pi_enum (by rfl) B.enumerate_ (pa_cons (pv 1) pa_nil)) (blkOk_by (N := N_by_lows) (sc := defScope s_by_lows) (by decide +kernel)) (fun _ _ _ _ _ => (pg_tupK (K := K) (n := 2) rfl rfl (pgs_cons (pg_name (i := 6) sc_by_lows.nd rfl (Or.inl rfl)) (pgs_cons (pg_name (i := 7) sc_by_lows.nd rfl (Or.inl rfl)) pgs_nil)))) (fun _ _ _ _ _ => pts_nil) (fun _ _ _ _ _ => (pe_callTy call_int1 (by rfl) B.int_ (by decide +kernel) (pa_cons (pe_op op_add (pe_op op_mul (pv 7) (pv 2)) (pv 6)) pa_nil)))) pa_nil))) (pss_cons (ps_set (i := 4) sc_by_lows.nd rfl (Or.inr rfl) (pe_lc (own := [("pair", 5)]) rfl sc_by_lows.nd (pi_list (pv 0)) (blkOk_by (N := N_by_lows) (sc := defScope s_by_lows) (by decide +kernel)) (fun _ _ _ _ _ => (pg_name (i := 5) sc_by_lows.nd rfl (Or.inl rfl))) (fun _ _ _ _ _ => (pts_one (pt_cmp (pc_notN (pe_ix (ix_tupK (K := K) rfl) (pv 5) pe_int (fun _ _ => rfl)))))) (fun _ _ _ _ _ => (pv 5)))) (pss_one (ps_ret (pe_op op_cat (pe_lc (own := [("pair", 5)]) rfl sc_by_lows.nd (pi_list (pv 0)) (blkOk_by (N := N_by_lows) (sc := defScope s_by_lows) (by decide +kernel)) (fun _ _ _ _ _ => (pg_name (i := 5) sc_by_lows.nd rfl (Or.inl rfl))) (fun _ _ _ _ _ => (pts_one (pt_cmp (pc_isN (pe_ix (ix_tupK (K := K) rfl) (pv 5) pe_int (fun _ _ => rfl)))))) (fun _ _ _ _ _ => (pv 5))) (pe_lc (own := [("rank", 8)]) rfl sc_by_lows.nd (pi_list (pv 3)) (blkOk_by (N := N_by_lows) (sc := defScope s_by_lows) (by decide +kernel)) (fun _ _ _ _ _ => (pg_name (i := 8) sc_by_lows.nd rfl (Or.inl rfl))) (fun _ _ _ _ _ => pts_nil) (fun _ _ _ _ _ => (pe_ix (ix_listK (K := K) rfl) (pv 4) (pe_op op_modN (pe_callTy call_int1 (by rfl) B.int_ (by decide +kernel) (pa_cons (pv 8) pa_nil)) (pv 2)) (fun _ _ => rfl))))))))))), ?_⟩
  obtain ⟨G, x, sb, ⟨v, e, hv⟩, hp, q⟩ := hsp
  subst e
  have hp : x.length ≤ 40000 := hp
  refine s_set (W := ⟨G, H⟩) (A := rL K53.rI) (x := x.map (·.1)) sb ?_ fun va W1 l1 ha => ?_
  · refine e_is (e_lcn (A := rPr) (fun _ => true) (fun p : Pr => p.1) (ig_list (xs := x) (e_var hv rfl)).w hp fun y vb W1 hy l hb => ⟨t_is (t_test (e_notN (e_someI (e_fst' (e_var hb rfl))))) rfl, fun _ => e_fst' (e_var hb rfl)⟩) ?_
    rw [filter_yes]
  refine s_set (W := W1) (A := K53.rI) (x := (x.length : Int)) l1.s (e_is (e_lenL (xs := x.map (·.1)) (e_var ha rfl)) (by rw [List.length_map])) fun vb W2 l2 hb => ?_
  dsimp only
  refine s_set (W := W2) (A := rL K53.rI) (x := sortI (ranks x)) l2.s ?_ fun vc W3 l3 hc => ?_
  · refine e_is (e_sorted (e_lcp1 (fun q : Int × Int => q.2 * (x.length : Int) + q.1) (ig_enum (e_var (Mn.mn l2.g ha) rfl)).w (by simp [enumI]; exact hp) fun y a b W1 hy l h1 h2 =>
      e_intI (e_add (e_mul (e_var h2 rfl) (e_var (Mn.mn l.g hb) rfl) (.inr ⟨by omega, by omega⟩)) (e_var h1 rfl)))) ?_
    rw [enum_ranks]
  have m3 := l2.g.trans l3.g
  have hx3 := Mn.mn (l1.g.trans m3) hv
  dsimp only
  refine s_set (W := W3) (A := rL rPr) (x := x) l3.s ?_ fun vd W4 l4 hd => ?_
  · exact e_is (e_lcn (A := rPr) (fun _ => true) (fun p : Pr => p) (ig_list (xs := x) (e_var hx3 rfl)).w hp fun y vb W1 hy l hb => ⟨t_is (t_test (e_notN (e_someI (e_fst' (e_var hb rfl))))) rfl, fun _ => e_var hb rfl⟩) (by simp)
  have hx4 := Mn.mn l4.g hx3
  dsimp only
  refine s_ret (W := W4) (A := rL rPr) (x := [] ++ byLows x) l4.s (e_cat ?_ ?_ (by rw [byLows_len]; simp; omega)) fun v W'' l h => q v W'' ((((l1.trans l2).trans l3).trans l4).trans l) h
  · exact e_is (e_lcn (A := rPr) (fun _ => false) (fun p : Pr => p) (ig_list (xs := x) (e_var hx4 rfl)).w hp fun y vb W1 hy l hb => ⟨t_is (t_test (e_isN (e_someI (e_fst' (e_var hb rfl))))) rfl, fun z => by cases z⟩) (by simp)
  · refine e_lcn1 (A := K53.rI) (fun r : Int => x.getD (r.fmod (x.length : Int)).toNat (0, 0)) (ig_list (e_var (Mn.mn l4.g hc) rfl)).w (by rw [(sortI_perm _).length_eq]; simp [ranks]; exact hp) fun r vb W1 hr' l hb' => ?_
    have hr2 := (sortI_perm _).mem_iff.mp hr'
    obtain ⟨i, hi, e1, e2⟩ := rank_back hr2
    have hpos : (0 : Int) < (x.length : Int) := by omega
    have hf0 : 0 ≤ r.fmod (x.length : Int) := Int.fmod_nonneg_of_pos _ hpos
    have hf1 : r.fmod (x.length : Int) < (x.length : Int) := Int.fmod_lt_of_pos _ hpos
    refine e_ixL (k := (r.fmod (x.length : Int)).toNat) (e_var (Mn.mn l.g hd) rfl) (e_is (e_fmod (e_intI (e_var hb' rfl)) (e_var (Mn.mn ((l3.g.trans l4.g).trans l.g) hb) rfl) (by omega)) (by omega)) ?_
    have : (r.fmod (x.length : Int)).toNat < x.length := by omega
    simp [List.getD, this]
abbrev s_united : Stmt := (top 21)
abbrev N_united : List Str := ["pairs", "found", "low", "high", "first", "end"]
theorem sc_united : FnScope N_united ["pairs"] (defScope s_united) := ⟨rfl, rfl, rfl, by decide +kernel, rfl, by decide +kernel, by decide +kernel⟩
theorem c_united (B : Bu mg) (D : Dn K mg "united" s_united []) (G_by_lows : Q_by_lows P w K mg base c) : Q_united P w K mg base c := by
  refine D.cal sc_united (fun _ _ _ _ _ _ us hl => match us, hl with | [_], _ => rfl) pr_len1 fun f cdv A outer s H vs Q E hr hsp => ⟨_, PSs.nox (pss_cons (ps_set (i := 1) sc_united.nd rfl (Or.inl rfl) (pe_lst pa_nil)) (pss_cons (ps_for PassesOwn.never rfl (pi_list (pe_cal G_by_lows hr (by decide) (by rfl) (pa_cons (pv 0) pa_nil))) (pg_tupK (K := K) (n := 2) rfl rfl (pgs_cons (pg_name (i := 2) sc_united.nd rfl (Or.inl rfl)) (pgs_cons (pg_name (i := 3) sc_united.nd rfl (Or.inl rfl)) pgs_nil))) (pss_one (ps_if (PW.pt (pw_and (pt_cmpR (op_neDK (K := K) rfl hr.units) (pv 1) (pe_lst pa_nil) (nomark _)) (pw_and1 (PW.pt (pw_or (pt_cmp (pc_isN (pe_ix (ix_tupK (K := K) rfl) (pe_ix (ix_listK (K := K) rfl) (pv 1) (pe_un un_neg pe_int) (fun _ _ => rfl)) pe_int (fun _ _ => rfl)))) (pw_or (pt_cmp (pc_isN (pv 2))) (pw_or1 (pt_cmpR op_le (pv 2) (pe_ix (ix_tupK (K := K) rfl) (pe_ix (ix_listK (K := K) rfl) (pv 1) (pe_un un_neg pe_int) (fun _ _ => rfl)) pe_int (fun _ _ => rfl)) (nomark _))))))))) (pss_cons (ps_asg (pe_ix (ix_listK (K := K) rfl) (pv 1) (pe_un un_neg pe_int) (fun _ _ => rfl)) (pg_tupK (K := K) (n := 2) rfl rfl (pgs_cons (pg_name (i := 4) sc_united.nd rfl (Or.inl rfl)) (pgs_cons (pg_name (i := 5) sc_united.nd rfl (Or.inl rfl)) pgs_nil)))) (pss_one (ps_asg (pe_tup (pa_cons (pv 4) (pa_cons (pe_ifExp (PW.pt (pw_or (pt_cmp (pc_isN (pv 5))) (pw_or1 (PW.pt (pw_and (pt_cmp (pc_notN (pv 3))) (pw_and1 (pt_cmpR op_le (pv 3) (pv 5) (nomark _)))))))) (pv 5) (pv 3)) pa_nil))) (pg_sub (pv 1) (pe_un un_neg pe_int) set_list)))) (pss_one (ps_expr (pe_bm PySem.F.plainAttrs_list PySem.F.slot_list_append PySem.F.type_list_append mt_append (pv 1) (pa_cons (pe_tup (pa_cons (pv 2) (pa_cons (pv 3) pa_nil))) pa_nil))))))) (pss_one (ps_ret (pv 1))))), ?_⟩
  obtain ⟨G, x, sb, ⟨v, e, hv⟩, hp, q⟩ := hsp
  subst e
  have hp : x.length ≤ 40000 := hp
  refine s_newlist (W0 := ⟨G, H⟩) (W := ⟨G, H⟩) (A := rPr) (xs := []) (Le.refl sb) ea_nil (by decide) fun p W1 ws l1 hp1 m => ?_
  refine s_for (xs := byLows x) (W := ⟨W1.G, upd W1.H p (.lst ws)⟩) (A := rPr) (fun i σ W => (∃ u1 u2 u3 u4, σ = [some v, some (.ref p), u1, u2, u3, u4]) ∧ Mu rPr ⟨G, H⟩ W (join ((byLows x).take i)) p) m.l.s (ig_list (e_call1 (e_var (Mn.mn l1.g hv) rfl) hp)) (fun W1 l => ⟨⟨none, none, none, none, rfl⟩, m.le l⟩) ?_ ?_
  · rintro i pr va σ' W' W4 hi ⟨⟨u1, u2, u3, u4, rfl⟩, m'⟩ s' l4 ha
    have hlt := lt_of_get hi
    rw [byLows_len] at hlt
    have m4 := m'.le l4
    refine g_pair (K := K) (p := pr) (W := W4) l4.s ha fun a b h1 h2 => ?_
    rw [take_snoc hi, join_snoc]
    have hln := join_len _ ((byLows x).take i) rfl
    rw [List.length_take] at hln
    generalize join ((byLows x).take i) = acc at m4 hln
    cases hacc : acc.getLast? with
    | none =>
      have : acc = [] := List.getLast?_eq_none_iff.mp hacc
      subst this
      refine s_if (W := W4) (b := false) l4.s (t_is (t_and (t_test (e_muNe m4 rfl (by decide))) (b := false) fun z => by cases z) rfl) (fun z => by cases z) fun _ W5 l5 => ?_
      refine s_append (W0 := ⟨G, H⟩) (W := W5) (A := rPr) (m4.le l5) rfl (by simp) (e_pair (e_var (Mn.mn l5.g h1) rfl) (e_var (Mn.mn l5.g h2) rfl)) fun W6 ws l6 m6 => ⟨W6.G, (l4.g.trans l5.g).trans l6.g, m6.sub, ⟨_, _, _, _, rfl⟩, m6⟩
    | some cc =>
      have hne : acc ≠ [] := fun z => by rw [z] at hacc; cases hacc
      have hget := last_get hacc
      refine s_if (W := W4) (b := decide (pr.1 ≤ cc.2)) l4.s (t_is (t_and (t_test (e_muNe m4 rfl (by decide))) fun _ => t_or (t_test (e_isN (e_someI (e_snd' (e_muLast m4 rfl hget))))) fun _ => t_or (t_test (e_isN (e_someI (e_var h1 rfl)))) fun _ => t_test (e_le (e_var h1 rfl) (e_snd' (e_muLast m4 rfl hget)))) (by simp [hne])) (fun z W5 l5 => ?_) (fun z W5 l5 => ?_)
      · have z : pr.1 ≤ cc.2 := of_decide_eq_true z
        have m5 := m4.le l5
        refine s_unp (W := W5) (A := K53.rI) (B := K53.rI) l5.s (e_muLast m5 rfl hget) fun a' b' W6 l6 h3 h4 => ?_
        refine s_setLast (W0 := ⟨G, H⟩) (W := W6) (A := rPr) (x := (cc.1, max cc.2 pr.2)) (m5.le l6) rfl hne (e_pair (e_var h3 rfl) ?_) fun W7 ws l7 m7 => ⟨W7.G, ((l4.g.trans l5.g).trans l6.g).trans l7.g, m7.sub, ⟨_, _, _, _, rfl⟩, ?_⟩
        · have h2' := Mn.mn (l5.g.trans l6.g) h2
          refine e_if (b := decide (pr.2 ≤ cc.2)) (t_is (t_or (t_test (e_isN (e_someI (e_var h4 rfl)))) fun _ => t_and (t_test (e_notN (e_someI (e_var h2' rfl)))) fun _ => t_test (e_le (e_var h2' rfl) (e_var h4 rfl))) (by simp)) (fun y => e_is (e_var h4 rfl) ?_) (fun y => e_is (e_var h2' rfl) ?_)
          · have y : pr.2 ≤ cc.2 := of_decide_eq_true y
            omega
          · have y : ¬ pr.2 ≤ cc.2 := of_decide_eq_false y
            omega
        · unfold joinStep
          rw [hacc]
          dsimp only
          rw [if_pos z]
          exact m7
      · have z : ¬ pr.1 ≤ cc.2 := of_decide_eq_false z
        refine s_append (W0 := ⟨G, H⟩) (W := W5) (A := rPr) (m4.le l5) rfl (by omega) (e_pair (e_var (Mn.mn l5.g h1) rfl) (e_var (Mn.mn l5.g h2) rfl)) fun W6 ws l6 m6 => ⟨W6.G, (l4.g.trans l5.g).trans l6.g, m6.sub, ⟨_, _, _, _, rfl⟩, ?_⟩
        unfold joinStep
        rw [hacc]
        dsimp only
        rw [if_neg z]
        exact m6
  · rintro σ' W' s' ⟨⟨u1, u2, u3, u4, rfl⟩, m'⟩
    rw [List.take_length] at m'
    exact s_retMu m' rfl q
end
end K53
end

/-! K53D4 -/
section
/-! The defs of the program: Members, Stretch, Spread are made. -/
namespace K53
open PySem PySem.Spec PyProof.Rows L2 NdefX
abbrev nfOf (qual : Str) (st : Stmt) (cc cda : Addr) : NF := ⟨"__init__", qual, defArgs st, defBody st, defScope st, [("__class__", cc)], cda⟩
abbrev fxOf (qual : Str) (st : Stmt) (cc cda : Addr) (dV kV doc pm : Value) (an : Option Addr) (ct : Value) : FuncData := PySem.W.fnX "__init__" qual (defArgs st) (defBody st) (defScope st) [("__class__", cc)] dV kV doc pm an (.ref cda) ct
/-- a class whose __init__ calls the next one -/
structure Ds (P : Program) (K : PySem.W.Frag) (mg : Str → Option Value) (C fI : Addr) (cx qual : Str) (st : Stmt) (dvs : List V) : Prop where
  ex : ∃ (f cc cda : Addr) (dV kV doc pm ct oc : Value) (an od : Option Addr) (osl : Array (Option Value)), K.lookup f = some ⟨oc, od, .func (fxOf qual st cc cda dV kV doc pm an ct), osl⟩ ∧ PySem.W.codeIn K (.ref cda) qual = true ∧
    SupK P K mg C f fI cc cda (fxOf qual st cc cda dV kV doc pm an ct) ∧ Mk K C f ∧ mg cx = some (.ref C) ∧ DflV K dV dvs
  cls : Cls K C
  no : NoAttr K C "own_pairs"
abbrev HBindX (qual : Str) (st : Stmt) (ps : List Str) (dvs : List V) : Prop := ∀ (cc cda T : Addr) (kV doc pm : Value) (an : Option Addr) (ct : Value) (us its : List Value), us.length = ps.length → its.length = dvs.length →
      ∃ k, bindArgs (fxOf qual st cc cda (.ref T) kV doc pm an ct) ⟨us, []⟩ = seqItems? (.ref T) >>= k ∧ k (some its.toArray) = pure (ps.zip us)
section
variable {P : Program} {w : World} {K : PySem.W.Frag} {mg : Str → Option Value} {base : Heap} {qual cx : Str} {st : Stmt} {N ps : List Str} {k : Nat} {sp : Sp} {C fI : Addr} {dvs : List V}
theorem Ds.mak (D : Ds P K mg C fI cx qual st dvs) (S : NScope N ps ["__class__"] (defScope st)) (hd : dvs ≠ []) (hb : HBindX qual st ps dvs) (len : ∀ vs H Q E, sp vs H Q E → vs.length = ps.length)
    (hbody : ∀ (f cc cda : Addr) (fd : FuncData) (A : Around) (outer : List Env) (s : Shared) (H : Hp) (vs : List V) (Q : VK) (E : XK), SupK P K mg C f fI cc cda fd → Room k (A.deeper (envF (nfOf qual st cc cda) f s.heap.objs.size)) → sp vs H Q E →
      ∃ t, AtS (ncx CX0 P w K mg base N (nfOf qual st cc cda) f A outer s H E) (.func (defBody st) (envF (nfOf qual st cc cda) f s.heap.objs.size)) (defBody st) t ∧ t { nx := fun _ H' => Q .non H', rt := Q } (startF N vs [none]) H) : Mak P w K mg base (k + 1) cx C sp [] := by
  obtain ⟨f, cc, cda, dV, kV, doc, pm, ct, oc, an, od, osl, lk, hcd, K0, hm, hg, hD⟩ := D.ex
  refine ⟨f, _, ps, [], hm, fn_ofS (F := nfOf qual st cc cda) lk hcd S rfl K0.cell len fun A outer s H vs Q E hr q => hbody f cc cda _ A outer s H vs Q E K0 hr q, hg, fun s us X hl => ?_, .nil⟩
  rw [List.append_nil] at hl ⊢
  rcases hD with ⟨e, _⟩ | ⟨_, T, o, its, m, rfl, lT, oT, rT⟩
  · exact absurd e hd
  · obtain ⟨k', e1, e2⟩ := hb cc cda T kV doc pm an ct us its hl rT.length.symm
    refine BindsTo.of_looks fun M => ?_
    rw [e1]
    exact looks_items X lT oT (.of_pure e2)
end
/-- what Members.__init__ does -/
def spMI (C : Addr) : Sp := fun vs H Q _ => ∃ a dx y fs, vs = [.ref a, y] ∧ H a = some (.ins C dx fs) ∧ fs.length < 1000 ∧ Q .non (upd H a (.ins C dx (putF "own_pairs" y fs)))
structure DmI (K : PySem.W.Frag) (fI : Addr) (st : Stmt) : Prop where
  ex : ∃ fd : FuncData, FunD K "__init__" "Members.__init__" (defArgs st) (defBody st) (defScope st) [] [] fI fd
abbrev s_MembersD_initD : Stmt := (inClass (top 30) 0)
abbrev N_MembersD_initD : List Str := ["self", "pairs"]
theorem sc_MembersD_initD : FnScope N_MembersD_initD ["self", "pairs"] (defScope s_MembersD_initD) := ⟨rfl, rfl, rfl, by decide +kernel, rfl, by decide +kernel, by decide +kernel⟩
theorem lt_putF {f : Str} {v : V} {n : Nat} : ∀ {fs : List (Str × V)}, fs.length < n → (putF f v fs).length < n + 1
  | [], h => by show 1 < n + 1; exact Nat.succ_lt_succ (by simpa using h)
  | (g, x) :: r, h => by
    unfold putF
    split
    · exact Nat.lt_succ_of_lt h
    · cases n with
      | zero => cases h
      | succ n => exact Nat.succ_lt_succ (lt_putF (n := n) (Nat.lt_of_succ_lt_succ h))
def FStretch (G : Hp) (p : Pr) (fs : List (Str × V)) : Prop := ∃ v1 v2 v3, fs = [(("own_pairs" : Str), v1), (("low" : Str), v2), (("high" : Str), v3)] ∧ rL rPr G [p] v1 ∧ K53.rI G p.1 v2 ∧ K53.rI G p.2 v3
def FSpread (G : Hp) (ps : List Pr) (fs : List (Str × V)) : Prop := ∃ v1, fs = [(("own_pairs" : Str), v1)] ∧ rL rPr G ps v1
instance : MnF FStretch := ⟨fun e ⟨v1, v2, v3, h, h1, h2, h3⟩ => ⟨v1, v2, v3, h, Mn.mn e h1, Mn.mn e h2, Mn.mn e h3⟩⟩
instance : MnF FSpread := ⟨fun e ⟨v1, h, h1⟩ => ⟨v1, h, Mn.mn e h1⟩⟩
abbrev rStretch (c : Ca) : Hp → Pr → V → Prop := rIn c.Stretch FStretch
abbrev rSpread (c : Ca) : Hp → List Pr → V → Prop := rIn c.Spread FSpread
/-- any list -/
def rAL (G : Hp) (_ : Unit) (v : V) : Prop := ∃ a vs, v = .ref a ∧ G a = some (.lst vs)
instance : Mn rAL := ⟨fun e ⟨a, vs, h1, h2⟩ => ⟨a, vs, h1, e _ _ h2⟩⟩
abbrev Q_is_list (P : Program) (w : World) (K : PySem.W.Frag) (mg : Str → Option Value) (base : Heap) (c : Ca) : Prop := Cal P w K mg base 1 "is_list" (Prm (In1 rAL) (fun _ => True) rB (fun _ => true)) []
abbrev Q_StretchD_initD (P : Program) (w : World) (K : PySem.W.Frag) (mg : Str → Option Value) (base : Heap) (c : Ca) : Prop := Mak P w K mg base 4 "Stretch" c.Stretch (PrmI c.Stretch (In2 K53.rI K53.rI) (fun x => x.1 < x.2) FStretch (fun x => x)) []
abbrev Q_SpreadD_initD (P : Program) (w : World) (K : PySem.W.Frag) (mg : Str → Option Value) (base : Heap) (c : Ca) : Prop := Mak P w K mg base 4 "Spread" c.Spread (PrmI c.Spread (In1 (rL (rStretch c))) (fun ps => ps.length ≤ 40000) FSpread told) []
/-- isinstance(x, C), x of the class itself -/
structure IsiK (K : PySem.W.Frag) (C : Addr) : Prop where
  ha : PySem.W.findIn K (.ref C) "__class__" = some (some (.builtin "object.__class__"))
  hn : PySem.W.specialIn K (.builtin "object.__class__") "__get__" = some (some (.builtin "getset_descriptor.__get__"))
  ht : PySem.W.takesIn K (.builtin "object.__class__") = some true
  hm : PySem.W.mroIn K C (.type "object") = some true
  kt : PySem.W.kitOne K (.ref C) (.ref C) = some true
section
variable {P : Program} {w : World} {K : PySem.W.Frag} {mg : Str → Option Value} {base : Heap} {c : Ca} {C fI : Addr}
theorem r_members (D : DmI K fI s_MembersD_initD) (hc : Cls K C) (hn : NoAttr K C "own_pairs") : FnR P w K mg base CX0 1 fI (spMI C) := by
  obtain ⟨fd, F⟩ := D.ex
  have b : Binds K fd ["self", "pairs"] [] := F.bindsN fun _ _ _ _ _ _ us hl => match us, hl with | [_, _], _ => rfl
  have ok : FnOk P w K mg base CX0 1 fI fd ["self", "pairs"] (spMI C) := F.ok sc_MembersD_initD (fun vs H Q E h => by obtain ⟨a, dx, y, fs, rfl, _⟩ := h; rfl) fun cdv A outer s H vs Q E hr hsp => ⟨_, PSs.nox (pss_one (ps_fld (pv 0) (pv 1) rfl)), by
    obtain ⟨a, dx, y, fs, rfl, h1, h2, q⟩ := hsp
    exact ⟨y, rfl, .ref a, rfl, a, C, dx, fs, rfl, h1, hc, hn, h2, q⟩⟩
  exact (ok.raw b .nil).imp fun vs H Q E h => by rw [List.append_nil]; exact h
theorem e_isList {σ : L2.St} {W : Wd} {ta : TE} {u : Unit} (ha : Ev ta σ W rAL u) : Ev (tCB (rIsiT K) (tCons ta (tCons (tTup (tCons (tC (.ty "list")) (tCons (tC (.ty "tuple")) tNil))) tNil))) σ W rB true := fun W1 l Q q =>
  ha W1 l _ fun v W2 l2 ⟨a, vs, e, g⟩ => ⟨by show 2 ≤ sizeLine; decide, fun p hp => ⟨v, p, [.ty "list", .ty "tuple"], .type "list", [.type "list", .type "tuple"], true, rfl, upd_same, .cons (.ty _) (.cons (.ty _) .nil),
    by rw [e]; exact .base (.lst (by show upd W2.H p _ a = _; rw [upd_ne (ne_of_none (l2.s.lst g) hp)]; exact l2.s.lst g)), kitAny_cons (b := true) (kit_ty (by decide +kernel)) (fun z => by cases z) (fun _ => rfl),
    q _ ⟨upd W2.G p _, upd W2.H p _⟩ (l2.trans (Le.new l2.s hp)) rfl⟩⟩
abbrev s_is_list : Stmt := (top 6)
abbrev N_is_list : List Str := ["value"]
theorem sc_is_list : FnScope N_is_list ["value"] (defScope s_is_list) := ⟨rfl, rfl, rfl, by decide +kernel, rfl, by decide +kernel, by decide +kernel⟩
theorem c_is_list (B : Bu mg) (D : Dn K mg "is_list" s_is_list [])  : Q_is_list P w K mg base c := by
  refine D.cal sc_is_list (fun _ _ _ _ _ _ us hl => match us, hl with | [_], _ => rfl) pr_len1 fun f cdv A outer s H vs Q E hr hsp => ⟨_, PSs.nox (pss_one (ps_ret (pe_callB call_isiT (by rfl) B.isinstance_ (by decide +kernel) (pa_cons (pv 0) (pa_cons (pe_tup (pa_cons (pe_bltn (v := .ty "list") (by rfl) B.list_ (by decide +kernel) rfl) (pa_cons (pe_bltn (v := .ty "tuple") (by rfl) B.tuple_ (by decide +kernel) rfl) pa_nil))) pa_nil))))), ?_⟩
  obtain ⟨G, x, sb, ⟨v, e, hv⟩, hp, q⟩ := hsp
  subst e
  exact s_ret (W := ⟨G, H⟩) sb (e_isList (e_var hv rfl)) q
theorem e_tup2 {α : Type} {A : Hp → α → V → Prop} {x y : α} {σ : L2.St} {W : Wd} {ta tb : TE} [Mn A] (ha : Ev ta σ W A x) (hb : Ev tb σ W A y) : Ev (tTup (tCons ta (tCons tb tNil))) σ W (rT A) [x, y] := fun W1 l Q q =>
  ha W1 l _ fun v W2 l2 h2 => hb W2 (l.trans l2) _ fun w W3 l3 h3 => ⟨by show 2 ≤ sizeLine; decide, fun p hp => q _ ⟨upd W3.G p _, upd W3.H p _⟩ ((l2.trans l3).trans (Le.new l3.s hp))
    ⟨p, [v, w], rfl, upd_same, .cons (Mn.mn (Same_new (l3.s.free hp)) (Mn.mn l3.g h2)) (.cons (Mn.mn (Same_new (l3.s.free hp)) h3) .nil)⟩⟩
abbrev s_StretchD_initD : Stmt := (inClass (top 31) 0)
abbrev N_StretchD_initD : List Str := ["self", "low", "high", "__class__", "end"]
theorem sc_StretchD_initD : NdefX.NScope N_StretchD_initD ["self", "low", "high"] ["__class__"] (defScope s_StretchD_initD) := NdefX.nscope_by (by decide +kernel)
theorem pri_len {α β : Type} {C : Addr} {In : Hp → α → List V → Prop} {Pre : α → Prop} {F : Hp → β → List (Str × V) → Prop} {f : α → β} {n : Nat} (h : ∀ G x ws, In G x ws → ws.length = n) (vs : List V) (H : Hp) (Q : VK) (E : XK) (q : PrmI C In Pre F f vs H Q E) : vs.length = n + 1 := by
  obtain ⟨W0, G, a, dx, ws, x, rfl, _, hi, _⟩ := q
  show ws.length + 1 = _
  rw [h G x ws hi]
theorem in1_len {α : Type} {A : Hp → α → V → Prop} (G : Hp) (x : α) (ws : List V) (h : In1 A G x ws) : ws.length = 1 := by obtain ⟨a, rfl, _⟩ := h; rfl
theorem in2_len {α β : Type} {A : Hp → α → V → Prop} {B : Hp → β → V → Prop} (G : Hp) (x : α × β) (ws : List V) (h : In2 A B G x ws) : ws.length = 2 := by obtain ⟨a, b, rfl, _⟩ := h; rfl
theorem in3_len {α β γ : Type} {A : Hp → α → V → Prop} {B : Hp → β → V → Prop} {C : Hp → γ → V → Prop} (G : Hp) (x : α × β × γ) (ws : List V) (h : In3 A B C G x ws) : ws.length = 3 := by obtain ⟨a, b, c, rfl, _⟩ := h; rfl
/-- super().__init__(y) of Members on the instance that is made -/
theorem s_sup {D : Ends} {σ : L2.St} {W0 W : Wd} {a dx : Addr} {fs : List (Str × V)} {i : Nat} {te : TE} {β : Type} {B : Hp → β → V → Prop} {y : β} (m : Iu W0 W C a dx fs) (hv : σ[i]? = some (some (.ref a))) (hl : fs.length < 1000) (h : Ev te σ W B y)
    (k : ∀ W1 v, Le W W1 → B W1.G y v → Iu W0 ⟨W1.G, upd W1.H a (.ins C dx (putF "own_pairs" v fs))⟩ C a dx (putF "own_pairs" v fs) → D.nx σ (upd W1.H a (.ins C dx (putF "own_pairs" v fs)))) : tDrop (tSup C i (spMI C) (tCons te tNil)) D σ W.H :=
  ⟨a, dx, fs, hv, m.h, h W (Le.refl m.l.s) _ fun v W1 l1 h1 => by
    have m1 := m.le l1
    exact ⟨a, dx, v, fs, rfl, m1.h, hl, k W1 v l1 h1 ⟨m1.l.write m1.p0 m1.g, m1.p0, m1.g, upd_same⟩⟩⟩
theorem c_Stretch (B : Bu mg) (D : Ds P K mg c.Stretch fI "Stretch" "Stretch.__init__" s_StretchD_initD [.non, .non]) (M : DmI K fI s_MembersD_initD) (nl : NoAttr K c.Stretch "low") (nh : NoAttr K c.Stretch "high") (G_is_integer : Q_is_integer P w K mg base c) : Q_StretchD_initD P w K mg base c := by
  refine D.mak sc_StretchD_initD (by simp) (fun cc cda T kV doc pm an ct us its hu hi => match us, hu, its, hi with | [_, _, _], _, [_, _], _ => ⟨_, rfl, rfl⟩) (pri_len in2_len) fun f cc cda fd A outer s H vs Q E K0 hr hsp => ?_
  obtain ⟨W0, G, a, dx, ws, ⟨lo, hi⟩, rfl, m, ⟨v, v2, rfl, hv, hv2⟩, hp, q⟩ := hsp
  dsimp only at hv hv2 hp
  have RM : FnR P w K mg base CX0 1 fI (spMI c.Stretch) := r_members M D.cls D.no
  refine ⟨_, at_consN (ps_if (pt_not (pt_val (pe_callB (cr_all rfl) (by rfl) B.all_ (by decide +kernel) (pa_cons (pe_lc (own := [("end", 4)]) rfl sc_StretchD_initD.nd (pi_tup (pe_tup (pa_cons (pv 1) (pa_cons (pv 2) pa_nil)))) (blkOk_by (N := N_StretchD_initD) (sc := defScope s_StretchD_initD) (by decide +kernel)) (fun _ _ _ _ _ => (pg_name (i := 4) sc_StretchD_initD.nd rfl (Or.inl rfl))) (fun _ _ _ _ _ => pts_nil) (fun _ _ _ _ _ => (pe_or (pe_cmp (pc_isN (pv 4))) (pe_one (pe_cal G_is_integer hr (by decide) (by rfl) (pa_cons (pv 4) pa_nil)))))) pa_nil)))) (pss_one ps_never) pss_nil) (at_consN (ps_if (PW.pt (pw_and (pt_cmp (pc_notN (pv 1))) (pw_and (pt_cmp (pc_notN (pv 2))) (pw_and1 (pt_cmpR op_ge (pv 1) (pv 2) (nomark _)))))) (pss_one ps_never) pss_nil) (at_super (i := 0) (F := nfOf "Stretch.__init__" s_StretchD_initD cc cda) K0 rfl rfl (show (defScope s_StretchD_initD).names.lookup ("super" : Str) = _ by decide +kernel) (show (defScope s_StretchD_initD).names.lookup ("__class__" : Str) = _ by decide +kernel) (show (defScope s_StretchD_initD).names.lookup ("self" : Str) = _ by decide +kernel) rfl RM hr (by decide) (pa_cons (pe_lst (pa_cons (pe_tup (pa_cons (pv 1) (pa_cons (pv 2) pa_nil))) pa_nil)) pa_nil) (at_ps (pss_cons (ps_fld (pv 0) (pv 1) rfl) (pss_one (ps_fld (pv 0) (pv 2) rfl)))))), ?_⟩
  refine s_if (W := ⟨G, H⟩) (b := false) m.l.s (t_is (t_not (t_B (e_all (e_lcn1 (A := K53.rI) (fun _ => true) (ig_tup (xs := [lo, hi]) (e_tup2 (e_var hv rfl) (e_var hv2 rfl))).w (by simp) fun x va W1 hx l ha => e_is (e_or (e_isN (e_someI (e_var ha rfl))) fun _ => e_call1 (e_pt (e_var ha rfl)) trivial) rfl)))) rfl) (fun z => by cases z) fun _ W1 l1 => ?_
  refine s_if (W := W1) (b := false) l1.s (t_is (t_and (t_B (e_notN (e_someI (e_var (Mn.mn l1.g hv) rfl)))) fun _ => t_and (t_B (e_notN (e_someI (e_var (Mn.mn l1.g hv2) rfl)))) fun _ => t_test (e_ge (e_var (Mn.mn l1.g hv) rfl) (e_var (Mn.mn l1.g hv2) rfl))) (by simp; omega)) (fun z => by cases z) fun _ W2 l2 => ?_
  have g2 := l1.g.trans l2.g
  refine s_sup (W := W2) (C := c.Stretch) (B := rL rPr) (y := [(lo, hi)]) ((m.le l1).le l2) rfl (by decide) (e_lst (ea_cons (e_pair (e_var (Mn.mn g2 hv) rfl) (e_var (Mn.mn g2 hv2) rfl)) ea_nil) (by simp)) fun W3 w1 l3 h1 m3 => ?_
  have g3 := g2.trans l3.g
  refine s_fld (W := ⟨W3.G, upd W3.H a _⟩) (B := K53.rI) (y := lo) m3 rfl D.cls nl (lt_putF (n := 999) (by decide)) (e_var (Mn.mn g3 hv) rfl) fun W4 w2 l4 h2 m4 => ?_
  refine s_fld (W := ⟨W4.G, upd W4.H a _⟩) (B := K53.rI) (y := hi) m4 rfl D.cls nh (lt_putF (lt_putF (n := 998) (by decide))) (e_var (Mn.mn (g3.trans l4.g) hv2) rfl) fun W5 w3 l5 h3 m5 => ?_
  exact q ⟨W5.G, upd W5.H a _⟩ _ m5 ⟨w1, w2, w3, rfl, Mn.mn (l4.g.trans l5.g) h1, Mn.mn l5.g h2, h3⟩
abbrev s_SpreadD_initD : Stmt := (inClass (top 32) 0)
abbrev N_SpreadD_initD : List Str := ["self", "stretches", "__class__", "index", "stretch"]
theorem sc_SpreadD_initD : NdefX.NScope N_SpreadD_initD ["self", "stretches"] ["__class__"] (defScope s_SpreadD_initD) := NdefX.nscope_by (by decide +kernel)
theorem e_isiC {σ : L2.St} {W : Wd} {ta : TE} {α : Type} {F : Hp → α → List (Str × V) → Prop} {x : α} (hc : Cls K C) (i : IsiK K C) (ha : Ev ta σ W (rIn C F) x) : Ev (tCB (rIsi K) (tCons ta (tCons (tC (.ref C)) tNil))) σ W rB true := fun W1 l Q q =>
  ha W1 l _ fun v W2 l2 ⟨a, dx, fs, e, g, _⟩ => ⟨v, .ref C, .ref C, .ref C, true, rfl, .own C, by rw [e]; exact .base (.ins (l2.s.ins g) hc i.ha i.hn i.ht i.hm), i.kt, q _ W2 l2 rfl⟩
theorem c_Spread (B : Bu mg) (D : Ds P K mg c.Spread fI "Spread" "Spread.__init__" s_SpreadD_initD [d0]) (M : DmI K fI s_MembersD_initD) (BStretch : mg "Stretch" = some (.ref c.Stretch)) (hcS : Cls K c.Stretch) (iS : IsiK K c.Stretch) (nl : NoAttr K c.Stretch "low") (nh : NoAttr K c.Stretch "high")
    (G_is_list : Q_is_list P w K mg base c) (G_united : Q_united P w K mg base c) : Q_SpreadD_initD P w K mg base c := by
  refine D.mak sc_SpreadD_initD (by simp) (fun cc cda T kV doc pm an ct us its hu hi => match us, hu, its, hi with | [_, _], _, [_], _ => ⟨_, rfl, rfl⟩) (pri_len in1_len) fun f cc cda fd A outer s H vs Q E K0 hr hsp => ?_
  obtain ⟨W0, G, a, dx, ws, ps, rfl, m, ⟨v, rfl, hv⟩, hp, q⟩ := hsp
  have RM : FnR P w K mg base CX0 1 fI (spMI c.Spread) := r_members M D.cls D.no
  refine ⟨_, at_consN (ps_if (pt_not (pt_val (pe_cal G_is_list hr (by decide) (by rfl) (pa_cons (pv 1) pa_nil)))) (pss_one ps_never) pss_nil) (at_consN (ps_for PassesOwn.never rfl (pi_enum (by rfl) B.enumerate_ (pa_cons (pv 1) pa_nil)) (pg_tupK (K := K) (n := 2) rfl rfl (pgs_cons (pg_name (i := 3) sc_SpreadD_initD.nd rfl (Or.inl rfl)) (pgs_cons (pg_name (i := 4) sc_SpreadD_initD.nd rfl (Or.inl rfl)) pgs_nil))) (pss_one (ps_if (pt_not (pt_val (pe_callB call_isi (by rfl) B.isinstance_ (by decide +kernel) (pa_cons (pv 4) (pa_cons (pe_glob (by rfl) (v := .ref c.Stretch) BStretch rfl) pa_nil))))) (pss_one ps_never) pss_nil))) (at_super (i := 0) (F := nfOf "Spread.__init__" s_SpreadD_initD cc cda) K0 rfl rfl (show (defScope s_SpreadD_initD).names.lookup ("super" : Str) = _ by decide +kernel) (show (defScope s_SpreadD_initD).names.lookup ("__class__" : Str) = _ by decide +kernel) (show (defScope s_SpreadD_initD).names.lookup ("self" : Str) = _ by decide +kernel) rfl RM hr (by decide) (pa_cons (pe_cal G_united hr (by decide) (by rfl) (pa_cons (pe_lc (own := [("stretch", 4)]) rfl sc_SpreadD_initD.nd (pi_list (pv 1)) (blkOk_by (N := N_SpreadD_initD) (sc := defScope s_SpreadD_initD) (by decide +kernel)) (fun _ _ _ _ _ => (pg_name (i := 4) sc_SpreadD_initD.nd rfl (Or.inl rfl))) (fun _ _ _ _ _ => pts_nil) (fun _ _ _ _ _ => (pe_tup (pa_cons (pe_fldK (K := K) rfl (pv 4) rfl) (pa_cons (pe_fldK (K := K) rfl (pv 4) rfl) pa_nil))))) pa_nil)) pa_nil) (at_ps pss_nil))), ?_⟩
  have hal : rAL G () v := by obtain ⟨t, vs, e, g, _⟩ := hv; exact ⟨t, vs, e, g⟩
  refine s_if (W := ⟨G, H⟩) (b := false) m.l.s (t_is (t_not (t_B (e_call1 (e_var hal rfl) trivial))) rfl) (fun z => by cases z) fun _ W1 l1 => ?_
  refine s_for (xs := enumI ps) (W := W1) (A := rP K53.rI (rStretch c)) (fun i σ W => (∃ u1 u2, σ = [some (.ref a), some v, none, u1, u2]) ∧ Same G W.G ∧ Iu W0 W c.Spread a dx []) l1.s (ig_enum (e_var (Mn.mn l1.g hv) rfl)) (fun W2 l2 => ⟨⟨none, none, rfl⟩, l1.g.trans l2.g, (m.le l1).le l2⟩) ?_ ?_
  · rintro i pr va σ' W' W4 hi ⟨⟨u1, u2, rfl⟩, gW, m'⟩ s' l4 ha
    refine g_pair (K := K) (p := pr) (W := W4) l4.s ha fun x1 x2 h1 h2 => ?_
    exact s_if (W := W4) (b := false) l4.s (t_is (t_not (t_B (e_isiC hcS iS (e_var h2 rfl)))) rfl) (fun z => by cases z) fun _ W5 l5 => ⟨W5.G, l4.g.trans l5.g, l5.s, ⟨_, _, rfl⟩, (gW.trans l4.g).trans l5.g, (m'.le l4).le l5⟩
  · rintro σ' W' s' ⟨⟨u1, u2, rfl⟩, gW, m'⟩
    refine s_sup (W := W') (C := c.Spread) (B := rL rPr) (y := told ps) m' rfl (by decide) ?_ fun W3 w1 l3 h1 m3 => q ⟨W3.G, upd W3.H a _⟩ _ m3 ⟨w1, rfl, h1⟩
    refine e_call1 (x := ps) ?_ hp
    refine e_is (e_lcn1 (A := rStretch c) (fun p : Pr => p) (ig_list (e_var (Mn.mn gW hv) rfl)).w hp fun x va W1 hx l ha => e_is (e_pair (e_fld (B := K53.rI) (y := x.1) (e_var ha rfl) hcS nl fun G fs ⟨v1, v2, v3, e, h1, h2, h3⟩ => ⟨v2, by rw [e]; rfl, h2⟩) (e_fld (B := K53.rI) (y := x.2) (e_var ha rfl) hcS nh fun G fs ⟨v1, v2, v3, e, h1, h2, h3⟩ => ⟨v3, by rw [e]; rfl, h3⟩)) rfl) (by simp)
end
end K53
end

/-! K53D7 -/
section
/-! The defs of the program: counts of a spread, rows of a trail, a trail is made. -/
namespace K53
open PySem PySem.Spec PyProof.Rows L2
abbrev rRows : Hp → Rows → V → Prop := rDT (rL rPr)
/-- a trail: its cell, its word, its times -/
structure Tr where
  cell : Cell
  w : List Nat
  N : Int
def FTrail (G : Hp) (t : Tr) (fs : List (Str × V)) : Prop := ∃ v1 v2 v3 v4 v5, fs = [(("told_cell" : Str), v1), (("told_times" : Str), v2), (("told_offsets" : Str), v3), (("told_shift" : Str), v4), (("all_rows" : Str), v5)] ∧
  rCell G t.cell v1 ∧ K53.rI G t.N v2 ∧ rT rCell G (offs t.w) v3 ∧ rCell G (lastOf (offs t.w)) v4 ∧ rRows G (rowsOf (offs t.w) t.N) v5
instance : MnF FTrail := ⟨fun e ⟨v1, v2, v3, v4, v5, h, h1, h2, h3, h4, h5⟩ => ⟨v1, v2, v3, v4, v5, h, Mn.mn e h1, Mn.mn e h2, Mn.mn e h3, Mn.mn e h4, Mn.mn e h5⟩⟩
abbrev rTrail (c : Ca) : Hp → Tr → V → Prop := rIn c.Trail FTrail
abbrev Q_strand_rows (P : Program) (w : World) (K : PySem.W.Frag) (mg : Str → Option Value) (base : Heap) (c : Ca) : Prop := Cal P w K mg base 3 "strand_rows" (Prm (In2 (rT rCell) K53.rI) (fun x => 0 < x.1.length ∧ x.1.length ≤ 100 ∧ Sm (lastOf x.1)) rRows (fun x => rowsOf x.1 x.2)) []
abbrev Q_Members_count (P : Program) (w : World) (K : PySem.W.Frag) (mg : Str → Option Value) (base : Heap) (c : Ca) : Prop := Met P w K mg base 4 c.Spread "count" (Prm (In3 (rSpread c) K53.rI K53.rI) (fun x => (∀ p ∈ x.1, p.1 < p.2) ∧ x.1.length ≤ 40000 ∧ x.2 = (0, 1)) K53.rI (fun x => sizeOf_ x.1)) [.int 0, .int 1]
abbrev Q_Spread_told (P : Program) (w : World) (K : PySem.W.Frag) (mg : Str → Option Value) (base : Heap) (c : Ca) : Prop := Met P w K mg base 6 c.Spread "told" (Prm (In1 (rSpread c)) (fun ps => (∀ p ∈ ps, p.1 < p.2) ∧ ps.length ≤ 40000) (rL (rStretch c)) (fun ps => ps)) []
abbrev Q_TrailD_initD (P : Program) (w : World) (K : PySem.W.Frag) (mg : Str → Option Value) (base : Heap) (c : Ca) : Prop := Mak P w K mg base 4 "Trail" c.Trail (PrmI c.Trail (In3 rCell rW K53.rI) (fun x => Lets x.2.1 ∧ 0 ≤ x.2.2) FTrail (fun x => ⟨x.1, x.2.1, x.2.2⟩)) []
theorem addRow_len : ∀ (r : Rows) (f : Cell) (e : Pr), (addRow r f e).length ≤ r.length + 1
  | [], f, e => by simp [addRow]
  | (g, row) :: r, f, e => by
    unfold addRow
    split
    · simp
    · have := addRow_len r f e
      simp
      omega
theorem addRow_lens : ∀ (r : Rows) (f : Cell) (e : Pr) (n : Nat), (∀ x ∈ r, x.2.length ≤ n) → ∀ x ∈ addRow r f e, x.2.length ≤ n + 1
  | [], f, e, n, h, x, hx => by
    unfold addRow at hx
    rw [List.mem_singleton] at hx
    subst hx
    simp
  | (g, row) :: r, f, e, n, h, x, hx => by
    unfold addRow at hx
    have h0 := h (g, row) List.mem_cons_self
    split at hx
    · rcases List.mem_cons.mp hx with rfl | hx
      · simp at h0 ⊢; omega
      · exact Nat.le_succ_of_le (h x (List.mem_cons_of_mem _ hx))
    · rcases List.mem_cons.mp hx with rfl | hx
      · exact Nat.le_succ_of_le h0
      · exact addRow_lens r f e n (fun y hy => h y (List.mem_cons_of_mem _ hy)) x hx
theorem rowsTo_len (os : List Cell) (v : Cell) : ∀ n, (rowsTo os v n).length ≤ n ∧ ∀ x ∈ rowsTo os v n, x.2.length ≤ n
  | 0 => by simp [rowsTo]
  | n + 1 => by
    have ih := rowsTo_len os v n
    unfold rowsTo
    exact ⟨Nat.le_trans (addRow_len _ _ _) (Nat.succ_le_succ ih.1), addRow_lens _ _ _ n ih.2⟩
theorem rangeI_get {n : Int} {i : Nat} {x : Int} (h : (rangeI 0 n)[i]? = some x) : x = (i : Int) ∧ (i : Int) < n := by
  unfold rangeI at h
  rw [List.getElem?_map] at h
  obtain ⟨j, h1, h2⟩ := Option.map_eq_some_iff.mp h
  have hi : i < (n - 0).toNat := by
    rcases Nat.lt_or_ge i (n - 0).toNat with z | z
    · exact z
    · rw [List.getElem?_eq_none (by simpa using z)] at h1; cases h1
  rw [List.getElem?_range hi] at h1
  have := Option.some.inj h1
  omega
section
variable {P : Program} {w : World} {K : PySem.W.Frag} {mg : Str → Option Value} {base : Heap} {c : Ca} {σ : L2.St} {W W0 : Wd}
theorem e_fldI {α : Type} {A : Hp → α → V → Prop} [Mn A] {Cc a dx : Addr} {fs : List (Str × V)} {i : Nat} {f : Str} {v : V} {x : α} (m : Iu W0 W Cc a dx fs) (hv : σ[i]? = some (some (.ref a))) (hc : Cls K Cc) (n : NoAttr K Cc f) (hl : fs.lookup f = some v) (h : A W.G x v) : Ev (tFld K (tVar i) f) σ W A x := fun W1 l Q q =>
  ⟨_, hv, a, Cc, dx, fs, v, rfl, (m.le l).h, hc, n, hl, q v W1 (Le.refl l.s) (Mn.mn l.g h)⟩
abbrev s_Members_count : Stmt := (inClass (top 30) 2)
abbrev N_Members_count : List Str := ["self", "r", "p"]
theorem sc_Members_count : FnScope N_Members_count ["self", "r", "p"] (defScope s_Members_count) := ⟨rfl, rfl, rfl, by decide +kernel, rfl, by decide +kernel, by decide +kernel⟩
theorem c_Members_count (B : Bu mg) (D : Dm K c.Spread "count" "Members.count" s_Members_count [.int 0, .int 1]) (hc : Cls K c.Spread) (hn : NoAttr K c.Spread "own_pairs") (G_check_remainder : Q_check_remainder P w K mg base c) (G_counted : Q_counted P w K mg base c) : Q_Members_count P w K mg base c := by
  refine D.metD (n := 1) sc_Members_count (by simp) rfl (fun T kV doc pm an cdv ct us its hu hi => match us, hu, its, hi with | [_], _, [_, _], _ => ⟨_, rfl, rfl⟩) pr_len3 fun f cdv A outer s H vs Q E hr hsp => ⟨_, PSs.nox (pss_cons (ps_expr (pe_cal G_check_remainder hr (by decide) (by rfl) (pa_cons (pv 1) (pa_cons (pv 2) pa_nil)))) (pss_one (ps_ret (pe_cal G_counted hr (by decide) (by rfl) (pa_cons (pe_fldK (K := K) rfl (pv 0) rfl) (pa_cons (pv 1) (pa_cons (pv 2) pa_nil))))))), ?_⟩
  obtain ⟨G, ⟨ps, r, p⟩, sb, ⟨v, v2, v3, e, hv, hv2, hv3⟩, ⟨h1, h2, h3⟩, q⟩ := hsp
  dsimp only at hv hv2 hv3 h1 h2 h3
  cases h3
  subst e
  refine s_drop (W := ⟨G, H⟩) sb (e_call2 (e_var hv2 rfl) (e_var hv3 rfl) rfl) fun W1 l1 => ?_
  exact s_ret (W := W1) l1.s (e_call3 (e_fld (B := rL rPr) (y := ps) (e_var (Mn.mn l1.g hv) rfl) hc hn fun G fs ⟨v1, e, h1⟩ => ⟨v1, by rw [e]; rfl, h1⟩) (e_var (Mn.mn l1.g hv2) rfl) (e_var (Mn.mn l1.g hv3) rfl) ⟨h1, h2, rfl⟩) fun v W'' l2 h => q v W'' (l1.trans l2) h
abbrev s_Spread_told : Stmt := (inClass (top 32) 1)
abbrev N_Spread_told : List Str := ["self", "low", "high"]
theorem sc_Spread_told : FnScope N_Spread_told ["self"] (defScope s_Spread_told) := ⟨rfl, rfl, rfl, by decide +kernel, rfl, by decide +kernel, by decide +kernel⟩
theorem c_Spread_told (B : Bu mg) (D : Dm K c.Spread "told" "Spread.told" s_Spread_told []) (G_Stretch : Q_StretchD_initD P w K mg base c) (hcSp : Cls K c.Spread) (hnSp : NoAttr K c.Spread "own_pairs") : Q_Spread_told P w K mg base c := by
  refine D.met sc_Spread_told (fun _ _ _ _ _ _ us hl => match us, hl with | [_], _ => rfl) pr_len1 fun f cdv A outer s H vs Q E hr hsp => ⟨_, PSs.nox (pss_one (ps_ret (pe_lc (own := [("low", 1), ("high", 2)]) rfl sc_Spread_told.nd (pi_list (pe_fldK (K := K) rfl (pv 0) rfl)) (blkOk_by (N := N_Spread_told) (sc := defScope s_Spread_told) (by decide +kernel)) (fun _ _ _ _ _ => (pg_tupK (K := K) (n := 2) rfl rfl (pgs_cons (pg_name (i := 1) sc_Spread_told.nd rfl (Or.inl rfl)) (pgs_cons (pg_name (i := 2) sc_Spread_told.nd rfl (Or.inl rfl)) pgs_nil)))) (fun _ _ _ _ _ => pts_nil) (fun _ _ _ _ _ => (pe_mkr G_Stretch hr (by decide) (by rfl) (pa_cons (pv 1) (pa_cons (pv 2) pa_nil))))))), ?_⟩
  obtain ⟨G, x, sb, ⟨v, e, hv⟩, hp, q⟩ := hsp
  subst e
  obtain ⟨h1, h2⟩ := hp
  exact s_ret (W := ⟨G, H⟩) sb (e_is (e_lcp1 (C := K53.rI) (D := K53.rI) (fun p : Pr => p) (ig_list (xs := x) (e_fld (B := rL rPr) (y := x) (e_var hv rfl) hcSp hnSp fun G fs ⟨v1, e, h1⟩ => ⟨v1, by rw [e]; rfl, h1⟩)).w h2 fun y a b W1 hy l ha hb => e_make (ea_in2 (e_var ha rfl) (e_var hb rfl)) (h1 y hy)) (by simp)) q
abbrev s_strand_rows : Stmt := (top 41)
abbrev N_strand_rows : List Str := ["offsets", "times", "last", "rows", "step", "foot", "multiple"]
theorem sc_strand_rows : FnScope N_strand_rows ["offsets", "times"] (defScope s_strand_rows) := ⟨rfl, rfl, rfl, by decide +kernel, rfl, by decide +kernel, by decide +kernel⟩
theorem c_strand_rows (B : Bu mg) (D : Dn K mg "strand_rows" s_strand_rows []) (G_foot_of : Q_foot_of P w K mg base c) : Q_strand_rows P w K mg base c := by
  refine D.cal sc_strand_rows (fun _ _ _ _ _ _ us hl => match us, hl with | [_, _], _ => rfl) pr_len2 fun f cdv A outer s H vs Q E hr hsp => ⟨_, PSs.nox (pss_cons (ps_set (i := 2) sc_strand_rows.nd rfl (Or.inl rfl) (pe_ifExp (pt_cmpR op_gt (pv 1) pe_int (nomark _)) (pe_callB call_len_seq (by rfl) B.len_ (by decide +kernel) (pa_cons (pv 0) pa_nil)) pe_int)) (pss_cons (ps_set (i := 3) sc_strand_rows.nd rfl (Or.inl rfl) pe_dnewT) (pss_cons (ps_for PassesOwn.never rfl (pi_range1 (by rfl) B.range_ (pa_cons (pv 2) pa_nil)) (pg_name (i := 4) sc_strand_rows.nd rfl (Or.inl rfl)) (pss_cons (ps_asg (pe_cal G_foot_of hr (by decide) (by rfl) (pa_cons (pe_ix (ix_tupK (K := K) rfl) (pv 0) (pv 4) (fun _ _ => rfl)) (pa_cons (pe_ix (ix_tupK (K := K) rfl) (pv 0) (pe_un un_neg pe_int) (fun _ _ => rfl)) pa_nil))) (pg_tupK (K := K) (n := 2) rfl rfl (pgs_cons (pg_name (i := 5) sc_strand_rows.nd rfl (Or.inl rfl)) (pgs_cons (pg_name (i := 6) sc_strand_rows.nd rfl (Or.inl rfl)) pgs_nil)))) (pss_one (ps_expr (pe_bm PySem.F.plainAttrs_list PySem.F.slot_list_append PySem.F.type_list_append mt_append (pe_dsetT (hu_of hr) (pv 3) (pv 5) (pe_lst pa_nil) ⟨rfl, rfl, rfl, rfl⟩) (pa_cons (pe_tup (pa_cons (pv 6) (pa_cons (pv 4) pa_nil))) pa_nil)))))) (pss_one (ps_ret (pv 3)))))), ?_⟩
  obtain ⟨G, x, sb, ⟨v, v2, e, hv, hv2⟩, hp, q⟩ := hsp
  subst e
  obtain ⟨os, N⟩ := x
  obtain ⟨h0, h1, h2⟩ := hp
  dsimp only at hv hv2 h0 h1 h2
  refine s_set (W := ⟨G, H⟩) (A := K53.rI) (x := (lastStep os N : Int)) sb (e_if (b := decide (N > 0)) (t_test (e_gt (e_var hv2 rfl) e_int)) (fun z => e_is (e_lenT (e_var hv rfl)) (by unfold lastStep; rw [if_pos (of_decide_eq_true z)])) (fun z => e_is e_int (by unfold lastStep; rw [if_neg (of_decide_eq_false z)]; rfl))) fun va W1 l1 ha => ?_
  have hls : lastStep os N ≤ os.length := by unfold lastStep; split <;> omega
  refine s_newDict (A := rPr) (W0 := ⟨G, H⟩) (W := W1) l1 fun p hp m => ?_
  refine s_for (xs := rangeI 0 (lastStep os N : Int)) (W := ⟨W1.G, upd W1.H p (.dT [])⟩) (A := K53.rI) (fun i σ W => (∃ u1 u2 u3, σ = [some v, some v2, some va, some (.ref p), u1, u2, u3]) ∧ Same G W.G ∧ Mr rPr ⟨G, H⟩ W (rowsTo os (lastOf os) i) p) m.l.s (ig_rng1 (e_var ha rfl) (by omega)) (fun W2 l2 => ⟨⟨none, none, none, rfl⟩, l1.g.trans l2.g, m.le l2⟩) ?_ ?_
  · rintro i x vb σ' W' W4 hi ⟨⟨u1, u2, u3, rfl⟩, gW, m'⟩ s' l4 hb
    obtain ⟨rfl, hlt⟩ := rangeI_get hi
    have hlt : i < os.length := by omega
    have g4 := gW.trans l4.g
    have hget : os[i]? = some (os.getD i (0, 0)) := by simp [List.getD, hlt]
    have hlast : os[os.length - 1]? = some (lastOf os) := by unfold lastOf; simp [List.getD, show os.length - 1 < os.length by omega]
    have hlen := rowsTo_len os (lastOf os) i
    refine s_unp (W := W4) (A := rCell) (B := K53.rI) l4.s (e_call2 (e_ixT (k := i) (e_var (Mn.mn g4 hv) rfl) (e_var hb rfl) hget) (e_lastT (e_var (Mn.mn g4 hv) rfl) hlast) h2) fun a b W5 l5 h3 h4 => ?_
    refine s_rowAdd (W0 := ⟨G, H⟩) (W := W5) (A := rPr) ((m'.le l4).le l5) rfl (by omega) (fun x hx => by have := hlen.2 x hx; omega) (e_var h3 rfl) (e := ((footOf (os.getD i (0, 0)) (lastOf os)).2, (i : Int))) (fun W' g' => e_pair (e_var (Mn.mn g' h4) rfl) (e_var (Mn.mn (l5.g.trans g') hb) rfl)) fun W6 g6 s6 m6 => ?_
    refine ⟨W6.G, (l4.g.trans l5.g).trans g6, s6, ⟨_, _, _, rfl⟩, (g4.trans l5.g).trans g6, ?_⟩
    rw [addRowG_eq] at m6
    exact m6
  · rintro σ' W' s' ⟨⟨u1, u2, u3, rfl⟩, gW, m'⟩
    have e : (rangeI 0 (lastStep os N : Int)).length = lastStep os N := by simp [rangeI]
    rw [e] at m'
    obtain ⟨G', sm, ld, hd⟩ := m'.done
    exact ⟨_, rfl, q _ ⟨G', W'.H⟩ ld hd⟩
abbrev s_TrailD_initD : Stmt := (inClass (top 42) 0)
abbrev N_TrailD_initD : List Str := ["self", "cell", "word", "times"]
theorem sc_TrailD_initD : FnScope N_TrailD_initD ["self", "cell", "word", "times"] (defScope s_TrailD_initD) := ⟨rfl, rfl, rfl, by decide +kernel, rfl, by decide +kernel, by decide +kernel⟩
theorem c_Trail (B : Bu mg) (D : Di K mg c.Trail "Trail" "Trail.__init__" s_TrailD_initD []) (hc : Cls K c.Trail) (n1 : NoAttr K c.Trail "told_cell") (n2 : NoAttr K c.Trail "told_times") (n3 : NoAttr K c.Trail "told_offsets") (n4 : NoAttr K c.Trail "told_shift") (n5 : NoAttr K c.Trail "all_rows")
    (G_is_cell : Q_is_cell P w K mg base c) (G_is_word : Q_is_word P w K mg base c) (G_is_count : Q_is_count P w K mg base c) (G_offsets_of : Q_offsets_of P w K mg base c) (G_strand_rows : Q_strand_rows P w K mg base c) : Q_TrailD_initD P w K mg base c := by
  refine D.mak sc_TrailD_initD (fun _ _ _ _ _ _ us hl => match us, hl with | [_, _, _, _], _ => rfl) (pri_len in3_len) fun f cdv A outer s H vs Q E hr hsp => ⟨_, PSs.nox (pss_cons (ps_if (pt_not (pt_val (pe_cal G_is_cell hr (by decide) (by rfl) (pa_cons (pv 1) pa_nil)))) (pss_one ps_never) pss_nil) (pss_cons (ps_if (pt_not (pt_val (pe_cal G_is_word hr (by decide) (by rfl) (pa_cons (pv 2) pa_nil)))) (pss_one ps_never) pss_nil) (pss_cons (ps_if (pt_not (pt_val (pe_cal G_is_count hr (by decide) (by rfl) (pa_cons (pv 3) pa_nil)))) (pss_one ps_never) pss_nil) (pss_cons (ps_fld (pv 0) (pv 1) rfl) (pss_cons (ps_fld (pv 0) (pv 3) rfl) (pss_cons (ps_fld (pv 0) (pe_cal G_offsets_of hr (by decide) (by rfl) (pa_cons (pv 2) pa_nil)) rfl) (pss_cons (ps_fld (pv 0) (pe_ix (ix_tupK (K := K) rfl) (pe_fldK (K := K) rfl (pv 0) rfl) (pe_un un_neg pe_int) (fun _ _ => rfl)) rfl) (pss_one (ps_fld (pv 0) (pe_cal G_strand_rows hr (by decide) (by rfl) (pa_cons (pe_fldK (K := K) rfl (pv 0) rfl) (pa_cons (pv 3) pa_nil))) rfl))))))))), ?_⟩
  obtain ⟨W0, G, a, dx, ws, ⟨cell, wd, N⟩, e, m, ⟨v, v2, v3, e2, hv, hv2, hv3⟩, ⟨hw, hN⟩, q⟩ := hsp
  subst e2
  subst e
  dsimp only at hv hv2 hv3 hw hN
  have hwl := hw.2.1
  refine s_if (W := ⟨G, H⟩) (b := false) m.l.s (t_is (t_not (t_B (e_call1 (e_var (ov_of_cell hv) rfl) (by show 2 ≤ 100; decide)))) rfl) (fun z => by cases z) fun _ W1 l1 => ?_
  refine s_if (W := W1) (b := false) l1.s (t_is (t_not (t_B (e_call1 (e_var (Mn.mn l1.g hv2) rfl) hw))) rfl) (fun z => by cases z) fun _ W2 l2 => ?_
  have g2 := l1.g.trans l2.g
  refine s_if (W := W2) (b := false) l2.s (t_is (t_not (t_B (e_call1 (e_var (Mn.mn g2 hv3) rfl) trivial))) (by simp; exact hN)) (fun z => by cases z) fun _ W3 l3 => ?_
  have g3 := g2.trans l3.g
  refine s_fld (W := W3) (B := rCell) (y := cell) (((m.le l1).le l2).le l3) rfl hc n1 (by decide) (e_var (Mn.mn g3 hv) rfl) fun W4 w1 l4 h1 m4 => ?_
  have g4 := g3.trans l4.g
  refine s_fld (W := ⟨W4.G, upd W4.H a _⟩) (B := K53.rI) (y := N) m4 rfl hc n2 (lt_putF (n := 999) (by decide)) (e_var (Mn.mn g4 hv3) rfl) fun W5 w2 l5 h2 m5 => ?_
  have g5 := g4.trans l5.g
  refine s_fld (W := ⟨W5.G, upd W5.H a _⟩) (B := rT rCell) (y := offs wd) m5 rfl hc n3 (lt_putF (lt_putF (n := 998) (by decide))) (e_call1 (e_var (Mn.mn g5 hv2) rfl) hw) fun W6 w3 l6 h3 m6 => ?_
  have g6 := g5.trans l6.g
  have hol : (offs wd).length = wd.length + 1 := pathFrom_len _ _
  have hsm : Sm (lastOf (offs wd)) := by
    rw [last_path]
    have := near_goal wd (0, 0) 0 ⟨by decide, by decide, by decide, by decide⟩
    obtain ⟨a1, a2, a3, a4⟩ := this
    exact ⟨by omega, by omega, by omega, by omega⟩
  have hlast : (offs wd)[(offs wd).length - 1]? = some (lastOf (offs wd)) := by unfold lastOf; simp [List.getD, show (offs wd).length - 1 < (offs wd).length by omega]
  refine s_fld (W := ⟨W6.G, upd W6.H a _⟩) (B := rCell) (y := lastOf (offs wd)) m6 rfl hc n4 (lt_putF (lt_putF (lt_putF (n := 997) (by decide)))) (e_lastT (e_fldI (A := rT rCell) (x := offs wd) m6 rfl hc n3 rfl h3) hlast) fun W7 w4 l7 h4 m7 => ?_
  have g7 := g6.trans l7.g
  dsimp only
  refine s_fld (W := ⟨W7.G, upd W7.H a _⟩) (B := rRows) (y := rowsOf (offs wd) N) m7 rfl hc n5 (lt_putF (lt_putF (lt_putF (lt_putF (n := 996) (by decide))))) ?_ fun W8 w5 l8 h5 m8 => ?_
  · exact e_call2 (e_fldI (A := rT rCell) (x := offs wd) m7 rfl hc n3 rfl (Mn.mn l7.g h3)) (e_var (Mn.mn g7 hv3) rfl) (show 0 < (offs wd).length ∧ (offs wd).length ≤ 100 ∧ Sm (lastOf (offs wd)) from ⟨by omega, by omega, hsm⟩)
  exact q ⟨W8.G, upd W8.H a _⟩ _ m8 ⟨w1, w2, w3, w4, w5, rfl, Mn.mn (((l5.g.trans l6.g).trans l7.g).trans l8.g) h1, Mn.mn ((l6.g.trans l7.g).trans l8.g) h2, Mn.mn (l7.g.trans l8.g) h3, Mn.mn l8.g h4, h5⟩
end
end K53
end

/-! K53D8 -/
section
/-! The defs of the program: what a trail tells. -/
namespace K53
open PySem PySem.Spec PyProof.Rows L2
structure Tok (t : Tr) : Prop where
  w : Lets t.w
  N : 0 ≤ t.N
abbrev Tr.os (t : Tr) : List Cell := offs t.w
abbrev Tr.v (t : Tr) : Cell := lastOf (offs t.w)
abbrev Tr.rows (t : Tr) : Rows := rowsOf (offs t.w) t.N
def Tr.rounds (t : Tr) : List Int := (rangeI 0 ((t.w.length : Int) + 1)).map (rnd t.N)
def Tr.row (t : Tr) (f : Cell) : List Pr := (rowAt t.rows f).getD []
/-- a foot of the trail -/
def Foot (t : Tr) (f : Cell) : Prop := (f, t.row f) ∈ t.rows
def cellOf : Ov → Cell
  | .tup [.i a, .i b] => (a, b)
  | _ => (0, 0)
theorem cell_of_ov {G : Hp} {o : Ov} {v : V} (h : rOv G o v) (hc : o.isC = true) : rCell G (cellOf o) v := by
  cases o with
  | tup xs =>
    simp only [Ov.isC, Bool.and_eq_true, decide_eq_true_eq] at hc
    obtain ⟨h1, h2⟩ := hc
    match xs, h1, h2, h with
    | [.i a, .i b], _, _, ⟨t, vs, e, g, ps⟩ =>
      cases ps with
      | cons p1 ps =>
        cases ps with
        | cons p2 ps =>
          cases ps
          exact ⟨t, _, _, e, g, p1, p2⟩
    | [.b a, _], _, h2, _ => simp [Pt.isI] at h2
    | [.i a, .b b], _, h2, _ => simp [Pt.isI] at h2
  | _ => cases hc
theorem lets_sm {t : Tr} (h : Lets t.w) : Sm t.v := by
  have hwl := h.2.1
  show Sm (lastOf (offs t.w))
  rw [last_path]
  have := near_goal t.w (0, 0) 0 ⟨by decide, by decide, by decide, by decide⟩
  obtain ⟨a1, a2, a3, a4⟩ := this
  exact ⟨by omega, by omega, by omega, by omega⟩
theorem tr_nd (t : Tr) : (t.rows.map (·.1)).Nodup := (rows_ok _ _ _).nd
theorem foot_of_mem {t : Tr} {f : Cell} (h : f ∈ t.rows.map (·.1)) : Foot t f := by
  obtain ⟨⟨g, row⟩, h1, rfl⟩ := List.mem_map.mp h
  unfold Foot Tr.row
  rw [rowAt_of (tr_nd t) h1]
  exact h1
theorem foot_look {t : Tr} {f : Cell} (h : Foot t f) : lookC t.rows f = some (t.row f) := rowAt_of (tr_nd t) h
theorem foot_ne {t : Tr} {f : Cell} (h : Foot t f) : t.row f ≠ [] := (rows_ok _ _ _).ne _ _ h
theorem foot_steps {t : Tr} {f : Cell} (h : Foot t f) : ∀ e ∈ t.row f, (0 ≤ e.2 ∧ e.2 < (t.w.length : Int) + 1) ∧ (e.2 = 0 ∨ 0 < t.N) := fun e he => by
  obtain ⟨⟨h1, h2⟩, h3⟩ := rows_steps h e he
  refine ⟨⟨h1, ?_⟩, h3⟩
  have : lastStep (offs t.w) t.N ≤ t.w.length + 1 := by
    unfold lastStep
    have : (offs t.w).length = t.w.length + 1 := pathFrom_len _ _
    split <;> omega
  omega
theorem foot_small {t : Tr} (ht : Lets t.w) {f : Cell} (h : Foot t f) : (t.row f).length ≤ 100 := by
  have h1 := (rowsTo_len (offs t.w) (lastOf (offs t.w)) (lastStep (offs t.w) t.N)).2 _ h
  have : lastStep (offs t.w) t.N ≤ t.w.length + 1 := by
    unfold lastStep
    have : (offs t.w).length = t.w.length + 1 := pathFrom_len _ _
    split <;> omega
  have h3 := ht.2.1
  have h1 : (t.row f).length ≤ lastStep (offs t.w) t.N := h1
  omega
theorem rows_small {t : Tr} (ht : Lets t.w) : t.rows.length ≤ 100 := by
  have h1 := (rowsTo_len (offs t.w) (lastOf (offs t.w)) (lastStep (offs t.w) t.N)).1
  have : lastStep (offs t.w) t.N ≤ t.w.length + 1 := by
    unfold lastStep
    have : (offs t.w).length = t.w.length + 1 := pathFrom_len _ _
    split <;> omega
  have h3 := ht.2.1
  show (rowsTo _ _ _).length ≤ _
  omega
theorem rounds_get {t : Tr} {k : Int} (h : 0 ≤ k ∧ k < (t.w.length : Int) + 1) : t.rounds[k.toNat]? = some (rnd t.N k) := by
  unfold Tr.rounds rangeI
  rw [List.map_map, List.getElem?_map, List.getElem?_range (by omega)]
  simp only [Option.map_some, Function.comp]
  congr 2
  omega
theorem rnd_pos {N k : Int} (h : k = 0 ∨ 0 < N) : 0 < rnd N k := by
  unfold rnd
  split
  · decide
  · rcases h with h | h
    · contradiction
    · exact h
theorem foot_full {t : Tr} {f : Cell} (h : Foot t f) : Full (rowPairs t.v t.N (t.row f)) := rowPairs_full fun e he => (foot_steps h e he).2
theorem rowPairs_len (v : Cell) (N : Int) (row : List Pr) : (rowPairs v N row).length = row.length := by unfold rowPairs; split <;> simp
abbrev Q_Trail_last_moment (P : Program) (w : World) (K : PySem.W.Frag) (mg : Str → Option Value) (base : Heap) (c : Ca) : Prop := Met P w K mg base 1 c.Trail "last_moment" (Prm (In1 (rTrail c)) Tok K53.rI (fun t => (t.w.length : Int) * t.N)) []
abbrev Q_Trail_rounds_up_to (P : Program) (w : World) (K : PySem.W.Frag) (mg : Str → Option Value) (base : Heap) (c : Ca) : Prop := Met P w K mg base 1 c.Trail "rounds_up_to" (Prm (In2 (rTrail c) K53.rI) (fun x => Tok x.1 ∧ x.2 = (x.1.w.length : Int) * x.1.N) (rL K53.rI) (fun x => x.1.rounds)) []
abbrev Q_Trail_pairs_of (P : Program) (w : World) (K : PySem.W.Frag) (mg : Str → Option Value) (base : Heap) (c : Ca) : Prop := Met P w K mg base 1 c.Trail "pairs_of" (Prm (In3 (rTrail c) rCell (rL K53.rI)) (fun x => Tok x.1 ∧ Foot x.1 x.2.1 ∧ x.2.2 = x.1.rounds) (rL rPr) (fun x => rowPairs x.1.v x.1.N (x.1.row x.2.1))) []
abbrev Q_Trail_spread_of (P : Program) (w : World) (K : PySem.W.Frag) (mg : Str → Option Value) (base : Heap) (c : Ca) : Prop := Met P w K mg base 6 c.Trail "spread_of" (Prm (In3 (rTrail c) rCell (rL K53.rI)) (fun x => Tok x.1 ∧ Foot x.1 x.2.1 ∧ x.2.2 = x.1.rounds) (rSpread c) (fun x => told (rowPairs x.1.v x.1.N (x.1.row x.2.1)))) []
abbrev Q_Trail_first_of (P : Program) (w : World) (K : PySem.W.Frag) (mg : Str → Option Value) (base : Heap) (c : Ca) : Prop := Met P w K mg base 1 c.Trail "first_of" (Prm (In2 (rTrail c) rCell) (fun x => Tok x.1 ∧ Foot x.1 x.2) rCell (fun x => firstOf x.1.cell x.1.v x.2 (x.1.row x.2))) []
abbrev Q_Trail_all_strands (P : Program) (w : World) (K : PySem.W.Frag) (mg : Str → Option Value) (base : Heap) (c : Ca) : Prop := Met P w K mg base 7 c.Trail "all_strands" (Prm (In1 (rTrail c)) Tok (rL (rP rCell (rSpread c))) (fun t => strandsP t.cell t.os t.N)) []
abbrev Q_Trail_fresh_up_to (P : Program) (w : World) (K : PySem.W.Frag) (mg : Str → Option Value) (base : Heap) (c : Ca) : Prop := Met P w K mg base 7 c.Trail "fresh_up_to" (Prm (In2 (rTrail c) K53.rI) (fun x => Tok x.1 ∧ x.2 = (x.1.w.length : Int) * x.1.N) K53.rI (fun x => manyOf (strandsP x.1.cell x.1.os x.1.N))) []
abbrev Q_Trail_many_cells (P : Program) (w : World) (K : PySem.W.Frag) (mg : Str → Option Value) (base : Heap) (c : Ca) : Prop := Met P w K mg base 8 c.Trail "many_cells" (Prm (In1 (rTrail c)) Tok K53.rI (fun t => manyOf (strandsP t.cell t.os t.N))) []
abbrev Q_visits_at (P : Program) (w : World) (K : PySem.W.Frag) (mg : Str → Option Value) (base : Heap) (c : Ca) : Prop := Cal P w K mg base 3 "visits_at" (Prm (In2 (rTrail c) rCell) (fun x => Tok x.1) K53.rI (fun x => visits x.1.cell x.1.os x.1.N x.2)) []
abbrev Q_TrailD_containsD (P : Program) (w : World) (K : PySem.W.Frag) (mg : Str → Option Value) (base : Heap) (c : Ca) : Prop := Met P w K mg base 4 c.Trail "__contains__" (Prm (In2 (rTrail c) rOv) (fun x => Tok x.1 ∧ (match x.2 with | .tup xs => xs.length ≤ 100 | _ => True)) rB (fun x => x.2.isC && decide (0 < visits x.1.cell x.1.os x.1.N (cellOf x.2)))) []
section
variable {P : Program} {w : World} {K : PySem.W.Frag} {mg : Str → Option Value} {base : Heap} {c : Ca} {σ : L2.St} {W : Wd} {te : TE} {t : Tr}
theorem e_tCell (h : Ev te σ W (rTrail c) t) (hc : Cls K c.Trail) (n : NoAttr K c.Trail "told_cell") : Ev (tFld K te "told_cell") σ W rCell t.cell := e_fld h hc n fun G fs ⟨v1, v2, v3, v4, v5, e, h1, h2, h3, h4, h5⟩ => ⟨v1, by rw [e]; rfl, h1⟩
theorem e_tTimes (h : Ev te σ W (rTrail c) t) (hc : Cls K c.Trail) (n : NoAttr K c.Trail "told_times") : Ev (tFld K te "told_times") σ W K53.rI t.N := e_fld h hc n fun G fs ⟨v1, v2, v3, v4, v5, e, h1, h2, h3, h4, h5⟩ => ⟨v2, by rw [e]; rfl, h2⟩
theorem e_tOffs (h : Ev te σ W (rTrail c) t) (hc : Cls K c.Trail) (n : NoAttr K c.Trail "told_offsets") : Ev (tFld K te "told_offsets") σ W (rT rCell) t.os := e_fld h hc n fun G fs ⟨v1, v2, v3, v4, v5, e, h1, h2, h3, h4, h5⟩ => ⟨v3, by rw [e]; rfl, h3⟩
theorem e_tShift (h : Ev te σ W (rTrail c) t) (hc : Cls K c.Trail) (n : NoAttr K c.Trail "told_shift") : Ev (tFld K te "told_shift") σ W rCell t.v := e_fld h hc n fun G fs ⟨v1, v2, v3, v4, v5, e, h1, h2, h3, h4, h5⟩ => ⟨v4, by rw [e]; rfl, h4⟩
theorem e_tRows (h : Ev te σ W (rTrail c) t) (hc : Cls K c.Trail) (n : NoAttr K c.Trail "all_rows") : Ev (tFld K te "all_rows") σ W rRows t.rows := e_fld h hc n fun G fs ⟨v1, v2, v3, v4, v5, e, h1, h2, h3, h4, h5⟩ => ⟨v5, by rw [e]; rfl, h5⟩
theorem tr_no {m : Str} (hm : m ≠ "told_cell" ∧ m ≠ "told_times" ∧ m ≠ "told_offsets" ∧ m ≠ "told_shift" ∧ m ≠ "all_rows") (G : Hp) (fs : List (Str × V)) (h : FTrail G t fs) : fs.lookup m = none := by
  obtain ⟨v1, v2, v3, v4, v5, e, _⟩ := h
  obtain ⟨m1, m2, m3, m4, m5⟩ := hm
  rw [e]
  simp [List.lookup, beq_eq_false_iff_ne.mpr m1, beq_eq_false_iff_ne.mpr m2, beq_eq_false_iff_ne.mpr m3, beq_eq_false_iff_ne.mpr m4, beq_eq_false_iff_ne.mpr m5]
theorem sp_no {m : Str} (hm : m ≠ "own_pairs") {ps : List Pr} (G : Hp) (fs : List (Str × V)) (h : FSpread G ps fs) : fs.lookup m = none := by
  obtain ⟨v1, e, _⟩ := h
  rw [e]
  simp [List.lookup, beq_eq_false_iff_ne.mpr hm]
theorem osl (t : Tr) : t.os.length = t.w.length + 1 := pathFrom_len _ _
abbrev s_Trail_last_moment : Stmt := (inClass (top 42) 1)
abbrev N_Trail_last_moment : List Str := ["self"]
theorem sc_Trail_last_moment : FnScope N_Trail_last_moment ["self"] (defScope s_Trail_last_moment) := ⟨rfl, rfl, rfl, by decide +kernel, rfl, by decide +kernel, by decide +kernel⟩
theorem c_Trail_last_moment (B : Bu mg) (D : Dm K c.Trail "last_moment" "Trail.last_moment" s_Trail_last_moment []) (hcT : Cls K c.Trail) (n1 : NoAttr K c.Trail "told_cell") (n2 : NoAttr K c.Trail "told_times") (n3 : NoAttr K c.Trail "told_offsets") (n4 : NoAttr K c.Trail "told_shift") (n5 : NoAttr K c.Trail "all_rows") : Q_Trail_last_moment P w K mg base c := by
  refine D.met sc_Trail_last_moment (fun _ _ _ _ _ _ us hl => match us, hl with | [_], _ => rfl) pr_len1 fun f cdv A outer s H vs Q E hr hsp => ⟨_, PSs.nox (pss_one (ps_ret (pe_op op_mul (pe_op op_sub (pe_callB call_len_seq (by rfl) B.len_ (by decide +kernel) (pa_cons (pe_fldK (K := K) rfl (pv 0) rfl) pa_nil)) pe_int) (pe_fldK (K := K) rfl (pv 0) rfl)))), ?_⟩
  obtain ⟨G, x, sb, ⟨v, e, hv⟩, hp, q⟩ := hsp
  subst e
  have := hp.w.2.1
  exact s_ret (W := ⟨G, H⟩) (A := K53.rI) (x := (x.w.length : Int) * x.N) sb (e_is (e_mul (e_sub' (e_lenT (e_tOffs (e_var hv rfl) hcT n3)) e_int) (e_tTimes (e_var hv rfl) hcT n2) (.inl ⟨by rw [osl]; omega, by rw [osl]; omega⟩)) (by rw [osl]; congr 1; omega)) q
theorem tok_ne {t : Tr} (h : Tok t) : 0 < t.w.length ∧ t.w.length ≤ 24 := ⟨List.length_pos_iff.mpr h.w.1, h.w.2.1⟩
abbrev s_Trail_rounds_up_to : Stmt := (inClass (top 42) 2)
abbrev N_Trail_rounds_up_to : List Str := ["self", "moment", "letters", "whole", "rest", "step"]
theorem sc_Trail_rounds_up_to : FnScope N_Trail_rounds_up_to ["self", "moment"] (defScope s_Trail_rounds_up_to) := ⟨rfl, rfl, rfl, by decide +kernel, rfl, by decide +kernel, by decide +kernel⟩
theorem c_Trail_rounds_up_to (B : Bu mg) (D : Dm K c.Trail "rounds_up_to" "Trail.rounds_up_to" s_Trail_rounds_up_to []) (hcT : Cls K c.Trail) (n1 : NoAttr K c.Trail "told_cell") (n2 : NoAttr K c.Trail "told_times") (n3 : NoAttr K c.Trail "told_offsets") (n4 : NoAttr K c.Trail "told_shift") (n5 : NoAttr K c.Trail "all_rows") : Q_Trail_rounds_up_to P w K mg base c := by
  refine D.met sc_Trail_rounds_up_to (fun _ _ _ _ _ _ us hl => match us, hl with | [_, _], _ => rfl) pr_len2 fun f cdv A outer s H vs Q E hr hsp => ⟨_, PSs.nox (pss_cons (ps_set (i := 2) sc_Trail_rounds_up_to.nd rfl (Or.inl rfl) (pe_op op_sub (pe_callB call_len_seq (by rfl) B.len_ (by decide +kernel) (pa_cons (pe_fldK (K := K) rfl (pv 0) rfl) pa_nil)) pe_int)) (pss_cons (ps_asg (pe_tup (pa_cons (pe_op op_fdivN (pe_callTy call_int1 (by rfl) B.int_ (by decide +kernel) (pa_cons (pv 1) pa_nil)) (pv 2)) (pa_cons (pe_op op_modN (pe_callTy call_int1 (by rfl) B.int_ (by decide +kernel) (pa_cons (pv 1) pa_nil)) (pv 2)) pa_nil))) (pg_tupK (K := K) (n := 2) rfl rfl (pgs_cons (pg_name (i := 3) sc_Trail_rounds_up_to.nd rfl (Or.inr rfl)) (pgs_cons (pg_name (i := 4) sc_Trail_rounds_up_to.nd rfl (Or.inr rfl)) pgs_nil)))) (pss_one (ps_ret (pe_op op_cat (pe_lst (pa_cons pe_int pa_nil)) (pe_lc (own := [("step", 5)]) rfl sc_Trail_rounds_up_to.nd (pi_range2 (by rfl) B.range_ (pa_cons pe_int (pa_cons (pe_op op_add (pv 2) pe_int) pa_nil))) (blkOk_by (N := N_Trail_rounds_up_to) (sc := defScope s_Trail_rounds_up_to) (by decide +kernel)) (fun _ _ _ _ _ => (pg_name (i := 5) sc_Trail_rounds_up_to.nd rfl (Or.inl rfl))) (fun _ _ _ _ _ => pts_nil) (fun _ _ _ _ _ => (pe_op op_add (pv 3) (pe_callTy call_int1 (by rfl) B.int_ (by decide +kernel) (pa_cons (pe_cmpR op_le (pv 5) (pv 4) (nomark _)) pa_nil)))))))))), ?_⟩
  obtain ⟨G, x, sb, ⟨v, v2, e, hv, hv2⟩, hp, q⟩ := hsp
  subst e
  obtain ⟨t, m⟩ := x
  obtain ⟨ht, hm⟩ := hp
  dsimp only at hv hv2 ht hm
  have hn := tok_ne ht
  have hfd : m.fdiv (t.w.length : Int) = t.N := by rw [hm, Int.fdiv_eq_ediv_of_nonneg _ (by omega)]; exact Int.mul_ediv_cancel_left _ (by omega)
  have hfm : m.fmod (t.w.length : Int) = 0 := by rw [hm]; simp [Int.mul_fmod_right]
  refine s_set (W := ⟨G, H⟩) (A := K53.rI) (x := (t.w.length : Int)) sb (e_is (e_sub' (e_lenT (e_tOffs (e_var hv rfl) hcT n3)) e_int) (by rw [osl]; omega)) fun va W1 l1 ha => ?_
  have v2' := Mn.mn l1.g hv2
  refine s_unp (W := W1) (A := K53.rI) (B := K53.rI) (p := (t.N, 0)) l1.s (e_is (e_pair (e_fdiv (e_intI (e_var v2' rfl)) (e_var ha rfl) ⟨by omega, by omega⟩) (e_fmod (e_intI (e_var v2' rfl)) (e_var ha rfl) (by omega))) (by rw [hfd, hfm])) fun b1 b2 W2 l2 h1 h2 => ?_
  dsimp only at h1 h2
  refine s_ret (W := W2) (A := rL K53.rI) (x := [1] ++ (rangeI 1 ((t.w.length : Int) + 1)).map fun _ => t.N) l2.s (e_cat (e_lst (ea_cons e_int ea_nil) (by decide)) ?_ (by simp [rangeI] <;> omega)) fun v W'' l3 h => q v W'' ((l1.trans l2).trans l3) ?_
  · refine e_lcn1 (A := K53.rI) (fun _ => t.N) (ig_rng2 e_int (e_add (e_var (Mn.mn l2.g ha) rfl) e_int) ⟨by omega, by omega, by omega, by omega⟩).w (by simp [rangeI] <;> omega) fun x vx W3 hx l3 hx3 => ?_
    have hx1 := (mem_rangeI.mp hx).1
    refine e_is (e_add (e_var (Mn.mn l3.g h1) rfl) (e_intB (e_le (e_var hx3 rfl) (e_var (Mn.mn l3.g h2) rfl)))) ?_
    rw [decide_eq_false (by omega)]
    exact Int.add_zero _
  · have e : [1] ++ (rangeI 1 ((t.w.length : Int) + 1)).map (fun _ => t.N) = t.rounds := by
      unfold Tr.rounds rangeI
      have e1 : ((t.w.length : Int) + 1 - 0).toNat = t.w.length + 1 := by omega
      have e2 : ((t.w.length : Int) + 1 - 1).toNat = t.w.length := by omega
      rw [e1, e2, List.range_succ_eq_map]
      simp only [List.map_cons, List.map_map, List.singleton_append]
      congr 1
    rw [e] at h
    exact h
theorem rounds_len (t : Tr) : t.rounds.length = t.w.length + 1 := by unfold Tr.rounds rangeI; simp <;> omega
abbrev s_Trail_pairs_of : Stmt := (inClass (top 42) 3)
abbrev N_Trail_pairs_of : List Str := ["self", "foot", "rounds", "row", "least", "multiple", "step"]
theorem sc_Trail_pairs_of : FnScope N_Trail_pairs_of ["self", "foot", "rounds"] (defScope s_Trail_pairs_of) := ⟨rfl, rfl, rfl, by decide +kernel, rfl, by decide +kernel, by decide +kernel⟩
theorem c_Trail_pairs_of (B : Bu mg) (D : Dm K c.Trail "pairs_of" "Trail.pairs_of" s_Trail_pairs_of []) (hcT : Cls K c.Trail) (n1 : NoAttr K c.Trail "told_cell") (n2 : NoAttr K c.Trail "told_times") (n3 : NoAttr K c.Trail "told_offsets") (n4 : NoAttr K c.Trail "told_shift") (n5 : NoAttr K c.Trail "all_rows") : Q_Trail_pairs_of P w K mg base c := by
  refine D.met sc_Trail_pairs_of (fun _ _ _ _ _ _ us hl => match us, hl with | [_, _, _], _ => rfl) pr_len3 fun f cdv A outer s H vs Q E hr hsp => ⟨_, PSs.nox (pss_cons (ps_set (i := 3) sc_Trail_pairs_of.nd rfl (Or.inl rfl) (pe_dget (hu_of hr) (pe_fldK (K := K) rfl (pv 0) rfl) (pv 1) (fun _ _ => rfl))) (pss_cons (ps_set (i := 4) sc_Trail_pairs_of.nd rfl (Or.inr rfl) (pe_callB (cr_min rfl) (by rfl) B.min_ (by decide +kernel) (pa_cons (pe_lc (own := [("multiple", 5), ("step", 6)]) rfl sc_Trail_pairs_of.nd (pi_list (pv 3)) (blkOk_by (N := N_Trail_pairs_of) (sc := defScope s_Trail_pairs_of) (by decide +kernel)) (fun _ _ _ _ _ => (pg_tupK (K := K) (n := 2) rfl rfl (pgs_cons (pg_name (i := 5) sc_Trail_pairs_of.nd rfl (Or.inl rfl)) (pgs_cons (pg_name (i := 6) sc_Trail_pairs_of.nd rfl (Or.inl rfl)) pgs_nil)))) (fun _ _ _ _ _ => pts_nil) (fun _ _ _ _ _ => (pe_callTy call_int1 (by rfl) B.int_ (by decide +kernel) (pa_cons (pv 5) pa_nil)))) pa_nil))) (pss_cons (ps_if (pt_cmpR (op_eqDK (K := K) rfl hr.units) (pe_fldK (K := K) rfl (pv 0) rfl) (pe_tup (pa_cons pe_int (pa_cons pe_int pa_nil))) (nomark _)) (pss_one (ps_ret (pe_lc (own := [("multiple", 5), ("step", 6)]) rfl sc_Trail_pairs_of.nd (pi_list (pv 3)) (blkOk_by (N := N_Trail_pairs_of) (sc := defScope s_Trail_pairs_of) (by decide +kernel)) (fun _ _ _ _ _ => (pg_tupK (K := K) (n := 2) rfl rfl (pgs_cons (pg_name (i := 5) sc_Trail_pairs_of.nd rfl (Or.inl rfl)) (pgs_cons (pg_name (i := 6) sc_Trail_pairs_of.nd rfl (Or.inl rfl)) pgs_nil)))) (fun _ _ _ _ _ => (pts_one (pt_cmpR op_gt (pe_ix (ix_listK (K := K) rfl) (pv 2) (pv 6) (fun _ _ => rfl)) pe_int (nomark _)))) (fun _ _ _ _ _ => (pe_tup (pa_cons pe_int (pa_cons pe_int pa_nil))))))) pss_nil) (pss_one (ps_ret (pe_lc (own := [("multiple", 5), ("step", 6)]) rfl sc_Trail_pairs_of.nd (pi_list (pv 3)) (blkOk_by (N := N_Trail_pairs_of) (sc := defScope s_Trail_pairs_of) (by decide +kernel)) (fun _ _ _ _ _ => (pg_tupK (K := K) (n := 2) rfl rfl (pgs_cons (pg_name (i := 5) sc_Trail_pairs_of.nd rfl (Or.inl rfl)) (pgs_cons (pg_name (i := 6) sc_Trail_pairs_of.nd rfl (Or.inl rfl)) pgs_nil)))) (fun _ _ _ _ _ => (pts_one (pt_cmpR op_gt (pe_ix (ix_listK (K := K) rfl) (pv 2) (pv 6) (fun _ _ => rfl)) pe_int (nomark _)))) (fun _ _ _ _ _ => (pe_tup (pa_cons (pe_op op_sub (pv 5) (pv 4)) (pa_cons (pe_op op_add (pe_op op_sub (pv 5) (pv 4)) (pe_ix (ix_listK (K := K) rfl) (pv 2) (pv 6) (fun _ _ => rfl))) pa_nil)))))))))), ?_⟩
  obtain ⟨G, x, sb, ⟨v, v2, v3, e, hv, hv2, hv3⟩, hp, q⟩ := hsp
  subst e
  obtain ⟨t, f', rs⟩ := x
  obtain ⟨ht, hf, hm⟩ := hp
  dsimp only at hv hv2 hv3 ht hf hm
  subst hm
  have hsm := foot_small ht.w hf
  have hst := foot_steps hf
  refine s_set (W := ⟨G, H⟩) (A := rL rPr) (x := t.row f') sb (e_dget (e_tRows (e_var hv rfl) hcT n5) (e_var hv2 rfl) (foot_look hf)) fun va W1 l1 ha => ?_
  dsimp only
  refine s_set (W := W1) (A := K53.rI) (x := least (t.row f')) l1.s ?_ fun vb W2 l2 hb => ?_
  · exact e_min (e_lcp1 (C := K53.rI) (D := K53.rI) (fun e : Pr => e.1) (ig_list (xs := t.row f') (e_var ha rfl)).w (by omega) fun y a b W1 hy l h1 h2 => e_intI (e_var h1 rfl)) (by simpa using foot_ne hf)
  have ha2 := Mn.mn l2.g ha
  have g2 := l1.g.trans l2.g
  have hr3 := Mn.mn g2 hv3
  have hall : (t.row f').filter (fun e => decide (0 < rnd t.N e.2)) = t.row f' := List.filter_eq_self.mpr fun e he => decide_eq_true (rnd_pos (hst e he).2)
  dsimp only
  refine s_if (W := W2) (b := decide (t.v = (0, 0))) l2.s (t_test (e_eqD (e_tShift (e_var (Mn.mn g2 hv) rfl) hcT n4) (e_pair e_int e_int) (by decide))) (fun z W3 l3 => ?_) (fun z W3 l3 => ?_)
  · have z : t.v = (0, 0) := of_decide_eq_true z
    dsimp only
    refine s_ret (W := W3) (A := rL rPr) (x := rowPairs t.v t.N (t.row f')) l3.s ?_ fun v W'' l4 h => q v W'' (((l1.trans l2).trans l3).trans l4) h
    refine e_is (e_lcp (C := K53.rI) (D := K53.rI) (fun e : Pr => decide (0 < rnd t.N e.2)) (fun _ => ((0, 1) : Pr)) (ig_list (xs := t.row f') (e_var (Mn.mn l3.g ha2) rfl)).w (by omega) fun y a b W4 hy l h1 h2 => ⟨t_test (e_gt (e_ixL (k := y.2.toNat) (e_var (Mn.mn (l3.g.trans l.g) hr3) rfl) (e_is (e_var h2 rfl) (by have := (hst y hy).1; omega)) (rounds_get (hst y hy).1)) e_int), fun _ => e_pair e_int e_int⟩) ?_
    rw [hall]
    unfold rowPairs
    rw [if_pos z]
  · have z : t.v ≠ (0, 0) := of_decide_eq_false z
    unfold tNext
    dsimp only
    refine s_ret (W := W3) (A := rL rPr) (x := rowPairs t.v t.N (t.row f')) l3.s ?_ fun v W'' l4 h => q v W'' (((l1.trans l2).trans l3).trans l4) h
    refine e_is (e_lcp (C := K53.rI) (D := K53.rI) (fun e : Pr => decide (0 < rnd t.N e.2)) (fun e => ((e.1 - least (t.row f'), e.1 - least (t.row f') + rnd t.N e.2) : Pr)) (ig_list (xs := t.row f') (e_var (Mn.mn l3.g ha2) rfl)).w (by omega) fun y a b W4 hy l h1 h2 => ⟨t_test (e_gt (e_ixL (k := y.2.toNat) (e_var (Mn.mn (l3.g.trans l.g) hr3) rfl) (e_is (e_var h2 rfl) (by have := (hst y hy).1; omega)) (rounds_get (hst y hy).1)) e_int), fun _ => ?_⟩) ?_
    · have hb4 := Mn.mn (l3.g.trans l.g) hb
      exact e_pair (e_sub' (e_var h1 rfl) (e_var hb4 rfl)) (e_add (e_sub' (e_var h1 rfl) (e_var hb4 rfl)) (e_ixL (k := y.2.toNat) (e_var (Mn.mn (l3.g.trans l.g) hr3) rfl) (e_is (e_var h2 rfl) (by have := (hst y hy).1; omega)) (rounds_get (hst y hy).1)))
    · rw [hall]
      unfold rowPairs
      rw [if_neg z]
abbrev s_Trail_spread_of : Stmt := (inClass (top 42) 4)
abbrev N_Trail_spread_of : List Str := ["self", "foot", "rounds", "low", "high"]
theorem sc_Trail_spread_of : FnScope N_Trail_spread_of ["self", "foot", "rounds"] (defScope s_Trail_spread_of) := ⟨rfl, rfl, rfl, by decide +kernel, rfl, by decide +kernel, by decide +kernel⟩
theorem c_Trail_spread_of (B : Bu mg) (D : Dm K c.Trail "spread_of" "Trail.spread_of" s_Trail_spread_of []) (G_Spread : Q_SpreadD_initD P w K mg base c) (M_Trail_pairs_of : Q_Trail_pairs_of P w K mg base c) (G_Stretch : Q_StretchD_initD P w K mg base c) : Q_Trail_spread_of P w K mg base c := by
  refine D.met sc_Trail_spread_of (fun _ _ _ _ _ _ us hl => match us, hl with | [_, _, _], _ => rfl) pr_len3 fun f cdv A outer s H vs Q E hr hsp => ⟨_, PSs.nox (pss_one (ps_ret (pe_mkr G_Spread hr (by decide) (by rfl) (pa_cons (pe_lc (own := [("low", 3), ("high", 4)]) rfl sc_Trail_spread_of.nd (pi_list (pe_mtd M_Trail_pairs_of hr (by decide) (pv 0) (pa_cons (pv 1) (pa_cons (pv 2) pa_nil)))) (blkOk_by (N := N_Trail_spread_of) (sc := defScope s_Trail_spread_of) (by decide +kernel)) (fun _ _ _ _ _ => (pg_tupK (K := K) (n := 2) rfl rfl (pgs_cons (pg_name (i := 3) sc_Trail_spread_of.nd rfl (Or.inl rfl)) (pgs_cons (pg_name (i := 4) sc_Trail_spread_of.nd rfl (Or.inl rfl)) pgs_nil)))) (fun _ _ _ _ _ => pts_nil) (fun _ _ _ _ _ => (pe_mkr G_Stretch hr (by decide) (by rfl) (pa_cons (pv 3) (pa_cons (pv 4) pa_nil))))) pa_nil)))), ?_⟩
  obtain ⟨G, x, sb, ⟨v, v2, v3, e, hv, hv2, hv3⟩, hp, q⟩ := hsp
  subst e
  obtain ⟨t, f', rs⟩ := x
  obtain ⟨ht, hf, hm⟩ := hp
  dsimp only at hv hv2 hv3 ht hf hm
  have hsm := foot_small ht.w hf
  have hfu := foot_full hf
  refine s_ret (W := ⟨G, H⟩) (A := rSpread c) (x := told (rowPairs t.v t.N (t.row f'))) sb ?_ q
  refine e_make (f := told) (x := rowPairs t.v t.N (t.row f')) (ea_in1 ?_) (by rw [rowPairs_len]; omega)
  refine e_is (e_lcp1 (C := K53.rI) (D := K53.rI) (fun p : Pr => p) (ig_list (e_meth2 (e_var hv rfl) (tr_no (by decide)) (e_var hv2 rfl) (e_var hv3 rfl) ⟨ht, hf, hm⟩)).w (by dsimp only; rw [rowPairs_len]; omega) fun y a b W1 hy l h1 h2 => e_make (f := fun x => x) (ea_in2 (e_var h1 rfl) (e_var h2 rfl)) (hfu y hy)) (by simp)
abbrev s_Trail_first_of : Stmt := (inClass (top 42) 5)
abbrev N_Trail_first_of : List Str := ["self", "foot", "least", "shift", "cell", "multiple", "step"]
theorem sc_Trail_first_of : FnScope N_Trail_first_of ["self", "foot"] (defScope s_Trail_first_of) := ⟨rfl, rfl, rfl, by decide +kernel, rfl, by decide +kernel, by decide +kernel⟩
theorem c_Trail_first_of (B : Bu mg) (D : Dm K c.Trail "first_of" "Trail.first_of" s_Trail_first_of []) (hcT : Cls K c.Trail) (n1 : NoAttr K c.Trail "told_cell") (n2 : NoAttr K c.Trail "told_times") (n3 : NoAttr K c.Trail "told_offsets") (n4 : NoAttr K c.Trail "told_shift") (n5 : NoAttr K c.Trail "all_rows") : Q_Trail_first_of P w K mg base c := by
  refine D.met sc_Trail_first_of (fun _ _ _ _ _ _ us hl => match us, hl with | [_, _], _ => rfl) pr_len2 fun f cdv A outer s H vs Q E hr hsp => ⟨_, PSs.nox (pss_cons (ps_set (i := 2) sc_Trail_first_of.nd rfl (Or.inl rfl) (pe_callB (cr_min rfl) (by rfl) B.min_ (by decide +kernel) (pa_cons (pe_lc (own := [("multiple", 5), ("step", 6)]) rfl sc_Trail_first_of.nd (pi_list (pe_dget (hu_of hr) (pe_fldK (K := K) rfl (pv 0) rfl) (pv 1) (fun _ _ => rfl))) (blkOk_by (N := N_Trail_first_of) (sc := defScope s_Trail_first_of) (by decide +kernel)) (fun _ _ _ _ _ => (pg_tupK (K := K) (n := 2) rfl rfl (pgs_cons (pg_name (i := 5) sc_Trail_first_of.nd rfl (Or.inl rfl)) (pgs_cons (pg_name (i := 6) sc_Trail_first_of.nd rfl (Or.inl rfl)) pgs_nil)))) (fun _ _ _ _ _ => pts_nil) (fun _ _ _ _ _ => (pe_callTy call_int1 (by rfl) B.int_ (by decide +kernel) (pa_cons (pv 5) pa_nil)))) pa_nil))) (pss_cons (ps_set (i := 3) sc_Trail_first_of.nd rfl (Or.inl rfl) (pe_fldK (K := K) rfl (pv 0) rfl)) (pss_cons (ps_set (i := 4) sc_Trail_first_of.nd rfl (Or.inl rfl) (pe_fldK (K := K) rfl (pv 0) rfl)) (pss_one (ps_ret (pe_tup (pa_cons (pe_op op_add (pe_op op_add (pe_ix (ix_tupK (K := K) rfl) (pv 4) pe_int (fun _ _ => rfl)) (pe_ix (ix_tupK (K := K) rfl) (pv 1) pe_int (fun _ _ => rfl))) (pe_op op_mul (pv 2) (pe_ix (ix_tupK (K := K) rfl) (pv 3) pe_int (fun _ _ => rfl)))) (pa_cons (pe_op op_add (pe_op op_add (pe_ix (ix_tupK (K := K) rfl) (pv 4) pe_int (fun _ _ => rfl)) (pe_ix (ix_tupK (K := K) rfl) (pv 1) pe_int (fun _ _ => rfl))) (pe_op op_mul (pv 2) (pe_ix (ix_tupK (K := K) rfl) (pv 3) pe_int (fun _ _ => rfl)))) pa_nil)))))))), ?_⟩
  obtain ⟨G, x, sb, ⟨v, v2, e, hv, hv2⟩, hp, q⟩ := hsp
  subst e
  obtain ⟨t, f'⟩ := x
  obtain ⟨ht, hf⟩ := hp
  dsimp only at hv hv2 ht hf
  have hsm := foot_small ht.w hf
  obtain ⟨k1, k2, k3, k4⟩ := lets_sm ht.w
  refine s_set (W := ⟨G, H⟩) (A := K53.rI) (x := least (t.row f')) sb ?_ fun va W1 l1 ha => ?_
  · exact e_min (e_lcp1 (C := K53.rI) (D := K53.rI) (fun e : Pr => e.1) (ig_list (xs := t.row f') (e_dget (e_tRows (e_var hv rfl) hcT n5) (e_var hv2 rfl) (foot_look hf))).w (by omega) fun y a b W1 hy l h1 h2 => e_intI (e_var h1 rfl)) (by simpa using foot_ne hf)
  dsimp only
  refine s_set (W := W1) (A := rCell) (x := t.v) l1.s (e_tShift (e_var (Mn.mn l1.g hv) rfl) hcT n4) fun vb W2 l2 hb => ?_
  have g2 := l1.g.trans l2.g
  refine s_set (W := W2) (A := rCell) (x := t.cell) l2.s (e_tCell (e_var (Mn.mn g2 hv) rfl) hcT n1) fun vc W3 l3 hc => ?_
  have g3 := g2.trans l3.g
  have hb3 := Mn.mn l3.g hb
  have ha3 := Mn.mn (l2.g.trans l3.g) ha
  exact s_ret (W := W3) (A := rCell) l3.s (e_pair (e_add (e_add (e_fst' (e_var hc rfl)) (e_fst' (e_var (Mn.mn g3 hv2) rfl))) (e_mul (e_var ha3 rfl) (e_fst' (e_var hb3 rfl)) (.inr ⟨by omega, by omega⟩)))
    (e_add (e_add (e_snd' (e_var hc rfl)) (e_snd' (e_var (Mn.mn g3 hv2) rfl))) (e_mul (e_var ha3 rfl) (e_snd' (e_var hb3 rfl)) (.inr ⟨by omega, by omega⟩)))) fun v W'' l4 h => q v W'' (((l1.trans l2).trans l3).trans l4) h
theorem strands_eq (t : Tr) : (t.rows.map (·.1)).map (fun f => (firstOf t.cell t.v f (t.row f), told (rowPairs t.v t.N (t.row f)))) = strandsP t.cell t.os t.N := by
  unfold strandsP
  rw [List.map_map]
  refine List.map_congr_left fun fr hfr => ?_
  have : t.row fr.1 = fr.2 := by
    unfold Tr.row
    rw [rowAt_of (tr_nd t) hfr]
    rfl
  simp only [Function.comp, this]
  rfl
abbrev s_Trail_all_strands : Stmt := (inClass (top 42) 6)
abbrev N_Trail_all_strands : List Str := ["self", "rounds", "foot"]
theorem sc_Trail_all_strands : FnScope N_Trail_all_strands ["self"] (defScope s_Trail_all_strands) := ⟨rfl, rfl, rfl, by decide +kernel, rfl, by decide +kernel, by decide +kernel⟩
theorem c_Trail_all_strands (B : Bu mg) (D : Dm K c.Trail "all_strands" "Trail.all_strands" s_Trail_all_strands []) (M_Trail_rounds_up_to : Q_Trail_rounds_up_to P w K mg base c) (M_Trail_last_moment : Q_Trail_last_moment P w K mg base c) (M_Trail_spread_of : Q_Trail_spread_of P w K mg base c) (M_Trail_first_of : Q_Trail_first_of P w K mg base c) (hcT : Cls K c.Trail) (n1 : NoAttr K c.Trail "told_cell") (n2 : NoAttr K c.Trail "told_times") (n3 : NoAttr K c.Trail "told_offsets") (n4 : NoAttr K c.Trail "told_shift") (n5 : NoAttr K c.Trail "all_rows") : Q_Trail_all_strands P w K mg base c := by
  refine D.met sc_Trail_all_strands (fun _ _ _ _ _ _ us hl => match us, hl with | [_], _ => rfl) pr_len1 fun f cdv A outer s H vs Q E hr hsp => ⟨_, PSs.nox (pss_cons (ps_set (i := 1) sc_Trail_all_strands.nd rfl (Or.inr rfl) (pe_mtd M_Trail_rounds_up_to hr (by decide) (pv 0) (pa_cons (pe_mtd0 M_Trail_last_moment hr (by decide) (pv 0)) pa_nil))) (pss_one (ps_ret (pe_lc (own := [("foot", 2)]) rfl sc_Trail_all_strands.nd (pi_keys (pe_lk (pe_fldK (K := K) rfl (pv 0) rfl))) (blkOk_by (N := N_Trail_all_strands) (sc := defScope s_Trail_all_strands) (by decide +kernel)) (fun _ _ _ _ _ => (pg_name (i := 2) sc_Trail_all_strands.nd rfl (Or.inl rfl))) (fun _ _ _ _ _ => pts_nil) (fun _ _ _ _ _ => (pe_tup (pa_cons (pe_mtd M_Trail_first_of hr (by decide) (pv 0) (pa_cons (pv 2) pa_nil)) (pa_cons (pe_mtd M_Trail_spread_of hr (by decide) (pv 0) (pa_cons (pv 2) (pa_cons (pv 1) pa_nil))) pa_nil)))))))), ?_⟩
  obtain ⟨G, x, sb, ⟨v, e, hv⟩, hp, q⟩ := hsp
  subst e
  have hp' := hp
  refine s_set (W := ⟨G, H⟩) (A := rL K53.rI) (x := x.rounds) sb (e_meth1 (e_var hv rfl) (tr_no (by decide)) (e_meth0 (e_var hv rfl) (tr_no (by decide)) hp) ⟨hp, rfl⟩) fun va W1 l1 ha => ?_
  have hv1 := Mn.mn l1.g hv
  dsimp only
  refine s_ret (W := W1) (A := rL (rP rCell (rSpread c))) (x := strandsP x.cell x.os x.N) l1.s ?_ fun v W'' l2 h => q v W'' (l1.trans l2) h
  refine e_is (e_lcn1 (A := rCell) (B := rP rCell (rSpread c)) (fun f => (firstOf x.cell x.v f (x.row f), told (rowPairs x.v x.N (x.row f)))) (iw_keysT (e_tRows (e_var hv1 rfl) hcT n5)) (by have := rows_small hp.w; rw [List.length_map]; omega) fun f vf W2 hf l2 hf2 => ?_) (strands_eq x)
  have hft := foot_of_mem hf
  exact e_pair (e_meth1 (e_var (Mn.mn l2.g hv1) rfl) (tr_no (by decide)) (e_var hf2 rfl) ⟨hp, hft⟩) (e_meth2 (e_var (Mn.mn l2.g hv1) rfl) (tr_no (by decide)) (e_var hf2 rfl) (e_var (Mn.mn l2.g ha) rfl) ⟨hp, hft, rfl⟩)
theorem many_eq (t : Tr) : ((t.rows.map (·.1)).map (fun f => sizeOf_ (told (rowPairs t.v t.N (t.row f))))).sum = manyOf (strandsP t.cell t.os t.N) := by
  rw [← strands_eq]
  unfold manyOf
  simp only [List.map_map]
  rfl
theorem told_full {ps : List Pr} (h : Full ps) : ∀ p ∈ told ps, p.1 < p.2 := (told_canon h).1
theorem told_len (ps : List Pr) : (told ps).length ≤ ps.length := by
  have := join_len _ (byLows ps) rfl
  rw [byLows_len] at this
  exact this
abbrev s_Trail_fresh_up_to : Stmt := (inClass (top 42) 13)
abbrev N_Trail_fresh_up_to : List Str := ["self", "moment", "rounds", "foot"]
theorem sc_Trail_fresh_up_to : FnScope N_Trail_fresh_up_to ["self", "moment"] (defScope s_Trail_fresh_up_to) := ⟨rfl, rfl, rfl, by decide +kernel, rfl, by decide +kernel, by decide +kernel⟩
theorem c_Trail_fresh_up_to (B : Bu mg) (D : Dm K c.Trail "fresh_up_to" "Trail.fresh_up_to" s_Trail_fresh_up_to []) (M_Trail_last_moment : Q_Trail_last_moment P w K mg base c) (G_is_count : Q_is_count P w K mg base c) (M_Trail_rounds_up_to : Q_Trail_rounds_up_to P w K mg base c) (M_Members_count : Q_Members_count P w K mg base c) (M_Trail_spread_of : Q_Trail_spread_of P w K mg base c) (hcT : Cls K c.Trail) (n1 : NoAttr K c.Trail "told_cell") (n2 : NoAttr K c.Trail "told_times") (n3 : NoAttr K c.Trail "told_offsets") (n4 : NoAttr K c.Trail "told_shift") (n5 : NoAttr K c.Trail "all_rows") : Q_Trail_fresh_up_to P w K mg base c := by
  refine D.met sc_Trail_fresh_up_to (fun _ _ _ _ _ _ us hl => match us, hl with | [_, _], _ => rfl) pr_len2 fun f cdv A outer s H vs Q E hr hsp => ⟨_, PSs.nox (pss_cons (ps_if (PW.pt (pw_or (pt_not (pt_val (pe_cal G_is_count hr (by decide) (by rfl) (pa_cons (pv 1) pa_nil)))) (pw_or1 (pt_cmpR op_gt (pv 1) (pe_mtd0 M_Trail_last_moment hr (by decide) (pv 0)) (nomark _))))) (pss_one ps_never) pss_nil) (pss_cons (ps_set (i := 2) sc_Trail_fresh_up_to.nd rfl (Or.inr rfl) (pe_mtd M_Trail_rounds_up_to hr (by decide) (pv 0) (pa_cons (pv 1) pa_nil))) (pss_one (ps_ret (pe_callB (cr_sum rfl) (by rfl) B.sum_ (by decide +kernel) (pa_cons (pe_lc (own := [("foot", 3)]) rfl sc_Trail_fresh_up_to.nd (pi_keys (pe_lk (pe_fldK (K := K) rfl (pv 0) rfl))) (blkOk_by (N := N_Trail_fresh_up_to) (sc := defScope s_Trail_fresh_up_to) (by decide +kernel)) (fun _ _ _ _ _ => (pg_name (i := 3) sc_Trail_fresh_up_to.nd rfl (Or.inl rfl))) (fun _ _ _ _ _ => pts_nil) (fun _ _ _ _ _ => (pe_callTy call_int1 (by rfl) B.int_ (by decide +kernel) (pa_cons (pe_mtd0 M_Members_count hr (by decide) (pe_mtd M_Trail_spread_of hr (by decide) (pv 0) (pa_cons (pv 3) (pa_cons (pv 2) pa_nil)))) pa_nil)))) pa_nil)))))), ?_⟩
  obtain ⟨G, x, sb, ⟨v, v2, e, hv, hv2⟩, hp, q⟩ := hsp
  subst e
  obtain ⟨t, m⟩ := x
  obtain ⟨ht, hm⟩ := hp
  dsimp only at hv hv2 ht hm
  have hm0 : 0 ≤ m := by rw [hm]; exact Int.mul_nonneg (by omega) ht.N
  refine s_if (W := ⟨G, H⟩) (b := false) sb (t_is (t_or (t_not (t_B (e_call1 (e_var hv2 rfl) trivial))) fun _ => t_test (e_gt (e_var hv2 rfl) (e_meth0 (e_var hv rfl) (tr_no (by decide)) ht))) (by simp; omega)) (fun z => by cases z) fun _ W1 l1 => ?_
  have hv1 := Mn.mn l1.g hv
  unfold tNext
  dsimp only
  refine s_set (W := W1) (A := rL K53.rI) (x := t.rounds) l1.s (e_meth1 (e_var hv1 rfl) (tr_no (by decide)) (e_var (Mn.mn l1.g hv2) rfl) ⟨ht, hm⟩) fun va W2 l2 ha => ?_
  have hv2' := Mn.mn l2.g hv1
  dsimp only
  refine s_ret (W := W2) (A := K53.rI) (x := manyOf (strandsP t.cell t.os t.N)) l2.s ?_ fun v W'' l3 h => q v W'' ((l1.trans l2).trans l3) h
  refine e_is (e_sum (e_lcn1 (A := rCell) (B := K53.rI) (fun f => sizeOf_ (told (rowPairs t.v t.N (t.row f)))) (iw_keysT (e_tRows (e_var hv2' rfl) hcT n5)) (by have := rows_small ht.w; rw [List.length_map]; omega) fun f vf W3 hf l3 hf2 => ?_)) (many_eq t)
  have hft := foot_of_mem hf
  have hfs := foot_small ht.w hft
  exact e_intI (e_meth0d (e_meth2 (e_var (Mn.mn l3.g hv2') rfl) (tr_no (by decide)) (e_var hf2 rfl) (e_var (Mn.mn l3.g ha) rfl) ⟨ht, hft, rfl⟩) (sp_no (by decide)) (fun _ => rfl) (fun _ => rfl) ⟨told_full (foot_full hft), Nat.le_trans (told_len _) (by rw [rowPairs_len]; omega), rfl⟩)
abbrev s_Trail_many_cells : Stmt := (inClass (top 42) 8)
abbrev N_Trail_many_cells : List Str := ["self"]
theorem sc_Trail_many_cells : FnScope N_Trail_many_cells ["self"] (defScope s_Trail_many_cells) := ⟨rfl, rfl, rfl, by decide +kernel, rfl, by decide +kernel, by decide +kernel⟩
theorem c_Trail_many_cells (B : Bu mg) (D : Dm K c.Trail "many_cells" "Trail.many_cells" s_Trail_many_cells []) (M_Trail_fresh_up_to : Q_Trail_fresh_up_to P w K mg base c) (M_Trail_last_moment : Q_Trail_last_moment P w K mg base c) : Q_Trail_many_cells P w K mg base c := by
  refine D.met sc_Trail_many_cells (fun _ _ _ _ _ _ us hl => match us, hl with | [_], _ => rfl) pr_len1 fun f cdv A outer s H vs Q E hr hsp => ⟨_, PSs.nox (pss_one (ps_ret (pe_mtd M_Trail_fresh_up_to hr (by decide) (pv 0) (pa_cons (pe_mtd0 M_Trail_last_moment hr (by decide) (pv 0)) pa_nil)))), ?_⟩
  obtain ⟨G, x, sb, ⟨v, e, hv⟩, hp, q⟩ := hsp
  subst e
  refine s_ret (W := ⟨G, H⟩) (A := K53.rI) (x := manyOf (strandsP x.cell x.os x.N)) sb ?_ q
  exact e_meth1 (e_var hv rfl) (tr_no (by decide)) (e_meth0 (e_var hv rfl) (tr_no (by decide)) hp) ⟨hp, rfl⟩
theorem visits_none {cell : Cell} {os : List Cell} {N : Int} {cc : Cell} (h : rowAt (rowsOf os N) (footOf (minus cc cell) (lastOf os)).1 = none) : visits cell os N cc = 0 := by
  unfold visits
  simp only [h]
theorem visits_zero {cell : Cell} {os : List Cell} {N : Int} {cc : Cell} {row : List Pr} (h : rowAt (rowsOf os N) (footOf (minus cc cell) (lastOf os)).1 = some row) (z : lastOf os = (0, 0)) : visits cell os N cc = (row.map fun e => rnd N e.2).sum := by
  unfold visits
  simp only [h, if_pos z]
theorem visits_one {cell : Cell} {os : List Cell} {N : Int} {cc : Cell} {row : List Pr} (h : rowAt (rowsOf os N) (footOf (minus cc cell) (lastOf os)).1 = some row) (z : lastOf os ≠ (0, 0)) : visits cell os N cc = ((row.filter fun e => decide (e.1 ≤ (footOf (minus cc cell) (lastOf os)).2) && decide ((footOf (minus cc cell) (lastOf os)).2 < e.1 + rnd N e.2)).length : Int) := by
  unfold visits
  simp only [h, if_neg z]
abbrev s_visits_at : Stmt := (top 43)
abbrev N_visits_at : List Str := ["trail", "cell", "offset", "foot", "place", "rounds", "multiple", "step"]
theorem sc_visits_at : FnScope N_visits_at ["trail", "cell"] (defScope s_visits_at) := ⟨rfl, rfl, rfl, by decide +kernel, rfl, by decide +kernel, by decide +kernel⟩
theorem c_visits_at (B : Bu mg) (D : Dn K mg "visits_at" s_visits_at []) (G_foot_of : Q_foot_of P w K mg base c) (M_Trail_rounds_up_to : Q_Trail_rounds_up_to P w K mg base c) (M_Trail_last_moment : Q_Trail_last_moment P w K mg base c) (hcT : Cls K c.Trail) (n1 : NoAttr K c.Trail "told_cell") (n2 : NoAttr K c.Trail "told_times") (n3 : NoAttr K c.Trail "told_offsets") (n4 : NoAttr K c.Trail "told_shift") (n5 : NoAttr K c.Trail "all_rows") : Q_visits_at P w K mg base c := by
  refine D.cal sc_visits_at (fun _ _ _ _ _ _ us hl => match us, hl with | [_, _], _ => rfl) pr_len2 fun f cdv A outer s H vs Q E hr hsp => ⟨_, PSs.nox (pss_cons (ps_set (i := 2) sc_visits_at.nd rfl (Or.inl rfl) (pe_tup (pa_cons (pe_op op_sub (pe_ix (ix_tupK (K := K) rfl) (pv 1) pe_int (fun _ _ => rfl)) (pe_ix (ix_tupK (K := K) rfl) (pe_fldK (K := K) rfl (pv 0) rfl) pe_int (fun _ _ => rfl))) (pa_cons (pe_op op_sub (pe_ix (ix_tupK (K := K) rfl) (pv 1) pe_int (fun _ _ => rfl)) (pe_ix (ix_tupK (K := K) rfl) (pe_fldK (K := K) rfl (pv 0) rfl) pe_int (fun _ _ => rfl))) pa_nil)))) (pss_cons (ps_asg (pe_cal G_foot_of hr (by decide) (by rfl) (pa_cons (pv 2) (pa_cons (pe_fldK (K := K) rfl (pv 0) rfl) pa_nil))) (pg_tupK (K := K) (n := 2) rfl rfl (pgs_cons (pg_name (i := 3) sc_visits_at.nd rfl (Or.inl rfl)) (pgs_cons (pg_name (i := 4) sc_visits_at.nd rfl (Or.inr rfl)) pgs_nil)))) (pss_cons (ps_if (pt_cmp (pc_dnotin (hu_of hr) (pv 3) (pe_fldK (K := K) rfl (pv 0) rfl))) (pss_one (ps_ret pe_int)) pss_nil) (pss_cons (ps_set (i := 5) sc_visits_at.nd rfl (Or.inr rfl) (pe_mtd M_Trail_rounds_up_to hr (by decide) (pv 0) (pa_cons (pe_mtd0 M_Trail_last_moment hr (by decide) (pv 0)) pa_nil))) (pss_cons (ps_if (pt_cmpR (op_eqDK (K := K) rfl hr.units) (pe_fldK (K := K) rfl (pv 0) rfl) (pe_tup (pa_cons pe_int (pa_cons pe_int pa_nil))) (nomark _)) (pss_one (ps_ret (pe_callB (cr_sum rfl) (by rfl) B.sum_ (by decide +kernel) (pa_cons (pe_lc (own := [("multiple", 6), ("step", 7)]) rfl sc_visits_at.nd (pi_list (pe_dget (hu_of hr) (pe_fldK (K := K) rfl (pv 0) rfl) (pv 3) (fun _ _ => rfl))) (blkOk_by (N := N_visits_at) (sc := defScope s_visits_at) (by decide +kernel)) (fun _ _ _ _ _ => (pg_tupK (K := K) (n := 2) rfl rfl (pgs_cons (pg_name (i := 6) sc_visits_at.nd rfl (Or.inl rfl)) (pgs_cons (pg_name (i := 7) sc_visits_at.nd rfl (Or.inl rfl)) pgs_nil)))) (fun _ _ _ _ _ => pts_nil) (fun _ _ _ _ _ => (pe_callTy call_int1 (by rfl) B.int_ (by decide +kernel) (pa_cons (pe_ix (ix_listK (K := K) rfl) (pv 5) (pv 7) (fun _ _ => rfl)) pa_nil)))) pa_nil)))) pss_nil) (pss_one (ps_ret (pe_callB call_len_seq (by rfl) B.len_ (by decide +kernel) (pa_cons (pe_lc (own := [("multiple", 6), ("step", 7)]) rfl sc_visits_at.nd (pi_list (pe_dget (hu_of hr) (pe_fldK (K := K) rfl (pv 0) rfl) (pv 3) (fun _ _ => rfl))) (blkOk_by (N := N_visits_at) (sc := defScope s_visits_at) (by decide +kernel)) (fun _ _ _ _ _ => (pg_tupK (K := K) (n := 2) rfl rfl (pgs_cons (pg_name (i := 6) sc_visits_at.nd rfl (Or.inl rfl)) (pgs_cons (pg_name (i := 7) sc_visits_at.nd rfl (Or.inl rfl)) pgs_nil)))) (fun _ _ _ _ _ => (pts_one (pt_chain op_le op_lt (pv 6) (pv 4) (pe_op op_add (pv 6) (pe_ix (ix_listK (K := K) rfl) (pv 5) (pv 7) (fun _ _ => rfl)))))) (fun _ _ _ _ _ => (pv 7))) pa_nil))))))))), ?_⟩
  obtain ⟨G, x, sb, ⟨v, v2, e, hv, hv2⟩, hp, q⟩ := hsp
  subst e
  obtain ⟨t, cc⟩ := x
  have ht : Tok t := hp
  dsimp only at hv hv2
  refine s_set (W := ⟨G, H⟩) (A := rCell) (x := minus cc t.cell) sb (e_pair (e_sub' (e_fst' (e_var hv2 rfl)) (e_fst' (e_tCell (e_var hv rfl) hcT n1))) (e_sub' (e_snd' (e_var hv2 rfl)) (e_snd' (e_tCell (e_var hv rfl) hcT n1)))) fun va W1 l1 ha => ?_
  dsimp only
  refine s_unp (W := W1) (A := rCell) (B := K53.rI) (p := footOf (minus cc t.cell) t.v) l1.s (e_call2 (e_var ha rfl) (e_tShift (e_var (Mn.mn l1.g hv) rfl) hcT n4) (lets_sm ht.w)) fun b1 b2 W2 l2 h1 h2 => ?_
  have hv2' := Mn.mn (l1.g.trans l2.g) hv
  dsimp only
  refine s_if (W := W2) (b := (lookC t.rows (footOf (minus cc t.cell) t.v).1).isNone) l2.s (t_B (e_dnotin (e_var h1 rfl) (e_tRows (e_var hv2' rfl) hcT n5))) (fun z W3 l3 => ?_) (fun z W3 l3 => ?_)
  · refine s_ret (W := W3) (A := K53.rI) (x := visits t.cell t.os t.N cc) l3.s (e_is e_int ?_) fun v W'' l4 h => q v W'' (((l1.trans l2).trans l3).trans l4) h
    have z : rowAt (rowsOf t.os t.N) (footOf (minus cc t.cell) (lastOf t.os)).1 = none := Option.isNone_iff_eq_none.mp z
    exact (visits_none z).symm
  · obtain ⟨row, hrow⟩ : ∃ row, rowAt t.rows (footOf (minus cc t.cell) t.v).1 = some row := by
      cases e : lookC t.rows (footOf (minus cc t.cell) t.v).1 with
      | none => rw [e] at z; cases z
      | some row => exact ⟨row, e⟩
    have hf : Foot t (footOf (minus cc t.cell) t.v).1 := foot_of_mem (List.mem_map.mpr ⟨_, rowAt_some hrow, rfl⟩)
    have hrow' : t.row (footOf (minus cc t.cell) t.v).1 = row := by unfold Tr.row; rw [hrow]; rfl
    have hst := foot_steps hf
    have hsm := foot_small ht.w hf
    rw [hrow'] at hst hsm
    have hv3' := Mn.mn l3.g hv2'
    unfold tNext
    dsimp only
    refine s_set (W := W3) (A := rL K53.rI) (x := t.rounds) l3.s (e_meth1 (e_var hv3' rfl) (tr_no (by decide)) (e_meth0 (e_var hv3' rfl) (tr_no (by decide)) ht) ⟨ht, rfl⟩) fun vc W4 l4 hc => ?_
    have hv4' := Mn.mn l4.g hv3'
    have g24 := l3.g.trans l4.g
    dsimp only
    refine s_if (W := W4) (b := decide (t.v = (0, 0))) l4.s (t_test (e_eqD (e_tShift (e_var hv4' rfl) hcT n4) (e_pair e_int e_int) (by decide))) (fun z W5 l5 => ?_) (fun z W5 l5 => ?_)
    · have z : lastOf t.os = (0, 0) := of_decide_eq_true z
      refine s_ret (W := W5) (A := K53.rI) (x := visits t.cell t.os t.N cc) l5.s ?_ fun v W'' l6 h => q v W'' (((((l1.trans l2).trans l3).trans l4).trans l5).trans l6) h
      refine e_is (e_sum (e_lcp1 (C := K53.rI) (D := K53.rI) (fun e : Pr => rnd t.N e.2) (ig_list (xs := row) (e_dget (e_tRows (e_var (Mn.mn l5.g hv4') rfl) hcT n5) (e_var (Mn.mn (g24.trans l5.g) h1) rfl) hrow)).w (by omega) fun y a b W6 hy l h3 h4 =>
        e_intI (e_ixL (k := y.2.toNat) (e_var (Mn.mn (l5.g.trans l.g) hc) rfl) (e_is (e_var h4 rfl) (by have := (hst y hy).1; omega)) (rounds_get (hst y hy).1)))) ?_
      exact (visits_zero hrow z).symm
    · have z : lastOf t.os ≠ (0, 0) := of_decide_eq_false z
      dsimp only
      refine s_ret (W := W5) (A := K53.rI) (x := visits t.cell t.os t.N cc) l5.s ?_ fun v W'' l6 h => q v W'' (((((l1.trans l2).trans l3).trans l4).trans l5).trans l6) h
      refine e_is (e_lenL (e_lcp (C := K53.rI) (D := K53.rI) (fun e : Pr => decide (e.1 ≤ (footOf (minus cc t.cell) t.v).2) && decide ((footOf (minus cc t.cell) t.v).2 < e.1 + rnd t.N e.2)) (fun e : Pr => e.2) (ig_list (xs := row) (e_dget (e_tRows (e_var (Mn.mn l5.g hv4') rfl) hcT n5) (e_var (Mn.mn (g24.trans l5.g) h1) rfl) hrow)).w (by omega) fun y a b W6 hy l h3 h4 =>
        ⟨t_B (e_chain (g1 := fun i j => decide (i ≤ j)) (g2 := fun i j => decide (i < j)) (e_var h3 rfl) (e_var (Mn.mn ((g24.trans l5.g).trans l.g) h2) rfl) (e_add (e_var h3 rfl) (e_ixL (k := y.2.toNat) (e_var (Mn.mn (l5.g.trans l.g) hc) rfl) (e_is (e_var h4 rfl) (by have := (hst y hy).1; omega)) (rounds_get (hst y hy).1)))), fun _ => e_var h4 rfl⟩)) ?_
      rw [List.length_map]
      exact (visits_one hrow z).symm
abbrev s_TrailD_containsD : Stmt := (inClass (top 42) 10)
abbrev N_TrailD_containsD : List Str := ["self", "value"]
theorem sc_TrailD_containsD : FnScope N_TrailD_containsD ["self", "value"] (defScope s_TrailD_containsD) := ⟨rfl, rfl, rfl, by decide +kernel, rfl, by decide +kernel, by decide +kernel⟩
theorem c_TrailD_containsD (B : Bu mg) (D : Dm K c.Trail "__contains__" "Trail.__contains__" s_TrailD_containsD []) (G_visits_at : Q_visits_at P w K mg base c) (G_is_cell : Q_is_cell P w K mg base c) : Q_TrailD_containsD P w K mg base c := by
  refine D.met sc_TrailD_containsD (fun _ _ _ _ _ _ us hl => match us, hl with | [_, _], _ => rfl) pr_len2 fun f cdv A outer s H vs Q E hr hsp => ⟨_, PSs.nox (pss_one (ps_ret (pe_and (pe_cal G_is_cell hr (by decide) (by rfl) (pa_cons (pv 1) pa_nil)) (pe_one (pe_cmpR op_gt (pe_cal G_visits_at hr (by decide) (by rfl) (pa_cons (pv 0) (pa_cons (pv 1) pa_nil))) pe_int (nomark _)))))), ?_⟩
  obtain ⟨G, x, sb, ⟨v, v2, e, hv, hv2⟩, hp, q⟩ := hsp
  subst e
  obtain ⟨t, o⟩ := x
  obtain ⟨ht, ho⟩ := hp
  dsimp only at hv hv2 ht ho
  exact s_ret (W := ⟨G, H⟩) (A := rB) (x := o.isC && decide (0 < visits t.cell t.os t.N (cellOf o))) sb (e_and (e_call1 (e_var hv2 rfl) ho) fun z => e_gt (e_call2 (e_var hv rfl) (e_var (cell_of_ov hv2 z) rfl) ht) e_int) q
end
end K53
end

/-! K53D9 -/
section
/-! The defs of the program: strands. -/
namespace K53
open PySem PySem.Spec PyProof.Rows L2

abbrev Q_Trail_strands (P : Program) (w : World) (K : PySem.W.Frag) (mg : Str → Option Value) (base : Heap) (c : Ca) : Prop := Met P w K mg base 8 c.Trail "strands" (Prm (In1 (rTrail c)) Tok (rL rStr) (fun t => inOrder (strandsP t.cell t.os t.N))) []
theorem fm_take {α β : Type} {g : α → List β} {ys : List α} {i : Nat} {y : α} (h : ys[i]? = some y) : (ys.take (i + 1)).flatMap g = (ys.take i).flatMap g ++ g y := by rw [take_snoc h, List.flatMap_append]; simp
theorem fm_len {α β : Type} {g : α → List β} : ∀ {ys : List α} {i : Nat} {y : α}, ys[i]? = some y → ((ys.take i).flatMap g).length + (g y).length ≤ (ys.flatMap g).length
  | [], _, _, h => by simp at h
  | z :: ys, 0, y, h => by
    simp at h
    subst h
    simp
  | z :: ys, i + 1, y, h => by
    have ih := fm_len (g := g) (ys := ys) (i := i) (y := y) (by simpa using h)
    simp only [List.take_succ_cons, List.flatMap_cons, List.length_append]
    omega
theorem xs_eq {α : Type} (L : List (Cell × α)) (y : Int) : sortI (((L.map (·.1)).filter fun c => decide (c.2 = y)).map (·.1)) = xsOf L y := by
  unfold xsOf
  rw [List.filter_map, List.map_map]
  rfl
theorem look_one {α : Type} {L : List (Cell × α)} (nd : (L.map (·.1)).Nodup) {x y : Int} (hx : x ∈ xsOf L y) : ∃ a, lookC L (x, y) = some a ∧ at_ L (x, y) = [((x, y), a)] := by
  obtain ⟨e, he, e1⟩ := mem_xsOf L |>.mp hx
  refine ⟨e.2, ?_, ?_⟩
  · unfold lookC
    cases q : L.find? (fun z => decide (z.1 = (x, y))) with
    | none => exact absurd (by simpa using e1) (List.find?_eq_none.mp q e he)
    | some z =>
      have h1 := List.mem_of_find?_eq_some q
      have h2 := List.find?_some q
      have h2 : z.1 = (x, y) := by simpa using h2
      have hz : (x, y, z.2) = (x, y, e.2) := by
        have m1 : at_ L (x, y) = [((x, y), z.2)] := at_one nd (by rw [← h2]; exact h1)
        have m2 : at_ L (x, y) = [((x, y), e.2)] := at_one nd (by rw [← e1]; exact he)
        rw [m1] at m2
        injection m2 with m3 _
        injection m3 with _ m4
        rw [m4]
      have : z.2 = e.2 := by injection hz with _ h; injection h
      show some z.2 = some e.2
      rw [this]
  · exact at_one nd (by rw [← e1]; exact he)
theorem not_taken {α : Type} {L : List (Cell × α)} (nd : (L.map (·.1)).Nodup) {i : Nat} {s : Cell × α} (h : L[i]? = some s) : s.1 ∉ (L.take i).map (·.1) := fun z => by
  have hlt := lt_of_get h
  rw [← List.take_append_drop i L, List.map_append] at nd
  have hd : L.drop i = s :: L.drop (i + 1) := by
    rw [List.drop_eq_getElem_cons hlt]
    congr 1
    rw [List.getElem?_eq_getElem hlt] at h
    exact Option.some.inj h
  rw [hd] at nd
  exact (List.nodup_append.mp nd).2.2 _ z _ List.mem_cons_self rfl
section
variable {P : Program} {w : World} {K : PySem.W.Frag} {mg : Str → Option Value} {base : Heap} {c : Ca}
theorem strands_len {t : Tr} (ht : Tok t) : (strandsP t.cell t.os t.N).length ≤ 100 := by
  have := rows_small ht.w
  unfold strandsP
  rw [List.length_map]
  exact this
theorem strands_toldlen {t : Tr} (ht : Tok t) : ∀ s ∈ strandsP t.cell t.os t.N, s.2.length ≤ 100 := fun s hs => by
  rw [← strands_eq] at hs
  obtain ⟨f, hf, rfl⟩ := List.mem_map.mp hs
  have := foot_small ht.w (foot_of_mem hf)
  refine Nat.le_trans (told_len _) ?_
  rw [rowPairs_len]
  exact this
abbrev s_Trail_strands : Stmt := (inClass (top 42) 7)
abbrev N_Trail_strands : List Str := ["self", "found", "cell", "spread", "told", "rows", "y", "x", "one"]
theorem sc_Trail_strands : FnScope N_Trail_strands ["self"] (defScope s_Trail_strands) := ⟨rfl, rfl, rfl, by decide +kernel, rfl, by decide +kernel, by decide +kernel⟩
theorem c_Trail_strands (B : Bu mg) (D : Dm K c.Trail "strands" "Trail.strands" s_Trail_strands []) (M_Trail_all_strands : Q_Trail_all_strands P w K mg base c) (M_Spread_told : Q_Spread_told P w K mg base c) (hcSt : Cls K c.Stretch) (hnLo : NoAttr K c.Stretch "low") (hnHi : NoAttr K c.Stretch "high") : Q_Trail_strands P w K mg base c := by
  refine D.met sc_Trail_strands (fun _ _ _ _ _ _ us hl => match us, hl with | [_], _ => rfl) pr_len1 fun f cdv A outer s H vs Q E hr hsp => ⟨_, PSs.nox (pss_cons (ps_set (i := 1) sc_Trail_strands.nd rfl (Or.inl rfl) pe_dnewT) (pss_cons (ps_for PassesOwn.never rfl (pi_list (pe_mtd0 M_Trail_all_strands hr (by decide) (pv 0))) (pg_tupK (K := K) (n := 2) rfl rfl (pgs_cons (pg_name (i := 2) sc_Trail_strands.nd rfl (Or.inl rfl)) (pgs_cons (pg_name (i := 3) sc_Trail_strands.nd rfl (Or.inl rfl)) pgs_nil))) (pss_one (ps_dput (hu_of hr) (pv 1) (pv 2) (pe_lc (own := [("one", 8)]) rfl sc_Trail_strands.nd (pi_list (pe_mtd0 M_Spread_told hr (by decide) (pv 3))) (blkOk_by (N := N_Trail_strands) (sc := defScope s_Trail_strands) (by decide +kernel)) (fun _ _ _ _ _ => (pg_name (i := 8) sc_Trail_strands.nd rfl (Or.inl rfl))) (fun _ _ _ _ _ => pts_nil) (fun _ _ _ _ _ => (pe_tup (pa_cons (pe_fldK (K := K) rfl (pv 8) rfl) (pa_cons (pe_fldK (K := K) rfl (pv 8) rfl) pa_nil))))) rfl))) (pss_cons (ps_set (i := 4) sc_Trail_strands.nd rfl (Or.inl rfl) (pe_lst pa_nil)) (pss_cons (ps_setDc (i := 5) rfl sc_Trail_strands.nd rfl rfl (sw_trueD rfl rfl rfl (by decide +kernel)) (own := [("cell", 2)]) (pi_keys (pe_lk (pv 1))) (blkOk_by (N := N_Trail_strands) (sc := defScope s_Trail_strands) (by decide +kernel)) (fun _ _ _ _ _ => (pg_name (i := 2) sc_Trail_strands.nd rfl (Or.inl rfl))) (fun _ _ _ _ _ => pts_nil) (fun _ _ _ _ _ => (pe_ix (ix_tupK (K := K) rfl) (pv 2) pe_int (fun _ _ => rfl))) (fun _ _ _ _ _ => pe_bl)) (pss_cons (ps_for PassesOwn.never rfl (pi_list (pe_callB cr_sortedI (by rfl) B.sorted_ (by decide +kernel) (pa_cons (pe_lc (own := [("one", 8)]) rfl sc_Trail_strands.nd (pi_keys (pe_lk (pv 5))) (blkOk_by (N := N_Trail_strands) (sc := defScope s_Trail_strands) (by decide +kernel)) (fun _ _ _ _ _ => (pg_name (i := 8) sc_Trail_strands.nd rfl (Or.inl rfl))) (fun _ _ _ _ _ => pts_nil) (fun _ _ _ _ _ => (pe_callTy call_int1 (by rfl) B.int_ (by decide +kernel) (pa_cons (pv 8) pa_nil)))) pa_nil))) (pg_name (i := 6) sc_Trail_strands.nd rfl (Or.inr rfl)) (pss_one (ps_for PassesOwn.never rfl (pi_list (pe_callB cr_sortedI (by rfl) B.sorted_ (by decide +kernel) (pa_cons (pe_lc (own := [("cell", 2)]) rfl sc_Trail_strands.nd (pi_keys (pe_lk (pv 1))) (blkOk_by (N := N_Trail_strands) (sc := defScope s_Trail_strands) (by decide +kernel)) (fun _ _ _ _ _ => (pg_name (i := 2) sc_Trail_strands.nd rfl (Or.inl rfl))) (fun _ _ _ _ _ => (pts_one (pt_cmpR op_eq (pe_ix (ix_tupK (K := K) rfl) (pv 2) pe_int (fun _ _ => rfl)) (pv 6) (nomark _)))) (fun _ _ _ _ _ => (pe_callTy call_int1 (by rfl) B.int_ (by decide +kernel) (pa_cons (pe_ix (ix_tupK (K := K) rfl) (pv 2) pe_int (fun _ _ => rfl)) pa_nil)))) pa_nil))) (pg_name (i := 7) sc_Trail_strands.nd rfl (Or.inl rfl)) (pss_one (ps_expr (pe_bm PySem.F.plainAttrs_list PySem.F.slot_list_append PySem.F.type_list_append mt_append (pv 4) (pa_cons (pe_tup (pa_cons (pe_tup (pa_cons (pv 7) (pa_cons (pv 6) pa_nil))) (pa_cons (pe_dget (hu_of hr) (pv 1) (pe_tup (pa_cons (pv 7) (pa_cons (pv 6) pa_nil))) (fun _ _ => rfl)) pa_nil))) pa_nil))))))) (pss_one (ps_ret (pv 4)))))))), ?_⟩
  obtain ⟨G, x, sb, ⟨v, e, hv⟩, hp, q⟩ := hsp
  subst e
  have hnd := strands_nodup x.cell x.os x.N
  have hfull : ∀ s ∈ strandsP x.cell x.os x.N, Full s.2 := fun s hs => strands_full hs
  have hlen := strands_len hp
  have htl := strands_toldlen hp
  generalize hL : strandsP x.cell x.os x.N = L at *
  refine s_newMd (B := rL rPr) (W0 := ⟨G, H⟩) (W := ⟨G, H⟩) (Le.refl sb) fun p hp1 m => ?_
  dsimp only
  refine s_for (xs := L) (W := ⟨G, upd H p (.dT [])⟩) (A := rP rCell (rSpread c)) (fun i σ W => (∃ u1 u2, σ = [some v, some (.ref p), u1, u2, none, none, none, none, none]) ∧ Same G W.G ∧ Md (rL rPr) ⟨G, H⟩ W (L.take i) p) m.l.s ?_ (fun W1 l => ⟨⟨none, none, rfl⟩, l.g, m.le l⟩) ?_ ?_
  · refine ig_list ?_
    rw [← hL]
    exact e_meth0 (e_var hv rfl) (tr_no (by decide)) hp
  · rintro i st va σ' W' W4 hi ⟨⟨u1, u2, rfl⟩, gW, m'⟩ s' l4 ha
    refine g_pair (K := K) (p := st) (W := W4) l4.s ha fun a b h1 h2 => ?_
    have hst := List.mem_of_getElem? hi
    have hlt := lt_of_get hi
    refine s_dput (W0 := ⟨G, H⟩) (W := W4) (f := st.1) (y := st.2) (m'.le l4) rfl (by rw [List.length_take]; omega) (not_taken hnd hi) ?_ (e_var h1 rfl) fun W5 g5 m5 => ?_
    · refine e_is (e_lcn1 (A := rStretch c) (fun p : Pr => p) (Ig.w (ig_list (xs := st.2) (e_meth0 (e_var h2 rfl) (sp_no (by decide)) ⟨hfull st hst, by have := htl st hst; omega⟩))) (by have := htl st hst; omega) fun y vy W1 hy l hy2 => e_is (e_pair (e_fld (B := K53.rI) (y := y.1) (e_var hy2 rfl) hcSt hnLo fun G fs ⟨v1, v2, v3, e, h1, h2, h3⟩ => ⟨v2, by rw [e]; rfl, h2⟩) (e_fld (B := K53.rI) (y := y.2) (e_var hy2 rfl) hcSt hnHi fun G fs ⟨v1, v2, v3, e, h1, h2, h3⟩ => ⟨v3, by rw [e]; rfl, h3⟩)) rfl) (by simp)
    · refine ⟨W5.G, l4.g.trans g5, m5.l.s, ⟨_, _, rfl⟩, (gW.trans l4.g).trans g5, ?_⟩
      rw [take_snoc hi]
      exact m5
  · rintro σ' W' s' ⟨⟨u1, u2, rfl⟩, gW, m'⟩
    rw [List.take_length] at m'
    obtain ⟨G', sm, ld, hd⟩ := m'.done
    refine s_newlist (W0 := ⟨G, H⟩) (W := ⟨G', W'.H⟩) (A := rStr) (xs := []) ld ea_nil (by decide) fun t W1 ws l1 ht1 mt => ?_
    have hd1 := Mn.mn l1.g hd
    dsimp only
    refine s_set (W := ⟨W1.G, upd W1.H t (.lst ws)⟩) (A := rKI) (x := dedup ((L.map (·.1)).map (·.2))) mt.sub ?_ fun vr W2 l2 hr2 => ?_
    · exact e_dcn (A := rCell) (B := rB) (fun c : Cell => c.2) (fun _ => true) (iw_keysT (e_var hd1 rfl)) (by rw [List.length_map]; omega) fun y vy W3 hy l hy2 => ⟨e_snd' (e_var hy2 rfl), e_bl⟩
    have hd2 := Mn.mn l2.g hd1
    have mt2 := mt.le l2
    have eys : sortI (dedup ((L.map (·.1)).map (·.2))) = ysOf L := by unfold ysOf; rw [List.map_map]; rfl
    have htot : (inOrder L).length ≤ 100 := by rw [(inOrder_perm L hnd).length_eq]; exact hlen
    dsimp only
    refine s_for (xs := ysOf L) (W := W2) (A := K53.rI) (fun i σ W => (∃ u3 u6 u7, σ = [some v, some (.ref p), u1, u2, some (.ref t), some vr, u6, u7, u3]) ∧ Same W2.G W.G ∧ Mu rStr ⟨G, H⟩ W (((ysOf L).take i).flatMap fun y => (xsOf L y).flatMap fun x => at_ L (x, y)) t) l2.s ?_ (fun W3 l => ⟨⟨none, none, none, rfl⟩, l.g, mt2.le l⟩) ?_ ?_
    · refine ig_list ?_
      rw [← eys]
      have e1 : dedup ((L.map (·.1)).map (·.2)) = (dedup ((L.map (·.1)).map (·.2))).map fun i => i := by simp
      refine e_sorted ?_
      rw [e1]
      exact e_lcn1 (A := K53.rI) (fun i => i) (iw_keysI (e_var hr2 rfl)) (Nat.le_trans (dedup_len _) (by rw [List.length_map, List.length_map]; omega)) fun y vy W3 hy l hy2 => e_intI (e_var hy2 rfl)
    · rintro i y vy σ' W5 W6 hi ⟨⟨u3, u6, u7, rfl⟩, g5, m5⟩ s5 l6 hy
      have m6 := m5.le l6
      have g26 := g5.trans l6.g
      show tFor _ _ _ _ _ _
      refine s_for (xs := xsOf L y) (W := W6) (A := K53.rI) (fun j σ W => (∃ u3 u7, σ = [some v, some (.ref p), u1, u2, some (.ref t), some vr, some vy, u7, u3]) ∧ Same W6.G W.G ∧ Mu rStr ⟨G, H⟩ W ((((ysOf L).take i).flatMap fun y => (xsOf L y).flatMap fun x => at_ L (x, y)) ++ ((xsOf L y).take j).flatMap fun x => at_ L (x, y)) t) l6.s ?_ (fun W3 l => ⟨⟨u3, u7, rfl⟩, l.g, by simpa using m6.le l⟩) ?_ ?_
      · refine ig_list ?_
        rw [← xs_eq]
        refine e_sorted (e_lcn (A := rCell) (fun c : Cell => decide (c.2 = y)) (fun c : Cell => c.1) (iw_keysT (e_var (Mn.mn g26 hd2) rfl)) (by rw [List.length_map]; omega) fun z vz W7 hz l hz2 => ⟨t_test (e_eqI (e_snd' (e_var hz2 rfl)) (e_var (Mn.mn l.g hy) rfl)), fun _ => e_intI (e_fst' (e_var hz2 rfl))⟩)
      · rintro j z vz σ' W7 W8 hj ⟨⟨u3, u7, rfl⟩, g7, m7⟩ s7 l8 hz
        obtain ⟨a, ha1, ha2⟩ := look_one hnd (List.mem_of_getElem? hj)
        have g68 := g7.trans l8.g
        have hy8 := Mn.mn g68 hy
        have hd8 := Mn.mn (g26.trans g68) hd2
        have hb1 := fm_len (g := fun y => (xsOf L y).flatMap fun x => at_ L (x, y)) hi
        have hb2 := fm_len (g := fun x => at_ L (x, y)) hj
        have hb3 : ((ysOf L).flatMap fun y => (xsOf L y).flatMap fun x => at_ L (x, y)).length ≤ 100 := htot
        refine s_append (W0 := ⟨G, H⟩) (W := W8) (A := rStr) (x := ((z, y), a)) (m7.le l8) rfl (by rw [List.length_append]; omega) (e_pair (e_pair (e_var hz rfl) (e_var hy8 rfl)) (e_dget (e_var hd8 rfl) (e_pair (e_var hz rfl) (e_var hy8 rfl)) ha1)) fun W9 ws l9 m9 => ?_
        refine ⟨W9.G, l8.g.trans l9.g, m9.sub, ⟨_, _, rfl⟩, g68.trans l9.g, ?_⟩
        rw [fm_take hj, ha2, ← List.append_assoc]
        exact m9
      · rintro σ' W7 s7 ⟨⟨u3, u7, rfl⟩, g7, m7⟩
        rw [List.take_length] at m7
        refine ⟨W7.G, l6.g.trans g7, s7, ⟨_, _, _, rfl⟩, g26.trans g7, ?_⟩
        rw [fm_take hi]
        exact m7
    · rintro σ' W5 s5 ⟨⟨u3, u6, u7, rfl⟩, g5, m5⟩
      rw [List.take_length] at m5
      exact s_retMu m5 rfl fun v W' l h => q v W' l (by show rL rStr W'.G (inOrder (strandsP x.cell x.os x.N)) v; rw [hL]; exact h)
end
end K53
end

/-! K53L1 -/
section
/-! The law's own defs, first part. -/
namespace K53
open PySem PySem.Spec PyProof.Rows L2

abbrev rWN : Hp → List Nat × Int → V → Prop := rP rW K53.rI
abbrev Q__law_step (P : Program) (w : World) (K : PySem.W.Frag) (mg : Str → Option Value) (base : Heap) (c : Ca) : Prop := Cal P w K mg base 1 "_law_step" (Prm (In1 rC) (fun c => c = 69 ∨ c = 78 ∨ c = 87 ∨ c = 83) rCell stepOf) []
abbrev Q__law_plus (P : Program) (w : World) (K : PySem.W.Frag) (mg : Str → Option Value) (base : Heap) (c : Ca) : Prop := Cal P w K mg base 1 "_law_plus" (Prm (In2 rCell rCell) (fun _ => True) rCell (fun x => plus x.1 x.2)) []
def pathPre (x : Cell × List (List Nat × Int)) : Prop := ∃ w n, x.2 = [(w, n)] ∧ Lets w ∧ 0 ≤ n ∧ n ≤ 100
def pathF (x : Cell × List (List Nat × Int)) : List Cell := match x.2 with
  | [(w, n)] => pathFrom x.1 (rep w n.toNat)
  | _ => []
abbrev Q__law_path (P : Program) (w : World) (K : PySem.W.Frag) (mg : Str → Option Value) (base : Heap) (c : Ca) : Prop := Cal P w K mg base 2 "_law_path" (Prm (In2 rCell (rL rWN)) pathPre (rL rCell) pathF) []
abbrev Q__law_shift (P : Program) (w : World) (K : PySem.W.Frag) (mg : Str → Option Value) (base : Heap) (c : Ca) : Prop := Cal P w K mg base 3 "_law_shift" (Prm (In1 rW) Lets rCell (goal (0, 0))) []
abbrev Q__law_apart (P : Program) (w : World) (K : PySem.W.Frag) (mg : Str → Option Value) (base : Heap) (c : Ca) : Prop := Cal P w K mg base 1 "_law_apart" (Prm (In3 rCell rCell rCell) (fun x => Sm x.2.2 ∧ x.2.2 ≠ (0, 0)) rO (fun x => apart x.1 x.2.1 x.2.2)) []
abbrev Q__law_joined (P : Program) (w : World) (K : PySem.W.Frag) (mg : Str → Option Value) (base : Heap) (c : Ca) : Prop := Cal P w K mg base 1 "_law_joined" (Prm (In1 (rL rPr)) (fun ps => ps.length ≤ 40000) (rL rPr) joinL) []
abbrev Q__law_in_order (P : Program) (w : World) (K : PySem.W.Frag) (mg : Str → Option Value) (base : Heap) (c : Ca) : Prop := Cal P w K mg base 1 "_law_in_order" (Prm (In1 (rL rStr)) (fun L => (L.map (·.1)).Nodup ∧ L.length ≤ 40000) (rL rStr) inOrder) []
abbrev Q__law_cells (P : Program) (w : World) (K : PySem.W.Frag) (mg : Str → Option Value) (base : Heap) (c : Ca) : Prop := Cal P w K mg base 1 "_law_cells" (Prm (In2 (rL rStr) rCell) (fun x => Sm x.2 ∧ (∀ s ∈ x.1, ∀ p ∈ s.2, -1000 ≤ p.1 ∧ p.1 ≤ 1000 ∧ -1000 ≤ p.2 ∧ p.2 ≤ 1000) ∧ (cellsOf x.2 x.1).length ≤ 40000) (rL rCell) (fun x => cellsOf x.2 x.1)) []
section
variable {P : Program} {w : World} {K : PySem.W.Frag} {mg : Str → Option Value} {base : Heap} {c : Ca}
abbrev s__law_step : Stmt := (top 47)
abbrev N__law_step : List Str := ["_law_letter"]
theorem sc__law_step : FnScope N__law_step ["_law_letter"] (defScope s__law_step) := ⟨rfl, rfl, rfl, by decide +kernel, rfl, by decide +kernel, by decide +kernel⟩
theorem c__law_step (B : Bu mg) (D : Dn K mg "_law_step" s__law_step [])  : Q__law_step P w K mg base c := by
  refine D.cal sc__law_step (fun _ _ _ _ _ _ us hl => match us, hl with | [_], _ => rfl) pr_len1 fun f cdv A outer s H vs Q E hr hsp => ⟨_, PSs.nox (pss_one (ps_ret (pe_dget (hu_of hr) (pe_disp (pps_cons pe_str (pe_tup (pa_cons pe_int (pa_cons pe_int pa_nil))) (pps_cons pe_str (pe_tup (pa_cons pe_int (pa_cons pe_int pa_nil))) (pps_cons pe_str (pe_tup (pa_cons (pe_un un_neg pe_int) (pa_cons pe_int pa_nil))) (pps_cons pe_str (pe_tup (pa_cons pe_int (pa_cons (pe_un un_neg pe_int) pa_nil))) pps_nil)))) rfl rfl (by simp) (by decide)) (pv 0) (fun _ _ => rfl)))), ?_⟩
  obtain ⟨G, x, sb, ⟨v, e, hv⟩, hp, q⟩ := hsp
  subst e
  exact s_ret (W := ⟨G, H⟩) sb (e_steps (e_var hv rfl) hp) q
abbrev s__law_plus : Stmt := (top 48)
abbrev N__law_plus : List Str := ["_law_one", "_law_other"]
theorem sc__law_plus : FnScope N__law_plus ["_law_one", "_law_other"] (defScope s__law_plus) := ⟨rfl, rfl, rfl, by decide +kernel, rfl, by decide +kernel, by decide +kernel⟩
theorem c__law_plus (B : Bu mg) (D : Dn K mg "_law_plus" s__law_plus [])  : Q__law_plus P w K mg base c := by
  refine D.cal sc__law_plus (fun _ _ _ _ _ _ us hl => match us, hl with | [_, _], _ => rfl) pr_len2 fun f cdv A outer s H vs Q E hr hsp => ⟨_, PSs.nox (pss_one (ps_ret (pe_tup (pa_cons (pe_op op_add (pe_ix (ix_tupK (K := K) rfl) (pv 0) pe_int (fun _ _ => rfl)) (pe_ix (ix_tupK (K := K) rfl) (pv 1) pe_int (fun _ _ => rfl))) (pa_cons (pe_op op_add (pe_ix (ix_tupK (K := K) rfl) (pv 0) pe_int (fun _ _ => rfl)) (pe_ix (ix_tupK (K := K) rfl) (pv 1) pe_int (fun _ _ => rfl))) pa_nil))))), ?_⟩
  obtain ⟨G, x, sb, ⟨v, v2, e, hv, hv2⟩, hp, q⟩ := hsp
  subst e
  exact s_ret (W := ⟨G, H⟩) sb (e_pair (e_add (e_fst' (e_var hv rfl)) (e_fst' (e_var hv2 rfl))) (e_add (e_snd' (e_var hv rfl)) (e_snd' (e_var hv2 rfl)))) q
theorem rep_lets {w : List Nat} {n : Nat} (h : Lets w) : ∀ c ∈ rep w n, c = 69 ∨ c = 78 ∨ c = 87 ∨ c = 83 := by
  induction n with
  | zero => intro c hc; simp [rep] at hc
  | succ n ih =>
    intro c hc
    rw [rep_succ, List.mem_append] at hc
    rcases hc with hc | hc
    · exact h.2.2 c hc
    · exact ih c hc
theorem rep_len (w : List Nat) (n : Nat) : (rep w n).length = w.length * n := by
  induction n with
  | zero => simp [rep]
  | succ n ih => rw [rep_succ, List.length_append, ih, Nat.mul_succ]; omega
theorem rep_one (w : List Nat) : rep w 1 = w := by simp [rep]
abbrev s__law_path : Stmt := (top 49)
abbrev N__law_path : List Str := ["_law_cell_here", "_law_parts", "_law_found", "_law_word_here", "_law_times", "_law_letter"]
theorem sc__law_path : FnScope N__law_path ["_law_cell_here", "_law_parts"] (defScope s__law_path) := ⟨rfl, rfl, rfl, by decide +kernel, rfl, by decide +kernel, by decide +kernel⟩
theorem c__law_path (B : Bu mg) (D : Dn K mg "_law_path" s__law_path []) (G__law_plus : Q__law_plus P w K mg base c) (G__law_step : Q__law_step P w K mg base c) : Q__law_path P w K mg base c := by
  refine D.cal sc__law_path (fun _ _ _ _ _ _ us hl => match us, hl with | [_, _], _ => rfl) pr_len2 fun f cdv A outer s H vs Q E hr hsp => ⟨_, PSs.nox (pss_cons (ps_set (i := 2) sc__law_path.nd rfl (Or.inl rfl) (pe_lst (pa_cons (pv 0) pa_nil))) (pss_cons (ps_for PassesOwn.never rfl (pi_list (pv 1)) (pg_tupK (K := K) (n := 2) rfl rfl (pgs_cons (pg_name (i := 3) sc__law_path.nd rfl (Or.inl rfl)) (pgs_cons (pg_name (i := 4) sc__law_path.nd rfl (Or.inl rfl)) pgs_nil))) (pss_one (ps_for PassesOwn.never rfl (pi_str (pe_op op_rep_str (pv 3) (pv 4))) (pg_name (i := 5) sc__law_path.nd rfl (Or.inl rfl)) (pss_one (ps_expr (pe_bm PySem.F.plainAttrs_list PySem.F.slot_list_append PySem.F.type_list_append mt_append (pv 2) (pa_cons (pe_cal G__law_plus hr (by decide) (by rfl) (pa_cons (pe_ix (ix_listK (K := K) rfl) (pv 2) (pe_un un_neg pe_int) (fun _ _ => rfl)) (pa_cons (pe_cal G__law_step hr (by decide) (by rfl) (pa_cons (pv 5) pa_nil)) pa_nil))) pa_nil))))))) (pss_one (ps_ret (pv 2))))), ?_⟩
  obtain ⟨G, x, sb, ⟨v, v2, e, hv, hv2⟩, hp, q⟩ := hsp
  subst e
  obtain ⟨cell, parts⟩ := x
  obtain ⟨w', n, e1, hw, hn0, hn1⟩ := hp
  dsimp only at hv hv2 e1
  subst e1
  have hwl := hw.2.1
  have hlen : w'.length * n.toNat ≤ 2400 := by
    have : n.toNat ≤ 100 := by omega
    exact Nat.le_trans (Nat.mul_le_mul hwl this) (by decide)
  refine s_newlist (W0 := ⟨G, H⟩) (W := ⟨G, H⟩) (A := rCell) (xs := [cell]) (Le.refl sb) (ea_cons (e_var hv rfl) ea_nil) (by simp) fun p W1 ws l1 hp1 m => ?_
  dsimp only
  refine s_for (xs := [(w', n)]) (W := ⟨W1.G, upd W1.H p (.lst ws)⟩) (A := rWN) (fun i σ W => (∃ u1 u2 u3, σ = [some v, some v2, some (.ref p), u1, u2, u3]) ∧ Mu rCell ⟨G, H⟩ W (pathFrom cell (if i = 0 then [] else rep w' n.toNat)) p) m.l.s (ig_list (e_var (Mn.mn l1.g hv2) rfl)) (fun W2 l => ⟨⟨none, none, none, rfl⟩, m.le l⟩) ?_ ?_
  · rintro i pr va σ' W' W4 hi ⟨⟨u1, u2, u3, rfl⟩, m'⟩ s' l4 ha
    have hi0 : i = 0 := by have := lt_of_get hi; simp at this; exact this
    subst hi0
    simp at hi
    subst hi
    refine g_pair (K := K) (p := (w', n)) (W := W4) l4.s ha fun a b h1 h2 => ?_
    have m4 := m'.le l4
    show tFor _ _ _ _ _ _
    refine s_for (xs := rep w' n.toNat) (W := W4) (A := rC) (fun j σ W => (∃ u3, σ = [some v, some v2, some (.ref p), some a, some b, u3]) ∧ Same W4.G W.G ∧ Mu rCell ⟨G, H⟩ W (pathFrom cell ((rep w' n.toNat).take j)) p) l4.s (ig_strW (e_repW (e_var h1 rfl) (e_var h2 rfl) ⟨hn0, by omega⟩ (by omega))) (fun W2 l => ⟨⟨u3, rfl⟩, l.g, m4.le l⟩) ?_ ?_
    · rintro j x vx σ' W5 W6 hj ⟨⟨u3, rfl⟩, g5, m5⟩ s5 l6 hx
      have hlt := lt_of_get hj
      have hl2 : ((rep w' n.toNat).take j).length = j := by rw [List.length_take]; omega
      have hrl : (rep w' n.toNat).length ≤ 2400 := by rw [rep_len]; omega
      have hlast : (pathFrom cell ((rep w' n.toNat).take j))[(pathFrom cell ((rep w' n.toNat).take j)).length - 1]? = some (goal cell ((rep w' n.toNat).take j)) := by
        rw [pathFrom_len]
        exact pathFrom_last _ _
      refine s_append (W0 := ⟨G, H⟩) (W := W6) (A := rCell) (m5.le l6) rfl (by rw [pathFrom_len]; omega) (e_call2 (e_muLast (m5.le l6) rfl hlast) (e_call1 (e_var hx rfl) (rep_lets hw x (List.mem_of_getElem? hj))) trivial) fun W7 ws l7 m7 => ?_
      refine ⟨W7.G, l6.g.trans l7.g, m7.sub, ⟨_, rfl⟩, (g5.trans l6.g).trans l7.g, ?_⟩
      rw [take_snoc hj, pathFrom_snoc]
      exact m7
    · rintro σ' W5 s5 ⟨⟨u3, rfl⟩, g5, m5⟩
      rw [List.take_length] at m5
      exact ⟨W5.G, l4.g.trans g5, s5, ⟨_, _, _, rfl⟩, m5⟩
  · rintro σ' W' s' ⟨⟨u1, u2, u3, rfl⟩, m'⟩
    exact s_retMu m' rfl q
theorem e_path {σ : L2.St} {W : Wd} {ta tw tn : TE} {cell : Cell} {w' : List Nat} {n : Int} (ha : Ev ta σ W rCell cell) (hw : Ev tw σ W rW w') (hn : Ev tn σ W K53.rI n) (hl : Lets w') (h0 : 0 ≤ n) (h1 : n ≤ 100) :
    Ev (tCall (Prm (In2 rCell (rL rWN)) pathPre (rL rCell) pathF) [] E0 (tCons ta (tCons (tLst (tCons (tTup (tCons tw (tCons tn tNil))) tNil)) tNil))) σ W (rL rCell) (pathFrom cell (rep w' n.toNat)) :=
  e_call2 (f := pathF) (x := cell) (y := [(w', n)]) ha (e_lst (ea_cons (e_pair hw hn) ea_nil) (by simp)) ⟨w', n, rfl, hl, h0, h1⟩
theorem e_path1 {σ : L2.St} {W : Wd} {ta tw : TE} {cell : Cell} {w' : List Nat} (ha : Ev ta σ W rCell cell) (hw : Ev tw σ W rW w') (hl : Lets w') :
    Ev (tCall (Prm (In2 rCell (rL rWN)) pathPre (rL rCell) pathF) [] E0 (tCons ta (tCons (tLst (tCons (tTup (tCons tw (tCons (tC (.int 1)) tNil))) tNil)) tNil))) σ W (rL rCell) (pathFrom cell w') :=
  e_is (e_path ha hw e_int hl (by decide) (by decide)) (by rw [show (1 : Int).toNat = 1 from rfl, rep_one])
abbrev s__law_shift : Stmt := (top 52)
abbrev N__law_shift : List Str := ["_law_word_here"]
theorem sc__law_shift : FnScope N__law_shift ["_law_word_here"] (defScope s__law_shift) := ⟨rfl, rfl, rfl, by decide +kernel, rfl, by decide +kernel, by decide +kernel⟩
theorem c__law_shift (B : Bu mg) (D : Dn K mg "_law_shift" s__law_shift []) (G__law_path : Q__law_path P w K mg base c) : Q__law_shift P w K mg base c := by
  refine D.cal sc__law_shift (fun _ _ _ _ _ _ us hl => match us, hl with | [_], _ => rfl) pr_len1 fun f cdv A outer s H vs Q E hr hsp => ⟨_, PSs.nox (pss_one (ps_ret (pe_ix (ix_listK (K := K) rfl) (pe_cal G__law_path hr (by decide) (by rfl) (pa_cons (pe_tup (pa_cons pe_int (pa_cons pe_int pa_nil))) (pa_cons (pe_lst (pa_cons (pe_tup (pa_cons (pv 0) (pa_cons pe_int pa_nil))) pa_nil)) pa_nil))) (pe_un un_neg pe_int) (fun _ _ => rfl)))), ?_⟩
  obtain ⟨G, x, sb, ⟨v, e, hv⟩, hp, q⟩ := hsp
  subst e
  refine s_ret (W := ⟨G, H⟩) (A := rCell) (x := goal (0, 0) x) sb ?_ q
  refine e_lastL (xs := pathFrom (0, 0) x) ?_ (by rw [pathFrom_len]; exact pathFrom_last _ _)
  exact e_path1 (e_pair e_int e_int) (e_var hv rfl) hp
theorem e_pick {σ : L2.St} {W : Wd} {ta tb : TE} {i : Int} {b : Bool} (ha : Ev ta σ W K53.rI i) (hb : Ev tb σ W rB b) : Ev (tOp (rIxL K) (tLst (tCons ta (tCons (tC .non) tNil))) (tCB rInt1 (tCons tb tNil))) σ W rO (if b then none else some i) := by
  cases b with
  | true => exact e_ixL (k := 1) (e_lst (A := rO) (xs := [some i, none]) (ea_cons (e_someI ha) (ea_cons e_non ea_nil)) (by simp)) (e_is (e_intB hb) rfl) rfl
  | false => exact e_ixL (k := 0) (e_lst (A := rO) (xs := [some i, none]) (ea_cons (e_someI ha) (ea_cons e_non ea_nil)) (by simp)) (e_is (e_intB hb) rfl) rfl
abbrev s__law_apart : Stmt := (top 53)
abbrev N__law_apart : List Str := ["_law_one", "_law_other", "_law_shift_here", "_law_x", "_law_y"]
theorem sc__law_apart : FnScope N__law_apart ["_law_one", "_law_other", "_law_shift_here"] (defScope s__law_apart) := ⟨rfl, rfl, rfl, by decide +kernel, rfl, by decide +kernel, by decide +kernel⟩
theorem c__law_apart (B : Bu mg) (D : Dn K mg "_law_apart" s__law_apart [])  : Q__law_apart P w K mg base c := by
  refine D.cal sc__law_apart (fun _ _ _ _ _ _ us hl => match us, hl with | [_, _, _], _ => rfl) pr_len3 fun f cdv A outer s H vs Q E hr hsp => ⟨_, PSs.nox (pss_cons (ps_set (i := 3) sc__law_apart.nd rfl (Or.inl rfl) (pe_op op_sub (pe_ix (ix_tupK (K := K) rfl) (pv 1) pe_int (fun _ _ => rfl)) (pe_ix (ix_tupK (K := K) rfl) (pv 0) pe_int (fun _ _ => rfl)))) (pss_cons (ps_set (i := 4) sc__law_apart.nd rfl (Or.inl rfl) (pe_op op_sub (pe_ix (ix_tupK (K := K) rfl) (pv 1) pe_int (fun _ _ => rfl)) (pe_ix (ix_tupK (K := K) rfl) (pv 0) pe_int (fun _ _ => rfl)))) (pss_cons (ps_if (pt_cmpR op_ne (pe_op op_mul (pv 3) (pe_ix (ix_tupK (K := K) rfl) (pv 2) pe_int (fun _ _ => rfl))) (pe_op op_mul (pv 4) (pe_ix (ix_tupK (K := K) rfl) (pv 2) pe_int (fun _ _ => rfl))) (nomark _)) (pss_one (ps_ret pe_non)) pss_nil) (pss_cons (ps_if (pt_cmpR op_ne (pe_ix (ix_tupK (K := K) rfl) (pv 2) pe_int (fun _ _ => rfl)) pe_int (nomark _)) (pss_one (ps_ret (pe_ix (ix_listK (K := K) rfl) (pe_lst (pa_cons (pe_op op_fdivN (pv 3) (pe_ix (ix_tupK (K := K) rfl) (pv 2) pe_int (fun _ _ => rfl))) (pa_cons pe_non pa_nil))) (pe_callTy call_int1 (by rfl) B.int_ (by decide +kernel) (pa_cons (pe_cmpR op_ne (pe_op op_modN (pv 3) (pe_ix (ix_tupK (K := K) rfl) (pv 2) pe_int (fun _ _ => rfl))) pe_int (nomark _)) pa_nil)) (fun _ _ => rfl)))) pss_nil) (pss_one (ps_ret (pe_ix (ix_listK (K := K) rfl) (pe_lst (pa_cons (pe_op op_fdivN (pv 4) (pe_ix (ix_tupK (K := K) rfl) (pv 2) pe_int (fun _ _ => rfl))) (pa_cons pe_non pa_nil))) (pe_callTy call_int1 (by rfl) B.int_ (by decide +kernel) (pa_cons (pe_cmpR op_ne (pe_op op_modN (pv 4) (pe_ix (ix_tupK (K := K) rfl) (pv 2) pe_int (fun _ _ => rfl))) pe_int (nomark _)) pa_nil)) (fun _ _ => rfl)))))))), ?_⟩
  obtain ⟨G, x, sb, ⟨v, v2, v3, e, hv, hv2, hv3⟩, hp, q⟩ := hsp
  subst e
  obtain ⟨a, b, s'⟩ := x
  obtain ⟨⟨k1, k2, k3, k4⟩, hne⟩ := hp
  dsimp only at hv hv2 hv3 k1 k2 k3 k4 hne
  refine s_set (W := ⟨G, H⟩) (A := K53.rI) (x := b.1 - a.1) sb (e_sub' (e_fst' (e_var hv2 rfl)) (e_fst' (e_var hv rfl))) fun vx W1 l1 hx => ?_
  dsimp only
  refine s_set (W := W1) (A := K53.rI) (x := b.2 - a.2) l1.s (e_sub' (e_snd' (e_var (Mn.mn l1.g hv2) rfl)) (e_snd' (e_var (Mn.mn l1.g hv) rfl))) fun vy W2 l2 hy => ?_
  have hx2 := Mn.mn l2.g hx
  have hs2 := Mn.mn (l1.g.trans l2.g) hv3
  dsimp only
  refine s_if (W := W2) (b := !decide ((b.1 - a.1) * s'.2 = (b.2 - a.2) * s'.1)) l2.s (t_test (e_neI (e_mul (e_var hx2 rfl) (e_snd' (e_var hs2 rfl)) (.inr ⟨by omega, by omega⟩)) (e_mul (e_var hy rfl) (e_fst' (e_var hs2 rfl)) (.inr ⟨by omega, by omega⟩)))) (fun z W3 l3 => ?_) (fun z W3 l3 => ?_)
  · have z : (b.1 - a.1) * s'.2 ≠ (b.2 - a.2) * s'.1 := by simpa using z
    refine s_ret (W := W3) (A := rO) (x := none) l3.s e_non fun v W'' l4 h => q v W'' (((l1.trans l2).trans l3).trans l4) ?_
    show rO W''.G (apart a b s') v
    unfold apart
    rw [if_pos z]
    exact h
  · have z : ¬ (b.1 - a.1) * s'.2 ≠ (b.2 - a.2) * s'.1 := by simpa using z
    have hx3 := Mn.mn l3.g hx2
    have hy3 := Mn.mn l3.g hy
    have hs3 := Mn.mn l3.g hs2
    refine s_if (W := W3) (b := !decide (s'.1 = 0)) l3.s (t_test (e_neI (e_fst' (e_var hs3 rfl)) e_int)) (fun z2 W4 l4 => ?_) (fun z2 W4 l4 => ?_)
    · have z2 : s'.1 ≠ 0 := by simpa using z2
      refine s_ret (W := W4) (A := rO) (x := if (!decide ((b.1 - a.1).fmod s'.1 = 0)) then none else some ((b.1 - a.1).fdiv s'.1)) l4.s ?_ fun v W'' l5 h => q v W'' ((((l1.trans l2).trans l3).trans l4).trans l5) ?_
      · exact e_pick (e_fdiv (e_var (Mn.mn l4.g hx3) rfl) (e_fst' (e_var (Mn.mn l4.g hs3) rfl)) ⟨z2, by omega⟩) (e_neI (e_fmod (e_var (Mn.mn l4.g hx3) rfl) (e_fst' (e_var (Mn.mn l4.g hs3) rfl)) z2) e_int)
      · show rO W''.G (apart a b s') v
        unfold apart
        rw [if_neg z, if_pos z2]
        simpa using h
    · have z2 : ¬ s'.1 ≠ 0 := by simpa using z2
      have z3 : s'.2 ≠ 0 := by rcases vne hne with y | y; exact absurd y z2; exact y
      unfold tNext
      dsimp only
      refine s_ret (W := W4) (A := rO) (x := if (!decide ((b.2 - a.2).fmod s'.2 = 0)) then none else some ((b.2 - a.2).fdiv s'.2)) l4.s ?_ fun v W'' l5 h => q v W'' ((((l1.trans l2).trans l3).trans l4).trans l5) ?_
      · exact e_pick (e_fdiv (e_var (Mn.mn l4.g hy3) rfl) (e_snd' (e_var (Mn.mn l4.g hs3) rfl)) ⟨z3, by omega⟩) (e_neI (e_fmod (e_var (Mn.mn l4.g hy3) rfl) (e_snd' (e_var (Mn.mn l4.g hs3) rfl)) z3) e_int)
      · show rO W''.G (apart a b s') v
        unfold apart
        rw [if_neg z, if_neg z2]
        simpa using h
abbrev s__law_joined : Stmt := (top 54)
abbrev N__law_joined : List Str := ["_law_pairs", "_law_found", "_law_low", "_law_high", "_law_pair"]
theorem sc__law_joined : FnScope N__law_joined ["_law_pairs"] (defScope s__law_joined) := ⟨rfl, rfl, rfl, by decide +kernel, rfl, by decide +kernel, by decide +kernel⟩
theorem c__law_joined (B : Bu mg) (D : Dn K mg "_law_joined" s__law_joined [])  : Q__law_joined P w K mg base c := by
  refine D.cal sc__law_joined (fun _ _ _ _ _ _ us hl => match us, hl with | [_], _ => rfl) pr_len1 fun f cdv A outer s H vs Q E hr hsp => ⟨_, PSs.nox (pss_cons (ps_set (i := 1) sc__law_joined.nd rfl (Or.inl rfl) (pe_lst pa_nil)) (pss_cons (ps_for PassesOwn.never rfl (pi_list (pe_callB cr_sortedI (by rfl) B.sorted_ (by decide +kernel) (pa_cons (pe_lc (own := [("_law_pair", 4)]) rfl sc__law_joined.nd (pi_list (pv 0)) (blkOk_by (N := N__law_joined) (sc := defScope s__law_joined) (by decide +kernel)) (fun _ _ _ _ _ => (pg_name (i := 4) sc__law_joined.nd rfl (Or.inl rfl))) (fun _ _ _ _ _ => pts_nil) (fun _ _ _ _ _ => (pe_callTy call_int1 (by rfl) B.int_ (by decide +kernel) (pa_cons (pe_ix (ix_tupK (K := K) rfl) (pv 4) pe_int (fun _ _ => rfl)) pa_nil)))) pa_nil))) (pg_name (i := 2) sc__law_joined.nd rfl (Or.inr rfl)) (pss_cons (ps_set (i := 3) sc__law_joined.nd rfl (Or.inl rfl) (pe_callB (cr_max rfl) (by rfl) B.max_ (by decide +kernel) (pa_cons (pe_lc (own := [("_law_pair", 4)]) rfl sc__law_joined.nd (pi_list (pv 0)) (blkOk_by (N := N__law_joined) (sc := defScope s__law_joined) (by decide +kernel)) (fun _ _ _ _ _ => (pg_name (i := 4) sc__law_joined.nd rfl (Or.inl rfl))) (fun _ _ _ _ _ => (pts_one (pt_cmpR op_eq (pe_ix (ix_tupK (K := K) rfl) (pv 4) pe_int (fun _ _ => rfl)) (pv 2) (nomark _)))) (fun _ _ _ _ _ => (pe_callTy call_int1 (by rfl) B.int_ (by decide +kernel) (pa_cons (pe_ix (ix_tupK (K := K) rfl) (pv 4) pe_int (fun _ _ => rfl)) pa_nil)))) pa_nil))) (pss_one (ps_if (PW.pt (pw_and (pt_cmpR (op_neDK (K := K) rfl hr.units) (pv 1) (pe_lst pa_nil) (nomark _)) (pw_and1 (pt_cmpR op_le (pv 2) (pe_ix (ix_tupK (K := K) rfl) (pe_ix (ix_listK (K := K) rfl) (pv 1) (pe_un un_neg pe_int) (fun _ _ => rfl)) pe_int (fun _ _ => rfl)) (nomark _))))) (pss_one (ps_asg (pe_tup (pa_cons (pe_ix (ix_tupK (K := K) rfl) (pe_ix (ix_listK (K := K) rfl) (pv 1) (pe_un un_neg pe_int) (fun _ _ => rfl)) pe_int (fun _ _ => rfl)) (pa_cons (pe_callB (call_max2 rfl) (by rfl) B.max_ (by decide +kernel) (pa_cons (pe_callTy call_int1 (by rfl) B.int_ (by decide +kernel) (pa_cons (pe_ix (ix_tupK (K := K) rfl) (pe_ix (ix_listK (K := K) rfl) (pv 1) (pe_un un_neg pe_int) (fun _ _ => rfl)) pe_int (fun _ _ => rfl)) pa_nil)) (pa_cons (pe_callTy call_int1 (by rfl) B.int_ (by decide +kernel) (pa_cons (pv 3) pa_nil)) pa_nil))) pa_nil))) (pg_sub (pv 1) (pe_un un_neg pe_int) set_list))) (pss_one (ps_expr (pe_bm PySem.F.plainAttrs_list PySem.F.slot_list_append PySem.F.type_list_append mt_append (pv 1) (pa_cons (pe_tup (pa_cons (pv 2) (pa_cons (pv 3) pa_nil))) pa_nil)))))))) (pss_one (ps_ret (pv 1))))), ?_⟩
  obtain ⟨G, x, sb, ⟨v, e, hv⟩, hp, q⟩ := hsp
  subst e
  have hp : x.length ≤ 40000 := hp
  have hsl : ((sortI (x.map (·.1))).map fun l => (l, highAt x l)).length = x.length := by rw [List.length_map, (sortI_perm _).length_eq, List.length_map]
  refine s_newlist (W0 := ⟨G, H⟩) (W := ⟨G, H⟩) (A := rPr) (xs := []) (Le.refl sb) ea_nil (by decide) fun p W1 ws l1 hp1 m => ?_
  have hv1 := Mn.mn l1.g hv
  dsimp only
  refine s_for (xs := sortI (x.map (·.1))) (W := ⟨W1.G, upd W1.H p (.lst ws)⟩) (A := K53.rI) (fun i σ W => (∃ u1 u2 u3, σ = [some v, some (.ref p), u1, u2, u3]) ∧ Same W1.G W.G ∧ Mu rPr ⟨G, H⟩ W (join (((sortI (x.map (·.1))).map fun l => (l, highAt x l)).take i)) p) m.l.s ?_ (fun W1 l => ⟨⟨none, none, none, rfl⟩, l.g, m.le l⟩) ?_ ?_
  · exact ig_list (e_sorted (e_lcn1 (A := rPr) (fun p : Pr => p.1) (ig_list (xs := x) (e_var (W := ⟨W1.G, upd W1.H p (.lst ws)⟩) hv1 rfl)).w hp fun y vy W2 hy l hy2 => e_intI (e_fst' (e_var hy2 rfl))))
  · rintro i lo va σ' W' W4 hi ⟨⟨u1, u2, u3, rfl⟩, gW, m'⟩ s' l4 ha
    have hi2 : ((sortI (x.map (·.1))).map fun l => (l, highAt x l))[i]? = some (lo, highAt x lo) := by rw [List.getElem?_map, hi]; rfl
    have hlt := lt_of_get hi2
    rw [hsl] at hlt
    have g4 := gW.trans l4.g
    have hmem : lo ∈ x.map (·.1) := (sortI_perm _).mem_iff.mp (List.mem_of_getElem? hi)
    have hne : ((x.filter fun p => decide (p.1 = lo)).map fun p => p.2) ≠ [] := by
      obtain ⟨p', h1, h2⟩ := List.mem_map.mp hmem
      exact List.ne_nil_of_mem (List.mem_map.mpr ⟨p', List.mem_filter.mpr ⟨h1, by simpa using h2⟩, rfl⟩)
    show tSeq _ _ _ _ _
    refine s_set (W := W4) (A := K53.rI) (x := highAt x lo) l4.s ?_ fun vh W5 l5 hh => ?_
    · exact e_max (e_lcn (A := rPr) (fun p : Pr => decide (p.1 = lo)) (fun p : Pr => p.2) (ig_list (xs := x) (e_var (Mn.mn g4 hv1) rfl)).w hp fun y vy W2 hy l hy2 => ⟨t_test (e_eqI (e_fst' (e_var hy2 rfl)) (e_var (Mn.mn l.g ha) rfl)), fun _ => e_intI (e_snd' (e_var hy2 rfl))⟩) hne
    have m5 := (m'.le l4).le l5
    have ha5 := Mn.mn l5.g ha
    rw [take_snoc hi2, join_snoc]
    have hln := join_len _ (((sortI (x.map (·.1))).map fun l => (l, highAt x l)).take i) rfl
    rw [List.length_take] at hln
    generalize join (((sortI (x.map (·.1))).map fun l => (l, highAt x l)).take i) = acc at m5 hln
    generalize highAt x lo = hg at hh
    dsimp only
    cases hacc : acc.getLast? with
    | none =>
      have : acc = [] := List.getLast?_eq_none_iff.mp hacc
      subst this
      refine s_if (W := W5) (b := false) l5.s (t_is (t_and (t_test (e_muNe m5 rfl (by decide))) (b := false) fun z => by cases z) rfl) (fun z => by cases z) fun _ W6 l6 => ?_
      refine s_append (W0 := ⟨G, H⟩) (W := W6) (A := rPr) (m5.le l6) rfl (by simp) (e_pair (e_var (Mn.mn l6.g ha5) rfl) (e_var (Mn.mn l6.g hh) rfl)) fun W7 ws l7 m7 => ⟨W7.G, ((l4.g.trans l5.g).trans l6.g).trans l7.g, m7.sub, ⟨_, _, _, rfl⟩, ((g4.trans l5.g).trans l6.g).trans l7.g, m7⟩
    | some cc =>
      have hne : acc ≠ [] := fun z => by rw [z] at hacc; cases hacc
      have hget := last_get hacc
      refine s_if (W := W5) (b := decide (lo ≤ cc.2)) l5.s (t_is (t_and (t_test (e_muNe m5 rfl (by decide))) fun _ => t_test (e_le (e_var ha5 rfl) (e_snd' (e_muLast m5 rfl hget)))) (by simp [hne])) (fun z W6 l6 => ?_) (fun z W6 l6 => ?_)
      · have z : lo ≤ cc.2 := of_decide_eq_true z
        have m6 := m5.le l6
        refine s_setLast (W0 := ⟨G, H⟩) (W := W6) (A := rPr) (x := (cc.1, max cc.2 hg)) m6 rfl hne (e_pair (e_fst' (e_muLast m6 rfl hget)) (e_max2 (e_intI (e_snd' (e_muLast m6 rfl hget))) (e_intI (e_var (Mn.mn l6.g hh) rfl)))) fun W7 ws l7 m7 => ⟨W7.G, ((l4.g.trans l5.g).trans l6.g).trans l7.g, m7.sub, ⟨_, _, _, rfl⟩, ((g4.trans l5.g).trans l6.g).trans l7.g, ?_⟩
        unfold joinStep
        rw [hacc]
        dsimp only
        rw [if_pos z]
        exact m7
      · have z : ¬ lo ≤ cc.2 := of_decide_eq_false z
        refine s_append (W0 := ⟨G, H⟩) (W := W6) (A := rPr) (m5.le l6) rfl (by omega) (e_pair (e_var (Mn.mn l6.g ha5) rfl) (e_var (Mn.mn l6.g hh) rfl)) fun W7 ws l7 m7 => ⟨W7.G, ((l4.g.trans l5.g).trans l6.g).trans l7.g, m7.sub, ⟨_, _, _, rfl⟩, ((g4.trans l5.g).trans l6.g).trans l7.g, ?_⟩
        unfold joinStep
        rw [hacc]
        dsimp only
        rw [if_neg z]
        exact m7
  · rintro σ' W' s' ⟨⟨u1, u2, u3, rfl⟩, gW, m'⟩
    have e : (sortI (x.map (·.1))).length = ((sortI (x.map (·.1))).map fun l => (l, highAt x l)).length := by rw [List.length_map]
    rw [e, List.take_length] at m'
    exact s_retMu m' rfl q
end
end K53
end

/-! K53L2a -/
section
/-! The law's own defs: in order, cells. -/
namespace K53
open PySem PySem.Spec PyProof.Rows L2
section
variable {P : Program} {w : World} {K : PySem.W.Frag} {mg : Str → Option Value} {base : Heap} {c : Ca}
abbrev s__law_in_order : Stmt := (top 56)
abbrev N__law_in_order : List Str := ["_law_found", "_law_told", "_law_rows", "_law_y", "_law_x", "_law_one", "_law_row"]
theorem sc__law_in_order : FnScope N__law_in_order ["_law_found"] (defScope s__law_in_order) := ⟨rfl, rfl, rfl, by decide +kernel, rfl, by decide +kernel, by decide +kernel⟩
theorem c__law_in_order (B : Bu mg) (D : Dn K mg "_law_in_order" s__law_in_order [])  : Q__law_in_order P w K mg base c := by
  refine D.cal sc__law_in_order (fun _ _ _ _ _ _ us hl => match us, hl with | [_], _ => rfl) pr_len1 fun f cdv A outer s H vs Q E hr hsp => ⟨_, PSs.nox (pss_cons (ps_set (i := 1) sc__law_in_order.nd rfl (Or.inl rfl) (pe_lst pa_nil)) (pss_cons (ps_set (i := 2) sc__law_in_order.nd rfl (Or.inl rfl) (pe_callTy (call_dictP rfl) (by rfl) B.dict_ (by decide +kernel) (pa_cons (pe_lc (own := [("_law_one", 5)]) rfl sc__law_in_order.nd (pi_list (pv 0)) (blkOk_by (N := N__law_in_order) (sc := defScope s__law_in_order) (by decide +kernel)) (fun _ _ _ _ _ => (pg_name (i := 5) sc__law_in_order.nd rfl (Or.inl rfl))) (fun _ _ _ _ _ => pts_nil) (fun _ _ _ _ _ => (pe_tup (pa_cons (pe_ix (ix_tupK (K := K) rfl) (pe_ix (ix_tupK (K := K) rfl) (pv 5) pe_int (fun _ _ => rfl)) pe_int (fun _ _ => rfl)) (pa_cons pe_int pa_nil))))) pa_nil))) (pss_cons (ps_for PassesOwn.never rfl (pi_list (pe_callB cr_sortedI (by rfl) B.sorted_ (by decide +kernel) (pa_cons (pe_lc (own := [("_law_row", 6)]) rfl sc__law_in_order.nd (pi_keys (pe_lk (pv 2))) (blkOk_by (N := N__law_in_order) (sc := defScope s__law_in_order) (by decide +kernel)) (fun _ _ _ _ _ => (pg_name (i := 6) sc__law_in_order.nd rfl (Or.inl rfl))) (fun _ _ _ _ _ => pts_nil) (fun _ _ _ _ _ => (pe_callTy call_int1 (by rfl) B.int_ (by decide +kernel) (pa_cons (pv 6) pa_nil)))) pa_nil))) (pg_name (i := 3) sc__law_in_order.nd rfl (Or.inr rfl)) (pss_one (ps_for PassesOwn.never rfl (pi_list (pe_callB cr_sortedI (by rfl) B.sorted_ (by decide +kernel) (pa_cons (pe_lc (own := [("_law_one", 5)]) rfl sc__law_in_order.nd (pi_list (pv 0)) (blkOk_by (N := N__law_in_order) (sc := defScope s__law_in_order) (by decide +kernel)) (fun _ _ _ _ _ => (pg_name (i := 5) sc__law_in_order.nd rfl (Or.inl rfl))) (fun _ _ _ _ _ => (pts_one (pt_cmpR op_eq (pe_ix (ix_tupK (K := K) rfl) (pe_ix (ix_tupK (K := K) rfl) (pv 5) pe_int (fun _ _ => rfl)) pe_int (fun _ _ => rfl)) (pv 3) (nomark _)))) (fun _ _ _ _ _ => (pe_callTy call_int1 (by rfl) B.int_ (by decide +kernel) (pa_cons (pe_ix (ix_tupK (K := K) rfl) (pe_ix (ix_tupK (K := K) rfl) (pv 5) pe_int (fun _ _ => rfl)) pe_int (fun _ _ => rfl)) pa_nil)))) pa_nil))) (pg_name (i := 4) sc__law_in_order.nd rfl (Or.inr rfl)) (pss_one (ps_set (i := 1) sc__law_in_order.nd rfl (Or.inl rfl) (pe_op op_cat (pv 1) (pe_lc (own := [("_law_one", 5)]) rfl sc__law_in_order.nd (pi_list (pv 0)) (blkOk_by (N := N__law_in_order) (sc := defScope s__law_in_order) (by decide +kernel)) (fun _ _ _ _ _ => (pg_name (i := 5) sc__law_in_order.nd rfl (Or.inl rfl))) (fun _ _ _ _ _ => (pts_one (pt_cmpR (op_eqDK (K := K) rfl hr.units) (pe_ix (ix_tupK (K := K) rfl) (pv 5) pe_int (fun _ _ => rfl)) (pe_tup (pa_cons (pv 4) (pa_cons (pv 3) pa_nil))) (nomark _)))) (fun _ _ _ _ _ => (pv 5))))))))) (pss_one (ps_ret (pv 1)))))), ?_⟩
  obtain ⟨G, x, sb, ⟨v, e, hv⟩, hp, q⟩ := hsp
  subst e
  obtain ⟨hnd, hlen⟩ := hp
  have htot : (inOrder x).length ≤ 40000 := by rw [(inOrder_perm x hnd).length_eq]; exact hlen
  refine s_set (W := ⟨G, H⟩) (A := rL rStr) (x := []) sb (e_lst ea_nil (by decide)) fun vt W1 l1 ht => ?_
  dsimp only
  refine s_set (W := W1) (A := rKI) (x := dedup ((x.map fun s => (s.1.2, (0 : Int))).map (·.1))) l1.s ?_ fun vr W2 l2 hr2 => ?_
  · exact e_dictI (e_lcn1 (A := rStr) (fun s : Cell × List Pr => (s.1.2, (0 : Int))) (Ig.w (ig_list (xs := x) (e_var (Mn.mn l1.g hv) rfl))) hlen fun y vy W3 hy l hy2 => e_pair (e_snd' (e_fst' (e_var hy2 rfl))) e_int)
  have eys : sortI (dedup ((x.map fun s => (s.1.2, (0 : Int))).map (·.1))) = ysOf x := by unfold ysOf; rw [List.map_map]; rfl
  have l02 := l1.trans l2
  dsimp only
  refine s_for (xs := ysOf x) (W := W2) (A := K53.rI) (fun i σ W => (∃ vt u3 u4 u5 u6, σ = [some v, some vt, some vr, u3, u4, u5, u6] ∧ rL rStr W.G (((ysOf x).take i).flatMap fun y => (xsOf x y).flatMap fun z => at_ x (z, y)) vt) ∧ Le ⟨G, H⟩ W) l2.s ?_ (fun W3 l => ⟨⟨vt, none, none, none, none, rfl, Mn.mn (l2.g.trans l.g) ht⟩, l02.trans l⟩) ?_ ?_
  · refine ig_list ?_
    rw [← eys]
    have e1 : dedup ((x.map fun s => (s.1.2, (0 : Int))).map (·.1)) = (dedup ((x.map fun s => (s.1.2, (0 : Int))).map (·.1))).map fun i => i := by simp
    refine e_sorted ?_
    rw [e1]
    exact e_lcn1 (A := K53.rI) (fun i => i) (iw_keysI (e_var hr2 rfl)) (Nat.le_trans (dedup_len _) (by rw [List.length_map, List.length_map]; omega)) fun y vy W3 hy l hy2 => e_intI (e_var hy2 rfl)
  · rintro i y vy σ' W5 W6 hi ⟨⟨vt, u3, u4, u5, u6, rfl, ht5⟩, l5⟩ s5 l6 hy
    have l06 := l5.trans l6
    show tFor _ _ _ _ _ _
    refine s_for (xs := xsOf x y) (W := W6) (A := K53.rI) (fun j σ W => (∃ vt u4 u5 u6, σ = [some v, some vt, some vr, some vy, u4, u5, u6] ∧ rL rStr W.G ((((ysOf x).take i).flatMap fun y => (xsOf x y).flatMap fun z => at_ x (z, y)) ++ ((xsOf x y).take j).flatMap fun z => at_ x (z, y)) vt) ∧ Same W6.G W.G ∧ Le ⟨G, H⟩ W) l6.s ?_ (fun W3 l => ⟨⟨vt, u4, u5, u6, rfl, by simpa using Mn.mn (l6.g.trans l.g) ht5⟩, l.g, l06.trans l⟩) ?_ ?_
    · refine ig_list ?_
      unfold xsOf
      exact e_sorted (e_lcn (A := rStr) (fun s : Cell × List Pr => decide (s.1.2 = y)) (fun s : Cell × List Pr => s.1.1) (Ig.w (ig_list (xs := x) (e_var (Mn.mn l06.g hv) rfl))) hlen fun z vz W7 hz l hz2 => ⟨t_test (e_eqI (e_snd' (e_fst' (e_var hz2 rfl))) (e_var (Mn.mn l.g hy) rfl)), fun _ => e_intI (e_fst' (e_fst' (e_var hz2 rfl)))⟩)
    · rintro j z vz σ' W7 W8 hj ⟨⟨vt, u4, u5, u6, rfl, ht7⟩, g7, l7⟩ s7 l8 hz
      have hb1 := fm_len (g := fun y => (xsOf x y).flatMap fun z => at_ x (z, y)) hi
      have hb2 := fm_len (g := fun z => at_ x (z, y)) hj
      have hb3 : ((ysOf x).flatMap fun y => (xsOf x y).flatMap fun z => at_ x (z, y)).length ≤ 40000 := htot
      have g08 := (l7.trans l8).g
      refine s_set (W := W8) (A := rL rStr) (x := ((((ysOf x).take i).flatMap fun y => (xsOf x y).flatMap fun z => at_ x (z, y)) ++ ((xsOf x y).take j).flatMap fun z => at_ x (z, y)) ++ at_ x (z, y)) l8.s (e_cat (e_var (Mn.mn l8.g ht7) rfl) ?_ (by rw [List.length_append]; omega)) fun vt' W9 l9 h9 => ?_
      · refine e_is (e_lcn (A := rStr) (fun s : Cell × List Pr => decide (s.1 = (z, y))) (fun s : Cell × List Pr => s) (Ig.w (ig_list (xs := x) (e_var (Mn.mn g08 hv) rfl))) hlen fun s vs W10 hs l hs2 => ⟨t_test (e_eqD (e_fst' (e_var hs2 rfl)) (e_pair (e_var (Mn.mn l.g hz) rfl) (e_var (Mn.mn ((g7.trans l8.g).trans l.g) hy) rfl)) (by decide)), fun _ => e_var hs2 rfl⟩) ?_
        unfold at_
        simp
      · refine ⟨W9.G, l8.g.trans l9.g, l9.s, ⟨_, _, _, _, rfl, ?_⟩, (g7.trans l8.g).trans l9.g, (l7.trans l8).trans l9⟩
        rw [fm_take hj, ← List.append_assoc]
        exact h9
    · rintro σ' W7 s7 ⟨⟨vt, u4, u5, u6, rfl, ht7⟩, g7, l7⟩
      rw [List.take_length] at ht7
      refine ⟨W7.G, l6.g.trans g7, s7, ⟨_, _, _, _, _, rfl, ?_⟩, l7⟩
      rw [fm_take hi]
      exact ht7
  · rintro σ' W5 s5 ⟨⟨vt, u3, u4, u5, u6, rfl, ht5⟩, l5⟩
    rw [List.take_length] at ht5
    exact ⟨_, rfl, q _ W5 l5 ht5⟩
abbrev s__law_cells : Stmt := (top 57)
abbrev N__law_cells : List Str := ["_law_strands_here", "_law_shift_here", "_law_found", "_law_cell_here", "_law_stretches", "_law_low", "_law_high", "_law_n"]
theorem sc__law_cells : FnScope N__law_cells ["_law_strands_here", "_law_shift_here"] (defScope s__law_cells) := ⟨rfl, rfl, rfl, by decide +kernel, rfl, by decide +kernel, by decide +kernel⟩
theorem c__law_cells (B : Bu mg) (D : Dn K mg "_law_cells" s__law_cells [])  : Q__law_cells P w K mg base c := by
  refine D.cal sc__law_cells (fun _ _ _ _ _ _ us hl => match us, hl with | [_, _], _ => rfl) pr_len2 fun f cdv A outer s H vs Q E hr hsp => ⟨_, PSs.nox (pss_cons (ps_set (i := 2) sc__law_cells.nd rfl (Or.inl rfl) (pe_lst pa_nil)) (pss_cons (ps_for PassesOwn.never rfl (pi_list (pv 0)) (pg_tupK (K := K) (n := 2) rfl rfl (pgs_cons (pg_name (i := 3) sc__law_cells.nd rfl (Or.inl rfl)) (pgs_cons (pg_name (i := 4) sc__law_cells.nd rfl (Or.inl rfl)) pgs_nil))) (pss_one (ps_for PassesOwn.never rfl (pi_list (pv 4)) (pg_tupK (K := K) (n := 2) rfl rfl (pgs_cons (pg_name (i := 5) sc__law_cells.nd rfl (Or.inl rfl)) (pgs_cons (pg_name (i := 6) sc__law_cells.nd rfl (Or.inl rfl)) pgs_nil))) (pss_one (ps_for PassesOwn.never rfl (pi_range2 (by rfl) B.range_ (pa_cons (pv 5) (pa_cons (pv 6) pa_nil))) (pg_name (i := 7) sc__law_cells.nd rfl (Or.inl rfl)) (pss_one (ps_expr (pe_bm PySem.F.plainAttrs_list PySem.F.slot_list_append PySem.F.type_list_append mt_append (pv 2) (pa_cons (pe_tup (pa_cons (pe_op op_add (pe_ix (ix_tupK (K := K) rfl) (pv 3) pe_int (fun _ _ => rfl)) (pe_op op_mul (pv 7) (pe_ix (ix_tupK (K := K) rfl) (pv 1) pe_int (fun _ _ => rfl)))) (pa_cons (pe_op op_add (pe_ix (ix_tupK (K := K) rfl) (pv 3) pe_int (fun _ _ => rfl)) (pe_op op_mul (pv 7) (pe_ix (ix_tupK (K := K) rfl) (pv 1) pe_int (fun _ _ => rfl)))) pa_nil))) pa_nil))))))))) (pss_one (ps_ret (pv 2))))), ?_⟩
  obtain ⟨G, x, sb, ⟨v, v2, e, hv, hv2⟩, hp, q⟩ := hsp
  subst e
  obtain ⟨L, s'⟩ := x
  obtain ⟨⟨k1, k2, k3, k4⟩, hb, hlen⟩ := hp
  dsimp only at hv hv2 k1 k2 k3 k4 hb hlen
  refine s_newlist (W0 := ⟨G, H⟩) (W := ⟨G, H⟩) (A := rCell) (xs := []) (Le.refl sb) ea_nil (by decide) fun p W1 ws l1 hp1 m => ?_
  have hv1 : rL rStr (⟨W1.G, upd W1.H p (.lst ws)⟩ : Wd).G L v := Mn.mn l1.g hv
  dsimp only
  refine s_for (xs := L) (W := ⟨W1.G, upd W1.H p (.lst ws)⟩) (A := rStr) (fun i σ W => (∃ u3 u4 u5 u6 u7, σ = [some v, some v2, some (.ref p), u3, u4, u5, u6, u7]) ∧ Same G W.G ∧ Mu rCell ⟨G, H⟩ W ((L.take i).flatMap (strandCells s')) p) m.l.s (ig_list (e_var hv1 rfl)) (fun W1 l => ⟨⟨none, none, none, none, none, rfl⟩, l1.g.trans l.g, m.le l⟩) ?_ ?_
  · rintro i st va σ' W' W4 hi ⟨⟨u3, u4, u5, u6, u7, rfl⟩, gW, m'⟩ sW l4 ha
    have hst := List.mem_of_getElem? hi
    refine g_pair (K := K) (p := st) (W := W4) l4.s ha fun a b h1 h2 => ?_
    have m4 := m'.le l4
    have g4 := gW.trans l4.g
    show tFor _ _ _ _ _ _
    refine s_for (xs := st.2) (W := W4) (A := rPr) (fun j σ W => (∃ u5 u6 u7, σ = [some v, some v2, some (.ref p), some a, some b, u5, u6, u7]) ∧ Same W4.G W.G ∧ Mu rCell ⟨G, H⟩ W ((L.take i).flatMap (strandCells s') ++ (st.2.take j).flatMap fun q => (rangeI q.1 q.2).map (cellAt st.1 s')) p) l4.s (ig_list (e_var h2 rfl)) (fun W1 l => ⟨⟨u5, u6, u7, rfl⟩, l.g, by simpa using m4.le l⟩) ?_ ?_
    · rintro j pr vb σ' W5 W6 hj ⟨⟨u5, u6, u7, rfl⟩, g5, m5⟩ s5 l6 hb6
      have hpr := List.mem_of_getElem? hj
      obtain ⟨b1, b2, b3, b4⟩ := hb st hst pr hpr
      refine g_pair (K := K) (p := pr) (W := W6) l6.s hb6 fun a2 b2 h3 h4 => ?_
      have m6 := m5.le l6
      have g46 := g5.trans l6.g
      show tFor _ _ _ _ _ _
      refine s_for (xs := rangeI pr.1 pr.2) (W := W6) (A := K53.rI) (fun k σ W => (∃ u7, σ = [some v, some v2, some (.ref p), some a, some b, some a2, some b2, u7]) ∧ Same W6.G W.G ∧ Mu rCell ⟨G, H⟩ W (((L.take i).flatMap (strandCells s') ++ (st.2.take j).flatMap fun q => (rangeI q.1 q.2).map (cellAt st.1 s')) ++ ((rangeI pr.1 pr.2).take k).map (cellAt st.1 s')) p) l6.s (ig_rng2 (e_var h3 rfl) (e_var h4 rfl) ⟨by omega, by omega, by omega, by omega⟩) (fun W1 l => ⟨⟨u7, rfl⟩, l.g, by simpa using m6.le l⟩) ?_ ?_
      · rintro k n vn σ' W7 W8 hk ⟨⟨u7, rfl⟩, g7, m7⟩ s7 l8 hn
        have hb1 := fm_len (g := strandCells s') hi
        have hb2 := fm_len (g := fun q : Pr => (rangeI q.1 q.2).map (cellAt st.1 s')) hj
        have hb3 := lt_of_get hk
        have g68 := g7.trans l8.g
        have hs8 := Mn.mn ((g4.trans g46).trans g68) hv2
        have h18 := Mn.mn (g46.trans g68) h1
        have hb4 : (strandCells s' st).length = (st.2.flatMap fun q => (rangeI q.1 q.2).map (cellAt st.1 s')).length := rfl
        have hb5 : (L.flatMap (strandCells s')).length ≤ 40000 := hlen
        refine s_append (W0 := ⟨G, H⟩) (W := W8) (A := rCell) (x := cellAt st.1 s' n) (m7.le l8) rfl ?_ (e_pair (e_add (e_fst' (e_var h18 rfl)) (e_mul (e_var hn rfl) (e_fst' (e_var hs8 rfl)) (.inr ⟨by omega, by omega⟩))) (e_add (e_snd' (e_var h18 rfl)) (e_mul (e_var hn rfl) (e_snd' (e_var hs8 rfl)) (.inr ⟨by omega, by omega⟩)))) fun W9 ws l9 m9 => ?_
        · rw [List.length_append, List.length_append, List.length_map, List.length_take]
          rw [List.length_map] at hb2
          omega
        · refine ⟨W9.G, l8.g.trans l9.g, m9.sub, ⟨_, rfl⟩, g68.trans l9.g, ?_⟩
          rw [take_snoc hk, List.map_append, ← List.append_assoc]
          exact m9
      · rintro σ' W7 s7 ⟨⟨u7, rfl⟩, g7, m7⟩
        rw [List.take_length] at m7
        refine ⟨W7.G, l6.g.trans g7, s7, ⟨_, _, _, rfl⟩, g46.trans g7, ?_⟩
        rw [fm_take hj, ← List.append_assoc]
        exact m7
    · rintro σ' W5 s5 ⟨⟨u5, u6, u7, rfl⟩, g5, m5⟩
      rw [List.take_length] at m5
      refine ⟨W5.G, l4.g.trans g5, s5, ⟨_, _, _, _, _, rfl⟩, g4.trans g5, ?_⟩
      rw [fm_take hi]
      exact m5
  · rintro σ' W5 s5 ⟨⟨u3, u4, u5, u6, u7, rfl⟩, g5, m5⟩
    rw [List.take_length] at m5
    exact s_retMu m5 rfl q
end
end K53
end

/-! K53L2b -/
section
/-! The law's own strands. -/
namespace K53
open PySem PySem.Spec PyProof.Rows L2
abbrev Q__law_strands (P : Program) (w : World) (K : PySem.W.Frag) (mg : Str → Option Value) (base : Heap) (c : Ca) : Prop := Cal P w K mg base 4 "_law_strands" (Prm (In3 rCell rW K53.rI) (fun x => Lets x.2.1 ∧ 0 ≤ x.2.2) (rL rStr) (fun x => due x.1 x.2.1 x.2.2)) []
theorem due_zero (cell : Cell) (w : List Nat) : due cell w 0 = [(cell, [(0, 1)])] := by
  unfold due dueRow
  rw [if_pos rfl]
  exact List.perm_singleton.mp (inOrder_perm _ (by simp))
theorem due_nd (cell : Cell) (w : List Nat) {N : Int} (hN : 0 ≤ N) : ((dueRow cell (offs w) N).map (·.1)).Nodup := by
  rw [due_strands cell (offs w) N hN (zero_path w)]
  exact strands_nodup cell (offs w) N
theorem range_self {α : Type} (l : List α) (d : α) : (rangeI 0 (l.length : Int)).map (fun i => l.getD i.toNat d) = l := by
  refine List.ext_getElem (by simp [rangeI]) fun i h1 h2 => ?_
  simp only [rangeI, List.getElem_map, List.getElem_range]
  have : (0 + (i : Int)).toNat = i := by omega
  rw [this]
  simp [List.getD, h2]
theorem map_range {α β : Type} (l : List α) (d : α) (f : α → β) : (rangeI 0 (l.length : Int)).map (fun a => f (l.getD a.toNat d)) = l.map f := by
  conv => rhs; rw [← range_self l d]
  rw [List.map_map]
  rfl
theorem filter_range {α β : Type} (l : List α) (d : α) (p : α → Bool) (f : α → β) : ((rangeI 0 (l.length : Int)).filter (fun a => p (l.getD a.toNat d))).map (fun a => f (l.getD a.toNat d)) = (l.filter p).map f := by
  conv => rhs; rw [← range_self l d]
  rw [List.filter_map, List.map_map]
  rfl
theorem addLot_len (v : Cell) : ∀ (ls : List Lot) (o : Cell × Int) (n : Nat), (addLot v ls o).length ≤ ls.length + 1 ∧ ((∀ l ∈ ls, l.length ≤ n) → ∀ l ∈ addLot v ls o, l.length ≤ n + 1)
  | [], o, n => by simp [addLot]
  | l :: ls, o, n => by
    have ih := addLot_len v ls o n
    unfold addLot
    split
    · refine ⟨by simp, fun h l' hl' => ?_⟩
      rcases List.mem_cons.mp hl' with rfl | hl'
      · have := h l List.mem_cons_self
        simp
        omega
      · exact Nat.le_succ_of_le (h l' (List.mem_cons_of_mem _ hl'))
    · refine ⟨by simp; omega, fun h l' hl' => ?_⟩
      rcases List.mem_cons.mp hl' with rfl | hl'
      · exact Nat.le_succ_of_le (h _ List.mem_cons_self)
      · exact ih.2 (fun x hx => h x (List.mem_cons_of_mem _ hx)) l' hl'
theorem lotsTo_len (os : List Cell) (v : Cell) : ∀ n, (lotsTo os v n).length ≤ n ∧ ∀ l ∈ lotsTo os v n, l.length ≤ n
  | 0 => by simp [lotsTo]
  | n + 1 => by
    have ih := lotsTo_len os v n
    have h := addLot_len v (lotsTo os v n) (os.getD n (0, 0), (n : Int)) n
    unfold lotsTo
    exact ⟨Nat.le_trans h.1 (Nat.succ_le_succ ih.1), h.2 ih.2⟩
section
variable {P : Program} {w : World} {K : PySem.W.Frag} {mg : Str → Option Value} {base : Heap} {c : Ca} {σ : L2.St} {W W0 : Wd}
theorem s_newMl {D : Ends} {i : Nat} (l0 : Le W0 W) (k : ∀ p, W.H p = none → Ml W0 ⟨W.G, upd W.H p (.lst [])⟩ [] [] p → D.nx (σ.set i (some (.ref p))) (upd W.H p (.lst []))) : tAsg (tLst tNil) (gName i) D σ W.H :=
  ⟨Nat.zero_le _, fun p hp => k p hp ⟨l0.trans (Le.mut l0.s hp), l0.h.free hp, l0.s.free hp, upd_same, .nil, List.nodup_nil, by simp⟩⟩
/-- a turn: the lots take one more -/
theorem lot_ok {v : Cell} (h : v ≠ (0, 0)) {cell : Cell} {os : List Cell} {n : Nat} (hn : n ≤ os.length) {l : Lot} (hl : l ∈ lotsTo (os.map (plus cell)) v n) : l ≠ [] := (lots_apart h cell os hn hl).1
theorem e_head {k : Nat} {a : Addr} {l : Lot} (m : Ro rItem W0 W l a) (hv : σ[k]? = some (some (.ref a))) (h : l ≠ []) : Ev (tOp (rIxT K) (tOp (rIxL K) (tVar k) (tC (.int 0))) (tC (.int 0))) σ W rCell (headOf l) := by
  cases l with
  | nil => exact absurd rfl h
  | cons x r => exact e_fst' (p := x) (e_roIx0 m hv rfl)
theorem e_headL {l : Lot} {te : TE} (m : Ev te σ W (rL rItem) l) (h : l ≠ []) : Ev (tOp (rIxT K) (tOp (rIxL K) te (tC (.int 0))) (tC (.int 0))) σ W rCell (headOf l) := by
  cases l with
  | nil => exact absurd rfl h
  | cons x r => exact e_fst' (p := x) (e_ixL (k := 0) m e_int rfl)
abbrev s__law_strands : Stmt := (top 55)
abbrev N__law_strands : List Str := ["_law_cell_here", "_law_word_here", "_law_times", "_law_offsets", "_law_shift_here", "_law_lots", "_law_k", "_law_mine", "_law_lot", "_law_found", "_law_steps", "_law_least", "_law_first", "_law_pairs", "_law_at", "_law_low", "_law_one", "_law_step_here"]
theorem sc__law_strands : FnScope N__law_strands ["_law_cell_here", "_law_word_here", "_law_times"] (defScope s__law_strands) := ⟨rfl, rfl, rfl, by decide +kernel, rfl, by decide +kernel, by decide +kernel⟩
theorem c__law_strands (B : Bu mg) (D : Dn K mg "_law_strands" s__law_strands []) (G__law_path : Q__law_path P w K mg base c) (G__law_shift : Q__law_shift P w K mg base c) (G__law_in_order : Q__law_in_order P w K mg base c) (G__law_apart : Q__law_apart P w K mg base c) (G__law_joined : Q__law_joined P w K mg base c) : Q__law_strands P w K mg base c := by
  refine D.cal sc__law_strands (fun _ _ _ _ _ _ us hl => match us, hl with | [_, _, _], _ => rfl) pr_len3 fun f cdv A outer s H vs Q E hr hsp => ⟨_, PSs.nox (pss_cons (ps_set (i := 3) sc__law_strands.nd rfl (Or.inl rfl) (pe_cal G__law_path hr (by decide) (by rfl) (pa_cons (pv 0) (pa_cons (pe_lst (pa_cons (pe_tup (pa_cons (pv 1) (pa_cons pe_int pa_nil))) pa_nil)) pa_nil)))) (pss_cons (ps_set (i := 4) sc__law_strands.nd rfl (Or.inr rfl) (pe_cal G__law_shift hr (by decide) (by rfl) (pa_cons (pv 1) pa_nil))) (pss_cons (ps_if (pt_cmpR op_eq (pv 2) pe_int (nomark _)) (pss_one (ps_ret (pe_lst (pa_cons (pe_tup (pa_cons (pv 0) (pa_cons (pe_lst (pa_cons (pe_tup (pa_cons pe_int (pa_cons pe_int pa_nil))) pa_nil)) pa_nil))) pa_nil)))) pss_nil) (pss_cons (ps_if (pt_cmpR (op_eqDK (K := K) rfl hr.units) (pv 4) (pe_tup (pa_cons pe_int (pa_cons pe_int pa_nil))) (nomark _)) (pss_one (ps_ret (pe_cal G__law_in_order hr (by decide) (by rfl) (pa_cons (pe_lc (own := [("_law_one", 16)]) rfl sc__law_strands.nd (pi_keys (pe_lk (pe_callTy (call_dictT rfl (hu2_of hr)) (by rfl) B.dict_ (by decide +kernel) (pa_cons (pe_lc (own := [("_law_one", 16)]) rfl sc__law_strands.nd (pi_list (pv 3)) (blkOk_by (N := N__law_strands) (sc := defScope s__law_strands) (by decide +kernel)) (fun _ _ _ _ _ => (pg_name (i := 16) sc__law_strands.nd rfl (Or.inl rfl))) (fun _ _ _ _ _ => pts_nil) (fun _ _ _ _ _ => (pe_tup (pa_cons (pv 16) (pa_cons pe_int pa_nil))))) pa_nil)))) (blkOk_by (N := N__law_strands) (sc := defScope s__law_strands) (by decide +kernel)) (fun _ _ _ _ _ => (pg_name (i := 16) sc__law_strands.nd rfl (Or.inl rfl))) (fun _ _ _ _ _ => pts_nil) (fun _ _ _ _ _ => (pe_tup (pa_cons (pv 16) (pa_cons (pe_lst (pa_cons (pe_tup (pa_cons pe_int (pa_cons pe_int pa_nil))) pa_nil)) pa_nil))))) pa_nil)))) pss_nil) (pss_cons (ps_set (i := 5) sc__law_strands.nd rfl (Or.inl rfl) (pe_lst pa_nil)) (pss_cons (ps_for PassesOwn.never rfl (pi_range1 (by rfl) B.range_ (pa_cons (pe_callB call_len_seq (by rfl) B.len_ (by decide +kernel) (pa_cons (pv 3) pa_nil)) pa_nil)) (pg_name (i := 6) sc__law_strands.nd rfl (Or.inl rfl)) (pss_cons (ps_set (i := 7) sc__law_strands.nd rfl (Or.inl rfl) (pe_lst pa_nil)) (pss_cons (ps_for PassesOwn.never rfl (pi_list (pv 5)) (pg_name (i := 8) sc__law_strands.nd rfl (Or.inr rfl)) (pss_one (ps_if (pt_cmp (pc_notN (pe_cal G__law_apart hr (by decide) (by rfl) (pa_cons (pe_ix (ix_tupK (K := K) rfl) (pe_ix (ix_listK (K := K) rfl) (pv 8) pe_int (fun _ _ => rfl)) pe_int (fun _ _ => rfl)) (pa_cons (pe_ix (ix_listK (K := K) rfl) (pv 3) (pv 6) (fun _ _ => rfl)) (pa_cons (pv 4) pa_nil)))))) (pss_one (ps_expr (pe_bm PySem.F.plainAttrs_list PySem.F.slot_list_append PySem.F.type_list_append mt_append (pv 7) (pa_cons (pv 8) pa_nil)))) pss_nil))) (pss_one (ps_if (pt_cmpR (op_eqDK (K := K) rfl hr.units) (pv 7) (pe_lst pa_nil) (nomark _)) (pss_one (ps_expr (pe_bm PySem.F.plainAttrs_list PySem.F.slot_list_append PySem.F.type_list_append mt_append (pv 5) (pa_cons (pe_lst (pa_cons (pe_tup (pa_cons (pe_ix (ix_listK (K := K) rfl) (pv 3) (pv 6) (fun _ _ => rfl)) (pa_cons (pv 6) pa_nil))) pa_nil)) pa_nil)))) (pss_one (ps_expr (pe_bm PySem.F.plainAttrs_list PySem.F.slot_list_append PySem.F.type_list_append mt_append (pe_ix (ix_listK (K := K) rfl) (pv 7) pe_int (fun _ _ => rfl)) (pa_cons (pe_tup (pa_cons (pe_ix (ix_listK (K := K) rfl) (pv 3) (pv 6) (fun _ _ => rfl)) (pa_cons (pv 6) pa_nil))) pa_nil))))))))) (pss_cons (ps_set (i := 9) sc__law_strands.nd rfl (Or.inl rfl) (pe_lst pa_nil)) (pss_cons (ps_for PassesOwn.never rfl (pi_list (pv 5)) (pg_name (i := 8) sc__law_strands.nd rfl (Or.inr rfl)) (pss_cons (ps_set (i := 10) sc__law_strands.nd rfl (Or.inr rfl) (pe_lc (own := [("_law_one", 16), ("_law_k", 6)]) rfl sc__law_strands.nd (pi_list (pv 8)) (blkOk_by (N := N__law_strands) (sc := defScope s__law_strands) (by decide +kernel)) (fun _ _ _ _ _ => (pg_tupK (K := K) (n := 2) rfl rfl (pgs_cons (pg_name (i := 16) sc__law_strands.nd rfl (Or.inl rfl)) (pgs_cons (pg_name (i := 6) sc__law_strands.nd rfl (Or.inl rfl)) pgs_nil)))) (fun _ _ _ _ _ => pts_nil) (fun _ _ _ _ _ => (pe_cal G__law_apart hr (by decide) (by rfl) (pa_cons (pe_ix (ix_tupK (K := K) rfl) (pe_ix (ix_listK (K := K) rfl) (pv 8) pe_int (fun _ _ => rfl)) pe_int (fun _ _ => rfl)) (pa_cons (pv 16) (pa_cons (pv 4) pa_nil))))))) (pss_cons (ps_set (i := 11) sc__law_strands.nd rfl (Or.inr rfl) (pe_callB (cr_min rfl) (by rfl) B.min_ (by decide +kernel) (pa_cons (pe_lc (own := [("_law_step_here", 17)]) rfl sc__law_strands.nd (pi_list (pv 10)) (blkOk_by (N := N__law_strands) (sc := defScope s__law_strands) (by decide +kernel)) (fun _ _ _ _ _ => (pg_name (i := 17) sc__law_strands.nd rfl (Or.inl rfl))) (fun _ _ _ _ _ => pts_nil) (fun _ _ _ _ _ => (pe_callTy call_int1 (by rfl) B.int_ (by decide +kernel) (pa_cons (pv 17) pa_nil)))) pa_nil))) (pss_cons (ps_set (i := 12) sc__law_strands.nd rfl (Or.inl rfl) (pe_ix (ix_listK (K := K) rfl) (pe_lc (own := [("_law_at", 14)]) rfl sc__law_strands.nd (pi_range1 (by rfl) B.range_ (pa_cons (pe_callB call_len_seq (by rfl) B.len_ (by decide +kernel) (pa_cons (pv 8) pa_nil)) pa_nil)) (blkOk_by (N := N__law_strands) (sc := defScope s__law_strands) (by decide +kernel)) (fun _ _ _ _ _ => (pg_name (i := 14) sc__law_strands.nd rfl (Or.inl rfl))) (fun _ _ _ _ _ => (pts_one (pt_cmpR op_eq (pe_ix (ix_listK (K := K) rfl) (pv 10) (pv 14) (fun _ _ => rfl)) (pv 11) (nomark _)))) (fun _ _ _ _ _ => (pe_ix (ix_tupK (K := K) rfl) (pe_ix (ix_listK (K := K) rfl) (pv 8) (pv 14) (fun _ _ => rfl)) pe_int (fun _ _ => rfl)))) pe_int (fun _ _ => rfl))) (pss_cons (ps_set (i := 13) sc__law_strands.nd rfl (Or.inl rfl) (pe_lst pa_nil)) (pss_cons (ps_for PassesOwn.never rfl (pi_range1 (by rfl) B.range_ (pa_cons (pe_callB call_len_seq (by rfl) B.len_ (by decide +kernel) (pa_cons (pv 8) pa_nil)) pa_nil)) (pg_name (i := 14) sc__law_strands.nd rfl (Or.inl rfl)) (pss_cons (ps_set (i := 15) sc__law_strands.nd rfl (Or.inl rfl) (pe_op op_sub (pe_ix (ix_listK (K := K) rfl) (pv 10) (pv 14) (fun _ _ => rfl)) (pv 11))) (pss_one (ps_expr (pe_bm PySem.F.plainAttrs_list PySem.F.slot_list_append PySem.F.type_list_append mt_append (pv 13) (pa_cons (pe_tup (pa_cons (pv 15) (pa_cons (pe_op op_add (pv 15) (pe_ix (ix_listK (K := K) rfl) (pe_lst (pa_cons (pv 2) (pa_cons pe_int pa_nil))) (pe_callTy call_int1 (by rfl) B.int_ (by decide +kernel) (pa_cons (pe_cmpR op_eq (pe_ix (ix_tupK (K := K) rfl) (pe_ix (ix_listK (K := K) rfl) (pv 8) (pv 14) (fun _ _ => rfl)) pe_int (fun _ _ => rfl)) pe_int (nomark _)) pa_nil)) (fun _ _ => rfl))) pa_nil))) pa_nil)))))) (pss_one (ps_expr (pe_bm PySem.F.plainAttrs_list PySem.F.slot_list_append PySem.F.type_list_append mt_append (pv 9) (pa_cons (pe_tup (pa_cons (pv 12) (pa_cons (pe_cal G__law_joined hr (by decide) (by rfl) (pa_cons (pv 13) pa_nil)) pa_nil))) pa_nil)))))))))) (pss_one (ps_ret (pe_cal G__law_in_order hr (by decide) (by rfl) (pa_cons (pv 9) pa_nil)))))))))))), ?_⟩
  obtain ⟨G, x, sb, ⟨v, v2, v3, e, hv, hv2, hv3⟩, hp, q⟩ := hsp
  subst e
  obtain ⟨cell, wd, N⟩ := x
  obtain ⟨hw, hN⟩ := hp
  dsimp only at hv hv2 hv3 hw hN
  have hwl := hw.2.1
  have hoff : pathFrom cell wd = (offs wd).map (plus cell) := pathFrom_map cell wd
  have hol : (offs wd).length = wd.length + 1 := pathFrom_len _ _
  have hsm : Sm (goal (0, 0) wd) := by
    have := near_goal wd (0, 0) 0 ⟨by decide, by decide, by decide, by decide⟩
    obtain ⟨a1, a2, a3, a4⟩ := this
    exact ⟨by omega, by omega, by omega, by omega⟩
  refine s_set (W := ⟨G, H⟩) (A := rL rCell) (x := pathFrom cell wd) sb (e_path1 (e_var hv rfl) (e_var hv2 rfl) hw) fun vo W1 l1 ho => ?_
  dsimp only
  refine s_set (W := W1) (A := rCell) (x := goal (0, 0) wd) l1.s (e_call1 (e_var (Mn.mn l1.g hv2) rfl) hw) fun vs W2 l2 hs => ?_
  have l02 := l1.trans l2
  dsimp only
  refine s_if (W := W2) (b := decide (N = 0)) l2.s (t_test (e_eqI (e_var (Mn.mn l02.g hv3) rfl) e_int)) (fun z W3 l3 => ?_) (fun z W3 l3 => ?_)
  · have z : N = 0 := of_decide_eq_true z
    refine s_ret (W := W3) (A := rL rStr) (x := due cell wd N) l3.s ?_ fun v W'' l4 h => q v W'' ((l02.trans l3).trans l4) h
    rw [z, due_zero]
    exact e_lst (ea_cons (e_pair (e_var (Mn.mn (l02.trans l3).g hv) rfl) (e_lst (ea_cons (e_pair e_int e_int) ea_nil) (by decide))) ea_nil) (by simp)
  · have z : N ≠ 0 := of_decide_eq_false z
    have l03 := l02.trans l3
    have ho3 := Mn.mn (l2.trans l3).g ho
    have hs3 := Mn.mn l3.g hs
    unfold tNext
    dsimp only
    refine s_if (W := W3) (b := decide (goal (0, 0) wd = (0, 0))) l3.s (t_test (e_eqD (e_var hs3 rfl) (e_pair e_int e_int) (by decide))) (fun z2 W4 l4 => ?_) (fun z2 W4 l4 => ?_)
    · have z2 : goal (0, 0) wd = (0, 0) := of_decide_eq_true z2
      have e : dueRow cell (offs wd) N = (dedup ((offs wd).map (plus cell))).map fun o => (o, [(0, 1)]) := by
        unfold dueRow
        rw [if_neg z, if_pos (by rw [last_path]; exact z2)]
      have hdl : (dedup ((offs wd).map (plus cell))).length ≤ 100 := Nat.le_trans (dedup_len _) (by rw [List.length_map]; omega)
      refine s_ret (W := W4) (A := rL rStr) (x := inOrder (dueRow cell (offs wd) N)) l4.s ?_ fun v W'' l5 h => q v W'' ((l03.trans l4).trans l5) h
      refine e_call1 (f := inOrder) (x := dueRow cell (offs wd) N) ?_ ⟨due_nd cell wd hN, by rw [e, List.length_map]; omega⟩
      rw [e]
      have ed : ((pathFrom cell wd).map fun o => (o, (0 : Int))).map (·.1) = (offs wd).map (plus cell) := by rw [List.map_map, hoff]; simp [Function.comp_def]
      refine e_lcn1 (A := rCell) (B := rStr) (fun o : Cell => (o, [((0, 1) : Pr)])) (iw_keysC (ks := dedup ((offs wd).map (plus cell))) (e_is (e_dictC (ps := (pathFrom cell wd).map fun o => (o, (0 : Int))) (e_lcn1 (A := rCell) (fun o : Cell => (o, (0 : Int))) (Ig.w (ig_list (xs := pathFrom cell wd) (e_var (Mn.mn l4.g ho3) rfl))) (by rw [pathFrom_len]; omega) fun y vy W5 hy l hy2 => e_pair (e_var hy2 rfl) e_int)) (by rw [ed]))) (by omega) fun y vy W5 hy l hy2 => e_pair (e_var hy2 rfl) (e_lst (ea_cons (e_pair e_int e_int) ea_nil) (by decide))
    · have z2 : goal (0, 0) wd ≠ (0, 0) := of_decide_eq_false z2
      have l04 := l03.trans l4
      have ho4 := Mn.mn l4.g ho3
      have hs4 := Mn.mn l4.g hs3
      have hv4 := Mn.mn l04.g hv3
      dsimp only
      refine s_newMl (W0 := ⟨G, H⟩) (W := W4) l04 fun p hp m => ?_
      have hpl : (pathFrom cell wd).length = wd.length + 1 := pathFrom_len _ _
      have hget : ∀ i, i < wd.length + 1 → (pathFrom cell wd)[i]? = some ((pathFrom cell wd).getD i (0, 0)) := fun i hi => by simp [List.getD, show i < (pathFrom cell wd).length by omega]
      refine s_for (xs := rangeI 0 ((pathFrom cell wd).length : Int)) (W := ⟨W4.G, upd W4.H p (.lst [])⟩) (A := K53.rI) (fun i σ W => (∃ u6 u7 u8, σ = [some v, some v2, some v3, some vo, some vs, some (.ref p), u6, u7, u8, none, none, none, none, none, none, none, none, none]) ∧ Same W4.G W.G ∧ ∃ ads, Ml ⟨G, H⟩ W (lotsTo (pathFrom cell wd) (goal (0, 0) wd) i) ads p) m.l.s (ig_rng1 (e_lenL (xs := pathFrom cell wd) (e_var (W := ⟨W4.G, upd W4.H p (.lst [])⟩) ho4 rfl)) (by omega)) (fun W1 l => ⟨⟨none, none, none, rfl⟩, l.g, [], m.le l⟩) ?_ ?_
      · rintro i x vk σ' W5 W6 hi ⟨⟨u6, u7, u8, rfl⟩, g5, ads, m5⟩ s5 l6 hk
        obtain ⟨rfl, hlt⟩ := rangeI_get hi
        have hi' : i < wd.length + 1 := by omega
        have m6 := m5.le l6
        have g6 := g5.trans l6.g
        have hlens := lotsTo_len (pathFrom cell wd) (goal (0, 0) wd) i
        have hadl : ads.length ≤ 100 := by rw [← Paired.length m5.r]; omega
        have hne : ∀ l ∈ lotsTo (pathFrom cell wd) (goal (0, 0) wd) i, l ≠ [] := fun l hl => by
          rw [hoff] at hl
          exact lot_ok z2 (cell := cell) (os := offs wd) (by omega) hl
        have hlt' : lotsTo (pathFrom cell wd) (goal (0, 0) wd) (i + 1) = addLot (goal (0, 0) wd) (lotsTo (pathFrom cell wd) (goal (0, 0) wd) i) ((pathFrom cell wd).getD i (0, 0), (i : Int)) := rfl
        rw [hlt']
        generalize lotsTo (pathFrom cell wd) (goal (0, 0) wd) i = ls at m5 m6 hlens hne
        generalize hoi : (pathFrom cell wd).getD i (0, 0) = oi
        have hgi := hget i hi'
        rw [hoi] at hgi
        show tSeq _ _ _ _ _
        refine s_newlist (W0 := ⟨G, H⟩) (W := W6) (A := rV) (xs := []) m6.l ea_nil (by decide) fun t W7 ws l7 ht7 mm => ?_
        have m7' := m6.le l7
        have htp : t ≠ p := fun z => by rw [z, m7'.h] at ht7; cases ht7
        have htn := m7'.nin ht7
        have m7 : Ml ⟨G, H⟩ ⟨W7.G, upd W7.H t (.lst ws)⟩ ls ads p := m7'.other mm.l htp htn
        have g7 := g6.trans l7.g
        dsimp only
        refine s_forH (W := ⟨W7.G, upd W7.H t (.lst ws)⟩) (k := 5) (p := p) (vs := ads) (fun j σ W => (∃ u8, σ = [some v, some v2, some v3, some vo, some vs, some (.ref p), some vk, some (.ref t), u8, none, none, none, none, none, none, none, none, none]) ∧ Same W7.G W.G ∧ Ml ⟨G, H⟩ W ls ads p ∧ Mu rV ⟨G, H⟩ W (filt (fun l => (apart (headOf l) oi (goal (0, 0) wd)).isSome) (ls.take j) (ads.take j)) t) mm.l.s rfl m7.h ⟨⟨u8, rfl⟩, Same.refl _, m7, mm⟩ (fun j σ' W' h => h.2.2.1.h) ?_ ?_
        · rintro j lv σ' W8 hj ⟨⟨u8, rfl⟩, g8, m8, mm8⟩ s8
          have hjl := lt_of_get hj
          have hll : ls.length = ads.length := Paired.length m8.r
          obtain ⟨lt, hlj, hro⟩ : ∃ lt, ls[j]? = some lt ∧ RoL ⟨G, H⟩ W8 lt lv := by
            have hjl2 : j < ls.length := by omega
            obtain ⟨w', hw1, hw2⟩ := L2.paired_get m8.r (show ls[j]? = some ls[j] by simp [hjl2])
            rw [hj] at hw1
            cases hw1
            exact ⟨ls[j], by simp [hjl2], hw2⟩
          have g78 := g7.trans g8
          have hlne := hne lt (List.mem_of_getElem? hlj)
          have hstep : filt (fun l => (apart (headOf l) oi (goal (0, 0) wd)).isSome) (ls.take (j + 1)) (ads.take (j + 1)) = filt (fun l => (apart (headOf l) oi (goal (0, 0) wd)).isSome) (ls.take j) (ads.take j) ++ (if (apart (headOf lt) oi (goal (0, 0) wd)).isSome then [lv] else []) := by
            rw [take_snoc hlj, take_snoc hj]
            exact filt_snoc (by rw [List.length_take, List.length_take, hll])
          rw [hro.1] at hj ⊢
          show tIfS _ _ _ _ _ _
          refine s_if (W := W8) (b := (apart (headOf lt) oi (goal (0, 0) wd)).isSome) s8 (t_B (e_notN (e_call3 (e_head (k := 8) hro.2 rfl hlne) (e_ixL (k := i) (e_var (Mn.mn g78 ho4) rfl) (e_var (Mn.mn (l7.g.trans g8) hk) rfl) hgi) (e_var (Mn.mn g78 hs4) rfl) ⟨hsm, z2⟩))) (fun y W9 l9 => ?_) (fun y W9 l9 => ?_)
          · have hfl := filt_len (ok := fun l => (apart (headOf l) oi (goal (0, 0) wd)).isSome) (ls.take j) (ads.take j)
            rw [List.length_take] at hfl
            have mm9 := mm8.le l9
            have m9 := m8.le l9
            refine s_append (W0 := ⟨G, H⟩) (W := W9) (A := rV) (x := .ref (adOf lv)) mm9 rfl (by omega) (e_var (A := rV) rfl rfl) fun W10 ws l10 m10 => ?_
            have hq : t ∉ ads.map adOf := htn
            refine ⟨W10.G, l9.g.trans l10.g, m10.sub, ⟨_, rfl⟩, (g8.trans l9.g).trans l10.g, (m9.le l10).other m10.l htp hq, ?_⟩
            rw [hstep, if_pos y, hro.1]
            exact m10
          · refine ⟨W9.G, l9.g, l9.s, ⟨_, rfl⟩, g8.trans l9.g, m8.le l9, ?_⟩
            rw [hstep, if_neg (by rw [y]; decide), List.append_nil]
            exact mm8.le l9
        · rintro σ' W8 s8 ⟨⟨u8, rfl⟩, g8, m8, mm8⟩
          have hll : ls.length = ads.length := Paired.length m8.r
          rw [List.take_length, ← hll, List.take_length] at mm8
          have g78 := g7.trans g8
          have hk8 := Mn.mn (l7.g.trans g8) hk
          generalize hms : filt (fun l => (apart (headOf l) oi (goal (0, 0) wd)).isSome) ls ads = ms at mm8
          dsimp only
          have hitem : ∀ W9, Le W8 W9 → Ev (tTup (tCons (tOp (rIxL K) (tVar 3) (tVar 6)) (tCons (tVar 6) tNil))) [some v, some v2, some v3, some vo, some vs, some (.ref p), some vk, some (.ref t), u8, none, none, none, none, none, none, none, none, none] W9 rItem (oi, (i : Int)) := fun W9 l9 =>
            e_pair (e_ixL (k := i) (e_var (Mn.mn (g78.trans l9.g) ho4) rfl) (e_var (Mn.mn l9.g hk8) rfl) hgi) (e_var (Mn.mn l9.g hk8) rfl)
          refine s_if (W := W8) (b := decide (ms = [])) s8 (t_test (e_mineEq (W0 := ⟨G, H⟩) mm8 rfl fun y hy => ?_)) (fun y W9 l9 => ?_) (fun y W9 l9 => ?_)
          · rw [← hms] at hy
            obtain ⟨l, _, hl⟩ := m8.lst (filt_mem hy)
            exact ⟨l, hl⟩
          · have y : ms = [] := of_decide_eq_true y
            subst y
            refine s_lotNew (W0 := ⟨G, H⟩) (W := W9) (m8.le l9) rfl (by omega) (hitem W9 l9) fun W10 t2 g10 m10 => ?_
            refine ⟨W10.G, ((l6.g.trans l7.g).trans (g8.trans l9.g)).trans g10, m10.l.s, ⟨_, _, _, rfl⟩, ((g78).trans l9.g).trans g10, ads ++ [.ref t2], ?_⟩
            rw [addLot_none hll hms]
            exact m10
          · have y : ms ≠ [] := of_decide_eq_false y
            obtain ⟨mv, mr, rfl⟩ := List.exists_cons_of_ne_nil y
            refine s_lotAdd (W0 := ⟨G, H⟩) (W := W9) (o := (oi, (i : Int))) (m8.le l9) (mm8.le l9) hms rfl (fun l hl => by have := hlens.2 l hl; omega) (hitem W9 l9) fun W10 g10 m10 => ?_
            exact ⟨W10.G, ((l6.g.trans l7.g).trans (g8.trans l9.g)).trans g10, m10.l.s, ⟨_, _, _, rfl⟩, ((g78).trans l9.g).trans g10, _, m10⟩
      · rintro σ' W5 s5 ⟨⟨u6, u7, u8, rfl⟩, g5, ads, m5⟩
        have er : (rangeI 0 ((pathFrom cell wd).length : Int)).length = (offs wd).length := by simp [rangeI]; omega
        rw [er] at m5
        obtain ⟨G', sm, ld, hd⟩ := m5.done
        have hlens := lotsTo_len (pathFrom cell wd) (goal (0, 0) wd) (offs wd).length
        have hap : ∀ l ∈ lotsTo (pathFrom cell wd) (goal (0, 0) wd) (offs wd).length, l ≠ [] ∧ ∀ x ∈ l, ∃ s, apart (headOf l) x.1 (goal (0, 0) wd) = some s := fun l hl => by
          rw [hoff] at hl
          exact lots_apart z2 cell (offs wd) (Nat.le_refl _) hl
        have edue : dueRow cell (offs wd) N = (lotsTo (pathFrom cell wd) (goal (0, 0) wd) (offs wd).length).map (lotStrand (goal (0, 0) wd) N) := by
          unfold dueRow
          rw [if_neg z, last_path, if_neg z2, ← hoff]
        generalize lotsTo (pathFrom cell wd) (goal (0, 0) wd) (offs wd).length = lots at hlens hap edue hd
        generalize goal (0, 0) wd = sh at hsm z2 hs4 hap edue
        obtain ⟨c1, c2, c3, c4⟩ := hsm
        have gW : Same W4.G G' := g5.trans sm
        refine s_newlist (W0 := ⟨G, H⟩) (W := ⟨G', W5.H⟩) (A := rStr) (xs := []) ld ea_nil (by decide) fun f' W6 ws6 l6 hf6 mf => ?_
        have hd6 := Mn.mn l6.g hd
        have g46 := gW.trans l6.g
        dsimp only
        refine s_for (xs := lots) (W := ⟨W6.G, upd W6.H f' (.lst ws6)⟩) (A := rL rItem) (fun i σ W => (∃ u6 u7 u8 u10 u11 u12 u13 u14 u15, σ = [some v, some v2, some v3, some vo, some vs, some (.ref p), u6, u7, u8, some (.ref f'), u10, u11, u12, u13, u14, u15, none, none]) ∧ Same W6.G W.G ∧ Mu rStr ⟨G, H⟩ W ((lots.take i).map (lotStrand sh N)) f') mf.sub (ig_list (e_var (W := ⟨W6.G, upd W6.H f' (.lst ws6)⟩) hd6 rfl)) (fun W1 l => ⟨⟨_, _, _, none, none, none, none, none, none, rfl⟩, l.g, by simpa using mf.le l⟩) ?_ ?_
        · rintro i lot vl σ' W7 W8 hi ⟨⟨u6, u7, u8, u10, u11, u12, u13, u14, u15, rfl⟩, g7, m7⟩ s7 l8 hl
          have hlm := List.mem_of_getElem? hi
          have hlt := lt_of_get hi
          obtain ⟨hne, hapl⟩ := hap lot hlm
          have hlenl := hlens.2 lot hlm
          have hstep : ∀ x ∈ lot, ∀ (G : Hp) (u : V), rO G (apart (headOf lot) x.1 sh) u → K53.rI G ((apart (headOf lot) x.1 sh).getD 0) u := fun x hx G u h => by
            obtain ⟨s1, e1⟩ := hapl x hx
            rw [e1] at h ⊢
            exact h
          have m8 := m7.le l8
          have g68 := g7.trans l8.g
          show tSeq _ _ _ _ _
          refine s_set (W := W8) (A := rL K53.rI) (x := lotSteps sh lot) l8.s ?_ fun vst W9 l9 hst => ?_
          · exact e_lcp1 (C := rCell) (D := K53.rI) (B := K53.rI) (fun x : Cell × Int => (apart (headOf lot) x.1 sh).getD 0) (Ig.w (ig_list (xs := lot) (e_var hl rfl))) (by omega) fun x a b W9 hx l h1 h2 => e_sub (A' := rO) (e_call3 (e_headL (e_var (Mn.mn l.g hl) rfl) hne) (e_var h1 rfl) (e_var (Mn.mn ((g46.trans g68).trans l.g) hs4) rfl) ⟨⟨c1, c2, c3, c4⟩, z2⟩) (hstep x hx)
          have hl9 := Mn.mn l9.g hl
          have hsne : lotSteps sh lot ≠ [] := by unfold lotSteps; simpa using hne
          dsimp only
          refine s_set (W := W9) (A := K53.rI) (x := lotLeast sh lot) l9.s ?_ fun vle W10 l10 hle => ?_
          · refine e_is (e_min (e_lcn1 (A := K53.rI) (fun i => i) (Ig.w (ig_list (xs := lotSteps sh lot) (e_var hst rfl))) (by unfold lotSteps; rw [List.length_map]; omega) fun x vx W10 hx l hx2 => e_intI (e_var hx2 rfl)) (by simpa using hsne)) ?_
            rw [List.map_id']
            rfl
          have hl10 := Mn.mn l10.g hl9
          have hst10 := Mn.mn l10.g hst
          have hgl : ∀ at' : Int, at' ∈ rangeI 0 (lot.length : Int) → lot[at'.toNat]? = some (lot.getD at'.toNat ((0, 0), 0)) := fun a ha => by
            have := mem_rangeI.mp ha
            simp [List.getD, show a.toNat < lot.length by omega]
          have hgs : ∀ at' : Int, at' ∈ rangeI 0 (lot.length : Int) → (lotSteps sh lot)[at'.toNat]? = some ((apart (headOf lot) (lot.getD at'.toNat ((0, 0), 0)).1 sh).getD 0) := fun a ha => by
            unfold lotSteps
            rw [List.getElem?_map, hgl a ha]
            rfl
          have hpos : ∀ at' : Int, at' ∈ rangeI 0 (lot.length : Int) → at' = (at'.toNat : Int) := fun a ha => by
            have := mem_rangeI.mp ha
            omega
          have efirst : ((rangeI 0 (lot.length : Int)).filter (fun a => decide ((apart (headOf lot) (lot.getD a.toNat ((0, 0), 0)).1 sh).getD 0 = lotLeast sh lot))).map (fun a => (lot.getD a.toNat ((0, 0), 0)).1) = (lot.filter fun x => decide ((apart (headOf lot) x.1 sh).getD 0 = lotLeast sh lot)).map (·.1) :=
            filter_range lot ((0, 0), 0) (fun x => decide ((apart (headOf lot) x.1 sh).getD 0 = lotLeast sh lot)) (·.1)
          dsimp only
          refine s_set (W := W10) (A := rCell) (x := lotFirst sh lot) l10.s ?_ fun vfi W11 l11 hfi => ?_
          · refine e_ixL (k := 0) (e_is (e_lcn (A := K53.rI) (fun a : Int => decide ((apart (headOf lot) (lot.getD a.toNat ((0, 0), 0)).1 sh).getD 0 = lotLeast sh lot)) (fun a : Int => (lot.getD a.toNat ((0, 0), 0)).1) (Ig.w (ig_rng1 (e_lenL (xs := lot) (e_var hl10 rfl)) (by omega))) (by simp [rangeI]; omega) fun a va W11 ha l ha2 =>
              ⟨t_test (e_eqI (e_ixL (k := a.toNat) (e_var (Mn.mn l.g hst10) rfl) (e_is (e_var ha2 rfl) (hpos a ha)) (hgs a ha)) (e_var (Mn.mn l.g hle) rfl)), fun _ => e_fst' (e_ixL (k := a.toNat) (e_var (Mn.mn l.g hl10) rfl) (e_is (e_var ha2 rfl) (hpos a ha)) (hgl a ha))⟩) efirst) e_int ?_
            have hmin : lotLeast sh lot ∈ lotSteps sh lot := minL_mem hsne
            obtain ⟨x, hx, ex⟩ := List.mem_map.mp hmin
            have hfne : (lot.filter fun x => decide ((apart (headOf lot) x.1 sh).getD 0 = lotLeast sh lot)) ≠ [] := List.ne_nil_of_mem (List.mem_filter.mpr ⟨hx, by simpa using ex⟩)
            unfold lotFirst
            cases hq : (lot.filter fun x => decide ((apart (headOf lot) x.1 sh).getD 0 = lotLeast sh lot)) with
            | nil => exact absurd hq hfne
            | cons y r => rfl
          have l811 := (l9.trans l10).trans l11
          have m11 := m8.le l811
          dsimp only
          refine s_newlist (W0 := ⟨G, H⟩) (W := W11) (A := rPr) (xs := []) m11.l ea_nil (by decide) fun r W12 ws12 l12 hr12 mr => ?_
          have m12' := m11.le l12
          have hrf : f' ≠ r := m12'.fresh hr12
          have m12 : Mu rStr ⟨G, H⟩ ⟨W12.G, upd W12.H r (.lst ws12)⟩ ((lots.take i).map (lotStrand sh N)) f' := m12'.other mr.l hrf
          have g12 : Same W8.G W12.G := l811.g.trans l12.g
          have hl12 : rL rItem W12.G lot vl := Mn.mn g12 hl
          have hst12 := Mn.mn ((l10.g.trans l11.g).trans l12.g) hst
          have hle12 := Mn.mn (l11.g.trans l12.g) hle
          have hN12 := Mn.mn ((g46.trans g68).trans g12) hv4
          have elp : (rangeI 0 (lot.length : Int)).map (fun a => (((apart (headOf lot) (lot.getD a.toNat ((0, 0), 0)).1 sh).getD 0 - lotLeast sh lot, (apart (headOf lot) (lot.getD a.toNat ((0, 0), 0)).1 sh).getD 0 - lotLeast sh lot + (if (lot.getD a.toNat ((0, 0), 0)).2 = 0 then 1 else N)) : Pr)) = lotPairs sh N lot :=
            map_range lot ((0, 0), 0) (fun x => (((apart (headOf lot) x.1 sh).getD 0 - lotLeast sh lot, (apart (headOf lot) x.1 sh).getD 0 - lotLeast sh lot + (if x.2 = 0 then 1 else N)) : Pr))
          dsimp only
          refine s_for (xs := rangeI 0 (lot.length : Int)) (W := ⟨W12.G, upd W12.H r (.lst ws12)⟩) (A := K53.rI) (fun j σ W => (∃ u14 u15, σ = [some v, some v2, some v3, some vo, some vs, some (.ref p), u6, u7, some vl, some (.ref f'), some vst, some vle, some vfi, some (.ref r), u14, u15, none, none]) ∧ Same W12.G W.G ∧ Mu rStr ⟨G, H⟩ W ((lots.take i).map (lotStrand sh N)) f' ∧ Mu rPr ⟨G, H⟩ W ((lotPairs sh N lot).take j) r) mr.sub (ig_rng1 (e_lenL (xs := lot) (e_var (W := ⟨W12.G, upd W12.H r (.lst ws12)⟩) hl12 rfl)) (by omega)) (fun W1 l => ⟨⟨_, _, rfl⟩, l.g, m12.le l, by simpa using mr.le l⟩) ?_ ?_
          · rintro j a va σ' W13 W14 hj ⟨⟨u14, u15, rfl⟩, g13, mf13, mr13⟩ s13 l14 ha
            have ham := List.mem_of_getElem? hj
            have hjl := lt_of_get hj
            have hjl2 : j < lot.length := by simpa [rangeI] using hjl
            have g14 := g13.trans l14.g
            have hj2 : (lotPairs sh N lot)[j]? = some (((apart (headOf lot) (lot.getD a.toNat ((0, 0), 0)).1 sh).getD 0 - lotLeast sh lot, (apart (headOf lot) (lot.getD a.toNat ((0, 0), 0)).1 sh).getD 0 - lotLeast sh lot + (if (lot.getD a.toNat ((0, 0), 0)).2 = 0 then 1 else N)) : Pr) := by
              rw [← elp, List.getElem?_map, hj]
              rfl
            have hdd := hpos a ham
            show tSeq _ _ _ _ _
            refine s_set (W := W14) (A := K53.rI) (x := (apart (headOf lot) (lot.getD a.toNat ((0, 0), 0)).1 sh).getD 0 - lotLeast sh lot) l14.s (e_sub' (e_ixL (k := a.toNat) (e_var (Mn.mn g14 hst12) rfl) (e_is (e_var ha rfl) hdd) (hgs a ham)) (e_var (Mn.mn g14 hle12) rfl)) fun vlo W15 l15 hlo => ?_
            have g15 := g14.trans l15.g
            have mr15 := (mr13.le l14).le l15
            have mf15 := (mf13.le l14).le l15
            have hrf' : r ≠ f' := fun z => hrf z.symm
            dsimp only
            refine s_append (W0 := ⟨G, H⟩) (W := W15) (A := rPr) (x := (((apart (headOf lot) (lot.getD a.toNat ((0, 0), 0)).1 sh).getD 0 - lotLeast sh lot, (apart (headOf lot) (lot.getD a.toNat ((0, 0), 0)).1 sh).getD 0 - lotLeast sh lot + (if (lot.getD a.toNat ((0, 0), 0)).2 = 0 then 1 else N)) : Pr)) mr15 rfl (by rw [List.length_take]; omega) (e_pair (e_var hlo rfl) (e_add (e_var hlo rfl) ?_)) fun W16 ws16 l16 m16 => ?_
            · have hb := e_eqI (σ := [some v, some v2, some v3, some vo, some vs, some (.ref p), u6, u7, some vl, some (.ref f'), some vst, some vle, some vfi, some (.ref r), some va, some vlo, none, none]) (W := W15) (e_snd' (K := K) (e_ixL (K := K) (k := a.toNat) (e_var (A := rL rItem) (k := 8) (Mn.mn g15 hl12) rfl) (e_is (e_var (k := 14) (Mn.mn l15.g ha) rfl) hdd) (hgl a ham))) (e_int (i := 0))
              have hlst := e_lst (A := K53.rI) (xs := [N, 1]) (ea_cons (e_var (σ := [some v, some v2, some v3, some vo, some vs, some (.ref p), u6, u7, some vl, some (.ref f'), some vst, some vle, some vfi, some (.ref r), some va, some vlo, none, none]) (W := W15) (k := 2) (Mn.mn g15 hN12) rfl) (ea_cons e_int ea_nil)) (by simp)
              by_cases y : (lot.getD a.toNat ((0, 0), 0)).2 = 0
              · rw [if_pos y]
                exact e_ixL (k := 1) hlst (e_is (e_intB hb) (by rw [decide_eq_true y]; rfl)) rfl
              · rw [if_neg y]
                exact e_ixL (k := 0) hlst (e_is (e_intB hb) (by rw [decide_eq_false y]; rfl)) rfl
            · refine ⟨W16.G, (l14.g.trans l15.g).trans l16.g, m16.sub, ⟨_, _, rfl⟩, g15.trans l16.g, (mf15.le l16).other m16.l hrf, ?_⟩
              rw [take_snoc hj2]
              exact m16
          · rintro σ' W13 s13 ⟨⟨u14, u15, rfl⟩, g13, mf13, mr13⟩
            have elen : (rangeI 0 (lot.length : Int)).length = (lotPairs sh N lot).length := by unfold lotPairs; simp [rangeI]
            rw [elen, List.take_length] at mr13
            obtain ⟨ldr, hdr⟩ := mr13.done
            have mfin := Mu.fin mf13 ldr mr13.g hrf
            have sm13 : Same W13.G (upd W13.G r (.lst mr13.h.choose)) := Same_new mr13.g
            have hlpl : (lotPairs sh N lot).length ≤ 40000 := by unfold lotPairs; rw [List.length_map]; omega
            dsimp only
            refine s_append (W0 := ⟨G, H⟩) (W := ⟨upd W13.G r (.lst mr13.h.choose), W13.H⟩) (A := rStr) (x := lotStrand sh N lot) mfin rfl (by rw [List.length_map, List.length_take]; omega) (e_pair (e_var (Mn.mn ((l12.g.trans g13).trans sm13) hfi) rfl) (e_call1 (e_var hdr rfl) hlpl)) fun W14 ws14 l14 m14 => ?_
            refine ⟨W14.G, ((l8.g.trans g12).trans (g13.trans sm13)).trans l14.g, m14.sub, ⟨_, _, _, _, _, _, _, _, _, rfl⟩, (((g68.trans g12).trans g13).trans sm13).trans l14.g, ?_⟩
            rw [take_snoc hi, List.map_append]
            exact m14
        · rintro σ' W7 s7 ⟨⟨u6, u7, u8, u10, u11, u12, u13, u14, u15, rfl⟩, g7, m7⟩
          rw [List.take_length, ← edue] at m7
          obtain ⟨ldf, hdf⟩ := m7.done
          dsimp only
          refine s_ret (W := ⟨upd W7.G f' (.lst m7.h.choose), W7.H⟩) (A := rL rStr) (x := inOrder (dueRow cell (offs wd) N)) ldf.s ?_ fun v W'' l5 h => q v W'' (ldf.trans l5) h
          exact e_call1 (f := inOrder) (x := dueRow cell (offs wd) N) (e_var hdf rfl) ⟨due_nd cell wd hN, by rw [edue, List.length_map]; omega⟩
end
end K53
end

/-! K53L3 -/
section
/-! The law's own draws. -/
namespace K53
open PySem PySem.Spec PyProof.Rows L2
/-- the script, a list of ints -/
def rSc (K : PySem.W.Frag) (G : Hp) (ns : List Int) (v : V) : Prop := ∃ a, v = .ref a ∧ SqL K G a (ns.map V.int)
theorem rd_same {G G' : Hp} {a : Addr} {u : HO} (e : Same G G') (h : Rd G a u) : Rd G' a u := by
  rcases h with h | ⟨od, h⟩
  · exact .inl (e _ _ h)
  · exact .inr ⟨od, e _ _ h⟩
instance {K : PySem.W.Frag} : Mn (rSc K) := ⟨fun e ⟨a, h1, h2⟩ => ⟨a, h1, by
  rcases h2 with h2 | h2
  · exact .inl (rd_same e h2)
  · exact .inr h2⟩⟩
theorem sc_at {K : PySem.W.Frag} {G H : Hp} {ns : List Int} {v : V} (s : Sub G H) (h : rSc K G ns v) : ∃ a, v = .ref a ∧ SqL K H a (ns.map V.int) := by
  obtain ⟨a, h1, h2⟩ := h
  refine ⟨a, h1, ?_⟩
  rcases h2 with (h2 | ⟨od, h2⟩) | h2
  · exact .inl (.inl (s.lst h2))
  · exact .inl (.inr ⟨od, s.frz h2⟩)
  · exact .inr h2
/-- the state: four ints, never finished -/
structure StH (p : Addr) (W : Wd) : Prop where
  g : W.G p = none
  h : ∃ a b c d : Int, W.H p = some (.lst [.int a, .int b, .int c, .int d])
theorem StH.le {p : Addr} {W W1 : Wd} (m : StH p W) (l : Le W W1) : StH p W1 := by
  obtain ⟨a, b, c, d, h⟩ := m.h
  exact ⟨l.gone h (fun _ z => nomatch z) m.g, a, b, c, d, l.h.lst h⟩
/-- a list display: the new list is none of the text's -/
def tLstK (K : PySem.W.Frag) (t : TA) : TE := fun σ H Q => t σ H fun xs H1 => xs.length ≤ sizeLine ∧ ∀ p, H1 p = none → K.lookup p = none → Q (.ref p) (upd H1 p (.lst xs))
theorem pe_lstK {X : Cx} {K : PySem.W.Frag} {es : List Expr} {t : TA} {pos : Pos} (hK : X.K = K) (h : PA X es t) : PE X (.List es pos) (tLstK K t) := by
  subst hK
  refine ⟨fun pins s σ H Q I hq => ?_⟩
  refine wpAny_List_spliced (thn (h.run pos pins s σ H _ I hq) fun us s1 ⟨xs, H1, I1, r, z, q⟩ => ⟨by rw [← r.length]; exact z, ?_⟩)
  have hf : H1 s1.heap.objs.size = none := I1.hok.fresh (Nat.le_refl _)
  have hk : X.K.lookup s1.heap.objs.size = none := by
    cases e : X.K.lookup s1.heap.objs.size with
    | none => rfl
    | some o => exact absurd (Heap.lt_size (I1.kIn _ _ e)) (Nat.lt_irrefl _)
  refine ⟨.ref s1.heap.objs.size, upd H1 s1.heap.objs.size (.lst xs), I1.laid (t' := s1.toks) (fun b u e => Heap.get?_push_of_some _ e) (Nat.le_refl _) ?_, rfl, q _ hf hk⟩
  exact ⟨z, us, 0, r, Heap.get?_push_size _ rfl⟩
def spStart (K : PySem.W.Frag) : Sp := fun vs H Q _ => ∃ (ns : List Int) (a : Addr), vs = [.ref a] ∧ SqL K H a (ns.map V.int) ∧ ∀ (p : Addr) (H' : Hp) (a b c d : Int), H p = none → K.lookup p = none → H' = upd H p (.lst [.int a, .int b, .int c, .int d]) → Q (.ref p) H'
def spDraw (K : PySem.W.Frag) : Sp := fun vs H Q _ => ∃ (ns : List Int) (a p : Addr) (s0 s1 s2 s3 m : Int), vs = [.ref a, .ref p, .int m] ∧ SqL K H a (ns.map V.int) ∧ H p = some (.lst [.int s0, .int s1, .int s2, .int s3]) ∧ a ≠ p ∧ 0 < m ∧ m < 1073741824 ∧
  ∀ n t0 t1 t2 t3 : Int, 0 ≤ n → n < m → Q (.int n) (upd H p (.lst [.int t0, .int t1, .int t2, .int t3]))
abbrev Q__law_start (P : Program) (w : World) (K : PySem.W.Frag) (mg : Str → Option Value) (base : Heap) (c : Ca) : Prop := Cal P w K mg base 1 "_law_start" (spStart K) []
abbrev Q__law_draw (P : Program) (w : World) (K : PySem.W.Frag) (mg : Str → Option Value) (base : Heap) (c : Ca) : Prop := Cal P w K mg base 1 "_law_draw" (spDraw K) []
/-! ### readings that change nothing at all -/
def Eh (te : TE) (σ : L2.St) (H : Hp) (v : V) : Prop := ∀ Q : VK, Q v H → te σ H Q
def Th (tt : TT) (σ : L2.St) (H : Hp) (b : Bool) : Prop := ∀ Q : Bool → Hp → Prop, Q b H → tt σ H Q
section
variable {σ : L2.St} {H : Hp} {K : PySem.W.Frag} {ta tb : TE} {i j : Int} {t u : TT}
theorem h_var {k : Nat} {v : V} (e : σ[k]? = some (some v)) : Eh (tVar k) σ H v := fun Q q => ⟨v, e, q⟩
theorem h_int : Eh (tC (.int i)) σ H (.int i) := fun Q q => q
theorem h_op {g : Int → Int → V} (ha : Eh ta σ H (.int i)) (hb : Eh tb σ H (.int j)) : Eh (tOp (rI0 g) ta tb) σ H (g i j) := fun Q q => ha _ (hb _ ⟨i, j, rfl, rfl, q⟩)
theorem h_opC {P : Int → Int → Prop} {g : Int → Int → V} (ha : Eh ta σ H (.int i)) (hb : Eh tb σ H (.int j)) (hc : P i j) : Eh (tOp (L2.rI P g) ta tb) σ H (g i j) := fun Q q => ha _ (hb _ ⟨i, j, rfl, rfl, hc, q⟩)
theorem h_eq (ha : Eh ta σ H (.int i)) (hb : Eh tb σ H (.int j)) : Eh (tOp rEq ta tb) σ H (.bl (decide (i = j))) := fun Q q => ha _ (hb _ ⟨rfl, by rw [dec_i]; exact q⟩)
theorem h_ix {a : Addr} {vs : List V} {v : V} {k : Nat} (ha : Eh ta σ H (.ref a)) (hs : SqL K H a vs) (hb : Eh tb σ H (.int (k : Int))) (e : vs[k]? = some v) : Eh (tOp (rIxL K) ta tb) σ H v := fun Q q => ha _ (hb _ ⟨a, vs, k, v, rfl, rfl, hs, atI_nat e, q⟩)
theorem h_len {a : Addr} {vs : List V} (ha : Eh ta σ H (.ref a)) (hs : SqL K H a vs) : Eh (tCB (rLenQ K) (tCons ta tNil)) σ H (.int vs.length) := fun Q q => ha _ ⟨a, vs, rfl, .inl hs, q⟩
theorem h_toInt (ha : Eh ta σ H (.int i)) : Eh (tCB rInt1 (tCons ta tNil)) σ H (.int i) := fun Q q => ha _ (.inl ⟨i, rfl, q⟩)
theorem h_toIntB {b : Bool} (ha : Eh ta σ H (.bl b)) : Eh (tCB rInt1 (tCons ta tNil)) σ H (.int (if b then 1 else 0)) := fun Q q => ha _ (.inr ⟨b, rfl, q⟩)
theorem h_abs (ha : Eh ta σ H (.int i)) : Eh (tCB rAbsI (tCons ta tNil)) σ H (.int (if i < 0 then -i else i)) := fun Q q => ha _ ⟨i, rfl, q⟩
theorem h_test {b : Bool} (h : Eh ta σ H (.bl b)) : Th (tTest ta) σ H b := fun Q q => h _ ⟨b, rfl, q⟩
theorem h_and {a b : Bool} (h1 : Th t σ H a) (h2 : Th u σ H b) : Th (tAnd t u) σ H (a && b) := fun Q q => h1 _ (by
  cases a with
  | true => exact h2 _ q
  | false => exact q)
/-- x[k] = e -/
theorem h_put {D : Ends} {p : Addr} {xs : List V} {v : V} {k : Nat} {i : Nat} (h : Eh ta σ H v) (hv : σ[i]? = some (some (.ref p))) (hp : H p = some (.lst xs)) (hk : k < xs.length) (q : D.nx σ (upd H p (.lst (xs.set k v)))) : tAsg ta (gSub (tVar i) (tC (.int (k : Int))) rSetL) D σ H :=
  h _ ⟨_, hv, p, xs, (k : Int), k, rfl, rfl, hp, by unfold ixN; rw [if_pos (by omega), if_pos (by omega)]; simp, q⟩
theorem h_set {D : Ends} {v : V} {i : Nat} (h : Eh ta σ H v) (q : D.nx (σ.set i (some v)) H) : tAsg ta (gName i) D σ H := h _ q
theorem h_if {D : Ends} {b : Bool} {tu tw : TS} (h : Th t σ H b) (h1 : b = true → tu D σ H) (h2 : b = false → tw D σ H) : tIfS t tu tw D σ H := h _ (by
  cases b with
  | true => exact h1 rfl
  | false => exact h2 rfl)
theorem h_ret {D : Ends} {v : V} (h : Eh ta σ H v) (q : D.rt v H) : tRet ta D σ H := h _ q
end
theorem sql_upd {K : PySem.W.Frag} {H : Hp} {a p : Addr} {vs : List V} {o : HO} (h : SqL K H a vs) (e : a ≠ p) : SqL K (upd H p o) a vs := by
  rcases h with (h | ⟨od, h⟩) | h
  · exact .inl (.inl (by rw [upd_ne e]; exact h))
  · exact .inl (.inr ⟨od, by rw [upd_ne e]; exact h⟩)
  · exact .inr h
theorem upd_upd {H : Hp} {p : Addr} {o o' : HO} : upd (upd H p o) p o' = upd H p o' := by
  funext b
  by_cases e : b = p
  · subst e; rw [upd_same, upd_same]
  · rw [upd_ne e, upd_ne e, upd_ne e]
section
variable {P : Program} {w : World} {K : PySem.W.Frag} {mg : Str → Option Value} {base : Heap} {c : Ca}
abbrev s__law_start : Stmt := (top 45)
abbrev N__law_start : List Str := ["_law_script", "_law_first"]
theorem sc__law_start : FnScope N__law_start ["_law_script"] (defScope s__law_start) := ⟨rfl, rfl, rfl, by decide +kernel, rfl, by decide +kernel, by decide +kernel⟩
theorem c__law_start (B : Bu mg) (D : Dn K mg "_law_start" s__law_start []) : Q__law_start P w K mg base c := by
  refine D.cal sc__law_start (fun _ _ _ _ _ _ us hl => match us, hl with | [_], _ => rfl) (fun vs H Q E h => by obtain ⟨ns, a, rfl, _⟩ := h; rfl) fun f cdv A outer s H vs Q E hr hsp => ⟨_, PSs.nox (pss_cons (ps_set (i := 1) sc__law_start.nd rfl (Or.inl rfl) pe_int) (pss_cons (ps_if (pt_cmpR op_gt (pe_callB call_len_seq (by rfl) B.len_ (by decide +kernel) (pa_cons (pv 0) pa_nil)) pe_int (nomark _)) (pss_one (ps_set (i := 1) sc__law_start.nd rfl (Or.inl rfl) (pe_ix (ix_listK (K := K) rfl) (pv 0) pe_int (fun _ _ => rfl)))) pss_nil) (pss_one (ps_ret (pe_lstK (K := K) rfl (pa_cons (pe_callB call_abs (by rfl) B.abs_ (by decide +kernel) (pa_cons (pe_callTy call_int1 (by rfl) B.int_ (by decide +kernel) (pa_cons (pv 1) pa_nil)) pa_nil)) (pa_cons (pe_callTy call_int1 (by rfl) B.int_ (by decide +kernel) (pa_cons (pe_cmpR op_ge (pe_callB call_abs (by rfl) B.abs_ (by decide +kernel) (pa_cons (pe_callTy call_int1 (by rfl) B.int_ (by decide +kernel) (pa_cons (pv 1) pa_nil)) pa_nil)) (pe_op op_pow pe_int pe_int) (nomark _)) pa_nil)) (pa_cons pe_int (pa_cons pe_int pa_nil))))))))), ?_⟩
  obtain ⟨ns, a, rfl, hs, q⟩ := hsp
  refine h_set (v := .int 0) h_int ?_
  have hlen := h_len (K := K) (σ := [some (.ref a), some (.int 0)]) (ta := tVar 0) (h_var rfl) hs
  have fin : ∀ i : Int, tRet (tLstK K (tCons (tCB rAbsI (tCons (tCB rInt1 (tCons (tVar 1) tNil)) tNil)) (tCons (tCB rInt1 (tCons (tOp (rI0 fun i j => .bl (decide (j ≤ i))) (tCB rAbsI (tCons (tCB rInt1 (tCons (tVar 1) tNil)) tNil)) (tOp (L2.rI CPow fun i j => .int (i ^ j.toNat)) (tC (.int 10)) (tC (.int 18)))) tNil)) (tCons (tC (.int 1)) (tCons (tC (.int 0)) tNil))))) { nx := fun _ H' => Q .non H', rt := Q } [some (.ref a), some (.int i)] H := fun i => by
    have ha := h_abs (σ := [some (.ref a), some (.int i)]) (H := H) (h_toInt (h_var (k := 1) rfl))
    refine ha _ (h_toIntB (h_op (g := fun i j => .bl (decide (j ≤ i))) ha (h_opC (P := CPow) (g := fun i j => .int (i ^ j.toNat)) h_int h_int ⟨by decide, by decide, by decide⟩)) _ ⟨by show 4 ≤ sizeLine; decide, fun p hp hk => q p _ _ _ _ _ hp hk rfl⟩)
  dsimp only
  refine h_if (b := decide (0 < ((ns.map V.int).length : Int))) (h_test (h_op (g := fun i j => .bl (decide (j < i))) hlen h_int)) (fun z => ?_) (fun z => ?_)
  · have z : 0 < ((ns.map V.int).length : Int) := of_decide_eq_true z
    cases ns with
    | nil => simp at z
    | cons x r =>
      refine h_set (v := .int x) (h_ix (k := 0) (h_var rfl) hs h_int rfl) ?_
      exact fin x
  · exact fin 0
abbrev s__law_draw : Stmt := (top 46)
abbrev N__law_draw : List Str := ["_law_script", "_law_state", "_law_limit", "_law_number", "_law_cell_here", "_law_mixed"]
theorem sc__law_draw : FnScope N__law_draw ["_law_script", "_law_state", "_law_limit"] (defScope s__law_draw) := ⟨rfl, rfl, rfl, by decide +kernel, rfl, by decide +kernel, by decide +kernel⟩
theorem c__law_draw (B : Bu mg) (D : Dn K mg "_law_draw" s__law_draw []) : Q__law_draw P w K mg base c := by
  refine D.cal sc__law_draw (fun _ _ _ _ _ _ us hl => match us, hl with | [_, _, _], _ => rfl) (fun vs H Q E h => by obtain ⟨ns, a, p, s0, s1, s2, s3, m, rfl, _⟩ := h; rfl) fun f cdv A outer s H vs Q E hr hsp => ⟨_, PSs.nox (pss_cons (ps_asg (pe_op op_add (pe_ix (ix_listK (K := K) rfl) (pv 1) pe_int (fun _ _ => rfl)) pe_int) (pg_sub (pv 1) pe_int set_list)) (pss_cons (ps_if (PW.pt (pw_and (pt_cmpR op_eq (pe_ix (ix_listK (K := K) rfl) (pv 1) pe_int (fun _ _ => rfl)) pe_int (nomark _)) (pw_and1 (pt_cmpR op_gt (pe_ix (ix_listK (K := K) rfl) (pv 1) pe_int (fun _ _ => rfl)) pe_int (nomark _))))) (pss_cons (ps_set (i := 3) sc__law_draw.nd rfl (Or.inl rfl) (pe_op op_modN (pe_callTy call_int1 (by rfl) B.int_ (by decide +kernel) (pa_cons (pe_ix (ix_listK (K := K) rfl) (pv 1) pe_int (fun _ _ => rfl)) pa_nil)) (pv 2))) (pss_cons (ps_asg (pe_op op_fdivN (pe_ix (ix_listK (K := K) rfl) (pv 1) pe_int (fun _ _ => rfl)) (pv 2)) (pg_sub (pv 1) pe_int set_list)) (pss_one (ps_ret (pv 3))))) pss_nil) (pss_cons (ps_asg pe_int (pg_sub (pv 1) pe_int set_list)) (pss_cons (ps_set (i := 4) sc__law_draw.nd rfl (Or.inl rfl) pe_int) (pss_cons (ps_if (pt_cmpR op_gt (pe_callB call_len_seq (by rfl) B.len_ (by decide +kernel) (pa_cons (pv 0) pa_nil)) pe_int (nomark _)) (pss_one (ps_set (i := 4) sc__law_draw.nd rfl (Or.inl rfl) (pe_ix (ix_listK (K := K) rfl) (pv 0) (pe_op op_modN (pe_callTy call_int1 (by rfl) B.int_ (by decide +kernel) (pa_cons (pe_ix (ix_listK (K := K) rfl) (pv 1) pe_int (fun _ _ => rfl)) pa_nil)) (pe_callB call_len_seq (by rfl) B.len_ (by decide +kernel) (pa_cons (pv 0) pa_nil))) (fun _ _ => rfl)))) pss_nil) (pss_cons (ps_asg (pe_op op_add (pe_ix (ix_listK (K := K) rfl) (pv 1) pe_int (fun _ _ => rfl)) pe_int) (pg_sub (pv 1) pe_int set_list)) (pss_cons (ps_set (i := 5) sc__law_draw.nd rfl (Or.inl rfl) (pe_op op_mul (pe_op op_modN (pe_callTy call_int1 (by rfl) B.int_ (by decide +kernel) (pa_cons (pe_ix (ix_listK (K := K) rfl) (pv 1) pe_int (fun _ _ => rfl)) pa_nil)) pe_int) pe_int)) (pss_cons (ps_set (i := 5) sc__law_draw.nd rfl (Or.inl rfl) (pe_op op_add (pe_op op_add (pe_op op_add (pv 5) (pe_op op_modN (pe_callTy call_int1 (by rfl) B.int_ (by decide +kernel) (pa_cons (pv 4) pa_nil)) pe_int)) (pe_op op_mul pe_int (pe_ix (ix_listK (K := K) rfl) (pv 1) pe_int (fun _ _ => rfl)))) pe_int)) (pss_cons (ps_asg (pe_op op_modN (pe_callTy call_int1 (by rfl) B.int_ (by decide +kernel) (pa_cons (pv 5) pa_nil)) pe_int) (pg_sub (pv 1) pe_int set_list)) (pss_cons (ps_set (i := 5) sc__law_draw.nd rfl (Or.inl rfl) (pe_op op_modN (pe_callTy call_int1 (by rfl) B.int_ (by decide +kernel) (pa_cons (pe_op op_add (pe_op op_mul (pe_ix (ix_listK (K := K) rfl) (pv 1) pe_int (fun _ _ => rfl)) pe_int) (pe_ix (ix_listK (K := K) rfl) (pv 1) pe_int (fun _ _ => rfl))) pa_nil)) pe_int)) (pss_one (ps_ret (pe_op op_modN (pe_callTy call_int1 (by rfl) B.int_ (by decide +kernel) (pa_cons (pe_op op_fdivN (pv 5) pe_int) pa_nil)) (pv 2)))))))))))))), ?_⟩
  obtain ⟨ns, a, p, s0, s1, s2, s3, m, rfl, hs, hp, hap, hm0, hm1, q⟩ := hsp
  have hm : CDivN 0 m := ⟨by omega, by omega⟩
  have q2 : ∀ n t0 t1 t2 t3, 0 ≤ n → n < m → Q (.int n) (upd H p (.lst [.int t0, .int t1, .int t2, .int t3])) := q
  have hf : ∀ i : Int, 0 ≤ i.fmod m ∧ i.fmod m < m := fun i => ⟨Int.fmod_nonneg_of_pos _ hm0, Int.fmod_lt_of_pos _ hm0⟩
  -- the state's heap
  have rd : ∀ (σ : L2.St) (t0 t1 t2 t3 : Int) (k : Nat) (x : Int), σ[1]? = some (some (.ref p)) → ([V.int t0, .int t1, .int t2, .int t3])[k]? = some (.int x) → Eh (tOp (rIxL K) (tVar 1) (tC (.int (k : Int)))) σ (upd H p (.lst [.int t0, .int t1, .int t2, .int t3])) (.int x) := fun σ t0 t1 t2 t3 k x e1 e2 => h_ix (h_var e1) (SqL.of upd_same) h_int e2
  have h0 : H = upd H p (.lst [.int s0, .int s1, .int s2, .int s3]) := by
    funext b
    by_cases e : b = p
    · subst e; rw [upd_same]; exact hp
    · rw [upd_ne e]
  rw [h0]
  refine h_put (k := 3) (v := .int (s3 + 1)) (h_op (g := fun i j => .int (i + j)) (rd _ s0 s1 s2 s3 3 s3 rfl rfl) h_int) rfl upd_same (by simp) ?_
  rw [upd_upd]
  show tSeq _ _ _ _ (upd H p (.lst [.int s0, .int s1, .int s2, .int (s3 + 1)]))
  refine h_if (b := decide (s1 = 1) && decide (0 < s0)) (h_and (h_test (h_eq (rd _ s0 s1 s2 (s3 + 1) 1 s1 rfl rfl) h_int)) (h_test (h_op (g := fun i j => .bl (decide (j < i))) (rd _ s0 s1 s2 (s3 + 1) 0 s0 rfl rfl) h_int))) (fun z => ?_) (fun z => ?_)
  · refine h_set (v := .int (s0.fmod m)) (h_opC (P := fun _ j => j ≠ 0) (g := fun i j => .int (i.fmod j)) (h_toInt (rd _ s0 s1 s2 (s3 + 1) 0 s0 rfl rfl)) (h_var rfl) (by omega)) ?_
    refine h_put (k := 0) (v := .int (s0.fdiv m)) (h_opC (P := CDivN) (g := fun i j => .int (i.fdiv j)) (rd _ s0 s1 s2 (s3 + 1) 0 s0 rfl rfl) (h_var rfl) ⟨by omega, by omega⟩) rfl upd_same (by simp) ?_
    rw [upd_upd]
    exact h_ret (v := .int (s0.fmod m)) (h_var rfl) (q2 _ _ _ _ _ (hf s0).1 (hf s0).2)
  · refine h_put (k := 1) (v := .int 0) h_int rfl upd_same (by simp) ?_
    rw [upd_upd]
    dsimp only
    refine h_set (v := .int 0) h_int ?_
    have hs' : ∀ o, SqL K (upd H p o) a (ns.map V.int) := fun o => sql_upd hs hap
    have hlen := h_len (K := K) (σ := [some (.ref a), some (.ref p), some (.int m), none, some (.int 0), none]) (ta := tVar 0) (h_var rfl) (hs' (.lst [.int s0, .int 0, .int s2, .int (s3 + 1)]))
    dsimp only
    refine h_if (b := decide (0 < ((ns.map V.int).length : Int))) (h_test (h_op (g := fun i j => .bl (decide (j < i))) hlen h_int)) (fun z => ?_) (fun z => ?_)
    · have z : 0 < ((ns.map V.int).length : Int) := of_decide_eq_true z
      have hk0 : 0 ≤ s2.fmod ((ns.map V.int).length : Int) := Int.fmod_nonneg_of_pos _ z
      have hk1 : s2.fmod ((ns.map V.int).length : Int) < ((ns.map V.int).length : Int) := Int.fmod_lt_of_pos _ z
      have hkl : (s2.fmod ((ns.map V.int).length : Int)).toNat < ns.length := by rw [List.length_map] at hk1 hk0 ⊢; omega
      refine h_set (v := .int (ns[(s2.fmod ((ns.map V.int).length : Int)).toNat])) (h_ix (k := (s2.fmod ((ns.map V.int).length : Int)).toNat) (h_var rfl) (hs' _) ?_ (by rw [List.getElem?_map, List.getElem?_eq_getElem hkl]; rfl)) ?_
      · have := h_opC (P := fun _ j => j ≠ 0) (g := fun i j => .int (i.fmod j)) (h_toInt (rd [some (.ref a), some (.ref p), some (.int m), none, some (.int 0), none] s0 0 s2 (s3 + 1) 2 s2 rfl rfl)) hlen (by omega)
        rw [show (((s2.fmod ((ns.map V.int).length : Int)).toNat : Nat) : Int) = s2.fmod ((ns.map V.int).length : Int) by omega]
        exact this
      generalize ns[(s2.fmod ((ns.map V.int).length : Int)).toNat] = cc
      dsimp only
      refine h_put (k := 2) (v := .int (s2 + 1)) (h_op (g := fun i j => .int (i + j)) (rd _ s0 0 s2 (s3 + 1) 2 s2 rfl rfl) h_int) rfl upd_same (by simp) ?_
      rw [upd_upd]
      dsimp only
      refine h_set (v := .int (s0.fmod 2147483647 * 48271)) (h_opC (P := CMul) (g := fun i j => .int (i * j)) (h_opC (P := fun _ j => j ≠ 0) (g := fun i j => .int (i.fmod j)) (h_toInt (rd _ s0 0 (s2 + 1) (s3 + 1) 0 s0 rfl rfl)) h_int (by decide)) h_int (.inr ⟨by decide, by decide⟩)) ?_
      refine h_set (h_op (g := fun i j => .int (i + j)) (h_op (g := fun i j => .int (i + j)) (h_op (g := fun i j => .int (i + j)) (h_var rfl) (h_opC (P := fun _ j => j ≠ 0) (g := fun i j => .int (i.fmod j)) (h_toInt (h_var rfl)) h_int (by decide))) (h_opC (P := CMul) (g := fun i j => .int (i * j)) h_int (rd _ s0 0 (s2 + 1) (s3 + 1) 3 (s3 + 1) rfl rfl) (.inl ⟨by decide, by decide⟩))) h_int) ?_
      refine h_put (k := 0) (h_opC (P := fun _ j => j ≠ 0) (g := fun i j => .int (i.fmod j)) (h_toInt (h_var rfl)) h_int (by decide)) rfl upd_same (by simp) ?_
      rw [upd_upd]
      dsimp only
      refine h_set (h_opC (P := fun _ j => j ≠ 0) (g := fun i j => .int (i.fmod j)) (h_toInt (h_op (g := fun i j => .int (i + j)) (h_opC (P := CMul) (g := fun i j => .int (i * j)) (rd _ _ 0 (s2 + 1) (s3 + 1) 0 _ rfl rfl) h_int (.inr ⟨by decide, by decide⟩)) (rd _ _ 0 (s2 + 1) (s3 + 1) 3 (s3 + 1) rfl rfl))) h_int (by decide)) ?_
      exact h_ret (h_opC (P := fun _ j => j ≠ 0) (g := fun i j => .int (i.fmod j)) (h_toInt (h_opC (P := CDivN) (g := fun i j => .int (i.fdiv j)) (h_var rfl) h_int ⟨by decide, by decide⟩)) (h_var rfl) (by omega)) (q2 _ _ _ _ _ (hf _).1 (hf _).2)
    · dsimp only
      refine h_put (k := 2) (v := .int (s2 + 1)) (h_op (g := fun i j => .int (i + j)) (rd _ s0 0 s2 (s3 + 1) 2 s2 rfl rfl) h_int) rfl upd_same (by simp) ?_
      rw [upd_upd]
      dsimp only
      refine h_set (v := .int (s0.fmod 2147483647 * 48271)) (h_opC (P := CMul) (g := fun i j => .int (i * j)) (h_opC (P := fun _ j => j ≠ 0) (g := fun i j => .int (i.fmod j)) (h_toInt (rd _ s0 0 (s2 + 1) (s3 + 1) 0 s0 rfl rfl)) h_int (by decide)) h_int (.inr ⟨by decide, by decide⟩)) ?_
      refine h_set (h_op (g := fun i j => .int (i + j)) (h_op (g := fun i j => .int (i + j)) (h_op (g := fun i j => .int (i + j)) (h_var rfl) (h_opC (P := fun _ j => j ≠ 0) (g := fun i j => .int (i.fmod j)) (h_toInt (h_var rfl)) h_int (by decide))) (h_opC (P := CMul) (g := fun i j => .int (i * j)) h_int (rd _ s0 0 (s2 + 1) (s3 + 1) 3 (s3 + 1) rfl rfl) (.inl ⟨by decide, by decide⟩))) h_int) ?_
      refine h_put (k := 0) (h_opC (P := fun _ j => j ≠ 0) (g := fun i j => .int (i.fmod j)) (h_toInt (h_var rfl)) h_int (by decide)) rfl upd_same (by simp) ?_
      rw [upd_upd]
      dsimp only
      refine h_set (h_opC (P := fun _ j => j ≠ 0) (g := fun i j => .int (i.fmod j)) (h_toInt (h_op (g := fun i j => .int (i + j)) (h_opC (P := CMul) (g := fun i j => .int (i * j)) (rd _ _ 0 (s2 + 1) (s3 + 1) 0 _ rfl rfl) h_int (.inr ⟨by decide, by decide⟩)) (rd _ _ 0 (s2 + 1) (s3 + 1) 3 (s3 + 1) rfl rfl))) h_int (by decide)) ?_
      exact h_ret (h_opC (P := fun _ j => j ≠ 0) (g := fun i j => .int (i.fmod j)) (h_toInt (h_opC (P := CDivN) (g := fun i j => .int (i.fdiv j)) (h_var rfl) h_int ⟨by decide, by decide⟩)) (h_var rfl) (by omega)) (q2 _ _ _ _ _ (hf _).1 (hf _).2)
end
end K53
end

/-! K53L4 -/
section
/-! The law's own cells and words. -/
namespace K53
open PySem PySem.Spec PyProof.Rows L2
structure StK (K : PySem.W.Frag) (p : Addr) (W : Wd) : Prop where
  st : StH p W
  nk : K.lookup p = none
theorem StK.le {K : PySem.W.Frag} {p : Addr} {W W1 : Wd} (m : StK K p W) (l : Le W W1) : StK K p W1 := ⟨m.st.le l, m.nk⟩
theorem sc_ne {K : PySem.W.Frag} {G : Hp} {ns : List Int} {a p : Addr} (h : rSc K G ns (.ref a)) (hg : G p = none) (hk : K.lookup p = none) : a ≠ p := fun z => by
  obtain ⟨a', e, h⟩ := h
  cases e
  subst z
  rcases h with (h | ⟨od, h⟩) | ⟨o, its, n, h, _⟩
  · rw [hg] at h; cases h
  · rw [hg] at h; cases h
  · rw [hk] at h; cases h
/-- a def that draws -/
def spS {α : Type} (K : PySem.W.Frag) (A : Hp → α → V → Prop) (P : α → Prop) : Sp := fun vs H Q _ => ∃ (G : Hp) (ns : List Int) (v : V) (p : Addr), vs = [v, .ref p] ∧ Sub G H ∧ rSc K G ns v ∧ StK K p ⟨G, H⟩ ∧
  ∀ u W' x, Same G W'.G → Sub W'.G W'.H → StK K p W' → A W'.G x u → P x → Q u W'.H
/-- a reading that draws -/
def Es {α : Type} (te : TE) (σ : L2.St) (W : Wd) (K : PySem.W.Frag) (p : Addr) (A : Hp → α → V → Prop) (P : α → Prop) : Prop := ∀ Q : VK, (∀ v W' x, Same W.G W'.G → Sub W'.G W'.H → StK K p W' → A W'.G x v → P x → Q v W'.H) → te σ W.H Q
def PCell (c : Cell) : Prop := -3 ≤ c.1 ∧ c.1 ≤ 3 ∧ -3 ≤ c.2 ∧ c.2 ≤ 3
def PWord (w : List Nat) : Prop := Lets w ∧ w.length ≤ 9
abbrev Q__law_cell (P : Program) (w : World) (K : PySem.W.Frag) (mg : Str → Option Value) (base : Heap) (c : Ca) : Prop := Cal P w K mg base 2 "_law_cell" (spS K rCell PCell) []
abbrev Q__law_word (P : Program) (w : World) (K : PySem.W.Frag) (mg : Str → Option Value) (base : Heap) (c : Ca) : Prop := Cal P w K mg base 2 "_law_word" (spS K rW PWord) []
section
variable {P : Program} {w : World} {K : PySem.W.Frag} {mg : Str → Option Value} {base : Heap} {c : Ca} {σ : L2.St} {W : Wd} {p : Addr} {ns : List Int} {v : V}
theorem es_draw {i j : Nat} {m : Int} {E : XK} (s : Sub W.G W.H) (st : StK K p W) (hs : rSc K W.G ns v) (e1 : σ[i]? = some (some v)) (e2 : σ[j]? = some (some (.ref p))) (hm : 0 < m) (hm1 : m < 1073741824) :
    Es (tCall (spDraw K) [] E (tCons (tVar i) (tCons (tVar j) (tCons (tC (.int m)) tNil)))) σ W K p K53.rI (fun n => 0 ≤ n ∧ n < m) := fun Q q => by
  obtain ⟨a, rfl, hS⟩ := sc_at s hs
  obtain ⟨s0, s1, s2, s3, hp⟩ := st.st.h
  refine ⟨_, e1, _, e2, ns, a, p, s0, s1, s2, s3, m, rfl, hS, hp, sc_ne hs st.st.g st.nk, hm, hm1, fun n t0 t1 t2 t3 h0 h1 => ?_⟩
  exact q _ ⟨W.G, upd W.H p (.lst [.int t0, .int t1, .int t2, .int t3])⟩ n (Same.refl _) (Sub.upd s st.st.g) ⟨⟨st.st.g, t0, t1, t2, t3, upd_same⟩, st.nk⟩ rfl ⟨h0, h1⟩
theorem es_call {α : Type} {A : Hp → α → V → Prop} {Pr : α → Prop} {i j : Nat} {E : XK} (s : Sub W.G W.H) (st : StK K p W) (hs : rSc K W.G ns v) (e1 : σ[i]? = some (some v)) (e2 : σ[j]? = some (some (.ref p))) :
    Es (tCall (spS K A Pr) [] E (tCons (tVar i) (tCons (tVar j) tNil))) σ W K p A Pr := fun Q q => ⟨_, e1, _, e2, W.G, ns, v, p, rfl, s, hs, st, q⟩
theorem es_set {α : Type} {A : Hp → α → V → Prop} {Pr : α → Prop} {D : Ends} {te : TE} {i : Nat} (h : Es te σ W K p A Pr) (k : ∀ v W' x, Same W.G W'.G → Sub W'.G W'.H → StK K p W' → A W'.G x v → Pr x → D.nx (σ.set i (some v)) W'.H) : tAsg te (gName i) D σ W.H := h _ k
theorem spS_len {α : Type} {A : Hp → α → V → Prop} {Pr : α → Prop} (vs : List V) (H : Hp) (Q : VK) (E : XK) (h : spS K A Pr vs H Q E) : vs.length = 2 := by
  obtain ⟨G, ns, v, p, rfl, _⟩ := h
  rfl
abbrev s__law_cell : Stmt := (top 50)
abbrev N__law_cell : List Str := ["_law_script", "_law_state"]
theorem sc__law_cell : FnScope N__law_cell ["_law_script", "_law_state"] (defScope s__law_cell) := ⟨rfl, rfl, rfl, by decide +kernel, rfl, by decide +kernel, by decide +kernel⟩
theorem c__law_cell (B : Bu mg) (D : Dn K mg "_law_cell" s__law_cell []) (G__law_draw : Q__law_draw P w K mg base c) : Q__law_cell P w K mg base c := by
  refine D.cal sc__law_cell (fun _ _ _ _ _ _ us hl => match us, hl with | [_, _], _ => rfl) spS_len fun f cdv A outer s H vs Q E hr hsp => ⟨_, PSs.nox (pss_one (ps_ret (pe_tup (pa_cons (pe_op op_sub (pe_cal G__law_draw hr (by decide) (by rfl) (pa_cons (pv 0) (pa_cons (pv 1) (pa_cons pe_int pa_nil)))) pe_int) (pa_cons (pe_op op_sub (pe_cal G__law_draw hr (by decide) (by rfl) (pa_cons (pv 0) (pa_cons (pv 1) (pa_cons pe_int pa_nil)))) pe_int) pa_nil))))), ?_⟩
  obtain ⟨G, ns, v, p, rfl, sb, hs, st, q⟩ := hsp
  have d1 := es_draw (W := ⟨G, H⟩) (σ := [some v, some (.ref p)]) (i := 0) (j := 1) (m := 7) (E := E0) sb st hs rfl rfl (by decide) (by decide)
  refine d1 _ fun v1 W1 n1 g1 s1 st1 h1 hp1 => ⟨n1, 3, h1, rfl, ?_⟩
  have d2 := es_draw (W := W1) (σ := [some v, some (.ref p)]) (i := 0) (j := 1) (m := 7) (E := E0) s1 st1 (Mn.mn g1 hs) rfl rfl (by decide) (by decide)
  refine d2 _ fun v2 W2 n2 g2 s2 st2 h2 hp2 => ⟨n2, 3, h2, rfl, ⟨by show 2 ≤ sizeLine; decide, fun t ht => ?_⟩⟩
  have l := Le.new s2 ht (o := .tup [.int (n1 - 3), .int (n2 - 3)])
  exact q _ ⟨upd W2.G t (.tup [.int (n1 - 3), .int (n2 - 3)]), upd W2.H t (.tup [.int (n1 - 3), .int (n2 - 3)])⟩ (n1 - 3, n2 - 3) ((g1.trans g2).trans l.g) l.s (st2.le l) ⟨t, _, _, rfl, upd_same, rfl, rfl⟩ ⟨by dsimp only; omega, by dsimp only; omega, by dsimp only; omega, by dsimp only; omega⟩
def known : List Str := (["E", "EN", "EEW", "ENWS", "ENWN", "EWN", "NS", "EENW", "WWSE", "NNES", "ENWSE", "SSN"] : List Str) ++ (["NNEEESSWW", "SSWWWNNEE"] : List Str)
def PW' (w : List Nat) : Prop := w ≠ [] ∧ w.length ≤ 9 ∧ ∀ c ∈ w, c = 69 ∨ c = 78 ∨ c = 87 ∨ c = 83
instance (w : List Nat) : Decidable (PW' w) := by unfold PW'; infer_instance
theorem lets_of {w : List Nat} (h : PW' w) : PWord w := ⟨⟨h.1, Nat.le_trans h.2.1 (by decide), h.2.2⟩, h.2.1⟩
theorem known_ok : ∀ s ∈ known, PW' s.cps.toList := by decide +kernel
theorem join_one : ∀ (ss : List Nat), Str.join "" (ss.map fun c => (⟨#[c]⟩ : Str)) = ⟨ss.toArray⟩
  | [] => rfl
  | [c] => rfl
  | c :: d :: r => by
    have ih := join_one (d :: r)
    show (⟨#[c]⟩ : Str) ++ ("" : Str) ++ Str.join "" ((d :: r).map fun c => (⟨#[c]⟩ : Str)) = _
    rw [ih]
    show (⟨(#[c] ++ #[]) ++ (d :: r).toArray⟩ : Str) = _
    congr 1
    simp
theorem enws (n : Int) (h : 0 ≤ n ∧ n < 4) : ∃ c, ("ENWS" : Str).cps.toList[n.toNat]? = some c ∧ (c = 69 ∨ c = 78 ∨ c = 87 ∨ c = 83) := by
  have : n = 0 ∨ n = 1 ∨ n = 2 ∨ n = 3 := by omega
  rcases this with rfl | rfl | rfl | rfl
  · exact ⟨69, by decide +kernel, .inl rfl⟩
  · exact ⟨78, by decide +kernel, .inr (.inl rfl)⟩
  · exact ⟨87, by decide +kernel, .inr (.inr (.inl rfl))⟩
  · exact ⟨83, by decide +kernel, .inr (.inr (.inr rfl))⟩
abbrev s__law_word : Stmt := (top 51)
abbrev N__law_word : List Str := ["_law_script", "_law_state", "_law_known", "_law_many", "_law_k"]
theorem sc__law_word : FnScope N__law_word ["_law_script", "_law_state"] (defScope s__law_word) := ⟨rfl, rfl, rfl, by decide +kernel, rfl, by decide +kernel, by decide +kernel⟩
theorem c__law_word (B : Bu mg) (D : Dn K mg "_law_word" s__law_word []) (G__law_draw : Q__law_draw P w K mg base c) : Q__law_word P w K mg base c := by
  refine D.cal sc__law_word (fun _ _ _ _ _ _ us hl => match us, hl with | [_, _], _ => rfl) spS_len fun f cdv A outer s H vs Q E hr hsp => ⟨_, PSs.nox (pss_cons (ps_set (i := 2) sc__law_word.nd rfl (Or.inl rfl) (pe_lst (pa_cons pe_str (pa_cons pe_str (pa_cons pe_str (pa_cons pe_str (pa_cons pe_str (pa_cons pe_str (pa_cons pe_str (pa_cons pe_str (pa_cons pe_str (pa_cons pe_str (pa_cons pe_str (pa_cons pe_str pa_nil)))))))))))))) (pss_cons (ps_set (i := 2) sc__law_word.nd rfl (Or.inl rfl) (pe_op op_cat (pv 2) (pe_lst (pa_cons pe_str (pa_cons pe_str pa_nil))))) (pss_cons (ps_if (pt_cmpR op_eq (pe_cal G__law_draw hr (by decide) (by rfl) (pa_cons (pv 0) (pa_cons (pv 1) (pa_cons pe_int pa_nil)))) pe_int (nomark _)) (pss_one (ps_ret (pe_ix (ix_listK (K := K) rfl) (pv 2) (pe_cal G__law_draw hr (by decide) (by rfl) (pa_cons (pv 0) (pa_cons (pv 1) (pa_cons pe_int pa_nil)))) (fun _ _ => rfl)))) pss_nil) (pss_cons (ps_set (i := 3) sc__law_word.nd rfl (Or.inl rfl) (pe_op op_add pe_int (pe_cal G__law_draw hr (by decide) (by rfl) (pa_cons (pv 0) (pa_cons (pv 1) (pa_cons pe_int pa_nil)))))) (pss_one (ps_ret (pe_join pe_str (pe_lc (own := [("_law_k", 4)]) rfl sc__law_word.nd (pi_range1 (by rfl) B.range_ (pa_cons (pv 3) pa_nil)) (blkOk_by (N := N__law_word) (sc := defScope s__law_word) (by decide +kernel)) (fun _ _ _ _ _ => (pg_name (i := 4) sc__law_word.nd rfl (Or.inl rfl))) (fun _ _ _ _ _ => pts_nil) (fun _ _ _ _ _ => (pe_ix ix_str pe_str (pe_cal G__law_draw hr (by decide) (by rfl) (pa_cons (pv 0) (pa_cons (pv 1) (pa_cons pe_int pa_nil)))) (fun _ _ => rfl))))))))))), ?_⟩
  obtain ⟨G, ns, v, p, rfl, sb, hs, st, q⟩ := hsp
  refine s_set (W := ⟨G, H⟩) (A := rL rS) (x := ["E", "EN", "EEW", "ENWS", "ENWN", "EWN", "NS", "EENW", "WWSE", "NNES", "ENWSE", "SSN"]) sb (e_lst (ea_cons e_str (ea_cons e_str (ea_cons e_str (ea_cons e_str (ea_cons e_str (ea_cons e_str (ea_cons e_str (ea_cons e_str (ea_cons e_str (ea_cons e_str (ea_cons e_str (ea_cons e_str ea_nil)))))))))))) (by simp)) fun vk W1 l1 hk1 => ?_
  dsimp only
  refine s_set (W := W1) (A := rL rS) (x := known) l1.s (e_is (e_cat (e_var hk1 rfl) (e_lst (xs := (["NNEEESSWW", "SSWWWNNEE"] : List Str)) (ea_cons e_str (ea_cons e_str ea_nil)) (by simp)) (by simp)) rfl) fun vk2 W2 l2 hk => ?_
  have l02 := l1.trans l2
  have hs2 := Mn.mn l02.g hs
  have st2 := st.le l02
  have d1 : ∀ (W' : Wd) (σ' : L2.St) (m : Int), σ'[0]? = some (some v) → σ'[1]? = some (some (.ref p)) → Same W2.G W'.G → Sub W'.G W'.H → StK K p W' → 0 < m → m < 1073741824 → Es (tCall (spDraw K) [] E0 (tCons (tVar 0) (tCons (tVar 1) (tCons (tC (.int m)) tNil)))) σ' W' K p K53.rI (fun n => 0 ≤ n ∧ n < m) := fun W' σ' m e1 e2 g s' st' h1 h2 =>
    es_draw (i := 0) (j := 1) s' st' (Mn.mn g hs2) e1 e2 h1 h2
  dsimp only
  refine d1 W2 _ 2 rfl rfl (Same.refl _) l2.s st2 (by decide) (by decide) _ fun v1 W3 n1 g3 s3 st3 h1 hp1 => ?_
  obtain rfl : v1 = .int n1 := h1
  refine ⟨rfl, _, rfl, ?_⟩
  rw [dec_i]
  have g03 := l02.g.trans g3
  by_cases z : n1 = 0
  · rw [decide_eq_true z]
    obtain ⟨ka, kvs, ek, gk, pk⟩ := Mn.mn g3 hk
    have d2 := d1 W3 [some v, some (.ref p), some vk2, none, none] 14 rfl rfl g3 s3 st3 (by decide) (by decide)
    refine ⟨vk2, rfl, ?_⟩
    refine d2 _ fun v2 W4 n2 g4 s4 st4 h2 hp2 => ?_
    obtain rfl : v2 = .int n2 := h2
    have hlt : n2.toNat < known.length := by show n2.toNat < 14; omega
    obtain ⟨u, hu1, hu2⟩ := pa_get pk (show known[n2.toNat]? = some known[n2.toNat] by simp [hlt])
    refine ⟨ka, kvs, n2, u, ek, rfl, SqL.of (s4.lst (g4 _ _ gk)), ?_, ?_⟩
    · have := atI_nat hu1
      rw [show ((n2.toNat : Nat) : Int) = n2 by omega] at this
      exact this
    · exact q u W4 (known[n2.toNat]).cps.toList (g03.trans g4) s4 st4 hu2 (lets_of (known_ok _ (List.getElem_mem hlt)))
  · rw [decide_eq_false z]
    have d2 := d1 W3 [some v, some (.ref p), some vk2, none, none] 5 rfl rfl g3 s3 st3 (by decide) (by decide)
    refine d2 _ fun v2 W4 n2 g4 s4 st4 h2 hp2 => ?_
    obtain rfl : v2 = .int n2 := h2
    refine ⟨1, n2, rfl, rfl, ?_⟩
    have g24 := g3.trans g4
    refine ⟨⟨"", rfl⟩, ?_⟩
    refine ⟨.int (1 + n2), rfl, 1 + n2, rfl, by omega, by omega, fun Dl hD => ?_⟩
    refine ⟨fun i m H => m = (1 + n2).toNat - i ∧ i ≤ (1 + n2).toNat ∧ Dl ≠ p ∧ ∃ (G' : Hp) (ss : List Nat), Sub G' H ∧ Same W4.G G' ∧ StK K p ⟨G', H⟩ ∧ G' Dl = none ∧ H Dl = some (.lst ((ss.map fun c : Nat => (⟨#[c]⟩ : Str)).map V.str)) ∧ ss.length = i ∧ ∀ c ∈ ss, c = 69 ∨ c = 78 ∨ c = 87 ∨ c = 83,
      ⟨(1 + n2).toNat, by simp, Nat.zero_le _, ?_, W4.G, [], (Le.mut s4 hD).s, Same.refl _, st4.le (Le.mut s4 hD), s4.free hD, upd_same, rfl, fun c hc => by cases hc⟩, ?_⟩
    · obtain ⟨a, b, c, d, hst⟩ := st4.st.h
      exact fun z => by rw [z, hst] at hD; cases hD
    · rintro i m H' ⟨rfl, hi, hDp, G', ss, sG, gG, stG, gD, hH, hl, hc⟩
      by_cases hlt : i < (1 + n2).toNat
      · refine .inr ⟨hlt, fun H'' => ∃ (G' : Hp) (ss : List Nat), Sub G' H'' ∧ Same W4.G G' ∧ StK K p ⟨G', H''⟩ ∧ G' Dl = none ∧ H'' Dl = some (.lst ((ss.map fun c : Nat => (⟨#[c]⟩ : Str)).map V.str)) ∧ ss.length = i + 1 ∧ ∀ c ∈ ss, c = 69 ∨ c = 78 ∨ c = 87 ∨ c = 83,
          fun H'' h => ⟨(1 + n2).toNat - (i + 1), by omega, rfl, by omega, hDp, h⟩, fun x H'' ⟨e1, e2⟩ => ⟨rfl, ?_⟩⟩
        subst e1
        subst e2
        obtain ⟨a, ea, hS⟩ := sc_at sG (Mn.mn (g24.trans gG) hs2)
        subst ea
        obtain ⟨s0, s1, s2, s3', hst⟩ := stG.st.h
        have hne := sc_ne (Mn.mn (g24.trans gG) hs2) stG.st.g stG.nk
        refine ⟨_, rfl, _, rfl, ns, a, p, s0, s1, s2, s3', 4, rfl, hS, hst, hne, by decide, by decide, fun n t0 t1 t2 t3 k0 k1 => ?_⟩
        obtain ⟨c', hc1, hc2⟩ := enws n ⟨k0, k1⟩
        refine ⟨"ENWS", n, c', rfl, rfl, by decide, ?_, (ss.map fun c : Nat => (⟨#[c]⟩ : Str)).map V.str, ?_, ?_, G', ss ++ [c'], ?_, gG, ⟨⟨stG.st.g, t0, t1, t2, t3, ?_⟩, stG.nk⟩, gD, ?_, by rw [List.length_append, hl]; rfl, fun c hcm => ?_⟩
        · have := atI_nat hc1
          rw [show ((n.toNat : Nat) : Int) = n by omega] at this
          exact this
        · rw [upd_ne hDp]; exact hH
        · rw [List.length_map, List.length_map, hl]
          exact Nat.lt_of_lt_of_le (show i < 100 by omega) (by decide)
        · exact Sub.upd (Sub.upd sG stG.st.g) gD
        · show upd (upd _ p _) Dl _ p = _
          rw [upd_ne (fun z => hDp z.symm), upd_same]
        · rw [upd_same, List.map_append, List.map_append]
          rfl
        · rcases List.mem_append.mp hcm with hcm | hcm
          · exact hc c hcm
          · rw [List.mem_singleton] at hcm
            subst hcm
            exact hc2
      · have e : i = (1 + n2).toNat := by omega
        refine .inl ⟨by show (1 + n2).toNat ≤ i; omega, ?_⟩
        refine ⟨"", Dl, ss.map fun c : Nat => (⟨#[c]⟩ : Str), rfl, rfl, .inl (SqL.of hH), ?_, ?_⟩
        · have h1 : ((ss.map fun c : Nat => (⟨#[c]⟩ : Str)).map (·.length)) = ss.map fun _ => 1 := by rw [List.map_map]; rfl
          rw [h1]
          have h2 : ∀ l : List Nat, (l.map fun _ => 1).sum = l.length := fun l => by induction l with
            | nil => rfl
            | cons x r ih => simp [ih]; omega
          rw [h2, List.length_map, hl]
          show i + i * ("" : Str).length ≤ _
          rw [show ("" : Str).length = 0 from rfl]
          omega
        · refine q _ ⟨G', H'⟩ ss ((g03.trans g4).trans gG) sG stG ?_ ⟨⟨fun z => by rw [z] at hl; simp at hl; omega, by omega, hc⟩, by omega⟩
          show V.str _ = V.str _
          rw [show Txt.join "" (ss.map fun c : Nat => (⟨#[c]⟩ : Str)) = Str.join "" (ss.map fun c : Nat => (⟨#[c]⟩ : Str)) from StrLaws.glued_eq_join _ _, join_one]
end
end K53
end

/-! K53L5 -/
section
/-! The law. -/
namespace K53
open PySem PySem.Spec PyProof.Rows L2
/-! ### small numbers -/
theorem told_bound {xs : List Pr} (hf : Full xs) {lo hi : Int} (h : ∀ q ∈ xs, lo ≤ q.1 ∧ q.2 ≤ hi) : ∀ p ∈ told xs, lo ≤ p.1 ∧ p.2 ≤ hi := fun p hp => by
  have hlt := told_full hf p hp
  obtain ⟨q1, h1, h2, _⟩ := (told_cov hf p.1).mp ⟨p, hp, Int.le_refl _, hlt⟩
  obtain ⟨q2, h3, _, h4⟩ := (told_cov hf (p.2 - 1)).mp ⟨p, hp, by omega, by omega⟩
  have := h q1 h1
  have := h q2 h3
  exact ⟨by omega, by omega⟩
theorem fdiv_small (a b : Int) (h : -30 ≤ a ∧ a ≤ 30) : -31 ≤ a.fdiv b ∧ a.fdiv b ≤ 31 := by
  have h1 : (a / b).natAbs ≤ a.natAbs := Int.natAbs_ediv_le_natAbs a b
  rw [Int.fdiv_eq_ediv]
  split <;> omega
theorem offs_near (w : List Nat) (k : Nat) : Near (w.length : Int) ((offs w).getD k (0, 0)) := by
  by_cases h : k < (offs w).length
  · have e : (offs w).getD k (0, 0) = (offs w)[k] := by simp [List.getD, h]
    rw [e]
    have := near_path w (0, 0) 0 ⟨by decide, by decide, by decide, by decide⟩ _ (List.getElem_mem h)
    simpa using this
  · have e : (offs w).getD k (0, 0) = (0, 0) := by simp [List.getD, h]
    rw [e]
    exact ⟨by simp, by simp, by simp, by simp⟩
theorem mult_small {w : List Nat} (hw : w.length ≤ 24) {N : Int} {f : Cell} {row : List Pr} (h : (f, row) ∈ rowsOf (offs w) N) : ∀ e ∈ row, -31 ≤ e.1 ∧ e.1 ≤ 31 := fun e he => by
  obtain ⟨k, _, _, hk⟩ := (rows_ok (offs w) (lastOf (offs w)) (lastStep (offs w) N)).of f row h e he
  obtain ⟨n1, n2, n3, n4⟩ := offs_near w k
  have e1 : e.1 = (footOf ((offs w).getD k (0, 0)) (lastOf (offs w))).2 := by rw [hk]
  rw [e1]
  unfold footOf
  split
  · exact ⟨by dsimp only; omega, by dsimp only; omega⟩
  · show -31 ≤ timesIn _ _ ∧ timesIn _ _ ≤ 31
    unfold timesIn
    split
    · exact fdiv_small _ _ ⟨by omega, by omega⟩
    · exact fdiv_small _ _ ⟨by omega, by omega⟩
theorem due_small {cell : Cell} {w : List Nat} (hw : w.length ≤ 24) {N : Int} (h0 : 0 ≤ N) (h5 : N ≤ 5) : ∀ s ∈ due cell w N, ∀ p ∈ s.2, -1000 ≤ p.1 ∧ p.1 ≤ 1000 ∧ -1000 ≤ p.2 ∧ p.2 ≤ 1000 := fun s hs p hp => by
  have hs2 := (due_perm cell w N h0).mem_iff.mp hs
  have hlt := strands_full hs2 p hp
  unfold strandsP at hs2
  obtain ⟨⟨f, row⟩, hfr, rfl⟩ := List.mem_map.mp hs2
  have hst := rows_steps hfr
  have hfu : Full (rowPairs (lastOf (offs w)) N row) := rowPairs_full fun e he => (hst e he).2
  have hne : row ≠ [] := (rows_ok _ _ _).ne _ _ hfr
  have hms := mult_small hw hfr
  have hle : -31 ≤ least row ∧ least row ≤ 31 := by
    obtain ⟨e, he, e2⟩ := least_mem hne
    rw [← e2]
    exact hms e he
  have := told_bound hfu (lo := -100) (hi := 100) (fun q hq => by
    unfold rowPairs at hq
    split at hq
    · obtain ⟨e, _, rfl⟩ := List.mem_map.mp hq
      decide
    · obtain ⟨e, he, rfl⟩ := List.mem_map.mp hq
      have := hms e he
      have hr : rnd N e.2 ≤ 5 := by unfold rnd; split <;> omega
      exact ⟨by dsimp only; omega, by dsimp only; omega⟩) p hp
  omega
def spLaw (K : PySem.W.Frag) : Sp := fun vs H Q _ => ∃ (ns : List Int) (a : Addr), vs = [.ref a] ∧ SqL K H a (ns.map V.int) ∧ ∀ H', Q (.bl true) H'
section
variable {P : Program} {w : World} {K : PySem.W.Frag} {mg : Str → Option Value} {base : Heap} {c : Ca} {σ : L2.St} {W : Wd}
theorem e_contains {α β : Type} {C : Addr} {F : Hp → α → List (Str × V) → Prop} [MnF F] {B : Hp → β → V → Prop} [Mn B] {Pre : α × β → Prop} {f : α × β → Bool} {ta tb : TE} {o : β} {t : α} (ha : Ev ta σ W B o) (hb : Ev tb σ W (rIn C F) t) (hp : Pre (t, o)) :
    Ev (tOp (rOwnIn C (Prm (In2 (rIn C F) B) Pre rB f)) ta tb) σ W rB (f (t, o)) := fun W1 l Q q =>
  ha W1 l _ fun v W2 l2 h2 => hb W2 (l.trans l2) _ fun u W3 l3 ⟨a, dx, fs, e, g, hF⟩ => ⟨a, dx, fs, e, l3.s.ins g, W3.G, (t, o), l3.s, ⟨u, v, rfl, ⟨a, dx, fs, e, g, hF⟩, Mn.mn l3.g h2⟩, hp, fun z W4 l4 h4 => ⟨f (t, o), h4, q _ W4 ((l2.trans l3).trans l4) rfl⟩⟩
theorem e_ov {α : Type} {A : Hp → α → V → Prop} {te : TE} {x : α} {o : Ov} (h : Ev te σ W A x) (e : ∀ G v, A G x v → rOv G o v) : Ev te σ W rOv o := e_sub (A' := A) h e
theorem e_inC {ta tb : TE} {x : Cell} {ys : List Cell} {dd : Decidable (x ∈ ys)} (ha : Ev ta σ W rCell x) (hb : Ev tb σ W (rL rCell) ys) : Ev (tOp (rInD K) ta tb) σ W rB (@decide (x ∈ ys) dd) :=
  e_is (e_inD ha hb (by decide)) (by rw [Bool.eq_iff_iff]; simp)
/-- c + (0,) -/
theorem e_cell3 {te : TE} {cc : Cell} (h : Ev te σ W rCell cc) : Ev (tOp (rCatT K) te (tTup (tCons (tC (.int 0)) tNil))) σ W rOv (.tup [.i cc.1, .i cc.2, .i 0]) := fun W1 l Q q =>
  h W1 l _ fun v W2 l2 h2 => ⟨by show 1 ≤ sizeLine; decide, fun t ht => by
    obtain ⟨b, e, g⟩ := cell_tup h2
    have l3 := Le.new l2.s ht (o := .tup [.int 0])
    refine ⟨b, t, _, _, e, rfl, SqT.of (l3.s.tup (l3.g _ _ g)), SqT.of upd_same, by simp [kC], by simp [kC]; decide, (fun z => nomatch z), fun _ t2 ht2 => ?_⟩
    have l4 := Le.new l3.s ht2 (o := .tup ((kC cc).map kV ++ [.int 0]))
    exact q _ _ ((l2.trans l3).trans l4) ⟨t2, _, rfl, upd_same, .cons rfl (.cons rfl (.cons rfl .nil))⟩⟩
abbrev s_law : Stmt := (top 58)
abbrev N_law : List Str := ["_law_script", "_law_state", "_law_k", "_law_cell_here", "_law_word_here", "_law_times", "_law_trail", "_law_due", "_law_path_here", "_law_cells_here", "_law_x", "_law_y", "_law_near", "_law_odd", "_law_great", "_law_told", "_law_many", "_law_one", "_law_stretches", "_law_low", "_law_high"]
theorem sc_law : FnScope N_law ["_law_script"] (defScope s_law) := ⟨rfl, rfl, rfl, by decide +kernel, rfl, by decide +kernel, by decide +kernel⟩
theorem ok_law {f : Addr} {fd : FuncData} (B : Bu mg) (F : FunD K "law" "law" (defArgs s_law) (defBody s_law) (defScope s_law) [] [] f fd)
    (G__law_start : Q__law_start P w K mg base c) (G__law_draw : Q__law_draw P w K mg base c) (G__law_cell : Q__law_cell P w K mg base c) (G__law_word : Q__law_word P w K mg base c) (G_Trail : Q_TrailD_initD P w K mg base c) (G__law_strands : Q__law_strands P w K mg base c) (G__law_path : Q__law_path P w K mg base c)
    (G__law_cells : Q__law_cells P w K mg base c) (G__law_shift : Q__law_shift P w K mg base c) (M_Trail_strands : Q_Trail_strands P w K mg base c) (M_Trail_many_cells : Q_Trail_many_cells P w K mg base c) (M_TrailD_containsD : Q_TrailD_containsD P w K mg base c) : FnOk P w K mg base CX0 9 f fd ["_law_script"] (spLaw K) := by
  refine F.ok sc_law (fun vs H Q E h => by obtain ⟨ns, a, rfl, _⟩ := h; rfl) fun cdv A outer s H vs Q E hr hsp => ⟨_, PSs.nox (pss_cons (ps_set (i := 1) sc_law.nd rfl (Or.inl rfl) (pe_cal G__law_start hr (by decide) (by rfl) (pa_cons (pv 0) pa_nil))) (pss_cons (ps_for PassesOwn.never rfl (pi_range1 (by rfl) B.range_ (pa_cons pe_int pa_nil)) (pg_name (i := 2) sc_law.nd rfl (Or.inl rfl)) (pss_cons (ps_set (i := 3) sc_law.nd rfl (Or.inl rfl) (pe_cal G__law_cell hr (by decide) (by rfl) (pa_cons (pv 0) (pa_cons (pv 1) pa_nil)))) (pss_cons (ps_set (i := 4) sc_law.nd rfl (Or.inl rfl) (pe_cal G__law_word hr (by decide) (by rfl) (pa_cons (pv 0) (pa_cons (pv 1) pa_nil)))) (pss_cons (ps_set (i := 5) sc_law.nd rfl (Or.inl rfl) (pe_cal G__law_draw hr (by decide) (by rfl) (pa_cons (pv 0) (pa_cons (pv 1) (pa_cons pe_int pa_nil))))) (pss_cons (ps_set (i := 6) sc_law.nd rfl (Or.inr rfl) (pe_mkr G_Trail hr (by decide) (by rfl) (pa_cons (pv 3) (pa_cons (pv 4) (pa_cons (pv 5) pa_nil))))) (pss_cons (ps_set (i := 7) sc_law.nd rfl (Or.inl rfl) (pe_cal G__law_strands hr (by decide) (by rfl) (pa_cons (pv 3) (pa_cons (pv 4) (pa_cons (pv 5) pa_nil))))) (pss_cons (ps_set (i := 8) sc_law.nd rfl (Or.inr rfl) (pe_cal G__law_path hr (by decide) (by rfl) (pa_cons (pv 3) (pa_cons (pe_lst (pa_cons (pe_tup (pa_cons (pv 4) (pa_cons (pv 5) pa_nil))) pa_nil)) pa_nil)))) (pss_cons (ps_set (i := 9) sc_law.nd rfl (Or.inl rfl) (pe_cal G__law_cells hr (by decide) (by rfl) (pa_cons (pv 7) (pa_cons (pe_cal G__law_shift hr (by decide) (by rfl) (pa_cons (pv 4) pa_nil)) pa_nil)))) (pss_cons (ps_if (PW.pt (pw_or (pt_cmpR (op_neDK (K := K) rfl hr.units) (pe_mtd0 M_Trail_strands hr (by decide) (pv 6)) (pv 7) (nomark _)) (pw_or1 (pt_cmpR op_ne (pe_mtd0 M_Trail_many_cells hr (by decide) (pv 6)) (pe_callB call_len_seq (by rfl) B.len_ (by decide +kernel) (pa_cons (pv 9) pa_nil)) (nomark _))))) (pss_one (ps_ret pe_bl)) pss_nil) (pss_cons (ps_if (pt_cmpR op_ne (pe_callB call_len_dT (by rfl) B.len_ (by decide +kernel) (pa_cons (pe_callTy (call_dictT rfl (hu2_of hr)) (by rfl) B.dict_ (by decide +kernel) (pa_cons (pe_lc (own := [("_law_one", 17)]) rfl sc_law.nd (pi_list (pv 8)) (blkOk_by (N := N_law) (sc := defScope s_law) (by decide +kernel)) (fun _ _ _ _ _ => (pg_name (i := 17) sc_law.nd rfl (Or.inl rfl))) (fun _ _ _ _ _ => pts_nil) (fun _ _ _ _ _ => (pe_tup (pa_cons (pv 17) (pa_cons pe_int pa_nil))))) pa_nil)) pa_nil)) (pe_callB call_len_seq (by rfl) B.len_ (by decide +kernel) (pa_cons (pv 9) pa_nil)) (nomark _)) (pss_one (ps_ret pe_bl)) pss_nil) (pss_cons (ps_if (pt_not (pt_val (pe_callB (cr_all rfl) (by rfl) B.all_ (by decide +kernel) (pa_cons (pe_lc (own := [("_law_one", 17)]) rfl sc_law.nd (pi_list (pv 9)) (blkOk_by (N := N_law) (sc := defScope s_law) (by decide +kernel)) (fun _ _ _ _ _ => (pg_name (i := 17) sc_law.nd rfl (Or.inl rfl))) (fun _ _ _ _ _ => pts_nil) (fun _ _ _ _ _ => (pe_cmpR (op_inDK (K := K) rfl (hu65_of hr)) (pv 17) (pv 8) (by rfl)))) pa_nil)))) (pss_one (ps_ret pe_bl)) pss_nil) (pss_cons (ps_if (pt_not (pt_val (pe_callB (cr_all rfl) (by rfl) B.all_ (by decide +kernel) (pa_cons (pe_lc (own := [("_law_one", 17)]) rfl sc_law.nd (pi_list (pv 8)) (blkOk_by (N := N_law) (sc := defScope s_law) (by decide +kernel)) (fun _ _ _ _ _ => (pg_name (i := 17) sc_law.nd rfl (Or.inl rfl))) (fun _ _ _ _ _ => pts_nil) (fun _ _ _ _ _ => (pe_cmpR (op_contains M_TrailD_containsD hr (by decide)) (pv 17) (pv 6) (by rfl)))) pa_nil)))) (pss_one (ps_ret pe_bl)) pss_nil) (pss_cons (ps_for PassesOwn.never rfl (pi_range2 (by rfl) B.range_ (pa_cons (pe_un un_neg pe_int) (pa_cons pe_int pa_nil))) (pg_name (i := 10) sc_law.nd rfl (Or.inl rfl)) (pss_one (ps_for PassesOwn.never rfl (pi_range2 (by rfl) B.range_ (pa_cons (pe_un un_neg pe_int) (pa_cons pe_int pa_nil))) (pg_name (i := 11) sc_law.nd rfl (Or.inl rfl)) (pss_cons (ps_set (i := 12) sc_law.nd rfl (Or.inl rfl) (pe_tup (pa_cons (pe_op op_add (pe_ix (ix_tupK (K := K) rfl) (pe_ix (ix_listK (K := K) rfl) (pv 8) (pe_un un_neg pe_int) (fun _ _ => rfl)) pe_int (fun _ _ => rfl)) (pv 10)) (pa_cons (pe_op op_add (pe_ix (ix_tupK (K := K) rfl) (pe_ix (ix_listK (K := K) rfl) (pv 8) (pe_un un_neg pe_int) (fun _ _ => rfl)) pe_int (fun _ _ => rfl)) (pv 11)) pa_nil)))) (pss_one (ps_if (pt_cmpR op_ne (pe_cmpR (op_contains M_TrailD_containsD hr (by decide)) (pv 12) (pv 6) (by rfl)) (pe_cmpR (op_inDK (K := K) rfl (hu65_of hr)) (pv 12) (pv 8) (by rfl)) (nomark _)) (pss_one (ps_ret pe_bl)) pss_nil)))))) (pss_cons (ps_for PassesOwn.never rfl (pi_list (pe_lst (pa_cons pe_non (pa_cons pe_int (pa_cons (pe_lst (pa_cons (pe_ix (ix_tupK (K := K) rfl) (pv 3) pe_int (fun _ _ => rfl)) (pa_cons (pe_ix (ix_tupK (K := K) rfl) (pv 3) pe_int (fun _ _ => rfl)) pa_nil))) (pa_cons (pe_op op_catT (pv 3) (pe_tup (pa_cons pe_int pa_nil))) (pa_cons (pe_tup (pa_cons pe_bl (pa_cons pe_int pa_nil))) (pa_cons pe_str pa_nil)))))))) (pg_name (i := 13) sc_law.nd rfl (Or.inl rfl)) (pss_one (ps_if (pt_cmpR (op_contains M_TrailD_containsD hr (by decide)) (pv 13) (pv 6) (by rfl)) (pss_one (ps_ret pe_bl)) pss_nil))) (pss_cons (ps_set (i := 14) sc_law.nd rfl (Or.inl rfl) (pe_op op_add (pe_op op_pow pe_int pe_int) (pe_cal G__law_draw hr (by decide) (by rfl) (pa_cons (pv 0) (pa_cons (pv 1) (pa_cons pe_int pa_nil)))))) (pss_cons (ps_set (i := 15) sc_law.nd rfl (Or.inl rfl) (pe_mkr G_Trail hr (by decide) (by rfl) (pa_cons (pv 3) (pa_cons (pv 4) (pa_cons (pv 14) pa_nil))))) (pss_cons (ps_set (i := 7) sc_law.nd rfl (Or.inl rfl) (pe_cal G__law_strands hr (by decide) (by rfl) (pa_cons (pv 3) (pa_cons (pv 4) (pa_cons (pv 14) pa_nil))))) (pss_cons (ps_set (i := 16) sc_law.nd rfl (Or.inl rfl) pe_int) (pss_cons (ps_for PassesOwn.never rfl (pi_list (pv 7)) (pg_tupK (K := K) (n := 2) rfl rfl (pgs_cons (pg_name (i := 17) sc_law.nd rfl (Or.inl rfl)) (pgs_cons (pg_name (i := 18) sc_law.nd rfl (Or.inl rfl)) pgs_nil))) (pss_one (ps_set (i := 16) sc_law.nd rfl (Or.inl rfl) (pe_op op_add (pv 16) (pe_callB (cr_sum rfl) (by rfl) B.sum_ (by decide +kernel) (pa_cons (pe_lc (own := [("_law_low", 19), ("_law_high", 20)]) rfl sc_law.nd (pi_list (pv 18)) (blkOk_by (N := N_law) (sc := defScope s_law) (by decide +kernel)) (fun _ _ _ _ _ => (pg_tupK (K := K) (n := 2) rfl rfl (pgs_cons (pg_name (i := 19) sc_law.nd rfl (Or.inl rfl)) (pgs_cons (pg_name (i := 20) sc_law.nd rfl (Or.inl rfl)) pgs_nil)))) (fun _ _ _ _ _ => pts_nil) (fun _ _ _ _ _ => (pe_op op_sub (pv 20) (pv 19)))) pa_nil)))))) (pss_one (ps_if (PW.pt (pw_or (pt_cmpR (op_neDK (K := K) rfl hr.units) (pe_mtd0 M_Trail_strands hr (by decide) (pv 15)) (pv 7) (nomark _)) (pw_or1 (pt_cmpR op_ne (pe_mtd0 M_Trail_many_cells hr (by decide) (pv 15)) (pv 16) (nomark _))))) (pss_one (ps_ret pe_bl)) pss_nil))))))))))))))))))))) (pss_one (ps_ret pe_bl)))), ?_⟩
  obtain ⟨ns, a, rfl, hS, q⟩ := hsp
  refine ⟨_, rfl, ns, a, rfl, hS, fun p H1 s0 s1 s2 s3 hp hk eH => ?_⟩
  subst eH
  have st1 : StK K p ⟨H, upd H p (.lst [.int s0, .int s1, .int s2, .int s3])⟩ := ⟨⟨hp, s0, s1, s2, s3, upd_same⟩, hk⟩
  have sb1 : Sub H (upd H p (.lst [.int s0, .int s1, .int s2, .int s3])) := Sub.upd (Sub.refl H) hp
  generalize hv0 : V.ref a = v0
  have hs1 : rSc K H ns v0 := ⟨a, hv0.symm, hS⟩
  dsimp only
  refine s_for (xs := rangeI 0 3) (W := ⟨H, upd H p (.lst [.int s0, .int s1, .int s2, .int s3])⟩) (A := K53.rI) (fun i σ W => (∃ u2 u3 u4 u5 u6 u7 u8 u9 u10 u11 u12 u13 u14 u15 u16 u17 u18 u19 u20, σ = [some v0, some (.ref p), u2, u3, u4, u5, u6, u7, u8, u9, u10, u11, u12, u13, u14, u15, u16, u17, u18, u19, u20]) ∧ StK K p W ∧ rSc K W.G ns v0) sb1 (ig_rng1 e_int ⟨by decide, by decide⟩) (fun W2 l => ⟨⟨_, _, _, _, _, _, _, _, _, _, _, _, _, _, _, _, _, _, _, rfl⟩, st1.le l, Mn.mn l.g hs1⟩) ?_ ?_
  · rintro i x vk σ' W2 W3 hi ⟨⟨u2, u3, u4, u5, u6, u7, u8, u9, u10, u11, u12, u13, u14, u15, u16, u17, u18, u19, u20, rfl⟩, st2, hs2⟩ sW2 l3 hk3
    have st3 := st2.le l3
    have hs3 := Mn.mn l3.g hs2
    show tSeq _ _ _ _ _
    refine es_set (W := W3) (es_call (A := rCell) (Pr := PCell) l3.s st3 hs3 rfl rfl) fun vc W4 cell g4 s4 st4 hc4 pc => ?_
    dsimp only
    refine es_set (W := W4) (es_call (A := rW) (Pr := PWord) s4 st4 (Mn.mn g4 hs3) rfl rfl) fun vw W5 wd g5 s5 st5 hw5 pw => ?_
    dsimp only
    refine es_set (W := W5) (es_draw s5 st5 (Mn.mn (g4.trans g5) hs3) rfl rfl (by decide) (by decide)) fun vn W6 N g6 s6 st6 hn6 pn => ?_
    have g36 := (g4.trans g5).trans g6
    have hs6 := Mn.mn g36 hs3
    have hc6 := Mn.mn (g5.trans g6) hc4
    have hw6 := Mn.mn g6 hw5
    obtain ⟨hlet, hw9⟩ := pw
    obtain ⟨hN0, hN6⟩ := pn
    have hw24 : wd.length ≤ 24 := by omega
    have tok : Tok ⟨cell, wd, N⟩ := ⟨hlet, hN0⟩
    have edue := due_eq cell wd N hN0
    have hpl : (pathFrom cell (rep wd N.toNat)).length ≤ 2000 := by
      rw [pathFrom_len, rep_len]
      have : wd.length * N.toNat ≤ 24 * 5 := Nat.mul_le_mul hw24 (by omega)
      omega
    have hcl : (cellsOf (goal (0, 0) wd) (due cell wd N)).length ≤ 2000 := by
      rw [← path_dedup_len cell wd hlet.1 N hN0]
      exact Nat.le_trans (dedup_len _) hpl
    dsimp only
    refine s_set (W := W6) (A := rTrail c) (x := ⟨cell, wd, N⟩) s6 ?_ fun vt W7 l7 ht7 => ?_
    · exact e_make (f := fun x : Cell × List Nat × Int => (⟨x.1, x.2.1, x.2.2⟩ : Tr)) (x := (cell, wd, N)) (ea_in3 (e_var hc6 rfl) (e_var hw6 rfl) (e_var hn6 rfl)) ⟨hlet, hN0⟩
    dsimp only
    refine s_set (W := W7) (A := rL rStr) (x := due cell wd N) l7.s ?_ fun vd W8 l8 hd8 => ?_
    · exact e_call3 (f := fun x : Cell × List Nat × Int => due x.1 x.2.1 x.2.2) (e_var (Mn.mn l7.g hc6) rfl) (e_var (Mn.mn l7.g hw6) rfl) (e_var (Mn.mn l7.g hn6) rfl) ⟨hlet, hN0⟩
    have l68 := l7.trans l8
    dsimp only
    refine s_set (W := W8) (A := rL rCell) (x := pathFrom cell (rep wd N.toNat)) l8.s (e_path (e_var (Mn.mn l68.g hc6) rfl) (e_var (Mn.mn l68.g hw6) rfl) (e_var (Mn.mn l68.g hn6) rfl) hlet hN0 (by omega)) fun vp W9 l9 hp9 => ?_
    have l69 := l68.trans l9
    dsimp only
    refine s_set (W := W9) (A := rL rCell) (x := cellsOf (goal (0, 0) wd) (due cell wd N)) l9.s ?_ fun ve W10 l10 he10 => ?_
    · refine e_call2 (f := fun x : List (Cell × List Pr) × Cell => cellsOf x.2 x.1) (x := due cell wd N) (y := goal (0, 0) wd) (e_var (Mn.mn l9.g hd8) rfl) (e_call1 (e_var (Mn.mn l69.g hw6) rfl) hlet) ⟨?_, due_small hw24 hN0 (by omega), by dsimp only; omega⟩
      have := lets_sm (t := ⟨cell, wd, N⟩) hlet
      unfold Tr.v at this
      rw [last_path] at this
      exact this
    have l610 := l69.trans l10
    have ht10 := Mn.mn ((l8.trans l9).trans l10).g ht7
    have hd10 := Mn.mn (l9.trans l10).g hd8
    have hp10 := Mn.mn l10.g hp9
    have hc10 := Mn.mn l610.g hc6
    have hw10 := Mn.mn l610.g hw6
    have st10 := st6.le l610
    have hs10 := Mn.mn l610.g hs6
    have estr : inOrder (strandsP cell (offs wd) N) = due cell wd N := edue.symm
    have emany : manyOf (strandsP cell (offs wd) N) = ((cellsOf (goal (0, 0) wd) (due cell wd N)).length : Int) := by rw [due_cells_len cell wd N hN0, many_due cell wd N hN0]
    have edue' : Ev (tMeth c.Trail "strands" (Prm (In1 (rTrail c)) Tok (rL rStr) (fun t => inOrder (strandsP t.cell t.os t.N))) [] E0 (tVar 6) tNil) [some v0, some (.ref p), some vk, some vc, some vw, some vn, some vt, some vd, some vp, some ve, u10, u11, u12, u13, u14, u15, u16, u17, u18, u19, u20] W10 (rL rStr) (inOrder (strandsP cell (offs wd) N)) := e_meth0 (x := (⟨cell, wd, N⟩ : Tr)) (e_var ht10 rfl) (tr_no (by decide)) tok
    dsimp only
    refine s_if (W := W10) (b := false) l10.s (t_is (t_or (t_test (e_neD (A := rL rStr) edue' (e_var hd10 rfl) (by decide))) fun _ => t_test (e_neI (e_meth0 (x := (⟨cell, wd, N⟩ : Tr)) (e_var ht10 rfl) (tr_no (by decide)) tok) (e_lenL (xs := cellsOf (goal (0, 0) wd) (due cell wd N)) (e_var he10 rfl)))) ?_) (fun z => by cases z) fun _ W11 l11 => ?_
    · rw [estr, decide_eq_true rfl]
      show (!true || !decide (manyOf (strandsP cell (offs wd) N) = _)) = false
      rw [emany, decide_eq_true rfl]
      rfl
    have ht11 := Mn.mn l11.g ht10
    have hp11 := Mn.mn l11.g hp10
    have he11 := Mn.mn l11.g he10
    have epd : ((pathFrom cell (rep wd N.toNat)).map fun o => (o, (0 : Int))).map (·.1) = pathFrom cell (rep wd N.toNat) := by rw [List.map_map]; simp [Function.comp_def]
    unfold tNext
    dsimp only
    refine s_if (W := W11) (b := false) l11.s (t_is (t_test (e_neI (e_lenDict (ps := (pathFrom cell (rep wd N.toNat)).map fun o => (o, (0 : Int))) (e_lcn1 (A := rCell) (fun o : Cell => (o, (0 : Int))) (Ig.w (ig_list (xs := pathFrom cell (rep wd N.toNat)) (e_var hp11 rfl))) (by omega) fun y vy W12 hy l hy2 => e_pair (e_var hy2 rfl) e_int)) (e_lenL (xs := cellsOf (goal (0, 0) wd) (due cell wd N)) (e_var he11 rfl)))) ?_) (fun z => by cases z) fun _ W12 l12 => ?_
    · rw [epd, path_dedup_len cell wd hlet.1 N hN0, decide_eq_true rfl]
      rfl
    have ht12 := Mn.mn l12.g ht11
    have hp12 := Mn.mn l12.g hp11
    have he12 := Mn.mn l12.g he11
    dsimp only
    refine s_if (W := W12) (b := false) l12.s (t_is (t_not (t_B (e_all (xs := (cellsOf (goal (0, 0) wd) (due cell wd N)).map fun o => decide (o ∈ pathFrom cell (rep wd N.toNat))) (e_lcn1 (A := rCell) (fun o : Cell => decide (o ∈ pathFrom cell (rep wd N.toNat))) (Ig.w (ig_list (xs := cellsOf (goal (0, 0) wd) (due cell wd N)) (e_var he12 rfl))) (by omega) fun y vy W13 hy l hy2 => e_inC (e_var hy2 rfl) (e_var (Mn.mn l.g hp12) rfl))))) ?_) (fun z => by cases z) fun _ W13 l13 => ?_
    · have : ((cellsOf (goal (0, 0) wd) (due cell wd N)).map fun o => decide (o ∈ pathFrom cell (rep wd N.toNat))).all id = true := by
        rw [List.all_map]
        refine List.all_eq_true.mpr fun o ho => ?_
        exact decide_eq_true ((due_cells_mem cell wd hlet.1 N hN0 o).mp ho)
      rw [this]
      rfl
    have ht13 := Mn.mn l13.g ht12
    have hp13 := Mn.mn l13.g hp12
    have hcon : ∀ o : Cell, ((Ov.ofC o).isC && decide (0 < visits cell (offs wd) N (cellOf (Ov.ofC o)))) = decide (o ∈ pathFrom cell (rep wd N.toNat)) := fun o => by
      show (true && decide (0 < visits cell (offs wd) N o)) = _
      rw [Bool.true_and]
      exact decide_eq_decide.mpr (in_trail cell wd hlet.1 N hN0 o)
    dsimp only
    refine s_if (W := W13) (b := false) l13.s (t_is (t_not (t_B (e_all (xs := (pathFrom cell (rep wd N.toNat)).map fun o => decide (o ∈ pathFrom cell (rep wd N.toNat))) (e_lcn1 (A := rCell) (fun o : Cell => decide (o ∈ pathFrom cell (rep wd N.toNat))) (Ig.w (ig_list (xs := pathFrom cell (rep wd N.toNat)) (e_var hp13 rfl))) (by omega) fun y vy W14 hy l hy2 =>
      e_is (e_contains (t := (⟨cell, wd, N⟩ : Tr)) (o := Ov.ofC y) (e_ov (A := rCell) (x := y) (e_var hy2 rfl) fun G v h => ov_of_cell h) (e_var (Mn.mn l.g ht13) rfl) ⟨tok, by show 2 ≤ 100; decide⟩) (hcon y))))) ?_) (fun z => by cases z) fun _ W14 l14 => ?_
    · have : ((pathFrom cell (rep wd N.toNat)).map fun o => decide (o ∈ pathFrom cell (rep wd N.toNat))).all id = true := by
        rw [List.all_map]
        refine List.all_eq_true.mpr fun o ho => ?_
        exact decide_eq_true ho
      rw [this]
      rfl
    have ht14 := Mn.mn l14.g ht13
    have hp14 := Mn.mn l14.g hp13
    have l1014 := ((l11.trans l12).trans l13).trans l14
    have st14 := st10.le l1014
    have hs14 := Mn.mn l1014.g hs10
    have hc14 := Mn.mn l1014.g hc10
    have hw14 := Mn.mn l1014.g hw10
    have hlastp : (pathFrom cell (rep wd N.toNat))[(pathFrom cell (rep wd N.toNat)).length - 1]? = some (goal cell (rep wd N.toNat)) := by
      rw [pathFrom_len]
      exact pathFrom_last _ _
    dsimp only
    refine s_for (xs := rangeI (-2) 3) (W := W14) (A := K53.rI) (fun i σ W => (∃ u10 u11 u12 u13 u14 u15 u16 u17 u18 u19 u20, σ = [some v0, some (.ref p), some vk, some vc, some vw, some vn, some vt, some vd, some vp, some ve, u10, u11, u12, u13, u14, u15, u16, u17, u18, u19, u20]) ∧ Le W14 W) l14.s (ig_rng2 (e_neg e_int) e_int ⟨by decide, by decide, by decide, by decide⟩) (fun W15 l => ⟨⟨_, _, _, _, _, _, _, _, _, _, _, rfl⟩, l⟩) ?_ ?_
    · rintro i1 x1 vx σ' W15 W16 hi1 ⟨⟨u10, u11, u12, u13, u14, u15, u16, u17, u18, u19, u20, rfl⟩, l15⟩ sW15 l16 hx
      have l1416 := l15.trans l16
      show tFor _ _ _ _ _ _
      refine s_for (xs := rangeI (-2) 3) (W := W16) (A := K53.rI) (fun i σ W => (∃ u11 u12 u13 u14 u15 u16 u17 u18 u19 u20, σ = [some v0, some (.ref p), some vk, some vc, some vw, some vn, some vt, some vd, some vp, some ve, some vx, u11, u12, u13, u14, u15, u16, u17, u18, u19, u20]) ∧ Le W16 W) l16.s (ig_rng2 (e_neg e_int) e_int ⟨by decide, by decide, by decide, by decide⟩) (fun W17 l => ⟨⟨_, _, _, _, _, _, _, _, _, _, rfl⟩, l⟩) ?_ ?_
      · rintro i2 y1 vy σ' W17 W18 hi2 ⟨⟨u11, u12, u13, u14, u15, u16, u17, u18, u19, u20, rfl⟩, l17⟩ sW17 l18 hy
        have l1618 := l17.trans l18
        have l1418 := l1416.trans l1618
        have hp18 := Mn.mn l1418.g hp14
        have hx18 := Mn.mn l1618.g hx
        show tSeq _ _ _ _ _
        refine s_set (W := W18) (A := rCell) (x := ((goal cell (rep wd N.toNat)).1 + x1, (goal cell (rep wd N.toNat)).2 + y1)) l18.s (e_pair (e_add (e_fst' (e_lastL (xs := pathFrom cell (rep wd N.toNat)) (e_var hp18 rfl) hlastp)) (e_var hx18 rfl)) (e_add (e_snd' (e_lastL (xs := pathFrom cell (rep wd N.toNat)) (e_var hp18 rfl) hlastp)) (e_var hy rfl))) fun vnr W19 l19 hnr => ?_
        have hp19 := Mn.mn l19.g hp18
        have ht19 := Mn.mn (l1418.trans l19).g ht14
        dsimp only
        refine s_if (W := W19) (b := false) l19.s (t_is (t_test (e_neB (a := decide (((goal cell (rep wd N.toNat)).1 + x1, (goal cell (rep wd N.toNat)).2 + y1) ∈ pathFrom cell (rep wd N.toNat))) (b := decide (((goal cell (rep wd N.toNat)).1 + x1, (goal cell (rep wd N.toNat)).2 + y1) ∈ pathFrom cell (rep wd N.toNat))) (e_is (e_contains (t := (⟨cell, wd, N⟩ : Tr)) (o := Ov.ofC ((goal cell (rep wd N.toNat)).1 + x1, (goal cell (rep wd N.toNat)).2 + y1)) (e_ov (A := rCell) (x := ((goal cell (rep wd N.toNat)).1 + x1, (goal cell (rep wd N.toNat)).2 + y1)) (e_var hnr rfl) fun G v h => ov_of_cell h) (e_var ht19 rfl) ⟨tok, by show 2 ≤ 100; decide⟩) (hcon _)) (e_inC (e_var hnr rfl) (e_var hp19 rfl)))) (by simp)) (fun z => by cases z) fun _ W20 l20 => ?_
        exact ⟨W20.G, (l18.g.trans l19.g).trans l20.g, l20.s, ⟨_, _, _, _, _, _, _, _, _, _, rfl⟩, (l1618.trans l19).trans l20⟩
      · rintro σ' W17 sW17 ⟨⟨u11, u12, u13, u14, u15, u16, u17, u18, u19, u20, rfl⟩, l17⟩
        exact ⟨W17.G, l16.g.trans l17.g, sW17, ⟨_, _, _, _, _, _, _, _, _, _, _, rfl⟩, l1416.trans l17⟩
    · rintro σ' W15 sW15 ⟨⟨u10, u11, u12, u13, u14, u15, u16, u17, u18, u19, u20, rfl⟩, l15⟩
      have ht15 := Mn.mn l15.g ht14
      have hc15 := Mn.mn l15.g hc14
      dsimp only
      refine s_for (xs := ([.non, .int 3, .lst [.i cell.1, .i cell.2], .tup [.i cell.1, .i cell.2, .i 0], .tup [.b true, .i 0], .str "ab"] : List Ov)) (W := W15) (A := rOv) (fun i σ W => (∃ u10 u11 u12 u13 u14 u15 u16 u17 u18 u19 u20, σ = [some v0, some (.ref p), some vk, some vc, some vw, some vn, some vt, some vd, some vp, some ve, u10, u11, u12, u13, u14, u15, u16, u17, u18, u19, u20]) ∧ Le W15 W) l15.s ?_ (fun W16 l => ⟨⟨_, _, _, _, _, _, _, _, _, _, _, rfl⟩, l⟩) ?_ ?_
      · refine ig_list (e_lst (ea_cons (e_ov (x := (none : Option Int)) e_non fun G v h => h) (ea_cons (e_ov (A := K53.rI) (x := (3 : Int)) e_int fun G v h => h) (ea_cons (e_ov (A := rL rPt) (x := [.i cell.1, .i cell.2]) (e_lst (ea_cons (e_pt (e_fst' (e_var hc15 rfl))) (ea_cons (e_pt (e_snd' (e_var hc15 rfl))) ea_nil)) (by simp)) fun G v h => h) (ea_cons (e_cell3 (e_var hc15 rfl)) (ea_cons (e_ov (A := rT rPt) (x := [.b true, .i 0]) (e_tup2 (e_sub (A' := rB) e_bl fun G v h => h) (e_pt e_int)) fun G v h => h) (ea_cons (e_ov (A := rS) (x := "ab") e_str fun G v h => h) ea_nil)))))) (by simp))
      · rintro i1 o1 vo1 σ' W16 W17 hi1 ⟨⟨u10, u11, u12, u13, u14, u15, u16, u17, u18, u19, u20, rfl⟩, l16⟩ sW16 l17 ho
        have hom := List.mem_of_getElem? hi1
        have hic : o1.isC = false ∧ (fun o : Ov => match o with | .tup xs => xs.length ≤ 100 | _ => True) o1 := by
          simp only [List.mem_cons, List.not_mem_nil, or_false] at hom
          rcases hom with rfl | rfl | rfl | rfl | rfl | rfl
          · exact ⟨rfl, trivial⟩
          · exact ⟨rfl, trivial⟩
          · exact ⟨rfl, trivial⟩
          · exact ⟨rfl, by show 3 ≤ 100; decide⟩
          · exact ⟨rfl, by show 2 ≤ 100; decide⟩
          · exact ⟨rfl, trivial⟩
        have ht17 := Mn.mn (l16.trans l17).g ht15
        show tIfS _ _ _ _ _ _
        refine s_if (W := W17) (b := false) l17.s (t_is (t_test (e_contains (t := (⟨cell, wd, N⟩ : Tr)) (o := o1) (e_var ho rfl) (e_var ht17 rfl) ⟨tok, hic.2⟩)) ?_) (fun z => by cases z) fun _ W18 l18 => ?_
        · show (o1.isC && _) = false
          rw [hic.1]
          rfl
        · exact ⟨W18.G, l17.g.trans l18.g, l18.s, ⟨_, _, _, _, _, _, _, _, _, _, _, rfl⟩, (l16.trans l17).trans l18⟩
      · rintro σ' W16 sW16 ⟨⟨u10, u11, u12, u13, u14, u15, u16, u17, u18, u19, u20, rfl⟩, l16⟩
        have l1416 := l15.trans l16
        have st16 := st14.le l1416
        have hs16 := Mn.mn l1416.g hs14
        have hc16 := Mn.mn l1416.g hc14
        have hw16 := Mn.mn l1416.g hw14
        dsimp only
        have dr := es_draw (W := W16) (σ := [some v0, some (.ref p), some vk, some vc, some vw, some vn, some vt, some vd, some vp, some ve, u10, u11, u12, u13, u14, u15, u16, u17, u18, u19, u20]) (i := 0) (j := 1) (m := 99) (E := E0) sW16 st16 hs16 rfl rfl (by decide) (by decide)
        refine ⟨10, 20, rfl, rfl, ⟨by decide, by decide, by decide⟩, dr _ fun vdr W17 n1 g17 s17 st17 hn17 pn17 => ⟨_, n1, rfl, hn17, ?_⟩⟩
        dsimp only
        obtain ⟨great, hgr⟩ : ∃ g, g = (10 : Int) ^ (20 : Int).toNat + n1 := ⟨_, rfl⟩
        rw [← hgr]
        have hgr0 : 0 ≤ great := by
          have : (0 : Int) ≤ (10 : Int) ^ (20 : Int).toNat := by decide
          omega
        generalize hvg : V.int great = vg
        have hg17 : K53.rI W17.G great vg := hvg.symm
        have hc17 := Mn.mn g17 hc16
        have hw17 := Mn.mn g17 hw16
        have tok2 : Tok ⟨cell, wd, great⟩ := ⟨hlet, hgr0⟩
        refine s_set (W := W17) (A := rTrail c) (x := ⟨cell, wd, great⟩) s17 ?_ fun vt2 W18 l18 ht18 => ?_
        · exact e_make (f := fun x : Cell × List Nat × Int => (⟨x.1, x.2.1, x.2.2⟩ : Tr)) (x := (cell, wd, great)) (ea_in3 (e_var hc17 rfl) (e_var hw17 rfl) (e_var hg17 rfl)) ⟨hlet, hgr0⟩
        dsimp only
        refine s_set (W := W18) (A := rL rStr) (x := due cell wd great) l18.s ?_ fun vd2 W19 l19 hd19 => ?_
        · exact e_call3 (f := fun x : Cell × List Nat × Int => due x.1 x.2.1 x.2.2) (e_var (Mn.mn l18.g hc17) rfl) (e_var (Mn.mn l18.g hw17) rfl) (e_var (Mn.mn l18.g hg17) rfl) ⟨hlet, hgr0⟩
        have hdl : (due cell wd great).length ≤ 100 := by
          rw [(due_perm cell wd great hgr0).length_eq]
          exact strands_len tok2
        have htl : ∀ s ∈ due cell wd great, s.2.length ≤ 100 := fun s hs => strands_toldlen tok2 s ((due_perm cell wd great hgr0).mem_iff.mp hs)
        dsimp only
        refine s_set (W := W19) (A := K53.rI) (x := manyOf []) l19.s (e_is e_int rfl) fun vm W20 l20 hm20 => ?_
        have hd20 := Mn.mn l20.g hd19
        have ht20 := Mn.mn (l19.trans l20).g ht18
        have l1720 := (l18.trans l19).trans l20
        have st20 := st17.le l1720
        have hs20 := Mn.mn (g17.trans l1720.g) hs16
        dsimp only
        refine s_for (xs := due cell wd great) (W := W20) (A := rStr) (fun i σ W => (∃ u10 u11 u12 u13 u17 u18 u19 u20 vm', σ = [some v0, some (.ref p), some vk, some vc, some vw, some vn, some vt, some vd2, some vp, some ve, u10, u11, u12, u13, some vg, some vt2, some vm', u17, u18, u19, u20] ∧ K53.rI W.G (manyOf ((due cell wd great).take i)) vm') ∧ Le W20 W) l20.s (ig_list (e_var hd20 rfl)) (fun W21 l => ⟨⟨_, _, _, _, _, _, _, _, _, rfl, Mn.mn l.g hm20⟩, l⟩) ?_ ?_
        · rintro i1 st1 vst σ' W21 W22 hi1 ⟨⟨u10, u11, u12, u13, u17, u18, u19, u20, vm', rfl, hm21⟩, l21⟩ sW21 l22 hst
          have hsm := List.mem_of_getElem? hi1
          refine g_pair (K := K) (p := st1) (W := W22) l22.s hst fun a1 b1 h1 h2 => ?_
          have hm22 := Mn.mn l22.g hm21
          show tAsg _ _ _ _ _
          refine s_set (W := W22) (A := K53.rI) (x := manyOf ((due cell wd great).take i1) + sizeOf_ st1.2) l22.s (e_add (e_var hm22 rfl) (e_sum (e_lcp1 (C := K53.rI) (D := K53.rI) (B := K53.rI) (fun q : Pr => q.2 - q.1) (Ig.w (ig_list (xs := st1.2) (e_var h2 rfl))) (by have := htl st1 hsm; omega) fun y a b W23 hy l h3 h4 => e_sub' (e_var h4 rfl) (e_var h3 rfl)))) fun vm2 W23 l23 hm23 => ?_
          refine ⟨W23.G, l22.g.trans l23.g, l23.s, ⟨_, _, _, _, _, _, _, _, _, rfl, ?_⟩, (l21.trans l22).trans l23⟩
          rw [take_snoc hi1]
          unfold manyOf at hm23 ⊢
          rw [List.map_append, List.sum_append]
          simpa using hm23
        · rintro σ' W21 sW21 ⟨⟨u10, u11, u12, u13, u17, u18, u19, u20, vm', rfl, hm21⟩, l21⟩
          rw [List.take_length] at hm21
          have ht21 := Mn.mn l21.g ht20
          have hd21 := Mn.mn l21.g hd20
          have edue2 : Ev (tMeth c.Trail "strands" (Prm (In1 (rTrail c)) Tok (rL rStr) (fun t => inOrder (strandsP t.cell t.os t.N))) [] E0 (tVar 15) tNil) [some v0, some (.ref p), some vk, some vc, some vw, some vn, some vt, some vd2, some vp, some ve, u10, u11, u12, u13, some vg, some vt2, some vm', u17, u18, u19, u20] W21 (rL rStr) (inOrder (strandsP cell (offs wd) great)) := e_meth0 (x := (⟨cell, wd, great⟩ : Tr)) (e_var ht21 rfl) (tr_no (by decide)) tok2
          dsimp only
          refine s_if (W := W21) (b := false) sW21 (t_is (t_or (t_test (e_neD (A := rL rStr) edue2 (e_var hd21 rfl) (by decide))) fun _ => t_test (e_neI (e_meth0 (x := (⟨cell, wd, great⟩ : Tr)) (e_var ht21 rfl) (tr_no (by decide)) tok2) (e_var hm21 rfl))) ?_) (fun z => by cases z) fun _ W22 l22 => ?_
          · rw [← due_eq cell wd great hgr0, decide_eq_true rfl]
            show (!true || !decide (manyOf (strandsP cell (offs wd) great) = _)) = false
            rw [many_due cell wd great hgr0, decide_eq_true rfl]
            rfl
          · have lend := (l1720.trans l21).trans l22
            refine ⟨W22.G, ?_, l22.s, ⟨_, _, _, _, _, _, _, _, _, _, _, _, _, _, _, _, _, _, _, rfl⟩, st17.le lend, Mn.mn (g17.trans lend.g) hs16⟩
            exact (((((l3.g.trans g36).trans l610.g).trans l1014.g).trans l1416.g).trans g17).trans lend.g
  · rintro σ' W2 sW2 ⟨⟨u2, u3, u4, u5, u6, u7, u8, u9, u10, u11, u12, u13, u14, u15, u16, u17, u18, u19, u20, rfl⟩, st2, hs2⟩
    exact q _
end
end K53
end

/-! K53H -/
section
/-! What the head tells: the defs, the facts, the two classes whose __init__ calls the next one. -/
namespace K53
open PySem PySem.Spec PyProof.Rows L2 NdefX
abbrev RowZ : PySem.W.OpenRow := PySem.W.OpenLaw.row PySem.Challenge.rw_endlessplane_k53_whole_strands_of_trails
abbrev PP : Program := (PySem.Challenge.rw_endlessplane_k53_whole_strands_of_trails).prog
def asZ (g : Addr → Option Obj) : List Addr := cStatics :: He.asD g 5
abbrev FnZ : Type := Option (Str × Str × Arguments × FuncBody × Scope × Addr × List Str × Addr)
def fnZ (K : PySem.W.Frag) (p : Str × Option Str) : FnZ := match K.lookup (He.fAd K p) with
  | some ⟨_, _, .func fd, _⟩ => some (fd.name, fd.qualname, fd.params, fd.body, fd.scope, fd.globals, fd.closure.map (·.1), fd.builtins)
  | _ => none
def valZ (qual : Str) (st : Stmt) : FnZ := some ("__init__", qual, defArgs st, .stmts (defBody st), defScope st, mainGlobals, ["__class__"], builtinsNs)
def cellB (K : PySem.W.Frag) (cc C : Addr) : Bool := match K.lookup cc with
  | some ⟨_, _, .cell (some (.ref D)), _⟩ => decide (D = C)
  | _ => false
def fileB (P : Program) (K : PySem.W.Frag) (cda : Addr) : Bool := match K.lookup cda with
  | some ⟨_, _, .fields vs, _⟩ => (match (vs[2]? : Option Value) with
    | some (Value.str file _) => ((P.main.file : Str) == file)
    | _ => false)
  | _ => false
def mI (K : PySem.W.Frag) : Addr := He.ma K (He.ga K "Members") "__init__"
def fdB (P : Program) (K : PySem.W.Frag) (C : Addr) (qual : Str) (dvs : List V) (fd : FuncData) : Bool := (match fd.closure with
    | [(_, cc)] => cellB K cc C
    | _ => false) && ((match fd.code with
    | .ref cda => PySem.W.codeIn K (.ref cda) qual && fileB P K cda
    | _ => false) && He.dflB K fd.defaults dvs)
def supB (P : Program) (K : PySem.W.Frag) (x qual : Str) (dvs : List V) : Bool := (match K.lookup (He.fAd K (x, some "__init__")) with
  | some ⟨_, _, .func fd, _⟩ => fdB P K (He.ga K x) qual dvs fd
  | _ => false) && ((PySem.W.clsIn K (He.ga K x)).isSome && (decide (PySem.W.mroIn K (He.ga K x) (.ref (He.ga K x)) = some true) && (He.eqO (PySem.W.nsIn K cStatics "thirdparty.any") (some none) &&
    (He.eqO (PySem.W.ks_superIn K (He.ga K x) (He.ga K x) "__init__") (some (some (.ref (mI K)))) && (decide (PySem.W.typeIn K (.ref (mI K)) = some (.type "function")) && PySem.W.fnIn K (mI K))))))
def isiB (K : PySem.W.Frag) (C : Addr) : Bool := He.eqO (PySem.W.findIn K (.ref C) "__class__") (some (some (.builtin "object.__class__"))) && (He.eqO (PySem.W.specialIn K (.builtin "object.__class__") "__get__") (some (some (.builtin "getset_descriptor.__get__"))) &&
  (decide (PySem.W.takesIn K (.builtin "object.__class__") = some true) && (decide (PySem.W.mroIn K C (.type "object") = some true) && decide (PySem.W.kitOne K (.ref C) (.ref C) = some true))))
def dv1 (K : PySem.W.Frag) : List V := [.non, .non]
def dv2 (K : PySem.W.Frag) : List V := [.ref (He.dflAt ("Spread", some "__init__") 0 K)]
def exZ (K : PySem.W.Frag) : Bool := supB PP K "Stretch" "Stretch.__init__" (dv1 K) && (supB PP K "Spread" "Spread.__init__" (dv2 K) && isiB K (He.ga K "Stretch"))
theorem isiB_ok {K : PySem.W.Frag} {C : Addr} (h : isiB K C = true) : IsiK K C := by
  obtain ⟨h1, h⟩ := He.ba h
  obtain ⟨h2, h⟩ := He.ba h
  obtain ⟨h3, h⟩ := He.ba h
  obtain ⟨h4, h5⟩ := He.ba h
  exact ⟨He.eqO_ok h1, He.eqO_ok h2, of_decide_eq_true h3, of_decide_eq_true h4, of_decide_eq_true h5⟩
theorem cellB_ok {K : PySem.W.Frag} {cc C : Addr} (h : cellB K cc C = true) : ∃ (cl : Value) (cld : Option Addr) (csl : Array (Option Value)), K.lookup cc = some ⟨cl, cld, .cell (some (.ref C)), csl⟩ := by
  unfold cellB at h
  cases q2 : K.lookup cc with
  | none => rw [q2] at h; cases h
  | some o2 =>
    obtain ⟨oc2, od2, dt2, osl2⟩ := o2
    rw [q2] at h
    cases dt2 with
    | cell v =>
      cases v with
      | none => cases h
      | some u =>
        cases u with
        | ref D =>
          have e5 : D = C := of_decide_eq_true h
          exact ⟨oc2, od2, osl2, by rw [e5]⟩
        | _ => cases h
    | _ => cases h
theorem fileB_ok {P : Program} {K : PySem.W.Frag} {cda : Addr} (h : fileB P K cda = true) : ∃ (ccl : Value) (cdd : Option Addr) (vs : Array Value) (ccs : Array (Option Value)) (file : Str) (tf : PySem.Tok), K.lookup cda = some ⟨ccl, cdd, .fields vs, ccs⟩ ∧ vs[2]? = some (.str file tf) ∧ ((P.main.file : Str) == file) = true := by
  unfold fileB at h
  cases q2 : K.lookup cda with
  | none => rw [q2] at h; cases h
  | some o2 =>
    obtain ⟨oc2, od2, dt2, osl2⟩ := o2
    rw [q2] at h
    cases dt2 with
    | fields vs =>
      have f7 : (match (vs[2]? : Option Value) with | some (Value.str file _) => ((P.main.file : Str) == file) | _ => false) = true := h
      cases q3 : vs[2]? with
      | none => rw [q3] at f7; cases f7
      | some u =>
        rw [q3] at f7
        cases u with
        | str file tf => exact ⟨oc2, od2, vs, osl2, file, tf, rfl, q3, f7⟩
        | _ => cases f7
    | _ => cases h
theorem sup_ok {K : PySem.W.Frag} {mg : Str → Option Value} {P : Program} {x qual : Str} {st : Stmt} {dvs : List V} (e : fnZ K (x, some "__init__") = valZ qual st) (h : supB P K x qual dvs = true) (hself : ∃ ar, ((defArgs st).posonlyargs ++ (defArgs st).args).head? = some ar ∧ ar.arg = "self")
    (hm : mg "super" = none) (ht : (P.main.scope.names.lookup ("super" : Str)).isSome = false) (hc : Cls K (He.ga K x)) (hn : NoAttr K (He.ga K x) "own_pairs") (hk : Mk K (He.ga K x) (He.ma K (He.ga K x) "__init__")) (hg : mg x = some (.ref (He.ga K x))) :
    Ds P K mg (He.ga K x) (mI K) x qual st dvs := by
  obtain ⟨h0, h⟩ := He.ba h
  obtain ⟨h1, h⟩ := He.ba h
  obtain ⟨h2, h⟩ := He.ba h
  obtain ⟨h3, h⟩ := He.ba h
  obtain ⟨h4, h⟩ := He.ba h
  obtain ⟨h5, h6⟩ := He.ba h
  refine ⟨?_, hc, hn⟩
  unfold fnZ at e
  cases q : K.lookup (He.fAd K (x, some "__init__")) with
  | none =>
    rw [q] at h0
    cases h0
  | some o =>
    obtain ⟨oc, od, dt, osl⟩ := o
    rw [q] at h0 e
    cases dt with
    | func fd =>
      obtain ⟨n1, n2, n3, n4, n5, n6, n7, n8, n9, n10, n11, n12, n13, n14, n15⟩ := fd
      have e2 : (some (n1, n2, n3, n4, n5, n6, n7.map (·.1), n15) : FnZ) = (some ("__init__", qual, defArgs st, .stmts (defBody st), defScope st, mainGlobals, ["__class__"], builtinsNs) : FnZ) := e
      simp only [Option.some.injEq, Prod.mk.injEq] at e2
      obtain ⟨k1, k2, k3, k4, k5, k6, k7, k8⟩ := e2
      subst k1 k2 k3 k4 k5 k6 k8
      have h0 : fdB P K (He.ga K x) n2 dvs ⟨"__init__", n2, defArgs st, .stmts (defBody st), defScope st, mainGlobals, n7, n8, n9, n10, n11, n12, n13, n14, builtinsNs⟩ = true := h0
      obtain ⟨f1, f2⟩ := He.ba h0
      obtain ⟨f3, f4⟩ := He.ba f2
      match n7, k7, f1 with
      | [(y, cc)], k7, f1 =>
        have ey : y = "__class__" := by simpa using k7
        subst ey
        have f1 : cellB K cc (He.ga K x) = true := f1
        cases n13 with
        | ref cda =>
          have f3 : (PySem.W.codeIn K (.ref cda) n2 && fileB P K cda) = true := f3
          obtain ⟨f5, f6⟩ := He.ba f3
          have f4 : He.dflB K n8 dvs = true := f4
          refine ⟨_, cc, cda, n8, n9, n10, n11, n14, oc, n12, od, osl, q, f5, ⟨⟨oc, od, osl, q⟩, hself, fileB_ok f6, cellB_ok f1, Option.isSome_iff_exists.mp h1, of_decide_eq_true h2, hm, ht, He.eqO_ok h3, He.eqO_ok h4, of_decide_eq_true h5, h6⟩, hk, hg, He.dflB_ok f4⟩
        | _ => cases f3
      | [], k7, _ => cases k7
      | _ :: _ :: _, k7, _ => simp at k7
    | _ => cases h0
end K53
end

/-! K53T -/
section
namespace K53
open PySem PySem.Spec PyProof.Rows L2 NdefX
def fnL : List He.DefD := [⟨("is_integer", none), "is_integer", "is_integer", defArgs s_is_integer, defBody s_is_integer, defScope s_is_integer, [], []⟩,
  ⟨("is_count", none), "is_count", "is_count", defArgs s_is_count, defBody s_is_count, defScope s_is_count, [], []⟩,
  ⟨("is_list", none), "is_list", "is_list", defArgs s_is_list, defBody s_is_list, defScope s_is_list, [], []⟩,
  ⟨("is_cell", none), "is_cell", "is_cell", defArgs s_is_cell, defBody s_is_cell, defScope s_is_cell, [], []⟩,
  ⟨("is_word", none), "is_word", "is_word", defArgs s_is_word, defBody s_is_word, defScope s_is_word, [], []⟩,
  ⟨("step_of", none), "step_of", "step_of", defArgs s_step_of, defBody s_step_of, defScope s_step_of, [], []⟩,
  ⟨("shifted", none), "shifted", "shifted", defArgs s_shifted, defBody s_shifted, defScope s_shifted, [.int 1], []⟩,
  ⟨("check_integer", none), "check_integer", "check_integer", defArgs s_check_integer, defBody s_check_integer, defScope s_check_integer, [], []⟩,
  ⟨("check_remainder", none), "check_remainder", "check_remainder", defArgs s_check_remainder, defBody s_check_remainder, defScope s_check_remainder, [], []⟩,
  ⟨("by_lows", none), "by_lows", "by_lows", defArgs s_by_lows, defBody s_by_lows, defScope s_by_lows, [], []⟩,
  ⟨("united", none), "united", "united", defArgs s_united, defBody s_united, defScope s_united, [], []⟩,
  ⟨("first_in", none), "first_in", "first_in", defArgs s_first_in, defBody s_first_in, defScope s_first_in, [], []⟩,
  ⟨("final_in", none), "final_in", "final_in", defArgs s_final_in, defBody s_final_in, defScope s_final_in, [], []⟩,
  ⟨("count_in", none), "count_in", "count_in", defArgs s_count_in, defBody s_count_in, defScope s_count_in, [], []⟩,
  ⟨("counted", none), "counted", "counted", defArgs s_counted, defBody s_counted, defScope s_counted, [], []⟩,
  ⟨("path_of", none), "path_of", "path_of", defArgs s_path_of, defBody s_path_of, defScope s_path_of, [], []⟩,
  ⟨("check_word", none), "check_word", "check_word", defArgs s_check_word, defBody s_check_word, defScope s_check_word, [], []⟩,
  ⟨("offsets_of", none), "offsets_of", "offsets_of", defArgs s_offsets_of, defBody s_offsets_of, defScope s_offsets_of, [], []⟩,
  ⟨("multiple_below", none), "multiple_below", "multiple_below", defArgs s_multiple_below, defBody s_multiple_below, defScope s_multiple_below, [], []⟩,
  ⟨("foot_of", none), "foot_of", "foot_of", defArgs s_foot_of, defBody s_foot_of, defScope s_foot_of, [], []⟩,
  ⟨("strand_rows", none), "strand_rows", "strand_rows", defArgs s_strand_rows, defBody s_strand_rows, defScope s_strand_rows, [], []⟩,
  ⟨("visits_at", none), "visits_at", "visits_at", defArgs s_visits_at, defBody s_visits_at, defScope s_visits_at, [], []⟩,
  ⟨("_law_start", none), "_law_start", "_law_start", defArgs s__law_start, defBody s__law_start, defScope s__law_start, [], []⟩,
  ⟨("_law_draw", none), "_law_draw", "_law_draw", defArgs s__law_draw, defBody s__law_draw, defScope s__law_draw, [], []⟩,
  ⟨("_law_step", none), "_law_step", "_law_step", defArgs s__law_step, defBody s__law_step, defScope s__law_step, [], []⟩,
  ⟨("_law_plus", none), "_law_plus", "_law_plus", defArgs s__law_plus, defBody s__law_plus, defScope s__law_plus, [], []⟩,
  ⟨("_law_path", none), "_law_path", "_law_path", defArgs s__law_path, defBody s__law_path, defScope s__law_path, [], []⟩,
  ⟨("_law_cell", none), "_law_cell", "_law_cell", defArgs s__law_cell, defBody s__law_cell, defScope s__law_cell, [], []⟩,
  ⟨("_law_word", none), "_law_word", "_law_word", defArgs s__law_word, defBody s__law_word, defScope s__law_word, [], []⟩,
  ⟨("_law_shift", none), "_law_shift", "_law_shift", defArgs s__law_shift, defBody s__law_shift, defScope s__law_shift, [], []⟩,
  ⟨("_law_apart", none), "_law_apart", "_law_apart", defArgs s__law_apart, defBody s__law_apart, defScope s__law_apart, [], []⟩,
  ⟨("_law_joined", none), "_law_joined", "_law_joined", defArgs s__law_joined, defBody s__law_joined, defScope s__law_joined, [], []⟩,
  ⟨("_law_strands", none), "_law_strands", "_law_strands", defArgs s__law_strands, defBody s__law_strands, defScope s__law_strands, [], []⟩,
  ⟨("_law_in_order", none), "_law_in_order", "_law_in_order", defArgs s__law_in_order, defBody s__law_in_order, defScope s__law_in_order, [], []⟩,
  ⟨("_law_cells", none), "_law_cells", "_law_cells", defArgs s__law_cells, defBody s__law_cells, defScope s__law_cells, [], []⟩,
  ⟨("law", none), "law", "law", defArgs s_law, defBody s_law, defScope s_law, [], []⟩,
  ⟨("Spread", some "told"), "told", "Spread.told", defArgs s_Spread_told, defBody s_Spread_told, defScope s_Spread_told, [], []⟩,
  ⟨("Spread", some "count"), "count", "Members.count", defArgs s_Members_count, defBody s_Members_count, defScope s_Members_count, [.int 0, .int 1], []⟩,
  ⟨("Trail", some "last_moment"), "last_moment", "Trail.last_moment", defArgs s_Trail_last_moment, defBody s_Trail_last_moment, defScope s_Trail_last_moment, [], []⟩,
  ⟨("Trail", some "rounds_up_to"), "rounds_up_to", "Trail.rounds_up_to", defArgs s_Trail_rounds_up_to, defBody s_Trail_rounds_up_to, defScope s_Trail_rounds_up_to, [], []⟩,
  ⟨("Trail", some "pairs_of"), "pairs_of", "Trail.pairs_of", defArgs s_Trail_pairs_of, defBody s_Trail_pairs_of, defScope s_Trail_pairs_of, [], []⟩,
  ⟨("Trail", some "spread_of"), "spread_of", "Trail.spread_of", defArgs s_Trail_spread_of, defBody s_Trail_spread_of, defScope s_Trail_spread_of, [], []⟩,
  ⟨("Trail", some "first_of"), "first_of", "Trail.first_of", defArgs s_Trail_first_of, defBody s_Trail_first_of, defScope s_Trail_first_of, [], []⟩,
  ⟨("Trail", some "all_strands"), "all_strands", "Trail.all_strands", defArgs s_Trail_all_strands, defBody s_Trail_all_strands, defScope s_Trail_all_strands, [], []⟩,
  ⟨("Trail", some "strands"), "strands", "Trail.strands", defArgs s_Trail_strands, defBody s_Trail_strands, defScope s_Trail_strands, [], []⟩,
  ⟨("Trail", some "many_cells"), "many_cells", "Trail.many_cells", defArgs s_Trail_many_cells, defBody s_Trail_many_cells, defScope s_Trail_many_cells, [], []⟩,
  ⟨("Trail", some "__contains__"), "__contains__", "Trail.__contains__", defArgs s_TrailD_containsD, defBody s_TrailD_containsD, defScope s_TrailD_containsD, [], []⟩,
  ⟨("Trail", some "fresh_up_to"), "fresh_up_to", "Trail.fresh_up_to", defArgs s_Trail_fresh_up_to, defBody s_Trail_fresh_up_to, defScope s_Trail_fresh_up_to, [], []⟩,
  ⟨("Trail", some "__init__"), "__init__", "Trail.__init__", defArgs s_TrailD_initD, defBody s_TrailD_initD, defScope s_TrailD_initD, [], []⟩,
  ⟨("Members", some "__init__"), "__init__", "Members.__init__", defArgs s_MembersD_initD, defBody s_MembersD_initD, defScope s_MembersD_initD, [], []⟩]
def faL : List He.Fa := [.glo "is_integer", .glo "is_count", .glo "is_list", .glo "is_cell", .glo "is_word", .glo "step_of", .glo "shifted", .glo "check_integer", .glo "check_remainder", .glo "by_lows", .glo "united", .glo "first_in", .glo "final_in", .glo "count_in", .glo "counted", .glo "path_of", .glo "check_word", .glo "offsets_of", .glo "multiple_below", .glo "foot_of", .glo "strand_rows", .glo "visits_at", .glo "_law_start", .glo "_law_draw", .glo "_law_step", .glo "_law_plus", .glo "_law_path", .glo "_law_cell", .glo "_law_word", .glo "_law_shift", .glo "_law_apart", .glo "_law_joined", .glo "_law_strands", .glo "_law_in_order", .glo "_law_cells", .glo "law", .glo "Trail", .glo "Stretch", .glo "Spread", .glo "Members", .free "len", .free "isinstance", .free "int", .free "all", .free "sum", .free "min", .free "max", .free "abs", .free "sorted", .free "tuple", .free "list", .free "dict", .free "range", .free "enumerate", .free "str", .free "bool", .free "super", .str "STEPS" "ENWS", .int "MOST_LETTERS" 24, .cls "Trail", .cls "Spread", .cls "Stretch", .noat "Trail" "told_cell", .noat "Trail" "told_times", .noat "Trail" "told_offsets", .noat "Trail" "told_shift", .noat "Trail" "all_rows", .noat "Spread" "own_pairs", .noat "Stretch" "own_pairs", .noat "Stretch" "low", .noat "Stretch" "high", .meth "Spread" "told", .meth "Spread" "count", .meth "Trail" "last_moment", .meth "Trail" "rounds_up_to", .meth "Trail" "pairs_of", .meth "Trail" "spread_of", .meth "Trail" "first_of", .meth "Trail" "all_strands", .meth "Trail" "strands", .meth "Trail" "many_cells", .meth "Trail" "__contains__", .meth "Trail" "fresh_up_to", .mkr "Trail", .mkr "Stretch", .mkr "Spread"]
abbrev AlZ : Type := (He.AlD × Bool) × List FnZ
def obsZ (K : PySem.W.Frag) : AlZ := ((He.obsD faL fnL K, exZ K), [fnZ K ("Stretch", some "__init__"), fnZ K ("Spread", some "__init__")])
def vZ : AlZ := ((He.valD fnL, true), [valZ "Stretch.__init__" s_StretchD_initD, valZ "Spread.__init__" s_SpreadD_initD])
def SaysZ (K : PySem.W.Frag) : Prop := obsZ K = vZ
def obsZG (g : Addr → Option Obj) : AlZ := obsZ (He.frG g (asZ g))
def hookZ : PySem.W.Hook where
  α := AlZ
  obs := fun s => obsZG s.heap.get?
  val := fun _ => vZ
  says := fun _ h => ∃ K : PySem.W.Frag, K.In h ∧ SaysZ K
  of := fun _ _ e => ⟨_, He.frG_in, e⟩
  keeps := fun _ _ _ ⟨K, hK, c⟩ k => ⟨K, PySem.W.Frag.In.keeps hK k, c⟩
theorem obsZG_eq {g : Addr → Option Obj} {s : Shared} (h : ∀ a, g a = s.heap.get? a) : obsZG g = hookZ.obs s := by
  have e : g = s.heap.get? := funext h
  rw [e] <;> rfl
theorem facts {w : World} {K : PySem.W.Frag} {h : Heap} {mg : Str → Option Value} {f : Addr} (X : K.In h) (G : h.Ns mainGlobals mg) (hfa : mg ("law" : Str) = some (.ref f)) (cz : SaysZ K) :
    ∃ fd : FuncData, (∀ (s : Shared) (v : Value), BindsTo s fd ⟨[v], []⟩ [("_law_script", v)]) ∧ ∀ base : Heap, K.In base → base.Ns mainGlobals mg → FnOk PP w K mg base CX0 9 f fd ["_law_script"] (spLaw K) := by
  have c : He.SaysD faL fnL K := congrArg (fun z : AlZ => z.1.1) cz
  have hex : exZ K = true := congrArg (fun z : AlZ => z.1.2) cz
  have hz : [fnZ K ("Stretch", some "__init__"), fnZ K ("Spread", some "__init__")] = [valZ "Stretch.__init__" s_StretchD_initD, valZ "Spread.__init__" s_SpreadD_initD] := congrArg (fun z : AlZ => z.2) cz
  have hz1 : fnZ K ("Stretch", some "__init__") = valZ "Stretch.__init__" s_StretchD_initD := by injection hz
  have hz2 : fnZ K ("Spread", some "__init__") = valZ "Spread.__init__" s_SpreadD_initD := by
    injection hz with _ hz
    injection hz
  obtain ⟨fd0, F0⟩ := c.def_ 0 rfl
  obtain ⟨fd1, F1⟩ := c.def_ 1 rfl
  obtain ⟨fd2, F2⟩ := c.def_ 2 rfl
  obtain ⟨fd3, F3⟩ := c.def_ 3 rfl
  obtain ⟨fd4, F4⟩ := c.def_ 4 rfl
  obtain ⟨fd5, F5⟩ := c.def_ 5 rfl
  obtain ⟨fd6, F6⟩ := c.def_ 6 rfl
  obtain ⟨fd7, F7⟩ := c.def_ 7 rfl
  obtain ⟨fd8, F8⟩ := c.def_ 8 rfl
  obtain ⟨fd9, F9⟩ := c.def_ 9 rfl
  obtain ⟨fd10, F10⟩ := c.def_ 10 rfl
  obtain ⟨fd11, F11⟩ := c.def_ 11 rfl
  obtain ⟨fd12, F12⟩ := c.def_ 12 rfl
  obtain ⟨fd13, F13⟩ := c.def_ 13 rfl
  obtain ⟨fd14, F14⟩ := c.def_ 14 rfl
  obtain ⟨fd15, F15⟩ := c.def_ 15 rfl
  obtain ⟨fd16, F16⟩ := c.def_ 16 rfl
  obtain ⟨fd17, F17⟩ := c.def_ 17 rfl
  obtain ⟨fd18, F18⟩ := c.def_ 18 rfl
  obtain ⟨fd19, F19⟩ := c.def_ 19 rfl
  obtain ⟨fd20, F20⟩ := c.def_ 20 rfl
  obtain ⟨fd21, F21⟩ := c.def_ 21 rfl
  obtain ⟨fd22, F22⟩ := c.def_ 22 rfl
  obtain ⟨fd23, F23⟩ := c.def_ 23 rfl
  obtain ⟨fd24, F24⟩ := c.def_ 24 rfl
  obtain ⟨fd25, F25⟩ := c.def_ 25 rfl
  obtain ⟨fd26, F26⟩ := c.def_ 26 rfl
  obtain ⟨fd27, F27⟩ := c.def_ 27 rfl
  obtain ⟨fd28, F28⟩ := c.def_ 28 rfl
  obtain ⟨fd29, F29⟩ := c.def_ 29 rfl
  obtain ⟨fd30, F30⟩ := c.def_ 30 rfl
  obtain ⟨fd31, F31⟩ := c.def_ 31 rfl
  obtain ⟨fd32, F32⟩ := c.def_ 32 rfl
  obtain ⟨fd33, F33⟩ := c.def_ 33 rfl
  obtain ⟨fd34, F34⟩ := c.def_ 34 rfl
  obtain ⟨fd35, F35⟩ := c.def_ 35 rfl
  obtain ⟨fd36, F36⟩ := c.def_ 36 rfl
  obtain ⟨fd37, F37⟩ := c.def_ 37 rfl
  obtain ⟨fd38, F38⟩ := c.def_ 38 rfl
  obtain ⟨fd39, F39⟩ := c.def_ 39 rfl
  obtain ⟨fd40, F40⟩ := c.def_ 40 rfl
  obtain ⟨fd41, F41⟩ := c.def_ 41 rfl
  obtain ⟨fd42, F42⟩ := c.def_ 42 rfl
  obtain ⟨fd43, F43⟩ := c.def_ 43 rfl
  obtain ⟨fd44, F44⟩ := c.def_ 44 rfl
  obtain ⟨fd45, F45⟩ := c.def_ 45 rfl
  obtain ⟨fd46, F46⟩ := c.def_ 46 rfl
  obtain ⟨fd47, F47⟩ := c.def_ 47 rfl
  obtain ⟨fd48, F48⟩ := c.def_ 48 rfl
  obtain ⟨fd49, F49⟩ := c.def_ 49 rfl
  have B : Bu mg := ⟨He.free_ok X G (c.fact 40 (f := .free "len") rfl), He.free_ok X G (c.fact 41 (f := .free "isinstance") rfl), He.free_ok X G (c.fact 42 (f := .free "int") rfl), He.free_ok X G (c.fact 43 (f := .free "all") rfl), He.free_ok X G (c.fact 44 (f := .free "sum") rfl), He.free_ok X G (c.fact 45 (f := .free "min") rfl), He.free_ok X G (c.fact 46 (f := .free "max") rfl), He.free_ok X G (c.fact 47 (f := .free "abs") rfl), He.free_ok X G (c.fact 48 (f := .free "sorted") rfl), He.free_ok X G (c.fact 49 (f := .free "tuple") rfl), He.free_ok X G (c.fact 50 (f := .free "list") rfl), He.free_ok X G (c.fact 51 (f := .free "dict") rfl), He.free_ok X G (c.fact 52 (f := .free "range") rfl), He.free_ok X G (c.fact 53 (f := .free "enumerate") rfl), He.free_ok X G (c.fact 54 (f := .free "str") rfl), He.free_ok X G (c.fact 55 (f := .free "bool") rfl), He.str_ok X G (c.fact 57 (f := .str "STEPS" "ENWS") rfl), He.int_ok X G (c.fact 58 (f := .int "MOST_LETTERS" 24) rfl)⟩
  have hcT := He.cls_ok (c.fact 59 (f := .cls "Trail") rfl)
  have hcSp := He.cls_ok (c.fact 60 (f := .cls "Spread") rfl)
  have hcSt := He.cls_ok (c.fact 61 (f := .cls "Stretch") rfl)
  have n1 := He.noat_ok (c.fact 62 (f := .noat "Trail" "told_cell") rfl)
  have n2 := He.noat_ok (c.fact 63 (f := .noat "Trail" "told_times") rfl)
  have n3 := He.noat_ok (c.fact 64 (f := .noat "Trail" "told_offsets") rfl)
  have n4 := He.noat_ok (c.fact 65 (f := .noat "Trail" "told_shift") rfl)
  have n5 := He.noat_ok (c.fact 66 (f := .noat "Trail" "all_rows") rfl)
  have hnSp := He.noat_ok (c.fact 67 (f := .noat "Spread" "own_pairs") rfl)
  have hnSt := He.noat_ok (c.fact 68 (f := .noat "Stretch" "own_pairs") rfl)
  have hnLo := He.noat_ok (c.fact 69 (f := .noat "Stretch" "low") rfl)
  have hnHi := He.noat_ok (c.fact 70 (f := .noat "Stretch" "high") rfl)
  have gStretch := He.glo_ok X G (c.fact 37 (f := .glo "Stretch") rfl)
  have gSpread := He.glo_ok X G (c.fact 38 (f := .glo "Spread") rfl)
  have gTrail := He.glo_ok X G (c.fact 36 (f := .glo "Trail") rfl)
  have fsup := He.free_ok X G (c.fact 56 (f := .free "super") rfl)
  obtain ⟨x1, x2⟩ := He.ba hex
  obtain ⟨x2, x3⟩ := He.ba x2
  have iSt := isiB_ok x3
  have htop : (PP.main.scope.names.lookup ("super" : Str)).isSome = false := by decide +kernel
  have DStretch := sup_ok hz1 x1 ⟨_, rfl, rfl⟩ fsup htop hcSt hnSt (He.mkr_ok (c.fact 84 (f := .mkr "Stretch") rfl)) gStretch
  have DSpread := sup_ok hz2 x2 ⟨_, rfl, rfl⟩ fsup htop hcSp hnSp (He.mkr_ok (c.fact 85 (f := .mkr "Spread") rfl)) gSpread
  have DMem : DmI K (mI K) s_MembersD_initD := ⟨_, F49⟩
  have e := hfa.symm.trans (He.glo_ok X G (c.fact 35 (f := .glo "law") rfl))
  cases e
  have b := FunD.bindsA (ps := ["_law_script"]) F35 fun _ _ _ _ _ _ us hl => match us, hl with | [_], _ => rfl
  refine ⟨fd35, fun s v => b s [v] rfl, fun base _ _ => ?_⟩
  let CA : Ca := ⟨He.ga K "Trail", He.ga K "Spread", He.ga K "Stretch", He.ga K "Members"⟩
  let P := PP
  have G_is_integer : Q_is_integer P w K mg base CA := c_is_integer B ⟨_, _, F0, He.glo_ok X G (c.fact 0 (f := .glo "is_integer") rfl)⟩ 
  have G_Stretch : Q_StretchD_initD P w K mg base CA := c_Stretch B DStretch DMem hnLo hnHi G_is_integer
  have G_is_list : Q_is_list P w K mg base CA := c_is_list B ⟨_, _, F2, He.glo_ok X G (c.fact 2 (f := .glo "is_list") rfl)⟩ 
  have G_by_lows : Q_by_lows P w K mg base CA := c_by_lows B ⟨_, _, F9, He.glo_ok X G (c.fact 9 (f := .glo "by_lows") rfl)⟩ 
  have G_united : Q_united P w K mg base CA := c_united B ⟨_, _, F10, He.glo_ok X G (c.fact 10 (f := .glo "united") rfl)⟩ G_by_lows
  have G_Spread : Q_SpreadD_initD P w K mg base CA := c_Spread B DSpread DMem gStretch hcSt iSt hnLo hnHi G_is_list G_united
  have G__law_start : Q__law_start P w K mg base CA := c__law_start B ⟨_, _, F22, He.glo_ok X G (c.fact 22 (f := .glo "_law_start") rfl)⟩ 
  have G__law_draw : Q__law_draw P w K mg base CA := c__law_draw B ⟨_, _, F23, He.glo_ok X G (c.fact 23 (f := .glo "_law_draw") rfl)⟩ 
  have G__law_cell : Q__law_cell P w K mg base CA := c__law_cell B ⟨_, _, F27, He.glo_ok X G (c.fact 27 (f := .glo "_law_cell") rfl)⟩ G__law_draw
  have G__law_word : Q__law_word P w K mg base CA := c__law_word B ⟨_, _, F28, He.glo_ok X G (c.fact 28 (f := .glo "_law_word") rfl)⟩ G__law_draw
  have G_is_cell : Q_is_cell P w K mg base CA := c_is_cell B ⟨_, _, F3, He.glo_ok X G (c.fact 3 (f := .glo "is_cell") rfl)⟩ G_is_integer
  have G_is_word : Q_is_word P w K mg base CA := c_is_word B ⟨_, _, F4, He.glo_ok X G (c.fact 4 (f := .glo "is_word") rfl)⟩ 
  have G_is_count : Q_is_count P w K mg base CA := c_is_count B ⟨_, _, F1, He.glo_ok X G (c.fact 1 (f := .glo "is_count") rfl)⟩ G_is_integer
  have G_check_word : Q_check_word P w K mg base CA := c_check_word B ⟨_, _, F16, He.glo_ok X G (c.fact 16 (f := .glo "check_word") rfl)⟩ G_is_word
  have G_shifted : Q_shifted P w K mg base CA := c_shifted B ⟨_, _, F6, He.glo_ok X G (c.fact 6 (f := .glo "shifted") rfl)⟩ 
  have G_step_of : Q_step_of P w K mg base CA := c_step_of B ⟨_, _, F5, He.glo_ok X G (c.fact 5 (f := .glo "step_of") rfl)⟩ 
  have G_path_of : Q_path_of P w K mg base CA := c_path_of B ⟨_, _, F15, He.glo_ok X G (c.fact 15 (f := .glo "path_of") rfl)⟩ G_shifted G_step_of
  have G_offsets_of : Q_offsets_of P w K mg base CA := c_offsets_of B ⟨_, _, F17, He.glo_ok X G (c.fact 17 (f := .glo "offsets_of") rfl)⟩ G_check_word G_path_of
  have G_multiple_below : Q_multiple_below P w K mg base CA := c_multiple_below B ⟨_, _, F18, He.glo_ok X G (c.fact 18 (f := .glo "multiple_below") rfl)⟩ 
  have G_foot_of : Q_foot_of P w K mg base CA := c_foot_of B ⟨_, _, F19, He.glo_ok X G (c.fact 19 (f := .glo "foot_of") rfl)⟩ G_multiple_below
  have G_strand_rows : Q_strand_rows P w K mg base CA := c_strand_rows B ⟨_, _, F20, He.glo_ok X G (c.fact 20 (f := .glo "strand_rows") rfl)⟩ G_foot_of
  have G_Trail : Q_TrailD_initD P w K mg base CA := c_Trail B ⟨_, _, F48, hcT, He.mkr_ok (c.fact 83 (f := .mkr "Trail") rfl), gTrail⟩ hcT n1 n2 n3 n4 n5 G_is_cell G_is_word G_is_count G_offsets_of G_strand_rows
  have G__law_plus : Q__law_plus P w K mg base CA := c__law_plus B ⟨_, _, F25, He.glo_ok X G (c.fact 25 (f := .glo "_law_plus") rfl)⟩ 
  have G__law_step : Q__law_step P w K mg base CA := c__law_step B ⟨_, _, F24, He.glo_ok X G (c.fact 24 (f := .glo "_law_step") rfl)⟩ 
  have G__law_path : Q__law_path P w K mg base CA := c__law_path B ⟨_, _, F26, He.glo_ok X G (c.fact 26 (f := .glo "_law_path") rfl)⟩ G__law_plus G__law_step
  have G__law_shift : Q__law_shift P w K mg base CA := c__law_shift B ⟨_, _, F29, He.glo_ok X G (c.fact 29 (f := .glo "_law_shift") rfl)⟩ G__law_path
  have G__law_in_order : Q__law_in_order P w K mg base CA := c__law_in_order B ⟨_, _, F33, He.glo_ok X G (c.fact 33 (f := .glo "_law_in_order") rfl)⟩ 
  have G__law_apart : Q__law_apart P w K mg base CA := c__law_apart B ⟨_, _, F30, He.glo_ok X G (c.fact 30 (f := .glo "_law_apart") rfl)⟩ 
  have G__law_joined : Q__law_joined P w K mg base CA := c__law_joined B ⟨_, _, F31, He.glo_ok X G (c.fact 31 (f := .glo "_law_joined") rfl)⟩ 
  have G__law_strands : Q__law_strands P w K mg base CA := c__law_strands B ⟨_, _, F32, He.glo_ok X G (c.fact 32 (f := .glo "_law_strands") rfl)⟩ G__law_path G__law_shift G__law_in_order G__law_apart G__law_joined
  have G__law_cells : Q__law_cells P w K mg base CA := c__law_cells B ⟨_, _, F34, He.glo_ok X G (c.fact 34 (f := .glo "_law_cells") rfl)⟩ 
  have M_Trail_last_moment : Q_Trail_last_moment P w K mg base CA := c_Trail_last_moment B ⟨_, _, F38, hcT, He.meth_ok (c.fact 73 (f := .meth "Trail" "last_moment") rfl)⟩ hcT n1 n2 n3 n4 n5
  have M_Trail_rounds_up_to : Q_Trail_rounds_up_to P w K mg base CA := c_Trail_rounds_up_to B ⟨_, _, F39, hcT, He.meth_ok (c.fact 74 (f := .meth "Trail" "rounds_up_to") rfl)⟩ hcT n1 n2 n3 n4 n5
  have G_check_integer : Q_check_integer P w K mg base CA := c_check_integer B ⟨_, _, F7, He.glo_ok X G (c.fact 7 (f := .glo "check_integer") rfl)⟩ G_is_integer
  have G_check_remainder : Q_check_remainder P w K mg base CA := c_check_remainder B ⟨_, _, F8, He.glo_ok X G (c.fact 8 (f := .glo "check_remainder") rfl)⟩ G_check_integer G_is_integer
  have G_final_in : Q_final_in P w K mg base CA := c_final_in B ⟨_, _, F12, He.glo_ok X G (c.fact 12 (f := .glo "final_in") rfl)⟩ 
  have G_first_in : Q_first_in P w K mg base CA := c_first_in B ⟨_, _, F11, He.glo_ok X G (c.fact 11 (f := .glo "first_in") rfl)⟩ 
  have G_count_in : Q_count_in P w K mg base CA := c_count_in B ⟨_, _, F13, He.glo_ok X G (c.fact 13 (f := .glo "count_in") rfl)⟩ G_final_in G_first_in
  have G_counted : Q_counted P w K mg base CA := c_counted B ⟨_, _, F14, He.glo_ok X G (c.fact 14 (f := .glo "counted") rfl)⟩ G_count_in
  have M_Members_count : Q_Members_count P w K mg base CA := c_Members_count B ⟨_, _, F37, hcSp, He.meth_ok (c.fact 72 (f := .meth "Spread" "count") rfl)⟩ hcSp hnSp G_check_remainder G_counted
  have M_Trail_pairs_of : Q_Trail_pairs_of P w K mg base CA := c_Trail_pairs_of B ⟨_, _, F40, hcT, He.meth_ok (c.fact 75 (f := .meth "Trail" "pairs_of") rfl)⟩ hcT n1 n2 n3 n4 n5
  have M_Trail_spread_of : Q_Trail_spread_of P w K mg base CA := c_Trail_spread_of B ⟨_, _, F41, hcT, He.meth_ok (c.fact 76 (f := .meth "Trail" "spread_of") rfl)⟩ G_Spread M_Trail_pairs_of G_Stretch
  have M_Trail_fresh_up_to : Q_Trail_fresh_up_to P w K mg base CA := c_Trail_fresh_up_to B ⟨_, _, F47, hcT, He.meth_ok (c.fact 82 (f := .meth "Trail" "fresh_up_to") rfl)⟩ M_Trail_last_moment G_is_count M_Trail_rounds_up_to M_Members_count M_Trail_spread_of hcT n1 n2 n3 n4 n5
  have M_Trail_many_cells : Q_Trail_many_cells P w K mg base CA := c_Trail_many_cells B ⟨_, _, F45, hcT, He.meth_ok (c.fact 80 (f := .meth "Trail" "many_cells") rfl)⟩ M_Trail_fresh_up_to M_Trail_last_moment
  have M_Trail_first_of : Q_Trail_first_of P w K mg base CA := c_Trail_first_of B ⟨_, _, F42, hcT, He.meth_ok (c.fact 77 (f := .meth "Trail" "first_of") rfl)⟩ hcT n1 n2 n3 n4 n5
  have M_Trail_all_strands : Q_Trail_all_strands P w K mg base CA := c_Trail_all_strands B ⟨_, _, F43, hcT, He.meth_ok (c.fact 78 (f := .meth "Trail" "all_strands") rfl)⟩ M_Trail_rounds_up_to M_Trail_last_moment M_Trail_spread_of M_Trail_first_of hcT n1 n2 n3 n4 n5
  have M_Spread_told : Q_Spread_told P w K mg base CA := c_Spread_told B ⟨_, _, F36, hcSp, He.meth_ok (c.fact 71 (f := .meth "Spread" "told") rfl)⟩ G_Stretch hcSp hnSp
  have M_Trail_strands : Q_Trail_strands P w K mg base CA := c_Trail_strands B ⟨_, _, F44, hcT, He.meth_ok (c.fact 79 (f := .meth "Trail" "strands") rfl)⟩ M_Trail_all_strands M_Spread_told hcSt hnLo hnHi
  have G_visits_at : Q_visits_at P w K mg base CA := c_visits_at B ⟨_, _, F21, He.glo_ok X G (c.fact 21 (f := .glo "visits_at") rfl)⟩ G_foot_of M_Trail_rounds_up_to M_Trail_last_moment hcT n1 n2 n3 n4 n5
  have M_TrailD_containsD : Q_TrailD_containsD P w K mg base CA := c_TrailD_containsD B ⟨_, _, F46, hcT, He.meth_ok (c.fact 81 (f := .meth "Trail" "__contains__") rfl)⟩ G_visits_at G_is_cell
  exact ok_law (c := CA) B F35 G__law_start G__law_draw G__law_cell G__law_word G_Trail G__law_strands G__law_path G__law_cells G__law_shift M_Trail_strands M_Trail_many_cells M_TrailD_containsD
end K53
end

/-! K53U -/
section
namespace K53
open PySem PySem.Spec PyProof.Rows L2
def obU (s : PySem.W.SharedT) : AlZ := obsZG (HandSHeadRun.getT s)
theorem obU_eq (s : PySem.W.SharedT) : obU s = hookZ.obs s.abs := obsZG_eq (HandSHeadRun.getT_eq s)
def loose1 : List PySem.Str := ["_wall", "STEPS", "MOST_LETTERS", "is_integer", "is_count", "is_list", "is_cell", "is_word", "step_of", "shifted", "PlaneError", "BadPart", "BadNumber", "BadIndex", "check_integer", "check_remainder", "common_pair", "by_lows", "united", "shared", "outside", "first_in", "final_in", "count_in", "counted", "first_of", "final_of"]
def loose2 : List PySem.Str := ["Members", "Stretch", "Spread", "spread_of", "path_of", "check_word", "offsets_of", "multiple_below", "foot_of", "strand_rows", "Trail", "visits_at", "_law_start", "_law_draw", "_law_step", "_law_plus", "_law_path", "_law_cell", "_law_word", "_law_shift", "_law_apart", "_law_joined", "_law_strands", "_law_in_order", "_law_cells"]
def loose : List PySem.Str := loose1 ++ loose2
theorem run (w : World) : HandSHeadRun.RunEq RowZ (PySem.W.view RowZ.prog [58]) hookZ obU 5000 loose w := by
  intro os
  kernel_rfl
end K53
end

/-! K53V -/
section
open PySem PySem.W PySem.Calls PyProof.Rows
theorem PySem.Challenge.cw_endlessplane_k53_whole_strands_of_trails_holds : PySem.Challenge.rw_endlessplane_k53_whole_strands_of_trails.Holds := by
  w_on; o_law
  refine HandSHeadRun.head_any (r := OpenLaw.row PySem.Challenge.rw_endlessplane_k53_whole_strands_of_trails) (q := view (OpenLaw.row PySem.Challenge.rw_endlessplane_k53_whole_strands_of_trails).prog [58]) (H := K53.hookZ) (ob := K53.obU) (M := 5000) (loose := K53.loose) (d := HandSHeadRun.topDef (OpenLaw.row PySem.Challenge.rw_endlessplane_k53_whole_strands_of_trails).prog 58) (kwd := []) K53.obU_eq
    (by kernel_rfl) (fun s => by kernel_rfl) K53.run (by kernel_rfl) (by kernel_rfl) (by kernel_rfl) (by rfl) (by first | assumption | decide +kernel) (by decide +kernel) ⟨rfl, rfl, rfl, rfl, rfl, by decide +kernel⟩ ?hw ?hc
  case hw => w_witness2
  case hc =>
    refine L2.walk_ofE (l := PySem.Challenge.rw_endlessplane_k53_whole_strands_of_trails) (n := 63) (k := 9) (x := "_law_script") (CX := L2.CX0) rfl (by decide) (by kernel_rfl) ⟨rfl, by decide, by decide⟩ ?F (fun _ _ _ _ z => z)
    intro w mg fa h Y G hmg0
    obtain ⟨K, KX, c⟩ := Y
    have hmg : mg ("law" : PySem.Str) = some (.ref fa) := by
      have e : (HandSHeadRun.topDef (OpenLaw.row PySem.Challenge.rw_endlessplane_k53_whole_strands_of_trails).prog 58).name = ("law" : PySem.Str) := by kernel_rfl
      rw [← e]
      exact hmg0
    obtain ⟨fd, hb, hF⟩ := K53.facts (w := w) KX G hmg c
    exact ⟨K, fd, K53.spLaw K, KX, hb, fun H a ns hl _ hS => ⟨ns, a, rfl, hS, fun _ => rfl⟩, hF⟩
end
