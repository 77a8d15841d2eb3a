import PyProof.Rows.All
import Wide.All
import OpenK.AllK
import Wide.FinOn
import HandS.ForMost
import HandS.Codes
import HandS.More
import HandS.TupLen
import HandS.DictComp
import HandS.Walk
import KE.KDictKeyed
import KE.SortData
import KE.KDictSum
import KE.KDictDisplayH
import HandS.SetKeys
import KE.GoesMore
import KE.GoesEnum
import KE.DataEq
import PySem.Challenge.RW_pactloom_k55_whole_only_runs_fit
set_option Elab.async false
set_option linter.all false
set_option maxRecDepth 100000
set_option maxHeartbeats 4000000
/-! Plain lists and tables: no program in sight. -/
namespace PM

/-! ### lists -/
abbrev Asc (l : List Nat) : Prop := l.Pairwise (· < ·)
theorem asc_ext : ∀ {l m : List Nat}, Asc l → Asc m → (∀ x, x ∈ l ↔ x ∈ m) → l = m
  | [], [], _, _, _ => rfl
  | [], b :: m, _, _, h => absurd ((h b).mpr List.mem_cons_self) (by simp)
  | a :: l, [], _, _, h => absurd ((h a).mp List.mem_cons_self) (by simp)
  | a :: l, b :: m, hl, hm, h => by
    have hl' := List.pairwise_cons.mp hl
    have hm' := List.pairwise_cons.mp hm
    have e : a = b := by
      have h1 := (h a).mp List.mem_cons_self
      have h2 := (h b).mpr List.mem_cons_self
      rcases List.mem_cons.mp h1 with h1 | h1
      · exact h1
      · rcases List.mem_cons.mp h2 with h2 | h2
        · exact h2.symm
        · have q1 := hm'.1 a h1
          have q2 := hl'.1 b h2
          omega
    subst e
    refine congrArg (a :: ·) (asc_ext hl'.2 hm'.2 fun x => ?_)
    constructor
    · intro hx
      have q := hl'.1 x hx
      rcases List.mem_cons.mp ((h x).mp (List.mem_cons_of_mem _ hx)) with e | hx'
      · omega
      · exact hx'
    · intro hx
      have q := hm'.1 x hx
      rcases List.mem_cons.mp ((h x).mpr (List.mem_cons_of_mem _ hx)) with e | hx'
      · omega
      · exact hx'
theorem nodup_sub {α : Type} [DecidableEq α] : ∀ {l m : List α}, l.Nodup → (∀ x ∈ l, x ∈ m) → l.length ≤ m.length
  | [], m, _, _ => Nat.zero_le _
  | a :: l, m, hl, h => by
    have hl' := List.nodup_cons.mp hl
    have ha : a ∈ m := h a List.mem_cons_self
    have q : l.length ≤ (m.erase a).length := nodup_sub hl'.2 fun x hx => by
      have hne : x ≠ a := fun e => hl'.1 (e ▸ hx)
      exact (List.mem_erase_of_ne hne).mpr (h x (List.mem_cons_of_mem _ hx))
    have e := List.length_erase_of_mem ha
    have p : 0 < m.length := List.length_pos_of_mem ha
    rw [List.length_cons]
    omega

/-! ### tables -/
variable {S : Type} [DecidableEq S]
abbrev Act (S : Type) := S × S × S
abbrev Row (S : Type) := List (Act S × Nat)
abbrev Rows (S : Type) := List (Row S)
def stepR (row : Row S) (a : Act S) : Option Nat := (row.find? fun e => decide (e.1 = a)).map (·.2)
def stepT (rows : Rows S) (s : Nat) (a : Act S) : Option Nat := rows[s]?.bind fun row => stepR row a
def walkT (rows : Rows S) : Nat → List (Act S) → Option Nat
  | s, [] => some s
  | s, a :: w => (stepT rows s a).bind fun t => walkT rows t w
def IsRun (rows : Rows S) (w : List (Act S)) : Prop := ∃ t, walkT rows 0 w = some t
def cc (a : Act S) (p : S) : Bool := decide (a.1 = p) || decide (a.2.1 = p)
def view (w : List (Act S)) (p : S) : List (Act S) := w.filter fun a => cc a p
def Det (row : Row S) : Prop := (row.map (·.1)).Nodup
structure WF (rows : Rows S) : Prop where
  det : ∀ row ∈ rows, Det row
  lt : ∀ row ∈ rows, ∀ e ∈ row, e.2 < rows.length

theorem stepR_nil (a : Act S) : stepR [] a = none := rfl
theorem stepR_cons (e : Act S × Nat) (row : Row S) (a : Act S) : stepR (e :: row) a = if e.1 = a then some e.2 else stepR row a := by
  unfold stepR
  by_cases h : e.1 = a
  · simp [h]
  · simp [h]
theorem stepR_mem : ∀ {row : Row S} {a : Act S} {t : Nat}, stepR row a = some t → (a, t) ∈ row
  | [], a, t, h => by cases h
  | e :: row, a, t, h => by
    rw [stepR_cons] at h
    split at h
    · rename_i q
      have q2 : e.2 = t := Option.some.inj h
      have : e = (a, t) := Prod.ext q q2
      rw [this]
      exact List.mem_cons_self
    · exact List.mem_cons_of_mem _ (stepR_mem h)
theorem stepR_of : ∀ {row : Row S} {a : Act S} {t : Nat}, Det row → (a, t) ∈ row → stepR row a = some t
  | e :: row, a, t, hd, h => by
    have hd' : (e.1 :: row.map (·.1)).Nodup := hd
    have hd'' := List.nodup_cons.mp hd'
    rw [stepR_cons]
    rcases List.mem_cons.mp h with h | h
    · subst h
      rw [if_pos rfl]
    · have : e.1 ≠ a := fun q => hd''.1 (List.mem_map.mpr ⟨(a, t), h, q.symm⟩)
      rw [if_neg this]
      exact stepR_of hd''.2 h
theorem stepR_none {row : Row S} {a : Act S} : stepR row a = none ↔ ∀ t, (a, t) ∉ row := by
  induction row with
  | nil => simp [stepR_nil]
  | cons e row ih =>
    rw [stepR_cons]
    by_cases h : e.1 = a
    · rw [if_pos h]
      constructor
      · intro q; cases q
      · intro q
        exact absurd (show (a, e.2) ∈ e :: row from by rw [← h]; exact List.mem_cons_self) (q e.2)
    · rw [if_neg h, ih]
      constructor
      · intro q t ht
        rcases List.mem_cons.mp ht with ht | ht
        · exact h (by rw [← ht])
        · exact q t ht
      · intro q t ht
        exact q t (List.mem_cons_of_mem _ ht)
theorem stepT_eq {rows : Rows S} {s : Nat} {row : Row S} (h : rows[s]? = some row) (a : Act S) : stepT rows s a = stepR row a := by
  unfold stepT
  rw [h]
  rfl
theorem stepT_none {rows : Rows S} {s : Nat} (h : rows[s]? = none) (a : Act S) : stepT rows s a = none := by
  unfold stepT
  rw [h]
  rfl
theorem stepT_some {rows : Rows S} {s t : Nat} {a : Act S} (h : stepT rows s a = some t) : ∃ row, rows[s]? = some row ∧ stepR row a = some t := by
  cases q : rows[s]? with
  | none => rw [stepT_none q] at h; cases h
  | some row => exact ⟨row, rfl, by rw [stepT_eq q] at h; exact h⟩
theorem walkT_append (rows : Rows S) : ∀ (u v : List (Act S)) (s : Nat), walkT rows s (u ++ v) = (walkT rows s u).bind fun t => walkT rows t v
  | [], v, s => rfl
  | a :: u, v, s => by
    show (stepT rows s a).bind (fun t => walkT rows t (u ++ v)) = ((stepT rows s a).bind fun t => walkT rows t u).bind fun t => walkT rows t v
    cases stepT rows s a with
    | none => rfl
    | some t => exact walkT_append rows u v t
theorem walkT_snoc (rows : Rows S) (u : List (Act S)) (a : Act S) (s : Nat) : walkT rows s (u ++ [a]) = (walkT rows s u).bind fun t => stepT rows t a := by
  rw [walkT_append]
  cases walkT rows s u with
  | none => rfl
  | some t =>
    show (stepT rows t a).bind (fun t => walkT rows t []) = stepT rows t a
    cases stepT rows t a <;> rfl
theorem IsRun.left {rows : Rows S} {u v : List (Act S)} (h : IsRun rows (u ++ v)) : IsRun rows u := by
  obtain ⟨t, h⟩ := h
  rw [walkT_append] at h
  cases q : walkT rows 0 u with
  | none => rw [q] at h; cases h
  | some t => exact ⟨t, q⟩
theorem IsRun.nil (rows : Rows S) : IsRun rows [] := ⟨0, rfl⟩
theorem IsRun.snoc {rows : Rows S} {u : List (Act S)} {a : Act S} : IsRun rows (u ++ [a]) ↔ ∃ s t, walkT rows 0 u = some s ∧ stepT rows s a = some t := by
  unfold IsRun
  rw [walkT_snoc]
  cases q : walkT rows 0 u with
  | none => simp
  | some s => simp
theorem WF.goal {rows : Rows S} (W : WF rows) {s t : Nat} {a : Act S} (h : stepT rows s a = some t) : t < rows.length := by
  obtain ⟨row, h1, h2⟩ := stepT_some h
  exact W.lt row (List.mem_of_getElem? h1) _ (stepR_mem h2)
theorem WF.step {rows : Rows S} (W : WF rows) {s t : Nat} {a : Act S} {row : Row S} (h : rows[s]? = some row) : stepT rows s a = some t ↔ (a, t) ∈ row := by
  rw [stepT_eq h]
  exact ⟨stepR_mem, stepR_of (W.det row (List.mem_of_getElem? h))⟩
theorem WF.walk {rows : Rows S} (W : WF rows) (hn : 0 < rows.length) {w : List (Act S)} : ∀ {s t : Nat}, s < rows.length → walkT rows s w = some t → t < rows.length := by
  induction w with
  | nil =>
    intro s t hs h
    have : s = t := Option.some.inj h
    omega
  | cons a w ih =>
    intro s t hs h
    have h : (stepT rows s a).bind (fun t => walkT rows t w) = some t := h
    cases q : stepT rows s a with
    | none => rw [q] at h; cases h
    | some u =>
      rw [q] at h
      exact ih (W.goal q) h

theorem view_nil (p : S) : view ([] : List (Act S)) p = [] := rfl
theorem view_append (u v : List (Act S)) (p : S) : view (u ++ v) p = view u p ++ view v p := List.filter_append ..
theorem view_snoc_pos (u : List (Act S)) {a : Act S} {p : S} (h : cc a p = true) : view (u ++ [a]) p = view u p ++ [a] := by
  rw [view_append]
  simp [view, h]
theorem view_snoc_neg (u : List (Act S)) {a : Act S} {p : S} (h : cc a p = false) : view (u ++ [a]) p = view u p := by
  rw [view_append]
  simp [view, h]
theorem cc_left (a : Act S) : cc a a.1 = true := by simp [cc]
theorem cc_right (a : Act S) : cc a a.2.1 = true := by simp [cc]
/-- a list whose view ends with x is cut at that place -/
theorem view_split {r : List (Act S)} {p : S} {u : List (Act S)} {x : Act S} (h : view r p = u ++ [x]) : ∃ r1 r2, r = r1 ++ x :: r2 ∧ view r1 p = u ∧ view r2 p = [] ∧ cc x p = true := by
  induction r generalizing u with
  | nil =>
    have : ([] : List (Act S)) = u ++ [x] := h
    simp at this
  | cons a r ih =>
    by_cases ha : cc a p = true
    · have h' : a :: view r p = u ++ [x] := by
        rw [← h]
        simp [view, ha]
      cases u with
      | nil =>
        have h1 : a = x := by simpa using (List.cons.inj h').1
        have h2 : view r p = [] := (List.cons.inj h').2
        subst h1
        exact ⟨[], r, rfl, rfl, h2, ha⟩
      | cons b u =>
        have h1 : a = b := (List.cons.inj h').1
        have h2 : view r p = u ++ [x] := (List.cons.inj h').2
        obtain ⟨r1, r2, e1, e2, e3, e4⟩ := ih h2
        subst h1
        refine ⟨a :: r1, r2, by rw [e1]; rfl, ?_, e3, e4⟩
        show view (a :: r1) p = a :: u
        rw [← e2]
        simp [view, ha]
    · have h' : view r p = u ++ [x] := by
        rw [← h]
        simp [view, ha]
      obtain ⟨r1, r2, e1, e2, e3, e4⟩ := ih h'
      refine ⟨a :: r1, r2, by rw [e1]; rfl, ?_, e3, e4⟩
      rw [← e2]
      simp [view, ha]

/-! ### accepted: fits is run -/
def Acc (rows : Rows S) : Prop := ∀ (u : List (Act S)) (a : Act S), IsRun rows u →
  (∃ r, IsRun rows (r ++ [a]) ∧ view r a.1 = view u a.1) → (∃ r, IsRun rows (r ++ [a]) ∧ view r a.2.1 = view u a.2.1) → IsRun rows (u ++ [a])
theorem view_run {rows : Rows S} {u : List (Act S)} {a : Act S} {p : S} (hp : cc a p = true) (h : ∃ r, IsRun rows r ∧ view r p = view (u ++ [a]) p) : ∃ r, IsRun rows (r ++ [a]) ∧ view r p = view u p := by
  obtain ⟨r, hr, hv⟩ := h
  rw [view_snoc_pos u hp] at hv
  obtain ⟨r1, r2, e1, e2, e3, e4⟩ := view_split hv
  refine ⟨r1, ?_, e2⟩
  have e5 : r = (r1 ++ [a]) ++ r2 := by rw [e1]; simp
  rw [e5] at hr
  exact hr.left
theorem view_less {rows : Rows S} {u : List (Act S)} {a : Act S} {p : S} (h : ∃ r, IsRun rows r ∧ view r p = view (u ++ [a]) p) : ∃ r, IsRun rows r ∧ view r p = view u p := by
  by_cases hp : cc a p = true
  · obtain ⟨r, hr, hv⟩ := view_run hp h
    exact ⟨r, hr.left, hv⟩
  · rw [view_snoc_neg u (by simpa using hp)] at h
    exact h
theorem fits_run_snoc {rows : Rows S} (A : Acc rows) {ps : List S} (w : List (Act S)) : ∀ (r : List (Act S)), w = r.reverse → (∀ a ∈ w, a.1 ∈ ps ∧ a.2.1 ∈ ps) → (∀ p ∈ ps, ∃ r, IsRun rows r ∧ view r p = view w p) → IsRun rows w := by
  intro r
  induction r generalizing w with
  | nil =>
    intro e _ _
    rw [e]
    exact IsRun.nil rows
  | cons a r ih =>
    intro e h1 h2
    have e' : w = r.reverse ++ [a] := by rw [e]; simp
    subst e'
    have hu : IsRun rows r.reverse := ih r.reverse rfl (fun b hb => h1 b (List.mem_append_left _ hb)) fun p hp => view_less (h2 p hp)
    obtain ⟨q1, q2⟩ := h1 a (List.mem_append_right _ List.mem_cons_self)
    exact A r.reverse a hu (view_run (cc_left a) (h2 _ q1)) (view_run (cc_right a) (h2 _ q2))
theorem fits_run {rows : Rows S} (A : Acc rows) {ps : List S} {w : List (Act S)} (h1 : ∀ a ∈ w, a.1 ∈ ps ∧ a.2.1 ∈ ps) (h2 : ∀ p ∈ ps, ∃ r, IsRun rows r ∧ view r p = view w p) : IsRun rows w :=
  fits_run_snoc A w w.reverse (by simp) h1 h2
theorem run_step_mem {rows : Rows S} : ∀ {w : List (Act S)} {s t : Nat}, walkT rows s w = some t → ∀ a ∈ w, ∃ row ∈ rows, ∃ g, (a, g) ∈ row
  | b :: w, s, t, h, a, ha => by
    have h : (stepT rows s b).bind (fun t => walkT rows t w) = some t := h
    cases q : stepT rows s b with
    | none => rw [q] at h; cases h
    | some u =>
      rw [q] at h
      rcases List.mem_cons.mp ha with e | ha
      · subst e
        obtain ⟨row, h1, h2⟩ := stepT_some q
        exact ⟨row, List.mem_of_getElem? h1, u, stepR_mem h2⟩
      · exact run_step_mem (w := w) h a ha
end PM
/-! Sets of nodes, the subset table, the machine's runs, the least table's runs. -/
namespace PM
variable {S : Type} [DecidableEq S]
abbrev Moves (S : Type) := List (List (Act S × List Nat))
def HasMove (moves : Moves S) (N : List Nat) (a : Act S) : Prop := ∃ x ∈ N, ∃ row, moves[x]? = some row ∧ ∃ g, (a, g) ∈ row
def InGroup (moves : Moves S) (N : List Nat) (a : Act S) (y : Nat) : Prop := ∃ x ∈ N, ∃ row, moves[x]? = some row ∧ ∃ g, (a, g) ∈ row ∧ y ∈ g
structure IsGroup (moves : Moves S) (N : List Nat) (a : Act S) (G : List Nat) : Prop where
  has : HasMove moves N a
  asc : Asc G
  mem : ∀ y, y ∈ G ↔ InGroup moves N a y
structure SubTab (moves : Moves S) (start : List Nat) (order : List (List Nat)) (rows : Rows S) : Prop where
  start : order[0]? = some start
  len : rows.length = order.length
  det : ∀ row ∈ rows, Det row
  out : ∀ (i : Nat) (N : List Nat) (row : Row S), order[i]? = some N → rows[i]? = some row → ∀ e ∈ row, ∃ G, order[e.2]? = some G ∧ IsGroup moves N e.1 G
  all : ∀ (i : Nat) (N : List Nat) (row : Row S), order[i]? = some N → rows[i]? = some row → ∀ a, HasMove moves N a → ∃ j, (a, j) ∈ row
theorem SubTab.wf {moves : Moves S} {start : List Nat} {order : List (List Nat)} {rows : Rows S} (T : SubTab moves start order rows) : WF rows := by
  refine ⟨T.det, fun row hr e he => ?_⟩
  obtain ⟨i, hi⟩ := List.getElem?_of_mem hr
  have hlt : i < rows.length := (List.getElem?_eq_some_iff.mp hi).1
  have hlt2 : i < order.length := by rw [← T.len]; exact hlt
  have ho : order[i]? = some order[i] := List.getElem?_eq_getElem hlt2
  obtain ⟨G, hG, _⟩ := T.out i _ row ho hi e he
  rw [T.len]
  exact (List.getElem?_eq_some_iff.mp hG).1
/-- one step of it -/
theorem SubTab.step_some {moves : Moves S} {start : List Nat} {order : List (List Nat)} {rows : Rows S} (T : SubTab moves start order rows) {i j : Nat} {N : List Nat} {a : Act S} (hN : order[i]? = some N) (h : stepT rows i a = some j) :
    ∃ G, order[j]? = some G ∧ IsGroup moves N a G := by
  obtain ⟨row, h1, h2⟩ := stepT_some h
  exact T.out i N row hN h1 (a, j) (stepR_mem h2)
theorem SubTab.step_none {moves : Moves S} {start : List Nat} {order : List (List Nat)} {rows : Rows S} (T : SubTab moves start order rows) {i : Nat} {N : List Nat} {a : Act S} (hN : order[i]? = some N) (h : stepT rows i a = none) :
    ¬ HasMove moves N a := by
  intro hm
  have hlt : i < rows.length := by
    rw [T.len]
    exact (List.getElem?_eq_some_iff.mp hN).1
  have hr : rows[i]? = some rows[i] := List.getElem?_eq_getElem hlt
  obtain ⟨j, hj⟩ := T.all i N _ hN hr a hm
  have := (T.wf.step hr (t := j) (a := a)).mpr hj
  rw [h] at this
  cases this

/-! ### the machine -/
def Reach (rows : Rows S) (p : S) (s y : Nat) : Prop := ∃ r, walkT rows s r = some y ∧ view r p = []
def IsReach (rows : Rows S) (p : S) (reach : List (List Nat)) : Prop := reach.length = rows.length ∧ ∀ s R, reach[s]? = some R → Asc R ∧ ∀ y, y ∈ R ↔ Reach rows p s y
def movesOf (rows : Rows S) (p : S) (reach : List (List Nat)) : Moves S := rows.map fun row => (row.filter fun e => cc e.1 p).map fun e => (e.1, reach.getD e.2 [])
theorem movesOf_get {rows : Rows S} {p : S} {reach : List (List Nat)} {x : Nat} {mr : List (Act S × List Nat)} : (movesOf rows p reach)[x]? = some mr ↔ ∃ row, rows[x]? = some row ∧ mr = (row.filter fun e => cc e.1 p).map fun e => (e.1, reach.getD e.2 []) := by
  unfold movesOf
  rw [List.getElem?_map]
  cases rows[x]? with
  | none => simp
  | some row => simp [eq_comm]
theorem Reach.refl (rows : Rows S) (p : S) (s : Nat) : Reach rows p s s := ⟨[], rfl, rfl⟩
theorem Reach.tail {rows : Rows S} {p : S} {s t u : Nat} {a : Act S} (h : Reach rows p s t) (e : stepT rows t a = some u) (ha : cc a p = false) : Reach rows p s u := by
  obtain ⟨r, h1, h2⟩ := h
  refine ⟨r ++ [a], ?_, by rw [view_snoc_neg r ha]; exact h2⟩
  rw [walkT_snoc, h1]
  exact e
/-- a set that has s and is closed under unseen steps has all that is reached -/
theorem Reach.closed {rows : Rows S} {p : S} {P : Nat → Prop} (hc : ∀ t a u, P t → stepT rows t a = some u → cc a p = false → P u) {s y : Nat} (hs : P s) (h : Reach rows p s y) : P y := by
  obtain ⟨r, h1, h2⟩ := h
  induction r generalizing s with
  | nil =>
    have : s = y := Option.some.inj h1
    exact this ▸ hs
  | cons a r ih =>
    have h1 : (stepT rows s a).bind (fun t => walkT rows t r) = some y := h1
    have ha : cc a p = false := by
      cases q : cc a p with
      | false => rfl
      | true =>
        have : view (a :: r) p = a :: view r p := by simp [view, q]
        rw [this] at h2
        cases h2
    have h3 : view r p = [] := by
      have : view (a :: r) p = view r p := by simp [view, ha]
      rw [this] at h2
      exact h2
    cases q : stepT rows s a with
    | none => rw [q] at h1; cases h1
    | some t =>
      rw [q] at h1
      exact ih (hc s a t hs q ha) h1 h3
/-- the states behind the runs with this view -/
def Seen (rows : Rows S) (p : S) (w : List (Act S)) (y : Nat) : Prop := ∃ r, walkT rows 0 r = some y ∧ view r p = w
theorem Seen.nil {rows : Rows S} {p : S} {y : Nat} : Seen rows p [] y ↔ Reach rows p 0 y := Iff.rfl
theorem Seen.snoc {rows : Rows S} {p : S} {w : List (Act S)} {a : Act S} {y : Nat} : Seen rows p (w ++ [a]) y ↔ cc a p = true ∧ ∃ x t, Seen rows p w x ∧ stepT rows x a = some t ∧ Reach rows p t y := by
  constructor
  · rintro ⟨r, h1, h2⟩
    obtain ⟨r1, r2, e1, e2, e3, e4⟩ := view_split h2
    subst e1
    rw [walkT_append] at h1
    cases q : walkT rows 0 r1 with
    | none => rw [q] at h1; cases h1
    | some x =>
      rw [q] at h1
      have h1 : (stepT rows x a).bind (fun t => walkT rows t r2) = some y := h1
      cases q2 : stepT rows x a with
      | none => rw [q2] at h1; cases h1
      | some t =>
        rw [q2] at h1
        exact ⟨e4, x, t, ⟨r1, q, e2⟩, q2, r2, h1, e3⟩
  · rintro ⟨ha, x, t, ⟨r1, h1, h2⟩, h3, r2, h4, h5⟩
    refine ⟨r1 ++ a :: r2, ?_, ?_⟩
    · rw [walkT_append, h1]
      show (stepT rows x a).bind (fun t => walkT rows t r2) = some y
      rw [h3]
      exact h4
    · rw [view_append, h2]
      have : view (a :: r2) p = a :: view r2 p := by simp [view, ha]
      rw [this, h5]
theorem reach_getD {rows : Rows S} {p : S} {reach : List (List Nat)} (R : IsReach rows p reach) {t : Nat} (ht : t < rows.length) : Asc (reach.getD t []) ∧ ∀ y, y ∈ reach.getD t [] ↔ Reach rows p t y := by
  have hlt : t < reach.length := by rw [R.1]; exact ht
  have e : reach[t]? = some reach[t] := List.getElem?_eq_getElem hlt
  have e2 : reach.getD t [] = reach[t] := by simp [List.getD, e]
  rw [e2]
  exact R.2 t _ e
section
variable {rows : Rows S} {p : S} {reach : List (List Nat)}
theorem hasMove_iff (W : WF rows) {N : List Nat} {a : Act S} : HasMove (movesOf rows p reach) N a ↔ cc a p = true ∧ ∃ x ∈ N, ∃ t, stepT rows x a = some t := by
  constructor
  · rintro ⟨x, hx, mr, hm, g, hg⟩
    obtain ⟨row, h1, rfl⟩ := movesOf_get.mp hm
    obtain ⟨e, he, q⟩ := List.mem_map.mp hg
    obtain ⟨he, hc⟩ := List.mem_filter.mp he
    have q1 : e.1 = a := congrArg Prod.fst q
    subst q1
    exact ⟨hc, x, hx, e.2, (W.step h1).mpr he⟩
  · rintro ⟨hc, x, hx, t, ht⟩
    obtain ⟨row, h1, h2⟩ := stepT_some ht
    exact ⟨x, hx, _, movesOf_get.mpr ⟨row, h1, rfl⟩, reach.getD t [], List.mem_map.mpr ⟨(a, t), List.mem_filter.mpr ⟨stepR_mem h2, hc⟩, rfl⟩⟩
theorem inGroup_iff (W : WF rows) (R : IsReach rows p reach) {N : List Nat} {a : Act S} {y : Nat} : InGroup (movesOf rows p reach) N a y ↔ cc a p = true ∧ ∃ x ∈ N, ∃ t, stepT rows x a = some t ∧ Reach rows p t y := by
  constructor
  · rintro ⟨x, hx, mr, hm, g, hg, hy⟩
    obtain ⟨row, h1, rfl⟩ := movesOf_get.mp hm
    obtain ⟨e, he, q⟩ := List.mem_map.mp hg
    obtain ⟨he, hc⟩ := List.mem_filter.mp he
    have q1 : e.1 = a := congrArg Prod.fst q
    have q2 : reach.getD e.2 [] = g := congrArg Prod.snd q
    subst q1 q2
    have hs := (W.step h1).mpr (show (e.1, e.2) ∈ row from he)
    exact ⟨hc, x, hx, e.2, hs, ((reach_getD R (W.goal hs)).2 y).mp hy⟩
  · rintro ⟨hc, x, hx, t, ht, hy⟩
    obtain ⟨row, h1, h2⟩ := stepT_some ht
    exact ⟨x, hx, _, movesOf_get.mpr ⟨row, h1, rfl⟩, reach.getD t [], List.mem_map.mpr ⟨(a, t), List.mem_filter.mpr ⟨stepR_mem h2, hc⟩, rfl⟩, ((reach_getD R (W.goal ht)).2 y).mpr hy⟩
/-- THE SUBSET TABLE OF A PARTY: its runs are the views of the runs -/
theorem sub_seen (W : WF rows) (R : IsReach rows p reach) {start : List Nat} {order : List (List Nat)} {rows' : Rows S} (hs : reach[0]? = some start) (T : SubTab (movesOf rows p reach) start order rows') (v : List (Act S)) :
    ∀ w, w = v.reverse → (∀ i, walkT rows' 0 w = some i → ∃ N, order[i]? = some N ∧ ∀ y, y ∈ N ↔ Seen rows p w y) ∧ (walkT rows' 0 w = none → ∀ y, ¬ Seen rows p w y) := by
  induction v with
  | nil =>
    intro w e
    have e : w = [] := e
    subst e
    refine ⟨fun i h => ?_, fun h => by cases h⟩
    have : 0 = i := Option.some.inj h
    subst this
    exact ⟨start, T.start, (R.2 0 start hs).2⟩
  | cons a v ih =>
    intro w e
    have e : w = v.reverse ++ [a] := by rw [e]; simp
    subst e
    obtain ⟨ih1, ih2⟩ := ih v.reverse rfl
    rw [walkT_snoc]
    cases q : walkT rows' 0 v.reverse with
    | none =>
      refine ⟨fun i h => (nomatch (show (none : Option Nat) = some i from h)), fun _ y hy => ?_⟩
      obtain ⟨_, x, _, hx, _⟩ := Seen.snoc.mp hy
      exact ih2 q x hx
    | some i =>
      obtain ⟨N, hN, hm⟩ := ih1 i q
      show (∀ j, stepT rows' i a = some j → _) ∧ (stepT rows' i a = none → _)
      constructor
      · intro j hj
        obtain ⟨G, hG, g⟩ := T.step_some hN hj
        refine ⟨G, hG, fun y => ?_⟩
        rw [g.mem, inGroup_iff W R, Seen.snoc]
        constructor
        · rintro ⟨hc, x, hx, t, ht, hy⟩
          exact ⟨hc, x, t, (hm x).mp hx, ht, hy⟩
        · rintro ⟨hc, x, t, hx, ht, hy⟩
          exact ⟨hc, x, (hm x).mpr hx, t, ht, hy⟩
      · intro hj y hy
        refine T.step_none hN hj ((hasMove_iff W).mpr ?_)
        obtain ⟨hc, x, t, hx, ht, _⟩ := Seen.snoc.mp hy
        exact ⟨hc, x, (hm x).mpr hx, t, ht⟩
theorem sub_run (W : WF rows) (R : IsReach rows p reach) {start : List Nat} {order : List (List Nat)} {rows' : Rows S} (hs : reach[0]? = some start) (T : SubTab (movesOf rows p reach) start order rows') (w : List (Act S)) :
    IsRun rows' w ↔ ∃ r, IsRun rows r ∧ view r p = w := by
  obtain ⟨h1, h2⟩ := sub_seen W R hs T w.reverse w (by simp)
  constructor
  · rintro ⟨i, hi⟩
    -- a state of the subset table stands for a set that is not empty
    have key : ∀ (v : List (Act S)) (w : List (Act S)), w = v.reverse → ∀ i, walkT rows' 0 w = some i → ∃ y, Seen rows p w y := by
      intro v
      induction v with
      | nil =>
        intro w e i _
        have e : w = [] := e
        subst e
        exact ⟨0, Reach.refl rows p 0⟩
      | cons a v ih =>
        intro w e i h
        have e : w = v.reverse ++ [a] := by rw [e]; simp
        subst e
        rw [walkT_snoc] at h
        cases q : walkT rows' 0 v.reverse with
        | none => rw [q] at h; cases h
        | some j =>
          rw [q] at h
          have h : stepT rows' j a = some i := h
          obtain ⟨N, hN, hm⟩ := (sub_seen W R hs T v v.reverse rfl).1 j q
          obtain ⟨G, hG, g⟩ := T.step_some hN h
          obtain ⟨hc, x, hx, t, ht⟩ := (hasMove_iff W).mp g.has
          exact ⟨t, Seen.snoc.mpr ⟨hc, x, t, (hm x).mp hx, ht, Reach.refl rows p t⟩⟩
    obtain ⟨y, r, hy, hv⟩ := key w.reverse w (by simp) i hi
    exact ⟨r, ⟨y, hy⟩, hv⟩
  · rintro ⟨r, ⟨y, hy⟩, hv⟩
    cases q : walkT rows' 0 w with
    | some i => exact ⟨i, q⟩
    | none => exact absurd ⟨r, hy, hv⟩ (h2 q y)
end

/-! ### the least table -/
def sign (c : List Nat) (row : Row S) : List (Act S × Nat) := row.map fun e => (e.1, c.getD e.2 0)
structure Stable (rows : Rows S) (c : List Nat) : Prop where
  len : c.length = rows.length
  lt : ∀ x ∈ c, x < c.length
  same : ∀ (i j : Nat) (ri rj : Row S), c[i]? = c[j]? → rows[i]? = some ri → rows[j]? = some rj → sign c ri = sign c rj
/-- the moves of the classes: for each state its class has this state's row -/
structure LMoves (rows : Rows S) (c : List Nat) (moves : Moves S) : Prop where
  len : moves.length = c.length
  at_ : ∀ (s : Nat) (row : Row S) (k : Nat), rows[s]? = some row → c[s]? = some k → ∃ (s' : Nat) (row' : Row S), rows[s']? = some row' ∧ c[s']? = some k ∧ moves[k]? = some (row'.map fun e => (e.1, [c.getD e.2 0]))
theorem LMoves.row {rows : Rows S} {c : List Nat} {moves : Moves S} (L : LMoves rows c moves) (St : Stable rows c) {s k : Nat} {row : Row S} (h1 : rows[s]? = some row) (h2 : c[s]? = some k) : moves[k]? = some ((sign c row).map fun e => (e.1, [e.2])) := by
  obtain ⟨s', row', h3, h4, h5⟩ := L.at_ s row k h1 h2
  rw [h5]
  have e : sign c row = sign c row' := St.same s s' row row' (h2.trans h4.symm) h1 h3
  rw [e]
  simp [sign]
section
variable {rows : Rows S} {c : List Nat} {moves : Moves S}
theorem least_has (W : WF rows) (St : Stable rows c) (L : LMoves rows c moves) {s k : Nat} {row : Row S} (h1 : rows[s]? = some row) (h2 : c[s]? = some k) {a : Act S} : HasMove moves [k] a ↔ ∃ t, stepT rows s a = some t := by
  have e := L.row St h1 h2
  constructor
  · rintro ⟨x, hx, mr, hm, g, hg⟩
    have hx : x = k := by simpa using hx
    subst hx
    rw [e] at hm
    cases hm
    obtain ⟨q, hq, e1⟩ := List.mem_map.mp hg
    obtain ⟨z, hz, e2⟩ := List.mem_map.mp hq
    have e3 : z.1 = a := by
      rw [← e2] at e1
      exact congrArg Prod.fst e1
    subst e3
    exact ⟨z.2, (W.step h1).mpr hz⟩
  · rintro ⟨t, ht⟩
    have hm := (W.step h1).mp ht
    exact ⟨k, List.mem_singleton.mpr rfl, _, e, [c.getD t 0], List.mem_map.mpr ⟨(a, c.getD t 0), List.mem_map.mpr ⟨(a, t), hm, rfl⟩, rfl⟩⟩
theorem least_in (W : WF rows) (St : Stable rows c) (L : LMoves rows c moves) {s k t : Nat} {row : Row S} (h1 : rows[s]? = some row) (h2 : c[s]? = some k) {a : Act S} (ht : stepT rows s a = some t) (y : Nat) : InGroup moves [k] a y ↔ y = c.getD t 0 := by
  have e := L.row St h1 h2
  constructor
  · rintro ⟨x, hx, mr, hm, g, hg, hy⟩
    have hx : x = k := by simpa using hx
    subst hx
    rw [e] at hm
    cases hm
    obtain ⟨q, hq, e1⟩ := List.mem_map.mp hg
    obtain ⟨z, hz, e2⟩ := List.mem_map.mp hq
    have e3 : z.1 = a := by
      rw [← e2] at e1
      exact congrArg Prod.fst e1
    have e4 : [c.getD z.2 0] = g := by
      rw [← e2] at e1
      exact congrArg Prod.snd e1
    subst e3
    have e5 := (W.step h1).mpr (show (z.1, z.2) ∈ row from hz)
    rw [ht] at e5
    cases e5
    rw [← e4] at hy
    simpa using hy
  · rintro rfl
    have hm := (W.step h1).mp ht
    exact ⟨k, List.mem_singleton.mpr rfl, _, e, [c.getD t 0], List.mem_map.mpr ⟨(a, c.getD t 0), List.mem_map.mpr ⟨(a, t), hm, rfl⟩, rfl⟩, List.mem_singleton.mpr rfl⟩
theorem least_group (W : WF rows) (St : Stable rows c) (L : LMoves rows c moves) {s k : Nat} {row : Row S} (h1 : rows[s]? = some row) (h2 : c[s]? = some k) {a : Act S} {G : List Nat} (g : IsGroup moves [k] a G) :
    ∃ t, stepT rows s a = some t ∧ G = [c.getD t 0] := by
  obtain ⟨t, ht⟩ := (least_has W St L h1 h2).mp g.has
  refine ⟨t, ht, asc_ext g.asc (List.pairwise_singleton _ _) fun y => ?_⟩
  rw [g.mem, least_in W St L h1 h2 ht]
  simp
theorem c_at (St : Stable rows c) {t : Nat} (ht : t < rows.length) : c[t]? = some (c.getD t 0) := by
  have hlt : t < c.length := by rw [St.len]; exact ht
  simp [List.getD, hlt]
/-- the sets are singletons: one for each class -/
def classSets (c : List Nat) : List (List Nat) := (List.range c.length).map fun k => [k]
theorem classSets_len (c : List Nat) : (classSets c).length = c.length := by simp [classSets]
theorem classSets_start (St : Stable rows c) {k : Nat} (h : c[0]? = some k) : [k] ∈ classSets c := List.mem_map.mpr ⟨k, List.mem_range.mpr (St.lt k (List.mem_of_getElem? h)), rfl⟩
theorem classSets_closed (W : WF rows) (St : Stable rows c) (L : LMoves rows c moves) {N : List Nat} (hN : ∃ s k, s < rows.length ∧ c[s]? = some k ∧ N = [k]) {a : Act S} {G : List Nat} (g : IsGroup moves N a G) :
    (∃ s k, s < rows.length ∧ c[s]? = some k ∧ G = [k]) := by
  obtain ⟨s, k, hs, hk, rfl⟩ := hN
  have h1 : rows[s]? = some rows[s] := List.getElem?_eq_getElem hs
  obtain ⟨t, ht, e⟩ := least_group W St L h1 hk g
  exact ⟨t, _, W.goal ht, c_at St (W.goal ht), e⟩
theorem least_walk (W : WF rows) (St : Stable rows c) (L : LMoves rows c moves) (hn : 0 < rows.length) {k0 : Nat} (hk : c[0]? = some k0) {order : List (List Nat)} {rows' : Rows S} (T : SubTab moves [k0] order rows') (v : List (Act S)) :
    ∀ w, w = v.reverse → (∀ i, walkT rows' 0 w = some i → ∃ s k, walkT rows 0 w = some s ∧ s < rows.length ∧ c[s]? = some k ∧ order[i]? = some [k]) ∧ (walkT rows' 0 w = none → walkT rows 0 w = none) := by
  induction v with
  | nil =>
    intro w e
    have e : w = [] := e
    subst e
    refine ⟨fun i h => ?_, fun h => by cases h⟩
    have : 0 = i := Option.some.inj h
    subst this
    exact ⟨0, k0, rfl, hn, hk, T.start⟩
  | cons a v ih =>
    intro w e
    have e : w = v.reverse ++ [a] := by rw [e]; simp
    subst e
    obtain ⟨ih1, ih2⟩ := ih v.reverse rfl
    rw [walkT_snoc, walkT_snoc]
    cases q : walkT rows' 0 v.reverse with
    | none =>
      rw [ih2 q]
      exact ⟨fun i h => (nomatch (show (none : Option Nat) = some i from h)), fun _ => rfl⟩
    | some i =>
      obtain ⟨s, k, h1, h2, h3, h4⟩ := ih1 i q
      rw [h1]
      have hr : rows[s]? = some rows[s] := List.getElem?_eq_getElem h2
      show (∀ j, stepT rows' i a = some j → ∃ s' k', stepT rows s a = some s' ∧ _) ∧ (stepT rows' i a = none → stepT rows s a = none)
      constructor
      · intro j hj
        obtain ⟨G, hG, g⟩ := T.step_some h4 hj
        obtain ⟨t, ht, e⟩ := least_group W St L hr h3 g
        subst e
        exact ⟨t, _, ht, W.goal ht, c_at St (W.goal ht), hG⟩
      · intro hj
        cases q2 : stepT rows s a with
        | none => rfl
        | some t => exact absurd ((least_has W St L hr h3).mpr ⟨t, q2⟩) (T.step_none h4 hj)
theorem least_run (W : WF rows) (St : Stable rows c) (L : LMoves rows c moves) (hn : 0 < rows.length) {k0 : Nat} (hk : c[0]? = some k0) {order : List (List Nat)} {rows' : Rows S} (T : SubTab moves [k0] order rows') (w : List (Act S)) :
    IsRun rows' w ↔ IsRun rows w := by
  obtain ⟨h1, h2⟩ := least_walk W St L hn hk T w.reverse w (by simp)
  constructor
  · rintro ⟨i, hi⟩
    obtain ⟨s, k, h3, _⟩ := h1 i hi
    exact ⟨s, h3⟩
  · rintro ⟨s, hs⟩
    cases q : walkT rows' 0 w with
    | some i => exact ⟨i, q⟩
    | none => rw [h2 q] at hs; cases hs
end
end PM
/-! Refining classes; families of sets; accepted tables. -/
namespace PM
variable {S : Type} [DecidableEq S]

/-! ### refining -/
structure Refd (rows : Rows S) (c f : List Nat) : Prop where
  len : f.length = rows.length
  lt : ∀ x ∈ f, x < f.length
  eq : ∀ (i j : Nat) (ri rj : Row S), rows[i]? = some ri → rows[j]? = some rj → (f[i]? = f[j]? ↔ (c[i]? = c[j]? ∧ sign c ri = sign c rj))
def IsCard (l : List Nat) (n : Nat) : Prop := ∃ d : List Nat, d.Nodup ∧ (∀ x, x ∈ d ↔ x ∈ l) ∧ d.length = n
theorem IsCard.le {l : List Nat} {n : Nat} (h : IsCard l n) : n ≤ l.length := by
  obtain ⟨d, h1, h2, h3⟩ := h
  rw [← h3]
  exact nodup_sub h1 fun x hx => (h2 x).mp hx
section
variable {rows : Rows S} {c f : List Nat}
/-- the class ahead, of a class behind -/
def gOf (c f : List Nat) (v : Nat) : Nat := c.getD (f.idxOf v) 0
theorem gOf_at (hc : c.length = rows.length) (R : Refd rows c f) {i v : Nat} (h : f[i]? = some v) : c[i]? = some (gOf c f v) := by
  have hi : i < f.length := (List.getElem?_eq_some_iff.mp h).1
  have hm : v ∈ f := List.mem_of_getElem? h
  have hk : f.idxOf v < f.length := List.idxOf_lt_length_of_mem hm
  have hv : f[f.idxOf v]? = some v := by
    rw [List.getElem?_eq_getElem hk]
    congr 1
    exact List.getElem_idxOf hk
  have hir : i < rows.length := by rw [← R.len]; exact hi
  have hkr : f.idxOf v < rows.length := by rw [← R.len]; exact hk
  have e := ((R.eq i (f.idxOf v) rows[i] rows[f.idxOf v] (List.getElem?_eq_getElem hir) (List.getElem?_eq_getElem hkr)).mp (h.trans hv.symm)).1
  rw [e]
  have hkc : f.idxOf v < c.length := by rw [hc]; exact hkr
  unfold gOf
  simp [List.getD, hkc]
theorem card_mono (hc : c.length = rows.length) (R : Refd rows c f) {m n : Nat} (h1 : IsCard c m) (h2 : IsCard f n) : m ≤ n := by
  obtain ⟨d1, a1, a2, a3⟩ := h1
  obtain ⟨d2, b1, b2, b3⟩ := h2
  rw [← a3, ← b3, ← List.length_map (gOf c f) (as := d2)]
  refine nodup_sub a1 fun x hx => ?_
  obtain ⟨k, hk⟩ := List.getElem?_of_mem ((a2 x).mp hx)
  have hkl : k < f.length := by rw [R.len, ← hc]; exact (List.getElem?_eq_some_iff.mp hk).1
  have hf : f[k]? = some f[k] := List.getElem?_eq_getElem hkl
  have e := gOf_at hc R hf
  rw [hk] at e
  exact List.mem_map.mpr ⟨f[k], (b2 _).mpr (List.getElem_mem hkl), (Option.some.inj e).symm⟩
/-- where the number of classes stays, the classes stay -/
theorem card_same (hc : c.length = rows.length) (R : Refd rows c f) {n : Nat} (h1 : IsCard c n) (h2 : IsCard f n) {i j : Nat} (hi : i < rows.length) (hj : j < rows.length) (e : c[i]? = c[j]?) : f[i]? = f[j]? := by
  have hil : i < f.length := by rw [R.len]; exact hi
  have hjl : j < f.length := by rw [R.len]; exact hj
  have fi : f[i]? = some f[i] := List.getElem?_eq_getElem hil
  have fj : f[j]? = some f[j] := List.getElem?_eq_getElem hjl
  by_cases q : f[i] = f[j]
  · rw [fi, fj, q]
  · exfalso
    obtain ⟨d1, a1, a2, a3⟩ := h1
    obtain ⟨d2, b1, b2, b3⟩ := h2
    have hm : f[j] ∈ d2 := (b2 _).mpr (List.getElem_mem hjl)
    have key : d1.length ≤ ((d2.erase f[j]).map (gOf c f)).length := nodup_sub a1 fun x hx => by
      obtain ⟨k, hk⟩ := List.getElem?_of_mem ((a2 x).mp hx)
      have hkl : k < f.length := by rw [R.len, ← hc]; exact (List.getElem?_eq_some_iff.mp hk).1
      have hf : f[k]? = some f[k] := List.getElem?_eq_getElem hkl
      by_cases z : f[k] = f[j]
      · -- x is also the class of i
        have e1 := gOf_at hc R fi
        have e2 := gOf_at hc R fj
        have e3 := gOf_at hc R hf
        rw [hk, z] at e3
        rw [e, e2] at e1
        have e4 : gOf c f f[i] = x := (Option.some.inj e1).symm.trans (Option.some.inj e3).symm
        exact List.mem_map.mpr ⟨f[i], (List.mem_erase_of_ne q).mpr ((b2 _).mpr (List.getElem_mem hil)), e4⟩
      · have e3 := gOf_at hc R hf
        rw [hk] at e3
        exact List.mem_map.mpr ⟨f[k], (List.mem_erase_of_ne z).mpr ((b2 _).mpr (List.getElem_mem hkl)), (Option.some.inj e3).symm⟩
    rw [List.length_map, List.length_erase_of_mem hm] at key
    have pos : 0 < d2.length := List.length_pos_of_mem hm
    omega
theorem stable_of (W : WF rows) (hc : c.length = rows.length) (R : Refd rows c f) {n : Nat} (h1 : IsCard c n) (h2 : IsCard f n) : Stable rows f := by
  refine ⟨R.len, R.lt, fun i j ri rj e hri hrj => ?_⟩
  obtain ⟨e1, e2⟩ := (R.eq i j ri rj hri hrj).mp e
  have hgi : ∀ p ∈ ri, p.2 < rows.length := W.lt ri (List.mem_of_getElem? hri)
  have hgj : ∀ p ∈ rj, p.2 < rows.length := W.lt rj (List.mem_of_getElem? hrj)
  clear hri hrj e e1
  induction ri generalizing rj with
  | nil =>
    cases rj with
    | nil => rfl
    | cons b rj => cases e2
  | cons a ri ih =>
    cases rj with
    | nil => cases e2
    | cons b rj =>
      have e2 : (a.1, c.getD a.2 0) :: sign c ri = (b.1, c.getD b.2 0) :: sign c rj := e2
      obtain ⟨e3, e4⟩ := List.cons.inj e2
      have ha := hgi a List.mem_cons_self
      have hb := hgj b List.mem_cons_self
      have e5 : c.getD a.2 0 = c.getD b.2 0 := congrArg Prod.snd e3
      have e6 : c[a.2]? = c[b.2]? := by
        have p1 : a.2 < c.length := by rw [hc]; exact ha
        have p2 : b.2 < c.length := by rw [hc]; exact hb
        simp only [List.getD, List.getElem?_eq_getElem p1, List.getElem?_eq_getElem p2, Option.getD_some] at e5
        rw [List.getElem?_eq_getElem p1, List.getElem?_eq_getElem p2, e5]
      have e7 := card_same hc R h1 h2 ha hb e6
      show (a.1, f.getD a.2 0) :: sign f ri = (b.1, f.getD b.2 0) :: sign f rj
      have e8 : f.getD a.2 0 = f.getD b.2 0 := by
        simp only [List.getD, e7]
      rw [e8, congrArg Prod.fst e3]
      exact congrArg (_ :: ·) (ih rj e4 (fun p hp => hgi p (List.mem_cons_of_mem _ hp)) fun p hp => hgj p (List.mem_cons_of_mem _ hp))
end

/-! ### families -/
structure Fam (moves : Moves S) (start : List Nat) (F : List (List Nat)) : Prop where
  start : start ∈ F
  closed : ∀ N ∈ F, ∀ a G, IsGroup moves N a G → G ∈ F
theorem classes_fam {rows : Rows S} {c : List Nat} {moves : Moves S} (W : WF rows) (St : Stable rows c) (L : LMoves rows c moves) (hn : 0 < rows.length) {k : Nat} (hk : c[0]? = some k) :
    ∃ F, Fam moves [k] F ∧ F.length ≤ c.length := by
  refine ⟨(List.range rows.length).map fun s => [c.getD s 0], ⟨?_, ?_⟩, ?_⟩
  · refine List.mem_map.mpr ⟨0, List.mem_range.mpr hn, ?_⟩
    simp [List.getD, hk]
  · intro N hN a G g
    obtain ⟨s, hs, rfl⟩ := List.mem_map.mp hN
    have hs : s < rows.length := List.mem_range.mp hs
    obtain ⟨t, k', ht, hk', rfl⟩ := classSets_closed W St L ⟨s, _, hs, c_at St hs, rfl⟩ g
    refine List.mem_map.mpr ⟨t, List.mem_range.mpr ht, ?_⟩
    simp [List.getD, hk']
  · rw [List.length_map, List.length_range, St.len]
    exact Nat.le_refl _

section
open Classical
noncomputable def setL (n : Nat) (P : Nat → Prop) : List Nat := (List.range n).filter fun x => decide (P x)
theorem setL_asc (n : Nat) (P : Nat → Prop) : Asc (setL n P) := List.Pairwise.filter _ List.pairwise_lt_range
theorem setL_mem {n : Nat} {P : Nat → Prop} {x : Nat} : x ∈ setL n P ↔ x < n ∧ P x := by
  unfold setL
  rw [List.mem_filter, List.mem_range]
  simp
theorem setL_eq {n : Nat} {P : Nat → Prop} {G : List Nat} (h : Asc G) (hm : ∀ y, y ∈ G ↔ y < n ∧ P y) : G = setL n P := asc_ext h (setL_asc n P) fun x => by rw [hm, setL_mem]
def subs {α : Type} : List α → List (List α)
  | [] => [[]]
  | a :: l => subs l ++ (subs l).map (a :: ·)
theorem subs_len {α : Type} : ∀ l : List α, (subs l).length = 2 ^ l.length
  | [] => rfl
  | a :: l => by
    show (subs l ++ (subs l).map (a :: ·)).length = 2 ^ (l.length + 1)
    rw [List.length_append, List.length_map, subs_len l, Nat.pow_succ]
    omega
theorem subs_filter {α : Type} (p : α → Bool) : ∀ l : List α, l.filter p ∈ subs l
  | [] => List.mem_singleton.mpr rfl
  | a :: l => by
    show (a :: l).filter p ∈ subs l ++ (subs l).map (a :: ·)
    cases h : p a with
    | true =>
      rw [List.filter_cons_of_pos h]
      exact List.mem_append_right _ (List.mem_map.mpr ⟨_, subs_filter p l, rfl⟩)
    | false =>
      rw [List.filter_cons_of_neg (by simp [h])]
      exact List.mem_append_left _ (subs_filter p l)
theorem flat_len {α β : Type} (f : α → List β) (B : Nat) : ∀ l : List α, (∀ a ∈ l, (f a).length ≤ B) → (l.flatMap f).length ≤ l.length * B
  | [], _ => by simp
  | a :: l, h => by
    rw [List.flatMap_cons, List.length_append, List.length_cons, Nat.add_mul]
    have h1 := h a List.mem_cons_self
    have h2 := flat_len f B l fun b hb => h b (List.mem_cons_of_mem _ hb)
    omega

/-- the places where an action can be done -/
def sources (rows : Rows S) (a : Act S) : List Nat := (List.range rows.length).filter fun s => (stepT rows s a).isSome
theorem sources_mem {rows : Rows S} {a : Act S} {s : Nat} : s ∈ sources rows a ↔ ∃ t, stepT rows s a = some t := by
  unfold sources
  rw [List.mem_filter, List.mem_range, Option.isSome_iff_exists]
  constructor
  · rintro ⟨_, h⟩; exact h
  · rintro ⟨t, ht⟩
    obtain ⟨row, h1, _⟩ := stepT_some ht
    exact ⟨(List.getElem?_eq_some_iff.mp h1).1, t, ht⟩
/-- A PARTY'S SETS ARE FEW: few places for each action, few edges (L has them all) -/
theorem few_fam {rows : Rows S} {p : S} {reach : List (List Nat)} (W : WF rows) (R : IsReach rows p reach) {start : List Nat} (hn : 0 < rows.length) (hs : reach[0]? = some start) {m : Nat} (hm : ∀ a, (sources rows a).length ≤ m + 1)
    {L : List (Nat × Act S)} (hL : ∀ s a t, stepT rows s a = some t → (s, a) ∈ L) :
    ∃ F, Fam (movesOf rows p reach) start F ∧ F.length ≤ 1 + L.length * 2 ^ m := by
  refine ⟨start :: (L.filter fun q => (stepT rows q.1 q.2).isSome).flatMap fun q => (subs ((sources rows q.2).filter fun x => decide (x ≠ q.1))).map fun X => setL rows.length fun y => ∃ x ∈ q.1 :: X, ∃ t, stepT rows x q.2 = some t ∧ Reach rows p t y, ⟨List.mem_cons_self, ?_⟩, ?_⟩
  · intro N hN a G g
    refine List.mem_cons_of_mem _ ?_
    obtain ⟨hc, s, hsN, t, ht⟩ := (hasMove_iff W).mp g.has
    refine List.mem_flatMap.mpr ⟨(s, a), List.mem_filter.mpr ⟨hL s a t ht, by rw [ht]; rfl⟩, List.mem_map.mpr ⟨((sources rows a).filter fun x => decide (x ≠ s)).filter fun x => decide (x ∈ N), subs_filter _ _, (setL_eq g.asc fun y => ?_).symm⟩⟩
    rw [g.mem, inGroup_iff W R]
    constructor
    · rintro ⟨_, x, hx, u, hu, hy⟩
      obtain ⟨r, hr, _⟩ := id hy
      refine ⟨W.walk hn (W.goal hu) hr, x, ?_, u, hu, hy⟩
      by_cases e : x = s
      · subst e
        exact List.mem_cons_self
      · refine List.mem_cons_of_mem _ (List.mem_filter.mpr ⟨List.mem_filter.mpr ⟨sources_mem.mpr ⟨u, hu⟩, by simp [e]⟩, by simp [hx]⟩)
    · rintro ⟨_, x, hx, u, hu, hy⟩
      refine ⟨hc, x, ?_, u, hu, hy⟩
      rcases List.mem_cons.mp hx with e | hx
      · exact e ▸ hsN
      · have := (List.mem_filter.mp hx).2
        simpa using this
  · rw [List.length_cons, Nat.add_comm]
    refine Nat.add_le_add_left (Nat.le_trans (flat_len _ (2 ^ m) _ fun q hq => ?_) (Nat.mul_le_mul_right _ (List.length_filter_le _ _))) 1
    rw [List.length_map, subs_len]
    refine Nat.pow_le_pow_right (by decide) ?_
    -- the place itself is left out
    have hst : q.1 ∈ sources rows q.2 := sources_mem.mpr (Option.isSome_iff_exists.mp (List.mem_filter.mp hq).2)
    have lt : ((sources rows q.2).filter fun x => decide (x ≠ q.1)).length < (sources rows q.2).length := by
      rw [List.length_filter_lt_length_iff_exists]
      exact ⟨q.1, hst, by simp⟩
    have := hm q.2
    omega
end
end PM
/-! The three makes of a table are accepted. -/
namespace PM
variable {S : Type} [DecidableEq S]

/-! ### kind 0: every action concerns every party -/
theorem view_all {w : List (Act S)} {p : S} (h : ∀ a ∈ w, cc a p = true) : view w p = w := List.filter_eq_self.mpr h
theorem acc_all {rows : Rows S} (h : ∀ row ∈ rows, ∀ e ∈ row, ∀ row' ∈ rows, ∀ e' ∈ row', cc e'.1 e.1.1 = true) : Acc rows := by
  intro u a hu h1 _
  obtain ⟨r, hr, hv⟩ := h1
  obtain ⟨s, t, hs, ht⟩ := IsRun.snoc.mp hr
  obtain ⟨row, q1, q2⟩ := stepT_some ht
  have all : ∀ {w : List (Act S)}, IsRun rows w → view w a.1 = w := fun {w} ⟨t, hw⟩ => view_all fun b hb => by
    obtain ⟨row', m1, g, m2⟩ := run_step_mem hw b hb
    exact h row (List.mem_of_getElem? q1) _ (stepR_mem q2) row' m1 _ m2
  have e : r = u := by
    rw [← all hr.left, ← all hu, hv]
  rw [← e]
  exact hr

/-! ### kind 1: one beside another -/
structure Beside (A B rows : Rows S) (PA : S → Bool) : Prop where
  step : ∀ k j a t, k < A.length → j < B.length → (stepT rows (k * B.length + j) a = some t ↔ (∃ k', stepT A k a = some k' ∧ t = k' * B.length + j) ∨ (∃ j', stepT B j a = some j' ∧ t = k * B.length + j'))
  inA : ∀ k a t, stepT A k a = some t → PA a.1 = true ∧ PA a.2.1 = true
  inB : ∀ j a t, stepT B j a = some t → PA a.1 = false ∧ PA a.2.1 = false
  allA : ∀ k a t, stepT A k a = some t → ∀ k' a' t', stepT A k' a' = some t' → cc a' a.1 = true
  allB : ∀ k a t, stepT B k a = some t → ∀ k' a' t', stepT B k' a' = some t' → cc a' a.1 = true
section
variable {A B rows : Rows S} {PA : S → Bool}
theorem Beside.walk (X : Beside A B rows PA) (WA : WF A) (WB : WF B) (hA : 0 < A.length) (hB : 0 < B.length) (v : List (Act S)) :
    ∀ w, w = v.reverse → ∀ s, walkT rows 0 w = some s → ∃ k j, k < A.length ∧ j < B.length ∧ s = k * B.length + j ∧ walkT A 0 (w.filter fun a => PA a.1) = some k ∧ walkT B 0 (w.filter fun a => !PA a.1) = some j ∧
      ∀ a ∈ w, (∃ k t, stepT A k a = some t) ∨ (∃ k t, stepT B k a = some t) := by
  induction v with
  | nil =>
    intro w e s h
    have e : w = [] := e
    subst e
    have : 0 = s := Option.some.inj h
    subst this
    exact ⟨0, 0, hA, hB, by simp, rfl, rfl, fun a ha => absurd ha (by simp)⟩
  | cons a v ih =>
    intro w e s h
    have e : w = v.reverse ++ [a] := by rw [e]; simp
    subst e
    rw [walkT_snoc] at h
    cases q : walkT rows 0 v.reverse with
    | none => rw [q] at h; cases h
    | some s0 =>
      rw [q] at h
      have h : stepT rows s0 a = some s := h
      obtain ⟨k, j, hk, hj, rfl, h1, h2, h3⟩ := ih v.reverse rfl s0 q
      rw [List.filter_append, List.filter_append]
      rcases (X.step k j a s hk hj).mp h with ⟨k', hk', rfl⟩ | ⟨j', hj', rfl⟩
      · have pa := (X.inA k a k' hk').1
        refine ⟨k', j, WA.goal hk', hj, rfl, ?_, ?_, fun b hb => ?_⟩
        · rw [List.filter_cons_of_pos (by simpa using pa), List.filter_nil, walkT_snoc, h1]
          exact hk'
        · rw [List.filter_cons_of_neg (by simp [pa]), List.filter_nil, List.append_nil]
          exact h2
        · rcases List.mem_append.mp hb with hb | hb
          · exact h3 b hb
          · have : b = a := by simpa using hb
            subst this
            exact .inl ⟨k, k', hk'⟩
      · have pa := (X.inB j a j' hj').1
        refine ⟨k, j', hk, WB.goal hj', rfl, ?_, ?_, fun b hb => ?_⟩
        · rw [List.filter_cons_of_neg (by simp [pa]), List.filter_nil, List.append_nil]
          exact h1
        · rw [List.filter_cons_of_pos (by simp [pa]), List.filter_nil, walkT_snoc, h2]
          exact hj'
        · rcases List.mem_append.mp hb with hb | hb
          · exact h3 b hb
          · have : b = a := by simpa using hb
            subst this
            exact .inr ⟨j, j', hj'⟩
theorem Beside.run (X : Beside A B rows PA) (WA : WF A) (WB : WF B) (hA : 0 < A.length) (hB : 0 < B.length) {w : List (Act S)} {s : Nat} (h : walkT rows 0 w = some s) :
    ∃ k j, k < A.length ∧ j < B.length ∧ s = k * B.length + j ∧ walkT A 0 (w.filter fun a => PA a.1) = some k ∧ walkT B 0 (w.filter fun a => !PA a.1) = some j ∧
      ∀ a ∈ w, (∃ k t, stepT A k a = some t) ∨ (∃ k t, stepT B k a = some t) := X.walk WA WB hA hB w.reverse w (by simp) s h
theorem place_inj {n k j k' j' : Nat} (hj : j < n) (hj' : j' < n) (e : k * n + j = k' * n + j') : k = k' ∧ j = j' := by
  have h1 : (k * n + j) / n = k := by
    rw [Nat.mul_comm, Nat.mul_add_div (by omega), Nat.div_eq_of_lt hj]
    omega
  have h2 : (k' * n + j') / n = k' := by
    rw [Nat.mul_comm, Nat.mul_add_div (by omega), Nat.div_eq_of_lt hj']
    omega
  rw [e, h2] at h1
  subst h1
  exact ⟨rfl, by omega⟩
theorem Beside.acc (X : Beside A B rows PA) (WA : WF A) (WB : WF B) (hA : 0 < A.length) (hB : 0 < B.length) : Acc rows := by
  intro u a hu h1 _
  obtain ⟨r, hr, hv⟩ := h1
  obtain ⟨s, t, hs, ht⟩ := IsRun.snoc.mp hr
  obtain ⟨su, hsu⟩ := hu
  obtain ⟨k, j, hk, hj, rfl, a1, a2, a3⟩ := X.run WA WB hA hB hs
  obtain ⟨ku, ju, hku, hju, rfl, b1, b2, b3⟩ := X.run WA WB hA hB hsu
  rcases (X.step k j a t hk hj).mp ht with ⟨k', hk', rfl⟩ | ⟨j', hj', rfl⟩
  · have pa := X.inA k a k' hk'
    have key : ∀ {w : List (Act S)}, (∀ b ∈ w, (∃ k t, stepT A k b = some t) ∨ (∃ k t, stepT B k b = some t)) → view w a.1 = w.filter fun b => PA b.1 := fun {w} hw => List.filter_congr fun b hb => by
      rcases hw b hb with ⟨k1, t1, e⟩ | ⟨k1, t1, e⟩
      · rw [X.allA k a k' hk' k1 b t1 e, (X.inA k1 b t1 e).1]
      · have q := X.inB k1 b t1 e
        rw [q.1]
        have n1 : b.1 ≠ a.1 := fun z => by rw [z, pa.1] at q; exact absurd q.1 (by decide)
        have n2 : b.2.1 ≠ a.1 := fun z => by rw [z, pa.1] at q; exact absurd q.2 (by decide)
        simp [cc, n1, n2]
    rw [key a3, key b3] at hv
    rw [hv] at a1
    rw [a1] at b1
    have e : k = ku := Option.some.inj b1
    subst e
    exact IsRun.snoc.mpr ⟨_, _, hsu, (X.step k ju a _ hk hju).mpr (.inl ⟨k', hk', rfl⟩)⟩
  · have pa := X.inB j a j' hj'
    have key : ∀ {w : List (Act S)}, (∀ b ∈ w, (∃ k t, stepT A k b = some t) ∨ (∃ k t, stepT B k b = some t)) → view w a.1 = w.filter fun b => !PA b.1 := fun {w} hw => List.filter_congr fun b hb => by
      rcases hw b hb with ⟨k1, t1, e⟩ | ⟨k1, t1, e⟩
      · have q := X.inA k1 b t1 e
        rw [q.1]
        have n1 : b.1 ≠ a.1 := fun z => by rw [z, pa.1] at q; exact absurd q.1 (by decide)
        have n2 : b.2.1 ≠ a.1 := fun z => by rw [z, pa.1] at q; exact absurd q.2 (by decide)
        simp [cc, n1, n2]
      · rw [X.allB j a j' hj' k1 b t1 e, (X.inB k1 b t1 e).1]
        rfl
    rw [key a3, key b3] at hv
    rw [hv] at a2
    rw [a2] at b2
    have e : j = ju := Option.some.inj b2
    subst e
    exact IsRun.snoc.mpr ⟨_, _, hsu, (X.step ku j a _ hku hj).mpr (.inr ⟨j', hj', rfl⟩)⟩

/-! its families: {k} x R, R x {j} -/
theorem Beside.unseenA (X : Beside A B rows PA) (WA : WF A) (WB : WF B) {p : S} (hp : PA p = true) (hall : ∀ k a t, stepT A k a = some t → cc a p = true) {k j : Nat} (hk : k < A.length) (hj : j < B.length) {y : Nat} :
    Reach rows p (k * B.length + j) y ↔ ∃ j', j' < B.length ∧ y = k * B.length + j' ∧ ∃ r, walkT B j r = some j' := by
  constructor
  · intro h
    refine Reach.closed (P := fun y => ∃ j', j' < B.length ∧ y = k * B.length + j' ∧ ∃ r, walkT B j r = some j') ?_ ⟨j, hj, rfl, [], rfl⟩ h
    rintro t a u ⟨j', hj', rfl, r, hr⟩ e hc
    rcases (X.step k j' a u hk hj').mp e with ⟨k2, h2, rfl⟩ | ⟨j2, h2, rfl⟩
    · rw [hall k a k2 h2] at hc
      cases hc
    · refine ⟨j2, WB.goal h2, rfl, r ++ [a], ?_⟩
      rw [walkT_snoc, hr]
      exact h2
  · rintro ⟨j', hj', rfl, r, hr⟩
    have go : ∀ (r : List (Act S)) (j : Nat), j < B.length → walkT B j r = some j' → Reach rows p (k * B.length + j) (k * B.length + j') := by
      intro r
      induction r with
      | nil =>
        intro j hj h
        have : j = j' := Option.some.inj h
        subst this
        exact Reach.refl rows p _
      | cons a r ih =>
        intro j hj h
        have h : (stepT B j a).bind (fun t => walkT B t r) = some j' := h
        cases q : stepT B j a with
        | none => rw [q] at h; cases h
        | some j1 =>
          rw [q] at h
          obtain ⟨r2, h1, h2⟩ := ih j1 (WB.goal q) h
          have hc : cc a p = false := by
            have z := X.inB j a j1 q
            have n1 : a.1 ≠ p := fun e => by rw [e, hp] at z; exact absurd z.1 (by decide)
            have n2 : a.2.1 ≠ p := fun e => by rw [e, hp] at z; exact absurd z.2 (by decide)
            simp [cc, n1, n2]
          refine ⟨a :: r2, ?_, ?_⟩
          · show (stepT rows (k * B.length + j) a).bind (fun t => walkT rows t r2) = some _
            rw [(X.step k j a (k * B.length + j1) hk hj).mpr (.inr ⟨j1, q, rfl⟩)]
            exact h1
          · have : view (a :: r2) p = view r2 p := by simp [view, hc]
            rw [this]
            exact h2
    exact go r j hj hr
theorem Beside.unseenB (X : Beside A B rows PA) (WA : WF A) (WB : WF B) {p : S} (hp : PA p = false) (hall : ∀ k a t, stepT B k a = some t → cc a p = true) {k j : Nat} (hk : k < A.length) (hj : j < B.length) {y : Nat} :
    Reach rows p (k * B.length + j) y ↔ ∃ k', k' < A.length ∧ y = k' * B.length + j ∧ ∃ r, walkT A k r = some k' := by
  constructor
  · intro h
    refine Reach.closed (P := fun y => ∃ k', k' < A.length ∧ y = k' * B.length + j ∧ ∃ r, walkT A k r = some k') ?_ ⟨k, hk, rfl, [], rfl⟩ h
    rintro t a u ⟨k', hk', rfl, r, hr⟩ e hc
    rcases (X.step k' j a u hk' hj).mp e with ⟨k2, h2, rfl⟩ | ⟨j2, h2, rfl⟩
    · refine ⟨k2, WA.goal h2, rfl, r ++ [a], ?_⟩
      rw [walkT_snoc, hr]
      exact h2
    · rw [hall j a j2 h2] at hc
      cases hc
  · rintro ⟨k', hk', rfl, r, hr⟩
    have go : ∀ (r : List (Act S)) (k : Nat), k < A.length → walkT A k r = some k' → Reach rows p (k * B.length + j) (k' * B.length + j) := by
      intro r
      induction r with
      | nil =>
        intro k hk h
        have : k = k' := Option.some.inj h
        subst this
        exact Reach.refl rows p _
      | cons a r ih =>
        intro k hk h
        have h : (stepT A k a).bind (fun t => walkT A t r) = some k' := h
        cases q : stepT A k a with
        | none => rw [q] at h; cases h
        | some k1 =>
          rw [q] at h
          obtain ⟨r2, h1, h2⟩ := ih k1 (WA.goal q) h
          have hc : cc a p = false := by
            have z := X.inA k a k1 q
            have n1 : a.1 ≠ p := fun e => by rw [e, hp] at z; exact absurd z.1 (by decide)
            have n2 : a.2.1 ≠ p := fun e => by rw [e, hp] at z; exact absurd z.2 (by decide)
            simp [cc, n1, n2]
          refine ⟨a :: r2, ?_, ?_⟩
          · show (stepT rows (k * B.length + j) a).bind (fun t => walkT rows t r2) = some _
            rw [(X.step k j a (k1 * B.length + j) hk hj).mpr (.inl ⟨k1, q, rfl⟩)]
            exact h1
          · have : view (a :: r2) p = view r2 p := by simp [view, hc]
            rw [this]
            exact h2
    exact go r k hk hr
theorem Beside.famA (X : Beside A B rows PA) (WA : WF A) (WB : WF B) (W : WF rows) (hA : 0 < A.length) (hB : 0 < B.length) (hlen : rows.length = A.length * B.length) {p : S} (hp : PA p = true) (hall : ∀ k a t, stepT A k a = some t → cc a p = true)
    {reach : List (List Nat)} (R : IsReach rows p reach) {start : List Nat} (hs : reach[0]? = some start) : ∃ F, Fam (movesOf rows p reach) start F ∧ F.length ≤ A.length := by
  let rB : Nat → Prop := fun j => ∃ r, walkT B 0 r = some j
  have lt : ∀ {k j}, k < A.length → j < B.length → k * B.length + j < rows.length := fun {k j} hk hj => by
    rw [hlen]
    calc k * B.length + j < k * B.length + B.length := Nat.add_lt_add_left hj _
      _ = (k + 1) * B.length := by rw [Nat.add_mul, Nat.one_mul]
      _ ≤ A.length * B.length := Nat.mul_le_mul_right _ hk
  let FS : Nat → List Nat := fun k => setL rows.length fun y => ∃ j, j < B.length ∧ y = k * B.length + j ∧ rB j
  refine ⟨(List.range A.length).map FS, ⟨?_, ?_⟩, by simp⟩
  · refine List.mem_map.mpr ⟨0, List.mem_range.mpr hA, ?_⟩
    obtain ⟨h1, h2⟩ := R.2 0 start hs
    refine (setL_eq h1 fun y => ?_).symm
    rw [h2]
    have z := X.unseenA WA WB hp hall hA hB (y := y)
    have e0 : Reach rows p 0 y ↔ Reach rows p (0 * B.length + 0) y := by rw [Nat.zero_mul]
    rw [e0, z]
    constructor
    · rintro ⟨j', hj', rfl, r, hr⟩
      exact ⟨lt hA hj', j', hj', rfl, r, hr⟩
    · rintro ⟨_, j', hj', rfl, r, hr⟩
      exact ⟨j', hj', rfl, r, hr⟩
  · intro N hN a G g
    obtain ⟨k, hk, rfl⟩ := List.mem_map.mp hN
    have hk : k < A.length := List.mem_range.mp hk
    obtain ⟨hc, x, hx, t, ht⟩ := (hasMove_iff W).mp g.has
    obtain ⟨_, j, hj, rfl, hj0⟩ := setL_mem.mp hx
    have nB : ∀ {j j2}, stepT B j a = some j2 → False := fun {j j2} e => by
      have z := X.inB j a j2 e
      have n1 : a.1 ≠ p := fun e => by rw [e, hp] at z; exact absurd z.1 (by decide)
      have n2 : a.2.1 ≠ p := fun e => by rw [e, hp] at z; exact absurd z.2 (by decide)
      simp [cc, n1, n2] at hc
    rcases (X.step k j a t hk hj).mp ht with ⟨k', hk', rfl⟩ | ⟨j2, h2, _⟩
    · refine List.mem_map.mpr ⟨k', List.mem_range.mpr (WA.goal hk'), (setL_eq g.asc fun y => ?_).symm⟩
      rw [g.mem, inGroup_iff W R]
      constructor
      · rintro ⟨_, x, hx, u, hu, hy⟩
        obtain ⟨_, j1, hj1, rfl, r1, hr1⟩ := setL_mem.mp hx
        rcases (X.step k j1 a u hk hj1).mp hu with ⟨k2, h2, rfl⟩ | ⟨j2, h2, _⟩
        · rw [hk'] at h2
          cases h2
          obtain ⟨j3, hj3, rfl, r3, hr3⟩ := (X.unseenA WA WB hp hall (WA.goal hk') hj1).mp hy
          exact ⟨lt (WA.goal hk') hj3, j3, hj3, rfl, r1 ++ r3, by rw [walkT_append, hr1]; exact hr3⟩
        · exact (nB h2).elim
      · rintro ⟨_, j3, hj3, rfl, r3, hr3⟩
        refine ⟨hc, k * B.length + j3, setL_mem.mpr ⟨lt hk hj3, j3, hj3, rfl, r3, hr3⟩, k' * B.length + j3, (X.step k j3 a _ hk hj3).mpr (.inl ⟨k', hk', rfl⟩), Reach.refl rows p _⟩
    · exact (nB h2).elim
theorem Beside.famB (X : Beside A B rows PA) (WA : WF A) (WB : WF B) (W : WF rows) (hA : 0 < A.length) (hB : 0 < B.length) (hlen : rows.length = A.length * B.length) {p : S} (hp : PA p = false) (hall : ∀ k a t, stepT B k a = some t → cc a p = true)
    {reach : List (List Nat)} (R : IsReach rows p reach) {start : List Nat} (hs : reach[0]? = some start) : ∃ F, Fam (movesOf rows p reach) start F ∧ F.length ≤ B.length := by
  let rA : Nat → Prop := fun k => ∃ r, walkT A 0 r = some k
  have lt : ∀ {k j}, k < A.length → j < B.length → k * B.length + j < rows.length := fun {k j} hk hj => by
    rw [hlen]
    calc k * B.length + j < k * B.length + B.length := Nat.add_lt_add_left hj _
      _ = (k + 1) * B.length := by rw [Nat.add_mul, Nat.one_mul]
      _ ≤ A.length * B.length := Nat.mul_le_mul_right _ hk
  let FS : Nat → List Nat := fun j => setL rows.length fun y => ∃ k, k < A.length ∧ y = k * B.length + j ∧ rA k
  refine ⟨(List.range B.length).map FS, ⟨?_, ?_⟩, by simp⟩
  · refine List.mem_map.mpr ⟨0, List.mem_range.mpr hB, ?_⟩
    obtain ⟨h1, h2⟩ := R.2 0 start hs
    refine (setL_eq h1 fun y => ?_).symm
    rw [h2]
    have z := X.unseenB WA WB hp hall hA hB (y := y)
    have e0 : Reach rows p 0 y ↔ Reach rows p (0 * B.length + 0) y := by rw [Nat.zero_mul]
    rw [e0, z]
    constructor
    · rintro ⟨k', hk', rfl, r, hr⟩
      exact ⟨lt hk' hB, k', hk', rfl, r, hr⟩
    · rintro ⟨_, k', hk', rfl, r, hr⟩
      exact ⟨k', hk', rfl, r, hr⟩
  · intro N hN a G g
    obtain ⟨j, hj, rfl⟩ := List.mem_map.mp hN
    have hj : j < B.length := List.mem_range.mp hj
    obtain ⟨hc, x, hx, t, ht⟩ := (hasMove_iff W).mp g.has
    obtain ⟨_, k, hk, rfl, hk0⟩ := setL_mem.mp hx
    have nA : ∀ {k k2}, stepT A k a = some k2 → False := fun {k k2} e => by
      have z := X.inA k a k2 e
      have n1 : a.1 ≠ p := fun e => by rw [e, hp] at z; exact absurd z.1 (by decide)
      have n2 : a.2.1 ≠ p := fun e => by rw [e, hp] at z; exact absurd z.2 (by decide)
      simp [cc, n1, n2] at hc
    rcases (X.step k j a t hk hj).mp ht with ⟨k2, h2, _⟩ | ⟨j', hj', rfl⟩
    · exact (nA h2).elim
    · refine List.mem_map.mpr ⟨j', List.mem_range.mpr (WB.goal hj'), (setL_eq g.asc fun y => ?_).symm⟩
      rw [g.mem, inGroup_iff W R]
      constructor
      · rintro ⟨_, x, hx, u, hu, hy⟩
        obtain ⟨_, k1, hk1, rfl, r1, hr1⟩ := setL_mem.mp hx
        rcases (X.step k1 j a u hk1 hj).mp hu with ⟨k2, h2, _⟩ | ⟨j2, h2, rfl⟩
        · exact (nA h2).elim
        · rw [hj'] at h2
          cases h2
          obtain ⟨k3, hk3, rfl, r3, hr3⟩ := (X.unseenB WA WB hp hall hk1 (WB.goal hj')).mp hy
          exact ⟨lt hk3 (WB.goal hj'), k3, hk3, rfl, r1 ++ r3, by rw [walkT_append, hr1]; exact hr3⟩
      · rintro ⟨_, k3, hk3, rfl, r3, hr3⟩
        refine ⟨hc, k3 * B.length + j, setL_mem.mpr ⟨lt hk3 hj, k3, hk3, rfl, r3, hr3⟩, k3 * B.length + j', (X.step k3 j a _ hk3 hj).mpr (.inr ⟨j', hj', rfl⟩), Reach.refl rows p _⟩
end

/-! kind 0: its sets are singletons -/
theorem all_fam {rows : Rows S} (W : WF rows) (hn : 0 < rows.length) {p : S} (hall : ∀ row ∈ rows, ∀ e ∈ row, cc e.1 p = true) {reach : List (List Nat)} (R : IsReach rows p reach) {start : List Nat} (hs : reach[0]? = some start) :
    ∃ F, Fam (movesOf rows p reach) start F ∧ F.length ≤ rows.length := by
  have sing : ∀ {s y}, Reach rows p s y ↔ y = s := fun {s y} => by
    constructor
    · intro h
      refine Reach.closed (P := fun y => y = s) (fun t a u h1 h2 h3 => ?_) rfl h
      obtain ⟨row, q1, q2⟩ := stepT_some h2
      rw [hall row (List.mem_of_getElem? q1) _ (stepR_mem q2)] at h3
      cases h3
    · rintro rfl
      exact Reach.refl rows p _
  refine ⟨(List.range rows.length).map fun s => [s], ⟨?_, ?_⟩, by simp⟩
  · obtain ⟨h1, h2⟩ := R.2 0 start hs
    refine List.mem_map.mpr ⟨0, List.mem_range.mpr hn, asc_ext (List.pairwise_singleton _ _) h1 fun y => ?_⟩
    rw [h2, sing]
    simp
  · intro N hN a G g
    obtain ⟨s, hs', rfl⟩ := List.mem_map.mp hN
    obtain ⟨hc, x, hx, t, ht⟩ := (hasMove_iff W).mp g.has
    have hx : x = s := by simpa using hx
    subst hx
    refine List.mem_map.mpr ⟨t, List.mem_range.mpr (W.goal ht), asc_ext (List.pairwise_singleton _ _) g.asc fun y => ?_⟩
    rw [g.mem, inGroup_iff W R]
    constructor
    · intro hy
      have hy : y = t := by simpa using hy
      subst hy
      exact ⟨hc, x, List.mem_singleton.mpr rfl, y, ht, Reach.refl rows p _⟩
    · rintro ⟨_, x', hx', u, hu, hy⟩
      have hx' : x' = x := by simpa using hx'
      subst hx'
      rw [ht] at hu
      cases hu
      simpa using sing.mp hy
end PM
/-! A conducted table is accepted. -/
namespace PM
variable {S : Type} [DecidableEq S]

structure Cond (n : Nat) (E : List (Nat × Act S × Nat)) (k : S) (lab : S → S → S) (rows : Rows S) : Prop where
  pos : 0 < n
  len : rows.length = n + 2 * E.length
  orig : ∀ (s : Nat) (a : Act S) (t : Nat), s < n → (stepT rows s a = some t ↔ ∃ (i : Nat) (b : Act S) (g : Nat), E[i]? = some (s, b, g) ∧ a = (k, b.1, lab b.2.2 b.2.1) ∧ t = n + 2 * i)
  mid : ∀ (i s : Nat) (b : Act S) (g : Nat), E[i]? = some (s, b, g) → ∀ (a : Act S) (t : Nat), (stepT rows (n + 2 * i) a = some t ↔ a = b ∧ t = n + 2 * i + 1)
  fin : ∀ (i s : Nat) (b : Act S) (g : Nat), E[i]? = some (s, b, g) → ∀ (a : Act S) (t : Nat), (stepT rows (n + 2 * i + 1) a = some t ↔ a = (b.2.1, k, lab b.2.2 b.1) ∧ t = g)
  inj : ∀ e ∈ E, ∀ e' ∈ E, ∀ (q q' : S), (q = e.2.1.1 ∨ q = e.2.1.2.1) → (q' = e'.2.1.1 ∨ q' = e'.2.1.2.1) → lab e.2.1.2.2 q = lab e'.2.1.2.2 q' → e.2.1.2.2 = e'.2.1.2.2 ∧ q = q'
  kp : ∀ e ∈ E, e.2.1.1 ≠ k ∧ e.2.1.2.1 ≠ k ∧ e.2.1.1 ≠ e.2.1.2.1
  det : ∀ (i j s : Nat) (b : Act S) (g g' : Nat), E[i]? = some (s, b, g) → E[j]? = some (s, b, g') → i = j
  lt : ∀ e ∈ E, e.1 < n ∧ e.2.2 < n

/-- where a run may stand, and what is next -/
inductive At (n : Nat) (E : List (Nat × Act S × Nat)) : Nat → Prop where
  | orig (s : Nat) (h : s < n) : At n E s
  | mid (i s : Nat) (b : Act S) (g : Nat) (h : E[i]? = some (s, b, g)) : At n E (n + 2 * i)
  | fin (i s : Nat) (b : Act S) (g : Nat) (h : E[i]? = some (s, b, g)) : At n E (n + 2 * i + 1)
section
variable {n : Nat} {E : List (Nat × Act S × Nat)} {k : S} {lab : S → S → S} {rows : Rows S}
theorem Cond.at_ (C : Cond n E k lab rows) {y : Nat} (h : y < rows.length) : At n E y := by
  rw [C.len] at h
  by_cases h1 : y < n
  · exact .orig y h1
  · have hi : (y - n) / 2 < E.length := by omega
    have e : E[(y - n) / 2]? = some (E[(y - n) / 2].1, E[(y - n) / 2].2.1, E[(y - n) / 2].2.2) := List.getElem?_eq_getElem hi
    by_cases h2 : (y - n) % 2 = 0
    · have : y = n + 2 * ((y - n) / 2) := by omega
      rw [this]
      exact .mid _ _ _ _ e
    · have : y = n + 2 * ((y - n) / 2) + 1 := by omega
      rw [this]
      exact .fin _ _ _ _ e
theorem Cond.goal_lt (C : Cond n E k lab rows) {y t : Nat} {a : Act S} (h : stepT rows y a = some t) : t < rows.length := by
  obtain ⟨row, h1, _⟩ := stepT_some h
  have hy : y < rows.length := (List.getElem?_eq_some_iff.mp h1).1
  have el : ∀ {i : Nat} {z : Nat × Act S × Nat}, E[i]? = some z → i < E.length := fun e => (List.getElem?_eq_some_iff.mp e).1
  rw [C.len]
  cases C.at_ hy with
  | orig _ hs =>
    obtain ⟨i, b, g, e, _, rfl⟩ := (C.orig y a t hs).mp h
    have := el e
    omega
  | mid i s b g e =>
    obtain ⟨_, rfl⟩ := (C.mid i s b g e a t).mp h
    have := el e
    omega
  | fin i s b g e =>
    obtain ⟨_, rfl⟩ := (C.fin i s b g e a t).mp h
    have := (C.lt _ (List.mem_of_getElem? e)).2
    have : t < n := this
    omega
theorem Cond.run_lt (C : Cond n E k lab rows) : ∀ {w : List (Act S)} {s y : Nat}, s < rows.length → walkT rows s w = some y → y < rows.length
  | [], s, y, hs, h => by
    have : s = y := Option.some.inj h
    omega
  | a :: w, s, y, hs, h => by
    have h : (stepT rows s a).bind (fun t => walkT rows t w) = some y := h
    cases q : stepT rows s a with
    | none => rw [q] at h; cases h
    | some u =>
      rw [q] at h
      exact C.run_lt (C.goal_lt q) h
theorem Cond.rl (C : Cond n E k lab rows) {w : List (Act S)} {y : Nat} (h : walkT rows 0 w = some y) : y < rows.length := C.run_lt (by have := C.pos; rw [C.len]; omega) h

theorem snoc_cases (w : List (Act S)) : w = [] ∨ ∃ u a, w = u ++ [a] := by
  cases h : w.reverse with
  | nil => exact .inl (by simpa using h)
  | cons a r =>
    refine .inr ⟨r.reverse, a, ?_⟩
    have := congrArg List.reverse h
    simpa using this
theorem walk_snoc_some {u : List (Act S)} {a : Act S} {y : Nat} (h : walkT rows 0 (u ++ [a]) = some y) : ∃ x, walkT rows 0 u = some x ∧ stepT rows x a = some y := by
  rw [walkT_snoc] at h
  cases q : walkT rows 0 u with
  | none => rw [q] at h; cases h
  | some x => rw [q] at h; exact ⟨x, rfl, h⟩

/-- the leader's place -/
def kap (n : Nat) (y : Nat) : Nat ⊕ Nat := if y < n then .inl y else .inr ((y - n) / 2)
theorem kap_orig {s : Nat} (h : s < n) : kap n s = .inl s := if_pos h
theorem kap_mid (i : Nat) : kap n (n + 2 * i) = .inr i := by
  unfold kap
  rw [if_neg (by omega)]
  congr 1
  omega
theorem kap_fin (i : Nat) : kap n (n + 2 * i + 1) = .inr i := by
  unfold kap
  rw [if_neg (by omega)]
  congr 1
  omega
/-- a step that the leader does not see keeps its place -/
theorem Cond.blind (C : Cond n E k lab rows) {x y : Nat} {a : Act S} (hx : x < rows.length) (h : stepT rows x a = some y) (hc : cc a k = false) : kap n x = kap n y := by
  cases C.at_ hx with
  | orig _ hs =>
    obtain ⟨i, b, g, e, rfl, rfl⟩ := (C.orig x a y hs).mp h
    simp [cc] at hc
  | mid i s b g e =>
    obtain ⟨rfl, rfl⟩ := (C.mid i s b g e a y).mp h
    rw [kap_mid, kap_fin]
  | fin i s b g e =>
    obtain ⟨rfl, rfl⟩ := (C.fin i s b g e a y).mp h
    simp [cc] at hc
/-- a step that it sees leads from like places to like places -/
theorem Cond.sees (C : Cond n E k lab rows) {x y x' y' : Nat} {a : Act S} (hx : x < rows.length) (hx' : x' < rows.length) (h : stepT rows x a = some y) (h' : stepT rows x' a = some y') (hc : cc a k = true) (e : kap n x = kap n x') : kap n y = kap n y' := by
  have nk : ∀ {i s : Nat} {b : Act S} {g : Nat}, E[i]? = some (s, b, g) → b.1 ≠ k ∧ b.2.1 ≠ k := fun e => let z := C.kp _ (List.mem_of_getElem? e); ⟨z.1, z.2.1⟩
  have nomid : ∀ {i s : Nat} {b : Act S} {g t : Nat}, E[i]? = some (s, b, g) → stepT rows (n + 2 * i) a = some t → False := fun e2 h => by
    obtain ⟨rfl, _⟩ := (C.mid _ _ _ _ e2 a _).mp h
    obtain ⟨n1, n2⟩ := nk e2
    simp [cc, n1, n2] at hc
  cases C.at_ hx with
  | orig _ hs =>
    obtain ⟨i, b, g, e1, rfl, rfl⟩ := (C.orig x a y hs).mp h
    cases C.at_ hx' with
    | orig _ hs' =>
      rw [kap_orig hs, kap_orig hs'] at e
      have e : x = x' := Sum.inl.inj e
      subst e
      obtain ⟨j, b', g', e2, e3, rfl⟩ := (C.orig x _ y' hs').mp h'
      have e4 : b.1 = b'.1 := congrArg (fun z => z.2.1) e3
      have e5 : lab b.2.2 b.2.1 = lab b'.2.2 b'.2.1 := congrArg (fun z => z.2.2) e3
      obtain ⟨e6, e7⟩ := C.inj _ (List.mem_of_getElem? e1) _ (List.mem_of_getElem? e2) _ _ (.inr rfl) (.inr rfl) e5
      have e8 : b = b' := Prod.ext e4 (Prod.ext e7 e6)
      subst e8
      have := C.det i j x b g g' e1 e2
      subst this
      rfl
    | mid j s' b' g' e2 => exact (nomid e2 h').elim
    | fin j s' b' g' e2 =>
      rw [kap_orig hs, kap_fin] at e
      cases e
  | mid i s b g e1 => exact (nomid e1 h).elim
  | fin i s b g e1 =>
    obtain ⟨e3, rfl⟩ := (C.fin i s b g e1 a y).mp h
    cases C.at_ hx' with
    | orig _ hs' =>
      rw [kap_orig hs', kap_fin] at e
      cases e
    | mid j s' b' g' e2 => exact (nomid e2 h').elim
    | fin j s' b' g' e2 =>
      rw [kap_fin, kap_fin] at e
      have e : i = j := Sum.inr.inj e
      subst e
      rw [e1] at e2
      cases e2
      obtain ⟨_, rfl⟩ := (C.fin i s b y e1 a y').mp h'
      rfl
theorem Cond.kview (C : Cond n E k lab rows) (m : Nat) : ∀ (u r : List (Act S)) (y z : Nat), u.length + r.length ≤ m → walkT rows 0 u = some y → walkT rows 0 r = some z → view u k = view r k → kap n y = kap n z := by
  induction m with
  | zero =>
    intro u r y z hm hu hr _
    have e1 : u = [] := List.length_eq_zero_iff.mp (by omega)
    have e2 : r = [] := List.length_eq_zero_iff.mp (by omega)
    subst e1 e2
    have q1 : 0 = y := Option.some.inj hu
    have q2 : 0 = z := Option.some.inj hr
    rw [← q1, ← q2]
  | succ m ih =>
    intro u r y z hm hu hr hv
    rcases snoc_cases u with e1 | ⟨u', a, e1⟩
    · rcases snoc_cases r with e2 | ⟨r', b, e2⟩
      · subst e1 e2
        have q1 : 0 = y := Option.some.inj hu
        have q2 : 0 = z := Option.some.inj hr
        rw [← q1, ← q2]
      · subst e2
        obtain ⟨x, h1, h2⟩ := walk_snoc_some hr
        cases hb : cc b k with
        | true =>
          rw [view_snoc_pos r' hb, e1] at hv
          have hv : ([] : List (Act S)) = view r' k ++ [b] := hv
          simp at hv
        | false =>
          rw [view_snoc_neg r' hb] at hv
          rw [List.length_append, List.length_singleton] at hm
          rw [ih u r' y x (by omega) hu h1 hv]
          exact C.blind (C.rl h1) h2 hb
    · subst e1
      obtain ⟨x, h1, h2⟩ := walk_snoc_some hu
      rw [List.length_append, List.length_singleton] at hm
      cases ha : cc a k with
      | false =>
        rw [view_snoc_neg u' ha] at hv
        rw [← ih u' r x z (by omega) h1 hr hv]
        exact (C.blind (C.rl h1) h2 ha).symm
      | true =>
        rcases snoc_cases r with e2 | ⟨r', b, e2⟩
        · rw [view_snoc_pos u' ha, e2] at hv
          have hv : view u' k ++ [a] = ([] : List (Act S)) := hv
          simp at hv
        · subst e2
          obtain ⟨x', h3, h4⟩ := walk_snoc_some hr
          rw [List.length_append, List.length_singleton] at hm
          cases hb : cc b k with
          | false =>
            rw [view_snoc_neg r' hb] at hv
            rw [ih (u' ++ [a]) r' y x' (by rw [List.length_append, List.length_singleton]; omega) hu h3 hv]
            exact C.blind (C.rl h3) h4 hb
          | true =>
            rw [view_snoc_pos u' ha, view_snoc_pos r' hb] at hv
            obtain ⟨v1, v2⟩ := List.append_inj' hv rfl
            have v2 : a = b := by simpa using v2
            subst v2
            exact C.sees (C.rl h1) (C.rl h3) h2 h4 ha (ih u' r' x x' (by omega) h1 h3 v1)
/-- behind (k, p, L), as p sees it -/
theorem Cond.sender (C : Cond n E k lab rows) {p L : S} (hp : p ≠ k) (v : List (Act S)) : ∀ (u : List (Act S)), u = v.reverse → ∀ y o, walkT rows 0 u = some y → view u p = o ++ [(k, p, L)] → ∃ (i s : Nat) (b : Act S) (g : Nat), E[i]? = some (s, b, g) ∧ y = n + 2 * i ∧ b.1 = p ∧ lab b.2.2 b.2.1 = L := by
  induction v with
  | nil =>
    intro u e y o _ hv
    have e : u = [] := e
    subst e
    have hv : ([] : List (Act S)) = o ++ [(k, p, L)] := hv
    simp at hv
  | cons c v ih =>
    intro u e y o hu hv
    have e : u = v.reverse ++ [c] := by rw [e]; simp
    subst e
    obtain ⟨x, h1, h2⟩ := walk_snoc_some hu
    cases hc : cc c p with
    | false =>
      rw [view_snoc_neg _ hc] at hv
      obtain ⟨i, s, b, g, e1, rfl, rfl, _⟩ := ih v.reverse rfl x o h1 hv
      obtain ⟨rfl, _⟩ := (C.mid i s b g e1 c y).mp h2
      rw [cc_left] at hc
      cases hc
    | true =>
      rw [view_snoc_pos _ hc] at hv
      obtain ⟨_, v2⟩ := List.append_inj' hv rfl
      have v2 : c = (k, p, L) := by simpa using v2
      subst v2
      cases C.at_ (C.rl h1) with
      | orig _ hs =>
        obtain ⟨i, b, g, e1, e2, rfl⟩ := (C.orig x _ y hs).mp h2
        exact ⟨i, x, b, g, e1, rfl, (congrArg (fun z => z.2.1) e2).symm, (congrArg (fun z => z.2.2) e2).symm⟩
      | mid i s b g e1 =>
        obtain ⟨e2, _⟩ := (C.mid i s b g e1 _ y).mp h2
        have := (C.kp _ (List.mem_of_getElem? e1)).1
        rw [← e2] at this
        exact absurd rfl this
      | fin i s b g e1 =>
        obtain ⟨e2, _⟩ := (C.fin i s b g e1 _ y).mp h2
        have := (C.kp _ (List.mem_of_getElem? e1)).2.1
        exact absurd (congrArg (fun z => z.1) e2).symm this
/-- behind (p, q, x), as q sees it -/
theorem Cond.taker (C : Cond n E k lab rows) {b0 : Act S} (h1k : b0.1 ≠ k) (h2k : b0.2.1 ≠ k) (v : List (Act S)) : ∀ (u : List (Act S)), u = v.reverse → ∀ y o, walkT rows 0 u = some y → view u b0.2.1 = o ++ [b0] → ∃ (i s g : Nat), E[i]? = some (s, b0, g) ∧ y = n + 2 * i + 1 := by
  induction v with
  | nil =>
    intro u e y o _ hv
    have e : u = [] := e
    subst e
    have hv : ([] : List (Act S)) = o ++ [b0] := hv
    simp at hv
  | cons c v ih =>
    intro u e y o hu hv
    have e : u = v.reverse ++ [c] := by rw [e]; simp
    subst e
    obtain ⟨x, h1, h2⟩ := walk_snoc_some hu
    cases hc : cc c b0.2.1 with
    | false =>
      rw [view_snoc_neg _ hc] at hv
      obtain ⟨i, s, g, e1, rfl⟩ := ih v.reverse rfl x o h1 hv
      obtain ⟨rfl, _⟩ := (C.fin i s b0 g e1 c y).mp h2
      simp [cc] at hc
    | true =>
      rw [view_snoc_pos _ hc] at hv
      obtain ⟨_, v2⟩ := List.append_inj' hv rfl
      have v2 : c = b0 := by simpa using v2
      subst v2
      cases C.at_ (C.rl h1) with
      | orig _ hs =>
        obtain ⟨i, b, g, e1, e2, rfl⟩ := (C.orig x _ y hs).mp h2
        exact absurd (congrArg (fun z => z.1) e2) h1k
      | mid i s b g e1 =>
        obtain ⟨rfl, rfl⟩ := (C.mid i s b g e1 _ y).mp h2
        exact ⟨i, s, g, e1, rfl⟩
      | fin i s b g e1 =>
        obtain ⟨e2, _⟩ := (C.fin i s b g e1 _ y).mp h2
        exact absurd (congrArg (fun z => z.2.1) e2) h2k
theorem Cond.acc (C : Cond n E k lab rows) : Acc rows := by
  intro u a hu h1 _
  obtain ⟨r, hr, hv⟩ := h1
  obtain ⟨z, t, hz, ht⟩ := IsRun.snoc.mp hr
  obtain ⟨y, hy⟩ := hu
  cases C.at_ (C.rl hz) with
  | orig _ hs =>
    obtain ⟨i, b, g, e1, e2, rfl⟩ := (C.orig z a t hs).mp ht
    have e3 : a.1 = k := congrArg (fun z => z.1) e2
    rw [e3] at hv
    have e4 := C.kview _ r u z y (Nat.le_refl _) hz hy hv
    rw [kap_orig hs] at e4
    have e5 : y = z := by
      unfold kap at e4
      split at e4
      · exact (Sum.inl.inj e4).symm
      · cases e4
    subst e5
    exact IsRun.snoc.mpr ⟨_, _, hy, ht⟩
  | mid i s b g e1 =>
    obtain ⟨rfl, _⟩ := (C.mid i s b g e1 a t).mp ht
    -- the step that led here is the leader's order to the sender
    obtain ⟨n1, n2, n3⟩ := C.kp _ (List.mem_of_getElem? e1)
    have n1 : a.1 ≠ k := n1
    have last : ∃ o, view r a.1 = o ++ [(k, a.1, lab a.2.2 a.2.1)] := by
      rcases snoc_cases r with e2 | ⟨r', c, e2⟩
      · subst e2
        have : 0 = n + 2 * i := Option.some.inj hz
        have := C.pos
        omega
      · subst e2
        obtain ⟨x, h3, h4⟩ := walk_snoc_some hz
        have ec : c = (k, a.1, lab a.2.2 a.2.1) := by
          cases C.at_ (C.rl h3) with
          | orig _ hs =>
            obtain ⟨j, b, g', e3, rfl, e4⟩ := (C.orig x c _ hs).mp h4
            have : i = j := by omega
            subst this
            rw [e1] at e3
            cases e3
            rfl
          | mid j s' b' g' e3 =>
            obtain ⟨_, e4⟩ := (C.mid j s' b' g' e3 c _).mp h4
            omega
          | fin j s' b' g' e3 =>
            obtain ⟨_, e4⟩ := (C.fin j s' b' g' e3 c _).mp h4
            have := (C.lt _ (List.mem_of_getElem? e3)).2
            have : g' < n := this
            omega
        refine ⟨view r' a.1, ?_⟩
        rw [← ec]
        exact view_snoc_pos r' (by rw [ec]; simp [cc])
    obtain ⟨o, ho⟩ := last
    rw [hv] at ho
    obtain ⟨j, s', b', g', e3, rfl, e4, e5⟩ := C.sender n1 u.reverse u (by simp) y o hy ho
    obtain ⟨e6, e7⟩ := C.inj _ (List.mem_of_getElem? e3) _ (List.mem_of_getElem? e1) _ _ (.inr rfl) (.inr rfl) e5
    have e8 : b' = a := Prod.ext e4 (Prod.ext e7 e6)
    subst e8
    exact IsRun.snoc.mpr ⟨_, _, hy, (C.mid j s' b' g' e3 b' _).mpr ⟨rfl, rfl⟩⟩
  | fin i s b g e1 =>
    obtain ⟨ea, _⟩ := (C.fin i s b g e1 a t).mp ht
    obtain ⟨n1, n2, n3⟩ := C.kp _ (List.mem_of_getElem? e1)
    have n1 : b.1 ≠ k := n1
    have n2 : b.2.1 ≠ k := n2
    have e2 : a.1 = b.2.1 := congrArg (fun z => z.1) ea
    rw [e2] at hv
    have last : ∃ o, view r b.2.1 = o ++ [b] := by
      rcases snoc_cases r with e2 | ⟨r', c, e2⟩
      · subst e2
        have : 0 = n + 2 * i + 1 := Option.some.inj hz
        omega
      · subst e2
        obtain ⟨x, h3, h4⟩ := walk_snoc_some hz
        have ec : c = b := by
          cases C.at_ (C.rl h3) with
          | orig _ hs =>
            obtain ⟨j, b', g', e3, _, e4⟩ := (C.orig x c _ hs).mp h4
            omega
          | mid j s' b' g' e3 =>
            obtain ⟨rfl, e4⟩ := (C.mid j s' b' g' e3 c _).mp h4
            have : i = j := by omega
            subst this
            rw [e1] at e3
            cases e3
            rfl
          | fin j s' b' g' e3 =>
            obtain ⟨_, e4⟩ := (C.fin j s' b' g' e3 c _).mp h4
            have := (C.lt _ (List.mem_of_getElem? e3)).2
            have : g' < n := this
            omega
        refine ⟨view r' b.2.1, ?_⟩
        rw [ec]
        exact view_snoc_pos r' (cc_right b)
    obtain ⟨o, ho⟩ := last
    rw [hv] at ho
    obtain ⟨j, s', g', e3, rfl⟩ := C.taker n1 n2 u.reverse u (by simp) y o hy ho
    exact IsRun.snoc.mpr ⟨_, _, hy, (C.fin j s' b g' e3 a g').mpr ⟨ea, rfl⟩⟩

/-! its families -/
theorem len_inj {f : Nat → Nat} {l m : List Nat} (hl : l.Nodup) (h : ∀ x ∈ l, f x ∈ m) (hi : ∀ x ∈ l, ∀ y ∈ l, f x = f y → x = y) : l.length ≤ m.length := by
  rw [← List.length_map f (as := l)]
  refine nodup_sub ?_ fun x hx => ?_
  · rw [List.Nodup, List.pairwise_map]
    exact hl.imp_of_mem fun hx hy hne e => hne (hi _ hx _ hy e)
  · obtain ⟨y, hy, rfl⟩ := List.mem_map.mp hx
    exact h y hy
def src (n : Nat) (E : List (Nat × Act S × Nat)) (y : Nat) : Nat := if y < n then y else match E[(y - n) / 2]? with
  | some e => e.1
  | none => 0
theorem src_orig {s : Nat} (h : s < n) : src n E s = s := if_pos h
theorem src_mid {i s : Nat} {b : Act S} {g : Nat} (h : E[i]? = some (s, b, g)) : src n E (n + 2 * i) = s := by
  unfold src
  have e : (n + 2 * i - n) / 2 = i := by omega
  rw [if_neg (by omega), e, h]
theorem src_fin {i s : Nat} {b : Act S} {g : Nat} (h : E[i]? = some (s, b, g)) : src n E (n + 2 * i + 1) = s := by
  unfold src
  have e : (n + 2 * i + 1 - n) / 2 = i := by omega
  rw [if_neg (by omega), e, h]
theorem Cond.sources_le (C : Cond n E k lab rows) (a : Act S) : (sources rows a).length ≤ n := by
  have lr : (List.range n).length = n := List.length_range
  rw [← lr]
  have hlt : ∀ {x}, x ∈ sources rows a → x < rows.length := fun {x} hx => List.mem_range.mp (List.mem_filter.mp hx).1
  have kp : ∀ {i s : Nat} {b : Act S} {g : Nat}, E[i]? = some (s, b, g) → b.1 ≠ k ∧ b.2.1 ≠ k := fun e => let z := C.kp _ (List.mem_of_getElem? e); ⟨z.1, z.2.1⟩
  refine len_inj (f := src n E) (List.Pairwise.filter _ List.nodup_range) (fun x hx => ?_) fun x hx y hy e => ?_
  · rw [List.mem_range]
    cases C.at_ (hlt hx) with
    | orig _ hs => rw [src_orig hs]; exact hs
    | mid i s b g e => rw [src_mid e]; exact (C.lt _ (List.mem_of_getElem? e)).1
    | fin i s b g e => rw [src_fin e]; exact (C.lt _ (List.mem_of_getElem? e)).1
  · obtain ⟨t, ht⟩ := sources_mem.mp hx
    obtain ⟨u, hu⟩ := sources_mem.mp hy
    cases C.at_ (hlt hx) with
    | orig _ hs =>
      obtain ⟨i, b, g, e1, e2, _⟩ := (C.orig x a t hs).mp ht
      cases C.at_ (hlt hy) with
      | orig _ hs' =>
        rw [src_orig hs, src_orig hs'] at e
        exact e
      | mid j s' b' g' e3 =>
        obtain ⟨e4, _⟩ := (C.mid j s' b' g' e3 a u).mp hu
        rw [← e4, e2] at e3
        exact absurd rfl (kp e3).1
      | fin j s' b' g' e3 =>
        obtain ⟨e4, _⟩ := (C.fin j s' b' g' e3 a u).mp hu
        rw [e2] at e4
        exact absurd (congrArg (fun z => z.1) e4).symm (kp e3).2
    | mid i s b g e1 =>
      obtain ⟨e2, _⟩ := (C.mid i s b g e1 a t).mp ht
      subst e2
      cases C.at_ (hlt hy) with
      | orig _ hs' =>
        obtain ⟨j, b', g', e3, e4, _⟩ := (C.orig y a u hs').mp hu
        rw [e4] at e1
        exact absurd rfl (kp e1).1
      | mid j s' b' g' e3 =>
        obtain ⟨e4, _⟩ := (C.mid j s' b' g' e3 a u).mp hu
        subst e4
        rw [src_mid e1, src_mid e3] at e
        subst e
        rw [C.det i j s a g g' e1 e3]
      | fin j s' b' g' e3 =>
        obtain ⟨e4, _⟩ := (C.fin j s' b' g' e3 a u).mp hu
        rw [e4] at e1
        exact absurd rfl (kp e1).2
    | fin i s b g e1 =>
      obtain ⟨e2, _⟩ := (C.fin i s b g e1 a t).mp ht
      cases C.at_ (hlt hy) with
      | orig _ hs' =>
        obtain ⟨j, b', g', e3, e4, _⟩ := (C.orig y a u hs').mp hu
        rw [e2] at e4
        exact absurd (congrArg (fun z => z.1) e4) (kp e1).2
      | mid j s' b' g' e3 =>
        obtain ⟨e4, _⟩ := (C.mid j s' b' g' e3 a u).mp hu
        rw [← e4, e2] at e3
        exact absurd rfl (kp e3).2
      | fin j s' b' g' e3 =>
        obtain ⟨e4, _⟩ := (C.fin j s' b' g' e3 a u).mp hu
        rw [e2] at e4
        have q1 : b.2.1 = b'.2.1 := congrArg (fun z => z.1) e4
        have q2 : lab b.2.2 b.1 = lab b'.2.2 b'.1 := congrArg (fun z => z.2.2) e4
        obtain ⟨q3, q4⟩ := C.inj _ (List.mem_of_getElem? e1) _ (List.mem_of_getElem? e3) _ _ (.inl rfl) (.inl rfl) q2
        have q5 : b = b' := Prod.ext q4 (Prod.ext q1 q3)
        subst q5
        rw [src_fin e1, src_fin e3] at e
        subst e
        rw [C.det i j s b g g' e1 e3]
/-- the edges -/
def condEdges (n : Nat) (E : List (Nat × Act S × Nat)) (k : S) (lab : S → S → S) : List (Nat × Act S) :=
  E.zipIdx.flatMap fun q => [(q.1.1, (k, q.1.2.1.1, lab q.1.2.1.2.2 q.1.2.1.2.1)), (n + 2 * q.2, q.1.2.1), (n + 2 * q.2 + 1, (q.1.2.1.2.1, k, lab q.1.2.1.2.2 q.1.2.1.1))]
theorem condEdges_len : (condEdges n E k lab).length ≤ E.length * 3 := by
  unfold condEdges
  have := flat_len (fun q : (Nat × Act S × Nat) × Nat => [(q.1.1, ((k, q.1.2.1.1, lab q.1.2.1.2.2 q.1.2.1.2.1) : Act S)), (n + 2 * q.2, q.1.2.1), (n + 2 * q.2 + 1, (q.1.2.1.2.1, k, lab q.1.2.1.2.2 q.1.2.1.1))]) 3 E.zipIdx fun a _ => Nat.le_refl _
  rw [List.length_zipIdx] at this
  exact this
theorem Cond.edges (C : Cond n E k lab rows) {s : Nat} {a : Act S} {t : Nat} (h : stepT rows s a = some t) : (s, a) ∈ condEdges n E k lab := by
  obtain ⟨row, h1, _⟩ := stepT_some h
  have hs : s < rows.length := (List.getElem?_eq_some_iff.mp h1).1
  unfold condEdges
  cases C.at_ hs with
  | orig _ hs =>
    obtain ⟨i, b, g, e1, rfl, _⟩ := (C.orig s a t hs).mp h
    exact List.mem_flatMap.mpr ⟨((s, b, g), i), List.mem_zipIdx_iff_getElem?.mpr e1, by simp⟩
  | mid i s b g e1 =>
    obtain ⟨rfl, _⟩ := (C.mid i s b g e1 a t).mp h
    exact List.mem_flatMap.mpr ⟨((s, a, g), i), List.mem_zipIdx_iff_getElem?.mpr e1, by simp⟩
  | fin i s b g e1 =>
    obtain ⟨rfl, _⟩ := (C.fin i s b g e1 a t).mp h
    exact List.mem_flatMap.mpr ⟨((s, b, g), i), List.mem_zipIdx_iff_getElem?.mpr e1, by simp⟩
theorem Cond.fam (C : Cond n E k lab rows) (W : WF rows) (h4 : n ≤ 4) (h11 : E.length ≤ 11) {p : S} {reach : List (List Nat)} (R : IsReach rows p reach) {start : List Nat} (hs : reach[0]? = some start) :
    ∃ F, Fam (movesOf rows p reach) start F ∧ F.length ≤ 300 := by
  obtain ⟨F, h1, h2⟩ := few_fam W R (by have := C.pos; rw [C.len]; omega) hs (m := 3) (fun a => Nat.le_trans (C.sources_le a) h4) (L := condEdges n E k lab) fun s a t h => C.edges h
  refine ⟨F, h1, ?_⟩
  have := condEdges_len (n := n) (E := E) (k := k) (lab := lab)
  have e : 2 ^ 3 = 8 := rfl
  rw [e] at h2
  omega
end
end PM
/-! What stands in the heap: actions, rows, tables; the text by places. -/
namespace Pk
open PySem L2 PM
def top (i : Nat) : Stmt := PySem.Challenge.pw_pactloom_k55_whole_only_runs_fit.main.body.getD i (.Pass ⟨0, 0, 0, 0⟩)
abbrev A3 := Act Str

/-! ### paired lists -/
theorem pd_len {α β : Type} {F : α → β → Prop} {xs : List α} {ys : List β} (h : Paired F xs ys) : xs.length = ys.length := Paired.length h
theorem pd_mono {α β : Type} {F G : α → β → Prop} {xs : List α} {ys : List β} (h : Paired F xs ys) (f : ∀ a b, F a b → G a b) : Paired G xs ys := Paired.mapP h f
theorem pd_get {α β : Type} {F : α → β → Prop} : ∀ {xs : List α} {ys : List β} {i : Nat} {x : α}, Paired F xs ys → xs[i]? = some x → ∃ y, ys[i]? = some y ∧ F x y
  | _, _, _, _, .nil, e => by simp at e
  | _, _, 0, _, .cons r _, e => by simp at e; subst e; exact ⟨_, rfl, r⟩
  | _, _, i + 1, x, .cons _ t, e => by
    obtain ⟨y, h1, h2⟩ := pd_get (i := i) (x := x) t (by simpa using e)
    exact ⟨y, by simpa using h1, h2⟩
theorem pd_get2 {α β : Type} {F : α → β → Prop} : ∀ {xs : List α} {ys : List β} {i : Nat} {y : β}, Paired F xs ys → ys[i]? = some y → ∃ x, xs[i]? = some x ∧ F x y
  | _, _, _, _, .nil, e => by simp at e
  | _, _, 0, _, .cons r _, e => by simp at e; subst e; exact ⟨_, rfl, r⟩
  | _, _, i + 1, y, .cons _ t, e => by
    obtain ⟨x, h1, h2⟩ := pd_get2 (i := i) (y := y) t (by simpa using e)
    exact ⟨x, by simpa using h1, h2⟩
theorem pd_app {α β : Type} {F : α → β → Prop} : ∀ {xs xs' : List α} {ys ys' : List β}, Paired F xs ys → Paired F xs' ys' → Paired F (xs ++ xs') (ys ++ ys')
  | _, _, _, _, .nil, t => t
  | _, _, _, _, .cons r s, t => .cons r (pd_app s t)
theorem pd_snoc {α β : Type} {F : α → β → Prop} {xs : List α} {ys : List β} {x : α} {y : β} (h : Paired F xs ys) (r : F x y) : Paired F (xs ++ [x]) (ys ++ [y]) := pd_app h (.cons r .nil)
theorem pd_mem {α β : Type} {F : α → β → Prop} {xs : List α} {ys : List β} {y : β} (h : Paired F xs ys) (hy : y ∈ ys) : ∃ x ∈ xs, F x y := by
  obtain ⟨i, hi⟩ := List.getElem?_of_mem hy
  obtain ⟨x, h1, h2⟩ := pd_get2 h hi
  exact ⟨x, List.mem_of_getElem? h1, h2⟩
theorem pd_memL {α β : Type} {F : α → β → Prop} {xs : List α} {ys : List β} {x : α} (h : Paired F xs ys) (hx : x ∈ xs) : ∃ y ∈ ys, F x y := by
  obtain ⟨i, hi⟩ := List.getElem?_of_mem hx
  obtain ⟨y, h1, h2⟩ := pd_get h hi
  exact ⟨y, List.mem_of_getElem? h1, h2⟩
theorem pd_map {α β γ : Type} {F : α → γ → Prop} (f : α → γ → β) : ∀ {xs : List α} {ys : List γ}, Paired F xs ys → Paired F xs ys
  | _, _, h => h
/-- the pairs of two lists that are paired -/
theorem pd_zip {α β : Type} {F : α → β → Prop} : ∀ {xs : List α} {ys : List β}, Paired F xs ys → (xs.zip ys).map (·.1) = xs ∧ (xs.zip ys).map (·.2) = ys ∧ ∀ z ∈ xs.zip ys, F z.1 z.2
  | _, _, .nil => ⟨rfl, rfl, fun _ h => absurd h (by simp)⟩
  | _, _, .cons r t => by
    obtain ⟨h1, h2, h3⟩ := pd_zip t
    refine ⟨by simp [h1], by simp [h2], fun z hz => ?_⟩
    rcases List.mem_cons.mp hz with e | hz
    · subst e; exact r
    · exact h3 z hz
theorem pd_of {α β : Type} {F : α → β → Prop} : ∀ (zs : List (α × β)), (∀ z ∈ zs, F z.1 z.2) → Paired F (zs.map (·.1)) (zs.map (·.2))
  | [], _ => .nil
  | z :: zs, h => .cons (h z List.mem_cons_self) (pd_of zs fun y hy => h y (List.mem_cons_of_mem _ hy))
theorem pd_filter {α β : Type} {F : α → β → Prop} {f : α → Bool} {g : β → Bool} (hfg : ∀ a b, F a b → f a = g b) : ∀ {xs : List α} {ys : List β}, Paired F xs ys → Paired F (xs.filter f) (ys.filter g)
  | _, _, .nil => .nil
  | _, _, .cons (a := a) (b := b) r t => by
    have ih := pd_filter hfg t
    have e := hfg _ _ r
    cases h : g b with
    | true => rw [List.filter_cons_of_pos (by rw [e, h]), List.filter_cons_of_pos h]; exact .cons r ih
    | false => rw [List.filter_cons_of_neg (by rw [e, h]; decide), List.filter_cons_of_neg (by rw [h]; decide)]; exact ih

/-! ### heaps that grow -/
def Tups (H H' : Hp) : Prop := ∀ b xs, H b = some (.tup xs) → H' b = some (.tup xs)
theorem Tups.refl (H : Hp) : Tups H H := fun _ _ h => h
theorem Tups.trans {H H1 H2 : Hp} (a : Tups H H1) (b : Tups H1 H2) : Tups H H2 := fun c o h => b c o (a c o h)
theorem same_tups {H H' : Hp} (s : Same H H') : Tups H H' := fun b _ h => s b _ h
theorem same_new {H : Hp} {p : Addr} {o : HO} (h : H p = none) : Same H (upd H p o) := fun b u e => by
  rw [upd_ne (ne_of_none e h)]
  exact e
/-- a list or dict is written: the tuples stay -/
theorem tups_upd {H : Hp} {p : Addr} {o u : HO} (h : H p = some u) (hn : ∀ xs, u ≠ .tup xs) : Tups H (upd H p o) := fun b xs e => by
  rw [upd_ne]
  · exact e
  · rintro rfl
    rw [h] at e
    exact hn xs (Option.some.inj e)
theorem tups_lst {H : Hp} {p : Addr} {o : HO} {xs : List V} (h : H p = some (.lst xs)) : Tups H (upd H p o) := tups_upd h fun _ z => by cases z
/-- an object that is not of H -/
theorem same_upd {H H' : Hp} {p : Addr} {o : HO} (s : Same H H') (h : H p = none) : Same H (upd H' p o) := fun b u e => by
  rw [upd_ne (ne_of_none e h)]
  exact s b u e

/-! ### data in the heap -/
def nV (n : Nat) : V := .int (n : Int)
def ActAt (H : Hp) (v : V) (a : A3) : Prop := ∃ p, v = .ref p ∧ H p = some (.tup [.str a.1, .str a.2.1, .str a.2.2])
def NatsAt (H : Hp) (v : V) (l : List Nat) : Prop := ∃ p, v = .ref p ∧ H p = some (.tup (l.map nV))
def EdgeAt (H : Hp) (v : V) (e : A3 × Nat) : Prop := ∃ p va, v = .ref p ∧ H p = some (.tup [va, nV e.2]) ∧ ActAt H va e.1
def RowAt (H : Hp) (v : V) (row : Row Str) : Prop := ∃ p vs, v = .ref p ∧ H p = some (.tup vs) ∧ Paired (EdgeAt H) vs row
def RowsAt (H : Hp) (v : V) (rows : Rows Str) : Prop := ∃ p vs, v = .ref p ∧ H p = some (.tup vs) ∧ Paired (RowAt H) vs rows
def BoolsAt (H : Hp) (v : V) (l : List Bool) : Prop := ∃ p, v = .ref p ∧ H p = some (.tup (l.map V.bl))
def TabAt (H : Hp) (v : V) (rows : Rows Str) (ends : List Bool) : Prop := ∃ p vr ve, v = .ref p ∧ H p = some (.tup [.str "table", vr, ve]) ∧ RowsAt H vr rows ∧ BoolsAt H ve ends
def MoveAt (H : Hp) (v : V) (m : A3 × List Nat) : Prop := ∃ p va vg, v = .ref p ∧ H p = some (.tup [va, vg]) ∧ ActAt H va m.1 ∧ NatsAt H vg m.2
def MRowAt (H : Hp) (v : V) (m : List (A3 × List Nat)) : Prop := ∃ p vs, v = .ref p ∧ H p = some (.lst vs) ∧ Paired (MoveAt H) vs m
def MovesAt (H : Hp) (v : V) (m : Moves Str) : Prop := ∃ p vs, v = .ref p ∧ H p = some (.lst vs) ∧ Paired (MRowAt H) vs m
section
variable {H H' : Hp} {v : V}
theorem ActAt.mono {a : A3} (h : ActAt H v a) (t : Tups H H') : ActAt H' v a := let ⟨p, e, q⟩ := h; ⟨p, e, t p _ q⟩
theorem NatsAt.mono {l : List Nat} (h : NatsAt H v l) (t : Tups H H') : NatsAt H' v l := let ⟨p, e, q⟩ := h; ⟨p, e, t p _ q⟩
theorem EdgeAt.mono {e : A3 × Nat} (h : EdgeAt H v e) (t : Tups H H') : EdgeAt H' v e := let ⟨p, va, e, q, r⟩ := h; ⟨p, va, e, t p _ q, r.mono t⟩
theorem RowAt.mono {r : Row Str} (h : RowAt H v r) (t : Tups H H') : RowAt H' v r := let ⟨p, vs, e, q, r⟩ := h; ⟨p, vs, e, t p _ q, pd_mono r fun _ _ x => x.mono t⟩
theorem RowsAt.mono {r : Rows Str} (h : RowsAt H v r) (t : Tups H H') : RowsAt H' v r := let ⟨p, vs, e, q, r⟩ := h; ⟨p, vs, e, t p _ q, pd_mono r fun _ _ x => x.mono t⟩
theorem BoolsAt.mono {l : List Bool} (h : BoolsAt H v l) (t : Tups H H') : BoolsAt H' v l := let ⟨p, e, q⟩ := h; ⟨p, e, t p _ q⟩
theorem TabAt.mono {r : Rows Str} {l : List Bool} (h : TabAt H v r l) (t : Tups H H') : TabAt H' v r l := let ⟨p, vr, ve, e, q, h1, h2⟩ := h; ⟨p, vr, ve, e, t p _ q, h1.mono t, h2.mono t⟩
theorem MoveAt.mono {m : A3 × List Nat} (h : MoveAt H v m) (t : Tups H H') : MoveAt H' v m := let ⟨p, va, vg, e, q, h1, h2⟩ := h; ⟨p, va, vg, e, t p _ q, h1.mono t, h2.mono t⟩
theorem MRowAt.mono {m : List (A3 × List Nat)} (h : MRowAt H v m) (t : Same H H') : MRowAt H' v m := let ⟨p, vs, e, q, r⟩ := h; ⟨p, vs, e, t p _ q, pd_mono r fun _ _ x => x.mono (same_tups t)⟩
theorem MovesAt.mono {m : Moves Str} (h : MovesAt H v m) (t : Same H H') : MovesAt H' v m := let ⟨p, vs, e, q, r⟩ := h; ⟨p, vs, e, t p _ q, pd_mono r fun _ _ x => x.mono t⟩
/-- the same thing is one action -/
theorem ActAt.inj {a b : A3} (h : ActAt H v a) (h' : ActAt H v b) : a = b := by
  obtain ⟨p, rfl, q⟩ := h
  obtain ⟨p', e, q'⟩ := h'
  cases e
  rw [q] at q'
  have e : ([.str a.1, .str a.2.1, .str a.2.2] : List V) = [.str b.1, .str b.2.1, .str b.2.2] := HO.tup.inj (Option.some.inj q')
  simp only [List.cons.injEq, V.str.injEq, and_true] at e
  exact Prod.ext e.1 (Prod.ext e.2.1 e.2.2)
end
theorem at0 {α : Type} {x : α} {xs : List α} : atI (x :: xs) 0 = some x := atI_nat (j := 0) rfl
theorem at1 {α : Type} {x y : α} {xs : List α} : atI (x :: y :: xs) 1 = some y := atI_nat (j := 1) rfl
theorem at2 {α : Type} {x y z : α} {xs : List α} : atI (x :: y :: z :: xs) 2 = some z := atI_nat (j := 2) rfl
theorem at3 {α : Type} {x y z u : α} {xs : List α} : atI (x :: y :: z :: u :: xs) 3 = some u := atI_nat (j := 3) rfl
theorem at4 {α : Type} {x y z u t : α} {xs : List α} : atI (x :: y :: z :: u :: t :: xs) 4 = some t := atI_nat (j := 4) rfl
/-- the rules' closing: a plain subscript -/
theorem plain_ix {b : Expr} (h : ∀ o i, subscripted b false o i = operate [o, i] (getItem o i)) : PlainIx b := h
end Pk
/-! sorted of a dict's keys and of lists of tuples, any length. -/
namespace Pk
open PySem PySem.W PyProof.Rows L2 PM

/-! ### over the heap -/
section
variable {prog : Program} {w : World} {A : Around} {E : Value → Shared → Prop} {s : Shared}
theorem each_items {β : Type} {R : Value → β → Prop} : ∀ {vs : List Value} {bs : List β}, vs.length = bs.length → (∀ (j : Nat) (v : Value) (b : β), vs[j]? = some v → bs[j]? = some b → R v b) → EachIs R vs bs
  | [], [], _, _ => .nil
  | v :: vs, b :: bs, hl, h => .cons (h 0 v b rfl rfl) (each_items (by simpa using hl) fun j u c h1 h2 => h (j + 1) u c (by simpa using h1) (by simpa using h2))
  | [], _ :: _, hl, _ => by simp at hl
  | _ :: _, [], hl, _ => by simp at hl
/-- sorted(d), d a dict whose keys are data -/
theorem sorted_raw {β : Type} {enc : β → PyData} {R : Value → β → Prop} {d : Addr} {es : Array DictEntry} {ep : Nat} {bs : List β} {Q : Value → Shared → Prop} (hh : A.handled = none) (lo : (d == sysModules) = false) (hm : s.heap.DictRaw d es ep)
    (hl : es.size = bs.length) (e : ∀ i (hi : i < es.size) b, bs[i]? = some b → R es[i].key b ∧ Reads s.heap es[i].key (enc b) []) (hal : AllAlike (bs.map enc)) (hk : Sortable (bs.map enc)) (hL : bs.length ≤ sizeLine)
    (hu : ∀ b, b ∈ bs → A.units + 2 + (enc b).depth < cLine)
    (h : ∀ (h1 h' : Heap) (tk : Nat) (out : List Value) (n : Nat), (∀ b o, s.heap.get? b = some o → h1.get? b = some o) → (∀ b o, h1.get? b = some o → h'.get? b = some o) → h'.get? h1.objs.size = some (seqObj "list" out.toArray n) → EachIs R out (bs.mergeSort (dataLe false enc)) → Q (.ref h1.objs.size) { s with heap := h', toks := tk }) :
    wpAny (model prog w) A (call (.builtin "sorted") [.ref d]) Q E s := by
  refine Calls.call_function_entry kind_sorted plain_sorted entry_sorted (args_sorted1 _) ?_
  unfold Builtin.«sorted»
  refine wpAny_bind (m := checkCount "sorted" 1 1 _) (wpAny_pure ?_)
  refine wpAny_bind (kdu_collect (A := A.in1) (KdlSrc.rawDict lo) hh hm (by rw [hl]; exact hL) fun h' tk acc keep items => ?_)
  have ln : acc.toList.length = bs.length := by rw [Array.length_toList, items.1, hl]
  have at_ : ∀ (j : Nat) (v : Value) (b : β), acc.toList[j]? = some v → bs[j]? = some b → R v b ∧ Reads s.heap v (enc b) [] := fun j v b h1 h2 => by
    obtain ⟨hi, rfl⟩ := items.2 j v (by rw [← Array.getElem?_toList]; exact h1)
    exact e j hi b h2
  have e1 : EachIs R acc.toList bs := each_items ln fun j v b h1 h2 => (at_ j v b h1 h2).1
  have e2 : EachIs (fun v b => Reads s.heap v (enc b) []) acc.toList bs := each_items ln fun j v b h1 h2 => (at_ j v b h1 h2).2
  refine wpAny_bind (wpAny_newList ?_ (by rw [ln]; exact hL))
  have hoL : (h'.push (seqObj "list" acc.toList.toArray 0)).get? h'.objs.size = some (seqObj "list" acc.toList.toArray 0) := Heap.get?_push_size _ rfl
  show wpAny _ _ _ _ _ { s with heap := h'.push (seqObj "list" acc.toList.toArray 0), toks := tk }
  refine wpAny_bind (wpAny_holding (list_sort_data (s := { s with heap := h'.push (seqObj "list" acc.toList.toArray 0), toks := tk }) (R := R) (enc := enc) hoL e1 (e2.mono fun v b r => ⟨[], PyProof.Rows.Reads.keeps (fun c o q => Heap.get?_push_of_some _ (keep c o q)) r, by simp⟩) hal hk hL
    (fun b hb => by have := hu b hb; show A.units + 1 + 1 + (enc b).depth < cLine; omega) fun out hol hout => ?_))
  obtain ⟨n, hn⟩ := sortedHeap_at (vs := acc.toList) (out := out.toArray) hoL
  refine wpAny_pure ⟨_, rfl, h h' _ tk out n keep (fun b o q => ?_) hn hout⟩
  have hb : b < h'.objs.size := Heap.lt_size q
  rw [sortedHeap_old (Nat.ne_of_lt hb) (by rw [size_push']; exact Nat.lt_succ_of_lt hb)]
  exact Heap.get?_push_of_some _ q
end

/-! ### over the layer -/
section
variable {X : Cx}
theorem vals_each : ∀ {xs : List V} {us : List Value}, Vals xs us → EachIs (fun u x => RelV x u) us xs
  | _, _, .nil => .nil
  | _, _, .cons r t => .cons r (vals_each t)
theorem each_vals {β : Type} (f : β → V) : ∀ {us : List Value} {bs : List β}, EachIs (fun u b => RelV (f b) u) us bs → Vals (bs.map f) us
  | _, _, .nil => .nil
  | _, _, .cons r t => .cons r (each_vals f t)
theorem alike_of {β : Type} {enc : β → PyData} {bs : List β} (h : ∀ b b', alike (enc b) (enc b') = true) : AllAlike (bs.map enc) := AllAlike.of h
/-- a new list is laid behind a sort -/
theorem sorted_laid {pins : List (Addr × Obj)} {σ : L2.St} {H : Hp} {s : Shared} {Q : VK} {h1 h' : Heap} {tk n : Nat} {out : List Value} {ys : List V} (I : Inv X pins σ H s) (k1 : ∀ b o, s.heap.get? b = some o → h1.get? b = some o) (k2 : ∀ b o, h1.get? b = some o → h'.get? b = some o)
    (hn : h'.get? h1.objs.size = some (seqObj "list" out.toArray n)) (r : Vals ys out) (hz : ys.length ≤ sizeLine) (q : ∀ p, H p = none → Q (.ref p) (upd H p (.lst ys))) : EP X pins σ Q (.ref h1.objs.size) { s with heap := h', toks := tk } := by
  have I1 : Inv X pins σ H { s with heap := h1, toks := tk } := I.kept k1
  have fr : H h1.objs.size = none := I1.hok.fresh (Nat.le_refl _)
  exact ⟨.ref h1.objs.size, upd H h1.objs.size (.lst ys), I1.laid (t' := tk) k2 (Nat.le_refl _) (show ObjOk X.prog X.w _ _ _ (.lst ys) from ⟨hz, out, n, r, hn⟩), rfl, q _ fr⟩
/-- sorted(d): d's keys are ints -/
def rSortKI : List V → Hp → VK → Prop := fun vs H Q => ∃ (a : Addr) (kvs : List (Key × V)) (ks : List Int), vs = [.ref a] ∧ H a = some (.dK kvs) ∧ kvs.map (·.1) = ks.map Sum.inl ∧
  ∀ (ys : List Int) (p : Addr), ys.Perm ks → ys.Pairwise (· ≤ ·) → H p = none → Q (.ref p) (upd H p (.lst (ys.map V.int)))
theorem cr_sortKI (hc : X.calm = true) (hu : X.A.units + 20 < cLine) : CallR X (.builtin "sorted") rSortKI := by
  intro pins s σ H xs us Q I r q
  obtain ⟨a, kvs, ks, rfl, hd, hks, q⟩ := q
  obtain ⟨u, rfl, rx⟩ := vals1 r
  cases rx
  obtain ⟨z, lo, vs, rel, dd⟩ := dk_of I.hok hd
  obtain ⟨es, ep, raw, hsz, ent⟩ := Heap.DictOf.raw dd
  have hk2 : vs.map (·.1) = ks.map Sum.inl := rel.keys.symm.trans hks
  have hlen : vs.length = ks.length := by
    have e := congrArg List.length hk2
    rw [List.length_map, List.length_map] at e
    exact e
  have hz : ks.length ≤ sizeLine := by rw [← hlen, ← rel.length]; exact z
  refine sorted_raw (enc := fun i : Int => PyData.int i) (R := fun u i => RelV (.int i) u) (bs := ks) (I.ok.hd hc) lo raw (hsz.trans hlen) (fun i hi b hb => ?_) (alike_of fun b b' => by simp [alike]) (Sortable.others fun b => ⟨by simp, fun xs => by simp⟩) hz
    (fun b hb => by show _ + 2 + 0 < _; omega) fun h1 h' tk out n k1 k2 hn ho => ?_
  · have e3 : (vs.map (·.1))[i]? = some (Sum.inl b) := by rw [hk2, List.getElem?_map, hb]; rfl
    rw [List.getElem?_map] at e3
    cases e4 : vs[i]? with
    | none => rw [e4] at e3; cases e3
    | some kv =>
      rw [e4] at e3
      have e5 : kv.1 = Sum.inl b := Option.some.inj e3
      obtain ⟨e6, _⟩ := ent i hi kv.1 kv.2 e4
      rw [e5] at e6
      obtain ⟨t, e7⟩ := Value.isInt_shape (k := b) (v := es[i].key) e6
      rw [e7]
      exact ⟨⟨t, rfl⟩, .int b t⟩
  · have e : (fun i : Int => V.int i) = V.int := rfl
    refine sorted_laid I k1 k2 hn (ys := (ks.mergeSort (dataLe false fun i : Int => PyData.int i)).map V.int) (each_vals V.int ho) (by rw [List.length_map, List.length_mergeSort]; exact hz) fun p hp => q _ p (List.mergeSort_perm _ _) ?_ hp
    rw [dataLe_int (fun i : Int => i)]
    have := List.pairwise_mergeSort (le := fun a b : Int => decide (a ≤ b)) (fun a b c h1 h2 => by simp at h1 h2 ⊢; omega) (fun a b => by simp; omega) ks
    exact this.imp fun h => by simpa using h
/-- sorted(d): d's keys are texts -/
def rSortKS : List V → Hp → VK → Prop := fun vs H Q => ∃ (a : Addr) (kvs : List (Key × V)) (ks : List Str), vs = [.ref a] ∧ H a = some (.dK kvs) ∧ kvs.map (·.1) = ks.map Sum.inr ∧
  ∀ (ys : List Str) (p : Addr), ys.Perm ks → H p = none → Q (.ref p) (upd H p (.lst (ys.map V.str)))
theorem cr_sortKS (hc : X.calm = true) (hu : X.A.units + 20 < cLine) : CallR X (.builtin "sorted") rSortKS := by
  intro pins s σ H xs us Q I r q
  obtain ⟨a, kvs, ks, rfl, hd, hks, q⟩ := q
  obtain ⟨u, rfl, rx⟩ := vals1 r
  cases rx
  obtain ⟨z, lo, vs, rel, dd⟩ := dk_of I.hok hd
  obtain ⟨es, ep, raw, hsz, ent⟩ := Heap.DictOf.raw dd
  have hk2 : vs.map (·.1) = ks.map Sum.inr := rel.keys.symm.trans hks
  have hlen : vs.length = ks.length := by
    have e := congrArg List.length hk2
    rw [List.length_map, List.length_map] at e
    exact e
  have hz : ks.length ≤ sizeLine := by rw [← hlen, ← rel.length]; exact z
  refine sorted_raw (enc := fun i : Str => PyData.str i) (R := fun u i => RelV (.str i) u) (bs := ks) (I.ok.hd hc) lo raw (hsz.trans hlen) (fun i hi b hb => ?_) (alike_of fun b b' => by simp [alike]) (Sortable.others fun b => ⟨by simp, fun xs => by simp⟩) hz
    (fun b hb => by show _ + 2 + 0 < _; omega) fun h1 h' tk out n k1 k2 hn ho => ?_
  · have e3 : (vs.map (·.1))[i]? = some (Sum.inr b) := by rw [hk2, List.getElem?_map, hb]; rfl
    rw [List.getElem?_map] at e3
    cases e4 : vs[i]? with
    | none => rw [e4] at e3; cases e3
    | some kv =>
      rw [e4] at e3
      have e5 : kv.1 = Sum.inr b := Option.some.inj e3
      obtain ⟨e6, _⟩ := ent i hi kv.1 kv.2 e4
      rw [e5] at e6
      obtain ⟨t, e7⟩ := Value.isStrOf_shape (x := b) (v := es[i].key) e6
      rw [e7]
      exact ⟨⟨t, rfl⟩, .str b t⟩
  · exact sorted_laid I k1 k2 hn (ys := (ks.mergeSort (dataLe false fun i : Str => PyData.str i)).map V.str) (each_vals V.str ho) (by rw [List.length_map, List.length_mergeSort]; exact hz) fun p hp => q _ p (List.mergeSort_perm _ _) hp

/-! actions and edges as data -/
def eAct (a : A3) : PyData := .tuple [.str a.1, .str a.2.1, .str a.2.2]
def eEdge (e : A3 × Nat) : PyData := .tuple [eAct e.1, .int (e.2 : Int)]
def kA (a : A3) : List Key := [.inr a.1, .inr a.2.1, .inr a.2.2]
theorem kA_map (a : A3) : (kA a).map kV = [.str a.1, .str a.2.1, .str a.2.2] := rfl
theorem kA_inj {a b : A3} (h : kA a = kA b) : a = b := by
  have e : ([.inr a.1, .inr a.2.1, .inr a.2.2] : List Key) = [.inr b.1, .inr b.2.1, .inr b.2.2] := h
  simp only [List.cons.injEq, Sum.inr.injEq, and_true] at e
  exact Prod.ext e.1 (Prod.ext e.2.1 e.2.2)
theorem act_reads {pins : List (Addr × Obj)} {σ : L2.St} {H : Hp} {s : Shared} (I : Inv X pins σ H s) {v : V} {u : Value} {a : A3} (h : ActAt H v a) (r : RelV v u) : Reads s.heap u (eAct a) [] := by
  obtain ⟨p, rfl, hp⟩ := h
  cases r
  obtain ⟨its, rv, ⟨o, ho, hc, n, hd⟩, _⟩ := I.tuple (SqT.of hp)
  cases rv with
  | cons r1 t1 => cases t1 with
    | cons r2 t2 => cases t2 with
      | cons r3 t3 =>
        cases t3
        obtain ⟨k1, rfl⟩ := r1
        obtain ⟨k2, rfl⟩ := r2
        obtain ⟨k3, rfl⟩ := r3
        exact .tuple (as := [] ++ ([] ++ ([] ++ []))) ho hc hd (.cons (.str _ _) (.cons (.str _ _) (.cons (.str _ _) .nil)))
theorem edge_reads {pins : List (Addr × Obj)} {σ : L2.St} {H : Hp} {s : Shared} (I : Inv X pins σ H s) {v : V} {u : Value} {e : A3 × Nat} (h : EdgeAt H v e) (r : RelV v u) : Reads s.heap u (eEdge e) [] := by
  obtain ⟨p, va, rfl, hp, ha⟩ := h
  cases r
  obtain ⟨its, rv, ⟨o, ho, hc, n, hd⟩, _⟩ := I.tuple (SqT.of hp)
  cases rv with
  | cons r1 t1 => cases t1 with
    | cons r2 t2 =>
      cases t2
      obtain ⟨k2, rfl⟩ := (show ∃ t, _ = Value.int _ t from r2)
      exact .tuple (as := [] ++ ([] ++ [])) ho hc hd (.cons (act_reads I ha r1) (.cons (.int _ _) .nil))
theorem act_alike (a b : A3) : alike (eAct a) (eAct b) = true := by simp [eAct, alike, alikeAll]
theorem edge_alike (a b : A3 × Nat) : alike (eEdge a) (eEdge b) = true := by simp [eEdge, eAct, alike, alikeAll]
theorem act_depth (a : A3) : (eAct a).depth ≤ 1 := by simp [eAct, PyData.depth, PyData.depthAll]
theorem edge_depth (a : A3 × Nat) : (eEdge a).depth ≤ 2 := by simp [eEdge, eAct, PyData.depth, PyData.depthAll]
/-- sorted(xs), xs a list of edges -/
def rSortE (K : PySem.W.Frag) : List V → Hp → VK → Prop := fun vs H Q => ∃ (a : Addr) (xs : List V) (es : Row Str), vs = [.ref a] ∧ SqL K H a xs ∧ Paired (EdgeAt H) xs es ∧
  ∀ (ys : List V) (fs : Row Str) (p : Addr), fs.Perm es → Paired (EdgeAt H) ys fs → H p = none → Q (.ref p) (upd H p (.lst ys))
theorem cr_sortE (hu : X.A.units + 20 < cLine) : CallR X (.builtin "sorted") (rSortE X.K) := by
  intro pins s σ H xs us Q I r q
  obtain ⟨a, ws, es, rfl, hl, pe, q⟩ := q
  obtain ⟨u, rfl, rx⟩ := vals1 r
  cases rx
  obtain ⟨its, rv, pl, hz⟩ := I.list hl
  obtain ⟨z1, z2, z3⟩ := pd_zip pe
  have e0 := vals_each rv
  have hlz : ws.length = (ws.zip es).length := by rw [← List.length_map (f := (·.1)) (as := ws.zip es), z1]
  have e1 : EachIs (fun u (b : V × A3 × Nat) => RelV b.1 u) its (ws.zip es) := each_items (by rw [← hlz]; exact rv.length.symm) fun j v b h1 h2 => by
    have h3 : ws[j]? = some b.1 := by
      rw [← z1, List.getElem?_map, h2]; rfl
    obtain ⟨u, h4, h5⟩ := rv.get h3
    rw [h1] at h4
    cases h4
    exact h5
  refine sorted_data (R := fun u (b : V × A3 × Nat) => RelV b.1 u) (enc := fun b : V × A3 × Nat => eEdge b.2) (bs := ws.zip es) pl.isList e1 (each_items e1.length fun j v b h1 h2 => ?_) (alike_of fun b b' => edge_alike _ _) (Sortable.tuples fun b => ⟨_, _, rfl⟩) (by rw [← hlz]; exact hz)
    (fun b _ => by have := edge_depth b.2; omega) fun out ho hout => ?_
  · have h3 : ws[j]? = some b.1 := by
      rw [← z1, List.getElem?_map, h2]; rfl
    obtain ⟨u, h4, h5⟩ := rv.get h3
    rw [h1] at h4
    cases h4
    exact ⟨[], edge_reads I (z3 b (List.mem_of_getElem? h2)) h5⟩
  · generalize hm : (ws.zip es).mergeSort (dataLe false fun b : V × A3 × Nat => eEdge b.2) = ms at hout
    have hp : ms.Perm (ws.zip es) := hm ▸ List.mergeSort_perm _ _
    obtain ⟨n, hn⟩ := sortedAll_at s.heap its out.toArray
    have fr : H (s.heap.objs.size + 1) = none := I.hok.fresh (Nat.le_succ _)
    have hml : ms.length ≤ sizeLine := by rw [hp.length_eq, ← hlz]; exact hz
    refine ⟨.ref (s.heap.objs.size + 1), upd H (s.heap.objs.size + 1) (.lst (ms.map (·.1))), I.laid (t' := s.toks) (fun b o q => sortedAll_old q) (Nat.le_succ _) (show ObjOk X.prog X.w _ _ _ (.lst (ms.map (·.1))) from ⟨by rw [List.length_map]; exact hml, out, n, each_vals (fun b : V × A3 × Nat => b.1) hout, hn⟩), rfl, q _ (ms.map (·.2)) _ ?_ (pd_of ms fun z hz => z3 z (hp.mem_iff.mp hz)) fr⟩
    have := hp.map (·.2)
    rw [z2] at this
    exact this
/-- sorted(d), d's keys are actions -/
def rSortA : List V → Hp → VK → Prop := fun vs H Q => ∃ (a : Addr) (kvs : List (List Key × V)) (as : List A3), vs = [.ref a] ∧ H a = some (.dT kvs) ∧ kvs.map (·.1) = as.map kA ∧
  ∀ (ys : List V) (bs : List A3) (p : Addr), bs.Perm as → Paired (ActAt H) ys bs → H p = none → Q (.ref p) (upd H p (.lst ys))
theorem cr_sortA (hc : X.calm = true) (hu : X.A.units + 20 < cLine) : CallR X (.builtin "sorted") rSortA := by
  intro pins s σ H xs us Q I r q
  obtain ⟨a, kvs, as, rfl, hd, hks, q⟩ := q
  obtain ⟨u, rfl, rx⟩ := vals1 r
  cases rx
  obtain ⟨z, lo, xs, rel, dd⟩ := dt_of I.hok hd
  obtain ⟨es, ep, raw, hsz, ent⟩ := Heap.DictOfH.raw dd
  have hlx : kvs.length = xs.length := Paired.length rel
  have hla : kvs.length = as.length := by
    have e := congrArg List.length hks
    rw [List.length_map, List.length_map] at e
    exact e
  have pa : Paired (ActAt H) (xs.map fun x => V.ref x.2.1) as := by
    clear hsz ent dd hlx hla q hd z
    induction rel generalizing as with
    | nil =>
      cases as with
      | nil => exact .nil
      | cons b as => cases hks
    | @cons p x kvs xs r t ih =>
      cases as with
      | nil => cases hks
      | cons b as =>
        have hks' : p.1 :: kvs.map (·.1) = kA b :: as.map kA := hks
        obtain ⟨e1, e2⟩ := List.cons.inj hks'
        refine .cons ⟨_, rfl, ?_⟩ (ih as e2)
        obtain ⟨_, r2, _⟩ := r
        rw [e1] at r2
        exact r2
  obtain ⟨z1, z2, z3⟩ := pd_zip pa
  have hlz : as.length = ((xs.map fun x => V.ref x.2.1).zip as).length := by rw [← List.length_map (f := (·.2)) (as := (xs.map fun x => V.ref x.2.1).zip as), z2]
  refine sorted_raw (enc := fun b : V × A3 => eAct b.2) (R := fun u b => RelV b.1 u) (bs := (xs.map fun x => V.ref x.2.1).zip as) (I.ok.hd hc) lo raw (by rw [← hlz, hsz]; omega) (fun i hi b hb => ?_) (alike_of fun b b' => act_alike _ _) (Sortable.tuples fun b => ⟨_, _, rfl⟩) (by rw [← hlz]; omega)
    (fun b _ => by have := act_depth b.2; omega) fun h1 h' tk out n k1 k2 hn ho => ?_
  · obtain ⟨y, hy, hkey, _, _⟩ := ent i hi
    have h3 : (xs.map fun x => V.ref x.2.1)[i]? = some b.1 := by
      rw [← z1, List.getElem?_map, hb]; rfl
    rw [List.getElem?_map, hy] at h3
    have e : V.ref y.2.1 = b.1 := Option.some.inj h3
    have rr : RelV b.1 es[i].key := by rw [← e, hkey]; rfl
    exact ⟨rr, act_reads I (z3 b (List.mem_of_getElem? hb)) rr⟩
  · generalize hm : ((xs.map fun x => V.ref x.2.1).zip as).mergeSort (dataLe false fun b : V × A3 => eAct b.2) = ms at ho
    have hp : ms.Perm ((xs.map fun x => V.ref x.2.1).zip as) := hm ▸ List.mergeSort_perm _ _
    refine sorted_laid I k1 k2 hn (ys := ms.map (·.1)) (each_vals (fun b : V × A3 => b.1) ho) (by rw [List.length_map, hp.length_eq, ← hlz]; omega) fun p hp' => q _ (ms.map (·.2)) p ?_ (pd_of ms fun z hz => z3 z (hp.mem_iff.mp hz)) hp'
    have := hp.map (·.2)
    rw [z2] at this
    exact this
end
end Pk
/-! Dicts whose keys are tuples: a display of one pair, setdefault, a comprehension. -/
namespace Pk
open PySem PySem.Spec PyProof.Rows L2 PM

section
variable {X : Cx}
/-- the object of such a dict behind a store -/
theorem dT_stored {pins : List (Addr × Obj)} {σ : L2.St} {H : Hp} {s : Shared} {D b : Addr} {kvs : List (List Key × V)} {xs : List (List Key × Addr × Value)} {k : List Key} {v : V} {r : Value} {h' : Heap} {tk : Nat} (I : Inv X pins σ H s) (hD : H D = some (.dT kvs))
    (hb : H b = some (.tup (k.map kV))) (lo : (D == sysModules) = false) (hz : kvs.length < sizeLine) (rel : KT H kvs xs) (rv : RelV v r) (dd : h'.DictOfH (tupleKind (mixKind X.prog X.w)) D (storedH xs k b r)) (sb : Heap.SameBut D s.heap h') :
    Inv X pins σ (upd H D (.dT (putK kvs k v))) { s with heap := h', toks := tk } := by
  have room := length_putK kvs k v
  obtain ⟨ob, es, ep, at_, e1, e2, e3, _, e4⟩ := dd
  refine d_write I (by rw [hD]; trivial) sb ⟨ob, at_⟩ (show ObjOk X.prog X.w _ h' D (.dT (putK kvs k v)) from ⟨by omega, lo, _, KT.keeps (KT.put rel k hb rv) fun c ys hc => ?_, ob, es, ep, at_, e1, e2, e3, e4⟩)
  have ne : c ≠ D := by
    rintro rfl
    rw [hD] at hc
    cases hc
  rw [upd_ne ne, hc]

/-! ### {t: v} -/
def tDispT (trs : List (TE × TE)) : TE := fun σ H Q => ∀ p, H p = none → tPairs trs σ (upd H p (.dT [])) fun ps H2 => H2 p = some (.dT []) ∧ ∃ (k : List Key) (b : Addr) (z : V), ps = [(.ref b, z)] ∧ H2 b = some (.tup (k.map kV)) ∧ Q (.ref p) (upd H2 p (.dT [(k, z)]))
theorem pe_dispT {pos : Pos} {keys : List (Option Expr)} {values : List Expr} {trs : List (TE × TE)} (hu : X.A.units + 1 < cLine) (h : PPs X pos keys values trs) (hall : keys.all (·.isSome) = true) (hl : keys.length = values.length) (h1 : keys.length = 1) : PE X (.Dict keys values pos) (tDispT trs) := by
  refine ⟨fun pins s σ H Q I q => ?_⟩
  have ln := pairTrees_length keys values X.env pos hall hl
  have fresh := I.hok.fresh (Nat.le_refl s.heap.objs.size)
  have I1 : Inv X pins σ (upd H s.heap.objs.size (.dT [])) { s with heap := s.heap.push { cls := .type "dict", data := .dict #[] } } := I.laid (t' := s.toks) (fun _ _ z => Heap.get?_push_of_some _ z) (Nat.le_refl _) (dt_empty s.heap I.big)
  have ne : pairTrees keys values X.env pos ≠ [] := fun z => by
    rw [z] at ln
    rw [← ln] at h1
    cases h1
  rw [arm_eval_Dict, zip_pairTrees keys values X.env pos hall hl, dictDisplay_pairs _ ne (by rw [ln, h1]; decide)]
  refine wpAny_bind (wpAny_standAt (wpAny_bind (wpAny_subDictH (knd := tupleKind (mixKind X.prog X.w)) (show X.A.units < cLine by omega) (by rw [ln, h1]; decide)
    (thn (h.run pins _ σ _ _ I1 (q _ fresh)) fun ws s2 ⟨ps, H2, I2, rel, hp, k, b, z, e, hb, q2⟩ => ?_))))
  subst e
  cases rel with
  | @cons a c as cs r t =>
    cases t
    obtain ⟨u, y⟩ := c
    obtain ⟨r1, r2⟩ := r
    have r1 : u = Value.ref b := r1
    subst r1
    obtain ⟨z0, lo, xs, kt, dd⟩ := dt_of I2.hok hp
    cases kt
    refine ⟨[(k, b, y)], ⟨rfl, rfl, key_of I2.hok hb, True.intro⟩, dd, fun h' tk dd' sb => wpAny_pure ⟨.ref s.heap.objs.size, _, ?_, rfl, q2⟩⟩
    exact dT_stored (k := k) (v := z) I2 hp hb lo (by decide) .nil r2 dd' sb

/-! ### d.setdefault(t, x) -/
def tSetdT (td ty tx : TE) : TE := fun σ H Q => td σ H fun x H1 => ∃ a, x = .ref a ∧ (∃ kvs, H1 a = some (.dT kvs)) ∧ ty σ H1 fun y H2 => tx σ H2 fun z H3 => ∃ (kvs : List (List Key × V)) (k : List Key) (b : Addr), H3 a = some (.dT kvs) ∧ y = .ref b ∧ H3 b = some (.tup (k.map kV)) ∧ kvs.length < sizeLine ∧
  (∀ v, valV kvs k = some v → Q v H3) ∧ (valV kvs k = none → Q z (upd H3 a (.dT (putK kvs k z))))
theorem pe_setdT {o e f : Expr} {td ty tx : TE} {apos cpos : Pos} (hu : X.A.units + 1 < cLine) (ho : PE X o td) (he : PE X e ty) (hf : PE X f tx) (m : M2 X o "setdefault" apos e f cpos) : PE X (.Call (.Attribute o "setdefault" apos) [e, f] [] cpos) (tSetdT td ty tx) := by
  refine ⟨fun pins s σ H Q I h => ?_⟩
  refine wpAny_Call_method m.base m.few m.line F.plainAttrs_dict F.slot_dict_setdefault F.type_dict_setdefault (thn (ho.run pins s σ H _ I h) fun u s1 ⟨x, H1, I1, rx, a, ex, ⟨kvs0, d0⟩, q1⟩ => ?_)
  subst ex
  cases (show u = Value.ref a from rx)
  obtain ⟨t1, t2, _⟩ := isD_at I1 (.inr ⟨kvs0, .inl d0⟩)
  refine ⟨t1, t2, ?_⟩
  rw [m.trees]
  refine Calls.callWith_builtin rfl (Calls.evalArgs_plain (Calls.spliced_cons (thn (he.run pins s1 σ H1 _ I1 q1) fun iv s2 ⟨y, H2, I2, ry, q2⟩ =>
    Calls.spliced_cons (thn (hf.run pins s2 σ H2 _ I2 q2) fun fv s3 ⟨z, H3, I3, rz, kvs, k, b, ea, ey, eb, lt, there, new⟩ => Calls.spliced_nil ?_))))
  subst ey
  cases (show iv = Value.ref b from ry)
  obtain ⟨zl, lo, xs, kt, dd⟩ := dt_of I3.hok ea
  have val := KT.val kt k
  refine call_setdefault_heap (hsz := by rw [← Paired.length kt]; exact zl) (tupleKind_room_in1 hu) (key_of I3.hok eb) lo dd (fun p hp => ?_) fun hn h' dd' sb => ?_
  · rw [hp] at val
    cases e0 : valV kvs k with
    | none =>
      rw [e0] at val
      exact False.elim val
    | some v0 =>
      rw [e0] at val
      exact ⟨v0, H3, I3.tok _, val, there v0 e0⟩
  · rw [hn] at val
    cases e0 : valV kvs k with
    | some v0 =>
      rw [e0] at val
      exact False.elim val
    | none => exact ⟨z, _, dT_stored I3 ea eb lo lt kt rz dd' sb, rz, new e0⟩

/-! ### {t: v for .. in ..} -/
def tDcT (wi : TI) (g : TG) (tk tv : TE) (vs : List Nat) : TE := fun σ H Q => wi σ H fun J H1 => ∀ D, H1 D = none → ∃ W : Nat → Nat → Hp → Prop, (∃ m, W 0 m (upd H1 D (.dT []))) ∧ ∀ i m H, W i m H →
  (J.stop i H ∧ Q (.ref D) H) ∨ (J.go i H ∧ ∃ Nx : Hp → Prop, (∀ H', Nx H' → ∃ m', m' < m ∧ W (i + 1) m' H') ∧ ∀ x H', J.yld i H x H' → g x (wipe σ vs) H' fun σ2 H2 => wipe σ2 vs = wipe σ vs ∧
    tk σ2 H2 fun y H3 => tv σ2 H3 fun z H4 => ∃ (kvs : List (List Key × V)) (k : List Key) (b : Addr), y = .ref b ∧ H4 b = some (.tup (k.map kV)) ∧ H4 D = some (.dT kvs) ∧ kvs.length < sizeLine ∧ Nx (upd H4 D (.dT (putK kvs k z))))
theorem dictSetT {Y : Cx} {pins : List (Addr × Obj)} {σ : L2.St} {H : Hp} {s : Shared} {E : Value → Shared → Prop} {D b : Addr} {kvs : List (List Key × V)} {k : List Key} {v : V} {r : Value} {Q : Unit → Shared → Prop} (hu : Y.A.units + 1 < cLine) (I : Inv Y pins σ H s) (hD : H D = some (.dT kvs))
    (hb : H b = some (.tup (k.map kV))) (hz : kvs.length < sizeLine) (rv : RelV v r) (h : ∀ s', Inv Y pins σ (upd H D (.dT (putK kvs k v))) s' → Q () s') : wpAny (model Y.prog Y.w) Y.A (dictSet D (.ref b) r) Q E s := by
  obtain ⟨zl, lo, xs, kt, dd⟩ := dt_of I.hok hD
  exact wpAny_dictSet_heap (hsz := by rw [← Paired.length kt]; exact zl) (show Y.A.units < cLine by omega) (key_of I.hok hb) dd fun h' dd' sb => h _ (dT_stored I hD hb lo hz kt rv dd' sb)
theorem pe_dcT {kx vx tg iter : Expr} {scope : Scope} {own : List (Str × Nat)} {pos : Pos} {wi : TI} {g : TG} {tk tv : TE} (hc : X.calm = true) (hu : X.A.units + 1 < cLine) (hN : X.N.Nodup) (hi : PI X tg iter wi) (ok : BlkOk X.N X.env.scope scope own)
    (hg : ∀ (s : Shared) (H : Hp) (C : Addr) (cl : List (Str × Addr)) (fp : List Addr), PG (X.blk s H scope (compEnvC scope cl C X.env) fp) tg g)
    (hk : ∀ (s : Shared) (H : Hp) (C : Addr) (cl : List (Str × Addr)) (fp : List Addr), PE (X.blk s H scope (compEnvC scope cl C X.env) fp) kx tk)
    (hv : ∀ (s : Shared) (H : Hp) (C : Addr) (cl : List (Str × Addr)) (fp : List Addr), PE (X.blk s H scope (compEnvC scope cl C X.env) fp) vx tv) (hs : ∀ x, foldedSetIterable iter X.env x = pure x := by intro _; rfl) :
    PE X (.DictComp kx vx [⟨tg, iter, [], 0⟩] scope pos) (tDcT wi g tk tv (own.map (·.2))) := by
  refine ⟨fun pins s σ H Q I h => ?_⟩
  rw [arm_eval_DictComp]
  have cells : ∀ y ∈ scope.names, y.2 = .free → ∃ c, X.env.cells.lookup y.1 = some c := fun y hy e => I.ok.has _ (ok.free y hy e)
  refine wpAny_comprehension_free (use := none) rfl hs (closure_ok cells) ok.kind (fun y hy e => by rw [ok.uniq y hy, e]) (thn (hi.run pins s σ H _ I h) fun xv s1 hx => thn hx fun itv s2 hit => ?_)
  obtain ⟨it, fp, tn, J, H2, e, I2, T, t2, f2, body⟩ := hit
  subst e
  refine wpAny_newObj_type (newEnv_comp ?_)
  have fresh : H2 s2.heap.objs.size = none := I2.hok.fresh (Nat.le_refl _)
  have I3 : Inv X pins σ (upd H2 s2.heap.objs.size (.dT [])) { s2 with heap := s2.heap.push { cls := .type "dict", data := .dict #[] } } := I2.laid (t' := s2.toks) (fun b o z => Heap.get?_push_of_some _ z) (Nat.le_refl _) (dt_empty s2.heap I2.big)
  obtain ⟨W, ⟨m0, w0⟩, turn⟩ := body _ fresh
  -- the iterator's own objects are older than the dict
  have old : ∀ b ∈ fp, b < s2.heap.objs.size := fun b hb => by
    obtain ⟨o, z, _⟩ := T.obj _ _ t2 b hb
    exact Heap.lt_size z
  have f3 : ∀ b ∈ fp, FpOk X pins (upd H2 s2.heap.objs.size (.dT [])) b ∧ b < (s2.heap.push { cls := .type "dict", data := .dict #[] }).objs.size := fun b hb => by
    refine ⟨⟨?_, (f2 b hb).2⟩, by rw [Heap.size_push]; exact Nat.lt_succ_of_lt (old b hb)⟩
    rw [upd_ne (Nat.ne_of_lt (old b hb))]
    exact (f2 b hb).1
  have t3 : tn 0 (s2.heap.push { cls := .type "dict", data := .dict #[] }) := T.keep _ _ _ t2 fun b _ o z => Heap.get?_push_of_some _ z
  clear fresh old
  generalize hD : s2.heap.objs.size = D at I3 f3 w0 turn ⊢
  generalize hs3 : ({ s2 with heap := s2.heap.push { cls := .type "dict", data := .dict #[] } } : Shared) = s3 at I3
  have hs3h : s2.heap.push { cls := .type "dict", data := .dict #[] } = s3.heap := by rw [← hs3]
  rw [hs3h] at f3 t3
  generalize hH3 : upd H2 D (.dT []) = H3 at I3 f3 w0
  have I4 := block_start I3 ok hN f3
  have pg := hg s3 H3 s3.heap.objs.size (cellsFrom (s3.heap.objs.size + 1) scope.names (cloFrom X.env.cells scope.names [])) fp
  have pk := hk s3 H3 s3.heap.objs.size (cellsFrom (s3.heap.objs.size + 1) scope.names (cloFrom X.env.cells scope.names [])) fp
  have pv := hv s3 H3 s3.heap.objs.size (cellsFrom (s3.heap.objs.size + 1) scope.names (cloFrom X.env.cells scope.names [])) fp
  show codeAny _ _ (.compStart (.DictComp kx vx [⟨tg, iter, [], 0⟩] scope pos) 0 (.ref it) (.ref D) (compEnvC scope (cellsFrom (s3.heap.objs.size + 1) scope.names (cloFrom X.env.cells scope.names [])) s3.heap.objs.size X.env))
    (compPost (model X.prog X.w) X.A X.xe none (EP X pins σ Q) (.ref D) s3.heap.objs.size) { s3 with heap := pushCells (s3.heap.push { cls := .type "dict", data := .dict #[] }) scope.names }
  generalize hce : compEnvC scope (cellsFrom (s3.heap.objs.size + 1) scope.names (cloFrom X.env.cells scope.names [])) s3.heap.objs.size X.env = ce at I4 pg pk pv ⊢
  have cl : ce.locals = s3.heap.objs.size := by rw [← hce]; rfl
  generalize hs4 : ({ s3 with heap := pushCells (s3.heap.push { cls := .type "dict", data := .dict #[] }) scope.names } : Shared) = s4 at I4 ⊢
  have t4 : tn 0 s4.heap := T.keep _ _ _ t3 fun b _ o z => by rw [← hs4]; exact pushCells_keeps _ _ _ _ (Heap.get?_push_of_some _ z)
  have n3 : ∀ b ∈ fp, H3 b = none := fun b hb => (f3 b hb).1.1
  have fpIn : ∀ {σ' : L2.St} {H' : Hp} {s' : Shared}, Inv (X.blk s3 H3 scope ce fp) [] σ' H' s' → (∀ b ∈ fp, H' b = none) → ∀ b ∈ fp, FpOk (X.blk s3 H3 scope ce fp) [] H' b := fun J' hn b hb =>
    ⟨hn b hb, (J'.ok.exf b hb).1, J'.ok.exfs b hb, .inl hb, fun x c z => (J'.ok.exf b hb).2 x c z, fun p hp => by cases hp⟩
  refine codeAny_compStart_dict ?loop (T.self X.A 0 _ _ _ t4 ?loop)
  refine compLoop_anyD (fun n s' => ∃ i H', Inv (X.blk s3 H3 scope ce fp) [] (wipe σ (own.map (·.2))) H' s' ∧ tn i s'.heap ∧ (∀ b ∈ fp, H' b = none) ∧ W i n H') ?_ m0 ⟨0, H3, I4, t4, n3, w0⟩
  rintro n s5 ⟨i, H5, I5, t5, n5, w5⟩
  rcases turn i n H5 w5 with ⟨stop, done⟩ | ⟨go, Nx, lower, step⟩
  · refine thnF (T.done (X.blk s3 H3 scope ce fp) rfl rfl rfl hc i [] s5 _ H5 (fun _ _ => False) I5 (fpIn I5 n5) t5 stop) fun r s6 ⟨hr, I6⟩ => ?_
    subst hr
    have back : Inv X pins σ H5 s6 := I3.call' (ch := fp) I6.os I6.base I6.hok I6.bare fun b hb => let z := (f3 b hb).1.2; ⟨z.2.2.1, z.1, z.2.2.2.1, z.2.2.2.2⟩
    obtain ⟨mm, ns, _⟩ := I6.loc
    have ns : s6.heap.Ns ce.locals mm := ns
    have free : H5 ce.locals = none := I6.free
    rw [cl] at ns free
    obtain ⟨g0, g1, g2, g3, g4, g5⟩ := I3.fpOk (H' := H5) (Nat.le_refl _) free
    exact ⟨mm, ns, fun h'' sb => ⟨.ref D, H5, back.turned (t' := s6.toks) (fun b o hb z => (sb.2 b hb).trans z) g0 g1 g3 g4 g5, rfl, done⟩⟩
  · refine thnF (T.item (X.blk s3 H3 scope ce fp) rfl rfl rfl hc i [] s5 _ H5 (fun _ _ => False) I5 (fpIn I5 n5) t5 go) fun r s6 ⟨u, hr, next⟩ => ?_
    subst hr
    refine thnF next fun _ s7 ⟨x, H7, I7, r7, y7, t7, n7⟩ => ?_
    refine thnF (pg.run _ s7 _ H7 x u _ (I7.pinned (fpIn I7 n7) (T.obj _ _ t7)) r7 (step x H7 y7)) fun _ s8 ⟨σ8, H8, I8, w8, q8⟩ => ?_
    refine wpAny_tests_nil ?_
    simp only [if_true]
    refine thnF (pk.run _ s8 σ8 H8 _ I8 q8) fun kv s9 ⟨yk, H9, I9, r9, q9⟩ => ?_
    refine thnF (pv.run _ s9 σ8 H9 _ I9 q9) fun vv s10 ⟨yv, H10, I10, r10, kvs, k, b, ek, eb, eD, lt, nx⟩ => ?_
    subst ek
    cases (show kv = Value.ref b from r9)
    refine dictSetT (Y := X.blk s3 H3 scope ce fp) hu I10 eD eb lt r10 fun s11 I11 => ?_
    obtain ⟨m', hm, w'⟩ := lower _ nx
    have pins' : ∀ c ∈ fp, ∀ o, s7.heap.get? c = some o → s11.heap.get? c = some o ∧ (upd H10 D (.dT (putK kvs k yv))) c = none := fun c hcm o z =>
      let q := I11.pin (c, o) (List.mem_append_right _ (List.mem_append_right _ (mem_pinsAt hcm z)))
      ⟨q.1, q.2.1⟩
    refine ⟨m', hm, i + 1, _, (I11.unpinned (pins := [])).weak (by rw [← w8, wipe_length]) (fun j v z => ?_), T.keep _ _ _ t7 fun c hcm o z => (pins' c hcm o z).1, fun c hcm => ?_, w'⟩
    · rw [← w8] at z
      exact (wipe_some z).1
    · obtain ⟨o, z, _⟩ := T.obj _ _ t7 c hcm
      exact (pins' c hcm o z).2
end
end Pk
/-! len(set(..)), text times a number, enumerate of a tuple. -/
namespace PySem
open Sem (wp)
open AutoSeq1 (wpAny_loadPart')
theorem pk_enum_new (a : Addr) (items : Array Value) :
    Meets (Builtin.«enumerate.__new__» ⟨[.type "enumerate", .ref a], []⟩) (fun _ R s => s.heap.IsTuple a items ∧
      R (.ok (.ret (.ref (s.heap.push { cls := .type "tuple_iterator", data := .fields #[.ref a, .int 0 0] }).objs.size)))
        { s with heap := (s.heap.push { cls := .type "tuple_iterator", data := .fields #[.ref a, .int 0 0] }).push { cls := .type "enumerate", data := .fields #[.none, .bool false, .ref s.heap.objs.size, rawInt 0, .none, .none] } }) :=
  .of_wp fun prog w A R s h => by
    obtain ⟨hp, g, d, tk, os⟩ := s
    obtain ⟨h1, h⟩ := h
    have hsub := sub_enumerate
    have walk : ∀ {A' : Around} {E : Value → Shared → Prop} {Q : Value → Shared → Prop}, Q (.ref hp.objs.size) ⟨hp.push { cls := .type "tuple_iterator", data := .fields #[.ref a, .int 0 0] }, g, d, tk, os⟩ → wpAny (model prog w) A' (pyIter (.ref a)) Q E ⟨hp, g, d, tk, os⟩ :=
      fun q => wpAny_pyIter_tuple (s := ⟨hp, g, d, tk, os⟩) h1 q
    wp_walk using walk
    refine wpAny_stack_any fun st => wpAny_pure ?_
    split
    · rename_i c _ _ _ _ _
      cases (c == Value.type "enumerate") <;> (wp_walk using walk; exact ⟨_, rfl, h⟩)
    · wp_walk using walk
      exact ⟨_, rfl, h⟩
end PySem
namespace Pk
open PySem PySem.Spec PyProof.Rows L2 PM
section
variable {prog : Program} {w : World} {A : Around} {E : Value → Shared → Prop} {s : Shared}
theorem call_enumT {a : Addr} {items : Array Value} {Q : Value → Shared → Prop} (hL : s.heap.IsTuple a items)
    (h : ∀ h', IsEnum h' (s.heap.objs.size + 1) s.heap.objs.size 0 .none → h'.IsTupleIter s.heap.objs.size a 0 → (∀ b o, s.heap.get? b = some o → h'.get? b = some o) → Q (.ref (s.heap.objs.size + 1)) { s with heap := h' }) :
    wpAny (model prog w) A (call (.type "enumerate") [.ref a]) Q E s := by
  refine callType_new F.called_enumerate (by decide) (F.typeCall_enumerate_1 _) (F.newCall_enumerate_1 _) (fun obj => F.args_object_init_2 obj _) F.entry_enumerate_new (pk_enum_new a items) ⟨hL, ?_⟩
  have hz : (s.heap.push { cls := .type "tuple_iterator", data := .fields #[.ref a, .int 0 0] }).objs.size = s.heap.objs.size + 1 := Heap.size_push ..
  have he : IsEnum ((s.heap.push { cls := .type "tuple_iterator", data := .fields #[.ref a, .int 0 0] }).push { cls := .type "enumerate", data := .fields #[.none, .bool false, .ref s.heap.objs.size, rawInt 0, .none, .none] }) (s.heap.objs.size + 1) s.heap.objs.size 0 .none := by
    rw [← hz]
    exact Heap.get?_push_size _ rfl
  show _ ∧ _
  rw [hz]
  exact ⟨⟨_, he, rfl⟩, h _ he ⟨_, Heap.get?_push_of_some _ (Heap.get?_push_size _ rfl), rfl, rfl⟩ fun b o x => Heap.get?_push_of_some _ (Heap.get?_push_of_some _ x)⟩
end
/-- the tuple at a, each item in a new pair with its place -/
def IteT (a : Addr) : It :=
  ⟨fun i H => ∃ (xs : List V) (x : V), H a = some (.tup xs) ∧ xs[i]? = some x, fun i H v H' => ∃ T x, v = .ref T ∧ H T = none ∧ H' = upd H T (.tup [nV i, x]) ∧ ∀ xs, H a = some (.tup xs) → xs[i]? = some x,
    fun i H => ∃ xs : List V, H a = some (.tup xs) ∧ xs.length = i⟩
theorem turn_enumT {P : Program} {w : World} {K : PySem.W.Frag} {elts : List Expr} {kk : Nat} {tpos : Pos} (a e it : Addr) :
    Turn P w K (.Tuple elts kk tpos) (IteT a) [e, it] e (fun i h => (∃ old, IsEnum h e it ((i : Nat) : Int) old) ∧ h.IsTupleIter it a i ∧ e ≠ it) where
  mem := List.mem_cons_self
  obj := fun i h st b hb => by
    obtain ⟨⟨old, he⟩, ⟨o, ho, hc, hd⟩, _⟩ := st
    rcases List.mem_cons.mp hb with z | z
    · rw [z]
      exact ⟨_, he, fun v q => nomatch q⟩
    · rw [List.mem_singleton.mp z]
      exact ⟨o, ho, fun v q => by rw [hd] at q; cases q⟩
  keep := fun i h h' st k => let ⟨⟨old, he⟩, hi, hne⟩ := st; ⟨⟨old, k e (by simp) _ he⟩, hi.at fun o q => k it (by simp) o q, hne⟩
  item := by
    intro X hP hw hK hc i pins s σ H E I hf st hg
    subst hP hw hK
    obtain ⟨⟨old, he⟩, hit, hne⟩ := st
    obtain ⟨xs, x, hq, hx⟩ := hg
    obtain ⟨its, rv, p, hz⟩ := I.tuple (SqT.of hq)
    obtain ⟨u, hu, ru⟩ := rv.get hx
    have na : ∀ b ∈ [e, it], b ≠ a := fun b hb z => by
      have := (hf b hb).1
      rw [z, hq] at this
      cases this
    have Dr := Draws.tuple (prog := X.prog) (w := X.w) (A := X.A.in1) (I.ok.hd hc) it a (na it (by simp)).symm its.toArray
    have hi : i < its.toArray.size := by
      rw [List.size_toArray]
      exact (List.getElem?_eq_some_iff.mp hu).1
    have hel : e < s.heap.objs.size := Heap.lt_size he
    have hil : it < s.heap.objs.size := by obtain ⟨_, q, _⟩ := hit; exact Heap.lt_size q
    refine wpAny_pyNext_enum_itemD Dr he ⟨hit, p⟩ hi hne (by simp [hne, na e (by simp)]) fun v h' tk hv ho hst hT hsz hk => ?_
    have ev : v = u := by
      have z : its[i]? = some v := by simpa using hv
      rw [hu] at z
      exact (Option.some.inj z).symm
    subst ev
    refine ⟨_, rfl, wpAny_letOwnedTupleGo_enum (s := { s with heap := h', toks := tk + 1 }) ho fun h'' he' sb => ?_⟩
    have hT2 : h''.get? s.heap.objs.size = some { cls := .type "tuple", data := .seq #[.int i tk, v] } := (sb.2 _ (Nat.ne_of_gt hel)).trans hT
    have I1 : Inv X pins σ (upd H s.heap.objs.size (.tup [nV i, x])) { s with heap := h'', toks := tk + 1 } :=
      I.turnedNew (ch := [e, it]) (fun b ob hb q => (sb.2 b fun z => hb (by simp [z])).trans (hk b ob (fun z => hb (by simp [z])) (fun z => hb (by simp [z])) q)) hf (Nat.le_refl _)
        (show ObjOk X.prog X.w _ h'' _ (.tup [nV i, x]) from ⟨by show 2 ≤ sizeLine; decide, [.int i tk, v], .cons ⟨_, rfl⟩ (.cons ru .nil), ⟨_, hT2, rfl, _, rfl⟩⟩)
    refine ⟨.ref s.heap.objs.size, _, I1, rfl, ⟨_, x, rfl, I.hok.fresh (Nat.le_refl _), rfl, fun ys hy => ?_⟩, ⟨⟨v, ?_⟩, hst.1.at fun o q => (sb.2 it (Ne.symm hne)).trans q, hne⟩, fun b hb => ?_⟩
    · rw [hq] at hy
      cases hy
      exact hx
    · have e1 : ((i + 1 : Nat) : Int) = (i : Int) + 1 := by omega
      rw [e1]
      exact he'
    · have lt : b < s.heap.objs.size := by
        rcases List.mem_cons.mp hb with z | z
        · rw [z]; exact hel
        · rw [List.mem_singleton.mp z]; exact hil
      rw [upd_ne (Nat.ne_of_lt lt)]
      exact (hf b hb).1
  done := by
    intro X hP hw hK hc i pins s σ H E I hf st hg
    subst hP hw hK
    obtain ⟨⟨old, he⟩, hit, hne⟩ := st
    obtain ⟨xs, hq, hx⟩ := hg
    obtain ⟨its, rv, p, hz⟩ := I.tuple (SqT.of hq)
    obtain ⟨f0, f1, f2, f3, f4, f5⟩ := hf it (by simp)
    have na : it ≠ a := fun z => by
      rw [z, hq] at f0
      cases f0
    have hl := rv.length
    have hn : its.toArray.size = i := by rw [List.size_toArray, ← hl, hx]
    have Dn := Draws.tuple (prog := X.prog) (w := X.w) (A := X.A.in1) (I.ok.hd hc) it a na.symm its.toArray
    rw [hn] at Dn
    exact wpAny_pyNext_enum_endD Dn he ⟨hit, p⟩ fun h' eb => ⟨rfl, I.turned (t' := s.toks) (fun b o hb q => eb b o hb q) f0 f1 f3 f4 f5⟩
  self := fun A i s Q E st h => let ⟨⟨_, he⟩, _⟩ := st; wpAny_pyIter_enum he h

def iEnumT (ta : TA) : TI := fun σ H R => ta σ H fun vs H1 => ∃ (a : Addr) (xs : List V), vs = [.ref a] ∧ H1 a = some (.tup xs) ∧ R (IteT a) H1
theorem pi_enumT {X : Cx} {e : Expr} {ta : TA} {p pos tpos : Pos} {elts : List Expr} {kk : Nat} (hg : Gl X "enumerate") (hm : X.mg "enumerate" = none) (ha : PA X [e] ta) (hs : starEach [e] X.env = [(false, eval e X.env)] := by rfl) :
    PI X (.Tuple elts kk tpos) (.Call (.Name "enumerate" p) [e] [] pos) (iEnumT ta) := by
  refine ⟨fun pins s σ H R I h => ?_⟩
  refine Call_ (ld_blt I hg hm boot_enumerate (PyProof.Rows.callWith_type1 (thn (ha.run pos pins s σ H _ I h) fun us s1 ⟨vs, H1, I1, r1, a, xs, ex, hq, q⟩ => ?_) hs rfl))
  subst ex
  obtain ⟨u, rfl, r⟩ := vals1 r1
  cases r
  obtain ⟨its, rv, p', hz⟩ := I1.tuple (SqT.of hq)
  refine call_enumT (items := its.toArray) p' fun h' he hit hk => wpAny_pyIter_enum he ?_
  refine ⟨s1.heap.objs.size + 1, [s1.heap.objs.size + 1, s1.heap.objs.size], _, _, H1, rfl, I1.kept (t' := s1.toks) hk, turn_enumT a (s1.heap.objs.size + 1) s1.heap.objs.size, ⟨⟨.none, he⟩, hit, Nat.succ_ne_self _⟩, fun b hb => ?_, q⟩
  have hle : s1.heap.objs.size ≤ b := by
    rcases List.mem_cons.mp hb with z | z
    · rw [z]; exact Nat.le_add_right _ _
    · rw [List.mem_singleton.mp z]; exact Nat.le_refl _
  exact I1.fpOk hle (I1.hok.fresh hle)
theorem walk_enumT {a : Addr} {xs : List V} : Walk (IteT a) xs.length (fun H => H a = some (.tup xs)) (YPair (fun i => some (nV i)) (fun i => xs[i]?)) := by
  refine ⟨fun i _ hi q => ⟨xs, xs[i], q, by simp [hi]⟩, fun _ q => ⟨xs, q, rfl⟩, fun i H v H' _ q y => ?_⟩
  obtain ⟨T, x, h1, h2, h3, h4⟩ := y
  exact ⟨T, nV i, x, h1, h2, h3, rfl, h4 xs q⟩

/-! ### text * number -/
theorem op_mul_str {X : Cx} : OpR X (binaryOp .Mult) (fun x y H Q => ∃ (z : Str) (n : Int), x = .str z ∧ y = .int n ∧ 0 ≤ n ∧ n ≤ 1000 ∧ z.length ≤ 1000 ∧ Q (.str (Txt.mul z n)) H) := by
  intro pins s σ H x y v u Q I rx ry h
  obtain ⟨z, n, rfl, rfl, h0, h1, hz, q⟩ := h
  obtain ⟨t, rfl⟩ := rx
  obtain ⟨t', rfl⟩ := ry
  refine SB.mul ⟨by simp; omega, fun hn _ => ?_, fun hn _ => ?_⟩ fun t' k => ⟨.str (Txt.mul z n), H, I.tok _, ⟨_, rfl⟩, q⟩
  · have h2 : (2 ^ 63 - 1) / n ≥ 1000 := by
      rw [ge_iff_le, Int.le_ediv_iff_mul_le (by omega)]
      omega
    omega
  · unfold Builtin.Str.tooLong
    have e : z.length * n.toNat ≤ 1000 * 1000 := Nat.mul_le_mul hz (by omega)
    have := sizeLine_eq
    simp
    omega

/-! ### len(set(xs)) -/
abbrev iN (n : Nat) : Int := (n : Int)
theorem met_nodup (val : Nat → Int) : ∀ i, (firstMet val i).Nodup
  | 0 => by rw [firstMet_zero]; exact List.nodup_nil
  | i + 1 => by
    rw [firstMet_succ]
    unfold step_dedup
    split
    · exact met_nodup val i
    · rename_i h
      refine nd_snoc (met_nodup val i) fun hm => h (List.any_eq_true.mpr ⟨_, hm, by simp⟩)
theorem met_mem (val : Nat → Int) (i : Nat) (k : Int) : k ∈ firstMet val i ↔ ∃ j, j < i ∧ val j = k := by
  have e := firstMet_any val i k
  constructor
  · intro h
    have h1 : ((firstMet val i).any (· == k)) = true := List.any_eq_true.mpr ⟨k, h, by simp⟩
    rw [e] at h1
    obtain ⟨x, hx, hk⟩ := List.any_eq_true.mp h1
    obtain ⟨j, hj, rfl⟩ := List.mem_map.mp hx
    exact ⟨j, List.mem_range.mp hj, by simpa using hk⟩
  · rintro ⟨j, hj, hk⟩
    have h1 : (((List.range i).map val).any (· == k)) = true := List.any_eq_true.mpr ⟨val j, List.mem_map.mpr ⟨j, List.mem_range.mpr hj, rfl⟩, by simp [hk]⟩
    rw [← e] at h1
    obtain ⟨x, hx, hk2⟩ := List.any_eq_true.mp h1
    have : x = k := by simpa using hk2
    exact this ▸ hx
theorem met_card (ns : List Nat) : IsCard ns (firstMet (fun i => (ns.map iN).getD i 0) ns.length).length := by
  have val : ∀ j, j < ns.length → (ns.map iN).getD j 0 = ((ns.getD j 0 : Nat) : Int) := fun j hj => by
    simp [List.getD, hj]
  have pos : ∀ k ∈ firstMet (fun i => (ns.map iN).getD i 0) ns.length, ∃ n ∈ ns, (n : Int) = k := fun k hk => by
    obtain ⟨j, hj, e⟩ := (met_mem _ _ _).mp hk
    refine ⟨ns[j], List.getElem_mem hj, ?_⟩
    rw [← e, val j hj]
    simp [List.getD, hj]
  refine ⟨(firstMet (fun i => (ns.map iN).getD i 0) ns.length).map Int.toNat, ?_, fun x => ?_, by rw [List.length_map]⟩
  · rw [List.Nodup, List.pairwise_map]
    refine (met_nodup _ _).imp_of_mem fun ha hb hne e => hne ?_
    obtain ⟨a, _, rfl⟩ := pos _ ha
    obtain ⟨b, _, rfl⟩ := pos _ hb
    have e : ((a : Int).toNat) = ((b : Int).toNat) := e
    omega
  · constructor
    · intro h
      obtain ⟨k, hk, rfl⟩ := List.mem_map.mp h
      obtain ⟨n, hn, rfl⟩ := pos k hk
      exact hn
    · intro h
      obtain ⟨j, hj⟩ := List.getElem?_of_mem h
      have hlt : j < ns.length := (List.getElem?_eq_some_iff.mp hj).1
      refine List.mem_map.mpr ⟨(x : Int), (met_mem _ _ _).mpr ⟨j, hlt, ?_⟩, rfl⟩
      show (ns.map iN).getD j 0 = (x : Int)
      rw [val j hlt]
      simp [List.getD, hj]
theorem ints_nats : ∀ {ns : List Nat} {us : List Value}, Vals (ns.map nV) us → IntsAre us (ns.map iN)
  | [], _, r => by
    have r : Vals [] _ := r
    cases r
    exact .nil
  | n :: ns, _, r => by
    have r : Vals (nV n :: ns.map nV) _ := r
    cases r with
    | cons h t =>
      obtain ⟨k, rfl⟩ := h
      exact .cons _ _ (ints_nats t)
def tCard (ta : TE) : TE := fun σ H Q => ta σ H fun x H1 => ∃ (l : Addr) (ns : List Nat), x = .ref l ∧ H1 l = some (.lst (ns.map nV)) ∧ ns.length ≤ 4000 ∧ ∀ n, IsCard ns n → Q (nV n) H1
theorem pe_card {X : Cx} {a : Expr} {ta : TE} {p p2 q pos : Pos} (hg : Gl X "len") (hm : X.mg "len" = none) (hg2 : Gl X "set") (hm2 : X.mg "set" = none) (ha : PE X a ta) (hc : X.calm = true := by rfl)
    (na : starEach [a] X.env = (false, eval a X.env) :: starEach [] X.env := by rfl) : PE X (.Call (.Name "len" p) [.Call (.Name "set" p2) [a] [] q] [] pos) (tCard ta) := by
  refine ⟨fun pins s σ H Q I h => ?_⟩
  refine Call_ (ld_blt I hg hm boot_len (PyProof.Rows.callWith_builtin1 (PyProof.Rows.args_cons (Call_ (ld_blt I hg2 hm2 boot_set ?_)) rfl) rfl rfl))
  refine PyProof.Rows.callWith_type1 (PyProof.Rows.args_cons (thn (ha.run pins s σ H _ I h) fun v s1 ⟨x, H1, I1, r1, l, ns, ex, hl, hn, k⟩ => PyProof.Rows.args_nil ?_) na) na rfl
  subst ex
  cases r1
  obtain ⟨its, r, pl, hz⟩ := I1.list (SqL.of hl)
  have hlen : its.toArray.size = ns.length := by rw [List.size_toArray, ← r.length, List.length_map]
  refine call_set_list (I1.ok.hd hc) pl.isList (by simpa using ints_nats r) (by rw [hlen]; unfold scanBound; omega) fun h' tk hS hk => PyProof.Rows.args_nil ?_
  rw [hlen] at hS
  obtain ⟨o, es, ep, t, ho, hex, hd, _, _, _, hf, hsz⟩ := hS
  have I2 : Inv X pins σ H1 { s1 with heap := h', toks := tk } := I1.kept fun b o e => hk b o (Heap.lt_size e) e
  have card := met_card ns
  rw [← hsz] at card
  have := card.le
  exact call_len_set ho hex hd hf (by omega) ⟨nV es.size, H1, I2.tok _, ⟨_, rfl⟩, k _ card⟩
end Pk
/-! A dict whose keys are signs: (a class, a row of actions with classes). -/
namespace Pk
open PySem PySem.Spec PyProof.Rows L2 PM

abbrev Sgn := Nat × Row Str
def SgnAt (H : Hp) (v : V) (s : Sgn) : Prop := ∃ p vr, v = .ref p ∧ H p = some (.tup [nV s.1, vr]) ∧ RowAt H vr s.2
theorem SgnAt.mono {H H' : Hp} {v : V} {s : Sgn} (h : SgnAt H v s) (t : Tups H H') : SgnAt H' v s := let ⟨p, vr, e, q, r⟩ := h; ⟨p, vr, e, t p _ q, r.mono t⟩
def nkAct (a : A3) : NestedKey := .tup [.text a.1, .text a.2.1, .text a.2.2]
def nkEdge (e : A3 × Nat) : NestedKey := .tup [nkAct e.1, .num (e.2 : Int)]
def nkSgn (s : Sgn) : NestedKey := .tup [.num (s.1 : Int), .tup (s.2.map nkEdge)]
theorem nkAct_inj {a b : A3} (h : nkAct a = nkAct b) : a = b := by
  have e := NestedKey.tup.inj h
  simp only [List.cons.injEq, NestedKey.text.injEq, and_true] at e
  exact Prod.ext e.1 (Prod.ext e.2.1 e.2.2)
theorem nkEdge_inj {a b : A3 × Nat} (h : nkEdge a = nkEdge b) : a = b := by
  have e := NestedKey.tup.inj h
  simp only [List.cons.injEq, NestedKey.num.injEq, and_true] at e
  exact Prod.ext (nkAct_inj e.1) (by omega)
theorem nkRow_inj : ∀ {a b : Row Str}, a.map nkEdge = b.map nkEdge → a = b
  | [], [], _ => rfl
  | x :: a, y :: b, h => by
    have h : nkEdge x :: a.map nkEdge = nkEdge y :: b.map nkEdge := h
    obtain ⟨h1, h2⟩ := List.cons.inj h
    rw [nkEdge_inj h1, nkRow_inj h2]
  | [], _ :: _, h => by cases h
  | _ :: _, [], h => by cases h
theorem nkSgn_inj {a b : Sgn} (h : nkSgn a = nkSgn b) : a = b := by
  have e := NestedKey.tup.inj h
  simp only [List.cons.injEq, NestedKey.num.injEq, NestedKey.tup.injEq, and_true] at e
  exact Prod.ext (by omega) (nkRow_inj e.2)
theorem nkRow_depth : ∀ r : Row Str, NestedKey.depthAll (r.map nkEdge) ≤ 2
  | [] => by simp [NestedKey.depthAll]
  | x :: r => by
    show NestedKey.depthAll (nkEdge x :: r.map nkEdge) ≤ 2
    have ih := nkRow_depth r
    have e : (nkEdge x).depth ≤ 2 := by simp [nkEdge, nkAct, NestedKey.depth, NestedKey.depthAll]
    simp only [NestedKey.depthAll]
    omega
theorem nkSgn_depth (s : Sgn) : (nkSgn s).depth ≤ 8 := by
  have := nkRow_depth s.2
  simp only [nkSgn, NestedKey.depth, NestedKey.depthAll]
  omega
section
variable {X : Cx} {pins : List (Addr × Obj)} {σ : L2.St} {H : Hp} {s : Shared}
theorem act_nk (I : Inv X pins σ H s) {v : V} {u : Value} {a : A3} (h : ActAt H v a) (r : RelV v u) : NestedIs s.heap (nkAct a) u := by
  obtain ⟨p, rfl, hp⟩ := h
  cases r
  obtain ⟨its, rv, ⟨o, ho, hc, n, hd⟩, _⟩ := I.tuple (SqT.of hp)
  cases rv with
  | cons r1 t1 => cases t1 with
    | cons r2 t2 => cases t2 with
      | cons r3 t3 =>
        cases t3
        obtain ⟨k1, rfl⟩ := r1
        obtain ⟨k2, rfl⟩ := r2
        obtain ⟨k3, rfl⟩ := r3
        exact .tup ho hc hd (.cons (.text _ _) (.cons (.text _ _) (.cons (.text _ _) .nil)))
theorem edge_nk (I : Inv X pins σ H s) {v : V} {u : Value} {e : A3 × Nat} (h : EdgeAt H v e) (r : RelV v u) : NestedIs s.heap (nkEdge e) u := by
  obtain ⟨p, va, rfl, hp, ha⟩ := h
  cases r
  obtain ⟨its, rv, ⟨o, ho, hc, n, hd⟩, _⟩ := I.tuple (SqT.of hp)
  cases rv with
  | cons r1 t1 => cases t1 with
    | cons r2 t2 =>
      cases t2
      obtain ⟨k2, rfl⟩ := (show ∃ t, _ = Value.int _ t from r2)
      exact .tup ho hc hd (.cons (act_nk I ha r1) (.cons (.int _ _) .nil))
theorem edges_nk (I : Inv X pins σ H s) : ∀ {vs : List V} {us : List Value} {row : Row Str}, Paired (EdgeAt H) vs row → Vals vs us → NestedAll s.heap (row.map nkEdge) us
  | _, _, _, .nil, r => by cases r; exact .nil
  | _, _, _, .cons h t, r => by
    cases r with
    | cons r1 r2 => exact .cons (edge_nk I h r1) (edges_nk I t r2)
theorem sgn_nk (I : Inv X pins σ H s) {p : Addr} {z : Sgn} (h : SgnAt H (.ref p) z) : (nestedKind X.prog X.w).is s.heap (nkSgn z) p := by
  refine ⟨?_, nkSgn_depth z⟩
  obtain ⟨p', vr, e, hp, q, vs, rfl, hq, pr⟩ := h
  cases e
  obtain ⟨its, rv, ⟨o, ho, hc, n, hd⟩, _⟩ := I.tuple (SqT.of hp)
  cases rv with
  | cons r1 t1 => cases t1 with
    | cons r2 t2 =>
      cases t2
      obtain ⟨k1, rfl⟩ := (show ∃ t, _ = Value.int _ t from r1)
      cases r2
      obtain ⟨its2, rv2, ⟨o2, ho2, hc2, n2, hd2⟩, _⟩ := I.tuple (SqT.of hq)
      exact .tup ho hc hd (.cons (.int _ _) (.cons (.tup ho2 hc2 hd2 (edges_nk I pr rv2)) .nil))
end

/-- what is true of the dict's own object -/
def DNo (P : Program) (w : World) (d : Addr) (xs : List (Sgn × Addr × V)) : HO := .ext fun h => ∃ ys : List (NestedKey × Addr × Value), Paired (fun p q => q.1 = nkSgn p.1 ∧ q.2.1 = p.2.1 ∧ RelV p.2.2 q.2.2) xs ys ∧
  ∃ o es ep, h.get? d = some o ∧ o.ExactDict ∧ o.data = .dict es ep ∧ es.toList = ys.map (entryOfKey (nestedKind P w)) ∧ (ys.map (·.1)).Nodup
def DnAt (P : Program) (w : World) (H : Hp) (d : Addr) (kvs : List (Sgn × V)) : Prop := (d == sysModules) = false ∧ kvs.length ≤ sizeLine ∧ ∃ xs : List (Sgn × Addr × V), xs.map (fun x => (x.1, x.2.2)) = kvs ∧ H d = some (DNo P w d xs) ∧ ∀ x ∈ xs, SgnAt H (.ref x.2.1) x.1
theorem dno_ok {P : Program} {w : World} {H : Hp} {h : Heap} {d : Addr} {xs : List (Sgn × Addr × V)} {ys : List (NestedKey × Addr × Value)} {o : Obj} {es : Array DictEntry} {ep : Nat} (r : Paired (fun p q => q.1 = nkSgn p.1 ∧ q.2.1 = p.2.1 ∧ RelV p.2.2 q.2.2) xs ys) (h1 : h.get? d = some o) (h2 : o.ExactDict) (h3 : o.data = .dict es ep)
    (h4 : es.toList = ys.map (entryOfKey (nestedKind P w))) (h5 : (ys.map (·.1)).Nodup) : ObjOk P w H h d (DNo P w d xs) :=
  ⟨⟨ys, r, o, es, ep, h1, h2, h3, h4, h5⟩, ⟨o, h1⟩, fun _ _ ⟨ys, r, o, es, ep, e, q⟩ k => ⟨ys, r, o, es, ep, k o e, q⟩⟩
/-- it stays where the tuples and the dict itself stay -/
theorem DnAt.mono {P : Program} {w : World} {H H' : Hp} {d : Addr} {kvs : List (Sgn × V)} (h : DnAt P w H d kvs) (t : Tups H H') (e : H' d = H d) : DnAt P w H' d kvs :=
  let ⟨h1, h2, xs, h3, h4, h5⟩ := h
  ⟨h1, h2, xs, h3, e.trans h4, fun x hx => (h5 x hx).mono t⟩
theorem DnAt.not_tup {P : Program} {w : World} {H : Hp} {d : Addr} {kvs : List (Sgn × V)} (h : DnAt P w H d kvs) : ∃ u, H d = some u ∧ ∀ xs, u ≠ .tup xs :=
  let ⟨_, _, xs, _, h4, _⟩ := h
  ⟨_, h4, fun _ z => by cases z⟩
theorem DnAt.not_none {P : Program} {w : World} {H : Hp} {d : Addr} {kvs : List (Sgn × V)} (h : DnAt P w H d kvs) : H d ≠ none := fun z => by
  obtain ⟨u, e, _⟩ := h.not_tup
  rw [z] at e
  cases e
section
variable {X : Cx} {pins : List (Addr × Obj)} {σ : L2.St} {H : Hp} {s : Shared} {d : Addr} {kvs : List (Sgn × V)}
/-- the dict as the heap knows it -/
theorem dn_heap (I : Inv X pins σ H s) (h : DnAt X.prog X.w H d kvs) : ∃ ys, s.heap.DictOfH (nestedKind X.prog X.w) d ys ∧ ys.length = kvs.length ∧ (∀ z : Sgn, RelO (valV kvs z) ((atKey ys (nkSgn z)).map (·.2))) ∧
    ∃ xs : List (Sgn × Addr × V), xs.map (fun x => (x.1, x.2.2)) = kvs ∧ H d = some (DNo X.prog X.w d xs) ∧ (∀ x ∈ xs, SgnAt H (.ref x.2.1) x.1) ∧ Paired (fun p q => q.1 = nkSgn p.1 ∧ q.2.1 = p.2.1 ∧ RelV p.2.2 q.2.2) xs ys := by
  obtain ⟨h1, h2, xs, h3, h4, h5⟩ := h
  obtain ⟨⟨ys, r, o, es, ep, e1, e2, e3, e4, e5⟩, _, st⟩ := I.hok d _ h4
  clear st
  refine ⟨ys, ⟨o, es, ep, e1, e2, e3, e4, fun y hy => ?_, e5⟩, by rw [← h3, List.length_map]; exact (pd_len r).symm, fun z => ?_, xs, h3, h4, h5, r⟩
  · obtain ⟨x, hx, q1, q2, _⟩ := pd_mem r hy
    rw [q1, q2]
    exact sgn_nk I (h5 x hx)
  · rw [← h3]
    clear h3 h4 h5 e4 e5
    induction r with
    | nil => exact True.intro
    | @cons p q xs ys hr t ih =>
      obtain ⟨q1, q2, q3⟩ := hr
      by_cases e : p.1 = z
      · have e2 : q.1 = nkSgn z := by rw [q1, e]
        rw [List.map_cons, valV_pos (k := z) e]
        have : atKey (q :: ys) (nkSgn z) = some q.2 := by simp [atKey, e2]
        rw [this]
        exact q3
      · have e2 : ¬ q.1 = nkSgn z := by
          rw [q1]
          exact fun c => e (nkSgn_inj c)
        rw [List.map_cons, valV_neg (k := z) e]
        have : atKey (q :: ys) (nkSgn z) = atKey ys (nkSgn z) := by simp [atKey, e2]
        rw [this]
        exact ih
variable {o i value : Expr} {td ty tv : TE} {pos pos' : Pos}
/-- {} -/
def tNewN (P : Program) (w : World) : TE := fun _ H Q => ∀ p, H p = none → (p == sysModules) = false → Q (.ref p) (upd H p (DNo P w p []))
theorem pe_newN : PE X (.Dict [] [] pos) (tNewN X.prog X.w) := ⟨fun pins s σ H Q I h =>
  wpAny_Dict_empty ⟨.ref s.heap.objs.size, _, I.laid (a := s.heap.objs.size) (t' := s.toks) (fun _ _ q => Heap.get?_push_of_some _ q) (Nat.le_refl _) (dno_ok .nil (Heap.get?_push_size _ rfl) ⟨rfl, rfl, rfl⟩ rfl rfl List.nodup_nil), rfl,
    h _ (I.hok.fresh (Nat.le_refl _)) (beq_eq_false_iff_ne.mpr (Ne.symm (Nat.ne_of_lt I.big)))⟩⟩
theorem dn_new {P : Program} {w : World} {p : Addr} (lo : (p == sysModules) = false) : DnAt P w (upd H p (DNo P w p [])) p [] := ⟨lo, Nat.zero_le _, [], rfl, upd_same, fun _ h => nomatch h⟩
/-- z not in d -/
def tNotN (P : Program) (w : World) (ty td : TE) : TE := fun σ H Q => ty σ H fun y H1 => td σ H1 fun x H2 => ∃ (a b : Addr) (kvs : List (Sgn × V)) (z : Sgn), x = .ref a ∧ y = .ref b ∧ DnAt P w H2 a kvs ∧ SgnAt H2 (.ref b) z ∧ Q (.bl (!(valV kvs z).isSome)) H2
theorem pc_notN (hu : X.A.units + 20 < cLine) (hi : PE X i ty) (ho : PE X o td) : PC X .NotIn i o (tNotN X.prog X.w ty td) := by
  refine ⟨fun pins s σ H Q I h => ?_⟩
  refine thn (hi.run pins s σ H _ I h) fun iv s1 ⟨y, H1, I1, ry, q1⟩ => thn (ho.run pins s1 σ H1 _ I1 q1) fun u s2 ⟨x, H2, I2, rx, a, b, kvs, z, ex, ey, hd, hz, q2⟩ => ?_
  subst ex ey
  cases (show u = Value.ref a from rx)
  cases (show iv = Value.ref b from ry)
  obtain ⟨ys, dd, _, val, _⟩ := dn_heap I2 hd
  refine notIn_keyed (knd := nestedKind X.prog X.w) (show X.A.units + 1 + 8 < cLine by omega) (sgn_nk I2 hz) hd.1 ⟨ys, dd, rfl⟩ ?_
  have e := (val z).isSome_eq
  rw [Option.isSome_map] at e
  rw [valueAt_pairsH, Option.isSome_map, ← e]
  exact ⟨.bl (!(valV kvs z).isSome), H2, I2.tok _, rfl, q2⟩
/-- d[z] -/
def tGetN (P : Program) (w : World) (td ty : TE) : TE := fun σ H Q => td σ H fun x H1 => ty σ H1 fun y H2 => ∃ (a b : Addr) (kvs : List (Sgn × V)) (z : Sgn) (v : V), x = .ref a ∧ y = .ref b ∧ DnAt P w H2 a kvs ∧ SgnAt H2 (.ref b) z ∧ valV kvs z = some v ∧ Q v H2
theorem pe_getN (hu : X.A.units + 20 < cLine) (ho : PE X o td) (hi : PE X i ty) (hs : NoSl i) : PE X (.Subscript o i pos) (tGetN X.prog X.w td ty) := by
  refine ⟨fun pins s σ H Q I h => ?_⟩
  refine subD_of F.slot_dict_getitem.lookup hs (thn (ho.run pins s σ H _ I h) fun u s1 ⟨x, H1, I1, rx, q1⟩ => thn (hi.run pins s1 σ H1 _ I1 q1) fun iv s2 ⟨y, H2, I2, ry, a, b, kvs, z, v, ex, ey, hd, hz, hv, q2⟩ => ?_)
  subst ex ey
  cases (show u = Value.ref a from rx)
  cases (show iv = Value.ref b from ry)
  obtain ⟨ys, dd, _, val, _⟩ := dn_heap I2 hd
  have e := val z
  rw [hv] at e
  cases e1 : atKey ys (nkSgn z) with
  | none =>
    rw [e1] at e
    exact False.elim e
  | some p =>
    rw [e1] at e
    exact ⟨dd.typeIs, wpAny_getItem_heap (knd := nestedKind X.prog X.w) (show X.A.units + 1 + 8 < cLine by omega) (sgn_nk I2 hz) dd e1 ⟨v, H2, I2.tok _, e, q2⟩⟩
/-- d[z] = v, z not there -/
def sPutN (P : Program) (w : World) (td ty tv : TE) : TS := fun D σ H => tv σ H fun v H1 => td σ H1 fun x H2 => ty σ H2 fun y H3 => ∃ (a b : Addr) (kvs : List (Sgn × V)) (z : Sgn), x = .ref a ∧ y = .ref b ∧ DnAt P w H3 a kvs ∧ SgnAt H3 (.ref b) z ∧ valV kvs z = none ∧ kvs.length < sizeLine ∧
  ∀ H4 : Hp, (∀ c, c ≠ a → H4 c = H3 c) → DnAt P w H4 a (kvs ++ [(z, v)]) → D.nx σ H4
theorem ps_putN (hu : X.A.units + 20 < cLine) (ho : PE X o td) (hi : PE X i ty) (hv : PE X value tv) (hs : swapsWith value (some (.Subscript o i pos')) pos.line X.env = pure false) : PS X (.Assign [.Subscript o i pos'] value pos) (sPutN X.prog X.w td ty tv) := by
  refine ⟨fun pins s σ H D I h => ?_⟩
  refine wpAny_Assign_Subscript (thn (hv.run pins s σ H _ I h) fun r s1 ⟨v, H1, I1, rv, q1⟩ => thn (ho.run pins s1 σ H1 _ I1 q1) fun u s2 ⟨x, H2, I2, rx, q2⟩ => thn (hi.run pins s2 σ H2 _ I2 q2) fun iv s3 ⟨y, H3, I3, ry, a, b, kvs, z, ex, ey, hd, hz, hn, hl, q3⟩ => ?_) hs
  subst ex ey
  cases (show u = Value.ref a from rx)
  cases (show iv = Value.ref b from ry)
  obtain ⟨ys, dd, hlen, val, xs, ek, ed, es, pr⟩ := dn_heap I3 hd
  have e := val z
  rw [hn] at e
  have e1 : atKey ys (nkSgn z) = none := by
    cases e2 : atKey ys (nkSgn z) with
    | none => rfl
    | some p =>
      rw [e2] at e
      exact False.elim e
  refine wpAny_setItem_heap (knd := nestedKind X.prog X.w) (hsz := by rw [hlen]; exact hd.2.1) (show X.A.units + 1 + 8 < cLine by omega) (sgn_nk I3 hz) dd fun h' dd' sb => ?_
  rw [storedH_new e1] at dd'
  obtain ⟨ob, es', ep, g1, g2, g3, g4, _, g5⟩ := dd'
  have ok : ObjOk X.prog X.w (upd H3 a (DNo X.prog X.w a (xs ++ [(z, b, v)]))) h' a (DNo X.prog X.w a (xs ++ [(z, b, v)])) := dno_ok (pd_snoc pr ⟨rfl, rfl, rv⟩) g1 g2 g3 g4 g5
  have I4 := d_write (t' := s3.toks + (nestedKind X.prog X.w).draws (nkSgn z)) I3 (show Mut (H3 a) by rw [ed]; trivial) sb ⟨ob, g1⟩ ok
  have tt : Tups H3 (upd H3 a (DNo X.prog X.w a (xs ++ [(z, b, v)]))) := tups_upd ed fun _ c => by cases c
  refine ⟨σ, _, I4, q3 _ (fun c hc => upd_ne hc) ⟨hd.1, by rw [List.length_append]; exact hl, _, by rw [List.map_append, ek]; rfl, upd_same, fun x hx => ?_⟩⟩
  rcases List.mem_append.mp hx with hx | hx
  · exact (es x hx).mono tt
  · have : x = (z, b, v) := by simpa using hx
    subst this
    exact hz.mono tt
/-- len(d) -/
def rLenN (P : Program) (w : World) : List V → Hp → VK → Prop := fun xs H Q => ∃ (a : Addr) (kvs : List (Sgn × V)), xs = [.ref a] ∧ DnAt P w H a kvs ∧ Q (nV kvs.length) H
theorem call_lenN : CallR X (.builtin "len") (rLenN X.prog X.w) := by
  intro pins s σ H xs us Q I r h
  obtain ⟨a, kvs, rfl, hd, q⟩ := h
  obtain ⟨u, rfl, rx⟩ := vals1 r
  cases (show u = Value.ref a from rx)
  obtain ⟨ys, dd, hlen, _⟩ := dn_heap I hd
  have := hd.2.1
  refine call_len_dictH hd.1 dd (by rw [hlen]; rw [sizeLine_eq] at this; omega) ?_
  rw [hlen]
  exact ⟨nV kvs.length, H, I.tok _, ⟨_, rfl⟩, q⟩
end
end Pk
/-! concerns, view, next_state, walk, parties_of. -/
namespace Pk
open PySem L2 PM
/-- the built-ins that the text asks by name -/
structure Tx (mg : Str → Option Value) : Prop where
  len : mg "len" = none
  range : mg "range" = none
  sorted : mg "sorted" = none
  tuple : mg "tuple" = none
  list : mg "list" = none
  int : mg "int" = none
  set : mg "set" = none
  str : mg "str" = none
  enum : mg "enumerate" = none
  most : ∃ t, mg "MOST_STATES" = some (.int 300 t)
theorem hu20 {k : Nat} {A : Around} (hr : Room k A) : A.units + 20 < cLine := by have := hr.units; omega
theorem hu1 {k : Nat} {A : Around} (hr : Room k A) : A.units + 1 < cLine := by have := hr.units; omega
theorem ite_b {b : Bool} {A B : Prop} (h1 : b = true → A) (h2 : b = false → B) : if b = true then A else B := by
  cases b with
  | true => rw [if_pos rfl]; exact h1 rfl
  | false => rw [if_neg Bool.false_ne_true]; exact h2 rfl
theorem str_dec (a b : Str) : decide (V.str a = V.str b) = decide (a = b) := by
  by_cases e : a = b
  · subst e; simp
  · rw [decide_eq_false e]
    exact decide_eq_false fun z => e (V.str.inj z)
section
variable {P : Program} {w : World} {K : PySem.W.Frag} {mg : Str → Option Value} {base : Heap}

/-! ### concerns -/
abbrev sConcerns : Stmt := top 14
def spConcerns : Sp := fun vs H Q _ => ∃ (v : V) (a : A3) (p : Str), vs = [v, .str p] ∧ ActAt H v a ∧ Q (.bl (cc a p)) H
theorem scConcerns : FnScope ["action", "party"] ["action", "party"] (C8.fnScope sConcerns) := C8.fnScope_by (by decide +kernel)
theorem cal_concerns {f : Addr} {fd : FuncData} (D : C8.Def K mg "concerns" sConcerns f fd) (b : Binds K fd ["action", "party"] []) : C8.Cal P w K mg base 1 "concerns" spConcerns [] := by
  refine C8.cal0 D b .nil scConcerns (fun vs H Q E h => ?_) (fun cdv A outer s H vs Q E hr h => ?_)
  · obtain ⟨v, a, p, rfl, _⟩ := h
    rfl
  · obtain ⟨v, a, p, rfl, ⟨q, rfl, hq⟩, k⟩ := h
    refine ⟨_, pss_one (ps_ret (pe_or (pe_cmpR op_eq (pe_ix ix_tup (pv 0) pe_int (fun _ _ => rfl)) (pv 1) (nomark _)) (pe_one (pe_cmpR op_eq (pe_ix ix_tup (pv 0) pe_int (fun _ _ => rfl)) (pv 1) (nomark _))))), ?_⟩
    refine ⟨_, rfl, q, _, 0, _, rfl, rfl, SqT.of hq, rfl, _, rfl, rfl, _, rfl, ?_⟩
    rw [str_dec]
    unfold cc at k
    by_cases e : a.1 = p
    · rw [decide_eq_true e, if_pos rfl]
      rw [decide_eq_true e] at k
      exact k
    · rw [decide_eq_false e, if_neg Bool.false_ne_true]
      rw [decide_eq_false e, Bool.false_or, ← str_dec] at k
      exact ⟨_, rfl, q, _, 1, _, rfl, rfl, SqT.of hq, rfl, _, rfl, rfl, k⟩

/-! ### view -/
abbrev sView : Stmt := top 15
def spView : Sp := fun vs H Q _ => ∃ (l : Addr) (xs : List V) (w : List A3) (p : Str), vs = [.ref l, .str p] ∧ H l = some (.lst xs) ∧ Paired (ActAt H) xs w ∧ w.length ≤ 1000 ∧
  ∀ (H' : Hp) (q : Addr) (ys : List V), Same H H' → H q = none → H' q = some (.lst ys) → Paired (ActAt H') ys (view w p) → Q (.ref q) H'
theorem scView : FnScope ["actions", "party", "action"] ["actions", "party"] (C8.fnScope sView) := C8.fnScope_by (by decide +kernel)
theorem cal_view {f : Addr} {fd : FuncData} (D : C8.Def K mg "view" sView f fd) (b : Binds K fd ["actions", "party"] []) (c1 : C8.Cal P w K mg base 1 "concerns" spConcerns []) : C8.Cal P w K mg base 2 "view" spView [] := by
  refine C8.cal0 D b .nil scView (fun vs H Q E h => ?_) (fun cdv A outer s H vs Q E hr h => ?_)
  · obtain ⟨l, xs, w, p, rfl, _⟩ := h
    rfl
  · obtain ⟨l, xs, w, p, rfl, hl, hp, hw, k⟩ := h
    refine ⟨_, pss_one (ps_ret (pe_lc (own := [("action", 2)]) (g := gName 2) rfl scView.nd (pi_list (pv 0)) (blkOk_by (N := ["actions", "party", "action"]) (sc := C8.fnScope sView) (by decide +kernel)) (fun _ _ _ _ _ => pg_name (i := 2) scView.nd rfl (Or.inl rfl))
      (fun _ _ _ _ _ => pts_one (pt_val (C8.pe_c c1 hr (by decide) (by rfl) (pa_cons (pv 2) (pa_cons (pv 1) pa_nil))))) (fun _ _ _ _ _ => pv 2))), ?_⟩
    refine ⟨_, rfl, l, rfl, ⟨_, SqL.of hl⟩, fun D hD => ?_⟩
    have hlen := pd_len hp
    have hz := sizeLine_eq
    refine lc_list (xs := xs) (fun i H1 => Same H H1 ∧ ∃ ys, H1 D = some (.lst ys) ∧ ys.length ≤ i ∧ Paired (ActAt H) ys (view (w.take i) p)) ⟨same_new hD, [], upd_same, Nat.le_refl _, .nil⟩ (fun i H1 _ ⟨s1, _⟩ => s1.seq (SqL.of hl)) ?_ ?_
    · intro i x H1 hx ⟨s1, ys, hy, hly, hpy⟩
      obtain ⟨a, ha, hxa⟩ := pd_get hp hx
      have hlt : i < w.length := (List.getElem?_eq_some_iff.mp ha).1
      have htk : w.take (i + 1) = w.take i ++ [a] := by
        rw [List.take_succ, ha]; rfl
      refine ⟨rfl, _, rfl, _, rfl, x, a, p, rfl, hxa.mono (same_tups s1), cc a p, rfl, ?_⟩
      refine ite_b (fun e => ?_) (fun e => ?_)
      · refine ⟨_, rfl, ys, hy, by omega, same_upd s1 hD, ys ++ [x], upd_same, ?_, ?_⟩
        · simp; omega
        · rw [htk, view_snoc_pos _ e]
          exact pd_snoc hpy hxa
      · exact ⟨s1, ys, hy, by omega, by rw [htk, view_snoc_neg _ e]; exact hpy⟩
    · intro H1 ⟨s1, ys, hy, _, hpy⟩
      rw [hlen, List.take_length] at hpy
      exact k H1 D ys s1 hD hy (pd_mono hpy fun _ _ z => z.mono (same_tups s1))
end
end Pk
/-! next_state, walk, parties_of. -/
namespace Pk
open PySem L2 PM
/-! ### equal actions -/
theorem eqv_act (a b : A3) : PyData.eqv (eAct a) (eAct b) = decide (a = b) := by
  obtain ⟨a1, a2, a3⟩ := a
  obtain ⟨b1, b2, b3⟩ := b
  simp only [eAct, PyData.eqv, PyData.eqvAll, Prod.mk.injEq]
  by_cases h1 : a1 = b1 <;> by_cases h2 : a2 = b2 <;> by_cases h3 : a3 = b3 <;> simp [h1, h2, h3]
theorem plain_act (a : A3) : (eAct a).plain = true := by simp [eAct, PyData.plain, PyData.plainAll]
theorem op_eqA {X : Cx} (hu : X.A.units + 64 < cLine) : OpR X (compareOp .Eq) (fun x y H Q => ∃ a b, ActAt H x a ∧ ActAt H y b ∧ Q (.bl (decide (a = b))) H) := by
  intro pins s σ H x y v u Q I rx ry h
  obtain ⟨a, b, ha, hb, q⟩ := h
  refine SeqAt.eq_plain (act_reads I ha rx) (act_reads I hb ry) (plain_act a) (plain_act b) (by have := act_depth a; omega) ⟨.bl _, H, I, rfl, ?_⟩
  rw [eqv_act]
  exact q

/-! ### keys that are put -/
theorem put_keys {κ α : Type} [DecidableEq κ] [DecidableEq α] (f : α → κ) (hf : ∀ a b, f a = f b → a = b) {kvs : List (κ × V)} {ks : List α} (h : kvs.map (·.1) = ks.map f) (hn : ks.Nodup) (x : α) (v : V) :
    ∃ ks' : List α, (putK kvs (f x) v).map (·.1) = ks'.map f ∧ ks'.Nodup ∧ ∀ y, y ∈ ks' ↔ y ∈ ks ∨ y = x := by
  have hm : f x ∈ kvs.map (·.1) ↔ x ∈ ks := by
    rw [h]
    constructor
    · intro q
      obtain ⟨y, hy, e⟩ := List.mem_map.mp q
      rw [← hf _ _ e]; exact hy
    · exact fun q => List.mem_map_of_mem q
  unfold putK
  by_cases a : (kvs.any fun kv => decide (kv.1 = f x)) = true
  · rw [if_pos a]
    obtain ⟨p, hp, e⟩ := List.any_eq_true.mp a
    have hx : x ∈ ks := hm.mp (List.mem_map.mpr ⟨p, hp, of_decide_eq_true e⟩)
    refine ⟨ks, ?_, hn, fun y => ⟨Or.inl, fun q => q.elim id fun e => e ▸ hx⟩⟩
    rw [← h, List.map_map]
    refine List.map_congr_left fun kv _ => ?_
    show (if kv.1 = f x then (kv.1, v) else kv).1 = kv.1
    split <;> rfl
  · rw [if_neg a]
    have hx : x ∉ ks := fun q => a (by
      obtain ⟨p, hp, e⟩ := List.mem_map.mp (hm.mpr q)
      exact List.any_eq_true.mpr ⟨p, hp, decide_eq_true e⟩)
    refine ⟨ks ++ [x], by simp [h], ?_, fun y => by simp⟩
    rw [List.nodup_append]
    exact ⟨hn, by simp, fun a ha b hb => by
      rw [List.mem_singleton] at hb
      subst hb
      exact fun e => hx (e ▸ ha)⟩
theorem len_keys {κ α : Type} {f : α → κ} {kvs : List (κ × V)} {ks : List α} (h : kvs.map (·.1) = ks.map f) : kvs.length = ks.length := by
  have := congrArg List.length h
  simpa using this
theorem inr_inj (a b : Str) (h : (Sum.inr a : Key) = Sum.inr b) : a = b := Sum.inr.inj h
theorem inlN_inj (a b : Nat) (h : (Sum.inl (a : Int) : Key) = Sum.inl (b : Int)) : a = b := by
  have := Sum.inl.inj h
  omega

section
variable {P : Program} {w : World} {K : PySem.W.Frag} {mg : Str → Option Value} {base : Heap}
/-! ### next_state -/
abbrev sNext : Stmt := top 10
def oV : Option Nat → V
  | none => .non
  | some t => nV t
def spNext : Sp := fun vs H Q _ => ∃ (vt va : V) (rows : Rows Str) (ends : List Bool) (s : Nat) (row : Row Str) (a : A3), vs = [vt, nV s, va] ∧ TabAt H vt rows ends ∧ rows[s]? = some row ∧ ActAt H va a ∧ Q (oV (stepR row a)) H
theorem scNext : FnScope ["table", "state", "action", "other", "goal"] ["table", "state", "action"] (C8.fnScope sNext) := C8.fnScope_by (by decide +kernel)
theorem find_take {row : Row Str} {a : A3} {i : Nat} {e : A3 × Nat} (h : row[i]? = some e) (hn : ∀ e ∈ row.take i, e.1 ≠ a) : stepR row a = if e.1 = a then some e.2 else stepR (row.drop (i + 1)) a := by
  have e1 : row = row.take i ++ e :: row.drop (i + 1) := by
    have hi := (List.getElem?_eq_some_iff.mp h).1
    conv => lhs; rw [← List.take_append_drop i row]
    rw [List.drop_eq_getElem_cons hi]
    rw [← (List.getElem?_eq_some_iff.mp h).2]
  have e2 : ∀ (l : Row Str) (m : Row Str), (∀ e ∈ l, e.1 ≠ a) → stepR (l ++ m) a = stepR m a := by
    intro l m
    induction l with
    | nil => intro _; rfl
    | cons x l ih =>
      intro hl
      rw [List.cons_append, stepR_cons, if_neg (hl x List.mem_cons_self)]
      exact ih fun e he => hl e (List.mem_cons_of_mem _ he)
  conv => lhs; rw [e1]
  rw [e2 _ _ hn, stepR_cons]
theorem stepR_no {row : Row Str} {a : A3} (hn : ∀ e ∈ row, e.1 ≠ a) : stepR row a = none := stepR_none.mpr fun t h => hn _ h rfl
theorem take_mem {α : Type} {l : List α} {i : Nat} {x y : α} (h : l[i]? = some x) (hy : y ∈ l.take (i + 1)) : y ∈ l.take i ∨ y = x := by
  rw [List.take_succ, h] at hy
  rcases List.mem_append.mp hy with q | q
  · exact .inl q
  · exact .inr (by simpa using q)
theorem cal_next {f : Addr} {fd : FuncData} (D : C8.Def K mg "next_state" sNext f fd) (b : Binds K fd ["table", "state", "action"] []) : C8.Cal P w K mg base 1 "next_state" spNext [] := by
  have nd := scNext.nd
  refine C8.cal0 D b .nil scNext (fun vs H Q E h => ?_) (fun cdv A outer s H vs Q E hr h => ?_)
  · obtain ⟨vt, va, rows, ends, s, row, a, rfl, _⟩ := h
    rfl
  · obtain ⟨vt, va, rows, ends, s, row, a, rfl, hT, hs, ha, k⟩ := h
    refine ⟨_, pss_cons (ps_for PassesOwn.never rfl (pi_tup (pe_ix ix_tup (pe_ix ix_tup (pv 0) pe_int (fun _ _ => rfl)) (pv 1) (fun _ _ => rfl))) (pg_tup rfl (pgs_cons (pg_name (i := 3) nd rfl (Or.inl rfl)) (pgs_cons (pg_name (i := 4) nd rfl (Or.inl rfl)) pgs_nil)))
      (pss_one (ps_if (pt_cmpR (op_eqA hr.units) (pv 3) (pv 2) (nomark _)) (pss_one (ps_ret (pv 4))) pss_nil))) (pss_one (ps_ret pe_non)), ?_⟩
    obtain ⟨p, vr, ve, rfl, hp, hR, hE⟩ := hT
    obtain ⟨pr, vrs, rfl, hpr, hrs⟩ := hR
    obtain ⟨x, hx, q, xs, rfl, hq, hxs⟩ := pd_get2 hrs hs
    refine ⟨_, rfl, p, _, 1, _, rfl, rfl, SqT.of hp, at1, _, rfl, pr, _, (s : Int), _, rfl, rfl, SqT.of hpr, atI_nat hx, q, rfl, ⟨_, SqT.of hq⟩, ?_⟩
    refine for_tup (xs := xs) (fun i σ H1 => H1 = H ∧ (∃ o3 o4, σ = [some (.ref p), some (nV s), some va, o3, o4]) ∧ ∀ e ∈ row.take i, e.1 ≠ a) ⟨rfl, ⟨_, _, rfl⟩, by simp⟩ (fun i σ H1 _ ⟨e, _⟩ => by rw [e]; exact SqT.of hq) ?_ ?_
    · intro i x σ H1 hxi ⟨e, ⟨o3, o4, hσ⟩, hn⟩
      subst e hσ
      obtain ⟨ed, hed, pe, vo, rfl, hpe, hvo⟩ := pd_get hxs hxi
      refine ⟨_, _, rfl, SqT.of hpe, rfl, _, _, rfl, _, _, rfl, rfl, ?_⟩
      refine ⟨_, rfl, _, rfl, ed.1, a, hvo, ha, _, rfl, ?_⟩
      refine ite_b (fun e => ?_) (fun e => ?_)
      · refine ⟨_, rfl, ?_⟩
        have e := of_decide_eq_true e
        rw [find_take hed hn, if_pos e] at k
        exact k
      · have e := of_decide_eq_false e
        refine ⟨rfl, ⟨_, _, rfl⟩, fun z hz => ?_⟩
        rcases take_mem hed hz with h1 | h1
        · exact hn z h1
        · exact h1 ▸ e
    · intro σ H1 ⟨e, _, hn⟩
      subst e
      rw [pd_len hxs, List.take_length] at hn
      rw [stepR_no hn] at k
      exact k

/-! ### walk -/
abbrev sWalk : Stmt := top 11
def spWalk : Sp := fun vs H Q _ => ∃ (vt : V) (l : Addr) (xs : List V) (rows : Rows Str) (ends : List Bool) (w : List A3), vs = [vt, .ref l] ∧ TabAt H vt rows ends ∧ WF rows ∧ 0 < rows.length ∧ H l = some (.lst xs) ∧ Paired (ActAt H) xs w ∧ Q (oV (walkT rows 0 w)) H
theorem scWalk : FnScope ["table", "actions", "state", "action"] ["table", "actions"] (C8.fnScope sWalk) := C8.fnScope_by (by decide +kernel)
theorem take_get {α : Type} {l : List α} {i : Nat} {x : α} (h : l[i]? = some x) : l.take (i + 1) = l.take i ++ [x] := by
  rw [List.take_succ, h]; rfl
theorem walk_drop {rows : Rows Str} {w : List A3} {i s : Nat} {a : A3} (h : walkT rows 0 (w.take i) = some s) (hi : w[i]? = some a) (hn : stepT rows s a = none) : walkT rows 0 w = none := by
  have e1 : w = w.take (i + 1) ++ w.drop (i + 1) := (List.take_append_drop _ _).symm
  rw [e1, walkT_append, take_get hi, walkT_snoc, h]
  show ((stepT rows s a).bind fun t => walkT rows t (w.drop (i + 1))) = none
  rw [hn]
  rfl
theorem cal_walk {f : Addr} {fd : FuncData} (D : C8.Def K mg "walk" sWalk f fd) (b : Binds K fd ["table", "actions"] []) (c1 : C8.Cal P w K mg base 1 "next_state" spNext []) : C8.Cal P w K mg base 2 "walk" spWalk [] := by
  have nd := scWalk.nd
  refine C8.cal0 D b .nil scWalk (fun vs H Q E h => ?_) (fun cdv A outer s H vs Q E hr h => ?_)
  · obtain ⟨vt, l, xs, rows, ends, w, rfl, _⟩ := h
    rfl
  · obtain ⟨vt, l, xs, rows, ends, w, rfl, hT, W, hn, hl, hw, k⟩ := h
    refine ⟨_, pss_cons (ps_set (i := 2) nd rfl (.inl rfl) pe_int) (pss_cons (ps_for PassesOwn.never rfl (pi_list (pv 1)) (pg_name (i := 3) nd rfl (Or.inl rfl))
      (pss_cons (ps_set (i := 2) nd rfl (.inl rfl) (C8.pe_c c1 hr (by decide) (by rfl) (pa_cons (pv 0) (pa_cons (pv 2) (pa_cons (pv 3) pa_nil)))))
        (pss_one (ps_if (pt_cmpR op_isN (pv 2) pe_non (nomark _)) (pss_one (ps_ret pe_non)) pss_nil)))) (pss_one (ps_ret (pv 2)))), ?_⟩
    refine ⟨_, rfl, l, rfl, ⟨_, SqL.of hl⟩, ?_⟩
    refine for_list (xs := xs) (fun i σ H1 => H1 = H ∧ ∃ t o3, σ = [some vt, some (.ref l), some (nV t), o3] ∧ t < rows.length ∧ walkT rows 0 (w.take i) = some t) ⟨rfl, 0, _, rfl, hn, rfl⟩ (fun i σ H1 _ ⟨e, _⟩ => by rw [e]; exact SqL.of hl) ?_ ?_
    · intro i x σ H1 hx ⟨e, t, o3, hσ, ht, hk⟩
      subst e hσ
      obtain ⟨a, ha, hxa⟩ := pd_get hw hx
      obtain ⟨row, hrow⟩ : ∃ row, rows[t]? = some row := ⟨rows[t], by simp [ht]⟩
      refine ⟨_, rfl, _, rfl, _, rfl, vt, x, rows, ends, t, row, a, rfl, hT, hrow, hxa, ?_⟩
      cases hq : stepR row a with
      | none =>
        have h1 : stepT rows t a = none := by rw [stepT_eq hrow, hq]
        refine ⟨_, rfl, rfl, _, rfl, ?_⟩
        refine iteT ?_
        rw [walk_drop hk ha h1] at k
        exact k
      | some u =>
        have h1 : stepT rows t a = some u := by rw [stepT_eq hrow, hq]
        refine ⟨_, rfl, rfl, _, rfl, ?_⟩
        refine iteF ?_
        refine ⟨rfl, u, _, rfl, W.goal h1, ?_⟩
        rw [take_get ha, walkT_snoc, hk]
        exact h1
    · intro σ H1 ⟨e, t, o3, hσ, ht, hk⟩
      subst e hσ
      rw [pd_len hw, List.take_length] at hk
      rw [hk] at k
      exact ⟨_, rfl, k⟩
end
end Pk
/-! parties_of, reached_unseen. -/
namespace Pk
open PySem L2 PM
theorem val_keys {κ α : Type} [DecidableEq κ] [DecidableEq α] (f : α → κ) (hf : ∀ a b, f a = f b → a = b) {kvs : List (κ × V)} {ks : List α} (h : kvs.map (·.1) = ks.map f) (x : α) : (valV kvs (f x)).isSome = decide (x ∈ ks) := by
  rw [← valV_any, Bool.eq_iff_iff, List.any_eq_true, decide_eq_true_eq]
  constructor
  · rintro ⟨p, hp, e⟩
    have : f x ∈ ks.map f := by rw [← h]; exact List.mem_map.mpr ⟨p, hp, of_decide_eq_true e⟩
    obtain ⟨y, hy, e⟩ := List.mem_map.mp this
    exact hf _ _ e ▸ hy
  · intro hx
    have : f x ∈ kvs.map (·.1) := by rw [h]; exact List.mem_map_of_mem hx
    obtain ⟨p, hp, e⟩ := List.mem_map.mp this
    exact ⟨p, hp, decide_eq_true e⟩
theorem put_new {κ α : Type} [DecidableEq κ] [DecidableEq α] (f : α → κ) (hf : ∀ a b, f a = f b → a = b) {kvs : List (κ × V)} {ks : List α} (h : kvs.map (·.1) = ks.map f) {x : α} (hx : x ∉ ks) (v : V) : (putK kvs (f x) v).map (·.1) = (ks ++ [x]).map f := by
  have e : valV kvs (f x) = none := by
    have q := val_keys f hf h x
    rw [decide_eq_false hx] at q
    cases z : valV kvs (f x) with
    | none => rfl
    | some y => rw [z] at q; cases q
  rw [putK_new v e]
  simp [h]
theorem nodup_snoc {α : Type} {l : List α} {x : α} (h : l.Nodup) (hx : x ∉ l) : (l ++ [x]).Nodup := by
  rw [List.nodup_append]
  exact ⟨h, by simp, fun a ha b hb => by
    rw [List.mem_singleton] at hb
    subst hb
    exact fun e => hx (e ▸ ha)⟩
/-- whole numbers that stand in order -/
theorem nats_of {ys : List Int} {ks : List Nat} (h : ys.Perm (ks.map iN)) (hn : ks.Nodup) (hs : ys.Pairwise (· ≤ ·)) : ∃ R : List Nat, ys = R.map iN ∧ Asc R ∧ ∀ x, x ∈ R ↔ x ∈ ks := by
  have h1 : ∀ y ∈ ys, ∃ k : Nat, y = iN k ∧ k ∈ ks := fun y hy => by
    obtain ⟨k, hk, e⟩ := List.mem_map.mp (h.mem_iff.mp hy)
    exact ⟨k, e.symm, hk⟩
  have h2 : ys = (ys.map Int.toNat).map iN := by
    rw [List.map_map]
    conv => lhs; rw [← List.map_id ys]
    refine List.map_congr_left fun y hy => ?_
    obtain ⟨k, e, _⟩ := h1 y hy
    rw [e]
    rfl
  have h3 : ys.Nodup := h.nodup_iff.mpr (by
    refine List.Pairwise.map _ (fun a b hab e => hab ?_) hn
    have e : (a : Int) = (b : Int) := e
    omega)
  refine ⟨ys.map Int.toNat, h2, ?_, fun x => ?_⟩
  · refine List.pairwise_map.mpr ?_
    have h4 := List.pairwise_and_iff.mpr ⟨hs, h3⟩
    refine List.Pairwise.imp_of_mem ?_ h4
    intro a b ha hb ⟨l1, l2⟩
    obtain ⟨k, e, _⟩ := h1 a ha
    obtain ⟨k', e', _⟩ := h1 b hb
    subst e e'
    have l1 : (k : Int) ≤ (k' : Int) := l1
    have l2 : (k : Int) ≠ (k' : Int) := l2
    show (Int.toNat (k : Int)) < (Int.toNat (k' : Int))
    omega
  · constructor
    · intro hx
      obtain ⟨y, hy, e⟩ := List.mem_map.mp hx
      obtain ⟨k, e', hk⟩ := h1 y hy
      subst e'
      have : k = x := by simpa using e
      exact this ▸ hk
    · intro hx
      have : iN x ∈ ys := h.mem_iff.mpr (List.mem_map_of_mem hx)
      exact List.mem_map.mpr ⟨_, this, by simp⟩
theorem same_none {H H1 : Hp} {p : Addr} (s : Same H H1) (h : H1 p = none) : H p = none := by
  cases z : H p with
  | none => rfl
  | some o => rw [s p o z] at h; cases h
def PartOf (l : List (A3 × Nat)) (x : Str) : Prop := ∃ e ∈ l, x = e.1.1 ∨ x = e.1.2.1
section
variable {P : Program} {w : World} {K : PySem.W.Frag} {mg : Str → Option Value} {base : Heap}
/-! ### parties_of -/
abbrev sParties : Stmt := top 13
def spParties : Sp := fun vs H Q _ => ∃ (vt : V) (rows : Rows Str) (ends : List Bool) (L : List Str), vs = [vt] ∧ TabAt H vt rows ends ∧ L.length ≤ 1000 ∧ (∀ x, PartOf rows.flatten x → x ∈ L) ∧
  ∀ (H' : Hp) (q : Addr) (ps : List Str), Same H H' → H q = none → H' q = some (.lst (ps.map V.str)) → (∀ x, x ∈ ps ↔ PartOf rows.flatten x) → Q (.ref q) H'
theorem scParties : FnScope ["table", "found", "row", "action", "_"] ["table"] (C8.fnScope sParties) := C8.fnScope_by (by decide +kernel)
theorem flat_take {α : Type} {l : List (List α)} {i : Nat} {x : List α} (h : l[i]? = some x) : (l.take (i + 1)).flatten = (l.take i).flatten ++ x := by
  rw [take_get h, List.flatten_append]
  simp
theorem part_sub {l m : List (A3 × Nat)} {x : Str} (h : PartOf l x) (hs : ∀ e ∈ l, e ∈ m) : PartOf m x := by
  obtain ⟨e, he, q⟩ := h
  exact ⟨e, hs e he, q⟩
theorem flat_sub {α : Type} {l : List (List α)} {i j : Nat} {x : List α} (h : l[i]? = some x) : ∀ e ∈ (l.take i).flatten ++ x.take j, e ∈ l.flatten := by
  intro e he
  rcases List.mem_append.mp he with q | q
  · obtain ⟨r, hr, hm⟩ := List.mem_flatten.mp q
    exact List.mem_flatten.mpr ⟨r, List.mem_of_mem_take hr, hm⟩
  · exact List.mem_flatten.mpr ⟨x, List.mem_of_getElem? h, List.mem_of_mem_take q⟩
theorem cal_parties {f : Addr} {fd : FuncData} (D : C8.Def K mg "parties_of" sParties f fd) (b : Binds K fd ["table"] []) (T : Tx mg) : C8.Cal P w K mg base 1 "parties_of" spParties [] := by
  have nd := scParties.nd
  refine C8.cal0 D b .nil scParties (fun vs H Q E h => ?_) (fun cdv A outer s H vs Q E hr h => ?_)
  · obtain ⟨vt, rows, ends, L, rfl, _⟩ := h
    rfl
  · obtain ⟨vt, rows, ends, L, rfl, hT, hL, hPL, k⟩ := h
    refine ⟨_, pss_cons (ps_set (i := 1) nd rfl (.inl rfl) pe_dnewK) (pss_cons (ps_for PassesOwn.never rfl (pi_tup (pe_ix ix_tup (pv 0) pe_int (fun _ _ => rfl))) (pg_name (i := 2) nd rfl (Or.inl rfl))
      (pss_one (ps_for PassesOwn.never rfl (pi_tup (pv 2)) (pg_tup rfl (pgs_cons (pg_name (i := 3) nd rfl (Or.inl rfl)) (pgs_cons (pg_name (i := 4) nd rfl (Or.inl rfl)) pgs_nil))) (pss_cons (ps_dput (hu1 hr) (pv 1) (pe_ix ix_tup (pv 3) pe_int (fun _ _ => rfl)) pe_bl rfl) (pss_one (ps_dput (hu1 hr) (pv 1) (pe_ix ix_tup (pv 3) pe_int (fun _ _ => rfl)) pe_bl rfl))))))
      (pss_one (ps_ret (pe_callB (cr_sortKS rfl (hu20 hr)) (by rfl) T.sorted (by decide +kernel) (pa_cons (pv 1) pa_nil))))), ?_⟩
    obtain ⟨p, vr, ve, rfl, hp, hR, hE⟩ := hT
    obtain ⟨pr, vrs, rfl, hpr, hrs⟩ := hR
    refine fun d hd => ⟨_, rfl, p, _, 1, _, rfl, rfl, SqT.of (same_new hd p _ hp), at1, pr, rfl, ⟨_, SqT.of (same_new hd pr _ hpr)⟩, ?_⟩
    have hrows := pd_len hrs
    have hz := sizeLine_eq
    refine for_tup (xs := vrs) (fun i σ H1 => Same H H1 ∧ ∃ kvs ks o2 o3 o4, σ = [some (.ref p), some (.ref d), o2, o3, o4] ∧ H1 d = some (.dK kvs) ∧ kvs.map (·.1) = ks.map (Sum.inr (α := Int)) ∧ ks.Nodup ∧ ∀ x, x ∈ ks ↔ PartOf (rows.take i).flatten x)
      ⟨same_new hd, [], [], _, _, _, rfl, upd_same, rfl, List.nodup_nil, fun x => ⟨fun h => absurd h (by simp), fun ⟨e, he, _⟩ => absurd he (by simp)⟩⟩ (fun i σ H1 _ ⟨s1, _⟩ => SqT.of (s1 pr _ hpr)) ?_ ?_
    · intro i x σ H1 hx ⟨s1, kvs, ks, o2, o3, o4, hσ, hd1, hk, hn, hm⟩
      subst hσ
      obtain ⟨row, hrow, q, es, rfl, hq, hes⟩ := pd_get hrs hx
      refine ⟨_, rfl, q, rfl, ⟨_, SqT.of (s1 q _ hq)⟩, ?_⟩
      refine for_tup (xs := es) (fun j σ H1 => Same H H1 ∧ ∃ kvs ks o3 o4, σ = [some (.ref p), some (.ref d), some (.ref q), o3, o4] ∧ H1 d = some (.dK kvs) ∧ kvs.map (·.1) = ks.map (Sum.inr (α := Int)) ∧ ks.Nodup ∧ ∀ x, x ∈ ks ↔ PartOf ((rows.take i).flatten ++ row.take j) x)
        ⟨s1, kvs, ks, _, _, rfl, hd1, hk, hn, by simpa using hm⟩ (fun i σ H1 _ ⟨s1, _⟩ => SqT.of (s1 q _ hq)) ?_ ?_
      · intro j y σ H2 hy ⟨s2, kvs, ks, o3, o4, hσ, hd2, hk, hn, hm⟩
        subst hσ
        obtain ⟨e, he, pe, vo, rfl, hpe, pa, rfl, hpa⟩ := pd_get hes hy
        have hks : ∀ ks' : List Str, ks'.Nodup → (∀ x ∈ ks', PartOf ((rows.take i).flatten ++ row.take (j + 1)) x) → ks'.length < sizeLine := fun ks' h1 h2 => by
          have := nodup_sub h1 fun x hx => hPL x (part_sub (h2 x hx) (flat_sub hrow))
          omega
        have htk := take_get he
        refine ⟨_, _, rfl, SqT.of (s2 pe _ hpe), rfl, _, _, rfl, _, _, rfl, rfl, ?_⟩
        have up : ∀ x, PartOf ((rows.take i).flatten ++ row.take j) x → PartOf ((rows.take i).flatten ++ row.take (j + 1)) x := fun x h => part_sub h fun z hz => by
          rw [htk, ← List.append_assoc]
          exact List.mem_append_left _ hz
        have new : ∀ x, (x = e.1.1 ∨ x = e.1.2.1) → PartOf ((rows.take i).flatten ++ row.take (j + 1)) x := fun x h => ⟨e, by rw [htk, ← List.append_assoc]; simp, h⟩
        obtain ⟨ks1, hk1, hn1, hm1⟩ := put_keys (Sum.inr (α := Int)) inr_inj hk hn e.1.1 (.bl true)
        obtain ⟨ks2, hk2, hn2, hm2⟩ := put_keys (Sum.inr (α := Int)) inr_inj hk1 hn1 e.1.2.1 (.bl true)
        have l1 : ∀ x ∈ ks1, PartOf ((rows.take i).flatten ++ row.take (j + 1)) x := fun x hx => ((hm1 x).mp hx).elim (fun h => up x ((hm x).mp h)) fun h => new x (.inl h)
        refine ⟨_, rfl, _, rfl, pa, _, 0, _, rfl, rfl, SqT.of (s2 pa _ hpa), at0, d, _, rfl, DPut.k (k := Sum.inr _) hd2 (by rw [len_keys hk]; exact hks ks hn fun x hx => up x ((hm x).mp hx)), ?_⟩
        have hne : pa ≠ d := ne_of_none hpa hd
        refine ⟨_, rfl, _, rfl, pa, _, 1, _, rfl, rfl, SqT.of ((upd_ne hne).trans (s2 pa _ hpa)), at1, d, _, rfl, DPut.k (k := Sum.inr _) upd_same (by rw [len_keys hk1]; exact hks ks1 hn1 l1), ?_⟩
        refine ⟨same_upd (same_upd s2 hd) hd, _, ks2, _, _, rfl, upd_same, hk2, hn2, fun x => ?_⟩
        rw [hm2, hm1, hm]
        constructor
        · rintro ((h | h) | h)
          · exact up x h
          · exact new x (.inl h)
          · exact new x (.inr h)
        · rintro ⟨z, hz, h⟩
          rw [htk, ← List.append_assoc] at hz
          rcases List.mem_append.mp hz with hz | hz
          · exact .inl (.inl ⟨z, hz, h⟩)
          · rw [List.mem_singleton] at hz
            subst hz
            exact h.elim (fun h => .inl (.inr h)) .inr
      · intro σ H2 ⟨s2, kvs, ks, o3, o4, hσ, hd2, hk, hn, hm⟩
        subst hσ
        rw [pd_len hes, List.take_length] at hm
        rw [← flat_take hrow] at hm
        exact ⟨s2, kvs, ks, _, _, _, rfl, hd2, hk, hn, hm⟩
    · intro σ H1 ⟨s1, kvs, ks, o2, o3, o4, hσ, hd1, hk, hn, hm⟩
      subst hσ
      rw [hrows, List.take_length] at hm
      refine ⟨_, rfl, d, kvs, ks, rfl, hd1, hk, fun ys p2 hperm hp2 => ?_⟩
      have hp0 : H p2 = none := by
        cases z : H p2 with
        | none => rfl
        | some o => rw [s1 p2 o z] at hp2; cases hp2
      exact k _ p2 ys (same_upd s1 hp0) hp0 upd_same fun x => (hperm.mem_iff).trans (hm x)

/-! ### reached_unseen -/
abbrev sReach : Stmt := top 16
def spReach : Sp := fun vs H Q _ => ∃ (vt : V) (rows : Rows Str) (ends : List Bool) (s : Nat) (p : Str), vs = [vt, nV s, .str p, .bl true] ∧ TabAt H vt rows ends ∧ WF rows ∧ s < rows.length ∧ rows.length ≤ 1000 ∧
  ∀ (H' : Hp) (v : V) (R : List Nat), Same H H' → NatsAt H' v R → Asc R → (∀ y, y ∈ R ↔ Reach rows p s y) → Q v H'
theorem scReach : FnScope ["table", "state", "party", "seen", "found", "waiting", "action", "goal"] ["table", "state", "party", "seen"] (C8.fnScope sReach) := C8.fnScope_by (by decide +kernel)
structure RI (rows : Rows Str) (p : Str) (s : Nat) (ks ws : List Nat) (Z : Nat → Prop) : Prop where
  nd : ks.Nodup
  here : s ∈ ks
  sound : ∀ x ∈ ks, Reach rows p s x
  sub : ∀ x ∈ ws, x ∈ ks
  wnd : ws.Nodup
  done : ∀ x ∈ ks, x ∈ ws ∨ Z x ∨ ∀ row, rows[x]? = some row → ∀ e ∈ row, cc e.1 p = false → e.2 ∈ ks
theorem Reach.lt {rows : Rows Str} {p : Str} {s y : Nat} (W : WF rows) (hs : s < rows.length) (h : Reach rows p s y) : y < rows.length := by
  obtain ⟨r, h1, _⟩ := h
  exact W.walk (by omega) hs h1
theorem RI.len {rows : Rows Str} {p : Str} {s : Nat} {ks ws : List Nat} {Z : Nat → Prop} (W : WF rows) (hs : s < rows.length) (R : RI rows p s ks ws Z) : ks.length ≤ rows.length := by
  have := nodup_sub (m := List.range rows.length) R.nd fun x hx => List.mem_range.mpr (Reach.lt W hs (R.sound x hx))
  simpa using this
theorem RI.add {rows : Rows Str} {p : Str} {s : Nat} {ks ws : List Nat} {x : Nat} {row : Row Str} {e : A3 × Nat} (W : WF rows) (R : RI rows p s ks ws (· = x)) (hx : x ∈ ks) (hr : rows[x]? = some row) (he : e ∈ row) (hc : cc e.1 p = false) (hn : e.2 ∉ ks) : RI rows p s (ks ++ [e.2]) (ws ++ [e.2]) (· = x) where
  nd := nodup_snoc R.nd hn
  here := List.mem_append_left _ R.here
  sound := fun y hy => by
    rcases List.mem_append.mp hy with q | q
    · exact R.sound y q
    · rw [List.mem_singleton] at q
      subst q
      exact Reach.tail (R.sound x hx) ((W.step hr).mpr he) hc
  sub := fun y hy => by
    rcases List.mem_append.mp hy with q | q
    · exact List.mem_append_left _ (R.sub y q)
    · exact List.mem_append_right _ q
  wnd := nodup_snoc R.wnd fun z => hn (R.sub _ z)
  done := fun y hy => by
    rcases List.mem_append.mp hy with q | q
    · rcases R.done y q with h | h | h
      · exact .inl (List.mem_append_left _ h)
      · exact .inr (.inl h)
      · exact .inr (.inr fun row hr e he hc => List.mem_append_left _ (h row hr e he hc))
    · exact .inl (List.mem_append_right _ q)
abbrev kI (n : Nat) : Key := Sum.inl (n : Int)
theorem cal_reach {f : Addr} {fd : FuncData} (D : C8.Def K mg "reached_unseen" sReach f fd) (b : Binds K fd ["table", "state", "party", "seen"] []) (T : Tx mg) (c1 : C8.Cal P w K mg base 1 "concerns" spConcerns []) : C8.Cal P w K mg base 2 "reached_unseen" spReach [] := by
  have nd := scReach.nd
  refine C8.cal0 D b .nil scReach (fun vs H Q E h => ?_) (fun cdv A outer s0 H vs Q E hr h => ?_)
  · obtain ⟨vt, rows, ends, s, p, rfl, _⟩ := h
    rfl
  · obtain ⟨vt, rows, ends, s, p, rfl, hT, W, hs, hsz, k⟩ := h
    refine ⟨_, pss_cons (ps_set (i := 4) nd rfl (.inl rfl) (pe_disp (pps_cons (pv 1) pe_bl pps_nil) (by rfl) (by rfl) (fun z => by cases z) (by decide))) (pss_cons (ps_set (i := 5) nd rfl (.inl rfl) (pe_lst (pa_cons (pv 1) pa_nil)))
      (pss_cons (ps_while PassesOwn.never (pt_truth (pv 5) (by intro _; rfl)) (pss_one (ps_for PassesOwn.never rfl (pi_tup (pe_ix ix_tup (pe_ix ix_tup (pv 0) pe_int (fun _ _ => rfl)) (pe_bm0 PySem.F.plainAttrs_list PySem.F.slot_list_pop PySem.F.type_list_pop mt_pop (pv 5)) (fun _ _ => rfl))) (pg_tup rfl (pgs_cons (pg_name (i := 6) nd rfl (Or.inl rfl)) (pgs_cons (pg_name (i := 7) nd rfl (Or.inl rfl)) pgs_nil)))
        (pss_one (ps_if (PW.pt (pw_and (pt_cmpR op_ne (C8.pe_c c1 hr (by decide) (by rfl) (pa_cons (pv 6) (pa_cons (pv 2) pa_nil))) (pv 3) (nomark _)) (pw_and1 (pt_cmp (pc_dnotin (hu1 hr) (pv 7) (pv 4))))))
          (pss_cons (ps_dput (hu1 hr) (pv 4) (pv 7) pe_bl rfl) (pss_one (ps_expr (pe_bm PySem.F.plainAttrs_list PySem.F.slot_list_append PySem.F.type_list_append mt_append (pv 5) (pa_cons (pv 7) pa_nil))))) pss_nil)))))
      (pss_one (ps_ret (pe_callTy call_tuple_of (by rfl) T.tuple (by decide +kernel) (pa_cons (pe_callB (cr_sortKI rfl (hu20 hr)) (by rfl) T.sorted (by decide +kernel) (pa_cons (pv 4) pa_nil)) pa_nil)))))), ?_⟩
    obtain ⟨pt, vr, ve, rfl, hp, hR, hE⟩ := hT
    obtain ⟨pr, vrs, rfl, hpr, hrs⟩ := hR
    have hrows := pd_len hrs
    have hz := sizeLine_eq
    refine fun F hF => ⟨_, rfl, upd_same, [(kI s, .bl true)], rfl, by show 1 ≤ 15; decide, ?_⟩
    refine ⟨_, rfl, by show 1 ≤ sizeLine; decide, fun Wd hW => ?_⟩
    have hFW : F ≠ Wd := ne_of_none (upd_same (H := upd H F (.dK []))) hW
    have hW0 : H Wd = none := by
      rw [upd_ne (Ne.symm hFW), upd_ne (Ne.symm hFW)] at hW
      exact hW
    refine ⟨fun m σ H1 => ∃ kvs ks ws o6 o7, σ = [some (.ref pt), some (nV s), some (.str p), some (.bl true), some (.ref F), some (.ref Wd), o6, o7] ∧ Same H H1 ∧ H1 F = some (.dK kvs) ∧ H1 Wd = some (.lst (ws.map nV)) ∧ kvs.map (·.1) = ks.map kI ∧ RI rows p s ks ws (fun _ => False) ∧ m = 2 * (rows.length - ks.length) + ws.length,
      ⟨_, _, [s], [s], _, _, rfl, ?_, (upd_ne hFW).trans upd_same, upd_same, rfl, ?_, rfl⟩, ?_⟩
    · exact same_upd (same_upd (same_new hF) hF) hW0
    · exact ⟨by simp, by simp, fun x hx => by rw [List.mem_singleton] at hx; exact hx ▸ Reach.refl rows p s, fun x h => h, by simp, fun x h => .inl h⟩
    · rintro m σ H1 ⟨kvs, ks, ws, o6, o7, hσ, s1, hF1, hW1, hk, R, hm⟩
      subst hσ
      refine ⟨_, rfl, _, .inl ⟨_, SqL.of hW1, rfl⟩, ?_⟩
      rcases List.eq_nil_or_concat ws with e | ⟨ws0, x, e⟩
      · subst e
        refine iteF ?_
        refine ⟨_, rfl, F, kvs, ks.map iN, rfl, hF1, by rw [List.map_map]; exact hk, fun ys p2 hperm hsort hp2 => ?_⟩
        refine ⟨p2, _, rfl, .inl ⟨SqL.of upd_same, fun l hl => ?_⟩⟩
        obtain ⟨R2, e1, e2, e3⟩ := nats_of hperm R.nd hsort
        have hp0 := same_none s1 hp2
        have s2 : Same H (upd H1 p2 (.lst (ys.map V.int))) := same_upd s1 hp0
        refine k _ (.ref l) R2 (same_upd s2 (same_none s2 hl)) ⟨l, rfl, ?_⟩ e2 fun y => (e3 y).trans ⟨fun h => R.sound y h, fun h => ?_⟩
        · rw [upd_same, e1, List.map_map]
          rfl
        · refine Reach.closed (P := fun y => y ∈ ks) (fun t a u ht hst hc => ?_) R.here h
          obtain ⟨row, hr1, hr2⟩ := stepT_some hst
          rcases R.done t ht with q | q | q
          · cases q
          · exact q.elim
          · exact q row hr1 (a, u) (stepR_mem hr2) hc
      · have e : ws = ws0 ++ [x] := by simpa using e
        subst e
        have hxk : x ∈ ks := R.sub x (by simp)
        have hxl : x < rows.length := Reach.lt W hs (R.sound x hxk)
        have hrow : rows[x]? = some rows[x] := List.getElem?_eq_getElem hxl
        obtain ⟨vx, hvx, q, es, rfl, hq, hes⟩ := pd_get2 hrs hrow
        have hne : (!((ws0 ++ [x]).map nV).isEmpty) = true := by simp
        rw [hne]
        refine iteT ?_
        refine ⟨_, fun σ' H' h => h, ?_⟩
        have hlast : ((ws0 ++ [x]).map nV)[((ws0 ++ [x]).map nV).length - 1]? = some (nV x) := by simp
        have hdrop : ((ws0 ++ [x]).map nV).dropLast = ws0.map nV := by simp
        have s2 : Same H (upd H1 Wd (.lst (ws0.map nV))) := same_upd s1 hW0
        refine ⟨_, rfl, pt, _, 1, _, rfl, rfl, SqT.of (s1 _ _ hp), at1, _, rfl, .inl ⟨rfl, _, SqL.of hW1⟩, Wd, _, _, rfl, rfl, hW1, hlast, pr, _, (x : Int), _, rfl, rfl, SqT.of (same_upd s1 hW0 _ _ hpr), atI_nat hvx, q, rfl, ⟨_, SqT.of (same_upd s1 hW0 _ _ hq)⟩, ?_⟩
        rw [hdrop]
        have R1 : RI rows p s ks ws0 (· = x) := ⟨R.nd, R.here, R.sound, fun y hy => R.sub y (List.mem_append_left _ hy), (List.nodup_append.mp R.wnd).1, fun y hy => by
          rcases R.done y hy with z | z | z
          · rcases List.mem_append.mp z with z | z
            · exact .inl z
            · exact .inr (.inl (List.mem_singleton.mp z))
          · exact z.elim
          · exact .inr (.inr z)⟩
        have hm1 : 2 * (rows.length - ks.length) + ws0.length < m := by rw [hm]; simp
        clear hlast hdrop hne R hm hW1 s2
        refine for_tup (xs := es) (fun j σ H2 => ∃ kvs ks ws o6 o7, σ = [some (.ref pt), some (nV s), some (.str p), some (.bl true), some (.ref F), some (.ref Wd), o6, o7] ∧ Same H H2 ∧ H2 F = some (.dK kvs) ∧ H2 Wd = some (.lst (ws.map nV)) ∧ kvs.map (·.1) = ks.map kI ∧
          RI rows p s ks ws (· = x) ∧ x ∈ ks ∧ (∀ e ∈ rows[x].take j, cc e.1 p = false → e.2 ∈ ks) ∧ 2 * (rows.length - ks.length) + ws.length < m)
          ⟨kvs, ks, ws0, _, _, rfl, same_upd s1 hW0, ?_, upd_same, hk, R1, hxk, by simp, hm1⟩ (fun i σ H1 _ ⟨_, _, _, _, _, _, s1, _⟩ => SqT.of (s1 q _ hq)) ?_ ?_
        · rw [upd_ne hFW]
          assumption
        · rintro j y σ H2 hy ⟨kvs, ks, ws, o6, o7, hσ, s2, hF2, hW2, hk, R, hxk, hdone, hm⟩
          subst hσ
          obtain ⟨e, he, pe, vo, rfl, hpe, hvo⟩ := pd_get hes hy
          have hmem : e ∈ rows[x] := List.mem_of_getElem? he
          have hdec : ∀ {ks' : List Nat}, (∀ z ∈ ks, z ∈ ks') → (cc e.1 p = false → e.2 ∈ ks') → ∀ z ∈ rows[x].take (j + 1), cc z.1 p = false → z.2 ∈ ks' := fun h1 h2 z hz hc => by
            rcases take_mem he hz with h | h
            · exact h1 _ (hdone z h hc)
            · subst h; exact h2 hc
          refine ⟨_, _, rfl, SqT.of (s2 pe _ hpe), rfl, _, _, rfl, _, _, rfl, rfl, ?_⟩
          refine ⟨_, rfl, _, rfl, vo, e.1, p, rfl, hvo.mono (same_tups s2), _, rfl, rfl, _, rfl, ?_⟩
          refine ite_b (fun hc => ?_) (fun hc => ?_)
          · have hc : cc e.1 p = false := by
              cases z : cc e.1 p with
              | false => rfl
              | true => rw [z] at hc; exact absurd hc (by decide)
            refine ⟨_, rfl, _, rfl, F, _, rfl, DGet.k (k := kI e.2) hF2, _, rfl, ?_⟩
            rw [val_keys kI inlN_inj hk]
            refine ite_b (fun hn => ?_) (fun hn => ?_)
            · have hn : e.2 ∉ ks := by simpa using hn
              have hR := R.add W hxk hrow hmem hc hn
              have hlen := hR.len W hs
              refine ⟨_, rfl, _, rfl, F, _, rfl, DPut.k (k := kI e.2) hF2 (by rw [len_keys hk]; rw [List.length_append, List.length_singleton] at hlen; omega), ?_⟩
              refine ⟨_, rfl, .inl ⟨rfl, _, SqL.of ((upd_ne (Ne.symm hFW)).trans hW2)⟩, _, rfl, Wd, _, _, rfl, rfl, (upd_ne (Ne.symm hFW)).trans hW2, ?_, ?_⟩
              · rw [List.length_map]
                have := nodup_sub R.wnd R.sub
                rw [List.length_append, List.length_singleton] at hlen
                omega
              · refine ⟨_, ks ++ [e.2], ws ++ [e.2], _, _, rfl, same_upd (same_upd s2 hF) hW0, (upd_ne hFW).trans upd_same, ?_, put_new kI inlN_inj hk hn _, hR, List.mem_append_left _ hxk, hdec (fun z hz => List.mem_append_left _ hz) (fun _ => by simp), ?_⟩
                · rw [upd_same, List.map_append]
                  rfl
                · rw [List.length_append, List.length_singleton] at hlen ⊢
                  rw [List.length_append, List.length_singleton]
                  omega
            · have hn : e.2 ∈ ks := by simpa using hn
              exact ⟨_, ks, ws, _, _, rfl, s2, hF2, hW2, hk, R, hxk, hdec (fun z hz => hz) (fun _ => hn), hm⟩
          · have hc : cc e.1 p = true := by
              cases z : cc e.1 p with
              | true => rfl
              | false => rw [z] at hc; exact absurd hc (by decide)
            exact ⟨_, ks, ws, _, _, rfl, s2, hF2, hW2, hk, R, hxk, hdec (fun z hz => hz) (fun h => by rw [hc] at h; cases h), hm⟩
        · rintro σ H2 ⟨kvs, ks, ws, o6, o7, hσ, s2, hF2, hW2, hk, R, hxk, hdone, hm⟩
          subst hσ
          refine ⟨_, hm, kvs, ks, ws, _, _, rfl, s2, hF2, hW2, hk, ⟨R.nd, R.here, R.sound, R.sub, R.wnd, fun y hy => ?_⟩, rfl⟩
          rcases R.done y hy with z | z | z
          · exact .inl z
          · subst z
            refine .inr (.inr fun row hr e he => ?_)
            rw [hrow] at hr
            cases hr
            rw [pd_len hes, List.take_length] at hdone
            exact hdone e he
          · exact .inr (.inr z)
end
end Pk
/-! grouped. -/
namespace Pk
open PySem L2 PM
theorem dc_it {J : It} {n : Nat} {G : Hp → Prop} {Y : Nat → Hp → V → Hp → Prop} (w : Walk J n G Y) {g : TG} {tk tv : TE} {vs : List Nat} {σ : L2.St} {H1 : Hp} {D : Addr} {Qd : Hp → Prop} (Pv : Nat → Hp → Prop) (h0 : Pv 0 (upd H1 D (.dT []))) (hG : ∀ i H, i ≤ n → Pv i H → G H)
    (hs : ∀ i x H H', i < n → Pv i H → Y i H x H' → g x (wipe σ vs) H' fun σ2 H2 => wipe σ2 vs = wipe σ vs ∧
      tk σ2 H2 fun y H3 => tv σ2 H3 fun z H4 => ∃ (kvs : List (List Key × V)) (k : List Key) (b : Addr), y = .ref b ∧ H4 b = some (.tup (k.map kV)) ∧ H4 D = some (.dT kvs) ∧ kvs.length < sizeLine ∧ Pv (i + 1) (upd H4 D (.dT (putK kvs k z)))) (hd : ∀ H, Pv n H → Qd H) :
    ∃ W : Nat → Nat → Hp → Prop, (∃ m, W 0 m (upd H1 D (.dT []))) ∧ ∀ i m H, W i m H →
      (J.stop i H ∧ Qd H) ∨ (J.go i H ∧ ∃ Nx : Hp → Prop, (∀ H', Nx H' → ∃ m', m' < m ∧ W (i + 1) m' H') ∧ ∀ x H', J.yld i H x H' → g x (wipe σ vs) H' fun σ2 H2 => wipe σ2 vs = wipe σ vs ∧
        tk σ2 H2 fun y H3 => tv σ2 H3 fun z H4 => ∃ (kvs : List (List Key × V)) (k : List Key) (b : Addr), y = .ref b ∧ H4 b = some (.tup (k.map kV)) ∧ H4 D = some (.dT kvs) ∧ kvs.length < sizeLine ∧ Nx (upd H4 D (.dT (putK kvs k z)))) := by
  refine ⟨fun i m H => m = n - i ∧ i ≤ n ∧ Pv i H, ⟨n, by simp, Nat.zero_le _, h0⟩, ?_⟩
  rintro i m H ⟨rfl, hi, p⟩
  have q := hG i H hi p
  by_cases hlt : i < n
  · exact .inr ⟨w.goes i H hlt q, Pv (i + 1), fun H' p' => ⟨n - (i + 1), by omega, rfl, hlt, p'⟩, fun x H' y => hs i x H H' hlt p (w.yields i H x H' hlt q y)⟩
  · have e : i = n := by omega
    subst e
    exact .inl ⟨w.stops H q, hd H p⟩
theorem val_map {κ α : Type} [DecidableEq κ] (f : α → κ) (hf : ∀ a b, f a = f b → a = b) (g : α → V) : ∀ {as : List α} {a : α}, a ∈ as → valV (as.map fun a => (f a, g a)) (f a) = some (g a)
  | b :: as, a, h => by
    rw [List.map_cons]
    by_cases e : f b = f a
    · rw [valV_pos (p := (f b, g b)) e, hf _ _ e]
    · rw [valV_neg (p := (f b, g b)) e]
      rcases List.mem_cons.mp h with h | h
      · exact absurd (by rw [h]) e
      · exact val_map f hf g h
theorem val_map_none {κ α : Type} [DecidableEq κ] [DecidableEq α] (f : α → κ) (hf : ∀ a b, f a = f b → a = b) (g : α → V) {as : List α} {a : α} (h : a ∉ as) : valV (as.map fun a => (f a, g a)) (f a) = none := by
  have := val_keys f hf (kvs := as.map fun a => (f a, g a)) (ks := as) (by simp [List.map_map, Function.comp_def]) a
  rw [decide_eq_false h] at this
  cases z : valV (as.map fun a => (f a, g a)) (f a) with
  | none => rfl
  | some y => rw [z] at this; cases this

theorem val_none {κ α : Type} [DecidableEq κ] [DecidableEq α] (f : α → κ) (hf : ∀ a b, f a = f b → a = b) {kvs : List (κ × V)} {ks : List α} (h : kvs.map (·.1) = ks.map f) {x : α} (hx : x ∉ ks) : valV kvs (f x) = none := by
  have := val_keys f hf h x
  rw [decide_eq_false hx] at this
  cases z : valV kvs (f x) with
  | none => rfl
  | some y => rw [z] at this; cases this
/-! ### the groups as they grow -/
structure GI (H0 H1 : Hp) (G : Addr) (T : List (A3 × List Nat)) (as : List A3) (ad : A3 → Addr) (st : A3 → List Nat) : Prop where
  same : Same H0 H1
  no : H0 G = none
  dict : H1 G = some (.dT (as.map fun a => (kA a, V.ref (ad a))))
  nd : as.Nodup
  mem : ∀ a, a ∈ as ↔ ∃ m ∈ T, m.1 = a
  inj : ∀ a ∈ as, ∀ b ∈ as, ad a = ad b → a = b
  own : ∀ a ∈ as, H0 (ad a) = none ∧ (st a).Nodup ∧ ∃ kvs : List (Key × V), H1 (ad a) = some (.dK kvs) ∧ kvs.map (·.1) = (st a).map kI
  set : ∀ a ∈ as, ∀ y, y ∈ st a ↔ ∃ m ∈ T, m.1 = a ∧ y ∈ m.2
theorem GI.ne {H0 H1 : Hp} {G : Addr} {T : List (A3 × List Nat)} {as : List A3} {ad : A3 → Addr} {st : A3 → List Nat} (I : GI H0 H1 G T as ad st) {a : A3} (ha : a ∈ as) : ad a ≠ G := by
  obtain ⟨_, _, kvs, h, _⟩ := I.own a ha
  intro e
  rw [e, I.dict] at h
  cases h
theorem GI.old {H0 H1 : Hp} {G p : Addr} {T : List (A3 × List Nat)} {as : List A3} {ad : A3 → Addr} {st : A3 → List Nat} (I : GI H0 H1 G T as ad st) (hp : H1 p = none) {a : A3} (ha : a ∈ as) : GI H0 (upd H1 p (.dK [])) G (T ++ [(a, [])]) as ad st where
  same := same_upd I.same (same_none I.same hp)
  no := I.no
  dict := (upd_ne (ne_of_none I.dict hp)).trans I.dict
  nd := I.nd
  mem := fun b => by
    rw [I.mem]
    constructor
    · rintro ⟨m, hm, e⟩
      exact ⟨m, List.mem_append_left _ hm, e⟩
    · rintro ⟨m, hm, e⟩
      rcases List.mem_append.mp hm with hm | hm
      · exact ⟨m, hm, e⟩
      · rw [List.mem_singleton] at hm
        subst hm
        subst e
        exact (I.mem _).mp ha
  inj := I.inj
  own := fun b hb => by
    obtain ⟨h1, h2, kvs, h3, h4⟩ := I.own b hb
    exact ⟨h1, h2, kvs, (upd_ne (ne_of_none h3 hp)).trans h3, h4⟩
  set := fun b hb y => by
    rw [I.set b hb]
    constructor
    · rintro ⟨m, hm, e⟩
      exact ⟨m, List.mem_append_left _ hm, e⟩
    · rintro ⟨m, hm, e, hy⟩
      rcases List.mem_append.mp hm with hm | hm
      · exact ⟨m, hm, e, hy⟩
      · rw [List.mem_singleton] at hm
        subst hm
        cases hy
theorem GI.fresh {H0 H1 : Hp} {G p : Addr} {T : List (A3 × List Nat)} {as : List A3} {ad : A3 → Addr} {st : A3 → List Nat} (I : GI H0 H1 G T as ad st) (hp : H1 p = none) {a : A3} (ha : a ∉ as) :
    GI H0 (upd (upd H1 p (.dK [])) G (.dT (putK (as.map fun a => (kA a, V.ref (ad a))) (kA a) (.ref p)))) G (T ++ [(a, [])]) (as ++ [a]) (fun b => if b = a then p else ad b) (fun b => if b = a then [] else st b) := by
  have hne : p ≠ G := Ne.symm (ne_of_none I.dict hp)
  have hold : ∀ b ∈ as, b ≠ a := fun b hb e => ha (e ▸ hb)
  refine ⟨same_upd (same_upd I.same (same_none I.same hp)) I.no, I.no, ?_, nodup_snoc I.nd ha, fun b => ?_, ?_, ?_, ?_⟩
  · rw [upd_same, putK_new _ (val_map_none kA (fun _ _ => kA_inj) (fun a => V.ref (ad a)) ha), List.map_append]
    congr 3
    · refine List.map_congr_left fun b hb => ?_
      rw [if_neg (hold b hb)]
    · simp
  · rw [List.mem_append, I.mem, List.mem_singleton]
    constructor
    · rintro (⟨m, hm, e⟩ | e)
      · exact ⟨m, List.mem_append_left _ hm, e⟩
      · exact ⟨(a, []), by simp, e.symm⟩
    · rintro ⟨m, hm, e⟩
      rcases List.mem_append.mp hm with hm | hm
      · exact .inl ⟨m, hm, e⟩
      · rw [List.mem_singleton] at hm
        subst hm
        exact .inr e.symm
  · intro b hb c hc e
    have hP : ∀ b ∈ as, ad b ≠ p := fun b hb => by
      obtain ⟨_, _, kvs, h3, _⟩ := I.own b hb
      exact ne_of_none h3 hp
    rw [List.mem_append, List.mem_singleton] at hb hc
    rcases hb with hb | hb <;> rcases hc with hc | hc
    · rw [if_neg (hold b hb), if_neg (hold c hc)] at e
      exact I.inj b hb c hc e
    · subst hc
      rw [if_neg (hold b hb), if_pos rfl] at e
      exact absurd e (hP b hb)
    · subst hb
      rw [if_pos rfl, if_neg (hold c hc)] at e
      exact absurd e.symm (hP c hc)
    · rw [hb, hc]
  · intro b hb
    rw [List.mem_append, List.mem_singleton] at hb
    rcases hb with hb | hb
    · rw [if_neg (hold b hb), if_neg (hold b hb)]
      obtain ⟨h1, h2, kvs, h3, h4⟩ := I.own b hb
      exact ⟨h1, h2, kvs, (upd_ne (I.ne hb)).trans ((upd_ne (ne_of_none h3 hp)).trans h3), h4⟩
    · rw [if_pos hb, if_pos hb]
      exact ⟨same_none I.same hp, List.nodup_nil, [], (upd_ne hne).trans upd_same, rfl⟩
  · intro b hb y
    rw [List.mem_append, List.mem_singleton] at hb
    rcases hb with hb | hb
    · rw [if_neg (hold b hb), I.set b hb]
      constructor
      · rintro ⟨m, hm, e⟩
        exact ⟨m, List.mem_append_left _ hm, e⟩
      · rintro ⟨m, hm, e, hy⟩
        rcases List.mem_append.mp hm with hm | hm
        · exact ⟨m, hm, e, hy⟩
        · rw [List.mem_singleton] at hm
          subst hm
          cases hy
    · rw [if_pos hb]
      subst hb
      constructor
      · intro h; cases h
      · rintro ⟨m, hm, e, hy⟩
        rcases List.mem_append.mp hm with hm | hm
        · exact absurd ((I.mem b).mpr ⟨m, hm, e⟩) ha
        · rw [List.mem_singleton] at hm
          subst hm
          exact hy
theorem GI.put {H0 H1 : Hp} {G : Addr} {T : List (A3 × List Nat)} {as : List A3} {ad : A3 → Addr} {st : A3 → List Nat} {a : A3} {l : List Nat} {y : Nat} {kvs : List (Key × V)} (I : GI H0 H1 G (T ++ [(a, l)]) as ad st) (ha : a ∈ as) (hk : H1 (ad a) = some (.dK kvs)) :
    ∃ st', GI H0 (upd H1 (ad a) (.dK (putK kvs (kI y) (.bl true)))) G (T ++ [(a, l ++ [y])]) as ad st' := by
  obtain ⟨h1, h2, kvs', h3, h4⟩ := I.own a ha
  rw [hk] at h3
  cases h3
  obtain ⟨ks', e1, e2, e3⟩ := put_keys kI inlN_inj h4 h2 y (.bl true)
  have hsp : ∀ b z, (∃ m ∈ T ++ [(a, l ++ [y])], m.1 = b ∧ z ∈ m.2) ↔ (∃ m ∈ T ++ [(a, l)], m.1 = b ∧ z ∈ m.2) ∨ (a = b ∧ z = y) := fun b z => by
    constructor
    · rintro ⟨m, hm, e, hz⟩
      rcases List.mem_append.mp hm with hm | hm
      · exact .inl ⟨m, List.mem_append_left _ hm, e, hz⟩
      · rw [List.mem_singleton] at hm
        subst hm
        rcases List.mem_append.mp hz with hz | hz
        · exact .inl ⟨(a, l), by simp, e, hz⟩
        · exact .inr ⟨e, List.mem_singleton.mp hz⟩
    · rintro (⟨m, hm, e, hz⟩ | ⟨e, hz⟩)
      · rcases List.mem_append.mp hm with hm | hm
        · exact ⟨m, List.mem_append_left _ hm, e, hz⟩
        · rw [List.mem_singleton] at hm
          subst hm
          exact ⟨(a, l ++ [y]), by simp, e, List.mem_append_left _ hz⟩
      · exact ⟨(a, l ++ [y]), by simp, e, by simp [hz]⟩
  refine ⟨fun b => if b = a then ks' else st b, same_upd I.same h1, I.no, (upd_ne (Ne.symm (I.ne ha))).trans I.dict, I.nd, fun b => ?_, I.inj, fun b hb => ?_, fun b hb z => ?_⟩
  · rw [I.mem]
    constructor
    · rintro ⟨m, hm, e⟩
      rcases List.mem_append.mp hm with hm | hm
      · exact ⟨m, List.mem_append_left _ hm, e⟩
      · rw [List.mem_singleton] at hm
        subst hm
        exact ⟨(a, l ++ [y]), by simp, e⟩
    · rintro ⟨m, hm, e⟩
      rcases List.mem_append.mp hm with hm | hm
      · exact ⟨m, List.mem_append_left _ hm, e⟩
      · rw [List.mem_singleton] at hm
        subst hm
        exact ⟨(a, l), by simp, e⟩
  · by_cases e : b = a
    · rw [if_pos e, e]
      exact ⟨h1, e2, _, upd_same, e1⟩
    · rw [if_neg e]
      obtain ⟨g1, g2, kb, g3, g4⟩ := I.own b hb
      exact ⟨g1, g2, kb, (upd_ne fun z => e (I.inj b hb a ha z)).trans g3, g4⟩
  · rw [hsp]
    by_cases e : b = a
    · rw [if_pos e, e3, e, I.set a ha]
      simp
    · rw [if_neg e, I.set b hb]
      constructor
      · exact .inl
      · rintro (h | ⟨h, _⟩)
        · exact h
        · exact absurd h.symm e

theorem both {Q C : V → Hp → Prop} {o : Option V} {z : V} {H3 H4 : Hp} (h : ∀ v H, C v H → Q v H) (h1 : ∀ v, o = some v → C v H3) (h2 : o = none → C z H4) : (∀ v, o = some v → Q v H3) ∧ (o = none → Q z H4) :=
  ⟨fun v e => h _ _ (h1 v e), fun e => h _ _ (h2 e)⟩
/-! ### rules said with K -/
def rTupOf (K : PySem.W.Frag) : List V → Hp → VK → Prop := fun xs H Q => ∃ p ys, xs = [.ref p] ∧ ((SqL K H p ys ∧ ∀ l, H l = none → Q (.ref l) (upd H l (.tup ys))) ∨ (SqT K H p ys ∧ Q (.ref p) H))
theorem cr_tup {X : Cx} {K : PySem.W.Frag} (e : X.K = K) : CallR X (.type "tuple") (rTupOf K) := by
  subst e
  exact call_tuple_of
theorem ix_tupK {X : Cx} {K : PySem.W.Frag} (e : X.K = K) : IxR X (rIxT K) := by
  subst e
  exact ix_tup
theorem ix_listK {X : Cx} {K : PySem.W.Frag} (e : X.K = K) : IxR X (rIxL K) := by
  subst e
  exact ix_list

/-! ### the text -/
abbrev sGrouped : Stmt := top 5
def GEnt (H : Hp) (kv : List Key × V) (g : A3 × List Nat) : Prop := kv.1 = kA g.1 ∧ NatsAt H kv.2 g.2
structure MOk (moves : Moves Str) (L : List A3) : Prop where
  len : L.length ≤ 10000
  rows : moves.length ≤ 1000
  act : ∀ row ∈ moves, ∀ m ∈ row, m.1 ∈ L
  lt : ∀ row ∈ moves, ∀ m ∈ row, ∀ x ∈ m.2, x < 1000
def spGrouped : Sp := fun vs H Q _ => ∃ (vn vm : V) (ns : List Nat) (moves : Moves Str) (L : List A3), vs = [vn, vm] ∧ NatsAt H vn ns ∧ MovesAt H vm moves ∧ (∀ n ∈ ns, n < moves.length) ∧ MOk moves L ∧
  ∀ (H' : Hp) (q : Addr) (kvs : List (List Key × V)) (gs : List (A3 × List Nat)), Same H H' → H q = none → H' q = some (.dT kvs) → Paired (GEnt H') kvs gs → (gs.map (·.1)).Nodup → (∀ g ∈ gs, IsGroup moves ns g.1 g.2) → (∀ a, HasMove moves ns a → a ∈ gs.map (·.1)) → Q (.ref q) H'
theorem scGrouped : FnScope ["nodes", "moves", "groups", "node", "action", "goals", "goal", "other"] ["nodes", "moves"] (C8.fnScope sGrouped) := C8.fnScope_by (by decide +kernel)
abbrev flatN (moves : Moves Str) (ns : List Nat) : List (A3 × List Nat) := ns.flatMap fun n => moves.getD n []
theorem flatN_mem {moves : Moves Str} {ns : List Nat} {m : A3 × List Nat} : m ∈ flatN moves ns ↔ ∃ n ∈ ns, ∃ row, moves[n]? = some row ∧ m ∈ row := by
  unfold flatN
  rw [List.mem_flatMap]
  constructor
  · rintro ⟨n, hn, hm⟩
    rw [List.getD_eq_getElem?_getD] at hm
    cases h : moves[n]? with
    | none => rw [h] at hm; cases hm
    | some row => rw [h] at hm; exact ⟨n, hn, row, h, hm⟩
  · rintro ⟨n, hn, row, h, hm⟩
    refine ⟨n, hn, ?_⟩
    rw [List.getD_eq_getElem?_getD, h]
    exact hm
theorem flatN_has {moves : Moves Str} {ns : List Nat} {a : A3} : (∃ m ∈ flatN moves ns, m.1 = a) ↔ HasMove moves ns a := by
  constructor
  · rintro ⟨m, hm, e⟩
    obtain ⟨n, hn, row, h, hm⟩ := flatN_mem.mp hm
    exact ⟨n, hn, row, h, m.2, by rw [← e]; exact hm⟩
  · rintro ⟨n, hn, row, h, g, hm⟩
    exact ⟨(a, g), flatN_mem.mpr ⟨n, hn, row, h, hm⟩, rfl⟩
theorem flatN_in {moves : Moves Str} {ns : List Nat} {a : A3} {y : Nat} : (∃ m ∈ flatN moves ns, m.1 = a ∧ y ∈ m.2) ↔ InGroup moves ns a y := by
  constructor
  · rintro ⟨m, hm, e, hy⟩
    obtain ⟨n, hn, row, h, hm⟩ := flatN_mem.mp hm
    exact ⟨n, hn, row, h, m.2, by rw [← e]; exact hm, hy⟩
  · rintro ⟨n, hn, row, h, g, hm, hy⟩
    exact ⟨(a, g), flatN_mem.mpr ⟨n, hn, row, h, hm⟩, rfl, hy⟩
theorem GEnt.mono {H H' : Hp} {kv : List Key × V} {g : A3 × List Nat} (h : GEnt H kv g) (t : Tups H H') : GEnt H' kv g := ⟨h.1, h.2.mono t⟩
theorem gent_keys {H : Hp} : ∀ {kvs : List (List Key × V)} {gs : List (A3 × List Nat)}, Paired (GEnt H) kvs gs → kvs.map (·.1) = (gs.map (·.1)).map kA
  | _, _, .nil => rfl
  | _, _, .cons r t => by
    rw [List.map_cons, List.map_cons, List.map_cons, gent_keys t, r.1]
section
variable {P : Program} {w : World} {K : PySem.W.Frag} {mg : Str → Option Value} {base : Heap}
theorem GI.bound {H0 H1 : Hp} {G : Addr} {T : List (A3 × List Nat)} {as : List A3} {ad : A3 → Addr} {st : A3 → List Nat} {moves : Moves Str} {L : List A3} (I : GI H0 H1 G T as ad st) (M : MOk moves L) (hT : ∀ m ∈ T, ∃ row ∈ moves, ∃ g, (m.1, g) ∈ row ∧ ∀ x ∈ m.2, x ∈ g) :
    as.length ≤ 10000 ∧ ∀ a ∈ as, (st a).length ≤ 1000 := by
  constructor
  · have := nodup_sub I.nd fun a ha => by
      obtain ⟨m, hm, e⟩ := (I.mem a).mp ha
      obtain ⟨row, hr, g, hg, _⟩ := hT m hm
      exact e ▸ M.act row hr _ hg
    have := M.len
    omega
  · intro a ha
    obtain ⟨_, h2, _⟩ := I.own a ha
    have := nodup_sub (m := List.range 1000) h2 fun y hy => by
      obtain ⟨m, hm, e, hy⟩ := (I.set a ha y).mp hy
      obtain ⟨row, hr, g, hg, hx⟩ := hT m hm
      exact List.mem_range.mpr (M.lt row hr _ hg y (hx y hy))
    simpa using this
theorem cal_grouped {f : Addr} {fd : FuncData} (D : C8.Def K mg "grouped" sGrouped f fd) (b : Binds K fd ["nodes", "moves"] []) (T : Tx mg) : C8.Cal P w K mg base 1 "grouped" spGrouped [] := by
  have nd := scGrouped.nd
  refine C8.cal0 D b .nil scGrouped (fun vs H Q E h => ?_) (fun cdv A outer s0 H vs Q E hr h => ?_)
  · obtain ⟨vn, vm, ns, moves, L, rfl, _⟩ := h
    rfl
  · obtain ⟨vn, vm, ns, moves, L, rfl, hN, hM, hlt, M, k⟩ := h
    refine ⟨_, pss_cons (ps_set (i := 2) nd rfl (.inr rfl) pe_dnewT) (pss_cons (ps_for PassesOwn.never rfl (pi_tup (pv 0)) (pg_name (i := 3) nd rfl (Or.inl rfl)) (pss_one (ps_for PassesOwn.never rfl (pi_list (pe_ix ix_list (pv 1) (pv 3) (fun _ _ => rfl))) (pg_tup rfl (pgs_cons (pg_name (i := 4) nd rfl (Or.inl rfl)) (pgs_cons (pg_name (i := 5) nd rfl (Or.inl rfl)) pgs_nil)))
      (pss_cons (ps_set (i := 6) nd rfl (.inl rfl) (pe_setdT (hu1 hr) (pv 2) (pv 4) pe_dnewK ⟨by rfl, by rfl, by rfl, by rfl⟩))
        (pss_one (ps_for PassesOwn.never rfl (pi_tup (pv 5)) (pg_name (i := 7) nd rfl (Or.inl rfl)) (pss_one (ps_dput (hu1 hr) (pv 6) (pv 7) pe_bl rfl))))))))
      (pss_one (ps_ret (pe_lock (pe_dcT (own := [("action", 4)]) (g := gName 4) rfl (hu1 hr) nd (pi_keys (pv 2)) (blkOk_by (N := ["nodes", "moves", "groups", "node", "action", "goals", "goal", "other"]) (sc := C8.fnScope sGrouped) (by decide +kernel)) (fun _ _ _ _ _ => (pg_name (i := 4) nd rfl (Or.inl rfl)))
        (fun _ _ _ _ _ => pv 4) (fun _ _ _ _ _ => pe_callTy (cr_tup (K := K) rfl) (by rfl) T.tuple (by decide +kernel) (pa_cons (pe_callB (cr_sortKI rfl (hu20 hr)) (by rfl) T.sorted (by decide +kernel) (pa_cons (pe_dget (hu1 hr) (pv 2) (pv 4) (fun _ _ => rfl)) pa_nil)) pa_nil))))))), ?_⟩
    obtain ⟨pn, rfl, hpn⟩ := hN
    obtain ⟨pm, vms, rfl, hpm, hms⟩ := hM
    have hz := sizeLine_eq
    have hmlen := pd_len hms
    refine fun G hG => ⟨_, rfl, pn, rfl, ⟨_, SqT.of (same_new hG pn _ hpn)⟩, ?_⟩
    refine for_tup (xs := ns.map nV) (fun i σ H1 => ∃ o3 o4 o5 o6 o7, σ = [some (.ref pn), some (.ref pm), some (.ref G), o3, o4, o5, o6, o7] ∧ ∃ as ad st, GI H H1 G (flatN moves (ns.take i)) as ad st)
      ⟨_, _, _, _, _, rfl, [], fun _ => 0, fun _ => [], same_new hG, hG, upd_same, List.nodup_nil, by simp [flatN], by simp, by simp, by simp⟩ (fun i σ H1 _ ⟨_, _, _, _, _, _, _, _, _, I⟩ => SqT.of (I.same _ _ hpn)) ?_ ?_
    · rintro i x σ H1 hx ⟨o3, o4, o5, o6, o7, hσ, as, ad, st, I⟩
      subst hσ
      obtain ⟨n, hn, rfl⟩ : ∃ n, ns[i]? = some n ∧ x = nV n := by
        rw [List.getElem?_map] at hx
        cases z : ns[i]? with
        | none => rw [z] at hx; cases hx
        | some n => rw [z] at hx; exact ⟨n, rfl, (Option.some.inj hx).symm⟩
      have hnl := hlt n (List.mem_of_getElem? hn)
      have hrow : moves[n]? = some moves[n] := List.getElem?_eq_getElem hnl
      have hrm : moves[n] ∈ moves := List.mem_of_getElem? hrow
      obtain ⟨vx, hvx, q, es, rfl, hq, hes⟩ := pd_get2 hms hrow
      have hfl : flatN moves (ns.take (i + 1)) = flatN moves (ns.take i) ++ moves[n] := by
        rw [take_get hn]
        simp [flatN, hnl]
      have hsub : ∀ j, ∀ m ∈ flatN moves (ns.take i) ++ moves[n].take j, ∃ row ∈ moves, m ∈ row := fun j m hm => by
        rcases List.mem_append.mp hm with hm | hm
        · obtain ⟨n', _, row, h, hm⟩ := flatN_mem.mp hm
          exact ⟨row, List.mem_of_getElem? h, hm⟩
        · exact ⟨_, hrm, List.mem_of_mem_take hm⟩
      refine ⟨_, rfl, _, rfl, pm, _, (n : Int), _, rfl, rfl, SqL.of (I.same _ _ hpm), atI_nat hvx, q, rfl, ⟨_, SqL.of (I.same _ _ hq)⟩, ?_⟩
      refine for_list (xs := es) (fun j σ H1 => ∃ o3 o4 o5 o6 o7, σ = [some (.ref pn), some (.ref pm), some (.ref G), o3, o4, o5, o6, o7] ∧ ∃ as ad st, GI H H1 G (flatN moves (ns.take i) ++ moves[n].take j) as ad st)
        ⟨_, _, _, _, _, rfl, as, ad, st, by simpa using I⟩ (fun i σ H1 _ ⟨_, _, _, _, _, _, _, _, _, I⟩ => SqL.of (I.same _ _ hq)) ?_ ?_
      · clear I
        rintro j y σ H2 hy ⟨o3, o4, o5, o6, o7, hσ, as, ad, st, I⟩
        subst hσ
        obtain ⟨m, hm, pe, va, vg, rfl, hpe, hva, pg, rfl, hpg⟩ := pd_get hes hy
        have htk := take_get hm
        have hmr : m ∈ moves[n] := List.mem_of_getElem? hm
        obtain ⟨pa, rfl, hpa⟩ := hva
        have hB := I.bound M fun z hz => by
          obtain ⟨row, h1, h2⟩ := hsub j z hz
          exact ⟨row, h1, z.2, h2, fun x h => h⟩
        refine ⟨_, _, rfl, SqT.of (I.same _ _ hpe), rfl, _, _, rfl, _, _, rfl, rfl, ?_⟩
        refine ⟨_, rfl, G, rfl, ⟨_, I.dict⟩, _, rfl, fun p hp => ⟨_, kA m.1, pa, (upd_ne (ne_of_none I.dict hp)).trans I.dict, rfl, same_new hp _ _ (I.same _ _ hpa), by rw [List.length_map]; omega, ?_⟩⟩
        refine both (C := fun v H3 => ∃ as ad st, v = .ref (ad m.1) ∧ m.1 ∈ as ∧ GI H H3 G (flatN moves (ns.take i) ++ moves[n].take j ++ [(m.1, [])]) as ad st) ?_ (fun v hv => ?_) (fun hv => ?_)
        · rintro _ H3 ⟨as, ad, st, rfl, ha, I3⟩
          refine ⟨_, rfl, pg, rfl, ⟨_, SqT.of (I3.same _ _ hpg)⟩, ?_⟩
          refine for_tup (xs := m.2.map nV) (fun l σ H1 => ∃ o3 o4 o5 o7, σ = [some (.ref pn), some (.ref pm), some (.ref G), o3, o4, o5, some (.ref (ad m.1)), o7] ∧ ∃ st, GI H H1 G (flatN moves (ns.take i) ++ moves[n].take j ++ [(m.1, m.2.take l)]) as ad st)
            ⟨_, _, _, _, rfl, st, I3⟩ (fun i σ H1 _ ⟨_, _, _, _, _, _, I⟩ => SqT.of (I.same _ _ hpg)) ?_ ?_
          · rintro l y σ H4 hy ⟨o3, o4, o5, o7, hσ, st, I4⟩
            subst hσ
            obtain ⟨u, hu, rfl⟩ : ∃ u, m.2[l]? = some u ∧ y = nV u := by
              rw [List.getElem?_map] at hy
              cases z : m.2[l]? with
              | none => rw [z] at hy; cases hy
              | some n => rw [z] at hy; exact ⟨n, rfl, (Option.some.inj hy).symm⟩
            obtain ⟨g1, g2, kvs, g3, g4⟩ := I4.own m.1 ha
            have hB := (I4.bound M fun z hz => by
              rcases List.mem_append.mp hz with hz | hz
              · obtain ⟨row, h1, h2⟩ := hsub j z hz
                exact ⟨row, h1, z.2, h2, fun x h => h⟩
              · rw [List.mem_singleton] at hz
                subst hz
                exact ⟨_, hrm, m.2, hmr, fun x h => List.mem_of_mem_take h⟩).2 _ ha
            refine ⟨_, rfl, _, rfl, ad m.1, _, rfl, DPut.k (k := kI u) g3 (by rw [len_keys g4]; omega), ?_⟩
            obtain ⟨st', I5⟩ := I4.put (y := u) ha g3
            rw [← take_get hu] at I5
            exact ⟨_, _, _, _, rfl, st', I5⟩
          · rintro σ H4 ⟨o3, o4, o5, o7, hσ, st, I4⟩
            subst hσ
            rw [List.length_map, List.take_length] at I4
            refine ⟨_, _, _, _, _, rfl, as, ad, st, ?_⟩
            rw [htk, ← List.append_assoc]
            exact I4
        · by_cases ha : m.1 ∈ as
          · rw [val_map kA (fun _ _ => kA_inj) (fun a => V.ref (ad a)) ha] at hv
            cases hv
            exact ⟨as, ad, st, rfl, ha, I.old hp ha⟩
          · rw [val_map_none kA (fun _ _ => kA_inj) (fun a => V.ref (ad a)) ha] at hv
            cases hv
        · by_cases ha : m.1 ∈ as
          · rw [val_map kA (fun _ _ => kA_inj) (fun a => V.ref (ad a)) ha] at hv
            cases hv
          · exact ⟨_, _, _, by rw [if_pos rfl], by simp, I.fresh hp ha⟩
      · rintro σ H2 ⟨o3, o4, o5, o6, o7, hσ, as, ad, st, I⟩
        subst hσ
        rw [pd_len hes, List.take_length, ← hfl] at I
        exact ⟨_, _, _, _, _, rfl, as, ad, st, I⟩
    · rintro σ H1 ⟨o3, o4, o5, o6, o7, hσ, as, ad, st, I⟩
      subst hσ
      rw [List.length_map, List.take_length] at I
      have hB := I.bound M fun z hz => by
        obtain ⟨n', _, row, h, hm⟩ := flatN_mem.mp hz
        exact ⟨row, List.mem_of_getElem? h, z.2, hm, fun x h => h⟩
      have hkl : (as.map fun a => (kA a, V.ref (ad a))).length = as.length := List.length_map ..
      have hks : ∀ i (kv : List Key × V), (as.map fun a => (kA a, V.ref (ad a)))[i]? = some kv → ∃ a, as[i]? = some a ∧ kv = (kA a, .ref (ad a)) := fun i kv h => by
        rw [List.getElem?_map] at h
        cases z : as[i]? with
        | none => rw [z] at h; cases h
        | some n => rw [z] at h; exact ⟨n, z, (Option.some.inj h).symm⟩
      have hval : ∀ a ∈ as, valV (as.map fun a => (kA a, V.ref (ad a))) (kA a) = some (.ref (ad a)) := fun a ha => val_map kA (fun _ _ => kA_inj) (fun a => V.ref (ad a)) ha
      have hd0 := I.dict
      generalize (as.map fun a => (kA a, V.ref (ad a))) = kv0 at hkl hks hval hd0
      refine ⟨G, _, hd0, trivial, fun od => ⟨_, rfl, G, od, rfl, .inr ⟨kv0, upd_same, fun D hD => ?_⟩⟩⟩
      have hGD : G ≠ D := ne_of_none upd_same hD
      have hHD : H D = none := by
        rw [upd_ne (Ne.symm hGD)] at hD
        exact same_none I.same hD
      refine dc_it (walk_keysT (kvs := kv0)) (fun i H2 => Same (upd H1 G (.frz od (.dT kv0))) H2 ∧ ∃ kvs gs, H2 D = some (.dT kvs) ∧ Paired (GEnt H2) kvs gs ∧ gs.map (·.1) = as.take i ∧ ∀ g ∈ gs, Asc g.2 ∧ ∀ y, y ∈ g.2 ↔ y ∈ st g.1)
        ⟨same_new hD, [], [], upd_same, .nil, rfl, fun _ h => nomatch h⟩ (fun i H2 _ ⟨s2, _⟩ => s2 G _ upd_same) ?_ ?_
      · rintro i x H2 H3 hi ⟨s2, kvs, gs, hD2, hpg, hgs, hset⟩ ⟨e, kk, vv, q, hkv, ex, hq⟩
        subst e ex
        obtain ⟨a, ha, e⟩ := hks i _ hkv
        have e1 : kk = kA a := congrArg Prod.fst e
        subst e1
        have hmem : a ∈ as := List.mem_of_getElem? ha
        obtain ⟨g1, g2, kva, g3, g4⟩ := I.own a hmem
        have hada : H3 (ad a) = some (.dK kva) := s2 _ _ ((upd_ne (I.ne hmem)).trans g3)
        refine ⟨rfl, _, rfl, _, rfl, _, rfl, G, .ref (ad a), rfl, .inr ⟨kv0, kA a, q, .inr ⟨od, s2 _ _ upd_same⟩, rfl, hq, (hval a hmem).symm⟩, ?_⟩
        refine ⟨ad a, kva, (st a).map iN, rfl, hada, by rw [List.map_map]; exact g4, fun ys p hperm hsort hp => ?_⟩
        refine ⟨p, _, rfl, .inl ⟨SqL.of upd_same, fun l hl => ?_⟩⟩
        obtain ⟨R, r1, r2, r3⟩ := nats_of hperm g2 hsort
        have n1 : ∀ {b o}, H3 b = some o → b ≠ p := fun z => ne_of_none z hp
        have n2 : ∀ {b o}, H3 b = some o → b ≠ l := fun z => ne_of_none ((upd_ne (n1 z)).trans z) hl
        have s3 : Same H3 (upd (upd H3 p (.lst (ys.map V.int))) l (.tup (ys.map V.int))) := fun b o z => (upd_ne (n2 z)).trans ((upd_ne (n1 z)).trans z)
        have hkeys := gent_keys hpg
        rw [hgs] at hkeys
        have hno : a ∉ as.take i := fun z => by
          have hnd : (as.take (i + 1)).Nodup := I.nd.sublist (List.take_sublist _ _)
          rw [take_get ha, List.nodup_append] at hnd
          exact hnd.2.2 a z a (by simp) rfl
        have hput : putK kvs (kA a) (.ref l) = kvs ++ [(kA a, .ref l)] := putK_new _ (val_none kA (fun _ _ => kA_inj) hkeys hno)
        have hlk : kvs.length ≤ 10000 := by
          have := len_keys hkeys
          rw [this]
          have := List.length_take_le i as
          have : (as.take i).length ≤ as.length := by rw [List.length_take]; omega
          omega
        refine ⟨kvs, kA a, q, rfl, s3 _ _ hq, s3 _ _ hD2, by omega, ?_⟩
        rw [hput]
        have hDl : l ≠ D := Ne.symm (n2 hD2)
        have t4 : Tups H3 (upd (upd (upd H3 p (.lst (ys.map V.int))) l (.tup (ys.map V.int))) D (.dT (kvs ++ [(kA a, .ref l)]))) := (same_tups s3).trans (tups_upd (s3 _ _ hD2) fun _ z => by cases z)
        refine ⟨same_upd (fun b o z => s3 b o (s2 b o z)) hD, kvs ++ [(kA a, .ref l)], gs ++ [(a, R)], upd_same, pd_snoc (pd_mono hpg fun _ _ z => z.mono t4) ⟨rfl, l, rfl, ?_⟩, ?_, ?_⟩
        · rw [upd_ne hDl, upd_same, r1, List.map_map]
          rfl
        · rw [List.map_append, hgs, take_get ha]
          rfl
        · intro g hg
          rcases List.mem_append.mp hg with hg | hg
          · exact hset g hg
          · rw [List.mem_singleton] at hg
            subst hg
            exact ⟨r2, r3⟩
      · rintro H2 ⟨s2, kvs, gs, hD2, hpg, hgs, hset⟩
        rw [hkl, List.take_length] at hgs
        have hG2 := s2 G _ upd_same
        refine ⟨hG2, k _ D kvs gs (fun b o z => ?_) hHD ((upd_ne (Ne.symm hGD)).trans hD2) (pd_mono hpg fun _ _ z => z.mono (tups_upd hG2 fun _ z => by cases z)) (by rw [hgs]; exact I.nd) (fun g hg => ?_) (fun a ha => ?_)⟩
        · have hb : b ≠ G := ne_of_none z hG
          rw [upd_ne hb]
          exact s2 b o ((upd_ne hb).trans (I.same b o z))
        · have hga : g.1 ∈ as := by rw [← hgs]; exact List.mem_map_of_mem hg
          obtain ⟨h1, h2⟩ := hset g hg
          exact ⟨flatN_has.mp ((I.mem _).mp hga), h1, fun y => (h2 y).trans ((I.set _ hga y).trans flatN_in)⟩
        · rw [hgs]
          exact (I.mem a).mpr (flatN_has.mpr ha)
end
end Pk
/-! subset_table. -/
namespace Pk
open PySem L2 PM
def EndsAt (H : Hp) (v : V) (l : List Bool) : Prop := ∃ p, v = .ref p ∧ (H p = some (.lst (l.map V.bl)) ∨ H p = some (.tup (l.map V.bl)))
theorem EndsAt.mono {H H' : Hp} {v : V} {l : List Bool} (h : EndsAt H v l) (s : Same H H') : EndsAt H' v l := by
  obtain ⟨p, e, h⟩ := h
  exact ⟨p, e, h.elim (fun h => .inl (s _ _ h)) fun h => .inr (s _ _ h)⟩
def kN (N : List Nat) : List Key := N.map kI
theorem map_inj' {α β : Type} {f : α → β} (hf : ∀ a b, f a = f b → a = b) : ∀ {a b : List α}, a.map f = b.map f → a = b
  | [], [], _ => rfl
  | [], _ :: _, h => by cases h
  | _ :: _, [], h => by cases h
  | x :: a, y :: b, h => by
    rw [List.map_cons, List.map_cons] at h
    have h1 := (List.cons.inj h).1
    have h2 := (List.cons.inj h).2
    rw [hf _ _ h1, map_inj' hf h2]
theorem kN_inj (a b : List Nat) (h : kN a = kN b) : a = b := map_inj' inlN_inj h
theorem kN_map (N : List Nat) : (kN N).map kV = N.map nV := by
  unfold kN
  rw [List.map_map]
  rfl
theorem val_unique {κ : Type} [DecidableEq κ] {kvs : List (κ × V)} {k : κ} {v : V} (hn : (kvs.map (·.1)).Nodup) (h : (k, v) ∈ kvs) : valV kvs k = some v := by
  induction kvs with
  | nil => cases h
  | cons p r ih =>
    have hn' := List.nodup_cons.mp hn
    by_cases e : p.1 = k
    · rw [valV_pos e]
      rcases List.mem_cons.mp h with h | h
      · rw [← h]
      · exact absurd (List.mem_map.mpr ⟨_, h, e.symm⟩) hn'.1
    · rw [valV_neg e]
      rcases List.mem_cons.mp h with h | h
      · exact absurd (by rw [← h]) e
      · exact ih hn'.2 h

theorem asc_len {l : List Nat} {n : Nat} (h : Asc l) (hl : ∀ x ∈ l, x < n) : l.length ≤ n := by
  have := nodup_sub (m := List.range n) (h.imp fun h => Nat.ne_of_lt h) fun x hx => List.mem_range.mpr (hl x hx)
  simpa using this
/-! ### the table as it grows, plain -/
structure SI (moves : Moves Str) (start : List Nat) (F : List (List Nat)) (ord : List (List Nat)) (rows : Rows Str) : Prop where
  nd : ord.Nodup
  st : ord[0]? = some start
  fam : ∀ N ∈ ord, N ∈ F
  lt : ∀ N ∈ ord, ∀ x ∈ N, x < moves.length
  asc : ∀ N ∈ ord, Asc N
  le : rows.length ≤ ord.length
  det : ∀ row ∈ rows, Det row
  out : ∀ (i : Nat) (N : List Nat) (row : Row Str), ord[i]? = some N → rows[i]? = some row → ∀ e ∈ row, ∃ G, ord[e.2]? = some G ∧ IsGroup moves N e.1 G
  all : ∀ (i : Nat) (N : List Nat) (row : Row Str), ord[i]? = some N → rows[i]? = some row → ∀ a, HasMove moves N a → ∃ j, (a, j) ∈ row
section
variable {moves : Moves Str} {start : List Nat} {F : List (List Nat)} {ord : List (List Nat)} {rows : Rows Str}
theorem get_grow {α : Type} {l : List α} {x y : α} {i : Nat} (h : l[i]? = some x) : (l ++ [y])[i]? = some x := by
  rw [List.getElem?_append_left (List.getElem?_eq_some_iff.mp h).1]
  exact h
theorem get_grow' {α : Type} {l : List α} {x y : α} {i : Nat} (hi : i < l.length) (h : (l ++ [y])[i]? = some x) : l[i]? = some x := by
  rw [List.getElem?_append_left hi] at h
  exact h
theorem get_last {α : Type} {l : List α} {y : α} : (l ++ [y])[l.length]? = some y := by simp
theorem SI.grow (I : SI moves start F ord rows) {G : List Nat} (hn : G ∉ ord) (hf : G ∈ F) (hl : ∀ x ∈ G, x < moves.length) (ha : Asc G) : SI moves start F (ord ++ [G]) rows where
  nd := nodup_snoc I.nd hn
  st := get_grow I.st
  fam := fun N hN => by
    rcases List.mem_append.mp hN with h | h
    · exact I.fam N h
    · exact List.mem_singleton.mp h ▸ hf
  lt := fun N hN => by
    rcases List.mem_append.mp hN with h | h
    · exact I.lt N h
    · exact List.mem_singleton.mp h ▸ hl
  asc := fun N hN => by
    rcases List.mem_append.mp hN with h | h
    · exact I.asc N h
    · exact List.mem_singleton.mp h ▸ ha
  le := by have := I.le; rw [List.length_append]; omega
  det := I.det
  out := fun i N row h1 h2 e he => by
    have hi := (List.getElem?_eq_some_iff.mp h2).1
    obtain ⟨G', g1, g2⟩ := I.out i N row (get_grow' (by have := I.le; omega) h1) h2 e he
    exact ⟨G', get_grow g1, g2⟩
  all := fun i N row h1 h2 a ha => by
    have hi := (List.getElem?_eq_some_iff.mp h2).1
    exact I.all i N row (get_grow' (by have := I.le; omega) h1) h2 a ha
theorem SI.row (I : SI moves start F ord rows) {N : List Nat} {row : Row Str} (hN : ord[rows.length]? = some N) (hd : Det row) (ho : ∀ e ∈ row, ∃ G, ord[e.2]? = some G ∧ IsGroup moves N e.1 G) (ha : ∀ a, HasMove moves N a → ∃ j, (a, j) ∈ row) : SI moves start F ord (rows ++ [row]) where
  nd := I.nd
  st := I.st
  fam := I.fam
  lt := I.lt
  asc := I.asc
  le := by have := (List.getElem?_eq_some_iff.mp hN).1; rw [List.length_append, List.length_singleton]; omega
  det := fun r hr => by
    rcases List.mem_append.mp hr with h | h
    · exact I.det r h
    · exact List.mem_singleton.mp h ▸ hd
  out := fun i N' r h1 h2 => by
    by_cases hi : i < rows.length
    · exact I.out i N' r h1 (get_grow' hi h2)
    · have h3 := (List.getElem?_eq_some_iff.mp h2).1
      rw [List.length_append, List.length_singleton] at h3
      have e : i = rows.length := by omega
      subst e
      rw [get_last] at h2
      rw [hN] at h1
      cases h1
      cases h2
      exact ho
  all := fun i N' r h1 h2 => by
    by_cases hi : i < rows.length
    · exact I.all i N' r h1 (get_grow' hi h2)
    · have h3 := (List.getElem?_eq_some_iff.mp h2).1
      rw [List.length_append, List.length_singleton] at h3
      have e : i = rows.length := by omega
      subst e
      rw [get_last] at h2
      rw [hN] at h1
      cases h1
      cases h2
      exact ha
theorem SI.end_ (I : SI moves start F ord rows) (h : ord.length ≤ rows.length) : SubTab moves start ord rows :=
  ⟨I.st, by have := I.le; omega, I.det, I.out, I.all⟩
end

/-! ### .. in the heap -/
structure SH (H H1 : Hp) (Nm Od Rs : Addr) (ord : List (List Nat)) (rows : Rows Str) : Prop where
  same : Same H H1
  nn : H Nm = none ∧ H Od = none ∧ H Rs = none
  num : ∃ kvs, H1 Nm = some (.dT kvs) ∧ kvs.map (·.1) = ord.map kN ∧ ∀ j N, ord[j]? = some N → valV kvs (kN N) = some (nV j)
  ord : ∃ os, H1 Od = some (.lst os) ∧ Paired (NatsAt H1) os ord
  rows : ∃ rs, H1 Rs = some (.lst rs) ∧ Paired (RowAt H1) rs rows
section
variable {H H1 H2 : Hp} {Nm Od Rs : Addr} {ord : List (List Nat)} {rows : Rows Str}
theorem SH.grow (S : SH H H1 Nm Od Rs ord rows) (s : Same H1 H2) : SH H H2 Nm Od Rs ord rows := by
  obtain ⟨h1, h2, ⟨kvs, a1, a2⟩, ⟨os, b1, b2⟩, ⟨rs, c1, c2⟩⟩ := S
  exact ⟨fun b o z => s b o (h1 b o z), h2, ⟨kvs, s _ _ a1, a2⟩, ⟨os, s _ _ b1, pd_mono b2 fun _ _ z => z.mono (same_tups s)⟩, ⟨rs, s _ _ c1, pd_mono c2 fun _ _ z => z.mono (same_tups s)⟩⟩
theorem SH.ne (S : SH H H1 Nm Od Rs ord rows) : Nm ≠ Od ∧ Nm ≠ Rs := by
  obtain ⟨h1, h2, ⟨kvs, a1, a2⟩, ⟨os, b1, b2⟩, ⟨rs, c1, c2⟩⟩ := S
  exact ⟨fun e => (by rw [e, b1] at a1; cases a1), fun e => (by rw [e, c1] at a1; cases a1)⟩
/-- another list of ours is written -/
theorem SH.other (S : SH H H1 Nm Od Rs ord rows) {R : Addr} {xs ys : List V} (hR : H1 R = some (.lst xs)) (hn : H R = none) (h1 : R ≠ Od) (h2 : R ≠ Rs) : SH H (upd H1 R (.lst ys)) Nm Od Rs ord rows := by
  obtain ⟨h1', h2', ⟨kvs, a1, a2⟩, ⟨os, b1, b2⟩, ⟨rs, c1, c2⟩⟩ := S
  have h0 : Nm ≠ R := fun e => by rw [← e, a1] at hR; cases hR
  have t := tups_lst (o := .lst ys) hR
  exact ⟨same_upd h1' hn, h2', ⟨kvs, (upd_ne h0).trans a1, a2⟩, ⟨os, (upd_ne (Ne.symm h1)).trans b1, pd_mono b2 fun _ _ z => z.mono t⟩, ⟨rs, (upd_ne (Ne.symm h2)).trans c1, pd_mono c2 fun _ _ z => z.mono t⟩⟩
theorem SH.add (S : SH H H1 Nm Od Rs ord rows) (hor : Od ≠ Rs) {kvs : List (List Key × V)} {os : List V} {G : List Nat} {v : V} (hk : H1 Nm = some (.dT kvs)) (ho : H1 Od = some (.lst os)) (hv : NatsAt H1 v G) (hn : G ∉ ord) :
    SH H (upd (upd H1 Nm (.dT (putK kvs (kN G) (nV ord.length)))) Od (.lst (os ++ [v]))) Nm Od Rs (ord ++ [G]) rows := by
  obtain ⟨n1, n2⟩ := S.ne
  obtain ⟨h1', h2', ⟨kvs', a1, a2, a3⟩, ⟨os', b1, b2⟩, ⟨rs, c1, c2⟩⟩ := S
  rw [hk] at a1
  cases a1
  rw [ho] at b1
  cases b1
  have hno := val_none kN kN_inj a2 hn
  have t : Tups H1 (upd (upd H1 Nm (.dT (putK kvs (kN G) (nV ord.length)))) Od (.lst (os ++ [v]))) :=
    (tups_upd hk fun _ z => by cases z).trans (tups_lst ((upd_ne (Ne.symm n1)).trans ho))
  refine ⟨same_upd (same_upd h1' h2'.1) h2'.2.1, h2', ⟨_, (upd_ne n1).trans upd_same, put_new kN kN_inj a2 hn _, fun j N hj => ?_⟩, ⟨_, upd_same, pd_snoc (pd_mono b2 fun _ _ z => z.mono t) (hv.mono t)⟩, ⟨rs, (upd_ne (Ne.symm hor)).trans ((upd_ne (Ne.symm n2)).trans c1), pd_mono c2 fun _ _ z => z.mono t⟩⟩
  rw [valV_put]
  by_cases hj2 : j < ord.length
  · have hj3 := get_grow' hj2 hj
    rw [if_neg (fun e => hn (by rw [← kN_inj _ _ e]; exact List.mem_of_getElem? hj3))]
    exact a3 j N hj3
  · have h3 := (List.getElem?_eq_some_iff.mp hj).1
    rw [List.length_append, List.length_singleton] at h3
    have e : j = ord.length := by omega
    subst e
    rw [get_last] at hj
    cases hj
    rw [if_pos rfl]
theorem SH.row (S : SH H H1 Nm Od Rs ord rows) (hor : Od ≠ Rs) {rs : List V} {v : V} {row : Row Str} (hr : H1 Rs = some (.lst rs)) (hv : RowAt H1 v row) : SH H (upd H1 Rs (.lst (rs ++ [v]))) Nm Od Rs ord (rows ++ [row]) := by
  obtain ⟨n1, n2⟩ := S.ne
  obtain ⟨h1', h2', ⟨kvs, a1, a2⟩, ⟨os, b1, b2⟩, ⟨rs', c1, c2⟩⟩ := S
  rw [hr] at c1
  cases c1
  have t := tups_lst (o := .lst (rs ++ [v])) hr
  exact ⟨same_upd h1' h2'.2.2, h2', ⟨kvs, (upd_ne n2).trans a1, a2⟩, ⟨os, (upd_ne hor).trans b1, pd_mono b2 fun _ _ z => z.mono t⟩, ⟨_, upd_same, pd_snoc (pd_mono c2 fun _ _ z => z.mono t) (hv.mono t)⟩⟩
end

theorem join {b : Bool} {A : Prop} {Nx C : L2.St → Hp → Prop} {σ : L2.St} {H : Hp} (hC : ∀ σ H, C σ H → Nx σ H) (h1 : b = true → (∀ σ H, C σ H → Nx σ H) → A) (h2 : b = false → C σ H) : if b = true then A else Nx σ H := by
  cases b with
  | true => rw [if_pos rfl]; exact h1 rfl hC
  | false => rw [if_neg Bool.false_ne_true]; exact hC _ _ (h2 rfl)
theorem nodup_map {α β : Type} {f : α → β} (hf : ∀ a b, f a = f b → a = b) {l : List α} (h : l.Nodup) : (l.map f).Nodup := List.Pairwise.map _ (fun a b hab e => hab (hf _ _ e)) h
/-! ### rules said with K -/
theorem pi_tupK {X : Cx} {K : PySem.W.Frag} {tg l : Expr} {tl : TE} (e : X.K = K) (hl : PE X l tl) : PI X tg l (iTup K tl) := by
  subst e
  exact pi_tup hl
theorem pi_listK {X : Cx} {K : PySem.W.Frag} {tg l : Expr} {tl : TE} (e : X.K = K) (hl : PE X l tl) : PI X tg l (iList K tl) := by
  subst e
  exact pi_list hl
theorem pg_tupK {X : Cx} {K : PySem.W.Frag} {es : List Expr} {k : Nat} {t : TGs} {n : Nat} {pos : Pos} (e : X.K = K) (hc : X.calm = true) (h : PGs X es t)
    (hn : (assignEach es X.env).length = n := by rfl) (hst : (assignEach es X.env).findIdx? (·.1) = none := by rfl) : PG X (.Tuple es k pos) (gTup K n t) := by
  subst e
  exact pg_tup hc h hn hst
theorem ix_seqK {X : Cx} {K : PySem.W.Frag} (e : X.K = K) : IxR X (rIx K) := by
  subst e
  exact ix_seq
theorem op_neDK {X : Cx} {K : PySem.W.Frag} (e : X.K = K) (hu : X.A.units + 64 < cLine) : OpR X (compareOp .NotEq) (rNeD K) := by
  subst e
  exact op_neD hu
theorem yes_if {σ : L2.St} {H : Hp} {A B : Hp → Prop} (h : A H) : tYes σ H (fun b H3 => if b = true then A H3 else B H3) := by
  show (if true = true then A H else B H)
  rw [if_pos rfl]
  exact h
theorem dp_nats {K : PySem.W.Frag} {H : Hp} : ∀ xs : List Nat, DpAll K H (xs.map nV) (xs.map fun (n : Nat) => PyData.int n)
  | [] => .nil
  | _ :: xs => .cons (.int _) (dp_nats xs)
theorem can_nats : ∀ xs : List Nat, PyData.canLayAll0 (xs.map fun (n : Nat) => PyData.int n) = true
  | [] => by simp [PyData.canLayAll0]
  | _ :: xs => by simp [PyData.canLayAll0, PyData.canLay0, can_nats xs]
theorem depth_nats : ∀ xs : List Nat, PyData.depthAll (xs.map fun (n : Nat) => PyData.int n) = 0
  | [] => by simp [PyData.depthAll]
  | _ :: xs => by simp [PyData.depthAll, PyData.depth, depth_nats xs]
theorem shaped_nats (xs : List Nat) : SeqAt.shaped (.list (xs.map fun (n : Nat) => PyData.int n)) = true := by
  unfold SeqAt.shaped
  simp [PyData.canLay0, can_nats, PyData.depth, depth_nats]
def rExpr : Stmt → Expr
  | .Assign _ e _ => e
  | _ => .Name "" ⟨0, 0, 0, 0⟩
def lcScope : Expr → Scope
  | .ListComp _ _ s _ => s
  | _ => ⟨.function, [], false, false, []⟩

/-! ### the text -/
abbrev sSubset : Stmt := top 6
abbrev nSubset : List Str := ["start", "moves", "ends", "limit", "numbers", "order", "rows", "at", "groups", "row", "action", "goal", "marks", "nodes", "node"]
def spSubset : Sp := fun vs H Q _ => ∃ (v1 v2 v3 : V) (limit : Nat) (start : List Nat) (moves : Moves Str) (ends : List Bool) (L : List A3) (F : List (List Nat)), vs = [v1, v2, v3, .int limit] ∧
  NatsAt H v1 start ∧ MovesAt H v2 moves ∧ EndsAt H v3 ends ∧ MOk moves L ∧ (∀ x ∈ start, x < moves.length) ∧ (∀ row ∈ moves, ∀ m ∈ row, ∀ x ∈ m.2, x < moves.length) ∧ moves.length ≤ ends.length ∧ Fam moves start F ∧ Asc start ∧ F.length ≤ limit ∧ limit ≤ 1000 ∧
  ∀ (H' : Hp) (v : V) (order : List (List Nat)) (rows : Rows Str) (ends' : List Bool), Same H H' → TabAt H' v rows ends' → SubTab moves start order rows → ends'.length = rows.length → order.length ≤ limit → Q v H'
theorem scSubset : FnScope nSubset ["start", "moves", "ends", "limit"] (C8.fnScope sSubset) := C8.fnScope_by (by decide +kernel)
section
variable {P : Program} {w : World} {K : PySem.W.Frag} {mg : Str → Option Value} {base : Heap}
theorem cal_subset {f : Addr} {fd : FuncData} (D : C8.Def K mg "subset_table" sSubset f fd) (b : Binds K fd ["start", "moves", "ends", "limit"] []) (T : Tx mg) (c1 : C8.Cal P w K mg base 1 "grouped" spGrouped []) : C8.Cal P w K mg base 2 "subset_table" spSubset [] := by
  have nd := scSubset.nd
  refine C8.cal0 D b .nil scSubset (fun vs H Q E h => ?_) (fun cdv A outer s0 H vs Q E hr h => ?_)
  · obtain ⟨v1, v2, v3, limit, start, moves, ends, L, F, rfl, _⟩ := h
    rfl
  · obtain ⟨v1, v2, v3, limit, start, moves, ends, L, F, rfl, h1, h2, h3, M, hst, hgo, hen, hF, hsa, hlim, hl1, k⟩ := h
    refine ⟨_, pss_cons (ps_set (i := 4) nd rfl (.inl rfl) (pe_dispT (hu1 hr) (pps_cons (pv 0) pe_int pps_nil) (by rfl) (by rfl) (by rfl))) (pss_cons (ps_set (i := 5) nd rfl (.inl rfl) (pe_lst (pa_cons (pv 0) pa_nil)))
      (pss_cons (ps_set (i := 6) nd rfl (.inl rfl) (pe_lst pa_nil)) (pss_cons (ps_set (i := 7) nd rfl (.inl rfl) pe_int)
      (pss_cons (ps_while PassesOwn.never (pt_cmpR op_lt (pv 7) (pe_callB call_len_seq (by rfl) T.len PySem.boot_len (pa_cons (pv 5) pa_nil)) (nomark _))
        (pss_cons (ps_set (i := 8) nd rfl (.inl rfl) (C8.pe_c c1 hr (by decide) (by rfl) (pa_cons (pe_ix ix_list (pv 5) (pv 7) (fun _ _ => rfl)) (pa_cons (pv 1) pa_nil))))
        (pss_cons (ps_set (i := 9) nd rfl (.inl rfl) (pe_lst pa_nil))
        (pss_cons (ps_for PassesOwn.never rfl (pi_list (pe_callB (cr_sortA rfl (hu20 hr)) (by rfl) T.sorted (by decide +kernel) (pa_cons (pv 8) pa_nil))) (pg_name (i := 10) nd rfl (Or.inl rfl))
          (pss_cons (ps_set (i := 11) nd rfl (.inl rfl) (pe_dget (hu1 hr) (pv 8) (pv 10) (fun _ _ => rfl)))
          (pss_cons (ps_if (pt_cmp (pc_dnotin (hu1 hr) (pv 11) (pv 4)))
            (pss_cons (ps_if (pt_cmpR op_eq (pe_callB call_len_seq (by rfl) T.len PySem.boot_len (pa_cons (pv 5) pa_nil)) (pv 3) (nomark _)) (pss_one ps_never) pss_nil)
            (pss_cons (ps_dput (hu1 hr) (pv 4) (pv 11) (pe_callB call_len_seq (by rfl) T.len PySem.boot_len (pa_cons (pv 5) pa_nil)) rfl)
            (pss_one (ps_expr (pe_bm PySem.F.plainAttrs_list PySem.F.slot_list_append PySem.F.type_list_append mt_append (pv 5) (pa_cons (pv 11) pa_nil)))))) pss_nil)
          (pss_one (ps_expr (pe_bm PySem.F.plainAttrs_list PySem.F.slot_list_append PySem.F.type_list_append mt_append (pv 9) (pa_cons (pe_tup (pa_cons (pv 10) (pa_cons (pe_dget (hu1 hr) (pv 4) (pv 11) (fun _ _ => rfl)) pa_nil))) pa_nil)))))))
        (pss_cons (ps_expr (pe_bm PySem.F.plainAttrs_list PySem.F.slot_list_append PySem.F.type_list_append mt_append (pv 6) (pa_cons (pe_callTy (cr_tup (K := K) rfl) (by rfl) T.tuple (by decide +kernel) (pa_cons (pv 9) pa_nil)) pa_nil)))
        (pss_one (ps_aug (i := 7) nd rfl (.inl rfl) pe_int ip_add)))))))
      (pss_cons (ps_setLc (i := 12) (own := [("nodes", 13)]) (g := gName 13) rfl nd rfl rfl (sw_true rfl rfl rfl (by decide +kernel)) (pi_list (pv 5)) (blkOk_by (N := nSubset) (sc := C8.fnScope sSubset) (by decide +kernel)) (fun _ _ _ _ _ => (pg_name (i := 13) nd rfl (Or.inl rfl))) (fun _ _ _ _ _ => pts_nil)
        (fun _ _ _ _ _ => pe_cmpR (op_neDK (K := K) rfl hr.units) (pe_lc (own := [("node", 14)]) (g := gName 14) rfl nd (pi_tupK (K := K) rfl (pv 13)) (blkOk_by (N := nSubset) (sc := relS (lcScope (rExpr ((C8.fnBody sSubset).getD 5 (.Pass ⟨0, 0, 0, 0⟩)))) (C8.fnScope sSubset)) (by decide +kernel)) (fun _ _ _ _ _ => (pg_name (i := 14) nd rfl (Or.inl rfl)))
          (fun _ _ _ _ _ => pts_one (pt_val (pe_ix (ix_seqK (K := K) rfl) (pv 2) (pv 14) (fun _ _ => rfl)))) (fun _ _ _ _ _ => pv 14)) (pe_lst pa_nil) (nomark _)))
      (pss_one (ps_ret (pe_tup (pa_cons pe_str (pa_cons (pe_callTy (cr_tup (K := K) rfl) (by rfl) T.tuple (by decide +kernel) (pa_cons (pv 6) pa_nil)) (pa_cons (pe_callTy (cr_tup (K := K) rfl) (by rfl) T.tuple (by decide +kernel) (pa_cons (pv 12) pa_nil)) pa_nil))))))))))), ?_⟩
    obtain ⟨p1, rfl, hp1⟩ := h1
    obtain ⟨pm, vms, rfl, hpm, hms⟩ := h2
    obtain ⟨pe, rfl, hpe⟩ := h3
    have hz := sizeLine_eq
    refine fun Nm hNm => ⟨_, rfl, upd_same, kN start, p1, _, rfl, by rw [kN_map]; exact (upd_ne (ne_of_none hp1 hNm)).trans hp1, ?_⟩
    refine ⟨_, rfl, by show 1 ≤ sizeLine; omega, fun Od hOd => ⟨Nat.zero_le _, fun Rs hRs => ?_⟩⟩
    have hNO : Nm ≠ Od := ne_of_none upd_same hOd
    have hOR : Od ≠ Rs := ne_of_none upd_same hRs
    have hNR : Nm ≠ Rs := ne_of_none ((upd_ne hNO).trans upd_same) hRs
    have hOd0 : H Od = none := by
      rw [upd_ne (Ne.symm hNO), upd_ne (Ne.symm hNO)] at hOd
      exact hOd
    have hRs0 : H Rs = none := by
      rw [upd_ne (Ne.symm hOR), upd_ne (Ne.symm hNR), upd_ne (Ne.symm hNR)] at hRs
      exact hRs
    have hstF := hF.start
    refine ⟨fun m σ H1 => ∃ ord rows o8 o9 o10 o11 o12 o13 o14, σ = [some (.ref p1), some (.ref pm), some (.ref pe), some (.int limit), some (.ref Nm), some (.ref Od), some (.ref Rs), some (nV rows.length), o8, o9, o10, o11, o12, o13, o14] ∧
        SH H H1 Nm Od Rs ord rows ∧ SI moves start F ord rows ∧ m = limit - rows.length,
      ⟨_, [start], [], _, _, _, _, _, _, _, rfl, ⟨same_upd (same_upd (same_upd (same_upd (Same.refl H) hNm) hNm) hOd0) hRs0, ⟨hNm, hOd0, hRs0⟩, ⟨_, (upd_ne hNR).trans ((upd_ne hNO).trans upd_same), rfl, ?_⟩, ⟨_, (upd_ne hOR).trans upd_same, .cons ⟨p1, rfl, ?_⟩ .nil⟩, ⟨_, upd_same, .nil⟩⟩,
        ⟨by simp, rfl, fun N hN => by rw [List.mem_singleton] at hN; exact hN ▸ hstF, fun N hN => by rw [List.mem_singleton] at hN; exact hN ▸ hst, fun N hN => by rw [List.mem_singleton] at hN; exact hN ▸ hsa, Nat.zero_le _, (fun _ h => nomatch h), (fun _ _ _ _ h => nomatch h), (fun _ _ _ _ h => nomatch h)⟩, rfl⟩, ?_⟩
    · intro j N hj
      cases j with
      | zero =>
        have e : start = N := Option.some.inj hj
        subst e
        exact valV_pos (p := (kN start, V.int 0)) rfl
      | succ j => simp at hj
    · exact (upd_ne (ne_of_none (same_upd (same_new hNm) hNm p1 _ hp1) hOd |> fun h => ne_of_none (same_upd (same_upd (same_new hNm) hNm) hOd0 p1 _ hp1) hRs)).trans (same_upd (same_upd (same_new hNm) hNm) hOd0 p1 _ hp1)
    · rintro m σ H1 ⟨ord, rows, o8, o9, o10, o11, o12, o13, o14, hσ, S, I, hm⟩
      subst hσ
      obtain ⟨os, hos, hpo⟩ := S.ord
      have hlo := pd_len hpo
      have hordF : ord.length ≤ limit := by
        have := nodup_sub I.nd I.fam
        omega
      refine ⟨_, rfl, _, rfl, Od, os, rfl, .inl (SqL.of hos), _, _, rfl, rfl, _, rfl, ?_⟩
      refine ite_b (fun hlt0 => ?_) (fun hge => ?_)
      · have hlt : rows.length < ord.length := by
          have := of_decide_eq_true hlt0
          omega
        refine ⟨_, fun σ' H' h => h, ?_⟩
        have hN : ord[rows.length]? = some ord[rows.length] := List.getElem?_eq_getElem hlt
        generalize ord[rows.length] = N at hN
        obtain ⟨vN, hvN, hNat⟩ := pd_get2 hpo hN
        have hNF := I.fam N (List.mem_of_getElem? hN)
        have hIn := I.lt
        refine ⟨_, rfl, _, rfl, Od, os, (rows.length : Int), vN, rfl, rfl, SqL.of hos, atI_nat hvN, _, rfl, vN, .ref pm, N, moves, L, rfl, hNat, ⟨pm, vms, rfl, S.same _ _ hpm, pd_mono hms fun _ _ z => z.mono S.same⟩, hIn N (List.mem_of_getElem? hN), M, ?_⟩
        intro H2 gq kvg gs s2 hgq hg2 hpg hgn hgg hga
        have S2 := S.grow s2
        refine ⟨Nat.zero_le _, fun R hR => ?_⟩
        have S3 := S2.grow (same_new (o := .lst []) hR)
        refine ⟨_, rfl, gq, kvg, gs.map (·.1), rfl, (upd_ne (ne_of_none hg2 hR)).trans hg2, by rw [gent_keys hpg], fun ys as' Sq hperm hpa hSq => ?_⟩
        have hnas : as'.Nodup := hperm.nodup_iff.mpr hgn
        have hmas : ∀ a ∈ as', ∃ g ∈ gs, g.1 = a := fun a ha => by
          obtain ⟨g, hg, e⟩ := List.mem_map.mp (hperm.mem_iff.mp ha)
          exact ⟨g, hg, e⟩
        have hlas : as'.length ≤ 10000 := by
          have := nodup_sub (m := L) hnas fun a ha => by
            obtain ⟨g, hg, e⟩ := hmas a ha
            obtain ⟨n, _, row, h1, gg, h2⟩ := (hgg g hg).has
            rw [← e]
            exact M.act row (List.mem_of_getElem? h1) (g.1, gg) h2
          have := M.len
          omega
        have hgR : gq ≠ R := ne_of_none hg2 hR
        have hgS : gq ≠ Sq := ne_of_none ((upd_ne hgR).trans hg2) hSq
        have hRS : R ≠ Sq := ne_of_none upd_same hSq
        have S4 := S3.grow (same_new (o := .lst ys) hSq)
        have t24 : Tups H2 (upd (upd H2 R (.lst [])) Sq (.lst ys)) := (same_tups (same_new hR)).trans (same_tups (same_new hSq))
        have hR1 : R ≠ Od := fun e => by
          obtain ⟨_, z, _⟩ := S2.ord
          rw [← e, hR] at z; cases z
        have hR2 : R ≠ Rs := fun e => by
          obtain ⟨_, z, _⟩ := S2.rows
          rw [← e, hR] at z; cases z
        have hS1 : Sq ≠ Od := fun e => by
          obtain ⟨_, z, _⟩ := S3.ord
          rw [← e, hSq] at z; cases z
        have hS3 : Sq ≠ Nm := fun e => by
          obtain ⟨_, z, _⟩ := S3.num
          rw [← e, hSq] at z; cases z
        have hR3 : R ≠ Nm := fun e => by
          obtain ⟨_, z, _⟩ := S2.num
          rw [← e, hR] at z; cases z
        have hg1 : gq ≠ Od := fun e => by
          obtain ⟨_, z, _⟩ := S2.ord
          rw [← e, hg2] at z; cases z
        have hg3 : gq ≠ Nm := fun e => by
          obtain ⟨_, z, _⟩ := S.num
          rw [← e, hgq] at z; cases z
        have hR0 : H R = none := same_none S2.same hR
        have hg4 : (upd (upd H2 R (.lst [])) Sq (.lst ys)) gq = some (.dT kvg) := (upd_ne hgS).trans ((upd_ne hgR).trans hg2)
        have hR4 : (upd (upd H2 R (.lst [])) Sq (.lst ys)) R = some (.lst []) := (upd_ne hRS).trans upd_same
        have hS4 : (upd (upd H2 R (.lst [])) Sq (.lst ys)) Sq = some (.lst ys) := upd_same
        have hpa4 : Paired (ActAt (upd (upd H2 R (.lst [])) Sq (.lst ys))) ys as' := pd_mono hpa fun _ _ z => z.mono (same_tups (same_new hSq))
        have hpg4 : Paired (GEnt (upd (upd H2 R (.lst [])) Sq (.lst ys))) kvg gs := pd_mono hpg fun _ _ z => z.mono t24
        clear hR hSq hg2 S3 S2 s2 hpg hpa t24 S
        generalize (upd (upd H2 R (.lst [])) Sq (.lst ys)) = H4 at *
        refine ⟨Sq, rfl, ⟨_, SqL.of hS4⟩, ?_⟩
        refine for_list (xs := ys) (fun j σ H5 => ∃ ord rw o10 o11 o12 o13 o14, σ = [some (.ref p1), some (.ref pm), some (.ref pe), some (.int limit), some (.ref Nm), some (.ref Od), some (.ref Rs), some (nV rows.length), some (.ref gq), some (.ref R), o10, o11, o12, o13, o14] ∧
            SH H H5 Nm Od Rs ord rows ∧ SI moves start F ord rows ∧ ord[rows.length]? = some N ∧ H5 gq = some (.dT kvg) ∧ Tups H4 H5 ∧ H5 Sq = some (.lst ys) ∧ (∃ xs, H5 R = some (.lst xs) ∧ Paired (EdgeAt H5) xs rw) ∧ rw.map (·.1) = as'.take j ∧ ∀ e ∈ rw, ∃ G, ord[e.2]? = some G ∧ IsGroup moves N e.1 G)
          ⟨ord, [], _, _, _, _, _, rfl, S4, I, hN, hg4, Tups.refl _, hS4, ⟨[], hR4, .nil⟩, rfl, fun _ h => nomatch h⟩ (fun i σ H1 _ ⟨_, _, _, _, _, _, _, _, _, _, _, _, _, z, _⟩ => SqL.of z) ?_ ?_
        · clear hos hpo hlo hordF hm hlt hlt0 hvN hNat S4 hg4 hR4 hS4 hN hIn hNF I
          clear hgq ord
          rintro j y σ H5 hy ⟨ord, rw, o10, o11, o12, o13, o14, hσ, S, I, hN, hg5, t5, hS5, ⟨xs, hR5, hpx⟩, hrw, hout⟩
          subst hσ
          obtain ⟨a, ha, hya⟩ := pd_get hpa4 hy
          obtain ⟨g, hg, hga⟩ := hmas a (List.mem_of_getElem? ha)
          subst hga
          obtain ⟨⟨kk, vv⟩, hkv, hk1, pG, hk2, hpG⟩ := pd_mem hpg4 hg
          have hk1 : kk = kA g.1 := hk1
          have hk2 : vv = .ref pG := hk2
          subst hk1 hk2
          have hIG := hgg g hg
          have hval : valV kvg (kA g.1) = some (.ref pG) := val_unique (by rw [gent_keys hpg4]; exact nodup_map (fun _ _ => kA_inj) hgn) hkv
          obtain ⟨pa, hya1, hpa5⟩ := hya
          subst hya1
          have hpa6 := t5 _ _ hpa5
          have hpG6 := t5 _ _ hpG
          rw [← kN_map] at hpG6
          obtain ⟨kvs, hNm, hks, hnum⟩ := S.num
          obtain ⟨os, hos, hpo⟩ := S.ord
          have hlo := pd_len hpo
          have hord := nodup_sub I.nd I.fam
          refine ⟨_, rfl, _, rfl, gq, .ref pG, rfl, ?_, ?_⟩
          · rw [← hval]
            exact DGet.t (k := kA g.1) hg5 hpa6
          refine ⟨_, rfl, _, rfl, Nm, valV kvs (kN g.2), rfl, DGet.t (k := kN g.2) hNm hpG6, _, rfl, ?_⟩
          rw [val_keys kN kN_inj hks]
          have hGF : g.2 ∈ F := hF.closed N (I.fam N (List.mem_of_getElem? hN)) g.1 g.2 hIG
          have hGl : ∀ x ∈ g.2, x < moves.length := fun x hx => by
            obtain ⟨n, _, row, h1, gg, h2, h3⟩ := (hIG.mem x).mp hx
            exact hgo row (List.mem_of_getElem? h1) _ h2 x h3
          refine join (C := fun σ H6 => ∃ (ord2 : List (List Nat)) (idx : Nat) (o12 o13 o14 : Option V), σ = [some (.ref p1), some (.ref pm), some (.ref pe), some (.int limit), some (.ref Nm), some (.ref Od), some (.ref Rs), some (nV rows.length), some (.ref gq), some (.ref R), some (.ref pa), some (.ref pG), o12, o13, o14] ∧
            SH H H6 Nm Od Rs ord2 rows ∧ SI moves start F ord2 rows ∧ ord2[rows.length]? = some N ∧ ord2[idx]? = some g.2 ∧ (∀ (i : Nat) G', ord[i]? = some G' → ord2[i]? = some G') ∧ H6 gq = some (.dT kvg) ∧ Tups H5 H6 ∧ H6 Sq = some (.lst ys) ∧ H6 R = some (.lst xs)) ?_ (fun hc hC => ?_) (fun hc => ?_)
          · rintro σ H6 ⟨ord2, idx, o12, o13, o14, hσ, S6, I6, hN6, hidx, hext, hg6, t6, hS6, hR6⟩
            subst hσ
            obtain ⟨kv6, hNm6, hk6, hnum6⟩ := S6.num
            have hlrw : xs.length ≤ j := by
              rw [pd_len hpx, ← List.length_map (f := (·.1)), hrw, List.length_take]
              omega
            have hjl : j < as'.length := (List.getElem?_eq_some_iff.mp ha).1
            refine ⟨_, rfl, .inl ⟨rfl, _, SqL.of hR6⟩, _, rfl, _, rfl, _, rfl, Nm, nV idx, rfl, ?_, by show 2 ≤ sizeLine; omega, fun t ht => ?_⟩
            · rw [← hnum6 idx _ hidx]
              exact DGet.t (k := kN g.2) hNm6 (t6 _ _ hpG6)
            have hRt : R ≠ t := ne_of_none hR6 ht
            have sn := same_new (o := .tup [.ref pa, nV idx]) ht
            refine ⟨R, xs, _, rfl, rfl, sn _ _ hR6, by omega, ?_⟩
            have tt : Tups H6 (upd (upd H6 t (.tup [.ref pa, nV idx])) R (.lst (xs ++ [.ref t]))) := (same_tups sn).trans (tups_lst (sn _ _ hR6))
            refine ⟨ord2, rw ++ [(g.1, idx)], _, _, _, _, _, rfl, (S6.grow sn).other (sn _ _ hR6) hR0 hR1 hR2, I6, hN6, (upd_ne hgR).trans (sn _ _ hg6), t5.trans (t6.trans tt), (upd_ne (Ne.symm hRS)).trans (sn _ _ hS6), ⟨_, upd_same, pd_snoc (pd_mono hpx fun _ _ z => z.mono (t6.trans tt)) ⟨t, .ref pa, rfl, (upd_ne (Ne.symm hRt)).trans upd_same, pa, rfl, (t6.trans tt) _ _ hpa6⟩⟩, ?_, ?_⟩
            · rw [List.map_append, hrw, take_get ha]
              rfl
            · intro e he
              rcases List.mem_append.mp he with he | he
              · obtain ⟨G, g1, g2⟩ := hout e he
                exact ⟨G, hext _ _ g1, g2⟩
              · rw [List.mem_singleton] at he
                subst he
                exact ⟨g.2, hidx, hIG⟩
          · have hG : g.2 ∉ ord := by simpa using hc
            have I6 := I.grow hG hGF hGl hIG.asc
            have hlen := nodup_sub I6.nd I6.fam
            rw [List.length_append, List.length_singleton] at hlen
            have hnl : ¬ V.int (os.length : Nat) = V.int (limit : Nat) := fun e => by
              have := V.int.inj e
              omega
            refine ⟨_, rfl, Od, os, rfl, .inl (SqL.of hos), _, rfl, rfl, _, rfl, ?_⟩
            rw [decide_eq_false hnl]
            refine iteF ?_
            refine ⟨_, rfl, Od, os, rfl, .inl (SqL.of hos), _, rfl, _, rfl, Nm, _, rfl, DPut.t (k := kN g.2) hNm hpG6 (by rw [len_keys hks]; omega), ?_⟩
            have hos2 : upd H5 Nm (.dT (putK kvs (kN g.2) (V.int (os.length : Nat)))) Od = some (.lst os) := (upd_ne (Ne.symm hNO)).trans hos
            refine ⟨_, rfl, .inl ⟨rfl, _, SqL.of hos2⟩, _, rfl, Od, os, _, rfl, rfl, hos2, by omega, ?_⟩
            have S6 := S.add hOR (v := .ref pG) hNm hos ⟨pG, rfl, by rw [← kN_map]; exact hpG6⟩ hG
            have t6 : Tups H5 (upd (upd H5 Nm (.dT (putK kvs (kN g.2) (V.int (os.length : Nat))))) Od (.lst (os ++ [.ref pG]))) := (tups_upd hNm fun _ z => by cases z).trans (tups_lst hos2)
            refine hC _ _ ⟨ord ++ [g.2], ord.length, _, _, _, rfl, ?_, I6, get_grow hN, get_last, fun _ _ h => get_grow h, (upd_ne hg1).trans ((upd_ne hg3).trans hg5), t6, (upd_ne hS1).trans ((upd_ne hS3).trans hS5), (upd_ne hR1).trans ((upd_ne hR3).trans hR5)⟩
            rw [hlo]
            exact S6
          · have hG : g.2 ∈ ord := by simpa using hc
            obtain ⟨idx, hidx⟩ := List.getElem?_of_mem hG
            exact ⟨ord, idx, _, _, _, rfl, S, I, hN, hidx, fun _ _ h => h, hg5, Tups.refl _, hS5, hR5⟩
        · rintro σ H5 ⟨ord, rw, o10, o11, o12, o13, o14, hσ, S, I, hN, hg5, t5, hS5, ⟨xs, hR5, hpx⟩, hrw, hout⟩
          subst hσ
          rw [pd_len hpa4, List.take_length] at hrw
          obtain ⟨rs, hrs, hpr⟩ := S.rows
          have hlr := pd_len hpr
          have hord := nodup_sub I.nd I.fam
          have hNl := (List.getElem?_eq_some_iff.mp hN).1
          refine ⟨_, rfl, .inl ⟨rfl, _, SqL.of hrs⟩, _, rfl, R, xs, rfl, .inl ⟨SqL.of hR5, fun l hl => ?_⟩⟩
          have sn := same_new (o := .tup xs) hl
          refine ⟨Rs, rs, _, rfl, rfl, sn _ _ hrs, by omega, ?_⟩
          refine ⟨_, rfl, _, _, rfl, rfl, ?_⟩
          have hI := I.row (row := rw) hN (by unfold Det; rw [hrw]; exact hnas) hout fun a ha => by
            have h1 := hperm.mem_iff.mpr (hga a ha)
            rw [← hrw] at h1
            obtain ⟨e, he, h2⟩ := List.mem_map.mp h1
            exact ⟨e.2, by rw [← h2]; exact he⟩
          have hS := (S.grow sn).row hOR (v := .ref l) (row := rw) (sn _ _ hrs) ⟨l, xs, rfl, upd_same, pd_mono hpx fun _ _ z => z.mono (same_tups sn)⟩
          refine ⟨_, ?_, ord, rows ++ [rw], some (.ref gq), some (.ref R), o10, o11, o12, o13, o14, ?_, hS, hI, rfl⟩
          · rw [hm, List.length_append, List.length_singleton]
            omega
          · have e : nV (rows ++ [rw]).length = .int ((rows.length : Int) + 1) := by simp [nV]
            rw [e]
            rfl
      · have hge : ord.length ≤ rows.length := by
          have := of_decide_eq_false hge
          omega
        have hT := I.end_ hge
        clear hge
        refine ⟨_, rfl, Od, rfl, ⟨_, SqL.of hos⟩, fun D hD => ?_⟩
        refine lc_list (xs := os) (fun i H2 => Same H1 H2 ∧ ∃ bs : List Bool, H2 D = some (.lst (bs.map V.bl)) ∧ bs.length = i) ⟨same_new hD, [], upd_same, rfl⟩ (fun i H2 _ ⟨s2, _⟩ => SqL.of (s2 _ _ hos)) ?_ ?_
        · rintro i x H2 hx ⟨s2, bs, hD2, hbs⟩
          obtain ⟨N, hN, pN, rfl, hpN⟩ := pd_get hpo hx
          have hNl := I.lt N (List.mem_of_getElem? hN)
          have hil := (List.getElem?_eq_some_iff.mp hx).1
          refine ⟨rfl, yes_if ?_⟩
          refine ⟨_, rfl, pN, rfl, ⟨_, SqT.of (s2 _ _ hpN)⟩, fun D2 hD3 => ?_⟩
          refine lc_tup (xs := N.map nV) (fun i H3 => Same H2 H3 ∧ ∃ xs : List Nat, H3 D2 = some (.lst (xs.map nV)) ∧ xs.length ≤ i) ⟨same_new hD3, [], upd_same, Nat.zero_le _⟩ (fun i H3 _ ⟨s3, _⟩ => SqT.of (s3 _ _ (s2 _ _ hpN))) ?_ ?_
          · rintro j y H3 hy ⟨s3, xs, hD4, hxs⟩
            obtain ⟨n, hn, rfl⟩ : ∃ n, N[j]? = some n ∧ y = nV n := by
              rw [List.getElem?_map] at hy
              cases z : N[j]? with
              | none => rw [z] at hy; cases hy
              | some n => rw [z] at hy; exact ⟨n, rfl, (Option.some.inj hy).symm⟩
            have hnl : n < ends.length := by
              have := hNl n (List.mem_of_getElem? hn)
              omega
            have hjN := (List.getElem?_eq_some_iff.mp hn).1
            have hxb : (ends.map V.bl)[n]? = some (.bl ends[n]) := by simp [hnl]
            have hNl2 := Nat.le_trans (asc_len (I.asc N (List.mem_of_getElem? hN)) hNl) M.rows
            have hpe3 := hpe.imp (fun z => s3 _ _ (s2 _ _ (S.same _ _ z))) (fun z => s3 _ _ (s2 _ _ (S.same _ _ z)))
            refine ⟨rfl, _, rfl, _, rfl, ?_⟩
            have hin : ∀ (v : V) (Q : V → Hp → Prop), Q v H3 → (H3 pe = some (.lst (ends.map V.bl)) ∨ H3 pe = some (.tup (ends.map V.bl))) → v = .bl ends[n] → rIx K (.ref pe) (nV n) H3 Q := fun v Q hq hpe hv => by
              subst hv
              rcases hpe with z | z
              · exact .inl ⟨pe, _, _, _, rfl, rfl, SqL.of z, atI_nat hxb, hq⟩
              · exact .inr (.inl ⟨pe, _, _, _, rfl, rfl, SqT.of z, atI_nat hxb, hq⟩)
            refine hin _ _ ⟨_, rfl, ?_⟩ hpe3 rfl
            refine ite_b (fun _ => ?_) (fun _ => ⟨s3, xs, hD4, by omega⟩)
            refine ⟨_, rfl, _, hD4, by rw [List.length_map]; omega, same_upd s3 hD3, xs ++ [n], ?_, by simp; omega⟩
            rw [upd_same, List.map_append]
            rfl
          · rintro H3 ⟨s3, xs, hD4, hxs⟩
            refine ⟨Nat.zero_le _, fun E hE => ?_⟩
            have hD5 : (upd H3 E (.lst [])) D = some (.lst (bs.map V.bl)) := (upd_ne (ne_of_none (s3 _ _ hD2) hE)).trans (s3 _ _ hD2)
            refine ⟨.list (xs.map fun (n : Nat) => .int n), .list [], .lst (SqL.of ((upd_ne (ne_of_none hD4 hE)).trans hD4)) (dp_nats xs), .lst (SqL.of upd_same) .nil, shaped_nats xs, rfl, _, hD5, by rw [List.length_map]; omega, same_upd (fun b o z => same_new hE b o (s3 b o (s2 b o z))) hD, bs ++ [!PyData.eqv (.list (xs.map fun (n : Nat) => .int n)) (.list [])], ?_, by simp [hbs]⟩
            rw [upd_same, List.map_append]
            rfl
        · rintro H2 ⟨s2, bs, hD2, hbs⟩
          have S2 := S.grow s2
          obtain ⟨rs, hrs, hpr⟩ := S2.rows
          have hlr := pd_len hpr
          refine ⟨_, rfl, Rs, rs, rfl, .inl ⟨SqL.of hrs, fun l1 hl1 => ?_⟩⟩
          have sn1 := same_new (o := .tup rs) hl1
          refine ⟨_, rfl, D, _, rfl, .inl ⟨SqL.of (sn1 _ _ hD2), fun l2 hl2 => ?_⟩⟩
          have sn2 := same_new (o := .tup (bs.map V.bl)) hl2
          refine ⟨by show 3 ≤ sizeLine; omega, fun t ht => ?_⟩
          have sn3 := same_new (o := .tup [.str "table", .ref l1, .ref l2]) ht
          have hn2 : l1 ≠ l2 := ne_of_none upd_same hl2
          refine k _ (.ref t) ord rows bs (fun b o z => sn3 b o (sn2 b o (sn1 b o (S2.same b o z)))) ⟨t, .ref l1, .ref l2, rfl, upd_same, ⟨l1, rs, rfl, sn3 _ _ (sn2 _ _ upd_same), pd_mono hpr fun _ _ z => z.mono ((same_tups sn1).trans ((same_tups sn2).trans (same_tups sn3)))⟩, ⟨l2, rfl, sn3 _ _ upd_same⟩⟩ hT (by rw [hbs, hlo, hT.len]) hordF
end
end Pk
/-! refined_classes. -/
namespace Pk
open PySem L2 PM
/-! ### the numbers of the signs, plain -/
structure NI (n : Nat) (sg : Nat → Sgn) (kvs : List (Sgn × V)) (f : List Nat) : Prop where
  len : f.length = n
  le : kvs.length ≤ n
  at_ : ∀ j x, f[j]? = some x → valV kvs (sg j) = some (nV x)
  val : ∀ z v, valV kvs z = some v → ∃ m, m < kvs.length ∧ v = nV m
  inj : ∀ z z' v, valV kvs z = some v → valV kvs z' = some v → z = z'
theorem nV_inj {a b : Nat} (h : nV a = nV b) : a = b := by
  have := V.int.inj h
  omega
theorem NI.old {n : Nat} {sg : Nat → Sgn} {kvs : List (Sgn × V)} {f : List Nat} (I : NI n sg kvs f) {x : Nat} (h : valV kvs (sg n) = some (nV x)) : NI (n + 1) sg kvs (f ++ [x]) where
  len := by rw [List.length_append, I.len]; rfl
  le := by have := I.le; omega
  at_ := fun j y hy => by
    by_cases hj : j < f.length
    · exact I.at_ j y (get_grow' hj hy)
    · have h3 := (List.getElem?_eq_some_iff.mp hy).1
      rw [List.length_append, List.length_singleton] at h3
      have e : j = f.length := by omega
      subst e
      rw [get_last] at hy
      cases hy
      rw [I.len]
      exact h
  val := I.val
  inj := I.inj
theorem NI.add {n : Nat} {sg : Nat → Sgn} {kvs : List (Sgn × V)} {f : List Nat} (I : NI n sg kvs f) (h : valV kvs (sg n) = none) : valV (kvs ++ [(sg n, nV kvs.length)]) (sg n) = some (nV kvs.length) ∧ NI (n + 1) sg (kvs ++ [(sg n, nV kvs.length)]) (f ++ [kvs.length]) := by
  have hs : ∀ z, valV (kvs ++ [(sg n, nV kvs.length)]) z = if z = sg n then some (nV kvs.length) else valV kvs z := fun z => valV_snoc (sg n) z _ kvs h
  have hv : ∀ z v, valV kvs z = some v → v ≠ nV kvs.length := fun z v hz e => by
    obtain ⟨m, hm, e2⟩ := I.val z v hz
    rw [e2] at e
    have := nV_inj e
    omega
  refine ⟨by rw [hs, if_pos rfl], ?_, ?_, ?_, ?_, ?_⟩
  · rw [List.length_append, I.len]; rfl
  · have := I.le
    rw [List.length_append, List.length_singleton]; omega
  · intro j y hy
    by_cases hj : j < f.length
    · have q := I.at_ j y (get_grow' hj hy)
      rw [hs, if_neg (fun e => by rw [e, h] at q; cases q)]
      exact q
    · have h3 := (List.getElem?_eq_some_iff.mp hy).1
      rw [List.length_append, List.length_singleton] at h3
      have e : j = f.length := by omega
      subst e
      rw [get_last] at hy
      cases hy
      rw [I.len, hs, if_pos rfl]
  · intro z v hz
    rw [hs] at hz
    rw [List.length_append, List.length_singleton]
    by_cases e : z = sg n
    · rw [if_pos e] at hz
      exact ⟨kvs.length, by omega, (Option.some.inj hz).symm⟩
    · rw [if_neg e] at hz
      obtain ⟨m, hm, e2⟩ := I.val z v hz
      exact ⟨m, by omega, e2⟩
  · intro z z' v h1 h2
    rw [hs] at h1 h2
    by_cases e : z = sg n <;> by_cases e' : z' = sg n
    · rw [e, e']
    · rw [if_pos e] at h1
      rw [if_neg e'] at h2
      exact absurd (Option.some.inj h1).symm (hv z' v h2)
    · rw [if_neg e] at h1
      rw [if_pos e'] at h2
      exact absurd (Option.some.inj h2).symm (hv z v h1)
    · rw [if_neg e] at h1
      rw [if_neg e'] at h2
      exact I.inj z z' v h1 h2
theorem NI.refd {rows : Rows Str} {c f : List Nat} {kvs : List (Sgn × V)} (hc : c.length = rows.length) (I : NI rows.length (fun j => (c.getD j 0, sign c (rows.getD j []))) kvs f) : Refd rows c f where
  len := I.len
  lt := fun x hx => by
    obtain ⟨j, hj⟩ := List.getElem?_of_mem hx
    obtain ⟨m, hm, e⟩ := I.val _ _ (I.at_ j x hj)
    have := nV_inj e
    have := I.le
    rw [I.len]
    omega
  eq := fun i j ri rj hi hj => by
    have hil : i < f.length := by rw [I.len]; exact (List.getElem?_eq_some_iff.mp hi).1
    have hjl : j < f.length := by rw [I.len]; exact (List.getElem?_eq_some_iff.mp hj).1
    have fi : f[i]? = some f[i] := List.getElem?_eq_getElem hil
    have fj : f[j]? = some f[j] := List.getElem?_eq_getElem hjl
    have hic : i < c.length := by rw [hc, ← I.len]; exact hil
    have hjc : j < c.length := by rw [hc, ← I.len]; exact hjl
    have ai := I.at_ i _ fi
    have aj := I.at_ j _ fj
    have e1 : c.getD i 0 = c[i] := by simp [hic]
    have e2 : c.getD j 0 = c[j] := by simp [hjc]
    have e3 : rows.getD i [] = ri := by rw [List.getD_eq_getElem?_getD, hi]; rfl
    have e4 : rows.getD j [] = rj := by rw [List.getD_eq_getElem?_getD, hj]; rfl
    rw [e1, e3] at ai
    rw [e2, e4] at aj
    rw [fi, fj, List.getElem?_eq_getElem hic, List.getElem?_eq_getElem hjc]
    constructor
    · intro e
      rw [Option.some.inj e] at ai
      have := I.inj _ _ _ ai aj
      have h1 : c[i] = c[j] := congrArg Prod.fst this
      exact ⟨by rw [h1], congrArg Prod.snd this⟩
    · rintro ⟨q1, q2⟩
      rw [Option.some.inj q1, q2, aj] at ai
      rw [nV_inj (Option.some.inj ai)]

/-! ### the text -/
abbrev sRefined : Stmt := top 7
abbrev nRefined : List Str := ["table", "classes", "numbers", "fresh", "state", "row", "sign", "action", "goal"]
def spRefined : Sp := fun vs H Q _ => ∃ (vt : V) (lc : Addr) (rows : Rows Str) (ends : List Bool) (c : List Nat), vs = [vt, .ref lc] ∧ TabAt H vt rows ends ∧ H lc = some (.lst (c.map nV)) ∧ c.length = rows.length ∧ WF rows ∧ rows.length ≤ 1000 ∧ (∀ row ∈ rows, row.length ≤ 10000) ∧
  ∀ (H' : Hp) (q : Addr) (f : List Nat), Same H H' → H q = none → H' q = some (.lst (f.map nV)) → Refd rows c f → Q (.ref q) H'
theorem scRefined : FnScope nRefined ["table", "classes"] (C8.fnScope sRefined) := C8.fnScope_by (by decide +kernel)
section
variable {P : Program} {w : World} {K : PySem.W.Frag} {mg : Str → Option Value} {base : Heap}
theorem cal_refined {f : Addr} {fd : FuncData} (D : C8.Def K mg "refined_classes" sRefined f fd) (b : Binds K fd ["table", "classes"] []) (T : Tx mg) : C8.Cal P w K mg base 1 "refined_classes" spRefined [] := by
  have nd := scRefined.nd
  refine C8.cal0 D b .nil scRefined (fun vs H Q E h => ?_) (fun cdv A outer s0 H vs Q E hr h => ?_)
  · obtain ⟨vt, lc, rows, ends, c, rfl, _⟩ := h
    rfl
  · obtain ⟨vt, lc, rows, ends, c, rfl, hT, hlc, hcl, W, hr1, hr2, k⟩ := h
    refine ⟨_, pss_cons (ps_set (i := 2) nd rfl (.inl rfl) pe_newN) (pss_cons (ps_set (i := 3) nd rfl (.inl rfl) (pe_lst pa_nil))
      (pss_cons (ps_for PassesOwn.never rfl (pi_enumT (by rfl) T.enum (pa_cons (pe_ix ix_tup (pv 0) pe_int (fun _ _ => rfl)) pa_nil)) (pg_tup rfl (pgs_cons (pg_name (i := 4) nd rfl (Or.inl rfl)) (pgs_cons (pg_name (i := 5) nd rfl (Or.inl rfl)) pgs_nil)))
        (pss_cons (ps_set (i := 6) nd rfl (.inl rfl) (pe_tup (pa_cons (pe_ix ix_list (pv 1) (pv 4) (fun _ _ => rfl)) (pa_cons (pe_callTy (cr_tup (K := K) rfl) (by rfl) T.tuple (by decide +kernel) (pa_cons
            (pe_lc (own := [("action", 7), ("goal", 8)]) (g := gTup K 2 (gCons (gName 7) (gCons (gName 8) gNil))) rfl nd (pi_tup (pv 5)) (blkOk_by (N := nRefined) (sc := C8.fnScope sRefined) (by decide +kernel)) (fun _ _ _ _ _ => pg_tupK rfl rfl (pgs_cons (pg_name (i := 7) nd rfl (Or.inl rfl)) (pgs_cons (pg_name (i := 8) nd rfl (Or.inl rfl)) pgs_nil)))
              (fun _ _ _ _ _ => pts_nil) (fun _ _ _ _ _ => pe_tup (pa_cons (pv 7) (pa_cons (pe_ix (ix_listK (K := K) rfl) (pv 1) (pv 8) (fun _ _ => rfl)) pa_nil)))) pa_nil)) pa_nil))))
        (pss_cons (ps_if (pt_cmp (pc_notN (hu20 hr) (pv 6) (pv 2))) (pss_one (ps_putN (hu20 hr) (pv 2) (pv 6) (pe_callB call_lenN (by rfl) T.len PySem.boot_len (pa_cons (pv 2) pa_nil)) rfl)) pss_nil)
        (pss_one (ps_expr (pe_bm PySem.F.plainAttrs_list PySem.F.slot_list_append PySem.F.type_list_append mt_append (pv 3) (pa_cons (pe_getN (hu20 hr) (pv 2) (pv 6) (fun _ _ => rfl)) pa_nil)))))))
      (pss_one (ps_ret (pv 3))))), ?_⟩
    obtain ⟨p, vr, ve, rfl, hp, hR, hE⟩ := hT
    obtain ⟨pr, vrs, rfl, hpr, hrs⟩ := hR
    have hrows := pd_len hrs
    have hz := sizeLine_eq
    refine fun Nn hNn lo => ⟨Nat.zero_le _, fun Fr hFr => ?_⟩
    have hdn0 := dn_new (P := P) (w := w) (H := H) lo
    have hNF : Nn ≠ Fr := fun e => by
      subst e
      exact hdn0.not_none hFr
    have hFr0 : H Fr = none := by
      rw [upd_ne (Ne.symm hNF)] at hFr
      exact hFr
    have sA : Same H (upd (upd H Nn (DNo P w Nn [])) Fr (.lst [])) := same_upd (same_new hNn) hFr0
    refine ⟨_, rfl, p, _, 1, _, rfl, rfl, SqT.of (sA _ _ hp), at1, pr, vrs, rfl, sA _ _ hpr, ?_⟩
    refine for_it walk_enumT (fun i σ H1 => ∃ kvs f o4 o5 o6 o7 o8, σ = [some (.ref p), some (.ref lc), some (.ref Nn), some (.ref Fr), o4, o5, o6, o7, o8] ∧ Same H H1 ∧ DnAt P w H1 Nn kvs ∧ H1 Fr = some (.lst (f.map nV)) ∧ NI i (fun j => (c.getD j 0, sign c (rows.getD j []))) kvs f)
      ⟨[], [], _, _, _, _, _, rfl, sA, hdn0.mono (same_tups (same_new hFr)) (upd_ne hNF), upd_same, rfl, Nat.le_refl _, (fun j x h => by simp at h), (fun z v h => by cases h), (fun z z' v h => by cases h)⟩ (fun i σ H1 _ ⟨_, _, _, _, _, _, _, _, s1, _⟩ => s1 _ _ hpr) ?_ ?_
    · rintro i x σ H1 H2 hi ⟨kvs, f, o4, o5, o6, o7, o8, hσ, s1, hdn, hF1, I⟩ ⟨T, x1, x2, e1, hT, e2, e3, e4⟩
      subst e1 e2 hσ
      cases e3
      have hil : i < rows.length := by omega
      have hrow : rows[i]? = some rows[i] := List.getElem?_eq_getElem hil
      obtain ⟨q, es, rfl, hq, hes⟩ : RowAt H x2 rows[i] := by
        obtain ⟨row, h1, h2⟩ := pd_get hrs e4
        rw [hrow] at h1
        cases h1
        exact h2
      have hmem := List.mem_of_getElem? hrow
      have hrl := hr2 _ hmem
      have hlt := W.lt _ hmem
      have hgd : rows.getD i [] = rows[i] := by simp [hil]
      generalize rows[i] = row at hes hrow hmem hrl hlt hgd
      have hic : i < c.length := by omega
      have s2 : Same H (upd H1 T (.tup [nV i, .ref q])) := same_upd s1 (same_none s1 hT)
      have hdn2 := hdn.mono (same_tups (same_new (o := .tup [nV i, .ref q]) hT)) (upd_ne fun e => hdn.not_none (by rw [e]; exact hT))
      have hF2 : upd H1 T (.tup [nV i, .ref q]) Fr = some (.lst (f.map nV)) := (upd_ne (ne_of_none hF1 hT)).trans hF1
      have hT2 : upd H1 T (.tup [nV i, .ref q]) T = some (.tup [nV i, .ref q]) := upd_same
      have hci : (c.map nV)[i]? = some (nV c[i]) := by simp [hic]
      clear s1 hdn hF1 hT
      generalize upd H1 T (.tup [nV i, .ref q]) = H2 at *
      refine ⟨_, _, rfl, SqT.of hT2, rfl, _, _, rfl, _, _, rfl, rfl, ?_⟩
      refine ⟨_, rfl, _, rfl, lc, _, (i : Int), _, rfl, rfl, SqL.of (s2 _ _ hlc), atI_nat hci, ?_⟩
      refine ⟨_, rfl, q, rfl, ⟨_, SqT.of (s2 _ _ hq)⟩, fun D hD => ?_⟩
      refine lc_tup (xs := es) (fun j H3 => Same H2 H3 ∧ ∃ xs, H3 D = some (.lst xs) ∧ Paired (EdgeAt H3) xs (sign c (row.take j))) ⟨same_new hD, [], upd_same, .nil⟩ (fun j H3 _ ⟨s3, _⟩ => SqT.of (s3 _ _ (s2 _ _ hq))) ?_ ?_
      · rintro j y H3 hy ⟨s3, xs, hD3, hpx⟩
        obtain ⟨e, he, pe, vo, rfl, hpe, hvo⟩ := pd_get hes hy
        have hel := hlt e (List.mem_of_getElem? he)
        have hec : e.2 < c.length := by omega
        have hce : (c.map nV)[e.2]? = some (nV c[e.2]) := by simp [hec]
        have hjr := (List.getElem?_eq_some_iff.mp he).1
        refine ⟨_, _, rfl, SqT.of (s3 _ _ (s2 _ _ hpe)), rfl, _, _, rfl, _, _, rfl, rfl, ?_⟩
        refine ⟨rfl, yes_if ?_⟩
        refine ⟨_, rfl, _, rfl, _, rfl, lc, _, (e.2 : Int), _, rfl, rfl, SqL.of (s3 _ _ (s2 _ _ hlc)), atI_nat hce, by show 2 ≤ sizeLine; omega, fun t ht => ?_⟩
        have sn := same_new (o := .tup [vo, nV c[e.2]]) ht
        have hxl : xs.length ≤ 10000 := by
          have := pd_len hpx
          unfold sign at this
          rw [List.length_map, List.length_take] at this
          omega
        have tt := (same_tups sn).trans (tups_lst (o := .lst (xs ++ [.ref t])) (sn _ _ hD3))
        refine ⟨xs, sn _ _ hD3, by omega, same_upd (fun b o z => sn b o (s3 b o z)) hD, xs ++ [.ref t], upd_same, ?_⟩
        rw [take_get he]
        unfold sign
        rw [List.map_append]
        refine pd_snoc (pd_mono hpx fun _ _ z => z.mono tt) ⟨t, vo, rfl, ?_, ((hvo.mono (same_tups s2)).mono (same_tups s3)).mono tt⟩
        rw [upd_ne (Ne.symm (ne_of_none hD3 ht)), upd_same]
        simp [hec]
      · rintro H3 ⟨s3, xs, hD3, hpx⟩
        rw [pd_len hes, List.take_length] at hpx
        refine ⟨D, xs, rfl, .inl ⟨SqL.of hD3, fun l hl => ?_⟩⟩
        refine ⟨by show 2 ≤ sizeLine; omega, fun t ht => ?_⟩
        have s4 := same_new (o := .tup xs) hl
        have s5 := same_new (o := .tup [nV c[i], .ref l]) ht
        have s25 : Same H2 (upd (upd H3 l (.tup xs)) t (.tup [nV c[i], .ref l])) := fun b o z => s5 b o (s4 b o (s3 b o z))
        have hsg : SgnAt (upd (upd H3 l (.tup xs)) t (.tup [nV c[i], .ref l])) (.ref t) (c[i], sign c row) := ⟨t, .ref l, rfl, upd_same, l, xs, rfl, s5 _ _ upd_same, pd_mono hpx fun _ _ z => (z.mono (same_tups s4)).mono (same_tups s5)⟩
        obtain ⟨u, hu, _⟩ := hdn2.not_tup
        have hdn5 := hdn2.mono (same_tups s25) ((s25 _ _ hu).trans hu.symm)
        have hF5 := s25 _ _ hF2
        have s5' : Same H (upd (upd H3 l (.tup xs)) t (.tup [nV c[i], .ref l])) := fun b o z => s25 b o (s2 b o z)
        have hsgi : ((c.getD i 0, sign c (rows.getD i [])) : Sgn) = (c[i], sign c row) := by
          rw [hgd]
          simp [hic]
        clear hu s4 s5 s25 hpx hD3 s3 hD s2 hdn2 hF2
        generalize upd (upd H3 l (.tup xs)) t (.tup [nV c[i], .ref l]) = H5 at *
        have hkl := I.le
        have hfl := I.len
        refine ⟨_, rfl, _, rfl, Nn, t, kvs, _, rfl, rfl, hdn5, hsg, _, rfl, ?_⟩
        refine join (C := fun σ H6 => ∃ (kvs : List (Sgn × V)) (x : Nat), σ = [some (.ref p), some (.ref lc), some (.ref Nn), some (.ref Fr), some (nV i), some (.ref q), some (.ref t), o7, o8] ∧ Same H H6 ∧ DnAt P w H6 Nn kvs ∧ H6 Fr = some (.lst (f.map nV)) ∧ SgnAt H6 (.ref t) (c[i], sign c row) ∧
          valV kvs (c[i], sign c row) = some (nV x) ∧ NI (i + 1) (fun j => (c.getD j 0, sign c (rows.getD j []))) kvs (f ++ [x])) ?_ (fun hc hC => ?_) (fun hc => ?_)
        · rintro σ H6 ⟨kvs, x, hσ, s6, hdn6, hF6, hsg6, hval, I6⟩
          subst hσ
          refine ⟨_, rfl, .inl ⟨rfl, _, SqL.of hF6⟩, _, rfl, _, rfl, Nn, t, kvs, _, nV x, rfl, rfl, hdn6, hsg6, hval, Fr, _, _, rfl, rfl, hF6, by rw [List.length_map]; omega, ?_⟩
          refine ⟨kvs, f ++ [x], _, _, _, _, _, rfl, same_upd s6 hFr0, hdn6.mono (tups_lst hF6) (upd_ne hNF), ?_, I6⟩
          rw [upd_same, List.map_append]
          rfl
        · have hnone : valV kvs (c[i], sign c row) = none := by
            cases z : valV kvs (c[i], sign c row) with
            | none => rfl
            | some v => rw [z] at hc; cases hc
          refine ⟨_, rfl, Nn, kvs, rfl, hdn5, _, rfl, _, rfl, Nn, t, kvs, _, rfl, rfl, hdn5, hsg, hnone, by omega, fun H4 ho hdn4 => ?_⟩
          obtain ⟨pz, pl, hz1, hz2, hz3⟩ := hsg
          have hnt : ∀ b xs, H5 b = some (.tup xs) → H4 b = some (.tup xs) := fun b xs z => by
            refine (ho b fun e => ?_).trans z
            obtain ⟨u, hu, hnu⟩ := hdn5.not_tup
            rw [e, hu] at z
            exact hnu xs (Option.some.inj z)
          have hI := I.add (by rw [hsgi]; exact hnone)
          rw [hsgi] at hI
          refine hC _ _ ⟨_, kvs.length, rfl, fun b o z => (ho b (ne_of_none z hNn)).trans (s5' b o z), hdn4, (ho Fr (Ne.symm hNF)).trans hF5, SgnAt.mono ⟨pz, pl, hz1, hz2, hz3⟩ hnt, hI.1, hI.2⟩
        · cases z : valV kvs (c[i], sign c row) with
          | none => rw [z] at hc; cases hc
          | some v =>
            obtain ⟨m, hm, e⟩ := I.val _ _ z
            subst e
            exact ⟨kvs, m, rfl, s5', hdn5, hF5, hsg, z, I.old (by rw [hsgi]; exact z)⟩
    · rintro σ H1 ⟨kvs, f, o4, o5, o6, o7, o8, hσ, s1, hdn, hF1, I⟩
      subst hσ
      rw [hrows] at I
      exact ⟨_, rfl, k H1 Fr f s1 hFr0 hF1 (I.refd hcl)⟩
end
end Pk
/-! alike_classes, least. -/
namespace Pk
open PySem L2 PM
/-- bounds that a table keeps -/
structure TOk (rows : Rows Str) (ends : List Bool) (L : List A3) : Prop where
  wf : WF rows
  pos : 0 < rows.length
  rl : rows.length ≤ 1000
  el : ends.length = rows.length
  ll : L.length ≤ 10000
  act : ∀ row ∈ rows, ∀ e ∈ row, e.1 ∈ L
theorem TOk.row {rows : Rows Str} {ends : List Bool} {L : List A3} (T : TOk rows ends L) : ∀ row ∈ rows, row.length ≤ 10000 := fun row hr => by
  have h := T.wf.det row hr
  have := nodup_sub (m := L) h fun a ha => by
    obtain ⟨e, he, q⟩ := List.mem_map.mp ha
    exact q ▸ T.act row hr e he
  rw [List.length_map] at this
  have := T.ll
  omega
section
variable {P : Program} {w : World} {K : PySem.W.Frag} {mg : Str → Option Value} {base : Heap}
/-! ### alike_classes -/
abbrev sAlike : Stmt := top 8
abbrev nAlike : List Str := ["table", "classes", "count", "fresh", "size", "end"]
def spAlike : Sp := fun vs H Q _ => ∃ (vt : V) (rows : Rows Str) (ends : List Bool) (L : List A3), vs = [vt] ∧ TabAt H vt rows ends ∧ TOk rows ends L ∧
  ∀ (H' : Hp) (q : Addr) (f : List Nat), Same H H' → H q = none → H' q = some (.lst (f.map nV)) → Stable rows f → Q (.ref q) H'
theorem scAlike : FnScope nAlike ["table"] (C8.fnScope sAlike) := C8.fnScope_by (by decide +kernel)
theorem card_ex (l : List Nat) : ∃ n, IsCard l n := by
  induction l with
  | nil => exact ⟨0, [], List.nodup_nil, fun x => Iff.rfl, rfl⟩
  | cons a l ih =>
    obtain ⟨n, d, h1, h2, h3⟩ := ih
    by_cases ha : a ∈ d
    · exact ⟨n, d, h1, fun x => by
        rw [h2, List.mem_cons]
        constructor
        · exact .inr
        · rintro (e | h)
          · rw [e]; exact (h2 a).mp ha
          · exact h, h3⟩
    · exact ⟨n + 1, a :: d, List.nodup_cons.mpr ⟨ha, h1⟩, fun x => by rw [List.mem_cons, List.mem_cons, h2], by rw [List.length_cons, h3]⟩
theorem cal_alike {f : Addr} {fd : FuncData} (D : C8.Def K mg "alike_classes" sAlike f fd) (b : Binds K fd ["table"] []) (T : Tx mg) (c1 : C8.Cal P w K mg base 1 "refined_classes" spRefined []) : C8.Cal P w K mg base 2 "alike_classes" spAlike [] := by
  have nd := scAlike.nd
  refine C8.cal0 D b .nil scAlike (fun vs H Q E h => ?_) (fun cdv A outer s0 H vs Q E hr h => ?_)
  · obtain ⟨vt, rows, ends, L, rfl, _⟩ := h
    rfl
  · obtain ⟨vt, rows, ends, L, rfl, hT, O, k⟩ := h
    refine ⟨_, pss_cons (ps_setLc (i := 1) (own := [("end", 5)]) (g := gName 5) rfl nd rfl rfl (sw_true rfl rfl rfl (by decide +kernel)) (pi_tup (pe_ix ix_tup (pv 0) pe_int (fun _ _ => rfl))) (blkOk_by (N := nAlike) (sc := C8.fnScope sAlike) (by decide +kernel)) (fun _ _ _ _ _ => (pg_name (i := 5) nd rfl (Or.inl rfl))) (fun _ _ _ _ _ => pts_nil)
        (fun _ _ _ _ _ => pe_callTy call_int1 (by rfl) T.int (by decide +kernel) (pa_cons (pv 5) pa_nil)))
      (pss_cons (ps_set (i := 2) nd rfl (.inl rfl) (pe_card (by rfl) T.len (by rfl) T.set (pv 1)))
      (pss_cons (ps_while PassesOwn.never (pt_val pe_bl)
        (pss_cons (ps_set (i := 3) nd rfl (.inl rfl) (C8.pe_c c1 hr (by decide) (by rfl) (pa_cons (pv 0) (pa_cons (pv 1) pa_nil))))
        (pss_cons (ps_set (i := 4) nd rfl (.inl rfl) (pe_card (by rfl) T.len (by rfl) T.set (pv 3)))
        (pss_cons (ps_if (pt_cmpR op_eq (pv 4) (pv 2) (nomark _)) (pss_one (ps_ret (pv 3))) pss_nil)
        (pss_cons (ps_set (i := 1) nd rfl (.inl rfl) (pv 3)) (pss_one (ps_set (i := 2) nd rfl (.inl rfl) (pv 4))))))))
      pss_nil)), ?_⟩
    have hT0 := hT
    obtain ⟨p, vr, ve, rfl, hp, hR, pe, rfl, hpe⟩ := hT
    have hz := sizeLine_eq
    have hrl := O.rl
    have hel := O.el
    have hpos := O.pos
    refine ⟨_, rfl, p, _, 2, _, rfl, rfl, SqT.of hp, at2, pe, rfl, ⟨_, SqT.of hpe⟩, fun D hD => ?_⟩
    refine lc_tup (xs := ends.map V.bl) (fun i H1 => Same H H1 ∧ ∃ c : List Nat, H1 D = some (.lst (c.map nV)) ∧ c.length = i) ⟨same_new hD, [], upd_same, rfl⟩ (fun i H1 _ ⟨s1, _⟩ => SqT.of (s1 _ _ hpe)) ?_ ?_
    · rintro i x H1 hx ⟨s1, c, hD1, hc⟩
      obtain ⟨bb, rfl⟩ : ∃ bb, x = .bl bb := by
        obtain ⟨bb, _, e⟩ := List.mem_map.mp (List.mem_of_getElem? hx)
        exact ⟨bb, e.symm⟩
      have hil := (List.getElem?_eq_some_iff.mp hx).1
      rw [List.length_map] at hil
      refine ⟨rfl, yes_if ?_⟩
      refine ⟨_, rfl, .inr ⟨bb, rfl, _, hD1, by rw [List.length_map]; omega, same_upd s1 hD, c ++ [if bb then 1 else 0], ?_, by rw [List.length_append, hc]; rfl⟩⟩
      rw [upd_same, List.map_append]
      cases bb <;> rfl
    · rintro H1 ⟨s1, c, hD1, hc⟩
      rw [List.length_map, hel] at hc
      refine ⟨_, rfl, D, c, rfl, hD1, by omega, fun n hn => ?_⟩
      refine ⟨fun m σ H2 => ∃ (q : Addr) (c : List Nat) (n : Nat) (o3 o4 o5 : Option V), σ = [some (.ref p), some (.ref q), some (nV n), o3, o4, o5] ∧ Same H H2 ∧ H2 q = some (.lst (c.map nV)) ∧ c.length = rows.length ∧ IsCard c n ∧ m = rows.length - n,
        ⟨_, D, c, n, _, _, _, rfl, s1, hD1, hc, hn, rfl⟩, ?_⟩
      clear hn hc hD1 s1
      rintro m σ H2 ⟨q, c, n, o3, o4, o5, hσ, s2, hq, hc, hn, hm⟩
      subst hσ
      refine ⟨_, rfl, ?_⟩
      refine ⟨_, fun σ' H' h => h, ?_⟩
      refine ⟨_, rfl, _, rfl, .ref p, q, rows, ends, c, rfl, hT0.mono (same_tups s2), hq, hc, O.wf, hrl, O.row, fun H3 q2 f s3 hq2 hf R => ?_⟩
      refine ⟨_, rfl, q2, f, rfl, hf, by rw [R.len]; omega, fun n2 hn2 => ?_⟩
      refine ⟨_, rfl, _, rfl, rfl, _, rfl, ?_⟩
      have hle := card_mono hc R hn hn2
      have hle2 := hn2.le
      rw [R.len] at hle2
      refine ite_b (fun he => ?_) (fun he => ?_)
      · have he : nV n2 = nV n := of_decide_eq_true he
        have he := nV_inj he
        subst he
        exact ⟨_, rfl, k H3 q2 f (fun b o z => s3 b o (s2 b o z)) (same_none s2 hq2) hf (stable_of O.wf hc R hn hn2)⟩
      · have he : ¬ nV n2 = nV n := of_decide_eq_false he
        have hne : n2 ≠ n := fun e => he (by rw [e])
        refine ⟨_, rfl, _, rfl, ?_⟩
        exact ⟨_, by omega, q2, f, n2, _, _, _, rfl, fun b o z => s3 b o (s2 b o z), hf, R.len, hn2, rfl⟩
end
end Pk
/-! least. -/
namespace Pk
open PySem L2 PM
theorem pd_set {α β : Type} {F : α → β → Prop} {x : α} {y : β} (r : F x y) : ∀ {xs : List α} {ys : List β} (j : Nat), Paired F xs ys → Paired F (xs.set j x) (ys.set j y)
  | _, _, _, .nil => .nil
  | _, _, 0, .cons _ t => .cons r t
  | _, _, j + 1, .cons s t => .cons s (pd_set r j t)
theorem ixN_nat {n j : Nat} (h : j < n) : ixN n (j : Int) = some j := by
  unfold ixN
  rw [if_pos (by omega), if_pos (by omega)]
  simp
/-- the heap without two addresses -/
def rmv (H : Hp) (A B : Addr) : Hp := fun b => if b = A ∨ b = B then none else H b
section
variable {H H' : Hp} {A B : Addr} {o : HO}
theorem rmv_le : Same (rmv H A B) H := fun b u e => by
  unfold rmv at e
  split at e
  · cases e
  · exact e
theorem rmv_same (s : Same H H') : Same (rmv H A B) (rmv H' A B) := fun b u e => by
  unfold rmv at e ⊢
  split at e
  · cases e
  · rename_i h
    rw [if_neg h]
    exact s b u e
theorem rmv_updA : rmv (upd H A o) A B = rmv H A B := funext fun b => by
  unfold rmv
  by_cases e : b = A ∨ b = B
  · rw [if_pos e, if_pos e]
  · rw [if_neg e, if_neg e, upd_ne fun z => e (.inl z)]
theorem rmv_updB : rmv (upd H B o) A B = rmv H A B := funext fun b => by
  unfold rmv
  by_cases e : b = A ∨ b = B
  · rw [if_pos e, if_pos e]
  · rw [if_neg e, if_neg e, upd_ne fun z => e (.inr z)]
theorem rmv_at {D : Addr} {u : HO} (h : H D = some u) (h1 : D ≠ A) (h2 : D ≠ B) : rmv H A B D = some u := by
  unfold rmv
  rw [if_neg (by rintro (e | e); exact h1 e; exact h2 e)]
  exact h
end
structure LM (rows : Rows Str) (c : List Nat) (i : Nat) (m : Moves Str) : Prop where
  len : m.length = c.length
  some_ : ∀ r ∈ m, r = [] ∨ ∃ row ∈ rows, r = row.map fun e => (e.1, [c.getD e.2 0])
  at_ : ∀ s, s < i → ∀ (row : Row Str) (k : Nat), rows[s]? = some row → c[s]? = some k → ∃ (s' : Nat) (row' : Row Str), rows[s']? = some row' ∧ c[s']? = some k ∧ m[k]? = some (row'.map fun e => (e.1, [c.getD e.2 0]))
theorem LM.set {rows : Rows Str} {c : List Nat} {i : Nat} {m : Moves Str} (I : LM rows c i m) {row : Row Str} {k : Nat} (h1 : rows[i]? = some row) (h2 : c[i]? = some k) (hk : k < c.length) : LM rows c (i + 1) (m.set k (row.map fun e => (e.1, [c.getD e.2 0]))) where
  len := by rw [List.length_set]; exact I.len
  some_ := fun r hr => by
    rcases List.mem_or_eq_of_mem_set hr with h | h
    · exact I.some_ r h
    · exact .inr ⟨row, List.mem_of_getElem? h1, h⟩
  at_ := fun s hs row' k' h3 h4 => by
    by_cases e : k' = k
    · subst e
      refine ⟨i, row, h1, h2, ?_⟩
      rw [List.getElem?_set_self (by rw [I.len]; exact hk)]
    · have hs' : s < i := by
        rcases Nat.lt_or_ge s i with h | h
        · exact h
        · have : s = i := by omega
          subst this
          rw [h2] at h4
          exact absurd (Option.some.inj h4).symm e
      obtain ⟨s', row'', g1, g2, g3⟩ := I.at_ s hs' row' k' h3 h4
      exact ⟨s', row'', g1, g2, by rw [List.getElem?_set_ne (fun z => e z.symm)]; exact g3⟩
section
variable {P : Program} {w : World} {K : PySem.W.Frag} {mg : Str → Option Value} {base : Heap}
/-! ### least -/
abbrev sLeast : Stmt := top 9
abbrev nLeast : List Str := ["table", "classes", "moves", "ends", "state", "row", "_", "action", "goal"]
def spLeast : Sp := fun vs H Q _ => ∃ (vt : V) (rows : Rows Str) (ends : List Bool) (L : List A3), vs = [vt] ∧ TabAt H vt rows ends ∧ TOk rows ends L ∧
  ∀ (H' : Hp) (v : V) (rows' : Rows Str) (ends' : List Bool), Same H H' → TabAt H' v rows' ends' → WF rows' → 0 < rows'.length → (∀ w, IsRun rows' w ↔ IsRun rows w) → Q v H'
theorem scLeast : FnScope nLeast ["table"] (C8.fnScope sLeast) := C8.fnScope_by (by decide +kernel)
theorem cal_least {f : Addr} {fd : FuncData} (D : C8.Def K mg "least" sLeast f fd) (b : Binds K fd ["table"] []) (T : Tx mg) (c1 : C8.Cal P w K mg base 2 "alike_classes" spAlike []) (c2 : C8.Cal P w K mg base 2 "subset_table" spSubset []) : C8.Cal P w K mg base 3 "least" spLeast [] := by
  have nd := scLeast.nd
  refine C8.cal0 D b .nil scLeast (fun vs H Q E h => ?_) (fun cdv A outer s0 H vs Q E hr h => ?_)
  · obtain ⟨vt, rows, ends, L, rfl, _⟩ := h
    rfl
  · obtain ⟨vt, rows, ends, L, rfl, hT, O, k⟩ := h
    refine ⟨_, pss_cons (ps_set (i := 1) nd rfl (.inr rfl) (C8.pe_c c1 hr (by decide) (by rfl) (pa_cons (pv 0) pa_nil)))
      (pss_cons (ps_setLc (i := 2) (own := [("_", 6)]) (g := gName 6) rfl nd rfl rfl (sw_true rfl rfl rfl (by decide +kernel)) (pi_list (pv 1)) (blkOk_by (N := nLeast) (sc := C8.fnScope sLeast) (by decide +kernel)) (fun _ _ _ _ _ => (pg_name (i := 6) nd rfl (Or.inl rfl))) (fun _ _ _ _ _ => pts_nil) (fun _ _ _ _ _ => pe_lst pa_nil))
      (pss_cons (ps_setLc (i := 3) (own := [("_", 6)]) (g := gName 6) rfl nd rfl rfl (sw_true rfl rfl rfl (by decide +kernel)) (pi_list (pv 1)) (blkOk_by (N := nLeast) (sc := C8.fnScope sLeast) (by decide +kernel)) (fun _ _ _ _ _ => (pg_name (i := 6) nd rfl (Or.inl rfl))) (fun _ _ _ _ _ => pts_nil) (fun _ _ _ _ _ => pe_bl))
      (pss_cons (ps_for PassesOwn.never rfl (pi_enumT (by rfl) T.enum (pa_cons (pe_ix ix_tup (pv 0) pe_int (fun _ _ => rfl)) pa_nil)) (pg_tup rfl (pgs_cons (pg_name (i := 4) nd rfl (Or.inl rfl)) (pgs_cons (pg_name (i := 5) nd rfl (Or.inl rfl)) pgs_nil)))
        (pss_cons (ps_asg (pe_lc (own := [("action", 7), ("goal", 8)]) (g := gTup K 2 (gCons (gName 7) (gCons (gName 8) gNil))) rfl nd (pi_tup (pv 5)) (blkOk_by (N := nLeast) (sc := C8.fnScope sLeast) (by decide +kernel)) (fun _ _ _ _ _ => pg_tupK rfl rfl (pgs_cons (pg_name (i := 7) nd rfl (Or.inl rfl)) (pgs_cons (pg_name (i := 8) nd rfl (Or.inl rfl)) pgs_nil)))
              (fun _ _ _ _ _ => pts_nil) (fun _ _ _ _ _ => pe_tup (pa_cons (pv 7) (pa_cons (pe_tup (pa_cons (pe_ix (ix_listK (K := K) rfl) (pv 1) (pv 8) (fun _ _ => rfl)) pa_nil)) pa_nil)))) (pg_sub (pv 2) (pe_ix ix_list (pv 1) (pv 4) (fun _ _ => rfl)) set_list))
        (pss_one (ps_asg (pe_ix ix_tup (pe_ix ix_tup (pv 0) pe_int (fun _ _ => rfl)) (pv 4) (fun _ _ => rfl)) (pg_sub (pv 3) (pe_ix ix_list (pv 1) (pv 4) (fun _ _ => rfl)) set_list)))))
      (pss_one (ps_ret (C8.pe_c c2 hr (by decide) (by rfl) (pa_cons (pe_tup (pa_cons (pe_ix ix_list (pv 1) pe_int (fun _ _ => rfl)) pa_nil)) (pa_cons (pv 2) (pa_cons (pv 3) (pa_cons (pe_callB call_len_seq (by rfl) T.len PySem.boot_len (pa_cons (pv 1) pa_nil)) pa_nil)))))))))), ?_⟩
    have hT0 := hT
    obtain ⟨p, vr, ve, rfl, hp, hR, pe, rfl, hpe⟩ := hT
    obtain ⟨pr, vrs, rfl, hpr, hrs⟩ := hR
    have hrows := pd_len hrs
    have hz := sizeLine_eq
    have hrl := O.rl
    have hel := O.el
    have hpos := O.pos
    refine ⟨_, rfl, .ref p, rows, ends, L, rfl, hT0, O, fun H1 q c s1 hq0 hc St => ?_⟩
    have hcl := St.len
    refine ⟨_, rfl, q, rfl, ⟨_, SqL.of hc⟩, fun Mv hMv => ?_⟩
    refine lc_list (xs := c.map nV) (fun i H2 => Same H1 H2 ∧ ∃ vs, H2 Mv = some (.lst vs) ∧ Paired (MRowAt (rmv H2 Mv Mv)) vs (List.replicate i [])) ⟨same_new hMv, [], upd_same, .nil⟩ (fun i H2 _ ⟨s2, _⟩ => SqL.of (s2 _ _ hc)) ?_ ?_
    · rintro i x H2 hx ⟨s2, vs, hM2, hpv⟩
      have hil := (List.getElem?_eq_some_iff.mp hx).1
      rw [List.length_map] at hil
      have hvl := pd_len hpv
      rw [List.length_replicate] at hvl
      refine ⟨rfl, yes_if ?_⟩
      refine ⟨Nat.zero_le _, fun l hl => ?_⟩
      have sn := same_new (o := .lst []) hl
      have hne : Mv ≠ l := ne_of_none hM2 hl
      refine ⟨vs, sn _ _ hM2, by omega, same_upd (fun b o z => sn b o (s2 b o z)) hMv, vs ++ [.ref l], upd_same, ?_⟩
      rw [List.replicate_succ', rmv_updA]
      exact pd_snoc (pd_mono hpv fun _ _ z => z.mono (rmv_same sn)) ⟨l, [], rfl, rmv_at upd_same (Ne.symm hne) (Ne.symm hne), .nil⟩
    rintro H2 ⟨s2, vs, hM2, hpv⟩
    rw [List.length_map] at hpv
    refine ⟨_, rfl, q, rfl, ⟨_, SqL.of (s2 _ _ hc)⟩, fun Ee hEe => ?_⟩
    have hME : Mv ≠ Ee := ne_of_none hM2 hEe
    refine lc_list (xs := c.map nV) (fun i H3 => Same H2 H3 ∧ ∃ bs : List Bool, H3 Ee = some (.lst (bs.map V.bl)) ∧ bs.length = i) ⟨same_new hEe, [], upd_same, rfl⟩ (fun i H3 _ ⟨s3, _⟩ => SqL.of (s3 _ _ (s2 _ _ hc))) ?_ ?_
    · rintro i x H3 hx ⟨s3, bs, hE3, hbs⟩
      have hil := (List.getElem?_eq_some_iff.mp hx).1
      rw [List.length_map] at hil
      refine ⟨rfl, yes_if ?_⟩
      refine ⟨_, hE3, by rw [List.length_map]; omega, same_upd s3 hEe, bs ++ [false], ?_, by rw [List.length_append, hbs]; rfl⟩
      rw [upd_same, List.map_append]
      rfl
    rintro H3 ⟨s3, bs, hE3, hbs⟩
    rw [List.length_map] at hbs
    have hE1 : H1 Ee = none := same_none s2 hEe
    have s13 : Same H1 H3 := fun b o z => s3 b o (s2 b o z)
    have hM3 := s3 _ _ hM2
    have hpv3 : Paired (MRowAt (rmv H3 Mv Ee)) vs (List.replicate c.length []) := pd_mono hpv fun _ _ z => z.mono fun b u e => by
      unfold rmv at e
      split at e
      · cases e
      · rename_i h
        exact rmv_at (s3 _ _ e) (fun z => h (.inl z)) (ne_of_none e hEe)
    refine ⟨_, rfl, p, _, 1, _, rfl, rfl, SqT.of (s13 _ _ (s1 _ _ hp)), at1, pr, vrs, rfl, s13 _ _ (s1 _ _ hpr), ?_⟩
    clear hpv hM2 hEe
    refine for_it walk_enumT (fun i σ H4 => ∃ (vs : List V) (m : Moves Str) (bs : List Bool) (o4 o5 o6 o7 o8 : Option V), σ = [some (.ref p), some (.ref q), some (.ref Mv), some (.ref Ee), o4, o5, o6, o7, o8] ∧ Same H1 H4 ∧ H4 Mv = some (.lst vs) ∧ Paired (MRowAt (rmv H4 Mv Ee)) vs m ∧ LM rows c i m ∧ H4 Ee = some (.lst (bs.map V.bl)) ∧ bs.length = c.length)
      ⟨vs, _, bs, _, _, _, _, _, rfl, s13, hM3, hpv3, ⟨List.length_replicate, fun r hr => .inl (List.eq_of_mem_replicate hr), fun s hs => absurd hs (Nat.not_lt_zero s)⟩, hE3, hbs⟩ (fun i σ H4 _ ⟨_, _, _, _, _, _, _, _, _, s4, _⟩ => s4 _ _ (s1 _ _ hpr)) ?_ ?_
    · clear hpv3 hM3 hE3 hbs s13 s3 s2 vs bs
      rintro i x σ H4 H5 hi ⟨vs, m, bs, o4, o5, o6, o7, o8, hσ, s4, hM4, hpv, I, hE4, hbs⟩ ⟨T, x1, x2, e1, hT, e2, e3, e4⟩
      subst e1 e2 hσ
      cases e3
      have hil : i < rows.length := by omega
      have hrow : rows[i]? = some rows[i] := List.getElem?_eq_getElem hil
      obtain ⟨qr, es, rfl, hqr, hes⟩ : RowAt H x2 rows[i] := by
        obtain ⟨row, h1, h2⟩ := pd_get hrs e4
        rw [hrow] at h1
        cases h1
        exact h2
      have hmem := List.mem_of_getElem? hrow
      have hrl2 := O.row _ hmem
      have hlt := O.wf.lt _ hmem
      generalize rows[i] = row at hes hrow hmem hrl2 hlt
      have hic : i < c.length := by omega
      have hci : (c.map nV)[i]? = some (nV c[i]) := by simp [hic]
      have hk : c[i]? = some c[i] := List.getElem?_eq_getElem hic
      have hkl : c[i] < c.length := St.lt _ (List.getElem_mem hic)
      generalize c[i] = kk at hci hk hkl
      have sT := same_new (o := .tup [nV i, .ref qr]) hT
      have s5 : Same H1 (upd H4 T (.tup [nV i, .ref qr])) := fun b o z => sT b o (s4 b o z)
      have hM5 := sT _ _ hM4
      have hE5 := sT _ _ hE4
      have hpv5 := pd_mono hpv fun _ _ z => z.mono (rmv_same (A := Mv) (B := Ee) sT)
      have hT5 : upd H4 T (.tup [nV i, .ref qr]) T = some (.tup [nV i, .ref qr]) := upd_same
      clear sT hM4 hE4 hpv s4 hT
      generalize upd H4 T (.tup [nV i, .ref qr]) = H5 at *
      have hvl := pd_len hpv5
      have hml := I.len
      refine ⟨_, _, rfl, SqT.of hT5, rfl, _, _, rfl, _, _, rfl, rfl, ?_⟩
      refine ⟨_, rfl, qr, rfl, ⟨_, SqT.of (s5 _ _ (s1 _ _ hqr))⟩, fun D hD => ?_⟩
      have hDM : Mv ≠ D := ne_of_none hM5 hD
      have hDE : Ee ≠ D := ne_of_none hE5 hD
      refine lc_tup (xs := es) (fun j H6 => Same H5 H6 ∧ ∃ xs, H6 D = some (.lst xs) ∧ Paired (MoveAt H6) xs ((row.take j).map fun e => (e.1, [c.getD e.2 0]))) ⟨same_new hD, [], upd_same, .nil⟩ (fun j H6 _ ⟨s6, _⟩ => SqT.of (s6 _ _ (s5 _ _ (s1 _ _ hqr)))) ?_ ?_
      · rintro j y H6 hy ⟨s6, xs, hD6, hpx⟩
        obtain ⟨e, he, pe, vo, rfl, hpe, hvo⟩ := pd_get hes hy
        have hel := hlt e (List.mem_of_getElem? he)
        have hec : e.2 < c.length := by omega
        have hce : (c.map nV)[e.2]? = some (nV c[e.2]) := by simp [hec]
        have hjr := (List.getElem?_eq_some_iff.mp he).1
        have s06 : Same H H6 := fun b o z => s6 b o (s5 b o (s1 b o z))
        refine ⟨_, _, rfl, SqT.of (s06 _ _ hpe), rfl, _, _, rfl, _, _, rfl, rfl, ?_⟩
        refine ⟨rfl, yes_if ?_⟩
        refine ⟨_, rfl, _, rfl, _, rfl, q, _, (e.2 : Int), _, rfl, rfl, SqL.of (s6 _ _ (s5 _ _ hc)), atI_nat hce, by show 1 ≤ sizeLine; omega, fun t1 ht1 => ⟨by show 2 ≤ sizeLine; omega, fun t2 ht2 => ?_⟩⟩
        have sn1 := same_new (o := .tup [nV c[e.2]]) ht1
        have sn2 := same_new (o := .tup [vo, .ref t1]) ht2
        have hxl : xs.length ≤ 10000 := by
          have := pd_len hpx
          rw [List.length_map, List.length_take] at this
          omega
        have t12 := (same_tups sn1).trans (same_tups sn2)
        have tt := t12.trans (tups_lst (o := .lst (xs ++ [.ref t2])) (sn2 _ _ (sn1 _ _ hD6)))
        refine ⟨xs, sn2 _ _ (sn1 _ _ hD6), by omega, same_upd (fun b o z => sn2 b o (sn1 b o (s6 b o z))) hD, xs ++ [.ref t2], upd_same, ?_⟩
        rw [take_get he, List.map_append]
        have t3 := tups_lst (o := .lst (xs ++ [.ref t2])) (sn2 _ _ (sn1 _ _ hD6))
        refine pd_snoc (pd_mono hpx fun _ _ z => z.mono tt) ⟨t2, vo, .ref t1, rfl, t3 _ _ upd_same, (hvo.mono (same_tups s06)).mono tt, t1, rfl, ?_⟩
        rw [t3 _ _ (sn2 _ _ upd_same)]
        simp [hec]
      · rintro H6 ⟨s6, xs, hD6, hpx⟩
        rw [pd_len hes, List.take_length] at hpx
        have s16 : Same H1 H6 := fun b o z => s6 b o (s5 b o z)
        refine ⟨_, rfl, _, rfl, _, rfl, q, _, (i : Int), _, rfl, rfl, SqL.of (s16 _ _ hc), atI_nat hci, ?_⟩
        have hM6 := s6 _ _ hM5
        have hE6 := s6 _ _ hE5
        refine ⟨Mv, vs, (kk : Int), kk, rfl, rfl, hM6, ixN_nat (by omega), ?_⟩
        have s17 : Same H1 (upd H6 Mv (.lst (vs.set kk (.ref D)))) := same_upd s16 hMv
        have hie : i < ends.length := by omega
        have hbe : (ends.map V.bl)[i]? = some (.bl ends[i]) := by simp [hie]
        refine ⟨_, rfl, p, _, 2, _, rfl, rfl, SqT.of (s17 _ _ (s1 _ _ hp)), at2, _, rfl, pe, _, (i : Int), _, rfl, rfl, SqT.of (s17 _ _ (s1 _ _ hpe)), atI_nat hbe, ?_⟩
        refine ⟨_, rfl, _, rfl, _, rfl, q, _, (i : Int), _, rfl, rfl, SqL.of (s17 _ _ hc), atI_nat hci, ?_⟩
        refine ⟨Ee, _, (kk : Int), kk, rfl, rfl, (upd_ne (Ne.symm hME)).trans hE6, ixN_nat (by rw [List.length_map]; omega), ?_⟩
        have hrm : Same (rmv H5 Mv Ee) (rmv (upd (upd H6 Mv (.lst (vs.set kk (.ref D)))) Ee (.lst ((bs.map V.bl).set kk (.bl ends[i])))) Mv Ee) := by
          rw [rmv_updB, rmv_updA]
          exact rmv_same s6
        refine ⟨_, _, bs.set kk ends[i], _, _, _, _, _, rfl, same_upd s17 hE1, (upd_ne hME).trans upd_same, pd_set (y := row.map fun e => (e.1, [c.getD e.2 0])) ?_ kk (pd_mono hpv5 fun _ _ z => z.mono hrm), I.set hrow hk hkl, ?_, by rw [List.length_set]; exact hbs⟩
        · rw [rmv_updB, rmv_updA]
          refine ⟨D, xs, rfl, rmv_at hD6 (Ne.symm hDM) (Ne.symm hDE), pd_mono hpx fun v mv z => z.mono fun b ys e => rmv_at e ?_ ?_⟩
          · intro e2; rw [e2, hM6] at e; cases e
          · intro e2; rw [e2, hE6] at e; cases e
        · rw [upd_same, List.map_set]
    · clear hpv3 hM3 hE3 hbs s13 s3 s2 vs bs
      rintro σ H4 ⟨vs, m, bs, o4, o5, o6, o7, o8, hσ, s4, hM4, hpv, I, hE4, hbs⟩
      subst hσ
      rw [hrows] at I
      have h0c : 0 < c.length := by omega
      have hk0 : c[0]? = some c[0] := List.getElem?_eq_getElem h0c
      have hkl : c[0] < c.length := St.lt _ (List.getElem_mem h0c)
      have hci : (c.map nV)[0]? = some (nV c[0]) := by simp [h0c]
      generalize c[0] = k0 at hk0 hkl hci
      refine ⟨_, rfl, q, _, 0, _, rfl, rfl, SqL.of (s4 _ _ hc), atI_nat (j := 0) hci, by show 1 ≤ sizeLine; omega, fun t ht => ?_⟩
      have sn := same_new (o := .tup [nV k0]) ht
      have s5 : Same H1 (upd H4 t (.tup [nV k0])) := fun b o z => sn b o (s4 b o z)
      refine ⟨_, rfl, _, rfl, _, rfl, q, _, rfl, .inl (SqL.of (s5 _ _ hc)), ?_⟩
      have LMv : LMoves rows c m := ⟨I.len, fun s row k h1 h2 => I.at_ s (List.getElem?_eq_some_iff.mp h1).1 row k h1 h2⟩
      obtain ⟨F, hF, hFl⟩ := classes_fam O.wf St LMv hpos hk0
      have hml := I.len
      have hmv : ∀ row ∈ m, ∀ x ∈ row, x.1 ∈ L ∧ ∀ y ∈ x.2, y < c.length := fun row hr x hx => by
        rcases I.some_ row hr with e | ⟨row', h1, e⟩
        · rw [e] at hx; cases hx
        · rw [e] at hx
          obtain ⟨ed, h2, e3⟩ := List.mem_map.mp hx
          subst e3
          refine ⟨O.act row' h1 ed h2, fun y hy => ?_⟩
          have hlt := O.wf.lt row' h1 ed h2
          have hec : ed.2 < c.length := by omega
          rw [List.mem_singleton] at hy
          subst hy
          have : c.getD ed.2 0 = c[ed.2] := by simp [hec]
          rw [this]
          exact St.lt _ (List.getElem_mem hec)
      refine ⟨.ref t, .ref Mv, .ref Ee, c.length, [k0], m, bs, L, F, by rw [List.length_map]; rfl, ⟨t, rfl, upd_same⟩, ⟨Mv, vs, rfl, sn _ _ hM4, pd_mono hpv fun _ _ z => z.mono fun b u e => sn b u (rmv_le b u e)⟩, ⟨Ee, rfl, .inl (sn _ _ hE4)⟩,
        ⟨O.ll, by omega, fun row hr x hx => (hmv row hr x hx).1, fun row hr x hx y hy => by have := (hmv row hr x hx).2 y hy; omega⟩, fun x hx => by rw [List.mem_singleton] at hx; rw [hx]; omega, fun row hr x hx y hy => by rw [hml]; exact (hmv row hr x hx).2 y hy, by omega, hF, List.pairwise_singleton _ _, hFl, by omega, ?_⟩
      intro H' v order rows' ends' s6 hT' ST hel' hol
      refine k H' v rows' ends' (fun b o z => s6 b o (s5 b o (s1 b o z))) hT' ST.wf ?_ fun w => least_run O.wf St LMv hpos hk0 ST w
      rw [ST.len]
      exact (List.getElem?_eq_some_iff.mp ST.start).1
end
end Pk
/-! erased, machine_of, fits. -/
namespace Pk
open PySem L2 PM
section
variable {P : Program} {w : World} {K : PySem.W.Frag} {mg : Str → Option Value} {base : Heap}
/-! ### erased -/
abbrev sErased : Stmt := top 17
abbrev nErased : List Str := ["table", "party", "seen", "reach", "moves", "row", "state", "action", "goal"]
def spErased : Sp := fun vs H Q _ => ∃ (vt : V) (p : Str) (rows : Rows Str) (ends : List Bool) (L : List A3), vs = [vt, .str p, .bl true] ∧ TabAt H vt rows ends ∧ TOk rows ends L ∧
  (∀ reach start, IsReach rows p reach → reach[0]? = some start → ∃ F, Fam (movesOf rows p reach) start F ∧ F.length ≤ 300) ∧
  ∀ (H' : Hp) (v : V) (rows' : Rows Str) (ends' : List Bool), Same H H' → TabAt H' v rows' ends' → WF rows' → 0 < rows'.length → (∀ w, IsRun rows' w ↔ ∃ r, IsRun rows r ∧ view r p = w) → Q v H'
theorem scErased : FnScope nErased ["table", "party", "seen"] (C8.fnScope sErased) := C8.fnScope_by (by decide +kernel)
theorem cal_erased {f : Addr} {fd : FuncData} (D : C8.Def K mg "erased" sErased f fd) (b : Binds K fd ["table", "party", "seen"] []) (T : Tx mg) (c0 : C8.Cal P w K mg base 1 "concerns" spConcerns []) (c1 : C8.Cal P w K mg base 2 "reached_unseen" spReach [])
    (c2 : C8.Cal P w K mg base 2 "subset_table" spSubset []) (c3 : C8.Cal P w K mg base 3 "least" spLeast []) : C8.Cal P w K mg base 4 "erased" spErased [] := by
  have nd := scErased.nd
  obtain ⟨tmost, hmost⟩ := T.most
  refine C8.cal0 D b .nil scErased (fun vs H Q E h => ?_) (fun cdv A outer s0 H vs Q E hr h => ?_)
  · obtain ⟨vt, p, rows, ends, L, rfl, _⟩ := h
    rfl
  · obtain ⟨vt, pp, rows, ends, L, rfl, hT, O, hF, k⟩ := h
    refine ⟨_, pss_cons (ps_set (i := 3) nd rfl (.inr rfl) (pe_lc (own := [("state", 6)]) (g := gName 6) rfl nd (pi_range1 (by rfl) T.range (pa_cons (pe_callB call_len_seq (by rfl) T.len PySem.boot_len (pa_cons (pe_ix ix_tup (pv 0) pe_int (fun _ _ => rfl)) pa_nil)) pa_nil))
          (blkOk_by (N := nErased) (sc := C8.fnScope sErased) (by decide +kernel)) (fun _ _ _ _ _ => (pg_name (i := 6) nd rfl (Or.inl rfl))) (fun _ _ _ _ _ => pts_nil) (fun _ _ _ _ _ => C8.pe_c c1 hr (by decide) (by rfl) (pa_cons (pv 0) (pa_cons (pv 6) (pa_cons (pv 1) (pa_cons (pv 2) pa_nil)))))))
      (pss_cons (ps_set (i := 4) nd rfl (.inl rfl) (pe_lst pa_nil))
      (pss_cons (ps_for PassesOwn.never rfl (pi_tup (pe_ix ix_tup (pv 0) pe_int (fun _ _ => rfl))) (pg_name (i := 5) nd rfl (Or.inl rfl))
        (pss_one (ps_expr (pe_bm PySem.F.plainAttrs_list PySem.F.slot_list_append PySem.F.type_list_append mt_append (pv 4) (pa_cons (pe_lc (own := [("action", 7), ("goal", 8)]) (g := gTup K 2 (gCons (gName 7) (gCons (gName 8) gNil))) rfl nd (pi_tup (pv 5)) (blkOk_by (N := nErased) (sc := C8.fnScope sErased) (by decide +kernel))
          (fun _ _ _ _ _ => pg_tupK rfl rfl (pgs_cons (pg_name (i := 7) nd rfl (Or.inl rfl)) (pgs_cons (pg_name (i := 8) nd rfl (Or.inl rfl)) pgs_nil))) (fun _ _ _ _ _ => pts_one (pt_cmpR op_eq (C8.pe_c c0 hr (by decide) (by rfl) (pa_cons (pv 7) (pa_cons (pv 1) pa_nil))) (pv 2) (nomark _))) (fun _ _ _ _ _ => pe_tup (pa_cons (pv 7) (pa_cons (pe_ix (ix_listK (K := K) rfl) (pv 3) (pv 8) (fun _ _ => rfl)) pa_nil)))) pa_nil)))))
      (pss_one (ps_ret (C8.pe_c c3 hr (by decide) (by rfl) (pa_cons (C8.pe_c c2 hr (by decide) (by rfl) (pa_cons (pe_ix ix_list (pv 3) pe_int (fun _ _ => rfl)) (pa_cons (pv 4) (pa_cons (pe_ix ix_tup (pv 0) pe_int (fun _ _ => rfl)) (pa_cons (pe_glob (v := .int 300) (by rfl) hmost ⟨_, rfl⟩) pa_nil))))) pa_nil)))))), ?_⟩
    have hT0 := hT
    obtain ⟨p, vr, ve, rfl, hp, hR, pe, rfl, hpe⟩ := hT
    obtain ⟨pr, vrs, rfl, hpr, hrs⟩ := hR
    have hrows := pd_len hrs
    have hz := sizeLine_eq
    have hrl := O.rl
    have hel := O.el
    have hpos := O.pos
    refine ⟨_, rfl, p, _, 1, _, rfl, rfl, SqT.of hp, at1, pr, _, rfl, .inr (SqT.of hpr), (vrs.length : Int), rfl, by omega, by omega, fun Rc hRc => ?_⟩
    rw [hrows]
    refine lc_range (lo := 0) (n := rows.length) (fun i H2 => Same H H2 ∧ ∃ vs rs, H2 Rc = some (.lst vs) ∧ Paired (NatsAt H2) vs rs ∧ rs.length = i ∧ ∀ (s : Nat) R, rs[s]? = some R → Asc R ∧ ∀ y, y ∈ R ↔ PM.Reach rows pp s y)
      ⟨same_new hRc, [], [], upd_same, .nil, rfl, fun s R h => by simp at h⟩ ?_ ?_
    · rintro i H2 hi ⟨s2, vs, rs, hR2, hpv, hrs2, hre⟩
      have hvl := pd_len hpv
      refine ⟨rfl, yes_if ?_⟩
      refine ⟨_, rfl, _, rfl, _, rfl, _, rfl, .ref p, rows, ends, i, pp, by rw [Int.zero_add]; rfl, hT0.mono (same_tups s2), O.wf, hi, hrl, fun H3 v R s3 hv hA hm => ?_⟩
      have hR3 := s3 _ _ hR2
      have tt := (same_tups s3).trans (tups_lst (o := .lst (vs ++ [v])) hR3)
      refine ⟨vs, hR3, by omega, same_upd (fun b o z => s3 b o (s2 b o z)) hRc, vs ++ [v], rs ++ [R], upd_same, pd_snoc (pd_mono hpv fun _ _ z => z.mono tt) (hv.mono (tups_lst hR3)), by rw [List.length_append, hrs2]; rfl, fun s R' h => ?_⟩
      by_cases hs : s < rs.length
      · exact hre s R' (get_grow' hs h)
      · have h3 := (List.getElem?_eq_some_iff.mp h).1
        rw [List.length_append, List.length_singleton] at h3
        have e : s = rs.length := by omega
        subst e
        rw [get_last] at h
        cases h
        rw [hrs2]
        exact ⟨hA, hm⟩
    rintro H1 ⟨s1, vs, reach, hR1, hpv, hrl1, hre⟩
    have hIR : IsReach rows pp reach := ⟨hrl1, hre⟩
    refine ⟨Nat.zero_le _, fun Mv hMv => ?_⟩
    have hRM : Rc ≠ Mv := ne_of_none hR1 hMv
    have hM0 := same_none s1 hMv
    have sM := same_new (o := .lst []) hMv
    refine ⟨_, rfl, p, _, 1, _, rfl, rfl, SqT.of (sM _ _ (s1 _ _ hp)), at1, pr, rfl, ⟨_, SqT.of (sM _ _ (s1 _ _ hpr))⟩, ?_⟩
    have hvl := pd_len hpv
    refine for_tup (xs := vrs) (fun i σ H2 => ∃ (ms : List V) (o5 o6 o7 o8 : Option V), σ = [some (.ref p), some (.str pp), some (.bl true), some (.ref Rc), some (.ref Mv), o5, o6, o7, o8] ∧ Same H1 H2 ∧ H2 Mv = some (.lst ms) ∧ Paired (MRowAt (rmv H2 Mv Mv)) ms (movesOf (rows.take i) pp reach))
      ⟨[], _, _, _, _, rfl, sM, upd_same, .nil⟩ (fun i σ H2 _ ⟨_, _, _, _, _, _, s2, _⟩ => SqT.of (s2 _ _ (s1 _ _ hpr))) ?_ ?_
    · rintro i x σ H2 hx ⟨ms, o5, o6, o7, o8, hσ, s2, hM2, hpm⟩
      subst hσ
      obtain ⟨row, hrow, qr, es, rfl, hqr, hes⟩ := pd_get hrs hx
      have hmem := List.mem_of_getElem? hrow
      have hrl2 := O.row _ hmem
      have hlt := O.wf.lt _ hmem
      have hil := (List.getElem?_eq_some_iff.mp hx).1
      have s02 : Same H H2 := fun b o z => s2 b o (s1 b o z)
      have hml : ms.length ≤ 1000 := by
        have := pd_len hpm
        unfold movesOf at this
        rw [List.length_map, List.length_take] at this
        omega
      refine ⟨_, rfl, .inl ⟨rfl, _, SqL.of hM2⟩, _, rfl, qr, rfl, ⟨_, SqT.of (s02 _ _ hqr)⟩, fun D hD => ?_⟩
      have hDM : Mv ≠ D := ne_of_none hM2 hD
      refine lc_tup (xs := es) (fun j H6 => Same H2 H6 ∧ ∃ xs, H6 D = some (.lst xs) ∧ xs.length ≤ j ∧ Paired (MoveAt H6) xs (((row.take j).filter fun e => cc e.1 pp).map fun e => (e.1, reach.getD e.2 []))) ⟨same_new hD, [], upd_same, Nat.le_refl _, .nil⟩ (fun j H6 _ ⟨s6, _⟩ => SqT.of (s6 _ _ (s02 _ _ hqr))) ?_ ?_
      · rintro j y H6 hy ⟨s6, xs, hD6, hxl, hpx⟩
        obtain ⟨e, he, pe, vo, rfl, hpe, hvo⟩ := pd_get hes hy
        have hel := hlt e (List.mem_of_getElem? he)
        have hec : e.2 < reach.length := by omega
        have hge : reach[e.2]? = some reach[e.2] := List.getElem?_eq_getElem hec
        have hgd : reach.getD e.2 [] = reach[e.2] := by simp [hec]
        obtain ⟨vg, hvg, hvn⟩ := pd_get2 hpv hge
        have hjr := (List.getElem?_eq_some_iff.mp he).1
        have s06 : Same H H6 := fun b o z => s6 b o (s02 b o z)
        have s16 : Same H1 H6 := fun b o z => s6 b o (s2 b o z)
        refine ⟨_, _, rfl, SqT.of (s06 _ _ hpe), rfl, _, _, rfl, _, _, rfl, rfl, ?_⟩
        refine ⟨rfl, ?_⟩
        refine ⟨_, rfl, _, rfl, vo, e.1, pp, rfl, hvo.mono (same_tups s06), _, rfl, rfl, _, rfl, ?_⟩
        have hdec : decide (V.bl (cc e.1 pp) = V.bl true) = cc e.1 pp := by cases cc e.1 pp <;> rfl
        rw [hdec, take_get he, List.filter_append]
        refine ite_b (fun hc => ?_) (fun hc => ?_)
        · refine ⟨_, rfl, _, rfl, _, rfl, Rc, _, (e.2 : Int), _, rfl, rfl, SqL.of (s16 _ _ hR1), atI_nat hvg, by show 2 ≤ sizeLine; omega, fun t2 ht2 => ?_⟩
          have sn2 := same_new (o := .tup [vo, vg]) ht2
          have t3 := tups_lst (o := .lst (xs ++ [.ref t2])) (sn2 _ _ hD6)
          have tt := (same_tups sn2).trans t3
          refine ⟨xs, sn2 _ _ hD6, by omega, same_upd (fun b o z => sn2 b o (s6 b o z)) hD, xs ++ [.ref t2], upd_same, by rw [List.length_append, List.length_singleton]; omega, ?_⟩
          have hf : [e].filter (fun e => cc e.1 pp) = [e] := by simp [hc]
          rw [hf, List.map_append]
          refine pd_snoc (pd_mono hpx fun _ _ z => z.mono tt) ⟨t2, vo, vg, rfl, t3 _ _ upd_same, (hvo.mono (same_tups s06)).mono tt, ?_⟩
          show NatsAt _ vg (reach.getD e.2 [])
          rw [hgd]
          exact (hvn.mono (same_tups s16)).mono tt
        · have hf : [e].filter (fun e => cc e.1 pp) = [] := by simp [hc]
          rw [hf, List.append_nil]
          exact ⟨s6, xs, hD6, by omega, hpx⟩
      · rintro H6 ⟨s6, xs, hD6, _, hpx⟩
        rw [pd_len hes, List.take_length] at hpx
        have hM6 := s6 _ _ hM2
        refine ⟨Mv, ms, _, rfl, rfl, hM6, by omega, ?_⟩
        refine ⟨ms ++ [.ref D], _, _, _, _, rfl, same_upd (fun b o z => s6 b o (s2 b o z)) hMv, upd_same, ?_⟩
        have e1 : movesOf (rows.take (i + 1)) pp reach = movesOf (rows.take i) pp reach ++ [(row.filter fun e => cc e.1 pp).map fun e => (e.1, reach.getD e.2 [])] := by
          unfold movesOf
          rw [take_get hrow, List.map_append]
          rfl
        rw [e1, rmv_updA]
        refine pd_snoc (pd_mono hpm fun _ _ z => z.mono (rmv_same s6)) ⟨D, xs, rfl, rmv_at hD6 (Ne.symm hDM) (Ne.symm hDM), pd_mono hpx fun v mv z => z.mono fun b ys e => rmv_at e ?_ ?_⟩
        · intro e2; rw [e2, hM6] at e; cases e
        · intro e2; rw [e2, hM6] at e; cases e
    · rintro σ H2 ⟨ms, o5, o6, o7, o8, hσ, s2, hM2, hpm⟩
      subst hσ
      rw [hrows, List.take_length] at hpm
      have s02 : Same H H2 := fun b o z => s2 b o (s1 b o z)
      have h0 : 0 < reach.length := by omega
      have hg0 : reach[0]? = some reach[0] := List.getElem?_eq_getElem h0
      generalize reach[0] = start at hg0
      obtain ⟨v0, hv0, hn0⟩ := pd_get2 hpv hg0
      obtain ⟨F, hFam, hFl⟩ := hF reach start hIR hg0
      have hmem : ∀ row ∈ movesOf rows pp reach, ∀ m ∈ row, m.1 ∈ L ∧ ∀ x ∈ m.2, x < rows.length := fun row hr m hm => by
        obtain ⟨row', h1, e1⟩ := List.mem_map.mp hr
        subst e1
        obtain ⟨e, h2, e2⟩ := List.mem_map.mp hm
        subst e2
        have h3 := (List.mem_filter.mp h2).1
        have hlt := O.wf.lt row' h1 e h3
        refine ⟨O.act row' h1 e h3, fun x hx => ?_⟩
        have := (reach_getD hIR hlt).2 x
        exact Reach.lt O.wf hlt (this.mp hx)
      have hmlen : (movesOf rows pp reach).length = rows.length := by unfold movesOf; rw [List.length_map]
      obtain ⟨hsA, hsM⟩ := hre 0 start hg0
      refine ⟨_, rfl, Rc, vs, 0, v0, rfl, rfl, SqL.of (s2 _ _ hR1), atI_nat (j := 0) hv0, _, rfl, _, rfl, p, _, 2, _, rfl, rfl, SqT.of (s02 _ _ hp), at2, ?_⟩
      refine ⟨v0, .ref Mv, .ref pe, 300, start, movesOf rows pp reach, ends, L, F, rfl, hn0.mono (same_tups s2), ⟨Mv, ms, rfl, hM2, pd_mono hpm fun _ _ z => z.mono rmv_le⟩, ⟨pe, rfl, .inr (s02 _ _ hpe)⟩,
        ⟨O.ll, by omega, fun row hr m hm => (hmem row hr m hm).1, fun row hr m hm x hx => by have := (hmem row hr m hm).2 x hx; omega⟩, fun x hx => by rw [hmlen]; exact Reach.lt O.wf hpos ((hsM x).mp hx), fun row hr m hm x hx => by rw [hmlen]; exact (hmem row hr m hm).2 x hx, by omega, hFam, hsA, hFl, by omega, ?_⟩
      intro H3 v order rows3 ends3 s3 hT3 ST hel3 hol3
      have hpos3 : 0 < rows3.length := by
        rw [ST.len]
        exact (List.getElem?_eq_some_iff.mp ST.start).1
      refine ⟨v, rows3, ends3, L, rfl, hT3, ⟨ST.wf, hpos3, by have := ST.len; omega, hel3, O.ll, fun row hr e he => ?_⟩, ?_⟩
      · obtain ⟨i, hi⟩ := List.getElem?_of_mem hr
        have hi2 : i < order.length := by rw [← ST.len]; exact (List.getElem?_eq_some_iff.mp hi).1
        obtain ⟨G, _, hG⟩ := ST.out i _ row (List.getElem?_eq_getElem hi2) hi e he
        obtain ⟨n, _, mrow, h1, g, h2⟩ := hG.has
        exact (hmem mrow (List.mem_of_getElem? h1) _ h2).1
      · intro H4 v' rows4 ends4 s4 hT4 W4 hp4 hrun
        exact k H4 v' rows4 ends4 (fun b o z => s4 b o (s3 b o (s02 b o z))) hT4 W4 hp4 fun w => (hrun w).trans (sub_run O.wf hIR hg0 ST w)

/-! ### machine_of -/
abbrev sMachine : Stmt := top 18
def spMachine : Sp := fun vs H Q _ => ∃ (vt : V) (p : Str) (rows : Rows Str) (ends : List Bool) (L : List A3), vs = [vt, .str p] ∧ TabAt H vt rows ends ∧ TOk rows ends L ∧
  (∀ reach start, IsReach rows p reach → reach[0]? = some start → ∃ F, Fam (movesOf rows p reach) start F ∧ F.length ≤ 300) ∧
  ∀ (H' : Hp) (v : V) (rows' : Rows Str) (ends' : List Bool), Same H H' → TabAt H' v rows' ends' → WF rows' → 0 < rows'.length → (∀ w, IsRun rows' w ↔ ∃ r, IsRun rows r ∧ view r p = w) → Q v H'
theorem scMachine : FnScope ["table", "party"] ["table", "party"] (C8.fnScope sMachine) := C8.fnScope_by (by decide +kernel)
theorem cal_machine {f : Addr} {fd : FuncData} (D : C8.Def K mg "machine_of" sMachine f fd) (b : Binds K fd ["table", "party"] []) (c1 : C8.Cal P w K mg base 4 "erased" spErased []) : C8.Cal P w K mg base 5 "machine_of" spMachine [] := by
  have nd := scMachine.nd
  refine C8.cal0 D b .nil scMachine (fun vs H Q E h => ?_) (fun cdv A outer s0 H vs Q E hr h => ?_)
  · obtain ⟨vt, p, rows, ends, L, rfl, _⟩ := h
    rfl
  · obtain ⟨vt, pp, rows, ends, L, rfl, hT, O, hF, k⟩ := h
    refine ⟨_, pss_one (ps_ret (C8.pe_c c1 hr (by decide) (by rfl) (pa_cons (pv 0) (pa_cons (pv 1) (pa_cons pe_bl pa_nil))))), ?_⟩
    exact ⟨_, rfl, _, rfl, vt, pp, rows, ends, L, rfl, hT, O, hF, k⟩

/-! ### fits -/
abbrev sFits : Stmt := top 19
abbrev nFits : List Str := ["table", "actions", "parties", "action", "party"]
def spFits : Sp := fun vs H Q _ => ∃ (vt : V) (la : Addr) (xs : List V) (rows : Rows Str) (ends : List Bool) (L : List A3) (Ps : List Str) (w : List A3), vs = [vt, .ref la] ∧ TabAt H vt rows ends ∧ TOk rows ends L ∧ Acc rows ∧ Ps.length ≤ 1000 ∧ (∀ x, PartOf rows.flatten x → x ∈ Ps) ∧
  (∀ p, PartOf rows.flatten p → ∀ reach start, IsReach rows p reach → reach[0]? = some start → ∃ F, Fam (movesOf rows p reach) start F ∧ F.length ≤ 300) ∧ H la = some (.lst xs) ∧ Paired (ActAt H) xs w ∧ w.length ≤ 1000 ∧
  ∀ (H' : Hp) (b : Bool), Same H H' → (b = true ↔ IsRun rows w) → Q (.bl b) H'
theorem scFits : FnScope nFits ["table", "actions"] (C8.fnScope sFits) := C8.fnScope_by (by decide +kernel)
theorem inV_strs (x : Str) (ps : List Str) : inV (.str x) (ps.map V.str) = decide (x ∈ ps) := by
  induction ps with
  | nil => rfl
  | cons y ps ih =>
    show (y == x || inV (.str x) (ps.map V.str)) = _
    rw [ih, Bool.eq_iff_iff]
    simp only [Bool.or_eq_true, beq_iff_eq, decide_eq_true_eq, List.mem_cons]
    constructor
    · rintro (h | h)
      · exact .inl h.symm
      · exact .inr h
    · rintro (h | h)
      · exact .inl h.symm
      · exact .inr h
theorem flat_strs (ps : List Str) : (ps.map V.str).all flatV = true := by
  rw [List.all_map]
  exact List.all_eq_true.mpr fun _ _ => rfl
theorem cal_fits {f : Addr} {fd : FuncData} (D : C8.Def K mg "fits" sFits f fd) (b : Binds K fd ["table", "actions"] []) (c1 : C8.Cal P w K mg base 1 "parties_of" spParties []) (c2 : C8.Cal P w K mg base 2 "walk" spWalk []) (c3 : C8.Cal P w K mg base 5 "machine_of" spMachine []) (c4 : C8.Cal P w K mg base 2 "view" spView []) :
    C8.Cal P w K mg base 6 "fits" spFits [] := by
  have nd := scFits.nd
  refine C8.cal0 D b .nil scFits (fun vs H Q E h => ?_) (fun cdv A outer s0 H vs Q E hr h => ?_)
  · obtain ⟨vt, la, xs, rows, ends, L, Ps, w, rfl, _⟩ := h
    rfl
  · obtain ⟨vt, la, xs, rows, ends, L, Ps, w, rfl, hT, O, hAcc, hPs, hPL, hF, hla, hw, hwl, k⟩ := h
    refine ⟨_, pss_cons (ps_set (i := 2) nd rfl (.inl rfl) (C8.pe_c c1 hr (by decide) (by rfl) (pa_cons (pv 0) pa_nil)))
      (pss_cons (ps_for PassesOwn.never rfl (pi_list (pv 1)) (pg_name (i := 3) nd rfl (Or.inl rfl)) (pss_one (ps_if (PW.pt (pw_or (pt_cmpR op_notIn_seq (pe_ix ix_tup (pv 3) pe_int (fun _ _ => rfl)) (pv 2) (by rfl)) (pw_or1 (pt_cmpR op_notIn_seq (pe_ix ix_tup (pv 3) pe_int (fun _ _ => rfl)) (pv 2) (by rfl))))) (pss_one (ps_ret pe_bl)) pss_nil)))
      (pss_cons (ps_for PassesOwn.never rfl (pi_list (pv 2)) (pg_name (i := 4) nd rfl (Or.inl rfl)) (pss_one (ps_if (pt_cmpR op_isN (C8.pe_c c2 hr (by decide) (by rfl) (pa_cons (C8.pe_c c3 hr (by decide) (by rfl) (pa_cons (pv 0) (pa_cons (pv 4) pa_nil))) (pa_cons (C8.pe_c c4 hr (by decide) (by rfl) (pa_cons (pv 1) (pa_cons (pv 4) pa_nil))) pa_nil))) pe_non (nomark _))
        (pss_one (ps_ret pe_bl)) pss_nil)))
      (pss_one (ps_ret pe_bl)))), ?_⟩
    refine ⟨_, rfl, vt, rows, ends, Ps, rfl, hT, hPs, hPL, fun H1 q ps s1 hq0 hq hps => ?_⟩
    have hwx := pd_len hw
    have runs : IsRun rows w → ∀ a ∈ w, a.1 ∈ ps ∧ a.2.1 ∈ ps := fun ⟨t, ht⟩ a ha => by
      obtain ⟨row, h1, g, h2⟩ := run_step_mem ht a ha
      have hm : (a, g) ∈ rows.flatten := List.mem_flatten.mpr ⟨row, h1, h2⟩
      exact ⟨(hps _).mpr ⟨_, hm, .inl rfl⟩, (hps _).mpr ⟨_, hm, .inr rfl⟩⟩
    have nofit : ∀ a ∈ w, ¬ (a.1 ∈ ps ∧ a.2.1 ∈ ps) → (false = true ↔ IsRun rows w) := fun a ha hn => ⟨fun h => Bool.noConfusion h, fun h => absurd (runs h a ha) hn⟩
    refine ⟨_, rfl, la, rfl, ⟨_, SqL.of (s1 _ _ hla)⟩, ?_⟩
    refine for_list (xs := xs) (fun i σ H2 => H2 = H1 ∧ (∃ o3 o4, σ = [some vt, some (.ref la), some (.ref q), o3, o4]) ∧ ∀ a ∈ w.take i, a.1 ∈ ps ∧ a.2.1 ∈ ps) ⟨rfl, ⟨_, _, rfl⟩, by simp⟩ (fun i σ H2 _ ⟨e, _⟩ => by rw [e]; exact SqL.of (s1 _ _ hla)) ?_ ?_
    · rintro i x σ H2 hx ⟨e, ⟨o3, o4, hσ⟩, hall⟩
      subst e hσ
      obtain ⟨a, ha, pa, rfl, hpa⟩ := pd_get hw hx
      have ham := List.mem_of_getElem? ha
      refine ⟨_, rfl, pa, _, 0, _, rfl, rfl, SqT.of (s1 _ _ hpa), at0, _, rfl, q, _, rfl, .inl (SqL.of hq), rfl, flat_strs ps, _, rfl, ?_⟩
      rw [if_pos rfl, inV_strs]
      refine ite_b (fun h1 => ?_) (fun h1 => ?_)
      · refine iteT ?_
        exact k H2 false s1 (nofit a ham fun h => by simp [h.1] at h1)
      · refine ⟨_, rfl, pa, _, 1, _, rfl, rfl, SqT.of (s1 _ _ hpa), at1, _, rfl, q, _, rfl, .inl (SqL.of hq), rfl, flat_strs ps, _, rfl, ?_⟩
        rw [if_pos rfl, inV_strs]
        refine ite_b (fun h2 => ?_) (fun h2 => ?_)
        · exact k H2 false s1 (nofit a ham fun h => by simp [h.2] at h2)
        · refine ⟨rfl, ⟨_, _, rfl⟩, fun z hz => ?_⟩
          rcases take_mem ha hz with h | h
          · exact hall z h
          · subst h
            exact ⟨by simpa using h1, by simpa using h2⟩
    · rintro σ H2 ⟨e, ⟨o3, o4, hσ⟩, hall⟩
      subst e hσ
      rw [hwx, List.take_length] at hall
      refine ⟨_, rfl, q, rfl, ⟨_, SqL.of hq⟩, ?_⟩
      refine for_list (xs := ps.map V.str) (fun i σ H3 => Same H2 H3 ∧ (∃ o3 o4, σ = [some vt, some (.ref la), some (.ref q), o3, o4]) ∧ ∀ p ∈ ps.take i, ∃ r, IsRun rows r ∧ view r p = view w p) ⟨Same.refl _, ⟨_, _, rfl⟩, by simp⟩ (fun i σ H3 _ ⟨s3, _⟩ => SqL.of (s3 _ _ hq)) ?_ ?_
      · rintro i x σ H3 hx ⟨s3, ⟨o3, o4, hσ⟩, hvw⟩
        subst hσ
        obtain ⟨p, hp, rfl⟩ : ∃ p, ps[i]? = some p ∧ x = .str p := by
          rw [List.getElem?_map] at hx
          cases z : ps[i]? with
          | none => rw [z] at hx; cases hx
          | some n => rw [z] at hx; exact ⟨n, rfl, (Option.some.inj hx).symm⟩
        have s03 : Same H H3 := fun b o z => s3 b o (s1 b o z)
        refine ⟨_, rfl, _, rfl, vt, p, rows, ends, L, rfl, hT.mono (same_tups s03), O, hF p ((hps p).mp (List.mem_of_getElem? hp)), fun H4 v rows4 ends4 s4 hT4 W4 hp4 hrun => ?_⟩
        have s04 : Same H H4 := fun b o z => s4 b o (s03 b o z)
        refine ⟨_, rfl, _, rfl, la, xs, w, p, rfl, s04 _ _ hla, pd_mono hw fun _ _ z => z.mono (same_tups s04), hwl, fun H5 ql ys s5 hql hql5 hys => ?_⟩
        refine ⟨v, ql, ys, rows4, ends4, view w p, rfl, hT4.mono (same_tups s5), W4, hp4, hql5, hys, ?_⟩
        have s05 : Same H H5 := fun b o z => s5 b o (s04 b o z)
        cases hwk : walkT rows4 0 (view w p) with
        | none =>
          refine ⟨rfl, _, rfl, ?_⟩
          refine iteT ?_
          refine k H5 false s05 ⟨fun h => Bool.noConfusion h, fun h => ?_⟩
          obtain ⟨t, ht⟩ := (hrun (view w p)).mpr ⟨w, h, rfl⟩
          rw [hwk] at ht
          cases ht
        | some t =>
          refine ⟨rfl, _, rfl, ?_⟩
          refine iteF ?_
          refine ⟨fun b o z => s5 b o (s4 b o (s3 b o z)), ⟨_, _, rfl⟩, fun p' hp' => ?_⟩
          rcases take_mem hp hp' with h | h
          · exact hvw p' h
          · subst h
            exact (hrun _).mp ⟨t, hwk⟩
      · rintro σ H3 ⟨s3, ⟨o3, o4, hσ⟩, hvw⟩
        subst hσ
        rw [List.length_map, List.take_length] at hvw
        exact k H3 true (fun b o z => s3 b o (s1 b o z)) ⟨fun _ => fits_run hAcc hall hvw, fun _ => rfl⟩
end
end Pk
/-! The script's state and a draw. -/
namespace Pk
open PySem L2 PM
abbrev stL (sc : Addr) (pos cell left : Int) (big : Bool) : HO := .lst [.ref sc, .int pos, .int cell, .int left, .bl big, .int 500]
/-- the state stands -/
def SAt (H : Hp) (S sc : Addr) (ns : List Int) : Prop := S ≠ sc ∧ H sc = some (.lst (ns.map V.int)) ∧ ∃ pos cell left big, 0 ≤ pos ∧ H S = some (stL sc pos cell left big)
/-- all but the state stands as before -/
def Ex (S : Addr) (H H' : Hp) : Prop := ∀ b o, b ≠ S → H b = some o → H' b = some o
theorem Ex.refl (S : Addr) (H : Hp) : Ex S H H := fun _ _ _ h => h
theorem Ex.trans {S : Addr} {H H1 H2 : Hp} (a : Ex S H H1) (b : Ex S H1 H2) : Ex S H H2 := fun c o n h => b c o n (a c o n h)
theorem ex_same {S : Addr} {H H1 : Hp} (s : Same H H1) : Ex S H H1 := fun b o _ h => s b o h
theorem ex_upd {S : Addr} {H : Hp} {o : HO} : Ex S H (upd H S o) := fun b u n h => (upd_ne n).trans h
theorem ex_tups {S sc : Addr} {ns : List Int} {H H1 : Hp} (h : SAt H S sc ns) (e : Ex S H H1) : Tups H H1 := fun b xs z => by
  refine e b _ (fun q => ?_) z
  obtain ⟨_, _, p, c, l, g, _, hs⟩ := h
  rw [q, hs] at z
  cases z
theorem SAt.same {S sc : Addr} {ns : List Int} {H H1 : Hp} (h : SAt H S sc ns) (s : Same H H1) : SAt H1 S sc ns := by
  obtain ⟨a, b, p, c, l, g, q, hs⟩ := h
  exact ⟨a, s _ _ b, p, c, l, g, q, s _ _ hs⟩
theorem SAt.lst {S sc : Addr} {ns : List Int} {H : Hp} (h : SAt H S sc ns) : ∃ xs, H S = some (.lst xs) := by
  obtain ⟨_, _, p, c, l, g, _, hs⟩ := h
  exact ⟨_, hs⟩
theorem SAt.ne {S sc : Addr} {ns : List Int} {H : Hp} (h : SAt H S sc ns) {b : Addr} {o : HO} (hb : H b = some o) (ho : ∀ xs, o ≠ .lst xs) : b ≠ S := fun e => by
  obtain ⟨xs, z⟩ := h.lst
  rw [e, z] at hb
  exact ho xs (Option.some.inj hb).symm
/-- something else is written -/
theorem SAt.upd {S sc : Addr} {ns : List Int} {H : Hp} (h : SAt H S sc ns) {b : Addr} {o : HO} (h1 : b ≠ S) (h2 : b ≠ sc) : SAt (upd H b o) S sc ns := by
  obtain ⟨a, c, p, q, l, g, r, hs⟩ := h
  exact ⟨a, (upd_ne (Ne.symm h2)).trans c, p, q, l, g, r, (upd_ne (Ne.symm h1)).trans hs⟩
/-- the state's own list, all else as in H -/
def DSt (H : Hp) (S sc : Addr) (lim : Int) (σ : L2.St) (H1 : Hp) : Prop := ∃ (o2 o3 o4 : Option V) (pos cell left : Int) (big : Bool), σ = [some (.ref S), some (.int lim), o2, o3, o4] ∧ 0 ≤ pos ∧ H1 S = some (stL sc pos cell left big) ∧ ∀ b, b ≠ S → H1 b = H b
theorem fr_upd {H H1 : Hp} {S : Addr} {o : HO} (h : ∀ b, b ≠ S → H1 b = H b) : ∀ b, b ≠ S → upd H1 S o b = H b := fun b n => (upd_ne n).trans (h b n)
section
variable {P : Program} {w : World} {K : PySem.W.Frag} {mg : Str → Option Value} {base : Heap}
/-! ### _law_draw -/
abbrev sDraw : Stmt := top 22
abbrev nDraw : List Str := ["_law_state_here", "_law_limit", "_law_cell", "_law_digit", "_law_mixed"]
def spDraw : Sp := fun vs H Q _ => ∃ (S sc : Addr) (ns : List Int) (lim : Int), vs = [.ref S, .int lim] ∧ SAt H S sc ns ∧ ns.length ≤ 1000 ∧ 0 < lim ∧ lim < 1073741824 ∧
  ∀ (H' : Hp) (d : Nat), (∀ b, b ≠ S → H' b = H b) → SAt H' S sc ns → (d : Int) < lim → Q (nV d) H'
theorem scDraw : FnScope nDraw ["_law_state_here", "_law_limit"] (C8.fnScope sDraw) := C8.fnScope_by (by decide +kernel)
theorem cal_draw {f : Addr} {fd : FuncData} (D : C8.Def K mg "_law_draw" sDraw f fd) (b : Binds K fd ["_law_state_here", "_law_limit"] []) (T : Tx mg) : C8.Cal P w K mg base 1 "_law_draw" spDraw [] := by
  have nd := scDraw.nd
  refine C8.cal0 D b .nil scDraw (fun vs H Q E h => ?_) (fun cdv A outer s0 H vs Q E hr h => ?_)
  · obtain ⟨S, sc, ns, lim, rfl, _⟩ := h
    rfl
  · obtain ⟨S, sc, ns, lim, rfl, hS, hns, hl0, hl1, k⟩ := h
    refine ⟨_, pss_cons (ps_if (pt_cmpR op_eq (pe_ix ix_list (pv 0) pe_int (fun _ _ => rfl)) pe_int (nomark _))
        (pss_cons (ps_if (pt_cmpR op_ge (pe_ix ix_list (pv 0) pe_int (fun _ _ => rfl)) (pe_callB call_len_seq (by rfl) T.len PySem.boot_len (pa_cons (pe_ix ix_list (pv 0) pe_int (fun _ _ => rfl)) pa_nil)) (nomark _)) (pss_one (ps_ret pe_int)) pss_nil)
        (pss_cons (ps_set (i := 2) nd rfl (.inl rfl) (pe_ix ix_list (pe_ix ix_list (pv 0) pe_int (fun _ _ => rfl)) (pe_ix ix_list (pv 0) pe_int (fun _ _ => rfl)) (fun _ _ => rfl)))
        (pss_cons (ps_if (pt_cmpR op_lt (pv 2) pe_int (nomark _)) (pss_one (ps_set (i := 2) nd rfl (.inl rfl) (pe_op op_sub (pe_un un_neg pe_int) (pv 2)))) pss_nil)
        (pss_cons (ps_asg (pe_op op_add (pe_ix ix_list (pv 0) pe_int (fun _ _ => rfl)) pe_int) (pg_sub (pv 0) pe_int set_list))
        (pss_cons (ps_asg (pv 2) (pg_sub (pv 0) pe_int set_list))
        (pss_cons (ps_asg (pe_cmpR op_ge (pv 2) (pe_op op_pow pe_int pe_int) (nomark _)) (pg_sub (pv 0) pe_int set_list))
        (pss_cons (ps_asg pe_int (pg_sub (pv 0) pe_int set_list))
        (pss_one (ps_if (pt_val (pe_ix ix_list (pv 0) pe_int (fun _ _ => rfl))) (pss_one (ps_asg pe_int (pg_sub (pv 0) pe_int set_list))) pss_nil))))))))) pss_nil)
      (pss_cons (ps_asg (pe_op op_sub (pe_ix ix_list (pv 0) pe_int (fun _ _ => rfl)) pe_int) (pg_sub (pv 0) pe_int set_list))
      (pss_cons (ps_if (pt_val (pe_ix ix_list (pv 0) pe_int (fun _ _ => rfl)))
        (pss_cons (ps_set (i := 3) nd rfl (.inl rfl) (pe_op op_modN (pe_callTy call_int1 (by rfl) T.int (by decide +kernel) (pa_cons (pe_ix ix_list (pv 0) pe_int (fun _ _ => rfl)) pa_nil)) (pv 1)))
        (pss_cons (ps_asg (pe_op op_fdivN (pe_ix ix_list (pv 0) pe_int (fun _ _ => rfl)) (pv 1)) (pg_sub (pv 0) pe_int set_list))
        (pss_cons (ps_if (pt_cmpR op_eq (pe_ix ix_list (pv 0) pe_int (fun _ _ => rfl)) pe_int (nomark _)) (pss_one (ps_asg pe_int (pg_sub (pv 0) pe_int set_list))) pss_nil)
        (pss_one (ps_ret (pv 3)))))) pss_nil)
      (pss_cons (ps_set (i := 4) nd rfl (.inl rfl) (pe_op op_modN (pe_callTy call_int1 (by rfl) T.int (by decide +kernel) (pa_cons (pe_op op_add (pe_op op_add (pe_op op_mul (pe_ix ix_list (pv 0) pe_int (fun _ _ => rfl)) pe_int) (pe_op op_mul (pe_ix ix_list (pv 0) pe_int (fun _ _ => rfl)) pe_int)) pe_int) pa_nil)) pe_int))
      (pss_cons (ps_set (i := 4) nd rfl (.inl rfl) (pe_op op_modN (pe_callTy call_int1 (by rfl) T.int (by decide +kernel) (pa_cons (pe_op op_add (pe_op op_add (pe_op op_mul (pv 4) (pv 4)) (pe_op op_mul (pe_ix ix_list (pv 0) pe_int (fun _ _ => rfl)) pe_int)) (pe_ix ix_list (pv 0) pe_int (fun _ _ => rfl))) pa_nil)) pe_int))
      (pss_one (ps_ret (pe_op op_modN (pe_callTy call_int1 (by rfl) T.int (by decide +kernel) (pa_cons (pv 4) pa_nil)) (pv 1))))))))
      , ?_⟩
    obtain ⟨hSc, hsc, pos, cell, left, big, hpos, hs⟩ := hS
    have hSA : ∀ {H1 : Hp} {pos cell left : Int} {big : Bool}, 0 ≤ pos → H1 S = some (stL sc pos cell left big) → (∀ b, b ≠ S → H1 b = H b) → SAt H1 S sc ns := fun h1 h2 h3 => ⟨hSc, (h3 sc (Ne.symm hSc)).trans hsc, _, _, _, _, h1, h2⟩
    have hk : ∀ {H1 : Hp} {pos cell left d : Int} {big : Bool}, 0 ≤ pos → H1 S = some (stL sc pos cell left big) → (∀ b, b ≠ S → H1 b = H b) → 0 ≤ d → d < lim → Q (.int d) H1 := fun h1 h2 h3 h4 h5 => by
      obtain ⟨n, rfl⟩ := Int.eq_ofNat_of_zero_le h4
      exact k _ n h3 (hSA h1 h2 h3) h5
    refine ⟨_, rfl, S, _, 3, _, rfl, rfl, SqL.of hs, at3, rfl, _, rfl, ?_⟩
    refine join (C := DSt H S sc lim) ?_ (fun h0 hC => ?_) (fun _ => ⟨_, _, _, pos, cell, left, big, rfl, hpos, hs, fun _ _ => rfl⟩)
    · clear hs hpos pos cell left big
      rintro σ H1 ⟨o2, o3, o4, pos, cell, left, big, hσ, hpos, hs, hf⟩
      subst hσ
      refine ⟨_, rfl, S, _, 3, _, rfl, rfl, SqL.of hs, at3, _, _, rfl, rfl, ?_⟩
      refine ⟨_, rfl, S, _, 3, 3, rfl, rfl, hs, rfl, ?_⟩
      have hs1 : upd H1 S (.lst ([.ref sc, .int pos, .int cell, .int left, .bl big, .int 500].set 3 (.int (left - 1)))) S = some (stL sc pos cell (left - 1) big) := upd_same
      have hf1 := fr_upd (o := .lst ([.ref sc, .int pos, .int cell, .int left, .bl big, .int 500].set 3 (.int (left - 1)))) hf
      generalize upd H1 S (.lst ([.ref sc, .int pos, .int cell, .int left, .bl big, .int 500].set 3 (.int (left - 1)))) = H2 at *
      clear hf hs
      generalize left - 1 = left at *
      refine ⟨_, rfl, S, _, 4, _, rfl, rfl, SqL.of hs1, at4, _, rfl, ?_⟩
      refine ite_b (fun hb => ?_) (fun hb => ?_)
      · refine ⟨_, rfl, S, _, 2, _, rfl, rfl, SqL.of hs1, at2, .inl ⟨_, rfl, _, rfl, _, _, rfl, rfl, by omega, ?_⟩⟩
        have hd0 : 0 ≤ cell.fmod lim := Int.fmod_nonneg_of_pos _ hl0
        have hd1 : cell.fmod lim < lim := Int.fmod_lt_of_pos _ hl0
        dsimp only
        generalize cell.fmod lim = dd at hd0 hd1 ⊢
        refine ⟨_, rfl, S, _, 2, _, rfl, rfl, SqL.of hs1, at2, _, rfl, _, _, rfl, rfl, ⟨by omega, by omega⟩, _, rfl, S, _, 2, 2, rfl, rfl, hs1, rfl, ?_⟩
        dsimp only
        generalize cell.fdiv lim = cell2
        have hs2 : upd H2 S (.lst ([.ref sc, .int pos, .int cell, .int left, .bl big, .int 500].set 2 (.int cell2))) S = some (stL sc pos cell2 left big) := upd_same
        have hf2 := fr_upd (o := .lst ([.ref sc, .int pos, .int cell, .int left, .bl big, .int 500].set 2 (.int cell2))) hf1
        generalize upd H2 S (.lst ([.ref sc, .int pos, .int cell, .int left, .bl big, .int 500].set 2 (.int cell2))) = H3 at *
        refine ⟨_, rfl, S, _, 2, _, rfl, rfl, SqL.of hs2, at2, rfl, _, rfl, ?_⟩
        refine join (C := fun σ H4 => σ = [some (.ref S), some (.int lim), o2, some (.int dd), o4] ∧ ∃ left, H4 S = some (stL sc pos cell2 left big) ∧ ∀ b, b ≠ S → H4 b = H b) ?_ (fun _ hC => ?_) (fun _ => ⟨rfl, left, hs2, hf2⟩)
        · rintro σ H4 ⟨hσ, left, h4, hf4⟩
          subst hσ
          exact ⟨_, rfl, hk hpos h4 hf4 hd0 hd1⟩
        · exact ⟨_, rfl, S, _, 3, 3, rfl, rfl, hs2, rfl, hC _ _ ⟨rfl, 0, upd_same, fr_upd hf2⟩⟩
      · refine ⟨_, rfl, S, _, 2, _, rfl, rfl, SqL.of hs1, at2, _, _, rfl, rfl, .inr (by decide), ?_⟩
        refine ⟨_, rfl, S, _, 3, _, rfl, rfl, SqL.of hs1, at3, _, _, rfl, rfl, .inr (by decide), ?_⟩
        refine ⟨_, _, rfl, rfl, _, _, rfl, rfl, .inl ⟨_, rfl, _, _, rfl, rfl, by show (2147483647 : Int) ≠ 0; decide, ?_⟩⟩
        dsimp only
        have hm0 := Int.fmod_nonneg_of_pos (cell * 48271 + left * 69621 + 7) (show (0 : Int) < 2147483647 by decide)
        have hm1 := Int.fmod_lt_of_pos (cell * 48271 + left * 69621 + 7) (show (0 : Int) < 2147483647 by decide)
        generalize (cell * 48271 + left * 69621 + 7).fmod 2147483647 = mx at hm0 hm1 ⊢
        refine ⟨_, rfl, _, rfl, _, _, rfl, rfl, .inl ⟨by omega, by omega⟩, ?_⟩
        refine ⟨_, rfl, S, _, 2, _, rfl, rfl, SqL.of hs1, at2, _, _, rfl, rfl, .inr (by decide), ?_⟩
        refine ⟨_, _, rfl, rfl, _, rfl, S, _, 3, _, rfl, rfl, SqL.of hs1, at3, _, _, rfl, rfl, .inl ⟨_, rfl, _, _, rfl, rfl, by show (1000003 : Int) ≠ 0; decide, ?_⟩⟩
        dsimp only
        generalize (mx * mx + cell * 31 + left).fmod 1000003 = my
        refine ⟨_, rfl, .inl ⟨_, rfl, _, rfl, _, _, rfl, rfl, by omega, ?_⟩⟩
        exact hk hpos hs1 hf1 (Int.fmod_nonneg_of_pos _ hl0) (Int.fmod_lt_of_pos _ hl0)
    · have hsq := SqL.of (K := K) hs
      refine ⟨_, rfl, S, _, 1, _, rfl, rfl, SqL.of hs, at1, _, rfl, S, _, 0, _, rfl, rfl, SqL.of hs, at0, sc, _, rfl, .inl (SqL.of hsc), _, _, rfl, rfl, _, rfl, ?_⟩
      refine ite_b (fun hge => ?_) (fun hlt => ?_)
      · exact hk hpos hs (fun _ _ => rfl) (Int.le_refl 0) hl0
      · have hlt := of_decide_eq_false hlt
        rw [List.length_map] at hlt
        obtain ⟨pn, rfl⟩ := Int.eq_ofNat_of_zero_le hpos
        have hpl : pn < ns.length := by omega
        have hat : (ns.map V.int)[pn]? = some (.int ns[pn]) := by simp [hpl]
        generalize ns[pn] = cell0 at hat
        refine ⟨_, rfl, S, _, 0, _, rfl, rfl, SqL.of hs, at0, _, rfl, S, _, 1, _, rfl, rfl, SqL.of hs, at1, sc, _, (pn : Int), _, rfl, rfl, SqL.of hsc, atI_nat hat, ?_⟩
        refine ⟨_, rfl, _, _, rfl, rfl, _, rfl, ?_⟩
        refine join (C := fun σ H4 => H4 = H ∧ ∃ (cl : Int) (o3 o4 : Option V), σ = [some (.ref S), some (.int lim), some (.int cl), o3, o4]) ?_ (fun _ hC => ?_) (fun _ => ⟨rfl, _, _, _, rfl⟩)
        · rintro σ H4 ⟨e, cl, o3, o4, hσ⟩
          subst e hσ
          refine ⟨_, rfl, S, _, 1, _, rfl, rfl, SqL.of hs, at1, _, _, rfl, rfl, _, rfl, S, _, 1, 1, rfl, rfl, hs, rfl, ?_⟩
          have hp2 : 0 ≤ (pn : Int) + 1 := by omega
          dsimp only
          generalize (pn : Int) + 1 = pos2 at hp2 ⊢
          refine ⟨_, rfl, _, rfl, S, _, 2, 2, rfl, rfl, upd_same, rfl, ?_⟩
          refine ⟨_, rfl, _, _, rfl, rfl, ⟨by decide, by decide, by decide⟩, _, _, rfl, rfl, ?_⟩
          dsimp only
          generalize decide ((10 : Int) ^ (18 : Int).toNat ≤ cl) = bg
          refine ⟨_, rfl, S, _, 4, 4, rfl, rfl, upd_same, rfl, ?_⟩
          refine ⟨_, rfl, S, _, 3, 3, rfl, rfl, upd_same, rfl, ?_⟩
          refine ⟨_, rfl, S, _, 4, .bl bg, rfl, rfl, SqL.of upd_same, at4, _, rfl, ?_⟩
          refine join (C := fun σ H5 => DSt H4 S sc lim σ H5) hC (fun _ hC => ?_) (fun _ => ?_)
          · exact ⟨_, rfl, S, _, 3, 3, rfl, rfl, upd_same, rfl, hC _ _ ⟨_, _, _, pos2, cl, 60, bg, rfl, hp2, upd_same, fr_upd (fr_upd (fr_upd (fr_upd (fr_upd fun _ _ => rfl))))⟩⟩
          · exact ⟨_, _, _, pos2, cl, 6, bg, rfl, hp2, upd_same, fr_upd (fr_upd (fr_upd (fr_upd fun _ _ => rfl)))⟩
        · exact ⟨_, rfl, _, rfl, _, _, rfl, rfl, hC _ _ ⟨rfl, _, _, _, rfl⟩⟩
end
end Pk
/-! Drawn names. -/
namespace Pk
open PySem L2 PM
abbrev T8 (l : List Nat) : Str := SX.S l
def NameL (l : List Nat) : Prop := l.length ≤ 14 ∧ 46 ∉ l
theorem mul_S (l : List Nat) : ∃ m, Txt.mul (T8 l) 4 = T8 m ∧ (∀ x ∈ m, x ∈ l) ∧ m.length ≤ 4 * l.length := by
  unfold Txt.mul
  rw [if_neg (by decide)]
  by_cases h : ((4 : Int) == 1 || (T8 l).length == 0) = true
  · rw [if_pos h]
    exact ⟨l, rfl, fun _ h => h, by omega⟩
  · rw [if_neg h]
    refine ⟨l ++ l ++ l ++ l, ?_, fun x hx => by simpa using hx, by simp; omega⟩
    refine TL.ext_tl ?_
    show ((List.replicate 4 (T8 l).cps).foldl (· ++ ·) #[]).toList = (l ++ l ++ l ++ l).toArray.toList
    simp [List.replicate, List.foldl]
theorem fl_len : ("abcdefghijklmnopqrstuvwxyz" : Str).cps.toList.length = 26 := by decide +kernel
theorem fl_no : 46 ∉ ("abcdefghijklmnopqrstuvwxyz" : Str).cps.toList := by decide +kernel
theorem ol_len : (("abcdefghijklmnopqrstuvwxyz" : Str) ++ ("0123456789" : Str)).cps.toList.length = 36 := by decide +kernel
theorem ol_no : 46 ∉ (("abcdefghijklmnopqrstuvwxyz" : Str) ++ ("0123456789" : Str)).cps.toList := by decide +kernel
/-- a sign of a text at a place that is in it -/
theorem sign_at {l : List Nat} {n : Nat} {i : Int} (hl : l.length = n) (h46 : 46 ∉ l) (h0 : 0 ≤ i) (h1 : i < n) : ∃ c, atI l i = some c ∧ c ≠ 46 := by
  obtain ⟨k, rfl⟩ := Int.eq_ofNat_of_zero_le h0
  have hk : k < l.length := by omega
  exact ⟨l[k], atI_nat (List.getElem?_eq_getElem hk), fun e => h46 (e ▸ List.getElem_mem hk)⟩
section
variable {P : Program} {w : World} {K : PySem.W.Frag} {mg : Str → Option Value} {base : Heap}
abbrev sName : Stmt := top 23
abbrev nName : List Str := ["_law_state_here", "_law_first", "_law_other", "_law_number", "_law_name_here", "_law_tail"]
def spName : Sp := fun vs H Q _ => ∃ (S sc : Addr) (ns : List Int), vs = [.ref S] ∧ SAt H S sc ns ∧ ns.length ≤ 1000 ∧
  ∀ (H' : Hp) (l : List Nat), Ex S H H' → SAt H' S sc ns → NameL l → Q (.str (T8 l)) H'
theorem scName : FnScope nName ["_law_state_here"] (C8.fnScope sName) := C8.fnScope_by (by decide +kernel)
theorem cal_name {f : Addr} {fd : FuncData} (D : C8.Def K mg "_law_name" sName f fd) (b : Binds K fd ["_law_state_here"] []) (T : Tx mg) (c1 : C8.Cal P w K mg base 1 "_law_draw" spDraw []) : C8.Cal P w K mg base 2 "_law_name" spName [] := by
  have nd := scName.nd
  refine C8.cal0 D b .nil scName (fun vs H Q E h => ?_) (fun cdv A outer s0 H vs Q E hr h => ?_)
  · obtain ⟨S, sc, ns, rfl, _⟩ := h
    rfl
  · obtain ⟨S, sc, ns, rfl, hS, hns, k⟩ := h
    have hz := sizeLine_eq
    have tail : ∃ t, PSs (cxOf C8.CX0 P w K mg base nName "_law_name" (C8.fnScope sName) f cdv A outer s0 H E).nox ((C8.fnBody sName).drop 6) t ∧ ∀ (l : List Nat) (H3 : Hp) (o1 o2 o3 o5 : Option V), Ex S H H3 → SAt H3 S sc ns → l.length ≤ 13 → 46 ∉ l →
        t { nx := fun _ H' => Q .non H', rt := Q } [some (.ref S), o1, o2, o3, some (.str (T8 l)), o5] H3 := by
      refine ⟨_, (pss_cons (ps_if (pt_cmpR op_in_seq (pv 4) (pe_lst (pa_cons pe_str (pa_cons pe_str (pa_cons pe_str (pa_cons pe_str (pa_cons pe_str (pa_cons pe_str pa_nil))))))) (by rfl)) (pss_one (ps_ret (pe_op op_add_str (pv 4) pe_str))) pss_nil)
      (pss_one (ps_ret (pv 4)))), fun l H3 o1 o2 o3 o5 e3 hS3 hl h46 => ?_⟩
      refine ⟨_, rfl, by show 6 ≤ sizeLine; omega, fun p hp => ?_⟩
      have sn := same_new (o := .lst [.str "pact", .str "end", .str "choice", .str "both", .str "loop", .str "use"]) hp
      refine ⟨p, _, rfl, .inl (SqL.of upd_same), rfl, rfl, _, rfl, ?_⟩
      refine ite_b (fun _ => ?_) (fun _ => ?_)
      · have e : T8 l ++ ("1" : Str) = T8 (l ++ [49]) := SX.S_cat l [49]
        refine ⟨_, rfl, _, _, rfl, rfl, by rw [SX.S_len]; show l.length + 1 ≤ _; omega, ?_⟩
        rw [e]
        exact k _ _ (e3.trans (ex_same sn)) (hS3.same sn) ⟨by rw [List.length_append, List.length_singleton]; omega, by simp [h46]⟩
      · exact ⟨_, rfl, k _ _ (e3.trans (ex_same sn)) (hS3.same sn) ⟨by omega, h46⟩⟩
    obtain ⟨tt, htt, ktt⟩ := tail
    refine ⟨_, pss_cons (ps_set (i := 1) nd rfl (.inl rfl) pe_str) (pss_cons (ps_set (i := 2) nd rfl (.inl rfl) (pe_op op_add_str (pv 1) pe_str))
      (pss_cons (ps_set (i := 3) nd rfl (.inl rfl) (C8.pe_c c1 hr (by decide) (by rfl) (pa_cons (pv 0) (pa_cons pe_int pa_nil))))
      (pss_cons (ps_set (i := 4) nd rfl (.inl rfl) (pe_ix ix_str (pv 1) (pe_op op_modN (pe_callTy call_int1 (by rfl) T.int (by decide +kernel) (pa_cons (pe_op op_fdivN (pv 3) pe_int) pa_nil)) pe_int) (fun _ _ => rfl)))
      (pss_cons (ps_set (i := 5) nd rfl (.inl rfl) (pe_op op_add_str (pe_op op_add_str (pe_ix ix_str (pv 2) (pe_op op_modN (pe_callTy call_int1 (by rfl) T.int (by decide +kernel) (pa_cons (pe_op op_fdivN (pv 3) pe_int) pa_nil)) pe_int) (fun _ _ => rfl))
          (pe_ix ix_str (pv 2) (pe_op op_modN (pe_callTy call_int1 (by rfl) T.int (by decide +kernel) (pa_cons (pe_op op_fdivN (pv 3) pe_int) pa_nil)) pe_int) (fun _ _ => rfl))) (pe_ix ix_str (pv 2) (pe_op op_modN (pe_callTy call_int1 (by rfl) T.int (by decide +kernel) (pa_cons (pv 3) pa_nil)) pe_int) (fun _ _ => rfl))))
      (pss_cons (ps_if (pt_cmpR op_eq (C8.pe_c c1 hr (by decide) (by rfl) (pa_cons (pv 0) (pa_cons pe_int pa_nil))) pe_int (nomark _))
          (pss_one (ps_set (i := 4) nd rfl (.inl rfl) (pe_slice C8.sl_txt (pe_op op_add_str (pv 4) (pe_op op_mul_str (pv 5) pe_int)) po_none (po_some (pe_op op_add pe_int (C8.pe_c c1 hr (by decide) (by rfl) (pa_cons (pv 0) (pa_cons pe_int pa_nil))))))))
          (pss_one (ps_set (i := 4) nd rfl (.inl rfl) (pe_op op_add_str (pv 4) (pe_slice C8.sl_txt (pv 5) po_none (po_some (pe_op op_modN (pe_callTy call_int1 (by rfl) T.int (by decide +kernel) (pa_cons (pv 3) pa_nil)) pe_int)))))))
      htt))))), ?_⟩
    refine ⟨_, rfl, _, _, rfl, rfl, by rw [sizeLine_eq]; decide +kernel, ?_⟩
    refine ⟨_, rfl, S, sc, ns, 134784, rfl, hS, hns, by decide, by decide, fun H1 n hf1 hS1 hn => ?_⟩
    have e1 : Ex S H H1 := fun b o nb z => (hf1 b nb).trans z
    have nn : ∀ (i : Int) (m : Int), 0 < m → 0 ≤ i.fmod m := fun i m h => Int.fmod_nonneg_of_pos _ h
    have nl : ∀ (i : Int) (m : Int), 0 < m → i.fmod m < m := fun i m h => Int.fmod_lt_of_pos _ h
    obtain ⟨a1, ha1, na1⟩ := sign_at (i := ((n : Int).fdiv 4).fmod 26) fl_len fl_no (nn _ _ (by decide)) (nl _ _ (by decide))
    obtain ⟨a2, ha2, na2⟩ := sign_at (i := ((n : Int).fdiv 104).fmod 36) ol_len ol_no (nn _ _ (by decide)) (nl _ _ (by decide))
    obtain ⟨a3, ha3, na3⟩ := sign_at (i := ((n : Int).fdiv 3744).fmod 36) ol_len ol_no (nn _ _ (by decide)) (nl _ _ (by decide))
    obtain ⟨a4, ha4, na4⟩ := sign_at (i := (n : Int).fmod 35) ol_len ol_no (nn _ _ (by decide)) (Int.lt_of_lt_of_le (nl _ _ (by decide)) (by decide))
    have l1 : ("abcdefghijklmnopqrstuvwxyz" : Str).length ≤ sizeLine := by rw [sizeLine_eq]; decide +kernel
    have l2 : (("abcdefghijklmnopqrstuvwxyz" : Str) ++ ("0123456789" : Str)).length ≤ sizeLine := by rw [sizeLine_eq]; decide +kernel
    refine ⟨_, rfl, _, rfl, _, _, rfl, rfl, ⟨by show (4 : Int) ≠ 0; decide, by show (4 : Int).natAbs < 1073741824; decide⟩, .inl ⟨_, rfl, _, _, rfl, rfl, by show (26 : Int) ≠ 0; decide, _, _, a1, rfl, rfl, l1, ha1, ?_⟩⟩
    refine ⟨_, rfl, _, rfl, _, _, rfl, rfl, ⟨by show (104 : Int) ≠ 0; decide, by show (104 : Int).natAbs < 1073741824; decide⟩, .inl ⟨_, rfl, _, _, rfl, rfl, by show (36 : Int) ≠ 0; decide, _, _, a2, rfl, rfl, l2, ha2, ?_⟩⟩
    refine ⟨_, rfl, _, rfl, _, _, rfl, rfl, ⟨by show (3744 : Int) ≠ 0; decide, by show (3744 : Int).natAbs < 1073741824; decide⟩, .inl ⟨_, rfl, _, _, rfl, rfl, by show (36 : Int) ≠ 0; decide, _, _, a3, rfl, rfl, l2, ha3, ?_⟩⟩
    refine ⟨T8 [a2], T8 [a3], rfl, rfl, by rw [SX.S_len, SX.S_len]; show 1 + 1 ≤ sizeLine; omega, ?_⟩
    rw [SX.S_cat]
    refine ⟨_, rfl, _, rfl, .inl ⟨_, rfl, _, _, rfl, rfl, by show (35 : Int) ≠ 0; decide, _, _, a4, rfl, rfl, l2, ha4, ?_⟩⟩
    refine ⟨T8 ([a2] ++ [a3]), T8 [a4], rfl, rfl, by rw [SX.S_len, SX.S_len]; show 2 + 1 ≤ sizeLine; omega, ?_⟩
    rw [SX.S_cat]
    have ht3 : ([a2] ++ [a3] ++ [a4]).length = 3 := rfl
    have ht4 : 46 ∉ [a2] ++ [a3] ++ [a4] := by simp; exact ⟨Ne.symm na2, Ne.symm na3, Ne.symm na4⟩
    generalize [a2] ++ [a3] ++ [a4] = tl at ht3 ht4 ⊢
    refine ⟨_, rfl, S, sc, ns, 9, rfl, hS1, hns, by decide, by decide, fun H2 d hf2 hS2 hd => ⟨rfl, _, rfl, ?_⟩⟩
    have e2 : Ex S H H2 := fun b o nb z => (hf2 b nb).trans (e1 b o nb z)
    refine ite_b (fun _ => ?_) (fun _ => ?_)
    · obtain ⟨m4, hm4, hm5, hm6⟩ := mul_S tl
      refine ⟨_, rfl, _, rfl, T8 tl, 4, rfl, rfl, by decide, by decide, by rw [SX.S_len]; omega, ?_⟩
      rw [hm4]
      refine ⟨T8 [a1], T8 m4, rfl, rfl, by rw [SX.S_len, SX.S_len]; show 1 + _ ≤ sizeLine; omega, ?_⟩
      rw [SX.S_cat]
      refine ⟨_, rfl, S, sc, ns, 9, rfl, hS2, hns, by decide, by decide, fun H3 d2 hf3 hS3 hd2 => ?_⟩
      have e3 : Ex S H H3 := fun b o nb z => (hf3 b nb).trans (e2 b o nb z)
      refine ⟨_, _, rfl, rfl, _, rfl, T8 ([a1] ++ m4), rfl, by rw [SX.S_len, List.length_append]; show 1 + _ ≤ sizeLine; omega, ?_⟩
      dsimp only
      rw [SX.slice_to (by omega)]
      refine ktt _ _ _ _ _ _ e3 hS3 ?_ fun h => ?_
      · rw [List.length_take]
        omega
      · have h := List.mem_of_mem_take h
        rcases List.mem_append.mp h with h | h
        · rw [List.mem_singleton] at h
          exact na1 h.symm
        · exact ht4 (hm5 _ h)
    · refine ⟨_, rfl, _, rfl, _, rfl, .inl ⟨_, rfl, _, _, rfl, rfl, by show (4 : Int) ≠ 0; decide, _, rfl, T8 tl, rfl, by rw [SX.S_len]; omega, ?_⟩⟩
      dsimp only
      rw [SX.slice_to (nn _ _ (by decide))]
      have htk : (tl.take ((n : Int).fmod 4).toNat).length ≤ 3 := by rw [List.length_take]; omega
      refine ⟨T8 [a1], T8 (tl.take ((n : Int).fmod 4).toNat), rfl, rfl, by rw [SX.S_len, SX.S_len]; show 1 + _ ≤ sizeLine; omega, ?_⟩
      rw [SX.S_cat]
      refine ktt _ _ _ _ _ _ e2 hS2 ?_ fun h => ?_
      · rw [List.length_append]
        show 1 + _ ≤ _
        omega
      · rcases List.mem_append.mp h with h | h
        · rw [List.mem_singleton] at h
          exact na1 h.symm
        · exact ht4 (List.mem_of_mem_take h)
end
end Pk
/-! Lists of drawn names. -/
namespace Pk
open PySem L2 PM
theorem ex_new {S p : Addr} {H H1 : Hp} {o : HO} (e : Ex S H H1) (h : H p = none) : Ex S H (upd H1 p o) := fun b u n z => by
  rw [upd_ne (ne_of_none z h)]
  exact e b u n z
theorem tw113 : ∀ (x r : List Nat), 113 ∉ x → (x ++ 113 :: r).takeWhile (fun c => decide (c ≠ 113)) = x
  | [], r, _ => by simp
  | a :: x, r, h => by
    have h1 : a ≠ 113 := fun e => h (by simp [e])
    have h2 : 113 ∉ x := fun e => h (List.mem_cons_of_mem _ e)
    rw [List.cons_append, List.takeWhile_cons]
    simp only [h1, ne_eq, not_false_eq_true, decide_true, if_true]
    rw [tw113 x r h2]
theorem suffix_eq {b b' x y : List Nat} (hx : 113 ∉ x) (hy : 113 ∉ y) (e : b ++ 113 :: x = b' ++ 113 :: y) : x = y := by
  have e2 := congrArg List.reverse e
  simp only [List.reverse_append, List.reverse_cons, List.append_assoc, List.singleton_append] at e2
  have h1 := tw113 x.reverse b.reverse (by simpa using hx)
  have h2 := tw113 y.reverse b'.reverse (by simpa using hy)
  rw [e2, h2] at h1
  have := congrArg List.reverse h1
  simpa using this.symm
theorem num_facts : ∀ j, j < 20 → (TL.numL j).length ≤ 2 ∧ 46 ∉ TL.numL j ∧ 113 ∉ TL.numL j ∧ Nat.log2 j < 1920 := by decide +kernel
theorem num_inj : ∀ i, i < 20 → ∀ j, j < 20 → TL.numL i = TL.numL j → i = j := by decide +kernel
def CI (ls : List (List Nat)) (i : Nat) (l : List Nat) : Prop := l ∉ ls ∨ ∃ cs : List (List Nat), cs.length = i ∧ cs.Nodup ∧ ∀ c ∈ cs, c ∈ ls ∧ ∃ b m, m < i ∧ c = b ++ 113 :: TL.numL m
theorem CI.step {ls : List (List Nat)} {i : Nat} {l b : List Nat} (h : CI ls i l) (hl : l ∈ ls) (hi : i < 20) : CI ls (i + 1) (b ++ 113 :: TL.numL i) := by
  rcases h with h | ⟨cs, h1, h2, h3⟩
  · exact absurd hl h
  · by_cases hn : b ++ 113 :: TL.numL i ∈ ls
    · refine .inr ⟨cs ++ [b ++ 113 :: TL.numL i], by rw [List.length_append, h1]; rfl, nodup_snoc h2 fun hc => ?_, fun c hc => ?_⟩
      · obtain ⟨_, b', m, hm, e⟩ := h3 _ hc
        have := num_inj i hi m (by omega) (suffix_eq (num_facts i hi).2.2.1 (num_facts m (by omega)).2.2.1 e)
        omega
      · rcases List.mem_append.mp hc with hc | hc
        · obtain ⟨g1, b', m, hm, e⟩ := h3 c hc
          exact ⟨g1, b', m, by omega, e⟩
        · rw [List.mem_singleton] at hc
          exact ⟨hc ▸ hn, b, i, by omega, hc⟩
    · exact .inl hn
theorem CI.end_ {ls : List (List Nat)} {l : List Nat} (h : CI ls 20 l) (hl : ls.length < 20) : l ∉ ls := by
  rcases h with h | ⟨cs, h1, h2, h3⟩
  · exact h
  · have := nodup_sub h2 fun c hc => (h3 c hc).1
    omega
abbrev tx (l : List Nat) : V := .str (T8 l)
theorem tx_map (ls : List (List Nat)) : ls.map tx = (ls.map T8).map V.str := by rw [List.map_map]; rfl
theorem inV_tx (l : List Nat) (ls : List (List Nat)) : inV (tx l) (ls.map tx) = decide (l ∈ ls) := by
  rw [tx_map, inV_strs, Bool.eq_iff_iff, decide_eq_true_eq, decide_eq_true_eq]
  constructor
  · intro h
    obtain ⟨m, hm, e⟩ := List.mem_map.mp h
    exact SX.S_inj e ▸ hm
  · exact fun h => List.mem_map_of_mem h
theorem flat_tx (ls : List (List Nat)) : (ls.map tx).all flatV = true := by rw [tx_map]; exact flat_strs _
section
variable {P : Program} {w : World} {K : PySem.W.Frag} {mg : Str → Option Value} {base : Heap}
abbrev sNames : Stmt := top 24
abbrev nNames : List Str := ["_law_state_here", "_law_count", "_law_taken", "_law_names_here", "_law_k", "_law_name_here", "_law_j"]
def spNames : Sp := fun vs H Q _ => ∃ (S sc Tk : Addr) (ns : List Int) (n : Nat), vs = [.ref S, nV n, .ref Tk] ∧ SAt H S sc ns ∧ ns.length ≤ 1000 ∧ Tk ≠ S ∧ H Tk = some (.lst []) ∧ n ≤ 10 ∧
  ∀ (H' : Hp) (p : Addr) (ls : List (List Nat)), Ex S H H' → SAt H' S sc ns → H p = none → H' p = some (.lst (ls.map tx)) → ls.length = n → ls.Nodup → (∀ l ∈ ls, NameL l) → Q (.ref p) H'
theorem scNames : FnScope nNames ["_law_state_here", "_law_count", "_law_taken"] (C8.fnScope sNames) := C8.fnScope_by (by decide +kernel)
theorem cal_names {f : Addr} {fd : FuncData} (D : C8.Def K mg "_law_names" sNames f fd) (b : Binds K fd ["_law_state_here", "_law_count", "_law_taken"] []) (T : Tx mg) (c1 : C8.Cal P w K mg base 2 "_law_name" spName []) : C8.Cal P w K mg base 3 "_law_names" spNames [] := by
  have nd := scNames.nd
  refine C8.cal0 D b .nil scNames (fun vs H Q E h => ?_) (fun cdv A outer s0 H vs Q E hr h => ?_)
  · obtain ⟨S, sc, Tk, ns, n, rfl, _⟩ := h
    rfl
  · obtain ⟨S, sc, Tk, ns, n, rfl, hS, hns, hTS, hTk, hn, k⟩ := h
    have hz := sizeLine_eq
    refine ⟨_, pss_cons (ps_set (i := 3) nd rfl (.inl rfl) (pe_lst pa_nil)) (pss_cons (ps_for PassesOwn.never rfl (pi_range1 (by rfl) T.range (pa_cons (pv 1) pa_nil)) (pg_name (i := 4) nd rfl (Or.inl rfl))
        (pss_cons (ps_set (i := 5) nd rfl (.inl rfl) (C8.pe_c c1 hr (by decide) (by rfl) (pa_cons (pv 0) pa_nil)))
        (pss_cons (ps_for PassesOwn.never rfl (pi_range1 (by rfl) T.range (pa_cons pe_int pa_nil)) (pg_name (i := 6) nd rfl (Or.inl rfl))
          (pss_one (ps_if (PW.pt (pw_or (pt_cmpR op_in_seq (pv 5) (pv 3) (by rfl)) (pw_or1 (pt_cmpR op_in_seq (pv 5) (pv 2) (by rfl)))))
            (pss_one (ps_set (i := 5) nd rfl (.inl rfl) (pe_op op_add_str (pe_op op_add_str (pe_slice C8.sl_txt (pv 5) po_none (po_some pe_int)) pe_str) (pe_callTy call_str_int (by rfl) T.str (by decide +kernel) (pa_cons (pv 6) pa_nil))))) pss_nil)))
        (pss_one (ps_expr (pe_bm PySem.F.plainAttrs_list PySem.F.slot_list_append PySem.F.type_list_append mt_append (pv 3) (pa_cons (pv 5) pa_nil)))))))
      (pss_one (ps_ret (pv 3)))), ?_⟩
    refine ⟨Nat.zero_le _, fun Nm hNm => ?_⟩
    have hNS : Nm ≠ S := fun e => by
      obtain ⟨xs, z⟩ := hS.lst
      rw [← e, hNm] at z
      cases z
    have hNsc : Nm ≠ sc := fun e => by
      have := hS.2.1
      rw [← e, hNm] at this
      cases this
    refine ⟨_, rfl, (n : Int), rfl, by omega, by omega, ?_⟩
    refine for_range (lo := 0) (n := n) (fun i σ H1 => ∃ (ls : List (List Nat)) (o4 o5 o6 : Option V), σ = [some (.ref S), some (nV n), some (.ref Tk), some (.ref Nm), o4, o5, o6] ∧ Ex S H H1 ∧ SAt H1 S sc ns ∧ H1 Nm = some (.lst (ls.map tx)) ∧ ls.length = i ∧ ls.Nodup ∧ ∀ l ∈ ls, NameL l)
      ⟨[], _, _, _, rfl, ex_new (Ex.refl S H) hNm, hS.upd hNS hNsc, upd_same, rfl, List.nodup_nil, (fun _ h => nomatch h)⟩ ?_ ?_
    · rintro i σ H1 hi ⟨ls, o4, o5, o6, hσ, e1, hS1, hN1, hll, hlnd, hlo⟩
      subst hσ
      refine ⟨_, rfl, S, sc, ns, rfl, hS1, hns, fun H2 l e2 hS2 hl => ?_⟩
      have hN2 := e2 _ _ hNS hN1
      have hT2 := e2 _ _ hTS (e1 _ _ hTS hTk)
      have eH2 := e1.trans e2
      refine ⟨20, rfl, by decide, by decide, ?_⟩
      refine for_range (lo := 0) (n := 20) (fun j σ H3 => H3 = H2 ∧ ∃ (l : List Nat) (o4 o6 : Option V), σ = [some (.ref S), some (nV n), some (.ref Tk), some (.ref Nm), o4, some (tx l), o6] ∧ NameL l ∧ CI ls j l) ⟨rfl, l, _, _, rfl, hl, .inr ⟨[], rfl, List.nodup_nil, (fun _ h => nomatch h)⟩⟩ ?_ ?_
      · rintro j σ H3 hj ⟨e3, l, o4, o6, hσ, hl, hc⟩
        subst hσ
        cases e3
        obtain ⟨f1, f2, f3, f4⟩ := num_facts j hj
        refine ⟨_, rfl, _, rfl, Nm, _, rfl, .inl (SqL.of hN2), rfl, flat_tx ls, _, rfl, ?_⟩
        rw [if_neg Bool.false_ne_true, inV_tx]
        refine ite_b (fun h1 => ?_) (fun h1 => ?_)
        · refine iteT ?_
          have h1 : l ∈ ls := of_decide_eq_true h1
          refine ⟨_, rfl, 9, rfl, T8 l, rfl, by rw [SX.S_len]; have := hl.1; omega, ?_⟩
          rw [SX.slice_to (by decide)]
          refine ⟨T8 (l.take 9), "q", rfl, rfl, by rw [SX.S_len, List.length_take]; show _ + 1 ≤ sizeLine; omega, ?_⟩
          have hstr : (Str.ofString (toString (0 + (j : Int)))) = T8 (TL.numL j) := by rw [Int.zero_add]; exact SX.num_S j
          have e9 : T8 (l.take 9) ++ ("q" : Str) = T8 (l.take 9 ++ [113]) := SX.S_cat (l.take 9) [113]
          have hl9 : (l.take 9).length ≤ 9 := by rw [List.length_take]; omega
          have no9 : 46 ∉ l.take 9 := fun h => hl.2 (List.mem_of_mem_take h)
          refine ⟨_, rfl, _, rfl, by rw [Int.zero_add]; exact f4, T8 (l.take 9 ++ [113]), T8 (TL.numL j), by rw [← e9], congrArg V.str hstr, by rw [SX.S_len, SX.S_len, List.length_append]; show _ + 1 + _ ≤ sizeLine; omega, ?_⟩
          rw [SX.S_cat]
          refine ⟨rfl, l.take 9 ++ [113] ++ TL.numL j, _, _, rfl, ⟨?_, ?_⟩, ?_⟩
          · rw [List.length_append, List.length_append]
            show _ + 1 + _ ≤ 14
            omega
          · intro h
            rcases List.mem_append.mp h with h | h
            · rcases List.mem_append.mp h with h | h
              · exact no9 h
              · simp at h
            · exact f2 h
          · rw [List.append_assoc]
            exact hc.step h1 hj
        · have h1 : l ∉ ls := of_decide_eq_false h1
          refine ⟨_, rfl, _, rfl, Tk, _, rfl, .inl (SqL.of hT2), rfl, rfl, _, rfl, ?_⟩
          exact ⟨rfl, l, _, _, rfl, hl, .inl h1⟩
      · rintro σ H3 ⟨e3, l, o4, o6, hσ, hl, hc⟩
        subst hσ
        cases e3
        have hn := hc.end_ (by omega)
        refine ⟨_, rfl, .inl ⟨rfl, _, SqL.of hN2⟩, _, rfl, Nm, _, _, rfl, rfl, hN2, by rw [List.length_map]; omega, ?_⟩
        refine ⟨ls ++ [l], _, _, _, rfl, ex_new eH2 hNm, hS2.upd hNS hNsc, ?_, by rw [List.length_append, hll]; rfl, nodup_snoc hlnd hn, fun z hz => ?_⟩
        · rw [upd_same, List.map_append]
          rfl
        · rcases List.mem_append.mp hz with hz | hz
          · exact hlo z hz
          · exact List.mem_singleton.mp hz ▸ hl
    · rintro σ H1 ⟨ls, o4, o5, o6, hσ, e1, hS1, hN1, hll, hlnd, hlo⟩
      subst hσ
      exact ⟨_, rfl, k H1 Nm ls e1 hS1 hNm hN1 hll hlnd hlo⟩
end
end Pk
/-! A drawn edge. -/
namespace Pk
open PySem L2 PM
def rowD (row : Row Str) : List (List Key × V) := row.map fun e => (kA e.1, nV e.2)
theorem rowD_keys (row : Row Str) : (rowD row).map (·.1) = (row.map (·.1)).map kA := by
  unfold rowD
  rw [List.map_map, List.map_map]
  rfl
structure GoodA (ps ls : List Str) (a : A3) : Prop where
  p : a.1 ∈ ps
  q : a.2.1 ∈ ps
  ne : a.1 ≠ a.2.1
  l : a.2.2 ∈ ls
def GrowR (ps ls : List Str) (goal : Nat) (row row' : Row Str) : Prop := row' = row ∨ ∃ a, a ∉ row.map (·.1) ∧ row' = row ++ [(a, goal)] ∧ GoodA ps ls a
theorem mod_ne {s d n : Nat} (hs : s < n) (hd : d + 1 < n) : (s + 1 + d) % n ≠ s := by
  by_cases h : s + 1 + d < n
  · rw [Nat.mod_eq_of_lt h]; omega
  · rw [Nat.mod_eq_sub_mod (by omega), Nat.mod_eq_of_lt (by omega)]; omega
theorem fmod_nat (m n : Nat) : Int.fmod (m : Int) (n : Int) = ((m % n : Nat) : Int) := by
  rw [Int.fmod_eq_emod_of_nonneg _ (by omega)]
  rfl
section
variable {P : Program} {w : World} {K : PySem.W.Frag} {mg : Str → Option Value} {base : Heap}
abbrev sEdge : Stmt := top 26
abbrev nEdge : List Str := ["_law_state_here", "_law_row", "_law_parties", "_law_labels", "_law_goal", "_law_sender", "_law_taker", "_law_action", "_law_label"]
def spEdge : Sp := fun vs H Q _ => ∃ (S sc D Pl Ll : Addr) (ns : List Int) (row : Row Str) (ps ls : List Str) (goal : Nat), vs = [.ref S, .ref D, .ref Pl, .ref Ll, nV goal] ∧ SAt H S sc ns ∧ ns.length ≤ 1000 ∧ H D = some (.dT (rowD row)) ∧ row.length ≤ 1000 ∧
  Pl ≠ S ∧ Ll ≠ S ∧ H Pl = some (.lst (ps.map V.str)) ∧ H Ll = some (.lst (ls.map V.str)) ∧ ps.Nodup ∧ 2 ≤ ps.length ∧ ps.length ≤ 10 ∧ 1 ≤ ls.length ∧ ls.length ≤ 10 ∧
  ∀ (H' : Hp) (row' : Row Str), (∀ b o, b ≠ S → b ≠ D → H b = some o → H' b = some o) → SAt H' S sc ns → H' D = some (.dT (rowD row')) → GrowR ps ls goal row row' → Q .non H'
theorem scEdge : FnScope nEdge ["_law_state_here", "_law_row", "_law_parties", "_law_labels", "_law_goal"] (C8.fnScope sEdge) := C8.fnScope_by (by decide +kernel)
theorem cal_edge {f : Addr} {fd : FuncData} (D : C8.Def K mg "_law_edge" sEdge f fd) (b : Binds K fd ["_law_state_here", "_law_row", "_law_parties", "_law_labels", "_law_goal"] []) (T : Tx mg) (c1 : C8.Cal P w K mg base 1 "_law_draw" spDraw []) : C8.Cal P w K mg base 2 "_law_edge" spEdge [] := by
  have nd := scEdge.nd
  refine C8.cal0 D b .nil scEdge (fun vs H Q E h => ?_) (fun cdv A outer s0 H vs Q E hr h => ?_)
  · obtain ⟨S, sc, D, Pl, Ll, ns, row, ps, ls, goal, rfl, _⟩ := h
    rfl
  · obtain ⟨S, sc, D, Pl, Ll, ns, row, ps, ls, goal, rfl, hS, hns, hD, hrl, hPS, hLS, hPl, hLl, hpn, hp2, hp10, hl1, hl10, k⟩ := h
    have hz := sizeLine_eq
    refine ⟨_, pss_cons (ps_set (i := 5) nd rfl (.inl rfl) (C8.pe_c c1 hr (by decide) (by rfl) (pa_cons (pv 0) (pa_cons (pe_callB call_len_seq (by rfl) T.len PySem.boot_len (pa_cons (pv 2) pa_nil)) pa_nil))))
      (pss_cons (ps_set (i := 6) nd rfl (.inl rfl) (pe_op op_modN (pe_callTy call_int1 (by rfl) T.int (by decide +kernel) (pa_cons (pe_op op_add (pe_op op_add (pv 5) pe_int) (C8.pe_c c1 hr (by decide) (by rfl) (pa_cons (pv 0) (pa_cons (pe_op op_sub (pe_callB call_len_seq (by rfl) T.len PySem.boot_len (pa_cons (pv 2) pa_nil)) pe_int) pa_nil)))) pa_nil))
          (pe_callB call_len_seq (by rfl) T.len PySem.boot_len (pa_cons (pv 2) pa_nil))))
      (pss_cons (ps_set (i := 7) nd rfl (.inl rfl) (pe_tup (pa_cons (pe_ix ix_list (pv 2) (pv 5) (fun _ _ => rfl)) (pa_cons (pe_ix ix_list (pv 2) (pv 6) (fun _ _ => rfl)) (pa_cons (pe_ix ix_list (pv 3) (C8.pe_c c1 hr (by decide) (by rfl) (pa_cons (pv 0) (pa_cons (pe_callB call_len_seq (by rfl) T.len PySem.boot_len (pa_cons (pv 3) pa_nil)) pa_nil))) (fun _ _ => rfl)) pa_nil)))))
      (pss_cons (ps_for PassesOwn.never rfl (pi_list (pv 3)) (pg_name (i := 8) nd rfl (Or.inl rfl)) (pss_one (ps_if (pt_cmp (pc_din (hu1 hr) (pv 7) (pv 1))) (pss_one (ps_set (i := 7) nd rfl (.inl rfl) (pe_tup (pa_cons (pe_ix ix_tup (pv 7) pe_int (fun _ _ => rfl)) (pa_cons (pe_ix ix_tup (pv 7) pe_int (fun _ _ => rfl)) (pa_cons (pv 8) pa_nil)))))) pss_nil)))
      (pss_one (ps_if (pt_cmp (pc_dnotin (hu1 hr) (pv 7) (pv 1))) (pss_one (ps_dput (hu1 hr) (pv 1) (pv 7) (pv 4) rfl)) pss_nil))))), ?_⟩
    have hDS : D ≠ S := hS.ne hD fun _ z => by cases z
    have hpl : (ps.map V.str).length = ps.length := List.length_map ..
    have hll : (ls.map V.str).length = ls.length := List.length_map ..
    refine ⟨_, rfl, _, rfl, Pl, _, rfl, .inl (SqL.of hPl), S, sc, ns, _, rfl, hS, hns, by rw [hpl]; omega, by rw [hpl]; omega, fun H1 s hf1 hS1 hs => ?_⟩
    rw [hpl] at hs
    have e1 : Ex S H H1 := fun b o nb z => (hf1 b nb).trans z
    refine ⟨_, rfl, _, _, rfl, rfl, _, rfl, _, rfl, Pl, _, rfl, .inl (SqL.of (e1 _ _ hPS hPl)), _, _, rfl, rfl, S, sc, ns, _, rfl, hS1, hns, by rw [hpl]; omega, by rw [hpl]; omega, fun H2 d hf2 hS2 hd => ?_⟩
    rw [hpl] at hd
    have e2 : Ex S H H2 := fun b o nb z => (hf2 b nb).trans (e1 b o nb z)
    refine ⟨_, _, rfl, rfl, .inl ⟨_, rfl, _, rfl, Pl, _, rfl, .inl (SqL.of (e2 _ _ hPS hPl)), _, _, rfl, rfl, by show ((ps.map V.str).length : Int) ≠ 0; rw [hpl]; omega, ?_⟩⟩
    have et : ((s : Int) + 1 + (d : Int)).fmod ((ps.map V.str).length : Nat) = (((s + 1 + d) % ps.length : Nat) : Int) := by
      rw [hpl, ← fmod_nat]
      rfl
    have htl : (s + 1 + d) % ps.length < ps.length := Nat.mod_lt _ (by omega)
    have hts : (s + 1 + d) % ps.length ≠ s := mod_ne (by omega) (by omega)
    dsimp only
    rw [et]
    generalize (s + 1 + d) % ps.length = t at htl hts ⊢
    have hsl : s < ps.length := by omega
    have hs1 : (ps.map V.str)[s]? = some (.str ps[s]) := by simp [hsl]
    have ht1 : (ps.map V.str)[t]? = some (.str ps[t]) := by simp [htl]
    have hne : ps[s] ≠ ps[t] := fun e => hts ((List.getElem_inj hpn).mp e).symm
    have hps : ps[s] ∈ ps := List.getElem_mem hsl
    have hpt : ps[t] ∈ ps := List.getElem_mem htl
    generalize ps[s] = p1 at hs1 hne hps
    generalize ps[t] = p2 at ht1 hne hpt
    refine ⟨_, rfl, _, rfl, Pl, _, (s : Int), _, rfl, rfl, SqL.of (e2 _ _ hPS hPl), atI_nat hs1, ?_⟩
    refine ⟨_, rfl, _, rfl, Pl, _, (t : Int), _, rfl, rfl, SqL.of (e2 _ _ hPS hPl), atI_nat ht1, ?_⟩
    refine ⟨_, rfl, _, rfl, _, rfl, Ll, _, rfl, .inl (SqL.of (e2 _ _ hLS hLl)), S, sc, ns, _, rfl, hS2, hns, by rw [hll]; omega, by rw [hll]; omega, fun H3 c hf3 hS3 hc => ?_⟩
    rw [hll] at hc
    have e3 : Ex S H H3 := fun b o nb z => (hf3 b nb).trans (e2 b o nb z)
    have hcl : c < ls.length := by omega
    have hc1 : (ls.map V.str)[c]? = some (.str ls[c]) := by simp [hcl]
    have hlc : ls[c] ∈ ls := List.getElem_mem hcl
    generalize ls[c] = lb at hc1 hlc
    refine ⟨Ll, _, (c : Int), _, rfl, rfl, SqL.of (e3 _ _ hLS hLl), atI_nat hc1, by show 3 ≤ sizeLine; omega, fun q hq => ?_⟩
    have sn := same_new (o := .tup [.str p1, .str p2, .str lb]) hq
    have hD3 := e3 _ _ hDS hD
    refine ⟨_, rfl, Ll, rfl, ⟨_, SqL.of (sn _ _ (e3 _ _ hLS hLl))⟩, ?_⟩
    refine for_list (xs := ls.map V.str) (fun i σ H4 => ∃ (a : A3) (q : Addr) (o8 : Option V), σ = [some (.ref S), some (.ref D), some (.ref Pl), some (.ref Ll), some (nV goal), some (nV s), some (nV t), some (.ref q), o8] ∧ Ex S H H4 ∧ SAt H4 S sc ns ∧ H4 q = some (.tup [.str a.1, .str a.2.1, .str a.2.2]) ∧ GoodA ps ls a)
      ⟨(p1, p2, lb), q, _, rfl, e3.trans (ex_same sn), hS3.same sn, upd_same, ⟨hps, hpt, hne, hlc⟩⟩ (fun i σ H4 _ ⟨_, _, _, _, e4, _⟩ => SqL.of (e4 _ _ hLS hLl)) ?_ ?_
    · rintro i x σ H4 hx ⟨a, q, o8, hσ, e4, hS4, hq4, hg⟩
      subst hσ
      obtain ⟨lx, hlx, rfl⟩ := List.mem_map.mp (List.mem_of_getElem? hx)
      have hD4 := e4 _ _ hDS hD
      refine ⟨_, rfl, _, rfl, D, _, rfl, DGet.t (k := kA a) hD4 hq4, _, rfl, ?_⟩
      refine ite_b (fun _ => ?_) (fun _ => ⟨a, q, _, rfl, e4, hS4, hq4, hg⟩)
      refine ⟨_, rfl, q, _, 0, _, rfl, rfl, SqT.of hq4, at0, _, rfl, q, _, 1, _, rfl, rfl, SqT.of hq4, at1, _, rfl, by show 3 ≤ sizeLine; omega, fun q2 hq2 => ?_⟩
      have sn2 := same_new (o := .tup [.str a.1, .str a.2.1, .str lx]) hq2
      exact ⟨(a.1, a.2.1, lx), q2, _, rfl, e4.trans (ex_same sn2), hS4.same sn2, upd_same, ⟨hg.p, hg.q, hg.ne, hlx⟩⟩
    · rintro σ H4 ⟨a, q, o8, hσ, e4, hS4, hq4, hg⟩
      subst hσ
      have hD4 := e4 _ _ hDS hD
      refine ⟨_, rfl, _, rfl, D, _, rfl, DGet.t (k := kA a) hD4 hq4, _, rfl, ?_⟩
      rw [val_keys kA (fun _ _ => kA_inj) (rowD_keys row)]
      refine ite_b (fun hn => ?_) (fun hn => ?_)
      · have hn : a ∉ row.map (·.1) := by simpa using hn
        refine ⟨_, rfl, _, rfl, _, rfl, D, _, rfl, DPut.t (k := kA a) hD4 hq4 (by unfold rowD; rw [List.length_map]; omega), ?_⟩
        have hput : putK (rowD row) (kA a) (nV goal) = rowD (row ++ [(a, goal)]) := by
          rw [putK_new _ (val_none kA (fun _ _ => kA_inj) (rowD_keys row) hn)]
          unfold rowD
          rw [List.map_append]
          rfl
        rw [hput]
        refine k _ (row ++ [(a, goal)]) (fun b o h1 h2 z => (upd_ne h2).trans (e4 b o h1 z)) (hS4.upd hDS fun e => ?_) upd_same (.inr ⟨a, hn, rfl, hg⟩)
        have := hS4.2.1
        rw [← e, hD4] at this
        cases this
      · exact k _ row (fun b o h1 _ z => e4 b o h1 z) hS4 hD4 (.inl rfl)
end
end Pk
/-! A drawn table. -/
namespace Pk
open PySem L2 PM
theorem pd_setD {β : Type} {F G : Addr → β → Prop} {d : Addr} {y : β} {ds : List Addr} {ys : List β} {i : Nat} (hn : ds.Nodup) (h : Paired F ds ys) (hd : ds[i]? = some d) (hF : ∀ d' y, d' ≠ d → F d' y → G d' y) (hG : G d y) : Paired G ds (ys.set i y) := by
  have key : ∀ {ds : List Addr} {ys : List β}, d ∉ ds → Paired F ds ys → Paired G ds ys := by
    intro ds ys hm t
    induction t with
    | nil => exact .nil
    | cons r t ih => exact .cons (hF _ _ (fun e => hm (by simp [e])) r) (ih fun z => hm (List.mem_cons_of_mem _ z))
  induction h generalizing i with
  | nil => simp at hd
  | @cons a b as bs r t ih =>
    have hn' := List.nodup_cons.mp hn
    cases i with
    | zero =>
      have e : a = d := by simpa using hd
      subst e
      exact .cons hG (key hn'.1 t)
    | succ i =>
      have h' : as[i]? = some d := by simpa using hd
      exact .cons (hF _ _ (fun e => hn'.1 (by rw [e]; exact List.mem_of_getElem? h')) r) (ih hn'.2 h')
theorem flat_set {α : Type} : ∀ {l : List (List α)} {i : Nat} {x y : List α}, l[i]? = some x → y.length ≤ x.length + 1 → (l.set i y).flatten.length ≤ l.flatten.length + 1
  | [], _, _, _, h, _ => by simp at h
  | a :: l, 0, x, y, h, hy => by
    have e : a = x := by simpa using h
    subst e
    simp only [List.set_cons_zero, List.flatten_cons, List.length_append]
    omega
  | a :: l, i + 1, x, y, h, hy => by
    have h' : l[i]? = some x := by simpa using h
    have := flat_set h' hy
    simp only [List.set_cons_succ, List.flatten_cons, List.length_append]
    omega
theorem flat_ge {α : Type} {l : List (List α)} {x : List α} (h : x ∈ l) : x.length ≤ l.flatten.length := by
  induction l with
  | nil => cases h
  | cons a l ih =>
    simp only [List.flatten_cons, List.length_append]
    rcases List.mem_cons.mp h with h | h
    · subst h; omega
    · have := ih h; omega
structure TI (H0 H1 : Hp) (S sc Rw : Addr) (ns : List Int) (ds : List Addr) (rows : Rows Str) : Prop where
  ex : Ex S H0 H1
  st : SAt H1 S sc ns
  no : H0 Rw = none
  lst : H1 Rw = some (.lst (ds.map V.ref))
  rw_ : Paired (fun d row => H1 d = some (.dT (rowD row))) ds rows
  nd : ds.Nodup
  new : ∀ d ∈ ds, H0 d = none
structure TP (ps ls : List Str) (n : Nat) (rows : Rows Str) (m : Nat) : Prop where
  len : rows.length = n
  row : ∀ row ∈ rows, Det row ∧ ∀ e ∈ row, e.2 < n ∧ GoodA ps ls e.1
  flat : rows.flatten.length ≤ m
theorem TP.set {ps ls : List Str} {n : Nat} {rows : Rows Str} {m goal i : Nat} {row row' : Row Str} (T : TP ps ls n rows m) (hi : rows[i]? = some row) (hg : goal < n) (G : GrowR ps ls goal row row') : TP ps ls n (rows.set i row') (m + 1) := by
  have hrow := T.row row (List.mem_of_getElem? hi)
  have hl : row'.length ≤ row.length + 1 := by
    rcases G with e | ⟨a, _, e, _⟩
    · rw [e]; omega
    · rw [e, List.length_append]; exact Nat.le_refl _
  refine ⟨by rw [List.length_set]; exact T.len, fun r hr => ?_, ?_⟩
  · rcases List.mem_or_eq_of_mem_set hr with h | h
    · exact T.row r h
    · subst h
      rcases G with e | ⟨a, ha, e, hga⟩
      · rw [e]; exact hrow
      · rw [e]
        refine ⟨?_, fun z hz => ?_⟩
        · unfold Det
          rw [List.map_append]
          exact nodup_snoc hrow.1 ha
        · rcases List.mem_append.mp hz with hz | hz
          · exact hrow.2 z hz
          · rw [List.mem_singleton] at hz
            subst hz
            exact ⟨hg, hga⟩
  · have := flat_set hi hl
    have := T.flat
    omega
theorem TI.set {H0 H1 H2 : Hp} {S sc Rw d : Addr} {ns : List Int} {ds : List Addr} {rows : Rows Str} {i : Nat} {row' : Row Str} (T : TI H0 H1 S sc Rw ns ds rows) (hd : ds[i]? = some d) (hf : ∀ b o, b ≠ S → b ≠ d → H1 b = some o → H2 b = some o) (hS : SAt H2 S sc ns) (h2 : H2 d = some (.dT (rowD row'))) : TI H0 H2 S sc Rw ns ds (rows.set i row') := by
  have hmem := List.mem_of_getElem? hd
  obtain ⟨row, _, hdr⟩ := pd_memL T.rw_ hmem
  have hRS : Rw ≠ S := fun e => by
    obtain ⟨_, _, p, c, l, g, _, hs⟩ := T.st
    have h := T.lst
    rw [e, hs] at h
    have h := HO.lst.inj (Option.some.inj h)
    have h1 : (ds.map V.ref)[1]? = some (.int p) := by rw [← h]; rfl
    rw [List.getElem?_map] at h1
    cases z : ds[1]? with
    | none => rw [z] at h1; cases h1
    | some x => rw [z] at h1; cases h1
  have hRd : Rw ≠ d := fun e => by
    have h := T.lst
    rw [e, hdr] at h
    cases h
  refine ⟨fun b o hb z => hf b o hb (fun e => ?_) (T.ex b o hb z), hS, T.no, hf _ _ hRS hRd T.lst, pd_setD T.nd T.rw_ hd (fun d' y hne h => hf _ _ (T.st.ne h fun _ z => by cases z) hne h) h2, T.nd, T.new⟩
  rw [e, T.new d hmem] at z
  cases z
theorem TI.draw {H0 H1 H2 : Hp} {S sc Rw : Addr} {ns : List Int} {ds : List Addr} {rows : Rows Str} (T : TI H0 H1 S sc Rw ns ds rows) (hf : ∀ b, b ≠ S → H2 b = H1 b) (hS : SAt H2 S sc ns) (hRS : Rw ≠ S) : TI H0 H2 S sc Rw ns ds rows :=
  ⟨fun b o hb z => (hf b hb).trans (T.ex b o hb z), hS, T.no, (hf _ hRS).trans T.lst, pd_mono T.rw_ fun _ _ h => (hf _ (T.st.ne h fun _ z => by cases z)).trans h, T.nd, T.new⟩
theorem TI.ne {H0 H1 : Hp} {S sc Rw : Addr} {ns : List Int} {ds : List Addr} {rows : Rows Str} (T : TI H0 H1 S sc Rw ns ds rows) : Rw ≠ S := fun e => by
  obtain ⟨_, _, p, c, l, g, _, hs⟩ := T.st
  have h := T.lst
  rw [e, hs] at h
  have h := HO.lst.inj (Option.some.inj h)
  have h1 : (ds.map V.ref)[1]? = some (.int p) := by rw [← h]; rfl
  rw [List.getElem?_map] at h1
  cases z : ds[1]? with
  | none => rw [z] at h1; cases h1
  | some x => rw [z] at h1; cases h1
theorem TI.fresh {H0 H1 : Hp} {S sc Rw b : Addr} {ns : List Int} {ds : List Addr} {rows : Rows Str} (T : TI H0 H1 S sc Rw ns ds rows) (hb : H1 b = none) : b ≠ S ∧ b ≠ sc ∧ b ≠ Rw ∧ b ∉ ds ∧ H0 b = none := by
  have h1 : b ≠ S := fun e => by
    obtain ⟨xs, z⟩ := T.st.lst
    rw [← e, hb] at z; cases z
  refine ⟨h1, fun e => ?_, fun e => ?_, fun e => ?_, ?_⟩
  · have := T.st.2.1
    rw [← e, hb] at this; cases this
  · have := T.lst
    rw [← e, hb] at this; cases this
  · obtain ⟨row, _, h⟩ := pd_memL T.rw_ e
    rw [hb] at h; cases h
  · cases z : H0 b with
    | none => rfl
    | some o =>
      have := T.ex b o h1 z
      rw [hb] at this; cases this
theorem TI.upd {H0 H1 : Hp} {S sc Rw b : Addr} {ns : List Int} {ds : List Addr} {rows : Rows Str} {o : HO} (T : TI H0 H1 S sc Rw ns ds rows) (h : b ≠ S ∧ b ≠ sc ∧ b ≠ Rw ∧ b ∉ ds ∧ H0 b = none) : TI H0 (upd H1 b o) S sc Rw ns ds rows := by
  obtain ⟨h1, h2, h3, h4, h5⟩ := h
  refine ⟨ex_new T.ex h5, T.st.upd h1 h2, T.no, (upd_ne (Ne.symm h3)).trans T.lst, ?_, T.nd, T.new⟩
  have key : ∀ {ds : List Addr} {rows : Rows Str}, b ∉ ds → Paired (fun d row => H1 d = some (.dT (rowD row))) ds rows → Paired (fun d row => L2.upd H1 b o d = some (.dT (rowD row))) ds rows := by
    intro ds rows hm t
    induction t with
    | nil => exact .nil
    | cons r t ih => exact .cons ((upd_ne fun e => hm (by simp [e])).trans r) (ih fun z => hm (List.mem_cons_of_mem _ z))
  exact key h4 T.rw_
/-- a row as it is sorted -/
def SubR (row' row : Row Str) : Prop := Det row' ∧ row'.length = row.length ∧ ∀ e ∈ row', e ∈ row
theorem TP.sorted {ps ls : List Str} {n m : Nat} {rows rows' : Rows Str} (T : TP ps ls n rows m) (h : Paired SubR rows' rows) : TP ps ls n rows' m := by
  refine ⟨(pd_len h).trans T.len, fun row' hr => ?_, ?_⟩
  · obtain ⟨row, hm, h1, _, h3⟩ := pd_memL h hr
    exact ⟨h1, fun e he => (T.row row hm).2 e (h3 e he)⟩
  · have key : ∀ {rows rows' : Rows Str}, Paired SubR rows' rows → rows'.flatten.length = rows.flatten.length := by
      intro rows rows' h
      induction h with
      | nil => rfl
      | cons r t ih =>
        simp only [List.flatten_cons, List.length_append]
        rw [ih, r.2.1]
    rw [key h]
    exact T.flat
section
variable {P : Program} {w : World} {K : PySem.W.Frag} {mg : Str → Option Value} {base : Heap}
abbrev sTable : Stmt := top 25
abbrev nTable : List Str := ["_law_state_here", "_law_parties", "_law_labels", "_law_size", "_law_rows", "_law_k", "_law_ends", "_law_x", "_law_row"]
def spTable : Sp := fun vs H Q _ => ∃ (S sc Pl Ll : Addr) (ns : List Int) (ps ls : List Str) (n : Nat), vs = [.ref S, .ref Pl, .ref Ll, nV n] ∧ SAt H S sc ns ∧ ns.length ≤ 1000 ∧ Pl ≠ S ∧ Ll ≠ S ∧ H Pl = some (.lst (ps.map V.str)) ∧ H Ll = some (.lst (ls.map V.str)) ∧ ps.Nodup ∧ 2 ≤ ps.length ∧ ps.length ≤ 10 ∧ 1 ≤ ls.length ∧ ls.length ≤ 10 ∧ 1 ≤ n ∧ n ≤ 10 ∧
  ∀ (H' : Hp) (v : V) (rows : Rows Str) (ends : List Bool), Ex S H H' → SAt H' S sc ns → TabAt H' v rows ends → ends.length = n → TP ps ls n rows (3 * n - 1) → Q v H'
theorem scTable : FnScope nTable ["_law_state_here", "_law_parties", "_law_labels", "_law_size"] (C8.fnScope sTable) := C8.fnScope_by (by decide +kernel)
abbrev dummyS : Stmt := .Pass ⟨0, 0, 0, 0⟩
def retExpr : Stmt → Expr
  | .Return (some e) _ => e
  | _ => .Name "" ⟨0, 0, 0, 0⟩
def tupItem : Expr → Nat → Expr
  | .Tuple es _ _, i => es.getD i (.Name "" ⟨0, 0, 0, 0⟩)
  | _, _ => .Name "" ⟨0, 0, 0, 0⟩
def callArg : Expr → Expr
  | .Call _ es _ _ => es.getD 0 (.Name "" ⟨0, 0, 0, 0⟩)
  | _ => .Name "" ⟨0, 0, 0, 0⟩
theorem cal_table {f : Addr} {fd : FuncData} (D : C8.Def K mg "_law_table" sTable f fd) (b : Binds K fd ["_law_state_here", "_law_parties", "_law_labels", "_law_size"] []) (T : Tx mg) (c1 : C8.Cal P w K mg base 1 "_law_draw" spDraw []) (c2 : C8.Cal P w K mg base 2 "_law_edge" spEdge []) : C8.Cal P w K mg base 3 "_law_table" spTable [] := by
  have nd := scTable.nd
  refine C8.cal0 D b .nil scTable (fun vs H Q E h => ?_) (fun cdv A outer s0 H vs Q E hr h => ?_)
  · obtain ⟨S, sc, Pl, Ll, ns, ps, ls, n, rfl, _⟩ := h
    rfl
  · obtain ⟨S, sc, Pl, Ll, ns, ps, ls, n, rfl, hS, hns, hPS, hLS, hPl, hLl, hpn, hp2, hp10, hl1, hl10, hn1, hn10, k⟩ := h
    have hz := sizeLine_eq
    refine ⟨_, pss_cons (ps_setLc (i := 4) (own := [("_law_k", 5)]) (g := gName 5) rfl nd rfl rfl (sw_true rfl rfl rfl (by decide +kernel)) (pi_range1 (by rfl) T.range (pa_cons (pv 3) pa_nil)) (blkOk_by (N := nTable) (sc := C8.fnScope sTable) (by decide +kernel)) (fun _ _ _ _ _ => (pg_name (i := 5) nd rfl (Or.inl rfl))) (fun _ _ _ _ _ => pts_nil) (fun _ _ _ _ _ => pe_dnewT))
      (pss_cons (ps_for PassesOwn.never rfl (pi_range1 (by rfl) T.range (pa_cons (pe_op op_sub (pv 3) pe_int) pa_nil)) (pg_name (i := 5) nd rfl (Or.inl rfl))
        (pss_one (ps_expr (C8.pe_c c2 hr (by decide) (by rfl) (pa_cons (pv 0) (pa_cons (pe_ix ix_list (pv 4) (pv 5) (fun _ _ => rfl)) (pa_cons (pv 1) (pa_cons (pv 2) (pa_cons (pe_op op_add (pv 5) pe_int) pa_nil)))))))))
      (pss_cons (ps_for PassesOwn.never rfl (pi_range1 (by rfl) T.range (pa_cons (C8.pe_c c1 hr (by decide) (by rfl) (pa_cons (pv 0) (pa_cons (pe_op op_add (pe_op op_mul pe_int (pv 3)) pe_int) pa_nil))) pa_nil)) (pg_name (i := 5) nd rfl (Or.inl rfl))
        (pss_one (ps_expr (C8.pe_c c2 hr (by decide) (by rfl) (pa_cons (pv 0) (pa_cons (pe_ix ix_list (pv 4) (C8.pe_c c1 hr (by decide) (by rfl) (pa_cons (pv 0) (pa_cons (pv 3) pa_nil))) (fun _ _ => rfl)) (pa_cons (pv 1) (pa_cons (pv 2) (pa_cons (C8.pe_c c1 hr (by decide) (by rfl) (pa_cons (pv 0) (pa_cons (pv 3) pa_nil))) pa_nil)))))))))
      (pss_cons (ps_setLc (i := 6) (own := [("_law_k", 5)]) (g := gName 5) rfl nd rfl rfl (sw_true rfl rfl rfl (by decide +kernel)) (pi_range1 (by rfl) T.range (pa_cons (pv 3) pa_nil)) (blkOk_by (N := nTable) (sc := C8.fnScope sTable) (by decide +kernel)) (fun _ _ _ _ _ => (pg_name (i := 5) nd rfl (Or.inl rfl))) (fun _ _ _ _ _ => pts_nil)
          (fun _ _ _ _ _ => pe_cmpR op_eq (C8.pe_c c1 hr (by decide) (by rfl) (pa_cons (pv 0) (pa_cons pe_int pa_nil))) pe_int (nomark _)))
      (pss_cons (ps_asg pe_bl (pg_sub (pv 6) (pe_op op_sub (pv 3) pe_int) set_list))
      (pss_one (ps_ret (pe_tup (pa_cons pe_str (pa_cons (pe_callTy (cr_tup (K := K) rfl) (by rfl) T.tuple (by decide +kernel) (pa_cons
          (pe_lc (own := [("_law_row", 8)]) (g := gName 8) rfl nd (pi_list (pv 4)) (blkOk_by (N := nTable) (sc := C8.fnScope sTable) (by decide +kernel)) (fun _ _ _ _ _ => pg_name (i := 8) nd rfl (Or.inr rfl)) (fun _ _ _ _ _ => pts_nil)
            (fun _ _ _ _ _ => pe_callTy (cr_tup (K := K) rfl) (by rfl) T.tuple (by decide +kernel) (pa_cons (pe_lc (own := [("_law_x", 7)]) (g := gName 7) rfl nd (pi_listK (K := K) rfl (pe_callB (cr_sortA rfl (hu20 hr)) (by rfl) T.sorted (by decide +kernel) (pa_cons (pv 8) pa_nil)))
              (blkOk_by (N := nTable) (sc := relS (lcScope (callArg (tupItem (retExpr ((C8.fnBody sTable).getD 5 dummyS)) 1))) (C8.fnScope sTable)) (by decide +kernel)) (fun _ _ _ _ _ => (pg_name (i := 7) nd rfl (Or.inl rfl))) (fun _ _ _ _ _ => pts_nil) (fun _ _ _ _ _ => pe_tup (pa_cons (pv 7) (pa_cons (pe_dget (hu1 hr) (pv 8) (pv 7) (fun _ _ => rfl)) pa_nil)))) pa_nil))) pa_nil))
        (pa_cons (pe_callTy (cr_tup (K := K) rfl) (by rfl) T.tuple (by decide +kernel) (pa_cons (pv 6) pa_nil)) pa_nil)))))))))), ?_⟩
    refine ⟨_, rfl, (n : Int), rfl, by omega, by omega, fun Rw hRw => ?_⟩
    have hRS : Rw ≠ S := fun e => by
      obtain ⟨xs, z⟩ := hS.lst
      rw [← e, hRw] at z; cases z
    have hRsc : Rw ≠ sc := fun e => by
      have := hS.2.1
      rw [← e, hRw] at this; cases this
    refine lc_range (lo := 0) (n := n) (fun i H2 => Same H H2 ∧ ∃ ds : List Addr, H2 Rw = some (.lst (ds.map V.ref)) ∧ ds.length = i ∧ ds.Nodup ∧ ∀ d ∈ ds, H d = none ∧ H2 d = some (.dT [])) ⟨same_new hRw, [], upd_same, rfl, List.nodup_nil, (fun _ h => nomatch h)⟩ ?_ ?_
    · rintro i H2 hi ⟨s2, ds, hR2, hdl, hdn, hds⟩
      refine ⟨rfl, yes_if ?_⟩
      refine fun d hd => ⟨_, (same_new hd) _ _ hR2, by rw [List.length_map]; omega, same_upd (same_upd s2 (same_none s2 hd)) hRw, ds ++ [d], ?_, by rw [List.length_append, hdl]; rfl, nodup_snoc hdn fun z => ?_, fun z hz => ?_⟩
      · rw [upd_same, List.map_append]
        rfl
      · have := (hds d z).2
        rw [hd] at this
        cases this
      · have hne : Rw ≠ d := ne_of_none hR2 hd
        rcases List.mem_append.mp hz with hz | hz
        · obtain ⟨g1, g2⟩ := hds z hz
          refine ⟨g1, ?_⟩
          have hzR : z ≠ Rw := fun e => by rw [e, hR2] at g2; cases g2
          exact (upd_ne hzR).trans ((same_new hd) _ _ g2)
        · rw [List.mem_singleton] at hz
          subst hz
          exact ⟨same_none s2 hd, (upd_ne (Ne.symm hne)).trans upd_same⟩
    rintro H2 ⟨s2, ds, hR2, hdl, hdn, hds⟩
    have hpw : Paired (fun d row => H2 d = some (.dT (rowD row))) ds (List.replicate n []) := by
      rw [← hdl]
      clear hR2 hdl hdn
      induction ds with
      | nil => exact .nil
      | cons a ds ih => exact .cons (hds a List.mem_cons_self).2 (ih fun d hd => hds d (List.mem_cons_of_mem _ hd))
    have T2 : TI H H2 S sc Rw ns ds (List.replicate n []) := ⟨ex_same s2, hS.same s2, hRw, hR2, hpw, hdn, fun d hd => (hds d hd).1⟩
    have P2 : TP ps ls n (List.replicate n []) 0 := ⟨List.length_replicate, fun row hr => by
      rw [List.eq_of_mem_replicate hr]
      exact ⟨List.nodup_nil, (fun _ h => nomatch h)⟩, by simp⟩
    clear hpw hds hdn hR2 s2
    refine ⟨_, rfl, _, _, rfl, rfl, (n : Int) - 1, rfl, by omega, by omega, ?_⟩
    have hn0 : ((n : Int) - 1).toNat = n - 1 := by omega
    rw [hn0]
    refine for_range (lo := 0) (n := n - 1) (fun i σ H3 => ∃ (rows : Rows Str) (o5 o6 o7 o8 : Option V), σ = [some (.ref S), some (.ref Pl), some (.ref Ll), some (nV n), some (.ref Rw), o5, o6, o7, o8] ∧ TI H H3 S sc Rw ns ds rows ∧ TP ps ls n rows i) ⟨_, _, _, _, _, rfl, T2, P2⟩ ?_ ?_
    · rintro i σ H3 hi ⟨rows, o5, o6, o7, o8, hσ, T3, P3⟩
      subst hσ
      have hid : i < ds.length := by omega
      have hd : ds[i]? = some ds[i] := List.getElem?_eq_getElem hid
      generalize ds[i] = d at hd
      have hdv : (ds.map V.ref)[i]? = some (.ref d) := by rw [List.getElem?_map, hd]; rfl
      obtain ⟨row, hrow, hdr⟩ := pd_get T3.rw_ hd
      have hfl := flat_ge (List.mem_of_getElem? hrow)
      have hfm := P3.flat
      refine ⟨_, rfl, _, rfl, _, rfl, Rw, _, (i : Int), _, rfl, by rw [Int.zero_add], SqL.of T3.lst, atI_nat hdv, ?_⟩
      refine ⟨_, rfl, _, rfl, _, rfl, _, _, rfl, rfl, ?_⟩
      refine ⟨S, sc, d, Pl, Ll, ns, row, ps, ls, i + 1, by rw [Int.zero_add]; rfl, T3.st, hns, hdr, by omega, hPS, hLS, T3.ex _ _ hPS hPl, T3.ex _ _ hLS hLl, hpn, hp2, hp10, hl1, hl10, fun H4 row' hf hS4 hd4 hG => ?_⟩
      exact ⟨_, _, _, _, _, rfl, T3.set hd hf hS4 hd4, P3.set hrow (by omega) hG⟩
    rintro σ H3 ⟨rows, o5, o6, o7, o8, hσ, T3, P3⟩
    subst hσ
    clear T2 P2
    refine ⟨_, rfl, _, rfl, _, _, rfl, rfl, .inl ⟨by decide, by decide⟩, _, _, rfl, rfl, S, sc, ns, _, rfl, T3.st, hns, by show (0 : Int) < 2 * (n : Int) + 1; omega, by show 2 * (n : Int) + 1 < _; omega, fun H4 m hf4 hS4 hm => ?_⟩
    have hm : (m : Int) < 2 * (n : Int) + 1 := hm
    have T4 := T3.draw hf4 hS4 hRS
    clear T3
    refine ⟨(m : Int), rfl, by omega, by omega, ?_⟩
    refine for_range (lo := 0) (n := m) (fun i σ H3 => ∃ (rows : Rows Str) (o5 o6 o7 o8 : Option V), σ = [some (.ref S), some (.ref Pl), some (.ref Ll), some (nV n), some (.ref Rw), o5, o6, o7, o8] ∧ TI H H3 S sc Rw ns ds rows ∧ TP ps ls n rows (n - 1 + i)) ⟨_, _, _, _, _, rfl, T4, P3⟩ ?_ ?_
    · clear T4 P3
      rintro i σ H3 hi ⟨rows, o5, o6, o7, o8, hσ, T3, P3⟩
      subst hσ
      refine ⟨_, rfl, _, rfl, _, rfl, _, rfl, S, sc, ns, _, rfl, T3.st, hns, by omega, by omega, fun H5 j hf5 hS5 hj => ?_⟩
      have T5 := T3.draw hf5 hS5 hRS
      have hjd : j < ds.length := by omega
      have hd : ds[j]? = some ds[j] := List.getElem?_eq_getElem hjd
      generalize ds[j] = d at hd
      have hdv : (ds.map V.ref)[j]? = some (.ref d) := by rw [List.getElem?_map, hd]; rfl
      obtain ⟨row, hrow, hdr⟩ := pd_get T5.rw_ hd
      have hfl := flat_ge (List.mem_of_getElem? hrow)
      have hfm := P3.flat
      refine ⟨Rw, _, (j : Int), _, rfl, rfl, SqL.of T5.lst, atI_nat hdv, ?_⟩
      refine ⟨_, rfl, _, rfl, _, rfl, _, rfl, S, sc, ns, _, rfl, T5.st, hns, by omega, by omega, fun H6 gl hf6 hS6 hgl => ?_⟩
      have T6 := T5.draw hf6 hS6 hRS
      have hdr6 : H6 d = some (.dT (rowD row)) := (hf6 d (T5.st.ne hdr fun _ z => by cases z)).trans hdr
      refine ⟨S, sc, d, Pl, Ll, ns, row, ps, ls, gl, rfl, T6.st, hns, hdr6, by omega, hPS, hLS, T6.ex _ _ hPS hPl, T6.ex _ _ hLS hLl, hpn, hp2, hp10, hl1, hl10, fun H7 row' hf hS7 hd7 hG => ?_⟩
      exact ⟨_, _, _, _, _, rfl, T6.set hd hf hS7 hd7, P3.set hrow (by omega) hG⟩
    clear T4 P3 rows
    rintro σ H5 ⟨rows, o5, o6, o7, o8, hσ, T5, P5⟩
    subst hσ
    have hml : n - 1 + m ≤ 3 * n - 1 := by omega
    refine ⟨_, rfl, (n : Int), rfl, by omega, by omega, fun Ee hEe => ?_⟩
    have fE := T5.fresh hEe
    refine lc_range (lo := 0) (n := n) (fun i H6 => TI H H6 S sc Rw ns ds rows ∧ ∃ bs : List Bool, H6 Ee = some (.lst (bs.map V.bl)) ∧ bs.length = i) ⟨T5.upd fE, [], upd_same, rfl⟩ ?_ ?_
    · rintro i H6 hi ⟨T6, bs, hE6, hbl⟩
      refine ⟨rfl, yes_if ?_⟩
      refine ⟨_, rfl, S, sc, ns, 3, rfl, T6.st, hns, by decide, by decide, fun H7 d hf7 hS7 hd => ?_⟩
      refine ⟨rfl, _, (hf7 _ fE.1).trans hE6, by rw [List.length_map]; omega, (T6.draw hf7 hS7 hRS).upd fE, bs ++ [decide (nV d = V.int 0)], ?_, by rw [List.length_append, hbl]; rfl⟩
      rw [upd_same, List.map_append]
      rfl
    rintro H6 ⟨T6, bs, hE6, hbl⟩
    refine ⟨_, rfl, _, rfl, _, _, rfl, rfl, Ee, _, (n : Int) - 1, n - 1, rfl, rfl, hE6, ?_, ?_⟩
    · have e : ((n : Int) - 1) = ((n - 1 : Nat) : Int) := by omega
      rw [e]
      exact ixN_nat (by rw [List.length_map]; omega)
    have hE7 : upd H6 Ee (.lst ((bs.map V.bl).set (n - 1) (.bl true))) Ee = some (.lst ((bs.set (n - 1) true).map V.bl)) := by rw [upd_same, List.map_set]
    have T7 : TI H (upd H6 Ee (.lst ((bs.map V.bl).set (n - 1) (.bl true)))) S sc Rw ns ds rows := T6.upd fE
    have hbl7 : (bs.set (n - 1) true).length = n := by rw [List.length_set, hbl]
    clear T6 hE6 hEe T5 hf4 hS4
    generalize upd H6 Ee (.lst ((bs.map V.bl).set (n - 1) (.bl true))) = H7 at *
    generalize bs.set (n - 1) true = bs7 at *
    refine ⟨_, rfl, Rw, rfl, ⟨_, SqL.of T7.lst⟩, fun D hD => ?_⟩
    refine lc_list (xs := ds.map V.ref) (fun i H8 => Same H7 H8 ∧ ∃ (vs : List V) (rr : Rows Str), H8 D = some (.lst vs) ∧ Paired (RowAt H8) vs rr ∧ Paired SubR rr (rows.take i)) ⟨same_new hD, [], [], upd_same, .nil, .nil⟩ (fun i H8 _ ⟨s8, _⟩ => SqL.of (s8 _ _ T7.lst)) ?_ ?_
    · rintro i x H8 hx ⟨s8, vs, rr, hD8, hpv, hsr⟩
      obtain ⟨d, hd, rfl⟩ : ∃ d, ds[i]? = some d ∧ x = .ref d := by
        rw [List.getElem?_map] at hx
        cases z : ds[i]? with
        | none => rw [z] at hx; cases hx
        | some n => rw [z] at hx; exact ⟨n, rfl, (Option.some.inj hx).symm⟩
      obtain ⟨row, hrow, hdr⟩ := pd_get T7.rw_ hd
      have hdr8 := s8 _ _ hdr
      have hrm := List.mem_of_getElem? hrow
      have hdet := (P5.row row hrm).1
      have hfl := flat_ge hrm
      have hff := P5.flat
      have hil := (List.getElem?_eq_some_iff.mp hrow).1
      have hvl : vs.length ≤ i := by
        rw [pd_len hpv, pd_len hsr, List.length_take]; omega
      have hrl := P5.len
      refine ⟨rfl, yes_if ?_⟩
      refine ⟨_, rfl, d, _, row.map (·.1), rfl, hdr8, rowD_keys row, fun ys as' p hperm hpa hp => ?_⟩
      have sp := same_new (o := .lst ys) hp
      refine ⟨p, rfl, ⟨_, SqL.of upd_same⟩, fun D2 hD2 => ?_⟩
      have hp9 : upd H8 p (.lst ys) p = some (.lst ys) := upd_same
      have s79 : Same H7 (upd H8 p (.lst ys)) := fun b o z => sp b o (s8 b o z)
      have hdr9 := sp _ _ hdr8
      have hD9 := sp _ _ hD8
      have hpv9 := pd_mono hpv fun _ _ z => z.mono (same_tups sp)
      have hpa9 := pd_mono hpa fun _ _ z => z.mono (same_tups sp)
      clear sp hp hdr8 hD8 hpv s8
      generalize upd H8 p (.lst ys) = H9 at *
      refine lc_list (xs := ys) (fun j H10 => Same H9 H10 ∧ ∃ (xs : List V) (rw : Row Str), H10 D2 = some (.lst xs) ∧ Paired (EdgeAt H10) xs rw ∧ rw.map (·.1) = as'.take j ∧ ∀ e ∈ rw, e ∈ row) ⟨same_new hD2, [], [], upd_same, .nil, rfl, (fun _ h => nomatch h)⟩ (fun i H10 _ ⟨s10, _⟩ => SqL.of (s10 _ _ hp9)) ?_ ?_
      · rintro j y H10 hy ⟨s10, xs, rw, hD10, hpx, hrw, hsub⟩
        obtain ⟨a, ha, pa, rfl, hpa1⟩ := pd_get hpa9 hy
        have ham := hperm.mem_iff.mp (List.mem_of_getElem? ha)
        obtain ⟨e, he, hea⟩ := List.mem_map.mp ham
        have hval : valV (rowD row) (kA a) = some (nV e.2) := val_unique (by rw [rowD_keys]; exact nodup_map (fun _ _ => kA_inj) hdet) (List.mem_map.mpr ⟨e, he, by rw [hea]⟩)
        have hxl : xs.length ≤ 1000 := by
          have h1 := pd_len hpx
          have h2 := congrArg List.length hrw
          rw [List.length_map, List.length_take] at h2
          have h3 := hperm.length_eq
          rw [List.length_map] at h3
          omega
        refine ⟨rfl, yes_if ?_⟩
        refine ⟨_, rfl, _, rfl, _, rfl, d, nV e.2, rfl, ?_, by show 2 ≤ sizeLine; omega, fun t ht => ?_⟩
        · rw [← hval]
          exact DGet.t (k := kA a) (s10 _ _ hdr9) (s10 _ _ hpa1)
        have sn := same_new (o := .tup [.ref pa, nV e.2]) ht
        have t3 := tups_lst (o := .lst (xs ++ [.ref t])) (sn _ _ hD10)
        have tt := (same_tups sn).trans t3
        refine ⟨xs, sn _ _ hD10, by omega, same_upd (fun b o z => sn b o (s10 b o z)) hD2, xs ++ [.ref t], rw ++ [(a, e.2)], upd_same, pd_snoc (pd_mono hpx fun _ _ z => z.mono tt) ⟨t, .ref pa, rfl, t3 _ _ upd_same, pa, rfl, tt _ _ (s10 _ _ hpa1)⟩, ?_, fun z hz => ?_⟩
        · rw [List.map_append, hrw, take_get ha]
          rfl
        · rcases List.mem_append.mp hz with hz | hz
          · exact hsub z hz
          · rw [List.mem_singleton] at hz
            subst hz
            rw [← hea]
            exact he
      · rintro H10 ⟨s10, xs, rw, hD10, hpx, hrw, hsub⟩
        rw [pd_len hpa9, List.take_length] at hrw
        refine ⟨D2, xs, rfl, .inl ⟨SqL.of hD10, fun l hl => ?_⟩⟩
        have sn := same_new (o := .tup xs) hl
        have s911 : Same H9 (upd H10 l (.tup xs)) := fun b o z => sn b o (s10 b o z)
        have t3 := tups_lst (o := .lst (vs ++ [.ref l])) (s911 _ _ hD9)
        refine ⟨vs, s911 _ _ hD9, by omega, same_upd (fun b o z => s911 b o (s79 b o z)) hD, vs ++ [.ref l], rr ++ [rw], upd_same, pd_snoc (pd_mono hpv9 fun _ _ z => (z.mono (same_tups s911)).mono t3) ⟨l, xs, rfl, t3 _ _ upd_same, pd_mono hpx fun _ _ z => (z.mono (same_tups sn)).mono t3⟩, ?_⟩
        rw [take_get hrow]
        refine pd_snoc hsr ⟨?_, ?_, hsub⟩
        · unfold Det
          rw [hrw]
          exact hperm.nodup_iff.mpr hdet
        · have h2 := congrArg List.length hrw
          rw [List.length_map] at h2
          have h3 := hperm.length_eq
          rw [List.length_map] at h3
          omega
    · rintro H8 ⟨s8, vs, rr, hD8, hpv, hsr⟩
      have hdsl : ds.length = rows.length := hdl.trans P5.len.symm
      rw [List.length_map, hdsl, List.take_length] at hsr
      refine ⟨D, vs, rfl, .inl ⟨SqL.of hD8, fun l1 hl1 => ?_⟩⟩
      have sn1 := same_new (o := .tup vs) hl1
      have hE9 := sn1 _ _ (s8 _ _ hE7)
      refine ⟨_, rfl, Ee, _, rfl, .inl ⟨SqL.of hE9, fun l2 hl2 => ⟨by show 3 ≤ sizeLine; omega, fun t ht => ?_⟩⟩⟩
      have sn2 := same_new (o := .tup (bs7.map V.bl)) hl2
      have sn3 := same_new (o := .tup [.str "table", .ref l1, .ref l2]) ht
      have sall : Same H7 (upd (upd (upd H8 l1 (.tup vs)) l2 (.tup (bs7.map V.bl))) t (.tup [.str "table", .ref l1, .ref l2])) := fun b o z => sn3 b o (sn2 b o (sn1 b o (s8 b o z)))
      have PF := P5.sorted hsr
      refine k _ (.ref t) rr bs7 (T7.ex.trans (ex_same sall)) (T7.st.same sall) ⟨t, .ref l1, .ref l2, rfl, upd_same, ⟨l1, vs, rfl, sn3 _ _ (sn2 _ _ upd_same), pd_mono hpv fun _ _ z => z.mono ((same_tups sn1).trans ((same_tups sn2).trans (same_tups sn3)))⟩, ⟨l2, rfl, sn3 _ _ upd_same⟩⟩ hbl7 ⟨PF.len, PF.row, by have := PF.flat; omega⟩
end
end Pk
/-! The law's own step and walk. -/
namespace Pk
open PySem L2 PM
section
variable {P : Program} {w : World} {K : PySem.W.Frag} {mg : Str → Option Value} {base : Heap}
abbrev sLStep : Stmt := top 27
theorem scLStep : FnScope ["_law_table_here", "_law_state_here", "_law_action", "_law_other", "_law_goal"] ["_law_table_here", "_law_state_here", "_law_action"] (C8.fnScope sLStep) := C8.fnScope_by (by decide +kernel)
theorem cal_lstep {f : Addr} {fd : FuncData} (D : C8.Def K mg "_law_step" sLStep f fd) (b : Binds K fd ["_law_table_here", "_law_state_here", "_law_action"] []) : C8.Cal P w K mg base 1 "_law_step" spNext [] := by
  have nd := scLStep.nd
  refine C8.cal0 D b .nil scLStep (fun vs H Q E h => ?_) (fun cdv A outer s H vs Q E hr h => ?_)
  · obtain ⟨vt, va, rows, ends, s, row, a, rfl, _⟩ := h
    rfl
  · obtain ⟨vt, va, rows, ends, s, row, a, rfl, hT, hs, ha, k⟩ := h
    refine ⟨_, pss_cons (ps_for PassesOwn.never rfl (pi_tup (pe_ix ix_tup (pe_ix ix_tup (pv 0) pe_int (fun _ _ => rfl)) (pv 1) (fun _ _ => rfl))) (pg_tup rfl (pgs_cons (pg_name (i := 3) nd rfl (Or.inl rfl)) (pgs_cons (pg_name (i := 4) nd rfl (Or.inl rfl)) pgs_nil)))
      (pss_one (ps_if (pt_cmpR (op_eqA hr.units) (pv 3) (pv 2) (nomark _)) (pss_one (ps_ret (pv 4))) pss_nil))) (pss_one (ps_ret pe_non)), ?_⟩
    obtain ⟨p, vr, ve, rfl, hp, hR, hE⟩ := hT
    obtain ⟨pr, vrs, rfl, hpr, hrs⟩ := hR
    obtain ⟨x, hx, q, xs, rfl, hq, hxs⟩ := pd_get2 hrs hs
    refine ⟨_, rfl, p, _, 1, _, rfl, rfl, SqT.of hp, at1, _, rfl, pr, _, (s : Int), _, rfl, rfl, SqT.of hpr, atI_nat hx, q, rfl, ⟨_, SqT.of hq⟩, ?_⟩
    refine for_tup (xs := xs) (fun i σ H1 => H1 = H ∧ (∃ o3 o4, σ = [some (.ref p), some (nV s), some va, o3, o4]) ∧ ∀ e ∈ row.take i, e.1 ≠ a) ⟨rfl, ⟨_, _, rfl⟩, by simp⟩ (fun i σ H1 _ ⟨e, _⟩ => by rw [e]; exact SqT.of hq) ?_ ?_
    · intro i x σ H1 hxi ⟨e, ⟨o3, o4, hσ⟩, hn⟩
      subst e hσ
      obtain ⟨ed, hed, pe, vo, rfl, hpe, hvo⟩ := pd_get hxs hxi
      refine ⟨_, _, rfl, SqT.of hpe, rfl, _, _, rfl, _, _, rfl, rfl, ?_⟩
      refine ⟨_, rfl, _, rfl, ed.1, a, hvo, ha, _, rfl, ?_⟩
      refine ite_b (fun e => ?_) (fun e => ?_)
      · refine ⟨_, rfl, ?_⟩
        have e := of_decide_eq_true e
        rw [find_take hed hn, if_pos e] at k
        exact k
      · have e := of_decide_eq_false e
        refine ⟨rfl, ⟨_, _, rfl⟩, fun z hz => ?_⟩
        rcases take_mem hed hz with h1 | h1
        · exact hn z h1
        · exact h1 ▸ e
    · intro σ H1 ⟨e, _, hn⟩
      subst e
      rw [pd_len hxs, List.take_length] at hn
      rw [stepR_no hn] at k
      exact k


abbrev sLWalk : Stmt := top 28
theorem scLWalk : FnScope ["_law_table_here", "_law_actions", "_law_state_here", "_law_action"] ["_law_table_here", "_law_actions"] (C8.fnScope sLWalk) := C8.fnScope_by (by decide +kernel)
theorem cal_lwalk {f : Addr} {fd : FuncData} (D : C8.Def K mg "_law_walk" sLWalk f fd) (b : Binds K fd ["_law_table_here", "_law_actions"] []) (c1 : C8.Cal P w K mg base 1 "_law_step" spNext []) : C8.Cal P w K mg base 2 "_law_walk" spWalk [] := by
  have nd := scLWalk.nd
  refine C8.cal0 D b .nil scLWalk (fun vs H Q E h => ?_) (fun cdv A outer s H vs Q E hr h => ?_)
  · obtain ⟨vt, l, xs, rows, ends, w, rfl, _⟩ := h
    rfl
  · obtain ⟨vt, l, xs, rows, ends, w, rfl, hT, W, hn, hl, hw, k⟩ := h
    refine ⟨_, pss_cons (ps_set (i := 2) nd rfl (.inl rfl) pe_int) (pss_cons (ps_for PassesOwn.never rfl (pi_list (pv 1)) (pg_name (i := 3) nd rfl (Or.inl rfl))
      (pss_one (ps_if (pt_cmpR op_notN (pv 2) pe_non (nomark _)) (pss_one (ps_set (i := 2) nd rfl (.inl rfl) (C8.pe_c c1 hr (by decide) (by rfl) (pa_cons (pv 0) (pa_cons (pv 2) (pa_cons (pv 3) pa_nil)))))) pss_nil))) (pss_one (ps_ret (pv 2)))), ?_⟩
    refine ⟨_, rfl, l, rfl, ⟨_, SqL.of hl⟩, ?_⟩
    refine for_list (xs := xs) (fun i σ H1 => H1 = H ∧ ∃ o3, σ = [some vt, some (.ref l), some (oV (walkT rows 0 (w.take i))), o3] ∧ ∀ t, walkT rows 0 (w.take i) = some t → t < rows.length) ⟨rfl, _, rfl, fun t h => by have : 0 = t := Option.some.inj h; omega⟩ (fun i σ H1 _ ⟨e, _⟩ => by rw [e]; exact SqL.of hl) ?_ ?_
    · intro i x σ H1 hx ⟨e, o3, hσ, ht⟩
      subst e hσ
      obtain ⟨a, ha, hxa⟩ := pd_get hw hx
      have hnext : walkT rows 0 (w.take (i + 1)) = (walkT rows 0 (w.take i)).bind fun t => stepT rows t a := by rw [take_get ha, walkT_snoc]
      cases hq : walkT rows 0 (w.take i) with
      | none =>
        rw [hq] at hnext
        refine ⟨_, rfl, rfl, _, rfl, ?_⟩
        refine iteF ?_
        refine ⟨rfl, some x, ?_, fun t h => ?_⟩
        · rw [hnext]
          rfl
        · rw [hnext] at h
          cases h
      | some t =>
        have htl := ht t hq
        rw [hq] at hnext
        obtain ⟨row, hrow⟩ : ∃ row, rows[t]? = some row := ⟨rows[t], by simp [htl]⟩
        refine ⟨_, rfl, rfl, _, rfl, ?_⟩
        refine iteT ?_
        refine ⟨_, rfl, _, rfl, _, rfl, vt, x, rows, ends, t, row, a, rfl, hT, hrow, hxa, ?_⟩
        have e1 : walkT rows 0 (w.take (i + 1)) = stepR row a := by
          rw [hnext, ← stepT_eq hrow]
          rfl
        refine ⟨rfl, some x, ?_, fun t2 h => ?_⟩
        · rw [e1]
          rfl
        · rw [e1, ← stepT_eq hrow] at h
          exact W.goal h
    · intro σ H1 ⟨e, o3, hσ, ht⟩
      subst e hσ
      rw [pd_len hw, List.take_length]
      exact ⟨_, rfl, k⟩
end
end Pk
/-! A conducted table. -/
namespace Pk
open PySem L2 PM
abbrev Edges := List (Nat × A3 × Nat)
def lab (x q : Str) : Str := x ++ "." ++ q
/-- rows as the edges are laid, plain -/
structure CP (n : Nat) (E : Edges) (k : Str) (rows : Rows Str) : Prop where
  len : rows.length = n + 2 * E.length
  orig : ∀ (s : Nat) (row : Row Str), s < n → rows[s]? = some row → ∀ a t, (a, t) ∈ row ↔ ∃ (i : Nat) (b : A3) (g : Nat), E[i]? = some (s, b, g) ∧ a = (k, b.1, lab b.2.2 b.2.1) ∧ t = n + 2 * i
  mid : ∀ (i s : Nat) (b : A3) (g : Nat), E[i]? = some (s, b, g) → rows[n + 2 * i]? = some [(b, n + 2 * i + 1)] ∧ rows[n + 2 * i + 1]? = some [((b.2.1, k, lab b.2.2 b.1), g)]
  det : ∀ row ∈ rows, Det row
  flat : rows.flatten.length ≤ 3 * E.length
  ed : (E.map fun e => (e.1, e.2.1)).Nodup
theorem get_app {α : Type} {l m : List α} {i : Nat} {x : α} (h : (l ++ m)[i]? = some x) : (i < l.length ∧ l[i]? = some x) ∨ (l.length ≤ i ∧ m[i - l.length]? = some x) := by
  by_cases hi : i < l.length
  · rw [List.getElem?_append_left hi] at h
    exact .inl ⟨hi, h⟩
  · rw [List.getElem?_append_right (by omega)] at h
    exact .inr ⟨by omega, h⟩
theorem CP.add {n : Nat} {E : Edges} {k : Str} {rows : Rows Str} (C : CP n E k rows) {s : Nat} {b : A3} {g : Nat} {row : Row Str} (hs : s < n) (hrow : rows[s]? = some row) (hnew : ∀ (i : Nat) (b' : A3) (g' : Nat), E[i]? = some (s, b', g') → (k, b.1, lab b.2.2 b.2.1) ≠ (k, b'.1, lab b'.2.2 b'.2.1)) :
    CP n (E ++ [(s, b, g)]) k ((rows.set s (row ++ [((k, b.1, lab b.2.2 b.2.1), rows.length)])) ++ [[(b, rows.length + 1)]] ++ [[((b.2.1, k, lab b.2.2 b.1), g)]]) := by
  have hl := C.len
  have hsl : s < rows.length := by omega
  have hset : (rows.set s (row ++ [((k, b.1, lab b.2.2 b.2.1), rows.length)])).length = rows.length := List.length_set
  have hold : ∀ (i : Nat) x, i < rows.length → (((rows.set s (row ++ [((k, b.1, lab b.2.2 b.2.1), rows.length)])) ++ [[(b, rows.length + 1)]] ++ [[((b.2.1, k, lab b.2.2 b.1), g)]])[i]? = some x ↔ (rows.set s (row ++ [((k, b.1, lab b.2.2 b.2.1), rows.length)]))[i]? = some x) := fun i x hi => by
    rw [List.append_assoc, List.getElem?_append_left (by rw [hset]; exact hi)]
  refine ⟨?_, fun s' row' hs' hr a t => ?_, fun i s' b' g' hE => ?_, fun r hr => ?_, ?_, ?_⟩
  · rw [List.length_append, List.length_append, hset, List.length_append, hl]
    simp only [List.length_singleton]
    omega
  · rw [hold s' row' (by omega)] at hr
    by_cases e : s' = s
    · subst e
      rw [List.getElem?_set_self hsl] at hr
      have hr := (Option.some.inj hr).symm
      subst hr
      rw [List.mem_append, C.orig s' row hs' hrow, List.mem_singleton]
      constructor
      · rintro (⟨i, b', g', h1, h2, h3⟩ | h)
        · exact ⟨i, b', g', get_grow h1, h2, h3⟩
        · cases h
          exact ⟨E.length, b, g, get_last, rfl, by omega⟩
      · rintro ⟨i, b', g', h1, h2, h3⟩
        by_cases hi : i < E.length
        · exact .inl ⟨i, b', g', get_grow' hi h1, h2, h3⟩
        · have h4 := (List.getElem?_eq_some_iff.mp h1).1
          rw [List.length_append, List.length_singleton] at h4
          have e : i = E.length := by omega
          subst e
          rw [get_last] at h1
          cases h1
          refine .inr ?_
          rw [h2, h3, hl]
    · rw [List.getElem?_set_ne (fun z => e z.symm)] at hr
      rw [C.orig s' row' hs' hr]
      constructor
      · rintro ⟨i, b', g', h1, h2, h3⟩
        exact ⟨i, b', g', get_grow h1, h2, h3⟩
      · rintro ⟨i, b', g', h1, h2, h3⟩
        by_cases hi : i < E.length
        · exact ⟨i, b', g', get_grow' hi h1, h2, h3⟩
        · have h4 := (List.getElem?_eq_some_iff.mp h1).1
          rw [List.length_append, List.length_singleton] at h4
          have e' : i = E.length := by omega
          subst e'
          rw [get_last] at h1
          cases h1
          exact absurd rfl e
  · by_cases hi : i < E.length
    · obtain ⟨h1, h2⟩ := C.mid i s' b' g' (get_grow' hi hE)
      refine ⟨(hold _ _ (by omega)).mpr ?_, (hold _ _ (by omega)).mpr ?_⟩
      · rw [List.getElem?_set_ne (by omega)]; exact h1
      · rw [List.getElem?_set_ne (by omega)]; exact h2
    · have h4 := (List.getElem?_eq_some_iff.mp hE).1
      rw [List.length_append, List.length_singleton] at h4
      have e' : i = E.length := by omega
      subst e'
      rw [get_last] at hE
      cases hE
      have e1 : n + 2 * E.length = rows.length := hl.symm
      rw [e1]
      refine ⟨?_, ?_⟩
      · rw [List.getElem?_append_left (by rw [List.length_append, hset]; simp), List.getElem?_append_right (by rw [hset]; exact Nat.le_refl _), hset]
        simp
      · rw [List.getElem?_append_right (by rw [List.length_append, hset]; simp), List.length_append, hset]
        simp
  · rcases List.mem_append.mp hr with hr | hr
    · rcases List.mem_append.mp hr with hr | hr
      · rcases List.mem_or_eq_of_mem_set hr with h | h
        · exact C.det r h
        · subst h
          unfold Det
          rw [List.map_append]
          refine nodup_snoc (C.det row (List.mem_of_getElem? hrow)) fun hm => ?_
          obtain ⟨e, he, h2⟩ := List.mem_map.mp hm
          obtain ⟨i, b', g', g1, g2, g3⟩ := (C.orig s row hs hrow e.1 e.2).mp he
          exact hnew i b' g' g1 ((show e.1 = (k, b.1, lab b.2.2 b.2.1) from h2).symm.trans g2)
      · rw [List.mem_singleton] at hr
        subst hr
        exact List.pairwise_singleton _ _
    · rw [List.mem_singleton] at hr
      subst hr
      exact List.pairwise_singleton _ _
  · have := flat_set (y := row ++ [((k, b.1, lab b.2.2 b.2.1), rows.length)]) hrow (by rw [List.length_append]; exact Nat.le_refl _)
    have := C.flat
    simp only [List.flatten_append, List.length_append, List.flatten_cons, List.flatten_nil, List.length_cons, List.length_nil]
    omega
  · rw [List.map_append]
    refine nodup_snoc C.ed fun hm => ?_
    obtain ⟨e, he, h2⟩ := List.mem_map.mp hm
    obtain ⟨i, hi⟩ := List.getElem?_of_mem he
    have h3 : e.1 = s := congrArg Prod.fst h2
    have h4 : e.2.1 = b := congrArg Prod.snd h2
    exact hnew i b e.2.2 (by rw [hi, ← h3, ← h4]) rfl
/-- the rows of the lists, each sorted -/
def PermR (row' row : Row Str) : Prop := row'.Perm row
theorem stepT_mem {rows : Rows Str} {s : Nat} {row : Row Str} (h : rows[s]? = some row) (hd : Det row) (a : A3) (t : Nat) : stepT rows s a = some t ↔ (a, t) ∈ row := by
  rw [stepT_eq h]
  exact ⟨stepR_mem, stepR_of hd⟩
theorem CP.cond {n : Nat} {E : Edges} {k : Str} {rows rows' : Rows Str} (C : CP n E k rows) (h : Paired PermR rows' rows) (hn : 0 < n) (hlt : ∀ e ∈ E, e.1 < n ∧ e.2.2 < n)
    (hinj : ∀ e ∈ E, ∀ e' ∈ E, ∀ (q q' : Str), lab e.2.1.2.2 q = lab e'.2.1.2.2 q' → e.2.1.2.2 = e'.2.1.2.2 ∧ q = q') (hkp : ∀ e ∈ E, e.2.1.1 ≠ k ∧ e.2.1.2.1 ≠ k ∧ e.2.1.1 ≠ e.2.1.2.1) :
    Cond n E k lab rows' ∧ WF rows' ∧ rows'.flatten.length ≤ 3 * E.length := by
  have hlen := pd_len h
  have hget : ∀ s row, rows[s]? = some row → ∃ row', rows'[s]? = some row' ∧ row'.Perm row ∧ Det row' := fun s row hr => by
    obtain ⟨row', h1, h2⟩ := pd_get2 h hr
    refine ⟨row', h1, h2, ?_⟩
    unfold Det
    exact ((List.Perm.map (fun e : A3 × Nat => e.1) h2).nodup_iff).mpr (C.det row (List.mem_of_getElem? hr))
  have hone : ∀ s e, rows[s]? = some [e] → ∀ a t, stepT rows' s a = some t ↔ a = e.1 ∧ t = e.2 := fun s e hr a t => by
    obtain ⟨row', h1, h2, h3⟩ := hget s _ hr
    rw [stepT_mem h1 h3, h2.mem_iff, List.mem_singleton]
    constructor
    · intro z; rw [← z]; exact ⟨rfl, rfl⟩
    · rintro ⟨z1, z2⟩; rw [z1, z2]
  refine ⟨⟨hn, hlen.trans C.len, fun s a t hs => ?_, fun i s b g hE a t => ?_, fun i s b g hE a t => ?_, fun e he e' he' q q' _ _ => hinj e he e' he' q q', hkp, fun i j s b g g' h1 h2 => ?_, hlt⟩, ⟨fun row hr => ?_, fun row hr e he => ?_⟩, ?_⟩
  · have hsl : s < rows.length := by have := C.len; omega
    have hr : rows[s]? = some rows[s] := List.getElem?_eq_getElem hsl
    obtain ⟨row', h1, h2, h3⟩ := hget s _ hr
    rw [stepT_mem h1 h3, h2.mem_iff]
    exact C.orig s _ hs hr a t
  · exact hone _ _ (C.mid i s b g hE).1 a t
  · exact hone _ _ (C.mid i s b g hE).2 a t
  · have hi : i < (E.map fun e => (e.1, e.2.1)).length := by rw [List.length_map]; exact (List.getElem?_eq_some_iff.mp h1).1
    have hj : j < (E.map fun e => (e.1, e.2.1)).length := by rw [List.length_map]; exact (List.getElem?_eq_some_iff.mp h2).1
    have e1 : (E.map fun e => (e.1, e.2.1))[i]? = some (s, b) := by rw [List.getElem?_map, h1]; rfl
    have e2 : (E.map fun e => (e.1, e.2.1))[j]? = some (s, b) := by rw [List.getElem?_map, h2]; rfl
    refine (List.getElem_inj C.ed (h₀ := hi) (h₁ := hj)).mp ?_
    rw [List.getElem?_eq_getElem hi] at e1
    rw [List.getElem?_eq_getElem hj] at e2
    rw [Option.some.inj e1, Option.some.inj e2]
  · obtain ⟨row0, h1, h2⟩ := pd_memL h hr
    unfold Det
    exact ((List.Perm.map (fun e : A3 × Nat => e.1) h2).nodup_iff).mpr (C.det row0 h1)
  · obtain ⟨s, hs⟩ := List.getElem?_of_mem hr
    obtain ⟨row0, h1, h2⟩ := pd_get h hs
    have he0 : e ∈ row0 := (List.Perm.mem_iff h2).mp he
    have hsl : s < rows.length := (List.getElem?_eq_some_iff.mp h1).1
    have hl := C.len
    rw [hlen, hl]
    by_cases hsn : s < n
    · obtain ⟨i, b, g, g1, g2, g3⟩ := (C.orig s row0 hsn h1 e.1 e.2).mp he0
      have := (List.getElem?_eq_some_iff.mp g1).1
      omega
    · have hi : (s - n) / 2 < E.length := by omega
      have hE : E[(s - n) / 2]? = some E[(s - n) / 2] := List.getElem?_eq_getElem hi
      obtain ⟨m1, m2⟩ := C.mid _ _ _ _ hE
      by_cases hp : (s - n) % 2 = 0
      · have e1 : n + 2 * ((s - n) / 2) = s := by omega
        rw [e1, h1] at m1
        have m1 := Option.some.inj m1
        rw [m1, List.mem_singleton] at he0
        rw [he0]
        show s + 1 < _
        omega
      · have e1 : n + 2 * ((s - n) / 2) + 1 = s := by omega
        rw [e1, h1] at m2
        have m2 := Option.some.inj m2
        rw [m2, List.mem_singleton] at he0
        rw [he0]
        have := (hlt _ (List.getElem_mem hi)).2
        show (E[(s - n) / 2]).2.2 < _
        omega
  · have key : ∀ {rows rows' : Rows Str}, Paired PermR rows' rows → rows'.flatten.length = rows.flatten.length := by
      intro rows rows' h
      induction h with
      | nil => rfl
      | cons r t ih =>
        simp only [List.flatten_cons, List.length_append]
        rw [ih, List.Perm.length_eq r]
    rw [key h]
    exact C.flat
end Pk
/-! _law_conducted. -/
namespace Pk
open PySem L2 PM
structure CH (H0 H1 : Hp) (Rw : Addr) (rs : List Addr) (rows : Rows Str) : Prop where
  same : Same H0 H1
  no : H0 Rw = none
  lst : H1 Rw = some (.lst (rs.map V.ref))
  rw_ : Paired (fun r row => ∃ xs, H1 r = some (.lst xs) ∧ Paired (EdgeAt H1) xs row) rs rows
  nd : rs.Nodup
  new : ∀ r ∈ rs, H0 r = none ∧ r ≠ Rw
section
variable {H0 H1 H2 : Hp} {Rw r : Addr} {rs : List Addr} {rows : Rows Str}
theorem CH.grow (C : CH H0 H1 Rw rs rows) (s : Same H1 H2) : CH H0 H2 Rw rs rows :=
  ⟨fun b o z => s b o (C.same b o z), C.no, s _ _ C.lst, pd_mono C.rw_ fun _ _ ⟨xs, h1, h2⟩ => ⟨xs, s _ _ h1, pd_mono h2 fun _ _ z => z.mono (same_tups s)⟩, C.nd, C.new⟩
theorem CH.app (C : CH H0 H1 Rw rs rows) {i : Nat} {row : Row Str} {xs : List V} {v : V} {e : A3 × Nat} (hr : rs[i]? = some r) (hx : H1 r = some (.lst xs)) (hp : Paired (EdgeAt H1) xs row) (hv : EdgeAt H1 v e) : CH H0 (upd H1 r (.lst (xs ++ [v]))) Rw rs (rows.set i (row ++ [e])) := by
  obtain ⟨h1, h2⟩ := C.new r (List.mem_of_getElem? hr)
  have t := tups_lst (o := .lst (xs ++ [v])) hx
  refine ⟨same_upd C.same h1, C.no, (upd_ne (Ne.symm h2)).trans C.lst, pd_setD C.nd C.rw_ hr (fun d' y hne ⟨ys, g1, g2⟩ => ⟨ys, (upd_ne hne).trans g1, pd_mono g2 fun _ _ z => z.mono t⟩) ⟨_, upd_same, pd_snoc (pd_mono hp fun _ _ z => z.mono t) (hv.mono t)⟩, C.nd, C.new⟩
theorem CH.push (C : CH H0 H1 Rw rs rows) {xs : List V} {row : Row Str} (hr : r ∉ rs) (hR : r ≠ Rw) (h0 : H0 r = none) (hx : H1 r = some (.lst xs)) (hp : Paired (EdgeAt H1) xs row) : CH H0 (upd H1 Rw (.lst (rs.map V.ref ++ [.ref r]))) Rw (rs ++ [r]) (rows ++ [row]) := by
  have t := tups_lst (o := .lst (rs.map V.ref ++ [.ref r])) C.lst
  refine ⟨same_upd C.same C.no, C.no, by rw [upd_same, List.map_append]; rfl, pd_snoc ?_ ⟨xs, (upd_ne hR).trans hx, pd_mono hp fun _ _ z => z.mono t⟩, nodup_snoc C.nd hr, fun z hz => ?_⟩
  · have key : ∀ {rs' : List Addr} {rows : Rows Str}, (∀ z ∈ rs', z ≠ Rw) → Paired (fun r row => ∃ xs, H1 r = some (.lst xs) ∧ Paired (EdgeAt H1) xs row) rs' rows →
        Paired (fun z row => ∃ xs, upd H1 Rw (.lst (rs.map V.ref ++ [.ref r])) z = some (.lst xs) ∧ Paired (EdgeAt (upd H1 Rw (.lst (rs.map V.ref ++ [.ref r])))) xs row) rs' rows := by
      intro rs' rows hm h
      induction h with
      | nil => exact .nil
      | cons r1 t1 ih =>
        obtain ⟨ys, g1, g2⟩ := r1
        exact .cons ⟨ys, (upd_ne (hm _ List.mem_cons_self)).trans g1, pd_mono g2 fun _ _ z => z.mono t⟩ (ih fun z hz => hm z (List.mem_cons_of_mem _ hz))
    exact key (fun z hz => (C.new z hz).2) C.rw_
  · rcases List.mem_append.mp hz with hz | hz
    · exact C.new z hz
    · rw [List.mem_singleton] at hz
      subst hz
      exact ⟨h0, hR⟩
theorem CH.len (C : CH H0 H1 Rw rs rows) : rs.length = rows.length := pd_len C.rw_
/-- a place that is free -/
theorem CH.fresh (C : CH H0 H1 Rw rs rows) {b : Addr} (h : H1 b = none) : b ∉ rs ∧ b ≠ Rw ∧ H0 b = none := by
  refine ⟨fun z => ?_, fun e => ?_, same_none C.same h⟩
  · obtain ⟨row, _, xs, h1, _⟩ := pd_memL C.rw_ z
    rw [h] at h1; cases h1
  · have := C.lst
    rw [← e, h] at this; cases this
end
theorem len_app (x y : Str) : (x ++ y).length = x.length + y.length := by
  rw [← SX.S_tl x, ← SX.S_tl y, SX.S_cat, SX.S_len, SX.S_len, SX.S_len, List.length_append]
theorem not_take {α : Type} {l : List α} {j : Nat} {x : α} (h : l.Nodup) (hj : l[j]? = some x) : x ∉ l.take j := fun hm => by
  have h2 : (l.take (j + 1)).Nodup := h.sublist (List.take_sublist _ _)
  rw [take_get hj, List.nodup_append] at h2
  exact h2.2.2 x hm x (by simp) rfl
/-- the edges that are laid so far -/
structure EI (A : Rows Str) (E : Edges) (K j : Nat) : Prop where
  of : ∀ x ∈ E, ∃ row, A[x.1]? = some row ∧ (x.2.1, x.2.2) ∈ row ∧ (x.1 < K ∨ (x.1 = K ∧ x.2.1 ∈ (row.take j).map (·.1)))
  len : E.length = (A.take K).flatten.length + j
theorem EI.start (A : Rows Str) : EI A [] 0 0 := ⟨(fun _ h => nomatch h), by simp⟩
theorem EI.next {A : Rows Str} {E : Edges} {K : Nat} {row : Row Str} (I : EI A E K row.length) (h : A[K]? = some row) : EI A E (K + 1) 0 := by
  refine ⟨fun x hx => ?_, ?_⟩
  · obtain ⟨r, h1, h2, h3⟩ := I.of x hx
    exact ⟨r, h1, h2, .inl (by rcases h3 with h3 | h3 <;> omega)⟩
  · rw [I.len, flat_take h, List.length_append]
    rfl
theorem EI.step {A : Rows Str} {E : Edges} {K j : Nat} {row : Row Str} {e : A3 × Nat} (I : EI A E K j) (h : A[K]? = some row) (he : row[j]? = some e) : EI A (E ++ [(K, e.1, e.2)]) K (j + 1) := by
  refine ⟨fun x hx => ?_, by rw [List.length_append, I.len]; rfl⟩
  rcases List.mem_append.mp hx with hx | hx
  · obtain ⟨r, h1, h2, h3⟩ := I.of x hx
    refine ⟨r, h1, h2, h3.imp id fun ⟨h4, h5⟩ => ⟨h4, ?_⟩⟩
    obtain ⟨y, hy, e2⟩ := List.mem_map.mp h5
    refine List.mem_map.mpr ⟨y, ?_, e2⟩
    rw [List.take_succ]
    exact List.mem_append_left _ hy
  · rw [List.mem_singleton] at hx
    subst hx
    refine ⟨row, h, List.mem_of_getElem? he, .inr ⟨rfl, List.mem_map.mpr ⟨e, ?_, rfl⟩⟩⟩
    rw [take_get he]
    simp
theorem EI.new {A : Rows Str} {E : Edges} {K j : Nat} {row : Row Str} {e : A3 × Nat} (I : EI A E K j) (W : WF A) (h : A[K]? = some row) (he : row[j]? = some e) (i : Nat) (g : Nat) : E[i]? ≠ some (K, e.1, g) := fun hE => by
  obtain ⟨r, h1, h2, h3⟩ := I.of _ (List.mem_of_getElem? hE)
  rw [show A[(K, e.1, g).1]? = A[K]? from rfl, h] at h1
  cases h1
  rcases h3 with h3 | ⟨_, h3⟩
  · exact absurd h3 (Nat.lt_irrefl K)
  · have hd : (row.map (·.1)).Nodup := W.det row (List.mem_of_getElem? h)
    refine not_take hd (j := j) (x := e.1) (by rw [List.getElem?_map, he]; rfl) ?_
    rw [← List.map_take]
    exact h3
theorem cr_sortEK {X : Cx} {K : PySem.W.Frag} (e : X.K = K) (hu : X.A.units + 20 < cLine) : CallR X (.builtin "sorted") (rSortE K) := by
  subst e
  exact cr_sortE hu
section
variable {P : Program} {w : World} {K : PySem.W.Frag} {mg : Str → Option Value} {base : Heap}
abbrev sCond : Stmt := top 30
abbrev nCond : List Str := ["_law_table_here", "_law_leader", "_law_rows", "_law_ends", "_law_k", "_law_action", "_law_goal", "_law_sender", "_law_taker", "_law_label", "_law_place", "_law_row"]
def spCond : Sp := fun vs H Q _ => ∃ (vt : V) (k : Str) (A : Rows Str) (ends : List Bool), vs = [vt, .str k] ∧ TabAt H vt A ends ∧ ends.length = A.length ∧ WF A ∧ 0 < A.length ∧ A.length ≤ 10 ∧ A.flatten.length ≤ 100 ∧ k.length ≤ 100 ∧
  (∀ row ∈ A, ∀ e ∈ row, e.1.1.length ≤ 100 ∧ e.1.2.1.length ≤ 100 ∧ e.1.2.2.length ≤ 100 ∧ e.1.1 ≠ k ∧ e.1.2.1 ≠ k ∧ e.1.1 ≠ e.1.2.1) ∧
  (∀ row ∈ A, ∀ e ∈ row, ∀ row' ∈ A, ∀ e' ∈ row', ∀ (q q' : Str), lab e.1.2.2 q = lab e'.1.2.2 q' → e.1.2.2 = e'.1.2.2 ∧ q = q') ∧
  ∀ (H' : Hp) (v : V) (rows : Rows Str) (ends' : List Bool) (E : Edges), Same H H' → TabAt H' v rows ends' → ends'.length = rows.length → Cond A.length E k lab rows → WF rows → rows.flatten.length ≤ 3 * E.length → E.length ≤ A.flatten.length → Q v H'
theorem scCond : FnScope nCond ["_law_table_here", "_law_leader"] (C8.fnScope sCond) := C8.fnScope_by (by decide +kernel)
theorem cal_cond {f : Addr} {fd : FuncData} (D : C8.Def K mg "_law_conducted" sCond f fd) (b : Binds K fd ["_law_table_here", "_law_leader"] []) (T : Tx mg) : C8.Cal P w K mg base 1 "_law_conducted" spCond [] := by
  have nd := scCond.nd
  refine C8.cal0 D b .nil scCond (fun vs H Q E h => ?_) (fun cdv A0 outer s0 H vs Q E hr h => ?_)
  · obtain ⟨vt, k, A, ends, rfl, _⟩ := h
    rfl
  · obtain ⟨vt, kk, A, ends, rfl, hT, hel, W, hpos, hA10, hfl, hkl, hfacts, hinj, k⟩ := h
    have hz := sizeLine_eq
    refine ⟨_, pss_cons (ps_setLc (i := 2) (own := [("_law_row", 11)]) (g := gName 11) rfl nd rfl rfl (sw_true rfl rfl rfl (by decide +kernel)) (pi_tup (pe_ix ix_tup (pv 0) pe_int (fun _ _ => rfl))) (blkOk_by (N := nCond) (sc := C8.fnScope sCond) (by decide +kernel)) (fun _ _ _ _ _ => (pg_name (i := 11) nd rfl (Or.inl rfl))) (fun _ _ _ _ _ => pts_nil) (fun _ _ _ _ _ => pe_lst pa_nil))
      (pss_cons (ps_set (i := 3) nd rfl (.inl rfl) (pe_callTy call_list_of (by rfl) T.list (by decide +kernel) (pa_cons (pe_ix ix_tup (pv 0) pe_int (fun _ _ => rfl)) pa_nil)))
      (pss_cons (ps_for PassesOwn.never rfl (pi_range1 (by rfl) T.range (pa_cons (pe_callB call_len_seq (by rfl) T.len PySem.boot_len (pa_cons (pe_ix ix_tup (pv 0) pe_int (fun _ _ => rfl)) pa_nil)) pa_nil)) (pg_name (i := 4) nd rfl (Or.inl rfl))
        (pss_one (ps_for PassesOwn.never rfl (pi_tup (pe_ix ix_tup (pe_ix ix_tup (pv 0) pe_int (fun _ _ => rfl)) (pv 4) (fun _ _ => rfl))) (pg_tup rfl (pgs_cons (pg_name (i := 5) nd rfl (Or.inl rfl)) (pgs_cons (pg_name (i := 6) nd rfl (Or.inl rfl)) pgs_nil)))
          (pss_cons (ps_asg (pv 5) (pg_tup rfl (pgs_cons (pg_name (i := 7) nd rfl (Or.inl rfl)) (pgs_cons (pg_name (i := 8) nd rfl (Or.inl rfl)) (pgs_cons (pg_name (i := 9) nd rfl (Or.inl rfl)) pgs_nil)))))
          (pss_cons (ps_set (i := 10) nd rfl (.inl rfl) (pe_callB call_len_seq (by rfl) T.len PySem.boot_len (pa_cons (pv 2) pa_nil)))
          (pss_cons (ps_expr (pe_bm PySem.F.plainAttrs_list PySem.F.slot_list_append PySem.F.type_list_append mt_append (pe_ix ix_list (pv 2) (pv 4) (fun _ _ => rfl)) (pa_cons (pe_tup (pa_cons (pe_tup (pa_cons (pv 1) (pa_cons (pv 7) (pa_cons (pe_op op_add_str (pe_op op_add_str (pv 9) pe_str) (pv 8)) pa_nil)))) (pa_cons (pv 10) pa_nil))) pa_nil)))
          (pss_cons (ps_expr (pe_bm PySem.F.plainAttrs_list PySem.F.slot_list_append PySem.F.type_list_append mt_append (pv 2) (pa_cons (pe_lst (pa_cons (pe_tup (pa_cons (pv 5) (pa_cons (pe_op op_add (pv 10) pe_int) pa_nil))) pa_nil)) pa_nil)))
          (pss_cons (ps_expr (pe_bm PySem.F.plainAttrs_list PySem.F.slot_list_append PySem.F.type_list_append mt_append (pv 2) (pa_cons (pe_lst (pa_cons (pe_tup (pa_cons (pe_tup (pa_cons (pv 8) (pa_cons (pv 1) (pa_cons (pe_op op_add_str (pe_op op_add_str (pv 9) pe_str) (pv 7)) pa_nil)))) (pa_cons (pv 6) pa_nil))) pa_nil)) pa_nil)))
          (pss_one (ps_set (i := 3) nd rfl (.inl rfl) (pe_op op_cat (pv 3) (pe_lst (pa_cons pe_bl (pa_cons pe_bl pa_nil))))))))))))))
      (pss_one (ps_ret (pe_tup (pa_cons pe_str (pa_cons (pe_callTy (cr_tup (K := K) rfl) (by rfl) T.tuple (by decide +kernel) (pa_cons
          (pe_lc (own := [("_law_row", 11)]) (g := gName 11) rfl nd (pi_list (pv 2)) (blkOk_by (N := nCond) (sc := C8.fnScope sCond) (by decide +kernel)) (fun _ _ _ _ _ => (pg_name (i := 11) nd rfl (Or.inl rfl))) (fun _ _ _ _ _ => pts_nil) (fun _ _ _ _ _ => pe_callTy (cr_tup (K := K) rfl) (by rfl) T.tuple (by decide +kernel) (pa_cons (pe_callB (cr_sortEK (K := K) rfl (hu20 hr)) (by rfl) T.sorted (by decide +kernel) (pa_cons (pv 11) pa_nil)) pa_nil))) pa_nil))
        (pa_cons (pe_callTy (cr_tup (K := K) rfl) (by rfl) T.tuple (by decide +kernel) (pa_cons (pv 3) pa_nil)) pa_nil)))))))), ?_⟩
    obtain ⟨p, vr, ve, rfl, hp, hR, pe, rfl, hpe⟩ := hT
    obtain ⟨pr, vrs, rfl, hpr, hrs⟩ := hR
    have hrows := pd_len hrs
    refine ⟨_, rfl, p, _, 1, _, rfl, rfl, SqT.of hp, at1, pr, rfl, ⟨_, SqT.of hpr⟩, fun Rw hRw => ?_⟩
    refine lc_tup (xs := vrs) (fun i H2 => ∃ rs, CH H H2 Rw rs (List.replicate i [])) ⟨[], same_new hRw, hRw, upd_same, .nil, List.nodup_nil, (fun _ h => nomatch h)⟩ (fun i H2 _ ⟨_, C⟩ => SqT.of (C.same _ _ hpr)) ?_ ?_
    · rintro i x H2 hx ⟨rs, C⟩
      have hil := (List.getElem?_eq_some_iff.mp hx).1
      have hrl := C.len
      rw [List.length_replicate] at hrl
      refine ⟨rfl, yes_if ?_⟩
      refine ⟨Nat.zero_le _, fun l hl => ?_⟩
      obtain ⟨g1, g2, g3⟩ := C.fresh hl
      have C2 := C.grow (same_new (o := .lst []) hl)
      refine ⟨rs.map V.ref, C2.lst, by rw [List.length_map]; omega, rs ++ [l], ?_⟩
      rw [List.replicate_succ']
      exact C2.push g1 g2 g3 upd_same .nil
    rintro H2 ⟨rs, C⟩
    rw [hrows] at C
    refine ⟨_, rfl, p, _, 2, _, rfl, rfl, SqT.of (C.same _ _ hp), at2, pe, _, rfl, .inr (SqT.of (C.same _ _ hpe)), fun Ed hEd => ?_⟩
    have fE := C.fresh hEd
    have C3 := C.grow (same_new (o := .lst (ends.map V.bl)) hEd)
    have hEd3 : upd H2 Ed (.lst (ends.map V.bl)) Ed = some (.lst (ends.map V.bl)) := upd_same
    have CP3 : CP A.length [] kk (List.replicate A.length []) := ⟨by rw [List.length_replicate]; rfl, fun s row hs hr a t => ⟨fun h => (by rw [List.eq_of_mem_replicate (List.mem_of_getElem? hr)] at h; cases h), fun ⟨_, _, _, h, _⟩ => (by simp at h)⟩, fun i s b g h => (by simp at h), fun row hr => (by rw [List.eq_of_mem_replicate hr]; exact List.nodup_nil), by simp, List.nodup_nil⟩
    clear C hEd
    generalize upd H2 Ed (.lst (ends.map V.bl)) = H3 at *
    refine ⟨_, rfl, p, _, 1, _, rfl, rfl, SqT.of (C3.same _ _ hp), at1, pr, _, rfl, .inr (SqT.of (C3.same _ _ hpr)), (vrs.length : Int), rfl, by omega, by omega, ?_⟩
    rw [hrows]
    refine for_range (lo := 0) (n := A.length) (fun i σ H4 => ∃ (rs : List Addr) (rows : Rows Str) (Ed : Addr) (es : List Bool) (E : Edges) (o4 o5 o6 o7 o8 o9 o10 o11 : Option V), σ = [some (.ref p), some (.str kk), some (.ref Rw), some (.ref Ed), o4, o5, o6, o7, o8, o9, o10, o11] ∧
        CH H H4 Rw rs rows ∧ H4 Ed = some (.lst (es.map V.bl)) ∧ Ed ≠ Rw ∧ Ed ∉ rs ∧ es.length = rows.length ∧ CP A.length E kk rows ∧ EI A E i 0)
      ⟨rs, _, Ed, ends, [], _, _, _, _, _, _, _, _, rfl, C3, hEd3, fE.2.1, fE.1, by rw [hel, List.length_replicate], CP3, EI.start A⟩ ?_ ?_
    · clear C3 hEd3 fE CP3 rs Ed H2 H3
      rintro i σ H4 hi ⟨rs, rows, Ed, es, E, o4, o5, o6, o7, o8, o9, o10, o11, hσ, C, hEd, hER, hErs, hel2, CPi, EIi⟩
      subst hσ
      have hrow : A[i]? = some A[i] := List.getElem?_eq_getElem hi
      obtain ⟨vx, hvx, q, xs, rfl, hq, hxs⟩ := pd_get2 hrs hrow
      have hmem := List.mem_of_getElem? hrow
      generalize A[i] = arow at hrow hxs hmem
      have hfg := flat_ge hmem
      refine ⟨_, rfl, p, _, 1, _, rfl, rfl, SqT.of (C.same _ _ hp), at1, _, rfl, pr, _, (i : Int), _, rfl, by rw [Int.zero_add], SqT.of (C.same _ _ hpr), atI_nat hvx, q, rfl, ⟨_, SqT.of (C.same _ _ hq)⟩, ?_⟩
      refine for_tup (xs := xs) (fun j σ H4 => ∃ (rs : List Addr) (rows : Rows Str) (Ed : Addr) (es : List Bool) (E : Edges) (o5 o6 o7 o8 o9 o10 o11 : Option V), σ = [some (.ref p), some (.str kk), some (.ref Rw), some (.ref Ed), some (.int (0 + (i : Int))), o5, o6, o7, o8, o9, o10, o11] ∧
        CH H H4 Rw rs rows ∧ H4 Ed = some (.lst (es.map V.bl)) ∧ Ed ≠ Rw ∧ Ed ∉ rs ∧ es.length = rows.length ∧ CP A.length E kk rows ∧ EI A E i j)
        ⟨rs, rows, Ed, es, E, _, _, _, _, _, _, _, rfl, C, hEd, hER, hErs, hel2, CPi, EIi⟩ (fun j σ H4 _ ⟨_, _, _, _, _, _, _, _, _, _, _, _, _, C, _⟩ => SqT.of (C.same _ _ hq)) ?_ ?_
      · clear C hEd hER hErs hel2 CPi EIi rs rows Ed es E H4
        rintro j y σ H4 hy ⟨rs, rows, Ed, es, E, o5, o6, o7, o8, o9, o10, o11, hσ, C, hEd, hER, hErs, hel2, CPi, EIi⟩
        subst hσ
        obtain ⟨ed, hed, pt, va, rfl, hpt, pa, rfl, hpa⟩ := pd_get hxs hy
        have hedm := List.mem_of_getElem? hed
        obtain ⟨t1, t2, t3, n1, n2, n3⟩ := hfacts arow hmem ed hedm
        have hjl := (List.getElem?_eq_some_iff.mp hed).1
        have hrowsl := CPi.len
        have hil : i < rows.length := by omega
        have hrw : rows[i]? = some rows[i] := List.getElem?_eq_getElem hil
        obtain ⟨r, hr1, ys, hys, hpy⟩ := pd_get2 C.rw_ hrw
        generalize rows[i] = row0 at hrw hpy
        have hrl := C.len
        have hEl := EIi.len
        have hEA : (A.take i).flatten.length + arow.length ≤ A.flatten.length := by
          have h1 := flat_take hrow
          have h2 : (A.take (i + 1)).flatten.length ≤ A.flatten.length := by
            conv => rhs; rw [← List.take_append_drop (i + 1) A, List.flatten_append, List.length_append]
            omega
          rw [h1, List.length_append] at h2
          exact h2
        have hyl : ys.length ≤ 1000 := by
          have h1 := pd_len hpy
          have h2 := flat_ge (List.mem_of_getElem? hrw)
          have h3 := CPi.flat
          omega
        have hrv : (rs.map V.ref)[i]? = some (.ref r) := by rw [List.getElem?_map, hr1]; rfl
        have h0 : ∀ {H5 : Hp}, Same H4 H5 → Same H H5 := fun s b o z => s b o (C.same b o z)
        refine ⟨_, _, rfl, SqT.of (C.same _ _ hpt), rfl, _, _, rfl, _, _, rfl, rfl, ?_⟩
        refine ⟨_, rfl, pa, _, rfl, SqT.of (C.same _ _ hpa), rfl, _, _, rfl, _, _, rfl, _, _, rfl, rfl, ?_⟩
        refine ⟨_, rfl, Rw, _, rfl, .inl (SqL.of C.lst), ?_⟩
        rw [List.length_map, hrl]
        have hl1 : (ed.1.2.2 ++ ("." : Str)).length ≤ 101 := by rw [len_app]; show _ + 1 ≤ _; omega
        -- rows[k].append
        refine ⟨_, rfl, _, rfl, Rw, _, (i : Int), _, rfl, by rw [Int.zero_add], SqL.of C.lst, atI_nat hrv, .inl ⟨rfl, _, SqL.of hys⟩, ?_⟩
        refine ⟨_, rfl, _, rfl, _, rfl, _, _, rfl, rfl, by show _ + 1 ≤ sizeLine; omega, _, rfl, _, _, rfl, rfl, by omega, by show 3 ≤ sizeLine; omega, fun u1 hu1 => ?_⟩
        have s1 := same_new (o := .tup [.str kk, .str ed.1.1, .str (ed.1.2.2 ++ "." ++ ed.1.2.1)]) hu1
        have C1 := C.grow s1
        have a1 : ActAt (upd H4 u1 (.tup [.str kk, .str ed.1.1, .str (ed.1.2.2 ++ "." ++ ed.1.2.1)])) (.ref u1) (kk, ed.1.1, lab ed.1.2.2 ed.1.2.1) := ⟨u1, rfl, upd_same⟩
        have hys1 := s1 _ _ hys
        have hpy1 := pd_mono hpy fun _ _ z => z.mono (same_tups s1)
        have hEd1 := s1 _ _ hEd
        clear C hys hpy hEd s1 h0 hu1
        generalize upd H4 u1 (.tup [.str kk, .str ed.1.1, .str (ed.1.2.2 ++ "." ++ ed.1.2.1)]) = H5 at *
        refine ⟨_, rfl, by show 2 ≤ sizeLine; omega, fun u2 hu2 => ?_⟩
        have s2 := same_new (o := .tup [.ref u1, .int (rows.length : Nat)]) hu2
        have C2 := C1.grow s2
        have e2 : EdgeAt (upd H5 u2 (.tup [.ref u1, .int (rows.length : Nat)])) (.ref u2) ((kk, ed.1.1, lab ed.1.2.2 ed.1.2.1), rows.length) := ⟨u2, .ref u1, rfl, upd_same, a1.mono (same_tups s2)⟩
        have hys2 := s2 _ _ hys1
        have hpy2 := pd_mono hpy1 fun _ _ z => z.mono (same_tups s2)
        have hEd2 := s2 _ _ hEd1
        clear C1 hys1 hpy1 hEd1 s2 a1 hu2
        generalize upd H5 u2 (.tup [.ref u1, .int (rows.length : Nat)]) = H6 at *
        refine ⟨r, ys, _, rfl, rfl, hys2, by omega, ?_⟩
        have C3 := C2.app hr1 hys2 hpy2 e2
        have hrE : Ed ≠ r := fun e => hErs (e ▸ List.mem_of_getElem? hr1)
        have hEd3 : upd H6 r (.lst (ys ++ [.ref u2])) Ed = some (.lst (es.map V.bl)) := (upd_ne hrE).trans hEd2
        clear C2 hEd2 hys2 hpy2 e2
        generalize upd H6 r (.lst (ys ++ [.ref u2])) = H7 at *
        -- rows.append([(action, place + 1)])
        refine ⟨_, rfl, .inl ⟨rfl, _, SqL.of C3.lst⟩, _, rfl, _, rfl, _, _, rfl, rfl, by show 2 ≤ sizeLine; omega, fun u3 hu3 => ?_⟩
        have s4 := same_new (o := .tup [.ref pa, .int ((rows.length : Int) + 1)]) hu3
        have C4 := C3.grow s4
        have hpa4 : (upd H7 u3 (.tup [.ref pa, .int ((rows.length : Int) + 1)])) pa = some (.tup [.str ed.1.1, .str ed.1.2.1, .str ed.1.2.2]) := C4.same _ _ hpa
        have e4 : EdgeAt (upd H7 u3 (.tup [.ref pa, .int ((rows.length : Int) + 1)])) (.ref u3) (ed.1, rows.length + 1) := ⟨u3, .ref pa, rfl, upd_same, pa, rfl, hpa4⟩
        have hEd4 := s4 _ _ hEd3
        clear C3 hEd3 s4 hu3 hpa4
        generalize upd H7 u3 (.tup [.ref pa, .int ((rows.length : Int) + 1)]) = H8 at *
        refine ⟨by show 1 ≤ sizeLine; omega, fun l1 hl1 => ?_⟩
        have fl1 := C4.fresh hl1
        have s5 := same_new (o := .lst [.ref u3]) hl1
        have C5 := C4.grow s5
        have hl15 : upd H8 l1 (.lst [.ref u3]) l1 = some (.lst [.ref u3]) := upd_same
        have e5 := e4.mono (same_tups s5)
        have hEd5 := s5 _ _ hEd4
        have hEl1 : Ed ≠ l1 := ne_of_none hEd4 hl1
        clear C4 hEd4 s5 hl1 e4
        generalize upd H8 l1 (.lst [.ref u3]) = H9 at *
        refine ⟨Rw, _, _, rfl, rfl, C5.lst, by rw [List.length_map]; omega, ?_⟩
        have C6 := C5.push fl1.1 fl1.2.1 fl1.2.2 hl15 (.cons e5 .nil)
        have hEd6 : upd H9 Rw (.lst (rs.map V.ref ++ [.ref l1])) Ed = some (.lst (es.map V.bl)) := (upd_ne hER).trans hEd5
        clear C5 hEd5 e5 hl15
        generalize upd H9 Rw (.lst (rs.map V.ref ++ [.ref l1])) = H10 at *
        -- rows.append([((taker, leader, ..), goal)])
        refine ⟨_, rfl, .inl ⟨rfl, _, SqL.of C6.lst⟩, ?_⟩
        refine ⟨_, rfl, _, rfl, _, rfl, _, _, rfl, rfl, by show _ + 1 ≤ sizeLine; omega, _, rfl, _, _, rfl, rfl, by omega, by show 3 ≤ sizeLine; omega, fun u5 hu5 => ?_⟩
        have s7 := same_new (o := .tup [.str ed.1.2.1, .str kk, .str (ed.1.2.2 ++ "." ++ ed.1.1)]) hu5
        have C7 := C6.grow s7
        have a7 : ActAt (upd H10 u5 (.tup [.str ed.1.2.1, .str kk, .str (ed.1.2.2 ++ "." ++ ed.1.1)])) (.ref u5) (ed.1.2.1, kk, lab ed.1.2.2 ed.1.1) := ⟨u5, rfl, upd_same⟩
        have hEd7 := s7 _ _ hEd6
        clear C6 hEd6 s7 hu5
        generalize upd H10 u5 (.tup [.str ed.1.2.1, .str kk, .str (ed.1.2.2 ++ "." ++ ed.1.1)]) = H11 at *
        refine ⟨_, rfl, by show 2 ≤ sizeLine; omega, fun u6 hu6 => ?_⟩
        have s8 := same_new (o := .tup [.ref u5, nV ed.2]) hu6
        have C8' := C7.grow s8
        have e8 : EdgeAt (upd H11 u6 (.tup [.ref u5, nV ed.2])) (.ref u6) ((ed.1.2.1, kk, lab ed.1.2.2 ed.1.1), ed.2) := ⟨u6, .ref u5, rfl, upd_same, a7.mono (same_tups s8)⟩
        have hEd8 := s8 _ _ hEd7
        clear C7 hEd7 s8 hu6 a7
        generalize upd H11 u6 (.tup [.ref u5, nV ed.2]) = H12 at *
        refine ⟨by show 1 ≤ sizeLine; omega, fun l2 hl2 => ?_⟩
        have fl2 := C8'.fresh hl2
        have s9 := same_new (o := .lst [.ref u6]) hl2
        have C9 := C8'.grow s9
        have hl29 : upd H12 l2 (.lst [.ref u6]) l2 = some (.lst [.ref u6]) := upd_same
        have e9 := e8.mono (same_tups s9)
        have hEd9 := s9 _ _ hEd8
        have hEl2 : Ed ≠ l2 := ne_of_none hEd8 hl2
        clear C8' hEd8 s9 hl2 e8
        generalize upd H12 l2 (.lst [.ref u6]) = H13 at *
        refine ⟨Rw, _, _, rfl, rfl, C9.lst, by rw [List.length_map, List.length_append, List.length_singleton]; omega, ?_⟩
        have C10 := C9.push fl2.1 fl2.2.1 fl2.2.2 hl29 (.cons e9 .nil)
        have hEd10 : upd H13 Rw (.lst ((rs ++ [l1]).map V.ref ++ [.ref l2])) Ed = some (.lst (es.map V.bl)) := (upd_ne hER).trans hEd9
        clear C9 hEd9 e9 hl29
        generalize upd H13 Rw (.lst ((rs ++ [l1]).map V.ref ++ [.ref l2])) = H14 at *
        -- ends = ends + [False, False]
        refine ⟨_, rfl, by show 2 ≤ sizeLine; omega, fun l3 hl3 => ?_⟩
        have s11 := same_new (o := .lst [.bl false, .bl false]) hl3
        refine ⟨Ed, l3, _, _, rfl, rfl, s11 _ _ hEd10, upd_same, by rw [List.length_map]; show _ + 2 ≤ sizeLine; omega, fun l4 hl4 => ?_⟩
        have C11 := C10.grow s11
        have fl4 := C11.fresh hl4
        have s12 := same_new (o := .lst (es.map V.bl ++ [.bl false, .bl false])) hl4
        have C12 := C11.grow s12
        refine ⟨_, _, l4, es ++ [false, false], E ++ [(i, ed.1, ed.2)], _, _, _, _, _, _, _, rfl, C12, ?_, fl4.2.1, fl4.1, ?_, ?_, EIi.step hrow hed⟩
        · rw [upd_same, List.map_append]
          rfl
        · rw [List.length_append, List.length_append, List.length_append, List.length_set]
          simp only [List.length_cons, List.length_nil]
          omega
        · refine CPi.add (s := i) (b := ed.1) (g := ed.2) (by omega) hrw fun i' b' g' hE e => ?_
          have h1 : ed.1.1 = b'.1 := congrArg (fun z : A3 => z.2.1) e
          have h2 : lab ed.1.2.2 ed.1.2.1 = lab b'.2.2 b'.2.1 := congrArg (fun z : A3 => z.2.2) e
          obtain ⟨r', g1, g2, _⟩ := EIi.of _ (List.mem_of_getElem? hE)
          obtain ⟨h3, h4⟩ := hinj arow hmem ed hedm r' (List.mem_of_getElem? g1) _ g2 _ _ h2
          have hb : ed.1 = b' := Prod.ext h1 (Prod.ext h4 h3)
          exact EIi.new W hrow hed i' g' (by rw [hb]; exact hE)
      · rintro σ H5 ⟨rs, rows, Ed, es, E, o5, o6, o7, o8, o9, o10, o11, hσ, C, hEd, hER, hErs, hel2, CPi, EIi⟩
        subst hσ
        rw [pd_len hxs] at EIi
        exact ⟨rs, rows, Ed, es, E, _, _, _, _, _, _, _, _, rfl, C, hEd, hER, hErs, hel2, CPi, EIi.next hrow⟩
    · clear C3 hEd3 fE CP3 rs Ed H2 H3
      rintro σ H4 ⟨rs, rows, Ed, es, E, o4, o5, o6, o7, o8, o9, o10, o11, hσ, C, hEd, hER, hErs, hel2, CPi, EIi⟩
      subst hσ
      have hrl := C.len
      have hE3 : E.length ≤ A.flatten.length := by
        have := EIi.len
        rw [List.take_length] at this
        omega
      have hrn := CPi.len
      refine ⟨_, rfl, Rw, rfl, ⟨_, SqL.of C.lst⟩, fun D hD => ?_⟩
      refine lc_list (xs := rs.map V.ref) (fun i H5 => Same H4 H5 ∧ ∃ (vs : List V) (rr : Rows Str), H5 D = some (.lst vs) ∧ Paired (RowAt H5) vs rr ∧ Paired PermR rr (rows.take i)) ⟨same_new hD, [], [], upd_same, .nil, .nil⟩ (fun i H5 _ ⟨s5, _⟩ => SqL.of (s5 _ _ C.lst)) ?_ ?_
      · rintro i x H5 hx ⟨s5, vs, rr, hD5, hpv, hsr⟩
        obtain ⟨r, hr1, rfl⟩ : ∃ r, rs[i]? = some r ∧ x = .ref r := by
          rw [List.getElem?_map] at hx
          cases z : rs[i]? with
          | none => rw [z] at hx; cases hx
          | some n => rw [z] at hx; exact ⟨n, rfl, (Option.some.inj hx).symm⟩
        obtain ⟨row, hrow, ys, hys, hpy⟩ := pd_get C.rw_ hr1
        have hil := (List.getElem?_eq_some_iff.mp hrow).1
        have hvl : vs.length ≤ i := by
          rw [pd_len hpv, pd_len hsr, List.length_take]; omega
        refine ⟨rfl, yes_if ?_⟩
        refine ⟨_, rfl, r, ys, row, rfl, SqL.of (s5 _ _ hys), pd_mono hpy fun _ _ z => z.mono (same_tups s5), fun zs fs p2 hperm hpz hp2 => ?_⟩
        have sp := same_new (o := .lst zs) hp2
        refine ⟨p2, zs, rfl, .inl ⟨SqL.of upd_same, fun l hl => ?_⟩⟩
        have sl := same_new (o := .tup zs) hl
        have s57 : Same H5 (upd (upd H5 p2 (.lst zs)) l (.tup zs)) := fun b o z => sl b o (sp b o z)
        have t3 := tups_lst (o := .lst (vs ++ [.ref l])) (s57 _ _ hD5)
        refine ⟨vs, s57 _ _ hD5, by omega, same_upd (fun b o z => s57 b o (s5 b o z)) hD, vs ++ [.ref l], rr ++ [fs], upd_same, pd_snoc (pd_mono hpv fun _ _ z => (z.mono (same_tups s57)).mono t3) ⟨l, zs, rfl, t3 _ _ upd_same, pd_mono hpz fun _ _ z => (z.mono (same_tups s57)).mono t3⟩, ?_⟩
        rw [take_get hrow]
        exact pd_snoc hsr hperm
      · rintro H5 ⟨s5, vs, rr, hD5, hpv, hsr⟩
        rw [List.length_map, hrl, List.take_length] at hsr
        refine ⟨D, vs, rfl, .inl ⟨SqL.of hD5, fun l1 hl1 => ?_⟩⟩
        have sn1 := same_new (o := .tup vs) hl1
        have hE9 := sn1 _ _ (s5 _ _ hEd)
        refine ⟨_, rfl, Ed, _, rfl, .inl ⟨SqL.of hE9, fun l2 hl2 => ⟨by show 3 ≤ sizeLine; omega, fun t ht => ?_⟩⟩⟩
        have sn2 := same_new (o := .tup (es.map V.bl)) hl2
        have sn3 := same_new (o := .tup [.str "table", .ref l1, .ref l2]) ht
        have sall : Same H4 (upd (upd (upd H5 l1 (.tup vs)) l2 (.tup (es.map V.bl))) t (.tup [.str "table", .ref l1, .ref l2])) := fun b o z => sn3 b o (sn2 b o (sn1 b o (s5 b o z)))
        obtain ⟨hC, hW, hfl2⟩ := CPi.cond hsr hpos (fun x hx => by
          obtain ⟨r, h1, h2, _⟩ := EIi.of x hx
          exact ⟨(List.getElem?_eq_some_iff.mp h1).1, W.lt r (List.mem_of_getElem? h1) _ h2⟩) (fun x hx x' hx' q q' h => by
          obtain ⟨r, h1, h2, _⟩ := EIi.of x hx
          obtain ⟨r', h1', h2', _⟩ := EIi.of x' hx'
          exact hinj r (List.mem_of_getElem? h1) _ h2 r' (List.mem_of_getElem? h1') _ h2' q q' h) fun x hx => by
          obtain ⟨r, h1, h2, _⟩ := EIi.of x hx
          obtain ⟨_, _, _, n1, n2, n3⟩ := hfacts r (List.mem_of_getElem? h1) _ h2
          exact ⟨n1, n2, n3⟩
        exact k _ (.ref t) rr es E (fun b o z => sall b o (C.same b o z)) ⟨t, .ref l1, .ref l2, rfl, upd_same, ⟨l1, vs, rfl, sn3 _ _ (sn2 _ _ upd_same), pd_mono hpv fun _ _ z => z.mono ((same_tups sn1).trans ((same_tups sn2).trans (same_tups sn3)))⟩, ⟨l2, rfl, sn3 _ _ upd_same⟩⟩ (by rw [hel2, pd_len hsr]) hC hW hfl2 hE3
end
end Pk
/-! _law_beside. -/
namespace Pk
open PySem L2 PM
def prodRow (n k j : Nat) (rA rB : Row Str) : Row Str := (rA.map fun e => (e.1, e.2 * n + j)) ++ rB.map fun e => (e.1, k * n + e.2)
structure PO (A B : Rows Str) (m : Nat) (rr : Rows Str) : Prop where
  len : rr.length = m
  at_ : ∀ (k j : Nat) (rA rB : Row Str), k * B.length + j < m → A[k]? = some rA → B[j]? = some rB → ∃ row, rr[k * B.length + j]? = some row ∧ row.Perm (prodRow B.length k j rA rB)
theorem PO.add {A B : Rows Str} {k j : Nat} {rr : Rows Str} {rA rB row : Row Str} (I : PO A B (k * B.length + j) rr) (hA : A[k]? = some rA) (hB : B[j]? = some rB) (hp : row.Perm (prodRow B.length k j rA rB)) : PO A B (k * B.length + (j + 1)) (rr ++ [row]) := by
  refine ⟨by rw [List.length_append, I.len]; rfl, fun k' j' rA' rB' hlt h1 h2 => ?_⟩
  by_cases h : k' * B.length + j' < k * B.length + j
  · obtain ⟨r, g1, g2⟩ := I.at_ k' j' rA' rB' h h1 h2
    exact ⟨r, get_grow g1, g2⟩
  · have e : k' * B.length + j' = k * B.length + j := by omega
    obtain ⟨e1, e2⟩ := place_inj (List.getElem?_eq_some_iff.mp h2).1 (List.getElem?_eq_some_iff.mp hB).1 e
    subst e1 e2
    rw [hA] at h1
    rw [hB] at h2
    cases h1
    cases h2
    refine ⟨row, ?_, hp⟩
    rw [← I.len]
    exact get_last
section
variable {P : Program} {w : World} {K : PySem.W.Frag} {mg : Str → Option Value} {base : Heap}
abbrev sBeside : Stmt := top 31
abbrev nBeside : List Str := ["_law_one", "_law_other", "_law_size", "_law_rows", "_law_ends", "_law_k", "_law_j", "_law_row", "_law_action", "_law_goal"]
def spBeside : Sp := fun vs H Q _ => ∃ (v1 v2 : V) (A B : Rows Str) (ea eb : List Bool), vs = [v1, v2] ∧ TabAt H v1 A ea ∧ TabAt H v2 B eb ∧ ea.length = A.length ∧ eb.length = B.length ∧ A.length ≤ 10 ∧ B.length ≤ 10 ∧ WF A ∧ WF B ∧ A.flatten.length ≤ 100 ∧ B.flatten.length ≤ 100 ∧
  ∀ (H' : Hp) (v : V) (rows : Rows Str) (ends' : List Bool), Same H H' → TabAt H' v rows ends' → ends'.length = rows.length → PO A B (A.length * B.length) rows → Q v H'
theorem scBeside : FnScope nBeside ["_law_one", "_law_other"] (C8.fnScope sBeside) := C8.fnScope_by (by decide +kernel)
theorem cal_beside {f : Addr} {fd : FuncData} (D : C8.Def K mg "_law_beside" sBeside f fd) (b : Binds K fd ["_law_one", "_law_other"] []) (T : Tx mg) : C8.Cal P w K mg base 1 "_law_beside" spBeside [] := by
  have nd := scBeside.nd
  refine C8.cal0 D b .nil scBeside (fun vs H Q E h => ?_) (fun cdv A0 outer s0 H vs Q E hr h => ?_)
  · obtain ⟨v1, v2, A, B, ea, eb, rfl, _⟩ := h
    rfl
  · obtain ⟨v1, v2, A, B, ea, eb, rfl, hTA, hTB, hea, heb, hA10, hB10, WA, WB, hfA, hfB, k⟩ := h
    have hz := sizeLine_eq
    refine ⟨_, pss_cons (ps_set (i := 2) nd rfl (.inr rfl) (pe_callB call_len_seq (by rfl) T.len PySem.boot_len (pa_cons (pe_ix ix_tup (pv 1) pe_int (fun _ _ => rfl)) pa_nil)))
      (pss_cons (ps_set (i := 3) nd rfl (.inl rfl) (pe_lst pa_nil)) (pss_cons (ps_set (i := 4) nd rfl (.inl rfl) (pe_lst pa_nil))
      (pss_cons (ps_for PassesOwn.never rfl (pi_range1 (by rfl) T.range (pa_cons (pe_callB call_len_seq (by rfl) T.len PySem.boot_len (pa_cons (pe_ix ix_tup (pv 0) pe_int (fun _ _ => rfl)) pa_nil)) pa_nil)) (pg_name (i := 5) nd rfl (Or.inr rfl))
        (pss_one (ps_for PassesOwn.never rfl (pi_range1 (by rfl) T.range (pa_cons (pv 2) pa_nil)) (pg_name (i := 6) nd rfl (Or.inr rfl))
          (pss_cons (ps_setLc (i := 7) (own := [("_law_action", 8), ("_law_goal", 9)]) (g := gTup K 2 (gCons (gName 8) (gCons (gName 9) gNil))) rfl nd rfl rfl (sw_true rfl rfl rfl (by decide +kernel)) (pi_tup (pe_ix ix_tup (pe_ix ix_tup (pv 0) pe_int (fun _ _ => rfl)) (pv 5) (fun _ _ => rfl))) (blkOk_by (N := nBeside) (sc := C8.fnScope sBeside) (by decide +kernel))
              (fun _ _ _ _ _ => pg_tupK rfl rfl (pgs_cons (pg_name (i := 8) nd rfl (Or.inl rfl)) (pgs_cons (pg_name (i := 9) nd rfl (Or.inl rfl)) pgs_nil))) (fun _ _ _ _ _ => pts_nil) (fun _ _ _ _ _ => pe_tup (pa_cons (pv 8) (pa_cons (pe_op op_add (pe_op op_mul (pv 9) (pv 2)) (pv 6)) pa_nil))))
          (pss_cons (ps_expr (pe_bm PySem.F.plainAttrs_list PySem.F.slot_list_append PySem.F.type_list_append mt_append (pv 3) (pa_cons (pe_callTy (cr_tup (K := K) rfl) (by rfl) T.tuple (by decide +kernel) (pa_cons (pe_callB (cr_sortEK (K := K) rfl (hu20 hr)) (by rfl) T.sorted (by decide +kernel) (pa_cons (pe_op op_cat (pv 7)
              (pe_lc (own := [("_law_action", 8), ("_law_goal", 9)]) (g := gTup K 2 (gCons (gName 8) (gCons (gName 9) gNil))) rfl nd (pi_tup (pe_ix ix_tup (pe_ix ix_tup (pv 1) pe_int (fun _ _ => rfl)) (pv 6) (fun _ _ => rfl))) (blkOk_by (N := nBeside) (sc := C8.fnScope sBeside) (by decide +kernel))
                (fun _ _ _ _ _ => pg_tupK rfl rfl (pgs_cons (pg_name (i := 8) nd rfl (Or.inl rfl)) (pgs_cons (pg_name (i := 9) nd rfl (Or.inl rfl)) pgs_nil))) (fun _ _ _ _ _ => pts_nil) (fun _ _ _ _ _ => pe_tup (pa_cons (pv 8) (pa_cons (pe_op op_add (pe_op op_mul (pv 5) (pv 2)) (pv 9)) pa_nil))))) pa_nil)) pa_nil)) pa_nil)))
          (pss_one (ps_expr (pe_bm PySem.F.plainAttrs_list PySem.F.slot_list_append PySem.F.type_list_append mt_append (pv 4) (pa_cons (pe_and (pe_ix ix_tup (pe_ix ix_tup (pv 0) pe_int (fun _ _ => rfl)) (pv 5) (fun _ _ => rfl)) (pe_one (pe_ix ix_tup (pe_ix ix_tup (pv 1) pe_int (fun _ _ => rfl)) (pv 6) (fun _ _ => rfl)))) pa_nil)))))))))
      (pss_one (ps_ret (pe_tup (pa_cons pe_str (pa_cons (pe_callTy (cr_tup (K := K) rfl) (by rfl) T.tuple (by decide +kernel) (pa_cons (pv 3) pa_nil)) (pa_cons (pe_callTy (cr_tup (K := K) rfl) (by rfl) T.tuple (by decide +kernel) (pa_cons (pv 4) pa_nil)) pa_nil))))))))), ?_⟩
    obtain ⟨p1, vr1, ve1, rfl, hp1, ⟨pr1, vrs1, rfl, hpr1, hrs1⟩, pe1, rfl, hpe1⟩ := hTA
    obtain ⟨p2, vr2, ve2, rfl, hp2, ⟨pr2, vrs2, rfl, hpr2, hrs2⟩, pe2, rfl, hpe2⟩ := hTB
    have hA := pd_len hrs1
    have hB := pd_len hrs2
    refine ⟨_, rfl, p2, _, 1, _, rfl, rfl, SqT.of hp2, at1, pr2, _, rfl, .inr (SqT.of hpr2), ?_⟩
    rw [hB]
    refine ⟨Nat.zero_le _, fun Rw hRw => ⟨Nat.zero_le _, fun Ed hEd => ?_⟩⟩
    have hRE : Rw ≠ Ed := ne_of_none upd_same hEd
    have hEd0 : H Ed = none := by
      rw [upd_ne (Ne.symm hRE)] at hEd
      exact hEd
    have s1 : Same H (upd (upd H Rw (.lst [])) Ed (.lst [])) := same_upd (same_new hRw) hEd0
    refine ⟨_, rfl, p1, _, 1, _, rfl, rfl, SqT.of (s1 _ _ hp1), at1, pr1, _, rfl, .inr (SqT.of (s1 _ _ hpr1)), (vrs1.length : Int), rfl, by omega, by omega, ?_⟩
    rw [hA]
    refine for_range (lo := 0) (n := A.length) (fun i σ H2 => ∃ (vs : List V) (rr : Rows Str) (es : List Bool) (o5 o6 o7 o8 o9 : Option V), σ = [some (.ref p1), some (.ref p2), some (.int (B.length : Nat)), some (.ref Rw), some (.ref Ed), o5, o6, o7, o8, o9] ∧
        Same H H2 ∧ H2 Rw = some (.lst vs) ∧ Paired (RowAt H2) vs rr ∧ H2 Ed = some (.lst (es.map V.bl)) ∧ es.length = rr.length ∧ PO A B (i * B.length) rr)
      ⟨[], [], [], _, _, _, _, _, rfl, s1, (upd_ne hRE).trans upd_same, .nil, upd_same, rfl, by rw [Nat.zero_mul]; exact ⟨rfl, fun k j rA rB h => absurd h (Nat.not_lt_zero _)⟩⟩ ?_ ?_
    · rintro i σ H2 hi ⟨vs, rr, es, o5, o6, o7, o8, o9, hσ, s2, hR2, hpv, hE2, hel, I⟩
      subst hσ
      have hrow : A[i]? = some A[i] := List.getElem?_eq_getElem hi
      obtain ⟨vx, hvx, q1, xs1, rfl, hq1, hxs1⟩ := pd_get2 hrs1 hrow
      have hmem := List.mem_of_getElem? hrow
      generalize A[i] = rA at hrow hxs1 hmem
      have hgA := flat_ge hmem
      have hltA := WA.lt rA hmem
      refine ⟨_, rfl, ((B.length : Nat) : Int), rfl, by omega, by omega, ?_⟩
      have hB0 : (((B.length : Nat) : Int)).toNat = B.length := by omega
      rw [hB0]
      refine for_range (lo := 0) (n := B.length) (fun j σ H2 => ∃ (vs : List V) (rr : Rows Str) (es : List Bool) (o6 o7 o8 o9 : Option V), σ = [some (.ref p1), some (.ref p2), some (.int (B.length : Nat)), some (.ref Rw), some (.ref Ed), some (.int (0 + (i : Int))), o6, o7, o8, o9] ∧
        Same H H2 ∧ H2 Rw = some (.lst vs) ∧ Paired (RowAt H2) vs rr ∧ H2 Ed = some (.lst (es.map V.bl)) ∧ es.length = rr.length ∧ PO A B (i * B.length + j) rr)
        ⟨vs, rr, es, _, _, _, _, rfl, s2, hR2, hpv, hE2, hel, I⟩ ?_ ?_
      · clear s2 hR2 hpv hE2 hel I vs rr es H2
        rintro j σ H3 hj ⟨vs, rr, es, o6, o7, o8, o9, hσ, s3, hR3, hpv, hE3, hel, I⟩
        subst hσ
        have hrowB : B[j]? = some B[j] := List.getElem?_eq_getElem hj
        obtain ⟨vy, hvy, q2, xs2, rfl, hq2, hxs2⟩ := pd_get2 hrs2 hrowB
        have hmemB := List.mem_of_getElem? hrowB
        generalize B[j] = rB at hrowB hxs2 hmemB
        have hgB := flat_ge hmemB
        have hltB := WB.lt rB hmemB
        have hvl := pd_len hpv
        have hIl := I.len
        have hij : i * B.length ≤ 10 * 10 := Nat.mul_le_mul (by omega) hB10
        have hx1 := pd_len hxs1
        have hx2 := pd_len hxs2
        refine ⟨_, rfl, p1, _, 1, _, rfl, rfl, SqT.of (s3 _ _ hp1), at1, _, rfl, pr1, _, (i : Int), _, rfl, by rw [Int.zero_add], SqT.of (s3 _ _ hpr1), atI_nat hvx, q1, rfl, ⟨_, SqT.of (s3 _ _ hq1)⟩, fun D1 hD1 => ?_⟩
        refine lc_tup (xs := xs1) (fun l H4 => Same H3 H4 ∧ ∃ ys, H4 D1 = some (.lst ys) ∧ Paired (EdgeAt H4) ys ((rA.take l).map fun e => (e.1, e.2 * B.length + j))) ⟨same_new hD1, [], upd_same, .nil⟩ (fun l H4 _ ⟨s4, _⟩ => SqT.of (s4 _ _ (s3 _ _ hq1))) ?_ ?_
        · rintro l y H4 hy ⟨s4, ys, hD4, hpy⟩
          obtain ⟨e, he, pe, vo, rfl, hpe, hvo⟩ := pd_get hxs1 hy
          have hel2 := hltA e (List.mem_of_getElem? he)
          have hll := (List.getElem?_eq_some_iff.mp he).1
          have s04 : Same H H4 := fun b o z => s4 b o (s3 b o z)
          have hyl : ys.length ≤ l := by rw [pd_len hpy, List.length_map, List.length_take]; omega
          refine ⟨_, _, rfl, SqT.of (s04 _ _ hpe), rfl, _, _, rfl, _, _, rfl, rfl, ?_⟩
          refine ⟨rfl, yes_if ?_⟩
          have ev : V.int ((e.2 : Int) * (B.length : Int) + (0 + (j : Int))) = nV (e.2 * B.length + j) := by simp [nV]
          refine ⟨_, rfl, _, rfl, _, rfl, _, _, rfl, rfl, .inl ⟨by omega, by omega⟩, _, rfl, _, _, rfl, rfl, by show 2 ≤ sizeLine; omega, fun t ht => ?_⟩
          dsimp only
          rw [ev] at *
          have sn := same_new (o := .tup [vo, nV (e.2 * B.length + j)]) ht
          have t3 := tups_lst (o := .lst (ys ++ [.ref t])) (sn _ _ hD4)
          have tt := (same_tups sn).trans t3
          refine ⟨ys, sn _ _ hD4, by omega, same_upd (fun b o z => sn b o (s4 b o z)) hD1, ys ++ [.ref t], upd_same, ?_⟩
          rw [take_get he, List.map_append]
          exact pd_snoc (pd_mono hpy fun _ _ z => z.mono tt) ⟨t, vo, rfl, t3 _ _ upd_same, (hvo.mono (same_tups s04)).mono tt⟩
        rintro H4 ⟨s4, ys1, hD4, hpy1⟩
        rw [hx1, List.take_length] at hpy1
        have s04 : Same H H4 := fun b o z => s4 b o (s3 b o z)
        have hR4 := s4 _ _ hR3
        have hE4 := s4 _ _ hE3
        have hpv4 := pd_mono hpv fun _ _ z => z.mono (same_tups s4)
        clear hD1 hR3 hE3 hpv s3 s4
        refine ⟨_, rfl, .inl ⟨rfl, _, SqL.of hR4⟩, _, rfl, ?_⟩
        refine ⟨_, rfl, p2, _, 1, _, rfl, rfl, SqT.of (s04 _ _ hp2), at1, _, rfl, pr2, _, (j : Int), _, rfl, by rw [Int.zero_add], SqT.of (s04 _ _ hpr2), atI_nat hvy, q2, rfl, ⟨_, SqT.of (s04 _ _ hq2)⟩, fun D2 hD2 => ?_⟩
        refine lc_tup (xs := xs2) (fun l H5 => Same H4 H5 ∧ ∃ ys, H5 D2 = some (.lst ys) ∧ Paired (EdgeAt H5) ys ((rB.take l).map fun e => (e.1, i * B.length + e.2))) ⟨same_new hD2, [], upd_same, .nil⟩ (fun l H5 _ ⟨s5, _⟩ => SqT.of (s5 _ _ (s04 _ _ hq2))) ?_ ?_
        · rintro l y H5 hy ⟨s5, ys, hD5, hpy⟩
          obtain ⟨e, he, pe, vo, rfl, hpe, hvo⟩ := pd_get hxs2 hy
          have hel2 := hltB e (List.mem_of_getElem? he)
          have hll := (List.getElem?_eq_some_iff.mp he).1
          have s05 : Same H H5 := fun b o z => s5 b o (s04 b o z)
          have hyl : ys.length ≤ l := by rw [pd_len hpy, List.length_map, List.length_take]; omega
          refine ⟨_, _, rfl, SqT.of (s05 _ _ hpe), rfl, _, _, rfl, _, _, rfl, rfl, ?_⟩
          refine ⟨rfl, yes_if ?_⟩
          have ev : V.int ((0 + (i : Int)) * (B.length : Int) + (e.2 : Int)) = nV (i * B.length + e.2) := by simp [nV]
          refine ⟨_, rfl, _, rfl, _, rfl, _, _, rfl, rfl, .inl ⟨by omega, by omega⟩, _, rfl, _, _, rfl, rfl, by show 2 ≤ sizeLine; omega, fun t ht => ?_⟩
          dsimp only
          rw [ev] at *
          have sn := same_new (o := .tup [vo, nV (i * B.length + e.2)]) ht
          have t3 := tups_lst (o := .lst (ys ++ [.ref t])) (sn _ _ hD5)
          have tt := (same_tups sn).trans t3
          refine ⟨ys, sn _ _ hD5, by omega, same_upd (fun b o z => sn b o (s5 b o z)) hD2, ys ++ [.ref t], upd_same, ?_⟩
          rw [take_get he, List.map_append]
          exact pd_snoc (pd_mono hpy fun _ _ z => z.mono tt) ⟨t, vo, rfl, t3 _ _ upd_same, (hvo.mono (same_tups s05)).mono tt⟩
        rintro H5 ⟨s5, ys2, hD5, hpy2⟩
        rw [hx2, List.take_length] at hpy2
        have hD51 := s5 _ _ hD4
        have hl1 := pd_len hpy1
        have hl2 := pd_len hpy2
        rw [List.length_map] at hl1 hl2
        refine ⟨D1, D2, ys1, ys2, rfl, rfl, hD51, hD5, by omega, fun p3 hp3 => ?_⟩
        have s6 := same_new (o := .lst (ys1 ++ ys2)) hp3
        refine ⟨p3, ys1 ++ ys2, prodRow B.length i j rA rB, rfl, SqL.of upd_same, pd_app (pd_mono hpy1 fun _ _ z => (z.mono (same_tups s5)).mono (same_tups s6)) (pd_mono hpy2 fun _ _ z => z.mono (same_tups s6)), fun zs fs p4 hperm hpz hp4 => ?_⟩
        have s7 := same_new (o := .lst zs) hp4
        refine ⟨p4, zs, rfl, .inl ⟨SqL.of upd_same, fun l hl => ?_⟩⟩
        have s8 := same_new (o := .tup zs) hl
        have s48 : Same H4 (upd (upd (upd H5 p3 (.lst (ys1 ++ ys2))) p4 (.lst zs)) l (.tup zs)) := fun b o z => s8 b o (s7 b o (s6 b o (s5 b o z)))
        have hl8 : upd (upd (upd H5 p3 (.lst (ys1 ++ ys2))) p4 (.lst zs)) l (.tup zs) l = some (.tup zs) := upd_same
        have hpz8 := pd_mono hpz fun _ _ z => (z.mono (same_tups s7)).mono (same_tups s8)
        generalize upd (upd (upd H5 p3 (.lst (ys1 ++ ys2))) p4 (.lst zs)) l (.tup zs) = H8 at *
        have hR8 := s48 _ _ hR4
        have hE8 := s48 _ _ hE4
        refine ⟨Rw, vs, _, rfl, rfl, hR8, by omega, ?_⟩
        have t9 := tups_lst (o := .lst (vs ++ [.ref l])) hR8
        have s09 : Same H (upd H8 Rw (.lst (vs ++ [.ref l]))) := same_upd (fun b o z => s48 b o (s04 b o z)) hRw
        have hE9 : upd H8 Rw (.lst (vs ++ [.ref l])) Ed = some (.lst (es.map V.bl)) := (upd_ne (Ne.symm hRE)).trans hE8
        have hR9 : upd H8 Rw (.lst (vs ++ [.ref l])) Rw = some (.lst (vs ++ [.ref l])) := upd_same
        have hpv9 : Paired (RowAt (upd H8 Rw (.lst (vs ++ [.ref l])))) (vs ++ [.ref l]) (rr ++ [fs]) := pd_snoc (pd_mono hpv4 fun _ _ z => (z.mono (same_tups s48)).mono t9) ⟨l, zs, rfl, t9 _ _ hl8, pd_mono hpz8 fun _ _ z => z.mono t9⟩
        generalize upd H8 Rw (.lst (vs ++ [.ref l])) = H9 at *
        have hie : i < ea.length := by omega
        have hje : j < eb.length := by omega
        have hbi : (ea.map V.bl)[i]? = some (.bl ea[i]) := by simp [hie]
        have hbj : (eb.map V.bl)[j]? = some (.bl eb[j]) := by simp [hje]
        have hI := I.add hrow hrowB hperm
        refine ⟨_, rfl, .inl ⟨rfl, _, SqL.of hE9⟩, _, rfl, p1, _, 2, _, rfl, rfl, SqT.of (s09 _ _ hp1), at2, _, rfl, pe1, _, (i : Int), _, rfl, by rw [Int.zero_add], SqT.of (s09 _ _ hpe1), atI_nat hbi, _, rfl, ?_⟩
        have fin : ∀ bb : Bool, ∃ (vs : List V) (rr : Rows Str) (es' : List Bool), Same H (upd H9 Ed (.lst (es.map V.bl ++ [.bl bb]))) ∧ upd H9 Ed (.lst (es.map V.bl ++ [.bl bb])) Rw = some (.lst vs) ∧ Paired (RowAt (upd H9 Ed (.lst (es.map V.bl ++ [.bl bb])))) vs rr ∧
            upd H9 Ed (.lst (es.map V.bl ++ [.bl bb])) Ed = some (.lst (es'.map V.bl)) ∧ es'.length = rr.length ∧ PO A B (i * B.length + (j + 1)) rr := fun bb => by
          refine ⟨_, _, es ++ [bb], same_upd s09 hEd0, (upd_ne hRE).trans hR9, pd_mono hpv9 fun _ _ z => z.mono (tups_lst hE9), by rw [upd_same, List.map_append]; rfl, by rw [List.length_append, List.length_append, hel]; rfl, hI⟩
        refine ite_b (fun _ => ?_) (fun _ => ?_)
        · refine ⟨_, rfl, p2, _, 2, _, rfl, rfl, SqT.of (s09 _ _ hp2), at2, _, rfl, pe2, _, (j : Int), _, rfl, by rw [Int.zero_add], SqT.of (s09 _ _ hpe2), atI_nat hbj, Ed, _, _, rfl, rfl, hE9, by rw [List.length_map]; omega, ?_⟩
          obtain ⟨vs', rr', es', f1, f2, f3, f4, f5, f6⟩ := fin eb[j]
          exact ⟨vs', rr', es', _, _, _, _, rfl, f1, f2, f3, f4, f5, f6⟩
        · refine ⟨Ed, _, _, rfl, rfl, hE9, by rw [List.length_map]; omega, ?_⟩
          obtain ⟨vs', rr', es', f1, f2, f3, f4, f5, f6⟩ := fin false
          exact ⟨vs', rr', es', _, _, _, _, rfl, f1, f2, f3, f4, f5, f6⟩
      · rintro σ H3 ⟨vs, rr, es, o6, o7, o8, o9, hσ, s3, hR3, hpv, hE3, hel, I⟩
        subst hσ
        exact ⟨vs, rr, es, _, _, _, _, _, rfl, s3, hR3, hpv, hE3, hel, by rw [Nat.succ_mul]; exact I⟩
    · rintro σ H3 ⟨vs, rr, es, o5, o6, o7, o8, o9, hσ, s3, hR3, hpv, hE3, hel, I⟩
      subst hσ
      refine ⟨_, rfl, Rw, vs, rfl, .inl ⟨SqL.of hR3, fun l1 hl1 => ?_⟩⟩
      have sn1 := same_new (o := .tup vs) hl1
      refine ⟨_, rfl, Ed, _, rfl, .inl ⟨SqL.of (sn1 _ _ hE3), fun l2 hl2 => ⟨by show 3 ≤ sizeLine; omega, fun t ht => ?_⟩⟩⟩
      have sn2 := same_new (o := .tup (es.map V.bl)) hl2
      have sn3 := same_new (o := .tup [.str "table", .ref l1, .ref l2]) ht
      exact k _ (.ref t) rr es (fun b o z => sn3 b o (sn2 b o (sn1 b o (s3 b o z)))) ⟨t, .ref l1, .ref l2, rfl, upd_same, ⟨l1, vs, rfl, sn3 _ _ (sn2 _ _ upd_same), pd_mono hpv fun _ _ z => z.mono ((same_tups sn1).trans ((same_tups sn2).trans (same_tups sn3)))⟩, ⟨l2, rfl, sn3 _ _ upd_same⟩⟩ hel I
end
end Pk
/-! What the three kinds give, plain. -/
namespace Pk
open PySem L2 PM
/-! ### slices -/
theorem cut_to (xs : List V) (i : Nat) : cutV xs none (some (i : Int)) = xs.take i := by
  unfold cutV
  rw [HT.sIx_none, HT.sIx_nat, List.drop_zero, Nat.sub_zero]
  by_cases h : i ≤ xs.length
  · rw [Nat.min_eq_left h]
  · rw [Nat.min_eq_right (by omega), List.take_length, List.take_of_length_le (by omega)]
theorem cut_from (xs : List V) (i : Nat) : cutV xs (some (i : Int)) none = xs.drop i := by
  unfold cutV
  rw [HT.sIx_none, HT.sIx_nat]
  by_cases h : i ≤ xs.length
  · rw [Nat.min_eq_left h, List.take_of_length_le (by rw [List.length_drop]; exact Nat.le_refl _)]
  · rw [Nat.min_eq_right (by omega), List.drop_eq_nil_of_le (show xs.length ≤ i by omega), List.drop_eq_nil_of_le (Nat.le_refl _)]
    simp
theorem cut_mid (xs : List V) (i j : Nat) (hj : j ≤ xs.length) (hij : i ≤ j) : cutV xs (some (i : Int)) (some (j : Int)) = (xs.drop i).take (j - i) := by
  unfold cutV
  rw [HT.sIx_nat, HT.sIx_nat, Nat.min_eq_left hj, Nat.min_eq_left (by omega)]

/-! ### labels -/
theorem tw46 : ∀ (x r : List Nat), 46 ∉ x → (x ++ 46 :: r).takeWhile (fun c => decide (c ≠ 46)) = x
  | [], r, _ => by simp
  | a :: x, r, h => by
    have h1 : a ≠ 46 := fun e => h (by simp [e])
    have h2 : 46 ∉ x := fun e => h (List.mem_cons_of_mem _ e)
    rw [List.cons_append, List.takeWhile_cons]
    simp only [h1, ne_eq, not_false_eq_true, decide_true, if_true]
    rw [tw46 x r h2]
theorem lab_inj {x x' : List Nat} {q q' : Str} (h : 46 ∉ x) (h' : 46 ∉ x') (e : lab (T8 x) q = lab (T8 x') q') : T8 x = T8 x' ∧ q = q' := by
  unfold lab at e
  have hd : ("." : Str) = T8 [46] := rfl
  rw [hd, ← SX.S_tl q, ← SX.S_tl q', SX.S_cat, SX.S_cat, SX.S_cat, SX.S_cat] at e
  have e2 := SX.S_inj e
  rw [List.append_assoc, List.append_assoc] at e2
  have e2 : x ++ 46 :: q.cps.toList = x' ++ 46 :: q'.cps.toList := e2
  have h1 := tw46 x q.cps.toList h
  rw [e2, tw46 x' _ h'] at h1
  subst h1
  have e3 := List.append_cancel_left e2
  have e4 := (List.cons.inj e3).2
  refine ⟨rfl, ?_⟩
  rw [← SX.S_tl q, ← SX.S_tl q', e4]

/-! ### what a table must be for fits -/
structure GoodT (rows : Rows Str) (ends : List Bool) : Prop where
  wf : WF rows
  pos : 0 < rows.length
  len : rows.length ≤ 100
  el : ends.length = rows.length
  flat : rows.flatten.length ≤ 500
  acc : Acc rows
  fam : ∀ p, PartOf rows.flatten p → ∀ reach start, IsReach rows p reach → reach[0]? = some start → ∃ F, Fam (movesOf rows p reach) start F ∧ F.length ≤ 300
theorem TP.wf {ps ls : List Str} {n m : Nat} {rows : Rows Str} (T : TP ps ls n rows m) : WF rows :=
  ⟨fun row hr => (T.row row hr).1, fun row hr e he => by rw [T.len]; exact ((T.row row hr).2 e he).1⟩
/-- two parties: each action is of both -/
theorem two_cc {ps ls : List Str} {a : A3} {p : Str} (h2 : ps.length = 2) (hg : GoodA ps ls a) (hp : p ∈ ps) : cc a p = true := by
  obtain ⟨x, y, e⟩ : ∃ x y, ps = [x, y] := by
    match ps, h2 with
    | [x, y], _ => exact ⟨x, y, rfl⟩
  subst e
  obtain ⟨h1, h3, h4, _⟩ := hg
  unfold cc
  simp only [List.mem_cons, List.not_mem_nil, or_false] at h1 h3 hp
  rw [Bool.or_eq_true, decide_eq_true_eq, decide_eq_true_eq]
  rcases h1 with h1 | h1 <;> rcases h3 with h3 | h3 <;> rcases hp with hp | hp
  · exact absurd (h1.trans h3.symm) h4
  · exact absurd (h1.trans h3.symm) h4
  · exact .inl (h1.trans hp.symm)
  · exact .inr (h3.trans hp.symm)
  · exact .inr (h3.trans hp.symm)
  · exact .inl (h1.trans hp.symm)
  · exact absurd (h1.trans h3.symm) h4
  · exact absurd (h1.trans h3.symm) h4
theorem part_ps {ps ls : List Str} {n m : Nat} {rows : Rows Str} (T : TP ps ls n rows m) {p : Str} (h : PartOf rows.flatten p) : p ∈ ps := by
  obtain ⟨e, he, h⟩ := h
  obtain ⟨row, hr, he⟩ := List.mem_flatten.mp he
  have hg := ((T.row row hr).2 e he).2
  rcases h with h | h
  · exact h ▸ hg.p
  · exact h ▸ hg.q
theorem good0 {ps ls : List Str} {n m : Nat} {rows : Rows Str} {ends : List Bool} (T : TP ps ls n rows m) (h2 : ps.length = 2) (hn : 1 ≤ n) (hn2 : n ≤ 10) (hm : m ≤ 100) (he : ends.length = n) : GoodT rows ends where
  wf := T.wf
  pos := by rw [T.len]; omega
  len := by rw [T.len]; omega
  el := by rw [he, T.len]
  flat := by have := T.flat; omega
  acc := acc_all fun row hr e he row' hr' e' he' => two_cc h2 ((T.row row' hr').2 e' he').2 ((T.row row hr).2 e he).2.p
  fam := fun p hp reach start R hs => by
    obtain ⟨F, h1, h3⟩ := all_fam T.wf (by rw [T.len]; omega) (fun row hr e he => two_cc h2 ((T.row row hr).2 e he).2 (part_ps T hp)) R hs
    exact ⟨F, h1, by rw [T.len] at h3; omega⟩
theorem flat_le {α : Type} {l : List (List α)} {c : Nat} (h : ∀ x ∈ l, x.length ≤ c) : l.flatten.length ≤ l.length * c := by
  induction l with
  | nil => simp
  | cons a l ih =>
    have h1 := h a List.mem_cons_self
    have h2 := ih fun x hx => h x (List.mem_cons_of_mem _ hx)
    simp only [List.flatten_cons, List.length_append, List.length_cons, Nat.succ_mul]
    omega
theorem good1 {ps qs ls : List Str} {n1 n2 m1 m2 : Nat} {A B rows : Rows Str} {ends : List Bool} (TA : TP ps ls n1 A m1) (TB : TP qs ls n2 B m2) (hps : ps.length = 2) (hqs : qs.length = 2) (hd : ∀ x ∈ qs, x ∉ ps) (h1 : 1 ≤ n1) (h1' : n1 ≤ 3) (h2 : 1 ≤ n2) (h2' : n2 ≤ 3) (hm1 : m1 ≤ 10) (hm2 : m2 ≤ 10)
    (I : PO A B (A.length * B.length) rows) (he : ends.length = rows.length) : GoodT rows ends := by
  have WA := TA.wf
  have WB := TB.wf
  have hA : 0 < A.length := by rw [TA.len]; omega
  have hB : 0 < B.length := by rw [TB.len]; omega
  have hAB : A.length * B.length ≤ 9 := by
    rw [TA.len, TB.len]
    exact Nat.mul_le_mul (show n1 ≤ 3 from h1') (show n2 ≤ 3 from h2')
  have hlen := I.len
  -- a place by its two parts
  have hpl : ∀ m, m < rows.length → ∃ k j rA rB row, A[k]? = some rA ∧ B[j]? = some rB ∧ m = k * B.length + j ∧ rows[m]? = some row ∧ row.Perm (prodRow B.length k j rA rB) := fun m hm => by
    have hj : m % B.length < B.length := Nat.mod_lt _ hB
    have hk : m / B.length < A.length := Nat.div_lt_of_lt_mul (by rw [Nat.mul_comm]; omega)
    have e : m = m / B.length * B.length + m % B.length := by rw [Nat.mul_comm]; exact (Nat.div_add_mod m B.length).symm
    have g1 : A[m / B.length]? = some A[m / B.length] := List.getElem?_eq_getElem hk
    have g2 : B[m % B.length]? = some B[m % B.length] := List.getElem?_eq_getElem hj
    obtain ⟨row, g3, g4⟩ := I.at_ _ _ _ _ (by omega) g1 g2
    exact ⟨_, _, _, _, row, g1, g2, e, by rw [e]; exact g3, g4⟩
  have hdet : ∀ {k j rA rB row}, A[k]? = some rA → B[j]? = some rB → row.Perm (prodRow B.length k j rA rB) → Det row := fun {k j rA rB row} g1 g2 g3 => by
    unfold Det
    refine ((List.Perm.map (fun e : A3 × Nat => e.1) g3).nodup_iff).mpr ?_
    unfold prodRow
    rw [List.map_append, List.map_map, List.map_map, List.nodup_append]
    have hAm := List.mem_of_getElem? g1
    have hBm := List.mem_of_getElem? g2
    refine ⟨(TA.row _ hAm).1, (TB.row _ hBm).1, fun x hx y hy e => ?_⟩
    obtain ⟨ea, ha1, ha2⟩ := List.mem_map.mp hx
    obtain ⟨eb, hb1, hb2⟩ := List.mem_map.mp hy
    have ha3 := ((TA.row _ hAm).2 ea ha1).2.p
    have hb3 := ((TB.row _ hBm).2 eb hb1).2.p
    have ha2 : ea.1 = x := ha2
    have hb2 : eb.1 = y := hb2
    rw [ha2, e, ← hb2] at ha3
    exact hd _ hb3 ha3
  have hmem : ∀ {k j rA rB a t}, A[k]? = some rA → B[j]? = some rB → ((a, t) ∈ prodRow B.length k j rA rB ↔ (∃ k', stepT A k a = some k' ∧ t = k' * B.length + j) ∨ (∃ j', stepT B j a = some j' ∧ t = k * B.length + j')) := fun {k j rA rB a t} g1 g2 => by
    unfold prodRow
    rw [List.mem_append]
    constructor
    · rintro (h | h)
      · obtain ⟨e, he, h⟩ := List.mem_map.mp h
        cases h
        exact .inl ⟨e.2, (WA.step g1).mpr he, rfl⟩
      · obtain ⟨e, he, h⟩ := List.mem_map.mp h
        cases h
        exact .inr ⟨e.2, (WB.step g2).mpr he, rfl⟩
    · rintro (⟨k', h1, h2⟩ | ⟨j', h1, h2⟩)
      · exact .inl (List.mem_map.mpr ⟨(a, k'), (WA.step g1).mp h1, by rw [h2]⟩)
      · exact .inr (List.mem_map.mpr ⟨(a, j'), (WB.step g2).mp h1, by rw [h2]⟩)
  have W : WF rows := by
    refine ⟨fun row hr => ?_, fun row hr e he => ?_⟩
    · obtain ⟨m, hm⟩ := List.getElem?_of_mem hr
      obtain ⟨k, j, rA, rB, row', g1, g2, _, g3, g4⟩ := hpl m (List.getElem?_eq_some_iff.mp hm).1
      rw [hm] at g3
      cases g3
      exact hdet g1 g2 g4
    · obtain ⟨m, hm⟩ := List.getElem?_of_mem hr
      obtain ⟨k, j, rA, rB, row', g1, g2, _, g3, g4⟩ := hpl m (List.getElem?_eq_some_iff.mp hm).1
      rw [hm] at g3
      cases g3
      have hk := (List.getElem?_eq_some_iff.mp g1).1
      have hj := (List.getElem?_eq_some_iff.mp g2).1
      have key : ∀ {k j}, k < A.length → j < B.length → k * B.length + j < A.length * B.length := fun {k j} hk hj =>
        Nat.lt_of_lt_of_le (show k * B.length + j < (k + 1) * B.length by rw [Nat.succ_mul]; omega) (Nat.mul_le_mul_right _ hk)
      rw [hlen]
      rcases (hmem g1 g2).mp (g4.mem_iff.mp (show (e.1, e.2) ∈ row from he)) with ⟨k', h1, h2⟩ | ⟨j', h1, h2⟩
      · rw [h2]; exact key (WA.goal h1) hj
      · rw [h2]; exact key hk (WB.goal h1)
  have inA : ∀ k a t, stepT A k a = some t → a.1 ∈ ps ∧ a.2.1 ∈ ps ∧ GoodA ps ls a := fun k a t h => by
    obtain ⟨row, g1, g2⟩ := stepT_some h
    have := ((TA.row row (List.mem_of_getElem? g1)).2 _ (stepR_mem g2)).2
    exact ⟨this.p, this.q, this⟩
  have inB : ∀ k a t, stepT B k a = some t → a.1 ∈ qs ∧ a.2.1 ∈ qs ∧ GoodA qs ls a := fun k a t h => by
    obtain ⟨row, g1, g2⟩ := stepT_some h
    have := ((TB.row row (List.mem_of_getElem? g1)).2 _ (stepR_mem g2)).2
    exact ⟨this.p, this.q, this⟩
  have X : Beside A B rows (fun p => decide (p ∈ ps)) := by
    refine ⟨fun k j a t hk hj => ?_, fun k a t h => ?_, fun j a t h => ?_, fun k a t h k' a' t' h' => two_cc hps (inA _ _ _ h').2.2 (inA _ _ _ h).1, fun k a t h k' a' t' h' => two_cc hqs (inB _ _ _ h').2.2 (inB _ _ _ h).1⟩
    · have g1 : A[k]? = some A[k] := List.getElem?_eq_getElem hk
      have g2 : B[j]? = some B[j] := List.getElem?_eq_getElem hj
      obtain ⟨row, g3, g4⟩ := I.at_ k j _ _ (Nat.lt_of_lt_of_le (show k * B.length + j < (k + 1) * B.length by rw [Nat.succ_mul]; omega) (Nat.mul_le_mul_right _ hk)) g1 g2
      rw [stepT_mem g3 (hdet g1 g2 g4), g4.mem_iff]
      exact hmem g1 g2
    · exact ⟨decide_eq_true (inA _ _ _ h).1, decide_eq_true (inA _ _ _ h).2.1⟩
    · exact ⟨decide_eq_false (hd _ (inB _ _ _ h).1), decide_eq_false (hd _ (inB _ _ _ h).2.1)⟩
  refine ⟨W, by rw [hlen]; exact Nat.mul_pos hA hB, by omega, he, ?_, X.acc WA WB hA hB, fun p hp reach start R hs => ?_⟩
  · have := flat_le (l := rows) (c := 20) fun row hr => by
      obtain ⟨m, hm⟩ := List.getElem?_of_mem hr
      obtain ⟨k, j, rA, rB, row', g1, g2, _, g3, g4⟩ := hpl m (List.getElem?_eq_some_iff.mp hm).1
      rw [hm] at g3
      cases g3
      rw [g4.length_eq]
      unfold prodRow
      rw [List.length_append, List.length_map, List.length_map]
      have f1 := flat_ge (List.mem_of_getElem? g1)
      have f2 := flat_ge (List.mem_of_getElem? g2)
      have f3 := TA.flat
      have f4 := TB.flat
      omega
    omega
  · have hpq : p ∈ ps ∨ p ∈ qs := by
      obtain ⟨e, he, h⟩ := hp
      obtain ⟨row, hr, he⟩ := List.mem_flatten.mp he
      obtain ⟨m, hm⟩ := List.getElem?_of_mem hr
      obtain ⟨k, j, rA, rB, row', g1, g2, _, g3, g4⟩ := hpl m (List.getElem?_eq_some_iff.mp hm).1
      rw [hm] at g3
      cases g3
      rcases (hmem g1 g2).mp (g4.mem_iff.mp (show (e.1, e.2) ∈ row from he)) with ⟨k', h1, _⟩ | ⟨j', h1, _⟩
      · have := inA _ _ _ h1
        rcases h with h | h
        · exact .inl (h ▸ this.1)
        · exact .inl (h ▸ this.2.1)
      · have := inB _ _ _ h1
        rcases h with h | h
        · exact .inr (h ▸ this.1)
        · exact .inr (h ▸ this.2.1)
    rcases hpq with hp | hp
    · obtain ⟨F, f1, f2⟩ := X.famA WA WB W hA hB hlen (decide_eq_true hp) (fun k a t h => two_cc hps (inA _ _ _ h).2.2 hp) R hs
      exact ⟨F, f1, by rw [TA.len] at f2; omega⟩
    · obtain ⟨F, f1, f2⟩ := X.famB WA WB W hA hB hlen (decide_eq_false (hd p hp)) (fun k a t h => two_cc hqs (inB _ _ _ h).2.2 hp) R hs
      exact ⟨F, f1, by rw [TB.len] at f2; omega⟩
theorem good2 {n : Nat} {E : Edges} {k : Str} {rows : Rows Str} {ends : List Bool} (C : Cond n E k lab rows) (W : WF rows) (hf : rows.flatten.length ≤ 3 * E.length) (h4 : n ≤ 4) (h11 : E.length ≤ 11) (he : ends.length = rows.length) : GoodT rows ends where
  wf := W
  pos := by have := C.pos; rw [C.len]; omega
  len := by rw [C.len]; omega
  el := he
  flat := by omega
  acc := C.acc
  fam := fun p _ reach start R hs => C.fam W h4 h11 R hs
end Pk
/-! The state, the accepted table. -/
namespace Pk
open PySem L2 PM
section
variable {P : Program} {w : World} {K : PySem.W.Frag} {mg : Str → Option Value} {base : Heap}
abbrev sState : Stmt := top 21
def spState (K : PySem.W.Frag) : Sp := fun vs H Q _ => ∃ (a : Addr) (ns : List Int), vs = [.ref a] ∧ SqL K H a (ns.map V.int) ∧
  ∀ (H' : Hp) (S sc : Addr), Same H H' → SAt H' S sc ns → Q (.ref S) H'
theorem scState : FnScope ["_law_script"] ["_law_script"] (C8.fnScope sState) := C8.fnScope_by (by decide +kernel)
theorem cal_state {f : Addr} {fd : FuncData} (D : C8.Def K mg "_law_state" sState f fd) (b : Binds K fd ["_law_script"] []) (T : Tx mg) : C8.Cal P w K mg base 1 "_law_state" (spState K) [] := by
  have nd := scState.nd
  refine C8.cal0 D b .nil scState (fun vs H Q E h => ?_) (fun cdv A outer s0 H vs Q E hr h => ?_)
  · obtain ⟨a, ns, rfl, _⟩ := h
    rfl
  · obtain ⟨a, ns, rfl, ha, k⟩ := h
    refine ⟨_, pss_one (ps_ret (pe_lst (pa_cons (pe_callTy call_list_of (by rfl) T.list (by decide +kernel) (pa_cons (pv 0) pa_nil)) (pa_cons pe_int (pa_cons pe_int (pa_cons pe_int (pa_cons pe_bl (pa_cons pe_int pa_nil)))))))), ?_⟩
    refine ⟨_, rfl, a, _, rfl, .inl ha, fun l hl => ⟨by show 6 ≤ sizeLine; decide, fun S hS => ?_⟩⟩
    have hne : l ≠ S := ne_of_none upd_same hS
    have s1 := same_new (o := .lst (ns.map V.int)) hl
    have s2 := same_new (o := stL l 0 0 0 false) hS
    exact k _ S l (fun b o z => s2 b o (s1 b o z)) ⟨Ne.symm hne, s2 _ _ upd_same, 0, 0, 0, false, Int.le_refl 0, upd_same⟩

abbrev sAcc : Stmt := top 32
abbrev nAcc : List Str := ["_law_state_here", "_law_names_here", "_law_labels", "_law_kind", "_law_one", "_law_count"]
def spAcc : Sp := fun vs H Q _ => ∃ (S sc : Addr) (ns : List Int), vs = [.ref S] ∧ SAt H S sc ns ∧ ns.length ≤ 1000 ∧
  ∀ (H' : Hp) (v : V) (rows : Rows Str) (ends : List Bool), Ex S H H' → SAt H' S sc ns → TabAt H' v rows ends → GoodT rows ends → Q v H'
theorem scAcc : FnScope nAcc ["_law_state_here"] (C8.fnScope sAcc) := C8.fnScope_by (by decide +kernel)
theorem nodup_T8 {ls : List (List Nat)} (h : ls.Nodup) : (ls.map T8).Nodup := nodup_map (fun _ _ => SX.S_inj) h
theorem cal_acc {f : Addr} {fd : FuncData} (D : C8.Def K mg "_law_accepted" sAcc f fd) (b : Binds K fd ["_law_state_here"] []) (T : Tx mg) (c1 : C8.Cal P w K mg base 1 "_law_draw" spDraw []) (c2 : C8.Cal P w K mg base 3 "_law_names" spNames []) (c3 : C8.Cal P w K mg base 3 "_law_table" spTable [])
    (c4 : C8.Cal P w K mg base 1 "_law_beside" spBeside []) (c5 : C8.Cal P w K mg base 1 "_law_conducted" spCond []) : C8.Cal P w K mg base 4 "_law_accepted" spAcc [] := by
  have nd := scAcc.nd
  refine C8.cal0 D b .nil scAcc (fun vs H Q E h => ?_) (fun cdv A0 outer s0 H vs Q E hr h => ?_)
  · obtain ⟨S, sc, ns, rfl, _⟩ := h
    rfl
  · obtain ⟨S, sc, ns, rfl, hS, hns, k⟩ := h
    have hz := sizeLine_eq
    refine ⟨_, pss_cons (ps_set (i := 1) nd rfl (.inl rfl) (C8.pe_c c2 hr (by decide) (by rfl) (pa_cons (pv 0) (pa_cons pe_int (pa_cons (pe_lst pa_nil) pa_nil)))))
      (pss_cons (ps_set (i := 2) nd rfl (.inl rfl) (C8.pe_c c2 hr (by decide) (by rfl) (pa_cons (pv 0) (pa_cons (pe_op op_add pe_int (C8.pe_c c1 hr (by decide) (by rfl) (pa_cons (pv 0) (pa_cons pe_int pa_nil)))) (pa_cons (pe_lst pa_nil) pa_nil)))))
      (pss_cons (ps_set (i := 3) nd rfl (.inl rfl) (C8.pe_c c1 hr (by decide) (by rfl) (pa_cons (pv 0) (pa_cons pe_int pa_nil))))
      (pss_cons (ps_if (pt_cmpR op_eq (pv 3) pe_int (nomark _)) (pss_one (ps_ret (C8.pe_c c3 hr (by decide) (by rfl) (pa_cons (pv 0) (pa_cons (pe_slice sl_list (pv 1) po_none (po_some pe_int)) (pa_cons (pv 2) (pa_cons (pe_op op_add pe_int (C8.pe_c c1 hr (by decide) (by rfl) (pa_cons (pv 0) (pa_cons pe_int pa_nil)))) pa_nil))))))) pss_nil)
      (pss_cons (ps_if (pt_cmpR op_eq (pv 3) pe_int (nomark _))
        (pss_cons (ps_set (i := 4) nd rfl (.inl rfl) (C8.pe_c c3 hr (by decide) (by rfl) (pa_cons (pv 0) (pa_cons (pe_slice sl_list (pv 1) po_none (po_some pe_int)) (pa_cons (pv 2) (pa_cons (pe_op op_add pe_int (C8.pe_c c1 hr (by decide) (by rfl) (pa_cons (pv 0) (pa_cons pe_int pa_nil)))) pa_nil))))))
        (pss_one (ps_ret (C8.pe_c c4 hr (by decide) (by rfl) (pa_cons (pv 4) (pa_cons (C8.pe_c c3 hr (by decide) (by rfl) (pa_cons (pv 0) (pa_cons (pe_slice sl_list (pv 1) (po_some pe_int) (po_some pe_int)) (pa_cons (pv 2) (pa_cons (pe_op op_add pe_int (C8.pe_c c1 hr (by decide) (by rfl) (pa_cons (pv 0) (pa_cons pe_int pa_nil)))) pa_nil))))) pa_nil)))))) pss_nil)
      (pss_cons (ps_set (i := 5) nd rfl (.inl rfl) (pe_op op_add pe_int (pe_callTy call_int1 (by rfl) T.int (by decide +kernel) (pa_cons (pe_cmpR op_eq (pv 3) pe_int (nomark _)) pa_nil))))
      (pss_one (ps_ret (C8.pe_c c5 hr (by decide) (by rfl) (pa_cons (C8.pe_c c3 hr (by decide) (by rfl) (pa_cons (pv 0) (pa_cons (pe_slice sl_list (pv 1) po_none (po_some (pe_op op_add (pv 5) pe_int))) (pa_cons (pv 2) (pa_cons (pe_op op_add pe_int (C8.pe_c c1 hr (by decide) (by rfl) (pa_cons (pv 0) (pa_cons pe_int pa_nil)))) pa_nil)))))
          (pa_cons (pe_ix ix_list (pv 1) pe_int (fun _ _ => rfl)) pa_nil)))))))))), ?_⟩
    obtain ⟨xsS, hxS⟩ := hS.lst
    refine ⟨_, rfl, Nat.zero_le _, fun T1 hT1 => ?_⟩
    have sT1 := same_new (o := .lst []) hT1
    refine ⟨S, sc, T1, ns, 5, rfl, hS.same sT1, hns, Ne.symm (ne_of_none hxS hT1), upd_same, by decide, fun H1 Nm ls e1 hS1 hNm hN hl hnd hno => ?_⟩
    have hNS : Nm ≠ S := Ne.symm (ne_of_none (sT1 _ _ hxS) hNm)
    have e01 : Ex S H H1 := (ex_same sT1).trans e1
    clear e1 hNm sT1 hT1
    obtain ⟨xs1, hx1⟩ := hS1.lst
    refine ⟨_, rfl, _, rfl, S, sc, ns, 3, rfl, hS1, hns, by decide, by decide, fun H2 d hf2 hS2 hd => ⟨_, _, rfl, rfl, Nat.zero_le _, fun T2 hT2 => ?_⟩⟩
    have hd : (d : Int) < 3 := hd
    have sT2 := same_new (o := .lst []) hT2
    obtain ⟨xs2, hx2⟩ := hS2.lst
    have hN2 : H2 Nm = some (.lst (ls.map tx)) := (hf2 _ hNS).trans hN
    have n1 : ∀ d : Nat, V.int (1 + (d : Int)) = nV (1 + d) := fun d => by simp [nV]
    refine ⟨S, sc, T2, ns, 1 + d, congrArg (fun z => [V.ref S, z, .ref T2]) (n1 d), hS2.same sT2, hns, Ne.symm (ne_of_none hx2 hT2), upd_same, by omega, fun H3 Lb lb e3 hS3 hLb hL hll hlnd hlo => ?_⟩
    have hLS : Lb ≠ S := Ne.symm (ne_of_none (sT2 _ _ hx2) hLb)
    have hN3 := e3 _ _ hNS (sT2 _ _ hN2)
    have e03 : Ex S H H3 := (e01.trans fun b o nb z => (hf2 b nb).trans z).trans ((ex_same sT2).trans e3)
    clear e3 hLb sT2 hT2 hN2 hx2 hf2 hS2 hx1 hN hS1 e01
    refine ⟨_, rfl, S, sc, ns, 4, rfl, hS3, hns, by decide, by decide, fun H4 kd hf4 hS4 hkd => ?_⟩
    have hkd : (kd : Int) < 4 := hkd
    have hN4 : H4 Nm = some (.lst (ls.map tx)) := (hf4 _ hNS).trans hN3
    have hL4 : H4 Lb = some (.lst ((lb.map T8).map V.str)) := by rw [hf4 _ hLS, hL, tx_map]
    have e04 : Ex S H H4 := e03.trans fun b o nb z => (hf4 b nb).trans z
    clear hf4 hS3 hN3 hL e03
    obtain ⟨xs4, hx4⟩ := hS4.lst
    have useTab : ∀ (H5 : Hp) (p : Addr) (ps : List Str) (n : Nat) (v : V) (Q' : VK) (E' : XK), Ex S H4 H5 → SAt H5 S sc ns → H5 p = some (.lst (ps.map V.str)) → p ≠ S → ps.Nodup → 2 ≤ ps.length → ps.length ≤ 10 → v = nV n → 1 ≤ n → n ≤ 10 →
        (∀ H' w rows ends, Ex S H5 H' → SAt H' S sc ns → TabAt H' w rows ends → ends.length = n → TP ps (lb.map T8) n rows (3 * n - 1) → Q' w H') → spTable [.ref S, .ref p, .ref Lb, v] H5 Q' E' := fun H5 p ps n v Q' E' h1 h2 h3 h4 h5 h6 h7 h8 h9 h10 h11 =>
      ⟨S, sc, p, Lb, ns, ps, lb.map T8, n, by rw [h8], h2, hns, h4, hLS, h3, h1 _ _ hLS hL4, h5, h6, h7, by rw [List.length_map]; omega, by rw [List.length_map]; omega, h9, h10, h11⟩
    have cutN : ∀ m : Nat, cutV (ls.map tx) none (some (m : Int)) = ((ls.take m).map T8).map V.str := fun m => (cut_to _ m).trans (by rw [← List.map_take, tx_map])
    have ndT : ∀ {xs : List (List Nat)}, xs.Sublist ls → (xs.map T8).Nodup := fun h => nodup_T8 (hnd.sublist h)
    refine ⟨_, rfl, rfl, _, rfl, ?_⟩
    refine ite_b (fun h0 => ?_) (fun _ => ?_)
    · refine ⟨_, rfl, _, rfl, 2, rfl, Nm, _, rfl, SqL.of hN4, fun p hp => ?_⟩
      have hpS : p ≠ S := Ne.symm (ne_of_none hx4 hp)
      have c2' : cutV (ls.map tx) none (some 2) = ((ls.take 2).map T8).map V.str := cutN 2
      rw [c2']
      have sp := same_new (o := .lst (((ls.take 2).map T8).map V.str)) hp
      refine ⟨_, rfl, _, rfl, S, sc, ns, 6, rfl, hS4.same sp, hns, by decide, by decide, fun H6 d6 hf6 hS6 hd6 => ⟨_, _, rfl, rfl, ?_⟩⟩
      have hd6 : (d6 : Int) < 6 := hd6
      have e46 : Ex S H4 H6 := (ex_same sp).trans fun b o nb z => (hf6 b nb).trans z
      refine useTab H6 p _ (1 + d6) _ _ E e46 hS6 ((hf6 _ hpS).trans upd_same) hpS (ndT (List.take_sublist _ _)) (by rw [List.length_map, List.length_take]; omega) (by rw [List.length_map, List.length_take]; omega) (n1 d6) (by omega) (by omega) fun H7 v rows ends e7 hS7 hT7 hel TPx => ?_
      exact k H7 v rows ends (e04.trans (e46.trans e7)) hS7 hT7 (good0 TPx (by rw [List.length_map, List.length_take]; omega) (by omega) (by omega) (by omega) hel)
    refine ⟨_, rfl, rfl, _, rfl, ?_⟩
    refine ite_b (fun h1 => ?_) (fun _ => ?_)
    · refine ⟨_, rfl, _, rfl, 2, rfl, Nm, _, rfl, SqL.of hN4, fun p hp => ?_⟩
      have hpS : p ≠ S := Ne.symm (ne_of_none hx4 hp)
      have c2' : cutV (ls.map tx) none (some 2) = ((ls.take 2).map T8).map V.str := cutN 2
      rw [c2']
      have sp := same_new (o := .lst (((ls.take 2).map T8).map V.str)) hp
      refine ⟨_, rfl, _, rfl, S, sc, ns, 3, rfl, hS4.same sp, hns, by decide, by decide, fun H6 d6 hf6 hS6 hd6 => ⟨_, _, rfl, rfl, ?_⟩⟩
      have hd6 : (d6 : Int) < 3 := hd6
      have e46 : Ex S H4 H6 := (ex_same sp).trans fun b o nb z => (hf6 b nb).trans z
      refine useTab H6 p _ (1 + d6) _ _ E e46 hS6 ((hf6 _ hpS).trans upd_same) hpS (ndT (List.take_sublist _ _)) (by rw [List.length_map, List.length_take]; omega) (by rw [List.length_map, List.length_take]; omega) (n1 d6) (by omega) (by omega) fun H7 v7 A ea e7 hS7 hT7 hela TPA => ?_
      have e47 : Ex S H4 H7 := e46.trans e7
      have hN7 := e47 _ _ hNS hN4
      obtain ⟨xs7, hx7⟩ := hS7.lst
      refine ⟨_, rfl, _, rfl, _, rfl, 2, rfl, 4, rfl, Nm, _, rfl, SqL.of hN7, fun p2 hp2 => ?_⟩
      have hpS2 : p2 ≠ S := Ne.symm (ne_of_none hx7 hp2)
      have c4' : cutV (ls.map tx) (some 2) (some 4) = (((ls.drop 2).take 2).map T8).map V.str := (cut_mid (ls.map tx) 2 4 (by rw [List.length_map]; omega) (by decide)).trans (by rw [← List.map_drop, ← List.map_take, tx_map])
      rw [c4']
      have sp2 := same_new (o := .lst ((((ls.drop 2).take 2).map T8).map V.str)) hp2
      refine ⟨_, rfl, _, rfl, S, sc, ns, 3, rfl, hS7.same sp2, hns, by decide, by decide, fun H8 d8 hf8 hS8 hd8 => ⟨_, _, rfl, rfl, ?_⟩⟩
      have hd8 : (d8 : Int) < 3 := hd8
      have e78 : Ex S H7 H8 := (ex_same sp2).trans fun b o nb z => (hf8 b nb).trans z
      refine useTab H8 p2 _ (1 + d8) _ _ E (e47.trans e78) hS8 ((hf8 _ hpS2).trans upd_same) hpS2 (ndT ((List.take_sublist _ _).trans (List.drop_sublist _ _))) (by rw [List.length_map, List.length_take, List.length_drop]; omega) (by rw [List.length_map, List.length_take, List.length_drop]; omega) (n1 d8) (by omega) (by omega) fun H9 v9 B eb e9 hS9 hT9 helb TPB => ?_
      have e79 : Ex S H7 H9 := e78.trans e9
      have hfa := TPA.flat
      have hfb := TPB.flat
      have hla := TPA.len
      have hlb := TPB.len
      refine ⟨v7, v9, A, B, ea, eb, rfl, hT7.mono (ex_tups hS7 e79), hT9, by omega, by omega, by omega, by omega, TPA.wf, TPB.wf, by omega, by omega, fun H' v rows ends s hT' hel' I => ?_⟩
      refine k H' v rows ends (e04.trans (e47.trans (e79.trans (ex_same s)))) (hS9.same s) hT' (good1 TPA TPB (by rw [List.length_map, List.length_take]; omega) (by rw [List.length_map, List.length_take, List.length_drop]; omega) (fun x hx hx2 => ?_) (by omega) (by omega) (by omega) (by omega) (by omega) (by omega) I hel')
      obtain ⟨l1, hl1, rfl⟩ := List.mem_map.mp hx
      obtain ⟨l2, hl2, e⟩ := List.mem_map.mp hx2
      have e := SX.S_inj e
      subst e
      have hsp : (ls.take 2 ++ ls.drop 2).Nodup := by rw [List.take_append_drop]; exact hnd
      rw [List.nodup_append] at hsp
      exact hsp.2.2 l2 hl2 l2 (List.mem_of_mem_take hl1) rfl
    · refine ⟨_, rfl, rfl, .inr ⟨_, rfl, _, _, rfl, rfl, ?_⟩⟩
      obtain ⟨m, hm3, hm4, hm⟩ : ∃ m : Nat, 3 ≤ m ∧ m ≤ 4 ∧ ((2 : Int) + (if decide (nV kd = V.int 3) = true then 1 else 0)) + 1 = (m : Int) := by
        by_cases e : decide (nV kd = V.int 3) = true
        · exact ⟨4, by decide, by decide, by rw [if_pos e]; rfl⟩
        · exact ⟨3, by decide, by decide, by rw [if_neg e]; rfl⟩
      refine ⟨_, rfl, _, rfl, _, rfl, _, _, rfl, rfl, _, rfl, Nm, _, rfl, SqL.of hN4, fun p hp => ?_⟩
      have hpS : p ≠ S := Ne.symm (ne_of_none hx4 hp)
      dsimp only
      rw [hm, cutN m]
      have sp := same_new (o := .lst (((ls.take m).map T8).map V.str)) hp
      refine ⟨_, rfl, _, rfl, S, sc, ns, 4, rfl, hS4.same sp, hns, by decide, by decide, fun H6 d6 hf6 hS6 hd6 => ⟨_, _, rfl, rfl, ?_⟩⟩
      have hd6 : (d6 : Int) < 4 := hd6
      have e46 : Ex S H4 H6 := (ex_same sp).trans fun b o nb z => (hf6 b nb).trans z
      refine useTab H6 p _ (1 + d6) _ _ E e46 hS6 ((hf6 _ hpS).trans upd_same) hpS (ndT (List.take_sublist _ _)) (by rw [List.length_map, List.length_take]; omega) (by rw [List.length_map, List.length_take]; omega) (n1 d6) (by omega) (by omega) fun H7 v7 A ea e7 hS7 hT7 hela TPA => ?_
      have e47 : Ex S H4 H7 := e46.trans e7
      have hN7 := e47 _ _ hNS hN4
      have h4l : 4 < ls.length := by omega
      have h4v : (ls.map tx)[4]? = some (tx ls[4]) := by simp [h4l]
      have hk4 : ls[4]? = some ls[4] := List.getElem?_eq_getElem h4l
      generalize ls[4] = kl at h4v hk4
      have hkl := hno kl (List.mem_of_getElem? hk4)
      have hfa := TPA.flat
      have hla := TPA.len
      have hT8 : ∀ l, (T8 l).length = l.length := fun l => SX.S_len l
      refine ⟨_, rfl, Nm, _, 4, _, rfl, rfl, SqL.of hN7, atI_nat (j := 4) h4v, ?_⟩
      have hnk : ∀ x ∈ (ls.take m).map T8, x.length ≤ 100 ∧ x ≠ T8 kl := fun x hx => by
        obtain ⟨l, hl, e⟩ := List.mem_map.mp hx
        subst e
        refine ⟨by rw [hT8]; have := (hno l (List.mem_of_mem_take hl)).1; omega, fun e => ?_⟩
        have e := SX.S_inj e
        subst e
        refine not_take hnd hk4 ?_
        have : ls.take m = (ls.take 4).take m := by rw [List.take_take, Nat.min_eq_left hm4]
        rw [this] at hl
        exact List.mem_of_mem_take hl
      have hlx : ∀ x ∈ lb.map T8, ∃ l, x = T8 l ∧ l.length ≤ 14 ∧ 46 ∉ l := fun x hx => by
        obtain ⟨l, hl, e⟩ := List.mem_map.mp hx
        exact ⟨l, e.symm, (hlo l hl).1, (hlo l hl).2⟩
      refine ⟨v7, T8 kl, A, ea, rfl, hT7, by omega, TPA.wf, by omega, by omega, by omega, by rw [hT8]; have := hkl.1; omega, fun row hr e he => ?_, fun row hr e he row' hr' e' he' q q' h => ?_, fun H' v rows ends E s hT' hel' hC hW hfl hEl => ?_⟩
      · have hg := ((TPA.row row hr).2 e he).2
        obtain ⟨g1, g2⟩ := hnk _ hg.p
        obtain ⟨g3, g4⟩ := hnk _ hg.q
        obtain ⟨l, g5, g6, _⟩ := hlx _ hg.l
        exact ⟨g1, g3, by rw [g5, hT8]; omega, g2, g4, hg.ne⟩
      · obtain ⟨l, g5, _, g7⟩ := hlx _ ((TPA.row row hr).2 e he).2.l
        obtain ⟨l', g5', _, g7'⟩ := hlx _ ((TPA.row row' hr').2 e' he').2.l
        rw [g5, g5'] at h ⊢
        exact lab_inj g7 g7' h
      · exact k H' v rows ends (e04.trans (e47.trans (ex_same s))) (hS7.same s) hT' (good2 hC hW hfl (by omega) (by omega) hel')
end
end Pk
/-! The law. -/
namespace Pk
open PySem L2 PM
def Acts (H : Hp) (xs : List V) : Prop := ∀ x ∈ xs, ∃ a : A3, ActAt H x a
theorem Acts.mono {H H' : Hp} {xs : List V} (h : Acts H xs) (t : Tups H H') : Acts H' xs := fun x hx => by
  obtain ⟨a, ha⟩ := h x hx
  exact ⟨a, ha.mono t⟩
theorem Acts.pair {H : Hp} : ∀ {xs : List V}, Acts H xs → ∃ w, Paired (ActAt H) xs w
  | [], _ => ⟨[], .nil⟩
  | x :: xs, h => by
    obtain ⟨a, ha⟩ := h x List.mem_cons_self
    obtain ⟨w, hw⟩ := Acts.pair (xs := xs) fun y hy => h y (List.mem_cons_of_mem _ hy)
    exact ⟨a :: w, .cons ha hw⟩
theorem Acts.app {H : Hp} {xs ys : List V} (h : Acts H xs) (h' : Acts H ys) : Acts H (xs ++ ys) := fun x hx => (List.mem_append.mp hx).elim (h x) (h' x)
theorem Acts.take {H : Hp} {xs : List V} (h : Acts H xs) (n : Nat) : Acts H (xs.take n) := fun x hx => h x (List.mem_of_mem_take hx)
theorem Acts.drop {H : Hp} {xs : List V} (h : Acts H xs) (n : Nat) : Acts H (xs.drop n) := fun x hx => h x (List.mem_of_mem_drop hx)
theorem GoodT.tok {rows : Rows Str} {ends : List Bool} (G : GoodT rows ends) : TOk rows ends (rows.flatten.map (·.1)) :=
  ⟨G.wf, G.pos, by have := G.len; omega, G.el, by rw [List.length_map]; have := G.flat; omega, fun row hr e he => List.mem_map.mpr ⟨e, List.mem_flatten.mpr ⟨row, hr, he⟩, rfl⟩⟩
def partsOf (rows : Rows Str) : List Str := rows.flatten.map (fun e => e.1.1) ++ rows.flatten.map fun e => e.1.2.1
theorem partsOf_has {rows : Rows Str} {x : Str} (h : PartOf rows.flatten x) : x ∈ partsOf rows := by
  obtain ⟨e, he, h⟩ := h
  rcases h with h | h
  · exact List.mem_append_left _ (List.mem_map.mpr ⟨e, he, h.symm⟩)
  · exact List.mem_append_right _ (List.mem_map.mpr ⟨e, he, h.symm⟩)
/-- the actions between two statements -/
def LSt (H0 : Hp) (a S sc : Addr) (vt : V) (ns : List Int) (kd pl c : Nat) (σ : L2.St) (H1 : Hp) : Prop := ∃ (Ad : Addr) (xs : List V) (o4 o5 o6 o9 : Option V), σ = [some (.ref a), some (.ref S), some vt, some (.ref Ad), o4, o5, o6, some (nV kd), some (nV pl), o9] ∧
  Ex S H0 H1 ∧ SAt H1 S sc ns ∧ H1 Ad = some (.lst xs) ∧ Acts H1 xs ∧ xs.length ≤ c ∧ Ad ≠ S
theorem seq_cut {t u : TS} {D : Ends} {σ : L2.St} {H : Hp} (C : L2.St → Hp → Prop) (h2 : ∀ σ H, C σ H → u D σ H) (h1 : (∀ σ H, C σ H → u D σ H) → t { D with nx := u D } σ H) : tSeq t u D σ H := h1 h2
theorem seq_start {T : L2.St → Hp → Prop} {σ : L2.St} {H : Hp} (C : L2.St → Hp → Prop) (h0 : C σ H) (h : ∀ σ H, C σ H → T σ H) : T σ H := h _ _ h0
theorem LSt.new {H0 H4 H9 : Hp} {a S sc : Addr} {vt : V} {ns : List Int} {kd pl c : Nat} {q : Addr} {ys : List V} {o4 o5 o6 o9 : Option V} (e : Ex S H0 H4) (hS : SAt H4 S sc ns) (s : Same H4 H9) (hq : H9 q = some (.lst ys)) (hn : H4 q = none) (ha : Acts H9 ys) (hl : ys.length ≤ c) :
    LSt H0 a S sc vt ns kd pl c [some (.ref a), some (.ref S), some vt, some (.ref q), o4, o5, o6, some (nV kd), some (nV pl), o9] H9 := by
  obtain ⟨xs, hx⟩ := hS.lst
  exact ⟨q, ys, _, _, _, _, rfl, e.trans (ex_same s), hS.same s, hq, ha, hl, Ne.symm (ne_of_none hx hn)⟩
theorem LSt.le {H0 H4 : Hp} {a S sc : Addr} {vt : V} {ns : List Int} {kd pl c c' : Nat} {σ : L2.St} (L : LSt H0 a S sc vt ns kd pl c σ H4) (h : c ≤ c') : LSt H0 a S sc vt ns kd pl c' σ H4 := by
  obtain ⟨q, ys, _, _, _, _, h1, h2, h3, h4, h5, h6, h7⟩ := L
  exact ⟨q, ys, _, _, _, _, h1, h2, h3, h4, h5, by omega, h7⟩
section
variable {P : Program} {w : World} {K : PySem.W.Frag} {mg : Str → Option Value} {base : Heap}
abbrev sLaw : Stmt := top 33
abbrev nLaw : List Str := ["_law_script", "_law_state_here", "_law_table_here", "_law_actions", "_law_at", "_law_k", "_law_action", "_law_kind", "_law_place", "_law_row"]
def spLaw (K : PySem.W.Frag) : Sp := fun vs H Q _ => ∃ (a : Addr) (ns : List Int), vs = [.ref a] ∧ SqL K H a (ns.map V.int) ∧ ns.length ≤ 63 ∧ ∀ H', Q (.bl true) H'
theorem scLaw : FnScope nLaw ["_law_script"] (C8.fnScope sLaw) := C8.fnScope_by (by decide +kernel)
theorem ok_law {f : Addr} {fd : FuncData} (F : C8.Fun K "law" "law" sLaw f fd) (T : Tx mg) (c1 : C8.Cal P w K mg base 1 "_law_draw" spDraw []) (c2 : C8.Cal P w K mg base 1 "_law_state" (spState K) []) (c3 : C8.Cal P w K mg base 4 "_law_accepted" spAcc [])
    (c4 : C8.Cal P w K mg base 6 "fits" spFits []) (c5 : C8.Cal P w K mg base 2 "_law_walk" spWalk []) : FnOk P w K mg base C8.CX0 7 f fd ["_law_script"] (spLaw K) := by
  have nd := scLaw.nd
  refine C8.fn0 F scLaw (fun vs H Q E h => ?_) (fun cdv A0 outer s0 H vs Q E hr h => ?_)
  · obtain ⟨a, ns, rfl, _⟩ := h
    rfl
  · obtain ⟨a, ns, rfl, ha, hns, k⟩ := h
    have hz := sizeLine_eq
    refine ⟨_, pss_cons (ps_set (i := 1) nd rfl (.inl rfl) (C8.pe_c c2 hr (by decide) (by rfl) (pa_cons (pv 0) pa_nil)))
      (pss_cons (ps_set (i := 2) nd rfl (.inl rfl) (C8.pe_c c3 hr (by decide) (by rfl) (pa_cons (pv 1) pa_nil)))
      (pss_cons (ps_set (i := 3) nd rfl (.inl rfl) (pe_lst pa_nil))
      (pss_cons (ps_set (i := 4) nd rfl (.inl rfl) pe_int)
      (pss_cons (ps_for PassesOwn.never rfl (pi_range1 (by rfl) T.range (pa_cons (C8.pe_c c1 hr (by decide) (by rfl) (pa_cons (pv 1) (pa_cons pe_int pa_nil))) pa_nil)) (pg_name (i := 5) nd rfl (Or.inl rfl))
        (pss_one (ps_if (pt_truth (pe_ix ix_tup (pe_ix ix_tup (pv 2) pe_int (fun _ _ => rfl)) (pv 4) (fun _ _ => rfl)) (by intro _; rfl))
          (pss_cons (ps_asg (pe_ix ix_tup (pe_ix ix_tup (pe_ix ix_tup (pv 2) pe_int (fun _ _ => rfl)) (pv 4) (fun _ _ => rfl)) (C8.pe_c c1 hr (by decide) (by rfl) (pa_cons (pv 1) (pa_cons (pe_callB call_len_seq (by rfl) T.len PySem.boot_len (pa_cons (pe_ix ix_tup (pe_ix ix_tup (pv 2) pe_int (fun _ _ => rfl)) (pv 4) (fun _ _ => rfl)) pa_nil)) pa_nil))) (fun _ _ => rfl)) (pg_tup rfl (pgs_cons (pg_name (i := 6) nd rfl (Or.inl rfl)) (pgs_cons (pg_name (i := 4) nd rfl (Or.inl rfl)) pgs_nil))))
          (pss_one (ps_expr (pe_bm PySem.F.plainAttrs_list PySem.F.slot_list_append PySem.F.type_list_append mt_append (pv 3) (pa_cons (pv 6) pa_nil))))) pss_nil)))
      (pss_cons (ps_set (i := 7) nd rfl (.inl rfl) (C8.pe_c c1 hr (by decide) (by rfl) (pa_cons (pv 1) (pa_cons pe_int pa_nil))))
      (pss_cons (ps_set (i := 8) nd rfl (.inl rfl) (C8.pe_c c1 hr (by decide) (by rfl) (pa_cons (pv 1) (pa_cons pe_int pa_nil))))
      (pss_cons (ps_if (PW.pt (pw_and (pt_cmpR op_eq (pv 7) pe_int (nomark _)) (pw_and1 (pt_cmpR op_lt (pe_op op_add (pv 8) pe_int) (pe_callB call_len_seq (by rfl) T.len PySem.boot_len (pa_cons (pv 3) pa_nil)) (nomark _)))))
        (pss_one (ps_set (i := 3) nd rfl (.inl rfl) (pe_op op_cat (pe_op op_cat (pe_slice sl_list (pv 3) po_none (po_some (pv 8))) (pe_lst (pa_cons (pe_ix ix_list (pv 3) (pe_op op_add (pv 8) pe_int) (fun _ _ => rfl)) (pa_cons (pe_ix ix_list (pv 3) (pv 8) (fun _ _ => rfl)) pa_nil)))) (pe_slice sl_list (pv 3) (po_some (pe_op op_add (pv 8) pe_int)) po_none)))) pss_nil)
      (pss_cons (ps_if (pt_cmpR op_eq (pv 7) pe_int (nomark _))
        (pss_one (ps_set (i := 3) nd rfl (.inl rfl) (pe_op op_cat (pe_slice sl_list (pv 3) po_none (po_some (pv 8))) (pe_slice sl_list (pv 3) (po_some (pe_op op_add (pv 8) pe_int)) po_none)))) pss_nil)
      (pss_cons (ps_if (PW.pt (pw_and (pt_cmpR op_eq (pv 7) pe_int (nomark _)) (pw_and1 (pt_cmpR op_lt (pv 8) (pe_callB call_len_seq (by rfl) T.len PySem.boot_len (pa_cons (pv 3) pa_nil)) (nomark _)))))
        (pss_one (ps_set (i := 3) nd rfl (.inl rfl) (pe_op op_cat (pe_op op_cat (pe_slice sl_list (pv 3) po_none (po_some (pv 8))) (pe_lst (pa_cons (pe_ix ix_list (pv 3) (pv 8) (fun _ _ => rfl)) pa_nil))) (pe_slice sl_list (pv 3) (po_some (pv 8)) po_none)))) pss_nil)
      (pss_cons (ps_if (pt_cmpR op_eq (pv 7) pe_int (nomark _))
        (pss_cons (ps_set (i := 9) nd rfl (.inl rfl) (pe_ix ix_tup (pe_ix ix_tup (pv 2) pe_int (fun _ _ => rfl)) (C8.pe_c c1 hr (by decide) (by rfl) (pa_cons (pv 1) (pa_cons (pe_callB call_len_seq (by rfl) T.len PySem.boot_len (pa_cons (pe_ix ix_tup (pv 2) pe_int (fun _ _ => rfl)) pa_nil)) pa_nil))) (fun _ _ => rfl)))
        (pss_one (ps_if (pt_truth (pv 9) (by intro _; rfl))
          (pss_one (ps_set (i := 3) nd rfl (.inl rfl) (pe_op op_cat (pe_op op_cat (pe_slice sl_list (pv 3) po_none (po_some (pv 8))) (pe_lst (pa_cons (pe_ix ix_tup (pe_ix ix_tup (pv 9) (C8.pe_c c1 hr (by decide) (by rfl) (pa_cons (pv 1) (pa_cons (pe_callB call_len_seq (by rfl) T.len PySem.boot_len (pa_cons (pv 9) pa_nil)) pa_nil))) (fun _ _ => rfl)) pe_int (fun _ _ => rfl)) pa_nil))) (pe_slice sl_list (pv 3) (po_some (pv 8)) po_none)))) pss_nil))) pss_nil)
      (pss_one (ps_ret (pe_cmpR op_eq (C8.pe_c c4 hr (by decide) (by rfl) (pa_cons (pv 2) (pa_cons (pe_callTy call_list_of (by rfl) T.list (by decide +kernel) (pa_cons (pv 3) pa_nil)) pa_nil)))
        (pe_cmpR op_notN (C8.pe_c c5 hr (by decide) (by rfl) (pa_cons (pv 2) (pa_cons (pv 3) pa_nil))) pe_non (nomark _)) (nomark _)))))))))))))), ?_⟩
    refine ⟨_, rfl, a, ns, rfl, ha, fun HA S sc sA hSA => ?_⟩
    refine ⟨_, rfl, S, sc, ns, rfl, hSA, by omega, fun H0 vt rows ends eA hS0 hT G => ?_⟩
    refine ⟨Nat.zero_le _, fun Ad hAd => ?_⟩
    obtain ⟨xs0, hx0⟩ := hS0.lst
    have hAS : Ad ≠ S := Ne.symm (ne_of_none hx0 hAd)
    have hAsc : Ad ≠ sc := fun e => by
      have := hS0.2.1
      rw [← e, hAd] at this; cases this
    have hT0 := hT
    obtain ⟨p, vr, ve, rfl, hp, hR, hE⟩ := hT
    obtain ⟨pr, vrs, rfl, hpr, hrs⟩ := hR
    have hrows := pd_len hrs
    have hrl := G.len
    have hpos := G.pos
    have hfl := G.flat
    have s0 := same_new (o := .lst []) hAd
    have hS1 := hS0.same s0
    have e01 := ex_same (S := S) s0
    refine ⟨_, rfl, S, sc, ns, 11, rfl, hS1, by omega, by decide, by decide, fun H2 n hf2 hS2 hn => ⟨(n : Int), rfl, by omega, by have hn : (n : Int) < 11 := hn; omega, ?_⟩⟩
    have hn : (n : Int) < 11 := hn
    have e02 : Ex S H0 H2 := e01.trans fun b o nb z => (hf2 b nb).trans z
    have hA2 : H2 Ad = some (.lst []) := (hf2 _ hAS).trans upd_same
    clear e01 hS1 s0
    have hn0 : ((n : Int)).toNat = n := by omega
    rw [hn0]
    refine for_range (lo := 0) (n := n) (fun i σ H1 => ∃ (xs : List V) (t : Nat) (o5 o6 o7 o8 o9 : Option V), σ = [some (.ref a), some (.ref S), some (.ref p), some (.ref Ad), some (nV t), o5, o6, o7, o8, o9] ∧ Ex S H0 H1 ∧ SAt H1 S sc ns ∧ H1 Ad = some (.lst xs) ∧ Acts H1 xs ∧ xs.length ≤ i ∧ t < rows.length)
      ⟨[], 0, _, _, _, _, _, rfl, e02, hS2, hA2, (fun _ h => nomatch h), Nat.le_refl _, hpos⟩ ?_ ?_
    · clear e02 hS2 hA2 hf2
      rintro i σ H1 hi ⟨xs, t, o5, o6, o7, o8, o9, hσ, e1, hS1, hA1, hac, hxl, ht⟩
      subst hσ
      have t1 := ex_tups hS0 e1
      have hrow : rows[t]? = some rows[t] := List.getElem?_eq_getElem ht
      obtain ⟨vx, hvx, q, es, rfl, hq, hes⟩ := pd_get2 hrs hrow
      have hmem := List.mem_of_getElem? hrow
      generalize rows[t] = row at hrow hes hmem
      have hgl := flat_ge hmem
      have hel := pd_len hes
      refine ⟨_, rfl, p, _, 1, _, rfl, rfl, SqT.of (t1 _ _ hp), at1, _, rfl, pr, _, (t : Int), _, rfl, rfl, SqT.of (t1 _ _ hpr), atI_nat hvx, !es.isEmpty, .inr (.inl ⟨es, SqT.of (t1 _ _ hq), rfl⟩), ?_⟩
      refine ite_b (fun hne => ?_) (fun _ => ⟨xs, t, _, _, _, _, _, rfl, e1, hS1, hA1, hac, by omega, ht⟩)
      have hne : 0 < es.length := by
        cases es with
        | nil => cases hne
        | cons _ _ => simp
      refine ⟨_, rfl, p, _, 1, _, rfl, rfl, SqT.of (t1 _ _ hp), at1, _, rfl, pr, _, (t : Int), _, rfl, rfl, SqT.of (t1 _ _ hpr), atI_nat hvx, ?_⟩
      refine ⟨_, rfl, _, rfl, p, _, 1, _, rfl, rfl, SqT.of (t1 _ _ hp), at1, _, rfl, pr, _, (t : Int), _, rfl, rfl, SqT.of (t1 _ _ hpr), atI_nat hvx, q, _, rfl, .inr (SqT.of (t1 _ _ hq)), S, sc, ns, _, rfl, hS1, by omega, by omega, by omega, fun H3 d hf3 hS3 hd => ?_⟩
      have e3 : Ex S H0 H3 := fun b o nb z => (hf3 b nb).trans (e1 b o nb z)
      have t3 := ex_tups hS0 e3
      have hdl : d < es.length := by omega
      have hdv : es[d]? = some es[d] := List.getElem?_eq_getElem hdl
      obtain ⟨ed, hed, pe, va, hve, hpe, hva⟩ := pd_get hes hdv
      rw [hve] at hdv
      have hgo := G.wf.lt row hmem ed (List.mem_of_getElem? hed)
      refine ⟨q, _, (d : Int), _, rfl, rfl, SqT.of (t3 _ _ hq), atI_nat hdv, ?_⟩
      refine ⟨_, _, rfl, SqT.of (t3 _ _ hpe), rfl, _, _, rfl, _, _, rfl, rfl, ?_⟩
      have hA3 : H3 Ad = some (.lst xs) := (hf3 _ hAS).trans hA1
      refine ⟨_, rfl, .inl ⟨rfl, _, SqL.of hA3⟩, _, rfl, Ad, _, _, rfl, rfl, hA3, by omega, ?_⟩
      have t13 : Tups H1 H3 := ex_tups hS1 fun b o nb z => (hf3 b nb).trans z
      have tt := tups_lst (o := .lst (xs ++ [va])) hA3
      refine ⟨xs ++ [va], ed.2, _, _, _, _, _, rfl, ex_new e3 hAd, hS3.upd hAS hAsc, upd_same, ((hac.mono t13).mono tt).app fun x hx => ?_, by rw [List.length_append, List.length_singleton]; omega, hgo⟩
      rw [List.mem_singleton] at hx
      subst hx
      exact ⟨ed.1, (hva.mono t3).mono tt⟩
    clear e02 hS2 hA2 hf2 hn0
    rintro σ H1 ⟨xs, t, o5, o6, o7, o8, o9, hσ, e1, hS1, hA1, hac, hxl, ht⟩
    subst hσ
    refine ⟨_, rfl, S, sc, ns, 5, rfl, hS1, by omega, by decide, by decide, fun H3 kd hf3 hS3 hkd => ?_⟩
    refine ⟨_, rfl, S, sc, ns, 11, rfl, hS3, by omega, by decide, by decide, fun H4 pl hf4 hS4 hpl => ?_⟩
    have hpl : (pl : Int) < 11 := hpl
    have hf34 : ∀ b, b ≠ S → H4 b = H1 b := fun b nb => (hf4 b nb).trans (hf3 b nb)
    have e4 : Ex S H0 H4 := fun b o nb z => (hf34 b nb).trans (e1 b o nb z)
    have t14 : Tups H1 H4 := ex_tups hS1 fun b o nb z => (hf34 b nb).trans z
    have L0 : LSt H0 a S sc (.ref p) ns kd pl 20 _ H4 := ⟨Ad, xs, some (nV t), o5, o6, o9, rfl, e4, hS4, (hf34 _ hAS).trans hA1, hac.mono t14, by omega, hAS⟩
    clear hAS hAsc hA1 hac hxl ht hf3 hf4 hf34 e4 t14 e1 hS1 hS3 hS4 hkd hAd
    -- the four kinds
    have plus2 : ((pl : Int) + 2) = ((pl + 2 : Nat) : Int) := by omega
    have plus1 : ((pl : Int) + 1) = ((pl + 1 : Nat) : Int) := by omega
    dsimp only [gName]
    refine seq_start (LSt H0 a S sc (.ref p) ns kd pl 20) L0 (fun σ H4 L0 => ?_)
    refine seq_cut (t := tIfS _ _ _) (C := LSt H0 a S sc (.ref p) ns kd pl 40) (fun σ H5 L1 => ?_) (fun hC => ?_)
    rotate_left
    · obtain ⟨Ad, xs, o4, o5, o6, o9, hσ, e4, hS4, hA4, hac, hxl, hAS⟩ := L0
      subst hσ
      refine ⟨_, rfl, rfl, _, rfl, ?_⟩
      refine ite_b (fun _ => ?_) (fun _ => iteF (hC _ _ ⟨Ad, xs, _, _, _, _, rfl, e4, hS4, hA4, hac, by omega, hAS⟩))
      refine ⟨_, rfl, _, _, rfl, rfl, _, rfl, Ad, xs, rfl, .inl (SqL.of hA4), _, _, rfl, rfl, _, rfl, ?_⟩
      refine ite_b (fun hlt => ?_) (fun _ => hC _ _ ⟨Ad, xs, _, _, _, _, rfl, e4, hS4, hA4, hac, by omega, hAS⟩)
      have hlt : (pl : Int) + 1 < (xs.length : Int) := of_decide_eq_true hlt
      have hv1 : xs[pl + 1]? = some xs[pl + 1] := List.getElem?_eq_getElem (by omega)
      have hv2 : xs[pl]? = some xs[pl] := List.getElem?_eq_getElem (by omega)
      have hm1 := hac _ (List.mem_of_getElem? hv1)
      have hm2 := hac _ (List.mem_of_getElem? hv2)
      generalize xs[pl + 1] = y1 at hv1 hm1
      generalize xs[pl] = y2 at hv2 hm2
      refine ⟨_, rfl, _, rfl, _, rfl, Ad, xs, rfl, SqL.of hA4, fun q1 hq1 => ?_⟩
      rw [cut_to]
      have s1 := same_new (o := .lst (xs.take pl)) hq1
      refine ⟨_, rfl, _, rfl, _, _, rfl, rfl, Ad, xs, ((pl + 1 : Nat) : Int), y1, rfl, congrArg V.int plus1, SqL.of (s1 _ _ hA4), atI_nat hv1, ?_⟩
      refine ⟨_, rfl, _, rfl, Ad, xs, (pl : Int), y2, rfl, rfl, SqL.of (s1 _ _ hA4), atI_nat hv2, by show 2 ≤ sizeLine; omega, fun q2 hq2 => ?_⟩
      have s2 := same_new (o := .lst [y1, y2]) hq2
      refine ⟨q1, q2, xs.take pl, [y1, y2], rfl, rfl, s2 _ _ upd_same, upd_same, by rw [List.length_take]; show _ + 2 ≤ _; omega, fun q3 hq3 => ?_⟩
      have s3 := same_new (o := .lst (xs.take pl ++ [y1, y2])) hq3
      refine ⟨_, rfl, _, rfl, _, _, rfl, rfl, ((pl + 2 : Nat) : Int), congrArg V.int plus2, Ad, xs, rfl, SqL.of (s3 _ _ (s2 _ _ (s1 _ _ hA4))), fun q4 hq4 => ?_⟩
      rw [cut_from]
      have s4 := same_new (o := .lst (xs.drop (pl + 2))) hq4
      refine ⟨q3, q4, _, _, rfl, rfl, s4 _ _ upd_same, upd_same, by rw [List.length_append, List.length_take, List.length_drop]; show _ + 2 + _ ≤ _; omega, fun q5 hq5 => ?_⟩
      have s5 := same_new (o := .lst (xs.take pl ++ [y1, y2] ++ xs.drop (pl + 2))) hq5
      have sall : Same H4 _ := fun b o z => s5 b o (s4 b o (s3 b o (s2 b o (s1 b o z))))
      refine hC _ _ (LSt.new e4 hS4 sall upd_same (same_none (fun b o z => s4 b o (s3 b o (s2 b o (s1 b o z)))) hq5) (((hac.take pl).app fun x hx => ?_).app (hac.drop (pl + 2)) |>.mono (same_tups sall)) ?_)
      · simp only [List.mem_cons, List.not_mem_nil, or_false] at hx
        rcases hx with e | e
        · rw [e]; exact hm1
        · rw [e]; exact hm2
      · rw [List.length_append, List.length_append, List.length_take, List.length_drop]
        show _ + 2 + _ ≤ _
        omega
    refine seq_cut (t := tIfS _ _ _) (C := LSt H0 a S sc (.ref p) ns kd pl 80) (fun σ H6 L2 => ?_) (fun hC => ?_)
    rotate_left
    · clear L0 H4
      obtain ⟨Ad, xs, o4, o5, o6, o9, hσ, e4, hS4, hA4, hac, hxl, hAS⟩ := L1
      subst hσ
      refine ⟨_, rfl, rfl, _, rfl, ?_⟩
      refine ite_b (fun _ => ?_) (fun _ => hC _ _ ⟨Ad, xs, _, _, _, _, rfl, e4, hS4, hA4, hac, by omega, hAS⟩)
      refine ⟨_, rfl, _, rfl, _, rfl, Ad, xs, rfl, SqL.of hA4, fun q1 hq1 => ?_⟩
      rw [cut_to]
      have s1 := same_new (o := .lst (xs.take pl)) hq1
      refine ⟨_, rfl, _, rfl, _, _, rfl, rfl, ((pl + 1 : Nat) : Int), congrArg V.int plus1, Ad, xs, rfl, SqL.of (s1 _ _ hA4), fun q4 hq4 => ?_⟩
      rw [cut_from]
      have s4 := same_new (o := .lst (xs.drop (pl + 1))) hq4
      refine ⟨q1, q4, _, _, rfl, rfl, s4 _ _ upd_same, upd_same, by rw [List.length_take, List.length_drop]; omega, fun q5 hq5 => ?_⟩
      have s5 := same_new (o := .lst (xs.take pl ++ xs.drop (pl + 1))) hq5
      have sall : Same H5 _ := fun b o z => s5 b o (s4 b o (s1 b o z))
      refine hC _ _ (LSt.new e4 hS4 sall upd_same (same_none (fun b o z => s4 b o (s1 b o z)) hq5) ((hac.take pl).app (hac.drop (pl + 1)) |>.mono (same_tups sall)) ?_)
      rw [List.length_append, List.length_take, List.length_drop]
      omega
    refine seq_cut (t := tIfS _ _ _) (C := LSt H0 a S sc (.ref p) ns kd pl 160) (fun σ H7 L3 => ?_) (fun hC => ?_)
    rotate_left
    · clear L1 L0 H4 H5
      obtain ⟨Ad, xs, o4, o5, o6, o9, hσ, e4, hS4, hA4, hac, hxl, hAS⟩ := L2
      subst hσ
      refine ⟨_, rfl, rfl, _, rfl, ?_⟩
      refine ite_b (fun _ => ?_) (fun _ => iteF (hC _ _ ⟨Ad, xs, _, _, _, _, rfl, e4, hS4, hA4, hac, by omega, hAS⟩))
      refine ⟨_, rfl, _, rfl, Ad, xs, rfl, .inl (SqL.of hA4), _, _, rfl, rfl, _, rfl, ?_⟩
      refine ite_b (fun hlt => ?_) (fun _ => hC _ _ ⟨Ad, xs, _, _, _, _, rfl, e4, hS4, hA4, hac, by omega, hAS⟩)
      have hlt : (pl : Int) < (xs.length : Int) := of_decide_eq_true hlt
      have hv2 : xs[pl]? = some xs[pl] := List.getElem?_eq_getElem (by omega)
      have hm2 := hac _ (List.mem_of_getElem? hv2)
      generalize xs[pl] = y2 at hv2 hm2
      refine ⟨_, rfl, _, rfl, _, rfl, Ad, xs, rfl, SqL.of hA4, fun q1 hq1 => ?_⟩
      rw [cut_to]
      have s1 := same_new (o := .lst (xs.take pl)) hq1
      refine ⟨_, rfl, _, rfl, Ad, xs, (pl : Int), y2, rfl, rfl, SqL.of (s1 _ _ hA4), atI_nat hv2, by show 1 ≤ sizeLine; omega, fun q2 hq2 => ?_⟩
      have s2 := same_new (o := .lst [y2]) hq2
      refine ⟨q1, q2, xs.take pl, [y2], rfl, rfl, s2 _ _ upd_same, upd_same, by rw [List.length_take]; show _ + 1 ≤ _; omega, fun q3 hq3 => ?_⟩
      have s3 := same_new (o := .lst (xs.take pl ++ [y2])) hq3
      refine ⟨_, rfl, _, rfl, (pl : Int), rfl, Ad, xs, rfl, SqL.of (s3 _ _ (s2 _ _ (s1 _ _ hA4))), fun q4 hq4 => ?_⟩
      rw [cut_from]
      have s4 := same_new (o := .lst (xs.drop pl)) hq4
      refine ⟨q3, q4, _, _, rfl, rfl, s4 _ _ upd_same, upd_same, by rw [List.length_append, List.length_take, List.length_drop]; show _ + 1 + _ ≤ _; omega, fun q5 hq5 => ?_⟩
      have s5 := same_new (o := .lst (xs.take pl ++ [y2] ++ xs.drop pl)) hq5
      have sall : Same H6 _ := fun b o z => s5 b o (s4 b o (s3 b o (s2 b o (s1 b o z))))
      refine hC _ _ (LSt.new e4 hS4 sall upd_same (same_none (fun b o z => s4 b o (s3 b o (s2 b o (s1 b o z)))) hq5) (((hac.take pl).app fun x hx => ?_).app (hac.drop pl) |>.mono (same_tups sall)) ?_)
      · rw [List.mem_singleton] at hx
        rw [hx]
        exact hm2
      · rw [List.length_append, List.length_append, List.length_take, List.length_drop]
        show _ + 1 + _ ≤ _
        omega
    refine seq_cut (t := tIfS _ _ _) (C := LSt H0 a S sc (.ref p) ns kd pl 320) (fun σ H8 L4 => ?_) (fun hC => ?_)
    rotate_left
    · clear L2 L1 L0 H4 H5 H6
      obtain ⟨Ad, xs, o4, o5, o6, o9, hσ, e4, hS4, hA4, hac, hxl, hAS⟩ := L3
      subst hσ
      have t4 := ex_tups hS0 e4
      refine ⟨_, rfl, rfl, _, rfl, ?_⟩
      refine ite_b (fun _ => ?_) (fun _ => hC _ _ ⟨Ad, xs, _, _, _, _, rfl, e4, hS4, hA4, hac, by omega, hAS⟩)
      refine ⟨_, rfl, p, _, 1, _, rfl, rfl, SqT.of (t4 _ _ hp), at1, _, rfl, _, rfl, p, _, 1, _, rfl, rfl, SqT.of (t4 _ _ hp), at1, pr, _, rfl, .inr (SqT.of (t4 _ _ hpr)), S, sc, ns, _, rfl, hS4, by omega, by omega, by omega, fun H5 d hf5 hS5 hd => ?_⟩
      have e5 : Ex S H0 H5 := fun b o nb z => (hf5 b nb).trans (e4 b o nb z)
      have t5 := ex_tups hS0 e5
      have t45 : Tups H7 H5 := ex_tups hS4 fun b o nb z => (hf5 b nb).trans z
      have hA5 := (hf5 _ hAS).trans hA4
      have hdl : d < rows.length := by omega
      have hrow : rows[d]? = some rows[d] := List.getElem?_eq_getElem hdl
      obtain ⟨vx, hvx, q, es, rfl, hq, hes⟩ := pd_get2 hrs hrow
      have hmem := List.mem_of_getElem? hrow
      generalize rows[d] = row at hrow hes hmem
      have hgl := flat_ge hmem
      have hel := pd_len hes
      refine ⟨pr, _, (d : Int), _, rfl, rfl, SqT.of (t5 _ _ hpr), atI_nat hvx, ?_⟩
      refine ⟨_, rfl, !es.isEmpty, .inr (.inl ⟨es, SqT.of (t5 _ _ hq), rfl⟩), ?_⟩
      refine ite_b (fun hne => ?_) (fun _ => hC _ _ ⟨Ad, xs, _, _, _, _, rfl, e5, hS5, hA5, hac.mono t45, by omega, hAS⟩)
      have hne : 0 < es.length := by
        cases es with
        | nil => cases hne
        | cons _ _ => simp
      refine ⟨_, rfl, _, rfl, _, rfl, Ad, xs, rfl, SqL.of hA5, fun q1 hq1 => ?_⟩
      rw [cut_to]
      have s1 := same_new (o := .lst (xs.take pl)) hq1
      obtain ⟨xsS, hxS⟩ := hS5.lst
      have hqS : q1 ≠ S := Ne.symm (ne_of_none hxS hq1)
      have t6 := t5.trans (same_tups s1)
      refine ⟨_, rfl, _, rfl, _, rfl, q, _, rfl, .inr (SqT.of (t6 _ _ hq)), S, sc, ns, _, rfl, hS5.same s1, by omega, by omega, by omega, fun H6 d2 hf6 hS6 hd2 => ?_⟩
      have e6 : Ex S H0 H6 := fun b o nb z => (hf6 b nb).trans (s1 b o (e5 b o nb z))
      have t06 := ex_tups hS0 e6
      have t46 : Tups H7 H6 := ex_tups hS4 fun b o nb z => (hf6 b nb).trans (s1 b o ((hf5 b nb).trans z))
      have hA6 : H6 Ad = some (.lst xs) := (hf6 _ hAS).trans (s1 _ _ hA5)
      have hq16 : H6 q1 = some (.lst (xs.take pl)) := (hf6 _ hqS).trans upd_same
      have hdl2 : d2 < es.length := by omega
      have hdv : es[d2]? = some es[d2] := List.getElem?_eq_getElem hdl2
      obtain ⟨ed, hed, pe, va, hve, hpe, hva⟩ := pd_get hes hdv
      rw [hve] at hdv
      refine ⟨q, _, (d2 : Int), _, rfl, rfl, SqT.of (t06 _ _ hq), atI_nat hdv, pe, _, 0, va, rfl, rfl, SqT.of (t06 _ _ hpe), at0, by show 1 ≤ sizeLine; omega, fun q2 hq2 => ?_⟩
      have s2 := same_new (o := .lst [va]) hq2
      refine ⟨q1, q2, xs.take pl, [va], rfl, rfl, s2 _ _ hq16, upd_same, by rw [List.length_take]; show _ + 1 ≤ _; omega, fun q3 hq3 => ?_⟩
      have s3 := same_new (o := .lst (xs.take pl ++ [va])) hq3
      refine ⟨_, rfl, _, rfl, (pl : Int), rfl, Ad, xs, rfl, SqL.of (s3 _ _ (s2 _ _ hA6)), fun q4 hq4 => ?_⟩
      rw [cut_from]
      have s4 := same_new (o := .lst (xs.drop pl)) hq4
      refine ⟨q3, q4, _, _, rfl, rfl, s4 _ _ upd_same, upd_same, by rw [List.length_append, List.length_take, List.length_drop]; show _ + 1 + _ ≤ _; omega, fun q5 hq5 => ?_⟩
      have s5 := same_new (o := .lst (xs.take pl ++ [va] ++ xs.drop pl)) hq5
      have sall : Same H6 _ := fun b o z => s5 b o (s4 b o (s3 b o (s2 b o z)))
      have hac6 := hac.mono t46
      refine hC _ _ (LSt.new e6 hS6 sall upd_same (same_none (fun b o z => s4 b o (s3 b o (s2 b o z))) hq5) (((hac6.take pl).app fun x hx => ?_).app (hac6.drop pl) |>.mono (same_tups sall)) ?_)
      · rw [List.mem_singleton] at hx
        rw [hx]
        exact ⟨ed.1, hva.mono t06⟩
      · rw [List.length_append, List.length_append, List.length_take, List.length_drop]
        show _ + 1 + _ ≤ _
        omega
    clear L3 L2 L1 L0 H4 H5 H6 H7
    obtain ⟨Ad, xs, o4, o5, o6, o9, hσ, e4, hS4, hA4, hac, hxl, hAS⟩ := L4
    subst hσ
    obtain ⟨w, hw⟩ := hac.pair
    have hwl := pd_len hw
    have t4 := ex_tups hS0 e4
    refine ⟨_, rfl, _, rfl, Ad, xs, rfl, .inl (SqL.of hA4), fun l hl => ?_⟩
    have s1 := same_new (o := .lst xs) hl
    refine ⟨.ref p, l, xs, rows, ends, rows.flatten.map (·.1), partsOf rows, w, rfl, (hT0.mono t4).mono (same_tups s1), G.tok, G.acc, by unfold partsOf; rw [List.length_append, List.length_map, List.length_map]; omega, fun x hx => partsOf_has hx, G.fam, upd_same, pd_mono hw fun _ _ z => z.mono (same_tups s1), by omega, fun H6 b s6 hb => ?_⟩
    have s46 : Same H8 H6 := fun b o z => s6 b o (s1 b o z)
    refine ⟨_, rfl, _, rfl, .ref p, Ad, xs, rows, ends, w, rfl, (hT0.mono t4).mono (same_tups s46), G.wf, G.pos, s46 _ _ hA4, pd_mono hw fun _ _ z => z.mono (same_tups s46), rfl, rfl, ?_⟩
    have hend : decide (V.bl b = V.bl (!decide (oV (walkT rows 0 w) = V.non))) = true := by
      refine decide_eq_true (congrArg V.bl ?_)
      rw [Bool.eq_iff_iff, hb]
      cases hq : walkT rows 0 w with
      | none =>
        simp only [oV, decide_true, Bool.not_true, Bool.false_eq_true, iff_false]
        rintro ⟨t, ht⟩
        rw [hq] at ht
        cases ht
      | some t =>
        have : ¬ (oV (some t) = V.non) := fun e => by cases e
        simp only [decide_eq_false this, Bool.not_false, iff_true]
        exact ⟨t, hq⟩
    rw [hend]
    exact k H6
end
end Pk
/-! The end: what the top has written. -/
namespace Pk
open PySem L2 PM
/-- a def as the top leaves it -/
structure DF (K : PySem.W.Frag) (x : Str) (st : Stmt) (f : Addr) : Prop where
  ex : ∃ (oc : Value) (od : Option Addr) (kV doc pm : Value) (an : Option Addr) (cd ct : Value) (sl : Array (Option Value)), K.lookup f = some ⟨oc, od, .func (PySem.W.fnOf x x (C8.fnArgs st) (C8.fnBody st) (C8.fnScope st) .none kV doc pm an cd ct), sl⟩ ∧ PySem.W.codeIn K cd x = true
theorem df_mk {K : PySem.W.Frag} {x : Str} {st : Stmt} {f : Addr} {oc : Value} {od : Option Addr} {kV doc pm : Value} {an : Option Addr} {cd ct : Value} {sl : Array (Option Value)} (l : K.lookup f = some ⟨oc, od, .func (PySem.W.fnOf x x (C8.fnArgs st) (C8.fnBody st) (C8.fnScope st) .none kV doc pm an cd ct), sl⟩) (c : PySem.W.codeIn K cd x = true) : DF K x st f := ⟨_, _, _, _, _, _, _, _, _, l, c⟩
theorem DF.def_ {K : PySem.W.Frag} {h : Heap} {mg : Str → Option Value} {x : Str} {st : Stmt} {f : Addr} {ps : List Str} (d : DF K x st f) (X : K.In h) (G : h.Ns mainGlobals mg) (a : PySem.W.nsIn K mainGlobals x = some (some (.ref f))) (k : PySem.W.keepIn K (.ref f) = true)
    (hb : ∀ (kV doc pm : Value) (an : Option Addr) (cdv ct : Value) (us : List Value), us.length = ps.length → bindArgs (PySem.W.fnOf x x (C8.fnArgs st) (C8.fnBody st) (C8.fnScope st) .none kV doc pm an cdv ct) ⟨us, []⟩ = pure (ps.zip us)) : ∃ fd, C8.Def K mg x st f fd ∧ Binds K fd ps [] := by
  obtain ⟨oc, od, kV, doc, pm, an, cd, ct, sl, l, c⟩ := d.ex
  have F : C8.Fun K x x st f (PySem.W.fnOf x x (C8.fnArgs st) (C8.fnBody st) (C8.fnScope st) .none kV doc pm an cd ct) := ⟨oc, od, .none, kV, doc, pm, an, cd, ct, sl, rfl, l, c⟩
  exact ⟨_, ⟨F, PySem.W.mg_of X G a, k⟩, F.binds rfl hb⟩
theorem all_mk {l : PySem.W.OpenLaw} {w : World} {K : PySem.W.Frag} {h : Heap} {mg : Str → Option Value} {fa : Addr} (X : K.In h) (G : h.Ns mainGlobals mg) (hfa : mg "law" = some (.ref fa))
    {f5 f6 f7 f8 f9 f10 f11 f13 f14 f15 f16 f17 f18 f19 f21 f22 f23 f24 f25 f26 f27 f28 f30 f31 f32 f33 : Addr} {tk : Tok}
    (a5 : PySem.W.nsIn K mainGlobals "grouped" = some (some (.ref f5))) (d5 : DF K "grouped" (top 5) f5) (k5 : PySem.W.keepIn K (.ref f5) = true)
    (a6 : PySem.W.nsIn K mainGlobals "subset_table" = some (some (.ref f6))) (d6 : DF K "subset_table" (top 6) f6) (k6 : PySem.W.keepIn K (.ref f6) = true)
    (a7 : PySem.W.nsIn K mainGlobals "refined_classes" = some (some (.ref f7))) (d7 : DF K "refined_classes" (top 7) f7) (k7 : PySem.W.keepIn K (.ref f7) = true)
    (a8 : PySem.W.nsIn K mainGlobals "alike_classes" = some (some (.ref f8))) (d8 : DF K "alike_classes" (top 8) f8) (k8 : PySem.W.keepIn K (.ref f8) = true)
    (a9 : PySem.W.nsIn K mainGlobals "least" = some (some (.ref f9))) (d9 : DF K "least" (top 9) f9) (k9 : PySem.W.keepIn K (.ref f9) = true)
    (a10 : PySem.W.nsIn K mainGlobals "next_state" = some (some (.ref f10))) (d10 : DF K "next_state" (top 10) f10) (k10 : PySem.W.keepIn K (.ref f10) = true)
    (a11 : PySem.W.nsIn K mainGlobals "walk" = some (some (.ref f11))) (d11 : DF K "walk" (top 11) f11) (k11 : PySem.W.keepIn K (.ref f11) = true)
    (a13 : PySem.W.nsIn K mainGlobals "parties_of" = some (some (.ref f13))) (d13 : DF K "parties_of" (top 13) f13) (k13 : PySem.W.keepIn K (.ref f13) = true)
    (a14 : PySem.W.nsIn K mainGlobals "concerns" = some (some (.ref f14))) (d14 : DF K "concerns" (top 14) f14) (k14 : PySem.W.keepIn K (.ref f14) = true)
    (a15 : PySem.W.nsIn K mainGlobals "view" = some (some (.ref f15))) (d15 : DF K "view" (top 15) f15) (k15 : PySem.W.keepIn K (.ref f15) = true)
    (a16 : PySem.W.nsIn K mainGlobals "reached_unseen" = some (some (.ref f16))) (d16 : DF K "reached_unseen" (top 16) f16) (k16 : PySem.W.keepIn K (.ref f16) = true)
    (a17 : PySem.W.nsIn K mainGlobals "erased" = some (some (.ref f17))) (d17 : DF K "erased" (top 17) f17) (k17 : PySem.W.keepIn K (.ref f17) = true)
    (a18 : PySem.W.nsIn K mainGlobals "machine_of" = some (some (.ref f18))) (d18 : DF K "machine_of" (top 18) f18) (k18 : PySem.W.keepIn K (.ref f18) = true)
    (a19 : PySem.W.nsIn K mainGlobals "fits" = some (some (.ref f19))) (d19 : DF K "fits" (top 19) f19) (k19 : PySem.W.keepIn K (.ref f19) = true)
    (a21 : PySem.W.nsIn K mainGlobals "_law_state" = some (some (.ref f21))) (d21 : DF K "_law_state" (top 21) f21) (k21 : PySem.W.keepIn K (.ref f21) = true)
    (a22 : PySem.W.nsIn K mainGlobals "_law_draw" = some (some (.ref f22))) (d22 : DF K "_law_draw" (top 22) f22) (k22 : PySem.W.keepIn K (.ref f22) = true)
    (a23 : PySem.W.nsIn K mainGlobals "_law_name" = some (some (.ref f23))) (d23 : DF K "_law_name" (top 23) f23) (k23 : PySem.W.keepIn K (.ref f23) = true)
    (a24 : PySem.W.nsIn K mainGlobals "_law_names" = some (some (.ref f24))) (d24 : DF K "_law_names" (top 24) f24) (k24 : PySem.W.keepIn K (.ref f24) = true)
    (a25 : PySem.W.nsIn K mainGlobals "_law_table" = some (some (.ref f25))) (d25 : DF K "_law_table" (top 25) f25) (k25 : PySem.W.keepIn K (.ref f25) = true)
    (a26 : PySem.W.nsIn K mainGlobals "_law_edge" = some (some (.ref f26))) (d26 : DF K "_law_edge" (top 26) f26) (k26 : PySem.W.keepIn K (.ref f26) = true)
    (a27 : PySem.W.nsIn K mainGlobals "_law_step" = some (some (.ref f27))) (d27 : DF K "_law_step" (top 27) f27) (k27 : PySem.W.keepIn K (.ref f27) = true)
    (a28 : PySem.W.nsIn K mainGlobals "_law_walk" = some (some (.ref f28))) (d28 : DF K "_law_walk" (top 28) f28) (k28 : PySem.W.keepIn K (.ref f28) = true)
    (a30 : PySem.W.nsIn K mainGlobals "_law_conducted" = some (some (.ref f30))) (d30 : DF K "_law_conducted" (top 30) f30) (k30 : PySem.W.keepIn K (.ref f30) = true)
    (a31 : PySem.W.nsIn K mainGlobals "_law_beside" = some (some (.ref f31))) (d31 : DF K "_law_beside" (top 31) f31) (k31 : PySem.W.keepIn K (.ref f31) = true)
    (a32 : PySem.W.nsIn K mainGlobals "_law_accepted" = some (some (.ref f32))) (d32 : DF K "_law_accepted" (top 32) f32) (k32 : PySem.W.keepIn K (.ref f32) = true)
    (a33 : PySem.W.nsIn K mainGlobals "law" = some (some (.ref f33))) (d33 : DF K "law" (top 33) f33) (k33 : PySem.W.keepIn K (.ref f33) = true)
    (z_len : PySem.W.nsIn K mainGlobals "len" = some none)
    (z_range : PySem.W.nsIn K mainGlobals "range" = some none)
    (z_sorted : PySem.W.nsIn K mainGlobals "sorted" = some none)
    (z_tuple : PySem.W.nsIn K mainGlobals "tuple" = some none)
    (z_list : PySem.W.nsIn K mainGlobals "list" = some none)
    (z_int : PySem.W.nsIn K mainGlobals "int" = some none)
    (z_set : PySem.W.nsIn K mainGlobals "set" = some none)
    (z_str : PySem.W.nsIn K mainGlobals "str" = some none)
    (z_enumerate : PySem.W.nsIn K mainGlobals "enumerate" = some none)
    (aM : PySem.W.nsIn K mainGlobals "MOST_STATES" = some (some (.int 300 tk))) :
    ∃ fd : FuncData, (∀ (s : Shared) (v : Value), BindsTo s fd ⟨[v], []⟩ [("_law_script", v)]) ∧ ∀ base : Heap, K.In base → base.Ns mainGlobals mg → FnOk l.prog w K mg base C8.CX0 7 fa fd ["_law_script"] (spLaw K) := by
  have e := hfa.symm.trans (PySem.W.mg_of X G a33)
  cases e
  have T : Tx mg := ⟨PySem.W.mg_none_of X G z_len, PySem.W.mg_none_of X G z_range, PySem.W.mg_none_of X G z_sorted, PySem.W.mg_none_of X G z_tuple, PySem.W.mg_none_of X G z_list, PySem.W.mg_none_of X G z_int, PySem.W.mg_none_of X G z_set, PySem.W.mg_none_of X G z_str, PySem.W.mg_none_of X G z_enumerate, tk, PySem.W.mg_of X G aM⟩
  obtain ⟨fd5, D5, b5⟩ := d5.def_ (ps := ["nodes", "moves"]) X G a5 k5 fun _ _ _ _ _ _ us hl => match us, hl with | [_, _], _ => rfl
  obtain ⟨fd6, D6, b6⟩ := d6.def_ (ps := ["start", "moves", "ends", "limit"]) X G a6 k6 fun _ _ _ _ _ _ us hl => match us, hl with | [_, _, _, _], _ => rfl
  obtain ⟨fd7, D7, b7⟩ := d7.def_ (ps := ["table", "classes"]) X G a7 k7 fun _ _ _ _ _ _ us hl => match us, hl with | [_, _], _ => rfl
  obtain ⟨fd8, D8, b8⟩ := d8.def_ (ps := ["table"]) X G a8 k8 fun _ _ _ _ _ _ us hl => match us, hl with | [_], _ => rfl
  obtain ⟨fd9, D9, b9⟩ := d9.def_ (ps := ["table"]) X G a9 k9 fun _ _ _ _ _ _ us hl => match us, hl with | [_], _ => rfl
  obtain ⟨fd10, D10, b10⟩ := d10.def_ (ps := ["table", "state", "action"]) X G a10 k10 fun _ _ _ _ _ _ us hl => match us, hl with | [_, _, _], _ => rfl
  obtain ⟨fd11, D11, b11⟩ := d11.def_ (ps := ["table", "actions"]) X G a11 k11 fun _ _ _ _ _ _ us hl => match us, hl with | [_, _], _ => rfl
  obtain ⟨fd13, D13, b13⟩ := d13.def_ (ps := ["table"]) X G a13 k13 fun _ _ _ _ _ _ us hl => match us, hl with | [_], _ => rfl
  obtain ⟨fd14, D14, b14⟩ := d14.def_ (ps := ["action", "party"]) X G a14 k14 fun _ _ _ _ _ _ us hl => match us, hl with | [_, _], _ => rfl
  obtain ⟨fd15, D15, b15⟩ := d15.def_ (ps := ["actions", "party"]) X G a15 k15 fun _ _ _ _ _ _ us hl => match us, hl with | [_, _], _ => rfl
  obtain ⟨fd16, D16, b16⟩ := d16.def_ (ps := ["table", "state", "party", "seen"]) X G a16 k16 fun _ _ _ _ _ _ us hl => match us, hl with | [_, _, _, _], _ => rfl
  obtain ⟨fd17, D17, b17⟩ := d17.def_ (ps := ["table", "party", "seen"]) X G a17 k17 fun _ _ _ _ _ _ us hl => match us, hl with | [_, _, _], _ => rfl
  obtain ⟨fd18, D18, b18⟩ := d18.def_ (ps := ["table", "party"]) X G a18 k18 fun _ _ _ _ _ _ us hl => match us, hl with | [_, _], _ => rfl
  obtain ⟨fd19, D19, b19⟩ := d19.def_ (ps := ["table", "actions"]) X G a19 k19 fun _ _ _ _ _ _ us hl => match us, hl with | [_, _], _ => rfl
  obtain ⟨fd21, D21, b21⟩ := d21.def_ (ps := ["_law_script"]) X G a21 k21 fun _ _ _ _ _ _ us hl => match us, hl with | [_], _ => rfl
  obtain ⟨fd22, D22, b22⟩ := d22.def_ (ps := ["_law_state_here", "_law_limit"]) X G a22 k22 fun _ _ _ _ _ _ us hl => match us, hl with | [_, _], _ => rfl
  obtain ⟨fd23, D23, b23⟩ := d23.def_ (ps := ["_law_state_here"]) X G a23 k23 fun _ _ _ _ _ _ us hl => match us, hl with | [_], _ => rfl
  obtain ⟨fd24, D24, b24⟩ := d24.def_ (ps := ["_law_state_here", "_law_count", "_law_taken"]) X G a24 k24 fun _ _ _ _ _ _ us hl => match us, hl with | [_, _, _], _ => rfl
  obtain ⟨fd25, D25, b25⟩ := d25.def_ (ps := ["_law_state_here", "_law_parties", "_law_labels", "_law_size"]) X G a25 k25 fun _ _ _ _ _ _ us hl => match us, hl with | [_, _, _, _], _ => rfl
  obtain ⟨fd26, D26, b26⟩ := d26.def_ (ps := ["_law_state_here", "_law_row", "_law_parties", "_law_labels", "_law_goal"]) X G a26 k26 fun _ _ _ _ _ _ us hl => match us, hl with | [_, _, _, _, _], _ => rfl
  obtain ⟨fd27, D27, b27⟩ := d27.def_ (ps := ["_law_table_here", "_law_state_here", "_law_action"]) X G a27 k27 fun _ _ _ _ _ _ us hl => match us, hl with | [_, _, _], _ => rfl
  obtain ⟨fd28, D28, b28⟩ := d28.def_ (ps := ["_law_table_here", "_law_actions"]) X G a28 k28 fun _ _ _ _ _ _ us hl => match us, hl with | [_, _], _ => rfl
  obtain ⟨fd30, D30, b30⟩ := d30.def_ (ps := ["_law_table_here", "_law_leader"]) X G a30 k30 fun _ _ _ _ _ _ us hl => match us, hl with | [_, _], _ => rfl
  obtain ⟨fd31, D31, b31⟩ := d31.def_ (ps := ["_law_one", "_law_other"]) X G a31 k31 fun _ _ _ _ _ _ us hl => match us, hl with | [_, _], _ => rfl
  obtain ⟨fd32, D32, b32⟩ := d32.def_ (ps := ["_law_state_here"]) X G a32 k32 fun _ _ _ _ _ _ us hl => match us, hl with | [_], _ => rfl
  obtain ⟨oc, od, kV, doc, pm, an, cd, ct, sl, lk, hc⟩ := d33.ex
  have F : C8.Fun K "law" "law" sLaw fa (PySem.W.fnOf "law" "law" (C8.fnArgs sLaw) (C8.fnBody sLaw) (C8.fnScope sLaw) .none kV doc pm an cd ct) := ⟨oc, od, .none, kV, doc, pm, an, cd, ct, sl, rfl, lk, hc⟩
  refine ⟨PySem.W.fnOf "law" "law" (C8.fnArgs sLaw) (C8.fnBody sLaw) (C8.fnScope sLaw) .none kV doc pm an cd ct, fun s v => .of_eq rfl, fun base _ _ => ?_⟩
  have c14 : C8.Cal l.prog w K mg base 1 "concerns" spConcerns [] := cal_concerns D14 b14
  have c15 : C8.Cal l.prog w K mg base 2 "view" spView [] := cal_view D15 b15 c14
  have c10 : C8.Cal l.prog w K mg base 1 "next_state" spNext [] := cal_next D10 b10
  have c11 : C8.Cal l.prog w K mg base 2 "walk" spWalk [] := cal_walk D11 b11 c10
  have c13 : C8.Cal l.prog w K mg base 1 "parties_of" spParties [] := cal_parties D13 b13 T
  have c16 : C8.Cal l.prog w K mg base 2 "reached_unseen" spReach [] := cal_reach D16 b16 T c14
  have c5 : C8.Cal l.prog w K mg base 1 "grouped" spGrouped [] := cal_grouped D5 b5 T
  have c6 : C8.Cal l.prog w K mg base 2 "subset_table" spSubset [] := cal_subset D6 b6 T c5
  have c7 : C8.Cal l.prog w K mg base 1 "refined_classes" spRefined [] := cal_refined D7 b7 T
  have c8 : C8.Cal l.prog w K mg base 2 "alike_classes" spAlike [] := cal_alike D8 b8 T c7
  have c9 : C8.Cal l.prog w K mg base 3 "least" spLeast [] := cal_least D9 b9 T c8 c6
  have c17 : C8.Cal l.prog w K mg base 4 "erased" spErased [] := cal_erased D17 b17 T c14 c16 c6 c9
  have c18 : C8.Cal l.prog w K mg base 5 "machine_of" spMachine [] := cal_machine D18 b18 c17
  have c19 : C8.Cal l.prog w K mg base 6 "fits" spFits [] := cal_fits D19 b19 c13 c11 c18 c15
  have c22 : C8.Cal l.prog w K mg base 1 "_law_draw" spDraw [] := cal_draw D22 b22 T
  have c21 : C8.Cal l.prog w K mg base 1 "_law_state" (spState K) [] := cal_state D21 b21 T
  have c23 : C8.Cal l.prog w K mg base 2 "_law_name" spName [] := cal_name D23 b23 T c22
  have c24 : C8.Cal l.prog w K mg base 3 "_law_names" spNames [] := cal_names D24 b24 T c23
  have c26 : C8.Cal l.prog w K mg base 2 "_law_edge" spEdge [] := cal_edge D26 b26 T c22
  have c25 : C8.Cal l.prog w K mg base 3 "_law_table" spTable [] := cal_table D25 b25 T c22 c26
  have c27 : C8.Cal l.prog w K mg base 1 "_law_step" spNext [] := cal_lstep D27 b27
  have c28 : C8.Cal l.prog w K mg base 2 "_law_walk" spWalk [] := cal_lwalk D28 b28 c27
  have c30 : C8.Cal l.prog w K mg base 1 "_law_conducted" spCond [] := cal_cond D30 b30 T
  have c31 : C8.Cal l.prog w K mg base 1 "_law_beside" spBeside [] := cal_beside D31 b31 T
  have c32 : C8.Cal l.prog w K mg base 4 "_law_accepted" spAcc [] := cal_acc D32 b32 T c22 c24 c25 c31 c30
  exact ok_law F T c22 c21 c32 c19 c28
theorem walk_law {l : PySem.W.OpenLaw} {q : Program} {loose : List Str} {XP : (Str → Option Value) → Heap → Prop} {YP : World → Heap → Prop} {d : DefRec} {K : Params → PySem.W.Frag} (hn : l.most = some 63) (hdf : d.params.defaults = [])
    (hY : ∀ (w : World) (h : Heap), YP w h → (K w.params).In h)
    (F : ∀ (w : World) (mg : Str → Option Value) (fa : Addr) (h : Heap), (K w.params).In h → h.Ns mainGlobals mg → mg d.name = some (.ref fa) →
      ∃ fd : FuncData, (∀ (s : Shared) (u : Value), BindsTo s fd ⟨[u], []⟩ [("_law_script", u)]) ∧ ∀ base : Heap, (K w.params).In base → base.Ns mainGlobals mg → FnOk l.prog w (K w.params) mg base C8.CX0 7 fa fd ["_law_script"] (spLaw (K w.params))) :
    PySem.W.WalkO q loose XP YP l.row.toRowW d [] (fun f vs => PySem.call f vs) :=
  L2.walk_of (n := 63) (k := 7) (x := "_law_script") (CX := fun _ => C8.CX0) (sp := fun w => spLaw (K w.params)) hn (by decide) hdf ⟨rfl, by decide, by decide⟩ hY F (fun _ _ a ns hl _ hS => ⟨a, ns, rfl, hS, hl, fun _ => rfl⟩) fun _ _ _ _ _ z => z
end Pk
open PySem PySem.W PyProof.Rows in
set_option maxRecDepth 100000 in
set_option maxHeartbeats 0 in
theorem PySem.Challenge.cw_pactloom_k55_whole_only_runs_fit_holds : PySem.Challenge.rw_pactloom_k55_whole_only_runs_fit.Holds := by
  w_on; o_law; k_head; (case hw => w_witness2)
  k_fill
  refine Pk.walk_law (l := PySem.Challenge.rw_pactloom_k55_whole_only_runs_fit) rfl rfl (fun w h Y => PySem.W.kIn_of Y) ?F
  case F =>
    intro w mg fa h KX G hmg
    refine' Pk.all_mk KX G hmg ?a5 (Pk.df_mk ?l5 ?c5) ?k5 ?a6 (Pk.df_mk ?l6 ?c6) ?k6 ?a7 (Pk.df_mk ?l7 ?c7) ?k7 ?a8 (Pk.df_mk ?l8 ?c8) ?k8 ?a9 (Pk.df_mk ?l9 ?c9) ?k9 ?a10 (Pk.df_mk ?l10 ?c10) ?k10 ?a11 (Pk.df_mk ?l11 ?c11) ?k11 ?a13 (Pk.df_mk ?l13 ?c13) ?k13 ?a14 (Pk.df_mk ?l14 ?c14) ?k14 ?a15 (Pk.df_mk ?l15 ?c15) ?k15 ?a16 (Pk.df_mk ?l16 ?c16) ?k16 ?a17 (Pk.df_mk ?l17 ?c17) ?k17 ?a18 (Pk.df_mk ?l18 ?c18) ?k18 ?a19 (Pk.df_mk ?l19 ?c19) ?k19 ?a21 (Pk.df_mk ?l21 ?c21) ?k21 ?a22 (Pk.df_mk ?l22 ?c22) ?k22 ?a23 (Pk.df_mk ?l23 ?c23) ?k23 ?a24 (Pk.df_mk ?l24 ?c24) ?k24 ?a25 (Pk.df_mk ?l25 ?c25) ?k25 ?a26 (Pk.df_mk ?l26 ?c26) ?k26 ?a27 (Pk.df_mk ?l27 ?c27) ?k27 ?a28 (Pk.df_mk ?l28 ?c28) ?k28 ?a30 (Pk.df_mk ?l30 ?c30) ?k30 ?a31 (Pk.df_mk ?l31 ?c31) ?k31 ?a32 (Pk.df_mk ?l32 ?c32) ?k32 ?a33 (Pk.df_mk ?l33 ?c33) ?k33 ?z_len ?z_range ?z_sorted ?z_tuple ?z_list ?z_int ?z_set ?z_str ?z_enumerate ?aM
    (case a5 => k_is)
    (case l5 => k_is)
    (case c5 => k_is)
    (case k5 => k_is)
    (case a6 => k_is)
    (case l6 => k_is)
    (case c6 => k_is)
    (case k6 => k_is)
    (case a7 => k_is)
    (case l7 => k_is)
    (case c7 => k_is)
    (case k7 => k_is)
    (case a8 => k_is)
    (case l8 => k_is)
    (case c8 => k_is)
    (case k8 => k_is)
    (case a9 => k_is)
    (case l9 => k_is)
    (case c9 => k_is)
    (case k9 => k_is)
    (case a10 => k_is)
    (case l10 => k_is)
    (case c10 => k_is)
    (case k10 => k_is)
    (case a11 => k_is)
    (case l11 => k_is)
    (case c11 => k_is)
    (case k11 => k_is)
    (case a13 => k_is)
    (case l13 => k_is)
    (case c13 => k_is)
    (case k13 => k_is)
    (case a14 => k_is)
    (case l14 => k_is)
    (case c14 => k_is)
    (case k14 => k_is)
    (case a15 => k_is)
    (case l15 => k_is)
    (case c15 => k_is)
    (case k15 => k_is)
    (case a16 => k_is)
    (case l16 => k_is)
    (case c16 => k_is)
    (case k16 => k_is)
    (case a17 => k_is)
    (case l17 => k_is)
    (case c17 => k_is)
    (case k17 => k_is)
    (case a18 => k_is)
    (case l18 => k_is)
    (case c18 => k_is)
    (case k18 => k_is)
    (case a19 => k_is)
    (case l19 => k_is)
    (case c19 => k_is)
    (case k19 => k_is)
    (case a21 => k_is)
    (case l21 => k_is)
    (case c21 => k_is)
    (case k21 => k_is)
    (case a22 => k_is)
    (case l22 => k_is)
    (case c22 => k_is)
    (case k22 => k_is)
    (case a23 => k_is)
    (case l23 => k_is)
    (case c23 => k_is)
    (case k23 => k_is)
    (case a24 => k_is)
    (case l24 => k_is)
    (case c24 => k_is)
    (case k24 => k_is)
    (case a25 => k_is)
    (case l25 => k_is)
    (case c25 => k_is)
    (case k25 => k_is)
    (case a26 => k_is)
    (case l26 => k_is)
    (case c26 => k_is)
    (case k26 => k_is)
    (case a27 => k_is)
    (case l27 => k_is)
    (case c27 => k_is)
    (case k27 => k_is)
    (case a28 => k_is)
    (case l28 => k_is)
    (case c28 => k_is)
    (case k28 => k_is)
    (case a30 => k_is)
    (case l30 => k_is)
    (case c30 => k_is)
    (case k30 => k_is)
    (case a31 => k_is)
    (case l31 => k_is)
    (case c31 => k_is)
    (case k31 => k_is)
    (case a32 => k_is)
    (case l32 => k_is)
    (case c32 => k_is)
    (case k32 => k_is)
    (case a33 => k_is)
    (case l33 => k_is)
    (case c33 => k_is)
    (case k33 => k_is)
    (case z_len => k_is)
    (case z_range => k_is)
    (case z_sorted => k_is)
    (case z_tuple => k_is)
    (case z_list => k_is)
    (case z_int => k_is)
    (case z_set => k_is)
    (case z_str => k_is)
    (case z_enumerate => k_is)
    (case aM => k_is)
