/- Reads and writes of known memory. -/
import Derived.Test.YtiijaiiejogbjaaDoorSxCore
import Derived.WalkKit
import Derived.Laws.Rows
namespace Go.SX

theorem add_addr (b o n : Nat) : (⟨b, o, none⟩ : Addr).add n = ⟨b, o + n, none⟩ := by
  unfold Addr.add; split
  · subst_vars; rfl
  · rfl

/-! ### The list of the cells of rows -/
theorem flat_get (sz : Nat) : ∀ (l : List (List SC)) (_ : ∀ r ∈ l, r.length = sz) (i j : Nat) (row : List SC), l[i]? = some row → j < sz →
    (l.flatMap fun r => r.map SC.val)[i * sz + j]? = row[j]?.map SC.val := by
  intro l
  induction l with
  | nil => intro _ i j row h; simp at h
  | cons r l ih =>
    intro hl i j row h hj
    have hr : r.length = sz := hl r (by simp)
    cases i with
    | zero =>
      simp only [List.getElem?_cons_zero, Option.some.injEq] at h
      subst h
      simp only [List.flatMap_cons, Nat.zero_mul, Nat.zero_add]
      rw [List.getElem?_append_left (by simp [hr, hj]), List.getElem?_map]
    | succ i =>
      simp only [List.getElem?_cons_succ] at h
      simp only [List.flatMap_cons]
      rw [List.getElem?_append_right (by simp [hr, Nat.succ_mul]; omega)]
      rw [← ih (fun r' h' => hl r' (by simp [h'])) i j row h hj]
      congr 1
      simp [hr, Nat.succ_mul]; omega

theorem flat_length (sz : Nat) : ∀ (l : List (List SC)) (_ : ∀ r ∈ l, r.length = sz), (l.flatMap fun r => r.map SC.val).length = l.length * sz := by
  intro l
  induction l with
  | nil => intro _; simp
  | cons r l ih =>
    intro hl
    simp only [List.flatMap_cons, List.length_append, List.length_map, List.length_cons, ih fun r' h' => hl r' (by simp [h']), hl r (by simp), Nat.succ_mul]
    omega

theorem flat_set (sz : Nat) : ∀ (l : List (List SC)) (_ : ∀ r ∈ l, r.length = sz) (i j : Nat) (row : List SC) (c : SC), l[i]? = some row → j < sz →
    (l.flatMap fun r => r.map SC.val).set (i * sz + j) c.val = (l.set i (row.set j c)).flatMap fun r => r.map SC.val := by
  intro l
  induction l with
  | nil => intro _ i j row c h; simp at h
  | cons r l ih =>
    intro hl i j row c h hj
    have hr : r.length = sz := hl r (by simp)
    cases i with
    | zero =>
      simp only [List.getElem?_cons_zero, Option.some.injEq] at h
      subst h
      simp only [List.flatMap_cons, Nat.zero_mul, Nat.zero_add, List.set_cons_zero]
      rw [List.set_append_left _ _ (by simp [hr, hj]), List.map_set]
    | succ i =>
      simp only [List.getElem?_cons_succ] at h
      simp only [List.flatMap_cons, List.set_cons_succ]
      rw [List.set_append_right _ _ (by simp [hr, Nat.succ_mul]; omega), ← ih (fun r' h' => hl r' (by simp [h'])) i j row c h hj]
      congr 2
      simp [hr, Nat.succ_mul]; omega

/-! ### One block -/
theorem full_cell {w : World} {b : Nat} {T : TypeId} {c : CT} {n : Nat} {v : Value} (h : (HB.full T c).Is w b) (hv : c.vals[n]? = some v) : w.cell? ⟨b, n, none⟩ = some v := by
  obtain ⟨lo, hi, h1, _⟩ := h
  rw [cell_of_row w b n _ _ _ h1]
  simpa using hv

theorem run_load_cell {P : Program} {w : World} {a : Addr} {v : Value} (h : w.cell? a = some v) : (load a).run P w = .ok v w := by
  rw [run_load, h]

theorem run_loadCellsFrom {P : Program} {w : World} {b o : Nat} : ∀ (vs : List Value) (i : Nat) (acc : Array Value),
    (∀ j v, vs[j]? = some v → w.cell? ⟨b, o + i + j, none⟩ = some v) →
    (loadCellsFrom ⟨b, o, none⟩ i vs.length acc).run P w = .ok (acc ++ vs.toArray) w := by
  intro vs
  induction vs with
  | nil => intro i acc _; simp [loadCellsFrom]
  | cons v vs ih =>
    intro i acc h
    simp only [List.length_cons, loadCellsFrom, Sem.run_bind]
    have h0 := h 0 v (by simp)
    rw [Nat.add_zero] at h0
    rw [add_addr, run_load_cell h0]
    simp only [Result.andThen]
    rw [ih (i + 1) (acc.push v) (fun j u hu => by have := h (j + 1) u (by simpa using hu); rwa [show o + (i + 1) + j = o + i + (j + 1) by omega])]
    simp

theorem run_loadCells {P : Program} {w : World} {b o n : Nat} {vs : List Value} (hn : vs.length = n) (h : ∀ j v, vs[j]? = some v → w.cell? ⟨b, o + j, none⟩ = some v) :
    (loadCells ⟨b, o, none⟩ n).run P w = .ok vs.toArray w := by
  subst hn
  unfold loadCells
  rw [run_loadCellsFrom vs 0 #[] (fun j v hv => by simpa using h j v hv)]
  simp

/-- A row of cells overwritten from a place on. -/
def over (cs : List Value) : Nat → List Value → List Value
  | _, [] => cs
  | o, v :: vs => over (cs.set o v) (o + 1) vs
theorem over_length (cs : List Value) (o : Nat) (vs : List Value) : (over cs o vs).length = cs.length := by
  induction vs generalizing cs o with
  | nil => rfl
  | cons v vs ih => simp [over, ih]

theorem frozen_full {w : World} {b n : Nat} {cs : Array Value} {T lo hi} (h : w.heap[b]? = some (.cells cs T (lo, hi))) (hf : hi ≤ lo ∨ cs.size ≤ lo) (hn : n < cs.size) : w.frozen? ⟨b, n, none⟩ = false := by
  simp only [World.frozen?, h]
  rcases hf with hf | hf
  · by_cases h1 : lo ≤ n
    · simp [h1]; omega
    · simp [h1]
  · have : ¬ lo ≤ n := by omega
    simp [this]

theorem heap_setCell_at {w : World} {b n : Nat} {cs : Array Value} {T fr} (v : Value) (h : w.heap[b]? = some (.cells cs T fr)) :
    (w.setCell ⟨b, n, none⟩ v).heap[b]? = some (.cells (cs.setIfInBounds n v) T fr) := by
  simp [World.setCell, Array.getElem?_modify, h]

theorem run_storeCells {P : Program} {b o T lo hi : Nat} : ∀ (vs : List Value) (i : Nat) (w : World) (cs : List Value),
    (∀ v ∈ vs, v.oneCell' = true) → w.heap[b]? = some (.cells cs.toArray T (lo, hi)) → (hi ≤ lo ∨ cs.length ≤ lo) → o + i + vs.length ≤ cs.length →
    ∃ w', (storeCells ⟨b, o, none⟩ vs i).run P w = .ok () w' ∧ w'.heap[b]? = some (.cells (over cs (o + i) vs).toArray T (lo, hi)) ∧
      w'.os = w.os ∧ w'.tape = w.tape ∧ w'.output = w.output ∧ w'.heap.size = w.heap.size ∧ ∀ c, c ≠ b → w'.heap[c]? = w.heap[c]? := by
  intro vs
  induction vs with
  | nil => intro i w cs _ h _ _; exact ⟨w, by simp [storeCells], h, rfl, rfl, rfl, rfl, fun _ _ => rfl⟩
  | cons v vs ih =>
    intro i w cs h1 h hf hb
    simp only [List.length_cons] at hb
    have hlt : o + i < cs.length := by omega
    have hcell : w.cell? ⟨b, o + i, none⟩ = some cs[o + i] := by rw [cell_of_row w b _ _ _ _ h]; simp [hlt]
    have hfz : w.frozen? ⟨b, o + i, none⟩ = false := frozen_full h (by simpa using hf) (by simpa using hlt)
    have hset := heap_setCell_at (n := o + i) v h
    obtain ⟨w', hr, hw', e1, e2, e3, e4, e5⟩ := ih (i + 1) (w.setCell ⟨b, o + i, none⟩ v) (cs.set (o + i) v) (fun u hu => h1 u (by simp [hu]))
      (by rw [hset]; simp) (by simpa using hf) (by simp; omega)
    refine ⟨w', ?_, ?_, e1, e2, e3, by rw [e4]; simp, fun c hc => by rw [e5 c hc]; exact heap_setCell_other _ _ _ _ hc⟩
    · simp only [storeCells, Sem.run_bind]
      rw [add_addr, run_store P w _ v _ (h1 v (by simp)), hcell]
      simp only [hfz, Bool.false_eq_true, if_false, Result.andThen]
      exact hr
    · simpa [over, Nat.add_assoc] using hw'

theorem isAgg_run {P : Program} {t : TypeId} {d : TypeDesc} {w : World} (h : P.underlying t = some d) :
    (isAgg t).run P w = .ok (match d with | .struct _ | .array _ _ => true | _ => false) w := by
  simp only [isAgg, Sem.run_bind, run_underlying h, Result.andThen]
  cases d <;> rfl

theorem sizeOf_run {P : Program} {t : TypeId} {i : TypeInfo} {w : World} (h : P.info? t = some i) : (sizeOf t).run P w = .ok i.size w := by
  simp [sizeOf, typeInfo, h]

/-- Is a type one of several cells? -/
def aggB (P : Program) (t : TypeId) : Option Bool :=
  match P.underlying t with
  | some (.struct _) => some true
  | some (.array _ _) => some true
  | some _ => some false
  | none => none
def sizB (P : Program) (t : TypeId) : Option Nat :=
  match P.info? t with
  | some i => some i.size
  | none => none
theorem aggB_run {P : Program} {t : TypeId} {x : Bool} {w : World} (h : aggB P t = some x) : (isAgg t).run P w = .ok x w := by
  unfold aggB at h
  split at h
  · rename_i h'; rw [isAgg_run h']; cases h; rfl
  · rename_i h'; rw [isAgg_run h']; cases h; rfl
  · rename_i d h1 h2 h'
    rw [isAgg_run h']
    cases h
    cases d <;> first | rfl | exact (h1 _ rfl).elim | exact (h2 _ _ rfl).elim
  · cases h
theorem sizB_run {P : Program} {t : TypeId} {x : Nat} {w : World} (h : sizB P t = some x) : (sizeOf t).run P w = .ok x w := by
  unfold sizB at h
  split at h
  · rename_i h'; rw [sizeOf_run h']; cases h; rfl
  · cases h

theorem run_loadVar_one {P : Program} {t : TypeId} {a : Addr} {w : World} {v : Value} (h : aggB P t = some false) (hc : w.cell? a = some v) : (loadVar t a).run P w = .ok v w := by
  unfold loadVar
  rw [Sem.run_bind, aggB_run h]
  simp only [Result.andThen, Bool.false_eq_true, if_false]
  exact run_load_cell hc
theorem run_loadVar_agg {P : Program} {t : TypeId} {b o n : Nat} {w : World} {vs : List Value} (h : aggB P t = some true) (hn : sizB P t = some n) (hl : vs.length = n)
    (hc : ∀ j v, vs[j]? = some v → w.cell? ⟨b, o + j, none⟩ = some v) : (loadVar t ⟨b, o, none⟩).run P w = .ok (.agg vs.toArray) w := by
  unfold loadVar
  rw [Sem.run_bind, aggB_run h]
  simp only [Result.andThen, if_true, Sem.run_bind, sizB_run hn]
  rw [run_loadCells hl hc]
  rfl

theorem run_storeVar {P : Program} {t : TypeId} {b o T lo hi : Nat} {w : World} {cs : List Value} {v : Value} (hn : sizB P t = some v.cells.size) (h1 : ∀ u ∈ v.cells.toList, u.oneCell' = true)
    (h : w.heap[b]? = some (.cells cs.toArray T (lo, hi))) (hf : hi ≤ lo ∨ cs.length ≤ lo) (hb : o + v.cells.size ≤ cs.length) :
    ∃ w', (storeVar t ⟨b, o, none⟩ v).run P w = .ok () w' ∧ w'.heap[b]? = some (.cells (over cs o v.cells.toList).toArray T (lo, hi)) ∧
      w'.os = w.os ∧ w'.tape = w.tape ∧ w'.output = w.output ∧ w'.heap.size = w.heap.size ∧ ∀ c, c ≠ b → w'.heap[c]? = w.heap[c]? := by
  obtain ⟨w', hr, hw, r⟩ := run_storeCells (P := P) v.cells.toList 0 w cs h1 h hf (by simpa using hb)
  refine ⟨w', ?_, hw, r⟩
  unfold storeVar
  rw [Sem.run_bind, sizB_run hn]
  simp only [Result.andThen, ne_eq, not_true_eq_false, if_false]
  exact hr

theorem BV.cells_one (x : BV) : ∀ u ∈ x.val.cells.toList, u.oneCell' = true := by
  rw [BV.val_cells]
  cases x with
  | one c => intro u hu; simp only [BV.cells, List.mem_singleton] at hu; subst hu; exact c.oneCell
  | agg l => intro u hu; simp only [BV.cells, List.mem_map] at hu; obtain ⟨c, _, rfl⟩ := hu; exact c.oneCell
  | seq k l => intro u hu; simp only [BV.cells, List.mem_map] at hu; obtain ⟨c, _, rfl⟩ := hu; rfl

end Go.SX
