/- The listed variables: what the walk knows of them. -/
import Derived.Test.YtiijaiiejogbjaaDoorA1
import Derived.Test.YtiijaiiejogbjaaDoorW4
import Derived.OpenShut
set_option linter.unusedVariables false
set_option linter.unusedSimpArgs false
set_option maxRecDepth 100000
namespace Go.Proofs.YtiijaiiejogbjaaDoor.Str
open Go Go.SX Go.Chacha Go.Lib

theorem lt_of_cell {W : World} {b o : Nat} {v : Value} (h : W.cell? ⟨b, o, none⟩ = some v) : b < W.heap.size := by
  by_cases hb : b < W.heap.size
  · exact hb
  · have hn : W.heap[b]? = none := Array.getElem?_eq_none (by omega)
    simp [World.cell?, hn] at h

theorem begin_is {W : World} (h : VarReads Tryd.prog W "sealwax/stream.begin" Rows.laid_sealwax_stream_begin) : (HB.seg 0 (.ints .u32 begin4)).Is W 1 := by
  obtain ⟨g, t, cs, fuel, p, h1, h2, h3, h4⟩ := h
  have hg : Tryd.prog.globalNamed "sealwax/stream.begin" = some 1 := by kernel_rfl
  obtain rfl := Option.some.inj (hg.symm.trans h1)
  have ht : (Tryd.prog.globals[1]?).map (·.type) = some 57 := by kernel_rfl
  obtain rfl := Option.some.inj (ht.symm.trans h2)
  have e : cs.toList = begin4.map fun z => Value.int .u32 z := cells_of_tab (zs := begin4) (k := .u32) (e := 24) (n := 4) (by kernel_rfl) (by kernel_rfl) (by kernel_rfl) (by kernel_rfl) h4
  have cell : ∀ j : Nat, W.cell? ⟨1, j, none⟩ = cs[j]? := fun j => World.var?_cell hg h3 j
  have at_ : ∀ (j : Nat) v, (begin4.map (Value.int .u32))[j]? = some v → W.cell? ⟨1, 0 + j, none⟩ = some v := fun j v hj => by
    rw [Nat.zero_add, cell j, ← Array.getElem?_toList, e]; exact hj
  exact ⟨lt_of_cell (at_ 0 _ rfl), at_, trivial⟩

theorem peel {α : Type} {cs r : List α} {a : Nat} (h : (cs.drop a).take 4 = r) : cs.drop a = r ++ cs.drop (a + 4) := by
  rw [← h, ← List.drop_drop, List.take_append_drop]

theorem quarters_is {W : World} (h : VarReads Tryd.prog W "sealwax/stream.quarters" Rows.laid_sealwax_stream_quarters) : (HB.seg 0 (.ints .i64 quartersL)).Is W 0 := by
  obtain ⟨g, t, cs, fuel, p, h1, h2, h3, h4⟩ := h
  have hg : Tryd.prog.globalNamed "sealwax/stream.quarters" = some 0 := by kernel_rfl
  obtain rfl := Option.some.inj (hg.symm.trans h1)
  have ht : (Tryd.prog.globals[0]?).map (·.type) = some 49 := by kernel_rfl
  obtain rfl := Option.some.inj (ht.symm.trans h2)
  obtain ⟨xs, m, rfl, hx, hl, hxl, hrow⟩ := DataW.trod_array (n := 8) (e := 48) (by kernel_rfl) h4
  have h48 : Tryd.prog.cellsOf 48 = 4 := by kernel_rfl
  have h49 : Tryd.prog.cellsOf 49 = 32 := by kernel_rfl
  rw [h49] at hl
  have hd : xs.map (·.1) = [tabData .i64 [0, 4, 8, 12], tabData .i64 [1, 5, 9, 13], tabData .i64 [2, 6, 10, 14], tabData .i64 [3, 7, 11, 15], tabData .i64 [0, 5, 10, 15], tabData .i64 [1, 6, 11, 12], tabData .i64 [2, 7, 8, 13], tabData .i64 [3, 4, 9, 14]] := by
    have := congrArg Prod.fst hx
    injection this with this
    exact this.symm
  have row : ∀ (i : Nat) (zs : List Int), i < 8 → (xs.map (·.1))[i]? = some (tabData .i64 zs) → (cs.toList.drop (i * 4)).take 4 = zs.map (Value.int .i64) := by
    intro i zs hi hz
    have := hrow i hi
    rw [h48] at this
    rw [List.getElem?_map] at hz
    cases hxi : xs[i]? with
    | none => rw [hxi] at hz; cases hz
    | some x =>
      rw [hxi] at this hz
      obtain ⟨d, q⟩ := x
      cases hz
      exact cells_of_tab (zs := zs) (k := .i64) (e := 3) (n := 4) (by kernel_rfl) (by kernel_rfl) (by kernel_rfl) (by kernel_rfl) this
  rw [hd] at row
  have r0 := row 0 _ (by omega) rfl
  have r1 := row 1 _ (by omega) rfl
  have r2 := row 2 _ (by omega) rfl
  have r3 := row 3 _ (by omega) rfl
  have r4 := row 4 _ (by omega) rfl
  have r5 := row 5 _ (by omega) rfl
  have r6 := row 6 _ (by omega) rfl
  have r7 := row 7 _ (by omega) rfl
  have e : cs.toList = quartersL.map (Value.int .i64) := by
    have z : cs.toList.drop 32 = [] := List.drop_eq_nil_of_le (by omega)
    have p7 := peel r7
    have p6 := peel r6
    have p5 := peel r5
    have p4 := peel r4
    have p3 := peel r3
    have p2 := peel r2
    have p1 := peel r1
    have p0 := peel r0
    simp only [Nat.zero_mul, Nat.zero_add, Nat.one_mul, Nat.reduceMul, Nat.reduceAdd, List.drop_zero] at p0 p1 p2 p3 p4 p5 p6 p7
    rw [p0, p1, p2, p3, p4, p5, p6, p7, z]
    rfl
  have cell : ∀ j : Nat, W.cell? ⟨0, j, none⟩ = cs[j]? := fun j => World.var?_cell hg h3 j
  have at_ : ∀ (j : Nat) v, (quartersL.map (Value.int .i64))[j]? = some v → W.cell? ⟨0, 0 + j, none⟩ = some v := fun j v hj => by
    rw [Nat.zero_add, cell j, ← Array.getElem?_toList, e]; exact hj
  exact ⟨lt_of_cell (at_ 0 _ rfl), at_, trivial⟩
end Go.Proofs.YtiijaiiejogbjaaDoor.Str
