/- From the row's conditions to the walk's: a place; the listed variables. -/
import Derived.Test.YtiijaiiejogbjaaDoorW8
import Derived.Test.YtiijaiiejogbjaaDoorRows
import Derived.Lib.LaidU8
import Derived.Carry
set_option linter.unusedVariables false
set_option linter.unusedSimpArgs false
set_option maxRecDepth 100000
namespace Go.Proofs.YtiijaiiejogbjaaDoor.Str
open Go Go.SX Go.Chacha

theorem okWide_int {P : Program} {w : World} {r : Reach} {b : Nat} {t : TypeId} {k : IntKind} {v : Value} (ht : P.underlying t = some (.int k)) (h : Cell.okWide P w r b t v) : ∃ n, v = .int k n ∧ k.has n := by
  unfold Cell.okWide at h
  rw [ht] at h
  unfold Cell.ok at h
  rw [ht] at h
  cases v <;> simp at h
  obtain ⟨rfl, h⟩ := h
  exact ⟨_, rfl, h⟩

theorem place_cells (f : Nat → Int) : (place f).map SC.val = (List.range 45).map fun i => if i = 32 then Value.int .u32 (f i) else Value.int .u8 (f i) := rfl

def intAt (cs : Array Value) (i : Nat) : Int := match cs[i]? with | some (.int _ n) => n | _ => 0

theorem place_types : Tryd.prog.cellTypes Tryd.prog.depth 28 = some (List.replicate 32 5 ++ [24] ++ List.replicate 12 5) := by kernel_rfl

theorem place_of_ok {w : World} {r : Reach} {b : Nat} {v : Value} (h : Value.okWide Tryd.prog w r b 28 v) : ∃ f, PlaceOk f ∧ v = (BV.agg (place f)).val := by
  have hc : Tryd.prog.cellsOf 28 = 45 := by kernel_rfl
  have h : ∃ cs, v = .agg cs ∧ cs.size = Tryd.prog.cellsOf 28 ∧ Row.okWide Tryd.prog w r b 28 cs := h
  obtain ⟨cs, rfl, hsz, ts, hts, _, hall⟩ := h
  rw [hc] at hsz
  rw [place_types] at hts
  cases hts
  have cell : ∀ i, i < 45 → if i = 32 then cs[i]? = some (Value.int .u32 (intAt cs i)) ∧ IntKind.u32.has (intAt cs i) else cs[i]? = some (Value.int .u8 (intAt cs i)) ∧ IntKind.u8.has (intAt cs i) := by
    intro i hi
    have hget : cs[i]? = some cs[i] := Array.getElem?_eq_getElem (by omega)
    obtain ⟨u, hu, hok⟩ := hall i _ hget
    have hlen : (List.replicate 32 5 ++ [24] ++ List.replicate 12 5 : List TypeId).length = 45 := rfl
    rw [hlen, Nat.mod_eq_of_lt hi] at hu
    split
    · rename_i e
      subst e
      cases hu
      obtain ⟨n, hn, hh⟩ := okWide_int Tryd.underlying24 hok
      have e2 : intAt cs 32 = n := by unfold intAt; rw [hget, hn]
      rw [e2, hget, hn]
      exact ⟨rfl, hh⟩
    · rename_i e
      have hu5 : u = 5 := by
        by_cases h32 : i < 32
        · rw [List.append_assoc, List.getElem?_append_left (by simpa using h32), List.getElem?_replicate, if_pos h32] at hu
          exact (Option.some.inj hu).symm
        · rw [List.getElem?_append_right (by simp; omega), List.getElem?_replicate] at hu
          split at hu
          · exact (Option.some.inj hu).symm
          · cases hu
      subst hu5
      obtain ⟨n, hn, hh⟩ := okWide_int Tryd.underlying5 hok
      have e2 : intAt cs i = n := by unfold intAt; rw [hget, hn]
      rw [e2, hget, hn]
      exact ⟨rfl, hh⟩
  refine ⟨fun i => if i < 45 then intAt cs i else 0, ⟨fun i hi => ?_, ?_⟩, ?_⟩
  · split
    · rename_i h45
      have := cell i h45
      rw [if_neg hi] at this
      have := this.2
      simp [IntKind.has, IntKind.min, IntKind.max, IntKind.signed, IntKind.bits] at this
      omega
    · omega
  · have := (cell 32 (by omega))
    rw [if_pos rfl] at this
    have := this.2
    simp [IntKind.has, IntKind.min, IntKind.max, IntKind.signed, IntKind.bits] at this
    rw [if_pos (by omega)]
    omega
  · show Value.agg cs = .agg ((place _).map SC.val).toArray
    rw [place_cells]
    congr 1
    refine Array.ext' ?_
    refine List.ext_getElem? fun i => ?_
    rw [List.getElem?_map, Array.getElem?_toList]
    by_cases hi : i < 45
    · rw [List.getElem?_range hi]
      have := cell i hi
      simp only [Option.map_some, hi, if_true]
      split at this
      · rename_i e; rw [if_pos e]; exact this.1
      · rename_i e; rw [if_neg e]; exact this.1
    · rw [Array.getElem?_eq_none (by omega), List.getElem?_eq_none (by simpa using hi)]
      rfl
end Go.Proofs.YtiijaiiejogbjaaDoor.Str
