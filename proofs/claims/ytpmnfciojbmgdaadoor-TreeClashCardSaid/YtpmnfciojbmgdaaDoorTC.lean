/- Trees: what holds is what the document says; a case, as it is given. -/
import Derived.Test.YtpmnfciojbmgdaaDoorTB
import Derived.Test.YtpmnfciojbmgdaaDoorT6
import Derived.Test.YtpmnfciojbmgdaaDoorSy4
set_option linter.unusedVariables false
set_option linter.unusedSimpArgs false
set_option maxRecDepth 10000
set_option maxHeartbeats 1000000
namespace Go.Proofs.YtpmnfciojbmgdaaDoor
open Go Go.SY Go.Sha Go.ChangeShapes Go.WideShapes

theorem holds_same (root : List UInt8) (i : Int) (s : List UInt8) (l : List (List UInt8)) :
    decide (l.length ≤ 16 ∧ 0 ≤ i ∧ i.toNat / 2 ^ l.length = 0 ∧ climb i.toNat s l l.length = root) = holdsS root i s l := by
  unfold holdsS
  rw [← Bool.decide_and, climb_ways]
  refine decide_eq_decide.2 ⟨?_, ?_⟩
  · rintro ⟨a, b, c, e⟩
    have h2 : i.toNat < 2 ^ l.length := by
      rcases Nat.lt_or_ge i.toNat (2 ^ l.length) with h | h
      · exact h
      · have := Nat.div_pos h (Nat.two_pow_pos l.length); omega
    exact ⟨⟨a, b, by omega⟩, e⟩
  · rintro ⟨⟨a, b, c⟩, e⟩
    exact ⟨a, b, Nat.div_eq_of_lt (by omega), e⟩
variable {H : Type} {enc : TypeId × Value → H} {W : World} {r : Reach} {b0 : Nat} {sp : Nat → Bool} {held : Bool} {v : Value} {d : DataW H} {p : List MemPlace}
theorem case_arg (h : Value.okWide Tryd.prog W r b0 41 v) (hd : DataW.Trod enc Tryd.prog W 0 sp held 41 v d p) :
    ∃ (dd i g : Int) (y : SV) (L : List (List UInt8)) (s : List UInt8), v = (BV.agg [.c (.int .i64 dd), .c (.lst 0 y), .c (.int .i64 i), .c (.str s), .c (.int .i64 g)]).val ∧ (HB.view (.sc .str) y L).Is W y.blk ∧ L.length ≤ maxLen ∧ s.length ≤ maxLen ∧
      (-9223372036854775808 ≤ dd ∧ dd ≤ 9223372036854775807) ∧ (-9223372036854775808 ≤ i ∧ i ≤ 9223372036854775807) ∧ (-9223372036854775808 ≤ g ∧ g ≤ 9223372036854775807) := by
  obtain ⟨cs, rfl, hl, hok, htr⟩ := arg_cells (fs := _) (ts := [3, 22, 3, 9, 3]) rfl (by kernel_rfl) h hd
  have hl5 : cs.length = 5 := hl.trans (by kernel_rfl)
  obtain ⟨u0, u1, u2, u3, u4, rfl⟩ : ∃ u0 u1 u2 u3 u4, cs = [u0, u1, u2, u3, u4] := by
    match cs, hl5 with
    | [u0, u1, u2, u3, u4], _ => exact ⟨u0, u1, u2, u3, u4, rfl⟩
  have wi : Tryd.prog.underlying 3 = some (.int .i64) := by kernel_rfl
  have ws : Tryd.prog.underlying 9 = some .string := by kernel_rfl
  have wl : Tryd.prog.underlying 22 = some (.slice 9) := by kernel_rfl
  have cs1 : Tryd.prog.cellsOf 9 = 1 := by kernel_rfl
  have cl1 : Tryd.prog.cellsOf 22 = 1 := by kernel_rfl
  have vi_ : ∀ u, Cell.okWide Tryd.prog W r b0 3 u → Value.okWide Tryd.prog W r b0 3 u := fun u h => by unfold Value.okWide; rw [wi]; exact h
  have vs_ : ∀ u, Cell.okWide Tryd.prog W r b0 9 u → Value.okWide Tryd.prog W r b0 9 u := fun u h => by unfold Value.okWide; rw [ws]; exact h
  have vl_ : ∀ u, Cell.okWide Tryd.prog W r b0 22 u → Value.okWide Tryd.prog W r b0 22 u := fun u h => by unfold Value.okWide; rw [wl]; exact h
  obtain ⟨dd, rfl, d1, d2⟩ := arg_i64 wi (vi_ u0 (hok 0 u0 _ rfl rfl))
  obtain ⟨i, rfl, i1, i2⟩ := arg_i64 wi (vi_ u2 (hok 2 u2 _ rfl rfl))
  obtain ⟨g, rfl, g1, g2⟩ := arg_i64 wi (vi_ u4 (hok 4 u4 _ rfl rfl))
  have o1 := vl_ u1 (hok 1 u1 _ rfl rfl)
  have o3 := vs_ u3 (hok 3 u3 _ rfl rfl)
  obtain ⟨n1, y1, h1⟩ := htr 1 _ rfl
  obtain ⟨n3, y3, h3⟩ := htr 3 _ rfl
  have h1 : DataW.trod enc Tryd.prog W 0 sp held n1 22 (List.take (Tryd.prog.cellsOf 22) [u1, _, u3, _]) = some y1 := h1
  have h3 : DataW.trod enc Tryd.prog W 0 sp held n3 9 (List.take (Tryd.prog.cellsOf 9) [u3, _]) = some y3 := h3
  rw [cl1] at h1
  rw [cs1] at h3
  obtain ⟨s0, rfl⟩ := okWide_string ws o3
  obtain ⟨a0, len0, cap0, rfl⟩ := okWide_slice wl o1
  obtain ⟨s, e3, hs⟩ := arg_str (enc := enc) (sp := sp) (held := held) (d := y3.1) (p := y3.2) ws o3 ⟨n3, h3⟩
  obtain ⟨y, L, e1, hv, hL⟩ := arg_scalars (enc := enc) (sp := sp) (held := held) (d := y1.1) (p := y1.2) (f := 5) (s := .str) (c := .str []) wl (by kernel_rfl) rfl cs1 o1 ⟨n1, h1⟩
  refine ⟨dd, i, g, y, L, s, ?_, hv, ?_, hs, ⟨d1, d2⟩, ⟨i1, i2⟩, ⟨g1, g2⟩⟩
  · rw [e1, e3]; rfl
  · exact hL.2
end Go.Proofs.YtpmnfciojbmgdaaDoor
