/- A crash, as an argument: two slices of calls, a number, a mask. -/
import Derived.Test.YtchbadngbddmnaaAR
import Derived.Test.YtchbadngbddmnaaSy4
set_option maxRecDepth 100000
set_option linter.unusedVariables false
namespace Go.Proofs.Ytchbadngbddmnaa
open Go Go.SY Go.ChangeShapes Go.WideShapes
variable {H : Type} {enc : TypeId × Value → H} {W : World} {r : Reach} {b0 : Nat} {sp : Nat → Bool} {held : Bool} {v : Value} {d : DataW H} {p : List MemPlace}
theorem crash_arg (h : Value.okWide Try.prog W r b0 25 v) (hd : DataW.Trod enc Try.prog W 0 sp held 25 v d p) :
    ∃ (st : Int) (m : BitVec 64) (x y : SV) (L M : List ActT), v = (BV.agg [.c (.lst 500 x), .c (.lst 501 y), .c (.int .i64 st), .c (.w64 m)]).val ∧ (HB.view (.st actS) x L).Is W x.blk ∧ (HB.view (.st actS) y M).Is W y.blk ∧ L.length ≤ maxLen ∧ M.length ≤ maxLen := by
  obtain ⟨cs, rfl, hl, hok, htr⟩ := arg_cells (fs := _) (ts := [22, 22, 3, 23]) rfl (by kernel_rfl) h hd
  have hl4 : cs.length = 4 := hl.trans (by kernel_rfl)
  obtain ⟨u0, u1, u2, u3, rfl⟩ : ∃ u0 u1 u2 u3, cs = [u0, u1, u2, u3] := by
    match cs, hl4 with
    | [u0, u1, u2, u3], _ => exact ⟨u0, u1, u2, u3, rfl⟩
  have wi : Try.prog.underlying 3 = some (.int .i64) := by kernel_rfl
  have wu : Try.prog.underlying 23 = some (.int .u64) := by kernel_rfl
  have wl : Try.prog.underlying 22 = some (.slice 32) := by kernel_rfl
  have cl1 : Try.prog.cellsOf 22 = 1 := by kernel_rfl
  have vi_ : ∀ u, Cell.okWide Try.prog W r b0 3 u → Value.okWide Try.prog W r b0 3 u := fun u h => by unfold Value.okWide; rw [wi]; exact h
  have vu_ : ∀ u, Cell.okWide Try.prog W r b0 23 u → Value.okWide Try.prog W r b0 23 u := fun u h => by unfold Value.okWide; rw [wu]; exact h
  have vl_ : ∀ u, Cell.okWide Try.prog W r b0 22 u → Value.okWide Try.prog W r b0 22 u := fun u h => by unfold Value.okWide; rw [wl]; exact h
  obtain ⟨st, rfl, d1, d2⟩ := arg_i64 wi (vi_ u2 (hok 2 u2 _ rfl rfl))
  obtain ⟨m, rfl⟩ := arg_u64 wu (vu_ u3 (hok 3 u3 _ rfl rfl))
  have o0 := vl_ u0 (hok 0 u0 _ rfl rfl)
  have o1 := vl_ u1 (hok 1 u1 _ rfl rfl)
  obtain ⟨n0, y0, h0⟩ := htr 0 _ rfl
  obtain ⟨n1, y1, h1⟩ := htr 1 _ rfl
  have h0 : DataW.trod enc Try.prog W 0 sp held n0 22 (List.take (Try.prog.cellsOf 22) [u0, u1, _, _]) = some y0 := h0
  have h1 : DataW.trod enc Try.prog W 0 sp held n1 22 (List.take (Try.prog.cellsOf 22) [u1, _, _]) = some y1 := h1
  rw [cl1] at h0 h1
  obtain ⟨a0, len0, cap0, rfl⟩ := okWide_slice wl o0
  obtain ⟨a1, len1, cap1, rfl⟩ := okWide_slice wl o1
  obtain ⟨x, L, e0, hv0, _, hL⟩ := arg_acts (enc := enc) (sp := sp) (held := held) (d := y0.1) (p := y0.2) wl o0 ⟨n0, h0⟩
  obtain ⟨y, M, e1, hv1, _, hM⟩ := arg_acts (enc := enc) (sp := sp) (held := held) (d := y1.1) (p := y1.2) wl o1 ⟨n1, h1⟩
  refine ⟨st, m, x, y, L, M, ?_, hv0, hv1, hL, hM⟩
  rw [e0, e1]; rfl
end Go.Proofs.Ytchbadngbddmnaa
