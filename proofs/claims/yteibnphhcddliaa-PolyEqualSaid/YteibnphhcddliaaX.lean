/- Each of these laws returns true, whatever its arguments, and each argument reads as it did. Conditions: the listed variables read as the program lays them (tied by the card). -/
import Derived.Test.YteibnphhcddliaaQA
import Derived.Test.YteibnphhcddliaaSy4
import Derived.Test.YteibnphhcddliaaRows
import Derived.ChangeSame
import Derived.ChangeVars
import Derived.JoinedOf
import Derived.RowKit
import Derived.WalkKit
import Derived.ProofKit
import Derived.LaidHandle
import Derived.Lay
import Derived.SevenTiedAt
import Derived.SizedLaws
set_option linter.unusedVariables false
set_option linter.unusedSimpArgs false
set_option maxRecDepth 100000
namespace Go.Proofs.Yteibnphhcddliaa
open Go Go.SY Go.ChangeShapes Go.WideShapes Go.ChangeAt Go.RowKit
theorem ownKnobNone : ownKnob Try.prog.godebug = none := by kernel_rfl
theorem laidOutP : laidOutB Try.prog = true := by kernel_rfl

set_option maxRecDepth 100000 in
theorem polyEnds_lifted (os : Os) (started : os.Started) (H : Type) (enc : TypeId × Value → H) :
    ReturnsInHanded {} Try.checked os 3 .any (Rows.polyEndsSpec.pre6 enc Try.prog Try.f3 [] false)
      (Rows.polyEndsSpec.post enc Try.prog Try.f3 false true false false) := by
  refine returnsInHanded_of_change_sized (C := Try.checked) ownKnobNone started (by kernel_rfl) Try.func3
    (ChangeSpec.witness6 false ⟨#[], #[(.agg (List.replicate 32 (Value.int .u8 0)).toArray : Value), (.int .i64 0 : Value), (.int .u8 0 : Value)], []⟩ 8 (by kernel_rfl) (by kernel_rfl) (by kernel_rfl) (by kernel_rfl)) ?_
  intro W base args ds gs before hval0 hW _ _ _
  have hval : ∀ (j : Nat) t v, Try.f3.params[j]? = some t → args[j]? = some v → Value.okWide Try.prog W .any base t v := hval0
  have hW' := hW
  obtain ⟨p, q, hA0, hV, rfl, _, _⟩ := hW
  have hA : DataW.TrodAll enc Try.prog W 0 (fun _ => true) true Try.f3.params.toList args.toList ds p := hA0
  rw [Try.params3] at hA hval
  obtain ⟨v0, v1, v2, d0, d1, d2, p0, p1, p2, rfl, rfl, rfl, h0, h1, h2⟩ := trodAll_three hA
  obtain ⟨rfl, rfl⟩ := trodVars_none hV
  obtain ⟨l0, hl0, rfl⟩ := arg_agg (f := 5) (z := [.arr .u8 32 (List.replicate 32 (0 : UInt8))]) (by kernel_rfl) (by kernel_rfl) (hval 0 22 _ rfl rfl) h0
  obtain ⟨L0, q0, rfl, ha0, hk0, hq0⟩ := hl0
  obtain rfl : q0 = [] := hq0
  obtain ⟨n1, rfl, hn1a, hn1b⟩ := arg_i64 Try.underlying3 (hval 1 3 _ rfl rfl)
  obtain ⟨n2, rfl⟩ := arg_u8 Try.underlying5 (hval 2 5 _ rfl rfl)
  rw [List.append_nil] at hW'
  exact law_post (R := R) (args := [va [.arr .u8 32 L0], vi n1, v8 n2]) (G := []) (ends_law L0 ha0 n1 n2) rfl (by repeat (first | exact trivial | assumption | refine ⟨?_, ?_⟩)) (W := W) trivial laidOutP (by kernel_rfl) rfl (by kernel_rfl) Try.underlying4 rfl hW' (fun x hx => by simpa using hW'.lt x hx)
theorem polyEnds_holds : Rows.PolyEndsSaid :=
  OpenClaim.holds_of_wide 3 Try.f3 rfl rfl rfl rfl rfl rfl rfl ⟨rfl, rfl, rfl, rfl, rfl⟩ rfl rfl rfl rfl rfl (by kernel_rfl) Try.func3 (by kernel_rfl)
    (of_decide_eq_true (by kernel_rfl)) (by unfold Func.isWrapper; first | (rw [if_pos (by decide +kernel)]; kernel_rfl) | (rw [if_neg (by decide +kernel)]; exact ⟨rfl, rfl⟩))
    (fun os started H enc _ => polyEnds_lifted os started H enc)

set_option maxRecDepth 100000 in
theorem polySimple_lifted (os : Os) (started : os.Started) (H : Type) (enc : TypeId × Value → H) :
    ReturnsInHanded {} Try.checked os 4 .any (Rows.polySimpleSpec.pre6 enc Try.prog Try.f4 [] false)
      (Rows.polySimpleSpec.post enc Try.prog Try.f4 false true false false) := by
  refine returnsInHanded_of_change_sized (C := Try.checked) ownKnobNone started (by kernel_rfl) Try.func4
    (ChangeSpec.witness6 false ⟨#[], #[(.agg (List.replicate 32 (Value.int .u8 0)).toArray : Value), (.slice none 0 0 : Value), (.string ⟨⟨[]⟩⟩ : Value)], []⟩ 8 (by kernel_rfl) (by kernel_rfl) (by kernel_rfl) (by kernel_rfl)) ?_
  intro W base args ds gs before hval0 hW _ _ _
  have hval : ∀ (j : Nat) t v, Try.f4.params[j]? = some t → args[j]? = some v → Value.okWide Try.prog W .any base t v := hval0
  have hW' := hW
  obtain ⟨p, q, hA0, hV, rfl, _, _⟩ := hW
  have hA : DataW.TrodAll enc Try.prog W 0 (fun _ => true) true Try.f4.params.toList args.toList ds p := hA0
  rw [Try.params4] at hA hval
  obtain ⟨v0, v1, v2, d0, d1, d2, p0, p1, p2, rfl, rfl, rfl, h0, h1, h2⟩ := trodAll_three hA
  obtain ⟨rfl, rfl⟩ := trodVars_none hV
  obtain ⟨l0, hl0, rfl⟩ := arg_agg (f := 5) (z := [.arr .u8 32 (List.replicate 32 (0 : UInt8))]) (by kernel_rfl) (by kernel_rfl) (hval 0 22 _ rfl rfl) h0
  obtain ⟨L0, q0, rfl, ha0, hk0, hq0⟩ := hl0
  obtain rfl : q0 = [] := hq0
  obtain ⟨x1, L1, rfl, hI1, hQ1, hl1⟩ := arg_scalars (s := .str) (c := .str []) (f := 3) Try.underlying32 (by kernel_rfl) rfl (by kernel_rfl) (hval 1 32 _ rfl rfl) h1
  obtain ⟨s2, rfl, hs2⟩ := arg_str Try.underlying9 (hval 2 9 _ rfl rfl) h2
  rw [List.append_nil] at hW'
  exact law_post (R := R) (args := [va [.arr .u8 32 L0], vl 1 x1, vs s2]) (G := [(1, x1.blk, .view (.sc (.str)) x1 L1)]) (simple_law L0 ha0 x1 L1 (by unfold maxLen at hl1; omega) s2 (by unfold maxLen at hs2; omega)) rfl (by repeat (first | exact trivial | assumption | refine ⟨?_, ?_⟩)) (W := W) ⟨hI1, trivial⟩ laidOutP (by kernel_rfl) rfl (by kernel_rfl) Try.underlying4 rfl hW' (fun x hx => by simpa using hW'.lt x hx)
theorem polySimple_holds : Rows.PolySimpleSaid :=
  OpenClaim.holds_of_wide 4 Try.f4 rfl rfl rfl rfl rfl rfl rfl ⟨rfl, rfl, rfl, rfl, rfl⟩ rfl rfl rfl rfl rfl (by kernel_rfl) Try.func4 (by kernel_rfl)
    (of_decide_eq_true (by kernel_rfl)) (by unfold Func.isWrapper; first | (rw [if_pos (by decide +kernel)]; kernel_rfl) | (rw [if_neg (by decide +kernel)]; exact ⟨rfl, rfl⟩))
    (fun os started H enc _ => polySimple_lifted os started H enc)

set_option maxRecDepth 100000 in
theorem polyTags_lifted (os : Os) (started : os.Started) (H : Type) (enc : TypeId × Value → H) :
    ReturnsInHanded {} Try.checked os 5 .any (Rows.polyTagsSpec.pre6 enc Try.prog Try.f5 [] false)
      (Rows.polyTagsSpec.post enc Try.prog Try.f5 false true false false) := by
  refine returnsInHanded_of_change_sized (C := Try.checked) ownKnobNone started (by kernel_rfl) Try.func5
    (ChangeSpec.witness6 false ⟨#[], #[(.agg (List.replicate 32 (Value.int .u8 0)).toArray : Value), (.slice none 0 0 : Value)], []⟩ 8 (by kernel_rfl) (by kernel_rfl) (by kernel_rfl) (by kernel_rfl)) ?_
  intro W base args ds gs before hval0 hW _ _ _
  have hval : ∀ (j : Nat) t v, Try.f5.params[j]? = some t → args[j]? = some v → Value.okWide Try.prog W .any base t v := hval0
  have hW' := hW
  obtain ⟨p, q, hA0, hV, rfl, _, _⟩ := hW
  have hA : DataW.TrodAll enc Try.prog W 0 (fun _ => true) true Try.f5.params.toList args.toList ds p := hA0
  rw [Try.params5] at hA hval
  obtain ⟨v0, v1, d0, d1, p0, p1, rfl, rfl, rfl, h0, h1⟩ := trodAll_two hA
  obtain ⟨rfl, rfl⟩ := trodVars_none hV
  obtain ⟨l0, hl0, rfl⟩ := arg_agg (f := 5) (z := [.arr .u8 32 (List.replicate 32 (0 : UInt8))]) (by kernel_rfl) (by kernel_rfl) (hval 0 22 _ rfl rfl) h0
  obtain ⟨L0, q0, rfl, ha0, hk0, hq0⟩ := hl0
  obtain rfl : q0 = [] := hq0
  obtain ⟨x1, L1, rfl, hI1, hQ1, hl1⟩ := arg_scalars (s := .str) (c := .str []) (f := 3) Try.underlying32 (by kernel_rfl) rfl (by kernel_rfl) (hval 1 32 _ rfl rfl) h1
  rw [List.append_nil] at hW'
  exact law_post (R := R) (args := [va [.arr .u8 32 L0], vl 1 x1]) (G := [(1, x1.blk, .view (.sc (.str)) x1 L1)]) (tags_law L0 ha0 x1 L1 (by unfold maxLen at hl1; omega)) rfl (by repeat (first | exact trivial | assumption | refine ⟨?_, ?_⟩)) (W := W) ⟨hI1, trivial⟩ laidOutP (by kernel_rfl) rfl (by kernel_rfl) Try.underlying4 rfl hW' (fun x hx => by simpa using hW'.lt x hx)
theorem polyTags_holds : Rows.PolyTagsSaid :=
  OpenClaim.holds_of_wide 5 Try.f5 rfl rfl rfl rfl rfl rfl rfl ⟨rfl, rfl, rfl, rfl, rfl⟩ rfl rfl rfl rfl rfl (by kernel_rfl) Try.func5 (by kernel_rfl)
    (of_decide_eq_true (by kernel_rfl)) (by unfold Func.isWrapper; first | (rw [if_pos (by decide +kernel)]; kernel_rfl) | (rw [if_neg (by decide +kernel)]; exact ⟨rfl, rfl⟩))
    (fun os started H enc _ => polyTags_lifted os started H enc)

set_option maxRecDepth 100000 in
theorem polyEqual_lifted (os : Os) (started : os.Started) (H : Type) (enc : TypeId × Value → H) :
    ReturnsInHanded {} Try.checked os 6 .any (Rows.polyEqualSpec.pre6 enc Try.prog Try.f6 [] false)
      (Rows.polyEqualSpec.post enc Try.prog Try.f6 false true false false) := by
  refine returnsInHanded_of_change_sized (C := Try.checked) ownKnobNone started (by kernel_rfl) Try.func6
    (ChangeSpec.witness6 false ⟨#[], #[(.agg (List.replicate 16 (Value.int .u8 0)).toArray : Value), (.agg (List.replicate 16 (Value.int .u8 0)).toArray : Value), (.string ⟨⟨[]⟩⟩ : Value)], []⟩ 8 (by kernel_rfl) (by kernel_rfl) (by kernel_rfl) (by kernel_rfl)) ?_
  intro W base args ds gs before hval0 hW _ _ _
  have hval : ∀ (j : Nat) t v, Try.f6.params[j]? = some t → args[j]? = some v → Value.okWide Try.prog W .any base t v := hval0
  have hW' := hW
  obtain ⟨p, q, hA0, hV, rfl, _, _⟩ := hW
  have hA : DataW.TrodAll enc Try.prog W 0 (fun _ => true) true Try.f6.params.toList args.toList ds p := hA0
  rw [Try.params6] at hA hval
  obtain ⟨v0, v1, v2, d0, d1, d2, p0, p1, p2, rfl, rfl, rfl, h0, h1, h2⟩ := trodAll_three hA
  obtain ⟨rfl, rfl⟩ := trodVars_none hV
  obtain ⟨l0, hl0, rfl⟩ := arg_agg (f := 5) (z := [.arr .u8 16 (List.replicate 16 (0 : UInt8))]) (by kernel_rfl) (by kernel_rfl) (hval 0 26 _ rfl rfl) h0
  obtain ⟨L0, q0, rfl, ha0, hk0, hq0⟩ := hl0
  obtain rfl : q0 = [] := hq0
  obtain ⟨l1, hl1, rfl⟩ := arg_agg (f := 5) (z := [.arr .u8 16 (List.replicate 16 (0 : UInt8))]) (by kernel_rfl) (by kernel_rfl) (hval 1 26 _ rfl rfl) h1
  obtain ⟨L1, q1, rfl, ha1, hk1, hq1⟩ := hl1
  obtain rfl : q1 = [] := hq1
  obtain ⟨s2, rfl, hs2⟩ := arg_str Try.underlying9 (hval 2 9 _ rfl rfl) h2
  rw [List.append_nil] at hW'
  exact law_post (R := R) (args := [va [.arr .u8 16 L0], va [.arr .u8 16 L1], vs s2]) (G := []) (equal_law L0 L1 s2 ha0 ha1 (by unfold maxLen at hs2; omega)) rfl (by repeat (first | exact trivial | assumption | refine ⟨?_, ?_⟩)) (W := W) trivial laidOutP (by kernel_rfl) rfl (by kernel_rfl) Try.underlying4 rfl hW' (fun x hx => by simpa using hW'.lt x hx)
theorem polyEqual_holds : Rows.PolyEqualSaid :=
  OpenClaim.holds_of_wide 6 Try.f6 rfl rfl rfl rfl rfl rfl rfl ⟨rfl, rfl, rfl, rfl, rfl⟩ rfl rfl rfl rfl rfl (by kernel_rfl) Try.func6 (by kernel_rfl)
    (of_decide_eq_true (by kernel_rfl)) (by unfold Func.isWrapper; first | (rw [if_pos (by decide +kernel)]; kernel_rfl) | (rw [if_neg (by decide +kernel)]; exact ⟨rfl, rfl⟩))
    (fun os started H enc _ => polyEqual_lifted os started H enc)

#print axioms polyEnds_holds
#print axioms polySimple_holds
#print axioms polyTags_holds
#print axioms polyEqual_holds
end Go.Proofs.Yteibnphhcddliaa
