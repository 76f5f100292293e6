/- Each of these laws returns true, whatever its arguments, and each argument reads as it did. Conditions: the listed variables read as the program lays them (tied by the card). -/
import Derived.Test.YtjanfjfccodebaaDoorE5
import Derived.Test.YtjanfjfccodebaaDoorSy4
import Derived.Test.YtjanfjfccodebaaDoorRows
import Derived.Test.YtjanfjfccodebaaDoorCards
import Derived.Test.YtjanfjfccodebaaDoorTie
import Derived.ChangeSame
import Derived.ChangeVars
import Derived.JoinedOf
import Derived.RowKit
import Derived.WalkKit
import Derived.ProofKit
import Derived.LaidHandle
import Derived.Lay
import Derived.SevenTiedAt
import Derived.SizedLaws
set_option linter.unusedVariables false
set_option linter.unusedSimpArgs false
set_option maxRecDepth 100000
namespace Go.Proofs.YtjanfjfccodebaaDoor
open Go Go.SY Go.ChangeShapes Go.WideShapes Go.ChangeAt Go.RowKit
theorem ownKnobNone : ownKnob Tryd.prog.godebug = none := by kernel_rfl
theorem laidOutP : laidOutB Tryd.prog = true := by kernel_rfl

noncomputable def laidAeadParts : List (String × DataW Unit) := [("sealwax/stream.begin", Rows.laid_sealwax_stream_begin), ("sealwax/stream.quarters", Rows.laid_sealwax_stream_quarters)]
set_option maxRecDepth 100000 in
theorem aeadParts_lifted (os : Os) (started : os.Started) (H : Type) (enc : TypeId × Value → H) :
    ReturnsInHanded {} Tryd.checked os 3 .any (fun w args => (Rows.aeadPartsSpec.pre enc Tryd.prog Tryd.f3 [] false w args ∧ laidMetH Tryd.prog laidAeadParts w) ∧ sizedMet enc Tryd.prog Tryd.f3 (OpenSpec.ofChange Rows.aeadPartsSpec) false w args)
      (Rows.aeadPartsSpec.post enc Tryd.prog Tryd.f3 false true false false) := by
  refine returnsInHanded_of_change_and (C := Tryd.checked) (X := fun w _ => laidMetH Tryd.prog laidAeadParts w) (fun _ _ _ hh h => h.of_heap hh) ownKnobNone started (by kernel_rfl) Tryd.func3
    (ChangeSpec.witness_shaped (enc := enc) (C := Tryd.checked) (os := os) (X := fun w _ => laidMetH Tryd.prog laidAeadParts w) false (World.laidAll Tryd.prog os laidAeadParts) #[(.agg ((List.replicate 32 (Value.int .u8 0) ++ [Value.int .u32 0] ++ List.replicate 12 (Value.int .u8 0)).toArray) : Value), (.string ⟨⟨[]⟩⟩ : Value), (.string ⟨⟨[]⟩⟩ : Value)] 8 (World.laidAll_os _ _ _)
      (World.shaped_of_ZipB (by kernel_rfl) (by kernel_rfl)) (by kernel_rfl) (by kernel_rfl) (by kernel_rfl)
      (by rw [MakeChecks.laidMetH_plain _ _ _ (by kernel_rfl)]; exact laidMet_laidAll _ (by kernel_rfl) (by kernel_rfl))) ?_
  intro W base args ds gs before hval0 hW _ _ hL _
  have hval : ∀ (j : Nat) t v, Tryd.f3.params[j]? = some t → args[j]? = some v → Value.okWide Tryd.prog W .any base t v := hval0
  have hW' := hW
  obtain ⟨p, q, hA0, hV, rfl, _, _⟩ := hW
  have hA : DataW.TrodAll enc Tryd.prog W 0 (fun _ => true) true Tryd.f3.params.toList args.toList ds p := hA0
  rw [Tryd.params3] at hA hval
  obtain ⟨v0, v1, v2, d0, d1, d2, p0, p1, p2, rfl, rfl, rfl, h0, h1, h2⟩ := trodAll_three hA
  obtain ⟨rfl, rfl⟩ := trodVars_none hV
  obtain ⟨l0, hl0, rfl⟩ := arg_agg (f := 9) (z := [.arr .u8 32 (List.replicate 32 (0 : UInt8)), .c (.w32 0), .arr .u8 12 (List.replicate 12 (0 : UInt8))]) (by kernel_rfl) (by kernel_rfl) (hval 0 28 _ rfl rfl) h0
  obtain ⟨K0, q0, rfl, hK0, hKk0, y0, r0, rfl, ⟨c0, rfl⟩, N0, u0, rfl, hN0, hNk0, hu0⟩ := hl0
  obtain rfl : u0 = [] := hu0
  obtain ⟨s1, rfl, hs1⟩ := arg_str Tryd.underlying9 (hval 1 9 _ rfl rfl) h1
  obtain ⟨s2, rfl, hs2⟩ := arg_str Tryd.underlying9 (hval 2 9 _ rfl rfl) h2
  rw [List.append_nil] at hW'
  rw [MakeChecks.laidMetH_plain _ _ _ (by kernel_rfl)] at hL
  have hg0 : (HB.ro [.arr .u32 4 Cha.begin4]).Is W 1 := glob_is (f := 5) hL (.head _) (by kernel_rfl) (by kernel_rfl) (by kernel_rfl) (by first | exact ⟨rfl, trivial⟩ | exact trivial) (by decide)
  have hg1 : (HB.ro [.arr (.int .i64) 32 Cha.quartersL]).Is W 0 := glob_is (f := 5) hL (.tail _ (.head _)) (by kernel_rfl) (by kernel_rfl) (by kernel_rfl) (by first | exact ⟨rfl, trivial⟩ | exact trivial) (by decide)
  exact law_post (R := R) (args := [vplace K0 c0 N0, vs s1, vs s2]) (G := [gQuarters, gBegin4]) (parts_law K0 c0 N0 s1 s2 hK0 hN0 (by unfold maxLen at hs1; omega) (by unfold maxLen at hs2; omega)) rfl (by repeat (first | exact trivial | assumption | refine ⟨?_, ?_⟩)) (W := W) ⟨hg1, hg0, trivial⟩ laidOutP (by kernel_rfl) rfl (by kernel_rfl) Tryd.underlying4 rfl hW' (fun x hx => by simpa using hW'.lt x hx)
theorem aeadParts_holds : Rows.AeadPartsSaid :=
  OpenClaim.holds_of_wide 3 Tryd.f3 rfl rfl rfl rfl rfl rfl rfl ⟨rfl, rfl, rfl, rfl, rfl⟩ rfl rfl rfl rfl rfl (by kernel_rfl) Tryd.func3 (by kernel_rfl)
    (of_decide_eq_true (by kernel_rfl)) (by unfold Func.isWrapper; first | (rw [if_pos (by decide +kernel)]; kernel_rfl) | (rw [if_neg (by decide +kernel)]; exact ⟨rfl, rfl⟩))
    (fun os started H enc _ => aeadParts_lifted os started H enc)
/-- The tied card of AeadParts. -/
theorem aeadParts_card : Rows.AeadPartsCardSaid :=
  Claim7.holds_tied_plain_at .later [] [.widerDeep, .data] true (true, "3337613e3eac31265131e07e4b82d764f542ffed3036900e1beed8ee12770c8a") false aeadParts_holds (fun _ h => by cases h) (by kernel_rfl) (fun _ h => by cases h) aeadParts_row_tie rfl ⟨rfl, rfl⟩ (by kernel_rfl) rfl
    (fun f fn hf hfn => by
      obtain rfl : f = 3 := Option.some.inj ((show Tryd.prog.funcNamed "sealwax/sealwaxlaw05.AeadParts" = some 3 by kernel_rfl).symm.trans hf) |>.symm
      obtain rfl : fn = Tryd.f3 := (Option.some.inj (Tryd.func3.symm.trans hfn)).symm
      exact ⟨by kernel_rfl, fun j t ht => by
        rw [Tryd.params3] at ht
        have hm : t ∈ [28, 9, 9] := by simpa using Array.mem_of_getElem? ht
        have hall : ([28, 9, 9].all fun u => !Tryd.prog.wantsStandIn u) = true := by kernel_rfl
        exact (show Tryd.prog.wantsStandIn t = false by simpa using List.all_eq_true.1 hall t hm)⟩)
    (by kernel_rfl)

noncomputable def laidAeadSeals : List (String × DataW Unit) := [("sealwax/stream.begin", Rows.laid_sealwax_stream_begin), ("sealwax/stream.quarters", Rows.laid_sealwax_stream_quarters)]
set_option maxRecDepth 100000 in
theorem aeadSeals_lifted (os : Os) (started : os.Started) (H : Type) (enc : TypeId × Value → H) :
    ReturnsInHanded {} Tryd.checked os 4 .any (fun w args => (Rows.aeadSealsSpec.pre enc Tryd.prog Tryd.f4 [] false w args ∧ laidMetH Tryd.prog laidAeadSeals w) ∧ sizedMet enc Tryd.prog Tryd.f4 (OpenSpec.ofChange Rows.aeadSealsSpec) false w args)
      (Rows.aeadSealsSpec.post enc Tryd.prog Tryd.f4 false true false false) := by
  refine returnsInHanded_of_change_and (C := Tryd.checked) (X := fun w _ => laidMetH Tryd.prog laidAeadSeals w) (fun _ _ _ hh h => h.of_heap hh) ownKnobNone started (by kernel_rfl) Tryd.func4
    (ChangeSpec.witness_shaped (enc := enc) (C := Tryd.checked) (os := os) (X := fun w _ => laidMetH Tryd.prog laidAeadSeals w) false (World.laidAll Tryd.prog os laidAeadSeals) #[(.agg ((List.replicate 32 (Value.int .u8 0) ++ [Value.int .u32 0] ++ List.replicate 12 (Value.int .u8 0)).toArray) : Value), (.string ⟨⟨[]⟩⟩ : Value), (.string ⟨⟨[]⟩⟩ : Value)] 8 (World.laidAll_os _ _ _)
      (World.shaped_of_ZipB (by kernel_rfl) (by kernel_rfl)) (by kernel_rfl) (by kernel_rfl) (by kernel_rfl)
      (by rw [MakeChecks.laidMetH_plain _ _ _ (by kernel_rfl)]; exact laidMet_laidAll _ (by kernel_rfl) (by kernel_rfl))) ?_
  intro W base args ds gs before hval0 hW _ _ hL _
  have hval : ∀ (j : Nat) t v, Tryd.f4.params[j]? = some t → args[j]? = some v → Value.okWide Tryd.prog W .any base t v := hval0
  have hW' := hW
  obtain ⟨p, q, hA0, hV, rfl, _, _⟩ := hW
  have hA : DataW.TrodAll enc Tryd.prog W 0 (fun _ => true) true Tryd.f4.params.toList args.toList ds p := hA0
  rw [Tryd.params4] at hA hval
  obtain ⟨v0, v1, v2, d0, d1, d2, p0, p1, p2, rfl, rfl, rfl, h0, h1, h2⟩ := trodAll_three hA
  obtain ⟨rfl, rfl⟩ := trodVars_none hV
  obtain ⟨l0, hl0, rfl⟩ := arg_agg (f := 9) (z := [.arr .u8 32 (List.replicate 32 (0 : UInt8)), .c (.w32 0), .arr .u8 12 (List.replicate 12 (0 : UInt8))]) (by kernel_rfl) (by kernel_rfl) (hval 0 28 _ rfl rfl) h0
  obtain ⟨K0, q0, rfl, hK0, hKk0, y0, r0, rfl, ⟨c0, rfl⟩, N0, u0, rfl, hN0, hNk0, hu0⟩ := hl0
  obtain rfl : u0 = [] := hu0
  obtain ⟨s1, rfl, hs1⟩ := arg_str Tryd.underlying9 (hval 1 9 _ rfl rfl) h1
  obtain ⟨s2, rfl, hs2⟩ := arg_str Tryd.underlying9 (hval 2 9 _ rfl rfl) h2
  rw [List.append_nil] at hW'
  rw [MakeChecks.laidMetH_plain _ _ _ (by kernel_rfl)] at hL
  have hg0 : (HB.ro [.arr .u32 4 Cha.begin4]).Is W 1 := glob_is (f := 5) hL (.head _) (by kernel_rfl) (by kernel_rfl) (by kernel_rfl) (by first | exact ⟨rfl, trivial⟩ | exact trivial) (by decide)
  have hg1 : (HB.ro [.arr (.int .i64) 32 Cha.quartersL]).Is W 0 := glob_is (f := 5) hL (.tail _ (.head _)) (by kernel_rfl) (by kernel_rfl) (by kernel_rfl) (by first | exact ⟨rfl, trivial⟩ | exact trivial) (by decide)
  exact law_post (R := R) (args := [vplace K0 c0 N0, vs s1, vs s2]) (G := [gQuarters, gBegin4]) (seals_law K0 c0 N0 s1 s2 hK0 hN0 (by unfold maxLen at hs1; omega) (by unfold maxLen at hs2; omega)) rfl (by repeat (first | exact trivial | assumption | refine ⟨?_, ?_⟩)) (W := W) ⟨hg1, hg0, trivial⟩ laidOutP (by kernel_rfl) rfl (by kernel_rfl) Tryd.underlying4 rfl hW' (fun x hx => by simpa using hW'.lt x hx)
theorem aeadSeals_holds : Rows.AeadSealsSaid :=
  OpenClaim.holds_of_wide 4 Tryd.f4 rfl rfl rfl rfl rfl rfl rfl ⟨rfl, rfl, rfl, rfl, rfl⟩ rfl rfl rfl rfl rfl (by kernel_rfl) Tryd.func4 (by kernel_rfl)
    (of_decide_eq_true (by kernel_rfl)) (by unfold Func.isWrapper; first | (rw [if_pos (by decide +kernel)]; kernel_rfl) | (rw [if_neg (by decide +kernel)]; exact ⟨rfl, rfl⟩))
    (fun os started H enc _ => aeadSeals_lifted os started H enc)
/-- The tied card of AeadSeals. -/
theorem aeadSeals_card : Rows.AeadSealsCardSaid :=
  Claim7.holds_tied_plain_at .later [] [.widerDeep, .data] true (true, "3337613e3eac31265131e07e4b82d764f542ffed3036900e1beed8ee12770c8a") false aeadSeals_holds (fun _ h => by cases h) (by kernel_rfl) (fun _ h => by cases h) aeadSeals_row_tie rfl ⟨rfl, rfl⟩ (by kernel_rfl) rfl
    (fun f fn hf hfn => by
      obtain rfl : f = 4 := Option.some.inj ((show Tryd.prog.funcNamed "sealwax/sealwaxlaw05.AeadSeals" = some 4 by kernel_rfl).symm.trans hf) |>.symm
      obtain rfl : fn = Tryd.f4 := (Option.some.inj (Tryd.func4.symm.trans hfn)).symm
      exact ⟨by kernel_rfl, fun j t ht => by
        rw [Tryd.params4] at ht
        have hm : t ∈ [28, 9, 9] := by simpa using Array.mem_of_getElem? ht
        have hall : ([28, 9, 9].all fun u => !Tryd.prog.wantsStandIn u) = true := by kernel_rfl
        exact (show Tryd.prog.wantsStandIn t = false by simpa using List.all_eq_true.1 hall t hm)⟩)
    (by kernel_rfl)

noncomputable def laidAeadOpens : List (String × DataW Unit) := [("sealwax/stream.begin", Rows.laid_sealwax_stream_begin), ("sealwax/stream.quarters", Rows.laid_sealwax_stream_quarters)]
set_option maxRecDepth 100000 in
theorem aeadOpens_lifted (os : Os) (started : os.Started) (H : Type) (enc : TypeId × Value → H) :
    ReturnsInHanded {} Tryd.checked os 5 .any (fun w args => (Rows.aeadOpensSpec.pre enc Tryd.prog Tryd.f5 [] false w args ∧ laidMetH Tryd.prog laidAeadOpens w) ∧ sizedMet enc Tryd.prog Tryd.f5 (OpenSpec.ofChange Rows.aeadOpensSpec) false w args)
      (Rows.aeadOpensSpec.post enc Tryd.prog Tryd.f5 false true false false) := by
  refine returnsInHanded_of_change_and (C := Tryd.checked) (X := fun w _ => laidMetH Tryd.prog laidAeadOpens w) (fun _ _ _ hh h => h.of_heap hh) ownKnobNone started (by kernel_rfl) Tryd.func5
    (ChangeSpec.witness_shaped (enc := enc) (C := Tryd.checked) (os := os) (X := fun w _ => laidMetH Tryd.prog laidAeadOpens w) false (World.laidAll Tryd.prog os laidAeadOpens) #[(.agg ((List.replicate 32 (Value.int .u8 0) ++ [Value.int .u32 0] ++ List.replicate 12 (Value.int .u8 0)).toArray) : Value), (.string ⟨⟨[]⟩⟩ : Value), (.string ⟨⟨[]⟩⟩ : Value)] 8 (World.laidAll_os _ _ _)
      (World.shaped_of_ZipB (by kernel_rfl) (by kernel_rfl)) (by kernel_rfl) (by kernel_rfl) (by kernel_rfl)
      (by rw [MakeChecks.laidMetH_plain _ _ _ (by kernel_rfl)]; exact laidMet_laidAll _ (by kernel_rfl) (by kernel_rfl))) ?_
  intro W base args ds gs before hval0 hW _ _ hL _
  have hval : ∀ (j : Nat) t v, Tryd.f5.params[j]? = some t → args[j]? = some v → Value.okWide Tryd.prog W .any base t v := hval0
  have hW' := hW
  obtain ⟨p, q, hA0, hV, rfl, _, _⟩ := hW
  have hA : DataW.TrodAll enc Tryd.prog W 0 (fun _ => true) true Tryd.f5.params.toList args.toList ds p := hA0
  rw [Tryd.params5] at hA hval
  obtain ⟨v0, v1, v2, d0, d1, d2, p0, p1, p2, rfl, rfl, rfl, h0, h1, h2⟩ := trodAll_three hA
  obtain ⟨rfl, rfl⟩ := trodVars_none hV
  obtain ⟨l0, hl0, rfl⟩ := arg_agg (f := 9) (z := [.arr .u8 32 (List.replicate 32 (0 : UInt8)), .c (.w32 0), .arr .u8 12 (List.replicate 12 (0 : UInt8))]) (by kernel_rfl) (by kernel_rfl) (hval 0 28 _ rfl rfl) h0
  obtain ⟨K0, q0, rfl, hK0, hKk0, y0, r0, rfl, ⟨c0, rfl⟩, N0, u0, rfl, hN0, hNk0, hu0⟩ := hl0
  obtain rfl : u0 = [] := hu0
  obtain ⟨s1, rfl, hs1⟩ := arg_str Tryd.underlying9 (hval 1 9 _ rfl rfl) h1
  obtain ⟨s2, rfl, hs2⟩ := arg_str Tryd.underlying9 (hval 2 9 _ rfl rfl) h2
  rw [List.append_nil] at hW'
  rw [MakeChecks.laidMetH_plain _ _ _ (by kernel_rfl)] at hL
  have hg0 : (HB.ro [.arr .u32 4 Cha.begin4]).Is W 1 := glob_is (f := 5) hL (.head _) (by kernel_rfl) (by kernel_rfl) (by kernel_rfl) (by first | exact ⟨rfl, trivial⟩ | exact trivial) (by decide)
  have hg1 : (HB.ro [.arr (.int .i64) 32 Cha.quartersL]).Is W 0 := glob_is (f := 5) hL (.tail _ (.head _)) (by kernel_rfl) (by kernel_rfl) (by kernel_rfl) (by first | exact ⟨rfl, trivial⟩ | exact trivial) (by decide)
  exact law_post (R := R) (args := [vplace K0 c0 N0, vs s1, vs s2]) (G := [gQuarters, gBegin4]) (opens_law K0 c0 N0 s1 s2 hK0 hN0 (by unfold maxLen at hs1; omega) (by unfold maxLen at hs2; omega)) rfl (by repeat (first | exact trivial | assumption | refine ⟨?_, ?_⟩)) (W := W) ⟨hg1, hg0, trivial⟩ laidOutP (by kernel_rfl) rfl (by kernel_rfl) Tryd.underlying4 rfl hW' (fun x hx => by simpa using hW'.lt x hx)
theorem aeadOpens_holds : Rows.AeadOpensSaid :=
  OpenClaim.holds_of_wide 5 Tryd.f5 rfl rfl rfl rfl rfl rfl rfl ⟨rfl, rfl, rfl, rfl, rfl⟩ rfl rfl rfl rfl rfl (by kernel_rfl) Tryd.func5 (by kernel_rfl)
    (of_decide_eq_true (by kernel_rfl)) (by unfold Func.isWrapper; first | (rw [if_pos (by decide +kernel)]; kernel_rfl) | (rw [if_neg (by decide +kernel)]; exact ⟨rfl, rfl⟩))
    (fun os started H enc _ => aeadOpens_lifted os started H enc)
/-- The tied card of AeadOpens. -/
theorem aeadOpens_card : Rows.AeadOpensCardSaid :=
  Claim7.holds_tied_plain_at .later [] [.widerDeep, .data] true (true, "3337613e3eac31265131e07e4b82d764f542ffed3036900e1beed8ee12770c8a") false aeadOpens_holds (fun _ h => by cases h) (by kernel_rfl) (fun _ h => by cases h) aeadOpens_row_tie rfl ⟨rfl, rfl⟩ (by kernel_rfl) rfl
    (fun f fn hf hfn => by
      obtain rfl : f = 5 := Option.some.inj ((show Tryd.prog.funcNamed "sealwax/sealwaxlaw05.AeadOpens" = some 5 by kernel_rfl).symm.trans hf) |>.symm
      obtain rfl : fn = Tryd.f5 := (Option.some.inj (Tryd.func5.symm.trans hfn)).symm
      exact ⟨by kernel_rfl, fun j t ht => by
        rw [Tryd.params5] at ht
        have hm : t ∈ [28, 9, 9] := by simpa using Array.mem_of_getElem? ht
        have hall : ([28, 9, 9].all fun u => !Tryd.prog.wantsStandIn u) = true := by kernel_rfl
        exact (show Tryd.prog.wantsStandIn t = false by simpa using List.all_eq_true.1 hall t hm)⟩)
    (by kernel_rfl)

noncomputable def laidAeadTurned : List (String × DataW Unit) := [("sealwax/stream.begin", Rows.laid_sealwax_stream_begin), ("sealwax/stream.quarters", Rows.laid_sealwax_stream_quarters)]
set_option maxRecDepth 100000 in
theorem aeadTurned_lifted (os : Os) (started : os.Started) (H : Type) (enc : TypeId × Value → H) :
    ReturnsInHanded {} Tryd.checked os 6 .any (fun w args => (Rows.aeadTurnedSpec.pre enc Tryd.prog Tryd.f6 [] false w args ∧ laidMetH Tryd.prog laidAeadTurned w) ∧ sizedMet enc Tryd.prog Tryd.f6 (OpenSpec.ofChange Rows.aeadTurnedSpec) false w args)
      (Rows.aeadTurnedSpec.post enc Tryd.prog Tryd.f6 false true false false) := by
  refine returnsInHanded_of_change_and (C := Tryd.checked) (X := fun w _ => laidMetH Tryd.prog laidAeadTurned w) (fun _ _ _ hh h => h.of_heap hh) ownKnobNone started (by kernel_rfl) Tryd.func6
    (ChangeSpec.witness_shaped (enc := enc) (C := Tryd.checked) (os := os) (X := fun w _ => laidMetH Tryd.prog laidAeadTurned w) false (World.laidAll Tryd.prog os laidAeadTurned) #[(.agg ((List.replicate 32 (Value.int .u8 0) ++ [Value.int .u32 0] ++ List.replicate 12 (Value.int .u8 0)).toArray) : Value), (.string ⟨⟨[]⟩⟩ : Value), (.int .i64 0 : Value)] 8 (World.laidAll_os _ _ _)
      (World.shaped_of_ZipB (by kernel_rfl) (by kernel_rfl)) (by kernel_rfl) (by kernel_rfl) (by kernel_rfl)
      (by rw [MakeChecks.laidMetH_plain _ _ _ (by kernel_rfl)]; exact laidMet_laidAll _ (by kernel_rfl) (by kernel_rfl))) ?_
  intro W base args ds gs before hval0 hW _ _ hL _
  have hval : ∀ (j : Nat) t v, Tryd.f6.params[j]? = some t → args[j]? = some v → Value.okWide Tryd.prog W .any base t v := hval0
  have hW' := hW
  obtain ⟨p, q, hA0, hV, rfl, _, _⟩ := hW
  have hA : DataW.TrodAll enc Tryd.prog W 0 (fun _ => true) true Tryd.f6.params.toList args.toList ds p := hA0
  rw [Tryd.params6] at hA hval
  obtain ⟨v0, v1, v2, d0, d1, d2, p0, p1, p2, rfl, rfl, rfl, h0, h1, h2⟩ := trodAll_three hA
  obtain ⟨rfl, rfl⟩ := trodVars_none hV
  obtain ⟨l0, hl0, rfl⟩ := arg_agg (f := 9) (z := [.arr .u8 32 (List.replicate 32 (0 : UInt8)), .c (.w32 0), .arr .u8 12 (List.replicate 12 (0 : UInt8))]) (by kernel_rfl) (by kernel_rfl) (hval 0 28 _ rfl rfl) h0
  obtain ⟨K0, q0, rfl, hK0, hKk0, y0, r0, rfl, ⟨c0, rfl⟩, N0, u0, rfl, hN0, hNk0, hu0⟩ := hl0
  obtain rfl : u0 = [] := hu0
  obtain ⟨s1, rfl, hs1⟩ := arg_str Tryd.underlying9 (hval 1 9 _ rfl rfl) h1
  obtain ⟨n2, rfl, hn2a, hn2b⟩ := arg_i64 Tryd.underlying3 (hval 2 3 _ rfl rfl)
  rw [List.append_nil] at hW'
  rw [MakeChecks.laidMetH_plain _ _ _ (by kernel_rfl)] at hL
  have hg0 : (HB.ro [.arr .u32 4 Cha.begin4]).Is W 1 := glob_is (f := 5) hL (.head _) (by kernel_rfl) (by kernel_rfl) (by kernel_rfl) (by first | exact ⟨rfl, trivial⟩ | exact trivial) (by decide)
  have hg1 : (HB.ro [.arr (.int .i64) 32 Cha.quartersL]).Is W 0 := glob_is (f := 5) hL (.tail _ (.head _)) (by kernel_rfl) (by kernel_rfl) (by kernel_rfl) (by first | exact ⟨rfl, trivial⟩ | exact trivial) (by decide)
  exact law_post (R := R) (args := [vplace K0 c0 N0, vs s1, vi n2]) (G := [gQuarters, gBegin4]) (turned_law K0 c0 N0 s1 n2 hK0 hN0 (by unfold maxLen at hs1; omega)) rfl (by repeat (first | exact trivial | assumption | refine ⟨?_, ?_⟩)) (W := W) ⟨hg1, hg0, trivial⟩ laidOutP (by kernel_rfl) rfl (by kernel_rfl) Tryd.underlying4 rfl hW' (fun x hx => by simpa using hW'.lt x hx)
theorem aeadTurned_holds : Rows.AeadTurnedSaid :=
  OpenClaim.holds_of_wide 6 Tryd.f6 rfl rfl rfl rfl rfl rfl rfl ⟨rfl, rfl, rfl, rfl, rfl⟩ rfl rfl rfl rfl rfl (by kernel_rfl) Tryd.func6 (by kernel_rfl)
    (of_decide_eq_true (by kernel_rfl)) (by unfold Func.isWrapper; first | (rw [if_pos (by decide +kernel)]; kernel_rfl) | (rw [if_neg (by decide +kernel)]; exact ⟨rfl, rfl⟩))
    (fun os started H enc _ => aeadTurned_lifted os started H enc)
/-- The tied card of AeadTurned. -/
theorem aeadTurned_card : Rows.AeadTurnedCardSaid :=
  Claim7.holds_tied_plain_at .later [] [.widerDeep, .data] true (true, "3337613e3eac31265131e07e4b82d764f542ffed3036900e1beed8ee12770c8a") false aeadTurned_holds (fun _ h => by cases h) (by kernel_rfl) (fun _ h => by cases h) aeadTurned_row_tie rfl ⟨rfl, rfl⟩ (by kernel_rfl) rfl
    (fun f fn hf hfn => by
      obtain rfl : f = 6 := Option.some.inj ((show Tryd.prog.funcNamed "sealwax/sealwaxlaw05.AeadTurned" = some 6 by kernel_rfl).symm.trans hf) |>.symm
      obtain rfl : fn = Tryd.f6 := (Option.some.inj (Tryd.func6.symm.trans hfn)).symm
      exact ⟨by kernel_rfl, fun j t ht => by
        rw [Tryd.params6] at ht
        have hm : t ∈ [28, 9, 3] := by simpa using Array.mem_of_getElem? ht
        have hall : ([28, 9, 3].all fun u => !Tryd.prog.wantsStandIn u) = true := by kernel_rfl
        exact (show Tryd.prog.wantsStandIn t = false by simpa using List.all_eq_true.1 hall t hm)⟩)
    (by kernel_rfl)

noncomputable def laidAeadShort : List (String × DataW Unit) := [("sealwax/stream.begin", Rows.laid_sealwax_stream_begin), ("sealwax/stream.quarters", Rows.laid_sealwax_stream_quarters)]
set_option maxRecDepth 100000 in
theorem aeadShort_lifted (os : Os) (started : os.Started) (H : Type) (enc : TypeId × Value → H) :
    ReturnsInHanded {} Tryd.checked os 7 .any (fun w args => (Rows.aeadShortSpec.pre enc Tryd.prog Tryd.f7 [] false w args ∧ laidMetH Tryd.prog laidAeadShort w) ∧ sizedMet enc Tryd.prog Tryd.f7 (OpenSpec.ofChange Rows.aeadShortSpec) false w args)
      (Rows.aeadShortSpec.post enc Tryd.prog Tryd.f7 false true false false) := by
  refine returnsInHanded_of_change_and (C := Tryd.checked) (X := fun w _ => laidMetH Tryd.prog laidAeadShort w) (fun _ _ _ hh h => h.of_heap hh) ownKnobNone started (by kernel_rfl) Tryd.func7
    (ChangeSpec.witness_shaped (enc := enc) (C := Tryd.checked) (os := os) (X := fun w _ => laidMetH Tryd.prog laidAeadShort w) false (World.laidAll Tryd.prog os laidAeadShort) #[(.agg ((List.replicate 32 (Value.int .u8 0) ++ [Value.int .u32 0] ++ List.replicate 12 (Value.int .u8 0)).toArray) : Value), (.string ⟨⟨[]⟩⟩ : Value), (.string ⟨⟨[]⟩⟩ : Value)] 8 (World.laidAll_os _ _ _)
      (World.shaped_of_ZipB (by kernel_rfl) (by kernel_rfl)) (by kernel_rfl) (by kernel_rfl) (by kernel_rfl)
      (by rw [MakeChecks.laidMetH_plain _ _ _ (by kernel_rfl)]; exact laidMet_laidAll _ (by kernel_rfl) (by kernel_rfl))) ?_
  intro W base args ds gs before hval0 hW _ _ hL _
  have hval : ∀ (j : Nat) t v, Tryd.f7.params[j]? = some t → args[j]? = some v → Value.okWide Tryd.prog W .any base t v := hval0
  have hW' := hW
  obtain ⟨p, q, hA0, hV, rfl, _, _⟩ := hW
  have hA : DataW.TrodAll enc Tryd.prog W 0 (fun _ => true) true Tryd.f7.params.toList args.toList ds p := hA0
  rw [Tryd.params7] at hA hval
  obtain ⟨v0, v1, v2, d0, d1, d2, p0, p1, p2, rfl, rfl, rfl, h0, h1, h2⟩ := trodAll_three hA
  obtain ⟨rfl, rfl⟩ := trodVars_none hV
  obtain ⟨l0, hl0, rfl⟩ := arg_agg (f := 9) (z := [.arr .u8 32 (List.replicate 32 (0 : UInt8)), .c (.w32 0), .arr .u8 12 (List.replicate 12 (0 : UInt8))]) (by kernel_rfl) (by kernel_rfl) (hval 0 28 _ rfl rfl) h0
  obtain ⟨K0, q0, rfl, hK0, hKk0, y0, r0, rfl, ⟨c0, rfl⟩, N0, u0, rfl, hN0, hNk0, hu0⟩ := hl0
  obtain rfl : u0 = [] := hu0
  obtain ⟨s1, rfl, hs1⟩ := arg_str Tryd.underlying9 (hval 1 9 _ rfl rfl) h1
  obtain ⟨s2, rfl, hs2⟩ := arg_str Tryd.underlying9 (hval 2 9 _ rfl rfl) h2
  rw [List.append_nil] at hW'
  rw [MakeChecks.laidMetH_plain _ _ _ (by kernel_rfl)] at hL
  have hg0 : (HB.ro [.arr .u32 4 Cha.begin4]).Is W 1 := glob_is (f := 5) hL (.head _) (by kernel_rfl) (by kernel_rfl) (by kernel_rfl) (by first | exact ⟨rfl, trivial⟩ | exact trivial) (by decide)
  have hg1 : (HB.ro [.arr (.int .i64) 32 Cha.quartersL]).Is W 0 := glob_is (f := 5) hL (.tail _ (.head _)) (by kernel_rfl) (by kernel_rfl) (by kernel_rfl) (by first | exact ⟨rfl, trivial⟩ | exact trivial) (by decide)
  exact law_post (R := R) (args := [vplace K0 c0 N0, vs s1, vs s2]) (G := [gQuarters, gBegin4]) (short_law K0 c0 N0 s1 s2 hK0 hN0 (by unfold maxLen at hs1; omega) (by unfold maxLen at hs2; omega)) rfl (by repeat (first | exact trivial | assumption | refine ⟨?_, ?_⟩)) (W := W) ⟨hg1, hg0, trivial⟩ laidOutP (by kernel_rfl) rfl (by kernel_rfl) Tryd.underlying4 rfl hW' (fun x hx => by simpa using hW'.lt x hx)
theorem aeadShort_holds : Rows.AeadShortSaid :=
  OpenClaim.holds_of_wide 7 Tryd.f7 rfl rfl rfl rfl rfl rfl rfl ⟨rfl, rfl, rfl, rfl, rfl⟩ rfl rfl rfl rfl rfl (by kernel_rfl) Tryd.func7 (by kernel_rfl)
    (of_decide_eq_true (by kernel_rfl)) (by unfold Func.isWrapper; first | (rw [if_pos (by decide +kernel)]; kernel_rfl) | (rw [if_neg (by decide +kernel)]; exact ⟨rfl, rfl⟩))
    (fun os started H enc _ => aeadShort_lifted os started H enc)
/-- The tied card of AeadShort. -/
theorem aeadShort_card : Rows.AeadShortCardSaid :=
  Claim7.holds_tied_plain_at .later [] [.widerDeep, .data] true (true, "3337613e3eac31265131e07e4b82d764f542ffed3036900e1beed8ee12770c8a") false aeadShort_holds (fun _ h => by cases h) (by kernel_rfl) (fun _ h => by cases h) aeadShort_row_tie rfl ⟨rfl, rfl⟩ (by kernel_rfl) rfl
    (fun f fn hf hfn => by
      obtain rfl : f = 7 := Option.some.inj ((show Tryd.prog.funcNamed "sealwax/sealwaxlaw05.AeadShort" = some 7 by kernel_rfl).symm.trans hf) |>.symm
      obtain rfl : fn = Tryd.f7 := (Option.some.inj (Tryd.func7.symm.trans hfn)).symm
      exact ⟨by kernel_rfl, fun j t ht => by
        rw [Tryd.params7] at ht
        have hm : t ∈ [28, 9, 9] := by simpa using Array.mem_of_getElem? ht
        have hall : ([28, 9, 9].all fun u => !Tryd.prog.wantsStandIn u) = true := by kernel_rfl
        exact (show Tryd.prog.wantsStandIn t = false by simpa using List.all_eq_true.1 hall t hm)⟩)
    (by kernel_rfl)

#print axioms aeadParts_card
#print axioms aeadSeals_card
#print axioms aeadOpens_card
#print axioms aeadTurned_card
#print axioms aeadShort_card
end Go.Proofs.YtjanfjfccodebaaDoor
