/- Each of these laws returns true, whatever its arguments, and each argument reads as it did. Conditions: the listed variables read as the program lays them (tied by the card). -/
import Derived.Test.YtlnndodcicjhpaaDoorWD
import Derived.Test.YtlnndodcicjhpaaDoorSy3
import Derived.Test.YtlnndodcicjhpaaDoorRows
import Derived.Test.YtlnndodcicjhpaaDoorCards
import Derived.Test.YtlnndodcicjhpaaDoorTie
import Derived.ChangeSame
import Derived.ChangeVars
import Derived.JoinedOf
import Derived.RowKit
import Derived.WalkKit
import Derived.ProofKit
import Derived.LaidHandle
import Derived.Lay
import Derived.SevenTiedAt
set_option linter.unusedVariables false
set_option linter.unusedSimpArgs false
set_option maxRecDepth 100000
namespace Go.Proofs.YtlnndodcicjhpaaDoor
open Go Go.SY Go.ChangeShapes Go.WideShapes Go.ChangeAt Go.RowKit
theorem ownKnobNone : ownKnob Tryd.prog.godebug = none := by kernel_rfl
theorem laidOutP : laidOutB Tryd.prog = true := by kernel_rfl

noncomputable def laidShaSums : List (String × DataW Unit) := [("sealwax/sha.begin", Rows.laid_sealwax_sha_begin), ("sealwax/sha.round", Rows.laid_sealwax_sha_round)]
set_option maxRecDepth 100000 in
theorem shaSums_lifted (os : Os) (started : os.Started) (H : Type) (enc : TypeId × Value → H) :
    ReturnsInHanded {} Tryd.checked os 3 .any (fun w args => (Rows.shaSumsSpec.pre enc Tryd.prog Tryd.f3 [] false w args ∧ laidMetH Tryd.prog laidShaSums w) ∧ sizedMet enc Tryd.prog Tryd.f3 (OpenSpec.ofChange Rows.shaSumsSpec) false w args)
      (Rows.shaSumsSpec.post enc Tryd.prog Tryd.f3 false true false false) := by
  refine returnsInHanded_of_change_and (C := Tryd.checked) (X := fun w _ => laidMetH Tryd.prog laidShaSums w) (fun _ _ _ hh h => h.of_heap hh) ownKnobNone started (by kernel_rfl) Tryd.func3
    (ChangeSpec.witness_shaped (enc := enc) (C := Tryd.checked) (os := os) (X := fun w _ => laidMetH Tryd.prog laidShaSums w) false (World.laidAll Tryd.prog os laidShaSums) #[(.slice none 0 0 : Value)] 8 (World.laidAll_os _ _ _)
      (World.shaped_of_ZipB (by kernel_rfl) (by kernel_rfl)) (by kernel_rfl) (by kernel_rfl) (by kernel_rfl)
      (by rw [MakeChecks.laidMetH_plain _ _ _ (by kernel_rfl)]; exact laidMet_laidAll _ (by kernel_rfl) (by kernel_rfl))) ?_
  intro W base args ds gs before hval0 hW _ _ hL _
  have hval : ∀ (j : Nat) t v, Tryd.f3.params[j]? = some t → args[j]? = some v → Value.okWide Tryd.prog W .any base t v := hval0
  have hW' := hW
  obtain ⟨p, q, hA0, hV, rfl, _, _⟩ := hW
  have hA : DataW.TrodAll enc Tryd.prog W 0 (fun _ => true) true Tryd.f3.params.toList args.toList ds p := hA0
  rw [Tryd.params3] at hA hval
  obtain ⟨v0, d0, rfl, rfl, h0⟩ := trodAll_one hA
  obtain ⟨rfl, rfl⟩ := trodVars_none hV
  obtain ⟨x0, L0, rfl, hI0, hQ0, hl0⟩ := arg_scalars (s := .str) (c := .str []) (f := 3) Tryd.underlying22 (by kernel_rfl) rfl (by kernel_rfl) (hval 0 22 _ rfl rfl) h0
  rw [List.append_nil] at hW'
  rw [MakeChecks.laidMetH_plain _ _ _ (by kernel_rfl)] at hL
  have hg0 : (HB.ro [.arr .u32 8 Sha.begin8]).Is W 0 := glob_is (f := 5) hL (.head _) (by kernel_rfl) (by kernel_rfl) (by kernel_rfl) (by first | exact ⟨rfl, trivial⟩ | exact trivial) (by decide)
  have hg1 : (HB.ro [.arr .u32 64 Sha.round64]).Is W 1 := glob_is (f := 5) hL (.tail _ (.head _)) (by kernel_rfl) (by kernel_rfl) (by kernel_rfl) (by first | exact ⟨rfl, trivial⟩ | exact trivial) (by decide)
  exact law_post (R := R) (args := [vl 0 x0]) (G := [(0, x0.blk, .view (.sc (.str)) x0 L0), gBegin, gRound]) (sums_law x0 L0 (by unfold maxLen at hl0; omega)) rfl (by repeat (first | exact trivial | assumption | refine ⟨?_, ?_⟩)) (W := W) ⟨hI0, hg0, hg1, trivial⟩ laidOutP (by kernel_rfl) rfl (by kernel_rfl) Tryd.underlying4 rfl hW' (fun x hx => by simpa using hW'.lt x hx)
theorem shaSums_holds : Rows.ShaSumsSaid :=
  OpenClaim.holds_of_wide 3 Tryd.f3 rfl rfl rfl rfl rfl rfl rfl ⟨rfl, rfl, rfl, rfl, rfl⟩ rfl rfl rfl rfl rfl (by kernel_rfl) Tryd.func3 (by kernel_rfl)
    (of_decide_eq_true (by kernel_rfl)) (by unfold Func.isWrapper; first | (rw [if_pos (by decide +kernel)]; kernel_rfl) | (rw [if_neg (by decide +kernel)]; exact ⟨rfl, rfl⟩))
    (fun os started H enc _ => shaSums_lifted os started H enc)
/-- The tied card of ShaSums. -/
theorem shaSums_card : Rows.ShaSumsCardSaid :=
  Claim7.holds_tied_plain_at .later [] [.data, .data] true (true, "2a5479a4d666863295e97befda6d6633255ebde8552f5893bb18586916e93e22") false shaSums_holds (fun _ h => by cases h) (by kernel_rfl) (fun _ h => by cases h) shaSums_row_tie rfl ⟨rfl, rfl⟩ (by kernel_rfl) rfl
    (fun f fn hf hfn => by
      obtain rfl : f = 3 := Option.some.inj ((show Tryd.prog.funcNamed "sealwax/sealwaxlaw01.ShaSums" = some 3 by kernel_rfl).symm.trans hf) |>.symm
      obtain rfl : fn = Tryd.f3 := (Option.some.inj (Tryd.func3.symm.trans hfn)).symm
      exact ⟨by kernel_rfl, fun j t ht => by
        rw [Tryd.params3] at ht
        have hm : t ∈ [22] := by simpa using Array.mem_of_getElem? ht
        have hall : ([22].all fun u => !Tryd.prog.wantsStandIn u) = true := by kernel_rfl
        exact (show Tryd.prog.wantsStandIn t = false by simpa using List.all_eq_true.1 hall t hm)⟩)
    (by kernel_rfl)

noncomputable def laidShaLengths : List (String × DataW Unit) := [("sealwax/sha.begin", Rows.laid_sealwax_sha_begin), ("sealwax/sha.round", Rows.laid_sealwax_sha_round)]
set_option maxRecDepth 100000 in
theorem shaLengths_lifted (os : Os) (started : os.Started) (H : Type) (enc : TypeId × Value → H) :
    ReturnsInHanded {} Tryd.checked os 4 .any (fun w args => (Rows.shaLengthsSpec.pre enc Tryd.prog Tryd.f4 [] false w args ∧ laidMetH Tryd.prog laidShaLengths w) ∧ sizedMet enc Tryd.prog Tryd.f4 (OpenSpec.ofChange Rows.shaLengthsSpec) false w args)
      (Rows.shaLengthsSpec.post enc Tryd.prog Tryd.f4 false true false false) := by
  refine returnsInHanded_of_change_and (C := Tryd.checked) (X := fun w _ => laidMetH Tryd.prog laidShaLengths w) (fun _ _ _ hh h => h.of_heap hh) ownKnobNone started (by kernel_rfl) Tryd.func4
    (ChangeSpec.witness_shaped (enc := enc) (C := Tryd.checked) (os := os) (X := fun w _ => laidMetH Tryd.prog laidShaLengths w) false (World.laidAll Tryd.prog os laidShaLengths) #[(.int .i64 0 : Value), (.int .u8 0 : Value)] 8 (World.laidAll_os _ _ _)
      (World.shaped_of_ZipB (by kernel_rfl) (by kernel_rfl)) (by kernel_rfl) (by kernel_rfl) (by kernel_rfl)
      (by rw [MakeChecks.laidMetH_plain _ _ _ (by kernel_rfl)]; exact laidMet_laidAll _ (by kernel_rfl) (by kernel_rfl))) ?_
  intro W base args ds gs before hval0 hW _ _ hL _
  have hval : ∀ (j : Nat) t v, Tryd.f4.params[j]? = some t → args[j]? = some v → Value.okWide Tryd.prog W .any base t v := hval0
  have hW' := hW
  obtain ⟨p, q, hA0, hV, rfl, _, _⟩ := hW
  have hA : DataW.TrodAll enc Tryd.prog W 0 (fun _ => true) true Tryd.f4.params.toList args.toList ds p := hA0
  rw [Tryd.params4] at hA hval
  obtain ⟨v0, v1, d0, d1, p0, p1, rfl, rfl, rfl, h0, h1⟩ := trodAll_two hA
  obtain ⟨rfl, rfl⟩ := trodVars_none hV
  obtain ⟨n0, rfl, hn0a, hn0b⟩ := arg_i64 Tryd.underlying3 (hval 0 3 _ rfl rfl)
  obtain ⟨n1, rfl⟩ := arg_u8 Tryd.underlying5 (hval 1 5 _ rfl rfl)
  rw [List.append_nil] at hW'
  rw [MakeChecks.laidMetH_plain _ _ _ (by kernel_rfl)] at hL
  have hg0 : (HB.ro [.arr .u32 8 Sha.begin8]).Is W 0 := glob_is (f := 5) hL (.head _) (by kernel_rfl) (by kernel_rfl) (by kernel_rfl) (by first | exact ⟨rfl, trivial⟩ | exact trivial) (by decide)
  have hg1 : (HB.ro [.arr .u32 64 Sha.round64]).Is W 1 := glob_is (f := 5) hL (.tail _ (.head _)) (by kernel_rfl) (by kernel_rfl) (by kernel_rfl) (by first | exact ⟨rfl, trivial⟩ | exact trivial) (by decide)
  exact law_post (R := R) (args := [vi n0, v8 n1]) (G := [gBegin, gRound]) (lengths_law n0 n1) rfl (by repeat (first | exact trivial | assumption | refine ⟨?_, ?_⟩)) (W := W) ⟨hg0, hg1, trivial⟩ laidOutP (by kernel_rfl) rfl (by kernel_rfl) Tryd.underlying4 rfl hW' (fun x hx => by simpa using hW'.lt x hx)
theorem shaLengths_holds : Rows.ShaLengthsSaid :=
  OpenClaim.holds_of_wide 4 Tryd.f4 rfl rfl rfl rfl rfl rfl rfl ⟨rfl, rfl, rfl, rfl, rfl⟩ rfl rfl rfl rfl rfl (by kernel_rfl) Tryd.func4 (by kernel_rfl)
    (of_decide_eq_true (by kernel_rfl)) (by unfold Func.isWrapper; first | (rw [if_pos (by decide +kernel)]; kernel_rfl) | (rw [if_neg (by decide +kernel)]; exact ⟨rfl, rfl⟩))
    (fun os started H enc _ => shaLengths_lifted os started H enc)
/-- The tied card of ShaLengths. -/
theorem shaLengths_card : Rows.ShaLengthsCardSaid :=
  Claim7.holds_tied_plain_at .later [] [.data, .data] true (true, "2a5479a4d666863295e97befda6d6633255ebde8552f5893bb18586916e93e22") false shaLengths_holds (fun _ h => by cases h) (by kernel_rfl) (fun _ h => by cases h) shaLengths_row_tie rfl ⟨rfl, rfl⟩ (by kernel_rfl) rfl
    (fun f fn hf hfn => by
      obtain rfl : f = 4 := Option.some.inj ((show Tryd.prog.funcNamed "sealwax/sealwaxlaw01.ShaLengths" = some 4 by kernel_rfl).symm.trans hf) |>.symm
      obtain rfl : fn = Tryd.f4 := (Option.some.inj (Tryd.func4.symm.trans hfn)).symm
      exact ⟨by kernel_rfl, fun j t ht => by
        rw [Tryd.params4] at ht
        have hm : t ∈ [3, 5] := by simpa using Array.mem_of_getElem? ht
        have hall : ([3, 5].all fun u => !Tryd.prog.wantsStandIn u) = true := by kernel_rfl
        exact (show Tryd.prog.wantsStandIn t = false by simpa using List.all_eq_true.1 hall t hm)⟩)
    (by kernel_rfl)

noncomputable def laidShaHexes : List (String × DataW Unit) := [("sealwax/sha.begin", Rows.laid_sealwax_sha_begin), ("sealwax/sha.round", Rows.laid_sealwax_sha_round)]
set_option maxRecDepth 100000 in
theorem shaHexes_lifted (os : Os) (started : os.Started) (H : Type) (enc : TypeId × Value → H) :
    ReturnsInHanded {} Tryd.checked os 5 .any (fun w args => (Rows.shaHexesSpec.pre enc Tryd.prog Tryd.f5 [] false w args ∧ laidMetH Tryd.prog laidShaHexes w) ∧ sizedMet enc Tryd.prog Tryd.f5 (OpenSpec.ofChange Rows.shaHexesSpec) false w args)
      (Rows.shaHexesSpec.post enc Tryd.prog Tryd.f5 false true false false) := by
  refine returnsInHanded_of_change_and (C := Tryd.checked) (X := fun w _ => laidMetH Tryd.prog laidShaHexes w) (fun _ _ _ hh h => h.of_heap hh) ownKnobNone started (by kernel_rfl) Tryd.func5
    (ChangeSpec.witness_shaped (enc := enc) (C := Tryd.checked) (os := os) (X := fun w _ => laidMetH Tryd.prog laidShaHexes w) false (World.laidAll Tryd.prog os laidShaHexes) #[(.agg (List.replicate 32 (Value.int .u8 0)).toArray : Value)] 8 (World.laidAll_os _ _ _)
      (World.shaped_of_ZipB (by kernel_rfl) (by kernel_rfl)) (by kernel_rfl) (by kernel_rfl) (by kernel_rfl)
      (by rw [MakeChecks.laidMetH_plain _ _ _ (by kernel_rfl)]; exact laidMet_laidAll _ (by kernel_rfl) (by kernel_rfl))) ?_
  intro W base args ds gs before hval0 hW _ _ hL _
  have hval : ∀ (j : Nat) t v, Tryd.f5.params[j]? = some t → args[j]? = some v → Value.okWide Tryd.prog W .any base t v := hval0
  have hW' := hW
  obtain ⟨p, q, hA0, hV, rfl, _, _⟩ := hW
  have hA : DataW.TrodAll enc Tryd.prog W 0 (fun _ => true) true Tryd.f5.params.toList args.toList ds p := hA0
  rw [Tryd.params5] at hA hval
  obtain ⟨v0, d0, rfl, rfl, h0⟩ := trodAll_one hA
  obtain ⟨rfl, rfl⟩ := trodVars_none hV
  obtain ⟨l0, hl0, rfl⟩ := arg_agg (f := 5) (z := [.arr .u8 32 (List.replicate 32 (0 : UInt8))]) (by kernel_rfl) (by kernel_rfl) (hval 0 26 _ rfl rfl) h0
  obtain ⟨L0, q0, rfl, ha0, hk0, hq0⟩ := hl0
  obtain rfl : q0 = [] := hq0
  rw [List.append_nil] at hW'
  rw [MakeChecks.laidMetH_plain _ _ _ (by kernel_rfl)] at hL
  have hg0 : (HB.ro [.arr .u32 8 Sha.begin8]).Is W 0 := glob_is (f := 5) hL (.head _) (by kernel_rfl) (by kernel_rfl) (by kernel_rfl) (by first | exact ⟨rfl, trivial⟩ | exact trivial) (by decide)
  have hg1 : (HB.ro [.arr .u32 64 Sha.round64]).Is W 1 := glob_is (f := 5) hL (.tail _ (.head _)) (by kernel_rfl) (by kernel_rfl) (by kernel_rfl) (by first | exact ⟨rfl, trivial⟩ | exact trivial) (by decide)
  exact law_post (R := R) (args := [va [.arr .u8 32 L0]]) (G := [gBegin, gRound]) (hexes_law L0 ha0) rfl (by repeat (first | exact trivial | assumption | refine ⟨?_, ?_⟩)) (W := W) ⟨hg0, hg1, trivial⟩ laidOutP (by kernel_rfl) rfl (by kernel_rfl) Tryd.underlying4 rfl hW' (fun x hx => by simpa using hW'.lt x hx)
theorem shaHexes_holds : Rows.ShaHexesSaid :=
  OpenClaim.holds_of_wide 5 Tryd.f5 rfl rfl rfl rfl rfl rfl rfl ⟨rfl, rfl, rfl, rfl, rfl⟩ rfl rfl rfl rfl rfl (by kernel_rfl) Tryd.func5 (by kernel_rfl)
    (of_decide_eq_true (by kernel_rfl)) (by unfold Func.isWrapper; first | (rw [if_pos (by decide +kernel)]; kernel_rfl) | (rw [if_neg (by decide +kernel)]; exact ⟨rfl, rfl⟩))
    (fun os started H enc _ => shaHexes_lifted os started H enc)
/-- The tied card of ShaHexes. -/
theorem shaHexes_card : Rows.ShaHexesCardSaid :=
  Claim7.holds_tied_plain_at .later [] [.data, .data] true (true, "2a5479a4d666863295e97befda6d6633255ebde8552f5893bb18586916e93e22") false shaHexes_holds (fun _ h => by cases h) (by kernel_rfl) (fun _ h => by cases h) shaHexes_row_tie rfl ⟨rfl, rfl⟩ (by kernel_rfl) rfl
    (fun f fn hf hfn => by
      obtain rfl : f = 5 := Option.some.inj ((show Tryd.prog.funcNamed "sealwax/sealwaxlaw01.ShaHexes" = some 5 by kernel_rfl).symm.trans hf) |>.symm
      obtain rfl : fn = Tryd.f5 := (Option.some.inj (Tryd.func5.symm.trans hfn)).symm
      exact ⟨by kernel_rfl, fun j t ht => by
        rw [Tryd.params5] at ht
        have hm : t ∈ [26] := by simpa using Array.mem_of_getElem? ht
        have hall : ([26].all fun u => !Tryd.prog.wantsStandIn u) = true := by kernel_rfl
        exact (show Tryd.prog.wantsStandIn t = false by simpa using List.all_eq_true.1 hall t hm)⟩)
    (by kernel_rfl)

noncomputable def laidShaAdds : List (String × DataW Unit) := [("sealwax/sha.begin", Rows.laid_sealwax_sha_begin), ("sealwax/sha.round", Rows.laid_sealwax_sha_round)]
set_option maxRecDepth 100000 in
theorem shaAdds_lifted (os : Os) (started : os.Started) (H : Type) (enc : TypeId × Value → H) :
    ReturnsInHanded {} Tryd.checked os 6 .any (fun w args => (Rows.shaAddsSpec.pre enc Tryd.prog Tryd.f6 [] false w args ∧ laidMetH Tryd.prog laidShaAdds w) ∧ sizedMet enc Tryd.prog Tryd.f6 (OpenSpec.ofChange Rows.shaAddsSpec) false w args)
      (Rows.shaAddsSpec.post enc Tryd.prog Tryd.f6 false true false false) := by
  refine returnsInHanded_of_change_and (C := Tryd.checked) (X := fun w _ => laidMetH Tryd.prog laidShaAdds w) (fun _ _ _ hh h => h.of_heap hh) ownKnobNone started (by kernel_rfl) Tryd.func6
    (ChangeSpec.witness_shaped (enc := enc) (C := Tryd.checked) (os := os) (X := fun w _ => laidMetH Tryd.prog laidShaAdds w) false (World.laidAll Tryd.prog os laidShaAdds) #[(.slice none 0 0 : Value)] 8 (World.laidAll_os _ _ _)
      (World.shaped_of_ZipB (by kernel_rfl) (by kernel_rfl)) (by kernel_rfl) (by kernel_rfl) (by kernel_rfl)
      (by rw [MakeChecks.laidMetH_plain _ _ _ (by kernel_rfl)]; exact laidMet_laidAll _ (by kernel_rfl) (by kernel_rfl))) ?_
  intro W base args ds gs before hval0 hW _ _ hL _
  have hval : ∀ (j : Nat) t v, Tryd.f6.params[j]? = some t → args[j]? = some v → Value.okWide Tryd.prog W .any base t v := hval0
  have hW' := hW
  obtain ⟨p, q, hA0, hV, rfl, _, _⟩ := hW
  have hA : DataW.TrodAll enc Tryd.prog W 0 (fun _ => true) true Tryd.f6.params.toList args.toList ds p := hA0
  rw [Tryd.params6] at hA hval
  obtain ⟨v0, d0, rfl, rfl, h0⟩ := trodAll_one hA
  obtain ⟨rfl, rfl⟩ := trodVars_none hV
  obtain ⟨x0, L0, rfl, hI0, hQ0, hl0⟩ := arg_scalars (s := .str) (c := .str []) (f := 3) Tryd.underlying22 (by kernel_rfl) rfl (by kernel_rfl) (hval 0 22 _ rfl rfl) h0
  rw [List.append_nil] at hW'
  rw [MakeChecks.laidMetH_plain _ _ _ (by kernel_rfl)] at hL
  have hg0 : (HB.ro [.arr .u32 8 Sha.begin8]).Is W 0 := glob_is (f := 5) hL (.head _) (by kernel_rfl) (by kernel_rfl) (by kernel_rfl) (by first | exact ⟨rfl, trivial⟩ | exact trivial) (by decide)
  have hg1 : (HB.ro [.arr .u32 64 Sha.round64]).Is W 1 := glob_is (f := 5) hL (.tail _ (.head _)) (by kernel_rfl) (by kernel_rfl) (by kernel_rfl) (by first | exact ⟨rfl, trivial⟩ | exact trivial) (by decide)
  exact law_post (R := R) (args := [vl 0 x0]) (G := [(0, x0.blk, .view (.sc (.str)) x0 L0), gBegin, gRound]) (adds_law x0 L0 (by unfold maxLen at hl0; omega)) rfl (by repeat (first | exact trivial | assumption | refine ⟨?_, ?_⟩)) (W := W) ⟨hI0, hg0, hg1, trivial⟩ laidOutP (by kernel_rfl) rfl (by kernel_rfl) Tryd.underlying4 rfl hW' (fun x hx => by simpa using hW'.lt x hx)
theorem shaAdds_holds : Rows.ShaAddsSaid :=
  OpenClaim.holds_of_wide 6 Tryd.f6 rfl rfl rfl rfl rfl rfl rfl ⟨rfl, rfl, rfl, rfl, rfl⟩ rfl rfl rfl rfl rfl (by kernel_rfl) Tryd.func6 (by kernel_rfl)
    (of_decide_eq_true (by kernel_rfl)) (by unfold Func.isWrapper; first | (rw [if_pos (by decide +kernel)]; kernel_rfl) | (rw [if_neg (by decide +kernel)]; exact ⟨rfl, rfl⟩))
    (fun os started H enc _ => shaAdds_lifted os started H enc)
/-- The tied card of ShaAdds. -/
theorem shaAdds_card : Rows.ShaAddsCardSaid :=
  Claim7.holds_tied_plain_at .later [] [.data, .data] true (true, "2a5479a4d666863295e97befda6d6633255ebde8552f5893bb18586916e93e22") false shaAdds_holds (fun _ h => by cases h) (by kernel_rfl) (fun _ h => by cases h) shaAdds_row_tie rfl ⟨rfl, rfl⟩ (by kernel_rfl) rfl
    (fun f fn hf hfn => by
      obtain rfl : f = 6 := Option.some.inj ((show Tryd.prog.funcNamed "sealwax/sealwaxlaw01.ShaAdds" = some 6 by kernel_rfl).symm.trans hf) |>.symm
      obtain rfl : fn = Tryd.f6 := (Option.some.inj (Tryd.func6.symm.trans hfn)).symm
      exact ⟨by kernel_rfl, fun j t ht => by
        rw [Tryd.params6] at ht
        have hm : t ∈ [22] := by simpa using Array.mem_of_getElem? ht
        have hall : ([22].all fun u => !Tryd.prog.wantsStandIn u) = true := by kernel_rfl
        exact (show Tryd.prog.wantsStandIn t = false by simpa using List.all_eq_true.1 hall t hm)⟩)
    (by kernel_rfl)

noncomputable def laidShaParts : List (String × DataW Unit) := [("sealwax/sha.begin", Rows.laid_sealwax_sha_begin), ("sealwax/sha.round", Rows.laid_sealwax_sha_round)]
set_option maxRecDepth 100000 in
theorem shaParts_lifted (os : Os) (started : os.Started) (H : Type) (enc : TypeId × Value → H) :
    ReturnsInHanded {} Tryd.checked os 7 .any (fun w args => (Rows.shaPartsSpec.pre enc Tryd.prog Tryd.f7 [] false w args ∧ laidMetH Tryd.prog laidShaParts w) ∧ sizedMet enc Tryd.prog Tryd.f7 (OpenSpec.ofChange Rows.shaPartsSpec) false w args)
      (Rows.shaPartsSpec.post enc Tryd.prog Tryd.f7 false true false false) := by
  refine returnsInHanded_of_change_and (C := Tryd.checked) (X := fun w _ => laidMetH Tryd.prog laidShaParts w) (fun _ _ _ hh h => h.of_heap hh) ownKnobNone started (by kernel_rfl) Tryd.func7
    (ChangeSpec.witness_shaped (enc := enc) (C := Tryd.checked) (os := os) (X := fun w _ => laidMetH Tryd.prog laidShaParts w) false (World.laidAll Tryd.prog os laidShaParts) #[(.string ⟨⟨[]⟩⟩ : Value), (.slice none 0 0 : Value)] 8 (World.laidAll_os _ _ _)
      (World.shaped_of_ZipB (by kernel_rfl) (by kernel_rfl)) (by kernel_rfl) (by kernel_rfl) (by kernel_rfl)
      (by rw [MakeChecks.laidMetH_plain _ _ _ (by kernel_rfl)]; exact laidMet_laidAll _ (by kernel_rfl) (by kernel_rfl))) ?_
  intro W base args ds gs before hval0 hW _ _ hL _
  have hval : ∀ (j : Nat) t v, Tryd.f7.params[j]? = some t → args[j]? = some v → Value.okWide Tryd.prog W .any base t v := hval0
  have hW' := hW
  obtain ⟨p, q, hA0, hV, rfl, _, _⟩ := hW
  have hA : DataW.TrodAll enc Tryd.prog W 0 (fun _ => true) true Tryd.f7.params.toList args.toList ds p := hA0
  rw [Tryd.params7] at hA hval
  obtain ⟨v0, v1, d0, d1, p0, p1, rfl, rfl, rfl, h0, h1⟩ := trodAll_two hA
  obtain ⟨rfl, rfl⟩ := trodVars_none hV
  obtain ⟨s0, rfl, hs0⟩ := arg_str Tryd.underlying9 (hval 0 9 _ rfl rfl) h0
  obtain ⟨x1, L1, rfl, hI1, hQ1, hl1⟩ := arg_scalars (s := .int .i64) (c := .int .i64 0) (f := 3) Tryd.underlying43 (by kernel_rfl) rfl (by kernel_rfl) (hval 1 43 _ rfl rfl) h1
  rw [List.append_nil] at hW'
  rw [MakeChecks.laidMetH_plain _ _ _ (by kernel_rfl)] at hL
  have hg0 : (HB.ro [.arr .u32 8 Sha.begin8]).Is W 0 := glob_is (f := 5) hL (.head _) (by kernel_rfl) (by kernel_rfl) (by kernel_rfl) (by first | exact ⟨rfl, trivial⟩ | exact trivial) (by decide)
  have hg1 : (HB.ro [.arr .u32 64 Sha.round64]).Is W 1 := glob_is (f := 5) hL (.tail _ (.head _)) (by kernel_rfl) (by kernel_rfl) (by kernel_rfl) (by first | exact ⟨rfl, trivial⟩ | exact trivial) (by decide)
  exact law_post (R := R) (args := [vs s0, vl 1 x1]) (G := [(1, x1.blk, .view (.sc (.int .i64)) x1 L1), gBegin, gRound]) (parts_law s0 x1 L1 (by unfold maxLen at hs0; omega) (by unfold maxLen at hl1; omega)) rfl (by repeat (first | exact trivial | assumption | refine ⟨?_, ?_⟩)) (W := W) ⟨hI1, hg0, hg1, trivial⟩ laidOutP (by kernel_rfl) rfl (by kernel_rfl) Tryd.underlying4 rfl hW' (fun x hx => by simpa using hW'.lt x hx)
theorem shaParts_holds : Rows.ShaPartsSaid :=
  OpenClaim.holds_of_wide 7 Tryd.f7 rfl rfl rfl rfl rfl rfl rfl ⟨rfl, rfl, rfl, rfl, rfl⟩ rfl rfl rfl rfl rfl (by kernel_rfl) Tryd.func7 (by kernel_rfl)
    (of_decide_eq_true (by kernel_rfl)) (by unfold Func.isWrapper; first | (rw [if_pos (by decide +kernel)]; kernel_rfl) | (rw [if_neg (by decide +kernel)]; exact ⟨rfl, rfl⟩))
    (fun os started H enc _ => shaParts_lifted os started H enc)
/-- The tied card of ShaParts. -/
theorem shaParts_card : Rows.ShaPartsCardSaid :=
  Claim7.holds_tied_plain_at .later [] [.data, .data] true (true, "2a5479a4d666863295e97befda6d6633255ebde8552f5893bb18586916e93e22") false shaParts_holds (fun _ h => by cases h) (by kernel_rfl) (fun _ h => by cases h) shaParts_row_tie rfl ⟨rfl, rfl⟩ (by kernel_rfl) rfl
    (fun f fn hf hfn => by
      obtain rfl : f = 7 := Option.some.inj ((show Tryd.prog.funcNamed "sealwax/sealwaxlaw01.ShaParts" = some 7 by kernel_rfl).symm.trans hf) |>.symm
      obtain rfl : fn = Tryd.f7 := (Option.some.inj (Tryd.func7.symm.trans hfn)).symm
      exact ⟨by kernel_rfl, fun j t ht => by
        rw [Tryd.params7] at ht
        have hm : t ∈ [9, 43] := by simpa using Array.mem_of_getElem? ht
        have hall : ([9, 43].all fun u => !Tryd.prog.wantsStandIn u) = true := by kernel_rfl
        exact (show Tryd.prog.wantsStandIn t = false by simpa using List.all_eq_true.1 hall t hm)⟩)
    (by kernel_rfl)

#print axioms shaSums_card
#print axioms shaLengths_card
#print axioms shaHexes_card
#print axioms shaAdds_card
#print axioms shaParts_card
end Go.Proofs.YtlnndodcicjhpaaDoor
