/- The law StreamBlocks returns true at every place (a key, a counter, a nonce), and the place reads as it did: the tied card. Conditions: the two listed variables read as the program lays them (tied by the card). -/
import Derived.Test.YtiijaiiejogbjaaDoorR5
import Derived.Test.YtiijaiiejogbjaaDoorA2
import Derived.Test.YtiijaiiejogbjaaDoorCards
import Derived.Test.YtiijaiiejogbjaaDoorTie
import Derived.ChangeSame
import Derived.ChangeVars
import Derived.JoinedOf
import Derived.RowKit
import Derived.WalkKit
import Derived.ProofKit
import Derived.LaidHandle
import Derived.Lay
import Derived.SevenTiedAt
set_option linter.unusedVariables false
set_option linter.unusedSimpArgs false
namespace Go.Proofs.YtiijaiiejogbjaaDoor.Str
open Go Go.SX Go.Chacha Go.Lib Go.ChangeShapes Go.WideShapes Go.ChangeAt Go.RowKit

theorem own : ownKnob Tryd.prog.godebug = none := by kernel_rfl
theorem laidOut : laidOutB Tryd.prog = true := by kernel_rfl
noncomputable def laidL : List (String × DataW Unit) := [("sealwax/stream.begin", Rows.laid_sealwax_stream_begin), ("sealwax/stream.quarters", Rows.laid_sealwax_stream_quarters)]
def zeroPlace : Value := .agg ((List.replicate 32 (Value.int .u8 0) ++ [Value.int .u32 0] ++ List.replicate 12 (Value.int .u8 0)).toArray)

theorem ro (k : Nat) : rwKey [(500, 0, .seg 0 (.ints .i64 quartersL)), (501, 1, .seg 0 (.ints .u32 begin4))] k = false := by
  unfold rwKey
  rw [hget_cons, hget_cons]
  by_cases h1 : 500 = k
  · rw [if_pos h1]; rfl
  · by_cases h2 : 501 = k
    · rw [if_neg h1, if_pos h2]; rfl
    · rw [if_neg h1, if_neg h2]; rfl
theorem known {W : World} (hq : (HB.seg 0 (.ints .i64 quartersL)).Is W 0) (hb : (HB.seg 0 (.ints .u32 begin4)).Is W 1) (k b : Nat) (x : HB)
    (h : hget [(500, 0, .seg 0 (.ints .i64 quartersL)), (501, 1, .seg 0 (.ints .u32 begin4))] k = some (b, x)) : x.Is W b := by
  rw [hget_cons, hget_cons] at h
  by_cases h1 : 500 = k
  · rw [if_pos h1] at h; cases h; exact hq
  · by_cases h2 : 501 = k
    · rw [if_neg h1, if_pos h2] at h; cases h; exact hb
    · rw [if_neg h1, if_neg h2] at h; cases h

set_option maxRecDepth 100000 in
theorem blocks_lifted (os : Os) (started : os.Started) (H : Type) (enc : TypeId × Value → H) :
    ReturnsInHanded {} Tryd.checked os 3 .any (fun w args => (Rows.streamBlocksSpec.pre enc Tryd.prog Tryd.f3 [] false w args ∧ laidMetH Tryd.prog laidL w) ∧ sizedMet enc Tryd.prog Tryd.f3 (OpenSpec.ofChange Rows.streamBlocksSpec) false w args)
      (Rows.streamBlocksSpec.post enc Tryd.prog Tryd.f3 false true false false) := by
  refine returnsInHanded_of_change_and (C := Tryd.checked) (X := fun w _ => laidMetH Tryd.prog laidL w) (fun _ _ _ hh h => h.of_heap hh) own started (by kernel_rfl) Tryd.func3
    (ChangeSpec.witness_shaped (enc := enc) (C := Tryd.checked) (os := os) (X := fun w _ => laidMetH Tryd.prog laidL w) false (World.laidAll Tryd.prog os laidL) #[zeroPlace] 8 (World.laidAll_os _ _ _)
      (World.shaped_of_ZipB (by kernel_rfl) (by kernel_rfl)) (by kernel_rfl) (by kernel_rfl) (by kernel_rfl)
      (by rw [MakeChecks.laidMetH_plain _ _ _ (by kernel_rfl)]; exact laidMet_laidAll _ (by kernel_rfl) (by kernel_rfl))) ?_
  intro W base args ds gs before hval0 hW _ _ hL _
  have hval : ∀ (j : Nat) t v, Tryd.f3.params[j]? = some t → args[j]? = some v → Value.okWide Tryd.prog W .any base t v := hval0
  have hW' := hW
  obtain ⟨p, q, hA0, hV, rfl, _, _⟩ := hW
  have hA : DataW.TrodAll enc Tryd.prog W 0 (fun _ => true) true Tryd.f3.params.toList args.toList ds p := hA0
  rw [Tryd.params3] at hA hval
  obtain ⟨v0, d0, rfl, rfl, h0⟩ := trodAll_one hA
  obtain ⟨rfl, rfl⟩ := trodVars_none hV
  obtain ⟨f, hf, rfl⟩ := place_of_ok (hval 0 28 v0 rfl rfl)
  simp only [List.append_nil] at hW'
  rw [MakeChecks.laidMetH_plain _ _ _ (by kernel_rfl)] at hL
  have hb := begin_is (Lib.laidMet.reads hL (.head _))
  have hq := quarters_is (Lib.laidMet.reads hL (.tail _ (.head _)))
  have hlt : ∀ x ∈ p, x.block < W.heap.size := fun x hx => by simpa using hW'.lt x hx
  refine ((lawBlocks f hf).law (v := .bool true) (fun u H' h => by rw [h.1]; rfl) (fun k => ?_) (w := W) ?_).mono fun e W' ⟨he, hB⟩ => ?_
  · exact ro k
  · exact fun k b hb' hk => known hq hb k b hb' hk
  · subst he
    exact ⟨_, rfl, _, _, _, [], p, [], hW', trodAll_mk1 (shut_bool Tryd.underlying4 _), trodAll_mk1 (Below.trod laidOut (by kernel_rfl) (of_decide_eq_true (by kernel_rfl)) h0 hB hlt), rfl, hB.frame _, fun h => by cases h⟩

theorem blocks_holds : Rows.StreamBlocksSaid :=
  OpenClaim.holds_of_wide 3 Tryd.f3 rfl rfl rfl rfl rfl rfl rfl ⟨rfl, rfl, rfl, rfl, rfl⟩ rfl rfl rfl rfl rfl (by kernel_rfl) Tryd.func3 (by kernel_rfl)
    (of_decide_eq_true (by kernel_rfl)) (by unfold Func.isWrapper; first | (rw [if_pos (by decide +kernel)]; kernel_rfl) | (rw [if_neg (by decide +kernel)]; exact ⟨rfl, rfl⟩))
    (fun os started H enc _ => blocks_lifted os started H enc)
theorem blocks_card : Rows.StreamBlocksCardSaid :=
  Claim7.holds_tied_plain_at .later [] [.widerDeep, .data] true (true, "3467f63696ca9918b9deff1e26c6534500597e9310a752fbd40849a46baf8cd6") false blocks_holds (fun _ h => by cases h) (by kernel_rfl) (fun _ h => by cases h) streamBlocks_row_tie rfl ⟨rfl, rfl⟩ (by kernel_rfl) rfl
    (fun f fn hf hfn => by
      obtain rfl : f = 3 := Option.some.inj ((show Tryd.prog.funcNamed "sealwax/sealwaxlaw03.StreamBlocks" = some 3 by kernel_rfl).symm.trans hf) |>.symm
      obtain rfl : fn = Tryd.f3 := (Option.some.inj (Tryd.func3.symm.trans hfn)).symm
      exact ⟨by kernel_rfl, fun j t ht => by
        rw [Tryd.params3] at ht
        have hm : t ∈ [28] := by simpa using Array.mem_of_getElem? ht
        have hall : ([28].all fun u => !Tryd.prog.wantsStandIn u) = true := by kernel_rfl
        exact (show Tryd.prog.wantsStandIn t = false by simpa using List.all_eq_true.1 hall t hm)⟩)
    (by kernel_rfl)
end Go.Proofs.YtiijaiiejogbjaaDoor.Str
namespace Go.Proofs.YtiijaiiejogbjaaDoor
/-- The tied card of StreamBlocks. -/
theorem streamBlocks_card : Rows.StreamBlocksCardSaid := Str.blocks_card
#print axioms streamBlocks_card
end Go.Proofs.YtiijaiiejogbjaaDoor
