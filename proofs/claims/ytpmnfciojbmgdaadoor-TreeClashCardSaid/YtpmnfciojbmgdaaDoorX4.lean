/- Each of these laws returns true, whatever its arguments, and each argument reads as it did. Conditions: the listed variables read as the program lays them (tied by the card). -/
import Derived.Test.YtpmnfciojbmgdaaDoorTJ
import Derived.Test.YtpmnfciojbmgdaaDoorSy4
import Derived.Test.YtpmnfciojbmgdaaDoorRows
import Derived.Test.YtpmnfciojbmgdaaDoorCards
import Derived.Test.YtpmnfciojbmgdaaDoorTie
import Derived.ChangeSame
import Derived.ChangeVars
import Derived.JoinedOf
import Derived.RowKit
import Derived.WalkKit
import Derived.ProofKit
import Derived.LaidHandle
import Derived.Lay
import Derived.SevenTiedAt
import Derived.SizedLaws
set_option linter.unusedVariables false
set_option linter.unusedSimpArgs false
set_option maxRecDepth 100000
namespace Go.Proofs.YtpmnfciojbmgdaaDoor
open Go Go.SY Go.ChangeShapes Go.WideShapes Go.ChangeAt Go.RowKit
theorem ownKnobNone : ownKnob Tryd.prog.godebug = none := by kernel_rfl
theorem laidOutP : laidOutB Tryd.prog = true := by kernel_rfl

noncomputable def laidTreeClash : List (String × DataW Unit) := [("sealwax/sha.begin", Rows.laid_sealwax_sha_begin), ("sealwax/sha.round", Rows.laid_sealwax_sha_round)]
set_option maxRecDepth 100000 in
theorem treeClash_lifted (os : Os) (started : os.Started) (H : Type) (enc : TypeId × Value → H) :
    ReturnsInHanded {} Tryd.checked os 7 .any (fun w args => (Rows.treeClashSpec.pre enc Tryd.prog Tryd.f7 [] false w args ∧ laidMetH Tryd.prog laidTreeClash w) ∧ sizedMet enc Tryd.prog Tryd.f7 (OpenSpec.ofChange Rows.treeClashSpec) false w args)
      (Rows.treeClashSpec.post enc Tryd.prog Tryd.f7 false true false false) := by
  refine returnsInHanded_of_change_and (C := Tryd.checked) (X := fun w _ => laidMetH Tryd.prog laidTreeClash w) (fun _ _ _ hh h => h.of_heap hh) ownKnobNone started (by kernel_rfl) Tryd.func7
    (ChangeSpec.witness_shaped (enc := enc) (C := Tryd.checked) (os := os) (X := fun w _ => laidMetH Tryd.prog laidTreeClash w) false (World.laidAll Tryd.prog os laidTreeClash) #[(.agg #[.int .i64 0, .slice none 0 0, .int .i64 0, .string ⟨⟨[]⟩⟩, .int .i64 0] : Value), (.agg #[.int .i64 0, .slice none 0 0, .int .i64 0, .string ⟨⟨[]⟩⟩, .int .i64 0] : Value)] 8 (World.laidAll_os _ _ _)
      (World.shaped_of_ZipB (by kernel_rfl) (by kernel_rfl)) (by kernel_rfl) (by kernel_rfl) (by kernel_rfl)
      (by rw [MakeChecks.laidMetH_plain _ _ _ (by kernel_rfl)]; exact laidMet_laidAll _ (by kernel_rfl) (by kernel_rfl))) ?_
  intro W base args ds gs before hval0 hW _ _ hL _
  have hval : ∀ (j : Nat) t v, Tryd.f7.params[j]? = some t → args[j]? = some v → Value.okWide Tryd.prog W .any base t v := hval0
  have hW' := hW
  obtain ⟨p, q, hA0, hV, rfl, _, _⟩ := hW
  have hA : DataW.TrodAll enc Tryd.prog W 0 (fun _ => true) true Tryd.f7.params.toList args.toList ds p := hA0
  rw [Tryd.params7] at hA hval
  obtain ⟨v0, v1, d0, d1, p0, p1, rfl, rfl, rfl, h0, h1⟩ := trodAll_two hA
  obtain ⟨rfl, rfl⟩ := trodVars_none hV
  obtain ⟨d0, i0, g0, x0, L0, s0, rfl, hI0, hl0, hs0, hd0, hi0, hgg0⟩ := case_arg (hval 0 41 _ rfl rfl) h0
  obtain ⟨d1, i1, g1, x1, L1, s1, rfl, hI1, hl1, hs1, hd1, hi1, hgg1⟩ := case_arg (hval 1 41 _ rfl rfl) h1
  rw [List.append_nil] at hW'
  rw [MakeChecks.laidMetH_plain _ _ _ (by kernel_rfl)] at hL
  have hg0 : (HB.ro [.arr .u32 8 Sha.begin8]).Is W 0 := glob_is (f := 5) hL (.head _) (by kernel_rfl) (by kernel_rfl) (by kernel_rfl) (by first | exact ⟨rfl, trivial⟩ | exact trivial) (by decide)
  have hg1 : (HB.ro [.arr .u32 64 Sha.round64]).Is W 1 := glob_is (f := 5) hL (.tail _ (.head _)) (by kernel_rfl) (by kernel_rfl) (by kernel_rfl) (by first | exact ⟨rfl, trivial⟩ | exact trivial) (by decide)
  exact law_post (R := R) (args := [va [.c (.int .i64 d0), .c (.lst 0 x0), .c (.int .i64 i0), .c (.str s0), .c (.int .i64 g0)], va [.c (.int .i64 d1), .c (.lst 1 x1), .c (.int .i64 i1), .c (.str s1), .c (.int .i64 g1)]]) (G := [(0, x0.blk, .view (.sc .str) x0 L0), (1, x1.blk, .view (.sc .str) x1 L1), gBegin, gRound]) (clash_law d0 i0 g0 d1 i1 g1 s0 s1 x0 x1 L0 L1 (by unfold maxLen at hl0; omega) (by unfold maxLen at hl1; omega) hd0 hi0 hgg0 hd1 hi1 hgg1) rfl (by repeat (first | exact trivial | assumption | refine ⟨?_, ?_⟩)) (W := W) ⟨hI0, hI1, hg0, hg1, trivial⟩ laidOutP (by kernel_rfl) rfl (by kernel_rfl) Tryd.underlying4 rfl hW' (fun x hx => by simpa using hW'.lt x hx)
theorem treeClash_holds : Rows.TreeClashSaid :=
  OpenClaim.holds_of_wide 7 Tryd.f7 rfl rfl rfl rfl rfl rfl rfl ⟨rfl, rfl, rfl, rfl, rfl⟩ rfl rfl rfl rfl rfl (by kernel_rfl) Tryd.func7 (by kernel_rfl)
    (of_decide_eq_true (by kernel_rfl)) (by unfold Func.isWrapper; first | (rw [if_pos (by decide +kernel)]; kernel_rfl) | (rw [if_neg (by decide +kernel)]; exact ⟨rfl, rfl⟩))
    (fun os started H enc _ => treeClash_lifted os started H enc)
/-- The tied card of TreeClash. -/
theorem treeClash_card : Rows.TreeClashCardSaid :=
  Claim7.holds_tied_plain_at .later [] [.data, .data] true (true, "741743e2c2e17179df17f8961f45c29fe664d7a8ea147bc18a32fd5a7438b5eb") false treeClash_holds (fun _ h => by cases h) (by kernel_rfl) (fun _ h => by cases h) treeClash_row_tie rfl ⟨rfl, rfl⟩ (by kernel_rfl) rfl
    (fun f fn hf hfn => by
      obtain rfl : f = 7 := Option.some.inj ((show Tryd.prog.funcNamed "sealwax/sealwaxlaw07.TreeClash" = some 7 by kernel_rfl).symm.trans hf) |>.symm
      obtain rfl : fn = Tryd.f7 := (Option.some.inj (Tryd.func7.symm.trans hfn)).symm
      exact ⟨by kernel_rfl, fun j t ht => by
        rw [Tryd.params7] at ht
        have hm : t ∈ [41, 41] := by simpa using Array.mem_of_getElem? ht
        have hall : ([41, 41].all fun u => !Tryd.prog.wantsStandIn u) = true := by kernel_rfl
        exact (show Tryd.prog.wantsStandIn t = false by simpa using List.all_eq_true.1 hall t hm)⟩)
    (by kernel_rfl)

#print axioms treeClash_card
end Go.Proofs.YtpmnfciojbmgdaaDoor
