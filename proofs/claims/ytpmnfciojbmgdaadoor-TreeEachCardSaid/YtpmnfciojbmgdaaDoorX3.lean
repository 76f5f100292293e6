/- Each of these laws returns true, whatever its arguments, and each argument reads as it did. Conditions: the listed variables read as the program lays them (tied by the card). -/
import Derived.Test.YtpmnfciojbmgdaaDoorTI
import Derived.Test.YtpmnfciojbmgdaaDoorSy4
import Derived.Test.YtpmnfciojbmgdaaDoorRows
import Derived.Test.YtpmnfciojbmgdaaDoorCards
import Derived.Test.YtpmnfciojbmgdaaDoorTie
import Derived.ChangeSame
import Derived.ChangeVars
import Derived.JoinedOf
import Derived.RowKit
import Derived.WalkKit
import Derived.ProofKit
import Derived.LaidHandle
import Derived.Lay
import Derived.SevenTiedAt
import Derived.SizedLaws
set_option linter.unusedVariables false
set_option linter.unusedSimpArgs false
set_option maxRecDepth 100000
namespace Go.Proofs.YtpmnfciojbmgdaaDoor
open Go Go.SY Go.ChangeShapes Go.WideShapes Go.ChangeAt Go.RowKit
theorem ownKnobNone : ownKnob Tryd.prog.godebug = none := by kernel_rfl
theorem laidOutP : laidOutB Tryd.prog = true := by kernel_rfl

noncomputable def laidTreeEach : List (String × DataW Unit) := [("sealwax/sha.begin", Rows.laid_sealwax_sha_begin), ("sealwax/sha.round", Rows.laid_sealwax_sha_round)]
set_option maxRecDepth 100000 in
theorem treeEach_lifted (os : Os) (started : os.Started) (H : Type) (enc : TypeId × Value → H) :
    ReturnsInHanded {} Tryd.checked os 6 .any (fun w args => (Rows.treeEachSpec.pre enc Tryd.prog Tryd.f6 [] false w args ∧ laidMetH Tryd.prog laidTreeEach w) ∧ sizedMet enc Tryd.prog Tryd.f6 (OpenSpec.ofChange Rows.treeEachSpec) false w args)
      (Rows.treeEachSpec.post enc Tryd.prog Tryd.f6 false true false false) := by
  refine returnsInHanded_of_change_and (C := Tryd.checked) (X := fun w _ => laidMetH Tryd.prog laidTreeEach w) (fun _ _ _ hh h => h.of_heap hh) ownKnobNone started (by kernel_rfl) Tryd.func6
    (ChangeSpec.witness_shaped (enc := enc) (C := Tryd.checked) (os := os) (X := fun w _ => laidMetH Tryd.prog laidTreeEach w) false (World.laidAll Tryd.prog os laidTreeEach) #[(.int .i64 0 : Value), (.slice none 0 0 : Value)] 8 (World.laidAll_os _ _ _)
      (World.shaped_of_ZipB (by kernel_rfl) (by kernel_rfl)) (by kernel_rfl) (by kernel_rfl) (by kernel_rfl)
      (by rw [MakeChecks.laidMetH_plain _ _ _ (by kernel_rfl)]; exact laidMet_laidAll _ (by kernel_rfl) (by kernel_rfl))) ?_
  intro W base args ds gs before hval0 hW _ _ hL _
  have hval : ∀ (j : Nat) t v, Tryd.f6.params[j]? = some t → args[j]? = some v → Value.okWide Tryd.prog W .any base t v := hval0
  have hW' := hW
  obtain ⟨p, q, hA0, hV, rfl, _, _⟩ := hW
  have hA : DataW.TrodAll enc Tryd.prog W 0 (fun _ => true) true Tryd.f6.params.toList args.toList ds p := hA0
  rw [Tryd.params6] at hA hval
  obtain ⟨v0, v1, d0, d1, p0, p1, rfl, rfl, rfl, h0, h1⟩ := trodAll_two hA
  obtain ⟨rfl, rfl⟩ := trodVars_none hV
  obtain ⟨n0, rfl, hn0a, hn0b⟩ := arg_i64 Tryd.underlying3 (hval 0 3 _ rfl rfl)
  obtain ⟨x1, L1, rfl, hI1, hQ1, hl1⟩ := arg_scalars (s := .str) (c := .str []) (f := 3) Tryd.underlying22 (by kernel_rfl) rfl (by kernel_rfl) (hval 1 22 _ rfl rfl) h1
  rw [List.append_nil] at hW'
  rw [MakeChecks.laidMetH_plain _ _ _ (by kernel_rfl)] at hL
  have hg0 : (HB.ro [.arr .u32 8 Sha.begin8]).Is W 0 := glob_is (f := 5) hL (.head _) (by kernel_rfl) (by kernel_rfl) (by kernel_rfl) (by first | exact ⟨rfl, trivial⟩ | exact trivial) (by decide)
  have hg1 : (HB.ro [.arr .u32 64 Sha.round64]).Is W 1 := glob_is (f := 5) hL (.tail _ (.head _)) (by kernel_rfl) (by kernel_rfl) (by kernel_rfl) (by first | exact ⟨rfl, trivial⟩ | exact trivial) (by decide)
  exact law_post (R := R) (args := [vi n0, vl 1 x1]) (G := [(1, x1.blk, .view (.sc (.str)) x1 L1), gBegin, gRound]) (each_law n0 x1 L1 (by unfold maxLen at hl1; omega)) rfl (by repeat (first | exact trivial | assumption | refine ⟨?_, ?_⟩)) (W := W) ⟨hI1, hg0, hg1, trivial⟩ laidOutP (by kernel_rfl) rfl (by kernel_rfl) Tryd.underlying4 rfl hW' (fun x hx => by simpa using hW'.lt x hx)
theorem treeEach_holds : Rows.TreeEachSaid :=
  OpenClaim.holds_of_wide 6 Tryd.f6 rfl rfl rfl rfl rfl rfl rfl ⟨rfl, rfl, rfl, rfl, rfl⟩ rfl rfl rfl rfl rfl (by kernel_rfl) Tryd.func6 (by kernel_rfl)
    (of_decide_eq_true (by kernel_rfl)) (by unfold Func.isWrapper; first | (rw [if_pos (by decide +kernel)]; kernel_rfl) | (rw [if_neg (by decide +kernel)]; exact ⟨rfl, rfl⟩))
    (fun os started H enc _ => treeEach_lifted os started H enc)
/-- The tied card of TreeEach. -/
theorem treeEach_card : Rows.TreeEachCardSaid :=
  Claim7.holds_tied_plain_at .later [] [.data, .data] true (true, "741743e2c2e17179df17f8961f45c29fe664d7a8ea147bc18a32fd5a7438b5eb") false treeEach_holds (fun _ h => by cases h) (by kernel_rfl) (fun _ h => by cases h) treeEach_row_tie rfl ⟨rfl, rfl⟩ (by kernel_rfl) rfl
    (fun f fn hf hfn => by
      obtain rfl : f = 6 := Option.some.inj ((show Tryd.prog.funcNamed "sealwax/sealwaxlaw07.TreeEach" = some 6 by kernel_rfl).symm.trans hf) |>.symm
      obtain rfl : fn = Tryd.f6 := (Option.some.inj (Tryd.func6.symm.trans hfn)).symm
      exact ⟨by kernel_rfl, fun j t ht => by
        rw [Tryd.params6] at ht
        have hm : t ∈ [3, 22] := by simpa using Array.mem_of_getElem? ht
        have hall : ([3, 22].all fun u => !Tryd.prog.wantsStandIn u) = true := by kernel_rfl
        exact (show Tryd.prog.wantsStandIn t = false by simpa using List.all_eq_true.1 hall t hm)⟩)
    (by kernel_rfl)

#print axioms treeEach_card
end Go.Proofs.YtpmnfciojbmgdaaDoor
