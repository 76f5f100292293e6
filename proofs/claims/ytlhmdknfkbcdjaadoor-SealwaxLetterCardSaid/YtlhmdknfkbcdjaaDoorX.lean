/- Each of these laws returns true, whatever its arguments, and each argument reads as it did. Conditions: the listed variables read as the program lays them (tied by the card). -/
import Derived.Test.YtlhmdknfkbcdjaaDoorL1
import Derived.Test.YtlhmdknfkbcdjaaDoorSy4
import Derived.Test.YtlhmdknfkbcdjaaDoorRows
import Derived.Test.YtlhmdknfkbcdjaaDoorCards
import Derived.Test.YtlhmdknfkbcdjaaDoorTie
import Derived.ChangeSame
import Derived.ChangeVars
import Derived.JoinedOf
import Derived.RowKit
import Derived.WalkKit
import Derived.ProofKit
import Derived.LaidHandle
import Derived.Lay
import Derived.SevenTiedAt
import Derived.SizedLaws
set_option linter.unusedVariables false
set_option linter.unusedSimpArgs false
set_option maxRecDepth 100000
namespace Go.Proofs.YtlhmdknfkbcdjaaDoor
open Go Go.SY Go.ChangeShapes Go.WideShapes Go.ChangeAt Go.RowKit
theorem ownKnobNone : ownKnob Tryd.prog.godebug = none := by kernel_rfl
theorem laidOutP : laidOutB Tryd.prog = true := by kernel_rfl

noncomputable def laidSealwaxLetter : List (String × DataW Unit) := [("sealwax/sha.begin", Rows.laid_sealwax_sha_begin), ("sealwax/sha.round", Rows.laid_sealwax_sha_round), ("sealwax/stream.begin", Rows.laid_sealwax_stream_begin), ("sealwax/stream.quarters", Rows.laid_sealwax_stream_quarters)]
set_option maxRecDepth 100000 in
theorem sealwaxLetter_lifted (os : Os) (started : os.Started) (H : Type) (enc : TypeId × Value → H) :
    ReturnsInHanded {} Tryd.checked os 3 .any (fun w args => (Rows.sealwaxLetterSpec.pre enc Tryd.prog Tryd.f3 [] false w args ∧ laidMetH Tryd.prog laidSealwaxLetter w) ∧ sizedMet enc Tryd.prog Tryd.f3 (OpenSpec.ofChange Rows.sealwaxLetterSpec) false w args)
      (Rows.sealwaxLetterSpec.post enc Tryd.prog Tryd.f3 false true false false) := by
  refine returnsInHanded_of_change_and (C := Tryd.checked) (X := fun w _ => laidMetH Tryd.prog laidSealwaxLetter w) (fun _ _ _ hh h => h.of_heap hh) ownKnobNone started (by kernel_rfl) Tryd.func3
    (ChangeSpec.witness_shaped (enc := enc) (C := Tryd.checked) (os := os) (X := fun w _ => laidMetH Tryd.prog laidSealwaxLetter w) false (World.laidAll Tryd.prog os laidSealwaxLetter) #[(.string ⟨⟨[]⟩⟩ : Value), (.string ⟨⟨[]⟩⟩ : Value), (.slice none 0 0 : Value)] 8 (World.laidAll_os _ _ _)
      (World.shaped_of_ZipB (by kernel_rfl) (by kernel_rfl)) (by kernel_rfl) (by kernel_rfl) (by kernel_rfl)
      (by rw [MakeChecks.laidMetH_plain _ _ _ (by kernel_rfl)]; exact laidMet_laidAll _ (by kernel_rfl) (by kernel_rfl))) ?_
  intro W base args ds gs before hval0 hW _ _ hL _
  have hval : ∀ (j : Nat) t v, Tryd.f3.params[j]? = some t → args[j]? = some v → Value.okWide Tryd.prog W .any base t v := hval0
  have hW' := hW
  obtain ⟨p, q, hA0, hV, rfl, _, _⟩ := hW
  have hA : DataW.TrodAll enc Tryd.prog W 0 (fun _ => true) true Tryd.f3.params.toList args.toList ds p := hA0
  rw [Tryd.params3] at hA hval
  obtain ⟨v0, v1, v2, d0, d1, d2, p0, p1, p2, rfl, rfl, rfl, h0, h1, h2⟩ := trodAll_three hA
  obtain ⟨rfl, rfl⟩ := trodVars_none hV
  obtain ⟨s0, rfl, hs0⟩ := arg_str Tryd.underlying9 (hval 0 9 _ rfl rfl) h0
  obtain ⟨s1, rfl, hs1⟩ := arg_str Tryd.underlying9 (hval 1 9 _ rfl rfl) h1
  obtain ⟨x2, L2, rfl, hI2, hQ2, hl2⟩ := arg_scalars (s := .int .i64) (c := .int .i64 0) (f := 3) Tryd.underlying22 (by kernel_rfl) rfl (by kernel_rfl) (hval 2 22 _ rfl rfl) h2
  rw [List.append_nil] at hW'
  rw [MakeChecks.laidMetH_plain _ _ _ (by kernel_rfl)] at hL
  have hg0 : (HB.ro [.arr .u32 8 Sha.begin8]).Is W 0 := glob_is (f := 5) hL (.head _) (by kernel_rfl) (by kernel_rfl) (by kernel_rfl) (by first | exact ⟨rfl, trivial⟩ | exact trivial) (by decide)
  have hg1 : (HB.ro [.arr .u32 64 Sha.round64]).Is W 1 := glob_is (f := 5) hL (.tail _ (.head _)) (by kernel_rfl) (by kernel_rfl) (by kernel_rfl) (by first | exact ⟨rfl, trivial⟩ | exact trivial) (by decide)
  have hg2 : (HB.ro [.arr .u32 4 Cha.begin4]).Is W 3 := glob_is (f := 5) hL (.tail _ (.tail _ (.head _))) (by kernel_rfl) (by kernel_rfl) (by kernel_rfl) (by first | exact ⟨rfl, trivial⟩ | exact trivial) (by decide)
  have hg3 : (HB.ro [.arr (.int .i64) 32 Cha.quartersL]).Is W 2 := glob_is (f := 5) hL (.tail _ (.tail _ (.tail _ (.head _)))) (by kernel_rfl) (by kernel_rfl) (by kernel_rfl) (by first | exact ⟨rfl, trivial⟩ | exact trivial) (by decide)
  exact law_post (R := R) (args := [vs s0, vs s1, vl 2 x2]) (G := [(2, x2.blk, .view (.sc (.int .i64)) x2 L2), gBegin, gRound, gQuarters, gBegin4]) (letter_law s0 s1 x2 L2 (by unfold maxLen at hs0; omega) (by unfold maxLen at hs1; omega) (by unfold maxLen at hl2; omega) (fun n hn => by have h : n ≤ 9223372036854775807 := (hQ2 n hn).2; unfold nz; omega)) rfl (by repeat (first | exact trivial | assumption | refine ⟨?_, ?_⟩)) (W := W) ⟨hI2, hg0, hg1, hg3, hg2, trivial⟩ laidOutP (by kernel_rfl) rfl (by kernel_rfl) Tryd.underlying4 rfl hW' (fun x hx => by simpa using hW'.lt x hx)
theorem sealwaxLetter_holds : Rows.SealwaxLetterSaid :=
  OpenClaim.holds_of_wide 3 Tryd.f3 rfl rfl rfl rfl rfl rfl rfl ⟨rfl, rfl, rfl, rfl, rfl⟩ rfl rfl rfl rfl rfl (by kernel_rfl) Tryd.func3 (by kernel_rfl)
    (of_decide_eq_true (by kernel_rfl)) (by unfold Func.isWrapper; first | (rw [if_pos (by decide +kernel)]; kernel_rfl) | (rw [if_neg (by decide +kernel)]; exact ⟨rfl, rfl⟩))
    (fun os started H enc _ => sealwaxLetter_lifted os started H enc)
/-- The tied card of SealwaxLetter. -/
theorem sealwaxLetter_card : Rows.SealwaxLetterCardSaid :=
  Claim7.holds_tied_plain_at .later [] [.data, .data, .widerDeep, .data] true (true, "bafd60054f28daeffbc23f17e390898cb3aa5a29a933c92c5fa1dbeb27df3967") false sealwaxLetter_holds (fun _ h => by cases h) (by kernel_rfl) (fun _ h => by cases h) sealwaxLetter_row_tie rfl ⟨rfl, rfl⟩ (by kernel_rfl) rfl
    (fun f fn hf hfn => by
      obtain rfl : f = 3 := Option.some.inj ((show Tryd.prog.funcNamed "sealwax/sealwaxtop.SealwaxLetter" = some 3 by kernel_rfl).symm.trans hf) |>.symm
      obtain rfl : fn = Tryd.f3 := (Option.some.inj (Tryd.func3.symm.trans hfn)).symm
      exact ⟨by kernel_rfl, fun j t ht => by
        rw [Tryd.params3] at ht
        have hm : t ∈ [9, 9, 22] := by simpa using Array.mem_of_getElem? ht
        have hall : ([9, 9, 22].all fun u => !Tryd.prog.wantsStandIn u) = true := by kernel_rfl
        exact (show Tryd.prog.wantsStandIn t = false by simpa using List.all_eq_true.1 hall t hm)⟩)
    (by kernel_rfl)

#print axioms sealwaxLetter_card
end Go.Proofs.YtlhmdknfkbcdjaaDoor
