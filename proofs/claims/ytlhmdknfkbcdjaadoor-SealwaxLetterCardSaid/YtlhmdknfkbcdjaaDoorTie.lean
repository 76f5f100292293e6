/-
  DERIVED. GIVEN WITH THE SEED: THE PROGRAM's TIES (one call each: nine closed facts by the kernel) AND EACH ROW's TIE, after the 31st guide's Derived/Test/Toyas{Tie, Card}.lean. No idea stands in it: it is a product of the set-up. Laid BY PROGRAM, IN A SANDBOX (cutbox-door.mjs). By AI agents, Wed Nov 11 2026. No macro, syntax, notation, axiom, sorry.
-/
import Derived.Test.YtlhmdknfkbcdjaaDoorRows
import Derived.LaidByTextLater
import Derived.SevenTiedAt
import Derived.LaidSub
import Derived.LaidOnce
namespace Go.Proofs.YtlhmdknfkbcdjaaDoor
open Go
set_option maxRecDepth 100000
theorem seatTie1 : Tryd.prog.laidByTextLater [("sealwax/sha.begin", Rows.laid_sealwax_sha_begin), ("sealwax/sha.round", Rows.laid_sealwax_sha_round), ("sealwax/stream.begin", Rows.laid_sealwax_stream_begin), ("sealwax/stream.quarters", Rows.laid_sealwax_stream_quarters), ("unicode/utf8.acceptRanges", Rows.laid_unicode_utf8_acceptRanges)] [.data, .data, .widerDeep, .data, .data] true :=
  Program.laidByTextLater_by_one 47 8 65 (by kernel_rfl) (by kernel_rfl) (by kernel_rfl) (by kernel_rfl) (by kernel_rfl) (by kernel_rfl) (fun _ _ => by kernel_rfl)
theorem pin_laid_unicode_utf8_first : Tryd.pinned.checked.prog.pinnedFits "unicode/utf8.first" = true := by kernel_rfl
theorem noOwnUnsafe : Tryd.pinned.checked.prog.headLifts.contains "ownunsafe" = false := by kernel_rfl
theorem tie : Tryd.prog.laidByTextLater [("sealwax/sha.begin", Rows.laid_sealwax_sha_begin), ("sealwax/sha.round", Rows.laid_sealwax_sha_round), ("sealwax/stream.begin", Rows.laid_sealwax_stream_begin), ("sealwax/stream.quarters", Rows.laid_sealwax_stream_quarters)] [.data, .data, .widerDeep, .data] true :=
  Program.laidByTextLater.sub seatTie1 ["sealwax/sha.begin", "sealwax/sha.round", "sealwax/stream.begin", "sealwax/stream.quarters"] (by kernel_rfl) (by kernel_rfl)
theorem sealwaxLetter_row_tie : Rows.sealwaxLetterRow.laidByTextAt .later Tryd.pinned [.data, .data, .widerDeep, .data] true :=
  OpenClaim.laidByTextAt_later rfl rfl tie noOwnUnsafe
theorem sealwaxShown_row_tie : Rows.sealwaxShownRow.laidByTextAt .later Tryd.pinned [.data, .data, .widerDeep, .data] true :=
  OpenClaim.laidByTextAt_later rfl rfl tie noOwnUnsafe
theorem fits2 : Tryd.pinned.checked.prog.listedFits [("sealwax/sha.begin", Rows.laid_sealwax_sha_begin), ("sealwax/sha.round", Rows.laid_sealwax_sha_round), ("unicode/utf8.acceptRanges", Rows.laid_unicode_utf8_acceptRanges), ("unicode/utf8.first", Rows.laid_unicode_utf8_first)] = true := by
  unfold Program.listedFits
  rw [noOwnUnsafe]
  kernel_rfl
theorem tie2 : Tryd.prog.laidByTextLater [("sealwax/sha.begin", Rows.laid_sealwax_sha_begin), ("sealwax/sha.round", Rows.laid_sealwax_sha_round), ("unicode/utf8.acceptRanges", Rows.laid_unicode_utf8_acceptRanges)] [.data, .data, .data] true :=
  Program.laidByTextLater.sub seatTie1 ["sealwax/sha.begin", "sealwax/sha.round", "unicode/utf8.acceptRanges"] (by kernel_rfl) (by kernel_rfl)
theorem sealwaxPages_row_tie : Rows.sealwaxPagesRow.laidByTextAt .later Tryd.pinned [.data, .data, .data, .pinned] true :=
  OpenClaim.laidByTextAt_pinned rfl rfl tie2 rfl rfl rfl rfl (fun y hy _e => by
    simp only [Rows.sealwaxPagesRow, List.zip_cons_cons, List.zip_nil_right, List.mem_cons, List.mem_nil_iff, or_false] at hy
    rcases hy with rfl | rfl | rfl | rfl
    · cases _e
    · cases _e
    · cases _e
    · exact ⟨pin_laid_unicode_utf8_first, by kernel_rfl⟩) fits2
theorem sealwaxLetterUpto_row_tie : Rows.sealwaxLetterUptoRow.laidByTextAt .later Tryd.pinned [.data, .data, .widerDeep, .data] true :=
  OpenClaim.laidByTextAt_later rfl rfl tie noOwnUnsafe
theorem sealwaxShownUpto_row_tie : Rows.sealwaxShownUptoRow.laidByTextAt .later Tryd.pinned [.data, .data, .widerDeep, .data] true :=
  OpenClaim.laidByTextAt_later rfl rfl tie noOwnUnsafe
theorem sealwaxPagesUpto_row_tie : Rows.sealwaxPagesUptoRow.laidByTextAt .later Tryd.pinned [.data, .data, .data, .pinned] true :=
  OpenClaim.laidByTextAt_pinned rfl rfl tie2 rfl rfl rfl rfl (fun y hy _e => by
    simp only [Rows.sealwaxPagesUptoRow, List.zip_cons_cons, List.zip_nil_right, List.mem_cons, List.mem_nil_iff, or_false] at hy
    rcases hy with rfl | rfl | rfl | rfl
    · cases _e
    · cases _e
    · cases _e
    · exact ⟨pin_laid_unicode_utf8_first, by kernel_rfl⟩) fits2
end Go.Proofs.YtlhmdknfkbcdjaaDoor
