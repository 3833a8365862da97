/-
  DERIVED. GIVEN WITH THE SEED: THE PROGRAM's TIES (one call each: nine closed facts by the kernel) AND EACH ROW's TIE, after the 31st guide's Derived/Test/Toyas{Tie, Card}.lean. No idea stands in it: it is a product of the set-up. Laid BY PROGRAM, IN A SANDBOX (cutbox-door.mjs). By AI agents, Wed Nov 11 2026. No macro, syntax, notation, axiom, sorry.
-/
import Derived.Test.YtmhglopmmpedfaaGreatDoorRows
import Derived.LaidByTextLater
import Derived.SevenTiedAt
import Derived.LaidSub
import Derived.LaidOnce
namespace Go.Proofs.YtmhglopmmpedfaaGreatDoor
open Go
set_option maxRecDepth 100000
theorem seatTie1 : Tryz.prog.laidByTextLater [("goodname/account.most", Rows.laid_goodname_account_most), ("goodname/term.bases", Rows.laid_goodname_term_bases), ("goodname/term.silence", Rows.laid_goodname_term_silence)] [.data, .funcs, .funcs] true :=
  Program.laidByTextLater_by_one 39 8 11 (by kernel_rfl) (by kernel_rfl) (by kernel_rfl) (by kernel_rfl) (by kernel_rfl) (by kernel_rfl) (fun _ _ => by kernel_rfl)
theorem noOwnUnsafe : Tryz.pinned.checked.prog.headLifts.contains "ownunsafe" = false := by kernel_rfl
theorem tie : Tryz.prog.laidByTextLater [("goodname/account.most", Rows.laid_goodname_account_most), ("goodname/term.bases", Rows.laid_goodname_term_bases)] [.data, .funcs] true :=
  Program.laidByTextLater.sub seatTie1 ["goodname/account.most", "goodname/term.bases"] (by kernel_rfl) (by kernel_rfl)
theorem termLasts_row_tie : Rows.termLastsRow.laidByTextAt .later Tryz.pinned [.data, .funcs] true :=
  OpenClaim.laidByTextAt_later rfl rfl tie noOwnUnsafe
theorem tie2 : Tryz.prog.laidByTextLater [("goodname/account.most", Rows.laid_goodname_account_most), ("goodname/term.bases", Rows.laid_goodname_term_bases), ("goodname/term.silence", Rows.laid_goodname_term_silence)] [.data, .funcs, .funcs] true :=
  Program.laidByTextLater.sub seatTie1 ["goodname/account.most", "goodname/term.bases", "goodname/term.silence"] (by kernel_rfl) (by kernel_rfl)
theorem termShows_row_tie : Rows.termShowsRow.laidByTextAt .later Tryz.pinned [.data, .funcs, .funcs] true :=
  OpenClaim.laidByTextAt_later rfl rfl tie2 noOwnUnsafe
theorem termExamples_row_tie : Rows.termExamplesRow.laidByTextAt .later Tryz.pinned [.data, .funcs, .funcs] true :=
  OpenClaim.laidByTextAt_later rfl rfl tie2 noOwnUnsafe
theorem termAll_row_tie : Rows.termAllRow.laidByTextAt .later Tryz.pinned [.data, .funcs, .funcs] true :=
  OpenClaim.laidByTextAt_later rfl rfl tie2 noOwnUnsafe
theorem termTold_row_tie : Rows.termToldRow.laidByTextAt .later Tryz.pinned [.data, .funcs, .funcs] true :=
  OpenClaim.laidByTextAt_later rfl rfl tie2 noOwnUnsafe
theorem termBlind_row_tie : Rows.termBlindRow.laidByTextAt .later Tryz.pinned [.data, .funcs, .funcs] true :=
  OpenClaim.laidByTextAt_later rfl rfl tie2 noOwnUnsafe
theorem termOrder_row_tie : Rows.termOrderRow.laidByTextAt .later Tryz.pinned [.data, .funcs, .funcs] true :=
  OpenClaim.laidByTextAt_later rfl rfl tie2 noOwnUnsafe
theorem termEnds_row_tie : Rows.termEndsRow.laidByTextAt .later Tryz.pinned [.data, .funcs, .funcs] true :=
  OpenClaim.laidByTextAt_later rfl rfl tie2 noOwnUnsafe
theorem termLonger_row_tie : Rows.termLongerRow.laidByTextAt .later Tryz.pinned [.data, .funcs, .funcs] true :=
  OpenClaim.laidByTextAt_later rfl rfl tie2 noOwnUnsafe
theorem termSilence_row_tie : Rows.termSilenceRow.laidByTextAt .later Tryz.pinned [.data, .funcs, .funcs] true :=
  OpenClaim.laidByTextAt_later rfl rfl tie2 noOwnUnsafe
theorem termLastsUpto_row_tie : Rows.termLastsUptoRow.laidByTextAt .later Tryz.pinned [.data, .funcs] true :=
  OpenClaim.laidByTextAt_later rfl rfl tie noOwnUnsafe
theorem termShowsUpto_row_tie : Rows.termShowsUptoRow.laidByTextAt .later Tryz.pinned [.data, .funcs, .funcs] true :=
  OpenClaim.laidByTextAt_later rfl rfl tie2 noOwnUnsafe
theorem termExamplesUpto_row_tie : Rows.termExamplesUptoRow.laidByTextAt .later Tryz.pinned [.data, .funcs, .funcs] true :=
  OpenClaim.laidByTextAt_later rfl rfl tie2 noOwnUnsafe
theorem termAllUpto_row_tie : Rows.termAllUptoRow.laidByTextAt .later Tryz.pinned [.data, .funcs, .funcs] true :=
  OpenClaim.laidByTextAt_later rfl rfl tie2 noOwnUnsafe
theorem termToldUpto_row_tie : Rows.termToldUptoRow.laidByTextAt .later Tryz.pinned [.data, .funcs, .funcs] true :=
  OpenClaim.laidByTextAt_later rfl rfl tie2 noOwnUnsafe
theorem termBlindUpto_row_tie : Rows.termBlindUptoRow.laidByTextAt .later Tryz.pinned [.data, .funcs, .funcs] true :=
  OpenClaim.laidByTextAt_later rfl rfl tie2 noOwnUnsafe
theorem termOrderUpto_row_tie : Rows.termOrderUptoRow.laidByTextAt .later Tryz.pinned [.data, .funcs, .funcs] true :=
  OpenClaim.laidByTextAt_later rfl rfl tie2 noOwnUnsafe
theorem termEndsUpto_row_tie : Rows.termEndsUptoRow.laidByTextAt .later Tryz.pinned [.data, .funcs, .funcs] true :=
  OpenClaim.laidByTextAt_later rfl rfl tie2 noOwnUnsafe
theorem termLongerUpto_row_tie : Rows.termLongerUptoRow.laidByTextAt .later Tryz.pinned [.data, .funcs, .funcs] true :=
  OpenClaim.laidByTextAt_later rfl rfl tie2 noOwnUnsafe
theorem termSilenceUpto_row_tie : Rows.termSilenceUptoRow.laidByTextAt .later Tryz.pinned [.data, .funcs, .funcs] true :=
  OpenClaim.laidByTextAt_later rfl rfl tie2 noOwnUnsafe
end Go.Proofs.YtmhglopmmpedfaaGreatDoor
