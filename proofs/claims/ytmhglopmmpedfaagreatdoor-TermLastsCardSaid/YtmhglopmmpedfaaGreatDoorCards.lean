/-
  DERIVED. GIVEN WITH THE SEED: THE CARDS: each row of YtmhglopmmpedfaaGreatDoorRows.lean that lists a variable, with what it lists TIED to the program's text (the seventh form; the later family's looks); each row that meets fmt, with fmt's text TOLD by the authors' own Lean function (tested against real Go, not proved from fmt's source: count such statements apart). THE CARD IS WHAT COUNTS. Prove the row's statement (the work); the ties are given (YtmhglopmmpedfaaGreatDoorTie.lean); close each card by the builder's one call (the guide's Derived/Test/ToyasCard.lean, 'card_holds'). Laid BY PROGRAM, IN A SANDBOX (cutbox-door.mjs). By AI agents, Wed Nov 11 2026. No macro, syntax, notation, axiom, sorry.
-/
import Derived.Test.YtmhglopmmpedfaaGreatDoorRows
import GoSem.ClaimSeven
namespace Go.Proofs.YtmhglopmmpedfaaGreatDoor
namespace Rows

/-- THE TIED CARD OF 'goodnamelaw04.TermLasts'. -/
def termLastsCard : Claim7 := { stood := { row := termLastsRow, standIns := [], harness := (true, "53110e4b57b046c407989a760f3b68e5e5121fb107135fe6330d729ce95e292d"), looks := false }, kinds := [], alts := [], laidByText := true, laidKinds := [.data, .funcs], laidTests := true, laidLooks := .later }
def TermLastsCardSaid : Prop := Claim7.holds Tryz.pinned (.plain (OpenSpec.ofChange termLastsSpec)) termLastsCard

/-- THE TIED CARD OF 'goodnamelaw04.TermShows'. -/
def termShowsCard : Claim7 := { stood := { row := termShowsRow, standIns := [], harness := (true, "53110e4b57b046c407989a760f3b68e5e5121fb107135fe6330d729ce95e292d"), looks := false }, kinds := [], alts := [], laidByText := true, laidKinds := [.data, .funcs, .funcs], laidTests := true, laidLooks := .later }
def TermShowsCardSaid : Prop := Claim7.holds Tryz.pinned (.plain (OpenSpec.ofChange termShowsSpec)) termShowsCard

/-- THE TIED CARD OF 'goodnamelaw04.TermExamples'. -/
def termExamplesCard : Claim7 := { stood := { row := termExamplesRow, standIns := [], harness := (true, "53110e4b57b046c407989a760f3b68e5e5121fb107135fe6330d729ce95e292d"), looks := false }, kinds := [], alts := [], laidByText := true, laidKinds := [.data, .funcs, .funcs], laidTests := true, laidLooks := .later }
def TermExamplesCardSaid : Prop := Claim7.holds Tryz.pinned (.plain (OpenSpec.ofChange termExamplesSpec)) termExamplesCard

/-- THE TIED CARD OF 'goodnamelaw04.TermAll'. -/
def termAllCard : Claim7 := { stood := { row := termAllRow, standIns := [], harness := (true, "53110e4b57b046c407989a760f3b68e5e5121fb107135fe6330d729ce95e292d"), looks := false }, kinds := [], alts := [], laidByText := true, laidKinds := [.data, .funcs, .funcs], laidTests := true, laidLooks := .later }
def TermAllCardSaid : Prop := Claim7.holds Tryz.pinned (.plain (OpenSpec.ofChange termAllSpec)) termAllCard

/-- THE TIED CARD OF 'goodnamelaw04.TermTold'. -/
def termToldCard : Claim7 := { stood := { row := termToldRow, standIns := [], harness := (true, "53110e4b57b046c407989a760f3b68e5e5121fb107135fe6330d729ce95e292d"), looks := false }, kinds := [], alts := [], laidByText := true, laidKinds := [.data, .funcs, .funcs], laidTests := true, laidLooks := .later }
def TermToldCardSaid : Prop := Claim7.holds Tryz.pinned (.plain (OpenSpec.ofChange termToldSpec)) termToldCard

/-- THE TIED CARD OF 'goodnamelaw04.TermBlind'. -/
def termBlindCard : Claim7 := { stood := { row := termBlindRow, standIns := [], harness := (true, "53110e4b57b046c407989a760f3b68e5e5121fb107135fe6330d729ce95e292d"), looks := false }, kinds := [], alts := [], laidByText := true, laidKinds := [.data, .funcs, .funcs], laidTests := true, laidLooks := .later }
def TermBlindCardSaid : Prop := Claim7.holds Tryz.pinned (.plain (OpenSpec.ofChange termBlindSpec)) termBlindCard

/-- THE TIED CARD OF 'goodnamelaw04.TermOrder'. -/
def termOrderCard : Claim7 := { stood := { row := termOrderRow, standIns := [], harness := (true, "53110e4b57b046c407989a760f3b68e5e5121fb107135fe6330d729ce95e292d"), looks := false }, kinds := [], alts := [], laidByText := true, laidKinds := [.data, .funcs, .funcs], laidTests := true, laidLooks := .later }
def TermOrderCardSaid : Prop := Claim7.holds Tryz.pinned (.plain (OpenSpec.ofChange termOrderSpec)) termOrderCard

/-- THE TIED CARD OF 'goodnamelaw04.TermEnds'. -/
def termEndsCard : Claim7 := { stood := { row := termEndsRow, standIns := [], harness := (true, "53110e4b57b046c407989a760f3b68e5e5121fb107135fe6330d729ce95e292d"), looks := false }, kinds := [], alts := [], laidByText := true, laidKinds := [.data, .funcs, .funcs], laidTests := true, laidLooks := .later }
def TermEndsCardSaid : Prop := Claim7.holds Tryz.pinned (.plain (OpenSpec.ofChange termEndsSpec)) termEndsCard

/-- THE TIED CARD OF 'goodnamelaw04.TermLonger'. -/
def termLongerCard : Claim7 := { stood := { row := termLongerRow, standIns := [], harness := (true, "53110e4b57b046c407989a760f3b68e5e5121fb107135fe6330d729ce95e292d"), looks := false }, kinds := [], alts := [], laidByText := true, laidKinds := [.data, .funcs, .funcs], laidTests := true, laidLooks := .later }
def TermLongerCardSaid : Prop := Claim7.holds Tryz.pinned (.plain (OpenSpec.ofChange termLongerSpec)) termLongerCard

/-- THE TIED CARD OF 'goodnamelaw04.TermSilence'. -/
def termSilenceCard : Claim7 := { stood := { row := termSilenceRow, standIns := [], harness := (true, "53110e4b57b046c407989a760f3b68e5e5121fb107135fe6330d729ce95e292d"), looks := false }, kinds := [], alts := [], laidByText := true, laidKinds := [.data, .funcs, .funcs], laidTests := true, laidLooks := .later }
def TermSilenceCardSaid : Prop := Claim7.holds Tryz.pinned (.plain (OpenSpec.ofChange termSilenceSpec)) termSilenceCard

/-- THE SECOND FORM's CARD OF 'goodnamelaw04.TermLasts'. -/
def termLastsUptoCard : Claim7 := { stood := { row := termLastsUptoRow, standIns := [], harness := (true, "53110e4b57b046c407989a760f3b68e5e5121fb107135fe6330d729ce95e292d"), looks := false }, kinds := [], alts := [], laidByText := true, laidKinds := [.data, .funcs], laidTests := true, laidLooks := .later }
def TermLastsUptoCardSaid : Prop := Claim7.holds Tryz.pinned (.plain (OpenSpec.upto termLastsSpec)) termLastsUptoCard

/-- THE SECOND FORM's CARD OF 'goodnamelaw04.TermShows'. -/
def termShowsUptoCard : Claim7 := { stood := { row := termShowsUptoRow, standIns := [], harness := (true, "53110e4b57b046c407989a760f3b68e5e5121fb107135fe6330d729ce95e292d"), looks := false }, kinds := [], alts := [], laidByText := true, laidKinds := [.data, .funcs, .funcs], laidTests := true, laidLooks := .later }
def TermShowsUptoCardSaid : Prop := Claim7.holds Tryz.pinned (.plain (OpenSpec.upto termShowsSpec)) termShowsUptoCard

/-- THE SECOND FORM's CARD OF 'goodnamelaw04.TermExamples'. -/
def termExamplesUptoCard : Claim7 := { stood := { row := termExamplesUptoRow, standIns := [], harness := (true, "53110e4b57b046c407989a760f3b68e5e5121fb107135fe6330d729ce95e292d"), looks := false }, kinds := [], alts := [], laidByText := true, laidKinds := [.data, .funcs, .funcs], laidTests := true, laidLooks := .later }
def TermExamplesUptoCardSaid : Prop := Claim7.holds Tryz.pinned (.plain (OpenSpec.upto termExamplesSpec)) termExamplesUptoCard

/-- THE SECOND FORM's CARD OF 'goodnamelaw04.TermAll'. -/
def termAllUptoCard : Claim7 := { stood := { row := termAllUptoRow, standIns := [], harness := (true, "53110e4b57b046c407989a760f3b68e5e5121fb107135fe6330d729ce95e292d"), looks := false }, kinds := [], alts := [], laidByText := true, laidKinds := [.data, .funcs, .funcs], laidTests := true, laidLooks := .later }
def TermAllUptoCardSaid : Prop := Claim7.holds Tryz.pinned (.plain (OpenSpec.upto termAllSpec)) termAllUptoCard

/-- THE SECOND FORM's CARD OF 'goodnamelaw04.TermTold'. -/
def termToldUptoCard : Claim7 := { stood := { row := termToldUptoRow, standIns := [], harness := (true, "53110e4b57b046c407989a760f3b68e5e5121fb107135fe6330d729ce95e292d"), looks := false }, kinds := [], alts := [], laidByText := true, laidKinds := [.data, .funcs, .funcs], laidTests := true, laidLooks := .later }
def TermToldUptoCardSaid : Prop := Claim7.holds Tryz.pinned (.plain (OpenSpec.upto termToldSpec)) termToldUptoCard

/-- THE SECOND FORM's CARD OF 'goodnamelaw04.TermBlind'. -/
def termBlindUptoCard : Claim7 := { stood := { row := termBlindUptoRow, standIns := [], harness := (true, "53110e4b57b046c407989a760f3b68e5e5121fb107135fe6330d729ce95e292d"), looks := false }, kinds := [], alts := [], laidByText := true, laidKinds := [.data, .funcs, .funcs], laidTests := true, laidLooks := .later }
def TermBlindUptoCardSaid : Prop := Claim7.holds Tryz.pinned (.plain (OpenSpec.upto termBlindSpec)) termBlindUptoCard

/-- THE SECOND FORM's CARD OF 'goodnamelaw04.TermOrder'. -/
def termOrderUptoCard : Claim7 := { stood := { row := termOrderUptoRow, standIns := [], harness := (true, "53110e4b57b046c407989a760f3b68e5e5121fb107135fe6330d729ce95e292d"), looks := false }, kinds := [], alts := [], laidByText := true, laidKinds := [.data, .funcs, .funcs], laidTests := true, laidLooks := .later }
def TermOrderUptoCardSaid : Prop := Claim7.holds Tryz.pinned (.plain (OpenSpec.upto termOrderSpec)) termOrderUptoCard

/-- THE SECOND FORM's CARD OF 'goodnamelaw04.TermEnds'. -/
def termEndsUptoCard : Claim7 := { stood := { row := termEndsUptoRow, standIns := [], harness := (true, "53110e4b57b046c407989a760f3b68e5e5121fb107135fe6330d729ce95e292d"), looks := false }, kinds := [], alts := [], laidByText := true, laidKinds := [.data, .funcs, .funcs], laidTests := true, laidLooks := .later }
def TermEndsUptoCardSaid : Prop := Claim7.holds Tryz.pinned (.plain (OpenSpec.upto termEndsSpec)) termEndsUptoCard

/-- THE SECOND FORM's CARD OF 'goodnamelaw04.TermLonger'. -/
def termLongerUptoCard : Claim7 := { stood := { row := termLongerUptoRow, standIns := [], harness := (true, "53110e4b57b046c407989a760f3b68e5e5121fb107135fe6330d729ce95e292d"), looks := false }, kinds := [], alts := [], laidByText := true, laidKinds := [.data, .funcs, .funcs], laidTests := true, laidLooks := .later }
def TermLongerUptoCardSaid : Prop := Claim7.holds Tryz.pinned (.plain (OpenSpec.upto termLongerSpec)) termLongerUptoCard

/-- THE SECOND FORM's CARD OF 'goodnamelaw04.TermSilence'. -/
def termSilenceUptoCard : Claim7 := { stood := { row := termSilenceUptoRow, standIns := [], harness := (true, "53110e4b57b046c407989a760f3b68e5e5121fb107135fe6330d729ce95e292d"), looks := false }, kinds := [], alts := [], laidByText := true, laidKinds := [.data, .funcs, .funcs], laidTests := true, laidLooks := .later }
def TermSilenceUptoCardSaid : Prop := Claim7.holds Tryz.pinned (.plain (OpenSpec.upto termSilenceSpec)) termSilenceUptoCard
end Rows
end Go.Proofs.YtmhglopmmpedfaaGreatDoor
