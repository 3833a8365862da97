/-
  NARROWER THAN 'FOR EVERY INPUT', by the rows' own cells (each row's printed sentence says how): TermLasts: laid · TermShows: laid · TermExamples: laid · TermAll: laid · TermTold: laid · TermBlind: laid · TermOrder: laid · TermEnds: laid · TermLonger: laid · TermSilence: laid.
  DERIVED. THE GIVEN ROWS OF THIS SEAT. 10 by the template 'for every input the law returns true; each argument reads behind the call as it read before'; 0 by the template 'total and deterministic' (their statements: YtmhglopmmpedfaaGreatDoorTotals.lean).
  GIVEN WITH THE SEED: the statements are not yours to turn. If you find one false, say at which input.
  Laid BY PROGRAM, IN A SANDBOX (cutbox-rows.mjs): the forced cells as the released guide's own fill.sh prints them over the translation c9bc51480d7f5384… (all of the seat's roots in one cut). By AI agents, Wed Nov 11 2026. No macro, syntax, notation, axiom, sorry.
-/
import Derived.Test.YtmhglopmmpedfaaGreatDoorChecked
import GoSem.Claim
import GoSem.ClaimJoined
import GoSem.ClaimMapViews
import Derived.JoinedTies
import Derived.KernelRfl
namespace Go.Proofs.YtmhglopmmpedfaaGreatDoor
/- THE CELL 'sum', in the pinned program and in every row, IS THE sha256 OF THE DUMP (.gsa) THAT YtmhglopmmpedfaaGreatDoorProg.lean LOADS. Nothing in Lean hashes anything: it is a label: what it is worth is what the hold of that sum in a sandbox is worth. -/
noncomputable def Tryz.pinned : Pinned := { name := "ytmhglopmmpedfaagreatdoor", sum := "c9bc51480d7f5384728914ec03f5c64309684bcca94424205314598ed65592b9", checked := Tryz.checked }
namespace Rows
def none {H : Type} : Left H := { results := [], args := [] }

/- WHAT THE LISTED PACKAGE-LEVEL VARIABLES READ AS WHEN THE CALL BEGINS. Each datum BY PROGRAM (the guide's laid-datum.mjs) off the statement by which the dump's own 'gosem.cut.vars' lays the variable. In a bare row this is a premise. The card (YtmhglopmmpedfaaGreatDoorCards.lean) ties it to the program's text. -/
def laid_goodname_account_most {H : Type} : DataW H := .agg [.lit (.int .i64 0), .lit (.int .i64 0), .lit (.int .i64 1000000000000), .lit (.int .i64 1000000000000), .lit (.int .i64 1000000000000), .lit (.int .i64 10000), .lit (.int .i64 1000000000000), .lit (.int .i64 0), .lit (.int .i64 1000000000000), .lit (.int .i64 0)]
def laid_goodname_term_bases {H : Type} : DataW H := .iface "func table" (.agg [.nil, .iface "func" (.lit (.string [103, 111, 111, 100, 110, 97, 109, 101, 47, 116, 101, 114, 109, 46, 98, 97, 115, 101, 115, 36, 49])), .iface "func" (.lit (.string [103, 111, 111, 100, 110, 97, 109, 101, 47, 116, 101, 114, 109, 46, 98, 97, 115, 101, 115, 36, 50])), .iface "func" (.lit (.string [103, 111, 111, 100, 110, 97, 109, 101, 47, 116, 101, 114, 109, 46, 98, 97, 115, 101, 115, 36, 51]))])
def laid_goodname_term_silence {H : Type} : DataW H := .iface "func table" (.map [(.int .u8 0, .iface "func" (.lit (.string [103, 111, 111, 100, 110, 97, 109, 101, 47, 116, 101, 114, 109, 46, 115, 105, 108, 101, 110, 99, 101, 36, 49]))), (.int .u8 1, .iface "func" (.lit (.string [103, 111, 111, 100, 110, 97, 109, 101, 47, 116, 101, 114, 109, 46, 115, 105, 108, 101, 110, 99, 101, 36, 50]))), (.int .u8 2, .iface "func" (.lit (.string [103, 111, 111, 100, 110, 97, 109, 101, 47, 116, 101, 114, 109, 46, 115, 105, 108, 101, 110, 99, 101, 36, 51])))])

/-- 'goodnamelaw04.TermLasts': WHATEVER THE INPUT: true; the input reads as it did. -/
def termLastsSpec : ChangeSpec := { name := "termLasts", fn := fun _ => fun
  | [d1, d2, d3, d4, d5] => { results := [.lit (.bool true)], args := [d1, d2, d3, d4, d5] }
  | _ => none }
def termLastsRow : OpenClaim := { program := "ytmhglopmmpedfaagreatdoor", sum := "c9bc51480d7f5384728914ec03f5c64309684bcca94424205314598ed65592b9", func := "goodname/goodnamelaw04.TermLasts", spec := "termLasts", unfollowed := true, recurses := true, named := ["goodname/account.most", "goodname/term.bases"], plainKeys := false, apart := false, laid := [("goodname/account.most", laid_goodname_account_most), ("goodname/term.bases", laid_goodname_term_bases)] }
def TermLastsSaid : Prop := termLastsRow.holds Tryz.pinned (OpenSpec.ofChange termLastsSpec)

/-- ITS FALSE NEIGHBOUR: 'it returns false'. Refute it at one input. -/
def termLastsWrong : ChangeSpec := { name := "termLasts", fn := fun _ => fun
  | [d1, d2, d3, d4, d5] => { results := [.lit (.bool false)], args := [d1, d2, d3, d4, d5] }
  | _ => none }
def TermLastsWrongFalsely : Prop := termLastsRow.holds Tryz.pinned (OpenSpec.ofChange termLastsWrong)

/-- 'goodnamelaw04.TermShows': WHATEVER THE INPUT: true; the input reads as it did. -/
def termShowsSpec : ChangeSpec := { name := "termShows", fn := fun _ => fun
  | [d1, d2, d3, d4, d5] => { results := [.lit (.bool true)], args := [d1, d2, d3, d4, d5] }
  | _ => none }
def termShowsRow : OpenClaim := { program := "ytmhglopmmpedfaagreatdoor", sum := "c9bc51480d7f5384728914ec03f5c64309684bcca94424205314598ed65592b9", func := "goodname/goodnamelaw04.TermShows", spec := "termShows", unfollowed := true, recurses := true, named := ["goodname/term.silence", "goodname/account.most", "goodname/term.bases"], plainKeys := false, apart := false, laid := [("goodname/account.most", laid_goodname_account_most), ("goodname/term.bases", laid_goodname_term_bases), ("goodname/term.silence", laid_goodname_term_silence)] }
def TermShowsSaid : Prop := termShowsRow.holds Tryz.pinned (OpenSpec.ofChange termShowsSpec)

/-- ITS FALSE NEIGHBOUR: 'it returns false'. Refute it at one input. -/
def termShowsWrong : ChangeSpec := { name := "termShows", fn := fun _ => fun
  | [d1, d2, d3, d4, d5] => { results := [.lit (.bool false)], args := [d1, d2, d3, d4, d5] }
  | _ => none }
def TermShowsWrongFalsely : Prop := termShowsRow.holds Tryz.pinned (OpenSpec.ofChange termShowsWrong)

/-- 'goodnamelaw04.TermExamples': WHATEVER THE INPUT: true; the input reads as it did. -/
def termExamplesSpec : ChangeSpec := { name := "termExamples", fn := fun _ => fun
  | [] => { results := [.lit (.bool true)], args := [] }
  | _ => none }
def termExamplesRow : OpenClaim := { program := "ytmhglopmmpedfaagreatdoor", sum := "c9bc51480d7f5384728914ec03f5c64309684bcca94424205314598ed65592b9", func := "goodname/goodnamelaw04.TermExamples", spec := "termExamples", unfollowed := true, recurses := true, named := ["goodname/account.most", "goodname/term.bases", "goodname/term.silence"], plainKeys := false, apart := false, laid := [("goodname/account.most", laid_goodname_account_most), ("goodname/term.bases", laid_goodname_term_bases), ("goodname/term.silence", laid_goodname_term_silence)] }
def TermExamplesSaid : Prop := termExamplesRow.holds Tryz.pinned (OpenSpec.ofChange termExamplesSpec)

/-- ITS FALSE NEIGHBOUR: 'it returns false'. Refute it at one input. -/
def termExamplesWrong : ChangeSpec := { name := "termExamples", fn := fun _ => fun
  | [] => { results := [.lit (.bool false)], args := [] }
  | _ => none }
def TermExamplesWrongFalsely : Prop := termExamplesRow.holds Tryz.pinned (OpenSpec.ofChange termExamplesWrong)

/-- 'goodnamelaw04.TermAll': WHATEVER THE INPUT: true; the input reads as it did. -/
def termAllSpec : ChangeSpec := { name := "termAll", fn := fun _ => fun
  | [d1, d2, d3, d4, d5] => { results := [.lit (.bool true)], args := [d1, d2, d3, d4, d5] }
  | _ => none }
def termAllRow : OpenClaim := { program := "ytmhglopmmpedfaagreatdoor", sum := "c9bc51480d7f5384728914ec03f5c64309684bcca94424205314598ed65592b9", func := "goodname/goodnamelaw04.TermAll", spec := "termAll", unfollowed := true, recurses := true, named := ["goodname/account.most", "goodname/term.bases", "goodname/term.silence"], plainKeys := false, apart := false, laid := [("goodname/account.most", laid_goodname_account_most), ("goodname/term.bases", laid_goodname_term_bases), ("goodname/term.silence", laid_goodname_term_silence)] }
def TermAllSaid : Prop := termAllRow.holds Tryz.pinned (OpenSpec.ofChange termAllSpec)

/-- ITS FALSE NEIGHBOUR: 'it returns false'. Refute it at one input. -/
def termAllWrong : ChangeSpec := { name := "termAll", fn := fun _ => fun
  | [d1, d2, d3, d4, d5] => { results := [.lit (.bool false)], args := [d1, d2, d3, d4, d5] }
  | _ => none }
def TermAllWrongFalsely : Prop := termAllRow.holds Tryz.pinned (OpenSpec.ofChange termAllWrong)

/-- 'goodnamelaw04.TermTold': WHATEVER THE INPUT: true; the input reads as it did. -/
def termToldSpec : ChangeSpec := { name := "termTold", fn := fun _ => fun
  | [d1, d2, d3, d4, d5] => { results := [.lit (.bool true)], args := [d1, d2, d3, d4, d5] }
  | _ => none }
def termToldRow : OpenClaim := { program := "ytmhglopmmpedfaagreatdoor", sum := "c9bc51480d7f5384728914ec03f5c64309684bcca94424205314598ed65592b9", func := "goodname/goodnamelaw04.TermTold", spec := "termTold", unfollowed := true, recurses := true, named := ["goodname/account.most", "goodname/term.bases", "goodname/term.silence"], plainKeys := false, apart := false, laid := [("goodname/account.most", laid_goodname_account_most), ("goodname/term.bases", laid_goodname_term_bases), ("goodname/term.silence", laid_goodname_term_silence)] }
def TermToldSaid : Prop := termToldRow.holds Tryz.pinned (OpenSpec.ofChange termToldSpec)

/-- ITS FALSE NEIGHBOUR: 'it returns false'. Refute it at one input. -/
def termToldWrong : ChangeSpec := { name := "termTold", fn := fun _ => fun
  | [d1, d2, d3, d4, d5] => { results := [.lit (.bool false)], args := [d1, d2, d3, d4, d5] }
  | _ => none }
def TermToldWrongFalsely : Prop := termToldRow.holds Tryz.pinned (OpenSpec.ofChange termToldWrong)

/-- 'goodnamelaw04.TermBlind': WHATEVER THE INPUT: true; the input reads as it did. -/
def termBlindSpec : ChangeSpec := { name := "termBlind", fn := fun _ => fun
  | [d1, d2, d3, d4, d5, d6, d7] => { results := [.lit (.bool true)], args := [d1, d2, d3, d4, d5, d6, d7] }
  | _ => none }
def termBlindRow : OpenClaim := { program := "ytmhglopmmpedfaagreatdoor", sum := "c9bc51480d7f5384728914ec03f5c64309684bcca94424205314598ed65592b9", func := "goodname/goodnamelaw04.TermBlind", spec := "termBlind", unfollowed := true, recurses := true, named := ["goodname/account.most", "goodname/term.bases", "goodname/term.silence"], plainKeys := false, apart := false, laid := [("goodname/account.most", laid_goodname_account_most), ("goodname/term.bases", laid_goodname_term_bases), ("goodname/term.silence", laid_goodname_term_silence)] }
def TermBlindSaid : Prop := termBlindRow.holds Tryz.pinned (OpenSpec.ofChange termBlindSpec)

/-- ITS FALSE NEIGHBOUR: 'it returns false'. Refute it at one input. -/
def termBlindWrong : ChangeSpec := { name := "termBlind", fn := fun _ => fun
  | [d1, d2, d3, d4, d5, d6, d7] => { results := [.lit (.bool false)], args := [d1, d2, d3, d4, d5, d6, d7] }
  | _ => none }
def TermBlindWrongFalsely : Prop := termBlindRow.holds Tryz.pinned (OpenSpec.ofChange termBlindWrong)

/-- 'goodnamelaw04.TermOrder': WHATEVER THE INPUT: true; the input reads as it did. -/
def termOrderSpec : ChangeSpec := { name := "termOrder", fn := fun _ => fun
  | [d1, d2, d3, d4, d5, d6] => { results := [.lit (.bool true)], args := [d1, d2, d3, d4, d5, d6] }
  | _ => none }
def termOrderRow : OpenClaim := { program := "ytmhglopmmpedfaagreatdoor", sum := "c9bc51480d7f5384728914ec03f5c64309684bcca94424205314598ed65592b9", func := "goodname/goodnamelaw04.TermOrder", spec := "termOrder", unfollowed := true, recurses := true, named := ["goodname/account.most", "goodname/term.bases", "goodname/term.silence"], plainKeys := false, apart := false, laid := [("goodname/account.most", laid_goodname_account_most), ("goodname/term.bases", laid_goodname_term_bases), ("goodname/term.silence", laid_goodname_term_silence)] }
def TermOrderSaid : Prop := termOrderRow.holds Tryz.pinned (OpenSpec.ofChange termOrderSpec)

/-- ITS FALSE NEIGHBOUR: 'it returns false'. Refute it at one input. -/
def termOrderWrong : ChangeSpec := { name := "termOrder", fn := fun _ => fun
  | [d1, d2, d3, d4, d5, d6] => { results := [.lit (.bool false)], args := [d1, d2, d3, d4, d5, d6] }
  | _ => none }
def TermOrderWrongFalsely : Prop := termOrderRow.holds Tryz.pinned (OpenSpec.ofChange termOrderWrong)

/-- 'goodnamelaw04.TermEnds': WHATEVER THE INPUT: true; the input reads as it did. -/
def termEndsSpec : ChangeSpec := { name := "termEnds", fn := fun _ => fun
  | [d1, d2, d3, d4, d5, d6] => { results := [.lit (.bool true)], args := [d1, d2, d3, d4, d5, d6] }
  | _ => none }
def termEndsRow : OpenClaim := { program := "ytmhglopmmpedfaagreatdoor", sum := "c9bc51480d7f5384728914ec03f5c64309684bcca94424205314598ed65592b9", func := "goodname/goodnamelaw04.TermEnds", spec := "termEnds", unfollowed := true, recurses := true, named := ["goodname/account.most", "goodname/term.bases", "goodname/term.silence"], plainKeys := false, apart := false, laid := [("goodname/account.most", laid_goodname_account_most), ("goodname/term.bases", laid_goodname_term_bases), ("goodname/term.silence", laid_goodname_term_silence)] }
def TermEndsSaid : Prop := termEndsRow.holds Tryz.pinned (OpenSpec.ofChange termEndsSpec)

/-- ITS FALSE NEIGHBOUR: 'it returns false'. Refute it at one input. -/
def termEndsWrong : ChangeSpec := { name := "termEnds", fn := fun _ => fun
  | [d1, d2, d3, d4, d5, d6] => { results := [.lit (.bool false)], args := [d1, d2, d3, d4, d5, d6] }
  | _ => none }
def TermEndsWrongFalsely : Prop := termEndsRow.holds Tryz.pinned (OpenSpec.ofChange termEndsWrong)

/-- 'goodnamelaw04.TermLonger': WHATEVER THE INPUT: true; the input reads as it did. -/
def termLongerSpec : ChangeSpec := { name := "termLonger", fn := fun _ => fun
  | [d1, d2, d3, d4, d5, d6] => { results := [.lit (.bool true)], args := [d1, d2, d3, d4, d5, d6] }
  | _ => none }
def termLongerRow : OpenClaim := { program := "ytmhglopmmpedfaagreatdoor", sum := "c9bc51480d7f5384728914ec03f5c64309684bcca94424205314598ed65592b9", func := "goodname/goodnamelaw04.TermLonger", spec := "termLonger", unfollowed := true, recurses := true, named := ["goodname/account.most", "goodname/term.bases", "goodname/term.silence"], plainKeys := false, apart := false, laid := [("goodname/account.most", laid_goodname_account_most), ("goodname/term.bases", laid_goodname_term_bases), ("goodname/term.silence", laid_goodname_term_silence)] }
def TermLongerSaid : Prop := termLongerRow.holds Tryz.pinned (OpenSpec.ofChange termLongerSpec)

/-- ITS FALSE NEIGHBOUR: 'it returns false'. Refute it at one input. -/
def termLongerWrong : ChangeSpec := { name := "termLonger", fn := fun _ => fun
  | [d1, d2, d3, d4, d5, d6] => { results := [.lit (.bool false)], args := [d1, d2, d3, d4, d5, d6] }
  | _ => none }
def TermLongerWrongFalsely : Prop := termLongerRow.holds Tryz.pinned (OpenSpec.ofChange termLongerWrong)

/-- 'goodnamelaw04.TermSilence': WHATEVER THE INPUT: true; the input reads as it did. -/
def termSilenceSpec : ChangeSpec := { name := "termSilence", fn := fun _ => fun
  | [d1, d2, d3, d4, d5] => { results := [.lit (.bool true)], args := [d1, d2, d3, d4, d5] }
  | _ => none }
def termSilenceRow : OpenClaim := { program := "ytmhglopmmpedfaagreatdoor", sum := "c9bc51480d7f5384728914ec03f5c64309684bcca94424205314598ed65592b9", func := "goodname/goodnamelaw04.TermSilence", spec := "termSilence", unfollowed := true, recurses := true, named := ["goodname/account.most", "goodname/term.bases", "goodname/term.silence"], plainKeys := false, apart := false, laid := [("goodname/account.most", laid_goodname_account_most), ("goodname/term.bases", laid_goodname_term_bases), ("goodname/term.silence", laid_goodname_term_silence)] }
def TermSilenceSaid : Prop := termSilenceRow.holds Tryz.pinned (OpenSpec.ofChange termSilenceSpec)

/-- ITS FALSE NEIGHBOUR: 'it returns false'. Refute it at one input. -/
def termSilenceWrong : ChangeSpec := { name := "termSilence", fn := fun _ => fun
  | [d1, d2, d3, d4, d5] => { results := [.lit (.bool false)], args := [d1, d2, d3, d4, d5] }
  | _ => none }
def TermSilenceWrongFalsely : Prop := termSilenceRow.holds Tryz.pinned (OpenSpec.ofChange termSilenceWrong)

/- THE SECOND FORM. 'bulk': how many values and letters a reading holds, each counted each time it is reached (what is shared counts as often as it is met; a slice's spare places count too). A statement '..UptoSaid' is the law's where the arguments, and the package variables that the reading takes, are together of bulk at most 1048576: NARROWER than '..Said'. Prove '..Said' where nothing that the law and all that it calls make is longer than what came in: it says more and counts as full. Else prove '..UptoSaid'. A law counts once. -/
mutual
def uptoBulk {H : Type} : DataW H → Nat
  | .lit (.string bytes) => bytes.length + 1
  | .lit _ => 1
  | .nil => 1
  | .ptr d => uptoBulk d + 1
  | .slice elems spare => uptoBulkAll elems + uptoBulkAll spare + 1
  | .agg parts => uptoBulkAll parts + 1
  | .iface _ d => uptoBulk d + 1
  | .map entries => uptoBulkEntries entries + 1
  | .held _ => 1
def uptoBulkAll {H : Type} : List (DataW H) → Nat
  | [] => 0
  | d :: r => uptoBulk d + uptoBulkAll r
def uptoBulkEntries {H : Type} : List (Lit × DataW H) → Nat
  | [] => 0
  | x :: r => uptoBulkEntry x + uptoBulkEntries r
def uptoBulkEntry {H : Type} : Lit × DataW H → Nat
  | (.string bytes, d) => bytes.length + uptoBulk d + 1
  | (_, d) => uptoBulk d + 1
 end
def uptoSmall : (H : Type) → List (DataW H) → Bool := fun _ ds => decide (uptoBulkAll ds ≤ 1048576)
def OpenSpec.upto (s : _root_.Go.ChangeSpec) : _root_.Go.OpenSpec := { _root_.Go.OpenSpec.ofChange s with cond := some uptoSmall }

/-- 'goodnamelaw04.TermLasts', WHERE WHAT IT READS IS OF BULK AT MOST 1048576: true; the input reads as it did. -/
def termLastsUptoRow : OpenClaim := { program := "ytmhglopmmpedfaagreatdoor", sum := "c9bc51480d7f5384728914ec03f5c64309684bcca94424205314598ed65592b9", func := "goodname/goodnamelaw04.TermLasts", spec := "termLasts", unfollowed := true, recurses := true, named := ["goodname/account.most", "goodname/term.bases"], plainKeys := false, apart := false, laid := [("goodname/account.most", laid_goodname_account_most), ("goodname/term.bases", laid_goodname_term_bases)], narrowed := true }
def TermLastsUptoSaid : Prop := termLastsUptoRow.holds Tryz.pinned (OpenSpec.upto termLastsSpec)

/-- 'goodnamelaw04.TermShows', WHERE WHAT IT READS IS OF BULK AT MOST 1048576: true; the input reads as it did. -/
def termShowsUptoRow : OpenClaim := { program := "ytmhglopmmpedfaagreatdoor", sum := "c9bc51480d7f5384728914ec03f5c64309684bcca94424205314598ed65592b9", func := "goodname/goodnamelaw04.TermShows", spec := "termShows", unfollowed := true, recurses := true, named := ["goodname/term.silence", "goodname/account.most", "goodname/term.bases"], plainKeys := false, apart := false, laid := [("goodname/account.most", laid_goodname_account_most), ("goodname/term.bases", laid_goodname_term_bases), ("goodname/term.silence", laid_goodname_term_silence)], narrowed := true }
def TermShowsUptoSaid : Prop := termShowsUptoRow.holds Tryz.pinned (OpenSpec.upto termShowsSpec)

/-- 'goodnamelaw04.TermExamples', WHERE WHAT IT READS IS OF BULK AT MOST 1048576: true; the input reads as it did. -/
def termExamplesUptoRow : OpenClaim := { program := "ytmhglopmmpedfaagreatdoor", sum := "c9bc51480d7f5384728914ec03f5c64309684bcca94424205314598ed65592b9", func := "goodname/goodnamelaw04.TermExamples", spec := "termExamples", unfollowed := true, recurses := true, named := ["goodname/account.most", "goodname/term.bases", "goodname/term.silence"], plainKeys := false, apart := false, laid := [("goodname/account.most", laid_goodname_account_most), ("goodname/term.bases", laid_goodname_term_bases), ("goodname/term.silence", laid_goodname_term_silence)], narrowed := true }
def TermExamplesUptoSaid : Prop := termExamplesUptoRow.holds Tryz.pinned (OpenSpec.upto termExamplesSpec)

/-- 'goodnamelaw04.TermAll', WHERE WHAT IT READS IS OF BULK AT MOST 1048576: true; the input reads as it did. -/
def termAllUptoRow : OpenClaim := { program := "ytmhglopmmpedfaagreatdoor", sum := "c9bc51480d7f5384728914ec03f5c64309684bcca94424205314598ed65592b9", func := "goodname/goodnamelaw04.TermAll", spec := "termAll", unfollowed := true, recurses := true, named := ["goodname/account.most", "goodname/term.bases", "goodname/term.silence"], plainKeys := false, apart := false, laid := [("goodname/account.most", laid_goodname_account_most), ("goodname/term.bases", laid_goodname_term_bases), ("goodname/term.silence", laid_goodname_term_silence)], narrowed := true }
def TermAllUptoSaid : Prop := termAllUptoRow.holds Tryz.pinned (OpenSpec.upto termAllSpec)

/-- 'goodnamelaw04.TermTold', WHERE WHAT IT READS IS OF BULK AT MOST 1048576: true; the input reads as it did. -/
def termToldUptoRow : OpenClaim := { program := "ytmhglopmmpedfaagreatdoor", sum := "c9bc51480d7f5384728914ec03f5c64309684bcca94424205314598ed65592b9", func := "goodname/goodnamelaw04.TermTold", spec := "termTold", unfollowed := true, recurses := true, named := ["goodname/account.most", "goodname/term.bases", "goodname/term.silence"], plainKeys := false, apart := false, laid := [("goodname/account.most", laid_goodname_account_most), ("goodname/term.bases", laid_goodname_term_bases), ("goodname/term.silence", laid_goodname_term_silence)], narrowed := true }
def TermToldUptoSaid : Prop := termToldUptoRow.holds Tryz.pinned (OpenSpec.upto termToldSpec)

/-- 'goodnamelaw04.TermBlind', WHERE WHAT IT READS IS OF BULK AT MOST 1048576: true; the input reads as it did. -/
def termBlindUptoRow : OpenClaim := { program := "ytmhglopmmpedfaagreatdoor", sum := "c9bc51480d7f5384728914ec03f5c64309684bcca94424205314598ed65592b9", func := "goodname/goodnamelaw04.TermBlind", spec := "termBlind", unfollowed := true, recurses := true, named := ["goodname/account.most", "goodname/term.bases", "goodname/term.silence"], plainKeys := false, apart := false, laid := [("goodname/account.most", laid_goodname_account_most), ("goodname/term.bases", laid_goodname_term_bases), ("goodname/term.silence", laid_goodname_term_silence)], narrowed := true }
def TermBlindUptoSaid : Prop := termBlindUptoRow.holds Tryz.pinned (OpenSpec.upto termBlindSpec)

/-- 'goodnamelaw04.TermOrder', WHERE WHAT IT READS IS OF BULK AT MOST 1048576: true; the input reads as it did. -/
def termOrderUptoRow : OpenClaim := { program := "ytmhglopmmpedfaagreatdoor", sum := "c9bc51480d7f5384728914ec03f5c64309684bcca94424205314598ed65592b9", func := "goodname/goodnamelaw04.TermOrder", spec := "termOrder", unfollowed := true, recurses := true, named := ["goodname/account.most", "goodname/term.bases", "goodname/term.silence"], plainKeys := false, apart := false, laid := [("goodname/account.most", laid_goodname_account_most), ("goodname/term.bases", laid_goodname_term_bases), ("goodname/term.silence", laid_goodname_term_silence)], narrowed := true }
def TermOrderUptoSaid : Prop := termOrderUptoRow.holds Tryz.pinned (OpenSpec.upto termOrderSpec)

/-- 'goodnamelaw04.TermEnds', WHERE WHAT IT READS IS OF BULK AT MOST 1048576: true; the input reads as it did. -/
def termEndsUptoRow : OpenClaim := { program := "ytmhglopmmpedfaagreatdoor", sum := "c9bc51480d7f5384728914ec03f5c64309684bcca94424205314598ed65592b9", func := "goodname/goodnamelaw04.TermEnds", spec := "termEnds", unfollowed := true, recurses := true, named := ["goodname/account.most", "goodname/term.bases", "goodname/term.silence"], plainKeys := false, apart := false, laid := [("goodname/account.most", laid_goodname_account_most), ("goodname/term.bases", laid_goodname_term_bases), ("goodname/term.silence", laid_goodname_term_silence)], narrowed := true }
def TermEndsUptoSaid : Prop := termEndsUptoRow.holds Tryz.pinned (OpenSpec.upto termEndsSpec)

/-- 'goodnamelaw04.TermLonger', WHERE WHAT IT READS IS OF BULK AT MOST 1048576: true; the input reads as it did. -/
def termLongerUptoRow : OpenClaim := { program := "ytmhglopmmpedfaagreatdoor", sum := "c9bc51480d7f5384728914ec03f5c64309684bcca94424205314598ed65592b9", func := "goodname/goodnamelaw04.TermLonger", spec := "termLonger", unfollowed := true, recurses := true, named := ["goodname/account.most", "goodname/term.bases", "goodname/term.silence"], plainKeys := false, apart := false, laid := [("goodname/account.most", laid_goodname_account_most), ("goodname/term.bases", laid_goodname_term_bases), ("goodname/term.silence", laid_goodname_term_silence)], narrowed := true }
def TermLongerUptoSaid : Prop := termLongerUptoRow.holds Tryz.pinned (OpenSpec.upto termLongerSpec)

/-- 'goodnamelaw04.TermSilence', WHERE WHAT IT READS IS OF BULK AT MOST 1048576: true; the input reads as it did. -/
def termSilenceUptoRow : OpenClaim := { program := "ytmhglopmmpedfaagreatdoor", sum := "c9bc51480d7f5384728914ec03f5c64309684bcca94424205314598ed65592b9", func := "goodname/goodnamelaw04.TermSilence", spec := "termSilence", unfollowed := true, recurses := true, named := ["goodname/account.most", "goodname/term.bases", "goodname/term.silence"], plainKeys := false, apart := false, laid := [("goodname/account.most", laid_goodname_account_most), ("goodname/term.bases", laid_goodname_term_bases), ("goodname/term.silence", laid_goodname_term_silence)], narrowed := true }
def TermSilenceUptoSaid : Prop := termSilenceUptoRow.holds Tryz.pinned (OpenSpec.upto termSilenceSpec)

end Rows
end Go.Proofs.YtmhglopmmpedfaaGreatDoor
