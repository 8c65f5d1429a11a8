/-
  NARROWER THAN 'FOR EVERY INPUT', by the rows' own cells (each row's printed sentence says how): NotationFree: loops.
  DERIVED. THE GIVEN ROWS OF THIS SEAT. 19 by the template 'for every input the law returns true; each argument reads behind the call as it read before'; 0 by the template 'total and deterministic' (their statements: YtmhamnnfcmkcfaaTotals.lean).
  GIVEN WITH THE SEED: the statements are not yours to turn. If you find one false, say at which input.
  Laid BY PROGRAM, IN A SANDBOX (cutbox-rows.mjs): the forced cells as the released guide's own fill.sh prints them over the translation b99f7bf3d85f2899… (all of the seat's roots in one cut). By AI agents, Wed Nov 11 2026. No macro, syntax, notation, axiom, sorry.
-/
import Derived.Test.YtmhamnnfcmkcfaaChecked
import GoSem.Claim
import GoSem.ClaimJoined
import GoSem.ClaimMapViews
import Derived.JoinedTies
import Derived.KernelRfl
namespace Go.Proofs.Ytmhamnnfcmkcfaa
/- THE CELL 'sum', in the pinned program and in every row, IS THE sha256 OF THE DUMP (.gsa) THAT YtmhamnnfcmkcfaaProg.lean LOADS. Nothing in Lean hashes anything: it is a label: what it is worth is what the hold of that sum in a sandbox is worth. -/
noncomputable def Try.pinned : Pinned := { name := "ytmhamnnfcmkcfaa", sum := "b99f7bf3d85f2899bd6f275ac2e62c61f3edaefdec7a51010c604fb1a501035e", checked := Try.checked }
namespace Rows
def none {H : Type} : Left H := { results := [], args := [] }

/-- 'purflelaw08.LexerBack': WHATEVER THE INPUT: true; the input reads as it did. -/
def lexerBackSpec : ChangeSpec := { name := "lexerBack", fn := fun _ => fun
  | [d1, d2] => { results := [.lit (.bool true)], args := [d1, d2] }
  | _ => none }
def lexerBackRow : OpenClaim := { program := "ytmhamnnfcmkcfaa", sum := "b99f7bf3d85f2899bd6f275ac2e62c61f3edaefdec7a51010c604fb1a501035e", func := "purfle/purflelaw08.LexerBack", spec := "lexerBack", inPlace := ["internal/bytealg.IndexByteString", "internal/abi.NoEscape"], apart := false }
def LexerBackSaid : Prop := lexerBackRow.holds Try.pinned (OpenSpec.ofChange lexerBackSpec)

/-- ITS FALSE NEIGHBOUR: 'it returns false'. Refute it at one input. -/
def lexerBackWrong : ChangeSpec := { name := "lexerBack", fn := fun _ => fun
  | [d1, d2] => { results := [.lit (.bool false)], args := [d1, d2] }
  | _ => none }
def LexerBackWrongFalsely : Prop := lexerBackRow.holds Try.pinned (OpenSpec.ofChange lexerBackWrong)

/-- 'purflelaw08.LexerJoins': WHATEVER THE INPUT: true; the input reads as it did. -/
def lexerJoinsSpec : ChangeSpec := { name := "lexerJoins", fn := fun _ => fun
  | [d] => { results := [.lit (.bool true)], args := [d] }
  | _ => none }
def lexerJoinsRow : OpenClaim := { program := "ytmhamnnfcmkcfaa", sum := "b99f7bf3d85f2899bd6f275ac2e62c61f3edaefdec7a51010c604fb1a501035e", func := "purfle/purflelaw08.LexerJoins", spec := "lexerJoins", inPlace := ["internal/bytealg.IndexByteString", "internal/abi.NoEscape"], unfollowed := true, recurses := true, apart := false }
def LexerJoinsSaid : Prop := lexerJoinsRow.holds Try.pinned (OpenSpec.ofChange lexerJoinsSpec)

/-- ITS FALSE NEIGHBOUR: 'it returns false'. Refute it at one input. -/
def lexerJoinsWrong : ChangeSpec := { name := "lexerJoins", fn := fun _ => fun
  | [d] => { results := [.lit (.bool false)], args := [d] }
  | _ => none }
def LexerJoinsWrongFalsely : Prop := lexerJoinsRow.holds Try.pinned (OpenSpec.ofChange lexerJoinsWrong)

/-- 'purflelaw14.CodeReads': WHATEVER THE INPUT: true; the input reads as it did. -/
def codeReadsSpec : ChangeSpec := { name := "codeReads", fn := fun _ => fun
  | [d] => { results := [.lit (.bool true)], args := [d] }
  | _ => none }
def codeReadsRow : OpenClaim := { program := "ytmhamnnfcmkcfaa", sum := "b99f7bf3d85f2899bd6f275ac2e62c61f3edaefdec7a51010c604fb1a501035e", func := "purfle/purflelaw14.CodeReads", spec := "codeReads", inPlace := ["internal/bytealg.IndexByteString"], unfollowed := true, recurses := true, apart := false }
def CodeReadsSaid : Prop := codeReadsRow.holds Try.pinned (OpenSpec.ofChange codeReadsSpec)

/-- ITS FALSE NEIGHBOUR: 'it returns false'. Refute it at one input. -/
def codeReadsWrong : ChangeSpec := { name := "codeReads", fn := fun _ => fun
  | [d] => { results := [.lit (.bool false)], args := [d] }
  | _ => none }
def CodeReadsWrongFalsely : Prop := codeReadsRow.holds Try.pinned (OpenSpec.ofChange codeReadsWrong)

/-- 'purflelaw14.CodeBends': WHATEVER THE INPUT: true; the input reads as it did. -/
def codeBendsSpec : ChangeSpec := { name := "codeBends", fn := fun _ => fun
  | [d] => { results := [.lit (.bool true)], args := [d] }
  | _ => none }
def codeBendsRow : OpenClaim := { program := "ytmhamnnfcmkcfaa", sum := "b99f7bf3d85f2899bd6f275ac2e62c61f3edaefdec7a51010c604fb1a501035e", func := "purfle/purflelaw14.CodeBends", spec := "codeBends", inPlace := ["internal/bytealg.IndexByteString"], unfollowed := true, recurses := true, apart := false }
def CodeBendsSaid : Prop := codeBendsRow.holds Try.pinned (OpenSpec.ofChange codeBendsSpec)

/-- ITS FALSE NEIGHBOUR: 'it returns false'. Refute it at one input. -/
def codeBendsWrong : ChangeSpec := { name := "codeBends", fn := fun _ => fun
  | [d] => { results := [.lit (.bool false)], args := [d] }
  | _ => none }
def CodeBendsWrongFalsely : Prop := codeBendsRow.holds Try.pinned (OpenSpec.ofChange codeBendsWrong)

/-- 'purflelaw14.CodeShifts': WHATEVER THE INPUT: true; the input reads as it did. -/
def codeShiftsSpec : ChangeSpec := { name := "codeShifts", fn := fun _ => fun
  | [d1, d2, d3] => { results := [.lit (.bool true)], args := [d1, d2, d3] }
  | _ => none }
def codeShiftsRow : OpenClaim := { program := "ytmhamnnfcmkcfaa", sum := "b99f7bf3d85f2899bd6f275ac2e62c61f3edaefdec7a51010c604fb1a501035e", func := "purfle/purflelaw14.CodeShifts", spec := "codeShifts", inPlace := ["internal/bytealg.IndexByteString"], unfollowed := true, recurses := true, apart := false }
def CodeShiftsSaid : Prop := codeShiftsRow.holds Try.pinned (OpenSpec.ofChange codeShiftsSpec)

/-- ITS FALSE NEIGHBOUR: 'it returns false'. Refute it at one input. -/
def codeShiftsWrong : ChangeSpec := { name := "codeShifts", fn := fun _ => fun
  | [d1, d2, d3] => { results := [.lit (.bool false)], args := [d1, d2, d3] }
  | _ => none }
def CodeShiftsWrongFalsely : Prop := codeShiftsRow.holds Try.pinned (OpenSpec.ofChange codeShiftsWrong)

/-- 'purflelaw09.NotationParses': WHATEVER THE INPUT: true; the input reads as it did. -/
def notationParsesSpec : ChangeSpec := { name := "notationParses", fn := fun _ => fun
  | [d] => { results := [.lit (.bool true)], args := [d] }
  | _ => none }
def notationParsesRow : OpenClaim := { program := "ytmhamnnfcmkcfaa", sum := "b99f7bf3d85f2899bd6f275ac2e62c61f3edaefdec7a51010c604fb1a501035e", func := "purfle/purflelaw09.NotationParses", spec := "notationParses", inPlace := ["internal/bytealg.IndexByteString"], unfollowed := true, recurses := true, apart := false }
def NotationParsesSaid : Prop := notationParsesRow.holds Try.pinned (OpenSpec.ofChange notationParsesSpec)

/-- ITS FALSE NEIGHBOUR: 'it returns false'. Refute it at one input. -/
def notationParsesWrong : ChangeSpec := { name := "notationParses", fn := fun _ => fun
  | [d] => { results := [.lit (.bool false)], args := [d] }
  | _ => none }
def NotationParsesWrongFalsely : Prop := notationParsesRow.holds Try.pinned (OpenSpec.ofChange notationParsesWrong)

/-- 'purflelaw09.NotationFree': WHATEVER THE INPUT: true; the input reads as it did. -/
def notationFreeSpec : ChangeSpec := { name := "notationFree", fn := fun _ => fun
  | [d1, d2, d3] => { results := [.lit (.bool true)], args := [d1, d2, d3] }
  | _ => none }
def notationFreeRow : OpenClaim := { program := "ytmhamnnfcmkcfaa", sum := "b99f7bf3d85f2899bd6f275ac2e62c61f3edaefdec7a51010c604fb1a501035e", func := "purfle/purflelaw09.NotationFree", spec := "notationFree", inPlace := ["internal/bytealg.IndexByteString"], unfollowed := true, recurses := true, loops := true, apart := false }
def NotationFreeSaid : Prop := notationFreeRow.holds Try.pinned (OpenSpec.ofChange notationFreeSpec)

/-- ITS FALSE NEIGHBOUR: 'it returns false'. Refute it at one input. -/
def notationFreeWrong : ChangeSpec := { name := "notationFree", fn := fun _ => fun
  | [d1, d2, d3] => { results := [.lit (.bool false)], args := [d1, d2, d3] }
  | _ => none }
def NotationFreeWrongFalsely : Prop := notationFreeRow.holds Try.pinned (OpenSpec.ofChange notationFreeWrong)

/-- 'purflelaw15.ValidEnds': WHATEVER THE INPUT: true; the input reads as it did. -/
def validEndsSpec : ChangeSpec := { name := "validEnds", fn := fun _ => fun
  | [d1, d2] => { results := [.lit (.bool true)], args := [d1, d2] }
  | _ => none }
def validEndsRow : OpenClaim := { program := "ytmhamnnfcmkcfaa", sum := "b99f7bf3d85f2899bd6f275ac2e62c61f3edaefdec7a51010c604fb1a501035e", func := "purfle/purflelaw15.ValidEnds", spec := "validEnds", inPlace := ["internal/bytealg.IndexByteString"], unfollowed := true, recurses := true, apart := false }
def ValidEndsSaid : Prop := validEndsRow.holds Try.pinned (OpenSpec.ofChange validEndsSpec)

/-- ITS FALSE NEIGHBOUR: 'it returns false'. Refute it at one input. -/
def validEndsWrong : ChangeSpec := { name := "validEnds", fn := fun _ => fun
  | [d1, d2] => { results := [.lit (.bool false)], args := [d1, d2] }
  | _ => none }
def ValidEndsWrongFalsely : Prop := validEndsRow.holds Try.pinned (OpenSpec.ofChange validEndsWrong)

/-- 'purflelaw15.ValidWays': WHATEVER THE INPUT: true; the input reads as it did. -/
def validWaysSpec : ChangeSpec := { name := "validWays", fn := fun _ => fun
  | [d1, d2] => { results := [.lit (.bool true)], args := [d1, d2] }
  | _ => none }
def validWaysRow : OpenClaim := { program := "ytmhamnnfcmkcfaa", sum := "b99f7bf3d85f2899bd6f275ac2e62c61f3edaefdec7a51010c604fb1a501035e", func := "purfle/purflelaw15.ValidWays", spec := "validWays", inPlace := ["internal/bytealg.IndexByteString"], unfollowed := true, recurses := true, apart := false }
def ValidWaysSaid : Prop := validWaysRow.holds Try.pinned (OpenSpec.ofChange validWaysSpec)

/-- ITS FALSE NEIGHBOUR: 'it returns false'. Refute it at one input. -/
def validWaysWrong : ChangeSpec := { name := "validWays", fn := fun _ => fun
  | [d1, d2] => { results := [.lit (.bool false)], args := [d1, d2] }
  | _ => none }
def ValidWaysWrongFalsely : Prop := validWaysRow.holds Try.pinned (OpenSpec.ofChange validWaysWrong)

/-- 'purflelaw14.CodeBack': WHATEVER THE INPUT: true; the input reads as it did. -/
def codeBackSpec : ChangeSpec := { name := "codeBack", fn := fun _ => fun
  | [d1, d2] => { results := [.lit (.bool true)], args := [d1, d2] }
  | _ => none }
def codeBackRow : OpenClaim := { program := "ytmhamnnfcmkcfaa", sum := "b99f7bf3d85f2899bd6f275ac2e62c61f3edaefdec7a51010c604fb1a501035e", func := "purfle/purflelaw14.CodeBack", spec := "codeBack", inPlace := ["internal/bytealg.IndexByteString", "internal/abi.NoEscape"], unfollowed := true, recurses := true, apart := false }
def CodeBackSaid : Prop := codeBackRow.holds Try.pinned (OpenSpec.ofChange codeBackSpec)

/-- ITS FALSE NEIGHBOUR: 'it returns false'. Refute it at one input. -/
def codeBackWrong : ChangeSpec := { name := "codeBack", fn := fun _ => fun
  | [d1, d2] => { results := [.lit (.bool false)], args := [d1, d2] }
  | _ => none }
def CodeBackWrongFalsely : Prop := codeBackRow.holds Try.pinned (OpenSpec.ofChange codeBackWrong)

/-- 'purflelaw14.CodeLines': WHATEVER THE INPUT: true; the input reads as it did. -/
def codeLinesSpec : ChangeSpec := { name := "codeLines", fn := fun _ => fun
  | [d] => { results := [.lit (.bool true)], args := [d] }
  | _ => none }
def codeLinesRow : OpenClaim := { program := "ytmhamnnfcmkcfaa", sum := "b99f7bf3d85f2899bd6f275ac2e62c61f3edaefdec7a51010c604fb1a501035e", func := "purfle/purflelaw14.CodeLines", spec := "codeLines", inPlace := ["internal/bytealg.IndexByteString", "internal/abi.NoEscape"], unfollowed := true, recurses := true, apart := false }
def CodeLinesSaid : Prop := codeLinesRow.holds Try.pinned (OpenSpec.ofChange codeLinesSpec)

/-- ITS FALSE NEIGHBOUR: 'it returns false'. Refute it at one input. -/
def codeLinesWrong : ChangeSpec := { name := "codeLines", fn := fun _ => fun
  | [d] => { results := [.lit (.bool false)], args := [d] }
  | _ => none }
def CodeLinesWrongFalsely : Prop := codeLinesRow.holds Try.pinned (OpenSpec.ofChange codeLinesWrong)

/-- 'purflelaw15.ValidTrims': WHATEVER THE INPUT: true; the input reads as it did. -/
def validTrimsSpec : ChangeSpec := { name := "validTrims", fn := fun _ => fun
  | [d1, d2] => { results := [.lit (.bool true)], args := [d1, d2] }
  | _ => none }
def validTrimsRow : OpenClaim := { program := "ytmhamnnfcmkcfaa", sum := "b99f7bf3d85f2899bd6f275ac2e62c61f3edaefdec7a51010c604fb1a501035e", func := "purfle/purflelaw15.ValidTrims", spec := "validTrims", inPlace := ["internal/bytealg.IndexByteString"], unfollowed := true, recurses := true, apart := false }
def ValidTrimsSaid : Prop := validTrimsRow.holds Try.pinned (OpenSpec.ofChange validTrimsSpec)

/-- ITS FALSE NEIGHBOUR: 'it returns false'. Refute it at one input. -/
def validTrimsWrong : ChangeSpec := { name := "validTrims", fn := fun _ => fun
  | [d1, d2] => { results := [.lit (.bool false)], args := [d1, d2] }
  | _ => none }
def ValidTrimsWrongFalsely : Prop := validTrimsRow.holds Try.pinned (OpenSpec.ofChange validTrimsWrong)

/-- 'purflelaw15.ValidShifts': WHATEVER THE INPUT: true; the input reads as it did. -/
def validShiftsSpec : ChangeSpec := { name := "validShifts", fn := fun _ => fun
  | [d1, d2] => { results := [.lit (.bool true)], args := [d1, d2] }
  | _ => none }
def validShiftsRow : OpenClaim := { program := "ytmhamnnfcmkcfaa", sum := "b99f7bf3d85f2899bd6f275ac2e62c61f3edaefdec7a51010c604fb1a501035e", func := "purfle/purflelaw15.ValidShifts", spec := "validShifts", inPlace := ["internal/bytealg.IndexByteString"], unfollowed := true, recurses := true, apart := false }
def ValidShiftsSaid : Prop := validShiftsRow.holds Try.pinned (OpenSpec.ofChange validShiftsSpec)

/-- ITS FALSE NEIGHBOUR: 'it returns false'. Refute it at one input. -/
def validShiftsWrong : ChangeSpec := { name := "validShifts", fn := fun _ => fun
  | [d1, d2] => { results := [.lit (.bool false)], args := [d1, d2] }
  | _ => none }
def ValidShiftsWrongFalsely : Prop := validShiftsRow.holds Try.pinned (OpenSpec.ofChange validShiftsWrong)

/-- 'purflelaw15.ValidTells': WHATEVER THE INPUT: true; the input reads as it did. -/
def validTellsSpec : ChangeSpec := { name := "validTells", fn := fun _ => fun
  | [d] => { results := [.lit (.bool true)], args := [d] }
  | _ => none }
def validTellsRow : OpenClaim := { program := "ytmhamnnfcmkcfaa", sum := "b99f7bf3d85f2899bd6f275ac2e62c61f3edaefdec7a51010c604fb1a501035e", func := "purfle/purflelaw15.ValidTells", spec := "validTells", inPlace := ["internal/bytealg.IndexByteString"], unfollowed := true, recurses := true, apart := false }
def ValidTellsSaid : Prop := validTellsRow.holds Try.pinned (OpenSpec.ofChange validTellsSpec)

/-- ITS FALSE NEIGHBOUR: 'it returns false'. Refute it at one input. -/
def validTellsWrong : ChangeSpec := { name := "validTells", fn := fun _ => fun
  | [d] => { results := [.lit (.bool false)], args := [d] }
  | _ => none }
def ValidTellsWrongFalsely : Prop := validTellsRow.holds Try.pinned (OpenSpec.ofChange validTellsWrong)

/-- 'purflelaw14.CodeTells': WHATEVER THE INPUT: true; the input reads as it did. -/
def codeTellsSpec : ChangeSpec := { name := "codeTells", fn := fun _ => fun
  | [d1, d2, d3, d4, d5] => { results := [.lit (.bool true)], args := [d1, d2, d3, d4, d5] }
  | _ => none }
def codeTellsRow : OpenClaim := { program := "ytmhamnnfcmkcfaa", sum := "b99f7bf3d85f2899bd6f275ac2e62c61f3edaefdec7a51010c604fb1a501035e", func := "purfle/purflelaw14.CodeTells", spec := "codeTells", inPlace := ["internal/bytealg.IndexByteString", "internal/abi.NoEscape"], unfollowed := true, recurses := true, apart := false }
def CodeTellsSaid : Prop := codeTellsRow.holds Try.pinned (OpenSpec.ofChange codeTellsSpec)

/-- ITS FALSE NEIGHBOUR: 'it returns false'. Refute it at one input. -/
def codeTellsWrong : ChangeSpec := { name := "codeTells", fn := fun _ => fun
  | [d1, d2, d3, d4, d5] => { results := [.lit (.bool false)], args := [d1, d2, d3, d4, d5] }
  | _ => none }
def CodeTellsWrongFalsely : Prop := codeTellsRow.holds Try.pinned (OpenSpec.ofChange codeTellsWrong)

/-- 'purflelaw16.RunSafe': WHATEVER THE INPUT: true; the input reads as it did. -/
def runSafeSpec : ChangeSpec := { name := "runSafe", fn := fun _ => fun
  | [d1, d2, d3, d4] => { results := [.lit (.bool true)], args := [d1, d2, d3, d4] }
  | _ => none }
def runSafeRow : OpenClaim := { program := "ytmhamnnfcmkcfaa", sum := "b99f7bf3d85f2899bd6f275ac2e62c61f3edaefdec7a51010c604fb1a501035e", func := "purfle/purflelaw16.RunSafe", spec := "runSafe", inPlace := ["internal/bytealg.IndexByteString"], unfollowed := true, recurses := true, apart := false }
def RunSafeSaid : Prop := runSafeRow.holds Try.pinned (OpenSpec.ofChange runSafeSpec)

/-- ITS FALSE NEIGHBOUR: 'it returns false'. Refute it at one input. -/
def runSafeWrong : ChangeSpec := { name := "runSafe", fn := fun _ => fun
  | [d1, d2, d3, d4] => { results := [.lit (.bool false)], args := [d1, d2, d3, d4] }
  | _ => none }
def RunSafeWrongFalsely : Prop := runSafeRow.holds Try.pinned (OpenSpec.ofChange runSafeWrong)

/-- 'purflelaw16.RunStraight': WHATEVER THE INPUT: true; the input reads as it did. -/
def runStraightSpec : ChangeSpec := { name := "runStraight", fn := fun _ => fun
  | [d] => { results := [.lit (.bool true)], args := [d] }
  | _ => none }
def runStraightRow : OpenClaim := { program := "ytmhamnnfcmkcfaa", sum := "b99f7bf3d85f2899bd6f275ac2e62c61f3edaefdec7a51010c604fb1a501035e", func := "purfle/purflelaw16.RunStraight", spec := "runStraight", inPlace := ["internal/bytealg.IndexByteString"], unfollowed := true, recurses := true, apart := false }
def RunStraightSaid : Prop := runStraightRow.holds Try.pinned (OpenSpec.ofChange runStraightSpec)

/-- ITS FALSE NEIGHBOUR: 'it returns false'. Refute it at one input. -/
def runStraightWrong : ChangeSpec := { name := "runStraight", fn := fun _ => fun
  | [d] => { results := [.lit (.bool false)], args := [d] }
  | _ => none }
def RunStraightWrongFalsely : Prop := runStraightRow.holds Try.pinned (OpenSpec.ofChange runStraightWrong)

/-- 'purflelaw16.RunEnds': WHATEVER THE INPUT: true; the input reads as it did. -/
def runEndsSpec : ChangeSpec := { name := "runEnds", fn := fun _ => fun
  | [d1, d2] => { results := [.lit (.bool true)], args := [d1, d2] }
  | _ => none }
def runEndsRow : OpenClaim := { program := "ytmhamnnfcmkcfaa", sum := "b99f7bf3d85f2899bd6f275ac2e62c61f3edaefdec7a51010c604fb1a501035e", func := "purfle/purflelaw16.RunEnds", spec := "runEnds", inPlace := ["internal/bytealg.IndexByteString"], unfollowed := true, recurses := true, apart := false }
def RunEndsSaid : Prop := runEndsRow.holds Try.pinned (OpenSpec.ofChange runEndsSpec)

/-- ITS FALSE NEIGHBOUR: 'it returns false'. Refute it at one input. -/
def runEndsWrong : ChangeSpec := { name := "runEnds", fn := fun _ => fun
  | [d1, d2] => { results := [.lit (.bool false)], args := [d1, d2] }
  | _ => none }
def RunEndsWrongFalsely : Prop := runEndsRow.holds Try.pinned (OpenSpec.ofChange runEndsWrong)

/-- 'purflelaw16.RunPath': WHATEVER THE INPUT: true; the input reads as it did. -/
def runPathSpec : ChangeSpec := { name := "runPath", fn := fun _ => fun
  | [d1, d2] => { results := [.lit (.bool true)], args := [d1, d2] }
  | _ => none }
def runPathRow : OpenClaim := { program := "ytmhamnnfcmkcfaa", sum := "b99f7bf3d85f2899bd6f275ac2e62c61f3edaefdec7a51010c604fb1a501035e", func := "purfle/purflelaw16.RunPath", spec := "runPath", inPlace := ["internal/bytealg.IndexByteString"], unfollowed := true, recurses := true, apart := false }
def RunPathSaid : Prop := runPathRow.holds Try.pinned (OpenSpec.ofChange runPathSpec)

/-- ITS FALSE NEIGHBOUR: 'it returns false'. Refute it at one input. -/
def runPathWrong : ChangeSpec := { name := "runPath", fn := fun _ => fun
  | [d1, d2] => { results := [.lit (.bool false)], args := [d1, d2] }
  | _ => none }
def RunPathWrongFalsely : Prop := runPathRow.holds Try.pinned (OpenSpec.ofChange runPathWrong)

/- THE SECOND FORM. 'bulk': how many values and letters a reading holds, each counted each time it is reached (what is shared counts as often as it is met; a slice's spare places count too). A statement '..UptoSaid' is the law's where the arguments, and the package variables that the reading takes, are together of bulk at most 1048576: NARROWER than '..Said'. Prove '..Said' where nothing that the law and all that it calls make is longer than what came in: it says more and counts as full. Else prove '..UptoSaid'. A law counts once. -/
mutual
def uptoBulk {H : Type} : DataW H → Nat
  | .lit (.string bytes) => bytes.length + 1
  | .lit _ => 1
  | .nil => 1
  | .ptr d => uptoBulk d + 1
  | .slice elems spare => uptoBulkAll elems + uptoBulkAll spare + 1
  | .agg parts => uptoBulkAll parts + 1
  | .iface _ d => uptoBulk d + 1
  | .map entries => uptoBulkEntries entries + 1
  | .held _ => 1
def uptoBulkAll {H : Type} : List (DataW H) → Nat
  | [] => 0
  | d :: r => uptoBulk d + uptoBulkAll r
def uptoBulkEntries {H : Type} : List (Lit × DataW H) → Nat
  | [] => 0
  | x :: r => uptoBulkEntry x + uptoBulkEntries r
def uptoBulkEntry {H : Type} : Lit × DataW H → Nat
  | (.string bytes, d) => bytes.length + uptoBulk d + 1
  | (_, d) => uptoBulk d + 1
 end
def uptoSmall : (H : Type) → List (DataW H) → Bool := fun _ ds => decide (uptoBulkAll ds ≤ 1048576)
def OpenSpec.upto (s : _root_.Go.ChangeSpec) : _root_.Go.OpenSpec := { _root_.Go.OpenSpec.ofChange s with cond := some uptoSmall }

/-- 'purflelaw08.LexerBack', WHERE WHAT IT READS IS OF BULK AT MOST 1048576: true; the input reads as it did. -/
def lexerBackUptoRow : OpenClaim := { program := "ytmhamnnfcmkcfaa", sum := "b99f7bf3d85f2899bd6f275ac2e62c61f3edaefdec7a51010c604fb1a501035e", func := "purfle/purflelaw08.LexerBack", spec := "lexerBack", inPlace := ["internal/bytealg.IndexByteString", "internal/abi.NoEscape"], apart := false, narrowed := true }
def LexerBackUptoSaid : Prop := lexerBackUptoRow.holds Try.pinned (OpenSpec.upto lexerBackSpec)

/-- 'purflelaw08.LexerJoins', WHERE WHAT IT READS IS OF BULK AT MOST 1048576: true; the input reads as it did. -/
def lexerJoinsUptoRow : OpenClaim := { program := "ytmhamnnfcmkcfaa", sum := "b99f7bf3d85f2899bd6f275ac2e62c61f3edaefdec7a51010c604fb1a501035e", func := "purfle/purflelaw08.LexerJoins", spec := "lexerJoins", inPlace := ["internal/bytealg.IndexByteString", "internal/abi.NoEscape"], unfollowed := true, recurses := true, apart := false, narrowed := true }
def LexerJoinsUptoSaid : Prop := lexerJoinsUptoRow.holds Try.pinned (OpenSpec.upto lexerJoinsSpec)

/-- 'purflelaw14.CodeReads', WHERE WHAT IT READS IS OF BULK AT MOST 1048576: true; the input reads as it did. -/
def codeReadsUptoRow : OpenClaim := { program := "ytmhamnnfcmkcfaa", sum := "b99f7bf3d85f2899bd6f275ac2e62c61f3edaefdec7a51010c604fb1a501035e", func := "purfle/purflelaw14.CodeReads", spec := "codeReads", inPlace := ["internal/bytealg.IndexByteString"], unfollowed := true, recurses := true, apart := false, narrowed := true }
def CodeReadsUptoSaid : Prop := codeReadsUptoRow.holds Try.pinned (OpenSpec.upto codeReadsSpec)

/-- 'purflelaw14.CodeBends', WHERE WHAT IT READS IS OF BULK AT MOST 1048576: true; the input reads as it did. -/
def codeBendsUptoRow : OpenClaim := { program := "ytmhamnnfcmkcfaa", sum := "b99f7bf3d85f2899bd6f275ac2e62c61f3edaefdec7a51010c604fb1a501035e", func := "purfle/purflelaw14.CodeBends", spec := "codeBends", inPlace := ["internal/bytealg.IndexByteString"], unfollowed := true, recurses := true, apart := false, narrowed := true }
def CodeBendsUptoSaid : Prop := codeBendsUptoRow.holds Try.pinned (OpenSpec.upto codeBendsSpec)

/-- 'purflelaw14.CodeShifts', WHERE WHAT IT READS IS OF BULK AT MOST 1048576: true; the input reads as it did. -/
def codeShiftsUptoRow : OpenClaim := { program := "ytmhamnnfcmkcfaa", sum := "b99f7bf3d85f2899bd6f275ac2e62c61f3edaefdec7a51010c604fb1a501035e", func := "purfle/purflelaw14.CodeShifts", spec := "codeShifts", inPlace := ["internal/bytealg.IndexByteString"], unfollowed := true, recurses := true, apart := false, narrowed := true }
def CodeShiftsUptoSaid : Prop := codeShiftsUptoRow.holds Try.pinned (OpenSpec.upto codeShiftsSpec)

/-- 'purflelaw09.NotationParses', WHERE WHAT IT READS IS OF BULK AT MOST 1048576: true; the input reads as it did. -/
def notationParsesUptoRow : OpenClaim := { program := "ytmhamnnfcmkcfaa", sum := "b99f7bf3d85f2899bd6f275ac2e62c61f3edaefdec7a51010c604fb1a501035e", func := "purfle/purflelaw09.NotationParses", spec := "notationParses", inPlace := ["internal/bytealg.IndexByteString"], unfollowed := true, recurses := true, apart := false, narrowed := true }
def NotationParsesUptoSaid : Prop := notationParsesUptoRow.holds Try.pinned (OpenSpec.upto notationParsesSpec)

/-- 'purflelaw09.NotationFree', WHERE WHAT IT READS IS OF BULK AT MOST 1048576: true; the input reads as it did. -/
def notationFreeUptoRow : OpenClaim := { program := "ytmhamnnfcmkcfaa", sum := "b99f7bf3d85f2899bd6f275ac2e62c61f3edaefdec7a51010c604fb1a501035e", func := "purfle/purflelaw09.NotationFree", spec := "notationFree", inPlace := ["internal/bytealg.IndexByteString"], unfollowed := true, recurses := true, loops := true, apart := false, narrowed := true }
def NotationFreeUptoSaid : Prop := notationFreeUptoRow.holds Try.pinned (OpenSpec.upto notationFreeSpec)

/-- 'purflelaw15.ValidEnds', WHERE WHAT IT READS IS OF BULK AT MOST 1048576: true; the input reads as it did. -/
def validEndsUptoRow : OpenClaim := { program := "ytmhamnnfcmkcfaa", sum := "b99f7bf3d85f2899bd6f275ac2e62c61f3edaefdec7a51010c604fb1a501035e", func := "purfle/purflelaw15.ValidEnds", spec := "validEnds", inPlace := ["internal/bytealg.IndexByteString"], unfollowed := true, recurses := true, apart := false, narrowed := true }
def ValidEndsUptoSaid : Prop := validEndsUptoRow.holds Try.pinned (OpenSpec.upto validEndsSpec)

/-- 'purflelaw15.ValidWays', WHERE WHAT IT READS IS OF BULK AT MOST 1048576: true; the input reads as it did. -/
def validWaysUptoRow : OpenClaim := { program := "ytmhamnnfcmkcfaa", sum := "b99f7bf3d85f2899bd6f275ac2e62c61f3edaefdec7a51010c604fb1a501035e", func := "purfle/purflelaw15.ValidWays", spec := "validWays", inPlace := ["internal/bytealg.IndexByteString"], unfollowed := true, recurses := true, apart := false, narrowed := true }
def ValidWaysUptoSaid : Prop := validWaysUptoRow.holds Try.pinned (OpenSpec.upto validWaysSpec)

/-- 'purflelaw14.CodeBack', WHERE WHAT IT READS IS OF BULK AT MOST 1048576: true; the input reads as it did. -/
def codeBackUptoRow : OpenClaim := { program := "ytmhamnnfcmkcfaa", sum := "b99f7bf3d85f2899bd6f275ac2e62c61f3edaefdec7a51010c604fb1a501035e", func := "purfle/purflelaw14.CodeBack", spec := "codeBack", inPlace := ["internal/bytealg.IndexByteString", "internal/abi.NoEscape"], unfollowed := true, recurses := true, apart := false, narrowed := true }
def CodeBackUptoSaid : Prop := codeBackUptoRow.holds Try.pinned (OpenSpec.upto codeBackSpec)

/-- 'purflelaw14.CodeLines', WHERE WHAT IT READS IS OF BULK AT MOST 1048576: true; the input reads as it did. -/
def codeLinesUptoRow : OpenClaim := { program := "ytmhamnnfcmkcfaa", sum := "b99f7bf3d85f2899bd6f275ac2e62c61f3edaefdec7a51010c604fb1a501035e", func := "purfle/purflelaw14.CodeLines", spec := "codeLines", inPlace := ["internal/bytealg.IndexByteString", "internal/abi.NoEscape"], unfollowed := true, recurses := true, apart := false, narrowed := true }
def CodeLinesUptoSaid : Prop := codeLinesUptoRow.holds Try.pinned (OpenSpec.upto codeLinesSpec)

/-- 'purflelaw15.ValidTrims', WHERE WHAT IT READS IS OF BULK AT MOST 1048576: true; the input reads as it did. -/
def validTrimsUptoRow : OpenClaim := { program := "ytmhamnnfcmkcfaa", sum := "b99f7bf3d85f2899bd6f275ac2e62c61f3edaefdec7a51010c604fb1a501035e", func := "purfle/purflelaw15.ValidTrims", spec := "validTrims", inPlace := ["internal/bytealg.IndexByteString"], unfollowed := true, recurses := true, apart := false, narrowed := true }
def ValidTrimsUptoSaid : Prop := validTrimsUptoRow.holds Try.pinned (OpenSpec.upto validTrimsSpec)

/-- 'purflelaw15.ValidShifts', WHERE WHAT IT READS IS OF BULK AT MOST 1048576: true; the input reads as it did. -/
def validShiftsUptoRow : OpenClaim := { program := "ytmhamnnfcmkcfaa", sum := "b99f7bf3d85f2899bd6f275ac2e62c61f3edaefdec7a51010c604fb1a501035e", func := "purfle/purflelaw15.ValidShifts", spec := "validShifts", inPlace := ["internal/bytealg.IndexByteString"], unfollowed := true, recurses := true, apart := false, narrowed := true }
def ValidShiftsUptoSaid : Prop := validShiftsUptoRow.holds Try.pinned (OpenSpec.upto validShiftsSpec)

/-- 'purflelaw15.ValidTells', WHERE WHAT IT READS IS OF BULK AT MOST 1048576: true; the input reads as it did. -/
def validTellsUptoRow : OpenClaim := { program := "ytmhamnnfcmkcfaa", sum := "b99f7bf3d85f2899bd6f275ac2e62c61f3edaefdec7a51010c604fb1a501035e", func := "purfle/purflelaw15.ValidTells", spec := "validTells", inPlace := ["internal/bytealg.IndexByteString"], unfollowed := true, recurses := true, apart := false, narrowed := true }
def ValidTellsUptoSaid : Prop := validTellsUptoRow.holds Try.pinned (OpenSpec.upto validTellsSpec)

/-- 'purflelaw14.CodeTells', WHERE WHAT IT READS IS OF BULK AT MOST 1048576: true; the input reads as it did. -/
def codeTellsUptoRow : OpenClaim := { program := "ytmhamnnfcmkcfaa", sum := "b99f7bf3d85f2899bd6f275ac2e62c61f3edaefdec7a51010c604fb1a501035e", func := "purfle/purflelaw14.CodeTells", spec := "codeTells", inPlace := ["internal/bytealg.IndexByteString", "internal/abi.NoEscape"], unfollowed := true, recurses := true, apart := false, narrowed := true }
def CodeTellsUptoSaid : Prop := codeTellsUptoRow.holds Try.pinned (OpenSpec.upto codeTellsSpec)

/-- 'purflelaw16.RunSafe', WHERE WHAT IT READS IS OF BULK AT MOST 1048576: true; the input reads as it did. -/
def runSafeUptoRow : OpenClaim := { program := "ytmhamnnfcmkcfaa", sum := "b99f7bf3d85f2899bd6f275ac2e62c61f3edaefdec7a51010c604fb1a501035e", func := "purfle/purflelaw16.RunSafe", spec := "runSafe", inPlace := ["internal/bytealg.IndexByteString"], unfollowed := true, recurses := true, apart := false, narrowed := true }
def RunSafeUptoSaid : Prop := runSafeUptoRow.holds Try.pinned (OpenSpec.upto runSafeSpec)

/-- 'purflelaw16.RunStraight', WHERE WHAT IT READS IS OF BULK AT MOST 1048576: true; the input reads as it did. -/
def runStraightUptoRow : OpenClaim := { program := "ytmhamnnfcmkcfaa", sum := "b99f7bf3d85f2899bd6f275ac2e62c61f3edaefdec7a51010c604fb1a501035e", func := "purfle/purflelaw16.RunStraight", spec := "runStraight", inPlace := ["internal/bytealg.IndexByteString"], unfollowed := true, recurses := true, apart := false, narrowed := true }
def RunStraightUptoSaid : Prop := runStraightUptoRow.holds Try.pinned (OpenSpec.upto runStraightSpec)

/-- 'purflelaw16.RunEnds', WHERE WHAT IT READS IS OF BULK AT MOST 1048576: true; the input reads as it did. -/
def runEndsUptoRow : OpenClaim := { program := "ytmhamnnfcmkcfaa", sum := "b99f7bf3d85f2899bd6f275ac2e62c61f3edaefdec7a51010c604fb1a501035e", func := "purfle/purflelaw16.RunEnds", spec := "runEnds", inPlace := ["internal/bytealg.IndexByteString"], unfollowed := true, recurses := true, apart := false, narrowed := true }
def RunEndsUptoSaid : Prop := runEndsUptoRow.holds Try.pinned (OpenSpec.upto runEndsSpec)

/-- 'purflelaw16.RunPath', WHERE WHAT IT READS IS OF BULK AT MOST 1048576: true; the input reads as it did. -/
def runPathUptoRow : OpenClaim := { program := "ytmhamnnfcmkcfaa", sum := "b99f7bf3d85f2899bd6f275ac2e62c61f3edaefdec7a51010c604fb1a501035e", func := "purfle/purflelaw16.RunPath", spec := "runPath", inPlace := ["internal/bytealg.IndexByteString"], unfollowed := true, recurses := true, apart := false, narrowed := true }
def RunPathUptoSaid : Prop := runPathUptoRow.holds Try.pinned (OpenSpec.upto runPathSpec)

end Rows
end Go.Proofs.Ytmhamnnfcmkcfaa
