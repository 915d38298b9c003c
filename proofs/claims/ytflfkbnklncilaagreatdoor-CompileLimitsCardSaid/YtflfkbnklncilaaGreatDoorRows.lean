/-
  NARROWER THAN 'FOR EVERY INPUT', by the rows' own cells (each row's printed sentence says how): CompilePrints: laid · CompileBack: laid · CompileNames: laid · CompileLines: laid · CompileLimits: laid · RunBegins: laid · RunPieces: laid · RunMatches: laid · RunLimits: laid · RunTaken: laid · RunNumbers: laid · RunEnds: laid.
  DERIVED. THE GIVEN ROWS OF THIS SEAT. 12 by the template 'for every input the law returns true; each argument reads behind the call as it read before'; 0 by the template 'total and deterministic' (their statements: YtflfkbnklncilaaGreatDoorTotals.lean).
  GIVEN WITH THE SEED: the statements are not yours to turn. If you find one false, say at which input.
  Laid BY PROGRAM, IN A SANDBOX (cutbox-rows.mjs): the forced cells as the released guide's own fill.sh prints them over the translation 8e4e06ba073128e5… (all of the seat's roots in one cut). By AI agents, Wed Nov 11 2026. No macro, syntax, notation, axiom, sorry.
-/
import Derived.Test.YtflfkbnklncilaaGreatDoorChecked
import GoSem.Claim
import GoSem.ClaimJoined
import GoSem.ClaimMapViews
import Derived.JoinedTies
import Derived.KernelRfl
namespace Go.Proofs.YtflfkbnklncilaaGreatDoor
/- THE CELL 'sum', in the pinned program and in every row, IS THE sha256 OF THE DUMP (.gsa) THAT YtflfkbnklncilaaGreatDoorProg.lean LOADS. Nothing in Lean hashes anything: it is a label: what it is worth is what the hold of that sum in a sandbox is worth. -/
noncomputable def Tryz.pinned : Pinned := { name := "ytflfkbnklncilaagreatdoor", sum := "8e4e06ba073128e5f8c8cecf5233242ffa2258f310f8bc4892c85447c5a70740", checked := Tryz.checked }
namespace Rows
def none {H : Type} : Left H := { results := [], args := [] }

/- WHAT THE LISTED PACKAGE-LEVEL VARIABLES READ AS WHEN THE CALL BEGINS. Each datum BY PROGRAM (the guide's laid-datum.mjs) off the statement by which the dump's own 'gosem.cut.vars' lays the variable. In a bare row this is a premise. The card (YtflfkbnklncilaaGreatDoorCards.lean) ties it to the program's text. -/
def laid_math_bits_deBruijn32tab {H : Type} : DataW H := .agg [.lit (.int .u8 0), .lit (.int .u8 1), .lit (.int .u8 28), .lit (.int .u8 2), .lit (.int .u8 29), .lit (.int .u8 14), .lit (.int .u8 24), .lit (.int .u8 3), .lit (.int .u8 30), .lit (.int .u8 22), .lit (.int .u8 20), .lit (.int .u8 15), .lit (.int .u8 25), .lit (.int .u8 17), .lit (.int .u8 4), .lit (.int .u8 8), .lit (.int .u8 31), .lit (.int .u8 27), .lit (.int .u8 13), .lit (.int .u8 23), .lit (.int .u8 21), .lit (.int .u8 19), .lit (.int .u8 16), .lit (.int .u8 7), .lit (.int .u8 26), .lit (.int .u8 12), .lit (.int .u8 18), .lit (.int .u8 6), .lit (.int .u8 11), .lit (.int .u8 5), .lit (.int .u8 10), .lit (.int .u8 9)]
def laid_math_bits_deBruijn64tab {H : Type} : DataW H := .agg [.lit (.int .u8 0), .lit (.int .u8 1), .lit (.int .u8 56), .lit (.int .u8 2), .lit (.int .u8 57), .lit (.int .u8 49), .lit (.int .u8 28), .lit (.int .u8 3), .lit (.int .u8 61), .lit (.int .u8 58), .lit (.int .u8 42), .lit (.int .u8 50), .lit (.int .u8 38), .lit (.int .u8 29), .lit (.int .u8 17), .lit (.int .u8 4), .lit (.int .u8 62), .lit (.int .u8 47), .lit (.int .u8 59), .lit (.int .u8 36), .lit (.int .u8 45), .lit (.int .u8 43), .lit (.int .u8 51), .lit (.int .u8 22), .lit (.int .u8 53), .lit (.int .u8 39), .lit (.int .u8 33), .lit (.int .u8 30), .lit (.int .u8 24), .lit (.int .u8 18), .lit (.int .u8 12), .lit (.int .u8 5), .lit (.int .u8 63), .lit (.int .u8 55), .lit (.int .u8 48), .lit (.int .u8 27), .lit (.int .u8 60), .lit (.int .u8 41), .lit (.int .u8 37), .lit (.int .u8 16), .lit (.int .u8 46), .lit (.int .u8 35), .lit (.int .u8 44), .lit (.int .u8 21), .lit (.int .u8 52), .lit (.int .u8 32), .lit (.int .u8 23), .lit (.int .u8 11), .lit (.int .u8 54), .lit (.int .u8 26), .lit (.int .u8 40), .lit (.int .u8 15), .lit (.int .u8 34), .lit (.int .u8 20), .lit (.int .u8 31), .lit (.int .u8 10), .lit (.int .u8 25), .lit (.int .u8 14), .lit (.int .u8 19), .lit (.int .u8 9), .lit (.int .u8 13), .lit (.int .u8 8), .lit (.int .u8 7), .lit (.int .u8 6)]
def laid_internal_strconv_uint64pow10 {H : Type} : DataW H := .agg [.lit (.int .u64 1), .lit (.int .u64 10), .lit (.int .u64 100), .lit (.int .u64 1000), .lit (.int .u64 10000), .lit (.int .u64 100000), .lit (.int .u64 1000000), .lit (.int .u64 10000000), .lit (.int .u64 100000000), .lit (.int .u64 1000000000), .lit (.int .u64 10000000000), .lit (.int .u64 100000000000), .lit (.int .u64 1000000000000), .lit (.int .u64 10000000000000), .lit (.int .u64 100000000000000), .lit (.int .u64 1000000000000000), .lit (.int .u64 10000000000000000), .lit (.int .u64 100000000000000000), .lit (.int .u64 1000000000000000000), .lit (.int .u64 10000000000000000000)]

/-- 'dragomanlaw15.CompilePrints': WHATEVER THE INPUT: true; the input reads as it did. -/
def compilePrintsSpec : ChangeSpec := { name := "compilePrints", fn := fun _ => fun
  | [d] => { results := [.lit (.bool true)], args := [d] }
  | _ => none }
def compilePrintsRow : OpenClaim := { program := "ytflfkbnklncilaagreatdoor", sum := "8e4e06ba073128e5f8c8cecf5233242ffa2258f310f8bc4892c85447c5a70740", func := "dragoman/dragomanlaw15.CompilePrints", spec := "compilePrints", inPlace := ["internal/bytealg.IndexByteString", "internal/bytealg.IndexString", "internal/abi.NoEscape", "internal/bytealg.MakeNoZero"], unfollowed := true, recurses := true, named := ["internal/bytealg.MaxLen", "internal/strconv.uint64pow10", "math/bits.deBruijn32tab", "math/bits.deBruijn64tab"], apart := false, laid := [("math/bits.deBruijn32tab", laid_math_bits_deBruijn32tab), ("math/bits.deBruijn64tab", laid_math_bits_deBruijn64tab), ("internal/strconv.uint64pow10", laid_internal_strconv_uint64pow10)] }
def CompilePrintsSaid : Prop := compilePrintsRow.holds Tryz.pinned (OpenSpec.ofChange compilePrintsSpec)

/-- ITS FALSE NEIGHBOUR: 'it returns false'. Refute it at one input. -/
def compilePrintsWrong : ChangeSpec := { name := "compilePrints", fn := fun _ => fun
  | [d] => { results := [.lit (.bool false)], args := [d] }
  | _ => none }
def CompilePrintsWrongFalsely : Prop := compilePrintsRow.holds Tryz.pinned (OpenSpec.ofChange compilePrintsWrong)

/-- 'dragomanlaw15.CompileBack': WHATEVER THE INPUT: true; the input reads as it did. -/
def compileBackSpec : ChangeSpec := { name := "compileBack", fn := fun _ => fun
  | [d1, d2] => { results := [.lit (.bool true)], args := [d1, d2] }
  | _ => none }
def compileBackRow : OpenClaim := { program := "ytflfkbnklncilaagreatdoor", sum := "8e4e06ba073128e5f8c8cecf5233242ffa2258f310f8bc4892c85447c5a70740", func := "dragoman/dragomanlaw15.CompileBack", spec := "compileBack", inPlace := ["internal/bytealg.IndexByteString", "internal/bytealg.IndexString", "internal/abi.NoEscape", "internal/bytealg.MakeNoZero"], unfollowed := true, recurses := true, named := ["internal/bytealg.MaxLen", "internal/strconv.uint64pow10", "math/bits.deBruijn32tab", "math/bits.deBruijn64tab"], apart := false, laid := [("math/bits.deBruijn32tab", laid_math_bits_deBruijn32tab), ("math/bits.deBruijn64tab", laid_math_bits_deBruijn64tab), ("internal/strconv.uint64pow10", laid_internal_strconv_uint64pow10)] }
def CompileBackSaid : Prop := compileBackRow.holds Tryz.pinned (OpenSpec.ofChange compileBackSpec)

/-- ITS FALSE NEIGHBOUR: 'it returns false'. Refute it at one input. -/
def compileBackWrong : ChangeSpec := { name := "compileBack", fn := fun _ => fun
  | [d1, d2] => { results := [.lit (.bool false)], args := [d1, d2] }
  | _ => none }
def CompileBackWrongFalsely : Prop := compileBackRow.holds Tryz.pinned (OpenSpec.ofChange compileBackWrong)

/-- 'dragomanlaw15.CompileNames': WHATEVER THE INPUT: true; the input reads as it did. -/
def compileNamesSpec : ChangeSpec := { name := "compileNames", fn := fun _ => fun
  | [d1, d2, d3] => { results := [.lit (.bool true)], args := [d1, d2, d3] }
  | _ => none }
def compileNamesRow : OpenClaim := { program := "ytflfkbnklncilaagreatdoor", sum := "8e4e06ba073128e5f8c8cecf5233242ffa2258f310f8bc4892c85447c5a70740", func := "dragoman/dragomanlaw15.CompileNames", spec := "compileNames", inPlace := ["internal/bytealg.IndexByteString", "internal/bytealg.IndexString", "internal/abi.NoEscape", "internal/bytealg.MakeNoZero"], unfollowed := true, recurses := true, named := ["internal/bytealg.MaxLen", "internal/strconv.uint64pow10", "math/bits.deBruijn32tab", "math/bits.deBruijn64tab"], apart := false, laid := [("math/bits.deBruijn32tab", laid_math_bits_deBruijn32tab), ("math/bits.deBruijn64tab", laid_math_bits_deBruijn64tab), ("internal/strconv.uint64pow10", laid_internal_strconv_uint64pow10)] }
def CompileNamesSaid : Prop := compileNamesRow.holds Tryz.pinned (OpenSpec.ofChange compileNamesSpec)

/-- ITS FALSE NEIGHBOUR: 'it returns false'. Refute it at one input. -/
def compileNamesWrong : ChangeSpec := { name := "compileNames", fn := fun _ => fun
  | [d1, d2, d3] => { results := [.lit (.bool false)], args := [d1, d2, d3] }
  | _ => none }
def CompileNamesWrongFalsely : Prop := compileNamesRow.holds Tryz.pinned (OpenSpec.ofChange compileNamesWrong)

/-- 'dragomanlaw15.CompileLines': WHATEVER THE INPUT: true; the input reads as it did. -/
def compileLinesSpec : ChangeSpec := { name := "compileLines", fn := fun _ => fun
  | [d] => { results := [.lit (.bool true)], args := [d] }
  | _ => none }
def compileLinesRow : OpenClaim := { program := "ytflfkbnklncilaagreatdoor", sum := "8e4e06ba073128e5f8c8cecf5233242ffa2258f310f8bc4892c85447c5a70740", func := "dragoman/dragomanlaw15.CompileLines", spec := "compileLines", inPlace := ["internal/bytealg.IndexByteString", "internal/bytealg.IndexString", "internal/abi.NoEscape", "internal/bytealg.MakeNoZero"], unfollowed := true, recurses := true, named := ["internal/bytealg.MaxLen", "internal/strconv.uint64pow10", "math/bits.deBruijn32tab", "math/bits.deBruijn64tab"], apart := false, laid := [("math/bits.deBruijn32tab", laid_math_bits_deBruijn32tab), ("math/bits.deBruijn64tab", laid_math_bits_deBruijn64tab), ("internal/strconv.uint64pow10", laid_internal_strconv_uint64pow10)] }
def CompileLinesSaid : Prop := compileLinesRow.holds Tryz.pinned (OpenSpec.ofChange compileLinesSpec)

/-- ITS FALSE NEIGHBOUR: 'it returns false'. Refute it at one input. -/
def compileLinesWrong : ChangeSpec := { name := "compileLines", fn := fun _ => fun
  | [d] => { results := [.lit (.bool false)], args := [d] }
  | _ => none }
def CompileLinesWrongFalsely : Prop := compileLinesRow.holds Tryz.pinned (OpenSpec.ofChange compileLinesWrong)

/-- 'dragomanlaw15.CompileLimits': WHATEVER THE INPUT: true; the input reads as it did. -/
def compileLimitsSpec : ChangeSpec := { name := "compileLimits", fn := fun _ => fun
  | [] => { results := [.lit (.bool true)], args := [] }
  | _ => none }
def compileLimitsRow : OpenClaim := { program := "ytflfkbnklncilaagreatdoor", sum := "8e4e06ba073128e5f8c8cecf5233242ffa2258f310f8bc4892c85447c5a70740", func := "dragoman/dragomanlaw15.CompileLimits", spec := "compileLimits", inPlace := ["internal/bytealg.IndexByteString", "internal/bytealg.IndexString", "internal/abi.NoEscape", "internal/bytealg.MakeNoZero"], unfollowed := true, recurses := true, named := ["internal/bytealg.MaxLen", "internal/strconv.uint64pow10", "math/bits.deBruijn32tab", "math/bits.deBruijn64tab"], apart := false, laid := [("math/bits.deBruijn32tab", laid_math_bits_deBruijn32tab), ("math/bits.deBruijn64tab", laid_math_bits_deBruijn64tab), ("internal/strconv.uint64pow10", laid_internal_strconv_uint64pow10)] }
def CompileLimitsSaid : Prop := compileLimitsRow.holds Tryz.pinned (OpenSpec.ofChange compileLimitsSpec)

/-- ITS FALSE NEIGHBOUR: 'it returns false'. Refute it at one input. -/
def compileLimitsWrong : ChangeSpec := { name := "compileLimits", fn := fun _ => fun
  | [] => { results := [.lit (.bool false)], args := [] }
  | _ => none }
def CompileLimitsWrongFalsely : Prop := compileLimitsRow.holds Tryz.pinned (OpenSpec.ofChange compileLimitsWrong)

/-- 'dragomanlaw16.RunBegins': WHATEVER THE INPUT: true; the input reads as it did. -/
def runBeginsSpec : ChangeSpec := { name := "runBegins", fn := fun _ => fun
  | [d] => { results := [.lit (.bool true)], args := [d] }
  | _ => none }
def runBeginsRow : OpenClaim := { program := "ytflfkbnklncilaagreatdoor", sum := "8e4e06ba073128e5f8c8cecf5233242ffa2258f310f8bc4892c85447c5a70740", func := "dragoman/dragomanlaw16.RunBegins", spec := "runBegins", inPlace := ["internal/bytealg.IndexByteString", "internal/bytealg.IndexString", "internal/abi.NoEscape", "internal/bytealg.MakeNoZero"], unfollowed := true, recurses := true, named := ["internal/bytealg.MaxLen", "internal/strconv.uint64pow10", "math/bits.deBruijn32tab", "math/bits.deBruijn64tab"], apart := false, laid := [("math/bits.deBruijn32tab", laid_math_bits_deBruijn32tab), ("math/bits.deBruijn64tab", laid_math_bits_deBruijn64tab), ("internal/strconv.uint64pow10", laid_internal_strconv_uint64pow10)] }
def RunBeginsSaid : Prop := runBeginsRow.holds Tryz.pinned (OpenSpec.ofChange runBeginsSpec)

/-- ITS FALSE NEIGHBOUR: 'it returns false'. Refute it at one input. -/
def runBeginsWrong : ChangeSpec := { name := "runBegins", fn := fun _ => fun
  | [d] => { results := [.lit (.bool false)], args := [d] }
  | _ => none }
def RunBeginsWrongFalsely : Prop := runBeginsRow.holds Tryz.pinned (OpenSpec.ofChange runBeginsWrong)

/-- 'dragomanlaw16.RunPieces': WHATEVER THE INPUT: true; the input reads as it did. -/
def runPiecesSpec : ChangeSpec := { name := "runPieces", fn := fun _ => fun
  | [d1, d2, d3] => { results := [.lit (.bool true)], args := [d1, d2, d3] }
  | _ => none }
def runPiecesRow : OpenClaim := { program := "ytflfkbnklncilaagreatdoor", sum := "8e4e06ba073128e5f8c8cecf5233242ffa2258f310f8bc4892c85447c5a70740", func := "dragoman/dragomanlaw16.RunPieces", spec := "runPieces", inPlace := ["internal/bytealg.IndexByteString", "internal/bytealg.IndexString", "internal/abi.NoEscape", "internal/bytealg.MakeNoZero"], unfollowed := true, recurses := true, named := ["internal/bytealg.MaxLen", "internal/strconv.uint64pow10", "math/bits.deBruijn32tab", "math/bits.deBruijn64tab"], apart := false, laid := [("math/bits.deBruijn32tab", laid_math_bits_deBruijn32tab), ("math/bits.deBruijn64tab", laid_math_bits_deBruijn64tab), ("internal/strconv.uint64pow10", laid_internal_strconv_uint64pow10)] }
def RunPiecesSaid : Prop := runPiecesRow.holds Tryz.pinned (OpenSpec.ofChange runPiecesSpec)

/-- ITS FALSE NEIGHBOUR: 'it returns false'. Refute it at one input. -/
def runPiecesWrong : ChangeSpec := { name := "runPieces", fn := fun _ => fun
  | [d1, d2, d3] => { results := [.lit (.bool false)], args := [d1, d2, d3] }
  | _ => none }
def RunPiecesWrongFalsely : Prop := runPiecesRow.holds Tryz.pinned (OpenSpec.ofChange runPiecesWrong)

/-- 'dragomanlaw16.RunMatches': WHATEVER THE INPUT: true; the input reads as it did. -/
def runMatchesSpec : ChangeSpec := { name := "runMatches", fn := fun _ => fun
  | [d1, d2] => { results := [.lit (.bool true)], args := [d1, d2] }
  | _ => none }
def runMatchesRow : OpenClaim := { program := "ytflfkbnklncilaagreatdoor", sum := "8e4e06ba073128e5f8c8cecf5233242ffa2258f310f8bc4892c85447c5a70740", func := "dragoman/dragomanlaw16.RunMatches", spec := "runMatches", inPlace := ["internal/bytealg.IndexByteString", "internal/bytealg.IndexString", "internal/abi.NoEscape", "internal/bytealg.MakeNoZero"], unfollowed := true, recurses := true, named := ["internal/bytealg.MaxLen", "internal/strconv.uint64pow10", "math/bits.deBruijn32tab", "math/bits.deBruijn64tab"], apart := false, laid := [("math/bits.deBruijn32tab", laid_math_bits_deBruijn32tab), ("math/bits.deBruijn64tab", laid_math_bits_deBruijn64tab), ("internal/strconv.uint64pow10", laid_internal_strconv_uint64pow10)] }
def RunMatchesSaid : Prop := runMatchesRow.holds Tryz.pinned (OpenSpec.ofChange runMatchesSpec)

/-- ITS FALSE NEIGHBOUR: 'it returns false'. Refute it at one input. -/
def runMatchesWrong : ChangeSpec := { name := "runMatches", fn := fun _ => fun
  | [d1, d2] => { results := [.lit (.bool false)], args := [d1, d2] }
  | _ => none }
def RunMatchesWrongFalsely : Prop := runMatchesRow.holds Tryz.pinned (OpenSpec.ofChange runMatchesWrong)

/-- 'dragomanlaw16.RunLimits': WHATEVER THE INPUT: true; the input reads as it did. -/
def runLimitsSpec : ChangeSpec := { name := "runLimits", fn := fun _ => fun
  | [] => { results := [.lit (.bool true)], args := [] }
  | _ => none }
def runLimitsRow : OpenClaim := { program := "ytflfkbnklncilaagreatdoor", sum := "8e4e06ba073128e5f8c8cecf5233242ffa2258f310f8bc4892c85447c5a70740", func := "dragoman/dragomanlaw16.RunLimits", spec := "runLimits", inPlace := ["internal/bytealg.IndexByteString", "internal/bytealg.IndexString", "internal/abi.NoEscape", "internal/bytealg.MakeNoZero"], unfollowed := true, recurses := true, named := ["internal/bytealg.MaxLen", "internal/strconv.uint64pow10", "math/bits.deBruijn32tab", "math/bits.deBruijn64tab"], apart := false, laid := [("math/bits.deBruijn32tab", laid_math_bits_deBruijn32tab), ("math/bits.deBruijn64tab", laid_math_bits_deBruijn64tab), ("internal/strconv.uint64pow10", laid_internal_strconv_uint64pow10)] }
def RunLimitsSaid : Prop := runLimitsRow.holds Tryz.pinned (OpenSpec.ofChange runLimitsSpec)

/-- ITS FALSE NEIGHBOUR: 'it returns false'. Refute it at one input. -/
def runLimitsWrong : ChangeSpec := { name := "runLimits", fn := fun _ => fun
  | [] => { results := [.lit (.bool false)], args := [] }
  | _ => none }
def RunLimitsWrongFalsely : Prop := runLimitsRow.holds Tryz.pinned (OpenSpec.ofChange runLimitsWrong)

/-- 'dragomanlaw16.RunTaken': WHATEVER THE INPUT: true; the input reads as it did. -/
def runTakenSpec : ChangeSpec := { name := "runTaken", fn := fun _ => fun
  | [d1, d2] => { results := [.lit (.bool true)], args := [d1, d2] }
  | _ => none }
def runTakenRow : OpenClaim := { program := "ytflfkbnklncilaagreatdoor", sum := "8e4e06ba073128e5f8c8cecf5233242ffa2258f310f8bc4892c85447c5a70740", func := "dragoman/dragomanlaw16.RunTaken", spec := "runTaken", inPlace := ["internal/bytealg.IndexByteString", "internal/bytealg.IndexString", "internal/abi.NoEscape", "internal/bytealg.MakeNoZero"], unfollowed := true, recurses := true, named := ["internal/bytealg.MaxLen", "internal/strconv.uint64pow10", "math/bits.deBruijn32tab", "math/bits.deBruijn64tab"], apart := false, laid := [("math/bits.deBruijn32tab", laid_math_bits_deBruijn32tab), ("math/bits.deBruijn64tab", laid_math_bits_deBruijn64tab), ("internal/strconv.uint64pow10", laid_internal_strconv_uint64pow10)] }
def RunTakenSaid : Prop := runTakenRow.holds Tryz.pinned (OpenSpec.ofChange runTakenSpec)

/-- ITS FALSE NEIGHBOUR: 'it returns false'. Refute it at one input. -/
def runTakenWrong : ChangeSpec := { name := "runTaken", fn := fun _ => fun
  | [d1, d2] => { results := [.lit (.bool false)], args := [d1, d2] }
  | _ => none }
def RunTakenWrongFalsely : Prop := runTakenRow.holds Tryz.pinned (OpenSpec.ofChange runTakenWrong)

/-- 'dragomanlaw16.RunNumbers': WHATEVER THE INPUT: true; the input reads as it did. -/
def runNumbersSpec : ChangeSpec := { name := "runNumbers", fn := fun _ => fun
  | [d1, d2] => { results := [.lit (.bool true)], args := [d1, d2] }
  | _ => none }
def runNumbersRow : OpenClaim := { program := "ytflfkbnklncilaagreatdoor", sum := "8e4e06ba073128e5f8c8cecf5233242ffa2258f310f8bc4892c85447c5a70740", func := "dragoman/dragomanlaw16.RunNumbers", spec := "runNumbers", inPlace := ["internal/bytealg.IndexByteString", "internal/bytealg.IndexString", "internal/abi.NoEscape", "internal/bytealg.MakeNoZero"], unfollowed := true, recurses := true, named := ["internal/bytealg.MaxLen", "internal/strconv.uint64pow10", "math/bits.deBruijn32tab", "math/bits.deBruijn64tab"], apart := false, laid := [("math/bits.deBruijn32tab", laid_math_bits_deBruijn32tab), ("math/bits.deBruijn64tab", laid_math_bits_deBruijn64tab), ("internal/strconv.uint64pow10", laid_internal_strconv_uint64pow10)] }
def RunNumbersSaid : Prop := runNumbersRow.holds Tryz.pinned (OpenSpec.ofChange runNumbersSpec)

/-- ITS FALSE NEIGHBOUR: 'it returns false'. Refute it at one input. -/
def runNumbersWrong : ChangeSpec := { name := "runNumbers", fn := fun _ => fun
  | [d1, d2] => { results := [.lit (.bool false)], args := [d1, d2] }
  | _ => none }
def RunNumbersWrongFalsely : Prop := runNumbersRow.holds Tryz.pinned (OpenSpec.ofChange runNumbersWrong)

/-- 'dragomanlaw16.RunEnds': WHATEVER THE INPUT: true; the input reads as it did. -/
def runEndsSpec : ChangeSpec := { name := "runEnds", fn := fun _ => fun
  | [d1, d2, d3] => { results := [.lit (.bool true)], args := [d1, d2, d3] }
  | _ => none }
def runEndsRow : OpenClaim := { program := "ytflfkbnklncilaagreatdoor", sum := "8e4e06ba073128e5f8c8cecf5233242ffa2258f310f8bc4892c85447c5a70740", func := "dragoman/dragomanlaw16.RunEnds", spec := "runEnds", inPlace := ["internal/bytealg.IndexByteString", "internal/bytealg.IndexString", "internal/abi.NoEscape", "internal/bytealg.MakeNoZero"], unfollowed := true, recurses := true, named := ["internal/bytealg.MaxLen", "internal/strconv.uint64pow10", "math/bits.deBruijn32tab", "math/bits.deBruijn64tab"], apart := false, laid := [("math/bits.deBruijn32tab", laid_math_bits_deBruijn32tab), ("math/bits.deBruijn64tab", laid_math_bits_deBruijn64tab), ("internal/strconv.uint64pow10", laid_internal_strconv_uint64pow10)] }
def RunEndsSaid : Prop := runEndsRow.holds Tryz.pinned (OpenSpec.ofChange runEndsSpec)

/-- ITS FALSE NEIGHBOUR: 'it returns false'. Refute it at one input. -/
def runEndsWrong : ChangeSpec := { name := "runEnds", fn := fun _ => fun
  | [d1, d2, d3] => { results := [.lit (.bool false)], args := [d1, d2, d3] }
  | _ => none }
def RunEndsWrongFalsely : Prop := runEndsRow.holds Tryz.pinned (OpenSpec.ofChange runEndsWrong)

/- THE SECOND FORM. 'bulk': how many values and letters a reading holds, each counted each time it is reached (what is shared counts as often as it is met; a slice's spare places count too). A statement '..UptoSaid' is the law's where the arguments, and the package variables that the reading takes, are together of bulk at most 1048576: NARROWER than '..Said'. Prove '..Said' where nothing that the law and all that it calls make is longer than what came in: it says more and counts as full. Else prove '..UptoSaid'. A law counts once. -/
mutual
def uptoBulk {H : Type} : DataW H → Nat
  | .lit (.string bytes) => bytes.length + 1
  | .lit _ => 1
  | .nil => 1
  | .ptr d => uptoBulk d + 1
  | .slice elems spare => uptoBulkAll elems + uptoBulkAll spare + 1
  | .agg parts => uptoBulkAll parts + 1
  | .iface _ d => uptoBulk d + 1
  | .map entries => uptoBulkEntries entries + 1
  | .held _ => 1
def uptoBulkAll {H : Type} : List (DataW H) → Nat
  | [] => 0
  | d :: r => uptoBulk d + uptoBulkAll r
def uptoBulkEntries {H : Type} : List (Lit × DataW H) → Nat
  | [] => 0
  | x :: r => uptoBulkEntry x + uptoBulkEntries r
def uptoBulkEntry {H : Type} : Lit × DataW H → Nat
  | (.string bytes, d) => bytes.length + uptoBulk d + 1
  | (_, d) => uptoBulk d + 1
 end
def uptoSmall : (H : Type) → List (DataW H) → Bool := fun _ ds => decide (uptoBulkAll ds ≤ 1048576)
def OpenSpec.upto (s : _root_.Go.ChangeSpec) : _root_.Go.OpenSpec := { _root_.Go.OpenSpec.ofChange s with cond := some uptoSmall }

/-- 'dragomanlaw15.CompilePrints', WHERE WHAT IT READS IS OF BULK AT MOST 1048576: true; the input reads as it did. -/
def compilePrintsUptoRow : OpenClaim := { program := "ytflfkbnklncilaagreatdoor", sum := "8e4e06ba073128e5f8c8cecf5233242ffa2258f310f8bc4892c85447c5a70740", func := "dragoman/dragomanlaw15.CompilePrints", spec := "compilePrints", inPlace := ["internal/bytealg.IndexByteString", "internal/bytealg.IndexString", "internal/abi.NoEscape", "internal/bytealg.MakeNoZero"], unfollowed := true, recurses := true, named := ["internal/bytealg.MaxLen", "internal/strconv.uint64pow10", "math/bits.deBruijn32tab", "math/bits.deBruijn64tab"], apart := false, laid := [("math/bits.deBruijn32tab", laid_math_bits_deBruijn32tab), ("math/bits.deBruijn64tab", laid_math_bits_deBruijn64tab), ("internal/strconv.uint64pow10", laid_internal_strconv_uint64pow10)], narrowed := true }
def CompilePrintsUptoSaid : Prop := compilePrintsUptoRow.holds Tryz.pinned (OpenSpec.upto compilePrintsSpec)

/-- 'dragomanlaw15.CompileBack', WHERE WHAT IT READS IS OF BULK AT MOST 1048576: true; the input reads as it did. -/
def compileBackUptoRow : OpenClaim := { program := "ytflfkbnklncilaagreatdoor", sum := "8e4e06ba073128e5f8c8cecf5233242ffa2258f310f8bc4892c85447c5a70740", func := "dragoman/dragomanlaw15.CompileBack", spec := "compileBack", inPlace := ["internal/bytealg.IndexByteString", "internal/bytealg.IndexString", "internal/abi.NoEscape", "internal/bytealg.MakeNoZero"], unfollowed := true, recurses := true, named := ["internal/bytealg.MaxLen", "internal/strconv.uint64pow10", "math/bits.deBruijn32tab", "math/bits.deBruijn64tab"], apart := false, laid := [("math/bits.deBruijn32tab", laid_math_bits_deBruijn32tab), ("math/bits.deBruijn64tab", laid_math_bits_deBruijn64tab), ("internal/strconv.uint64pow10", laid_internal_strconv_uint64pow10)], narrowed := true }
def CompileBackUptoSaid : Prop := compileBackUptoRow.holds Tryz.pinned (OpenSpec.upto compileBackSpec)

/-- 'dragomanlaw15.CompileNames', WHERE WHAT IT READS IS OF BULK AT MOST 1048576: true; the input reads as it did. -/
def compileNamesUptoRow : OpenClaim := { program := "ytflfkbnklncilaagreatdoor", sum := "8e4e06ba073128e5f8c8cecf5233242ffa2258f310f8bc4892c85447c5a70740", func := "dragoman/dragomanlaw15.CompileNames", spec := "compileNames", inPlace := ["internal/bytealg.IndexByteString", "internal/bytealg.IndexString", "internal/abi.NoEscape", "internal/bytealg.MakeNoZero"], unfollowed := true, recurses := true, named := ["internal/bytealg.MaxLen", "internal/strconv.uint64pow10", "math/bits.deBruijn32tab", "math/bits.deBruijn64tab"], apart := false, laid := [("math/bits.deBruijn32tab", laid_math_bits_deBruijn32tab), ("math/bits.deBruijn64tab", laid_math_bits_deBruijn64tab), ("internal/strconv.uint64pow10", laid_internal_strconv_uint64pow10)], narrowed := true }
def CompileNamesUptoSaid : Prop := compileNamesUptoRow.holds Tryz.pinned (OpenSpec.upto compileNamesSpec)

/-- 'dragomanlaw15.CompileLines', WHERE WHAT IT READS IS OF BULK AT MOST 1048576: true; the input reads as it did. -/
def compileLinesUptoRow : OpenClaim := { program := "ytflfkbnklncilaagreatdoor", sum := "8e4e06ba073128e5f8c8cecf5233242ffa2258f310f8bc4892c85447c5a70740", func := "dragoman/dragomanlaw15.CompileLines", spec := "compileLines", inPlace := ["internal/bytealg.IndexByteString", "internal/bytealg.IndexString", "internal/abi.NoEscape", "internal/bytealg.MakeNoZero"], unfollowed := true, recurses := true, named := ["internal/bytealg.MaxLen", "internal/strconv.uint64pow10", "math/bits.deBruijn32tab", "math/bits.deBruijn64tab"], apart := false, laid := [("math/bits.deBruijn32tab", laid_math_bits_deBruijn32tab), ("math/bits.deBruijn64tab", laid_math_bits_deBruijn64tab), ("internal/strconv.uint64pow10", laid_internal_strconv_uint64pow10)], narrowed := true }
def CompileLinesUptoSaid : Prop := compileLinesUptoRow.holds Tryz.pinned (OpenSpec.upto compileLinesSpec)

/-- 'dragomanlaw15.CompileLimits', WHERE WHAT IT READS IS OF BULK AT MOST 1048576: true; the input reads as it did. -/
def compileLimitsUptoRow : OpenClaim := { program := "ytflfkbnklncilaagreatdoor", sum := "8e4e06ba073128e5f8c8cecf5233242ffa2258f310f8bc4892c85447c5a70740", func := "dragoman/dragomanlaw15.CompileLimits", spec := "compileLimits", inPlace := ["internal/bytealg.IndexByteString", "internal/bytealg.IndexString", "internal/abi.NoEscape", "internal/bytealg.MakeNoZero"], unfollowed := true, recurses := true, named := ["internal/bytealg.MaxLen", "internal/strconv.uint64pow10", "math/bits.deBruijn32tab", "math/bits.deBruijn64tab"], apart := false, laid := [("math/bits.deBruijn32tab", laid_math_bits_deBruijn32tab), ("math/bits.deBruijn64tab", laid_math_bits_deBruijn64tab), ("internal/strconv.uint64pow10", laid_internal_strconv_uint64pow10)], narrowed := true }
def CompileLimitsUptoSaid : Prop := compileLimitsUptoRow.holds Tryz.pinned (OpenSpec.upto compileLimitsSpec)

/-- 'dragomanlaw16.RunBegins', WHERE WHAT IT READS IS OF BULK AT MOST 1048576: true; the input reads as it did. -/
def runBeginsUptoRow : OpenClaim := { program := "ytflfkbnklncilaagreatdoor", sum := "8e4e06ba073128e5f8c8cecf5233242ffa2258f310f8bc4892c85447c5a70740", func := "dragoman/dragomanlaw16.RunBegins", spec := "runBegins", inPlace := ["internal/bytealg.IndexByteString", "internal/bytealg.IndexString", "internal/abi.NoEscape", "internal/bytealg.MakeNoZero"], unfollowed := true, recurses := true, named := ["internal/bytealg.MaxLen", "internal/strconv.uint64pow10", "math/bits.deBruijn32tab", "math/bits.deBruijn64tab"], apart := false, laid := [("math/bits.deBruijn32tab", laid_math_bits_deBruijn32tab), ("math/bits.deBruijn64tab", laid_math_bits_deBruijn64tab), ("internal/strconv.uint64pow10", laid_internal_strconv_uint64pow10)], narrowed := true }
def RunBeginsUptoSaid : Prop := runBeginsUptoRow.holds Tryz.pinned (OpenSpec.upto runBeginsSpec)

/-- 'dragomanlaw16.RunPieces', WHERE WHAT IT READS IS OF BULK AT MOST 1048576: true; the input reads as it did. -/
def runPiecesUptoRow : OpenClaim := { program := "ytflfkbnklncilaagreatdoor", sum := "8e4e06ba073128e5f8c8cecf5233242ffa2258f310f8bc4892c85447c5a70740", func := "dragoman/dragomanlaw16.RunPieces", spec := "runPieces", inPlace := ["internal/bytealg.IndexByteString", "internal/bytealg.IndexString", "internal/abi.NoEscape", "internal/bytealg.MakeNoZero"], unfollowed := true, recurses := true, named := ["internal/bytealg.MaxLen", "internal/strconv.uint64pow10", "math/bits.deBruijn32tab", "math/bits.deBruijn64tab"], apart := false, laid := [("math/bits.deBruijn32tab", laid_math_bits_deBruijn32tab), ("math/bits.deBruijn64tab", laid_math_bits_deBruijn64tab), ("internal/strconv.uint64pow10", laid_internal_strconv_uint64pow10)], narrowed := true }
def RunPiecesUptoSaid : Prop := runPiecesUptoRow.holds Tryz.pinned (OpenSpec.upto runPiecesSpec)

/-- 'dragomanlaw16.RunMatches', WHERE WHAT IT READS IS OF BULK AT MOST 1048576: true; the input reads as it did. -/
def runMatchesUptoRow : OpenClaim := { program := "ytflfkbnklncilaagreatdoor", sum := "8e4e06ba073128e5f8c8cecf5233242ffa2258f310f8bc4892c85447c5a70740", func := "dragoman/dragomanlaw16.RunMatches", spec := "runMatches", inPlace := ["internal/bytealg.IndexByteString", "internal/bytealg.IndexString", "internal/abi.NoEscape", "internal/bytealg.MakeNoZero"], unfollowed := true, recurses := true, named := ["internal/bytealg.MaxLen", "internal/strconv.uint64pow10", "math/bits.deBruijn32tab", "math/bits.deBruijn64tab"], apart := false, laid := [("math/bits.deBruijn32tab", laid_math_bits_deBruijn32tab), ("math/bits.deBruijn64tab", laid_math_bits_deBruijn64tab), ("internal/strconv.uint64pow10", laid_internal_strconv_uint64pow10)], narrowed := true }
def RunMatchesUptoSaid : Prop := runMatchesUptoRow.holds Tryz.pinned (OpenSpec.upto runMatchesSpec)

/-- 'dragomanlaw16.RunLimits', WHERE WHAT IT READS IS OF BULK AT MOST 1048576: true; the input reads as it did. -/
def runLimitsUptoRow : OpenClaim := { program := "ytflfkbnklncilaagreatdoor", sum := "8e4e06ba073128e5f8c8cecf5233242ffa2258f310f8bc4892c85447c5a70740", func := "dragoman/dragomanlaw16.RunLimits", spec := "runLimits", inPlace := ["internal/bytealg.IndexByteString", "internal/bytealg.IndexString", "internal/abi.NoEscape", "internal/bytealg.MakeNoZero"], unfollowed := true, recurses := true, named := ["internal/bytealg.MaxLen", "internal/strconv.uint64pow10", "math/bits.deBruijn32tab", "math/bits.deBruijn64tab"], apart := false, laid := [("math/bits.deBruijn32tab", laid_math_bits_deBruijn32tab), ("math/bits.deBruijn64tab", laid_math_bits_deBruijn64tab), ("internal/strconv.uint64pow10", laid_internal_strconv_uint64pow10)], narrowed := true }
def RunLimitsUptoSaid : Prop := runLimitsUptoRow.holds Tryz.pinned (OpenSpec.upto runLimitsSpec)

/-- 'dragomanlaw16.RunTaken', WHERE WHAT IT READS IS OF BULK AT MOST 1048576: true; the input reads as it did. -/
def runTakenUptoRow : OpenClaim := { program := "ytflfkbnklncilaagreatdoor", sum := "8e4e06ba073128e5f8c8cecf5233242ffa2258f310f8bc4892c85447c5a70740", func := "dragoman/dragomanlaw16.RunTaken", spec := "runTaken", inPlace := ["internal/bytealg.IndexByteString", "internal/bytealg.IndexString", "internal/abi.NoEscape", "internal/bytealg.MakeNoZero"], unfollowed := true, recurses := true, named := ["internal/bytealg.MaxLen", "internal/strconv.uint64pow10", "math/bits.deBruijn32tab", "math/bits.deBruijn64tab"], apart := false, laid := [("math/bits.deBruijn32tab", laid_math_bits_deBruijn32tab), ("math/bits.deBruijn64tab", laid_math_bits_deBruijn64tab), ("internal/strconv.uint64pow10", laid_internal_strconv_uint64pow10)], narrowed := true }
def RunTakenUptoSaid : Prop := runTakenUptoRow.holds Tryz.pinned (OpenSpec.upto runTakenSpec)

/-- 'dragomanlaw16.RunNumbers', WHERE WHAT IT READS IS OF BULK AT MOST 1048576: true; the input reads as it did. -/
def runNumbersUptoRow : OpenClaim := { program := "ytflfkbnklncilaagreatdoor", sum := "8e4e06ba073128e5f8c8cecf5233242ffa2258f310f8bc4892c85447c5a70740", func := "dragoman/dragomanlaw16.RunNumbers", spec := "runNumbers", inPlace := ["internal/bytealg.IndexByteString", "internal/bytealg.IndexString", "internal/abi.NoEscape", "internal/bytealg.MakeNoZero"], unfollowed := true, recurses := true, named := ["internal/bytealg.MaxLen", "internal/strconv.uint64pow10", "math/bits.deBruijn32tab", "math/bits.deBruijn64tab"], apart := false, laid := [("math/bits.deBruijn32tab", laid_math_bits_deBruijn32tab), ("math/bits.deBruijn64tab", laid_math_bits_deBruijn64tab), ("internal/strconv.uint64pow10", laid_internal_strconv_uint64pow10)], narrowed := true }
def RunNumbersUptoSaid : Prop := runNumbersUptoRow.holds Tryz.pinned (OpenSpec.upto runNumbersSpec)

/-- 'dragomanlaw16.RunEnds', WHERE WHAT IT READS IS OF BULK AT MOST 1048576: true; the input reads as it did. -/
def runEndsUptoRow : OpenClaim := { program := "ytflfkbnklncilaagreatdoor", sum := "8e4e06ba073128e5f8c8cecf5233242ffa2258f310f8bc4892c85447c5a70740", func := "dragoman/dragomanlaw16.RunEnds", spec := "runEnds", inPlace := ["internal/bytealg.IndexByteString", "internal/bytealg.IndexString", "internal/abi.NoEscape", "internal/bytealg.MakeNoZero"], unfollowed := true, recurses := true, named := ["internal/bytealg.MaxLen", "internal/strconv.uint64pow10", "math/bits.deBruijn32tab", "math/bits.deBruijn64tab"], apart := false, laid := [("math/bits.deBruijn32tab", laid_math_bits_deBruijn32tab), ("math/bits.deBruijn64tab", laid_math_bits_deBruijn64tab), ("internal/strconv.uint64pow10", laid_internal_strconv_uint64pow10)], narrowed := true }
def RunEndsUptoSaid : Prop := runEndsUptoRow.holds Tryz.pinned (OpenSpec.upto runEndsSpec)

end Rows
end Go.Proofs.YtflfkbnklncilaaGreatDoor
