/-
  NARROWER THAN 'FOR EVERY INPUT', by the rows' own cells (each row's printed sentence says how): FnWorldNets: laid · FnWorldCut: laid · FnWorldUncalled: laid · FnWorldKeeps: laid · FnWorldAlways: laid · FnWorldTrue: laid · FnWorldNobody: laid · FnWorldFull: laid · FnWorldStill: laid · FnWorldCalm: laid · FnWorldForged: laid · FnWorldLost: laid.
  DERIVED. THE GIVEN ROWS OF THIS SEAT. 12 by the template 'for every input the law returns true; each argument reads behind the call as it read before'; 0 by the template 'total and deterministic' (their statements: YtgganfobejnfaaaGreatDoorTotals.lean).
  GIVEN WITH THE SEED: the statements are not yours to turn. If you find one false, say at which input.
  Laid BY PROGRAM, IN A SANDBOX (cutbox-rows.mjs): the forced cells as the released guide's own fill.sh prints them over the translation 3077c5a640be0703… (all of the seat's roots in one cut). By AI agents, Wed Nov 11 2026. No macro, syntax, notation, axiom, sorry.
-/
import Derived.Test.YtgganfobejnfaaaGreatDoorChecked
import GoSem.Claim
import GoSem.ClaimJoined
import GoSem.ClaimMapViews
import Derived.JoinedTies
import Derived.KernelRfl
namespace Go.Proofs.YtgganfobejnfaaaGreatDoor
/- THE CELL 'sum', in the pinned program and in every row, IS THE sha256 OF THE DUMP (.gsa) THAT YtgganfobejnfaaaGreatDoorProg.lean LOADS. Nothing in Lean hashes anything: it is a label: what it is worth is what the hold of that sum in a sandbox is worth. -/
noncomputable def Tryz.pinned : Pinned := { name := "ytgganfobejnfaaagreatdoor", sum := "3077c5a640be0703abca08777b25850cefe48d6d8c95c466682450c7f1070aaf", checked := Tryz.checked }
namespace Rows
def none {H : Type} : Left H := { results := [], args := [] }

/- WHAT THE LISTED PACKAGE-LEVEL VARIABLES READ AS WHEN THE CALL BEGINS. Each datum BY PROGRAM (the guide's laid-datum.mjs) off the statement by which the dump's own 'gosem.cut.vars' lays the variable. In a bare row this is a premise. The card (YtgganfobejnfaaaGreatDoorCards.lean) ties it to the program's text. -/
def laid_math_bits_deBruijn32tab {H : Type} : DataW H := .agg [.lit (.int .u8 0), .lit (.int .u8 1), .lit (.int .u8 28), .lit (.int .u8 2), .lit (.int .u8 29), .lit (.int .u8 14), .lit (.int .u8 24), .lit (.int .u8 3), .lit (.int .u8 30), .lit (.int .u8 22), .lit (.int .u8 20), .lit (.int .u8 15), .lit (.int .u8 25), .lit (.int .u8 17), .lit (.int .u8 4), .lit (.int .u8 8), .lit (.int .u8 31), .lit (.int .u8 27), .lit (.int .u8 13), .lit (.int .u8 23), .lit (.int .u8 21), .lit (.int .u8 19), .lit (.int .u8 16), .lit (.int .u8 7), .lit (.int .u8 26), .lit (.int .u8 12), .lit (.int .u8 18), .lit (.int .u8 6), .lit (.int .u8 11), .lit (.int .u8 5), .lit (.int .u8 10), .lit (.int .u8 9)]
def laid_math_bits_deBruijn64tab {H : Type} : DataW H := .agg [.lit (.int .u8 0), .lit (.int .u8 1), .lit (.int .u8 56), .lit (.int .u8 2), .lit (.int .u8 57), .lit (.int .u8 49), .lit (.int .u8 28), .lit (.int .u8 3), .lit (.int .u8 61), .lit (.int .u8 58), .lit (.int .u8 42), .lit (.int .u8 50), .lit (.int .u8 38), .lit (.int .u8 29), .lit (.int .u8 17), .lit (.int .u8 4), .lit (.int .u8 62), .lit (.int .u8 47), .lit (.int .u8 59), .lit (.int .u8 36), .lit (.int .u8 45), .lit (.int .u8 43), .lit (.int .u8 51), .lit (.int .u8 22), .lit (.int .u8 53), .lit (.int .u8 39), .lit (.int .u8 33), .lit (.int .u8 30), .lit (.int .u8 24), .lit (.int .u8 18), .lit (.int .u8 12), .lit (.int .u8 5), .lit (.int .u8 63), .lit (.int .u8 55), .lit (.int .u8 48), .lit (.int .u8 27), .lit (.int .u8 60), .lit (.int .u8 41), .lit (.int .u8 37), .lit (.int .u8 16), .lit (.int .u8 46), .lit (.int .u8 35), .lit (.int .u8 44), .lit (.int .u8 21), .lit (.int .u8 52), .lit (.int .u8 32), .lit (.int .u8 23), .lit (.int .u8 11), .lit (.int .u8 54), .lit (.int .u8 26), .lit (.int .u8 40), .lit (.int .u8 15), .lit (.int .u8 34), .lit (.int .u8 20), .lit (.int .u8 31), .lit (.int .u8 10), .lit (.int .u8 25), .lit (.int .u8 14), .lit (.int .u8 19), .lit (.int .u8 9), .lit (.int .u8 13), .lit (.int .u8 8), .lit (.int .u8 7), .lit (.int .u8 6)]
def laid_internal_strconv_uint64pow10 {H : Type} : DataW H := .agg [.lit (.int .u64 1), .lit (.int .u64 10), .lit (.int .u64 100), .lit (.int .u64 1000), .lit (.int .u64 10000), .lit (.int .u64 100000), .lit (.int .u64 1000000), .lit (.int .u64 10000000), .lit (.int .u64 100000000), .lit (.int .u64 1000000000), .lit (.int .u64 10000000000), .lit (.int .u64 100000000000), .lit (.int .u64 1000000000000), .lit (.int .u64 10000000000000), .lit (.int .u64 100000000000000), .lit (.int .u64 1000000000000000), .lit (.int .u64 10000000000000000), .lit (.int .u64 100000000000000000), .lit (.int .u64 1000000000000000000), .lit (.int .u64 10000000000000000000)]
def laid_strconv_ErrRange {H : Type} : DataW H := .iface "*errors.errorString" (.ptr (.agg [.lit (.string [118, 97, 108, 117, 101, 32, 111, 117, 116, 32, 111, 102, 32, 114, 97, 110, 103, 101])]))
def laid_strconv_ErrSyntax {H : Type} : DataW H := .iface "*errors.errorString" (.ptr (.agg [.lit (.string [105, 110, 118, 97, 108, 105, 100, 32, 115, 121, 110, 116, 97, 120])]))

/-- 'laws.FnWorldNets': WHATEVER THE INPUT: true; the input reads as it did. -/
def fnWorldNetsSpec : ChangeSpec := { name := "fnWorldNets", fn := fun _ => fun
  | [d] => { results := [.lit (.bool true)], args := [d] }
  | _ => none }
def fnWorldNetsRow : OpenClaim := { program := "ytgganfobejnfaaagreatdoor", sum := "3077c5a640be0703abca08777b25850cefe48d6d8c95c466682450c7f1070aaf", func := "loop.example/ostiary/laws.FnWorldNets", spec := "fnWorldNets", inPlace := ["internal/bytealg.IndexByteString", "internal/bytealg.IndexString", "internal/abi.NoEscape"], unfollowed := true, recurses := true, named := ["internal/bytealg.MaxLen", "strconv.ErrSyntax", "strconv.ErrRange", "internal/strconv.uint64pow10", "math/bits.deBruijn32tab", "math/bits.deBruijn64tab"], apart := false, laid := [("math/bits.deBruijn32tab", laid_math_bits_deBruijn32tab), ("math/bits.deBruijn64tab", laid_math_bits_deBruijn64tab), ("internal/strconv.uint64pow10", laid_internal_strconv_uint64pow10), ("strconv.ErrRange", laid_strconv_ErrRange), ("strconv.ErrSyntax", laid_strconv_ErrSyntax)] }
def FnWorldNetsSaid : Prop := fnWorldNetsRow.holds Tryz.pinned (OpenSpec.ofChange fnWorldNetsSpec)

/-- ITS FALSE NEIGHBOUR: 'it returns false'. Refute it at one input. -/
def fnWorldNetsWrong : ChangeSpec := { name := "fnWorldNets", fn := fun _ => fun
  | [d] => { results := [.lit (.bool false)], args := [d] }
  | _ => none }
def FnWorldNetsWrongFalsely : Prop := fnWorldNetsRow.holds Tryz.pinned (OpenSpec.ofChange fnWorldNetsWrong)

/-- 'laws.FnWorldCut': WHATEVER THE INPUT: true; the input reads as it did. -/
def fnWorldCutSpec : ChangeSpec := { name := "fnWorldCut", fn := fun _ => fun
  | [d1, d2] => { results := [.lit (.bool true)], args := [d1, d2] }
  | _ => none }
def fnWorldCutRow : OpenClaim := { program := "ytgganfobejnfaaagreatdoor", sum := "3077c5a640be0703abca08777b25850cefe48d6d8c95c466682450c7f1070aaf", func := "loop.example/ostiary/laws.FnWorldCut", spec := "fnWorldCut", inPlace := ["internal/bytealg.IndexByteString", "internal/bytealg.IndexString", "internal/abi.NoEscape"], unfollowed := true, recurses := true, named := ["internal/bytealg.MaxLen", "strconv.ErrSyntax", "strconv.ErrRange", "internal/strconv.uint64pow10", "math/bits.deBruijn32tab", "math/bits.deBruijn64tab"], apart := false, laid := [("math/bits.deBruijn32tab", laid_math_bits_deBruijn32tab), ("math/bits.deBruijn64tab", laid_math_bits_deBruijn64tab), ("internal/strconv.uint64pow10", laid_internal_strconv_uint64pow10), ("strconv.ErrRange", laid_strconv_ErrRange), ("strconv.ErrSyntax", laid_strconv_ErrSyntax)] }
def FnWorldCutSaid : Prop := fnWorldCutRow.holds Tryz.pinned (OpenSpec.ofChange fnWorldCutSpec)

/-- ITS FALSE NEIGHBOUR: 'it returns false'. Refute it at one input. -/
def fnWorldCutWrong : ChangeSpec := { name := "fnWorldCut", fn := fun _ => fun
  | [d1, d2] => { results := [.lit (.bool false)], args := [d1, d2] }
  | _ => none }
def FnWorldCutWrongFalsely : Prop := fnWorldCutRow.holds Tryz.pinned (OpenSpec.ofChange fnWorldCutWrong)

/-- 'laws.FnWorldUncalled': WHATEVER THE INPUT: true; the input reads as it did. -/
def fnWorldUncalledSpec : ChangeSpec := { name := "fnWorldUncalled", fn := fun _ => fun
  | [d1, d2] => { results := [.lit (.bool true)], args := [d1, d2] }
  | _ => none }
def fnWorldUncalledRow : OpenClaim := { program := "ytgganfobejnfaaagreatdoor", sum := "3077c5a640be0703abca08777b25850cefe48d6d8c95c466682450c7f1070aaf", func := "loop.example/ostiary/laws.FnWorldUncalled", spec := "fnWorldUncalled", inPlace := ["internal/bytealg.IndexByteString", "internal/bytealg.IndexString", "internal/abi.NoEscape"], unfollowed := true, recurses := true, named := ["internal/bytealg.MaxLen", "strconv.ErrSyntax", "strconv.ErrRange", "internal/strconv.uint64pow10", "math/bits.deBruijn32tab", "math/bits.deBruijn64tab"], apart := false, laid := [("math/bits.deBruijn32tab", laid_math_bits_deBruijn32tab), ("math/bits.deBruijn64tab", laid_math_bits_deBruijn64tab), ("internal/strconv.uint64pow10", laid_internal_strconv_uint64pow10), ("strconv.ErrRange", laid_strconv_ErrRange), ("strconv.ErrSyntax", laid_strconv_ErrSyntax)] }
def FnWorldUncalledSaid : Prop := fnWorldUncalledRow.holds Tryz.pinned (OpenSpec.ofChange fnWorldUncalledSpec)

/-- ITS FALSE NEIGHBOUR: 'it returns false'. Refute it at one input. -/
def fnWorldUncalledWrong : ChangeSpec := { name := "fnWorldUncalled", fn := fun _ => fun
  | [d1, d2] => { results := [.lit (.bool false)], args := [d1, d2] }
  | _ => none }
def FnWorldUncalledWrongFalsely : Prop := fnWorldUncalledRow.holds Tryz.pinned (OpenSpec.ofChange fnWorldUncalledWrong)

/-- 'laws.FnWorldKeeps': WHATEVER THE INPUT: true; the input reads as it did. -/
def fnWorldKeepsSpec : ChangeSpec := { name := "fnWorldKeeps", fn := fun _ => fun
  | [d1, d2] => { results := [.lit (.bool true)], args := [d1, d2] }
  | _ => none }
def fnWorldKeepsRow : OpenClaim := { program := "ytgganfobejnfaaagreatdoor", sum := "3077c5a640be0703abca08777b25850cefe48d6d8c95c466682450c7f1070aaf", func := "loop.example/ostiary/laws.FnWorldKeeps", spec := "fnWorldKeeps", inPlace := ["internal/bytealg.IndexByteString", "internal/bytealg.IndexString", "internal/abi.NoEscape"], unfollowed := true, recurses := true, named := ["internal/bytealg.MaxLen", "strconv.ErrSyntax", "strconv.ErrRange", "internal/strconv.uint64pow10", "math/bits.deBruijn32tab", "math/bits.deBruijn64tab"], apart := false, laid := [("math/bits.deBruijn32tab", laid_math_bits_deBruijn32tab), ("math/bits.deBruijn64tab", laid_math_bits_deBruijn64tab), ("internal/strconv.uint64pow10", laid_internal_strconv_uint64pow10), ("strconv.ErrRange", laid_strconv_ErrRange), ("strconv.ErrSyntax", laid_strconv_ErrSyntax)] }
def FnWorldKeepsSaid : Prop := fnWorldKeepsRow.holds Tryz.pinned (OpenSpec.ofChange fnWorldKeepsSpec)

/-- ITS FALSE NEIGHBOUR: 'it returns false'. Refute it at one input. -/
def fnWorldKeepsWrong : ChangeSpec := { name := "fnWorldKeeps", fn := fun _ => fun
  | [d1, d2] => { results := [.lit (.bool false)], args := [d1, d2] }
  | _ => none }
def FnWorldKeepsWrongFalsely : Prop := fnWorldKeepsRow.holds Tryz.pinned (OpenSpec.ofChange fnWorldKeepsWrong)

/-- 'laws.FnWorldAlways': WHATEVER THE INPUT: true; the input reads as it did. -/
def fnWorldAlwaysSpec : ChangeSpec := { name := "fnWorldAlways", fn := fun _ => fun
  | [d1, d2] => { results := [.lit (.bool true)], args := [d1, d2] }
  | _ => none }
def fnWorldAlwaysRow : OpenClaim := { program := "ytgganfobejnfaaagreatdoor", sum := "3077c5a640be0703abca08777b25850cefe48d6d8c95c466682450c7f1070aaf", func := "loop.example/ostiary/laws.FnWorldAlways", spec := "fnWorldAlways", inPlace := ["internal/bytealg.IndexByteString", "internal/bytealg.IndexString", "internal/abi.NoEscape"], unfollowed := true, recurses := true, named := ["internal/bytealg.MaxLen", "strconv.ErrSyntax", "strconv.ErrRange", "internal/strconv.uint64pow10", "math/bits.deBruijn32tab", "math/bits.deBruijn64tab"], apart := false, laid := [("math/bits.deBruijn32tab", laid_math_bits_deBruijn32tab), ("math/bits.deBruijn64tab", laid_math_bits_deBruijn64tab), ("internal/strconv.uint64pow10", laid_internal_strconv_uint64pow10), ("strconv.ErrRange", laid_strconv_ErrRange), ("strconv.ErrSyntax", laid_strconv_ErrSyntax)] }
def FnWorldAlwaysSaid : Prop := fnWorldAlwaysRow.holds Tryz.pinned (OpenSpec.ofChange fnWorldAlwaysSpec)

/-- ITS FALSE NEIGHBOUR: 'it returns false'. Refute it at one input. -/
def fnWorldAlwaysWrong : ChangeSpec := { name := "fnWorldAlways", fn := fun _ => fun
  | [d1, d2] => { results := [.lit (.bool false)], args := [d1, d2] }
  | _ => none }
def FnWorldAlwaysWrongFalsely : Prop := fnWorldAlwaysRow.holds Tryz.pinned (OpenSpec.ofChange fnWorldAlwaysWrong)

/-- 'laws.FnWorldTrue': WHATEVER THE INPUT: true; the input reads as it did. -/
def fnWorldTrueSpec : ChangeSpec := { name := "fnWorldTrue", fn := fun _ => fun
  | [d] => { results := [.lit (.bool true)], args := [d] }
  | _ => none }
def fnWorldTrueRow : OpenClaim := { program := "ytgganfobejnfaaagreatdoor", sum := "3077c5a640be0703abca08777b25850cefe48d6d8c95c466682450c7f1070aaf", func := "loop.example/ostiary/laws.FnWorldTrue", spec := "fnWorldTrue", inPlace := ["internal/bytealg.IndexByteString", "internal/bytealg.IndexString", "internal/abi.NoEscape"], unfollowed := true, recurses := true, named := ["internal/bytealg.MaxLen", "strconv.ErrSyntax", "strconv.ErrRange", "internal/strconv.uint64pow10", "math/bits.deBruijn32tab", "math/bits.deBruijn64tab"], apart := false, laid := [("math/bits.deBruijn32tab", laid_math_bits_deBruijn32tab), ("math/bits.deBruijn64tab", laid_math_bits_deBruijn64tab), ("internal/strconv.uint64pow10", laid_internal_strconv_uint64pow10), ("strconv.ErrRange", laid_strconv_ErrRange), ("strconv.ErrSyntax", laid_strconv_ErrSyntax)] }
def FnWorldTrueSaid : Prop := fnWorldTrueRow.holds Tryz.pinned (OpenSpec.ofChange fnWorldTrueSpec)

/-- ITS FALSE NEIGHBOUR: 'it returns false'. Refute it at one input. -/
def fnWorldTrueWrong : ChangeSpec := { name := "fnWorldTrue", fn := fun _ => fun
  | [d] => { results := [.lit (.bool false)], args := [d] }
  | _ => none }
def FnWorldTrueWrongFalsely : Prop := fnWorldTrueRow.holds Tryz.pinned (OpenSpec.ofChange fnWorldTrueWrong)

/-- 'laws.FnWorldNobody': WHATEVER THE INPUT: true; the input reads as it did. -/
def fnWorldNobodySpec : ChangeSpec := { name := "fnWorldNobody", fn := fun _ => fun
  | [d1, d2] => { results := [.lit (.bool true)], args := [d1, d2] }
  | _ => none }
def fnWorldNobodyRow : OpenClaim := { program := "ytgganfobejnfaaagreatdoor", sum := "3077c5a640be0703abca08777b25850cefe48d6d8c95c466682450c7f1070aaf", func := "loop.example/ostiary/laws.FnWorldNobody", spec := "fnWorldNobody", inPlace := ["internal/bytealg.IndexByteString", "internal/bytealg.IndexString", "internal/abi.NoEscape"], unfollowed := true, recurses := true, named := ["internal/bytealg.MaxLen", "strconv.ErrSyntax", "strconv.ErrRange", "internal/strconv.uint64pow10", "math/bits.deBruijn32tab", "math/bits.deBruijn64tab"], apart := false, laid := [("math/bits.deBruijn32tab", laid_math_bits_deBruijn32tab), ("math/bits.deBruijn64tab", laid_math_bits_deBruijn64tab), ("internal/strconv.uint64pow10", laid_internal_strconv_uint64pow10), ("strconv.ErrRange", laid_strconv_ErrRange), ("strconv.ErrSyntax", laid_strconv_ErrSyntax)] }
def FnWorldNobodySaid : Prop := fnWorldNobodyRow.holds Tryz.pinned (OpenSpec.ofChange fnWorldNobodySpec)

/-- ITS FALSE NEIGHBOUR: 'it returns false'. Refute it at one input. -/
def fnWorldNobodyWrong : ChangeSpec := { name := "fnWorldNobody", fn := fun _ => fun
  | [d1, d2] => { results := [.lit (.bool false)], args := [d1, d2] }
  | _ => none }
def FnWorldNobodyWrongFalsely : Prop := fnWorldNobodyRow.holds Tryz.pinned (OpenSpec.ofChange fnWorldNobodyWrong)

/-- 'laws.FnWorldFull': WHATEVER THE INPUT: true; the input reads as it did. -/
def fnWorldFullSpec : ChangeSpec := { name := "fnWorldFull", fn := fun _ => fun
  | [d1, d2] => { results := [.lit (.bool true)], args := [d1, d2] }
  | _ => none }
def fnWorldFullRow : OpenClaim := { program := "ytgganfobejnfaaagreatdoor", sum := "3077c5a640be0703abca08777b25850cefe48d6d8c95c466682450c7f1070aaf", func := "loop.example/ostiary/laws.FnWorldFull", spec := "fnWorldFull", inPlace := ["internal/bytealg.IndexByteString", "internal/bytealg.IndexString", "internal/abi.NoEscape"], unfollowed := true, recurses := true, named := ["internal/bytealg.MaxLen", "strconv.ErrSyntax", "strconv.ErrRange", "internal/strconv.uint64pow10", "math/bits.deBruijn32tab", "math/bits.deBruijn64tab"], apart := false, laid := [("math/bits.deBruijn32tab", laid_math_bits_deBruijn32tab), ("math/bits.deBruijn64tab", laid_math_bits_deBruijn64tab), ("internal/strconv.uint64pow10", laid_internal_strconv_uint64pow10), ("strconv.ErrRange", laid_strconv_ErrRange), ("strconv.ErrSyntax", laid_strconv_ErrSyntax)] }
def FnWorldFullSaid : Prop := fnWorldFullRow.holds Tryz.pinned (OpenSpec.ofChange fnWorldFullSpec)

/-- ITS FALSE NEIGHBOUR: 'it returns false'. Refute it at one input. -/
def fnWorldFullWrong : ChangeSpec := { name := "fnWorldFull", fn := fun _ => fun
  | [d1, d2] => { results := [.lit (.bool false)], args := [d1, d2] }
  | _ => none }
def FnWorldFullWrongFalsely : Prop := fnWorldFullRow.holds Tryz.pinned (OpenSpec.ofChange fnWorldFullWrong)

/-- 'laws.FnWorldStill': WHATEVER THE INPUT: true; the input reads as it did. -/
def fnWorldStillSpec : ChangeSpec := { name := "fnWorldStill", fn := fun _ => fun
  | [d1, d2] => { results := [.lit (.bool true)], args := [d1, d2] }
  | _ => none }
def fnWorldStillRow : OpenClaim := { program := "ytgganfobejnfaaagreatdoor", sum := "3077c5a640be0703abca08777b25850cefe48d6d8c95c466682450c7f1070aaf", func := "loop.example/ostiary/laws.FnWorldStill", spec := "fnWorldStill", inPlace := ["internal/bytealg.IndexByteString", "internal/bytealg.IndexString", "internal/abi.NoEscape"], unfollowed := true, recurses := true, named := ["internal/bytealg.MaxLen", "strconv.ErrSyntax", "strconv.ErrRange", "internal/strconv.uint64pow10", "math/bits.deBruijn32tab", "math/bits.deBruijn64tab"], apart := false, laid := [("math/bits.deBruijn32tab", laid_math_bits_deBruijn32tab), ("math/bits.deBruijn64tab", laid_math_bits_deBruijn64tab), ("internal/strconv.uint64pow10", laid_internal_strconv_uint64pow10), ("strconv.ErrRange", laid_strconv_ErrRange), ("strconv.ErrSyntax", laid_strconv_ErrSyntax)] }
def FnWorldStillSaid : Prop := fnWorldStillRow.holds Tryz.pinned (OpenSpec.ofChange fnWorldStillSpec)

/-- ITS FALSE NEIGHBOUR: 'it returns false'. Refute it at one input. -/
def fnWorldStillWrong : ChangeSpec := { name := "fnWorldStill", fn := fun _ => fun
  | [d1, d2] => { results := [.lit (.bool false)], args := [d1, d2] }
  | _ => none }
def FnWorldStillWrongFalsely : Prop := fnWorldStillRow.holds Tryz.pinned (OpenSpec.ofChange fnWorldStillWrong)

/-- 'laws.FnWorldCalm': WHATEVER THE INPUT: true; the input reads as it did. -/
def fnWorldCalmSpec : ChangeSpec := { name := "fnWorldCalm", fn := fun _ => fun
  | [d] => { results := [.lit (.bool true)], args := [d] }
  | _ => none }
def fnWorldCalmRow : OpenClaim := { program := "ytgganfobejnfaaagreatdoor", sum := "3077c5a640be0703abca08777b25850cefe48d6d8c95c466682450c7f1070aaf", func := "loop.example/ostiary/laws.FnWorldCalm", spec := "fnWorldCalm", inPlace := ["internal/bytealg.IndexByteString", "internal/bytealg.IndexString", "internal/abi.NoEscape"], unfollowed := true, recurses := true, named := ["internal/bytealg.MaxLen", "strconv.ErrSyntax", "strconv.ErrRange", "internal/strconv.uint64pow10", "math/bits.deBruijn32tab", "math/bits.deBruijn64tab"], apart := false, laid := [("math/bits.deBruijn32tab", laid_math_bits_deBruijn32tab), ("math/bits.deBruijn64tab", laid_math_bits_deBruijn64tab), ("internal/strconv.uint64pow10", laid_internal_strconv_uint64pow10), ("strconv.ErrRange", laid_strconv_ErrRange), ("strconv.ErrSyntax", laid_strconv_ErrSyntax)] }
def FnWorldCalmSaid : Prop := fnWorldCalmRow.holds Tryz.pinned (OpenSpec.ofChange fnWorldCalmSpec)

/-- ITS FALSE NEIGHBOUR: 'it returns false'. Refute it at one input. -/
def fnWorldCalmWrong : ChangeSpec := { name := "fnWorldCalm", fn := fun _ => fun
  | [d] => { results := [.lit (.bool false)], args := [d] }
  | _ => none }
def FnWorldCalmWrongFalsely : Prop := fnWorldCalmRow.holds Tryz.pinned (OpenSpec.ofChange fnWorldCalmWrong)

/-- 'laws.FnWorldForged': WHATEVER THE INPUT: true; the input reads as it did. -/
def fnWorldForgedSpec : ChangeSpec := { name := "fnWorldForged", fn := fun _ => fun
  | [d] => { results := [.lit (.bool true)], args := [d] }
  | _ => none }
def fnWorldForgedRow : OpenClaim := { program := "ytgganfobejnfaaagreatdoor", sum := "3077c5a640be0703abca08777b25850cefe48d6d8c95c466682450c7f1070aaf", func := "loop.example/ostiary/laws.FnWorldForged", spec := "fnWorldForged", inPlace := ["internal/bytealg.IndexByteString", "internal/bytealg.IndexString", "internal/abi.NoEscape"], unfollowed := true, recurses := true, named := ["internal/bytealg.MaxLen", "strconv.ErrSyntax", "strconv.ErrRange", "internal/strconv.uint64pow10", "math/bits.deBruijn32tab", "math/bits.deBruijn64tab"], apart := false, laid := [("math/bits.deBruijn32tab", laid_math_bits_deBruijn32tab), ("math/bits.deBruijn64tab", laid_math_bits_deBruijn64tab), ("internal/strconv.uint64pow10", laid_internal_strconv_uint64pow10), ("strconv.ErrRange", laid_strconv_ErrRange), ("strconv.ErrSyntax", laid_strconv_ErrSyntax)] }
def FnWorldForgedSaid : Prop := fnWorldForgedRow.holds Tryz.pinned (OpenSpec.ofChange fnWorldForgedSpec)

/-- ITS FALSE NEIGHBOUR: 'it returns false'. Refute it at one input. -/
def fnWorldForgedWrong : ChangeSpec := { name := "fnWorldForged", fn := fun _ => fun
  | [d] => { results := [.lit (.bool false)], args := [d] }
  | _ => none }
def FnWorldForgedWrongFalsely : Prop := fnWorldForgedRow.holds Tryz.pinned (OpenSpec.ofChange fnWorldForgedWrong)

/-- 'laws.FnWorldLost': WHATEVER THE INPUT: true; the input reads as it did. -/
def fnWorldLostSpec : ChangeSpec := { name := "fnWorldLost", fn := fun _ => fun
  | [d] => { results := [.lit (.bool true)], args := [d] }
  | _ => none }
def fnWorldLostRow : OpenClaim := { program := "ytgganfobejnfaaagreatdoor", sum := "3077c5a640be0703abca08777b25850cefe48d6d8c95c466682450c7f1070aaf", func := "loop.example/ostiary/laws.FnWorldLost", spec := "fnWorldLost", inPlace := ["internal/bytealg.IndexByteString", "internal/bytealg.IndexString", "internal/abi.NoEscape"], unfollowed := true, recurses := true, named := ["internal/bytealg.MaxLen", "strconv.ErrSyntax", "strconv.ErrRange", "internal/strconv.uint64pow10", "math/bits.deBruijn32tab", "math/bits.deBruijn64tab"], apart := false, laid := [("math/bits.deBruijn32tab", laid_math_bits_deBruijn32tab), ("math/bits.deBruijn64tab", laid_math_bits_deBruijn64tab), ("internal/strconv.uint64pow10", laid_internal_strconv_uint64pow10), ("strconv.ErrRange", laid_strconv_ErrRange), ("strconv.ErrSyntax", laid_strconv_ErrSyntax)] }
def FnWorldLostSaid : Prop := fnWorldLostRow.holds Tryz.pinned (OpenSpec.ofChange fnWorldLostSpec)

/-- ITS FALSE NEIGHBOUR: 'it returns false'. Refute it at one input. -/
def fnWorldLostWrong : ChangeSpec := { name := "fnWorldLost", fn := fun _ => fun
  | [d] => { results := [.lit (.bool false)], args := [d] }
  | _ => none }
def FnWorldLostWrongFalsely : Prop := fnWorldLostRow.holds Tryz.pinned (OpenSpec.ofChange fnWorldLostWrong)

/- THE SECOND FORM. 'bulk': how many values and letters a reading holds, each counted each time it is reached (what is shared counts as often as it is met; a slice's spare places count too). A statement '..UptoSaid' is the law's where the arguments, and the package variables that the reading takes, are together of bulk at most 1048576: NARROWER than '..Said'. Prove '..Said' where nothing that the law and all that it calls make is longer than what came in: it says more and counts as full. Else prove '..UptoSaid'. A law counts once. -/
mutual
def uptoBulk {H : Type} : DataW H → Nat
  | .lit (.string bytes) => bytes.length + 1
  | .lit _ => 1
  | .nil => 1
  | .ptr d => uptoBulk d + 1
  | .slice elems spare => uptoBulkAll elems + uptoBulkAll spare + 1
  | .agg parts => uptoBulkAll parts + 1
  | .iface _ d => uptoBulk d + 1
  | .map entries => uptoBulkEntries entries + 1
  | .held _ => 1
def uptoBulkAll {H : Type} : List (DataW H) → Nat
  | [] => 0
  | d :: r => uptoBulk d + uptoBulkAll r
def uptoBulkEntries {H : Type} : List (Lit × DataW H) → Nat
  | [] => 0
  | x :: r => uptoBulkEntry x + uptoBulkEntries r
def uptoBulkEntry {H : Type} : Lit × DataW H → Nat
  | (.string bytes, d) => bytes.length + uptoBulk d + 1
  | (_, d) => uptoBulk d + 1
 end
def uptoSmall : (H : Type) → List (DataW H) → Bool := fun _ ds => decide (uptoBulkAll ds ≤ 1048576)
def OpenSpec.upto (s : _root_.Go.ChangeSpec) : _root_.Go.OpenSpec := { _root_.Go.OpenSpec.ofChange s with cond := some uptoSmall }

/-- 'laws.FnWorldNets', WHERE WHAT IT READS IS OF BULK AT MOST 1048576: true; the input reads as it did. -/
def fnWorldNetsUptoRow : OpenClaim := { program := "ytgganfobejnfaaagreatdoor", sum := "3077c5a640be0703abca08777b25850cefe48d6d8c95c466682450c7f1070aaf", func := "loop.example/ostiary/laws.FnWorldNets", spec := "fnWorldNets", inPlace := ["internal/bytealg.IndexByteString", "internal/bytealg.IndexString", "internal/abi.NoEscape"], unfollowed := true, recurses := true, named := ["internal/bytealg.MaxLen", "strconv.ErrSyntax", "strconv.ErrRange", "internal/strconv.uint64pow10", "math/bits.deBruijn32tab", "math/bits.deBruijn64tab"], apart := false, laid := [("math/bits.deBruijn32tab", laid_math_bits_deBruijn32tab), ("math/bits.deBruijn64tab", laid_math_bits_deBruijn64tab), ("internal/strconv.uint64pow10", laid_internal_strconv_uint64pow10), ("strconv.ErrRange", laid_strconv_ErrRange), ("strconv.ErrSyntax", laid_strconv_ErrSyntax)], narrowed := true }
def FnWorldNetsUptoSaid : Prop := fnWorldNetsUptoRow.holds Tryz.pinned (OpenSpec.upto fnWorldNetsSpec)

/-- 'laws.FnWorldCut', WHERE WHAT IT READS IS OF BULK AT MOST 1048576: true; the input reads as it did. -/
def fnWorldCutUptoRow : OpenClaim := { program := "ytgganfobejnfaaagreatdoor", sum := "3077c5a640be0703abca08777b25850cefe48d6d8c95c466682450c7f1070aaf", func := "loop.example/ostiary/laws.FnWorldCut", spec := "fnWorldCut", inPlace := ["internal/bytealg.IndexByteString", "internal/bytealg.IndexString", "internal/abi.NoEscape"], unfollowed := true, recurses := true, named := ["internal/bytealg.MaxLen", "strconv.ErrSyntax", "strconv.ErrRange", "internal/strconv.uint64pow10", "math/bits.deBruijn32tab", "math/bits.deBruijn64tab"], apart := false, laid := [("math/bits.deBruijn32tab", laid_math_bits_deBruijn32tab), ("math/bits.deBruijn64tab", laid_math_bits_deBruijn64tab), ("internal/strconv.uint64pow10", laid_internal_strconv_uint64pow10), ("strconv.ErrRange", laid_strconv_ErrRange), ("strconv.ErrSyntax", laid_strconv_ErrSyntax)], narrowed := true }
def FnWorldCutUptoSaid : Prop := fnWorldCutUptoRow.holds Tryz.pinned (OpenSpec.upto fnWorldCutSpec)

/-- 'laws.FnWorldUncalled', WHERE WHAT IT READS IS OF BULK AT MOST 1048576: true; the input reads as it did. -/
def fnWorldUncalledUptoRow : OpenClaim := { program := "ytgganfobejnfaaagreatdoor", sum := "3077c5a640be0703abca08777b25850cefe48d6d8c95c466682450c7f1070aaf", func := "loop.example/ostiary/laws.FnWorldUncalled", spec := "fnWorldUncalled", inPlace := ["internal/bytealg.IndexByteString", "internal/bytealg.IndexString", "internal/abi.NoEscape"], unfollowed := true, recurses := true, named := ["internal/bytealg.MaxLen", "strconv.ErrSyntax", "strconv.ErrRange", "internal/strconv.uint64pow10", "math/bits.deBruijn32tab", "math/bits.deBruijn64tab"], apart := false, laid := [("math/bits.deBruijn32tab", laid_math_bits_deBruijn32tab), ("math/bits.deBruijn64tab", laid_math_bits_deBruijn64tab), ("internal/strconv.uint64pow10", laid_internal_strconv_uint64pow10), ("strconv.ErrRange", laid_strconv_ErrRange), ("strconv.ErrSyntax", laid_strconv_ErrSyntax)], narrowed := true }
def FnWorldUncalledUptoSaid : Prop := fnWorldUncalledUptoRow.holds Tryz.pinned (OpenSpec.upto fnWorldUncalledSpec)

/-- 'laws.FnWorldKeeps', WHERE WHAT IT READS IS OF BULK AT MOST 1048576: true; the input reads as it did. -/
def fnWorldKeepsUptoRow : OpenClaim := { program := "ytgganfobejnfaaagreatdoor", sum := "3077c5a640be0703abca08777b25850cefe48d6d8c95c466682450c7f1070aaf", func := "loop.example/ostiary/laws.FnWorldKeeps", spec := "fnWorldKeeps", inPlace := ["internal/bytealg.IndexByteString", "internal/bytealg.IndexString", "internal/abi.NoEscape"], unfollowed := true, recurses := true, named := ["internal/bytealg.MaxLen", "strconv.ErrSyntax", "strconv.ErrRange", "internal/strconv.uint64pow10", "math/bits.deBruijn32tab", "math/bits.deBruijn64tab"], apart := false, laid := [("math/bits.deBruijn32tab", laid_math_bits_deBruijn32tab), ("math/bits.deBruijn64tab", laid_math_bits_deBruijn64tab), ("internal/strconv.uint64pow10", laid_internal_strconv_uint64pow10), ("strconv.ErrRange", laid_strconv_ErrRange), ("strconv.ErrSyntax", laid_strconv_ErrSyntax)], narrowed := true }
def FnWorldKeepsUptoSaid : Prop := fnWorldKeepsUptoRow.holds Tryz.pinned (OpenSpec.upto fnWorldKeepsSpec)

/-- 'laws.FnWorldAlways', WHERE WHAT IT READS IS OF BULK AT MOST 1048576: true; the input reads as it did. -/
def fnWorldAlwaysUptoRow : OpenClaim := { program := "ytgganfobejnfaaagreatdoor", sum := "3077c5a640be0703abca08777b25850cefe48d6d8c95c466682450c7f1070aaf", func := "loop.example/ostiary/laws.FnWorldAlways", spec := "fnWorldAlways", inPlace := ["internal/bytealg.IndexByteString", "internal/bytealg.IndexString", "internal/abi.NoEscape"], unfollowed := true, recurses := true, named := ["internal/bytealg.MaxLen", "strconv.ErrSyntax", "strconv.ErrRange", "internal/strconv.uint64pow10", "math/bits.deBruijn32tab", "math/bits.deBruijn64tab"], apart := false, laid := [("math/bits.deBruijn32tab", laid_math_bits_deBruijn32tab), ("math/bits.deBruijn64tab", laid_math_bits_deBruijn64tab), ("internal/strconv.uint64pow10", laid_internal_strconv_uint64pow10), ("strconv.ErrRange", laid_strconv_ErrRange), ("strconv.ErrSyntax", laid_strconv_ErrSyntax)], narrowed := true }
def FnWorldAlwaysUptoSaid : Prop := fnWorldAlwaysUptoRow.holds Tryz.pinned (OpenSpec.upto fnWorldAlwaysSpec)

/-- 'laws.FnWorldTrue', WHERE WHAT IT READS IS OF BULK AT MOST 1048576: true; the input reads as it did. -/
def fnWorldTrueUptoRow : OpenClaim := { program := "ytgganfobejnfaaagreatdoor", sum := "3077c5a640be0703abca08777b25850cefe48d6d8c95c466682450c7f1070aaf", func := "loop.example/ostiary/laws.FnWorldTrue", spec := "fnWorldTrue", inPlace := ["internal/bytealg.IndexByteString", "internal/bytealg.IndexString", "internal/abi.NoEscape"], unfollowed := true, recurses := true, named := ["internal/bytealg.MaxLen", "strconv.ErrSyntax", "strconv.ErrRange", "internal/strconv.uint64pow10", "math/bits.deBruijn32tab", "math/bits.deBruijn64tab"], apart := false, laid := [("math/bits.deBruijn32tab", laid_math_bits_deBruijn32tab), ("math/bits.deBruijn64tab", laid_math_bits_deBruijn64tab), ("internal/strconv.uint64pow10", laid_internal_strconv_uint64pow10), ("strconv.ErrRange", laid_strconv_ErrRange), ("strconv.ErrSyntax", laid_strconv_ErrSyntax)], narrowed := true }
def FnWorldTrueUptoSaid : Prop := fnWorldTrueUptoRow.holds Tryz.pinned (OpenSpec.upto fnWorldTrueSpec)

/-- 'laws.FnWorldNobody', WHERE WHAT IT READS IS OF BULK AT MOST 1048576: true; the input reads as it did. -/
def fnWorldNobodyUptoRow : OpenClaim := { program := "ytgganfobejnfaaagreatdoor", sum := "3077c5a640be0703abca08777b25850cefe48d6d8c95c466682450c7f1070aaf", func := "loop.example/ostiary/laws.FnWorldNobody", spec := "fnWorldNobody", inPlace := ["internal/bytealg.IndexByteString", "internal/bytealg.IndexString", "internal/abi.NoEscape"], unfollowed := true, recurses := true, named := ["internal/bytealg.MaxLen", "strconv.ErrSyntax", "strconv.ErrRange", "internal/strconv.uint64pow10", "math/bits.deBruijn32tab", "math/bits.deBruijn64tab"], apart := false, laid := [("math/bits.deBruijn32tab", laid_math_bits_deBruijn32tab), ("math/bits.deBruijn64tab", laid_math_bits_deBruijn64tab), ("internal/strconv.uint64pow10", laid_internal_strconv_uint64pow10), ("strconv.ErrRange", laid_strconv_ErrRange), ("strconv.ErrSyntax", laid_strconv_ErrSyntax)], narrowed := true }
def FnWorldNobodyUptoSaid : Prop := fnWorldNobodyUptoRow.holds Tryz.pinned (OpenSpec.upto fnWorldNobodySpec)

/-- 'laws.FnWorldFull', WHERE WHAT IT READS IS OF BULK AT MOST 1048576: true; the input reads as it did. -/
def fnWorldFullUptoRow : OpenClaim := { program := "ytgganfobejnfaaagreatdoor", sum := "3077c5a640be0703abca08777b25850cefe48d6d8c95c466682450c7f1070aaf", func := "loop.example/ostiary/laws.FnWorldFull", spec := "fnWorldFull", inPlace := ["internal/bytealg.IndexByteString", "internal/bytealg.IndexString", "internal/abi.NoEscape"], unfollowed := true, recurses := true, named := ["internal/bytealg.MaxLen", "strconv.ErrSyntax", "strconv.ErrRange", "internal/strconv.uint64pow10", "math/bits.deBruijn32tab", "math/bits.deBruijn64tab"], apart := false, laid := [("math/bits.deBruijn32tab", laid_math_bits_deBruijn32tab), ("math/bits.deBruijn64tab", laid_math_bits_deBruijn64tab), ("internal/strconv.uint64pow10", laid_internal_strconv_uint64pow10), ("strconv.ErrRange", laid_strconv_ErrRange), ("strconv.ErrSyntax", laid_strconv_ErrSyntax)], narrowed := true }
def FnWorldFullUptoSaid : Prop := fnWorldFullUptoRow.holds Tryz.pinned (OpenSpec.upto fnWorldFullSpec)

/-- 'laws.FnWorldStill', WHERE WHAT IT READS IS OF BULK AT MOST 1048576: true; the input reads as it did. -/
def fnWorldStillUptoRow : OpenClaim := { program := "ytgganfobejnfaaagreatdoor", sum := "3077c5a640be0703abca08777b25850cefe48d6d8c95c466682450c7f1070aaf", func := "loop.example/ostiary/laws.FnWorldStill", spec := "fnWorldStill", inPlace := ["internal/bytealg.IndexByteString", "internal/bytealg.IndexString", "internal/abi.NoEscape"], unfollowed := true, recurses := true, named := ["internal/bytealg.MaxLen", "strconv.ErrSyntax", "strconv.ErrRange", "internal/strconv.uint64pow10", "math/bits.deBruijn32tab", "math/bits.deBruijn64tab"], apart := false, laid := [("math/bits.deBruijn32tab", laid_math_bits_deBruijn32tab), ("math/bits.deBruijn64tab", laid_math_bits_deBruijn64tab), ("internal/strconv.uint64pow10", laid_internal_strconv_uint64pow10), ("strconv.ErrRange", laid_strconv_ErrRange), ("strconv.ErrSyntax", laid_strconv_ErrSyntax)], narrowed := true }
def FnWorldStillUptoSaid : Prop := fnWorldStillUptoRow.holds Tryz.pinned (OpenSpec.upto fnWorldStillSpec)

/-- 'laws.FnWorldCalm', WHERE WHAT IT READS IS OF BULK AT MOST 1048576: true; the input reads as it did. -/
def fnWorldCalmUptoRow : OpenClaim := { program := "ytgganfobejnfaaagreatdoor", sum := "3077c5a640be0703abca08777b25850cefe48d6d8c95c466682450c7f1070aaf", func := "loop.example/ostiary/laws.FnWorldCalm", spec := "fnWorldCalm", inPlace := ["internal/bytealg.IndexByteString", "internal/bytealg.IndexString", "internal/abi.NoEscape"], unfollowed := true, recurses := true, named := ["internal/bytealg.MaxLen", "strconv.ErrSyntax", "strconv.ErrRange", "internal/strconv.uint64pow10", "math/bits.deBruijn32tab", "math/bits.deBruijn64tab"], apart := false, laid := [("math/bits.deBruijn32tab", laid_math_bits_deBruijn32tab), ("math/bits.deBruijn64tab", laid_math_bits_deBruijn64tab), ("internal/strconv.uint64pow10", laid_internal_strconv_uint64pow10), ("strconv.ErrRange", laid_strconv_ErrRange), ("strconv.ErrSyntax", laid_strconv_ErrSyntax)], narrowed := true }
def FnWorldCalmUptoSaid : Prop := fnWorldCalmUptoRow.holds Tryz.pinned (OpenSpec.upto fnWorldCalmSpec)

/-- 'laws.FnWorldForged', WHERE WHAT IT READS IS OF BULK AT MOST 1048576: true; the input reads as it did. -/
def fnWorldForgedUptoRow : OpenClaim := { program := "ytgganfobejnfaaagreatdoor", sum := "3077c5a640be0703abca08777b25850cefe48d6d8c95c466682450c7f1070aaf", func := "loop.example/ostiary/laws.FnWorldForged", spec := "fnWorldForged", inPlace := ["internal/bytealg.IndexByteString", "internal/bytealg.IndexString", "internal/abi.NoEscape"], unfollowed := true, recurses := true, named := ["internal/bytealg.MaxLen", "strconv.ErrSyntax", "strconv.ErrRange", "internal/strconv.uint64pow10", "math/bits.deBruijn32tab", "math/bits.deBruijn64tab"], apart := false, laid := [("math/bits.deBruijn32tab", laid_math_bits_deBruijn32tab), ("math/bits.deBruijn64tab", laid_math_bits_deBruijn64tab), ("internal/strconv.uint64pow10", laid_internal_strconv_uint64pow10), ("strconv.ErrRange", laid_strconv_ErrRange), ("strconv.ErrSyntax", laid_strconv_ErrSyntax)], narrowed := true }
def FnWorldForgedUptoSaid : Prop := fnWorldForgedUptoRow.holds Tryz.pinned (OpenSpec.upto fnWorldForgedSpec)

/-- 'laws.FnWorldLost', WHERE WHAT IT READS IS OF BULK AT MOST 1048576: true; the input reads as it did. -/
def fnWorldLostUptoRow : OpenClaim := { program := "ytgganfobejnfaaagreatdoor", sum := "3077c5a640be0703abca08777b25850cefe48d6d8c95c466682450c7f1070aaf", func := "loop.example/ostiary/laws.FnWorldLost", spec := "fnWorldLost", inPlace := ["internal/bytealg.IndexByteString", "internal/bytealg.IndexString", "internal/abi.NoEscape"], unfollowed := true, recurses := true, named := ["internal/bytealg.MaxLen", "strconv.ErrSyntax", "strconv.ErrRange", "internal/strconv.uint64pow10", "math/bits.deBruijn32tab", "math/bits.deBruijn64tab"], apart := false, laid := [("math/bits.deBruijn32tab", laid_math_bits_deBruijn32tab), ("math/bits.deBruijn64tab", laid_math_bits_deBruijn64tab), ("internal/strconv.uint64pow10", laid_internal_strconv_uint64pow10), ("strconv.ErrRange", laid_strconv_ErrRange), ("strconv.ErrSyntax", laid_strconv_ErrSyntax)], narrowed := true }
def FnWorldLostUptoSaid : Prop := fnWorldLostUptoRow.holds Tryz.pinned (OpenSpec.upto fnWorldLostSpec)

end Rows
end Go.Proofs.YtgganfobejnfaaaGreatDoor
