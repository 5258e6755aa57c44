/-
  NARROWER THAN 'FOR EVERY INPUT', by the rows' own cells (each row's printed sentence says how): FnOutSame: laid · FnInInvited: laid · FnInText: laid · FnOutPort: laid · FnOutText: laid · FnOutHeld: laid · FnPassApart: laid · FnPassTwice: laid · FnDoorHides: laid · FnPassOther: laid · FnAckFar: laid · FnOutOpens: laid · FnAckBack: laid.
  DERIVED. THE GIVEN ROWS OF THIS SEAT. 13 by the template 'for every input the law returns true; each argument reads behind the call as it read before'; 0 by the template 'total and deterministic' (their statements: YtfepdcpidkjklaaGreatDoorTotals.lean).
  GIVEN WITH THE SEED: the statements are not yours to turn. If you find one false, say at which input.
  Laid BY PROGRAM, IN A SANDBOX (cutbox-rows.mjs): the forced cells as the released guide's own fill.sh prints them over the translation aad845ff31378ecb… (all of the seat's roots in one cut). By AI agents, Wed Nov 11 2026. No macro, syntax, notation, axiom, sorry.
-/
import Derived.Test.YtfepdcpidkjklaaGreatDoorChecked
import GoSem.Claim
import GoSem.ClaimJoined
import GoSem.ClaimMapViews
import Derived.JoinedTies
import Derived.KernelRfl
namespace Go.Proofs.YtfepdcpidkjklaaGreatDoor
/- THE CELL 'sum', in the pinned program and in every row, IS THE sha256 OF THE DUMP (.gsa) THAT YtfepdcpidkjklaaGreatDoorProg.lean LOADS. Nothing in Lean hashes anything: it is a label: what it is worth is what the hold of that sum in a sandbox is worth. -/
noncomputable def Tryz.pinned : Pinned := { name := "ytfepdcpidkjklaagreatdoor", sum := "aad845ff31378ecb508326d1894fd31e0ae0937a71ce5c461cbc170d951892e7", checked := Tryz.checked }
namespace Rows
def none {H : Type} : Left H := { results := [], args := [] }

/- WHAT THE LISTED PACKAGE-LEVEL VARIABLES READ AS WHEN THE CALL BEGINS. Each datum BY PROGRAM (the guide's laid-datum.mjs) off the statement by which the dump's own 'gosem.cut.vars' lays the variable. In a bare row this is a premise. The card (YtfepdcpidkjklaaGreatDoorCards.lean) ties it to the program's text. -/
def laid_math_bits_deBruijn32tab {H : Type} : DataW H := .agg [.lit (.int .u8 0), .lit (.int .u8 1), .lit (.int .u8 28), .lit (.int .u8 2), .lit (.int .u8 29), .lit (.int .u8 14), .lit (.int .u8 24), .lit (.int .u8 3), .lit (.int .u8 30), .lit (.int .u8 22), .lit (.int .u8 20), .lit (.int .u8 15), .lit (.int .u8 25), .lit (.int .u8 17), .lit (.int .u8 4), .lit (.int .u8 8), .lit (.int .u8 31), .lit (.int .u8 27), .lit (.int .u8 13), .lit (.int .u8 23), .lit (.int .u8 21), .lit (.int .u8 19), .lit (.int .u8 16), .lit (.int .u8 7), .lit (.int .u8 26), .lit (.int .u8 12), .lit (.int .u8 18), .lit (.int .u8 6), .lit (.int .u8 11), .lit (.int .u8 5), .lit (.int .u8 10), .lit (.int .u8 9)]
def laid_math_bits_deBruijn64tab {H : Type} : DataW H := .agg [.lit (.int .u8 0), .lit (.int .u8 1), .lit (.int .u8 56), .lit (.int .u8 2), .lit (.int .u8 57), .lit (.int .u8 49), .lit (.int .u8 28), .lit (.int .u8 3), .lit (.int .u8 61), .lit (.int .u8 58), .lit (.int .u8 42), .lit (.int .u8 50), .lit (.int .u8 38), .lit (.int .u8 29), .lit (.int .u8 17), .lit (.int .u8 4), .lit (.int .u8 62), .lit (.int .u8 47), .lit (.int .u8 59), .lit (.int .u8 36), .lit (.int .u8 45), .lit (.int .u8 43), .lit (.int .u8 51), .lit (.int .u8 22), .lit (.int .u8 53), .lit (.int .u8 39), .lit (.int .u8 33), .lit (.int .u8 30), .lit (.int .u8 24), .lit (.int .u8 18), .lit (.int .u8 12), .lit (.int .u8 5), .lit (.int .u8 63), .lit (.int .u8 55), .lit (.int .u8 48), .lit (.int .u8 27), .lit (.int .u8 60), .lit (.int .u8 41), .lit (.int .u8 37), .lit (.int .u8 16), .lit (.int .u8 46), .lit (.int .u8 35), .lit (.int .u8 44), .lit (.int .u8 21), .lit (.int .u8 52), .lit (.int .u8 32), .lit (.int .u8 23), .lit (.int .u8 11), .lit (.int .u8 54), .lit (.int .u8 26), .lit (.int .u8 40), .lit (.int .u8 15), .lit (.int .u8 34), .lit (.int .u8 20), .lit (.int .u8 31), .lit (.int .u8 10), .lit (.int .u8 25), .lit (.int .u8 14), .lit (.int .u8 19), .lit (.int .u8 9), .lit (.int .u8 13), .lit (.int .u8 8), .lit (.int .u8 7), .lit (.int .u8 6)]
def laid_internal_strconv_uint64pow10 {H : Type} : DataW H := .agg [.lit (.int .u64 1), .lit (.int .u64 10), .lit (.int .u64 100), .lit (.int .u64 1000), .lit (.int .u64 10000), .lit (.int .u64 100000), .lit (.int .u64 1000000), .lit (.int .u64 10000000), .lit (.int .u64 100000000), .lit (.int .u64 1000000000), .lit (.int .u64 10000000000), .lit (.int .u64 100000000000), .lit (.int .u64 1000000000000), .lit (.int .u64 10000000000000), .lit (.int .u64 100000000000000), .lit (.int .u64 1000000000000000), .lit (.int .u64 10000000000000000), .lit (.int .u64 100000000000000000), .lit (.int .u64 1000000000000000000), .lit (.int .u64 10000000000000000000)]
def laid_strconv_ErrRange {H : Type} : DataW H := .iface "*errors.errorString" (.ptr (.agg [.lit (.string [118, 97, 108, 117, 101, 32, 111, 117, 116, 32, 111, 102, 32, 114, 97, 110, 103, 101])]))
def laid_strconv_ErrSyntax {H : Type} : DataW H := .iface "*errors.errorString" (.ptr (.agg [.lit (.string [105, 110, 118, 97, 108, 105, 100, 32, 115, 121, 110, 116, 97, 120])]))

/-- 'laws.FnOutSame': WHATEVER THE INPUT: true; the input reads as it did. -/
def fnOutSameSpec : ChangeSpec := { name := "fnOutSame", fn := fun _ => fun
  | [d1, d2] => { results := [.lit (.bool true)], args := [d1, d2] }
  | _ => none }
def fnOutSameRow : OpenClaim := { program := "ytfepdcpidkjklaagreatdoor", sum := "aad845ff31378ecb508326d1894fd31e0ae0937a71ce5c461cbc170d951892e7", func := "loop.example/ostiary/laws.FnOutSame", spec := "fnOutSame", inPlace := ["internal/bytealg.IndexByteString", "internal/bytealg.IndexString", "internal/abi.NoEscape"], unfollowed := true, recurses := true, named := ["internal/bytealg.MaxLen", "strconv.ErrSyntax", "strconv.ErrRange", "internal/strconv.uint64pow10", "math/bits.deBruijn32tab", "math/bits.deBruijn64tab"], apart := false, laid := [("math/bits.deBruijn32tab", laid_math_bits_deBruijn32tab), ("math/bits.deBruijn64tab", laid_math_bits_deBruijn64tab), ("internal/strconv.uint64pow10", laid_internal_strconv_uint64pow10), ("strconv.ErrRange", laid_strconv_ErrRange), ("strconv.ErrSyntax", laid_strconv_ErrSyntax)] }
def FnOutSameSaid : Prop := fnOutSameRow.holds Tryz.pinned (OpenSpec.ofChange fnOutSameSpec)

/-- ITS FALSE NEIGHBOUR: 'it returns false'. Refute it at one input. -/
def fnOutSameWrong : ChangeSpec := { name := "fnOutSame", fn := fun _ => fun
  | [d1, d2] => { results := [.lit (.bool false)], args := [d1, d2] }
  | _ => none }
def FnOutSameWrongFalsely : Prop := fnOutSameRow.holds Tryz.pinned (OpenSpec.ofChange fnOutSameWrong)

/-- 'laws.FnInInvited': WHATEVER THE INPUT: true; the input reads as it did. -/
def fnInInvitedSpec : ChangeSpec := { name := "fnInInvited", fn := fun _ => fun
  | [d] => { results := [.lit (.bool true)], args := [d] }
  | _ => none }
def fnInInvitedRow : OpenClaim := { program := "ytfepdcpidkjklaagreatdoor", sum := "aad845ff31378ecb508326d1894fd31e0ae0937a71ce5c461cbc170d951892e7", func := "loop.example/ostiary/laws.FnInInvited", spec := "fnInInvited", inPlace := ["internal/bytealg.IndexByteString", "internal/bytealg.IndexString", "internal/abi.NoEscape"], unfollowed := true, recurses := true, named := ["internal/bytealg.MaxLen", "strconv.ErrSyntax", "strconv.ErrRange", "internal/strconv.uint64pow10", "math/bits.deBruijn32tab", "math/bits.deBruijn64tab"], apart := false, laid := [("math/bits.deBruijn32tab", laid_math_bits_deBruijn32tab), ("math/bits.deBruijn64tab", laid_math_bits_deBruijn64tab), ("internal/strconv.uint64pow10", laid_internal_strconv_uint64pow10), ("strconv.ErrRange", laid_strconv_ErrRange), ("strconv.ErrSyntax", laid_strconv_ErrSyntax)] }
def FnInInvitedSaid : Prop := fnInInvitedRow.holds Tryz.pinned (OpenSpec.ofChange fnInInvitedSpec)

/-- ITS FALSE NEIGHBOUR: 'it returns false'. Refute it at one input. -/
def fnInInvitedWrong : ChangeSpec := { name := "fnInInvited", fn := fun _ => fun
  | [d] => { results := [.lit (.bool false)], args := [d] }
  | _ => none }
def FnInInvitedWrongFalsely : Prop := fnInInvitedRow.holds Tryz.pinned (OpenSpec.ofChange fnInInvitedWrong)

/-- 'laws.FnInText': WHATEVER THE INPUT: true; the input reads as it did. -/
def fnInTextSpec : ChangeSpec := { name := "fnInText", fn := fun _ => fun
  | [d] => { results := [.lit (.bool true)], args := [d] }
  | _ => none }
def fnInTextRow : OpenClaim := { program := "ytfepdcpidkjklaagreatdoor", sum := "aad845ff31378ecb508326d1894fd31e0ae0937a71ce5c461cbc170d951892e7", func := "loop.example/ostiary/laws.FnInText", spec := "fnInText", inPlace := ["internal/bytealg.IndexByteString", "internal/bytealg.IndexString", "internal/abi.NoEscape"], unfollowed := true, recurses := true, named := ["internal/bytealg.MaxLen", "strconv.ErrSyntax", "strconv.ErrRange", "internal/strconv.uint64pow10", "math/bits.deBruijn32tab", "math/bits.deBruijn64tab"], apart := false, laid := [("math/bits.deBruijn32tab", laid_math_bits_deBruijn32tab), ("math/bits.deBruijn64tab", laid_math_bits_deBruijn64tab), ("internal/strconv.uint64pow10", laid_internal_strconv_uint64pow10), ("strconv.ErrRange", laid_strconv_ErrRange), ("strconv.ErrSyntax", laid_strconv_ErrSyntax)] }
def FnInTextSaid : Prop := fnInTextRow.holds Tryz.pinned (OpenSpec.ofChange fnInTextSpec)

/-- ITS FALSE NEIGHBOUR: 'it returns false'. Refute it at one input. -/
def fnInTextWrong : ChangeSpec := { name := "fnInText", fn := fun _ => fun
  | [d] => { results := [.lit (.bool false)], args := [d] }
  | _ => none }
def FnInTextWrongFalsely : Prop := fnInTextRow.holds Tryz.pinned (OpenSpec.ofChange fnInTextWrong)

/-- 'laws.FnOutPort': WHATEVER THE INPUT: true; the input reads as it did. -/
def fnOutPortSpec : ChangeSpec := { name := "fnOutPort", fn := fun _ => fun
  | [d] => { results := [.lit (.bool true)], args := [d] }
  | _ => none }
def fnOutPortRow : OpenClaim := { program := "ytfepdcpidkjklaagreatdoor", sum := "aad845ff31378ecb508326d1894fd31e0ae0937a71ce5c461cbc170d951892e7", func := "loop.example/ostiary/laws.FnOutPort", spec := "fnOutPort", inPlace := ["internal/bytealg.IndexByteString", "internal/bytealg.IndexString", "internal/abi.NoEscape"], unfollowed := true, recurses := true, named := ["internal/bytealg.MaxLen", "strconv.ErrSyntax", "strconv.ErrRange", "internal/strconv.uint64pow10", "math/bits.deBruijn32tab", "math/bits.deBruijn64tab"], apart := false, laid := [("math/bits.deBruijn32tab", laid_math_bits_deBruijn32tab), ("math/bits.deBruijn64tab", laid_math_bits_deBruijn64tab), ("internal/strconv.uint64pow10", laid_internal_strconv_uint64pow10), ("strconv.ErrRange", laid_strconv_ErrRange), ("strconv.ErrSyntax", laid_strconv_ErrSyntax)] }
def FnOutPortSaid : Prop := fnOutPortRow.holds Tryz.pinned (OpenSpec.ofChange fnOutPortSpec)

/-- ITS FALSE NEIGHBOUR: 'it returns false'. Refute it at one input. -/
def fnOutPortWrong : ChangeSpec := { name := "fnOutPort", fn := fun _ => fun
  | [d] => { results := [.lit (.bool false)], args := [d] }
  | _ => none }
def FnOutPortWrongFalsely : Prop := fnOutPortRow.holds Tryz.pinned (OpenSpec.ofChange fnOutPortWrong)

/-- 'laws.FnOutText': WHATEVER THE INPUT: true; the input reads as it did. -/
def fnOutTextSpec : ChangeSpec := { name := "fnOutText", fn := fun _ => fun
  | [d] => { results := [.lit (.bool true)], args := [d] }
  | _ => none }
def fnOutTextRow : OpenClaim := { program := "ytfepdcpidkjklaagreatdoor", sum := "aad845ff31378ecb508326d1894fd31e0ae0937a71ce5c461cbc170d951892e7", func := "loop.example/ostiary/laws.FnOutText", spec := "fnOutText", inPlace := ["internal/bytealg.IndexByteString", "internal/bytealg.IndexString", "internal/abi.NoEscape"], unfollowed := true, recurses := true, named := ["internal/bytealg.MaxLen", "strconv.ErrSyntax", "strconv.ErrRange", "internal/strconv.uint64pow10", "math/bits.deBruijn32tab", "math/bits.deBruijn64tab"], apart := false, laid := [("math/bits.deBruijn32tab", laid_math_bits_deBruijn32tab), ("math/bits.deBruijn64tab", laid_math_bits_deBruijn64tab), ("internal/strconv.uint64pow10", laid_internal_strconv_uint64pow10), ("strconv.ErrRange", laid_strconv_ErrRange), ("strconv.ErrSyntax", laid_strconv_ErrSyntax)] }
def FnOutTextSaid : Prop := fnOutTextRow.holds Tryz.pinned (OpenSpec.ofChange fnOutTextSpec)

/-- ITS FALSE NEIGHBOUR: 'it returns false'. Refute it at one input. -/
def fnOutTextWrong : ChangeSpec := { name := "fnOutText", fn := fun _ => fun
  | [d] => { results := [.lit (.bool false)], args := [d] }
  | _ => none }
def FnOutTextWrongFalsely : Prop := fnOutTextRow.holds Tryz.pinned (OpenSpec.ofChange fnOutTextWrong)

/-- 'laws.FnOutHeld': WHATEVER THE INPUT: true; the input reads as it did. -/
def fnOutHeldSpec : ChangeSpec := { name := "fnOutHeld", fn := fun _ => fun
  | [d] => { results := [.lit (.bool true)], args := [d] }
  | _ => none }
def fnOutHeldRow : OpenClaim := { program := "ytfepdcpidkjklaagreatdoor", sum := "aad845ff31378ecb508326d1894fd31e0ae0937a71ce5c461cbc170d951892e7", func := "loop.example/ostiary/laws.FnOutHeld", spec := "fnOutHeld", inPlace := ["internal/bytealg.IndexByteString", "internal/bytealg.IndexString", "internal/abi.NoEscape"], unfollowed := true, recurses := true, named := ["internal/bytealg.MaxLen", "strconv.ErrSyntax", "strconv.ErrRange", "internal/strconv.uint64pow10", "math/bits.deBruijn32tab", "math/bits.deBruijn64tab"], apart := false, laid := [("math/bits.deBruijn32tab", laid_math_bits_deBruijn32tab), ("math/bits.deBruijn64tab", laid_math_bits_deBruijn64tab), ("internal/strconv.uint64pow10", laid_internal_strconv_uint64pow10), ("strconv.ErrRange", laid_strconv_ErrRange), ("strconv.ErrSyntax", laid_strconv_ErrSyntax)] }
def FnOutHeldSaid : Prop := fnOutHeldRow.holds Tryz.pinned (OpenSpec.ofChange fnOutHeldSpec)

/-- ITS FALSE NEIGHBOUR: 'it returns false'. Refute it at one input. -/
def fnOutHeldWrong : ChangeSpec := { name := "fnOutHeld", fn := fun _ => fun
  | [d] => { results := [.lit (.bool false)], args := [d] }
  | _ => none }
def FnOutHeldWrongFalsely : Prop := fnOutHeldRow.holds Tryz.pinned (OpenSpec.ofChange fnOutHeldWrong)

/-- 'laws.FnPassApart': WHATEVER THE INPUT: true; the input reads as it did. -/
def fnPassApartSpec : ChangeSpec := { name := "fnPassApart", fn := fun _ => fun
  | [d] => { results := [.lit (.bool true)], args := [d] }
  | _ => none }
def fnPassApartRow : OpenClaim := { program := "ytfepdcpidkjklaagreatdoor", sum := "aad845ff31378ecb508326d1894fd31e0ae0937a71ce5c461cbc170d951892e7", func := "loop.example/ostiary/laws.FnPassApart", spec := "fnPassApart", inPlace := ["internal/bytealg.IndexByteString", "internal/bytealg.IndexString", "internal/abi.NoEscape"], unfollowed := true, recurses := true, named := ["internal/bytealg.MaxLen", "strconv.ErrSyntax", "strconv.ErrRange", "internal/strconv.uint64pow10", "math/bits.deBruijn32tab", "math/bits.deBruijn64tab"], apart := false, laid := [("math/bits.deBruijn32tab", laid_math_bits_deBruijn32tab), ("math/bits.deBruijn64tab", laid_math_bits_deBruijn64tab), ("internal/strconv.uint64pow10", laid_internal_strconv_uint64pow10), ("strconv.ErrRange", laid_strconv_ErrRange), ("strconv.ErrSyntax", laid_strconv_ErrSyntax)] }
def FnPassApartSaid : Prop := fnPassApartRow.holds Tryz.pinned (OpenSpec.ofChange fnPassApartSpec)

/-- ITS FALSE NEIGHBOUR: 'it returns false'. Refute it at one input. -/
def fnPassApartWrong : ChangeSpec := { name := "fnPassApart", fn := fun _ => fun
  | [d] => { results := [.lit (.bool false)], args := [d] }
  | _ => none }
def FnPassApartWrongFalsely : Prop := fnPassApartRow.holds Tryz.pinned (OpenSpec.ofChange fnPassApartWrong)

/-- 'laws.FnPassTwice': WHATEVER THE INPUT: true; the input reads as it did. -/
def fnPassTwiceSpec : ChangeSpec := { name := "fnPassTwice", fn := fun _ => fun
  | [d] => { results := [.lit (.bool true)], args := [d] }
  | _ => none }
def fnPassTwiceRow : OpenClaim := { program := "ytfepdcpidkjklaagreatdoor", sum := "aad845ff31378ecb508326d1894fd31e0ae0937a71ce5c461cbc170d951892e7", func := "loop.example/ostiary/laws.FnPassTwice", spec := "fnPassTwice", inPlace := ["internal/bytealg.IndexByteString", "internal/bytealg.IndexString", "internal/abi.NoEscape"], unfollowed := true, recurses := true, named := ["internal/bytealg.MaxLen", "strconv.ErrSyntax", "strconv.ErrRange", "internal/strconv.uint64pow10", "math/bits.deBruijn32tab", "math/bits.deBruijn64tab"], apart := false, laid := [("math/bits.deBruijn32tab", laid_math_bits_deBruijn32tab), ("math/bits.deBruijn64tab", laid_math_bits_deBruijn64tab), ("internal/strconv.uint64pow10", laid_internal_strconv_uint64pow10), ("strconv.ErrRange", laid_strconv_ErrRange), ("strconv.ErrSyntax", laid_strconv_ErrSyntax)] }
def FnPassTwiceSaid : Prop := fnPassTwiceRow.holds Tryz.pinned (OpenSpec.ofChange fnPassTwiceSpec)

/-- ITS FALSE NEIGHBOUR: 'it returns false'. Refute it at one input. -/
def fnPassTwiceWrong : ChangeSpec := { name := "fnPassTwice", fn := fun _ => fun
  | [d] => { results := [.lit (.bool false)], args := [d] }
  | _ => none }
def FnPassTwiceWrongFalsely : Prop := fnPassTwiceRow.holds Tryz.pinned (OpenSpec.ofChange fnPassTwiceWrong)

/-- 'laws.FnDoorHides': WHATEVER THE INPUT: true; the input reads as it did. -/
def fnDoorHidesSpec : ChangeSpec := { name := "fnDoorHides", fn := fun _ => fun
  | [d] => { results := [.lit (.bool true)], args := [d] }
  | _ => none }
def fnDoorHidesRow : OpenClaim := { program := "ytfepdcpidkjklaagreatdoor", sum := "aad845ff31378ecb508326d1894fd31e0ae0937a71ce5c461cbc170d951892e7", func := "loop.example/ostiary/laws.FnDoorHides", spec := "fnDoorHides", inPlace := ["internal/bytealg.IndexByteString", "internal/bytealg.IndexString", "internal/abi.NoEscape"], unfollowed := true, recurses := true, named := ["internal/bytealg.MaxLen", "strconv.ErrSyntax", "strconv.ErrRange", "internal/strconv.uint64pow10", "math/bits.deBruijn32tab", "math/bits.deBruijn64tab"], apart := false, laid := [("math/bits.deBruijn32tab", laid_math_bits_deBruijn32tab), ("math/bits.deBruijn64tab", laid_math_bits_deBruijn64tab), ("internal/strconv.uint64pow10", laid_internal_strconv_uint64pow10), ("strconv.ErrRange", laid_strconv_ErrRange), ("strconv.ErrSyntax", laid_strconv_ErrSyntax)] }
def FnDoorHidesSaid : Prop := fnDoorHidesRow.holds Tryz.pinned (OpenSpec.ofChange fnDoorHidesSpec)

/-- ITS FALSE NEIGHBOUR: 'it returns false'. Refute it at one input. -/
def fnDoorHidesWrong : ChangeSpec := { name := "fnDoorHides", fn := fun _ => fun
  | [d] => { results := [.lit (.bool false)], args := [d] }
  | _ => none }
def FnDoorHidesWrongFalsely : Prop := fnDoorHidesRow.holds Tryz.pinned (OpenSpec.ofChange fnDoorHidesWrong)

/-- 'laws.FnPassOther': WHATEVER THE INPUT: true; the input reads as it did. -/
def fnPassOtherSpec : ChangeSpec := { name := "fnPassOther", fn := fun _ => fun
  | [d1, d2] => { results := [.lit (.bool true)], args := [d1, d2] }
  | _ => none }
def fnPassOtherRow : OpenClaim := { program := "ytfepdcpidkjklaagreatdoor", sum := "aad845ff31378ecb508326d1894fd31e0ae0937a71ce5c461cbc170d951892e7", func := "loop.example/ostiary/laws.FnPassOther", spec := "fnPassOther", inPlace := ["internal/bytealg.IndexByteString", "internal/bytealg.IndexString", "internal/abi.NoEscape"], unfollowed := true, recurses := true, named := ["internal/bytealg.MaxLen", "strconv.ErrSyntax", "strconv.ErrRange", "internal/strconv.uint64pow10", "math/bits.deBruijn32tab", "math/bits.deBruijn64tab"], apart := false, laid := [("math/bits.deBruijn32tab", laid_math_bits_deBruijn32tab), ("math/bits.deBruijn64tab", laid_math_bits_deBruijn64tab), ("internal/strconv.uint64pow10", laid_internal_strconv_uint64pow10), ("strconv.ErrRange", laid_strconv_ErrRange), ("strconv.ErrSyntax", laid_strconv_ErrSyntax)] }
def FnPassOtherSaid : Prop := fnPassOtherRow.holds Tryz.pinned (OpenSpec.ofChange fnPassOtherSpec)

/-- ITS FALSE NEIGHBOUR: 'it returns false'. Refute it at one input. -/
def fnPassOtherWrong : ChangeSpec := { name := "fnPassOther", fn := fun _ => fun
  | [d1, d2] => { results := [.lit (.bool false)], args := [d1, d2] }
  | _ => none }
def FnPassOtherWrongFalsely : Prop := fnPassOtherRow.holds Tryz.pinned (OpenSpec.ofChange fnPassOtherWrong)

/-- 'laws.FnAckFar': WHATEVER THE INPUT: true; the input reads as it did. -/
def fnAckFarSpec : ChangeSpec := { name := "fnAckFar", fn := fun _ => fun
  | [d1, d2] => { results := [.lit (.bool true)], args := [d1, d2] }
  | _ => none }
def fnAckFarRow : OpenClaim := { program := "ytfepdcpidkjklaagreatdoor", sum := "aad845ff31378ecb508326d1894fd31e0ae0937a71ce5c461cbc170d951892e7", func := "loop.example/ostiary/laws.FnAckFar", spec := "fnAckFar", inPlace := ["internal/bytealg.IndexByteString", "internal/bytealg.IndexString", "internal/abi.NoEscape"], unfollowed := true, recurses := true, named := ["internal/bytealg.MaxLen", "strconv.ErrSyntax", "strconv.ErrRange", "internal/strconv.uint64pow10", "math/bits.deBruijn32tab", "math/bits.deBruijn64tab"], apart := false, laid := [("math/bits.deBruijn32tab", laid_math_bits_deBruijn32tab), ("math/bits.deBruijn64tab", laid_math_bits_deBruijn64tab), ("internal/strconv.uint64pow10", laid_internal_strconv_uint64pow10), ("strconv.ErrRange", laid_strconv_ErrRange), ("strconv.ErrSyntax", laid_strconv_ErrSyntax)] }
def FnAckFarSaid : Prop := fnAckFarRow.holds Tryz.pinned (OpenSpec.ofChange fnAckFarSpec)

/-- ITS FALSE NEIGHBOUR: 'it returns false'. Refute it at one input. -/
def fnAckFarWrong : ChangeSpec := { name := "fnAckFar", fn := fun _ => fun
  | [d1, d2] => { results := [.lit (.bool false)], args := [d1, d2] }
  | _ => none }
def FnAckFarWrongFalsely : Prop := fnAckFarRow.holds Tryz.pinned (OpenSpec.ofChange fnAckFarWrong)

/-- 'laws.FnOutOpens': WHATEVER THE INPUT: true; the input reads as it did. -/
def fnOutOpensSpec : ChangeSpec := { name := "fnOutOpens", fn := fun _ => fun
  | [d] => { results := [.lit (.bool true)], args := [d] }
  | _ => none }
def fnOutOpensRow : OpenClaim := { program := "ytfepdcpidkjklaagreatdoor", sum := "aad845ff31378ecb508326d1894fd31e0ae0937a71ce5c461cbc170d951892e7", func := "loop.example/ostiary/laws.FnOutOpens", spec := "fnOutOpens", inPlace := ["internal/bytealg.IndexByteString", "internal/bytealg.IndexString", "internal/abi.NoEscape"], unfollowed := true, recurses := true, named := ["internal/bytealg.MaxLen", "strconv.ErrSyntax", "strconv.ErrRange", "internal/strconv.uint64pow10", "math/bits.deBruijn32tab", "math/bits.deBruijn64tab"], apart := false, laid := [("math/bits.deBruijn32tab", laid_math_bits_deBruijn32tab), ("math/bits.deBruijn64tab", laid_math_bits_deBruijn64tab), ("internal/strconv.uint64pow10", laid_internal_strconv_uint64pow10), ("strconv.ErrRange", laid_strconv_ErrRange), ("strconv.ErrSyntax", laid_strconv_ErrSyntax)] }
def FnOutOpensSaid : Prop := fnOutOpensRow.holds Tryz.pinned (OpenSpec.ofChange fnOutOpensSpec)

/-- ITS FALSE NEIGHBOUR: 'it returns false'. Refute it at one input. -/
def fnOutOpensWrong : ChangeSpec := { name := "fnOutOpens", fn := fun _ => fun
  | [d] => { results := [.lit (.bool false)], args := [d] }
  | _ => none }
def FnOutOpensWrongFalsely : Prop := fnOutOpensRow.holds Tryz.pinned (OpenSpec.ofChange fnOutOpensWrong)

/-- 'laws.FnAckBack': WHATEVER THE INPUT: true; the input reads as it did. -/
def fnAckBackSpec : ChangeSpec := { name := "fnAckBack", fn := fun _ => fun
  | [d] => { results := [.lit (.bool true)], args := [d] }
  | _ => none }
def fnAckBackRow : OpenClaim := { program := "ytfepdcpidkjklaagreatdoor", sum := "aad845ff31378ecb508326d1894fd31e0ae0937a71ce5c461cbc170d951892e7", func := "loop.example/ostiary/laws.FnAckBack", spec := "fnAckBack", inPlace := ["internal/bytealg.IndexByteString", "internal/bytealg.IndexString", "internal/abi.NoEscape"], unfollowed := true, recurses := true, named := ["internal/bytealg.MaxLen", "strconv.ErrSyntax", "strconv.ErrRange", "internal/strconv.uint64pow10", "math/bits.deBruijn32tab", "math/bits.deBruijn64tab"], apart := false, laid := [("math/bits.deBruijn32tab", laid_math_bits_deBruijn32tab), ("math/bits.deBruijn64tab", laid_math_bits_deBruijn64tab), ("internal/strconv.uint64pow10", laid_internal_strconv_uint64pow10), ("strconv.ErrRange", laid_strconv_ErrRange), ("strconv.ErrSyntax", laid_strconv_ErrSyntax)] }
def FnAckBackSaid : Prop := fnAckBackRow.holds Tryz.pinned (OpenSpec.ofChange fnAckBackSpec)

/-- ITS FALSE NEIGHBOUR: 'it returns false'. Refute it at one input. -/
def fnAckBackWrong : ChangeSpec := { name := "fnAckBack", fn := fun _ => fun
  | [d] => { results := [.lit (.bool false)], args := [d] }
  | _ => none }
def FnAckBackWrongFalsely : Prop := fnAckBackRow.holds Tryz.pinned (OpenSpec.ofChange fnAckBackWrong)

/- THE SECOND FORM. 'bulk': how many values and letters a reading holds, each counted each time it is reached (what is shared counts as often as it is met; a slice's spare places count too). A statement '..UptoSaid' is the law's where the arguments, and the package variables that the reading takes, are together of bulk at most 1048576: NARROWER than '..Said'. Prove '..Said' where nothing that the law and all that it calls make is longer than what came in: it says more and counts as full. Else prove '..UptoSaid'. A law counts once. -/
mutual
def uptoBulk {H : Type} : DataW H → Nat
  | .lit (.string bytes) => bytes.length + 1
  | .lit _ => 1
  | .nil => 1
  | .ptr d => uptoBulk d + 1
  | .slice elems spare => uptoBulkAll elems + uptoBulkAll spare + 1
  | .agg parts => uptoBulkAll parts + 1
  | .iface _ d => uptoBulk d + 1
  | .map entries => uptoBulkEntries entries + 1
  | .held _ => 1
def uptoBulkAll {H : Type} : List (DataW H) → Nat
  | [] => 0
  | d :: r => uptoBulk d + uptoBulkAll r
def uptoBulkEntries {H : Type} : List (Lit × DataW H) → Nat
  | [] => 0
  | x :: r => uptoBulkEntry x + uptoBulkEntries r
def uptoBulkEntry {H : Type} : Lit × DataW H → Nat
  | (.string bytes, d) => bytes.length + uptoBulk d + 1
  | (_, d) => uptoBulk d + 1
 end
def uptoSmall : (H : Type) → List (DataW H) → Bool := fun _ ds => decide (uptoBulkAll ds ≤ 1048576)
def OpenSpec.upto (s : _root_.Go.ChangeSpec) : _root_.Go.OpenSpec := { _root_.Go.OpenSpec.ofChange s with cond := some uptoSmall }

/-- 'laws.FnOutSame', WHERE WHAT IT READS IS OF BULK AT MOST 1048576: true; the input reads as it did. -/
def fnOutSameUptoRow : OpenClaim := { program := "ytfepdcpidkjklaagreatdoor", sum := "aad845ff31378ecb508326d1894fd31e0ae0937a71ce5c461cbc170d951892e7", func := "loop.example/ostiary/laws.FnOutSame", spec := "fnOutSame", inPlace := ["internal/bytealg.IndexByteString", "internal/bytealg.IndexString", "internal/abi.NoEscape"], unfollowed := true, recurses := true, named := ["internal/bytealg.MaxLen", "strconv.ErrSyntax", "strconv.ErrRange", "internal/strconv.uint64pow10", "math/bits.deBruijn32tab", "math/bits.deBruijn64tab"], apart := false, laid := [("math/bits.deBruijn32tab", laid_math_bits_deBruijn32tab), ("math/bits.deBruijn64tab", laid_math_bits_deBruijn64tab), ("internal/strconv.uint64pow10", laid_internal_strconv_uint64pow10), ("strconv.ErrRange", laid_strconv_ErrRange), ("strconv.ErrSyntax", laid_strconv_ErrSyntax)], narrowed := true }
def FnOutSameUptoSaid : Prop := fnOutSameUptoRow.holds Tryz.pinned (OpenSpec.upto fnOutSameSpec)

/-- 'laws.FnInInvited', WHERE WHAT IT READS IS OF BULK AT MOST 1048576: true; the input reads as it did. -/
def fnInInvitedUptoRow : OpenClaim := { program := "ytfepdcpidkjklaagreatdoor", sum := "aad845ff31378ecb508326d1894fd31e0ae0937a71ce5c461cbc170d951892e7", func := "loop.example/ostiary/laws.FnInInvited", spec := "fnInInvited", inPlace := ["internal/bytealg.IndexByteString", "internal/bytealg.IndexString", "internal/abi.NoEscape"], unfollowed := true, recurses := true, named := ["internal/bytealg.MaxLen", "strconv.ErrSyntax", "strconv.ErrRange", "internal/strconv.uint64pow10", "math/bits.deBruijn32tab", "math/bits.deBruijn64tab"], apart := false, laid := [("math/bits.deBruijn32tab", laid_math_bits_deBruijn32tab), ("math/bits.deBruijn64tab", laid_math_bits_deBruijn64tab), ("internal/strconv.uint64pow10", laid_internal_strconv_uint64pow10), ("strconv.ErrRange", laid_strconv_ErrRange), ("strconv.ErrSyntax", laid_strconv_ErrSyntax)], narrowed := true }
def FnInInvitedUptoSaid : Prop := fnInInvitedUptoRow.holds Tryz.pinned (OpenSpec.upto fnInInvitedSpec)

/-- 'laws.FnInText', WHERE WHAT IT READS IS OF BULK AT MOST 1048576: true; the input reads as it did. -/
def fnInTextUptoRow : OpenClaim := { program := "ytfepdcpidkjklaagreatdoor", sum := "aad845ff31378ecb508326d1894fd31e0ae0937a71ce5c461cbc170d951892e7", func := "loop.example/ostiary/laws.FnInText", spec := "fnInText", inPlace := ["internal/bytealg.IndexByteString", "internal/bytealg.IndexString", "internal/abi.NoEscape"], unfollowed := true, recurses := true, named := ["internal/bytealg.MaxLen", "strconv.ErrSyntax", "strconv.ErrRange", "internal/strconv.uint64pow10", "math/bits.deBruijn32tab", "math/bits.deBruijn64tab"], apart := false, laid := [("math/bits.deBruijn32tab", laid_math_bits_deBruijn32tab), ("math/bits.deBruijn64tab", laid_math_bits_deBruijn64tab), ("internal/strconv.uint64pow10", laid_internal_strconv_uint64pow10), ("strconv.ErrRange", laid_strconv_ErrRange), ("strconv.ErrSyntax", laid_strconv_ErrSyntax)], narrowed := true }
def FnInTextUptoSaid : Prop := fnInTextUptoRow.holds Tryz.pinned (OpenSpec.upto fnInTextSpec)

/-- 'laws.FnOutPort', WHERE WHAT IT READS IS OF BULK AT MOST 1048576: true; the input reads as it did. -/
def fnOutPortUptoRow : OpenClaim := { program := "ytfepdcpidkjklaagreatdoor", sum := "aad845ff31378ecb508326d1894fd31e0ae0937a71ce5c461cbc170d951892e7", func := "loop.example/ostiary/laws.FnOutPort", spec := "fnOutPort", inPlace := ["internal/bytealg.IndexByteString", "internal/bytealg.IndexString", "internal/abi.NoEscape"], unfollowed := true, recurses := true, named := ["internal/bytealg.MaxLen", "strconv.ErrSyntax", "strconv.ErrRange", "internal/strconv.uint64pow10", "math/bits.deBruijn32tab", "math/bits.deBruijn64tab"], apart := false, laid := [("math/bits.deBruijn32tab", laid_math_bits_deBruijn32tab), ("math/bits.deBruijn64tab", laid_math_bits_deBruijn64tab), ("internal/strconv.uint64pow10", laid_internal_strconv_uint64pow10), ("strconv.ErrRange", laid_strconv_ErrRange), ("strconv.ErrSyntax", laid_strconv_ErrSyntax)], narrowed := true }
def FnOutPortUptoSaid : Prop := fnOutPortUptoRow.holds Tryz.pinned (OpenSpec.upto fnOutPortSpec)

/-- 'laws.FnOutText', WHERE WHAT IT READS IS OF BULK AT MOST 1048576: true; the input reads as it did. -/
def fnOutTextUptoRow : OpenClaim := { program := "ytfepdcpidkjklaagreatdoor", sum := "aad845ff31378ecb508326d1894fd31e0ae0937a71ce5c461cbc170d951892e7", func := "loop.example/ostiary/laws.FnOutText", spec := "fnOutText", inPlace := ["internal/bytealg.IndexByteString", "internal/bytealg.IndexString", "internal/abi.NoEscape"], unfollowed := true, recurses := true, named := ["internal/bytealg.MaxLen", "strconv.ErrSyntax", "strconv.ErrRange", "internal/strconv.uint64pow10", "math/bits.deBruijn32tab", "math/bits.deBruijn64tab"], apart := false, laid := [("math/bits.deBruijn32tab", laid_math_bits_deBruijn32tab), ("math/bits.deBruijn64tab", laid_math_bits_deBruijn64tab), ("internal/strconv.uint64pow10", laid_internal_strconv_uint64pow10), ("strconv.ErrRange", laid_strconv_ErrRange), ("strconv.ErrSyntax", laid_strconv_ErrSyntax)], narrowed := true }
def FnOutTextUptoSaid : Prop := fnOutTextUptoRow.holds Tryz.pinned (OpenSpec.upto fnOutTextSpec)

/-- 'laws.FnOutHeld', WHERE WHAT IT READS IS OF BULK AT MOST 1048576: true; the input reads as it did. -/
def fnOutHeldUptoRow : OpenClaim := { program := "ytfepdcpidkjklaagreatdoor", sum := "aad845ff31378ecb508326d1894fd31e0ae0937a71ce5c461cbc170d951892e7", func := "loop.example/ostiary/laws.FnOutHeld", spec := "fnOutHeld", inPlace := ["internal/bytealg.IndexByteString", "internal/bytealg.IndexString", "internal/abi.NoEscape"], unfollowed := true, recurses := true, named := ["internal/bytealg.MaxLen", "strconv.ErrSyntax", "strconv.ErrRange", "internal/strconv.uint64pow10", "math/bits.deBruijn32tab", "math/bits.deBruijn64tab"], apart := false, laid := [("math/bits.deBruijn32tab", laid_math_bits_deBruijn32tab), ("math/bits.deBruijn64tab", laid_math_bits_deBruijn64tab), ("internal/strconv.uint64pow10", laid_internal_strconv_uint64pow10), ("strconv.ErrRange", laid_strconv_ErrRange), ("strconv.ErrSyntax", laid_strconv_ErrSyntax)], narrowed := true }
def FnOutHeldUptoSaid : Prop := fnOutHeldUptoRow.holds Tryz.pinned (OpenSpec.upto fnOutHeldSpec)

/-- 'laws.FnPassApart', WHERE WHAT IT READS IS OF BULK AT MOST 1048576: true; the input reads as it did. -/
def fnPassApartUptoRow : OpenClaim := { program := "ytfepdcpidkjklaagreatdoor", sum := "aad845ff31378ecb508326d1894fd31e0ae0937a71ce5c461cbc170d951892e7", func := "loop.example/ostiary/laws.FnPassApart", spec := "fnPassApart", inPlace := ["internal/bytealg.IndexByteString", "internal/bytealg.IndexString", "internal/abi.NoEscape"], unfollowed := true, recurses := true, named := ["internal/bytealg.MaxLen", "strconv.ErrSyntax", "strconv.ErrRange", "internal/strconv.uint64pow10", "math/bits.deBruijn32tab", "math/bits.deBruijn64tab"], apart := false, laid := [("math/bits.deBruijn32tab", laid_math_bits_deBruijn32tab), ("math/bits.deBruijn64tab", laid_math_bits_deBruijn64tab), ("internal/strconv.uint64pow10", laid_internal_strconv_uint64pow10), ("strconv.ErrRange", laid_strconv_ErrRange), ("strconv.ErrSyntax", laid_strconv_ErrSyntax)], narrowed := true }
def FnPassApartUptoSaid : Prop := fnPassApartUptoRow.holds Tryz.pinned (OpenSpec.upto fnPassApartSpec)

/-- 'laws.FnPassTwice', WHERE WHAT IT READS IS OF BULK AT MOST 1048576: true; the input reads as it did. -/
def fnPassTwiceUptoRow : OpenClaim := { program := "ytfepdcpidkjklaagreatdoor", sum := "aad845ff31378ecb508326d1894fd31e0ae0937a71ce5c461cbc170d951892e7", func := "loop.example/ostiary/laws.FnPassTwice", spec := "fnPassTwice", inPlace := ["internal/bytealg.IndexByteString", "internal/bytealg.IndexString", "internal/abi.NoEscape"], unfollowed := true, recurses := true, named := ["internal/bytealg.MaxLen", "strconv.ErrSyntax", "strconv.ErrRange", "internal/strconv.uint64pow10", "math/bits.deBruijn32tab", "math/bits.deBruijn64tab"], apart := false, laid := [("math/bits.deBruijn32tab", laid_math_bits_deBruijn32tab), ("math/bits.deBruijn64tab", laid_math_bits_deBruijn64tab), ("internal/strconv.uint64pow10", laid_internal_strconv_uint64pow10), ("strconv.ErrRange", laid_strconv_ErrRange), ("strconv.ErrSyntax", laid_strconv_ErrSyntax)], narrowed := true }
def FnPassTwiceUptoSaid : Prop := fnPassTwiceUptoRow.holds Tryz.pinned (OpenSpec.upto fnPassTwiceSpec)

/-- 'laws.FnDoorHides', WHERE WHAT IT READS IS OF BULK AT MOST 1048576: true; the input reads as it did. -/
def fnDoorHidesUptoRow : OpenClaim := { program := "ytfepdcpidkjklaagreatdoor", sum := "aad845ff31378ecb508326d1894fd31e0ae0937a71ce5c461cbc170d951892e7", func := "loop.example/ostiary/laws.FnDoorHides", spec := "fnDoorHides", inPlace := ["internal/bytealg.IndexByteString", "internal/bytealg.IndexString", "internal/abi.NoEscape"], unfollowed := true, recurses := true, named := ["internal/bytealg.MaxLen", "strconv.ErrSyntax", "strconv.ErrRange", "internal/strconv.uint64pow10", "math/bits.deBruijn32tab", "math/bits.deBruijn64tab"], apart := false, laid := [("math/bits.deBruijn32tab", laid_math_bits_deBruijn32tab), ("math/bits.deBruijn64tab", laid_math_bits_deBruijn64tab), ("internal/strconv.uint64pow10", laid_internal_strconv_uint64pow10), ("strconv.ErrRange", laid_strconv_ErrRange), ("strconv.ErrSyntax", laid_strconv_ErrSyntax)], narrowed := true }
def FnDoorHidesUptoSaid : Prop := fnDoorHidesUptoRow.holds Tryz.pinned (OpenSpec.upto fnDoorHidesSpec)

/-- 'laws.FnPassOther', WHERE WHAT IT READS IS OF BULK AT MOST 1048576: true; the input reads as it did. -/
def fnPassOtherUptoRow : OpenClaim := { program := "ytfepdcpidkjklaagreatdoor", sum := "aad845ff31378ecb508326d1894fd31e0ae0937a71ce5c461cbc170d951892e7", func := "loop.example/ostiary/laws.FnPassOther", spec := "fnPassOther", inPlace := ["internal/bytealg.IndexByteString", "internal/bytealg.IndexString", "internal/abi.NoEscape"], unfollowed := true, recurses := true, named := ["internal/bytealg.MaxLen", "strconv.ErrSyntax", "strconv.ErrRange", "internal/strconv.uint64pow10", "math/bits.deBruijn32tab", "math/bits.deBruijn64tab"], apart := false, laid := [("math/bits.deBruijn32tab", laid_math_bits_deBruijn32tab), ("math/bits.deBruijn64tab", laid_math_bits_deBruijn64tab), ("internal/strconv.uint64pow10", laid_internal_strconv_uint64pow10), ("strconv.ErrRange", laid_strconv_ErrRange), ("strconv.ErrSyntax", laid_strconv_ErrSyntax)], narrowed := true }
def FnPassOtherUptoSaid : Prop := fnPassOtherUptoRow.holds Tryz.pinned (OpenSpec.upto fnPassOtherSpec)

/-- 'laws.FnAckFar', WHERE WHAT IT READS IS OF BULK AT MOST 1048576: true; the input reads as it did. -/
def fnAckFarUptoRow : OpenClaim := { program := "ytfepdcpidkjklaagreatdoor", sum := "aad845ff31378ecb508326d1894fd31e0ae0937a71ce5c461cbc170d951892e7", func := "loop.example/ostiary/laws.FnAckFar", spec := "fnAckFar", inPlace := ["internal/bytealg.IndexByteString", "internal/bytealg.IndexString", "internal/abi.NoEscape"], unfollowed := true, recurses := true, named := ["internal/bytealg.MaxLen", "strconv.ErrSyntax", "strconv.ErrRange", "internal/strconv.uint64pow10", "math/bits.deBruijn32tab", "math/bits.deBruijn64tab"], apart := false, laid := [("math/bits.deBruijn32tab", laid_math_bits_deBruijn32tab), ("math/bits.deBruijn64tab", laid_math_bits_deBruijn64tab), ("internal/strconv.uint64pow10", laid_internal_strconv_uint64pow10), ("strconv.ErrRange", laid_strconv_ErrRange), ("strconv.ErrSyntax", laid_strconv_ErrSyntax)], narrowed := true }
def FnAckFarUptoSaid : Prop := fnAckFarUptoRow.holds Tryz.pinned (OpenSpec.upto fnAckFarSpec)

/-- 'laws.FnOutOpens', WHERE WHAT IT READS IS OF BULK AT MOST 1048576: true; the input reads as it did. -/
def fnOutOpensUptoRow : OpenClaim := { program := "ytfepdcpidkjklaagreatdoor", sum := "aad845ff31378ecb508326d1894fd31e0ae0937a71ce5c461cbc170d951892e7", func := "loop.example/ostiary/laws.FnOutOpens", spec := "fnOutOpens", inPlace := ["internal/bytealg.IndexByteString", "internal/bytealg.IndexString", "internal/abi.NoEscape"], unfollowed := true, recurses := true, named := ["internal/bytealg.MaxLen", "strconv.ErrSyntax", "strconv.ErrRange", "internal/strconv.uint64pow10", "math/bits.deBruijn32tab", "math/bits.deBruijn64tab"], apart := false, laid := [("math/bits.deBruijn32tab", laid_math_bits_deBruijn32tab), ("math/bits.deBruijn64tab", laid_math_bits_deBruijn64tab), ("internal/strconv.uint64pow10", laid_internal_strconv_uint64pow10), ("strconv.ErrRange", laid_strconv_ErrRange), ("strconv.ErrSyntax", laid_strconv_ErrSyntax)], narrowed := true }
def FnOutOpensUptoSaid : Prop := fnOutOpensUptoRow.holds Tryz.pinned (OpenSpec.upto fnOutOpensSpec)

/-- 'laws.FnAckBack', WHERE WHAT IT READS IS OF BULK AT MOST 1048576: true; the input reads as it did. -/
def fnAckBackUptoRow : OpenClaim := { program := "ytfepdcpidkjklaagreatdoor", sum := "aad845ff31378ecb508326d1894fd31e0ae0937a71ce5c461cbc170d951892e7", func := "loop.example/ostiary/laws.FnAckBack", spec := "fnAckBack", inPlace := ["internal/bytealg.IndexByteString", "internal/bytealg.IndexString", "internal/abi.NoEscape"], unfollowed := true, recurses := true, named := ["internal/bytealg.MaxLen", "strconv.ErrSyntax", "strconv.ErrRange", "internal/strconv.uint64pow10", "math/bits.deBruijn32tab", "math/bits.deBruijn64tab"], apart := false, laid := [("math/bits.deBruijn32tab", laid_math_bits_deBruijn32tab), ("math/bits.deBruijn64tab", laid_math_bits_deBruijn64tab), ("internal/strconv.uint64pow10", laid_internal_strconv_uint64pow10), ("strconv.ErrRange", laid_strconv_ErrRange), ("strconv.ErrSyntax", laid_strconv_ErrSyntax)], narrowed := true }
def FnAckBackUptoSaid : Prop := fnAckBackUptoRow.holds Tryz.pinned (OpenSpec.upto fnAckBackSpec)

end Rows
end Go.Proofs.YtfepdcpidkjklaaGreatDoor
