/-
  NARROWER THAN 'FOR EVERY INPUT', by the rows' own cells (each row's printed sentence says how): FnExactReadParcels: laid · FnExactAlikeOutside: laid · FnExactPeerWorks: laid · FnExactPeerGone: laid · FnExactPeerFails: laid · FnExactPolicyOK: laid · FnKeep: laid · FnExactPeersOf: laid · FnExactGroupFor: laid · FnExactKeepPeers: laid · FnPeers: laid · FnExactUriGroup: laid.
  DERIVED. THE GIVEN ROWS OF THIS SEAT. 12 by the template 'for every input the law returns true; each argument reads behind the call as it read before'; 0 by the template 'total and deterministic' (their statements: YtmilnihobbgopaaGreatDoorTotals.lean).
  GIVEN WITH THE SEED: the statements are not yours to turn. If you find one false, say at which input.
  Laid BY PROGRAM, IN A SANDBOX (cutbox-rows.mjs): the forced cells as the released guide's own fill.sh prints them over the translation 4615c03827fcbeae… (all of the seat's roots in one cut). By AI agents, Wed Nov 11 2026. No macro, syntax, notation, axiom, sorry.
-/
import Derived.Test.YtmilnihobbgopaaGreatDoorChecked
import GoSem.Claim
import GoSem.ClaimJoined
import GoSem.ClaimMapViews
import Derived.JoinedTies
import Derived.KernelRfl
namespace Go.Proofs.YtmilnihobbgopaaGreatDoor
/- THE CELL 'sum', in the pinned program and in every row, IS THE sha256 OF THE DUMP (.gsa) THAT YtmilnihobbgopaaGreatDoorProg.lean LOADS. Nothing in Lean hashes anything: it is a label: what it is worth is what the hold of that sum in a sandbox is worth. -/
noncomputable def Tryz.pinned : Pinned := { name := "ytmilnihobbgopaagreatdoor", sum := "4615c03827fcbeae313da62fcc5c5e89351a1accc7cb4e2a625b2d68fccb94af", checked := Tryz.checked }
namespace Rows
def none {H : Type} : Left H := { results := [], args := [] }

/- WHAT THE LISTED PACKAGE-LEVEL VARIABLES READ AS WHEN THE CALL BEGINS. Each datum BY PROGRAM (the guide's laid-datum.mjs) off the statement by which the dump's own 'gosem.cut.vars' lays the variable. In a bare row this is a premise. The card (YtmilnihobbgopaaGreatDoorCards.lean) ties it to the program's text. -/
def laid_math_bits_deBruijn32tab {H : Type} : DataW H := .agg [.lit (.int .u8 0), .lit (.int .u8 1), .lit (.int .u8 28), .lit (.int .u8 2), .lit (.int .u8 29), .lit (.int .u8 14), .lit (.int .u8 24), .lit (.int .u8 3), .lit (.int .u8 30), .lit (.int .u8 22), .lit (.int .u8 20), .lit (.int .u8 15), .lit (.int .u8 25), .lit (.int .u8 17), .lit (.int .u8 4), .lit (.int .u8 8), .lit (.int .u8 31), .lit (.int .u8 27), .lit (.int .u8 13), .lit (.int .u8 23), .lit (.int .u8 21), .lit (.int .u8 19), .lit (.int .u8 16), .lit (.int .u8 7), .lit (.int .u8 26), .lit (.int .u8 12), .lit (.int .u8 18), .lit (.int .u8 6), .lit (.int .u8 11), .lit (.int .u8 5), .lit (.int .u8 10), .lit (.int .u8 9)]
def laid_math_bits_deBruijn64tab {H : Type} : DataW H := .agg [.lit (.int .u8 0), .lit (.int .u8 1), .lit (.int .u8 56), .lit (.int .u8 2), .lit (.int .u8 57), .lit (.int .u8 49), .lit (.int .u8 28), .lit (.int .u8 3), .lit (.int .u8 61), .lit (.int .u8 58), .lit (.int .u8 42), .lit (.int .u8 50), .lit (.int .u8 38), .lit (.int .u8 29), .lit (.int .u8 17), .lit (.int .u8 4), .lit (.int .u8 62), .lit (.int .u8 47), .lit (.int .u8 59), .lit (.int .u8 36), .lit (.int .u8 45), .lit (.int .u8 43), .lit (.int .u8 51), .lit (.int .u8 22), .lit (.int .u8 53), .lit (.int .u8 39), .lit (.int .u8 33), .lit (.int .u8 30), .lit (.int .u8 24), .lit (.int .u8 18), .lit (.int .u8 12), .lit (.int .u8 5), .lit (.int .u8 63), .lit (.int .u8 55), .lit (.int .u8 48), .lit (.int .u8 27), .lit (.int .u8 60), .lit (.int .u8 41), .lit (.int .u8 37), .lit (.int .u8 16), .lit (.int .u8 46), .lit (.int .u8 35), .lit (.int .u8 44), .lit (.int .u8 21), .lit (.int .u8 52), .lit (.int .u8 32), .lit (.int .u8 23), .lit (.int .u8 11), .lit (.int .u8 54), .lit (.int .u8 26), .lit (.int .u8 40), .lit (.int .u8 15), .lit (.int .u8 34), .lit (.int .u8 20), .lit (.int .u8 31), .lit (.int .u8 10), .lit (.int .u8 25), .lit (.int .u8 14), .lit (.int .u8 19), .lit (.int .u8 9), .lit (.int .u8 13), .lit (.int .u8 8), .lit (.int .u8 7), .lit (.int .u8 6)]
def laid_internal_strconv_uint64pow10 {H : Type} : DataW H := .agg [.lit (.int .u64 1), .lit (.int .u64 10), .lit (.int .u64 100), .lit (.int .u64 1000), .lit (.int .u64 10000), .lit (.int .u64 100000), .lit (.int .u64 1000000), .lit (.int .u64 10000000), .lit (.int .u64 100000000), .lit (.int .u64 1000000000), .lit (.int .u64 10000000000), .lit (.int .u64 100000000000), .lit (.int .u64 1000000000000), .lit (.int .u64 10000000000000), .lit (.int .u64 100000000000000), .lit (.int .u64 1000000000000000), .lit (.int .u64 10000000000000000), .lit (.int .u64 100000000000000000), .lit (.int .u64 1000000000000000000), .lit (.int .u64 10000000000000000000)]
def laid_strconv_ErrRange {H : Type} : DataW H := .iface "*errors.errorString" (.ptr (.agg [.lit (.string [118, 97, 108, 117, 101, 32, 111, 117, 116, 32, 111, 102, 32, 114, 97, 110, 103, 101])]))
def laid_strconv_ErrSyntax {H : Type} : DataW H := .iface "*errors.errorString" (.ptr (.agg [.lit (.string [105, 110, 118, 97, 108, 105, 100, 32, 115, 121, 110, 116, 97, 120])]))

/-- 'laws.FnExactReadParcels': WHATEVER THE INPUT: true; the input reads as it did. -/
def fnExactReadParcelsSpec : ChangeSpec := { name := "fnExactReadParcels", fn := fun _ => fun
  | [d] => { results := [.lit (.bool true)], args := [d] }
  | _ => none }
def fnExactReadParcelsRow : OpenClaim := { program := "ytmilnihobbgopaagreatdoor", sum := "4615c03827fcbeae313da62fcc5c5e89351a1accc7cb4e2a625b2d68fccb94af", func := "loop.example/g00779/laws.FnExactReadParcels", spec := "fnExactReadParcels", inPlace := ["internal/bytealg.IndexByteString", "internal/abi.NoEscape", "internal/bytealg.MakeNoZero"], unfollowed := true, recurses := true, named := ["strconv.ErrSyntax", "strconv.ErrRange", "internal/strconv.uint64pow10", "math/bits.deBruijn32tab", "math/bits.deBruijn64tab"], apart := false, laid := [("math/bits.deBruijn32tab", laid_math_bits_deBruijn32tab), ("math/bits.deBruijn64tab", laid_math_bits_deBruijn64tab), ("internal/strconv.uint64pow10", laid_internal_strconv_uint64pow10), ("strconv.ErrRange", laid_strconv_ErrRange), ("strconv.ErrSyntax", laid_strconv_ErrSyntax)] }
def FnExactReadParcelsSaid : Prop := fnExactReadParcelsRow.holds Tryz.pinned (OpenSpec.ofChange fnExactReadParcelsSpec)

/-- ITS FALSE NEIGHBOUR: 'it returns false'. Refute it at one input. -/
def fnExactReadParcelsWrong : ChangeSpec := { name := "fnExactReadParcels", fn := fun _ => fun
  | [d] => { results := [.lit (.bool false)], args := [d] }
  | _ => none }
def FnExactReadParcelsWrongFalsely : Prop := fnExactReadParcelsRow.holds Tryz.pinned (OpenSpec.ofChange fnExactReadParcelsWrong)

/-- 'laws.FnExactAlikeOutside': WHATEVER THE INPUT: true; the input reads as it did. -/
def fnExactAlikeOutsideSpec : ChangeSpec := { name := "fnExactAlikeOutside", fn := fun _ => fun
  | [d1, d2] => { results := [.lit (.bool true)], args := [d1, d2] }
  | _ => none }
def fnExactAlikeOutsideRow : OpenClaim := { program := "ytmilnihobbgopaagreatdoor", sum := "4615c03827fcbeae313da62fcc5c5e89351a1accc7cb4e2a625b2d68fccb94af", func := "loop.example/g00779/laws.FnExactAlikeOutside", spec := "fnExactAlikeOutside", inPlace := ["internal/bytealg.IndexByteString", "internal/bytealg.IndexString"], unfollowed := true, recurses := true, named := ["internal/bytealg.MaxLen", "internal/strconv.uint64pow10", "math/bits.deBruijn32tab", "math/bits.deBruijn64tab", "strconv.ErrSyntax", "strconv.ErrRange"], apart := false, laid := [("math/bits.deBruijn32tab", laid_math_bits_deBruijn32tab), ("math/bits.deBruijn64tab", laid_math_bits_deBruijn64tab), ("internal/strconv.uint64pow10", laid_internal_strconv_uint64pow10), ("strconv.ErrRange", laid_strconv_ErrRange), ("strconv.ErrSyntax", laid_strconv_ErrSyntax)] }
def FnExactAlikeOutsideSaid : Prop := fnExactAlikeOutsideRow.holds Tryz.pinned (OpenSpec.ofChange fnExactAlikeOutsideSpec)

/-- ITS FALSE NEIGHBOUR: 'it returns false'. Refute it at one input. -/
def fnExactAlikeOutsideWrong : ChangeSpec := { name := "fnExactAlikeOutside", fn := fun _ => fun
  | [d1, d2] => { results := [.lit (.bool false)], args := [d1, d2] }
  | _ => none }
def FnExactAlikeOutsideWrongFalsely : Prop := fnExactAlikeOutsideRow.holds Tryz.pinned (OpenSpec.ofChange fnExactAlikeOutsideWrong)

/-- 'laws.FnExactPeerWorks': WHATEVER THE INPUT: true; the input reads as it did. -/
def fnExactPeerWorksSpec : ChangeSpec := { name := "fnExactPeerWorks", fn := fun _ => fun
  | [d1, d2] => { results := [.lit (.bool true)], args := [d1, d2] }
  | _ => none }
def fnExactPeerWorksRow : OpenClaim := { program := "ytmilnihobbgopaagreatdoor", sum := "4615c03827fcbeae313da62fcc5c5e89351a1accc7cb4e2a625b2d68fccb94af", func := "loop.example/g00779/laws.FnExactPeerWorks", spec := "fnExactPeerWorks", inPlace := ["internal/bytealg.IndexByteString", "internal/bytealg.IndexString"], unfollowed := true, recurses := true, named := ["internal/bytealg.MaxLen", "internal/strconv.uint64pow10", "math/bits.deBruijn32tab", "math/bits.deBruijn64tab", "strconv.ErrSyntax", "strconv.ErrRange"], apart := false, laid := [("math/bits.deBruijn32tab", laid_math_bits_deBruijn32tab), ("math/bits.deBruijn64tab", laid_math_bits_deBruijn64tab), ("internal/strconv.uint64pow10", laid_internal_strconv_uint64pow10), ("strconv.ErrRange", laid_strconv_ErrRange), ("strconv.ErrSyntax", laid_strconv_ErrSyntax)] }
def FnExactPeerWorksSaid : Prop := fnExactPeerWorksRow.holds Tryz.pinned (OpenSpec.ofChange fnExactPeerWorksSpec)

/-- ITS FALSE NEIGHBOUR: 'it returns false'. Refute it at one input. -/
def fnExactPeerWorksWrong : ChangeSpec := { name := "fnExactPeerWorks", fn := fun _ => fun
  | [d1, d2] => { results := [.lit (.bool false)], args := [d1, d2] }
  | _ => none }
def FnExactPeerWorksWrongFalsely : Prop := fnExactPeerWorksRow.holds Tryz.pinned (OpenSpec.ofChange fnExactPeerWorksWrong)

/-- 'laws.FnExactPeerGone': WHATEVER THE INPUT: true; the input reads as it did. -/
def fnExactPeerGoneSpec : ChangeSpec := { name := "fnExactPeerGone", fn := fun _ => fun
  | [d1, d2] => { results := [.lit (.bool true)], args := [d1, d2] }
  | _ => none }
def fnExactPeerGoneRow : OpenClaim := { program := "ytmilnihobbgopaagreatdoor", sum := "4615c03827fcbeae313da62fcc5c5e89351a1accc7cb4e2a625b2d68fccb94af", func := "loop.example/g00779/laws.FnExactPeerGone", spec := "fnExactPeerGone", inPlace := ["internal/bytealg.IndexByteString", "internal/bytealg.IndexString"], unfollowed := true, recurses := true, named := ["internal/bytealg.MaxLen", "internal/strconv.uint64pow10", "math/bits.deBruijn32tab", "math/bits.deBruijn64tab", "strconv.ErrSyntax", "strconv.ErrRange"], apart := false, laid := [("math/bits.deBruijn32tab", laid_math_bits_deBruijn32tab), ("math/bits.deBruijn64tab", laid_math_bits_deBruijn64tab), ("internal/strconv.uint64pow10", laid_internal_strconv_uint64pow10), ("strconv.ErrRange", laid_strconv_ErrRange), ("strconv.ErrSyntax", laid_strconv_ErrSyntax)] }
def FnExactPeerGoneSaid : Prop := fnExactPeerGoneRow.holds Tryz.pinned (OpenSpec.ofChange fnExactPeerGoneSpec)

/-- ITS FALSE NEIGHBOUR: 'it returns false'. Refute it at one input. -/
def fnExactPeerGoneWrong : ChangeSpec := { name := "fnExactPeerGone", fn := fun _ => fun
  | [d1, d2] => { results := [.lit (.bool false)], args := [d1, d2] }
  | _ => none }
def FnExactPeerGoneWrongFalsely : Prop := fnExactPeerGoneRow.holds Tryz.pinned (OpenSpec.ofChange fnExactPeerGoneWrong)

/-- 'laws.FnExactPeerFails': WHATEVER THE INPUT: true; the input reads as it did. -/
def fnExactPeerFailsSpec : ChangeSpec := { name := "fnExactPeerFails", fn := fun _ => fun
  | [d1, d2, d3] => { results := [.lit (.bool true)], args := [d1, d2, d3] }
  | _ => none }
def fnExactPeerFailsRow : OpenClaim := { program := "ytmilnihobbgopaagreatdoor", sum := "4615c03827fcbeae313da62fcc5c5e89351a1accc7cb4e2a625b2d68fccb94af", func := "loop.example/g00779/laws.FnExactPeerFails", spec := "fnExactPeerFails", inPlace := ["internal/bytealg.IndexByteString", "internal/bytealg.IndexString"], unfollowed := true, recurses := true, named := ["internal/bytealg.MaxLen", "internal/strconv.uint64pow10", "math/bits.deBruijn32tab", "math/bits.deBruijn64tab", "strconv.ErrSyntax", "strconv.ErrRange"], apart := false, laid := [("math/bits.deBruijn32tab", laid_math_bits_deBruijn32tab), ("math/bits.deBruijn64tab", laid_math_bits_deBruijn64tab), ("internal/strconv.uint64pow10", laid_internal_strconv_uint64pow10), ("strconv.ErrRange", laid_strconv_ErrRange), ("strconv.ErrSyntax", laid_strconv_ErrSyntax)] }
def FnExactPeerFailsSaid : Prop := fnExactPeerFailsRow.holds Tryz.pinned (OpenSpec.ofChange fnExactPeerFailsSpec)

/-- ITS FALSE NEIGHBOUR: 'it returns false'. Refute it at one input. -/
def fnExactPeerFailsWrong : ChangeSpec := { name := "fnExactPeerFails", fn := fun _ => fun
  | [d1, d2, d3] => { results := [.lit (.bool false)], args := [d1, d2, d3] }
  | _ => none }
def FnExactPeerFailsWrongFalsely : Prop := fnExactPeerFailsRow.holds Tryz.pinned (OpenSpec.ofChange fnExactPeerFailsWrong)

/-- 'laws.FnExactPolicyOK': WHATEVER THE INPUT: true; the input reads as it did. -/
def fnExactPolicyOKSpec : ChangeSpec := { name := "fnExactPolicyOK", fn := fun _ => fun
  | [d] => { results := [.lit (.bool true)], args := [d] }
  | _ => none }
def fnExactPolicyOKRow : OpenClaim := { program := "ytmilnihobbgopaagreatdoor", sum := "4615c03827fcbeae313da62fcc5c5e89351a1accc7cb4e2a625b2d68fccb94af", func := "loop.example/g00779/laws.FnExactPolicyOK", spec := "fnExactPolicyOK", inPlace := ["internal/bytealg.IndexByteString", "internal/bytealg.IndexString"], unfollowed := true, recurses := true, named := ["internal/bytealg.MaxLen", "internal/strconv.uint64pow10", "math/bits.deBruijn32tab", "math/bits.deBruijn64tab", "strconv.ErrSyntax", "strconv.ErrRange"], apart := false, laid := [("math/bits.deBruijn32tab", laid_math_bits_deBruijn32tab), ("math/bits.deBruijn64tab", laid_math_bits_deBruijn64tab), ("internal/strconv.uint64pow10", laid_internal_strconv_uint64pow10), ("strconv.ErrRange", laid_strconv_ErrRange), ("strconv.ErrSyntax", laid_strconv_ErrSyntax)] }
def FnExactPolicyOKSaid : Prop := fnExactPolicyOKRow.holds Tryz.pinned (OpenSpec.ofChange fnExactPolicyOKSpec)

/-- ITS FALSE NEIGHBOUR: 'it returns false'. Refute it at one input. -/
def fnExactPolicyOKWrong : ChangeSpec := { name := "fnExactPolicyOK", fn := fun _ => fun
  | [d] => { results := [.lit (.bool false)], args := [d] }
  | _ => none }
def FnExactPolicyOKWrongFalsely : Prop := fnExactPolicyOKRow.holds Tryz.pinned (OpenSpec.ofChange fnExactPolicyOKWrong)

/-- 'laws.FnKeep': WHATEVER THE INPUT: true; the input reads as it did. -/
def fnKeepSpec : ChangeSpec := { name := "fnKeep", fn := fun _ => fun
  | [d1, d2] => { results := [.lit (.bool true)], args := [d1, d2] }
  | _ => none }
def fnKeepRow : OpenClaim := { program := "ytmilnihobbgopaagreatdoor", sum := "4615c03827fcbeae313da62fcc5c5e89351a1accc7cb4e2a625b2d68fccb94af", func := "loop.example/g00779/laws.FnKeep", spec := "fnKeep", inPlace := ["internal/bytealg.IndexByteString", "internal/bytealg.IndexString"], unfollowed := true, recurses := true, named := ["internal/bytealg.MaxLen", "internal/strconv.uint64pow10", "math/bits.deBruijn32tab", "math/bits.deBruijn64tab", "strconv.ErrSyntax", "strconv.ErrRange"], apart := false, laid := [("math/bits.deBruijn32tab", laid_math_bits_deBruijn32tab), ("math/bits.deBruijn64tab", laid_math_bits_deBruijn64tab), ("internal/strconv.uint64pow10", laid_internal_strconv_uint64pow10), ("strconv.ErrRange", laid_strconv_ErrRange), ("strconv.ErrSyntax", laid_strconv_ErrSyntax)] }
def FnKeepSaid : Prop := fnKeepRow.holds Tryz.pinned (OpenSpec.ofChange fnKeepSpec)

/-- ITS FALSE NEIGHBOUR: 'it returns false'. Refute it at one input. -/
def fnKeepWrong : ChangeSpec := { name := "fnKeep", fn := fun _ => fun
  | [d1, d2] => { results := [.lit (.bool false)], args := [d1, d2] }
  | _ => none }
def FnKeepWrongFalsely : Prop := fnKeepRow.holds Tryz.pinned (OpenSpec.ofChange fnKeepWrong)

/-- 'laws.FnExactPeersOf': WHATEVER THE INPUT: true; the input reads as it did. -/
def fnExactPeersOfSpec : ChangeSpec := { name := "fnExactPeersOf", fn := fun _ => fun
  | [d] => { results := [.lit (.bool true)], args := [d] }
  | _ => none }
def fnExactPeersOfRow : OpenClaim := { program := "ytmilnihobbgopaagreatdoor", sum := "4615c03827fcbeae313da62fcc5c5e89351a1accc7cb4e2a625b2d68fccb94af", func := "loop.example/g00779/laws.FnExactPeersOf", spec := "fnExactPeersOf", inPlace := ["internal/bytealg.IndexByteString", "internal/bytealg.IndexString"], unfollowed := true, recurses := true, named := ["internal/bytealg.MaxLen", "internal/strconv.uint64pow10", "math/bits.deBruijn32tab", "math/bits.deBruijn64tab", "strconv.ErrSyntax", "strconv.ErrRange"], apart := false, laid := [("math/bits.deBruijn32tab", laid_math_bits_deBruijn32tab), ("math/bits.deBruijn64tab", laid_math_bits_deBruijn64tab), ("internal/strconv.uint64pow10", laid_internal_strconv_uint64pow10), ("strconv.ErrRange", laid_strconv_ErrRange), ("strconv.ErrSyntax", laid_strconv_ErrSyntax)] }
def FnExactPeersOfSaid : Prop := fnExactPeersOfRow.holds Tryz.pinned (OpenSpec.ofChange fnExactPeersOfSpec)

/-- ITS FALSE NEIGHBOUR: 'it returns false'. Refute it at one input. -/
def fnExactPeersOfWrong : ChangeSpec := { name := "fnExactPeersOf", fn := fun _ => fun
  | [d] => { results := [.lit (.bool false)], args := [d] }
  | _ => none }
def FnExactPeersOfWrongFalsely : Prop := fnExactPeersOfRow.holds Tryz.pinned (OpenSpec.ofChange fnExactPeersOfWrong)

/-- 'laws.FnExactGroupFor': WHATEVER THE INPUT: true; the input reads as it did. -/
def fnExactGroupForSpec : ChangeSpec := { name := "fnExactGroupFor", fn := fun _ => fun
  | [d] => { results := [.lit (.bool true)], args := [d] }
  | _ => none }
def fnExactGroupForRow : OpenClaim := { program := "ytmilnihobbgopaagreatdoor", sum := "4615c03827fcbeae313da62fcc5c5e89351a1accc7cb4e2a625b2d68fccb94af", func := "loop.example/g00779/laws.FnExactGroupFor", spec := "fnExactGroupFor", inPlace := ["internal/bytealg.IndexByteString", "internal/bytealg.IndexString"], unfollowed := true, recurses := true, named := ["internal/bytealg.MaxLen", "internal/strconv.uint64pow10", "math/bits.deBruijn32tab", "math/bits.deBruijn64tab", "strconv.ErrSyntax", "strconv.ErrRange"], apart := false, laid := [("math/bits.deBruijn32tab", laid_math_bits_deBruijn32tab), ("math/bits.deBruijn64tab", laid_math_bits_deBruijn64tab), ("internal/strconv.uint64pow10", laid_internal_strconv_uint64pow10), ("strconv.ErrRange", laid_strconv_ErrRange), ("strconv.ErrSyntax", laid_strconv_ErrSyntax)] }
def FnExactGroupForSaid : Prop := fnExactGroupForRow.holds Tryz.pinned (OpenSpec.ofChange fnExactGroupForSpec)

/-- ITS FALSE NEIGHBOUR: 'it returns false'. Refute it at one input. -/
def fnExactGroupForWrong : ChangeSpec := { name := "fnExactGroupFor", fn := fun _ => fun
  | [d] => { results := [.lit (.bool false)], args := [d] }
  | _ => none }
def FnExactGroupForWrongFalsely : Prop := fnExactGroupForRow.holds Tryz.pinned (OpenSpec.ofChange fnExactGroupForWrong)

/-- 'laws.FnExactKeepPeers': WHATEVER THE INPUT: true; the input reads as it did. -/
def fnExactKeepPeersSpec : ChangeSpec := { name := "fnExactKeepPeers", fn := fun _ => fun
  | [d1, d2] => { results := [.lit (.bool true)], args := [d1, d2] }
  | _ => none }
def fnExactKeepPeersRow : OpenClaim := { program := "ytmilnihobbgopaagreatdoor", sum := "4615c03827fcbeae313da62fcc5c5e89351a1accc7cb4e2a625b2d68fccb94af", func := "loop.example/g00779/laws.FnExactKeepPeers", spec := "fnExactKeepPeers", inPlace := ["internal/bytealg.IndexByteString", "internal/bytealg.IndexString"], unfollowed := true, recurses := true, named := ["internal/bytealg.MaxLen", "internal/strconv.uint64pow10", "math/bits.deBruijn32tab", "math/bits.deBruijn64tab", "strconv.ErrSyntax", "strconv.ErrRange"], apart := false, laid := [("math/bits.deBruijn32tab", laid_math_bits_deBruijn32tab), ("math/bits.deBruijn64tab", laid_math_bits_deBruijn64tab), ("internal/strconv.uint64pow10", laid_internal_strconv_uint64pow10), ("strconv.ErrRange", laid_strconv_ErrRange), ("strconv.ErrSyntax", laid_strconv_ErrSyntax)] }
def FnExactKeepPeersSaid : Prop := fnExactKeepPeersRow.holds Tryz.pinned (OpenSpec.ofChange fnExactKeepPeersSpec)

/-- ITS FALSE NEIGHBOUR: 'it returns false'. Refute it at one input. -/
def fnExactKeepPeersWrong : ChangeSpec := { name := "fnExactKeepPeers", fn := fun _ => fun
  | [d1, d2] => { results := [.lit (.bool false)], args := [d1, d2] }
  | _ => none }
def FnExactKeepPeersWrongFalsely : Prop := fnExactKeepPeersRow.holds Tryz.pinned (OpenSpec.ofChange fnExactKeepPeersWrong)

/-- 'laws.FnPeers': WHATEVER THE INPUT: true; the input reads as it did. -/
def fnPeersSpec : ChangeSpec := { name := "fnPeers", fn := fun _ => fun
  | [d1, d2] => { results := [.lit (.bool true)], args := [d1, d2] }
  | _ => none }
def fnPeersRow : OpenClaim := { program := "ytmilnihobbgopaagreatdoor", sum := "4615c03827fcbeae313da62fcc5c5e89351a1accc7cb4e2a625b2d68fccb94af", func := "loop.example/g00779/laws.FnPeers", spec := "fnPeers", inPlace := ["internal/bytealg.IndexByteString", "internal/bytealg.IndexString"], unfollowed := true, recurses := true, named := ["internal/bytealg.MaxLen", "internal/strconv.uint64pow10", "math/bits.deBruijn32tab", "math/bits.deBruijn64tab", "strconv.ErrSyntax", "strconv.ErrRange"], apart := false, laid := [("math/bits.deBruijn32tab", laid_math_bits_deBruijn32tab), ("math/bits.deBruijn64tab", laid_math_bits_deBruijn64tab), ("internal/strconv.uint64pow10", laid_internal_strconv_uint64pow10), ("strconv.ErrRange", laid_strconv_ErrRange), ("strconv.ErrSyntax", laid_strconv_ErrSyntax)] }
def FnPeersSaid : Prop := fnPeersRow.holds Tryz.pinned (OpenSpec.ofChange fnPeersSpec)

/-- ITS FALSE NEIGHBOUR: 'it returns false'. Refute it at one input. -/
def fnPeersWrong : ChangeSpec := { name := "fnPeers", fn := fun _ => fun
  | [d1, d2] => { results := [.lit (.bool false)], args := [d1, d2] }
  | _ => none }
def FnPeersWrongFalsely : Prop := fnPeersRow.holds Tryz.pinned (OpenSpec.ofChange fnPeersWrong)

/-- 'laws.FnExactUriGroup': WHATEVER THE INPUT: true; the input reads as it did. -/
def fnExactUriGroupSpec : ChangeSpec := { name := "fnExactUriGroup", fn := fun _ => fun
  | [d] => { results := [.lit (.bool true)], args := [d] }
  | _ => none }
def fnExactUriGroupRow : OpenClaim := { program := "ytmilnihobbgopaagreatdoor", sum := "4615c03827fcbeae313da62fcc5c5e89351a1accc7cb4e2a625b2d68fccb94af", func := "loop.example/g00779/laws.FnExactUriGroup", spec := "fnExactUriGroup", inPlace := ["internal/bytealg.IndexByteString", "internal/bytealg.IndexString"], unfollowed := true, recurses := true, named := ["internal/bytealg.MaxLen", "internal/strconv.uint64pow10", "math/bits.deBruijn32tab", "math/bits.deBruijn64tab", "strconv.ErrSyntax", "strconv.ErrRange"], apart := false, laid := [("math/bits.deBruijn32tab", laid_math_bits_deBruijn32tab), ("math/bits.deBruijn64tab", laid_math_bits_deBruijn64tab), ("internal/strconv.uint64pow10", laid_internal_strconv_uint64pow10), ("strconv.ErrRange", laid_strconv_ErrRange), ("strconv.ErrSyntax", laid_strconv_ErrSyntax)] }
def FnExactUriGroupSaid : Prop := fnExactUriGroupRow.holds Tryz.pinned (OpenSpec.ofChange fnExactUriGroupSpec)

/-- ITS FALSE NEIGHBOUR: 'it returns false'. Refute it at one input. -/
def fnExactUriGroupWrong : ChangeSpec := { name := "fnExactUriGroup", fn := fun _ => fun
  | [d] => { results := [.lit (.bool false)], args := [d] }
  | _ => none }
def FnExactUriGroupWrongFalsely : Prop := fnExactUriGroupRow.holds Tryz.pinned (OpenSpec.ofChange fnExactUriGroupWrong)

/- THE SECOND FORM. 'bulk': how many values and letters a reading holds, each counted each time it is reached (what is shared counts as often as it is met; a slice's spare places count too). A statement '..UptoSaid' is the law's where the arguments, and the package variables that the reading takes, are together of bulk at most 1048576: NARROWER than '..Said'. Prove '..Said' where nothing that the law and all that it calls make is longer than what came in: it says more and counts as full. Else prove '..UptoSaid'. A law counts once. -/
mutual
def uptoBulk {H : Type} : DataW H → Nat
  | .lit (.string bytes) => bytes.length + 1
  | .lit _ => 1
  | .nil => 1
  | .ptr d => uptoBulk d + 1
  | .slice elems spare => uptoBulkAll elems + uptoBulkAll spare + 1
  | .agg parts => uptoBulkAll parts + 1
  | .iface _ d => uptoBulk d + 1
  | .map entries => uptoBulkEntries entries + 1
  | .held _ => 1
def uptoBulkAll {H : Type} : List (DataW H) → Nat
  | [] => 0
  | d :: r => uptoBulk d + uptoBulkAll r
def uptoBulkEntries {H : Type} : List (Lit × DataW H) → Nat
  | [] => 0
  | x :: r => uptoBulkEntry x + uptoBulkEntries r
def uptoBulkEntry {H : Type} : Lit × DataW H → Nat
  | (.string bytes, d) => bytes.length + uptoBulk d + 1
  | (_, d) => uptoBulk d + 1
 end
def uptoSmall : (H : Type) → List (DataW H) → Bool := fun _ ds => decide (uptoBulkAll ds ≤ 1048576)
def OpenSpec.upto (s : _root_.Go.ChangeSpec) : _root_.Go.OpenSpec := { _root_.Go.OpenSpec.ofChange s with cond := some uptoSmall }

/-- 'laws.FnExactReadParcels', WHERE WHAT IT READS IS OF BULK AT MOST 1048576: true; the input reads as it did. -/
def fnExactReadParcelsUptoRow : OpenClaim := { program := "ytmilnihobbgopaagreatdoor", sum := "4615c03827fcbeae313da62fcc5c5e89351a1accc7cb4e2a625b2d68fccb94af", func := "loop.example/g00779/laws.FnExactReadParcels", spec := "fnExactReadParcels", inPlace := ["internal/bytealg.IndexByteString", "internal/abi.NoEscape", "internal/bytealg.MakeNoZero"], unfollowed := true, recurses := true, named := ["strconv.ErrSyntax", "strconv.ErrRange", "internal/strconv.uint64pow10", "math/bits.deBruijn32tab", "math/bits.deBruijn64tab"], apart := false, laid := [("math/bits.deBruijn32tab", laid_math_bits_deBruijn32tab), ("math/bits.deBruijn64tab", laid_math_bits_deBruijn64tab), ("internal/strconv.uint64pow10", laid_internal_strconv_uint64pow10), ("strconv.ErrRange", laid_strconv_ErrRange), ("strconv.ErrSyntax", laid_strconv_ErrSyntax)], narrowed := true }
def FnExactReadParcelsUptoSaid : Prop := fnExactReadParcelsUptoRow.holds Tryz.pinned (OpenSpec.upto fnExactReadParcelsSpec)

/-- 'laws.FnExactAlikeOutside', WHERE WHAT IT READS IS OF BULK AT MOST 1048576: true; the input reads as it did. -/
def fnExactAlikeOutsideUptoRow : OpenClaim := { program := "ytmilnihobbgopaagreatdoor", sum := "4615c03827fcbeae313da62fcc5c5e89351a1accc7cb4e2a625b2d68fccb94af", func := "loop.example/g00779/laws.FnExactAlikeOutside", spec := "fnExactAlikeOutside", inPlace := ["internal/bytealg.IndexByteString", "internal/bytealg.IndexString"], unfollowed := true, recurses := true, named := ["internal/bytealg.MaxLen", "internal/strconv.uint64pow10", "math/bits.deBruijn32tab", "math/bits.deBruijn64tab", "strconv.ErrSyntax", "strconv.ErrRange"], apart := false, laid := [("math/bits.deBruijn32tab", laid_math_bits_deBruijn32tab), ("math/bits.deBruijn64tab", laid_math_bits_deBruijn64tab), ("internal/strconv.uint64pow10", laid_internal_strconv_uint64pow10), ("strconv.ErrRange", laid_strconv_ErrRange), ("strconv.ErrSyntax", laid_strconv_ErrSyntax)], narrowed := true }
def FnExactAlikeOutsideUptoSaid : Prop := fnExactAlikeOutsideUptoRow.holds Tryz.pinned (OpenSpec.upto fnExactAlikeOutsideSpec)

/-- 'laws.FnExactPeerWorks', WHERE WHAT IT READS IS OF BULK AT MOST 1048576: true; the input reads as it did. -/
def fnExactPeerWorksUptoRow : OpenClaim := { program := "ytmilnihobbgopaagreatdoor", sum := "4615c03827fcbeae313da62fcc5c5e89351a1accc7cb4e2a625b2d68fccb94af", func := "loop.example/g00779/laws.FnExactPeerWorks", spec := "fnExactPeerWorks", inPlace := ["internal/bytealg.IndexByteString", "internal/bytealg.IndexString"], unfollowed := true, recurses := true, named := ["internal/bytealg.MaxLen", "internal/strconv.uint64pow10", "math/bits.deBruijn32tab", "math/bits.deBruijn64tab", "strconv.ErrSyntax", "strconv.ErrRange"], apart := false, laid := [("math/bits.deBruijn32tab", laid_math_bits_deBruijn32tab), ("math/bits.deBruijn64tab", laid_math_bits_deBruijn64tab), ("internal/strconv.uint64pow10", laid_internal_strconv_uint64pow10), ("strconv.ErrRange", laid_strconv_ErrRange), ("strconv.ErrSyntax", laid_strconv_ErrSyntax)], narrowed := true }
def FnExactPeerWorksUptoSaid : Prop := fnExactPeerWorksUptoRow.holds Tryz.pinned (OpenSpec.upto fnExactPeerWorksSpec)

/-- 'laws.FnExactPeerGone', WHERE WHAT IT READS IS OF BULK AT MOST 1048576: true; the input reads as it did. -/
def fnExactPeerGoneUptoRow : OpenClaim := { program := "ytmilnihobbgopaagreatdoor", sum := "4615c03827fcbeae313da62fcc5c5e89351a1accc7cb4e2a625b2d68fccb94af", func := "loop.example/g00779/laws.FnExactPeerGone", spec := "fnExactPeerGone", inPlace := ["internal/bytealg.IndexByteString", "internal/bytealg.IndexString"], unfollowed := true, recurses := true, named := ["internal/bytealg.MaxLen", "internal/strconv.uint64pow10", "math/bits.deBruijn32tab", "math/bits.deBruijn64tab", "strconv.ErrSyntax", "strconv.ErrRange"], apart := false, laid := [("math/bits.deBruijn32tab", laid_math_bits_deBruijn32tab), ("math/bits.deBruijn64tab", laid_math_bits_deBruijn64tab), ("internal/strconv.uint64pow10", laid_internal_strconv_uint64pow10), ("strconv.ErrRange", laid_strconv_ErrRange), ("strconv.ErrSyntax", laid_strconv_ErrSyntax)], narrowed := true }
def FnExactPeerGoneUptoSaid : Prop := fnExactPeerGoneUptoRow.holds Tryz.pinned (OpenSpec.upto fnExactPeerGoneSpec)

/-- 'laws.FnExactPeerFails', WHERE WHAT IT READS IS OF BULK AT MOST 1048576: true; the input reads as it did. -/
def fnExactPeerFailsUptoRow : OpenClaim := { program := "ytmilnihobbgopaagreatdoor", sum := "4615c03827fcbeae313da62fcc5c5e89351a1accc7cb4e2a625b2d68fccb94af", func := "loop.example/g00779/laws.FnExactPeerFails", spec := "fnExactPeerFails", inPlace := ["internal/bytealg.IndexByteString", "internal/bytealg.IndexString"], unfollowed := true, recurses := true, named := ["internal/bytealg.MaxLen", "internal/strconv.uint64pow10", "math/bits.deBruijn32tab", "math/bits.deBruijn64tab", "strconv.ErrSyntax", "strconv.ErrRange"], apart := false, laid := [("math/bits.deBruijn32tab", laid_math_bits_deBruijn32tab), ("math/bits.deBruijn64tab", laid_math_bits_deBruijn64tab), ("internal/strconv.uint64pow10", laid_internal_strconv_uint64pow10), ("strconv.ErrRange", laid_strconv_ErrRange), ("strconv.ErrSyntax", laid_strconv_ErrSyntax)], narrowed := true }
def FnExactPeerFailsUptoSaid : Prop := fnExactPeerFailsUptoRow.holds Tryz.pinned (OpenSpec.upto fnExactPeerFailsSpec)

/-- 'laws.FnExactPolicyOK', WHERE WHAT IT READS IS OF BULK AT MOST 1048576: true; the input reads as it did. -/
def fnExactPolicyOKUptoRow : OpenClaim := { program := "ytmilnihobbgopaagreatdoor", sum := "4615c03827fcbeae313da62fcc5c5e89351a1accc7cb4e2a625b2d68fccb94af", func := "loop.example/g00779/laws.FnExactPolicyOK", spec := "fnExactPolicyOK", inPlace := ["internal/bytealg.IndexByteString", "internal/bytealg.IndexString"], unfollowed := true, recurses := true, named := ["internal/bytealg.MaxLen", "internal/strconv.uint64pow10", "math/bits.deBruijn32tab", "math/bits.deBruijn64tab", "strconv.ErrSyntax", "strconv.ErrRange"], apart := false, laid := [("math/bits.deBruijn32tab", laid_math_bits_deBruijn32tab), ("math/bits.deBruijn64tab", laid_math_bits_deBruijn64tab), ("internal/strconv.uint64pow10", laid_internal_strconv_uint64pow10), ("strconv.ErrRange", laid_strconv_ErrRange), ("strconv.ErrSyntax", laid_strconv_ErrSyntax)], narrowed := true }
def FnExactPolicyOKUptoSaid : Prop := fnExactPolicyOKUptoRow.holds Tryz.pinned (OpenSpec.upto fnExactPolicyOKSpec)

/-- 'laws.FnKeep', WHERE WHAT IT READS IS OF BULK AT MOST 1048576: true; the input reads as it did. -/
def fnKeepUptoRow : OpenClaim := { program := "ytmilnihobbgopaagreatdoor", sum := "4615c03827fcbeae313da62fcc5c5e89351a1accc7cb4e2a625b2d68fccb94af", func := "loop.example/g00779/laws.FnKeep", spec := "fnKeep", inPlace := ["internal/bytealg.IndexByteString", "internal/bytealg.IndexString"], unfollowed := true, recurses := true, named := ["internal/bytealg.MaxLen", "internal/strconv.uint64pow10", "math/bits.deBruijn32tab", "math/bits.deBruijn64tab", "strconv.ErrSyntax", "strconv.ErrRange"], apart := false, laid := [("math/bits.deBruijn32tab", laid_math_bits_deBruijn32tab), ("math/bits.deBruijn64tab", laid_math_bits_deBruijn64tab), ("internal/strconv.uint64pow10", laid_internal_strconv_uint64pow10), ("strconv.ErrRange", laid_strconv_ErrRange), ("strconv.ErrSyntax", laid_strconv_ErrSyntax)], narrowed := true }
def FnKeepUptoSaid : Prop := fnKeepUptoRow.holds Tryz.pinned (OpenSpec.upto fnKeepSpec)

/-- 'laws.FnExactPeersOf', WHERE WHAT IT READS IS OF BULK AT MOST 1048576: true; the input reads as it did. -/
def fnExactPeersOfUptoRow : OpenClaim := { program := "ytmilnihobbgopaagreatdoor", sum := "4615c03827fcbeae313da62fcc5c5e89351a1accc7cb4e2a625b2d68fccb94af", func := "loop.example/g00779/laws.FnExactPeersOf", spec := "fnExactPeersOf", inPlace := ["internal/bytealg.IndexByteString", "internal/bytealg.IndexString"], unfollowed := true, recurses := true, named := ["internal/bytealg.MaxLen", "internal/strconv.uint64pow10", "math/bits.deBruijn32tab", "math/bits.deBruijn64tab", "strconv.ErrSyntax", "strconv.ErrRange"], apart := false, laid := [("math/bits.deBruijn32tab", laid_math_bits_deBruijn32tab), ("math/bits.deBruijn64tab", laid_math_bits_deBruijn64tab), ("internal/strconv.uint64pow10", laid_internal_strconv_uint64pow10), ("strconv.ErrRange", laid_strconv_ErrRange), ("strconv.ErrSyntax", laid_strconv_ErrSyntax)], narrowed := true }
def FnExactPeersOfUptoSaid : Prop := fnExactPeersOfUptoRow.holds Tryz.pinned (OpenSpec.upto fnExactPeersOfSpec)

/-- 'laws.FnExactGroupFor', WHERE WHAT IT READS IS OF BULK AT MOST 1048576: true; the input reads as it did. -/
def fnExactGroupForUptoRow : OpenClaim := { program := "ytmilnihobbgopaagreatdoor", sum := "4615c03827fcbeae313da62fcc5c5e89351a1accc7cb4e2a625b2d68fccb94af", func := "loop.example/g00779/laws.FnExactGroupFor", spec := "fnExactGroupFor", inPlace := ["internal/bytealg.IndexByteString", "internal/bytealg.IndexString"], unfollowed := true, recurses := true, named := ["internal/bytealg.MaxLen", "internal/strconv.uint64pow10", "math/bits.deBruijn32tab", "math/bits.deBruijn64tab", "strconv.ErrSyntax", "strconv.ErrRange"], apart := false, laid := [("math/bits.deBruijn32tab", laid_math_bits_deBruijn32tab), ("math/bits.deBruijn64tab", laid_math_bits_deBruijn64tab), ("internal/strconv.uint64pow10", laid_internal_strconv_uint64pow10), ("strconv.ErrRange", laid_strconv_ErrRange), ("strconv.ErrSyntax", laid_strconv_ErrSyntax)], narrowed := true }
def FnExactGroupForUptoSaid : Prop := fnExactGroupForUptoRow.holds Tryz.pinned (OpenSpec.upto fnExactGroupForSpec)

/-- 'laws.FnExactKeepPeers', WHERE WHAT IT READS IS OF BULK AT MOST 1048576: true; the input reads as it did. -/
def fnExactKeepPeersUptoRow : OpenClaim := { program := "ytmilnihobbgopaagreatdoor", sum := "4615c03827fcbeae313da62fcc5c5e89351a1accc7cb4e2a625b2d68fccb94af", func := "loop.example/g00779/laws.FnExactKeepPeers", spec := "fnExactKeepPeers", inPlace := ["internal/bytealg.IndexByteString", "internal/bytealg.IndexString"], unfollowed := true, recurses := true, named := ["internal/bytealg.MaxLen", "internal/strconv.uint64pow10", "math/bits.deBruijn32tab", "math/bits.deBruijn64tab", "strconv.ErrSyntax", "strconv.ErrRange"], apart := false, laid := [("math/bits.deBruijn32tab", laid_math_bits_deBruijn32tab), ("math/bits.deBruijn64tab", laid_math_bits_deBruijn64tab), ("internal/strconv.uint64pow10", laid_internal_strconv_uint64pow10), ("strconv.ErrRange", laid_strconv_ErrRange), ("strconv.ErrSyntax", laid_strconv_ErrSyntax)], narrowed := true }
def FnExactKeepPeersUptoSaid : Prop := fnExactKeepPeersUptoRow.holds Tryz.pinned (OpenSpec.upto fnExactKeepPeersSpec)

/-- 'laws.FnPeers', WHERE WHAT IT READS IS OF BULK AT MOST 1048576: true; the input reads as it did. -/
def fnPeersUptoRow : OpenClaim := { program := "ytmilnihobbgopaagreatdoor", sum := "4615c03827fcbeae313da62fcc5c5e89351a1accc7cb4e2a625b2d68fccb94af", func := "loop.example/g00779/laws.FnPeers", spec := "fnPeers", inPlace := ["internal/bytealg.IndexByteString", "internal/bytealg.IndexString"], unfollowed := true, recurses := true, named := ["internal/bytealg.MaxLen", "internal/strconv.uint64pow10", "math/bits.deBruijn32tab", "math/bits.deBruijn64tab", "strconv.ErrSyntax", "strconv.ErrRange"], apart := false, laid := [("math/bits.deBruijn32tab", laid_math_bits_deBruijn32tab), ("math/bits.deBruijn64tab", laid_math_bits_deBruijn64tab), ("internal/strconv.uint64pow10", laid_internal_strconv_uint64pow10), ("strconv.ErrRange", laid_strconv_ErrRange), ("strconv.ErrSyntax", laid_strconv_ErrSyntax)], narrowed := true }
def FnPeersUptoSaid : Prop := fnPeersUptoRow.holds Tryz.pinned (OpenSpec.upto fnPeersSpec)

/-- 'laws.FnExactUriGroup', WHERE WHAT IT READS IS OF BULK AT MOST 1048576: true; the input reads as it did. -/
def fnExactUriGroupUptoRow : OpenClaim := { program := "ytmilnihobbgopaagreatdoor", sum := "4615c03827fcbeae313da62fcc5c5e89351a1accc7cb4e2a625b2d68fccb94af", func := "loop.example/g00779/laws.FnExactUriGroup", spec := "fnExactUriGroup", inPlace := ["internal/bytealg.IndexByteString", "internal/bytealg.IndexString"], unfollowed := true, recurses := true, named := ["internal/bytealg.MaxLen", "internal/strconv.uint64pow10", "math/bits.deBruijn32tab", "math/bits.deBruijn64tab", "strconv.ErrSyntax", "strconv.ErrRange"], apart := false, laid := [("math/bits.deBruijn32tab", laid_math_bits_deBruijn32tab), ("math/bits.deBruijn64tab", laid_math_bits_deBruijn64tab), ("internal/strconv.uint64pow10", laid_internal_strconv_uint64pow10), ("strconv.ErrRange", laid_strconv_ErrRange), ("strconv.ErrSyntax", laid_strconv_ErrSyntax)], narrowed := true }
def FnExactUriGroupUptoSaid : Prop := fnExactUriGroupUptoRow.holds Tryz.pinned (OpenSpec.upto fnExactUriGroupSpec)

end Rows
end Go.Proofs.YtmilnihobbgopaaGreatDoor
