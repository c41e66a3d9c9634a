/-
  NARROWER THAN 'FOR EVERY INPUT', by the rows' own cells (each row's printed sentence says how): TopQueriesKept: laid · TopQueriesDenied: laid · TopQueriesTurned: laid · TopQueriesAbsorbed: laid · TopQueriesDistributed: laid · TopRelativesOfBoth: laid · TopAncestorsUnrolled: laid · TopAncestorsTwice: laid · TopHeadsWritten: laid · TopHeadsTwice: laid · TopTimesParted: laid · TopOthersApart: laid.
  DERIVED. THE GIVEN ROWS OF THIS SEAT. 12 by the template 'for every input the law returns true; each argument reads behind the call as it read before'; 0 by the template 'total and deterministic' (their statements: YtijaoedlhmdpnaaDoorTotals.lean).
  GIVEN WITH THE SEED: the statements are not yours to turn. If you find one false, say at which input.
  Laid BY PROGRAM, IN A SANDBOX (cutbox-rows.mjs): the forced cells as the released guide's own fill.sh prints them over the translation 4071714808ea7eb9… (all of the seat's roots in one cut). By AI agents, Wed Nov 11 2026. No macro, syntax, notation, axiom, sorry.
-/
import Derived.Test.YtijaoedlhmdpnaaDoorChecked
import GoSem.Claim
import GoSem.ClaimJoined
import GoSem.ClaimMapViews
import Derived.JoinedTies
import Derived.KernelRfl
namespace Go.Proofs.YtijaoedlhmdpnaaDoor
/- THE CELL 'sum', in the pinned program and in every row, IS THE sha256 OF THE DUMP (.gsa) THAT YtijaoedlhmdpnaaDoorProg.lean LOADS. Nothing in Lean hashes anything: it is a label: what it is worth is what the hold of that sum in a sandbox is worth. -/
noncomputable def Tryd.pinned : Pinned := { name := "ytijaoedlhmdpnaadoor", sum := "4071714808ea7eb91b9f612300583d4d273aa182d025ea70e1e394a70a977689", checked := Tryd.checked }
namespace Rows
def none {H : Type} : Left H := { results := [], args := [] }

/- WHAT THE LISTED PACKAGE-LEVEL VARIABLES READ AS WHEN THE CALL BEGINS. Each datum BY PROGRAM (the guide's laid-datum.mjs) off the statement by which the dump's own 'gosem.cut.vars' lays the variable. In a bare row this is a premise. The card (YtijaoedlhmdpnaaDoorCards.lean) ties it to the program's text. -/
def laid_math_bits_deBruijn32tab {H : Type} : DataW H := .agg [.lit (.int .u8 0), .lit (.int .u8 1), .lit (.int .u8 28), .lit (.int .u8 2), .lit (.int .u8 29), .lit (.int .u8 14), .lit (.int .u8 24), .lit (.int .u8 3), .lit (.int .u8 30), .lit (.int .u8 22), .lit (.int .u8 20), .lit (.int .u8 15), .lit (.int .u8 25), .lit (.int .u8 17), .lit (.int .u8 4), .lit (.int .u8 8), .lit (.int .u8 31), .lit (.int .u8 27), .lit (.int .u8 13), .lit (.int .u8 23), .lit (.int .u8 21), .lit (.int .u8 19), .lit (.int .u8 16), .lit (.int .u8 7), .lit (.int .u8 26), .lit (.int .u8 12), .lit (.int .u8 18), .lit (.int .u8 6), .lit (.int .u8 11), .lit (.int .u8 5), .lit (.int .u8 10), .lit (.int .u8 9)]
def laid_math_bits_deBruijn64tab {H : Type} : DataW H := .agg [.lit (.int .u8 0), .lit (.int .u8 1), .lit (.int .u8 56), .lit (.int .u8 2), .lit (.int .u8 57), .lit (.int .u8 49), .lit (.int .u8 28), .lit (.int .u8 3), .lit (.int .u8 61), .lit (.int .u8 58), .lit (.int .u8 42), .lit (.int .u8 50), .lit (.int .u8 38), .lit (.int .u8 29), .lit (.int .u8 17), .lit (.int .u8 4), .lit (.int .u8 62), .lit (.int .u8 47), .lit (.int .u8 59), .lit (.int .u8 36), .lit (.int .u8 45), .lit (.int .u8 43), .lit (.int .u8 51), .lit (.int .u8 22), .lit (.int .u8 53), .lit (.int .u8 39), .lit (.int .u8 33), .lit (.int .u8 30), .lit (.int .u8 24), .lit (.int .u8 18), .lit (.int .u8 12), .lit (.int .u8 5), .lit (.int .u8 63), .lit (.int .u8 55), .lit (.int .u8 48), .lit (.int .u8 27), .lit (.int .u8 60), .lit (.int .u8 41), .lit (.int .u8 37), .lit (.int .u8 16), .lit (.int .u8 46), .lit (.int .u8 35), .lit (.int .u8 44), .lit (.int .u8 21), .lit (.int .u8 52), .lit (.int .u8 32), .lit (.int .u8 23), .lit (.int .u8 11), .lit (.int .u8 54), .lit (.int .u8 26), .lit (.int .u8 40), .lit (.int .u8 15), .lit (.int .u8 34), .lit (.int .u8 20), .lit (.int .u8 31), .lit (.int .u8 10), .lit (.int .u8 25), .lit (.int .u8 14), .lit (.int .u8 19), .lit (.int .u8 9), .lit (.int .u8 13), .lit (.int .u8 8), .lit (.int .u8 7), .lit (.int .u8 6)]
def laid_internal_strconv_uint64pow10 {H : Type} : DataW H := .agg [.lit (.int .u64 1), .lit (.int .u64 10), .lit (.int .u64 100), .lit (.int .u64 1000), .lit (.int .u64 10000), .lit (.int .u64 100000), .lit (.int .u64 1000000), .lit (.int .u64 10000000), .lit (.int .u64 100000000), .lit (.int .u64 1000000000), .lit (.int .u64 10000000000), .lit (.int .u64 100000000000), .lit (.int .u64 1000000000000), .lit (.int .u64 10000000000000), .lit (.int .u64 100000000000000), .lit (.int .u64 1000000000000000), .lit (.int .u64 10000000000000000), .lit (.int .u64 100000000000000000), .lit (.int .u64 1000000000000000000), .lit (.int .u64 10000000000000000000)]
def laid_strconv_ErrRange {H : Type} : DataW H := .iface "*errors.errorString" (.ptr (.agg [.lit (.string [118, 97, 108, 117, 101, 32, 111, 117, 116, 32, 111, 102, 32, 114, 97, 110, 103, 101])]))
def laid_strconv_ErrSyntax {H : Type} : DataW H := .iface "*errors.errorString" (.ptr (.agg [.lit (.string [105, 110, 118, 97, 108, 105, 100, 32, 115, 121, 110, 116, 97, 120])]))
def laid_changeforge_revset_words {H : Type} : DataW H := .agg [.lit (.string []), .lit (.string [97, 108, 108]), .lit (.string [110, 111, 110, 101]), .lit (.string []), .lit (.string [97, 117, 116, 104, 111, 114]), .lit (.string [98, 101, 102, 111, 114, 101]), .lit (.string [109, 101, 114, 103, 101, 115]), .lit (.string []), .lit (.string [97, 110, 99]), .lit (.string [100, 101, 115, 99]), .lit (.string [112, 97, 114, 101, 110, 116, 115]), .lit (.string [99, 104, 105, 108, 100, 114, 101, 110]), .lit (.string [104, 101, 97, 100, 115]), .lit (.string [114, 111, 111, 116, 115])]

/-- 'changeforgetop.TopQueriesKept': WHATEVER THE INPUT: true; the input reads as it did. -/
def topQueriesKeptSpec : ChangeSpec := { name := "topQueriesKept", fn := fun _ => fun
  | [d1, d2, d3, d4] => { results := [.lit (.bool true)], args := [d1, d2, d3, d4] }
  | _ => none }
def topQueriesKeptRow : OpenClaim := { program := "ytijaoedlhmdpnaadoor", sum := "4071714808ea7eb91b9f612300583d4d273aa182d025ea70e1e394a70a977689", func := "changeforge/changeforgetop.TopQueriesKept", spec := "topQueriesKept", inPlace := ["internal/bytealg.IndexByteString", "internal/bytealg.IndexString"], unfollowed := true, recurses := true, named := ["changeforge/revset.words", "internal/strconv.uint64pow10", "math/bits.deBruijn32tab", "math/bits.deBruijn64tab", "internal/bytealg.MaxLen", "strconv.ErrSyntax", "strconv.ErrRange"], apart := false, laid := [("math/bits.deBruijn32tab", laid_math_bits_deBruijn32tab), ("math/bits.deBruijn64tab", laid_math_bits_deBruijn64tab), ("internal/strconv.uint64pow10", laid_internal_strconv_uint64pow10), ("strconv.ErrRange", laid_strconv_ErrRange), ("strconv.ErrSyntax", laid_strconv_ErrSyntax), ("changeforge/revset.words", laid_changeforge_revset_words)] }
def TopQueriesKeptSaid : Prop := topQueriesKeptRow.holds Tryd.pinned (OpenSpec.ofChange topQueriesKeptSpec)

/-- ITS FALSE NEIGHBOUR: 'it returns false'. Refute it at one input. -/
def topQueriesKeptWrong : ChangeSpec := { name := "topQueriesKept", fn := fun _ => fun
  | [d1, d2, d3, d4] => { results := [.lit (.bool false)], args := [d1, d2, d3, d4] }
  | _ => none }
def TopQueriesKeptWrongFalsely : Prop := topQueriesKeptRow.holds Tryd.pinned (OpenSpec.ofChange topQueriesKeptWrong)

/-- 'changeforgetop.TopQueriesDenied': WHATEVER THE INPUT: true; the input reads as it did. -/
def topQueriesDeniedSpec : ChangeSpec := { name := "topQueriesDenied", fn := fun _ => fun
  | [d1, d2, d3, d4] => { results := [.lit (.bool true)], args := [d1, d2, d3, d4] }
  | _ => none }
def topQueriesDeniedRow : OpenClaim := { program := "ytijaoedlhmdpnaadoor", sum := "4071714808ea7eb91b9f612300583d4d273aa182d025ea70e1e394a70a977689", func := "changeforge/changeforgetop.TopQueriesDenied", spec := "topQueriesDenied", inPlace := ["internal/bytealg.IndexByteString", "internal/bytealg.IndexString"], unfollowed := true, recurses := true, named := ["changeforge/revset.words", "internal/strconv.uint64pow10", "math/bits.deBruijn32tab", "math/bits.deBruijn64tab", "internal/bytealg.MaxLen", "strconv.ErrSyntax", "strconv.ErrRange"], apart := false, laid := [("math/bits.deBruijn32tab", laid_math_bits_deBruijn32tab), ("math/bits.deBruijn64tab", laid_math_bits_deBruijn64tab), ("internal/strconv.uint64pow10", laid_internal_strconv_uint64pow10), ("strconv.ErrRange", laid_strconv_ErrRange), ("strconv.ErrSyntax", laid_strconv_ErrSyntax), ("changeforge/revset.words", laid_changeforge_revset_words)] }
def TopQueriesDeniedSaid : Prop := topQueriesDeniedRow.holds Tryd.pinned (OpenSpec.ofChange topQueriesDeniedSpec)

/-- ITS FALSE NEIGHBOUR: 'it returns false'. Refute it at one input. -/
def topQueriesDeniedWrong : ChangeSpec := { name := "topQueriesDenied", fn := fun _ => fun
  | [d1, d2, d3, d4] => { results := [.lit (.bool false)], args := [d1, d2, d3, d4] }
  | _ => none }
def TopQueriesDeniedWrongFalsely : Prop := topQueriesDeniedRow.holds Tryd.pinned (OpenSpec.ofChange topQueriesDeniedWrong)

/-- 'changeforgetop.TopQueriesTurned': WHATEVER THE INPUT: true; the input reads as it did. -/
def topQueriesTurnedSpec : ChangeSpec := { name := "topQueriesTurned", fn := fun _ => fun
  | [d1, d2, d3, d4] => { results := [.lit (.bool true)], args := [d1, d2, d3, d4] }
  | _ => none }
def topQueriesTurnedRow : OpenClaim := { program := "ytijaoedlhmdpnaadoor", sum := "4071714808ea7eb91b9f612300583d4d273aa182d025ea70e1e394a70a977689", func := "changeforge/changeforgetop.TopQueriesTurned", spec := "topQueriesTurned", inPlace := ["internal/bytealg.IndexByteString", "internal/bytealg.IndexString"], unfollowed := true, recurses := true, named := ["changeforge/revset.words", "internal/strconv.uint64pow10", "math/bits.deBruijn32tab", "math/bits.deBruijn64tab", "internal/bytealg.MaxLen", "strconv.ErrSyntax", "strconv.ErrRange"], apart := false, laid := [("math/bits.deBruijn32tab", laid_math_bits_deBruijn32tab), ("math/bits.deBruijn64tab", laid_math_bits_deBruijn64tab), ("internal/strconv.uint64pow10", laid_internal_strconv_uint64pow10), ("strconv.ErrRange", laid_strconv_ErrRange), ("strconv.ErrSyntax", laid_strconv_ErrSyntax), ("changeforge/revset.words", laid_changeforge_revset_words)] }
def TopQueriesTurnedSaid : Prop := topQueriesTurnedRow.holds Tryd.pinned (OpenSpec.ofChange topQueriesTurnedSpec)

/-- ITS FALSE NEIGHBOUR: 'it returns false'. Refute it at one input. -/
def topQueriesTurnedWrong : ChangeSpec := { name := "topQueriesTurned", fn := fun _ => fun
  | [d1, d2, d3, d4] => { results := [.lit (.bool false)], args := [d1, d2, d3, d4] }
  | _ => none }
def TopQueriesTurnedWrongFalsely : Prop := topQueriesTurnedRow.holds Tryd.pinned (OpenSpec.ofChange topQueriesTurnedWrong)

/-- 'changeforgetop.TopQueriesAbsorbed': WHATEVER THE INPUT: true; the input reads as it did. -/
def topQueriesAbsorbedSpec : ChangeSpec := { name := "topQueriesAbsorbed", fn := fun _ => fun
  | [d1, d2, d3, d4, d5] => { results := [.lit (.bool true)], args := [d1, d2, d3, d4, d5] }
  | _ => none }
def topQueriesAbsorbedRow : OpenClaim := { program := "ytijaoedlhmdpnaadoor", sum := "4071714808ea7eb91b9f612300583d4d273aa182d025ea70e1e394a70a977689", func := "changeforge/changeforgetop.TopQueriesAbsorbed", spec := "topQueriesAbsorbed", inPlace := ["internal/bytealg.IndexByteString", "internal/bytealg.IndexString"], unfollowed := true, recurses := true, named := ["changeforge/revset.words", "internal/strconv.uint64pow10", "math/bits.deBruijn32tab", "math/bits.deBruijn64tab", "internal/bytealg.MaxLen", "strconv.ErrSyntax", "strconv.ErrRange"], apart := false, laid := [("math/bits.deBruijn32tab", laid_math_bits_deBruijn32tab), ("math/bits.deBruijn64tab", laid_math_bits_deBruijn64tab), ("internal/strconv.uint64pow10", laid_internal_strconv_uint64pow10), ("strconv.ErrRange", laid_strconv_ErrRange), ("strconv.ErrSyntax", laid_strconv_ErrSyntax), ("changeforge/revset.words", laid_changeforge_revset_words)] }
def TopQueriesAbsorbedSaid : Prop := topQueriesAbsorbedRow.holds Tryd.pinned (OpenSpec.ofChange topQueriesAbsorbedSpec)

/-- ITS FALSE NEIGHBOUR: 'it returns false'. Refute it at one input. -/
def topQueriesAbsorbedWrong : ChangeSpec := { name := "topQueriesAbsorbed", fn := fun _ => fun
  | [d1, d2, d3, d4, d5] => { results := [.lit (.bool false)], args := [d1, d2, d3, d4, d5] }
  | _ => none }
def TopQueriesAbsorbedWrongFalsely : Prop := topQueriesAbsorbedRow.holds Tryd.pinned (OpenSpec.ofChange topQueriesAbsorbedWrong)

/-- 'changeforgetop.TopQueriesDistributed': WHATEVER THE INPUT: true; the input reads as it did. -/
def topQueriesDistributedSpec : ChangeSpec := { name := "topQueriesDistributed", fn := fun _ => fun
  | [d1, d2, d3] => { results := [.lit (.bool true)], args := [d1, d2, d3] }
  | _ => none }
def topQueriesDistributedRow : OpenClaim := { program := "ytijaoedlhmdpnaadoor", sum := "4071714808ea7eb91b9f612300583d4d273aa182d025ea70e1e394a70a977689", func := "changeforge/changeforgetop.TopQueriesDistributed", spec := "topQueriesDistributed", inPlace := ["internal/bytealg.IndexByteString", "internal/bytealg.IndexString"], unfollowed := true, recurses := true, named := ["changeforge/revset.words", "internal/strconv.uint64pow10", "math/bits.deBruijn32tab", "math/bits.deBruijn64tab", "internal/bytealg.MaxLen", "strconv.ErrSyntax", "strconv.ErrRange"], apart := false, laid := [("math/bits.deBruijn32tab", laid_math_bits_deBruijn32tab), ("math/bits.deBruijn64tab", laid_math_bits_deBruijn64tab), ("internal/strconv.uint64pow10", laid_internal_strconv_uint64pow10), ("strconv.ErrRange", laid_strconv_ErrRange), ("strconv.ErrSyntax", laid_strconv_ErrSyntax), ("changeforge/revset.words", laid_changeforge_revset_words)] }
def TopQueriesDistributedSaid : Prop := topQueriesDistributedRow.holds Tryd.pinned (OpenSpec.ofChange topQueriesDistributedSpec)

/-- ITS FALSE NEIGHBOUR: 'it returns false'. Refute it at one input. -/
def topQueriesDistributedWrong : ChangeSpec := { name := "topQueriesDistributed", fn := fun _ => fun
  | [d1, d2, d3] => { results := [.lit (.bool false)], args := [d1, d2, d3] }
  | _ => none }
def TopQueriesDistributedWrongFalsely : Prop := topQueriesDistributedRow.holds Tryd.pinned (OpenSpec.ofChange topQueriesDistributedWrong)

/-- 'changeforgetop.TopRelativesOfBoth': WHATEVER THE INPUT: true; the input reads as it did. -/
def topRelativesOfBothSpec : ChangeSpec := { name := "topRelativesOfBoth", fn := fun _ => fun
  | [d1, d2, d3] => { results := [.lit (.bool true)], args := [d1, d2, d3] }
  | _ => none }
def topRelativesOfBothRow : OpenClaim := { program := "ytijaoedlhmdpnaadoor", sum := "4071714808ea7eb91b9f612300583d4d273aa182d025ea70e1e394a70a977689", func := "changeforge/changeforgetop.TopRelativesOfBoth", spec := "topRelativesOfBoth", inPlace := ["internal/bytealg.IndexByteString", "internal/bytealg.IndexString"], unfollowed := true, recurses := true, named := ["changeforge/revset.words", "internal/strconv.uint64pow10", "math/bits.deBruijn32tab", "math/bits.deBruijn64tab", "internal/bytealg.MaxLen", "strconv.ErrSyntax", "strconv.ErrRange"], apart := false, laid := [("math/bits.deBruijn32tab", laid_math_bits_deBruijn32tab), ("math/bits.deBruijn64tab", laid_math_bits_deBruijn64tab), ("internal/strconv.uint64pow10", laid_internal_strconv_uint64pow10), ("strconv.ErrRange", laid_strconv_ErrRange), ("strconv.ErrSyntax", laid_strconv_ErrSyntax), ("changeforge/revset.words", laid_changeforge_revset_words)] }
def TopRelativesOfBothSaid : Prop := topRelativesOfBothRow.holds Tryd.pinned (OpenSpec.ofChange topRelativesOfBothSpec)

/-- ITS FALSE NEIGHBOUR: 'it returns false'. Refute it at one input. -/
def topRelativesOfBothWrong : ChangeSpec := { name := "topRelativesOfBoth", fn := fun _ => fun
  | [d1, d2, d3] => { results := [.lit (.bool false)], args := [d1, d2, d3] }
  | _ => none }
def TopRelativesOfBothWrongFalsely : Prop := topRelativesOfBothRow.holds Tryd.pinned (OpenSpec.ofChange topRelativesOfBothWrong)

/-- 'changeforgetop.TopAncestorsUnrolled': WHATEVER THE INPUT: true; the input reads as it did. -/
def topAncestorsUnrolledSpec : ChangeSpec := { name := "topAncestorsUnrolled", fn := fun _ => fun
  | [d1, d2, d3, d4] => { results := [.lit (.bool true)], args := [d1, d2, d3, d4] }
  | _ => none }
def topAncestorsUnrolledRow : OpenClaim := { program := "ytijaoedlhmdpnaadoor", sum := "4071714808ea7eb91b9f612300583d4d273aa182d025ea70e1e394a70a977689", func := "changeforge/changeforgetop.TopAncestorsUnrolled", spec := "topAncestorsUnrolled", inPlace := ["internal/bytealg.IndexByteString", "internal/bytealg.IndexString"], unfollowed := true, recurses := true, named := ["changeforge/revset.words", "internal/strconv.uint64pow10", "math/bits.deBruijn32tab", "math/bits.deBruijn64tab", "internal/bytealg.MaxLen", "strconv.ErrSyntax", "strconv.ErrRange"], apart := false, laid := [("math/bits.deBruijn32tab", laid_math_bits_deBruijn32tab), ("math/bits.deBruijn64tab", laid_math_bits_deBruijn64tab), ("internal/strconv.uint64pow10", laid_internal_strconv_uint64pow10), ("strconv.ErrRange", laid_strconv_ErrRange), ("strconv.ErrSyntax", laid_strconv_ErrSyntax), ("changeforge/revset.words", laid_changeforge_revset_words)] }
def TopAncestorsUnrolledSaid : Prop := topAncestorsUnrolledRow.holds Tryd.pinned (OpenSpec.ofChange topAncestorsUnrolledSpec)

/-- ITS FALSE NEIGHBOUR: 'it returns false'. Refute it at one input. -/
def topAncestorsUnrolledWrong : ChangeSpec := { name := "topAncestorsUnrolled", fn := fun _ => fun
  | [d1, d2, d3, d4] => { results := [.lit (.bool false)], args := [d1, d2, d3, d4] }
  | _ => none }
def TopAncestorsUnrolledWrongFalsely : Prop := topAncestorsUnrolledRow.holds Tryd.pinned (OpenSpec.ofChange topAncestorsUnrolledWrong)

/-- 'changeforgetop.TopAncestorsTwice': WHATEVER THE INPUT: true; the input reads as it did. -/
def topAncestorsTwiceSpec : ChangeSpec := { name := "topAncestorsTwice", fn := fun _ => fun
  | [d1, d2, d3, d4] => { results := [.lit (.bool true)], args := [d1, d2, d3, d4] }
  | _ => none }
def topAncestorsTwiceRow : OpenClaim := { program := "ytijaoedlhmdpnaadoor", sum := "4071714808ea7eb91b9f612300583d4d273aa182d025ea70e1e394a70a977689", func := "changeforge/changeforgetop.TopAncestorsTwice", spec := "topAncestorsTwice", inPlace := ["internal/bytealg.IndexByteString", "internal/bytealg.IndexString"], unfollowed := true, recurses := true, named := ["changeforge/revset.words", "internal/strconv.uint64pow10", "math/bits.deBruijn32tab", "math/bits.deBruijn64tab", "internal/bytealg.MaxLen", "strconv.ErrSyntax", "strconv.ErrRange"], apart := false, laid := [("math/bits.deBruijn32tab", laid_math_bits_deBruijn32tab), ("math/bits.deBruijn64tab", laid_math_bits_deBruijn64tab), ("internal/strconv.uint64pow10", laid_internal_strconv_uint64pow10), ("strconv.ErrRange", laid_strconv_ErrRange), ("strconv.ErrSyntax", laid_strconv_ErrSyntax), ("changeforge/revset.words", laid_changeforge_revset_words)] }
def TopAncestorsTwiceSaid : Prop := topAncestorsTwiceRow.holds Tryd.pinned (OpenSpec.ofChange topAncestorsTwiceSpec)

/-- ITS FALSE NEIGHBOUR: 'it returns false'. Refute it at one input. -/
def topAncestorsTwiceWrong : ChangeSpec := { name := "topAncestorsTwice", fn := fun _ => fun
  | [d1, d2, d3, d4] => { results := [.lit (.bool false)], args := [d1, d2, d3, d4] }
  | _ => none }
def TopAncestorsTwiceWrongFalsely : Prop := topAncestorsTwiceRow.holds Tryd.pinned (OpenSpec.ofChange topAncestorsTwiceWrong)

/-- 'changeforgetop.TopHeadsWritten': WHATEVER THE INPUT: true; the input reads as it did. -/
def topHeadsWrittenSpec : ChangeSpec := { name := "topHeadsWritten", fn := fun _ => fun
  | [d1, d2, d3] => { results := [.lit (.bool true)], args := [d1, d2, d3] }
  | _ => none }
def topHeadsWrittenRow : OpenClaim := { program := "ytijaoedlhmdpnaadoor", sum := "4071714808ea7eb91b9f612300583d4d273aa182d025ea70e1e394a70a977689", func := "changeforge/changeforgetop.TopHeadsWritten", spec := "topHeadsWritten", inPlace := ["internal/bytealg.IndexByteString", "internal/bytealg.IndexString"], unfollowed := true, recurses := true, named := ["changeforge/revset.words", "internal/strconv.uint64pow10", "math/bits.deBruijn32tab", "math/bits.deBruijn64tab", "internal/bytealg.MaxLen", "strconv.ErrSyntax", "strconv.ErrRange"], apart := false, laid := [("math/bits.deBruijn32tab", laid_math_bits_deBruijn32tab), ("math/bits.deBruijn64tab", laid_math_bits_deBruijn64tab), ("internal/strconv.uint64pow10", laid_internal_strconv_uint64pow10), ("strconv.ErrRange", laid_strconv_ErrRange), ("strconv.ErrSyntax", laid_strconv_ErrSyntax), ("changeforge/revset.words", laid_changeforge_revset_words)] }
def TopHeadsWrittenSaid : Prop := topHeadsWrittenRow.holds Tryd.pinned (OpenSpec.ofChange topHeadsWrittenSpec)

/-- ITS FALSE NEIGHBOUR: 'it returns false'. Refute it at one input. -/
def topHeadsWrittenWrong : ChangeSpec := { name := "topHeadsWritten", fn := fun _ => fun
  | [d1, d2, d3] => { results := [.lit (.bool false)], args := [d1, d2, d3] }
  | _ => none }
def TopHeadsWrittenWrongFalsely : Prop := topHeadsWrittenRow.holds Tryd.pinned (OpenSpec.ofChange topHeadsWrittenWrong)

/-- 'changeforgetop.TopHeadsTwice': WHATEVER THE INPUT: true; the input reads as it did. -/
def topHeadsTwiceSpec : ChangeSpec := { name := "topHeadsTwice", fn := fun _ => fun
  | [d1, d2, d3, d4] => { results := [.lit (.bool true)], args := [d1, d2, d3, d4] }
  | _ => none }
def topHeadsTwiceRow : OpenClaim := { program := "ytijaoedlhmdpnaadoor", sum := "4071714808ea7eb91b9f612300583d4d273aa182d025ea70e1e394a70a977689", func := "changeforge/changeforgetop.TopHeadsTwice", spec := "topHeadsTwice", inPlace := ["internal/bytealg.IndexByteString", "internal/bytealg.IndexString"], unfollowed := true, recurses := true, named := ["changeforge/revset.words", "internal/strconv.uint64pow10", "math/bits.deBruijn32tab", "math/bits.deBruijn64tab", "internal/bytealg.MaxLen", "strconv.ErrSyntax", "strconv.ErrRange"], apart := false, laid := [("math/bits.deBruijn32tab", laid_math_bits_deBruijn32tab), ("math/bits.deBruijn64tab", laid_math_bits_deBruijn64tab), ("internal/strconv.uint64pow10", laid_internal_strconv_uint64pow10), ("strconv.ErrRange", laid_strconv_ErrRange), ("strconv.ErrSyntax", laid_strconv_ErrSyntax), ("changeforge/revset.words", laid_changeforge_revset_words)] }
def TopHeadsTwiceSaid : Prop := topHeadsTwiceRow.holds Tryd.pinned (OpenSpec.ofChange topHeadsTwiceSpec)

/-- ITS FALSE NEIGHBOUR: 'it returns false'. Refute it at one input. -/
def topHeadsTwiceWrong : ChangeSpec := { name := "topHeadsTwice", fn := fun _ => fun
  | [d1, d2, d3, d4] => { results := [.lit (.bool false)], args := [d1, d2, d3, d4] }
  | _ => none }
def TopHeadsTwiceWrongFalsely : Prop := topHeadsTwiceRow.holds Tryd.pinned (OpenSpec.ofChange topHeadsTwiceWrong)

/-- 'changeforgetop.TopTimesParted': WHATEVER THE INPUT: true; the input reads as it did. -/
def topTimesPartedSpec : ChangeSpec := { name := "topTimesParted", fn := fun _ => fun
  | [d1, d2, d3, d4, d5] => { results := [.lit (.bool true)], args := [d1, d2, d3, d4, d5] }
  | _ => none }
def topTimesPartedRow : OpenClaim := { program := "ytijaoedlhmdpnaadoor", sum := "4071714808ea7eb91b9f612300583d4d273aa182d025ea70e1e394a70a977689", func := "changeforge/changeforgetop.TopTimesParted", spec := "topTimesParted", inPlace := ["internal/bytealg.IndexByteString", "internal/bytealg.IndexString"], unfollowed := true, recurses := true, named := ["changeforge/revset.words", "internal/strconv.uint64pow10", "math/bits.deBruijn32tab", "math/bits.deBruijn64tab", "internal/bytealg.MaxLen", "strconv.ErrSyntax", "strconv.ErrRange"], apart := false, laid := [("math/bits.deBruijn32tab", laid_math_bits_deBruijn32tab), ("math/bits.deBruijn64tab", laid_math_bits_deBruijn64tab), ("internal/strconv.uint64pow10", laid_internal_strconv_uint64pow10), ("strconv.ErrRange", laid_strconv_ErrRange), ("strconv.ErrSyntax", laid_strconv_ErrSyntax), ("changeforge/revset.words", laid_changeforge_revset_words)] }
def TopTimesPartedSaid : Prop := topTimesPartedRow.holds Tryd.pinned (OpenSpec.ofChange topTimesPartedSpec)

/-- ITS FALSE NEIGHBOUR: 'it returns false'. Refute it at one input. -/
def topTimesPartedWrong : ChangeSpec := { name := "topTimesParted", fn := fun _ => fun
  | [d1, d2, d3, d4, d5] => { results := [.lit (.bool false)], args := [d1, d2, d3, d4, d5] }
  | _ => none }
def TopTimesPartedWrongFalsely : Prop := topTimesPartedRow.holds Tryd.pinned (OpenSpec.ofChange topTimesPartedWrong)

/-- 'changeforgetop.TopOthersApart': WHATEVER THE INPUT: true; the input reads as it did. -/
def topOthersApartSpec : ChangeSpec := { name := "topOthersApart", fn := fun _ => fun
  | [d1, d2, d3, d4] => { results := [.lit (.bool true)], args := [d1, d2, d3, d4] }
  | _ => none }
def topOthersApartRow : OpenClaim := { program := "ytijaoedlhmdpnaadoor", sum := "4071714808ea7eb91b9f612300583d4d273aa182d025ea70e1e394a70a977689", func := "changeforge/changeforgetop.TopOthersApart", spec := "topOthersApart", inPlace := ["internal/bytealg.IndexByteString", "internal/bytealg.IndexString"], unfollowed := true, recurses := true, named := ["changeforge/revset.words", "internal/strconv.uint64pow10", "math/bits.deBruijn32tab", "math/bits.deBruijn64tab", "internal/bytealg.MaxLen", "strconv.ErrSyntax", "strconv.ErrRange"], apart := false, laid := [("math/bits.deBruijn32tab", laid_math_bits_deBruijn32tab), ("math/bits.deBruijn64tab", laid_math_bits_deBruijn64tab), ("internal/strconv.uint64pow10", laid_internal_strconv_uint64pow10), ("strconv.ErrRange", laid_strconv_ErrRange), ("strconv.ErrSyntax", laid_strconv_ErrSyntax), ("changeforge/revset.words", laid_changeforge_revset_words)] }
def TopOthersApartSaid : Prop := topOthersApartRow.holds Tryd.pinned (OpenSpec.ofChange topOthersApartSpec)

/-- ITS FALSE NEIGHBOUR: 'it returns false'. Refute it at one input. -/
def topOthersApartWrong : ChangeSpec := { name := "topOthersApart", fn := fun _ => fun
  | [d1, d2, d3, d4] => { results := [.lit (.bool false)], args := [d1, d2, d3, d4] }
  | _ => none }
def TopOthersApartWrongFalsely : Prop := topOthersApartRow.holds Tryd.pinned (OpenSpec.ofChange topOthersApartWrong)

/- THE SECOND FORM. 'bulk': how many values and letters a reading holds, each counted each time it is reached (what is shared counts as often as it is met; a slice's spare places count too). A statement '..UptoSaid' is the law's where the arguments, and the package variables that the reading takes, are together of bulk at most 1048576: NARROWER than '..Said'. Prove '..Said' where nothing that the law and all that it calls make is longer than what came in: it says more and counts as full. Else prove '..UptoSaid'. A law counts once. -/
mutual
def uptoBulk {H : Type} : DataW H → Nat
  | .lit (.string bytes) => bytes.length + 1
  | .lit _ => 1
  | .nil => 1
  | .ptr d => uptoBulk d + 1
  | .slice elems spare => uptoBulkAll elems + uptoBulkAll spare + 1
  | .agg parts => uptoBulkAll parts + 1
  | .iface _ d => uptoBulk d + 1
  | .map entries => uptoBulkEntries entries + 1
  | .held _ => 1
def uptoBulkAll {H : Type} : List (DataW H) → Nat
  | [] => 0
  | d :: r => uptoBulk d + uptoBulkAll r
def uptoBulkEntries {H : Type} : List (Lit × DataW H) → Nat
  | [] => 0
  | x :: r => uptoBulkEntry x + uptoBulkEntries r
def uptoBulkEntry {H : Type} : Lit × DataW H → Nat
  | (.string bytes, d) => bytes.length + uptoBulk d + 1
  | (_, d) => uptoBulk d + 1
 end
def uptoSmall : (H : Type) → List (DataW H) → Bool := fun _ ds => decide (uptoBulkAll ds ≤ 1048576)
def OpenSpec.upto (s : _root_.Go.ChangeSpec) : _root_.Go.OpenSpec := { _root_.Go.OpenSpec.ofChange s with cond := some uptoSmall }

/-- 'changeforgetop.TopQueriesKept', WHERE WHAT IT READS IS OF BULK AT MOST 1048576: true; the input reads as it did. -/
def topQueriesKeptUptoRow : OpenClaim := { program := "ytijaoedlhmdpnaadoor", sum := "4071714808ea7eb91b9f612300583d4d273aa182d025ea70e1e394a70a977689", func := "changeforge/changeforgetop.TopQueriesKept", spec := "topQueriesKept", inPlace := ["internal/bytealg.IndexByteString", "internal/bytealg.IndexString"], unfollowed := true, recurses := true, named := ["changeforge/revset.words", "internal/strconv.uint64pow10", "math/bits.deBruijn32tab", "math/bits.deBruijn64tab", "internal/bytealg.MaxLen", "strconv.ErrSyntax", "strconv.ErrRange"], apart := false, laid := [("math/bits.deBruijn32tab", laid_math_bits_deBruijn32tab), ("math/bits.deBruijn64tab", laid_math_bits_deBruijn64tab), ("internal/strconv.uint64pow10", laid_internal_strconv_uint64pow10), ("strconv.ErrRange", laid_strconv_ErrRange), ("strconv.ErrSyntax", laid_strconv_ErrSyntax), ("changeforge/revset.words", laid_changeforge_revset_words)], narrowed := true }
def TopQueriesKeptUptoSaid : Prop := topQueriesKeptUptoRow.holds Tryd.pinned (OpenSpec.upto topQueriesKeptSpec)

/-- 'changeforgetop.TopQueriesDenied', WHERE WHAT IT READS IS OF BULK AT MOST 1048576: true; the input reads as it did. -/
def topQueriesDeniedUptoRow : OpenClaim := { program := "ytijaoedlhmdpnaadoor", sum := "4071714808ea7eb91b9f612300583d4d273aa182d025ea70e1e394a70a977689", func := "changeforge/changeforgetop.TopQueriesDenied", spec := "topQueriesDenied", inPlace := ["internal/bytealg.IndexByteString", "internal/bytealg.IndexString"], unfollowed := true, recurses := true, named := ["changeforge/revset.words", "internal/strconv.uint64pow10", "math/bits.deBruijn32tab", "math/bits.deBruijn64tab", "internal/bytealg.MaxLen", "strconv.ErrSyntax", "strconv.ErrRange"], apart := false, laid := [("math/bits.deBruijn32tab", laid_math_bits_deBruijn32tab), ("math/bits.deBruijn64tab", laid_math_bits_deBruijn64tab), ("internal/strconv.uint64pow10", laid_internal_strconv_uint64pow10), ("strconv.ErrRange", laid_strconv_ErrRange), ("strconv.ErrSyntax", laid_strconv_ErrSyntax), ("changeforge/revset.words", laid_changeforge_revset_words)], narrowed := true }
def TopQueriesDeniedUptoSaid : Prop := topQueriesDeniedUptoRow.holds Tryd.pinned (OpenSpec.upto topQueriesDeniedSpec)

/-- 'changeforgetop.TopQueriesTurned', WHERE WHAT IT READS IS OF BULK AT MOST 1048576: true; the input reads as it did. -/
def topQueriesTurnedUptoRow : OpenClaim := { program := "ytijaoedlhmdpnaadoor", sum := "4071714808ea7eb91b9f612300583d4d273aa182d025ea70e1e394a70a977689", func := "changeforge/changeforgetop.TopQueriesTurned", spec := "topQueriesTurned", inPlace := ["internal/bytealg.IndexByteString", "internal/bytealg.IndexString"], unfollowed := true, recurses := true, named := ["changeforge/revset.words", "internal/strconv.uint64pow10", "math/bits.deBruijn32tab", "math/bits.deBruijn64tab", "internal/bytealg.MaxLen", "strconv.ErrSyntax", "strconv.ErrRange"], apart := false, laid := [("math/bits.deBruijn32tab", laid_math_bits_deBruijn32tab), ("math/bits.deBruijn64tab", laid_math_bits_deBruijn64tab), ("internal/strconv.uint64pow10", laid_internal_strconv_uint64pow10), ("strconv.ErrRange", laid_strconv_ErrRange), ("strconv.ErrSyntax", laid_strconv_ErrSyntax), ("changeforge/revset.words", laid_changeforge_revset_words)], narrowed := true }
def TopQueriesTurnedUptoSaid : Prop := topQueriesTurnedUptoRow.holds Tryd.pinned (OpenSpec.upto topQueriesTurnedSpec)

/-- 'changeforgetop.TopQueriesAbsorbed', WHERE WHAT IT READS IS OF BULK AT MOST 1048576: true; the input reads as it did. -/
def topQueriesAbsorbedUptoRow : OpenClaim := { program := "ytijaoedlhmdpnaadoor", sum := "4071714808ea7eb91b9f612300583d4d273aa182d025ea70e1e394a70a977689", func := "changeforge/changeforgetop.TopQueriesAbsorbed", spec := "topQueriesAbsorbed", inPlace := ["internal/bytealg.IndexByteString", "internal/bytealg.IndexString"], unfollowed := true, recurses := true, named := ["changeforge/revset.words", "internal/strconv.uint64pow10", "math/bits.deBruijn32tab", "math/bits.deBruijn64tab", "internal/bytealg.MaxLen", "strconv.ErrSyntax", "strconv.ErrRange"], apart := false, laid := [("math/bits.deBruijn32tab", laid_math_bits_deBruijn32tab), ("math/bits.deBruijn64tab", laid_math_bits_deBruijn64tab), ("internal/strconv.uint64pow10", laid_internal_strconv_uint64pow10), ("strconv.ErrRange", laid_strconv_ErrRange), ("strconv.ErrSyntax", laid_strconv_ErrSyntax), ("changeforge/revset.words", laid_changeforge_revset_words)], narrowed := true }
def TopQueriesAbsorbedUptoSaid : Prop := topQueriesAbsorbedUptoRow.holds Tryd.pinned (OpenSpec.upto topQueriesAbsorbedSpec)

/-- 'changeforgetop.TopQueriesDistributed', WHERE WHAT IT READS IS OF BULK AT MOST 1048576: true; the input reads as it did. -/
def topQueriesDistributedUptoRow : OpenClaim := { program := "ytijaoedlhmdpnaadoor", sum := "4071714808ea7eb91b9f612300583d4d273aa182d025ea70e1e394a70a977689", func := "changeforge/changeforgetop.TopQueriesDistributed", spec := "topQueriesDistributed", inPlace := ["internal/bytealg.IndexByteString", "internal/bytealg.IndexString"], unfollowed := true, recurses := true, named := ["changeforge/revset.words", "internal/strconv.uint64pow10", "math/bits.deBruijn32tab", "math/bits.deBruijn64tab", "internal/bytealg.MaxLen", "strconv.ErrSyntax", "strconv.ErrRange"], apart := false, laid := [("math/bits.deBruijn32tab", laid_math_bits_deBruijn32tab), ("math/bits.deBruijn64tab", laid_math_bits_deBruijn64tab), ("internal/strconv.uint64pow10", laid_internal_strconv_uint64pow10), ("strconv.ErrRange", laid_strconv_ErrRange), ("strconv.ErrSyntax", laid_strconv_ErrSyntax), ("changeforge/revset.words", laid_changeforge_revset_words)], narrowed := true }
def TopQueriesDistributedUptoSaid : Prop := topQueriesDistributedUptoRow.holds Tryd.pinned (OpenSpec.upto topQueriesDistributedSpec)

/-- 'changeforgetop.TopRelativesOfBoth', WHERE WHAT IT READS IS OF BULK AT MOST 1048576: true; the input reads as it did. -/
def topRelativesOfBothUptoRow : OpenClaim := { program := "ytijaoedlhmdpnaadoor", sum := "4071714808ea7eb91b9f612300583d4d273aa182d025ea70e1e394a70a977689", func := "changeforge/changeforgetop.TopRelativesOfBoth", spec := "topRelativesOfBoth", inPlace := ["internal/bytealg.IndexByteString", "internal/bytealg.IndexString"], unfollowed := true, recurses := true, named := ["changeforge/revset.words", "internal/strconv.uint64pow10", "math/bits.deBruijn32tab", "math/bits.deBruijn64tab", "internal/bytealg.MaxLen", "strconv.ErrSyntax", "strconv.ErrRange"], apart := false, laid := [("math/bits.deBruijn32tab", laid_math_bits_deBruijn32tab), ("math/bits.deBruijn64tab", laid_math_bits_deBruijn64tab), ("internal/strconv.uint64pow10", laid_internal_strconv_uint64pow10), ("strconv.ErrRange", laid_strconv_ErrRange), ("strconv.ErrSyntax", laid_strconv_ErrSyntax), ("changeforge/revset.words", laid_changeforge_revset_words)], narrowed := true }
def TopRelativesOfBothUptoSaid : Prop := topRelativesOfBothUptoRow.holds Tryd.pinned (OpenSpec.upto topRelativesOfBothSpec)

/-- 'changeforgetop.TopAncestorsUnrolled', WHERE WHAT IT READS IS OF BULK AT MOST 1048576: true; the input reads as it did. -/
def topAncestorsUnrolledUptoRow : OpenClaim := { program := "ytijaoedlhmdpnaadoor", sum := "4071714808ea7eb91b9f612300583d4d273aa182d025ea70e1e394a70a977689", func := "changeforge/changeforgetop.TopAncestorsUnrolled", spec := "topAncestorsUnrolled", inPlace := ["internal/bytealg.IndexByteString", "internal/bytealg.IndexString"], unfollowed := true, recurses := true, named := ["changeforge/revset.words", "internal/strconv.uint64pow10", "math/bits.deBruijn32tab", "math/bits.deBruijn64tab", "internal/bytealg.MaxLen", "strconv.ErrSyntax", "strconv.ErrRange"], apart := false, laid := [("math/bits.deBruijn32tab", laid_math_bits_deBruijn32tab), ("math/bits.deBruijn64tab", laid_math_bits_deBruijn64tab), ("internal/strconv.uint64pow10", laid_internal_strconv_uint64pow10), ("strconv.ErrRange", laid_strconv_ErrRange), ("strconv.ErrSyntax", laid_strconv_ErrSyntax), ("changeforge/revset.words", laid_changeforge_revset_words)], narrowed := true }
def TopAncestorsUnrolledUptoSaid : Prop := topAncestorsUnrolledUptoRow.holds Tryd.pinned (OpenSpec.upto topAncestorsUnrolledSpec)

/-- 'changeforgetop.TopAncestorsTwice', WHERE WHAT IT READS IS OF BULK AT MOST 1048576: true; the input reads as it did. -/
def topAncestorsTwiceUptoRow : OpenClaim := { program := "ytijaoedlhmdpnaadoor", sum := "4071714808ea7eb91b9f612300583d4d273aa182d025ea70e1e394a70a977689", func := "changeforge/changeforgetop.TopAncestorsTwice", spec := "topAncestorsTwice", inPlace := ["internal/bytealg.IndexByteString", "internal/bytealg.IndexString"], unfollowed := true, recurses := true, named := ["changeforge/revset.words", "internal/strconv.uint64pow10", "math/bits.deBruijn32tab", "math/bits.deBruijn64tab", "internal/bytealg.MaxLen", "strconv.ErrSyntax", "strconv.ErrRange"], apart := false, laid := [("math/bits.deBruijn32tab", laid_math_bits_deBruijn32tab), ("math/bits.deBruijn64tab", laid_math_bits_deBruijn64tab), ("internal/strconv.uint64pow10", laid_internal_strconv_uint64pow10), ("strconv.ErrRange", laid_strconv_ErrRange), ("strconv.ErrSyntax", laid_strconv_ErrSyntax), ("changeforge/revset.words", laid_changeforge_revset_words)], narrowed := true }
def TopAncestorsTwiceUptoSaid : Prop := topAncestorsTwiceUptoRow.holds Tryd.pinned (OpenSpec.upto topAncestorsTwiceSpec)

/-- 'changeforgetop.TopHeadsWritten', WHERE WHAT IT READS IS OF BULK AT MOST 1048576: true; the input reads as it did. -/
def topHeadsWrittenUptoRow : OpenClaim := { program := "ytijaoedlhmdpnaadoor", sum := "4071714808ea7eb91b9f612300583d4d273aa182d025ea70e1e394a70a977689", func := "changeforge/changeforgetop.TopHeadsWritten", spec := "topHeadsWritten", inPlace := ["internal/bytealg.IndexByteString", "internal/bytealg.IndexString"], unfollowed := true, recurses := true, named := ["changeforge/revset.words", "internal/strconv.uint64pow10", "math/bits.deBruijn32tab", "math/bits.deBruijn64tab", "internal/bytealg.MaxLen", "strconv.ErrSyntax", "strconv.ErrRange"], apart := false, laid := [("math/bits.deBruijn32tab", laid_math_bits_deBruijn32tab), ("math/bits.deBruijn64tab", laid_math_bits_deBruijn64tab), ("internal/strconv.uint64pow10", laid_internal_strconv_uint64pow10), ("strconv.ErrRange", laid_strconv_ErrRange), ("strconv.ErrSyntax", laid_strconv_ErrSyntax), ("changeforge/revset.words", laid_changeforge_revset_words)], narrowed := true }
def TopHeadsWrittenUptoSaid : Prop := topHeadsWrittenUptoRow.holds Tryd.pinned (OpenSpec.upto topHeadsWrittenSpec)

/-- 'changeforgetop.TopHeadsTwice', WHERE WHAT IT READS IS OF BULK AT MOST 1048576: true; the input reads as it did. -/
def topHeadsTwiceUptoRow : OpenClaim := { program := "ytijaoedlhmdpnaadoor", sum := "4071714808ea7eb91b9f612300583d4d273aa182d025ea70e1e394a70a977689", func := "changeforge/changeforgetop.TopHeadsTwice", spec := "topHeadsTwice", inPlace := ["internal/bytealg.IndexByteString", "internal/bytealg.IndexString"], unfollowed := true, recurses := true, named := ["changeforge/revset.words", "internal/strconv.uint64pow10", "math/bits.deBruijn32tab", "math/bits.deBruijn64tab", "internal/bytealg.MaxLen", "strconv.ErrSyntax", "strconv.ErrRange"], apart := false, laid := [("math/bits.deBruijn32tab", laid_math_bits_deBruijn32tab), ("math/bits.deBruijn64tab", laid_math_bits_deBruijn64tab), ("internal/strconv.uint64pow10", laid_internal_strconv_uint64pow10), ("strconv.ErrRange", laid_strconv_ErrRange), ("strconv.ErrSyntax", laid_strconv_ErrSyntax), ("changeforge/revset.words", laid_changeforge_revset_words)], narrowed := true }
def TopHeadsTwiceUptoSaid : Prop := topHeadsTwiceUptoRow.holds Tryd.pinned (OpenSpec.upto topHeadsTwiceSpec)

/-- 'changeforgetop.TopTimesParted', WHERE WHAT IT READS IS OF BULK AT MOST 1048576: true; the input reads as it did. -/
def topTimesPartedUptoRow : OpenClaim := { program := "ytijaoedlhmdpnaadoor", sum := "4071714808ea7eb91b9f612300583d4d273aa182d025ea70e1e394a70a977689", func := "changeforge/changeforgetop.TopTimesParted", spec := "topTimesParted", inPlace := ["internal/bytealg.IndexByteString", "internal/bytealg.IndexString"], unfollowed := true, recurses := true, named := ["changeforge/revset.words", "internal/strconv.uint64pow10", "math/bits.deBruijn32tab", "math/bits.deBruijn64tab", "internal/bytealg.MaxLen", "strconv.ErrSyntax", "strconv.ErrRange"], apart := false, laid := [("math/bits.deBruijn32tab", laid_math_bits_deBruijn32tab), ("math/bits.deBruijn64tab", laid_math_bits_deBruijn64tab), ("internal/strconv.uint64pow10", laid_internal_strconv_uint64pow10), ("strconv.ErrRange", laid_strconv_ErrRange), ("strconv.ErrSyntax", laid_strconv_ErrSyntax), ("changeforge/revset.words", laid_changeforge_revset_words)], narrowed := true }
def TopTimesPartedUptoSaid : Prop := topTimesPartedUptoRow.holds Tryd.pinned (OpenSpec.upto topTimesPartedSpec)

/-- 'changeforgetop.TopOthersApart', WHERE WHAT IT READS IS OF BULK AT MOST 1048576: true; the input reads as it did. -/
def topOthersApartUptoRow : OpenClaim := { program := "ytijaoedlhmdpnaadoor", sum := "4071714808ea7eb91b9f612300583d4d273aa182d025ea70e1e394a70a977689", func := "changeforge/changeforgetop.TopOthersApart", spec := "topOthersApart", inPlace := ["internal/bytealg.IndexByteString", "internal/bytealg.IndexString"], unfollowed := true, recurses := true, named := ["changeforge/revset.words", "internal/strconv.uint64pow10", "math/bits.deBruijn32tab", "math/bits.deBruijn64tab", "internal/bytealg.MaxLen", "strconv.ErrSyntax", "strconv.ErrRange"], apart := false, laid := [("math/bits.deBruijn32tab", laid_math_bits_deBruijn32tab), ("math/bits.deBruijn64tab", laid_math_bits_deBruijn64tab), ("internal/strconv.uint64pow10", laid_internal_strconv_uint64pow10), ("strconv.ErrRange", laid_strconv_ErrRange), ("strconv.ErrSyntax", laid_strconv_ErrSyntax), ("changeforge/revset.words", laid_changeforge_revset_words)], narrowed := true }
def TopOthersApartUptoSaid : Prop := topOthersApartUptoRow.holds Tryd.pinned (OpenSpec.upto topOthersApartSpec)

end Rows
end Go.Proofs.YtijaoedlhmdpnaaDoor
