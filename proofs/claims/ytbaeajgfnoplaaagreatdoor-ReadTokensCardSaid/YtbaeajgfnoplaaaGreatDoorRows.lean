/-
  NARROWER THAN 'FOR EVERY INPUT', by the rows' own cells (each row's printed sentence says how): ReadTokens: laid · ReadTerms: loops, laid · ReadTypes: loops, laid · ReadStops: laid · ReadBrackets: loops, laid · ReadOnce: loops, laid · ReadWords: laid · ReadParses: laid · ReadPrefix: laid · ReadSpaces: laid · ReadModules: loops, laid.
  DERIVED. THE GIVEN ROWS OF THIS SEAT. 11 by the template 'for every input the law returns true; each argument reads behind the call as it read before'; 0 by the template 'total and deterministic' (their statements: YtbaeajgfnoplaaaGreatDoorTotals.lean).
  GIVEN WITH THE SEED: the statements are not yours to turn. If you find one false, say at which input.
  Laid BY PROGRAM, IN A SANDBOX (cutbox-rows.mjs): the forced cells as the released guide's own fill.sh prints them over the translation dbe650563cfc9247… (all of the seat's roots in one cut). By AI agents, Wed Nov 11 2026. No macro, syntax, notation, axiom, sorry.
-/
import Derived.Test.YtbaeajgfnoplaaaGreatDoorChecked
import GoSem.Claim
import GoSem.ClaimJoined
import GoSem.ClaimMapViews
import Derived.JoinedTies
import Derived.KernelRfl
namespace Go.Proofs.YtbaeajgfnoplaaaGreatDoor
/- THE CELL 'sum', in the pinned program and in every row, IS THE sha256 OF THE DUMP (.gsa) THAT YtbaeajgfnoplaaaGreatDoorProg.lean LOADS. Nothing in Lean hashes anything: it is a label: what it is worth is what the hold of that sum in a sandbox is worth. -/
noncomputable def Tryz.pinned : Pinned := { name := "ytbaeajgfnoplaaagreatdoor", sum := "dbe650563cfc92478555645109f4d393fcdd624e26221c8974b614926e2238ba", checked := Tryz.checked }
namespace Rows
def none {H : Type} : Left H := { results := [], args := [] }

/- WHAT THE LISTED PACKAGE-LEVEL VARIABLES READ AS WHEN THE CALL BEGINS. Each datum BY PROGRAM (the guide's laid-datum.mjs) off the statement by which the dump's own 'gosem.cut.vars' lays the variable. In a bare row this is a premise. The card (YtbaeajgfnoplaaaGreatDoorCards.lean) ties it to the program's text. -/
def laid_math_bits_deBruijn32tab {H : Type} : DataW H := .agg [.lit (.int .u8 0), .lit (.int .u8 1), .lit (.int .u8 28), .lit (.int .u8 2), .lit (.int .u8 29), .lit (.int .u8 14), .lit (.int .u8 24), .lit (.int .u8 3), .lit (.int .u8 30), .lit (.int .u8 22), .lit (.int .u8 20), .lit (.int .u8 15), .lit (.int .u8 25), .lit (.int .u8 17), .lit (.int .u8 4), .lit (.int .u8 8), .lit (.int .u8 31), .lit (.int .u8 27), .lit (.int .u8 13), .lit (.int .u8 23), .lit (.int .u8 21), .lit (.int .u8 19), .lit (.int .u8 16), .lit (.int .u8 7), .lit (.int .u8 26), .lit (.int .u8 12), .lit (.int .u8 18), .lit (.int .u8 6), .lit (.int .u8 11), .lit (.int .u8 5), .lit (.int .u8 10), .lit (.int .u8 9)]
def laid_math_bits_deBruijn64tab {H : Type} : DataW H := .agg [.lit (.int .u8 0), .lit (.int .u8 1), .lit (.int .u8 56), .lit (.int .u8 2), .lit (.int .u8 57), .lit (.int .u8 49), .lit (.int .u8 28), .lit (.int .u8 3), .lit (.int .u8 61), .lit (.int .u8 58), .lit (.int .u8 42), .lit (.int .u8 50), .lit (.int .u8 38), .lit (.int .u8 29), .lit (.int .u8 17), .lit (.int .u8 4), .lit (.int .u8 62), .lit (.int .u8 47), .lit (.int .u8 59), .lit (.int .u8 36), .lit (.int .u8 45), .lit (.int .u8 43), .lit (.int .u8 51), .lit (.int .u8 22), .lit (.int .u8 53), .lit (.int .u8 39), .lit (.int .u8 33), .lit (.int .u8 30), .lit (.int .u8 24), .lit (.int .u8 18), .lit (.int .u8 12), .lit (.int .u8 5), .lit (.int .u8 63), .lit (.int .u8 55), .lit (.int .u8 48), .lit (.int .u8 27), .lit (.int .u8 60), .lit (.int .u8 41), .lit (.int .u8 37), .lit (.int .u8 16), .lit (.int .u8 46), .lit (.int .u8 35), .lit (.int .u8 44), .lit (.int .u8 21), .lit (.int .u8 52), .lit (.int .u8 32), .lit (.int .u8 23), .lit (.int .u8 11), .lit (.int .u8 54), .lit (.int .u8 26), .lit (.int .u8 40), .lit (.int .u8 15), .lit (.int .u8 34), .lit (.int .u8 20), .lit (.int .u8 31), .lit (.int .u8 10), .lit (.int .u8 25), .lit (.int .u8 14), .lit (.int .u8 19), .lit (.int .u8 9), .lit (.int .u8 13), .lit (.int .u8 8), .lit (.int .u8 7), .lit (.int .u8 6)]
def laid_internal_strconv_uint64pow10 {H : Type} : DataW H := .agg [.lit (.int .u64 1), .lit (.int .u64 10), .lit (.int .u64 100), .lit (.int .u64 1000), .lit (.int .u64 10000), .lit (.int .u64 100000), .lit (.int .u64 1000000), .lit (.int .u64 10000000), .lit (.int .u64 100000000), .lit (.int .u64 1000000000), .lit (.int .u64 10000000000), .lit (.int .u64 100000000000), .lit (.int .u64 1000000000000), .lit (.int .u64 10000000000000), .lit (.int .u64 100000000000000), .lit (.int .u64 1000000000000000), .lit (.int .u64 10000000000000000), .lit (.int .u64 100000000000000000), .lit (.int .u64 1000000000000000000), .lit (.int .u64 10000000000000000000)]

/-- 'hearthlaw02.ReadTokens': WHATEVER THE INPUT: true; the input reads as it did. -/
def readTokensSpec : ChangeSpec := { name := "readTokens", fn := fun _ => fun
  | [d] => { results := [.lit (.bool true)], args := [d] }
  | _ => none }
def readTokensRow : OpenClaim := { program := "ytbaeajgfnoplaaagreatdoor", sum := "dbe650563cfc92478555645109f4d393fcdd624e26221c8974b614926e2238ba", func := "hearth/hearthlaw02.ReadTokens", spec := "readTokens", inPlace := ["internal/abi.NoEscape", "internal/bytealg.MakeNoZero", "internal/bytealg.CountString", "internal/bytealg.IndexByteString", "internal/bytealg.IndexString"], unfollowed := true, recurses := true, named := ["internal/strconv.uint64pow10", "math/bits.deBruijn32tab", "math/bits.deBruijn64tab", "internal/bytealg.MaxLen"], apart := false, laid := [("math/bits.deBruijn32tab", laid_math_bits_deBruijn32tab), ("math/bits.deBruijn64tab", laid_math_bits_deBruijn64tab), ("internal/strconv.uint64pow10", laid_internal_strconv_uint64pow10)] }
def ReadTokensSaid : Prop := readTokensRow.holds Tryz.pinned (OpenSpec.ofChange readTokensSpec)

/-- ITS FALSE NEIGHBOUR: 'it returns false'. Refute it at one input. -/
def readTokensWrong : ChangeSpec := { name := "readTokens", fn := fun _ => fun
  | [d] => { results := [.lit (.bool false)], args := [d] }
  | _ => none }
def ReadTokensWrongFalsely : Prop := readTokensRow.holds Tryz.pinned (OpenSpec.ofChange readTokensWrong)

/-- 'hearthlaw02.ReadTerms': WHATEVER THE INPUT: true; the input reads as it did. -/
def readTermsSpec : ChangeSpec := { name := "readTerms", fn := fun _ => fun
  | [d] => { results := [.lit (.bool true)], args := [d] }
  | _ => none }
def readTermsRow : OpenClaim := { program := "ytbaeajgfnoplaaagreatdoor", sum := "dbe650563cfc92478555645109f4d393fcdd624e26221c8974b614926e2238ba", func := "hearth/hearthlaw02.ReadTerms", spec := "readTerms", inPlace := ["internal/abi.NoEscape", "internal/bytealg.MakeNoZero", "internal/bytealg.CountString", "internal/bytealg.IndexByteString", "internal/bytealg.IndexString"], unfollowed := true, recurses := true, named := ["internal/strconv.uint64pow10", "math/bits.deBruijn32tab", "math/bits.deBruijn64tab", "internal/bytealg.MaxLen"], loops := true, apart := false, laid := [("math/bits.deBruijn32tab", laid_math_bits_deBruijn32tab), ("math/bits.deBruijn64tab", laid_math_bits_deBruijn64tab), ("internal/strconv.uint64pow10", laid_internal_strconv_uint64pow10)] }
def ReadTermsSaid : Prop := readTermsRow.holds Tryz.pinned (OpenSpec.ofChange readTermsSpec)

/-- ITS FALSE NEIGHBOUR: 'it returns false'. Refute it at one input. -/
def readTermsWrong : ChangeSpec := { name := "readTerms", fn := fun _ => fun
  | [d] => { results := [.lit (.bool false)], args := [d] }
  | _ => none }
def ReadTermsWrongFalsely : Prop := readTermsRow.holds Tryz.pinned (OpenSpec.ofChange readTermsWrong)

/-- 'hearthlaw02.ReadTypes': WHATEVER THE INPUT: true; the input reads as it did. -/
def readTypesSpec : ChangeSpec := { name := "readTypes", fn := fun _ => fun
  | [d] => { results := [.lit (.bool true)], args := [d] }
  | _ => none }
def readTypesRow : OpenClaim := { program := "ytbaeajgfnoplaaagreatdoor", sum := "dbe650563cfc92478555645109f4d393fcdd624e26221c8974b614926e2238ba", func := "hearth/hearthlaw02.ReadTypes", spec := "readTypes", inPlace := ["internal/abi.NoEscape", "internal/bytealg.MakeNoZero", "internal/bytealg.CountString", "internal/bytealg.IndexByteString", "internal/bytealg.IndexString"], unfollowed := true, recurses := true, named := ["internal/strconv.uint64pow10", "math/bits.deBruijn32tab", "math/bits.deBruijn64tab", "internal/bytealg.MaxLen"], loops := true, apart := false, laid := [("math/bits.deBruijn32tab", laid_math_bits_deBruijn32tab), ("math/bits.deBruijn64tab", laid_math_bits_deBruijn64tab), ("internal/strconv.uint64pow10", laid_internal_strconv_uint64pow10)] }
def ReadTypesSaid : Prop := readTypesRow.holds Tryz.pinned (OpenSpec.ofChange readTypesSpec)

/-- ITS FALSE NEIGHBOUR: 'it returns false'. Refute it at one input. -/
def readTypesWrong : ChangeSpec := { name := "readTypes", fn := fun _ => fun
  | [d] => { results := [.lit (.bool false)], args := [d] }
  | _ => none }
def ReadTypesWrongFalsely : Prop := readTypesRow.holds Tryz.pinned (OpenSpec.ofChange readTypesWrong)

/-- 'hearthlaw02.ReadStops': WHATEVER THE INPUT: true; the input reads as it did. -/
def readStopsSpec : ChangeSpec := { name := "readStops", fn := fun _ => fun
  | [d] => { results := [.lit (.bool true)], args := [d] }
  | _ => none }
def readStopsRow : OpenClaim := { program := "ytbaeajgfnoplaaagreatdoor", sum := "dbe650563cfc92478555645109f4d393fcdd624e26221c8974b614926e2238ba", func := "hearth/hearthlaw02.ReadStops", spec := "readStops", inPlace := ["internal/abi.NoEscape", "internal/bytealg.MakeNoZero", "internal/bytealg.CountString", "internal/bytealg.IndexByteString", "internal/bytealg.IndexString"], unfollowed := true, recurses := true, named := ["internal/strconv.uint64pow10", "math/bits.deBruijn32tab", "math/bits.deBruijn64tab", "internal/bytealg.MaxLen"], apart := false, laid := [("math/bits.deBruijn32tab", laid_math_bits_deBruijn32tab), ("math/bits.deBruijn64tab", laid_math_bits_deBruijn64tab), ("internal/strconv.uint64pow10", laid_internal_strconv_uint64pow10)] }
def ReadStopsSaid : Prop := readStopsRow.holds Tryz.pinned (OpenSpec.ofChange readStopsSpec)

/-- ITS FALSE NEIGHBOUR: 'it returns false'. Refute it at one input. -/
def readStopsWrong : ChangeSpec := { name := "readStops", fn := fun _ => fun
  | [d] => { results := [.lit (.bool false)], args := [d] }
  | _ => none }
def ReadStopsWrongFalsely : Prop := readStopsRow.holds Tryz.pinned (OpenSpec.ofChange readStopsWrong)

/-- 'hearthlaw02.ReadBrackets': WHATEVER THE INPUT: true; the input reads as it did. -/
def readBracketsSpec : ChangeSpec := { name := "readBrackets", fn := fun _ => fun
  | [d1, d2, d3] => { results := [.lit (.bool true)], args := [d1, d2, d3] }
  | _ => none }
def readBracketsRow : OpenClaim := { program := "ytbaeajgfnoplaaagreatdoor", sum := "dbe650563cfc92478555645109f4d393fcdd624e26221c8974b614926e2238ba", func := "hearth/hearthlaw02.ReadBrackets", spec := "readBrackets", inPlace := ["internal/abi.NoEscape", "internal/bytealg.MakeNoZero", "internal/bytealg.CountString", "internal/bytealg.IndexByteString", "internal/bytealg.IndexString"], unfollowed := true, recurses := true, named := ["internal/strconv.uint64pow10", "math/bits.deBruijn32tab", "math/bits.deBruijn64tab", "internal/bytealg.MaxLen"], loops := true, apart := false, laid := [("math/bits.deBruijn32tab", laid_math_bits_deBruijn32tab), ("math/bits.deBruijn64tab", laid_math_bits_deBruijn64tab), ("internal/strconv.uint64pow10", laid_internal_strconv_uint64pow10)] }
def ReadBracketsSaid : Prop := readBracketsRow.holds Tryz.pinned (OpenSpec.ofChange readBracketsSpec)

/-- ITS FALSE NEIGHBOUR: 'it returns false'. Refute it at one input. -/
def readBracketsWrong : ChangeSpec := { name := "readBrackets", fn := fun _ => fun
  | [d1, d2, d3] => { results := [.lit (.bool false)], args := [d1, d2, d3] }
  | _ => none }
def ReadBracketsWrongFalsely : Prop := readBracketsRow.holds Tryz.pinned (OpenSpec.ofChange readBracketsWrong)

/-- 'hearthlaw02.ReadOnce': WHATEVER THE INPUT: true; the input reads as it did. -/
def readOnceSpec : ChangeSpec := { name := "readOnce", fn := fun _ => fun
  | [d1, d2, d3, d4] => { results := [.lit (.bool true)], args := [d1, d2, d3, d4] }
  | _ => none }
def readOnceRow : OpenClaim := { program := "ytbaeajgfnoplaaagreatdoor", sum := "dbe650563cfc92478555645109f4d393fcdd624e26221c8974b614926e2238ba", func := "hearth/hearthlaw02.ReadOnce", spec := "readOnce", inPlace := ["internal/abi.NoEscape", "internal/bytealg.MakeNoZero", "internal/bytealg.CountString", "internal/bytealg.IndexByteString", "internal/bytealg.IndexString"], unfollowed := true, recurses := true, named := ["internal/strconv.uint64pow10", "math/bits.deBruijn32tab", "math/bits.deBruijn64tab", "internal/bytealg.MaxLen"], loops := true, apart := false, laid := [("math/bits.deBruijn32tab", laid_math_bits_deBruijn32tab), ("math/bits.deBruijn64tab", laid_math_bits_deBruijn64tab), ("internal/strconv.uint64pow10", laid_internal_strconv_uint64pow10)] }
def ReadOnceSaid : Prop := readOnceRow.holds Tryz.pinned (OpenSpec.ofChange readOnceSpec)

/-- ITS FALSE NEIGHBOUR: 'it returns false'. Refute it at one input. -/
def readOnceWrong : ChangeSpec := { name := "readOnce", fn := fun _ => fun
  | [d1, d2, d3, d4] => { results := [.lit (.bool false)], args := [d1, d2, d3, d4] }
  | _ => none }
def ReadOnceWrongFalsely : Prop := readOnceRow.holds Tryz.pinned (OpenSpec.ofChange readOnceWrong)

/-- 'hearthlaw02.ReadWords': WHATEVER THE INPUT: true; the input reads as it did. -/
def readWordsSpec : ChangeSpec := { name := "readWords", fn := fun _ => fun
  | [d] => { results := [.lit (.bool true)], args := [d] }
  | _ => none }
def readWordsRow : OpenClaim := { program := "ytbaeajgfnoplaaagreatdoor", sum := "dbe650563cfc92478555645109f4d393fcdd624e26221c8974b614926e2238ba", func := "hearth/hearthlaw02.ReadWords", spec := "readWords", inPlace := ["internal/abi.NoEscape", "internal/bytealg.MakeNoZero", "internal/bytealg.CountString", "internal/bytealg.IndexByteString", "internal/bytealg.IndexString"], unfollowed := true, recurses := true, named := ["internal/strconv.uint64pow10", "math/bits.deBruijn32tab", "math/bits.deBruijn64tab", "internal/bytealg.MaxLen"], apart := false, laid := [("math/bits.deBruijn32tab", laid_math_bits_deBruijn32tab), ("math/bits.deBruijn64tab", laid_math_bits_deBruijn64tab), ("internal/strconv.uint64pow10", laid_internal_strconv_uint64pow10)] }
def ReadWordsSaid : Prop := readWordsRow.holds Tryz.pinned (OpenSpec.ofChange readWordsSpec)

/-- ITS FALSE NEIGHBOUR: 'it returns false'. Refute it at one input. -/
def readWordsWrong : ChangeSpec := { name := "readWords", fn := fun _ => fun
  | [d] => { results := [.lit (.bool false)], args := [d] }
  | _ => none }
def ReadWordsWrongFalsely : Prop := readWordsRow.holds Tryz.pinned (OpenSpec.ofChange readWordsWrong)

/-- 'hearthlaw02.ReadParses': WHATEVER THE INPUT: true; the input reads as it did. -/
def readParsesSpec : ChangeSpec := { name := "readParses", fn := fun _ => fun
  | [d] => { results := [.lit (.bool true)], args := [d] }
  | _ => none }
def readParsesRow : OpenClaim := { program := "ytbaeajgfnoplaaagreatdoor", sum := "dbe650563cfc92478555645109f4d393fcdd624e26221c8974b614926e2238ba", func := "hearth/hearthlaw02.ReadParses", spec := "readParses", inPlace := ["internal/abi.NoEscape", "internal/bytealg.MakeNoZero", "internal/bytealg.CountString", "internal/bytealg.IndexByteString", "internal/bytealg.IndexString"], unfollowed := true, recurses := true, named := ["internal/strconv.uint64pow10", "math/bits.deBruijn32tab", "math/bits.deBruijn64tab", "internal/bytealg.MaxLen"], apart := false, laid := [("math/bits.deBruijn32tab", laid_math_bits_deBruijn32tab), ("math/bits.deBruijn64tab", laid_math_bits_deBruijn64tab), ("internal/strconv.uint64pow10", laid_internal_strconv_uint64pow10)] }
def ReadParsesSaid : Prop := readParsesRow.holds Tryz.pinned (OpenSpec.ofChange readParsesSpec)

/-- ITS FALSE NEIGHBOUR: 'it returns false'. Refute it at one input. -/
def readParsesWrong : ChangeSpec := { name := "readParses", fn := fun _ => fun
  | [d] => { results := [.lit (.bool false)], args := [d] }
  | _ => none }
def ReadParsesWrongFalsely : Prop := readParsesRow.holds Tryz.pinned (OpenSpec.ofChange readParsesWrong)

/-- 'hearthlaw02.ReadPrefix': WHATEVER THE INPUT: true; the input reads as it did. -/
def readPrefixSpec : ChangeSpec := { name := "readPrefix", fn := fun _ => fun
  | [d1, d2] => { results := [.lit (.bool true)], args := [d1, d2] }
  | _ => none }
def readPrefixRow : OpenClaim := { program := "ytbaeajgfnoplaaagreatdoor", sum := "dbe650563cfc92478555645109f4d393fcdd624e26221c8974b614926e2238ba", func := "hearth/hearthlaw02.ReadPrefix", spec := "readPrefix", inPlace := ["internal/abi.NoEscape", "internal/bytealg.MakeNoZero", "internal/bytealg.CountString", "internal/bytealg.IndexByteString", "internal/bytealg.IndexString"], unfollowed := true, recurses := true, named := ["internal/strconv.uint64pow10", "math/bits.deBruijn32tab", "math/bits.deBruijn64tab", "internal/bytealg.MaxLen"], apart := false, laid := [("math/bits.deBruijn32tab", laid_math_bits_deBruijn32tab), ("math/bits.deBruijn64tab", laid_math_bits_deBruijn64tab), ("internal/strconv.uint64pow10", laid_internal_strconv_uint64pow10)] }
def ReadPrefixSaid : Prop := readPrefixRow.holds Tryz.pinned (OpenSpec.ofChange readPrefixSpec)

/-- ITS FALSE NEIGHBOUR: 'it returns false'. Refute it at one input. -/
def readPrefixWrong : ChangeSpec := { name := "readPrefix", fn := fun _ => fun
  | [d1, d2] => { results := [.lit (.bool false)], args := [d1, d2] }
  | _ => none }
def ReadPrefixWrongFalsely : Prop := readPrefixRow.holds Tryz.pinned (OpenSpec.ofChange readPrefixWrong)

/-- 'hearthlaw02.ReadSpaces': WHATEVER THE INPUT: true; the input reads as it did. -/
def readSpacesSpec : ChangeSpec := { name := "readSpaces", fn := fun _ => fun
  | [d1, d2] => { results := [.lit (.bool true)], args := [d1, d2] }
  | _ => none }
def readSpacesRow : OpenClaim := { program := "ytbaeajgfnoplaaagreatdoor", sum := "dbe650563cfc92478555645109f4d393fcdd624e26221c8974b614926e2238ba", func := "hearth/hearthlaw02.ReadSpaces", spec := "readSpaces", inPlace := ["internal/abi.NoEscape", "internal/bytealg.MakeNoZero", "internal/bytealg.CountString", "internal/bytealg.IndexByteString", "internal/bytealg.IndexString"], unfollowed := true, recurses := true, named := ["internal/strconv.uint64pow10", "math/bits.deBruijn32tab", "math/bits.deBruijn64tab", "internal/bytealg.MaxLen"], apart := false, laid := [("math/bits.deBruijn32tab", laid_math_bits_deBruijn32tab), ("math/bits.deBruijn64tab", laid_math_bits_deBruijn64tab), ("internal/strconv.uint64pow10", laid_internal_strconv_uint64pow10)] }
def ReadSpacesSaid : Prop := readSpacesRow.holds Tryz.pinned (OpenSpec.ofChange readSpacesSpec)

/-- ITS FALSE NEIGHBOUR: 'it returns false'. Refute it at one input. -/
def readSpacesWrong : ChangeSpec := { name := "readSpaces", fn := fun _ => fun
  | [d1, d2] => { results := [.lit (.bool false)], args := [d1, d2] }
  | _ => none }
def ReadSpacesWrongFalsely : Prop := readSpacesRow.holds Tryz.pinned (OpenSpec.ofChange readSpacesWrong)

/-- 'hearthlaw02.ReadModules': WHATEVER THE INPUT: true; the input reads as it did. -/
def readModulesSpec : ChangeSpec := { name := "readModules", fn := fun _ => fun
  | [d] => { results := [.lit (.bool true)], args := [d] }
  | _ => none }
def readModulesRow : OpenClaim := { program := "ytbaeajgfnoplaaagreatdoor", sum := "dbe650563cfc92478555645109f4d393fcdd624e26221c8974b614926e2238ba", func := "hearth/hearthlaw02.ReadModules", spec := "readModules", inPlace := ["internal/abi.NoEscape", "internal/bytealg.MakeNoZero", "internal/bytealg.CountString", "internal/bytealg.IndexByteString", "internal/bytealg.IndexString"], unfollowed := true, recurses := true, named := ["internal/strconv.uint64pow10", "math/bits.deBruijn32tab", "math/bits.deBruijn64tab", "internal/bytealg.MaxLen"], loops := true, apart := false, laid := [("math/bits.deBruijn32tab", laid_math_bits_deBruijn32tab), ("math/bits.deBruijn64tab", laid_math_bits_deBruijn64tab), ("internal/strconv.uint64pow10", laid_internal_strconv_uint64pow10)] }
def ReadModulesSaid : Prop := readModulesRow.holds Tryz.pinned (OpenSpec.ofChange readModulesSpec)

/-- ITS FALSE NEIGHBOUR: 'it returns false'. Refute it at one input. -/
def readModulesWrong : ChangeSpec := { name := "readModules", fn := fun _ => fun
  | [d] => { results := [.lit (.bool false)], args := [d] }
  | _ => none }
def ReadModulesWrongFalsely : Prop := readModulesRow.holds Tryz.pinned (OpenSpec.ofChange readModulesWrong)

/- THE SECOND FORM. 'bulk': how many values and letters a reading holds, each counted each time it is reached (what is shared counts as often as it is met; a slice's spare places count too). A statement '..UptoSaid' is the law's where the arguments, and the package variables that the reading takes, are together of bulk at most 1048576: NARROWER than '..Said'. Prove '..Said' where nothing that the law and all that it calls make is longer than what came in: it says more and counts as full. Else prove '..UptoSaid'. A law counts once. -/
mutual
def uptoBulk {H : Type} : DataW H → Nat
  | .lit (.string bytes) => bytes.length + 1
  | .lit _ => 1
  | .nil => 1
  | .ptr d => uptoBulk d + 1
  | .slice elems spare => uptoBulkAll elems + uptoBulkAll spare + 1
  | .agg parts => uptoBulkAll parts + 1
  | .iface _ d => uptoBulk d + 1
  | .map entries => uptoBulkEntries entries + 1
  | .held _ => 1
def uptoBulkAll {H : Type} : List (DataW H) → Nat
  | [] => 0
  | d :: r => uptoBulk d + uptoBulkAll r
def uptoBulkEntries {H : Type} : List (Lit × DataW H) → Nat
  | [] => 0
  | x :: r => uptoBulkEntry x + uptoBulkEntries r
def uptoBulkEntry {H : Type} : Lit × DataW H → Nat
  | (.string bytes, d) => bytes.length + uptoBulk d + 1
  | (_, d) => uptoBulk d + 1
 end
def uptoSmall : (H : Type) → List (DataW H) → Bool := fun _ ds => decide (uptoBulkAll ds ≤ 1048576)
def OpenSpec.upto (s : _root_.Go.ChangeSpec) : _root_.Go.OpenSpec := { _root_.Go.OpenSpec.ofChange s with cond := some uptoSmall }

/-- 'hearthlaw02.ReadTokens', WHERE WHAT IT READS IS OF BULK AT MOST 1048576: true; the input reads as it did. -/
def readTokensUptoRow : OpenClaim := { program := "ytbaeajgfnoplaaagreatdoor", sum := "dbe650563cfc92478555645109f4d393fcdd624e26221c8974b614926e2238ba", func := "hearth/hearthlaw02.ReadTokens", spec := "readTokens", inPlace := ["internal/abi.NoEscape", "internal/bytealg.MakeNoZero", "internal/bytealg.CountString", "internal/bytealg.IndexByteString", "internal/bytealg.IndexString"], unfollowed := true, recurses := true, named := ["internal/strconv.uint64pow10", "math/bits.deBruijn32tab", "math/bits.deBruijn64tab", "internal/bytealg.MaxLen"], apart := false, laid := [("math/bits.deBruijn32tab", laid_math_bits_deBruijn32tab), ("math/bits.deBruijn64tab", laid_math_bits_deBruijn64tab), ("internal/strconv.uint64pow10", laid_internal_strconv_uint64pow10)], narrowed := true }
def ReadTokensUptoSaid : Prop := readTokensUptoRow.holds Tryz.pinned (OpenSpec.upto readTokensSpec)

/-- 'hearthlaw02.ReadTerms', WHERE WHAT IT READS IS OF BULK AT MOST 1048576: true; the input reads as it did. -/
def readTermsUptoRow : OpenClaim := { program := "ytbaeajgfnoplaaagreatdoor", sum := "dbe650563cfc92478555645109f4d393fcdd624e26221c8974b614926e2238ba", func := "hearth/hearthlaw02.ReadTerms", spec := "readTerms", inPlace := ["internal/abi.NoEscape", "internal/bytealg.MakeNoZero", "internal/bytealg.CountString", "internal/bytealg.IndexByteString", "internal/bytealg.IndexString"], unfollowed := true, recurses := true, named := ["internal/strconv.uint64pow10", "math/bits.deBruijn32tab", "math/bits.deBruijn64tab", "internal/bytealg.MaxLen"], loops := true, apart := false, laid := [("math/bits.deBruijn32tab", laid_math_bits_deBruijn32tab), ("math/bits.deBruijn64tab", laid_math_bits_deBruijn64tab), ("internal/strconv.uint64pow10", laid_internal_strconv_uint64pow10)], narrowed := true }
def ReadTermsUptoSaid : Prop := readTermsUptoRow.holds Tryz.pinned (OpenSpec.upto readTermsSpec)

/-- 'hearthlaw02.ReadTypes', WHERE WHAT IT READS IS OF BULK AT MOST 1048576: true; the input reads as it did. -/
def readTypesUptoRow : OpenClaim := { program := "ytbaeajgfnoplaaagreatdoor", sum := "dbe650563cfc92478555645109f4d393fcdd624e26221c8974b614926e2238ba", func := "hearth/hearthlaw02.ReadTypes", spec := "readTypes", inPlace := ["internal/abi.NoEscape", "internal/bytealg.MakeNoZero", "internal/bytealg.CountString", "internal/bytealg.IndexByteString", "internal/bytealg.IndexString"], unfollowed := true, recurses := true, named := ["internal/strconv.uint64pow10", "math/bits.deBruijn32tab", "math/bits.deBruijn64tab", "internal/bytealg.MaxLen"], loops := true, apart := false, laid := [("math/bits.deBruijn32tab", laid_math_bits_deBruijn32tab), ("math/bits.deBruijn64tab", laid_math_bits_deBruijn64tab), ("internal/strconv.uint64pow10", laid_internal_strconv_uint64pow10)], narrowed := true }
def ReadTypesUptoSaid : Prop := readTypesUptoRow.holds Tryz.pinned (OpenSpec.upto readTypesSpec)

/-- 'hearthlaw02.ReadStops', WHERE WHAT IT READS IS OF BULK AT MOST 1048576: true; the input reads as it did. -/
def readStopsUptoRow : OpenClaim := { program := "ytbaeajgfnoplaaagreatdoor", sum := "dbe650563cfc92478555645109f4d393fcdd624e26221c8974b614926e2238ba", func := "hearth/hearthlaw02.ReadStops", spec := "readStops", inPlace := ["internal/abi.NoEscape", "internal/bytealg.MakeNoZero", "internal/bytealg.CountString", "internal/bytealg.IndexByteString", "internal/bytealg.IndexString"], unfollowed := true, recurses := true, named := ["internal/strconv.uint64pow10", "math/bits.deBruijn32tab", "math/bits.deBruijn64tab", "internal/bytealg.MaxLen"], apart := false, laid := [("math/bits.deBruijn32tab", laid_math_bits_deBruijn32tab), ("math/bits.deBruijn64tab", laid_math_bits_deBruijn64tab), ("internal/strconv.uint64pow10", laid_internal_strconv_uint64pow10)], narrowed := true }
def ReadStopsUptoSaid : Prop := readStopsUptoRow.holds Tryz.pinned (OpenSpec.upto readStopsSpec)

/-- 'hearthlaw02.ReadBrackets', WHERE WHAT IT READS IS OF BULK AT MOST 1048576: true; the input reads as it did. -/
def readBracketsUptoRow : OpenClaim := { program := "ytbaeajgfnoplaaagreatdoor", sum := "dbe650563cfc92478555645109f4d393fcdd624e26221c8974b614926e2238ba", func := "hearth/hearthlaw02.ReadBrackets", spec := "readBrackets", inPlace := ["internal/abi.NoEscape", "internal/bytealg.MakeNoZero", "internal/bytealg.CountString", "internal/bytealg.IndexByteString", "internal/bytealg.IndexString"], unfollowed := true, recurses := true, named := ["internal/strconv.uint64pow10", "math/bits.deBruijn32tab", "math/bits.deBruijn64tab", "internal/bytealg.MaxLen"], loops := true, apart := false, laid := [("math/bits.deBruijn32tab", laid_math_bits_deBruijn32tab), ("math/bits.deBruijn64tab", laid_math_bits_deBruijn64tab), ("internal/strconv.uint64pow10", laid_internal_strconv_uint64pow10)], narrowed := true }
def ReadBracketsUptoSaid : Prop := readBracketsUptoRow.holds Tryz.pinned (OpenSpec.upto readBracketsSpec)

/-- 'hearthlaw02.ReadOnce', WHERE WHAT IT READS IS OF BULK AT MOST 1048576: true; the input reads as it did. -/
def readOnceUptoRow : OpenClaim := { program := "ytbaeajgfnoplaaagreatdoor", sum := "dbe650563cfc92478555645109f4d393fcdd624e26221c8974b614926e2238ba", func := "hearth/hearthlaw02.ReadOnce", spec := "readOnce", inPlace := ["internal/abi.NoEscape", "internal/bytealg.MakeNoZero", "internal/bytealg.CountString", "internal/bytealg.IndexByteString", "internal/bytealg.IndexString"], unfollowed := true, recurses := true, named := ["internal/strconv.uint64pow10", "math/bits.deBruijn32tab", "math/bits.deBruijn64tab", "internal/bytealg.MaxLen"], loops := true, apart := false, laid := [("math/bits.deBruijn32tab", laid_math_bits_deBruijn32tab), ("math/bits.deBruijn64tab", laid_math_bits_deBruijn64tab), ("internal/strconv.uint64pow10", laid_internal_strconv_uint64pow10)], narrowed := true }
def ReadOnceUptoSaid : Prop := readOnceUptoRow.holds Tryz.pinned (OpenSpec.upto readOnceSpec)

/-- 'hearthlaw02.ReadWords', WHERE WHAT IT READS IS OF BULK AT MOST 1048576: true; the input reads as it did. -/
def readWordsUptoRow : OpenClaim := { program := "ytbaeajgfnoplaaagreatdoor", sum := "dbe650563cfc92478555645109f4d393fcdd624e26221c8974b614926e2238ba", func := "hearth/hearthlaw02.ReadWords", spec := "readWords", inPlace := ["internal/abi.NoEscape", "internal/bytealg.MakeNoZero", "internal/bytealg.CountString", "internal/bytealg.IndexByteString", "internal/bytealg.IndexString"], unfollowed := true, recurses := true, named := ["internal/strconv.uint64pow10", "math/bits.deBruijn32tab", "math/bits.deBruijn64tab", "internal/bytealg.MaxLen"], apart := false, laid := [("math/bits.deBruijn32tab", laid_math_bits_deBruijn32tab), ("math/bits.deBruijn64tab", laid_math_bits_deBruijn64tab), ("internal/strconv.uint64pow10", laid_internal_strconv_uint64pow10)], narrowed := true }
def ReadWordsUptoSaid : Prop := readWordsUptoRow.holds Tryz.pinned (OpenSpec.upto readWordsSpec)

/-- 'hearthlaw02.ReadParses', WHERE WHAT IT READS IS OF BULK AT MOST 1048576: true; the input reads as it did. -/
def readParsesUptoRow : OpenClaim := { program := "ytbaeajgfnoplaaagreatdoor", sum := "dbe650563cfc92478555645109f4d393fcdd624e26221c8974b614926e2238ba", func := "hearth/hearthlaw02.ReadParses", spec := "readParses", inPlace := ["internal/abi.NoEscape", "internal/bytealg.MakeNoZero", "internal/bytealg.CountString", "internal/bytealg.IndexByteString", "internal/bytealg.IndexString"], unfollowed := true, recurses := true, named := ["internal/strconv.uint64pow10", "math/bits.deBruijn32tab", "math/bits.deBruijn64tab", "internal/bytealg.MaxLen"], apart := false, laid := [("math/bits.deBruijn32tab", laid_math_bits_deBruijn32tab), ("math/bits.deBruijn64tab", laid_math_bits_deBruijn64tab), ("internal/strconv.uint64pow10", laid_internal_strconv_uint64pow10)], narrowed := true }
def ReadParsesUptoSaid : Prop := readParsesUptoRow.holds Tryz.pinned (OpenSpec.upto readParsesSpec)

/-- 'hearthlaw02.ReadPrefix', WHERE WHAT IT READS IS OF BULK AT MOST 1048576: true; the input reads as it did. -/
def readPrefixUptoRow : OpenClaim := { program := "ytbaeajgfnoplaaagreatdoor", sum := "dbe650563cfc92478555645109f4d393fcdd624e26221c8974b614926e2238ba", func := "hearth/hearthlaw02.ReadPrefix", spec := "readPrefix", inPlace := ["internal/abi.NoEscape", "internal/bytealg.MakeNoZero", "internal/bytealg.CountString", "internal/bytealg.IndexByteString", "internal/bytealg.IndexString"], unfollowed := true, recurses := true, named := ["internal/strconv.uint64pow10", "math/bits.deBruijn32tab", "math/bits.deBruijn64tab", "internal/bytealg.MaxLen"], apart := false, laid := [("math/bits.deBruijn32tab", laid_math_bits_deBruijn32tab), ("math/bits.deBruijn64tab", laid_math_bits_deBruijn64tab), ("internal/strconv.uint64pow10", laid_internal_strconv_uint64pow10)], narrowed := true }
def ReadPrefixUptoSaid : Prop := readPrefixUptoRow.holds Tryz.pinned (OpenSpec.upto readPrefixSpec)

/-- 'hearthlaw02.ReadSpaces', WHERE WHAT IT READS IS OF BULK AT MOST 1048576: true; the input reads as it did. -/
def readSpacesUptoRow : OpenClaim := { program := "ytbaeajgfnoplaaagreatdoor", sum := "dbe650563cfc92478555645109f4d393fcdd624e26221c8974b614926e2238ba", func := "hearth/hearthlaw02.ReadSpaces", spec := "readSpaces", inPlace := ["internal/abi.NoEscape", "internal/bytealg.MakeNoZero", "internal/bytealg.CountString", "internal/bytealg.IndexByteString", "internal/bytealg.IndexString"], unfollowed := true, recurses := true, named := ["internal/strconv.uint64pow10", "math/bits.deBruijn32tab", "math/bits.deBruijn64tab", "internal/bytealg.MaxLen"], apart := false, laid := [("math/bits.deBruijn32tab", laid_math_bits_deBruijn32tab), ("math/bits.deBruijn64tab", laid_math_bits_deBruijn64tab), ("internal/strconv.uint64pow10", laid_internal_strconv_uint64pow10)], narrowed := true }
def ReadSpacesUptoSaid : Prop := readSpacesUptoRow.holds Tryz.pinned (OpenSpec.upto readSpacesSpec)

/-- 'hearthlaw02.ReadModules', WHERE WHAT IT READS IS OF BULK AT MOST 1048576: true; the input reads as it did. -/
def readModulesUptoRow : OpenClaim := { program := "ytbaeajgfnoplaaagreatdoor", sum := "dbe650563cfc92478555645109f4d393fcdd624e26221c8974b614926e2238ba", func := "hearth/hearthlaw02.ReadModules", spec := "readModules", inPlace := ["internal/abi.NoEscape", "internal/bytealg.MakeNoZero", "internal/bytealg.CountString", "internal/bytealg.IndexByteString", "internal/bytealg.IndexString"], unfollowed := true, recurses := true, named := ["internal/strconv.uint64pow10", "math/bits.deBruijn32tab", "math/bits.deBruijn64tab", "internal/bytealg.MaxLen"], loops := true, apart := false, laid := [("math/bits.deBruijn32tab", laid_math_bits_deBruijn32tab), ("math/bits.deBruijn64tab", laid_math_bits_deBruijn64tab), ("internal/strconv.uint64pow10", laid_internal_strconv_uint64pow10)], narrowed := true }
def ReadModulesUptoSaid : Prop := readModulesUptoRow.holds Tryz.pinned (OpenSpec.upto readModulesSpec)

end Rows
end Go.Proofs.YtbaeajgfnoplaaaGreatDoor
