/-
  NARROWER THAN 'FOR EVERY INPUT', by the rows' own cells (each row's printed sentence says how): MatchSortings: laid · MatchMost: laid · MatchPairs: laid · MatchBounds: laid · MatchNoMore: laid · MatchNeeds: laid · MatchQuads: laid · MatchFours: laid · MatchBins: laid · MatchFilled: laid · MatchGrows: laid · MatchMarks: laid · MatchRead: laid.
  DERIVED. THE GIVEN ROWS OF THIS SEAT. 13 by the template 'for every input the law returns true; each argument reads behind the call as it read before'; 0 by the template 'total and deterministic' (their statements: YtllbpnmhoblkgaaDoorTotals.lean).
  GIVEN WITH THE SEED: the statements are not yours to turn. If you find one false, say at which input.
  Laid BY PROGRAM, IN A SANDBOX (cutbox-rows.mjs): the forced cells as the released guide's own fill.sh prints them over the translation 997bc2e6c104bee8… (all of the seat's roots in one cut). By AI agents, Wed Nov 11 2026. No macro, syntax, notation, axiom, sorry.
-/
import Derived.Test.YtllbpnmhoblkgaaDoorChecked
import GoSem.PinnedTables
import GoSem.Claim
import GoSem.ClaimJoined
import GoSem.ClaimMapViews
import Derived.JoinedTies
import Derived.KernelRfl
namespace Go.Proofs.YtllbpnmhoblkgaaDoor
/- THE CELL 'sum', in the pinned program and in every row, IS THE sha256 OF THE DUMP (.gsa) THAT YtllbpnmhoblkgaaDoorProg.lean LOADS. Nothing in Lean hashes anything: it is a label: what it is worth is what the hold of that sum in a sandbox is worth. -/
noncomputable def Tryd.pinned : Pinned := { name := "ytllbpnmhoblkgaadoor", sum := "997bc2e6c104bee873aa279a40e5f8dcde3d7172b032ad2844449bab755adcd3", checked := Tryd.checked }
namespace Rows
def none {H : Type} : Left H := { results := [], args := [] }

/- WHAT THE LISTED PACKAGE-LEVEL VARIABLES READ AS WHEN THE CALL BEGINS. Each datum BY PROGRAM (the guide's laid-datum.mjs) off the statement by which the dump's own 'gosem.cut.vars' lays the variable. In a bare row this is a premise. The card (YtllbpnmhoblkgaaDoorCards.lean) ties it to the program's text. -/
def laid_math_bits_deBruijn32tab {H : Type} : DataW H := .agg [.lit (.int .u8 0), .lit (.int .u8 1), .lit (.int .u8 28), .lit (.int .u8 2), .lit (.int .u8 29), .lit (.int .u8 14), .lit (.int .u8 24), .lit (.int .u8 3), .lit (.int .u8 30), .lit (.int .u8 22), .lit (.int .u8 20), .lit (.int .u8 15), .lit (.int .u8 25), .lit (.int .u8 17), .lit (.int .u8 4), .lit (.int .u8 8), .lit (.int .u8 31), .lit (.int .u8 27), .lit (.int .u8 13), .lit (.int .u8 23), .lit (.int .u8 21), .lit (.int .u8 19), .lit (.int .u8 16), .lit (.int .u8 7), .lit (.int .u8 26), .lit (.int .u8 12), .lit (.int .u8 18), .lit (.int .u8 6), .lit (.int .u8 11), .lit (.int .u8 5), .lit (.int .u8 10), .lit (.int .u8 9)]
def laid_math_bits_deBruijn64tab {H : Type} : DataW H := .agg [.lit (.int .u8 0), .lit (.int .u8 1), .lit (.int .u8 56), .lit (.int .u8 2), .lit (.int .u8 57), .lit (.int .u8 49), .lit (.int .u8 28), .lit (.int .u8 3), .lit (.int .u8 61), .lit (.int .u8 58), .lit (.int .u8 42), .lit (.int .u8 50), .lit (.int .u8 38), .lit (.int .u8 29), .lit (.int .u8 17), .lit (.int .u8 4), .lit (.int .u8 62), .lit (.int .u8 47), .lit (.int .u8 59), .lit (.int .u8 36), .lit (.int .u8 45), .lit (.int .u8 43), .lit (.int .u8 51), .lit (.int .u8 22), .lit (.int .u8 53), .lit (.int .u8 39), .lit (.int .u8 33), .lit (.int .u8 30), .lit (.int .u8 24), .lit (.int .u8 18), .lit (.int .u8 12), .lit (.int .u8 5), .lit (.int .u8 63), .lit (.int .u8 55), .lit (.int .u8 48), .lit (.int .u8 27), .lit (.int .u8 60), .lit (.int .u8 41), .lit (.int .u8 37), .lit (.int .u8 16), .lit (.int .u8 46), .lit (.int .u8 35), .lit (.int .u8 44), .lit (.int .u8 21), .lit (.int .u8 52), .lit (.int .u8 32), .lit (.int .u8 23), .lit (.int .u8 11), .lit (.int .u8 54), .lit (.int .u8 26), .lit (.int .u8 40), .lit (.int .u8 15), .lit (.int .u8 34), .lit (.int .u8 20), .lit (.int .u8 31), .lit (.int .u8 10), .lit (.int .u8 25), .lit (.int .u8 14), .lit (.int .u8 19), .lit (.int .u8 9), .lit (.int .u8 13), .lit (.int .u8 8), .lit (.int .u8 7), .lit (.int .u8 6)]
def laid_internal_strconv_uint64pow10 {H : Type} : DataW H := .agg [.lit (.int .u64 1), .lit (.int .u64 10), .lit (.int .u64 100), .lit (.int .u64 1000), .lit (.int .u64 10000), .lit (.int .u64 100000), .lit (.int .u64 1000000), .lit (.int .u64 10000000), .lit (.int .u64 100000000), .lit (.int .u64 1000000000), .lit (.int .u64 10000000000), .lit (.int .u64 100000000000), .lit (.int .u64 1000000000000), .lit (.int .u64 10000000000000), .lit (.int .u64 100000000000000), .lit (.int .u64 1000000000000000), .lit (.int .u64 10000000000000000), .lit (.int .u64 100000000000000000), .lit (.int .u64 1000000000000000000), .lit (.int .u64 10000000000000000000)]
def laid_unicode_utf8_acceptRanges {H : Type} : DataW H := .agg [.agg [.lit (.int .u8 128), .lit (.int .u8 191)], .agg [.lit (.int .u8 160), .lit (.int .u8 191)], .agg [.lit (.int .u8 128), .lit (.int .u8 159)], .agg [.lit (.int .u8 144), .lit (.int .u8 191)], .agg [.lit (.int .u8 128), .lit (.int .u8 143)], .agg [.lit (.int .u8 0), .lit (.int .u8 0)], .agg [.lit (.int .u8 0), .lit (.int .u8 0)], .agg [.lit (.int .u8 0), .lit (.int .u8 0)], .agg [.lit (.int .u8 0), .lit (.int .u8 0)], .agg [.lit (.int .u8 0), .lit (.int .u8 0)], .agg [.lit (.int .u8 0), .lit (.int .u8 0)], .agg [.lit (.int .u8 0), .lit (.int .u8 0)], .agg [.lit (.int .u8 0), .lit (.int .u8 0)], .agg [.lit (.int .u8 0), .lit (.int .u8 0)], .agg [.lit (.int .u8 0), .lit (.int .u8 0)], .agg [.lit (.int .u8 0), .lit (.int .u8 0)]]
/-- One of Go's own tables, pinned by name: the form's constant. -/
def laid_unicode_utf8_first : DataW Unit := Go.Pinned.utf8First

/-- 'thermionlaw08.MatchSortings': WHATEVER THE INPUT: true; the input reads as it did. -/
def matchSortingsSpec : ChangeSpec := { name := "matchSortings", fn := fun _ => fun
  | [d1, d2, d3, d4] => { results := [.lit (.bool true)], args := [d1, d2, d3, d4] }
  | _ => none }
def matchSortingsRow : OpenClaim := { program := "ytllbpnmhoblkgaadoor", sum := "997bc2e6c104bee873aa279a40e5f8dcde3d7172b032ad2844449bab755adcd3", func := "thermion/thermionlaw08.MatchSortings", spec := "matchSortings", inPlace := ["internal/abi.NoEscape", "internal/bytealg.MakeNoZero", "internal/bytealg.IndexByteString", "internal/bytealg.IndexString"], unfollowed := true, recurses := true, named := ["internal/strconv.uint64pow10", "math/bits.deBruijn32tab", "math/bits.deBruijn64tab", "internal/bytealg.MaxLen"], apart := false, laid := [("math/bits.deBruijn32tab", laid_math_bits_deBruijn32tab), ("math/bits.deBruijn64tab", laid_math_bits_deBruijn64tab), ("internal/strconv.uint64pow10", laid_internal_strconv_uint64pow10)] }
def MatchSortingsSaid : Prop := matchSortingsRow.holds Tryd.pinned (OpenSpec.ofChange matchSortingsSpec)

/-- ITS FALSE NEIGHBOUR: 'it returns false'. Refute it at one input. -/
def matchSortingsWrong : ChangeSpec := { name := "matchSortings", fn := fun _ => fun
  | [d1, d2, d3, d4] => { results := [.lit (.bool false)], args := [d1, d2, d3, d4] }
  | _ => none }
def MatchSortingsWrongFalsely : Prop := matchSortingsRow.holds Tryd.pinned (OpenSpec.ofChange matchSortingsWrong)

/-- 'thermionlaw08.MatchMost': WHATEVER THE INPUT: true; the input reads as it did. -/
def matchMostSpec : ChangeSpec := { name := "matchMost", fn := fun _ => fun
  | [d] => { results := [.lit (.bool true)], args := [d] }
  | _ => none }
def matchMostRow : OpenClaim := { program := "ytllbpnmhoblkgaadoor", sum := "997bc2e6c104bee873aa279a40e5f8dcde3d7172b032ad2844449bab755adcd3", func := "thermion/thermionlaw08.MatchMost", spec := "matchMost", inPlace := ["internal/abi.NoEscape", "internal/bytealg.MakeNoZero", "internal/bytealg.IndexByteString", "internal/bytealg.IndexString"], unfollowed := true, recurses := true, named := ["internal/strconv.uint64pow10", "math/bits.deBruijn32tab", "math/bits.deBruijn64tab", "internal/bytealg.MaxLen"], apart := false, laid := [("math/bits.deBruijn32tab", laid_math_bits_deBruijn32tab), ("math/bits.deBruijn64tab", laid_math_bits_deBruijn64tab), ("internal/strconv.uint64pow10", laid_internal_strconv_uint64pow10)] }
def MatchMostSaid : Prop := matchMostRow.holds Tryd.pinned (OpenSpec.ofChange matchMostSpec)

/-- ITS FALSE NEIGHBOUR: 'it returns false'. Refute it at one input. -/
def matchMostWrong : ChangeSpec := { name := "matchMost", fn := fun _ => fun
  | [d] => { results := [.lit (.bool false)], args := [d] }
  | _ => none }
def MatchMostWrongFalsely : Prop := matchMostRow.holds Tryd.pinned (OpenSpec.ofChange matchMostWrong)

/-- 'thermionlaw08.MatchPairs': WHATEVER THE INPUT: true; the input reads as it did. -/
def matchPairsSpec : ChangeSpec := { name := "matchPairs", fn := fun _ => fun
  | [d1, d2] => { results := [.lit (.bool true)], args := [d1, d2] }
  | _ => none }
def matchPairsRow : OpenClaim := { program := "ytllbpnmhoblkgaadoor", sum := "997bc2e6c104bee873aa279a40e5f8dcde3d7172b032ad2844449bab755adcd3", func := "thermion/thermionlaw08.MatchPairs", spec := "matchPairs", inPlace := ["internal/abi.NoEscape", "internal/bytealg.MakeNoZero", "internal/bytealg.IndexByteString", "internal/bytealg.IndexString"], unfollowed := true, recurses := true, named := ["internal/strconv.uint64pow10", "math/bits.deBruijn32tab", "math/bits.deBruijn64tab", "internal/bytealg.MaxLen"], apart := false, laid := [("math/bits.deBruijn32tab", laid_math_bits_deBruijn32tab), ("math/bits.deBruijn64tab", laid_math_bits_deBruijn64tab), ("internal/strconv.uint64pow10", laid_internal_strconv_uint64pow10)] }
def MatchPairsSaid : Prop := matchPairsRow.holds Tryd.pinned (OpenSpec.ofChange matchPairsSpec)

/-- ITS FALSE NEIGHBOUR: 'it returns false'. Refute it at one input. -/
def matchPairsWrong : ChangeSpec := { name := "matchPairs", fn := fun _ => fun
  | [d1, d2] => { results := [.lit (.bool false)], args := [d1, d2] }
  | _ => none }
def MatchPairsWrongFalsely : Prop := matchPairsRow.holds Tryd.pinned (OpenSpec.ofChange matchPairsWrong)

/-- 'thermionlaw08.MatchBounds': WHATEVER THE INPUT: true; the input reads as it did. -/
def matchBoundsSpec : ChangeSpec := { name := "matchBounds", fn := fun _ => fun
  | [d1, d2, d3] => { results := [.lit (.bool true)], args := [d1, d2, d3] }
  | _ => none }
def matchBoundsRow : OpenClaim := { program := "ytllbpnmhoblkgaadoor", sum := "997bc2e6c104bee873aa279a40e5f8dcde3d7172b032ad2844449bab755adcd3", func := "thermion/thermionlaw08.MatchBounds", spec := "matchBounds", inPlace := ["internal/abi.NoEscape", "internal/bytealg.MakeNoZero", "internal/bytealg.IndexByteString", "internal/bytealg.IndexString"], unfollowed := true, recurses := true, named := ["internal/strconv.uint64pow10", "math/bits.deBruijn32tab", "math/bits.deBruijn64tab", "internal/bytealg.MaxLen"], apart := false, laid := [("math/bits.deBruijn32tab", laid_math_bits_deBruijn32tab), ("math/bits.deBruijn64tab", laid_math_bits_deBruijn64tab), ("internal/strconv.uint64pow10", laid_internal_strconv_uint64pow10)] }
def MatchBoundsSaid : Prop := matchBoundsRow.holds Tryd.pinned (OpenSpec.ofChange matchBoundsSpec)

/-- ITS FALSE NEIGHBOUR: 'it returns false'. Refute it at one input. -/
def matchBoundsWrong : ChangeSpec := { name := "matchBounds", fn := fun _ => fun
  | [d1, d2, d3] => { results := [.lit (.bool false)], args := [d1, d2, d3] }
  | _ => none }
def MatchBoundsWrongFalsely : Prop := matchBoundsRow.holds Tryd.pinned (OpenSpec.ofChange matchBoundsWrong)

/-- 'thermionlaw08.MatchNoMore': WHATEVER THE INPUT: true; the input reads as it did. -/
def matchNoMoreSpec : ChangeSpec := { name := "matchNoMore", fn := fun _ => fun
  | [d] => { results := [.lit (.bool true)], args := [d] }
  | _ => none }
def matchNoMoreRow : OpenClaim := { program := "ytllbpnmhoblkgaadoor", sum := "997bc2e6c104bee873aa279a40e5f8dcde3d7172b032ad2844449bab755adcd3", func := "thermion/thermionlaw08.MatchNoMore", spec := "matchNoMore", inPlace := ["internal/abi.NoEscape", "internal/bytealg.MakeNoZero", "internal/bytealg.IndexByteString", "internal/bytealg.IndexString"], unfollowed := true, recurses := true, named := ["internal/strconv.uint64pow10", "math/bits.deBruijn32tab", "math/bits.deBruijn64tab", "internal/bytealg.MaxLen"], apart := false, laid := [("math/bits.deBruijn32tab", laid_math_bits_deBruijn32tab), ("math/bits.deBruijn64tab", laid_math_bits_deBruijn64tab), ("internal/strconv.uint64pow10", laid_internal_strconv_uint64pow10)] }
def MatchNoMoreSaid : Prop := matchNoMoreRow.holds Tryd.pinned (OpenSpec.ofChange matchNoMoreSpec)

/-- ITS FALSE NEIGHBOUR: 'it returns false'. Refute it at one input. -/
def matchNoMoreWrong : ChangeSpec := { name := "matchNoMore", fn := fun _ => fun
  | [d] => { results := [.lit (.bool false)], args := [d] }
  | _ => none }
def MatchNoMoreWrongFalsely : Prop := matchNoMoreRow.holds Tryd.pinned (OpenSpec.ofChange matchNoMoreWrong)

/-- 'thermionlaw08.MatchNeeds': WHATEVER THE INPUT: true; the input reads as it did. -/
def matchNeedsSpec : ChangeSpec := { name := "matchNeeds", fn := fun _ => fun
  | [d] => { results := [.lit (.bool true)], args := [d] }
  | _ => none }
def matchNeedsRow : OpenClaim := { program := "ytllbpnmhoblkgaadoor", sum := "997bc2e6c104bee873aa279a40e5f8dcde3d7172b032ad2844449bab755adcd3", func := "thermion/thermionlaw08.MatchNeeds", spec := "matchNeeds", inPlace := ["internal/abi.NoEscape", "internal/bytealg.MakeNoZero", "internal/bytealg.IndexByteString", "internal/bytealg.IndexString"], unfollowed := true, recurses := true, named := ["internal/strconv.uint64pow10", "math/bits.deBruijn32tab", "math/bits.deBruijn64tab", "internal/bytealg.MaxLen"], apart := false, laid := [("math/bits.deBruijn32tab", laid_math_bits_deBruijn32tab), ("math/bits.deBruijn64tab", laid_math_bits_deBruijn64tab), ("internal/strconv.uint64pow10", laid_internal_strconv_uint64pow10)] }
def MatchNeedsSaid : Prop := matchNeedsRow.holds Tryd.pinned (OpenSpec.ofChange matchNeedsSpec)

/-- ITS FALSE NEIGHBOUR: 'it returns false'. Refute it at one input. -/
def matchNeedsWrong : ChangeSpec := { name := "matchNeeds", fn := fun _ => fun
  | [d] => { results := [.lit (.bool false)], args := [d] }
  | _ => none }
def MatchNeedsWrongFalsely : Prop := matchNeedsRow.holds Tryd.pinned (OpenSpec.ofChange matchNeedsWrong)

/-- 'thermionlaw08.MatchQuads': WHATEVER THE INPUT: true; the input reads as it did. -/
def matchQuadsSpec : ChangeSpec := { name := "matchQuads", fn := fun _ => fun
  | [d1, d2] => { results := [.lit (.bool true)], args := [d1, d2] }
  | _ => none }
def matchQuadsRow : OpenClaim := { program := "ytllbpnmhoblkgaadoor", sum := "997bc2e6c104bee873aa279a40e5f8dcde3d7172b032ad2844449bab755adcd3", func := "thermion/thermionlaw08.MatchQuads", spec := "matchQuads", inPlace := ["internal/abi.NoEscape", "internal/bytealg.MakeNoZero", "internal/bytealg.IndexByteString", "internal/bytealg.IndexString"], unfollowed := true, recurses := true, named := ["internal/strconv.uint64pow10", "math/bits.deBruijn32tab", "math/bits.deBruijn64tab", "internal/bytealg.MaxLen"], apart := false, laid := [("math/bits.deBruijn32tab", laid_math_bits_deBruijn32tab), ("math/bits.deBruijn64tab", laid_math_bits_deBruijn64tab), ("internal/strconv.uint64pow10", laid_internal_strconv_uint64pow10)] }
def MatchQuadsSaid : Prop := matchQuadsRow.holds Tryd.pinned (OpenSpec.ofChange matchQuadsSpec)

/-- ITS FALSE NEIGHBOUR: 'it returns false'. Refute it at one input. -/
def matchQuadsWrong : ChangeSpec := { name := "matchQuads", fn := fun _ => fun
  | [d1, d2] => { results := [.lit (.bool false)], args := [d1, d2] }
  | _ => none }
def MatchQuadsWrongFalsely : Prop := matchQuadsRow.holds Tryd.pinned (OpenSpec.ofChange matchQuadsWrong)

/-- 'thermionlaw08.MatchFours': WHATEVER THE INPUT: true; the input reads as it did. -/
def matchFoursSpec : ChangeSpec := { name := "matchFours", fn := fun _ => fun
  | [d] => { results := [.lit (.bool true)], args := [d] }
  | _ => none }
def matchFoursRow : OpenClaim := { program := "ytllbpnmhoblkgaadoor", sum := "997bc2e6c104bee873aa279a40e5f8dcde3d7172b032ad2844449bab755adcd3", func := "thermion/thermionlaw08.MatchFours", spec := "matchFours", inPlace := ["internal/abi.NoEscape", "internal/bytealg.MakeNoZero", "internal/bytealg.IndexByteString", "internal/bytealg.IndexString"], unfollowed := true, recurses := true, named := ["internal/strconv.uint64pow10", "math/bits.deBruijn32tab", "math/bits.deBruijn64tab", "internal/bytealg.MaxLen"], apart := false, laid := [("math/bits.deBruijn32tab", laid_math_bits_deBruijn32tab), ("math/bits.deBruijn64tab", laid_math_bits_deBruijn64tab), ("internal/strconv.uint64pow10", laid_internal_strconv_uint64pow10)] }
def MatchFoursSaid : Prop := matchFoursRow.holds Tryd.pinned (OpenSpec.ofChange matchFoursSpec)

/-- ITS FALSE NEIGHBOUR: 'it returns false'. Refute it at one input. -/
def matchFoursWrong : ChangeSpec := { name := "matchFours", fn := fun _ => fun
  | [d] => { results := [.lit (.bool false)], args := [d] }
  | _ => none }
def MatchFoursWrongFalsely : Prop := matchFoursRow.holds Tryd.pinned (OpenSpec.ofChange matchFoursWrong)

/-- 'thermionlaw08.MatchBins': WHATEVER THE INPUT: true; the input reads as it did. -/
def matchBinsSpec : ChangeSpec := { name := "matchBins", fn := fun _ => fun
  | [d1, d2, d3] => { results := [.lit (.bool true)], args := [d1, d2, d3] }
  | _ => none }
def matchBinsRow : OpenClaim := { program := "ytllbpnmhoblkgaadoor", sum := "997bc2e6c104bee873aa279a40e5f8dcde3d7172b032ad2844449bab755adcd3", func := "thermion/thermionlaw08.MatchBins", spec := "matchBins", inPlace := ["internal/abi.NoEscape", "internal/bytealg.MakeNoZero", "internal/bytealg.IndexByteString", "internal/bytealg.IndexString"], unfollowed := true, recurses := true, named := ["internal/strconv.uint64pow10", "math/bits.deBruijn32tab", "math/bits.deBruijn64tab", "internal/bytealg.MaxLen"], apart := false, laid := [("math/bits.deBruijn32tab", laid_math_bits_deBruijn32tab), ("math/bits.deBruijn64tab", laid_math_bits_deBruijn64tab), ("internal/strconv.uint64pow10", laid_internal_strconv_uint64pow10)] }
def MatchBinsSaid : Prop := matchBinsRow.holds Tryd.pinned (OpenSpec.ofChange matchBinsSpec)

/-- ITS FALSE NEIGHBOUR: 'it returns false'. Refute it at one input. -/
def matchBinsWrong : ChangeSpec := { name := "matchBins", fn := fun _ => fun
  | [d1, d2, d3] => { results := [.lit (.bool false)], args := [d1, d2, d3] }
  | _ => none }
def MatchBinsWrongFalsely : Prop := matchBinsRow.holds Tryd.pinned (OpenSpec.ofChange matchBinsWrong)

/-- 'thermionlaw08.MatchFilled': WHATEVER THE INPUT: true; the input reads as it did. -/
def matchFilledSpec : ChangeSpec := { name := "matchFilled", fn := fun _ => fun
  | [d] => { results := [.lit (.bool true)], args := [d] }
  | _ => none }
def matchFilledRow : OpenClaim := { program := "ytllbpnmhoblkgaadoor", sum := "997bc2e6c104bee873aa279a40e5f8dcde3d7172b032ad2844449bab755adcd3", func := "thermion/thermionlaw08.MatchFilled", spec := "matchFilled", inPlace := ["internal/abi.NoEscape", "internal/bytealg.MakeNoZero", "internal/bytealg.IndexByteString", "internal/bytealg.IndexString"], unfollowed := true, recurses := true, named := ["internal/strconv.uint64pow10", "math/bits.deBruijn32tab", "math/bits.deBruijn64tab", "internal/bytealg.MaxLen"], apart := false, laid := [("math/bits.deBruijn32tab", laid_math_bits_deBruijn32tab), ("math/bits.deBruijn64tab", laid_math_bits_deBruijn64tab), ("internal/strconv.uint64pow10", laid_internal_strconv_uint64pow10)] }
def MatchFilledSaid : Prop := matchFilledRow.holds Tryd.pinned (OpenSpec.ofChange matchFilledSpec)

/-- ITS FALSE NEIGHBOUR: 'it returns false'. Refute it at one input. -/
def matchFilledWrong : ChangeSpec := { name := "matchFilled", fn := fun _ => fun
  | [d] => { results := [.lit (.bool false)], args := [d] }
  | _ => none }
def MatchFilledWrongFalsely : Prop := matchFilledRow.holds Tryd.pinned (OpenSpec.ofChange matchFilledWrong)

/-- 'thermionlaw08.MatchGrows': WHATEVER THE INPUT: true; the input reads as it did. -/
def matchGrowsSpec : ChangeSpec := { name := "matchGrows", fn := fun _ => fun
  | [d] => { results := [.lit (.bool true)], args := [d] }
  | _ => none }
def matchGrowsRow : OpenClaim := { program := "ytllbpnmhoblkgaadoor", sum := "997bc2e6c104bee873aa279a40e5f8dcde3d7172b032ad2844449bab755adcd3", func := "thermion/thermionlaw08.MatchGrows", spec := "matchGrows", inPlace := ["internal/abi.NoEscape", "internal/bytealg.MakeNoZero", "internal/bytealg.IndexByteString", "internal/bytealg.IndexString"], unfollowed := true, recurses := true, named := ["internal/strconv.uint64pow10", "math/bits.deBruijn32tab", "math/bits.deBruijn64tab", "internal/bytealg.MaxLen"], apart := false, laid := [("math/bits.deBruijn32tab", laid_math_bits_deBruijn32tab), ("math/bits.deBruijn64tab", laid_math_bits_deBruijn64tab), ("internal/strconv.uint64pow10", laid_internal_strconv_uint64pow10)] }
def MatchGrowsSaid : Prop := matchGrowsRow.holds Tryd.pinned (OpenSpec.ofChange matchGrowsSpec)

/-- ITS FALSE NEIGHBOUR: 'it returns false'. Refute it at one input. -/
def matchGrowsWrong : ChangeSpec := { name := "matchGrows", fn := fun _ => fun
  | [d] => { results := [.lit (.bool false)], args := [d] }
  | _ => none }
def MatchGrowsWrongFalsely : Prop := matchGrowsRow.holds Tryd.pinned (OpenSpec.ofChange matchGrowsWrong)

/-- 'thermionlaw08.MatchMarks': WHATEVER THE INPUT: true; the input reads as it did. -/
def matchMarksSpec : ChangeSpec := { name := "matchMarks", fn := fun _ => fun
  | [d1, d2, d3] => { results := [.lit (.bool true)], args := [d1, d2, d3] }
  | _ => none }
def matchMarksRow : OpenClaim := { program := "ytllbpnmhoblkgaadoor", sum := "997bc2e6c104bee873aa279a40e5f8dcde3d7172b032ad2844449bab755adcd3", func := "thermion/thermionlaw08.MatchMarks", spec := "matchMarks", inPlace := ["internal/abi.NoEscape", "internal/bytealg.MakeNoZero", "internal/bytealg.IndexByteString", "internal/bytealg.IndexString"], unfollowed := true, recurses := true, named := ["internal/strconv.uint64pow10", "math/bits.deBruijn32tab", "math/bits.deBruijn64tab", "unicode/utf8.first", "unicode/utf8.acceptRanges", "internal/bytealg.MaxLen"], apart := false, laid := [("math/bits.deBruijn32tab", laid_math_bits_deBruijn32tab), ("math/bits.deBruijn64tab", laid_math_bits_deBruijn64tab), ("internal/strconv.uint64pow10", laid_internal_strconv_uint64pow10), ("unicode/utf8.acceptRanges", laid_unicode_utf8_acceptRanges), ("unicode/utf8.first", laid_unicode_utf8_first)] }
def MatchMarksSaid : Prop := matchMarksRow.holds Tryd.pinned (OpenSpec.ofChange matchMarksSpec)

/-- ITS FALSE NEIGHBOUR: 'it returns false'. Refute it at one input. -/
def matchMarksWrong : ChangeSpec := { name := "matchMarks", fn := fun _ => fun
  | [d1, d2, d3] => { results := [.lit (.bool false)], args := [d1, d2, d3] }
  | _ => none }
def MatchMarksWrongFalsely : Prop := matchMarksRow.holds Tryd.pinned (OpenSpec.ofChange matchMarksWrong)

/-- 'thermionlaw08.MatchRead': WHATEVER THE INPUT: true; the input reads as it did. -/
def matchReadSpec : ChangeSpec := { name := "matchRead", fn := fun _ => fun
  | [d1, d2, d3] => { results := [.lit (.bool true)], args := [d1, d2, d3] }
  | _ => none }
def matchReadRow : OpenClaim := { program := "ytllbpnmhoblkgaadoor", sum := "997bc2e6c104bee873aa279a40e5f8dcde3d7172b032ad2844449bab755adcd3", func := "thermion/thermionlaw08.MatchRead", spec := "matchRead", inPlace := ["internal/abi.NoEscape", "internal/bytealg.MakeNoZero", "internal/bytealg.IndexByteString", "internal/bytealg.IndexString"], unfollowed := true, recurses := true, named := ["internal/strconv.uint64pow10", "math/bits.deBruijn32tab", "math/bits.deBruijn64tab", "unicode/utf8.first", "unicode/utf8.acceptRanges", "internal/bytealg.MaxLen"], apart := false, laid := [("math/bits.deBruijn32tab", laid_math_bits_deBruijn32tab), ("math/bits.deBruijn64tab", laid_math_bits_deBruijn64tab), ("internal/strconv.uint64pow10", laid_internal_strconv_uint64pow10), ("unicode/utf8.acceptRanges", laid_unicode_utf8_acceptRanges), ("unicode/utf8.first", laid_unicode_utf8_first)] }
def MatchReadSaid : Prop := matchReadRow.holds Tryd.pinned (OpenSpec.ofChange matchReadSpec)

/-- ITS FALSE NEIGHBOUR: 'it returns false'. Refute it at one input. -/
def matchReadWrong : ChangeSpec := { name := "matchRead", fn := fun _ => fun
  | [d1, d2, d3] => { results := [.lit (.bool false)], args := [d1, d2, d3] }
  | _ => none }
def MatchReadWrongFalsely : Prop := matchReadRow.holds Tryd.pinned (OpenSpec.ofChange matchReadWrong)

/- THE SECOND FORM. 'bulk': how many values and letters a reading holds, each counted each time it is reached (what is shared counts as often as it is met; a slice's spare places count too). A statement '..UptoSaid' is the law's where the arguments, and the package variables that the reading takes, are together of bulk at most 1048576: NARROWER than '..Said'. Prove '..Said' where nothing that the law and all that it calls make is longer than what came in: it says more and counts as full. Else prove '..UptoSaid'. A law counts once. -/
mutual
def uptoBulk {H : Type} : DataW H → Nat
  | .lit (.string bytes) => bytes.length + 1
  | .lit _ => 1
  | .nil => 1
  | .ptr d => uptoBulk d + 1
  | .slice elems spare => uptoBulkAll elems + uptoBulkAll spare + 1
  | .agg parts => uptoBulkAll parts + 1
  | .iface _ d => uptoBulk d + 1
  | .map entries => uptoBulkEntries entries + 1
  | .held _ => 1
def uptoBulkAll {H : Type} : List (DataW H) → Nat
  | [] => 0
  | d :: r => uptoBulk d + uptoBulkAll r
def uptoBulkEntries {H : Type} : List (Lit × DataW H) → Nat
  | [] => 0
  | x :: r => uptoBulkEntry x + uptoBulkEntries r
def uptoBulkEntry {H : Type} : Lit × DataW H → Nat
  | (.string bytes, d) => bytes.length + uptoBulk d + 1
  | (_, d) => uptoBulk d + 1
 end
def uptoSmall : (H : Type) → List (DataW H) → Bool := fun _ ds => decide (uptoBulkAll ds ≤ 1048576)
def OpenSpec.upto (s : _root_.Go.ChangeSpec) : _root_.Go.OpenSpec := { _root_.Go.OpenSpec.ofChange s with cond := some uptoSmall }

/-- 'thermionlaw08.MatchSortings', WHERE WHAT IT READS IS OF BULK AT MOST 1048576: true; the input reads as it did. -/
def matchSortingsUptoRow : OpenClaim := { program := "ytllbpnmhoblkgaadoor", sum := "997bc2e6c104bee873aa279a40e5f8dcde3d7172b032ad2844449bab755adcd3", func := "thermion/thermionlaw08.MatchSortings", spec := "matchSortings", inPlace := ["internal/abi.NoEscape", "internal/bytealg.MakeNoZero", "internal/bytealg.IndexByteString", "internal/bytealg.IndexString"], unfollowed := true, recurses := true, named := ["internal/strconv.uint64pow10", "math/bits.deBruijn32tab", "math/bits.deBruijn64tab", "internal/bytealg.MaxLen"], apart := false, laid := [("math/bits.deBruijn32tab", laid_math_bits_deBruijn32tab), ("math/bits.deBruijn64tab", laid_math_bits_deBruijn64tab), ("internal/strconv.uint64pow10", laid_internal_strconv_uint64pow10)], narrowed := true }
def MatchSortingsUptoSaid : Prop := matchSortingsUptoRow.holds Tryd.pinned (OpenSpec.upto matchSortingsSpec)

/-- 'thermionlaw08.MatchMost', WHERE WHAT IT READS IS OF BULK AT MOST 1048576: true; the input reads as it did. -/
def matchMostUptoRow : OpenClaim := { program := "ytllbpnmhoblkgaadoor", sum := "997bc2e6c104bee873aa279a40e5f8dcde3d7172b032ad2844449bab755adcd3", func := "thermion/thermionlaw08.MatchMost", spec := "matchMost", inPlace := ["internal/abi.NoEscape", "internal/bytealg.MakeNoZero", "internal/bytealg.IndexByteString", "internal/bytealg.IndexString"], unfollowed := true, recurses := true, named := ["internal/strconv.uint64pow10", "math/bits.deBruijn32tab", "math/bits.deBruijn64tab", "internal/bytealg.MaxLen"], apart := false, laid := [("math/bits.deBruijn32tab", laid_math_bits_deBruijn32tab), ("math/bits.deBruijn64tab", laid_math_bits_deBruijn64tab), ("internal/strconv.uint64pow10", laid_internal_strconv_uint64pow10)], narrowed := true }
def MatchMostUptoSaid : Prop := matchMostUptoRow.holds Tryd.pinned (OpenSpec.upto matchMostSpec)

/-- 'thermionlaw08.MatchPairs', WHERE WHAT IT READS IS OF BULK AT MOST 1048576: true; the input reads as it did. -/
def matchPairsUptoRow : OpenClaim := { program := "ytllbpnmhoblkgaadoor", sum := "997bc2e6c104bee873aa279a40e5f8dcde3d7172b032ad2844449bab755adcd3", func := "thermion/thermionlaw08.MatchPairs", spec := "matchPairs", inPlace := ["internal/abi.NoEscape", "internal/bytealg.MakeNoZero", "internal/bytealg.IndexByteString", "internal/bytealg.IndexString"], unfollowed := true, recurses := true, named := ["internal/strconv.uint64pow10", "math/bits.deBruijn32tab", "math/bits.deBruijn64tab", "internal/bytealg.MaxLen"], apart := false, laid := [("math/bits.deBruijn32tab", laid_math_bits_deBruijn32tab), ("math/bits.deBruijn64tab", laid_math_bits_deBruijn64tab), ("internal/strconv.uint64pow10", laid_internal_strconv_uint64pow10)], narrowed := true }
def MatchPairsUptoSaid : Prop := matchPairsUptoRow.holds Tryd.pinned (OpenSpec.upto matchPairsSpec)

/-- 'thermionlaw08.MatchBounds', WHERE WHAT IT READS IS OF BULK AT MOST 1048576: true; the input reads as it did. -/
def matchBoundsUptoRow : OpenClaim := { program := "ytllbpnmhoblkgaadoor", sum := "997bc2e6c104bee873aa279a40e5f8dcde3d7172b032ad2844449bab755adcd3", func := "thermion/thermionlaw08.MatchBounds", spec := "matchBounds", inPlace := ["internal/abi.NoEscape", "internal/bytealg.MakeNoZero", "internal/bytealg.IndexByteString", "internal/bytealg.IndexString"], unfollowed := true, recurses := true, named := ["internal/strconv.uint64pow10", "math/bits.deBruijn32tab", "math/bits.deBruijn64tab", "internal/bytealg.MaxLen"], apart := false, laid := [("math/bits.deBruijn32tab", laid_math_bits_deBruijn32tab), ("math/bits.deBruijn64tab", laid_math_bits_deBruijn64tab), ("internal/strconv.uint64pow10", laid_internal_strconv_uint64pow10)], narrowed := true }
def MatchBoundsUptoSaid : Prop := matchBoundsUptoRow.holds Tryd.pinned (OpenSpec.upto matchBoundsSpec)

/-- 'thermionlaw08.MatchNoMore', WHERE WHAT IT READS IS OF BULK AT MOST 1048576: true; the input reads as it did. -/
def matchNoMoreUptoRow : OpenClaim := { program := "ytllbpnmhoblkgaadoor", sum := "997bc2e6c104bee873aa279a40e5f8dcde3d7172b032ad2844449bab755adcd3", func := "thermion/thermionlaw08.MatchNoMore", spec := "matchNoMore", inPlace := ["internal/abi.NoEscape", "internal/bytealg.MakeNoZero", "internal/bytealg.IndexByteString", "internal/bytealg.IndexString"], unfollowed := true, recurses := true, named := ["internal/strconv.uint64pow10", "math/bits.deBruijn32tab", "math/bits.deBruijn64tab", "internal/bytealg.MaxLen"], apart := false, laid := [("math/bits.deBruijn32tab", laid_math_bits_deBruijn32tab), ("math/bits.deBruijn64tab", laid_math_bits_deBruijn64tab), ("internal/strconv.uint64pow10", laid_internal_strconv_uint64pow10)], narrowed := true }
def MatchNoMoreUptoSaid : Prop := matchNoMoreUptoRow.holds Tryd.pinned (OpenSpec.upto matchNoMoreSpec)

/-- 'thermionlaw08.MatchNeeds', WHERE WHAT IT READS IS OF BULK AT MOST 1048576: true; the input reads as it did. -/
def matchNeedsUptoRow : OpenClaim := { program := "ytllbpnmhoblkgaadoor", sum := "997bc2e6c104bee873aa279a40e5f8dcde3d7172b032ad2844449bab755adcd3", func := "thermion/thermionlaw08.MatchNeeds", spec := "matchNeeds", inPlace := ["internal/abi.NoEscape", "internal/bytealg.MakeNoZero", "internal/bytealg.IndexByteString", "internal/bytealg.IndexString"], unfollowed := true, recurses := true, named := ["internal/strconv.uint64pow10", "math/bits.deBruijn32tab", "math/bits.deBruijn64tab", "internal/bytealg.MaxLen"], apart := false, laid := [("math/bits.deBruijn32tab", laid_math_bits_deBruijn32tab), ("math/bits.deBruijn64tab", laid_math_bits_deBruijn64tab), ("internal/strconv.uint64pow10", laid_internal_strconv_uint64pow10)], narrowed := true }
def MatchNeedsUptoSaid : Prop := matchNeedsUptoRow.holds Tryd.pinned (OpenSpec.upto matchNeedsSpec)

/-- 'thermionlaw08.MatchQuads', WHERE WHAT IT READS IS OF BULK AT MOST 1048576: true; the input reads as it did. -/
def matchQuadsUptoRow : OpenClaim := { program := "ytllbpnmhoblkgaadoor", sum := "997bc2e6c104bee873aa279a40e5f8dcde3d7172b032ad2844449bab755adcd3", func := "thermion/thermionlaw08.MatchQuads", spec := "matchQuads", inPlace := ["internal/abi.NoEscape", "internal/bytealg.MakeNoZero", "internal/bytealg.IndexByteString", "internal/bytealg.IndexString"], unfollowed := true, recurses := true, named := ["internal/strconv.uint64pow10", "math/bits.deBruijn32tab", "math/bits.deBruijn64tab", "internal/bytealg.MaxLen"], apart := false, laid := [("math/bits.deBruijn32tab", laid_math_bits_deBruijn32tab), ("math/bits.deBruijn64tab", laid_math_bits_deBruijn64tab), ("internal/strconv.uint64pow10", laid_internal_strconv_uint64pow10)], narrowed := true }
def MatchQuadsUptoSaid : Prop := matchQuadsUptoRow.holds Tryd.pinned (OpenSpec.upto matchQuadsSpec)

/-- 'thermionlaw08.MatchFours', WHERE WHAT IT READS IS OF BULK AT MOST 1048576: true; the input reads as it did. -/
def matchFoursUptoRow : OpenClaim := { program := "ytllbpnmhoblkgaadoor", sum := "997bc2e6c104bee873aa279a40e5f8dcde3d7172b032ad2844449bab755adcd3", func := "thermion/thermionlaw08.MatchFours", spec := "matchFours", inPlace := ["internal/abi.NoEscape", "internal/bytealg.MakeNoZero", "internal/bytealg.IndexByteString", "internal/bytealg.IndexString"], unfollowed := true, recurses := true, named := ["internal/strconv.uint64pow10", "math/bits.deBruijn32tab", "math/bits.deBruijn64tab", "internal/bytealg.MaxLen"], apart := false, laid := [("math/bits.deBruijn32tab", laid_math_bits_deBruijn32tab), ("math/bits.deBruijn64tab", laid_math_bits_deBruijn64tab), ("internal/strconv.uint64pow10", laid_internal_strconv_uint64pow10)], narrowed := true }
def MatchFoursUptoSaid : Prop := matchFoursUptoRow.holds Tryd.pinned (OpenSpec.upto matchFoursSpec)

/-- 'thermionlaw08.MatchBins', WHERE WHAT IT READS IS OF BULK AT MOST 1048576: true; the input reads as it did. -/
def matchBinsUptoRow : OpenClaim := { program := "ytllbpnmhoblkgaadoor", sum := "997bc2e6c104bee873aa279a40e5f8dcde3d7172b032ad2844449bab755adcd3", func := "thermion/thermionlaw08.MatchBins", spec := "matchBins", inPlace := ["internal/abi.NoEscape", "internal/bytealg.MakeNoZero", "internal/bytealg.IndexByteString", "internal/bytealg.IndexString"], unfollowed := true, recurses := true, named := ["internal/strconv.uint64pow10", "math/bits.deBruijn32tab", "math/bits.deBruijn64tab", "internal/bytealg.MaxLen"], apart := false, laid := [("math/bits.deBruijn32tab", laid_math_bits_deBruijn32tab), ("math/bits.deBruijn64tab", laid_math_bits_deBruijn64tab), ("internal/strconv.uint64pow10", laid_internal_strconv_uint64pow10)], narrowed := true }
def MatchBinsUptoSaid : Prop := matchBinsUptoRow.holds Tryd.pinned (OpenSpec.upto matchBinsSpec)

/-- 'thermionlaw08.MatchFilled', WHERE WHAT IT READS IS OF BULK AT MOST 1048576: true; the input reads as it did. -/
def matchFilledUptoRow : OpenClaim := { program := "ytllbpnmhoblkgaadoor", sum := "997bc2e6c104bee873aa279a40e5f8dcde3d7172b032ad2844449bab755adcd3", func := "thermion/thermionlaw08.MatchFilled", spec := "matchFilled", inPlace := ["internal/abi.NoEscape", "internal/bytealg.MakeNoZero", "internal/bytealg.IndexByteString", "internal/bytealg.IndexString"], unfollowed := true, recurses := true, named := ["internal/strconv.uint64pow10", "math/bits.deBruijn32tab", "math/bits.deBruijn64tab", "internal/bytealg.MaxLen"], apart := false, laid := [("math/bits.deBruijn32tab", laid_math_bits_deBruijn32tab), ("math/bits.deBruijn64tab", laid_math_bits_deBruijn64tab), ("internal/strconv.uint64pow10", laid_internal_strconv_uint64pow10)], narrowed := true }
def MatchFilledUptoSaid : Prop := matchFilledUptoRow.holds Tryd.pinned (OpenSpec.upto matchFilledSpec)

/-- 'thermionlaw08.MatchGrows', WHERE WHAT IT READS IS OF BULK AT MOST 1048576: true; the input reads as it did. -/
def matchGrowsUptoRow : OpenClaim := { program := "ytllbpnmhoblkgaadoor", sum := "997bc2e6c104bee873aa279a40e5f8dcde3d7172b032ad2844449bab755adcd3", func := "thermion/thermionlaw08.MatchGrows", spec := "matchGrows", inPlace := ["internal/abi.NoEscape", "internal/bytealg.MakeNoZero", "internal/bytealg.IndexByteString", "internal/bytealg.IndexString"], unfollowed := true, recurses := true, named := ["internal/strconv.uint64pow10", "math/bits.deBruijn32tab", "math/bits.deBruijn64tab", "internal/bytealg.MaxLen"], apart := false, laid := [("math/bits.deBruijn32tab", laid_math_bits_deBruijn32tab), ("math/bits.deBruijn64tab", laid_math_bits_deBruijn64tab), ("internal/strconv.uint64pow10", laid_internal_strconv_uint64pow10)], narrowed := true }
def MatchGrowsUptoSaid : Prop := matchGrowsUptoRow.holds Tryd.pinned (OpenSpec.upto matchGrowsSpec)

/-- 'thermionlaw08.MatchMarks', WHERE WHAT IT READS IS OF BULK AT MOST 1048576: true; the input reads as it did. -/
def matchMarksUptoRow : OpenClaim := { program := "ytllbpnmhoblkgaadoor", sum := "997bc2e6c104bee873aa279a40e5f8dcde3d7172b032ad2844449bab755adcd3", func := "thermion/thermionlaw08.MatchMarks", spec := "matchMarks", inPlace := ["internal/abi.NoEscape", "internal/bytealg.MakeNoZero", "internal/bytealg.IndexByteString", "internal/bytealg.IndexString"], unfollowed := true, recurses := true, named := ["internal/strconv.uint64pow10", "math/bits.deBruijn32tab", "math/bits.deBruijn64tab", "unicode/utf8.first", "unicode/utf8.acceptRanges", "internal/bytealg.MaxLen"], apart := false, laid := [("math/bits.deBruijn32tab", laid_math_bits_deBruijn32tab), ("math/bits.deBruijn64tab", laid_math_bits_deBruijn64tab), ("internal/strconv.uint64pow10", laid_internal_strconv_uint64pow10), ("unicode/utf8.acceptRanges", laid_unicode_utf8_acceptRanges), ("unicode/utf8.first", laid_unicode_utf8_first)], narrowed := true }
def MatchMarksUptoSaid : Prop := matchMarksUptoRow.holds Tryd.pinned (OpenSpec.upto matchMarksSpec)

/-- 'thermionlaw08.MatchRead', WHERE WHAT IT READS IS OF BULK AT MOST 1048576: true; the input reads as it did. -/
def matchReadUptoRow : OpenClaim := { program := "ytllbpnmhoblkgaadoor", sum := "997bc2e6c104bee873aa279a40e5f8dcde3d7172b032ad2844449bab755adcd3", func := "thermion/thermionlaw08.MatchRead", spec := "matchRead", inPlace := ["internal/abi.NoEscape", "internal/bytealg.MakeNoZero", "internal/bytealg.IndexByteString", "internal/bytealg.IndexString"], unfollowed := true, recurses := true, named := ["internal/strconv.uint64pow10", "math/bits.deBruijn32tab", "math/bits.deBruijn64tab", "unicode/utf8.first", "unicode/utf8.acceptRanges", "internal/bytealg.MaxLen"], apart := false, laid := [("math/bits.deBruijn32tab", laid_math_bits_deBruijn32tab), ("math/bits.deBruijn64tab", laid_math_bits_deBruijn64tab), ("internal/strconv.uint64pow10", laid_internal_strconv_uint64pow10), ("unicode/utf8.acceptRanges", laid_unicode_utf8_acceptRanges), ("unicode/utf8.first", laid_unicode_utf8_first)], narrowed := true }
def MatchReadUptoSaid : Prop := matchReadUptoRow.holds Tryd.pinned (OpenSpec.upto matchReadSpec)

end Rows
end Go.Proofs.YtllbpnmhoblkgaaDoor
