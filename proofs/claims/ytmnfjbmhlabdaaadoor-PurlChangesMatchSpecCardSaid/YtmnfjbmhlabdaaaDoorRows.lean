/-
  NARROWER THAN 'FOR EVERY INPUT', by the rows' own cells (each row's printed sentence says how): PurlReadMatchesSpec: laid · PurlTextsComeBack: laid · PurlKindsMatchSpec: laid · PurlCanonicalMatchesSpec: laid · PurlChangesMatchSpec: laid · PurlSpellingsMatchAlike: laid · PurlDigestsMatchSpec: laid.
  DERIVED. THE GIVEN ROWS OF THIS SEAT. 7 by the template 'for every input the law returns true; each argument reads behind the call as it read before'; 0 by the template 'total and deterministic' (their statements: YtmnfjbmhlabdaaaDoorTotals.lean).
  GIVEN WITH THE SEED: the statements are not yours to turn. If you find one false, say at which input.
  Laid BY PROGRAM, IN A SANDBOX (cutbox-rows.mjs): the forced cells as the released guide's own fill.sh prints them over the translation 63ec025b154f8995… (all of the seat's roots in one cut). By AI agents, Wed Nov 11 2026. No macro, syntax, notation, axiom, sorry.
-/
import Derived.Test.YtmnfjbmhlabdaaaDoorChecked
import GoSem.PinnedTables
import GoSem.Claim
import GoSem.ClaimJoined
import GoSem.ClaimMapViews
import Derived.JoinedTies
import Derived.KernelRfl
namespace Go.Proofs.YtmnfjbmhlabdaaaDoor
/- THE CELL 'sum', in the pinned program and in every row, IS THE sha256 OF THE DUMP (.gsa) THAT YtmnfjbmhlabdaaaDoorProg.lean LOADS. Nothing in Lean hashes anything: it is a label: what it is worth is what the hold of that sum in a sandbox is worth. -/
noncomputable def Tryd.pinned : Pinned := { name := "ytmnfjbmhlabdaaadoor", sum := "63ec025b154f8995af1870a63dc9b6f5cf08774a75ad1879f7ec0ec1f0bd50bc", checked := Tryd.checked }
namespace Rows
def none {H : Type} : Left H := { results := [], args := [] }

/- WHAT THE LISTED PACKAGE-LEVEL VARIABLES READ AS WHEN THE CALL BEGINS. Each datum BY PROGRAM (the guide's laid-datum.mjs) off the statement by which the dump's own 'gosem.cut.vars' lays the variable. In a bare row this is a premise. The card (YtmnfjbmhlabdaaaDoorCards.lean) ties it to the program's text. -/
def laid_unicode_utf8_acceptRanges {H : Type} : DataW H := .agg [.agg [.lit (.int .u8 128), .lit (.int .u8 191)], .agg [.lit (.int .u8 160), .lit (.int .u8 191)], .agg [.lit (.int .u8 128), .lit (.int .u8 159)], .agg [.lit (.int .u8 144), .lit (.int .u8 191)], .agg [.lit (.int .u8 128), .lit (.int .u8 143)], .agg [.lit (.int .u8 0), .lit (.int .u8 0)], .agg [.lit (.int .u8 0), .lit (.int .u8 0)], .agg [.lit (.int .u8 0), .lit (.int .u8 0)], .agg [.lit (.int .u8 0), .lit (.int .u8 0)], .agg [.lit (.int .u8 0), .lit (.int .u8 0)], .agg [.lit (.int .u8 0), .lit (.int .u8 0)], .agg [.lit (.int .u8 0), .lit (.int .u8 0)], .agg [.lit (.int .u8 0), .lit (.int .u8 0)], .agg [.lit (.int .u8 0), .lit (.int .u8 0)], .agg [.lit (.int .u8 0), .lit (.int .u8 0)], .agg [.lit (.int .u8 0), .lit (.int .u8 0)]]
/-- One of Go's own tables, pinned by name: the form's constant. -/
def laid_unicode_utf8_first : DataW Unit := Go.Pinned.utf8First
def laid_math_bits_deBruijn32tab {H : Type} : DataW H := .agg [.lit (.int .u8 0), .lit (.int .u8 1), .lit (.int .u8 28), .lit (.int .u8 2), .lit (.int .u8 29), .lit (.int .u8 14), .lit (.int .u8 24), .lit (.int .u8 3), .lit (.int .u8 30), .lit (.int .u8 22), .lit (.int .u8 20), .lit (.int .u8 15), .lit (.int .u8 25), .lit (.int .u8 17), .lit (.int .u8 4), .lit (.int .u8 8), .lit (.int .u8 31), .lit (.int .u8 27), .lit (.int .u8 13), .lit (.int .u8 23), .lit (.int .u8 21), .lit (.int .u8 19), .lit (.int .u8 16), .lit (.int .u8 7), .lit (.int .u8 26), .lit (.int .u8 12), .lit (.int .u8 18), .lit (.int .u8 6), .lit (.int .u8 11), .lit (.int .u8 5), .lit (.int .u8 10), .lit (.int .u8 9)]
def laid_math_bits_deBruijn64tab {H : Type} : DataW H := .agg [.lit (.int .u8 0), .lit (.int .u8 1), .lit (.int .u8 56), .lit (.int .u8 2), .lit (.int .u8 57), .lit (.int .u8 49), .lit (.int .u8 28), .lit (.int .u8 3), .lit (.int .u8 61), .lit (.int .u8 58), .lit (.int .u8 42), .lit (.int .u8 50), .lit (.int .u8 38), .lit (.int .u8 29), .lit (.int .u8 17), .lit (.int .u8 4), .lit (.int .u8 62), .lit (.int .u8 47), .lit (.int .u8 59), .lit (.int .u8 36), .lit (.int .u8 45), .lit (.int .u8 43), .lit (.int .u8 51), .lit (.int .u8 22), .lit (.int .u8 53), .lit (.int .u8 39), .lit (.int .u8 33), .lit (.int .u8 30), .lit (.int .u8 24), .lit (.int .u8 18), .lit (.int .u8 12), .lit (.int .u8 5), .lit (.int .u8 63), .lit (.int .u8 55), .lit (.int .u8 48), .lit (.int .u8 27), .lit (.int .u8 60), .lit (.int .u8 41), .lit (.int .u8 37), .lit (.int .u8 16), .lit (.int .u8 46), .lit (.int .u8 35), .lit (.int .u8 44), .lit (.int .u8 21), .lit (.int .u8 52), .lit (.int .u8 32), .lit (.int .u8 23), .lit (.int .u8 11), .lit (.int .u8 54), .lit (.int .u8 26), .lit (.int .u8 40), .lit (.int .u8 15), .lit (.int .u8 34), .lit (.int .u8 20), .lit (.int .u8 31), .lit (.int .u8 10), .lit (.int .u8 25), .lit (.int .u8 14), .lit (.int .u8 19), .lit (.int .u8 9), .lit (.int .u8 13), .lit (.int .u8 8), .lit (.int .u8 7), .lit (.int .u8 6)]
def laid_internal_strconv_uint64pow10 {H : Type} : DataW H := .agg [.lit (.int .u64 1), .lit (.int .u64 10), .lit (.int .u64 100), .lit (.int .u64 1000), .lit (.int .u64 10000), .lit (.int .u64 100000), .lit (.int .u64 1000000), .lit (.int .u64 10000000), .lit (.int .u64 100000000), .lit (.int .u64 1000000000), .lit (.int .u64 10000000000), .lit (.int .u64 100000000000), .lit (.int .u64 1000000000000), .lit (.int .u64 10000000000000), .lit (.int .u64 100000000000000), .lit (.int .u64 1000000000000000), .lit (.int .u64 10000000000000000), .lit (.int .u64 100000000000000000), .lit (.int .u64 1000000000000000000), .lit (.int .u64 10000000000000000000)]

/-- 'provenderlaw2.PurlReadMatchesSpec': WHATEVER THE INPUT: true; the input reads as it did. -/
def purlReadMatchesSpecSpec : ChangeSpec := { name := "purlReadMatchesSpec", fn := fun _ => fun
  | [d] => { results := [.lit (.bool true)], args := [d] }
  | _ => none }
def purlReadMatchesSpecRow : OpenClaim := { program := "ytmnfjbmhlabdaaadoor", sum := "63ec025b154f8995af1870a63dc9b6f5cf08774a75ad1879f7ec0ec1f0bd50bc", func := "provender/provenderlaw2.PurlReadMatchesSpec", spec := "purlReadMatchesSpec", inPlace := ["internal/bytealg.IndexByteString", "internal/abi.NoEscape", "internal/bytealg.MakeNoZero", "internal/bytealg.CountString", "internal/bytealg.IndexString"], unfollowed := true, recurses := true, named := ["unicode/utf8.first", "unicode/utf8.acceptRanges", "internal/bytealg.MaxLen"], plainKeys := false, apart := false, laid := [("unicode/utf8.acceptRanges", laid_unicode_utf8_acceptRanges), ("unicode/utf8.first", laid_unicode_utf8_first)] }
def PurlReadMatchesSpecSaid : Prop := purlReadMatchesSpecRow.holds Tryd.pinned (OpenSpec.ofChange purlReadMatchesSpecSpec)

/-- ITS FALSE NEIGHBOUR: 'it returns false'. Refute it at one input. -/
def purlReadMatchesSpecWrong : ChangeSpec := { name := "purlReadMatchesSpec", fn := fun _ => fun
  | [d] => { results := [.lit (.bool false)], args := [d] }
  | _ => none }
def PurlReadMatchesSpecWrongFalsely : Prop := purlReadMatchesSpecRow.holds Tryd.pinned (OpenSpec.ofChange purlReadMatchesSpecWrong)

/-- 'provenderlaw2.PurlTextsComeBack': WHATEVER THE INPUT: true; the input reads as it did. -/
def purlTextsComeBackSpec : ChangeSpec := { name := "purlTextsComeBack", fn := fun _ => fun
  | [d1, d2] => { results := [.lit (.bool true)], args := [d1, d2] }
  | _ => none }
def purlTextsComeBackRow : OpenClaim := { program := "ytmnfjbmhlabdaaadoor", sum := "63ec025b154f8995af1870a63dc9b6f5cf08774a75ad1879f7ec0ec1f0bd50bc", func := "provender/provenderlaw2.PurlTextsComeBack", spec := "purlTextsComeBack", inPlace := ["internal/bytealg.CountString", "internal/bytealg.IndexByteString", "internal/bytealg.IndexString", "internal/abi.NoEscape", "internal/bytealg.MakeNoZero"], unfollowed := true, recurses := true, named := ["unicode/utf8.first", "unicode/utf8.acceptRanges", "internal/bytealg.MaxLen"], plainKeys := false, apart := false, laid := [("unicode/utf8.acceptRanges", laid_unicode_utf8_acceptRanges), ("unicode/utf8.first", laid_unicode_utf8_first)] }
def PurlTextsComeBackSaid : Prop := purlTextsComeBackRow.holds Tryd.pinned (OpenSpec.ofChange purlTextsComeBackSpec)

/-- ITS FALSE NEIGHBOUR: 'it returns false'. Refute it at one input. -/
def purlTextsComeBackWrong : ChangeSpec := { name := "purlTextsComeBack", fn := fun _ => fun
  | [d1, d2] => { results := [.lit (.bool false)], args := [d1, d2] }
  | _ => none }
def PurlTextsComeBackWrongFalsely : Prop := purlTextsComeBackRow.holds Tryd.pinned (OpenSpec.ofChange purlTextsComeBackWrong)

/-- 'provenderlaw2.PurlKindsMatchSpec': WHATEVER THE INPUT: true; the input reads as it did. -/
def purlKindsMatchSpecSpec : ChangeSpec := { name := "purlKindsMatchSpec", fn := fun _ => fun
  | [d] => { results := [.lit (.bool true)], args := [d] }
  | _ => none }
def purlKindsMatchSpecRow : OpenClaim := { program := "ytmnfjbmhlabdaaadoor", sum := "63ec025b154f8995af1870a63dc9b6f5cf08774a75ad1879f7ec0ec1f0bd50bc", func := "provender/provenderlaw2.PurlKindsMatchSpec", spec := "purlKindsMatchSpec", inPlace := ["internal/bytealg.IndexByteString", "internal/abi.NoEscape", "internal/bytealg.MakeNoZero", "internal/bytealg.CountString", "internal/bytealg.IndexString"], unfollowed := true, recurses := true, named := ["unicode/utf8.first", "unicode/utf8.acceptRanges", "internal/bytealg.MaxLen"], plainKeys := false, apart := false, laid := [("unicode/utf8.acceptRanges", laid_unicode_utf8_acceptRanges), ("unicode/utf8.first", laid_unicode_utf8_first)] }
def PurlKindsMatchSpecSaid : Prop := purlKindsMatchSpecRow.holds Tryd.pinned (OpenSpec.ofChange purlKindsMatchSpecSpec)

/-- ITS FALSE NEIGHBOUR: 'it returns false'. Refute it at one input. -/
def purlKindsMatchSpecWrong : ChangeSpec := { name := "purlKindsMatchSpec", fn := fun _ => fun
  | [d] => { results := [.lit (.bool false)], args := [d] }
  | _ => none }
def PurlKindsMatchSpecWrongFalsely : Prop := purlKindsMatchSpecRow.holds Tryd.pinned (OpenSpec.ofChange purlKindsMatchSpecWrong)

/-- 'provenderlaw2.PurlCanonicalMatchesSpec': WHATEVER THE INPUT: true; the input reads as it did. -/
def purlCanonicalMatchesSpecSpec : ChangeSpec := { name := "purlCanonicalMatchesSpec", fn := fun _ => fun
  | [d] => { results := [.lit (.bool true)], args := [d] }
  | _ => none }
def purlCanonicalMatchesSpecRow : OpenClaim := { program := "ytmnfjbmhlabdaaadoor", sum := "63ec025b154f8995af1870a63dc9b6f5cf08774a75ad1879f7ec0ec1f0bd50bc", func := "provender/provenderlaw2.PurlCanonicalMatchesSpec", spec := "purlCanonicalMatchesSpec", inPlace := ["internal/bytealg.CountString", "internal/bytealg.IndexByteString", "internal/bytealg.IndexString", "internal/abi.NoEscape", "internal/bytealg.MakeNoZero"], unfollowed := true, recurses := true, named := ["unicode/utf8.first", "unicode/utf8.acceptRanges", "internal/bytealg.MaxLen"], plainKeys := false, apart := false, laid := [("unicode/utf8.acceptRanges", laid_unicode_utf8_acceptRanges), ("unicode/utf8.first", laid_unicode_utf8_first)] }
def PurlCanonicalMatchesSpecSaid : Prop := purlCanonicalMatchesSpecRow.holds Tryd.pinned (OpenSpec.ofChange purlCanonicalMatchesSpecSpec)

/-- ITS FALSE NEIGHBOUR: 'it returns false'. Refute it at one input. -/
def purlCanonicalMatchesSpecWrong : ChangeSpec := { name := "purlCanonicalMatchesSpec", fn := fun _ => fun
  | [d] => { results := [.lit (.bool false)], args := [d] }
  | _ => none }
def PurlCanonicalMatchesSpecWrongFalsely : Prop := purlCanonicalMatchesSpecRow.holds Tryd.pinned (OpenSpec.ofChange purlCanonicalMatchesSpecWrong)

/-- 'provenderlaw2.PurlChangesMatchSpec': WHATEVER THE INPUT: true; the input reads as it did. -/
def purlChangesMatchSpecSpec : ChangeSpec := { name := "purlChangesMatchSpec", fn := fun _ => fun
  | [d1, d2, d3, d4] => { results := [.lit (.bool true)], args := [d1, d2, d3, d4] }
  | _ => none }
def purlChangesMatchSpecRow : OpenClaim := { program := "ytmnfjbmhlabdaaadoor", sum := "63ec025b154f8995af1870a63dc9b6f5cf08774a75ad1879f7ec0ec1f0bd50bc", func := "provender/provenderlaw2.PurlChangesMatchSpec", spec := "purlChangesMatchSpec", inPlace := ["internal/bytealg.CountString", "internal/bytealg.IndexByteString", "internal/bytealg.IndexString", "internal/abi.NoEscape", "slices.overlaps[provender/api.Pair]", "internal/bytealg.MakeNoZero"], unfollowed := true, recurses := true, named := ["unicode/utf8.first", "unicode/utf8.acceptRanges", "internal/bytealg.MaxLen"], plainKeys := false, apart := false, laid := [("unicode/utf8.acceptRanges", laid_unicode_utf8_acceptRanges), ("unicode/utf8.first", laid_unicode_utf8_first)] }
def PurlChangesMatchSpecSaid : Prop := purlChangesMatchSpecRow.holds Tryd.pinned (OpenSpec.ofChange purlChangesMatchSpecSpec)

/-- ITS FALSE NEIGHBOUR: 'it returns false'. Refute it at one input. -/
def purlChangesMatchSpecWrong : ChangeSpec := { name := "purlChangesMatchSpec", fn := fun _ => fun
  | [d1, d2, d3, d4] => { results := [.lit (.bool false)], args := [d1, d2, d3, d4] }
  | _ => none }
def PurlChangesMatchSpecWrongFalsely : Prop := purlChangesMatchSpecRow.holds Tryd.pinned (OpenSpec.ofChange purlChangesMatchSpecWrong)

/-- 'provenderlaw2.PurlSpellingsMatchAlike': WHATEVER THE INPUT: true; the input reads as it did. -/
def purlSpellingsMatchAlikeSpec : ChangeSpec := { name := "purlSpellingsMatchAlike", fn := fun _ => fun
  | [d1, d2] => { results := [.lit (.bool true)], args := [d1, d2] }
  | _ => none }
def purlSpellingsMatchAlikeRow : OpenClaim := { program := "ytmnfjbmhlabdaaadoor", sum := "63ec025b154f8995af1870a63dc9b6f5cf08774a75ad1879f7ec0ec1f0bd50bc", func := "provender/provenderlaw2.PurlSpellingsMatchAlike", spec := "purlSpellingsMatchAlike", inPlace := ["internal/bytealg.CountString", "internal/bytealg.IndexByteString", "internal/bytealg.IndexString", "internal/abi.NoEscape", "internal/bytealg.MakeNoZero"], unfollowed := true, recurses := true, named := ["unicode/utf8.first", "unicode/utf8.acceptRanges", "internal/bytealg.MaxLen"], plainKeys := false, apart := false, laid := [("unicode/utf8.acceptRanges", laid_unicode_utf8_acceptRanges), ("unicode/utf8.first", laid_unicode_utf8_first)] }
def PurlSpellingsMatchAlikeSaid : Prop := purlSpellingsMatchAlikeRow.holds Tryd.pinned (OpenSpec.ofChange purlSpellingsMatchAlikeSpec)

/-- ITS FALSE NEIGHBOUR: 'it returns false'. Refute it at one input. -/
def purlSpellingsMatchAlikeWrong : ChangeSpec := { name := "purlSpellingsMatchAlike", fn := fun _ => fun
  | [d1, d2] => { results := [.lit (.bool false)], args := [d1, d2] }
  | _ => none }
def PurlSpellingsMatchAlikeWrongFalsely : Prop := purlSpellingsMatchAlikeRow.holds Tryd.pinned (OpenSpec.ofChange purlSpellingsMatchAlikeWrong)

/-- 'provenderlaw2.PurlDigestsMatchSpec': WHATEVER THE INPUT: true; the input reads as it did. -/
def purlDigestsMatchSpecSpec : ChangeSpec := { name := "purlDigestsMatchSpec", fn := fun _ => fun
  | [d1, d2, d3] => { results := [.lit (.bool true)], args := [d1, d2, d3] }
  | _ => none }
def purlDigestsMatchSpecRow : OpenClaim := { program := "ytmnfjbmhlabdaaadoor", sum := "63ec025b154f8995af1870a63dc9b6f5cf08774a75ad1879f7ec0ec1f0bd50bc", func := "provender/provenderlaw2.PurlDigestsMatchSpec", spec := "purlDigestsMatchSpec", inPlace := ["internal/abi.NoEscape", "internal/bytealg.MakeNoZero", "internal/bytealg.IndexByteString", "internal/bytealg.CountString", "internal/bytealg.IndexString"], unfollowed := true, recurses := true, named := ["internal/strconv.uint64pow10", "math/bits.deBruijn32tab", "math/bits.deBruijn64tab", "unicode/utf8.first", "unicode/utf8.acceptRanges", "internal/bytealg.MaxLen"], plainKeys := false, apart := false, laid := [("math/bits.deBruijn32tab", laid_math_bits_deBruijn32tab), ("math/bits.deBruijn64tab", laid_math_bits_deBruijn64tab), ("internal/strconv.uint64pow10", laid_internal_strconv_uint64pow10), ("unicode/utf8.acceptRanges", laid_unicode_utf8_acceptRanges), ("unicode/utf8.first", laid_unicode_utf8_first)] }
def PurlDigestsMatchSpecSaid : Prop := purlDigestsMatchSpecRow.holds Tryd.pinned (OpenSpec.ofChange purlDigestsMatchSpecSpec)

/-- ITS FALSE NEIGHBOUR: 'it returns false'. Refute it at one input. -/
def purlDigestsMatchSpecWrong : ChangeSpec := { name := "purlDigestsMatchSpec", fn := fun _ => fun
  | [d1, d2, d3] => { results := [.lit (.bool false)], args := [d1, d2, d3] }
  | _ => none }
def PurlDigestsMatchSpecWrongFalsely : Prop := purlDigestsMatchSpecRow.holds Tryd.pinned (OpenSpec.ofChange purlDigestsMatchSpecWrong)

/- THE SECOND FORM. 'bulk': how many values and letters a reading holds, each counted each time it is reached (what is shared counts as often as it is met; a slice's spare places count too). A statement '..UptoSaid' is the law's where the arguments, and the package variables that the reading takes, are together of bulk at most 1048576: NARROWER than '..Said'. Prove '..Said' where nothing that the law and all that it calls make is longer than what came in: it says more and counts as full. Else prove '..UptoSaid'. A law counts once. -/
mutual
def uptoBulk {H : Type} : DataW H → Nat
  | .lit (.string bytes) => bytes.length + 1
  | .lit _ => 1
  | .nil => 1
  | .ptr d => uptoBulk d + 1
  | .slice elems spare => uptoBulkAll elems + uptoBulkAll spare + 1
  | .agg parts => uptoBulkAll parts + 1
  | .iface _ d => uptoBulk d + 1
  | .map entries => uptoBulkEntries entries + 1
  | .held _ => 1
def uptoBulkAll {H : Type} : List (DataW H) → Nat
  | [] => 0
  | d :: r => uptoBulk d + uptoBulkAll r
def uptoBulkEntries {H : Type} : List (Lit × DataW H) → Nat
  | [] => 0
  | x :: r => uptoBulkEntry x + uptoBulkEntries r
def uptoBulkEntry {H : Type} : Lit × DataW H → Nat
  | (.string bytes, d) => bytes.length + uptoBulk d + 1
  | (_, d) => uptoBulk d + 1
 end
def uptoSmall : (H : Type) → List (DataW H) → Bool := fun _ ds => decide (uptoBulkAll ds ≤ 1048576)
def OpenSpec.upto (s : _root_.Go.ChangeSpec) : _root_.Go.OpenSpec := { _root_.Go.OpenSpec.ofChange s with cond := some uptoSmall }

/-- 'provenderlaw2.PurlReadMatchesSpec', WHERE WHAT IT READS IS OF BULK AT MOST 1048576: true; the input reads as it did. -/
def purlReadMatchesSpecUptoRow : OpenClaim := { program := "ytmnfjbmhlabdaaadoor", sum := "63ec025b154f8995af1870a63dc9b6f5cf08774a75ad1879f7ec0ec1f0bd50bc", func := "provender/provenderlaw2.PurlReadMatchesSpec", spec := "purlReadMatchesSpec", inPlace := ["internal/bytealg.IndexByteString", "internal/abi.NoEscape", "internal/bytealg.MakeNoZero", "internal/bytealg.CountString", "internal/bytealg.IndexString"], unfollowed := true, recurses := true, named := ["unicode/utf8.first", "unicode/utf8.acceptRanges", "internal/bytealg.MaxLen"], plainKeys := false, apart := false, laid := [("unicode/utf8.acceptRanges", laid_unicode_utf8_acceptRanges), ("unicode/utf8.first", laid_unicode_utf8_first)], narrowed := true }
def PurlReadMatchesSpecUptoSaid : Prop := purlReadMatchesSpecUptoRow.holds Tryd.pinned (OpenSpec.upto purlReadMatchesSpecSpec)

/-- 'provenderlaw2.PurlTextsComeBack', WHERE WHAT IT READS IS OF BULK AT MOST 1048576: true; the input reads as it did. -/
def purlTextsComeBackUptoRow : OpenClaim := { program := "ytmnfjbmhlabdaaadoor", sum := "63ec025b154f8995af1870a63dc9b6f5cf08774a75ad1879f7ec0ec1f0bd50bc", func := "provender/provenderlaw2.PurlTextsComeBack", spec := "purlTextsComeBack", inPlace := ["internal/bytealg.CountString", "internal/bytealg.IndexByteString", "internal/bytealg.IndexString", "internal/abi.NoEscape", "internal/bytealg.MakeNoZero"], unfollowed := true, recurses := true, named := ["unicode/utf8.first", "unicode/utf8.acceptRanges", "internal/bytealg.MaxLen"], plainKeys := false, apart := false, laid := [("unicode/utf8.acceptRanges", laid_unicode_utf8_acceptRanges), ("unicode/utf8.first", laid_unicode_utf8_first)], narrowed := true }
def PurlTextsComeBackUptoSaid : Prop := purlTextsComeBackUptoRow.holds Tryd.pinned (OpenSpec.upto purlTextsComeBackSpec)

/-- 'provenderlaw2.PurlKindsMatchSpec', WHERE WHAT IT READS IS OF BULK AT MOST 1048576: true; the input reads as it did. -/
def purlKindsMatchSpecUptoRow : OpenClaim := { program := "ytmnfjbmhlabdaaadoor", sum := "63ec025b154f8995af1870a63dc9b6f5cf08774a75ad1879f7ec0ec1f0bd50bc", func := "provender/provenderlaw2.PurlKindsMatchSpec", spec := "purlKindsMatchSpec", inPlace := ["internal/bytealg.IndexByteString", "internal/abi.NoEscape", "internal/bytealg.MakeNoZero", "internal/bytealg.CountString", "internal/bytealg.IndexString"], unfollowed := true, recurses := true, named := ["unicode/utf8.first", "unicode/utf8.acceptRanges", "internal/bytealg.MaxLen"], plainKeys := false, apart := false, laid := [("unicode/utf8.acceptRanges", laid_unicode_utf8_acceptRanges), ("unicode/utf8.first", laid_unicode_utf8_first)], narrowed := true }
def PurlKindsMatchSpecUptoSaid : Prop := purlKindsMatchSpecUptoRow.holds Tryd.pinned (OpenSpec.upto purlKindsMatchSpecSpec)

/-- 'provenderlaw2.PurlCanonicalMatchesSpec', WHERE WHAT IT READS IS OF BULK AT MOST 1048576: true; the input reads as it did. -/
def purlCanonicalMatchesSpecUptoRow : OpenClaim := { program := "ytmnfjbmhlabdaaadoor", sum := "63ec025b154f8995af1870a63dc9b6f5cf08774a75ad1879f7ec0ec1f0bd50bc", func := "provender/provenderlaw2.PurlCanonicalMatchesSpec", spec := "purlCanonicalMatchesSpec", inPlace := ["internal/bytealg.CountString", "internal/bytealg.IndexByteString", "internal/bytealg.IndexString", "internal/abi.NoEscape", "internal/bytealg.MakeNoZero"], unfollowed := true, recurses := true, named := ["unicode/utf8.first", "unicode/utf8.acceptRanges", "internal/bytealg.MaxLen"], plainKeys := false, apart := false, laid := [("unicode/utf8.acceptRanges", laid_unicode_utf8_acceptRanges), ("unicode/utf8.first", laid_unicode_utf8_first)], narrowed := true }
def PurlCanonicalMatchesSpecUptoSaid : Prop := purlCanonicalMatchesSpecUptoRow.holds Tryd.pinned (OpenSpec.upto purlCanonicalMatchesSpecSpec)

/-- 'provenderlaw2.PurlChangesMatchSpec', WHERE WHAT IT READS IS OF BULK AT MOST 1048576: true; the input reads as it did. -/
def purlChangesMatchSpecUptoRow : OpenClaim := { program := "ytmnfjbmhlabdaaadoor", sum := "63ec025b154f8995af1870a63dc9b6f5cf08774a75ad1879f7ec0ec1f0bd50bc", func := "provender/provenderlaw2.PurlChangesMatchSpec", spec := "purlChangesMatchSpec", inPlace := ["internal/bytealg.CountString", "internal/bytealg.IndexByteString", "internal/bytealg.IndexString", "internal/abi.NoEscape", "slices.overlaps[provender/api.Pair]", "internal/bytealg.MakeNoZero"], unfollowed := true, recurses := true, named := ["unicode/utf8.first", "unicode/utf8.acceptRanges", "internal/bytealg.MaxLen"], plainKeys := false, apart := false, laid := [("unicode/utf8.acceptRanges", laid_unicode_utf8_acceptRanges), ("unicode/utf8.first", laid_unicode_utf8_first)], narrowed := true }
def PurlChangesMatchSpecUptoSaid : Prop := purlChangesMatchSpecUptoRow.holds Tryd.pinned (OpenSpec.upto purlChangesMatchSpecSpec)

/-- 'provenderlaw2.PurlSpellingsMatchAlike', WHERE WHAT IT READS IS OF BULK AT MOST 1048576: true; the input reads as it did. -/
def purlSpellingsMatchAlikeUptoRow : OpenClaim := { program := "ytmnfjbmhlabdaaadoor", sum := "63ec025b154f8995af1870a63dc9b6f5cf08774a75ad1879f7ec0ec1f0bd50bc", func := "provender/provenderlaw2.PurlSpellingsMatchAlike", spec := "purlSpellingsMatchAlike", inPlace := ["internal/bytealg.CountString", "internal/bytealg.IndexByteString", "internal/bytealg.IndexString", "internal/abi.NoEscape", "internal/bytealg.MakeNoZero"], unfollowed := true, recurses := true, named := ["unicode/utf8.first", "unicode/utf8.acceptRanges", "internal/bytealg.MaxLen"], plainKeys := false, apart := false, laid := [("unicode/utf8.acceptRanges", laid_unicode_utf8_acceptRanges), ("unicode/utf8.first", laid_unicode_utf8_first)], narrowed := true }
def PurlSpellingsMatchAlikeUptoSaid : Prop := purlSpellingsMatchAlikeUptoRow.holds Tryd.pinned (OpenSpec.upto purlSpellingsMatchAlikeSpec)

/-- 'provenderlaw2.PurlDigestsMatchSpec', WHERE WHAT IT READS IS OF BULK AT MOST 1048576: true; the input reads as it did. -/
def purlDigestsMatchSpecUptoRow : OpenClaim := { program := "ytmnfjbmhlabdaaadoor", sum := "63ec025b154f8995af1870a63dc9b6f5cf08774a75ad1879f7ec0ec1f0bd50bc", func := "provender/provenderlaw2.PurlDigestsMatchSpec", spec := "purlDigestsMatchSpec", inPlace := ["internal/abi.NoEscape", "internal/bytealg.MakeNoZero", "internal/bytealg.IndexByteString", "internal/bytealg.CountString", "internal/bytealg.IndexString"], unfollowed := true, recurses := true, named := ["internal/strconv.uint64pow10", "math/bits.deBruijn32tab", "math/bits.deBruijn64tab", "unicode/utf8.first", "unicode/utf8.acceptRanges", "internal/bytealg.MaxLen"], plainKeys := false, apart := false, laid := [("math/bits.deBruijn32tab", laid_math_bits_deBruijn32tab), ("math/bits.deBruijn64tab", laid_math_bits_deBruijn64tab), ("internal/strconv.uint64pow10", laid_internal_strconv_uint64pow10), ("unicode/utf8.acceptRanges", laid_unicode_utf8_acceptRanges), ("unicode/utf8.first", laid_unicode_utf8_first)], narrowed := true }
def PurlDigestsMatchSpecUptoSaid : Prop := purlDigestsMatchSpecUptoRow.holds Tryd.pinned (OpenSpec.upto purlDigestsMatchSpecSpec)

end Rows
end Go.Proofs.YtmnfjbmhlabdaaaDoor
