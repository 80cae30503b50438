/-
  NARROWER THAN 'FOR EVERY INPUT', by the rows' own cells (each row's printed sentence says how): AttestKeysMatchSpec: laid · AttestSignaturesHold: laid · AttestHeadsMatchSpec: laid · AttestProofsMatchSpec: laid · AttestRootsMatchSpec: laid · AttestLogMatchesSpec: laid · AttestLinksMatchSpec: laid · AttestProofsHold: laid · AttestLayoutsMatchSpec: laid.
  DERIVED. THE GIVEN ROWS OF THIS SEAT. 9 by the template 'for every input the law returns true; each argument reads behind the call as it read before'; 0 by the template 'total and deterministic' (their statements: YtdmmglihkdkeaaaDoorTotals.lean).
  GIVEN WITH THE SEED: the statements are not yours to turn. If you find one false, say at which input.
  Laid BY PROGRAM, IN A SANDBOX (cutbox-rows.mjs): the forced cells as the released guide's own fill.sh prints them over the translation 14bcfafd1acbf7ee… (all of the seat's roots in one cut). By AI agents, Wed Nov 11 2026. No macro, syntax, notation, axiom, sorry.
-/
import Derived.Test.YtdmmglihkdkeaaaDoorChecked
import GoSem.Claim
import GoSem.ClaimJoined
import GoSem.ClaimMapViews
import Derived.JoinedTies
import Derived.KernelRfl
namespace Go.Proofs.YtdmmglihkdkeaaaDoor
/- THE CELL 'sum', in the pinned program and in every row, IS THE sha256 OF THE DUMP (.gsa) THAT YtdmmglihkdkeaaaDoorProg.lean LOADS. Nothing in Lean hashes anything: it is a label: what it is worth is what the hold of that sum in a sandbox is worth. -/
noncomputable def Tryd.pinned : Pinned := { name := "ytdmmglihkdkeaaadoor", sum := "14bcfafd1acbf7ee3c5a7cb2745d3b91be87dbbd1e34b6ee20dfd10508616ecb", checked := Tryd.checked }
namespace Rows
def none {H : Type} : Left H := { results := [], args := [] }

/- WHAT THE LISTED PACKAGE-LEVEL VARIABLES READ AS WHEN THE CALL BEGINS. Each datum BY PROGRAM (the guide's laid-datum.mjs) off the statement by which the dump's own 'gosem.cut.vars' lays the variable. In a bare row this is a premise. The card (YtdmmglihkdkeaaaDoorCards.lean) ties it to the program's text. -/
def laid_math_bits_deBruijn32tab {H : Type} : DataW H := .agg [.lit (.int .u8 0), .lit (.int .u8 1), .lit (.int .u8 28), .lit (.int .u8 2), .lit (.int .u8 29), .lit (.int .u8 14), .lit (.int .u8 24), .lit (.int .u8 3), .lit (.int .u8 30), .lit (.int .u8 22), .lit (.int .u8 20), .lit (.int .u8 15), .lit (.int .u8 25), .lit (.int .u8 17), .lit (.int .u8 4), .lit (.int .u8 8), .lit (.int .u8 31), .lit (.int .u8 27), .lit (.int .u8 13), .lit (.int .u8 23), .lit (.int .u8 21), .lit (.int .u8 19), .lit (.int .u8 16), .lit (.int .u8 7), .lit (.int .u8 26), .lit (.int .u8 12), .lit (.int .u8 18), .lit (.int .u8 6), .lit (.int .u8 11), .lit (.int .u8 5), .lit (.int .u8 10), .lit (.int .u8 9)]
def laid_math_bits_deBruijn64tab {H : Type} : DataW H := .agg [.lit (.int .u8 0), .lit (.int .u8 1), .lit (.int .u8 56), .lit (.int .u8 2), .lit (.int .u8 57), .lit (.int .u8 49), .lit (.int .u8 28), .lit (.int .u8 3), .lit (.int .u8 61), .lit (.int .u8 58), .lit (.int .u8 42), .lit (.int .u8 50), .lit (.int .u8 38), .lit (.int .u8 29), .lit (.int .u8 17), .lit (.int .u8 4), .lit (.int .u8 62), .lit (.int .u8 47), .lit (.int .u8 59), .lit (.int .u8 36), .lit (.int .u8 45), .lit (.int .u8 43), .lit (.int .u8 51), .lit (.int .u8 22), .lit (.int .u8 53), .lit (.int .u8 39), .lit (.int .u8 33), .lit (.int .u8 30), .lit (.int .u8 24), .lit (.int .u8 18), .lit (.int .u8 12), .lit (.int .u8 5), .lit (.int .u8 63), .lit (.int .u8 55), .lit (.int .u8 48), .lit (.int .u8 27), .lit (.int .u8 60), .lit (.int .u8 41), .lit (.int .u8 37), .lit (.int .u8 16), .lit (.int .u8 46), .lit (.int .u8 35), .lit (.int .u8 44), .lit (.int .u8 21), .lit (.int .u8 52), .lit (.int .u8 32), .lit (.int .u8 23), .lit (.int .u8 11), .lit (.int .u8 54), .lit (.int .u8 26), .lit (.int .u8 40), .lit (.int .u8 15), .lit (.int .u8 34), .lit (.int .u8 20), .lit (.int .u8 31), .lit (.int .u8 10), .lit (.int .u8 25), .lit (.int .u8 14), .lit (.int .u8 19), .lit (.int .u8 9), .lit (.int .u8 13), .lit (.int .u8 8), .lit (.int .u8 7), .lit (.int .u8 6)]
def laid_internal_strconv_uint64pow10 {H : Type} : DataW H := .agg [.lit (.int .u64 1), .lit (.int .u64 10), .lit (.int .u64 100), .lit (.int .u64 1000), .lit (.int .u64 10000), .lit (.int .u64 100000), .lit (.int .u64 1000000), .lit (.int .u64 10000000), .lit (.int .u64 100000000), .lit (.int .u64 1000000000), .lit (.int .u64 10000000000), .lit (.int .u64 100000000000), .lit (.int .u64 1000000000000), .lit (.int .u64 10000000000000), .lit (.int .u64 100000000000000), .lit (.int .u64 1000000000000000), .lit (.int .u64 10000000000000000), .lit (.int .u64 100000000000000000), .lit (.int .u64 1000000000000000000), .lit (.int .u64 10000000000000000000)]

/-- 'provenderlaw8.AttestKeysMatchSpec': WHATEVER THE INPUT: true; the input reads as it did. -/
def attestKeysMatchSpecSpec : ChangeSpec := { name := "attestKeysMatchSpec", fn := fun _ => fun
  | [d1, d2, d3, d4, d5] => { results := [.lit (.bool true)], args := [d1, d2, d3, d4, d5] }
  | _ => none }
def attestKeysMatchSpecRow : OpenClaim := { program := "ytdmmglihkdkeaaadoor", sum := "14bcfafd1acbf7ee3c5a7cb2745d3b91be87dbbd1e34b6ee20dfd10508616ecb", func := "provender/provenderlaw8.AttestKeysMatchSpec", spec := "attestKeysMatchSpec", inPlace := ["internal/abi.NoEscape", "internal/bytealg.MakeNoZero"], named := ["internal/strconv.uint64pow10", "math/bits.deBruijn32tab", "math/bits.deBruijn64tab"], apart := false, laid := [("math/bits.deBruijn32tab", laid_math_bits_deBruijn32tab), ("math/bits.deBruijn64tab", laid_math_bits_deBruijn64tab), ("internal/strconv.uint64pow10", laid_internal_strconv_uint64pow10)] }
def AttestKeysMatchSpecSaid : Prop := attestKeysMatchSpecRow.holds Tryd.pinned (OpenSpec.ofChange attestKeysMatchSpecSpec)

/-- ITS FALSE NEIGHBOUR: 'it returns false'. Refute it at one input. -/
def attestKeysMatchSpecWrong : ChangeSpec := { name := "attestKeysMatchSpec", fn := fun _ => fun
  | [d1, d2, d3, d4, d5] => { results := [.lit (.bool false)], args := [d1, d2, d3, d4, d5] }
  | _ => none }
def AttestKeysMatchSpecWrongFalsely : Prop := attestKeysMatchSpecRow.holds Tryd.pinned (OpenSpec.ofChange attestKeysMatchSpecWrong)

/-- 'provenderlaw8.AttestSignaturesHold': WHATEVER THE INPUT: true; the input reads as it did. -/
def attestSignaturesHoldSpec : ChangeSpec := { name := "attestSignaturesHold", fn := fun _ => fun
  | [d1, d2, d3, d4, d5] => { results := [.lit (.bool true)], args := [d1, d2, d3, d4, d5] }
  | _ => none }
def attestSignaturesHoldRow : OpenClaim := { program := "ytdmmglihkdkeaaadoor", sum := "14bcfafd1acbf7ee3c5a7cb2745d3b91be87dbbd1e34b6ee20dfd10508616ecb", func := "provender/provenderlaw8.AttestSignaturesHold", spec := "attestSignaturesHold", inPlace := ["internal/abi.NoEscape", "internal/bytealg.MakeNoZero"], named := ["internal/strconv.uint64pow10", "math/bits.deBruijn32tab", "math/bits.deBruijn64tab"], apart := false, laid := [("math/bits.deBruijn32tab", laid_math_bits_deBruijn32tab), ("math/bits.deBruijn64tab", laid_math_bits_deBruijn64tab), ("internal/strconv.uint64pow10", laid_internal_strconv_uint64pow10)] }
def AttestSignaturesHoldSaid : Prop := attestSignaturesHoldRow.holds Tryd.pinned (OpenSpec.ofChange attestSignaturesHoldSpec)

/-- ITS FALSE NEIGHBOUR: 'it returns false'. Refute it at one input. -/
def attestSignaturesHoldWrong : ChangeSpec := { name := "attestSignaturesHold", fn := fun _ => fun
  | [d1, d2, d3, d4, d5] => { results := [.lit (.bool false)], args := [d1, d2, d3, d4, d5] }
  | _ => none }
def AttestSignaturesHoldWrongFalsely : Prop := attestSignaturesHoldRow.holds Tryd.pinned (OpenSpec.ofChange attestSignaturesHoldWrong)

/-- 'provenderlaw8.AttestHeadsMatchSpec': WHATEVER THE INPUT: true; the input reads as it did. -/
def attestHeadsMatchSpecSpec : ChangeSpec := { name := "attestHeadsMatchSpec", fn := fun _ => fun
  | [d1, d2, d3, d4] => { results := [.lit (.bool true)], args := [d1, d2, d3, d4] }
  | _ => none }
def attestHeadsMatchSpecRow : OpenClaim := { program := "ytdmmglihkdkeaaadoor", sum := "14bcfafd1acbf7ee3c5a7cb2745d3b91be87dbbd1e34b6ee20dfd10508616ecb", func := "provender/provenderlaw8.AttestHeadsMatchSpec", spec := "attestHeadsMatchSpec", inPlace := ["internal/abi.NoEscape", "internal/bytealg.MakeNoZero"], named := ["internal/strconv.uint64pow10", "math/bits.deBruijn32tab", "math/bits.deBruijn64tab"], apart := false, laid := [("math/bits.deBruijn32tab", laid_math_bits_deBruijn32tab), ("math/bits.deBruijn64tab", laid_math_bits_deBruijn64tab), ("internal/strconv.uint64pow10", laid_internal_strconv_uint64pow10)] }
def AttestHeadsMatchSpecSaid : Prop := attestHeadsMatchSpecRow.holds Tryd.pinned (OpenSpec.ofChange attestHeadsMatchSpecSpec)

/-- ITS FALSE NEIGHBOUR: 'it returns false'. Refute it at one input. -/
def attestHeadsMatchSpecWrong : ChangeSpec := { name := "attestHeadsMatchSpec", fn := fun _ => fun
  | [d1, d2, d3, d4] => { results := [.lit (.bool false)], args := [d1, d2, d3, d4] }
  | _ => none }
def AttestHeadsMatchSpecWrongFalsely : Prop := attestHeadsMatchSpecRow.holds Tryd.pinned (OpenSpec.ofChange attestHeadsMatchSpecWrong)

/-- 'provenderlaw8.AttestProofsMatchSpec': WHATEVER THE INPUT: true; the input reads as it did. -/
def attestProofsMatchSpecSpec : ChangeSpec := { name := "attestProofsMatchSpec", fn := fun _ => fun
  | [d1, d2, d3, d4, d5, d6, d7] => { results := [.lit (.bool true)], args := [d1, d2, d3, d4, d5, d6, d7] }
  | _ => none }
def attestProofsMatchSpecRow : OpenClaim := { program := "ytdmmglihkdkeaaadoor", sum := "14bcfafd1acbf7ee3c5a7cb2745d3b91be87dbbd1e34b6ee20dfd10508616ecb", func := "provender/provenderlaw8.AttestProofsMatchSpec", spec := "attestProofsMatchSpec", inPlace := ["internal/abi.NoEscape", "internal/bytealg.MakeNoZero"], recurses := true, named := ["internal/strconv.uint64pow10", "math/bits.deBruijn32tab", "math/bits.deBruijn64tab"], apart := false, laid := [("math/bits.deBruijn32tab", laid_math_bits_deBruijn32tab), ("math/bits.deBruijn64tab", laid_math_bits_deBruijn64tab), ("internal/strconv.uint64pow10", laid_internal_strconv_uint64pow10)] }
def AttestProofsMatchSpecSaid : Prop := attestProofsMatchSpecRow.holds Tryd.pinned (OpenSpec.ofChange attestProofsMatchSpecSpec)

/-- ITS FALSE NEIGHBOUR: 'it returns false'. Refute it at one input. -/
def attestProofsMatchSpecWrong : ChangeSpec := { name := "attestProofsMatchSpec", fn := fun _ => fun
  | [d1, d2, d3, d4, d5, d6, d7] => { results := [.lit (.bool false)], args := [d1, d2, d3, d4, d5, d6, d7] }
  | _ => none }
def AttestProofsMatchSpecWrongFalsely : Prop := attestProofsMatchSpecRow.holds Tryd.pinned (OpenSpec.ofChange attestProofsMatchSpecWrong)

/-- 'provenderlaw8.AttestRootsMatchSpec': WHATEVER THE INPUT: true; the input reads as it did. -/
def attestRootsMatchSpecSpec : ChangeSpec := { name := "attestRootsMatchSpec", fn := fun _ => fun
  | [d1, d2, d3, d4, d5] => { results := [.lit (.bool true)], args := [d1, d2, d3, d4, d5] }
  | _ => none }
def attestRootsMatchSpecRow : OpenClaim := { program := "ytdmmglihkdkeaaadoor", sum := "14bcfafd1acbf7ee3c5a7cb2745d3b91be87dbbd1e34b6ee20dfd10508616ecb", func := "provender/provenderlaw8.AttestRootsMatchSpec", spec := "attestRootsMatchSpec", inPlace := ["internal/abi.NoEscape", "internal/bytealg.MakeNoZero"], recurses := true, named := ["internal/strconv.uint64pow10", "math/bits.deBruijn32tab", "math/bits.deBruijn64tab"], apart := false, laid := [("math/bits.deBruijn32tab", laid_math_bits_deBruijn32tab), ("math/bits.deBruijn64tab", laid_math_bits_deBruijn64tab), ("internal/strconv.uint64pow10", laid_internal_strconv_uint64pow10)] }
def AttestRootsMatchSpecSaid : Prop := attestRootsMatchSpecRow.holds Tryd.pinned (OpenSpec.ofChange attestRootsMatchSpecSpec)

/-- ITS FALSE NEIGHBOUR: 'it returns false'. Refute it at one input. -/
def attestRootsMatchSpecWrong : ChangeSpec := { name := "attestRootsMatchSpec", fn := fun _ => fun
  | [d1, d2, d3, d4, d5] => { results := [.lit (.bool false)], args := [d1, d2, d3, d4, d5] }
  | _ => none }
def AttestRootsMatchSpecWrongFalsely : Prop := attestRootsMatchSpecRow.holds Tryd.pinned (OpenSpec.ofChange attestRootsMatchSpecWrong)

/-- 'provenderlaw8.AttestLogMatchesSpec': WHATEVER THE INPUT: true; the input reads as it did. -/
def attestLogMatchesSpecSpec : ChangeSpec := { name := "attestLogMatchesSpec", fn := fun _ => fun
  | [d1, d2] => { results := [.lit (.bool true)], args := [d1, d2] }
  | _ => none }
def attestLogMatchesSpecRow : OpenClaim := { program := "ytdmmglihkdkeaaadoor", sum := "14bcfafd1acbf7ee3c5a7cb2745d3b91be87dbbd1e34b6ee20dfd10508616ecb", func := "provender/provenderlaw8.AttestLogMatchesSpec", spec := "attestLogMatchesSpec", inPlace := ["internal/abi.NoEscape", "internal/bytealg.MakeNoZero"], recurses := true, named := ["internal/strconv.uint64pow10", "math/bits.deBruijn32tab", "math/bits.deBruijn64tab"], apart := false, laid := [("math/bits.deBruijn32tab", laid_math_bits_deBruijn32tab), ("math/bits.deBruijn64tab", laid_math_bits_deBruijn64tab), ("internal/strconv.uint64pow10", laid_internal_strconv_uint64pow10)] }
def AttestLogMatchesSpecSaid : Prop := attestLogMatchesSpecRow.holds Tryd.pinned (OpenSpec.ofChange attestLogMatchesSpecSpec)

/-- ITS FALSE NEIGHBOUR: 'it returns false'. Refute it at one input. -/
def attestLogMatchesSpecWrong : ChangeSpec := { name := "attestLogMatchesSpec", fn := fun _ => fun
  | [d1, d2] => { results := [.lit (.bool false)], args := [d1, d2] }
  | _ => none }
def AttestLogMatchesSpecWrongFalsely : Prop := attestLogMatchesSpecRow.holds Tryd.pinned (OpenSpec.ofChange attestLogMatchesSpecWrong)

/-- 'provenderlaw8.AttestLinksMatchSpec': WHATEVER THE INPUT: true; the input reads as it did. -/
def attestLinksMatchSpecSpec : ChangeSpec := { name := "attestLinksMatchSpec", fn := fun _ => fun
  | [d1, d2] => { results := [.lit (.bool true)], args := [d1, d2] }
  | _ => none }
def attestLinksMatchSpecRow : OpenClaim := { program := "ytdmmglihkdkeaaadoor", sum := "14bcfafd1acbf7ee3c5a7cb2745d3b91be87dbbd1e34b6ee20dfd10508616ecb", func := "provender/provenderlaw8.AttestLinksMatchSpec", spec := "attestLinksMatchSpec", inPlace := ["internal/abi.NoEscape", "internal/bytealg.MakeNoZero"], unfollowed := true, recurses := true, named := ["internal/strconv.uint64pow10", "math/bits.deBruijn32tab", "math/bits.deBruijn64tab"], apart := false, laid := [("math/bits.deBruijn32tab", laid_math_bits_deBruijn32tab), ("math/bits.deBruijn64tab", laid_math_bits_deBruijn64tab), ("internal/strconv.uint64pow10", laid_internal_strconv_uint64pow10)] }
def AttestLinksMatchSpecSaid : Prop := attestLinksMatchSpecRow.holds Tryd.pinned (OpenSpec.ofChange attestLinksMatchSpecSpec)

/-- ITS FALSE NEIGHBOUR: 'it returns false'. Refute it at one input. -/
def attestLinksMatchSpecWrong : ChangeSpec := { name := "attestLinksMatchSpec", fn := fun _ => fun
  | [d1, d2] => { results := [.lit (.bool false)], args := [d1, d2] }
  | _ => none }
def AttestLinksMatchSpecWrongFalsely : Prop := attestLinksMatchSpecRow.holds Tryd.pinned (OpenSpec.ofChange attestLinksMatchSpecWrong)

/-- 'provenderlaw8.AttestProofsHold': WHATEVER THE INPUT: true; the input reads as it did. -/
def attestProofsHoldSpec : ChangeSpec := { name := "attestProofsHold", fn := fun _ => fun
  | [d1, d2, d3, d4] => { results := [.lit (.bool true)], args := [d1, d2, d3, d4] }
  | _ => none }
def attestProofsHoldRow : OpenClaim := { program := "ytdmmglihkdkeaaadoor", sum := "14bcfafd1acbf7ee3c5a7cb2745d3b91be87dbbd1e34b6ee20dfd10508616ecb", func := "provender/provenderlaw8.AttestProofsHold", spec := "attestProofsHold", inPlace := ["internal/abi.NoEscape", "internal/bytealg.MakeNoZero"], recurses := true, named := ["internal/strconv.uint64pow10", "math/bits.deBruijn32tab", "math/bits.deBruijn64tab"], apart := false, laid := [("math/bits.deBruijn32tab", laid_math_bits_deBruijn32tab), ("math/bits.deBruijn64tab", laid_math_bits_deBruijn64tab), ("internal/strconv.uint64pow10", laid_internal_strconv_uint64pow10)] }
def AttestProofsHoldSaid : Prop := attestProofsHoldRow.holds Tryd.pinned (OpenSpec.ofChange attestProofsHoldSpec)

/-- ITS FALSE NEIGHBOUR: 'it returns false'. Refute it at one input. -/
def attestProofsHoldWrong : ChangeSpec := { name := "attestProofsHold", fn := fun _ => fun
  | [d1, d2, d3, d4] => { results := [.lit (.bool false)], args := [d1, d2, d3, d4] }
  | _ => none }
def AttestProofsHoldWrongFalsely : Prop := attestProofsHoldRow.holds Tryd.pinned (OpenSpec.ofChange attestProofsHoldWrong)

/-- 'provenderlaw8.AttestLayoutsMatchSpec': WHATEVER THE INPUT: true; the input reads as it did. -/
def attestLayoutsMatchSpecSpec : ChangeSpec := { name := "attestLayoutsMatchSpec", fn := fun _ => fun
  | [d] => { results := [.lit (.bool true)], args := [d] }
  | _ => none }
def attestLayoutsMatchSpecRow : OpenClaim := { program := "ytdmmglihkdkeaaadoor", sum := "14bcfafd1acbf7ee3c5a7cb2745d3b91be87dbbd1e34b6ee20dfd10508616ecb", func := "provender/provenderlaw8.AttestLayoutsMatchSpec", spec := "attestLayoutsMatchSpec", inPlace := ["internal/abi.NoEscape", "internal/bytealg.MakeNoZero"], unfollowed := true, recurses := true, named := ["internal/strconv.uint64pow10", "math/bits.deBruijn32tab", "math/bits.deBruijn64tab"], apart := false, laid := [("math/bits.deBruijn32tab", laid_math_bits_deBruijn32tab), ("math/bits.deBruijn64tab", laid_math_bits_deBruijn64tab), ("internal/strconv.uint64pow10", laid_internal_strconv_uint64pow10)] }
def AttestLayoutsMatchSpecSaid : Prop := attestLayoutsMatchSpecRow.holds Tryd.pinned (OpenSpec.ofChange attestLayoutsMatchSpecSpec)

/-- ITS FALSE NEIGHBOUR: 'it returns false'. Refute it at one input. -/
def attestLayoutsMatchSpecWrong : ChangeSpec := { name := "attestLayoutsMatchSpec", fn := fun _ => fun
  | [d] => { results := [.lit (.bool false)], args := [d] }
  | _ => none }
def AttestLayoutsMatchSpecWrongFalsely : Prop := attestLayoutsMatchSpecRow.holds Tryd.pinned (OpenSpec.ofChange attestLayoutsMatchSpecWrong)

/- THE SECOND FORM. 'bulk': how many values and letters a reading holds, each counted each time it is reached (what is shared counts as often as it is met; a slice's spare places count too). A statement '..UptoSaid' is the law's where the arguments, and the package variables that the reading takes, are together of bulk at most 1048576: NARROWER than '..Said'. Prove '..Said' where nothing that the law and all that it calls make is longer than what came in: it says more and counts as full. Else prove '..UptoSaid'. A law counts once. -/
mutual
def uptoBulk {H : Type} : DataW H → Nat
  | .lit (.string bytes) => bytes.length + 1
  | .lit _ => 1
  | .nil => 1
  | .ptr d => uptoBulk d + 1
  | .slice elems spare => uptoBulkAll elems + uptoBulkAll spare + 1
  | .agg parts => uptoBulkAll parts + 1
  | .iface _ d => uptoBulk d + 1
  | .map entries => uptoBulkEntries entries + 1
  | .held _ => 1
def uptoBulkAll {H : Type} : List (DataW H) → Nat
  | [] => 0
  | d :: r => uptoBulk d + uptoBulkAll r
def uptoBulkEntries {H : Type} : List (Lit × DataW H) → Nat
  | [] => 0
  | x :: r => uptoBulkEntry x + uptoBulkEntries r
def uptoBulkEntry {H : Type} : Lit × DataW H → Nat
  | (.string bytes, d) => bytes.length + uptoBulk d + 1
  | (_, d) => uptoBulk d + 1
 end
def uptoSmall : (H : Type) → List (DataW H) → Bool := fun _ ds => decide (uptoBulkAll ds ≤ 1048576)
def OpenSpec.upto (s : _root_.Go.ChangeSpec) : _root_.Go.OpenSpec := { _root_.Go.OpenSpec.ofChange s with cond := some uptoSmall }

/-- 'provenderlaw8.AttestKeysMatchSpec', WHERE WHAT IT READS IS OF BULK AT MOST 1048576: true; the input reads as it did. -/
def attestKeysMatchSpecUptoRow : OpenClaim := { program := "ytdmmglihkdkeaaadoor", sum := "14bcfafd1acbf7ee3c5a7cb2745d3b91be87dbbd1e34b6ee20dfd10508616ecb", func := "provender/provenderlaw8.AttestKeysMatchSpec", spec := "attestKeysMatchSpec", inPlace := ["internal/abi.NoEscape", "internal/bytealg.MakeNoZero"], named := ["internal/strconv.uint64pow10", "math/bits.deBruijn32tab", "math/bits.deBruijn64tab"], apart := false, laid := [("math/bits.deBruijn32tab", laid_math_bits_deBruijn32tab), ("math/bits.deBruijn64tab", laid_math_bits_deBruijn64tab), ("internal/strconv.uint64pow10", laid_internal_strconv_uint64pow10)], narrowed := true }
def AttestKeysMatchSpecUptoSaid : Prop := attestKeysMatchSpecUptoRow.holds Tryd.pinned (OpenSpec.upto attestKeysMatchSpecSpec)

/-- 'provenderlaw8.AttestSignaturesHold', WHERE WHAT IT READS IS OF BULK AT MOST 1048576: true; the input reads as it did. -/
def attestSignaturesHoldUptoRow : OpenClaim := { program := "ytdmmglihkdkeaaadoor", sum := "14bcfafd1acbf7ee3c5a7cb2745d3b91be87dbbd1e34b6ee20dfd10508616ecb", func := "provender/provenderlaw8.AttestSignaturesHold", spec := "attestSignaturesHold", inPlace := ["internal/abi.NoEscape", "internal/bytealg.MakeNoZero"], named := ["internal/strconv.uint64pow10", "math/bits.deBruijn32tab", "math/bits.deBruijn64tab"], apart := false, laid := [("math/bits.deBruijn32tab", laid_math_bits_deBruijn32tab), ("math/bits.deBruijn64tab", laid_math_bits_deBruijn64tab), ("internal/strconv.uint64pow10", laid_internal_strconv_uint64pow10)], narrowed := true }
def AttestSignaturesHoldUptoSaid : Prop := attestSignaturesHoldUptoRow.holds Tryd.pinned (OpenSpec.upto attestSignaturesHoldSpec)

/-- 'provenderlaw8.AttestHeadsMatchSpec', WHERE WHAT IT READS IS OF BULK AT MOST 1048576: true; the input reads as it did. -/
def attestHeadsMatchSpecUptoRow : OpenClaim := { program := "ytdmmglihkdkeaaadoor", sum := "14bcfafd1acbf7ee3c5a7cb2745d3b91be87dbbd1e34b6ee20dfd10508616ecb", func := "provender/provenderlaw8.AttestHeadsMatchSpec", spec := "attestHeadsMatchSpec", inPlace := ["internal/abi.NoEscape", "internal/bytealg.MakeNoZero"], named := ["internal/strconv.uint64pow10", "math/bits.deBruijn32tab", "math/bits.deBruijn64tab"], apart := false, laid := [("math/bits.deBruijn32tab", laid_math_bits_deBruijn32tab), ("math/bits.deBruijn64tab", laid_math_bits_deBruijn64tab), ("internal/strconv.uint64pow10", laid_internal_strconv_uint64pow10)], narrowed := true }
def AttestHeadsMatchSpecUptoSaid : Prop := attestHeadsMatchSpecUptoRow.holds Tryd.pinned (OpenSpec.upto attestHeadsMatchSpecSpec)

/-- 'provenderlaw8.AttestProofsMatchSpec', WHERE WHAT IT READS IS OF BULK AT MOST 1048576: true; the input reads as it did. -/
def attestProofsMatchSpecUptoRow : OpenClaim := { program := "ytdmmglihkdkeaaadoor", sum := "14bcfafd1acbf7ee3c5a7cb2745d3b91be87dbbd1e34b6ee20dfd10508616ecb", func := "provender/provenderlaw8.AttestProofsMatchSpec", spec := "attestProofsMatchSpec", inPlace := ["internal/abi.NoEscape", "internal/bytealg.MakeNoZero"], recurses := true, named := ["internal/strconv.uint64pow10", "math/bits.deBruijn32tab", "math/bits.deBruijn64tab"], apart := false, laid := [("math/bits.deBruijn32tab", laid_math_bits_deBruijn32tab), ("math/bits.deBruijn64tab", laid_math_bits_deBruijn64tab), ("internal/strconv.uint64pow10", laid_internal_strconv_uint64pow10)], narrowed := true }
def AttestProofsMatchSpecUptoSaid : Prop := attestProofsMatchSpecUptoRow.holds Tryd.pinned (OpenSpec.upto attestProofsMatchSpecSpec)

/-- 'provenderlaw8.AttestRootsMatchSpec', WHERE WHAT IT READS IS OF BULK AT MOST 1048576: true; the input reads as it did. -/
def attestRootsMatchSpecUptoRow : OpenClaim := { program := "ytdmmglihkdkeaaadoor", sum := "14bcfafd1acbf7ee3c5a7cb2745d3b91be87dbbd1e34b6ee20dfd10508616ecb", func := "provender/provenderlaw8.AttestRootsMatchSpec", spec := "attestRootsMatchSpec", inPlace := ["internal/abi.NoEscape", "internal/bytealg.MakeNoZero"], recurses := true, named := ["internal/strconv.uint64pow10", "math/bits.deBruijn32tab", "math/bits.deBruijn64tab"], apart := false, laid := [("math/bits.deBruijn32tab", laid_math_bits_deBruijn32tab), ("math/bits.deBruijn64tab", laid_math_bits_deBruijn64tab), ("internal/strconv.uint64pow10", laid_internal_strconv_uint64pow10)], narrowed := true }
def AttestRootsMatchSpecUptoSaid : Prop := attestRootsMatchSpecUptoRow.holds Tryd.pinned (OpenSpec.upto attestRootsMatchSpecSpec)

/-- 'provenderlaw8.AttestLogMatchesSpec', WHERE WHAT IT READS IS OF BULK AT MOST 1048576: true; the input reads as it did. -/
def attestLogMatchesSpecUptoRow : OpenClaim := { program := "ytdmmglihkdkeaaadoor", sum := "14bcfafd1acbf7ee3c5a7cb2745d3b91be87dbbd1e34b6ee20dfd10508616ecb", func := "provender/provenderlaw8.AttestLogMatchesSpec", spec := "attestLogMatchesSpec", inPlace := ["internal/abi.NoEscape", "internal/bytealg.MakeNoZero"], recurses := true, named := ["internal/strconv.uint64pow10", "math/bits.deBruijn32tab", "math/bits.deBruijn64tab"], apart := false, laid := [("math/bits.deBruijn32tab", laid_math_bits_deBruijn32tab), ("math/bits.deBruijn64tab", laid_math_bits_deBruijn64tab), ("internal/strconv.uint64pow10", laid_internal_strconv_uint64pow10)], narrowed := true }
def AttestLogMatchesSpecUptoSaid : Prop := attestLogMatchesSpecUptoRow.holds Tryd.pinned (OpenSpec.upto attestLogMatchesSpecSpec)

/-- 'provenderlaw8.AttestLinksMatchSpec', WHERE WHAT IT READS IS OF BULK AT MOST 1048576: true; the input reads as it did. -/
def attestLinksMatchSpecUptoRow : OpenClaim := { program := "ytdmmglihkdkeaaadoor", sum := "14bcfafd1acbf7ee3c5a7cb2745d3b91be87dbbd1e34b6ee20dfd10508616ecb", func := "provender/provenderlaw8.AttestLinksMatchSpec", spec := "attestLinksMatchSpec", inPlace := ["internal/abi.NoEscape", "internal/bytealg.MakeNoZero"], unfollowed := true, recurses := true, named := ["internal/strconv.uint64pow10", "math/bits.deBruijn32tab", "math/bits.deBruijn64tab"], apart := false, laid := [("math/bits.deBruijn32tab", laid_math_bits_deBruijn32tab), ("math/bits.deBruijn64tab", laid_math_bits_deBruijn64tab), ("internal/strconv.uint64pow10", laid_internal_strconv_uint64pow10)], narrowed := true }
def AttestLinksMatchSpecUptoSaid : Prop := attestLinksMatchSpecUptoRow.holds Tryd.pinned (OpenSpec.upto attestLinksMatchSpecSpec)

/-- 'provenderlaw8.AttestProofsHold', WHERE WHAT IT READS IS OF BULK AT MOST 1048576: true; the input reads as it did. -/
def attestProofsHoldUptoRow : OpenClaim := { program := "ytdmmglihkdkeaaadoor", sum := "14bcfafd1acbf7ee3c5a7cb2745d3b91be87dbbd1e34b6ee20dfd10508616ecb", func := "provender/provenderlaw8.AttestProofsHold", spec := "attestProofsHold", inPlace := ["internal/abi.NoEscape", "internal/bytealg.MakeNoZero"], recurses := true, named := ["internal/strconv.uint64pow10", "math/bits.deBruijn32tab", "math/bits.deBruijn64tab"], apart := false, laid := [("math/bits.deBruijn32tab", laid_math_bits_deBruijn32tab), ("math/bits.deBruijn64tab", laid_math_bits_deBruijn64tab), ("internal/strconv.uint64pow10", laid_internal_strconv_uint64pow10)], narrowed := true }
def AttestProofsHoldUptoSaid : Prop := attestProofsHoldUptoRow.holds Tryd.pinned (OpenSpec.upto attestProofsHoldSpec)

/-- 'provenderlaw8.AttestLayoutsMatchSpec', WHERE WHAT IT READS IS OF BULK AT MOST 1048576: true; the input reads as it did. -/
def attestLayoutsMatchSpecUptoRow : OpenClaim := { program := "ytdmmglihkdkeaaadoor", sum := "14bcfafd1acbf7ee3c5a7cb2745d3b91be87dbbd1e34b6ee20dfd10508616ecb", func := "provender/provenderlaw8.AttestLayoutsMatchSpec", spec := "attestLayoutsMatchSpec", inPlace := ["internal/abi.NoEscape", "internal/bytealg.MakeNoZero"], unfollowed := true, recurses := true, named := ["internal/strconv.uint64pow10", "math/bits.deBruijn32tab", "math/bits.deBruijn64tab"], apart := false, laid := [("math/bits.deBruijn32tab", laid_math_bits_deBruijn32tab), ("math/bits.deBruijn64tab", laid_math_bits_deBruijn64tab), ("internal/strconv.uint64pow10", laid_internal_strconv_uint64pow10)], narrowed := true }
def AttestLayoutsMatchSpecUptoSaid : Prop := attestLayoutsMatchSpecUptoRow.holds Tryd.pinned (OpenSpec.upto attestLayoutsMatchSpecSpec)

end Rows
end Go.Proofs.YtdmmglihkdkeaaaDoor
