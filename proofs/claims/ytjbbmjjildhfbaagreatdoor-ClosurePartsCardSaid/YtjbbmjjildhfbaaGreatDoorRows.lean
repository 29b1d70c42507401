/-
  NARROWER THAN 'FOR EVERY INPUT', by the rows' own cells (each row's printed sentence says how): ClosureWithout: laid · ClosureGreatest: laid · ClosureUnion: laid · ClosureValid: laid · ClosureWorlds: laid · ClosureParts: laid.
  DERIVED. THE GIVEN ROWS OF THIS SEAT. 6 by the template 'for every input the law returns true; each argument reads behind the call as it read before'; 0 by the template 'total and deterministic' (their statements: YtjbbmjjildhfbaaGreatDoorTotals.lean).
  GIVEN WITH THE SEED: the statements are not yours to turn. If you find one false, say at which input.
  Laid BY PROGRAM, IN A SANDBOX (cutbox-rows.mjs): the forced cells as the released guide's own fill.sh prints them over the translation 9157ea63ea48dc30… (all of the seat's roots in one cut). By AI agents, Wed Nov 11 2026. No macro, syntax, notation, axiom, sorry.
-/
import Derived.Test.YtjbbmjjildhfbaaGreatDoorChecked
import GoSem.Claim
import GoSem.ClaimJoined
import GoSem.ClaimMapViews
import Derived.JoinedTies
import Derived.KernelRfl
namespace Go.Proofs.YtjbbmjjildhfbaaGreatDoor
/- THE CELL 'sum', in the pinned program and in every row, IS THE sha256 OF THE DUMP (.gsa) THAT YtjbbmjjildhfbaaGreatDoorProg.lean LOADS. Nothing in Lean hashes anything: it is a label: what it is worth is what the hold of that sum in a sandbox is worth. -/
noncomputable def Tryz.pinned : Pinned := { name := "ytjbbmjjildhfbaagreatdoor", sum := "9157ea63ea48dc3042c962e18d1a93076967353f39b75f31a686a1e95aed1651", checked := Tryz.checked }
namespace Rows
def none {H : Type} : Left H := { results := [], args := [] }

/- WHAT THE LISTED PACKAGE-LEVEL VARIABLES READ AS WHEN THE CALL BEGINS. Each datum BY PROGRAM (the guide's laid-datum.mjs) off the statement by which the dump's own 'gosem.cut.vars' lays the variable. In a bare row this is a premise. The card (YtjbbmjjildhfbaaGreatDoorCards.lean) ties it to the program's text. -/
def laid_math_bits_deBruijn32tab {H : Type} : DataW H := .agg [.lit (.int .u8 0), .lit (.int .u8 1), .lit (.int .u8 28), .lit (.int .u8 2), .lit (.int .u8 29), .lit (.int .u8 14), .lit (.int .u8 24), .lit (.int .u8 3), .lit (.int .u8 30), .lit (.int .u8 22), .lit (.int .u8 20), .lit (.int .u8 15), .lit (.int .u8 25), .lit (.int .u8 17), .lit (.int .u8 4), .lit (.int .u8 8), .lit (.int .u8 31), .lit (.int .u8 27), .lit (.int .u8 13), .lit (.int .u8 23), .lit (.int .u8 21), .lit (.int .u8 19), .lit (.int .u8 16), .lit (.int .u8 7), .lit (.int .u8 26), .lit (.int .u8 12), .lit (.int .u8 18), .lit (.int .u8 6), .lit (.int .u8 11), .lit (.int .u8 5), .lit (.int .u8 10), .lit (.int .u8 9)]
def laid_math_bits_deBruijn64tab {H : Type} : DataW H := .agg [.lit (.int .u8 0), .lit (.int .u8 1), .lit (.int .u8 56), .lit (.int .u8 2), .lit (.int .u8 57), .lit (.int .u8 49), .lit (.int .u8 28), .lit (.int .u8 3), .lit (.int .u8 61), .lit (.int .u8 58), .lit (.int .u8 42), .lit (.int .u8 50), .lit (.int .u8 38), .lit (.int .u8 29), .lit (.int .u8 17), .lit (.int .u8 4), .lit (.int .u8 62), .lit (.int .u8 47), .lit (.int .u8 59), .lit (.int .u8 36), .lit (.int .u8 45), .lit (.int .u8 43), .lit (.int .u8 51), .lit (.int .u8 22), .lit (.int .u8 53), .lit (.int .u8 39), .lit (.int .u8 33), .lit (.int .u8 30), .lit (.int .u8 24), .lit (.int .u8 18), .lit (.int .u8 12), .lit (.int .u8 5), .lit (.int .u8 63), .lit (.int .u8 55), .lit (.int .u8 48), .lit (.int .u8 27), .lit (.int .u8 60), .lit (.int .u8 41), .lit (.int .u8 37), .lit (.int .u8 16), .lit (.int .u8 46), .lit (.int .u8 35), .lit (.int .u8 44), .lit (.int .u8 21), .lit (.int .u8 52), .lit (.int .u8 32), .lit (.int .u8 23), .lit (.int .u8 11), .lit (.int .u8 54), .lit (.int .u8 26), .lit (.int .u8 40), .lit (.int .u8 15), .lit (.int .u8 34), .lit (.int .u8 20), .lit (.int .u8 31), .lit (.int .u8 10), .lit (.int .u8 25), .lit (.int .u8 14), .lit (.int .u8 19), .lit (.int .u8 9), .lit (.int .u8 13), .lit (.int .u8 8), .lit (.int .u8 7), .lit (.int .u8 6)]
def laid_internal_strconv_uint64pow10 {H : Type} : DataW H := .agg [.lit (.int .u64 1), .lit (.int .u64 10), .lit (.int .u64 100), .lit (.int .u64 1000), .lit (.int .u64 10000), .lit (.int .u64 100000), .lit (.int .u64 1000000), .lit (.int .u64 10000000), .lit (.int .u64 100000000), .lit (.int .u64 1000000000), .lit (.int .u64 10000000000), .lit (.int .u64 100000000000), .lit (.int .u64 1000000000000), .lit (.int .u64 10000000000000), .lit (.int .u64 100000000000000), .lit (.int .u64 1000000000000000), .lit (.int .u64 10000000000000000), .lit (.int .u64 100000000000000000), .lit (.int .u64 1000000000000000000), .lit (.int .u64 10000000000000000000)]
def laid_diorama_schema_words {H : Type} : DataW H := .agg [.lit (.string [107, 101, 121]), .lit (.string [114, 101, 102]), .lit (.string [110, 117, 109]), .lit (.string [112, 105, 99, 107]), .lit (.string [100, 97, 121]), .lit (.string [115, 116, 101, 112]), .lit (.string [115, 117, 109]), .lit (.string [115, 104, 97, 114, 101]), .lit (.string [99, 111, 112, 121])]
def laid_diorama_typing_checks {H : Type} : DataW H := .iface "func table" (.map [(.int .i64 0, .agg [.iface "func" (.lit (.string [100, 105, 111, 114, 97, 109, 97, 47, 116, 121, 112, 105, 110, 103, 46, 99, 104, 101, 99, 107, 115, 36, 49]))]), (.int .i64 1, .agg [.iface "func" (.lit (.string [100, 105, 111, 114, 97, 109, 97, 47, 116, 121, 112, 105, 110, 103, 46, 99, 104, 101, 99, 107, 115, 36, 50]))]), (.int .i64 4, .agg [.iface "func" (.lit (.string [100, 105, 111, 114, 97, 109, 97, 47, 116, 121, 112, 105, 110, 103, 46, 99, 104, 101, 99, 107, 115, 36, 51]))]), (.int .i64 5, .agg [.iface "func" (.lit (.string [100, 105, 111, 114, 97, 109, 97, 47, 116, 121, 112, 105, 110, 103, 46, 99, 104, 101, 99, 107, 115, 36, 52]))]), (.int .i64 6, .agg [.iface "func" (.lit (.string [100, 105, 111, 114, 97, 109, 97, 47, 116, 121, 112, 105, 110, 103, 46, 99, 104, 101, 99, 107, 115, 36, 53]))]), (.int .i64 7, .agg [.iface "func" (.lit (.string [100, 105, 111, 114, 97, 109, 97, 47, 116, 121, 112, 105, 110, 103, 46, 99, 104, 101, 99, 107, 115, 36, 54]))]), (.int .i64 8, .agg [.iface "func" (.lit (.string [100, 105, 111, 114, 97, 109, 97, 47, 116, 121, 112, 105, 110, 103, 46, 99, 104, 101, 99, 107, 115, 36, 55]))])])

/-- 'dioramalaw31.ClosureWithout': WHATEVER THE INPUT: true; the input reads as it did. -/
def closureWithoutSpec : ChangeSpec := { name := "closureWithout", fn := fun _ => fun
  | [d1, d2, d3, d4, d5, d6] => { results := [.lit (.bool true)], args := [d1, d2, d3, d4, d5, d6] }
  | _ => none }
def closureWithoutRow : OpenClaim := { program := "ytjbbmjjildhfbaagreatdoor", sum := "9157ea63ea48dc3042c962e18d1a93076967353f39b75f31a686a1e95aed1651", func := "diorama/dioramalaw31.ClosureWithout", spec := "closureWithout", inPlace := ["internal/abi.NoEscape"], unfollowed := true, recurses := true, named := ["diorama/typing.checks", "internal/strconv.uint64pow10", "math/bits.deBruijn32tab", "math/bits.deBruijn64tab", "diorama/schema.words"], plainKeys := false, apart := false, laid := [("math/bits.deBruijn32tab", laid_math_bits_deBruijn32tab), ("math/bits.deBruijn64tab", laid_math_bits_deBruijn64tab), ("internal/strconv.uint64pow10", laid_internal_strconv_uint64pow10), ("diorama/schema.words", laid_diorama_schema_words), ("diorama/typing.checks", laid_diorama_typing_checks)] }
def ClosureWithoutSaid : Prop := closureWithoutRow.holds Tryz.pinned (OpenSpec.ofChange closureWithoutSpec)

/-- ITS FALSE NEIGHBOUR: 'it returns false'. Refute it at one input. -/
def closureWithoutWrong : ChangeSpec := { name := "closureWithout", fn := fun _ => fun
  | [d1, d2, d3, d4, d5, d6] => { results := [.lit (.bool false)], args := [d1, d2, d3, d4, d5, d6] }
  | _ => none }
def ClosureWithoutWrongFalsely : Prop := closureWithoutRow.holds Tryz.pinned (OpenSpec.ofChange closureWithoutWrong)

/-- 'dioramalaw31.ClosureGreatest': WHATEVER THE INPUT: true; the input reads as it did. -/
def closureGreatestSpec : ChangeSpec := { name := "closureGreatest", fn := fun _ => fun
  | [d1, d2, d3, d4, d5, d6] => { results := [.lit (.bool true)], args := [d1, d2, d3, d4, d5, d6] }
  | _ => none }
def closureGreatestRow : OpenClaim := { program := "ytjbbmjjildhfbaagreatdoor", sum := "9157ea63ea48dc3042c962e18d1a93076967353f39b75f31a686a1e95aed1651", func := "diorama/dioramalaw31.ClosureGreatest", spec := "closureGreatest", inPlace := ["internal/abi.NoEscape"], unfollowed := true, recurses := true, named := ["diorama/typing.checks", "internal/strconv.uint64pow10", "math/bits.deBruijn32tab", "math/bits.deBruijn64tab", "diorama/schema.words"], plainKeys := false, apart := false, laid := [("math/bits.deBruijn32tab", laid_math_bits_deBruijn32tab), ("math/bits.deBruijn64tab", laid_math_bits_deBruijn64tab), ("internal/strconv.uint64pow10", laid_internal_strconv_uint64pow10), ("diorama/schema.words", laid_diorama_schema_words), ("diorama/typing.checks", laid_diorama_typing_checks)] }
def ClosureGreatestSaid : Prop := closureGreatestRow.holds Tryz.pinned (OpenSpec.ofChange closureGreatestSpec)

/-- ITS FALSE NEIGHBOUR: 'it returns false'. Refute it at one input. -/
def closureGreatestWrong : ChangeSpec := { name := "closureGreatest", fn := fun _ => fun
  | [d1, d2, d3, d4, d5, d6] => { results := [.lit (.bool false)], args := [d1, d2, d3, d4, d5, d6] }
  | _ => none }
def ClosureGreatestWrongFalsely : Prop := closureGreatestRow.holds Tryz.pinned (OpenSpec.ofChange closureGreatestWrong)

/-- 'dioramalaw31.ClosureUnion': WHATEVER THE INPUT: true; the input reads as it did. -/
def closureUnionSpec : ChangeSpec := { name := "closureUnion", fn := fun _ => fun
  | [d1, d2, d3, d4] => { results := [.lit (.bool true)], args := [d1, d2, d3, d4] }
  | _ => none }
def closureUnionRow : OpenClaim := { program := "ytjbbmjjildhfbaagreatdoor", sum := "9157ea63ea48dc3042c962e18d1a93076967353f39b75f31a686a1e95aed1651", func := "diorama/dioramalaw31.ClosureUnion", spec := "closureUnion", inPlace := ["internal/abi.NoEscape"], unfollowed := true, recurses := true, named := ["diorama/typing.checks", "internal/strconv.uint64pow10", "math/bits.deBruijn32tab", "math/bits.deBruijn64tab", "diorama/schema.words"], plainKeys := false, apart := false, laid := [("math/bits.deBruijn32tab", laid_math_bits_deBruijn32tab), ("math/bits.deBruijn64tab", laid_math_bits_deBruijn64tab), ("internal/strconv.uint64pow10", laid_internal_strconv_uint64pow10), ("diorama/schema.words", laid_diorama_schema_words), ("diorama/typing.checks", laid_diorama_typing_checks)] }
def ClosureUnionSaid : Prop := closureUnionRow.holds Tryz.pinned (OpenSpec.ofChange closureUnionSpec)

/-- ITS FALSE NEIGHBOUR: 'it returns false'. Refute it at one input. -/
def closureUnionWrong : ChangeSpec := { name := "closureUnion", fn := fun _ => fun
  | [d1, d2, d3, d4] => { results := [.lit (.bool false)], args := [d1, d2, d3, d4] }
  | _ => none }
def ClosureUnionWrongFalsely : Prop := closureUnionRow.holds Tryz.pinned (OpenSpec.ofChange closureUnionWrong)

/-- 'dioramalaw31.ClosureValid': WHATEVER THE INPUT: true; the input reads as it did. -/
def closureValidSpec : ChangeSpec := { name := "closureValid", fn := fun _ => fun
  | [d1, d2, d3, d4, d5, d6, d7] => { results := [.lit (.bool true)], args := [d1, d2, d3, d4, d5, d6, d7] }
  | _ => none }
def closureValidRow : OpenClaim := { program := "ytjbbmjjildhfbaagreatdoor", sum := "9157ea63ea48dc3042c962e18d1a93076967353f39b75f31a686a1e95aed1651", func := "diorama/dioramalaw31.ClosureValid", spec := "closureValid", inPlace := ["internal/abi.NoEscape"], unfollowed := true, recurses := true, named := ["diorama/typing.checks", "internal/strconv.uint64pow10", "math/bits.deBruijn32tab", "math/bits.deBruijn64tab", "diorama/schema.words"], plainKeys := false, apart := false, laid := [("math/bits.deBruijn32tab", laid_math_bits_deBruijn32tab), ("math/bits.deBruijn64tab", laid_math_bits_deBruijn64tab), ("internal/strconv.uint64pow10", laid_internal_strconv_uint64pow10), ("diorama/schema.words", laid_diorama_schema_words), ("diorama/typing.checks", laid_diorama_typing_checks)] }
def ClosureValidSaid : Prop := closureValidRow.holds Tryz.pinned (OpenSpec.ofChange closureValidSpec)

/-- ITS FALSE NEIGHBOUR: 'it returns false'. Refute it at one input. -/
def closureValidWrong : ChangeSpec := { name := "closureValid", fn := fun _ => fun
  | [d1, d2, d3, d4, d5, d6, d7] => { results := [.lit (.bool false)], args := [d1, d2, d3, d4, d5, d6, d7] }
  | _ => none }
def ClosureValidWrongFalsely : Prop := closureValidRow.holds Tryz.pinned (OpenSpec.ofChange closureValidWrong)

/-- 'dioramalaw31.ClosureWorlds': WHATEVER THE INPUT: true; the input reads as it did. -/
def closureWorldsSpec : ChangeSpec := { name := "closureWorlds", fn := fun _ => fun
  | [d1, d2, d3, d4, d5, d6] => { results := [.lit (.bool true)], args := [d1, d2, d3, d4, d5, d6] }
  | _ => none }
def closureWorldsRow : OpenClaim := { program := "ytjbbmjjildhfbaagreatdoor", sum := "9157ea63ea48dc3042c962e18d1a93076967353f39b75f31a686a1e95aed1651", func := "diorama/dioramalaw31.ClosureWorlds", spec := "closureWorlds", inPlace := ["internal/abi.NoEscape"], unfollowed := true, recurses := true, named := ["diorama/typing.checks", "internal/strconv.uint64pow10", "math/bits.deBruijn32tab", "math/bits.deBruijn64tab", "diorama/schema.words"], plainKeys := false, apart := false, laid := [("math/bits.deBruijn32tab", laid_math_bits_deBruijn32tab), ("math/bits.deBruijn64tab", laid_math_bits_deBruijn64tab), ("internal/strconv.uint64pow10", laid_internal_strconv_uint64pow10), ("diorama/schema.words", laid_diorama_schema_words), ("diorama/typing.checks", laid_diorama_typing_checks)] }
def ClosureWorldsSaid : Prop := closureWorldsRow.holds Tryz.pinned (OpenSpec.ofChange closureWorldsSpec)

/-- ITS FALSE NEIGHBOUR: 'it returns false'. Refute it at one input. -/
def closureWorldsWrong : ChangeSpec := { name := "closureWorlds", fn := fun _ => fun
  | [d1, d2, d3, d4, d5, d6] => { results := [.lit (.bool false)], args := [d1, d2, d3, d4, d5, d6] }
  | _ => none }
def ClosureWorldsWrongFalsely : Prop := closureWorldsRow.holds Tryz.pinned (OpenSpec.ofChange closureWorldsWrong)

/-- 'dioramalaw31.ClosureParts': WHATEVER THE INPUT: true; the input reads as it did. -/
def closurePartsSpec : ChangeSpec := { name := "closureParts", fn := fun _ => fun
  | [d1, d2, d3, d4] => { results := [.lit (.bool true)], args := [d1, d2, d3, d4] }
  | _ => none }
def closurePartsRow : OpenClaim := { program := "ytjbbmjjildhfbaagreatdoor", sum := "9157ea63ea48dc3042c962e18d1a93076967353f39b75f31a686a1e95aed1651", func := "diorama/dioramalaw31.ClosureParts", spec := "closureParts", inPlace := ["internal/abi.NoEscape"], unfollowed := true, recurses := true, named := ["diorama/typing.checks", "internal/strconv.uint64pow10", "math/bits.deBruijn32tab", "math/bits.deBruijn64tab", "diorama/schema.words"], plainKeys := false, apart := false, laid := [("math/bits.deBruijn32tab", laid_math_bits_deBruijn32tab), ("math/bits.deBruijn64tab", laid_math_bits_deBruijn64tab), ("internal/strconv.uint64pow10", laid_internal_strconv_uint64pow10), ("diorama/schema.words", laid_diorama_schema_words), ("diorama/typing.checks", laid_diorama_typing_checks)] }
def ClosurePartsSaid : Prop := closurePartsRow.holds Tryz.pinned (OpenSpec.ofChange closurePartsSpec)

/-- ITS FALSE NEIGHBOUR: 'it returns false'. Refute it at one input. -/
def closurePartsWrong : ChangeSpec := { name := "closureParts", fn := fun _ => fun
  | [d1, d2, d3, d4] => { results := [.lit (.bool false)], args := [d1, d2, d3, d4] }
  | _ => none }
def ClosurePartsWrongFalsely : Prop := closurePartsRow.holds Tryz.pinned (OpenSpec.ofChange closurePartsWrong)

/- THE SECOND FORM. 'bulk': how many values and letters a reading holds, each counted each time it is reached (what is shared counts as often as it is met; a slice's spare places count too). A statement '..UptoSaid' is the law's where the arguments, and the package variables that the reading takes, are together of bulk at most 1048576: NARROWER than '..Said'. Prove '..Said' where nothing that the law and all that it calls make is longer than what came in: it says more and counts as full. Else prove '..UptoSaid'. A law counts once. -/
mutual
def uptoBulk {H : Type} : DataW H → Nat
  | .lit (.string bytes) => bytes.length + 1
  | .lit _ => 1
  | .nil => 1
  | .ptr d => uptoBulk d + 1
  | .slice elems spare => uptoBulkAll elems + uptoBulkAll spare + 1
  | .agg parts => uptoBulkAll parts + 1
  | .iface _ d => uptoBulk d + 1
  | .map entries => uptoBulkEntries entries + 1
  | .held _ => 1
def uptoBulkAll {H : Type} : List (DataW H) → Nat
  | [] => 0
  | d :: r => uptoBulk d + uptoBulkAll r
def uptoBulkEntries {H : Type} : List (Lit × DataW H) → Nat
  | [] => 0
  | x :: r => uptoBulkEntry x + uptoBulkEntries r
def uptoBulkEntry {H : Type} : Lit × DataW H → Nat
  | (.string bytes, d) => bytes.length + uptoBulk d + 1
  | (_, d) => uptoBulk d + 1
 end
def uptoSmall : (H : Type) → List (DataW H) → Bool := fun _ ds => decide (uptoBulkAll ds ≤ 1048576)
def OpenSpec.upto (s : _root_.Go.ChangeSpec) : _root_.Go.OpenSpec := { _root_.Go.OpenSpec.ofChange s with cond := some uptoSmall }

/-- 'dioramalaw31.ClosureWithout', WHERE WHAT IT READS IS OF BULK AT MOST 1048576: true; the input reads as it did. -/
def closureWithoutUptoRow : OpenClaim := { program := "ytjbbmjjildhfbaagreatdoor", sum := "9157ea63ea48dc3042c962e18d1a93076967353f39b75f31a686a1e95aed1651", func := "diorama/dioramalaw31.ClosureWithout", spec := "closureWithout", inPlace := ["internal/abi.NoEscape"], unfollowed := true, recurses := true, named := ["diorama/typing.checks", "internal/strconv.uint64pow10", "math/bits.deBruijn32tab", "math/bits.deBruijn64tab", "diorama/schema.words"], plainKeys := false, apart := false, laid := [("math/bits.deBruijn32tab", laid_math_bits_deBruijn32tab), ("math/bits.deBruijn64tab", laid_math_bits_deBruijn64tab), ("internal/strconv.uint64pow10", laid_internal_strconv_uint64pow10), ("diorama/schema.words", laid_diorama_schema_words), ("diorama/typing.checks", laid_diorama_typing_checks)], narrowed := true }
def ClosureWithoutUptoSaid : Prop := closureWithoutUptoRow.holds Tryz.pinned (OpenSpec.upto closureWithoutSpec)

/-- 'dioramalaw31.ClosureGreatest', WHERE WHAT IT READS IS OF BULK AT MOST 1048576: true; the input reads as it did. -/
def closureGreatestUptoRow : OpenClaim := { program := "ytjbbmjjildhfbaagreatdoor", sum := "9157ea63ea48dc3042c962e18d1a93076967353f39b75f31a686a1e95aed1651", func := "diorama/dioramalaw31.ClosureGreatest", spec := "closureGreatest", inPlace := ["internal/abi.NoEscape"], unfollowed := true, recurses := true, named := ["diorama/typing.checks", "internal/strconv.uint64pow10", "math/bits.deBruijn32tab", "math/bits.deBruijn64tab", "diorama/schema.words"], plainKeys := false, apart := false, laid := [("math/bits.deBruijn32tab", laid_math_bits_deBruijn32tab), ("math/bits.deBruijn64tab", laid_math_bits_deBruijn64tab), ("internal/strconv.uint64pow10", laid_internal_strconv_uint64pow10), ("diorama/schema.words", laid_diorama_schema_words), ("diorama/typing.checks", laid_diorama_typing_checks)], narrowed := true }
def ClosureGreatestUptoSaid : Prop := closureGreatestUptoRow.holds Tryz.pinned (OpenSpec.upto closureGreatestSpec)

/-- 'dioramalaw31.ClosureUnion', WHERE WHAT IT READS IS OF BULK AT MOST 1048576: true; the input reads as it did. -/
def closureUnionUptoRow : OpenClaim := { program := "ytjbbmjjildhfbaagreatdoor", sum := "9157ea63ea48dc3042c962e18d1a93076967353f39b75f31a686a1e95aed1651", func := "diorama/dioramalaw31.ClosureUnion", spec := "closureUnion", inPlace := ["internal/abi.NoEscape"], unfollowed := true, recurses := true, named := ["diorama/typing.checks", "internal/strconv.uint64pow10", "math/bits.deBruijn32tab", "math/bits.deBruijn64tab", "diorama/schema.words"], plainKeys := false, apart := false, laid := [("math/bits.deBruijn32tab", laid_math_bits_deBruijn32tab), ("math/bits.deBruijn64tab", laid_math_bits_deBruijn64tab), ("internal/strconv.uint64pow10", laid_internal_strconv_uint64pow10), ("diorama/schema.words", laid_diorama_schema_words), ("diorama/typing.checks", laid_diorama_typing_checks)], narrowed := true }
def ClosureUnionUptoSaid : Prop := closureUnionUptoRow.holds Tryz.pinned (OpenSpec.upto closureUnionSpec)

/-- 'dioramalaw31.ClosureValid', WHERE WHAT IT READS IS OF BULK AT MOST 1048576: true; the input reads as it did. -/
def closureValidUptoRow : OpenClaim := { program := "ytjbbmjjildhfbaagreatdoor", sum := "9157ea63ea48dc3042c962e18d1a93076967353f39b75f31a686a1e95aed1651", func := "diorama/dioramalaw31.ClosureValid", spec := "closureValid", inPlace := ["internal/abi.NoEscape"], unfollowed := true, recurses := true, named := ["diorama/typing.checks", "internal/strconv.uint64pow10", "math/bits.deBruijn32tab", "math/bits.deBruijn64tab", "diorama/schema.words"], plainKeys := false, apart := false, laid := [("math/bits.deBruijn32tab", laid_math_bits_deBruijn32tab), ("math/bits.deBruijn64tab", laid_math_bits_deBruijn64tab), ("internal/strconv.uint64pow10", laid_internal_strconv_uint64pow10), ("diorama/schema.words", laid_diorama_schema_words), ("diorama/typing.checks", laid_diorama_typing_checks)], narrowed := true }
def ClosureValidUptoSaid : Prop := closureValidUptoRow.holds Tryz.pinned (OpenSpec.upto closureValidSpec)

/-- 'dioramalaw31.ClosureWorlds', WHERE WHAT IT READS IS OF BULK AT MOST 1048576: true; the input reads as it did. -/
def closureWorldsUptoRow : OpenClaim := { program := "ytjbbmjjildhfbaagreatdoor", sum := "9157ea63ea48dc3042c962e18d1a93076967353f39b75f31a686a1e95aed1651", func := "diorama/dioramalaw31.ClosureWorlds", spec := "closureWorlds", inPlace := ["internal/abi.NoEscape"], unfollowed := true, recurses := true, named := ["diorama/typing.checks", "internal/strconv.uint64pow10", "math/bits.deBruijn32tab", "math/bits.deBruijn64tab", "diorama/schema.words"], plainKeys := false, apart := false, laid := [("math/bits.deBruijn32tab", laid_math_bits_deBruijn32tab), ("math/bits.deBruijn64tab", laid_math_bits_deBruijn64tab), ("internal/strconv.uint64pow10", laid_internal_strconv_uint64pow10), ("diorama/schema.words", laid_diorama_schema_words), ("diorama/typing.checks", laid_diorama_typing_checks)], narrowed := true }
def ClosureWorldsUptoSaid : Prop := closureWorldsUptoRow.holds Tryz.pinned (OpenSpec.upto closureWorldsSpec)

/-- 'dioramalaw31.ClosureParts', WHERE WHAT IT READS IS OF BULK AT MOST 1048576: true; the input reads as it did. -/
def closurePartsUptoRow : OpenClaim := { program := "ytjbbmjjildhfbaagreatdoor", sum := "9157ea63ea48dc3042c962e18d1a93076967353f39b75f31a686a1e95aed1651", func := "diorama/dioramalaw31.ClosureParts", spec := "closureParts", inPlace := ["internal/abi.NoEscape"], unfollowed := true, recurses := true, named := ["diorama/typing.checks", "internal/strconv.uint64pow10", "math/bits.deBruijn32tab", "math/bits.deBruijn64tab", "diorama/schema.words"], plainKeys := false, apart := false, laid := [("math/bits.deBruijn32tab", laid_math_bits_deBruijn32tab), ("math/bits.deBruijn64tab", laid_math_bits_deBruijn64tab), ("internal/strconv.uint64pow10", laid_internal_strconv_uint64pow10), ("diorama/schema.words", laid_diorama_schema_words), ("diorama/typing.checks", laid_diorama_typing_checks)], narrowed := true }
def ClosurePartsUptoSaid : Prop := closurePartsUptoRow.holds Tryz.pinned (OpenSpec.upto closurePartsSpec)

end Rows
end Go.Proofs.YtjbbmjjildhfbaaGreatDoor
