/-
  NARROWER THAN 'FOR EVERY INPUT', by the rows' own cells (each row's printed sentence says how): TellLines: laid · TellErrors: laid · TellRows: laid · TellRuns: laid · TellEnds: laid · WholeBytes: laid.
  DERIVED. THE GIVEN ROWS OF THIS SEAT. 6 by the template 'for every input the law returns true; each argument reads behind the call as it read before'; 0 by the template 'total and deterministic' (their statements: YtgofdjfokfgnhaaGreatDoorTotals.lean).
  GIVEN WITH THE SEED: the statements are not yours to turn. If you find one false, say at which input.
  Laid BY PROGRAM, IN A SANDBOX (cutbox-rows.mjs): the forced cells as the released guide's own fill.sh prints them over the translation 8f5b712c86ddc7db… (all of the seat's roots in one cut). By AI agents, Wed Nov 11 2026. No macro, syntax, notation, axiom, sorry.
-/
import Derived.Test.YtgofdjfokfgnhaaGreatDoorChecked
import GoSem.Claim
import GoSem.ClaimJoined
import GoSem.ClaimMapViews
import Derived.JoinedTies
import Derived.KernelRfl
namespace Go.Proofs.YtgofdjfokfgnhaaGreatDoor
/- THE CELL 'sum', in the pinned program and in every row, IS THE sha256 OF THE DUMP (.gsa) THAT YtgofdjfokfgnhaaGreatDoorProg.lean LOADS. Nothing in Lean hashes anything: it is a label: what it is worth is what the hold of that sum in a sandbox is worth. -/
noncomputable def Tryz.pinned : Pinned := { name := "ytgofdjfokfgnhaagreatdoor", sum := "8f5b712c86ddc7db2f2f13b5fb2a9a34dfd766974323388897d8c4a0c64267fc", checked := Tryz.checked }
namespace Rows
def none {H : Type} : Left H := { results := [], args := [] }

/- WHAT THE LISTED PACKAGE-LEVEL VARIABLES READ AS WHEN THE CALL BEGINS. Each datum BY PROGRAM (the guide's laid-datum.mjs) off the statement by which the dump's own 'gosem.cut.vars' lays the variable. In a bare row this is a premise. The card (YtgofdjfokfgnhaaGreatDoorCards.lean) ties it to the program's text. -/
def laid_math_bits_deBruijn32tab {H : Type} : DataW H := .agg [.lit (.int .u8 0), .lit (.int .u8 1), .lit (.int .u8 28), .lit (.int .u8 2), .lit (.int .u8 29), .lit (.int .u8 14), .lit (.int .u8 24), .lit (.int .u8 3), .lit (.int .u8 30), .lit (.int .u8 22), .lit (.int .u8 20), .lit (.int .u8 15), .lit (.int .u8 25), .lit (.int .u8 17), .lit (.int .u8 4), .lit (.int .u8 8), .lit (.int .u8 31), .lit (.int .u8 27), .lit (.int .u8 13), .lit (.int .u8 23), .lit (.int .u8 21), .lit (.int .u8 19), .lit (.int .u8 16), .lit (.int .u8 7), .lit (.int .u8 26), .lit (.int .u8 12), .lit (.int .u8 18), .lit (.int .u8 6), .lit (.int .u8 11), .lit (.int .u8 5), .lit (.int .u8 10), .lit (.int .u8 9)]
def laid_math_bits_deBruijn64tab {H : Type} : DataW H := .agg [.lit (.int .u8 0), .lit (.int .u8 1), .lit (.int .u8 56), .lit (.int .u8 2), .lit (.int .u8 57), .lit (.int .u8 49), .lit (.int .u8 28), .lit (.int .u8 3), .lit (.int .u8 61), .lit (.int .u8 58), .lit (.int .u8 42), .lit (.int .u8 50), .lit (.int .u8 38), .lit (.int .u8 29), .lit (.int .u8 17), .lit (.int .u8 4), .lit (.int .u8 62), .lit (.int .u8 47), .lit (.int .u8 59), .lit (.int .u8 36), .lit (.int .u8 45), .lit (.int .u8 43), .lit (.int .u8 51), .lit (.int .u8 22), .lit (.int .u8 53), .lit (.int .u8 39), .lit (.int .u8 33), .lit (.int .u8 30), .lit (.int .u8 24), .lit (.int .u8 18), .lit (.int .u8 12), .lit (.int .u8 5), .lit (.int .u8 63), .lit (.int .u8 55), .lit (.int .u8 48), .lit (.int .u8 27), .lit (.int .u8 60), .lit (.int .u8 41), .lit (.int .u8 37), .lit (.int .u8 16), .lit (.int .u8 46), .lit (.int .u8 35), .lit (.int .u8 44), .lit (.int .u8 21), .lit (.int .u8 52), .lit (.int .u8 32), .lit (.int .u8 23), .lit (.int .u8 11), .lit (.int .u8 54), .lit (.int .u8 26), .lit (.int .u8 40), .lit (.int .u8 15), .lit (.int .u8 34), .lit (.int .u8 20), .lit (.int .u8 31), .lit (.int .u8 10), .lit (.int .u8 25), .lit (.int .u8 14), .lit (.int .u8 19), .lit (.int .u8 9), .lit (.int .u8 13), .lit (.int .u8 8), .lit (.int .u8 7), .lit (.int .u8 6)]
def laid_internal_strconv_uint64pow10 {H : Type} : DataW H := .agg [.lit (.int .u64 1), .lit (.int .u64 10), .lit (.int .u64 100), .lit (.int .u64 1000), .lit (.int .u64 10000), .lit (.int .u64 100000), .lit (.int .u64 1000000), .lit (.int .u64 10000000), .lit (.int .u64 100000000), .lit (.int .u64 1000000000), .lit (.int .u64 10000000000), .lit (.int .u64 100000000000), .lit (.int .u64 1000000000000), .lit (.int .u64 10000000000000), .lit (.int .u64 100000000000000), .lit (.int .u64 1000000000000000), .lit (.int .u64 10000000000000000), .lit (.int .u64 100000000000000000), .lit (.int .u64 1000000000000000000), .lit (.int .u64 10000000000000000000)]

/-- 'tenementlaw19.TellLines': WHATEVER THE INPUT: true; the input reads as it did. -/
def tellLinesSpec : ChangeSpec := { name := "tellLines", fn := fun _ => fun
  | [d] => { results := [.lit (.bool true)], args := [d] }
  | _ => none }
def tellLinesRow : OpenClaim := { program := "ytgofdjfokfgnhaagreatdoor", sum := "8f5b712c86ddc7db2f2f13b5fb2a9a34dfd766974323388897d8c4a0c64267fc", func := "tenement/tenementlaw19.TellLines", spec := "tellLines", inPlace := ["slices.overlaps[tenement/index.Item]", "internal/abi.NoEscape"], unfollowed := true, recurses := true, named := ["internal/strconv.uint64pow10", "math/bits.deBruijn32tab", "math/bits.deBruijn64tab"], plainKeys := false, apart := false, laid := [("math/bits.deBruijn32tab", laid_math_bits_deBruijn32tab), ("math/bits.deBruijn64tab", laid_math_bits_deBruijn64tab), ("internal/strconv.uint64pow10", laid_internal_strconv_uint64pow10)] }
def TellLinesSaid : Prop := tellLinesRow.holds Tryz.pinned (OpenSpec.ofChange tellLinesSpec)

/-- ITS FALSE NEIGHBOUR: 'it returns false'. Refute it at one input. -/
def tellLinesWrong : ChangeSpec := { name := "tellLines", fn := fun _ => fun
  | [d] => { results := [.lit (.bool false)], args := [d] }
  | _ => none }
def TellLinesWrongFalsely : Prop := tellLinesRow.holds Tryz.pinned (OpenSpec.ofChange tellLinesWrong)

/-- 'tenementlaw19.TellErrors': WHATEVER THE INPUT: true; the input reads as it did. -/
def tellErrorsSpec : ChangeSpec := { name := "tellErrors", fn := fun _ => fun
  | [d1, d2] => { results := [.lit (.bool true)], args := [d1, d2] }
  | _ => none }
def tellErrorsRow : OpenClaim := { program := "ytgofdjfokfgnhaagreatdoor", sum := "8f5b712c86ddc7db2f2f13b5fb2a9a34dfd766974323388897d8c4a0c64267fc", func := "tenement/tenementlaw19.TellErrors", spec := "tellErrors", inPlace := ["slices.overlaps[tenement/index.Item]", "internal/abi.NoEscape"], unfollowed := true, recurses := true, named := ["internal/strconv.uint64pow10", "math/bits.deBruijn32tab", "math/bits.deBruijn64tab"], plainKeys := false, apart := false, laid := [("math/bits.deBruijn32tab", laid_math_bits_deBruijn32tab), ("math/bits.deBruijn64tab", laid_math_bits_deBruijn64tab), ("internal/strconv.uint64pow10", laid_internal_strconv_uint64pow10)] }
def TellErrorsSaid : Prop := tellErrorsRow.holds Tryz.pinned (OpenSpec.ofChange tellErrorsSpec)

/-- ITS FALSE NEIGHBOUR: 'it returns false'. Refute it at one input. -/
def tellErrorsWrong : ChangeSpec := { name := "tellErrors", fn := fun _ => fun
  | [d1, d2] => { results := [.lit (.bool false)], args := [d1, d2] }
  | _ => none }
def TellErrorsWrongFalsely : Prop := tellErrorsRow.holds Tryz.pinned (OpenSpec.ofChange tellErrorsWrong)

/-- 'tenementlaw19.TellRows': WHATEVER THE INPUT: true; the input reads as it did. -/
def tellRowsSpec : ChangeSpec := { name := "tellRows", fn := fun _ => fun
  | [d] => { results := [.lit (.bool true)], args := [d] }
  | _ => none }
def tellRowsRow : OpenClaim := { program := "ytgofdjfokfgnhaagreatdoor", sum := "8f5b712c86ddc7db2f2f13b5fb2a9a34dfd766974323388897d8c4a0c64267fc", func := "tenement/tenementlaw19.TellRows", spec := "tellRows", inPlace := ["slices.overlaps[tenement/index.Item]", "internal/abi.NoEscape"], unfollowed := true, recurses := true, named := ["internal/strconv.uint64pow10", "math/bits.deBruijn32tab", "math/bits.deBruijn64tab"], plainKeys := false, apart := false, laid := [("math/bits.deBruijn32tab", laid_math_bits_deBruijn32tab), ("math/bits.deBruijn64tab", laid_math_bits_deBruijn64tab), ("internal/strconv.uint64pow10", laid_internal_strconv_uint64pow10)] }
def TellRowsSaid : Prop := tellRowsRow.holds Tryz.pinned (OpenSpec.ofChange tellRowsSpec)

/-- ITS FALSE NEIGHBOUR: 'it returns false'. Refute it at one input. -/
def tellRowsWrong : ChangeSpec := { name := "tellRows", fn := fun _ => fun
  | [d] => { results := [.lit (.bool false)], args := [d] }
  | _ => none }
def TellRowsWrongFalsely : Prop := tellRowsRow.holds Tryz.pinned (OpenSpec.ofChange tellRowsWrong)

/-- 'tenementlaw19.TellRuns': WHATEVER THE INPUT: true; the input reads as it did. -/
def tellRunsSpec : ChangeSpec := { name := "tellRuns", fn := fun _ => fun
  | [d] => { results := [.lit (.bool true)], args := [d] }
  | _ => none }
def tellRunsRow : OpenClaim := { program := "ytgofdjfokfgnhaagreatdoor", sum := "8f5b712c86ddc7db2f2f13b5fb2a9a34dfd766974323388897d8c4a0c64267fc", func := "tenement/tenementlaw19.TellRuns", spec := "tellRuns", inPlace := ["slices.overlaps[tenement/index.Item]", "internal/abi.NoEscape"], unfollowed := true, recurses := true, named := ["internal/strconv.uint64pow10", "math/bits.deBruijn32tab", "math/bits.deBruijn64tab"], plainKeys := false, apart := false, laid := [("math/bits.deBruijn32tab", laid_math_bits_deBruijn32tab), ("math/bits.deBruijn64tab", laid_math_bits_deBruijn64tab), ("internal/strconv.uint64pow10", laid_internal_strconv_uint64pow10)] }
def TellRunsSaid : Prop := tellRunsRow.holds Tryz.pinned (OpenSpec.ofChange tellRunsSpec)

/-- ITS FALSE NEIGHBOUR: 'it returns false'. Refute it at one input. -/
def tellRunsWrong : ChangeSpec := { name := "tellRuns", fn := fun _ => fun
  | [d] => { results := [.lit (.bool false)], args := [d] }
  | _ => none }
def TellRunsWrongFalsely : Prop := tellRunsRow.holds Tryz.pinned (OpenSpec.ofChange tellRunsWrong)

/-- 'tenementlaw19.TellEnds': WHATEVER THE INPUT: true; the input reads as it did. -/
def tellEndsSpec : ChangeSpec := { name := "tellEnds", fn := fun _ => fun
  | [d1, d2] => { results := [.lit (.bool true)], args := [d1, d2] }
  | _ => none }
def tellEndsRow : OpenClaim := { program := "ytgofdjfokfgnhaagreatdoor", sum := "8f5b712c86ddc7db2f2f13b5fb2a9a34dfd766974323388897d8c4a0c64267fc", func := "tenement/tenementlaw19.TellEnds", spec := "tellEnds", inPlace := ["slices.overlaps[tenement/index.Item]", "internal/abi.NoEscape"], unfollowed := true, recurses := true, named := ["internal/strconv.uint64pow10", "math/bits.deBruijn32tab", "math/bits.deBruijn64tab"], plainKeys := false, apart := false, laid := [("math/bits.deBruijn32tab", laid_math_bits_deBruijn32tab), ("math/bits.deBruijn64tab", laid_math_bits_deBruijn64tab), ("internal/strconv.uint64pow10", laid_internal_strconv_uint64pow10)] }
def TellEndsSaid : Prop := tellEndsRow.holds Tryz.pinned (OpenSpec.ofChange tellEndsSpec)

/-- ITS FALSE NEIGHBOUR: 'it returns false'. Refute it at one input. -/
def tellEndsWrong : ChangeSpec := { name := "tellEnds", fn := fun _ => fun
  | [d1, d2] => { results := [.lit (.bool false)], args := [d1, d2] }
  | _ => none }
def TellEndsWrongFalsely : Prop := tellEndsRow.holds Tryz.pinned (OpenSpec.ofChange tellEndsWrong)

/-- 'tenementtop.WholeBytes': WHATEVER THE INPUT: true; the input reads as it did. -/
def wholeBytesSpec : ChangeSpec := { name := "wholeBytes", fn := fun _ => fun
  | [d] => { results := [.lit (.bool true)], args := [d] }
  | _ => none }
def wholeBytesRow : OpenClaim := { program := "ytgofdjfokfgnhaagreatdoor", sum := "8f5b712c86ddc7db2f2f13b5fb2a9a34dfd766974323388897d8c4a0c64267fc", func := "tenement/tenementtop.WholeBytes", spec := "wholeBytes", inPlace := ["slices.overlaps[tenement/index.Item]", "internal/abi.NoEscape"], unfollowed := true, recurses := true, named := ["internal/strconv.uint64pow10", "math/bits.deBruijn32tab", "math/bits.deBruijn64tab"], plainKeys := false, apart := false, laid := [("math/bits.deBruijn32tab", laid_math_bits_deBruijn32tab), ("math/bits.deBruijn64tab", laid_math_bits_deBruijn64tab), ("internal/strconv.uint64pow10", laid_internal_strconv_uint64pow10)] }
def WholeBytesSaid : Prop := wholeBytesRow.holds Tryz.pinned (OpenSpec.ofChange wholeBytesSpec)

/-- ITS FALSE NEIGHBOUR: 'it returns false'. Refute it at one input. -/
def wholeBytesWrong : ChangeSpec := { name := "wholeBytes", fn := fun _ => fun
  | [d] => { results := [.lit (.bool false)], args := [d] }
  | _ => none }
def WholeBytesWrongFalsely : Prop := wholeBytesRow.holds Tryz.pinned (OpenSpec.ofChange wholeBytesWrong)

/- THE SECOND FORM. 'bulk': how many values and letters a reading holds, each counted each time it is reached (what is shared counts as often as it is met; a slice's spare places count too). A statement '..UptoSaid' is the law's where the arguments, and the package variables that the reading takes, are together of bulk at most 1048576: NARROWER than '..Said'. Prove '..Said' where nothing that the law and all that it calls make is longer than what came in: it says more and counts as full. Else prove '..UptoSaid'. A law counts once. -/
mutual
def uptoBulk {H : Type} : DataW H → Nat
  | .lit (.string bytes) => bytes.length + 1
  | .lit _ => 1
  | .nil => 1
  | .ptr d => uptoBulk d + 1
  | .slice elems spare => uptoBulkAll elems + uptoBulkAll spare + 1
  | .agg parts => uptoBulkAll parts + 1
  | .iface _ d => uptoBulk d + 1
  | .map entries => uptoBulkEntries entries + 1
  | .held _ => 1
def uptoBulkAll {H : Type} : List (DataW H) → Nat
  | [] => 0
  | d :: r => uptoBulk d + uptoBulkAll r
def uptoBulkEntries {H : Type} : List (Lit × DataW H) → Nat
  | [] => 0
  | x :: r => uptoBulkEntry x + uptoBulkEntries r
def uptoBulkEntry {H : Type} : Lit × DataW H → Nat
  | (.string bytes, d) => bytes.length + uptoBulk d + 1
  | (_, d) => uptoBulk d + 1
 end
def uptoSmall : (H : Type) → List (DataW H) → Bool := fun _ ds => decide (uptoBulkAll ds ≤ 1048576)
def OpenSpec.upto (s : _root_.Go.ChangeSpec) : _root_.Go.OpenSpec := { _root_.Go.OpenSpec.ofChange s with cond := some uptoSmall }

/-- 'tenementlaw19.TellLines', WHERE WHAT IT READS IS OF BULK AT MOST 1048576: true; the input reads as it did. -/
def tellLinesUptoRow : OpenClaim := { program := "ytgofdjfokfgnhaagreatdoor", sum := "8f5b712c86ddc7db2f2f13b5fb2a9a34dfd766974323388897d8c4a0c64267fc", func := "tenement/tenementlaw19.TellLines", spec := "tellLines", inPlace := ["slices.overlaps[tenement/index.Item]", "internal/abi.NoEscape"], unfollowed := true, recurses := true, named := ["internal/strconv.uint64pow10", "math/bits.deBruijn32tab", "math/bits.deBruijn64tab"], plainKeys := false, apart := false, laid := [("math/bits.deBruijn32tab", laid_math_bits_deBruijn32tab), ("math/bits.deBruijn64tab", laid_math_bits_deBruijn64tab), ("internal/strconv.uint64pow10", laid_internal_strconv_uint64pow10)], narrowed := true }
def TellLinesUptoSaid : Prop := tellLinesUptoRow.holds Tryz.pinned (OpenSpec.upto tellLinesSpec)

/-- 'tenementlaw19.TellErrors', WHERE WHAT IT READS IS OF BULK AT MOST 1048576: true; the input reads as it did. -/
def tellErrorsUptoRow : OpenClaim := { program := "ytgofdjfokfgnhaagreatdoor", sum := "8f5b712c86ddc7db2f2f13b5fb2a9a34dfd766974323388897d8c4a0c64267fc", func := "tenement/tenementlaw19.TellErrors", spec := "tellErrors", inPlace := ["slices.overlaps[tenement/index.Item]", "internal/abi.NoEscape"], unfollowed := true, recurses := true, named := ["internal/strconv.uint64pow10", "math/bits.deBruijn32tab", "math/bits.deBruijn64tab"], plainKeys := false, apart := false, laid := [("math/bits.deBruijn32tab", laid_math_bits_deBruijn32tab), ("math/bits.deBruijn64tab", laid_math_bits_deBruijn64tab), ("internal/strconv.uint64pow10", laid_internal_strconv_uint64pow10)], narrowed := true }
def TellErrorsUptoSaid : Prop := tellErrorsUptoRow.holds Tryz.pinned (OpenSpec.upto tellErrorsSpec)

/-- 'tenementlaw19.TellRows', WHERE WHAT IT READS IS OF BULK AT MOST 1048576: true; the input reads as it did. -/
def tellRowsUptoRow : OpenClaim := { program := "ytgofdjfokfgnhaagreatdoor", sum := "8f5b712c86ddc7db2f2f13b5fb2a9a34dfd766974323388897d8c4a0c64267fc", func := "tenement/tenementlaw19.TellRows", spec := "tellRows", inPlace := ["slices.overlaps[tenement/index.Item]", "internal/abi.NoEscape"], unfollowed := true, recurses := true, named := ["internal/strconv.uint64pow10", "math/bits.deBruijn32tab", "math/bits.deBruijn64tab"], plainKeys := false, apart := false, laid := [("math/bits.deBruijn32tab", laid_math_bits_deBruijn32tab), ("math/bits.deBruijn64tab", laid_math_bits_deBruijn64tab), ("internal/strconv.uint64pow10", laid_internal_strconv_uint64pow10)], narrowed := true }
def TellRowsUptoSaid : Prop := tellRowsUptoRow.holds Tryz.pinned (OpenSpec.upto tellRowsSpec)

/-- 'tenementlaw19.TellRuns', WHERE WHAT IT READS IS OF BULK AT MOST 1048576: true; the input reads as it did. -/
def tellRunsUptoRow : OpenClaim := { program := "ytgofdjfokfgnhaagreatdoor", sum := "8f5b712c86ddc7db2f2f13b5fb2a9a34dfd766974323388897d8c4a0c64267fc", func := "tenement/tenementlaw19.TellRuns", spec := "tellRuns", inPlace := ["slices.overlaps[tenement/index.Item]", "internal/abi.NoEscape"], unfollowed := true, recurses := true, named := ["internal/strconv.uint64pow10", "math/bits.deBruijn32tab", "math/bits.deBruijn64tab"], plainKeys := false, apart := false, laid := [("math/bits.deBruijn32tab", laid_math_bits_deBruijn32tab), ("math/bits.deBruijn64tab", laid_math_bits_deBruijn64tab), ("internal/strconv.uint64pow10", laid_internal_strconv_uint64pow10)], narrowed := true }
def TellRunsUptoSaid : Prop := tellRunsUptoRow.holds Tryz.pinned (OpenSpec.upto tellRunsSpec)

/-- 'tenementlaw19.TellEnds', WHERE WHAT IT READS IS OF BULK AT MOST 1048576: true; the input reads as it did. -/
def tellEndsUptoRow : OpenClaim := { program := "ytgofdjfokfgnhaagreatdoor", sum := "8f5b712c86ddc7db2f2f13b5fb2a9a34dfd766974323388897d8c4a0c64267fc", func := "tenement/tenementlaw19.TellEnds", spec := "tellEnds", inPlace := ["slices.overlaps[tenement/index.Item]", "internal/abi.NoEscape"], unfollowed := true, recurses := true, named := ["internal/strconv.uint64pow10", "math/bits.deBruijn32tab", "math/bits.deBruijn64tab"], plainKeys := false, apart := false, laid := [("math/bits.deBruijn32tab", laid_math_bits_deBruijn32tab), ("math/bits.deBruijn64tab", laid_math_bits_deBruijn64tab), ("internal/strconv.uint64pow10", laid_internal_strconv_uint64pow10)], narrowed := true }
def TellEndsUptoSaid : Prop := tellEndsUptoRow.holds Tryz.pinned (OpenSpec.upto tellEndsSpec)

/-- 'tenementtop.WholeBytes', WHERE WHAT IT READS IS OF BULK AT MOST 1048576: true; the input reads as it did. -/
def wholeBytesUptoRow : OpenClaim := { program := "ytgofdjfokfgnhaagreatdoor", sum := "8f5b712c86ddc7db2f2f13b5fb2a9a34dfd766974323388897d8c4a0c64267fc", func := "tenement/tenementtop.WholeBytes", spec := "wholeBytes", inPlace := ["slices.overlaps[tenement/index.Item]", "internal/abi.NoEscape"], unfollowed := true, recurses := true, named := ["internal/strconv.uint64pow10", "math/bits.deBruijn32tab", "math/bits.deBruijn64tab"], plainKeys := false, apart := false, laid := [("math/bits.deBruijn32tab", laid_math_bits_deBruijn32tab), ("math/bits.deBruijn64tab", laid_math_bits_deBruijn64tab), ("internal/strconv.uint64pow10", laid_internal_strconv_uint64pow10)], narrowed := true }
def WholeBytesUptoSaid : Prop := wholeBytesUptoRow.holds Tryz.pinned (OpenSpec.upto wholeBytesSpec)

end Rows
end Go.Proofs.YtgofdjfokfgnhaaGreatDoor
