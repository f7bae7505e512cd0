/-
  NARROWER THAN 'FOR EVERY INPUT', by the rows' own cells (each row's printed sentence says how): FnTermBack: laid · FnRename: laid · FnExactProgShift: laid · FnInline: laid · FnExactProgRename: laid · FnInlineTwo: laid · FnExactProgInline: laid · FnExactProgFlat: laid · FnExactGraphOf: laid · FnGraphTop: laid · FnExactProgRead: laid · FnProgLines: laid · FnLangTop: laid.
  DERIVED. THE GIVEN ROWS OF THIS SEAT. 13 by the template 'for every input the law returns true; each argument reads behind the call as it read before'; 0 by the template 'total and deterministic' (their statements: YtbahacapnaohcaaGreatDoorTotals.lean).
  GIVEN WITH THE SEED: the statements are not yours to turn. If you find one false, say at which input.
  Laid BY PROGRAM, IN A SANDBOX (cutbox-rows.mjs): the forced cells as the released guide's own fill.sh prints them over the translation c1a6fa6e795c15af… (all of the seat's roots in one cut). By AI agents, Wed Nov 11 2026. No macro, syntax, notation, axiom, sorry.
-/
import Derived.Test.YtbahacapnaohcaaGreatDoorChecked
import GoSem.PinnedTables
import GoSem.Claim
import GoSem.ClaimJoined
import GoSem.ClaimMapViews
import Derived.JoinedTies
import Derived.KernelRfl
namespace Go.Proofs.YtbahacapnaohcaaGreatDoor
/- THE CELL 'sum', in the pinned program and in every row, IS THE sha256 OF THE DUMP (.gsa) THAT YtbahacapnaohcaaGreatDoorProg.lean LOADS. Nothing in Lean hashes anything: it is a label: what it is worth is what the hold of that sum in a sandbox is worth. -/
noncomputable def Tryz.pinned : Pinned := { name := "ytbahacapnaohcaagreatdoor", sum := "c1a6fa6e795c15afeecdad167c2ed0f8b8c9861d3880327a08ae5a79d64fe835", checked := Tryz.checked }
namespace Rows
def none {H : Type} : Left H := { results := [], args := [] }

/- WHAT THE LISTED PACKAGE-LEVEL VARIABLES READ AS WHEN THE CALL BEGINS. Each datum BY PROGRAM (the guide's laid-datum.mjs) off the statement by which the dump's own 'gosem.cut.vars' lays the variable. In a bare row this is a premise. The card (YtbahacapnaohcaaGreatDoorCards.lean) ties it to the program's text. -/
def laid_math_bits_deBruijn32tab {H : Type} : DataW H := .agg [.lit (.int .u8 0), .lit (.int .u8 1), .lit (.int .u8 28), .lit (.int .u8 2), .lit (.int .u8 29), .lit (.int .u8 14), .lit (.int .u8 24), .lit (.int .u8 3), .lit (.int .u8 30), .lit (.int .u8 22), .lit (.int .u8 20), .lit (.int .u8 15), .lit (.int .u8 25), .lit (.int .u8 17), .lit (.int .u8 4), .lit (.int .u8 8), .lit (.int .u8 31), .lit (.int .u8 27), .lit (.int .u8 13), .lit (.int .u8 23), .lit (.int .u8 21), .lit (.int .u8 19), .lit (.int .u8 16), .lit (.int .u8 7), .lit (.int .u8 26), .lit (.int .u8 12), .lit (.int .u8 18), .lit (.int .u8 6), .lit (.int .u8 11), .lit (.int .u8 5), .lit (.int .u8 10), .lit (.int .u8 9)]
def laid_math_bits_deBruijn64tab {H : Type} : DataW H := .agg [.lit (.int .u8 0), .lit (.int .u8 1), .lit (.int .u8 56), .lit (.int .u8 2), .lit (.int .u8 57), .lit (.int .u8 49), .lit (.int .u8 28), .lit (.int .u8 3), .lit (.int .u8 61), .lit (.int .u8 58), .lit (.int .u8 42), .lit (.int .u8 50), .lit (.int .u8 38), .lit (.int .u8 29), .lit (.int .u8 17), .lit (.int .u8 4), .lit (.int .u8 62), .lit (.int .u8 47), .lit (.int .u8 59), .lit (.int .u8 36), .lit (.int .u8 45), .lit (.int .u8 43), .lit (.int .u8 51), .lit (.int .u8 22), .lit (.int .u8 53), .lit (.int .u8 39), .lit (.int .u8 33), .lit (.int .u8 30), .lit (.int .u8 24), .lit (.int .u8 18), .lit (.int .u8 12), .lit (.int .u8 5), .lit (.int .u8 63), .lit (.int .u8 55), .lit (.int .u8 48), .lit (.int .u8 27), .lit (.int .u8 60), .lit (.int .u8 41), .lit (.int .u8 37), .lit (.int .u8 16), .lit (.int .u8 46), .lit (.int .u8 35), .lit (.int .u8 44), .lit (.int .u8 21), .lit (.int .u8 52), .lit (.int .u8 32), .lit (.int .u8 23), .lit (.int .u8 11), .lit (.int .u8 54), .lit (.int .u8 26), .lit (.int .u8 40), .lit (.int .u8 15), .lit (.int .u8 34), .lit (.int .u8 20), .lit (.int .u8 31), .lit (.int .u8 10), .lit (.int .u8 25), .lit (.int .u8 14), .lit (.int .u8 19), .lit (.int .u8 9), .lit (.int .u8 13), .lit (.int .u8 8), .lit (.int .u8 7), .lit (.int .u8 6)]
def laid_internal_strconv_uint64pow10 {H : Type} : DataW H := .agg [.lit (.int .u64 1), .lit (.int .u64 10), .lit (.int .u64 100), .lit (.int .u64 1000), .lit (.int .u64 10000), .lit (.int .u64 100000), .lit (.int .u64 1000000), .lit (.int .u64 10000000), .lit (.int .u64 100000000), .lit (.int .u64 1000000000), .lit (.int .u64 10000000000), .lit (.int .u64 100000000000), .lit (.int .u64 1000000000000), .lit (.int .u64 10000000000000), .lit (.int .u64 100000000000000), .lit (.int .u64 1000000000000000), .lit (.int .u64 10000000000000000), .lit (.int .u64 100000000000000000), .lit (.int .u64 1000000000000000000), .lit (.int .u64 10000000000000000000)]
def laid_strconv_ErrRange {H : Type} : DataW H := .iface "*errors.errorString" (.ptr (.agg [.lit (.string [118, 97, 108, 117, 101, 32, 111, 117, 116, 32, 111, 102, 32, 114, 97, 110, 103, 101])]))
def laid_strconv_ErrSyntax {H : Type} : DataW H := .iface "*errors.errorString" (.ptr (.agg [.lit (.string [105, 110, 118, 97, 108, 105, 100, 32, 115, 121, 110, 116, 97, 120])]))
def laid_loop_example_pinfold_impl_ownWords {H : Type} : DataW H := .slice [.lit (.string [100, 101, 102]), .lit (.string [118, 97, 114]), .lit (.string [115, 113, 114, 116]), .lit (.string [97, 98, 115]), .lit (.string [109, 105, 110]), .lit (.string [109, 97, 120])] []
def laid_unicode_utf8_acceptRanges {H : Type} : DataW H := .agg [.agg [.lit (.int .u8 128), .lit (.int .u8 191)], .agg [.lit (.int .u8 160), .lit (.int .u8 191)], .agg [.lit (.int .u8 128), .lit (.int .u8 159)], .agg [.lit (.int .u8 144), .lit (.int .u8 191)], .agg [.lit (.int .u8 128), .lit (.int .u8 143)], .agg [.lit (.int .u8 0), .lit (.int .u8 0)], .agg [.lit (.int .u8 0), .lit (.int .u8 0)], .agg [.lit (.int .u8 0), .lit (.int .u8 0)], .agg [.lit (.int .u8 0), .lit (.int .u8 0)], .agg [.lit (.int .u8 0), .lit (.int .u8 0)], .agg [.lit (.int .u8 0), .lit (.int .u8 0)], .agg [.lit (.int .u8 0), .lit (.int .u8 0)], .agg [.lit (.int .u8 0), .lit (.int .u8 0)], .agg [.lit (.int .u8 0), .lit (.int .u8 0)], .agg [.lit (.int .u8 0), .lit (.int .u8 0)], .agg [.lit (.int .u8 0), .lit (.int .u8 0)]]
def laid_loop_example_pinfold_impl_relSigns {H : Type} : DataW H := .slice [.lit (.string []), .lit (.string [60, 61]), .lit (.string [62, 61]), .lit (.string [61])] []
/-- One of Go's own tables, pinned by name: the form's constant. -/
def laid_unicode_utf8_first : DataW Unit := Go.Pinned.utf8First

/-- 'laws.FnTermBack': WHATEVER THE INPUT: true; the input reads as it did. -/
def fnTermBackSpec : ChangeSpec := { name := "fnTermBack", vars := ["loop.example/pinfold/impl.ownWords"], fn := fun _ => fun
  | [d1, d2, g1] => { results := [.lit (.bool true)], args := [d1, d2], vars := [g1] }
  | _ => none }
def fnTermBackRow : OpenClaim := { program := "ytbahacapnaohcaagreatdoor", sum := "c1a6fa6e795c15afeecdad167c2ed0f8b8c9861d3880327a08ae5a79d64fe835", func := "loop.example/pinfold/laws.FnTermBack", spec := "fnTermBack", inPlace := ["internal/bytealg.IndexByteString", "internal/bytealg.IndexString", "internal/abi.NoEscape", "internal/bytealg.MakeNoZero"], unfollowed := true, recurses := true, named := ["internal/bytealg.MaxLen", "strconv.ErrSyntax", "strconv.ErrRange", "internal/strconv.uint64pow10", "math/bits.deBruijn32tab", "math/bits.deBruijn64tab", "loop.example/pinfold/impl.ownWords"], plainKeys := false, apart := false, laid := [("math/bits.deBruijn32tab", laid_math_bits_deBruijn32tab), ("math/bits.deBruijn64tab", laid_math_bits_deBruijn64tab), ("internal/strconv.uint64pow10", laid_internal_strconv_uint64pow10), ("strconv.ErrRange", laid_strconv_ErrRange), ("strconv.ErrSyntax", laid_strconv_ErrSyntax), ("loop.example/pinfold/impl.ownWords", laid_loop_example_pinfold_impl_ownWords)] }
def FnTermBackSaid : Prop := fnTermBackRow.holds Tryz.pinned (OpenSpec.ofChange fnTermBackSpec)

/-- ITS FALSE NEIGHBOUR: 'it returns false'. Refute it at one input. -/
def fnTermBackWrong : ChangeSpec := { name := "fnTermBack", vars := ["loop.example/pinfold/impl.ownWords"], fn := fun _ => fun
  | [d1, d2, g1] => { results := [.lit (.bool false)], args := [d1, d2], vars := [g1] }
  | _ => none }
def FnTermBackWrongFalsely : Prop := fnTermBackRow.holds Tryz.pinned (OpenSpec.ofChange fnTermBackWrong)

/-- 'laws.FnRename': WHATEVER THE INPUT: true; the input reads as it did. -/
def fnRenameSpec : ChangeSpec := { name := "fnRename", vars := ["loop.example/pinfold/impl.ownWords"], fn := fun _ => fun
  | [d1, d2, g1] => { results := [.lit (.bool true)], args := [d1, d2], vars := [g1] }
  | _ => none }
def fnRenameRow : OpenClaim := { program := "ytbahacapnaohcaagreatdoor", sum := "c1a6fa6e795c15afeecdad167c2ed0f8b8c9861d3880327a08ae5a79d64fe835", func := "loop.example/pinfold/laws.FnRename", spec := "fnRename", inPlace := ["internal/bytealg.IndexByteString", "internal/bytealg.IndexString"], unfollowed := true, recurses := true, named := ["internal/bytealg.MaxLen", "strconv.ErrSyntax", "strconv.ErrRange", "internal/strconv.uint64pow10", "math/bits.deBruijn32tab", "math/bits.deBruijn64tab", "loop.example/pinfold/impl.ownWords"], plainKeys := false, apart := false, laid := [("math/bits.deBruijn32tab", laid_math_bits_deBruijn32tab), ("math/bits.deBruijn64tab", laid_math_bits_deBruijn64tab), ("internal/strconv.uint64pow10", laid_internal_strconv_uint64pow10), ("strconv.ErrRange", laid_strconv_ErrRange), ("strconv.ErrSyntax", laid_strconv_ErrSyntax), ("loop.example/pinfold/impl.ownWords", laid_loop_example_pinfold_impl_ownWords)] }
def FnRenameSaid : Prop := fnRenameRow.holds Tryz.pinned (OpenSpec.ofChange fnRenameSpec)

/-- ITS FALSE NEIGHBOUR: 'it returns false'. Refute it at one input. -/
def fnRenameWrong : ChangeSpec := { name := "fnRename", vars := ["loop.example/pinfold/impl.ownWords"], fn := fun _ => fun
  | [d1, d2, g1] => { results := [.lit (.bool false)], args := [d1, d2], vars := [g1] }
  | _ => none }
def FnRenameWrongFalsely : Prop := fnRenameRow.holds Tryz.pinned (OpenSpec.ofChange fnRenameWrong)

/-- 'laws.FnExactProgShift': WHATEVER THE INPUT: true; the input reads as it did. -/
def fnExactProgShiftSpec : ChangeSpec := { name := "fnExactProgShift", vars := ["loop.example/pinfold/impl.ownWords"], fn := fun _ => fun
  | [d1, d2, g1] => { results := [.lit (.bool true)], args := [d1, d2], vars := [g1] }
  | _ => none }
def fnExactProgShiftRow : OpenClaim := { program := "ytbahacapnaohcaagreatdoor", sum := "c1a6fa6e795c15afeecdad167c2ed0f8b8c9861d3880327a08ae5a79d64fe835", func := "loop.example/pinfold/laws.FnExactProgShift", spec := "fnExactProgShift", inPlace := ["internal/bytealg.IndexByteString", "internal/bytealg.IndexString"], unfollowed := true, recurses := true, named := ["internal/bytealg.MaxLen", "strconv.ErrSyntax", "strconv.ErrRange", "internal/strconv.uint64pow10", "math/bits.deBruijn32tab", "math/bits.deBruijn64tab", "loop.example/pinfold/impl.ownWords"], plainKeys := false, apart := false, laid := [("math/bits.deBruijn32tab", laid_math_bits_deBruijn32tab), ("math/bits.deBruijn64tab", laid_math_bits_deBruijn64tab), ("internal/strconv.uint64pow10", laid_internal_strconv_uint64pow10), ("strconv.ErrRange", laid_strconv_ErrRange), ("strconv.ErrSyntax", laid_strconv_ErrSyntax), ("loop.example/pinfold/impl.ownWords", laid_loop_example_pinfold_impl_ownWords)] }
def FnExactProgShiftSaid : Prop := fnExactProgShiftRow.holds Tryz.pinned (OpenSpec.ofChange fnExactProgShiftSpec)

/-- ITS FALSE NEIGHBOUR: 'it returns false'. Refute it at one input. -/
def fnExactProgShiftWrong : ChangeSpec := { name := "fnExactProgShift", vars := ["loop.example/pinfold/impl.ownWords"], fn := fun _ => fun
  | [d1, d2, g1] => { results := [.lit (.bool false)], args := [d1, d2], vars := [g1] }
  | _ => none }
def FnExactProgShiftWrongFalsely : Prop := fnExactProgShiftRow.holds Tryz.pinned (OpenSpec.ofChange fnExactProgShiftWrong)

/-- 'laws.FnInline': WHATEVER THE INPUT: true; the input reads as it did. -/
def fnInlineSpec : ChangeSpec := { name := "fnInline", vars := ["loop.example/pinfold/impl.ownWords"], fn := fun _ => fun
  | [d, g1] => { results := [.lit (.bool true)], args := [d], vars := [g1] }
  | _ => none }
def fnInlineRow : OpenClaim := { program := "ytbahacapnaohcaagreatdoor", sum := "c1a6fa6e795c15afeecdad167c2ed0f8b8c9861d3880327a08ae5a79d64fe835", func := "loop.example/pinfold/laws.FnInline", spec := "fnInline", inPlace := ["internal/bytealg.IndexByteString", "internal/bytealg.IndexString"], unfollowed := true, recurses := true, named := ["internal/bytealg.MaxLen", "strconv.ErrSyntax", "strconv.ErrRange", "internal/strconv.uint64pow10", "math/bits.deBruijn32tab", "math/bits.deBruijn64tab", "loop.example/pinfold/impl.ownWords"], plainKeys := false, apart := false, laid := [("math/bits.deBruijn32tab", laid_math_bits_deBruijn32tab), ("math/bits.deBruijn64tab", laid_math_bits_deBruijn64tab), ("internal/strconv.uint64pow10", laid_internal_strconv_uint64pow10), ("strconv.ErrRange", laid_strconv_ErrRange), ("strconv.ErrSyntax", laid_strconv_ErrSyntax), ("loop.example/pinfold/impl.ownWords", laid_loop_example_pinfold_impl_ownWords)] }
def FnInlineSaid : Prop := fnInlineRow.holds Tryz.pinned (OpenSpec.ofChange fnInlineSpec)

/-- ITS FALSE NEIGHBOUR: 'it returns false'. Refute it at one input. -/
def fnInlineWrong : ChangeSpec := { name := "fnInline", vars := ["loop.example/pinfold/impl.ownWords"], fn := fun _ => fun
  | [d, g1] => { results := [.lit (.bool false)], args := [d], vars := [g1] }
  | _ => none }
def FnInlineWrongFalsely : Prop := fnInlineRow.holds Tryz.pinned (OpenSpec.ofChange fnInlineWrong)

/-- 'laws.FnExactProgRename': WHATEVER THE INPUT: true; the input reads as it did. -/
def fnExactProgRenameSpec : ChangeSpec := { name := "fnExactProgRename", vars := ["loop.example/pinfold/impl.ownWords"], fn := fun _ => fun
  | [d1, d2, d3, g1] => { results := [.lit (.bool true)], args := [d1, d2, d3], vars := [g1] }
  | _ => none }
def fnExactProgRenameRow : OpenClaim := { program := "ytbahacapnaohcaagreatdoor", sum := "c1a6fa6e795c15afeecdad167c2ed0f8b8c9861d3880327a08ae5a79d64fe835", func := "loop.example/pinfold/laws.FnExactProgRename", spec := "fnExactProgRename", inPlace := ["internal/bytealg.IndexByteString", "internal/bytealg.IndexString"], unfollowed := true, recurses := true, named := ["internal/bytealg.MaxLen", "strconv.ErrSyntax", "strconv.ErrRange", "internal/strconv.uint64pow10", "math/bits.deBruijn32tab", "math/bits.deBruijn64tab", "loop.example/pinfold/impl.ownWords"], plainKeys := false, apart := false, laid := [("math/bits.deBruijn32tab", laid_math_bits_deBruijn32tab), ("math/bits.deBruijn64tab", laid_math_bits_deBruijn64tab), ("internal/strconv.uint64pow10", laid_internal_strconv_uint64pow10), ("strconv.ErrRange", laid_strconv_ErrRange), ("strconv.ErrSyntax", laid_strconv_ErrSyntax), ("loop.example/pinfold/impl.ownWords", laid_loop_example_pinfold_impl_ownWords)] }
def FnExactProgRenameSaid : Prop := fnExactProgRenameRow.holds Tryz.pinned (OpenSpec.ofChange fnExactProgRenameSpec)

/-- ITS FALSE NEIGHBOUR: 'it returns false'. Refute it at one input. -/
def fnExactProgRenameWrong : ChangeSpec := { name := "fnExactProgRename", vars := ["loop.example/pinfold/impl.ownWords"], fn := fun _ => fun
  | [d1, d2, d3, g1] => { results := [.lit (.bool false)], args := [d1, d2, d3], vars := [g1] }
  | _ => none }
def FnExactProgRenameWrongFalsely : Prop := fnExactProgRenameRow.holds Tryz.pinned (OpenSpec.ofChange fnExactProgRenameWrong)

/-- 'laws.FnInlineTwo': WHATEVER THE INPUT: true; the input reads as it did. -/
def fnInlineTwoSpec : ChangeSpec := { name := "fnInlineTwo", vars := ["loop.example/pinfold/impl.ownWords"], fn := fun _ => fun
  | [d1, d2, g1] => { results := [.lit (.bool true)], args := [d1, d2], vars := [g1] }
  | _ => none }
def fnInlineTwoRow : OpenClaim := { program := "ytbahacapnaohcaagreatdoor", sum := "c1a6fa6e795c15afeecdad167c2ed0f8b8c9861d3880327a08ae5a79d64fe835", func := "loop.example/pinfold/laws.FnInlineTwo", spec := "fnInlineTwo", inPlace := ["internal/bytealg.IndexByteString", "internal/bytealg.IndexString"], unfollowed := true, recurses := true, named := ["internal/bytealg.MaxLen", "strconv.ErrSyntax", "strconv.ErrRange", "internal/strconv.uint64pow10", "math/bits.deBruijn32tab", "math/bits.deBruijn64tab", "loop.example/pinfold/impl.ownWords"], plainKeys := false, apart := false, laid := [("math/bits.deBruijn32tab", laid_math_bits_deBruijn32tab), ("math/bits.deBruijn64tab", laid_math_bits_deBruijn64tab), ("internal/strconv.uint64pow10", laid_internal_strconv_uint64pow10), ("strconv.ErrRange", laid_strconv_ErrRange), ("strconv.ErrSyntax", laid_strconv_ErrSyntax), ("loop.example/pinfold/impl.ownWords", laid_loop_example_pinfold_impl_ownWords)] }
def FnInlineTwoSaid : Prop := fnInlineTwoRow.holds Tryz.pinned (OpenSpec.ofChange fnInlineTwoSpec)

/-- ITS FALSE NEIGHBOUR: 'it returns false'. Refute it at one input. -/
def fnInlineTwoWrong : ChangeSpec := { name := "fnInlineTwo", vars := ["loop.example/pinfold/impl.ownWords"], fn := fun _ => fun
  | [d1, d2, g1] => { results := [.lit (.bool false)], args := [d1, d2], vars := [g1] }
  | _ => none }
def FnInlineTwoWrongFalsely : Prop := fnInlineTwoRow.holds Tryz.pinned (OpenSpec.ofChange fnInlineTwoWrong)

/-- 'laws.FnExactProgInline': WHATEVER THE INPUT: true; the input reads as it did. -/
def fnExactProgInlineSpec : ChangeSpec := { name := "fnExactProgInline", vars := ["loop.example/pinfold/impl.ownWords"], fn := fun _ => fun
  | [d1, d2, g1] => { results := [.lit (.bool true)], args := [d1, d2], vars := [g1] }
  | _ => none }
def fnExactProgInlineRow : OpenClaim := { program := "ytbahacapnaohcaagreatdoor", sum := "c1a6fa6e795c15afeecdad167c2ed0f8b8c9861d3880327a08ae5a79d64fe835", func := "loop.example/pinfold/laws.FnExactProgInline", spec := "fnExactProgInline", inPlace := ["internal/bytealg.IndexByteString", "internal/bytealg.IndexString"], unfollowed := true, recurses := true, named := ["internal/bytealg.MaxLen", "strconv.ErrSyntax", "strconv.ErrRange", "internal/strconv.uint64pow10", "math/bits.deBruijn32tab", "math/bits.deBruijn64tab", "loop.example/pinfold/impl.ownWords"], plainKeys := false, apart := false, laid := [("math/bits.deBruijn32tab", laid_math_bits_deBruijn32tab), ("math/bits.deBruijn64tab", laid_math_bits_deBruijn64tab), ("internal/strconv.uint64pow10", laid_internal_strconv_uint64pow10), ("strconv.ErrRange", laid_strconv_ErrRange), ("strconv.ErrSyntax", laid_strconv_ErrSyntax), ("loop.example/pinfold/impl.ownWords", laid_loop_example_pinfold_impl_ownWords)] }
def FnExactProgInlineSaid : Prop := fnExactProgInlineRow.holds Tryz.pinned (OpenSpec.ofChange fnExactProgInlineSpec)

/-- ITS FALSE NEIGHBOUR: 'it returns false'. Refute it at one input. -/
def fnExactProgInlineWrong : ChangeSpec := { name := "fnExactProgInline", vars := ["loop.example/pinfold/impl.ownWords"], fn := fun _ => fun
  | [d1, d2, g1] => { results := [.lit (.bool false)], args := [d1, d2], vars := [g1] }
  | _ => none }
def FnExactProgInlineWrongFalsely : Prop := fnExactProgInlineRow.holds Tryz.pinned (OpenSpec.ofChange fnExactProgInlineWrong)

/-- 'laws.FnExactProgFlat': WHATEVER THE INPUT: true; the input reads as it did. -/
def fnExactProgFlatSpec : ChangeSpec := { name := "fnExactProgFlat", vars := ["loop.example/pinfold/impl.ownWords"], fn := fun _ => fun
  | [d, g1] => { results := [.lit (.bool true)], args := [d], vars := [g1] }
  | _ => none }
def fnExactProgFlatRow : OpenClaim := { program := "ytbahacapnaohcaagreatdoor", sum := "c1a6fa6e795c15afeecdad167c2ed0f8b8c9861d3880327a08ae5a79d64fe835", func := "loop.example/pinfold/laws.FnExactProgFlat", spec := "fnExactProgFlat", inPlace := ["internal/bytealg.IndexByteString", "internal/bytealg.IndexString"], unfollowed := true, recurses := true, named := ["internal/bytealg.MaxLen", "strconv.ErrSyntax", "strconv.ErrRange", "internal/strconv.uint64pow10", "math/bits.deBruijn32tab", "math/bits.deBruijn64tab", "loop.example/pinfold/impl.ownWords"], plainKeys := false, apart := false, laid := [("math/bits.deBruijn32tab", laid_math_bits_deBruijn32tab), ("math/bits.deBruijn64tab", laid_math_bits_deBruijn64tab), ("internal/strconv.uint64pow10", laid_internal_strconv_uint64pow10), ("strconv.ErrRange", laid_strconv_ErrRange), ("strconv.ErrSyntax", laid_strconv_ErrSyntax), ("loop.example/pinfold/impl.ownWords", laid_loop_example_pinfold_impl_ownWords)] }
def FnExactProgFlatSaid : Prop := fnExactProgFlatRow.holds Tryz.pinned (OpenSpec.ofChange fnExactProgFlatSpec)

/-- ITS FALSE NEIGHBOUR: 'it returns false'. Refute it at one input. -/
def fnExactProgFlatWrong : ChangeSpec := { name := "fnExactProgFlat", vars := ["loop.example/pinfold/impl.ownWords"], fn := fun _ => fun
  | [d, g1] => { results := [.lit (.bool false)], args := [d], vars := [g1] }
  | _ => none }
def FnExactProgFlatWrongFalsely : Prop := fnExactProgFlatRow.holds Tryz.pinned (OpenSpec.ofChange fnExactProgFlatWrong)

/-- 'laws.FnExactGraphOf': WHATEVER THE INPUT: true; the input reads as it did. -/
def fnExactGraphOfSpec : ChangeSpec := { name := "fnExactGraphOf", vars := ["loop.example/pinfold/impl.ownWords"], fn := fun _ => fun
  | [d, g1] => { results := [.lit (.bool true)], args := [d], vars := [g1] }
  | _ => none }
def fnExactGraphOfRow : OpenClaim := { program := "ytbahacapnaohcaagreatdoor", sum := "c1a6fa6e795c15afeecdad167c2ed0f8b8c9861d3880327a08ae5a79d64fe835", func := "loop.example/pinfold/laws.FnExactGraphOf", spec := "fnExactGraphOf", inPlace := ["internal/bytealg.IndexByteString", "internal/bytealg.IndexString"], unfollowed := true, recurses := true, named := ["internal/bytealg.MaxLen", "strconv.ErrSyntax", "strconv.ErrRange", "internal/strconv.uint64pow10", "math/bits.deBruijn32tab", "math/bits.deBruijn64tab", "loop.example/pinfold/impl.ownWords"], plainKeys := false, apart := false, laid := [("math/bits.deBruijn32tab", laid_math_bits_deBruijn32tab), ("math/bits.deBruijn64tab", laid_math_bits_deBruijn64tab), ("internal/strconv.uint64pow10", laid_internal_strconv_uint64pow10), ("strconv.ErrRange", laid_strconv_ErrRange), ("strconv.ErrSyntax", laid_strconv_ErrSyntax), ("loop.example/pinfold/impl.ownWords", laid_loop_example_pinfold_impl_ownWords)] }
def FnExactGraphOfSaid : Prop := fnExactGraphOfRow.holds Tryz.pinned (OpenSpec.ofChange fnExactGraphOfSpec)

/-- ITS FALSE NEIGHBOUR: 'it returns false'. Refute it at one input. -/
def fnExactGraphOfWrong : ChangeSpec := { name := "fnExactGraphOf", vars := ["loop.example/pinfold/impl.ownWords"], fn := fun _ => fun
  | [d, g1] => { results := [.lit (.bool false)], args := [d], vars := [g1] }
  | _ => none }
def FnExactGraphOfWrongFalsely : Prop := fnExactGraphOfRow.holds Tryz.pinned (OpenSpec.ofChange fnExactGraphOfWrong)

/-- 'laws.FnGraphTop': WHATEVER THE INPUT: true; the input reads as it did. -/
def fnGraphTopSpec : ChangeSpec := { name := "fnGraphTop", vars := ["loop.example/pinfold/impl.ownWords"], fn := fun _ => fun
  | [d1, d2, g1] => { results := [.lit (.bool true)], args := [d1, d2], vars := [g1] }
  | _ => none }
def fnGraphTopRow : OpenClaim := { program := "ytbahacapnaohcaagreatdoor", sum := "c1a6fa6e795c15afeecdad167c2ed0f8b8c9861d3880327a08ae5a79d64fe835", func := "loop.example/pinfold/laws.FnGraphTop", spec := "fnGraphTop", inPlace := ["internal/bytealg.IndexByteString", "internal/bytealg.IndexString"], unfollowed := true, recurses := true, named := ["internal/bytealg.MaxLen", "strconv.ErrSyntax", "strconv.ErrRange", "internal/strconv.uint64pow10", "math/bits.deBruijn32tab", "math/bits.deBruijn64tab", "loop.example/pinfold/impl.ownWords"], plainKeys := false, apart := false, laid := [("math/bits.deBruijn32tab", laid_math_bits_deBruijn32tab), ("math/bits.deBruijn64tab", laid_math_bits_deBruijn64tab), ("internal/strconv.uint64pow10", laid_internal_strconv_uint64pow10), ("strconv.ErrRange", laid_strconv_ErrRange), ("strconv.ErrSyntax", laid_strconv_ErrSyntax), ("loop.example/pinfold/impl.ownWords", laid_loop_example_pinfold_impl_ownWords)] }
def FnGraphTopSaid : Prop := fnGraphTopRow.holds Tryz.pinned (OpenSpec.ofChange fnGraphTopSpec)

/-- ITS FALSE NEIGHBOUR: 'it returns false'. Refute it at one input. -/
def fnGraphTopWrong : ChangeSpec := { name := "fnGraphTop", vars := ["loop.example/pinfold/impl.ownWords"], fn := fun _ => fun
  | [d1, d2, g1] => { results := [.lit (.bool false)], args := [d1, d2], vars := [g1] }
  | _ => none }
def FnGraphTopWrongFalsely : Prop := fnGraphTopRow.holds Tryz.pinned (OpenSpec.ofChange fnGraphTopWrong)

/-- 'laws.FnExactProgRead': WHATEVER THE INPUT: true; the input reads as it did. -/
def fnExactProgReadSpec : ChangeSpec := { name := "fnExactProgRead", vars := ["loop.example/pinfold/impl.ownWords", "loop.example/pinfold/impl.relSigns"], fn := fun _ => fun
  | [d, g1, g2] => { results := [.lit (.bool true)], args := [d], vars := [g1, g2] }
  | _ => none }
def fnExactProgReadRow : OpenClaim := { program := "ytbahacapnaohcaagreatdoor", sum := "c1a6fa6e795c15afeecdad167c2ed0f8b8c9861d3880327a08ae5a79d64fe835", func := "loop.example/pinfold/laws.FnExactProgRead", spec := "fnExactProgRead", inPlace := ["internal/bytealg.CountString", "internal/bytealg.IndexByteString", "internal/bytealg.IndexString"], unfollowed := true, recurses := true, named := ["unicode/utf8.first", "unicode/utf8.acceptRanges", "internal/bytealg.MaxLen", "strconv.ErrSyntax", "strconv.ErrRange", "internal/strconv.uint64pow10", "math/bits.deBruijn32tab", "math/bits.deBruijn64tab", "loop.example/pinfold/impl.ownWords", "loop.example/pinfold/impl.relSigns"], plainKeys := false, apart := false, laid := [("math/bits.deBruijn32tab", laid_math_bits_deBruijn32tab), ("math/bits.deBruijn64tab", laid_math_bits_deBruijn64tab), ("internal/strconv.uint64pow10", laid_internal_strconv_uint64pow10), ("unicode/utf8.acceptRanges", laid_unicode_utf8_acceptRanges), ("strconv.ErrRange", laid_strconv_ErrRange), ("strconv.ErrSyntax", laid_strconv_ErrSyntax), ("loop.example/pinfold/impl.ownWords", laid_loop_example_pinfold_impl_ownWords), ("loop.example/pinfold/impl.relSigns", laid_loop_example_pinfold_impl_relSigns), ("unicode/utf8.first", laid_unicode_utf8_first)] }
def FnExactProgReadSaid : Prop := fnExactProgReadRow.holds Tryz.pinned (OpenSpec.ofChange fnExactProgReadSpec)

/-- ITS FALSE NEIGHBOUR: 'it returns false'. Refute it at one input. -/
def fnExactProgReadWrong : ChangeSpec := { name := "fnExactProgRead", vars := ["loop.example/pinfold/impl.ownWords", "loop.example/pinfold/impl.relSigns"], fn := fun _ => fun
  | [d, g1, g2] => { results := [.lit (.bool false)], args := [d], vars := [g1, g2] }
  | _ => none }
def FnExactProgReadWrongFalsely : Prop := fnExactProgReadRow.holds Tryz.pinned (OpenSpec.ofChange fnExactProgReadWrong)

/-- 'laws.FnProgLines': WHATEVER THE INPUT: true; the input reads as it did. -/
def fnProgLinesSpec : ChangeSpec := { name := "fnProgLines", vars := ["loop.example/pinfold/impl.ownWords", "loop.example/pinfold/impl.relSigns"], fn := fun _ => fun
  | [d1, d2, g1, g2] => { results := [.lit (.bool true)], args := [d1, d2], vars := [g1, g2] }
  | _ => none }
def fnProgLinesRow : OpenClaim := { program := "ytbahacapnaohcaagreatdoor", sum := "c1a6fa6e795c15afeecdad167c2ed0f8b8c9861d3880327a08ae5a79d64fe835", func := "loop.example/pinfold/laws.FnProgLines", spec := "fnProgLines", inPlace := ["internal/bytealg.CountString", "internal/bytealg.IndexByteString", "internal/bytealg.IndexString"], unfollowed := true, recurses := true, named := ["unicode/utf8.first", "unicode/utf8.acceptRanges", "internal/bytealg.MaxLen", "strconv.ErrSyntax", "strconv.ErrRange", "internal/strconv.uint64pow10", "math/bits.deBruijn32tab", "math/bits.deBruijn64tab", "loop.example/pinfold/impl.ownWords", "loop.example/pinfold/impl.relSigns"], plainKeys := false, apart := false, laid := [("math/bits.deBruijn32tab", laid_math_bits_deBruijn32tab), ("math/bits.deBruijn64tab", laid_math_bits_deBruijn64tab), ("internal/strconv.uint64pow10", laid_internal_strconv_uint64pow10), ("unicode/utf8.acceptRanges", laid_unicode_utf8_acceptRanges), ("strconv.ErrRange", laid_strconv_ErrRange), ("strconv.ErrSyntax", laid_strconv_ErrSyntax), ("loop.example/pinfold/impl.ownWords", laid_loop_example_pinfold_impl_ownWords), ("loop.example/pinfold/impl.relSigns", laid_loop_example_pinfold_impl_relSigns), ("unicode/utf8.first", laid_unicode_utf8_first)] }
def FnProgLinesSaid : Prop := fnProgLinesRow.holds Tryz.pinned (OpenSpec.ofChange fnProgLinesSpec)

/-- ITS FALSE NEIGHBOUR: 'it returns false'. Refute it at one input. -/
def fnProgLinesWrong : ChangeSpec := { name := "fnProgLines", vars := ["loop.example/pinfold/impl.ownWords", "loop.example/pinfold/impl.relSigns"], fn := fun _ => fun
  | [d1, d2, g1, g2] => { results := [.lit (.bool false)], args := [d1, d2], vars := [g1, g2] }
  | _ => none }
def FnProgLinesWrongFalsely : Prop := fnProgLinesRow.holds Tryz.pinned (OpenSpec.ofChange fnProgLinesWrong)

/-- 'laws.FnLangTop': WHATEVER THE INPUT: true; the input reads as it did. -/
def fnLangTopSpec : ChangeSpec := { name := "fnLangTop", vars := ["loop.example/pinfold/impl.relSigns", "loop.example/pinfold/impl.ownWords"], fn := fun _ => fun
  | [d1, d2, g1, g2] => { results := [.lit (.bool true)], args := [d1, d2], vars := [g1, g2] }
  | _ => none }
def fnLangTopRow : OpenClaim := { program := "ytbahacapnaohcaagreatdoor", sum := "c1a6fa6e795c15afeecdad167c2ed0f8b8c9861d3880327a08ae5a79d64fe835", func := "loop.example/pinfold/laws.FnLangTop", spec := "fnLangTop", inPlace := ["internal/bytealg.IndexByteString", "internal/bytealg.IndexString", "internal/abi.NoEscape", "internal/bytealg.MakeNoZero", "internal/bytealg.CountString"], unfollowed := true, recurses := true, named := ["loop.example/pinfold/impl.relSigns", "internal/bytealg.MaxLen", "strconv.ErrSyntax", "strconv.ErrRange", "internal/strconv.uint64pow10", "math/bits.deBruijn32tab", "math/bits.deBruijn64tab", "loop.example/pinfold/impl.ownWords", "unicode/utf8.first", "unicode/utf8.acceptRanges"], plainKeys := false, apart := false, laid := [("math/bits.deBruijn32tab", laid_math_bits_deBruijn32tab), ("math/bits.deBruijn64tab", laid_math_bits_deBruijn64tab), ("internal/strconv.uint64pow10", laid_internal_strconv_uint64pow10), ("unicode/utf8.acceptRanges", laid_unicode_utf8_acceptRanges), ("strconv.ErrRange", laid_strconv_ErrRange), ("strconv.ErrSyntax", laid_strconv_ErrSyntax), ("loop.example/pinfold/impl.ownWords", laid_loop_example_pinfold_impl_ownWords), ("loop.example/pinfold/impl.relSigns", laid_loop_example_pinfold_impl_relSigns), ("unicode/utf8.first", laid_unicode_utf8_first)] }
def FnLangTopSaid : Prop := fnLangTopRow.holds Tryz.pinned (OpenSpec.ofChange fnLangTopSpec)

/-- ITS FALSE NEIGHBOUR: 'it returns false'. Refute it at one input. -/
def fnLangTopWrong : ChangeSpec := { name := "fnLangTop", vars := ["loop.example/pinfold/impl.relSigns", "loop.example/pinfold/impl.ownWords"], fn := fun _ => fun
  | [d1, d2, g1, g2] => { results := [.lit (.bool false)], args := [d1, d2], vars := [g1, g2] }
  | _ => none }
def FnLangTopWrongFalsely : Prop := fnLangTopRow.holds Tryz.pinned (OpenSpec.ofChange fnLangTopWrong)

/- THE SECOND FORM. 'bulk': how many values and letters a reading holds, each counted each time it is reached (what is shared counts as often as it is met; a slice's spare places count too). A statement '..UptoSaid' is the law's where the arguments, and the package variables that the reading takes, are together of bulk at most 1048576: NARROWER than '..Said'. Prove '..Said' where nothing that the law and all that it calls make is longer than what came in: it says more and counts as full. Else prove '..UptoSaid'. A law counts once. -/
mutual
def uptoBulk {H : Type} : DataW H → Nat
  | .lit (.string bytes) => bytes.length + 1
  | .lit _ => 1
  | .nil => 1
  | .ptr d => uptoBulk d + 1
  | .slice elems spare => uptoBulkAll elems + uptoBulkAll spare + 1
  | .agg parts => uptoBulkAll parts + 1
  | .iface _ d => uptoBulk d + 1
  | .map entries => uptoBulkEntries entries + 1
  | .held _ => 1
def uptoBulkAll {H : Type} : List (DataW H) → Nat
  | [] => 0
  | d :: r => uptoBulk d + uptoBulkAll r
def uptoBulkEntries {H : Type} : List (Lit × DataW H) → Nat
  | [] => 0
  | x :: r => uptoBulkEntry x + uptoBulkEntries r
def uptoBulkEntry {H : Type} : Lit × DataW H → Nat
  | (.string bytes, d) => bytes.length + uptoBulk d + 1
  | (_, d) => uptoBulk d + 1
 end
def uptoSmall : (H : Type) → List (DataW H) → Bool := fun _ ds => decide (uptoBulkAll ds ≤ 1048576)
def OpenSpec.upto (s : _root_.Go.ChangeSpec) : _root_.Go.OpenSpec := { _root_.Go.OpenSpec.ofChange s with cond := some uptoSmall }

/-- 'laws.FnTermBack', WHERE WHAT IT READS IS OF BULK AT MOST 1048576: true; the input reads as it did. -/
def fnTermBackUptoRow : OpenClaim := { program := "ytbahacapnaohcaagreatdoor", sum := "c1a6fa6e795c15afeecdad167c2ed0f8b8c9861d3880327a08ae5a79d64fe835", func := "loop.example/pinfold/laws.FnTermBack", spec := "fnTermBack", inPlace := ["internal/bytealg.IndexByteString", "internal/bytealg.IndexString", "internal/abi.NoEscape", "internal/bytealg.MakeNoZero"], unfollowed := true, recurses := true, named := ["internal/bytealg.MaxLen", "strconv.ErrSyntax", "strconv.ErrRange", "internal/strconv.uint64pow10", "math/bits.deBruijn32tab", "math/bits.deBruijn64tab", "loop.example/pinfold/impl.ownWords"], plainKeys := false, apart := false, laid := [("math/bits.deBruijn32tab", laid_math_bits_deBruijn32tab), ("math/bits.deBruijn64tab", laid_math_bits_deBruijn64tab), ("internal/strconv.uint64pow10", laid_internal_strconv_uint64pow10), ("strconv.ErrRange", laid_strconv_ErrRange), ("strconv.ErrSyntax", laid_strconv_ErrSyntax), ("loop.example/pinfold/impl.ownWords", laid_loop_example_pinfold_impl_ownWords)], narrowed := true }
def FnTermBackUptoSaid : Prop := fnTermBackUptoRow.holds Tryz.pinned (OpenSpec.upto fnTermBackSpec)

/-- 'laws.FnRename', WHERE WHAT IT READS IS OF BULK AT MOST 1048576: true; the input reads as it did. -/
def fnRenameUptoRow : OpenClaim := { program := "ytbahacapnaohcaagreatdoor", sum := "c1a6fa6e795c15afeecdad167c2ed0f8b8c9861d3880327a08ae5a79d64fe835", func := "loop.example/pinfold/laws.FnRename", spec := "fnRename", inPlace := ["internal/bytealg.IndexByteString", "internal/bytealg.IndexString"], unfollowed := true, recurses := true, named := ["internal/bytealg.MaxLen", "strconv.ErrSyntax", "strconv.ErrRange", "internal/strconv.uint64pow10", "math/bits.deBruijn32tab", "math/bits.deBruijn64tab", "loop.example/pinfold/impl.ownWords"], plainKeys := false, apart := false, laid := [("math/bits.deBruijn32tab", laid_math_bits_deBruijn32tab), ("math/bits.deBruijn64tab", laid_math_bits_deBruijn64tab), ("internal/strconv.uint64pow10", laid_internal_strconv_uint64pow10), ("strconv.ErrRange", laid_strconv_ErrRange), ("strconv.ErrSyntax", laid_strconv_ErrSyntax), ("loop.example/pinfold/impl.ownWords", laid_loop_example_pinfold_impl_ownWords)], narrowed := true }
def FnRenameUptoSaid : Prop := fnRenameUptoRow.holds Tryz.pinned (OpenSpec.upto fnRenameSpec)

/-- 'laws.FnExactProgShift', WHERE WHAT IT READS IS OF BULK AT MOST 1048576: true; the input reads as it did. -/
def fnExactProgShiftUptoRow : OpenClaim := { program := "ytbahacapnaohcaagreatdoor", sum := "c1a6fa6e795c15afeecdad167c2ed0f8b8c9861d3880327a08ae5a79d64fe835", func := "loop.example/pinfold/laws.FnExactProgShift", spec := "fnExactProgShift", inPlace := ["internal/bytealg.IndexByteString", "internal/bytealg.IndexString"], unfollowed := true, recurses := true, named := ["internal/bytealg.MaxLen", "strconv.ErrSyntax", "strconv.ErrRange", "internal/strconv.uint64pow10", "math/bits.deBruijn32tab", "math/bits.deBruijn64tab", "loop.example/pinfold/impl.ownWords"], plainKeys := false, apart := false, laid := [("math/bits.deBruijn32tab", laid_math_bits_deBruijn32tab), ("math/bits.deBruijn64tab", laid_math_bits_deBruijn64tab), ("internal/strconv.uint64pow10", laid_internal_strconv_uint64pow10), ("strconv.ErrRange", laid_strconv_ErrRange), ("strconv.ErrSyntax", laid_strconv_ErrSyntax), ("loop.example/pinfold/impl.ownWords", laid_loop_example_pinfold_impl_ownWords)], narrowed := true }
def FnExactProgShiftUptoSaid : Prop := fnExactProgShiftUptoRow.holds Tryz.pinned (OpenSpec.upto fnExactProgShiftSpec)

/-- 'laws.FnInline', WHERE WHAT IT READS IS OF BULK AT MOST 1048576: true; the input reads as it did. -/
def fnInlineUptoRow : OpenClaim := { program := "ytbahacapnaohcaagreatdoor", sum := "c1a6fa6e795c15afeecdad167c2ed0f8b8c9861d3880327a08ae5a79d64fe835", func := "loop.example/pinfold/laws.FnInline", spec := "fnInline", inPlace := ["internal/bytealg.IndexByteString", "internal/bytealg.IndexString"], unfollowed := true, recurses := true, named := ["internal/bytealg.MaxLen", "strconv.ErrSyntax", "strconv.ErrRange", "internal/strconv.uint64pow10", "math/bits.deBruijn32tab", "math/bits.deBruijn64tab", "loop.example/pinfold/impl.ownWords"], plainKeys := false, apart := false, laid := [("math/bits.deBruijn32tab", laid_math_bits_deBruijn32tab), ("math/bits.deBruijn64tab", laid_math_bits_deBruijn64tab), ("internal/strconv.uint64pow10", laid_internal_strconv_uint64pow10), ("strconv.ErrRange", laid_strconv_ErrRange), ("strconv.ErrSyntax", laid_strconv_ErrSyntax), ("loop.example/pinfold/impl.ownWords", laid_loop_example_pinfold_impl_ownWords)], narrowed := true }
def FnInlineUptoSaid : Prop := fnInlineUptoRow.holds Tryz.pinned (OpenSpec.upto fnInlineSpec)

/-- 'laws.FnExactProgRename', WHERE WHAT IT READS IS OF BULK AT MOST 1048576: true; the input reads as it did. -/
def fnExactProgRenameUptoRow : OpenClaim := { program := "ytbahacapnaohcaagreatdoor", sum := "c1a6fa6e795c15afeecdad167c2ed0f8b8c9861d3880327a08ae5a79d64fe835", func := "loop.example/pinfold/laws.FnExactProgRename", spec := "fnExactProgRename", inPlace := ["internal/bytealg.IndexByteString", "internal/bytealg.IndexString"], unfollowed := true, recurses := true, named := ["internal/bytealg.MaxLen", "strconv.ErrSyntax", "strconv.ErrRange", "internal/strconv.uint64pow10", "math/bits.deBruijn32tab", "math/bits.deBruijn64tab", "loop.example/pinfold/impl.ownWords"], plainKeys := false, apart := false, laid := [("math/bits.deBruijn32tab", laid_math_bits_deBruijn32tab), ("math/bits.deBruijn64tab", laid_math_bits_deBruijn64tab), ("internal/strconv.uint64pow10", laid_internal_strconv_uint64pow10), ("strconv.ErrRange", laid_strconv_ErrRange), ("strconv.ErrSyntax", laid_strconv_ErrSyntax), ("loop.example/pinfold/impl.ownWords", laid_loop_example_pinfold_impl_ownWords)], narrowed := true }
def FnExactProgRenameUptoSaid : Prop := fnExactProgRenameUptoRow.holds Tryz.pinned (OpenSpec.upto fnExactProgRenameSpec)

/-- 'laws.FnInlineTwo', WHERE WHAT IT READS IS OF BULK AT MOST 1048576: true; the input reads as it did. -/
def fnInlineTwoUptoRow : OpenClaim := { program := "ytbahacapnaohcaagreatdoor", sum := "c1a6fa6e795c15afeecdad167c2ed0f8b8c9861d3880327a08ae5a79d64fe835", func := "loop.example/pinfold/laws.FnInlineTwo", spec := "fnInlineTwo", inPlace := ["internal/bytealg.IndexByteString", "internal/bytealg.IndexString"], unfollowed := true, recurses := true, named := ["internal/bytealg.MaxLen", "strconv.ErrSyntax", "strconv.ErrRange", "internal/strconv.uint64pow10", "math/bits.deBruijn32tab", "math/bits.deBruijn64tab", "loop.example/pinfold/impl.ownWords"], plainKeys := false, apart := false, laid := [("math/bits.deBruijn32tab", laid_math_bits_deBruijn32tab), ("math/bits.deBruijn64tab", laid_math_bits_deBruijn64tab), ("internal/strconv.uint64pow10", laid_internal_strconv_uint64pow10), ("strconv.ErrRange", laid_strconv_ErrRange), ("strconv.ErrSyntax", laid_strconv_ErrSyntax), ("loop.example/pinfold/impl.ownWords", laid_loop_example_pinfold_impl_ownWords)], narrowed := true }
def FnInlineTwoUptoSaid : Prop := fnInlineTwoUptoRow.holds Tryz.pinned (OpenSpec.upto fnInlineTwoSpec)

/-- 'laws.FnExactProgInline', WHERE WHAT IT READS IS OF BULK AT MOST 1048576: true; the input reads as it did. -/
def fnExactProgInlineUptoRow : OpenClaim := { program := "ytbahacapnaohcaagreatdoor", sum := "c1a6fa6e795c15afeecdad167c2ed0f8b8c9861d3880327a08ae5a79d64fe835", func := "loop.example/pinfold/laws.FnExactProgInline", spec := "fnExactProgInline", inPlace := ["internal/bytealg.IndexByteString", "internal/bytealg.IndexString"], unfollowed := true, recurses := true, named := ["internal/bytealg.MaxLen", "strconv.ErrSyntax", "strconv.ErrRange", "internal/strconv.uint64pow10", "math/bits.deBruijn32tab", "math/bits.deBruijn64tab", "loop.example/pinfold/impl.ownWords"], plainKeys := false, apart := false, laid := [("math/bits.deBruijn32tab", laid_math_bits_deBruijn32tab), ("math/bits.deBruijn64tab", laid_math_bits_deBruijn64tab), ("internal/strconv.uint64pow10", laid_internal_strconv_uint64pow10), ("strconv.ErrRange", laid_strconv_ErrRange), ("strconv.ErrSyntax", laid_strconv_ErrSyntax), ("loop.example/pinfold/impl.ownWords", laid_loop_example_pinfold_impl_ownWords)], narrowed := true }
def FnExactProgInlineUptoSaid : Prop := fnExactProgInlineUptoRow.holds Tryz.pinned (OpenSpec.upto fnExactProgInlineSpec)

/-- 'laws.FnExactProgFlat', WHERE WHAT IT READS IS OF BULK AT MOST 1048576: true; the input reads as it did. -/
def fnExactProgFlatUptoRow : OpenClaim := { program := "ytbahacapnaohcaagreatdoor", sum := "c1a6fa6e795c15afeecdad167c2ed0f8b8c9861d3880327a08ae5a79d64fe835", func := "loop.example/pinfold/laws.FnExactProgFlat", spec := "fnExactProgFlat", inPlace := ["internal/bytealg.IndexByteString", "internal/bytealg.IndexString"], unfollowed := true, recurses := true, named := ["internal/bytealg.MaxLen", "strconv.ErrSyntax", "strconv.ErrRange", "internal/strconv.uint64pow10", "math/bits.deBruijn32tab", "math/bits.deBruijn64tab", "loop.example/pinfold/impl.ownWords"], plainKeys := false, apart := false, laid := [("math/bits.deBruijn32tab", laid_math_bits_deBruijn32tab), ("math/bits.deBruijn64tab", laid_math_bits_deBruijn64tab), ("internal/strconv.uint64pow10", laid_internal_strconv_uint64pow10), ("strconv.ErrRange", laid_strconv_ErrRange), ("strconv.ErrSyntax", laid_strconv_ErrSyntax), ("loop.example/pinfold/impl.ownWords", laid_loop_example_pinfold_impl_ownWords)], narrowed := true }
def FnExactProgFlatUptoSaid : Prop := fnExactProgFlatUptoRow.holds Tryz.pinned (OpenSpec.upto fnExactProgFlatSpec)

/-- 'laws.FnExactGraphOf', WHERE WHAT IT READS IS OF BULK AT MOST 1048576: true; the input reads as it did. -/
def fnExactGraphOfUptoRow : OpenClaim := { program := "ytbahacapnaohcaagreatdoor", sum := "c1a6fa6e795c15afeecdad167c2ed0f8b8c9861d3880327a08ae5a79d64fe835", func := "loop.example/pinfold/laws.FnExactGraphOf", spec := "fnExactGraphOf", inPlace := ["internal/bytealg.IndexByteString", "internal/bytealg.IndexString"], unfollowed := true, recurses := true, named := ["internal/bytealg.MaxLen", "strconv.ErrSyntax", "strconv.ErrRange", "internal/strconv.uint64pow10", "math/bits.deBruijn32tab", "math/bits.deBruijn64tab", "loop.example/pinfold/impl.ownWords"], plainKeys := false, apart := false, laid := [("math/bits.deBruijn32tab", laid_math_bits_deBruijn32tab), ("math/bits.deBruijn64tab", laid_math_bits_deBruijn64tab), ("internal/strconv.uint64pow10", laid_internal_strconv_uint64pow10), ("strconv.ErrRange", laid_strconv_ErrRange), ("strconv.ErrSyntax", laid_strconv_ErrSyntax), ("loop.example/pinfold/impl.ownWords", laid_loop_example_pinfold_impl_ownWords)], narrowed := true }
def FnExactGraphOfUptoSaid : Prop := fnExactGraphOfUptoRow.holds Tryz.pinned (OpenSpec.upto fnExactGraphOfSpec)

/-- 'laws.FnGraphTop', WHERE WHAT IT READS IS OF BULK AT MOST 1048576: true; the input reads as it did. -/
def fnGraphTopUptoRow : OpenClaim := { program := "ytbahacapnaohcaagreatdoor", sum := "c1a6fa6e795c15afeecdad167c2ed0f8b8c9861d3880327a08ae5a79d64fe835", func := "loop.example/pinfold/laws.FnGraphTop", spec := "fnGraphTop", inPlace := ["internal/bytealg.IndexByteString", "internal/bytealg.IndexString"], unfollowed := true, recurses := true, named := ["internal/bytealg.MaxLen", "strconv.ErrSyntax", "strconv.ErrRange", "internal/strconv.uint64pow10", "math/bits.deBruijn32tab", "math/bits.deBruijn64tab", "loop.example/pinfold/impl.ownWords"], plainKeys := false, apart := false, laid := [("math/bits.deBruijn32tab", laid_math_bits_deBruijn32tab), ("math/bits.deBruijn64tab", laid_math_bits_deBruijn64tab), ("internal/strconv.uint64pow10", laid_internal_strconv_uint64pow10), ("strconv.ErrRange", laid_strconv_ErrRange), ("strconv.ErrSyntax", laid_strconv_ErrSyntax), ("loop.example/pinfold/impl.ownWords", laid_loop_example_pinfold_impl_ownWords)], narrowed := true }
def FnGraphTopUptoSaid : Prop := fnGraphTopUptoRow.holds Tryz.pinned (OpenSpec.upto fnGraphTopSpec)

/-- 'laws.FnExactProgRead', WHERE WHAT IT READS IS OF BULK AT MOST 1048576: true; the input reads as it did. -/
def fnExactProgReadUptoRow : OpenClaim := { program := "ytbahacapnaohcaagreatdoor", sum := "c1a6fa6e795c15afeecdad167c2ed0f8b8c9861d3880327a08ae5a79d64fe835", func := "loop.example/pinfold/laws.FnExactProgRead", spec := "fnExactProgRead", inPlace := ["internal/bytealg.CountString", "internal/bytealg.IndexByteString", "internal/bytealg.IndexString"], unfollowed := true, recurses := true, named := ["unicode/utf8.first", "unicode/utf8.acceptRanges", "internal/bytealg.MaxLen", "strconv.ErrSyntax", "strconv.ErrRange", "internal/strconv.uint64pow10", "math/bits.deBruijn32tab", "math/bits.deBruijn64tab", "loop.example/pinfold/impl.ownWords", "loop.example/pinfold/impl.relSigns"], plainKeys := false, apart := false, laid := [("math/bits.deBruijn32tab", laid_math_bits_deBruijn32tab), ("math/bits.deBruijn64tab", laid_math_bits_deBruijn64tab), ("internal/strconv.uint64pow10", laid_internal_strconv_uint64pow10), ("unicode/utf8.acceptRanges", laid_unicode_utf8_acceptRanges), ("strconv.ErrRange", laid_strconv_ErrRange), ("strconv.ErrSyntax", laid_strconv_ErrSyntax), ("loop.example/pinfold/impl.ownWords", laid_loop_example_pinfold_impl_ownWords), ("loop.example/pinfold/impl.relSigns", laid_loop_example_pinfold_impl_relSigns), ("unicode/utf8.first", laid_unicode_utf8_first)], narrowed := true }
def FnExactProgReadUptoSaid : Prop := fnExactProgReadUptoRow.holds Tryz.pinned (OpenSpec.upto fnExactProgReadSpec)

/-- 'laws.FnProgLines', WHERE WHAT IT READS IS OF BULK AT MOST 1048576: true; the input reads as it did. -/
def fnProgLinesUptoRow : OpenClaim := { program := "ytbahacapnaohcaagreatdoor", sum := "c1a6fa6e795c15afeecdad167c2ed0f8b8c9861d3880327a08ae5a79d64fe835", func := "loop.example/pinfold/laws.FnProgLines", spec := "fnProgLines", inPlace := ["internal/bytealg.CountString", "internal/bytealg.IndexByteString", "internal/bytealg.IndexString"], unfollowed := true, recurses := true, named := ["unicode/utf8.first", "unicode/utf8.acceptRanges", "internal/bytealg.MaxLen", "strconv.ErrSyntax", "strconv.ErrRange", "internal/strconv.uint64pow10", "math/bits.deBruijn32tab", "math/bits.deBruijn64tab", "loop.example/pinfold/impl.ownWords", "loop.example/pinfold/impl.relSigns"], plainKeys := false, apart := false, laid := [("math/bits.deBruijn32tab", laid_math_bits_deBruijn32tab), ("math/bits.deBruijn64tab", laid_math_bits_deBruijn64tab), ("internal/strconv.uint64pow10", laid_internal_strconv_uint64pow10), ("unicode/utf8.acceptRanges", laid_unicode_utf8_acceptRanges), ("strconv.ErrRange", laid_strconv_ErrRange), ("strconv.ErrSyntax", laid_strconv_ErrSyntax), ("loop.example/pinfold/impl.ownWords", laid_loop_example_pinfold_impl_ownWords), ("loop.example/pinfold/impl.relSigns", laid_loop_example_pinfold_impl_relSigns), ("unicode/utf8.first", laid_unicode_utf8_first)], narrowed := true }
def FnProgLinesUptoSaid : Prop := fnProgLinesUptoRow.holds Tryz.pinned (OpenSpec.upto fnProgLinesSpec)

/-- 'laws.FnLangTop', WHERE WHAT IT READS IS OF BULK AT MOST 1048576: true; the input reads as it did. -/
def fnLangTopUptoRow : OpenClaim := { program := "ytbahacapnaohcaagreatdoor", sum := "c1a6fa6e795c15afeecdad167c2ed0f8b8c9861d3880327a08ae5a79d64fe835", func := "loop.example/pinfold/laws.FnLangTop", spec := "fnLangTop", inPlace := ["internal/bytealg.IndexByteString", "internal/bytealg.IndexString", "internal/abi.NoEscape", "internal/bytealg.MakeNoZero", "internal/bytealg.CountString"], unfollowed := true, recurses := true, named := ["loop.example/pinfold/impl.relSigns", "internal/bytealg.MaxLen", "strconv.ErrSyntax", "strconv.ErrRange", "internal/strconv.uint64pow10", "math/bits.deBruijn32tab", "math/bits.deBruijn64tab", "loop.example/pinfold/impl.ownWords", "unicode/utf8.first", "unicode/utf8.acceptRanges"], plainKeys := false, apart := false, laid := [("math/bits.deBruijn32tab", laid_math_bits_deBruijn32tab), ("math/bits.deBruijn64tab", laid_math_bits_deBruijn64tab), ("internal/strconv.uint64pow10", laid_internal_strconv_uint64pow10), ("unicode/utf8.acceptRanges", laid_unicode_utf8_acceptRanges), ("strconv.ErrRange", laid_strconv_ErrRange), ("strconv.ErrSyntax", laid_strconv_ErrSyntax), ("loop.example/pinfold/impl.ownWords", laid_loop_example_pinfold_impl_ownWords), ("loop.example/pinfold/impl.relSigns", laid_loop_example_pinfold_impl_relSigns), ("unicode/utf8.first", laid_unicode_utf8_first)], narrowed := true }
def FnLangTopUptoSaid : Prop := fnLangTopUptoRow.holds Tryz.pinned (OpenSpec.upto fnLangTopSpec)

end Rows
end Go.Proofs.YtbahacapnaohcaaGreatDoor
