/-
  NARROWER THAN 'FOR EVERY INPUT', by the rows' own cells (each row's printed sentence says how): UseTexts: laid · UseBack: laid · TreatyTexts: laid · TreatyBack: laid.
  DERIVED. THE GIVEN ROWS OF THIS SEAT. 4 by the template 'for every input the law returns true; each argument reads behind the call as it read before'; 0 by the template 'total and deterministic' (their statements: YtpkjbclajflhbaaGreatDoorTotals.lean).
  GIVEN WITH THE SEED: the statements are not yours to turn. If you find one false, say at which input.
  Laid BY PROGRAM, IN A SANDBOX (cutbox-rows.mjs): the forced cells as the released guide's own fill.sh prints them over the translation f9d9f33ee07b802a… (all of the seat's roots in one cut). By AI agents, Wed Nov 11 2026. No macro, syntax, notation, axiom, sorry.
-/
import Derived.Test.YtpkjbclajflhbaaGreatDoorChecked
import GoSem.PinnedTables
import GoSem.Claim
import GoSem.ClaimJoined
import GoSem.ClaimMapViews
import Derived.JoinedTies
import Derived.KernelRfl
namespace Go.Proofs.YtpkjbclajflhbaaGreatDoor
/- THE CELL 'sum', in the pinned program and in every row, IS THE sha256 OF THE DUMP (.gsa) THAT YtpkjbclajflhbaaGreatDoorProg.lean LOADS. Nothing in Lean hashes anything: it is a label: what it is worth is what the hold of that sum in a sandbox is worth. -/
noncomputable def Tryz.pinned : Pinned := { name := "ytpkjbclajflhbaagreatdoor", sum := "f9d9f33ee07b802a2e5dc471aadfe079307471982cf9b5df19c57e737f27a822", checked := Tryz.checked }
namespace Rows
def none {H : Type} : Left H := { results := [], args := [] }

/- WHAT THE LISTED PACKAGE-LEVEL VARIABLES READ AS WHEN THE CALL BEGINS. Each datum BY PROGRAM (the guide's laid-datum.mjs) off the statement by which the dump's own 'gosem.cut.vars' lays the variable. In a bare row this is a premise. The card (YtpkjbclajflhbaaGreatDoorCards.lean) ties it to the program's text. -/
def laid_math_bits_deBruijn32tab {H : Type} : DataW H := .agg [.lit (.int .u8 0), .lit (.int .u8 1), .lit (.int .u8 28), .lit (.int .u8 2), .lit (.int .u8 29), .lit (.int .u8 14), .lit (.int .u8 24), .lit (.int .u8 3), .lit (.int .u8 30), .lit (.int .u8 22), .lit (.int .u8 20), .lit (.int .u8 15), .lit (.int .u8 25), .lit (.int .u8 17), .lit (.int .u8 4), .lit (.int .u8 8), .lit (.int .u8 31), .lit (.int .u8 27), .lit (.int .u8 13), .lit (.int .u8 23), .lit (.int .u8 21), .lit (.int .u8 19), .lit (.int .u8 16), .lit (.int .u8 7), .lit (.int .u8 26), .lit (.int .u8 12), .lit (.int .u8 18), .lit (.int .u8 6), .lit (.int .u8 11), .lit (.int .u8 5), .lit (.int .u8 10), .lit (.int .u8 9)]
def laid_math_bits_deBruijn64tab {H : Type} : DataW H := .agg [.lit (.int .u8 0), .lit (.int .u8 1), .lit (.int .u8 56), .lit (.int .u8 2), .lit (.int .u8 57), .lit (.int .u8 49), .lit (.int .u8 28), .lit (.int .u8 3), .lit (.int .u8 61), .lit (.int .u8 58), .lit (.int .u8 42), .lit (.int .u8 50), .lit (.int .u8 38), .lit (.int .u8 29), .lit (.int .u8 17), .lit (.int .u8 4), .lit (.int .u8 62), .lit (.int .u8 47), .lit (.int .u8 59), .lit (.int .u8 36), .lit (.int .u8 45), .lit (.int .u8 43), .lit (.int .u8 51), .lit (.int .u8 22), .lit (.int .u8 53), .lit (.int .u8 39), .lit (.int .u8 33), .lit (.int .u8 30), .lit (.int .u8 24), .lit (.int .u8 18), .lit (.int .u8 12), .lit (.int .u8 5), .lit (.int .u8 63), .lit (.int .u8 55), .lit (.int .u8 48), .lit (.int .u8 27), .lit (.int .u8 60), .lit (.int .u8 41), .lit (.int .u8 37), .lit (.int .u8 16), .lit (.int .u8 46), .lit (.int .u8 35), .lit (.int .u8 44), .lit (.int .u8 21), .lit (.int .u8 52), .lit (.int .u8 32), .lit (.int .u8 23), .lit (.int .u8 11), .lit (.int .u8 54), .lit (.int .u8 26), .lit (.int .u8 40), .lit (.int .u8 15), .lit (.int .u8 34), .lit (.int .u8 20), .lit (.int .u8 31), .lit (.int .u8 10), .lit (.int .u8 25), .lit (.int .u8 14), .lit (.int .u8 19), .lit (.int .u8 9), .lit (.int .u8 13), .lit (.int .u8 8), .lit (.int .u8 7), .lit (.int .u8 6)]
def laid_internal_strconv_uint64pow10 {H : Type} : DataW H := .agg [.lit (.int .u64 1), .lit (.int .u64 10), .lit (.int .u64 100), .lit (.int .u64 1000), .lit (.int .u64 10000), .lit (.int .u64 100000), .lit (.int .u64 1000000), .lit (.int .u64 10000000), .lit (.int .u64 100000000), .lit (.int .u64 1000000000), .lit (.int .u64 10000000000), .lit (.int .u64 100000000000), .lit (.int .u64 1000000000000), .lit (.int .u64 10000000000000), .lit (.int .u64 100000000000000), .lit (.int .u64 1000000000000000), .lit (.int .u64 10000000000000000), .lit (.int .u64 100000000000000000), .lit (.int .u64 1000000000000000000), .lit (.int .u64 10000000000000000000)]
def laid_unicode_utf8_acceptRanges {H : Type} : DataW H := .agg [.agg [.lit (.int .u8 128), .lit (.int .u8 191)], .agg [.lit (.int .u8 160), .lit (.int .u8 191)], .agg [.lit (.int .u8 128), .lit (.int .u8 159)], .agg [.lit (.int .u8 144), .lit (.int .u8 191)], .agg [.lit (.int .u8 128), .lit (.int .u8 143)], .agg [.lit (.int .u8 0), .lit (.int .u8 0)], .agg [.lit (.int .u8 0), .lit (.int .u8 0)], .agg [.lit (.int .u8 0), .lit (.int .u8 0)], .agg [.lit (.int .u8 0), .lit (.int .u8 0)], .agg [.lit (.int .u8 0), .lit (.int .u8 0)], .agg [.lit (.int .u8 0), .lit (.int .u8 0)], .agg [.lit (.int .u8 0), .lit (.int .u8 0)], .agg [.lit (.int .u8 0), .lit (.int .u8 0)], .agg [.lit (.int .u8 0), .lit (.int .u8 0)], .agg [.lit (.int .u8 0), .lit (.int .u8 0)], .agg [.lit (.int .u8 0), .lit (.int .u8 0)]]
def laid_strconv_ErrRange {H : Type} : DataW H := .iface "*errors.errorString" (.ptr (.agg [.lit (.string [118, 97, 108, 117, 101, 32, 111, 117, 116, 32, 111, 102, 32, 114, 97, 110, 103, 101])]))
def laid_strconv_ErrSyntax {H : Type} : DataW H := .iface "*errors.errorString" (.ptr (.agg [.lit (.string [105, 110, 118, 97, 108, 105, 100, 32, 115, 121, 110, 116, 97, 120])]))
def laid_touchmark_use_errLine {H : Type} : DataW H := .iface "*errors.errorString" (.ptr (.agg [.lit (.string [97, 32, 108, 105, 110, 101, 32, 100, 111, 101, 115, 32, 110, 111, 116, 32, 104, 97, 118, 101, 32, 105, 116, 115, 32, 102, 111, 114, 109])]))
def laid_touchmark_use_parts {H : Type} : DataW H := .iface "func table" (.agg [.iface "func" (.lit (.string [40, 116, 111, 117, 99, 104, 109, 97, 114, 107, 47, 117, 115, 101, 46, 102, 105, 108, 101, 41, 46, 110, 117, 109, 98, 101, 114, 115])), .iface "func" (.lit (.string [40, 116, 111, 117, 99, 104, 109, 97, 114, 107, 47, 117, 115, 101, 46, 102, 105, 108, 101, 41, 46, 101, 120, 99, 117, 115, 101, 115])), .iface "func" (.lit (.string [40, 116, 111, 117, 99, 104, 109, 97, 114, 107, 47, 117, 115, 101, 46, 102, 105, 108, 101, 41, 46, 112, 97, 112, 101, 114, 115])), .iface "func" (.lit (.string [40, 116, 111, 117, 99, 104, 109, 97, 114, 107, 47, 117, 115, 101, 46, 102, 105, 108, 101, 41, 46, 114, 101, 113, 117, 101, 115, 116, 115]))])
/-- One of Go's own tables, pinned by name: the form's constant. -/
def laid_unicode_utf8_first : DataW Unit := Go.Pinned.utf8First
def laid_touchmark_treaty_bound {H : Type} : DataW H := .agg [.lit (.bool true), .lit (.bool false)]
def laid_touchmark_treaty_kinds {H : Type} : DataW H := .iface "func table" (.agg [.agg [.lit (.string [97, 115, 107]), .agg [.lit (.bool true), .lit (.bool false)], .iface "func" (.lit (.string [116, 111, 117, 99, 104, 109, 97, 114, 107, 47, 116, 114, 101, 97, 116, 121, 46, 121, 101, 115]))], .agg [.lit (.string [114, 101, 102, 117, 115, 101]), .agg [.lit (.bool true), .lit (.bool false)], .iface "func" (.lit (.string [116, 111, 117, 99, 104, 109, 97, 114, 107, 47, 116, 114, 101, 97, 116, 121, 46, 110, 111]))], .agg [.lit (.string [108, 105, 102, 116]), .agg [.lit (.bool true), .lit (.bool false)], .iface "func" (.lit (.string [116, 111, 117, 99, 104, 109, 97, 114, 107, 47, 116, 114, 101, 97, 116, 121, 46, 121, 101, 115]))], .agg [.lit (.string [108, 105, 109, 105, 116]), .agg [.lit (.bool true), .lit (.bool false)], .iface "func" (.lit (.string [116, 111, 117, 99, 104, 109, 97, 114, 107, 47, 116, 114, 101, 97, 116, 121, 46, 110, 111]))], .agg [.lit (.string [102, 97, 108, 108]), .agg [.lit (.bool false), .lit (.bool true)], .iface "func" (.lit (.string [116, 111, 117, 99, 104, 109, 97, 114, 107, 47, 116, 114, 101, 97, 116, 121, 46, 110, 111]))], .agg [.lit (.string [116, 117, 114, 110]), .agg [.lit (.bool true), .lit (.bool false)], .iface "func" (.lit (.string [116, 111, 117, 99, 104, 109, 97, 114, 107, 47, 116, 114, 101, 97, 116, 121, 46, 121, 101, 115]))], .agg [.lit (.string [111, 108, 100]), .agg [.lit (.bool true), .lit (.bool true)], .iface "func" (.lit (.string [116, 111, 117, 99, 104, 109, 97, 114, 107, 47, 116, 114, 101, 97, 116, 121, 46, 110, 111]))]])

/-- 'touchmarklaw05.UseTexts': WHATEVER THE INPUT: true; the input reads as it did. -/
def useTextsSpec : ChangeSpec := { name := "useTexts", fn := fun _ => fun
  | [d1, d2] => { results := [.lit (.bool true)], args := [d1, d2] }
  | _ => none }
def useTextsRow : OpenClaim := { program := "ytpkjbclajflhbaagreatdoor", sum := "f9d9f33ee07b802a2e5dc471aadfe079307471982cf9b5df19c57e737f27a822", func := "touchmark/touchmarklaw05.UseTexts", spec := "useTexts", inPlace := ["internal/abi.NoEscape", "internal/bytealg.MakeNoZero", "internal/bytealg.IndexByteString", "internal/bytealg.IndexString", "internal/bytealg.CountString", "internal/reflectlite.TypeOf"], unfollowed := true, recurses := true, named := ["touchmark/use.parts", "internal/strconv.uint64pow10", "math/bits.deBruijn32tab", "math/bits.deBruijn64tab", "touchmark/use.errLine", "internal/bytealg.MaxLen", "unicode/utf8.first", "unicode/utf8.acceptRanges", "strconv.ErrSyntax", "strconv.ErrRange"], plainKeys := false, leaving := true, apart := false, laid := [("math/bits.deBruijn32tab", laid_math_bits_deBruijn32tab), ("math/bits.deBruijn64tab", laid_math_bits_deBruijn64tab), ("internal/strconv.uint64pow10", laid_internal_strconv_uint64pow10), ("unicode/utf8.acceptRanges", laid_unicode_utf8_acceptRanges), ("strconv.ErrRange", laid_strconv_ErrRange), ("strconv.ErrSyntax", laid_strconv_ErrSyntax), ("touchmark/use.errLine", laid_touchmark_use_errLine), ("touchmark/use.parts", laid_touchmark_use_parts), ("unicode/utf8.first", laid_unicode_utf8_first)] }
def UseTextsSaid : Prop := useTextsRow.holds Tryz.pinned (OpenSpec.ofChange useTextsSpec)

/-- ITS FALSE NEIGHBOUR: 'it returns false'. Refute it at one input. -/
def useTextsWrong : ChangeSpec := { name := "useTexts", fn := fun _ => fun
  | [d1, d2] => { results := [.lit (.bool false)], args := [d1, d2] }
  | _ => none }
def UseTextsWrongFalsely : Prop := useTextsRow.holds Tryz.pinned (OpenSpec.ofChange useTextsWrong)

/-- 'touchmarklaw05.UseBack': WHATEVER THE INPUT: true; the input reads as it did. -/
def useBackSpec : ChangeSpec := { name := "useBack", fn := fun _ => fun
  | [d] => { results := [.lit (.bool true)], args := [d] }
  | _ => none }
def useBackRow : OpenClaim := { program := "ytpkjbclajflhbaagreatdoor", sum := "f9d9f33ee07b802a2e5dc471aadfe079307471982cf9b5df19c57e737f27a822", func := "touchmark/touchmarklaw05.UseBack", spec := "useBack", inPlace := ["internal/abi.NoEscape", "internal/bytealg.MakeNoZero", "internal/bytealg.IndexByteString", "internal/bytealg.IndexString", "internal/bytealg.CountString", "internal/reflectlite.TypeOf"], unfollowed := true, recurses := true, named := ["touchmark/use.parts", "internal/strconv.uint64pow10", "math/bits.deBruijn32tab", "math/bits.deBruijn64tab", "touchmark/use.errLine", "internal/bytealg.MaxLen", "unicode/utf8.first", "unicode/utf8.acceptRanges", "strconv.ErrSyntax", "strconv.ErrRange"], plainKeys := false, leaving := true, apart := false, laid := [("math/bits.deBruijn32tab", laid_math_bits_deBruijn32tab), ("math/bits.deBruijn64tab", laid_math_bits_deBruijn64tab), ("internal/strconv.uint64pow10", laid_internal_strconv_uint64pow10), ("unicode/utf8.acceptRanges", laid_unicode_utf8_acceptRanges), ("strconv.ErrRange", laid_strconv_ErrRange), ("strconv.ErrSyntax", laid_strconv_ErrSyntax), ("touchmark/use.errLine", laid_touchmark_use_errLine), ("touchmark/use.parts", laid_touchmark_use_parts), ("unicode/utf8.first", laid_unicode_utf8_first)] }
def UseBackSaid : Prop := useBackRow.holds Tryz.pinned (OpenSpec.ofChange useBackSpec)

/-- ITS FALSE NEIGHBOUR: 'it returns false'. Refute it at one input. -/
def useBackWrong : ChangeSpec := { name := "useBack", fn := fun _ => fun
  | [d] => { results := [.lit (.bool false)], args := [d] }
  | _ => none }
def UseBackWrongFalsely : Prop := useBackRow.holds Tryz.pinned (OpenSpec.ofChange useBackWrong)

/-- 'touchmarklaw07.TreatyTexts': WHATEVER THE INPUT: true; the input reads as it did. -/
def treatyTextsSpec : ChangeSpec := { name := "treatyTexts", fn := fun _ => fun
  | [d1, d2] => { results := [.lit (.bool true)], args := [d1, d2] }
  | _ => none }
def treatyTextsRow : OpenClaim := { program := "ytpkjbclajflhbaagreatdoor", sum := "f9d9f33ee07b802a2e5dc471aadfe079307471982cf9b5df19c57e737f27a822", func := "touchmark/touchmarklaw07.TreatyTexts", spec := "treatyTexts", inPlace := ["internal/abi.NoEscape", "internal/bytealg.MakeNoZero", "internal/bytealg.IndexByteString", "internal/bytealg.IndexString", "internal/bytealg.CountString"], unfollowed := true, recurses := true, named := ["touchmark/treaty.kinds", "touchmark/treaty.bound", "internal/strconv.uint64pow10", "math/bits.deBruijn32tab", "math/bits.deBruijn64tab", "internal/bytealg.MaxLen", "unicode/utf8.first", "unicode/utf8.acceptRanges", "strconv.ErrSyntax", "strconv.ErrRange"], plainKeys := false, leaving := true, apart := false, laid := [("math/bits.deBruijn32tab", laid_math_bits_deBruijn32tab), ("math/bits.deBruijn64tab", laid_math_bits_deBruijn64tab), ("internal/strconv.uint64pow10", laid_internal_strconv_uint64pow10), ("unicode/utf8.acceptRanges", laid_unicode_utf8_acceptRanges), ("strconv.ErrRange", laid_strconv_ErrRange), ("strconv.ErrSyntax", laid_strconv_ErrSyntax), ("touchmark/treaty.bound", laid_touchmark_treaty_bound), ("touchmark/treaty.kinds", laid_touchmark_treaty_kinds), ("unicode/utf8.first", laid_unicode_utf8_first)] }
def TreatyTextsSaid : Prop := treatyTextsRow.holds Tryz.pinned (OpenSpec.ofChange treatyTextsSpec)

/-- ITS FALSE NEIGHBOUR: 'it returns false'. Refute it at one input. -/
def treatyTextsWrong : ChangeSpec := { name := "treatyTexts", fn := fun _ => fun
  | [d1, d2] => { results := [.lit (.bool false)], args := [d1, d2] }
  | _ => none }
def TreatyTextsWrongFalsely : Prop := treatyTextsRow.holds Tryz.pinned (OpenSpec.ofChange treatyTextsWrong)

/-- 'touchmarklaw07.TreatyBack': WHATEVER THE INPUT: true; the input reads as it did. -/
def treatyBackSpec : ChangeSpec := { name := "treatyBack", fn := fun _ => fun
  | [d] => { results := [.lit (.bool true)], args := [d] }
  | _ => none }
def treatyBackRow : OpenClaim := { program := "ytpkjbclajflhbaagreatdoor", sum := "f9d9f33ee07b802a2e5dc471aadfe079307471982cf9b5df19c57e737f27a822", func := "touchmark/touchmarklaw07.TreatyBack", spec := "treatyBack", inPlace := ["internal/abi.NoEscape", "internal/bytealg.MakeNoZero", "internal/bytealg.IndexByteString", "internal/bytealg.IndexString", "internal/bytealg.CountString"], unfollowed := true, recurses := true, named := ["touchmark/treaty.kinds", "touchmark/treaty.bound", "internal/strconv.uint64pow10", "math/bits.deBruijn32tab", "math/bits.deBruijn64tab", "internal/bytealg.MaxLen", "unicode/utf8.first", "unicode/utf8.acceptRanges", "strconv.ErrSyntax", "strconv.ErrRange"], plainKeys := false, leaving := true, apart := false, laid := [("math/bits.deBruijn32tab", laid_math_bits_deBruijn32tab), ("math/bits.deBruijn64tab", laid_math_bits_deBruijn64tab), ("internal/strconv.uint64pow10", laid_internal_strconv_uint64pow10), ("unicode/utf8.acceptRanges", laid_unicode_utf8_acceptRanges), ("strconv.ErrRange", laid_strconv_ErrRange), ("strconv.ErrSyntax", laid_strconv_ErrSyntax), ("touchmark/treaty.bound", laid_touchmark_treaty_bound), ("touchmark/treaty.kinds", laid_touchmark_treaty_kinds), ("unicode/utf8.first", laid_unicode_utf8_first)] }
def TreatyBackSaid : Prop := treatyBackRow.holds Tryz.pinned (OpenSpec.ofChange treatyBackSpec)

/-- ITS FALSE NEIGHBOUR: 'it returns false'. Refute it at one input. -/
def treatyBackWrong : ChangeSpec := { name := "treatyBack", fn := fun _ => fun
  | [d] => { results := [.lit (.bool false)], args := [d] }
  | _ => none }
def TreatyBackWrongFalsely : Prop := treatyBackRow.holds Tryz.pinned (OpenSpec.ofChange treatyBackWrong)

/- THE SECOND FORM. 'bulk': how many values and letters a reading holds, each counted each time it is reached (what is shared counts as often as it is met; a slice's spare places count too). A statement '..UptoSaid' is the law's where the arguments, and the package variables that the reading takes, are together of bulk at most 1048576: NARROWER than '..Said'. Prove '..Said' where nothing that the law and all that it calls make is longer than what came in: it says more and counts as full. Else prove '..UptoSaid'. A law counts once. -/
mutual
def uptoBulk {H : Type} : DataW H → Nat
  | .lit (.string bytes) => bytes.length + 1
  | .lit _ => 1
  | .nil => 1
  | .ptr d => uptoBulk d + 1
  | .slice elems spare => uptoBulkAll elems + uptoBulkAll spare + 1
  | .agg parts => uptoBulkAll parts + 1
  | .iface _ d => uptoBulk d + 1
  | .map entries => uptoBulkEntries entries + 1
  | .held _ => 1
def uptoBulkAll {H : Type} : List (DataW H) → Nat
  | [] => 0
  | d :: r => uptoBulk d + uptoBulkAll r
def uptoBulkEntries {H : Type} : List (Lit × DataW H) → Nat
  | [] => 0
  | x :: r => uptoBulkEntry x + uptoBulkEntries r
def uptoBulkEntry {H : Type} : Lit × DataW H → Nat
  | (.string bytes, d) => bytes.length + uptoBulk d + 1
  | (_, d) => uptoBulk d + 1
 end
def uptoSmall : (H : Type) → List (DataW H) → Bool := fun _ ds => decide (uptoBulkAll ds ≤ 1048576)
def OpenSpec.upto (s : _root_.Go.ChangeSpec) : _root_.Go.OpenSpec := { _root_.Go.OpenSpec.ofChange s with cond := some uptoSmall }

/-- 'touchmarklaw05.UseTexts', WHERE WHAT IT READS IS OF BULK AT MOST 1048576: true; the input reads as it did. -/
def useTextsUptoRow : OpenClaim := { program := "ytpkjbclajflhbaagreatdoor", sum := "f9d9f33ee07b802a2e5dc471aadfe079307471982cf9b5df19c57e737f27a822", func := "touchmark/touchmarklaw05.UseTexts", spec := "useTexts", inPlace := ["internal/abi.NoEscape", "internal/bytealg.MakeNoZero", "internal/bytealg.IndexByteString", "internal/bytealg.IndexString", "internal/bytealg.CountString", "internal/reflectlite.TypeOf"], unfollowed := true, recurses := true, named := ["touchmark/use.parts", "internal/strconv.uint64pow10", "math/bits.deBruijn32tab", "math/bits.deBruijn64tab", "touchmark/use.errLine", "internal/bytealg.MaxLen", "unicode/utf8.first", "unicode/utf8.acceptRanges", "strconv.ErrSyntax", "strconv.ErrRange"], plainKeys := false, leaving := true, apart := false, laid := [("math/bits.deBruijn32tab", laid_math_bits_deBruijn32tab), ("math/bits.deBruijn64tab", laid_math_bits_deBruijn64tab), ("internal/strconv.uint64pow10", laid_internal_strconv_uint64pow10), ("unicode/utf8.acceptRanges", laid_unicode_utf8_acceptRanges), ("strconv.ErrRange", laid_strconv_ErrRange), ("strconv.ErrSyntax", laid_strconv_ErrSyntax), ("touchmark/use.errLine", laid_touchmark_use_errLine), ("touchmark/use.parts", laid_touchmark_use_parts), ("unicode/utf8.first", laid_unicode_utf8_first)], narrowed := true }
def UseTextsUptoSaid : Prop := useTextsUptoRow.holds Tryz.pinned (OpenSpec.upto useTextsSpec)

/-- 'touchmarklaw05.UseBack', WHERE WHAT IT READS IS OF BULK AT MOST 1048576: true; the input reads as it did. -/
def useBackUptoRow : OpenClaim := { program := "ytpkjbclajflhbaagreatdoor", sum := "f9d9f33ee07b802a2e5dc471aadfe079307471982cf9b5df19c57e737f27a822", func := "touchmark/touchmarklaw05.UseBack", spec := "useBack", inPlace := ["internal/abi.NoEscape", "internal/bytealg.MakeNoZero", "internal/bytealg.IndexByteString", "internal/bytealg.IndexString", "internal/bytealg.CountString", "internal/reflectlite.TypeOf"], unfollowed := true, recurses := true, named := ["touchmark/use.parts", "internal/strconv.uint64pow10", "math/bits.deBruijn32tab", "math/bits.deBruijn64tab", "touchmark/use.errLine", "internal/bytealg.MaxLen", "unicode/utf8.first", "unicode/utf8.acceptRanges", "strconv.ErrSyntax", "strconv.ErrRange"], plainKeys := false, leaving := true, apart := false, laid := [("math/bits.deBruijn32tab", laid_math_bits_deBruijn32tab), ("math/bits.deBruijn64tab", laid_math_bits_deBruijn64tab), ("internal/strconv.uint64pow10", laid_internal_strconv_uint64pow10), ("unicode/utf8.acceptRanges", laid_unicode_utf8_acceptRanges), ("strconv.ErrRange", laid_strconv_ErrRange), ("strconv.ErrSyntax", laid_strconv_ErrSyntax), ("touchmark/use.errLine", laid_touchmark_use_errLine), ("touchmark/use.parts", laid_touchmark_use_parts), ("unicode/utf8.first", laid_unicode_utf8_first)], narrowed := true }
def UseBackUptoSaid : Prop := useBackUptoRow.holds Tryz.pinned (OpenSpec.upto useBackSpec)

/-- 'touchmarklaw07.TreatyTexts', WHERE WHAT IT READS IS OF BULK AT MOST 1048576: true; the input reads as it did. -/
def treatyTextsUptoRow : OpenClaim := { program := "ytpkjbclajflhbaagreatdoor", sum := "f9d9f33ee07b802a2e5dc471aadfe079307471982cf9b5df19c57e737f27a822", func := "touchmark/touchmarklaw07.TreatyTexts", spec := "treatyTexts", inPlace := ["internal/abi.NoEscape", "internal/bytealg.MakeNoZero", "internal/bytealg.IndexByteString", "internal/bytealg.IndexString", "internal/bytealg.CountString"], unfollowed := true, recurses := true, named := ["touchmark/treaty.kinds", "touchmark/treaty.bound", "internal/strconv.uint64pow10", "math/bits.deBruijn32tab", "math/bits.deBruijn64tab", "internal/bytealg.MaxLen", "unicode/utf8.first", "unicode/utf8.acceptRanges", "strconv.ErrSyntax", "strconv.ErrRange"], plainKeys := false, leaving := true, apart := false, laid := [("math/bits.deBruijn32tab", laid_math_bits_deBruijn32tab), ("math/bits.deBruijn64tab", laid_math_bits_deBruijn64tab), ("internal/strconv.uint64pow10", laid_internal_strconv_uint64pow10), ("unicode/utf8.acceptRanges", laid_unicode_utf8_acceptRanges), ("strconv.ErrRange", laid_strconv_ErrRange), ("strconv.ErrSyntax", laid_strconv_ErrSyntax), ("touchmark/treaty.bound", laid_touchmark_treaty_bound), ("touchmark/treaty.kinds", laid_touchmark_treaty_kinds), ("unicode/utf8.first", laid_unicode_utf8_first)], narrowed := true }
def TreatyTextsUptoSaid : Prop := treatyTextsUptoRow.holds Tryz.pinned (OpenSpec.upto treatyTextsSpec)

/-- 'touchmarklaw07.TreatyBack', WHERE WHAT IT READS IS OF BULK AT MOST 1048576: true; the input reads as it did. -/
def treatyBackUptoRow : OpenClaim := { program := "ytpkjbclajflhbaagreatdoor", sum := "f9d9f33ee07b802a2e5dc471aadfe079307471982cf9b5df19c57e737f27a822", func := "touchmark/touchmarklaw07.TreatyBack", spec := "treatyBack", inPlace := ["internal/abi.NoEscape", "internal/bytealg.MakeNoZero", "internal/bytealg.IndexByteString", "internal/bytealg.IndexString", "internal/bytealg.CountString"], unfollowed := true, recurses := true, named := ["touchmark/treaty.kinds", "touchmark/treaty.bound", "internal/strconv.uint64pow10", "math/bits.deBruijn32tab", "math/bits.deBruijn64tab", "internal/bytealg.MaxLen", "unicode/utf8.first", "unicode/utf8.acceptRanges", "strconv.ErrSyntax", "strconv.ErrRange"], plainKeys := false, leaving := true, apart := false, laid := [("math/bits.deBruijn32tab", laid_math_bits_deBruijn32tab), ("math/bits.deBruijn64tab", laid_math_bits_deBruijn64tab), ("internal/strconv.uint64pow10", laid_internal_strconv_uint64pow10), ("unicode/utf8.acceptRanges", laid_unicode_utf8_acceptRanges), ("strconv.ErrRange", laid_strconv_ErrRange), ("strconv.ErrSyntax", laid_strconv_ErrSyntax), ("touchmark/treaty.bound", laid_touchmark_treaty_bound), ("touchmark/treaty.kinds", laid_touchmark_treaty_kinds), ("unicode/utf8.first", laid_unicode_utf8_first)], narrowed := true }
def TreatyBackUptoSaid : Prop := treatyBackUptoRow.holds Tryz.pinned (OpenSpec.upto treatyBackSpec)

end Rows
end Go.Proofs.YtpkjbclajflhbaaGreatDoor
