/-
  NARROWER THAN 'FOR EVERY INPUT', by the rows' own cells (each row's printed sentence says how): CaliperNeeds: laid · CaliperChecks: laid · CaliperTruths: laid · CaliperDoubts: laid · CaliperMore: laid · CaliperSheets: laid · CaliperLater: laid · CaliperServes: laid · CaliperAnswers: laid · CaliperCost: laid · CaliperValue: laid · CaliperFindings: laid · CaliperNumbers: laid · CaliperSeasons: laid · TopProbed: laid · CaliperKnown: laid · CaliperLines: laid.
  DERIVED. THE GIVEN ROWS OF THIS SEAT. 17 by the template 'for every input the law returns true; each argument reads behind the call as it read before'; 0 by the template 'total and deterministic' (their statements: YtgffeapobcfigaaGreatDoorTotals.lean).
  GIVEN WITH THE SEED: the statements are not yours to turn. If you find one false, say at which input.
  Laid BY PROGRAM, IN A SANDBOX (cutbox-rows.mjs): the forced cells as the released guide's own fill.sh prints them over the translation 0cc3f1b10029e28b… (all of the seat's roots in one cut). By AI agents, Wed Nov 11 2026. No macro, syntax, notation, axiom, sorry.
-/
import Derived.Test.YtgffeapobcfigaaGreatDoorChecked
import GoSem.PinnedTables
import GoSem.Claim
import GoSem.ClaimJoined
import GoSem.ClaimMapViews
import Derived.JoinedTies
import Derived.KernelRfl
namespace Go.Proofs.YtgffeapobcfigaaGreatDoor
/- THE CELL 'sum', in the pinned program and in every row, IS THE sha256 OF THE DUMP (.gsa) THAT YtgffeapobcfigaaGreatDoorProg.lean LOADS. Nothing in Lean hashes anything: it is a label: what it is worth is what the hold of that sum in a sandbox is worth. -/
noncomputable def Tryz.pinned : Pinned := { name := "ytgffeapobcfigaagreatdoor", sum := "0cc3f1b10029e28b559cbae283b351e708d4270b5ddd7286393026afd4ede920", checked := Tryz.checked }
namespace Rows
def none {H : Type} : Left H := { results := [], args := [] }

/- WHAT THE LISTED PACKAGE-LEVEL VARIABLES READ AS WHEN THE CALL BEGINS. Each datum BY PROGRAM (the guide's laid-datum.mjs) off the statement by which the dump's own 'gosem.cut.vars' lays the variable. In a bare row this is a premise. The card (YtgffeapobcfigaaGreatDoorCards.lean) ties it to the program's text. -/
def laid_math_bits_deBruijn64tab {H : Type} : DataW H := .agg [.lit (.int .u8 0), .lit (.int .u8 1), .lit (.int .u8 56), .lit (.int .u8 2), .lit (.int .u8 57), .lit (.int .u8 49), .lit (.int .u8 28), .lit (.int .u8 3), .lit (.int .u8 61), .lit (.int .u8 58), .lit (.int .u8 42), .lit (.int .u8 50), .lit (.int .u8 38), .lit (.int .u8 29), .lit (.int .u8 17), .lit (.int .u8 4), .lit (.int .u8 62), .lit (.int .u8 47), .lit (.int .u8 59), .lit (.int .u8 36), .lit (.int .u8 45), .lit (.int .u8 43), .lit (.int .u8 51), .lit (.int .u8 22), .lit (.int .u8 53), .lit (.int .u8 39), .lit (.int .u8 33), .lit (.int .u8 30), .lit (.int .u8 24), .lit (.int .u8 18), .lit (.int .u8 12), .lit (.int .u8 5), .lit (.int .u8 63), .lit (.int .u8 55), .lit (.int .u8 48), .lit (.int .u8 27), .lit (.int .u8 60), .lit (.int .u8 41), .lit (.int .u8 37), .lit (.int .u8 16), .lit (.int .u8 46), .lit (.int .u8 35), .lit (.int .u8 44), .lit (.int .u8 21), .lit (.int .u8 52), .lit (.int .u8 32), .lit (.int .u8 23), .lit (.int .u8 11), .lit (.int .u8 54), .lit (.int .u8 26), .lit (.int .u8 40), .lit (.int .u8 15), .lit (.int .u8 34), .lit (.int .u8 20), .lit (.int .u8 31), .lit (.int .u8 10), .lit (.int .u8 25), .lit (.int .u8 14), .lit (.int .u8 19), .lit (.int .u8 9), .lit (.int .u8 13), .lit (.int .u8 8), .lit (.int .u8 7), .lit (.int .u8 6)]
def laid_math_bits_deBruijn32tab {H : Type} : DataW H := .agg [.lit (.int .u8 0), .lit (.int .u8 1), .lit (.int .u8 28), .lit (.int .u8 2), .lit (.int .u8 29), .lit (.int .u8 14), .lit (.int .u8 24), .lit (.int .u8 3), .lit (.int .u8 30), .lit (.int .u8 22), .lit (.int .u8 20), .lit (.int .u8 15), .lit (.int .u8 25), .lit (.int .u8 17), .lit (.int .u8 4), .lit (.int .u8 8), .lit (.int .u8 31), .lit (.int .u8 27), .lit (.int .u8 13), .lit (.int .u8 23), .lit (.int .u8 21), .lit (.int .u8 19), .lit (.int .u8 16), .lit (.int .u8 7), .lit (.int .u8 26), .lit (.int .u8 12), .lit (.int .u8 18), .lit (.int .u8 6), .lit (.int .u8 11), .lit (.int .u8 5), .lit (.int .u8 10), .lit (.int .u8 9)]
def laid_internal_strconv_uint64pow10 {H : Type} : DataW H := .agg [.lit (.int .u64 1), .lit (.int .u64 10), .lit (.int .u64 100), .lit (.int .u64 1000), .lit (.int .u64 10000), .lit (.int .u64 100000), .lit (.int .u64 1000000), .lit (.int .u64 10000000), .lit (.int .u64 100000000), .lit (.int .u64 1000000000), .lit (.int .u64 10000000000), .lit (.int .u64 100000000000), .lit (.int .u64 1000000000000), .lit (.int .u64 10000000000000), .lit (.int .u64 100000000000000), .lit (.int .u64 1000000000000000), .lit (.int .u64 10000000000000000), .lit (.int .u64 100000000000000000), .lit (.int .u64 1000000000000000000), .lit (.int .u64 10000000000000000000)]
def laid_unicode_utf8_acceptRanges {H : Type} : DataW H := .agg [.agg [.lit (.int .u8 128), .lit (.int .u8 191)], .agg [.lit (.int .u8 160), .lit (.int .u8 191)], .agg [.lit (.int .u8 128), .lit (.int .u8 159)], .agg [.lit (.int .u8 144), .lit (.int .u8 191)], .agg [.lit (.int .u8 128), .lit (.int .u8 143)], .agg [.lit (.int .u8 0), .lit (.int .u8 0)], .agg [.lit (.int .u8 0), .lit (.int .u8 0)], .agg [.lit (.int .u8 0), .lit (.int .u8 0)], .agg [.lit (.int .u8 0), .lit (.int .u8 0)], .agg [.lit (.int .u8 0), .lit (.int .u8 0)], .agg [.lit (.int .u8 0), .lit (.int .u8 0)], .agg [.lit (.int .u8 0), .lit (.int .u8 0)], .agg [.lit (.int .u8 0), .lit (.int .u8 0)], .agg [.lit (.int .u8 0), .lit (.int .u8 0)], .agg [.lit (.int .u8 0), .lit (.int .u8 0)], .agg [.lit (.int .u8 0), .lit (.int .u8 0)]]
def laid_strconv_ErrRange {H : Type} : DataW H := .iface "*errors.errorString" (.ptr (.agg [.lit (.string [118, 97, 108, 117, 101, 32, 111, 117, 116, 32, 111, 102, 32, 114, 97, 110, 103, 101])]))
def laid_strconv_ErrSyntax {H : Type} : DataW H := .iface "*errors.errorString" (.ptr (.agg [.lit (.string [105, 110, 118, 97, 108, 105, 100, 32, 115, 121, 110, 116, 97, 120])]))
def laid_unicode_White_Space {H : Type} : DataW H := .ptr (.agg [.slice [.agg [.lit (.int .u16 9), .lit (.int .u16 13), .lit (.int .u16 1)], .agg [.lit (.int .u16 32), .lit (.int .u16 133), .lit (.int .u16 101)], .agg [.lit (.int .u16 160), .lit (.int .u16 5760), .lit (.int .u16 5600)], .agg [.lit (.int .u16 8192), .lit (.int .u16 8202), .lit (.int .u16 1)], .agg [.lit (.int .u16 8232), .lit (.int .u16 8233), .lit (.int .u16 1)], .agg [.lit (.int .u16 8239), .lit (.int .u16 8287), .lit (.int .u16 48)], .agg [.lit (.int .u16 12288), .lit (.int .u16 12288), .lit (.int .u16 1)]] [], .nil, .lit (.int .i64 2)])
def laid_strings_asciiSpace {H : Type} : DataW H := .agg [.lit (.int .u8 0), .lit (.int .u8 0), .lit (.int .u8 0), .lit (.int .u8 0), .lit (.int .u8 0), .lit (.int .u8 0), .lit (.int .u8 0), .lit (.int .u8 0), .lit (.int .u8 0), .lit (.int .u8 1), .lit (.int .u8 1), .lit (.int .u8 1), .lit (.int .u8 1), .lit (.int .u8 1), .lit (.int .u8 0), .lit (.int .u8 0), .lit (.int .u8 0), .lit (.int .u8 0), .lit (.int .u8 0), .lit (.int .u8 0), .lit (.int .u8 0), .lit (.int .u8 0), .lit (.int .u8 0), .lit (.int .u8 0), .lit (.int .u8 0), .lit (.int .u8 0), .lit (.int .u8 0), .lit (.int .u8 0), .lit (.int .u8 0), .lit (.int .u8 0), .lit (.int .u8 0), .lit (.int .u8 0), .lit (.int .u8 1), .lit (.int .u8 0), .lit (.int .u8 0), .lit (.int .u8 0), .lit (.int .u8 0), .lit (.int .u8 0), .lit (.int .u8 0), .lit (.int .u8 0), .lit (.int .u8 0), .lit (.int .u8 0), .lit (.int .u8 0), .lit (.int .u8 0), .lit (.int .u8 0), .lit (.int .u8 0), .lit (.int .u8 0), .lit (.int .u8 0), .lit (.int .u8 0), .lit (.int .u8 0), .lit (.int .u8 0), .lit (.int .u8 0), .lit (.int .u8 0), .lit (.int .u8 0), .lit (.int .u8 0), .lit (.int .u8 0), .lit (.int .u8 0), .lit (.int .u8 0), .lit (.int .u8 0), .lit (.int .u8 0), .lit (.int .u8 0), .lit (.int .u8 0), .lit (.int .u8 0), .lit (.int .u8 0), .lit (.int .u8 0), .lit (.int .u8 0), .lit (.int .u8 0), .lit (.int .u8 0), .lit (.int .u8 0), .lit (.int .u8 0), .lit (.int .u8 0), .lit (.int .u8 0), .lit (.int .u8 0), .lit (.int .u8 0), .lit (.int .u8 0), .lit (.int .u8 0), .lit (.int .u8 0), .lit (.int .u8 0), .lit (.int .u8 0), .lit (.int .u8 0), .lit (.int .u8 0), .lit (.int .u8 0), .lit (.int .u8 0), .lit (.int .u8 0), .lit (.int .u8 0), .lit (.int .u8 0), .lit (.int .u8 0), .lit (.int .u8 0), .lit (.int .u8 0), .lit (.int .u8 0), .lit (.int .u8 0), .lit (.int .u8 0), .lit (.int .u8 0), .lit (.int .u8 0), .lit (.int .u8 0), .lit (.int .u8 0), .lit (.int .u8 0), .lit (.int .u8 0), .lit (.int .u8 0), .lit (.int .u8 0), .lit (.int .u8 0), .lit (.int .u8 0), .lit (.int .u8 0), .lit (.int .u8 0), .lit (.int .u8 0), .lit (.int .u8 0), .lit (.int .u8 0), .lit (.int .u8 0), .lit (.int .u8 0), .lit (.int .u8 0), .lit (.int .u8 0), .lit (.int .u8 0), .lit (.int .u8 0), .lit (.int .u8 0), .lit (.int .u8 0), .lit (.int .u8 0), .lit (.int .u8 0), .lit (.int .u8 0), .lit (.int .u8 0), .lit (.int .u8 0), .lit (.int .u8 0), .lit (.int .u8 0), .lit (.int .u8 0), .lit (.int .u8 0), .lit (.int .u8 0), .lit (.int .u8 0), .lit (.int .u8 0), .lit (.int .u8 0), .lit (.int .u8 0), .lit (.int .u8 0), .lit (.int .u8 0), .lit (.int .u8 0), .lit (.int .u8 0), .lit (.int .u8 0), .lit (.int .u8 0), .lit (.int .u8 0), .lit (.int .u8 0), .lit (.int .u8 0), .lit (.int .u8 0), .lit (.int .u8 0), .lit (.int .u8 0), .lit (.int .u8 0), .lit (.int .u8 0), .lit (.int .u8 0), .lit (.int .u8 0), .lit (.int .u8 0), .lit (.int .u8 0), .lit (.int .u8 0), .lit (.int .u8 0), .lit (.int .u8 0), .lit (.int .u8 0), .lit (.int .u8 0), .lit (.int .u8 0), .lit (.int .u8 0), .lit (.int .u8 0), .lit (.int .u8 0), .lit (.int .u8 0), .lit (.int .u8 0), .lit (.int .u8 0), .lit (.int .u8 0), .lit (.int .u8 0), .lit (.int .u8 0), .lit (.int .u8 0), .lit (.int .u8 0), .lit (.int .u8 0), .lit (.int .u8 0), .lit (.int .u8 0), .lit (.int .u8 0), .lit (.int .u8 0), .lit (.int .u8 0), .lit (.int .u8 0), .lit (.int .u8 0), .lit (.int .u8 0), .lit (.int .u8 0), .lit (.int .u8 0), .lit (.int .u8 0), .lit (.int .u8 0), .lit (.int .u8 0), .lit (.int .u8 0), .lit (.int .u8 0), .lit (.int .u8 0), .lit (.int .u8 0), .lit (.int .u8 0), .lit (.int .u8 0), .lit (.int .u8 0), .lit (.int .u8 0), .lit (.int .u8 0), .lit (.int .u8 0), .lit (.int .u8 0), .lit (.int .u8 0), .lit (.int .u8 0), .lit (.int .u8 0), .lit (.int .u8 0), .lit (.int .u8 0), .lit (.int .u8 0), .lit (.int .u8 0), .lit (.int .u8 0), .lit (.int .u8 0), .lit (.int .u8 0), .lit (.int .u8 0), .lit (.int .u8 0), .lit (.int .u8 0), .lit (.int .u8 0), .lit (.int .u8 0), .lit (.int .u8 0), .lit (.int .u8 0), .lit (.int .u8 0), .lit (.int .u8 0), .lit (.int .u8 0), .lit (.int .u8 0), .lit (.int .u8 0), .lit (.int .u8 0), .lit (.int .u8 0), .lit (.int .u8 0), .lit (.int .u8 0), .lit (.int .u8 0), .lit (.int .u8 0), .lit (.int .u8 0), .lit (.int .u8 0), .lit (.int .u8 0), .lit (.int .u8 0), .lit (.int .u8 0), .lit (.int .u8 0), .lit (.int .u8 0), .lit (.int .u8 0), .lit (.int .u8 0), .lit (.int .u8 0), .lit (.int .u8 0), .lit (.int .u8 0), .lit (.int .u8 0), .lit (.int .u8 0), .lit (.int .u8 0), .lit (.int .u8 0), .lit (.int .u8 0), .lit (.int .u8 0), .lit (.int .u8 0), .lit (.int .u8 0), .lit (.int .u8 0), .lit (.int .u8 0), .lit (.int .u8 0), .lit (.int .u8 0), .lit (.int .u8 0), .lit (.int .u8 0), .lit (.int .u8 0), .lit (.int .u8 0), .lit (.int .u8 0), .lit (.int .u8 0), .lit (.int .u8 0), .lit (.int .u8 0), .lit (.int .u8 0), .lit (.int .u8 0), .lit (.int .u8 0), .lit (.int .u8 0), .lit (.int .u8 0), .lit (.int .u8 0), .lit (.int .u8 0)]
/-- One of Go's own tables, pinned by name: the form's constant. -/
def laid_unicode_utf8_first : DataW Unit := Go.Pinned.utf8First

/-- 'stricklelaw08.CaliperNeeds': WHATEVER THE INPUT: true; the input reads as it did. -/
def caliperNeedsSpec : ChangeSpec := { name := "caliperNeeds", fn := fun _ => fun
  | [d1, d2] => { results := [.lit (.bool true)], args := [d1, d2] }
  | _ => none }
def caliperNeedsRow : OpenClaim := { program := "ytgffeapobcfigaagreatdoor", sum := "0cc3f1b10029e28b559cbae283b351e708d4270b5ddd7286393026afd4ede920", func := "strickle/stricklelaw08.CaliperNeeds", spec := "caliperNeeds", unfollowed := true, recurses := true, named := ["math/bits.deBruijn64tab"], plainKeys := false, apart := false, laid := [("math/bits.deBruijn64tab", laid_math_bits_deBruijn64tab)] }
def CaliperNeedsSaid : Prop := caliperNeedsRow.holds Tryz.pinned (OpenSpec.ofChange caliperNeedsSpec)

/-- ITS FALSE NEIGHBOUR: 'it returns false'. Refute it at one input. -/
def caliperNeedsWrong : ChangeSpec := { name := "caliperNeeds", fn := fun _ => fun
  | [d1, d2] => { results := [.lit (.bool false)], args := [d1, d2] }
  | _ => none }
def CaliperNeedsWrongFalsely : Prop := caliperNeedsRow.holds Tryz.pinned (OpenSpec.ofChange caliperNeedsWrong)

/-- 'stricklelaw08.CaliperChecks': WHATEVER THE INPUT: true; the input reads as it did. -/
def caliperChecksSpec : ChangeSpec := { name := "caliperChecks", fn := fun _ => fun
  | [d1, d2, d3, d4, d5, d6] => { results := [.lit (.bool true)], args := [d1, d2, d3, d4, d5, d6] }
  | _ => none }
def caliperChecksRow : OpenClaim := { program := "ytgffeapobcfigaagreatdoor", sum := "0cc3f1b10029e28b559cbae283b351e708d4270b5ddd7286393026afd4ede920", func := "strickle/stricklelaw08.CaliperChecks", spec := "caliperChecks", unfollowed := true, recurses := true, named := ["math/bits.deBruijn64tab"], plainKeys := false, apart := false, laid := [("math/bits.deBruijn64tab", laid_math_bits_deBruijn64tab)] }
def CaliperChecksSaid : Prop := caliperChecksRow.holds Tryz.pinned (OpenSpec.ofChange caliperChecksSpec)

/-- ITS FALSE NEIGHBOUR: 'it returns false'. Refute it at one input. -/
def caliperChecksWrong : ChangeSpec := { name := "caliperChecks", fn := fun _ => fun
  | [d1, d2, d3, d4, d5, d6] => { results := [.lit (.bool false)], args := [d1, d2, d3, d4, d5, d6] }
  | _ => none }
def CaliperChecksWrongFalsely : Prop := caliperChecksRow.holds Tryz.pinned (OpenSpec.ofChange caliperChecksWrong)

/-- 'stricklelaw08.CaliperTruths': WHATEVER THE INPUT: true; the input reads as it did. -/
def caliperTruthsSpec : ChangeSpec := { name := "caliperTruths", fn := fun _ => fun
  | [d1, d2, d3] => { results := [.lit (.bool true)], args := [d1, d2, d3] }
  | _ => none }
def caliperTruthsRow : OpenClaim := { program := "ytgffeapobcfigaagreatdoor", sum := "0cc3f1b10029e28b559cbae283b351e708d4270b5ddd7286393026afd4ede920", func := "strickle/stricklelaw08.CaliperTruths", spec := "caliperTruths", unfollowed := true, recurses := true, named := ["math/bits.deBruijn64tab"], plainKeys := false, apart := false, laid := [("math/bits.deBruijn64tab", laid_math_bits_deBruijn64tab)] }
def CaliperTruthsSaid : Prop := caliperTruthsRow.holds Tryz.pinned (OpenSpec.ofChange caliperTruthsSpec)

/-- ITS FALSE NEIGHBOUR: 'it returns false'. Refute it at one input. -/
def caliperTruthsWrong : ChangeSpec := { name := "caliperTruths", fn := fun _ => fun
  | [d1, d2, d3] => { results := [.lit (.bool false)], args := [d1, d2, d3] }
  | _ => none }
def CaliperTruthsWrongFalsely : Prop := caliperTruthsRow.holds Tryz.pinned (OpenSpec.ofChange caliperTruthsWrong)

/-- 'stricklelaw08.CaliperDoubts': WHATEVER THE INPUT: true; the input reads as it did. -/
def caliperDoubtsSpec : ChangeSpec := { name := "caliperDoubts", fn := fun _ => fun
  | [d1, d2, d3] => { results := [.lit (.bool true)], args := [d1, d2, d3] }
  | _ => none }
def caliperDoubtsRow : OpenClaim := { program := "ytgffeapobcfigaagreatdoor", sum := "0cc3f1b10029e28b559cbae283b351e708d4270b5ddd7286393026afd4ede920", func := "strickle/stricklelaw08.CaliperDoubts", spec := "caliperDoubts", unfollowed := true, recurses := true, named := ["math/bits.deBruijn64tab"], plainKeys := false, apart := false, laid := [("math/bits.deBruijn64tab", laid_math_bits_deBruijn64tab)] }
def CaliperDoubtsSaid : Prop := caliperDoubtsRow.holds Tryz.pinned (OpenSpec.ofChange caliperDoubtsSpec)

/-- ITS FALSE NEIGHBOUR: 'it returns false'. Refute it at one input. -/
def caliperDoubtsWrong : ChangeSpec := { name := "caliperDoubts", fn := fun _ => fun
  | [d1, d2, d3] => { results := [.lit (.bool false)], args := [d1, d2, d3] }
  | _ => none }
def CaliperDoubtsWrongFalsely : Prop := caliperDoubtsRow.holds Tryz.pinned (OpenSpec.ofChange caliperDoubtsWrong)

/-- 'stricklelaw08.CaliperMore': WHATEVER THE INPUT: true; the input reads as it did. -/
def caliperMoreSpec : ChangeSpec := { name := "caliperMore", fn := fun _ => fun
  | [d1, d2, d3, d4, d5] => { results := [.lit (.bool true)], args := [d1, d2, d3, d4, d5] }
  | _ => none }
def caliperMoreRow : OpenClaim := { program := "ytgffeapobcfigaagreatdoor", sum := "0cc3f1b10029e28b559cbae283b351e708d4270b5ddd7286393026afd4ede920", func := "strickle/stricklelaw08.CaliperMore", spec := "caliperMore", unfollowed := true, recurses := true, named := ["math/bits.deBruijn64tab"], plainKeys := false, apart := false, laid := [("math/bits.deBruijn64tab", laid_math_bits_deBruijn64tab)] }
def CaliperMoreSaid : Prop := caliperMoreRow.holds Tryz.pinned (OpenSpec.ofChange caliperMoreSpec)

/-- ITS FALSE NEIGHBOUR: 'it returns false'. Refute it at one input. -/
def caliperMoreWrong : ChangeSpec := { name := "caliperMore", fn := fun _ => fun
  | [d1, d2, d3, d4, d5] => { results := [.lit (.bool false)], args := [d1, d2, d3, d4, d5] }
  | _ => none }
def CaliperMoreWrongFalsely : Prop := caliperMoreRow.holds Tryz.pinned (OpenSpec.ofChange caliperMoreWrong)

/-- 'stricklelaw08.CaliperSheets': WHATEVER THE INPUT: true; the input reads as it did. -/
def caliperSheetsSpec : ChangeSpec := { name := "caliperSheets", fn := fun _ => fun
  | [d1, d2, d3] => { results := [.lit (.bool true)], args := [d1, d2, d3] }
  | _ => none }
def caliperSheetsRow : OpenClaim := { program := "ytgffeapobcfigaagreatdoor", sum := "0cc3f1b10029e28b559cbae283b351e708d4270b5ddd7286393026afd4ede920", func := "strickle/stricklelaw08.CaliperSheets", spec := "caliperSheets", unfollowed := true, recurses := true, named := ["math/bits.deBruijn64tab"], plainKeys := false, apart := false, laid := [("math/bits.deBruijn64tab", laid_math_bits_deBruijn64tab)] }
def CaliperSheetsSaid : Prop := caliperSheetsRow.holds Tryz.pinned (OpenSpec.ofChange caliperSheetsSpec)

/-- ITS FALSE NEIGHBOUR: 'it returns false'. Refute it at one input. -/
def caliperSheetsWrong : ChangeSpec := { name := "caliperSheets", fn := fun _ => fun
  | [d1, d2, d3] => { results := [.lit (.bool false)], args := [d1, d2, d3] }
  | _ => none }
def CaliperSheetsWrongFalsely : Prop := caliperSheetsRow.holds Tryz.pinned (OpenSpec.ofChange caliperSheetsWrong)

/-- 'stricklelaw08.CaliperLater': WHATEVER THE INPUT: true; the input reads as it did. -/
def caliperLaterSpec : ChangeSpec := { name := "caliperLater", fn := fun _ => fun
  | [d1, d2, d3, d4, d5] => { results := [.lit (.bool true)], args := [d1, d2, d3, d4, d5] }
  | _ => none }
def caliperLaterRow : OpenClaim := { program := "ytgffeapobcfigaagreatdoor", sum := "0cc3f1b10029e28b559cbae283b351e708d4270b5ddd7286393026afd4ede920", func := "strickle/stricklelaw08.CaliperLater", spec := "caliperLater", unfollowed := true, recurses := true, named := ["math/bits.deBruijn64tab"], plainKeys := false, apart := false, laid := [("math/bits.deBruijn64tab", laid_math_bits_deBruijn64tab)] }
def CaliperLaterSaid : Prop := caliperLaterRow.holds Tryz.pinned (OpenSpec.ofChange caliperLaterSpec)

/-- ITS FALSE NEIGHBOUR: 'it returns false'. Refute it at one input. -/
def caliperLaterWrong : ChangeSpec := { name := "caliperLater", fn := fun _ => fun
  | [d1, d2, d3, d4, d5] => { results := [.lit (.bool false)], args := [d1, d2, d3, d4, d5] }
  | _ => none }
def CaliperLaterWrongFalsely : Prop := caliperLaterRow.holds Tryz.pinned (OpenSpec.ofChange caliperLaterWrong)

/-- 'stricklelaw08.CaliperServes': WHATEVER THE INPUT: true; the input reads as it did. -/
def caliperServesSpec : ChangeSpec := { name := "caliperServes", fn := fun _ => fun
  | [d1, d2, d3] => { results := [.lit (.bool true)], args := [d1, d2, d3] }
  | _ => none }
def caliperServesRow : OpenClaim := { program := "ytgffeapobcfigaagreatdoor", sum := "0cc3f1b10029e28b559cbae283b351e708d4270b5ddd7286393026afd4ede920", func := "strickle/stricklelaw08.CaliperServes", spec := "caliperServes", unfollowed := true, recurses := true, named := ["math/bits.deBruijn64tab"], plainKeys := false, apart := false, laid := [("math/bits.deBruijn64tab", laid_math_bits_deBruijn64tab)] }
def CaliperServesSaid : Prop := caliperServesRow.holds Tryz.pinned (OpenSpec.ofChange caliperServesSpec)

/-- ITS FALSE NEIGHBOUR: 'it returns false'. Refute it at one input. -/
def caliperServesWrong : ChangeSpec := { name := "caliperServes", fn := fun _ => fun
  | [d1, d2, d3] => { results := [.lit (.bool false)], args := [d1, d2, d3] }
  | _ => none }
def CaliperServesWrongFalsely : Prop := caliperServesRow.holds Tryz.pinned (OpenSpec.ofChange caliperServesWrong)

/-- 'stricklelaw08.CaliperAnswers': WHATEVER THE INPUT: true; the input reads as it did. -/
def caliperAnswersSpec : ChangeSpec := { name := "caliperAnswers", fn := fun _ => fun
  | [d1, d2, d3, d4, d5, d6] => { results := [.lit (.bool true)], args := [d1, d2, d3, d4, d5, d6] }
  | _ => none }
def caliperAnswersRow : OpenClaim := { program := "ytgffeapobcfigaagreatdoor", sum := "0cc3f1b10029e28b559cbae283b351e708d4270b5ddd7286393026afd4ede920", func := "strickle/stricklelaw08.CaliperAnswers", spec := "caliperAnswers", unfollowed := true, recurses := true, named := ["math/bits.deBruijn64tab"], plainKeys := false, apart := false, laid := [("math/bits.deBruijn64tab", laid_math_bits_deBruijn64tab)] }
def CaliperAnswersSaid : Prop := caliperAnswersRow.holds Tryz.pinned (OpenSpec.ofChange caliperAnswersSpec)

/-- ITS FALSE NEIGHBOUR: 'it returns false'. Refute it at one input. -/
def caliperAnswersWrong : ChangeSpec := { name := "caliperAnswers", fn := fun _ => fun
  | [d1, d2, d3, d4, d5, d6] => { results := [.lit (.bool false)], args := [d1, d2, d3, d4, d5, d6] }
  | _ => none }
def CaliperAnswersWrongFalsely : Prop := caliperAnswersRow.holds Tryz.pinned (OpenSpec.ofChange caliperAnswersWrong)

/-- 'stricklelaw08.CaliperCost': WHATEVER THE INPUT: true; the input reads as it did. -/
def caliperCostSpec : ChangeSpec := { name := "caliperCost", fn := fun _ => fun
  | [d1, d2, d3] => { results := [.lit (.bool true)], args := [d1, d2, d3] }
  | _ => none }
def caliperCostRow : OpenClaim := { program := "ytgffeapobcfigaagreatdoor", sum := "0cc3f1b10029e28b559cbae283b351e708d4270b5ddd7286393026afd4ede920", func := "strickle/stricklelaw08.CaliperCost", spec := "caliperCost", unfollowed := true, recurses := true, named := ["math/bits.deBruijn64tab"], plainKeys := false, apart := false, laid := [("math/bits.deBruijn64tab", laid_math_bits_deBruijn64tab)] }
def CaliperCostSaid : Prop := caliperCostRow.holds Tryz.pinned (OpenSpec.ofChange caliperCostSpec)

/-- ITS FALSE NEIGHBOUR: 'it returns false'. Refute it at one input. -/
def caliperCostWrong : ChangeSpec := { name := "caliperCost", fn := fun _ => fun
  | [d1, d2, d3] => { results := [.lit (.bool false)], args := [d1, d2, d3] }
  | _ => none }
def CaliperCostWrongFalsely : Prop := caliperCostRow.holds Tryz.pinned (OpenSpec.ofChange caliperCostWrong)

/-- 'stricklelaw08.CaliperValue': WHATEVER THE INPUT: true; the input reads as it did. -/
def caliperValueSpec : ChangeSpec := { name := "caliperValue", fn := fun _ => fun
  | [d1, d2, d3, d4, d5, d6, d7] => { results := [.lit (.bool true)], args := [d1, d2, d3, d4, d5, d6, d7] }
  | _ => none }
def caliperValueRow : OpenClaim := { program := "ytgffeapobcfigaagreatdoor", sum := "0cc3f1b10029e28b559cbae283b351e708d4270b5ddd7286393026afd4ede920", func := "strickle/stricklelaw08.CaliperValue", spec := "caliperValue", unfollowed := true, recurses := true, named := ["math/bits.deBruijn64tab"], plainKeys := false, apart := false, laid := [("math/bits.deBruijn64tab", laid_math_bits_deBruijn64tab)] }
def CaliperValueSaid : Prop := caliperValueRow.holds Tryz.pinned (OpenSpec.ofChange caliperValueSpec)

/-- ITS FALSE NEIGHBOUR: 'it returns false'. Refute it at one input. -/
def caliperValueWrong : ChangeSpec := { name := "caliperValue", fn := fun _ => fun
  | [d1, d2, d3, d4, d5, d6, d7] => { results := [.lit (.bool false)], args := [d1, d2, d3, d4, d5, d6, d7] }
  | _ => none }
def CaliperValueWrongFalsely : Prop := caliperValueRow.holds Tryz.pinned (OpenSpec.ofChange caliperValueWrong)

/-- 'stricklelaw08.CaliperFindings': WHATEVER THE INPUT: true; the input reads as it did. -/
def caliperFindingsSpec : ChangeSpec := { name := "caliperFindings", fn := fun _ => fun
  | [d1, d2, d3, d4] => { results := [.lit (.bool true)], args := [d1, d2, d3, d4] }
  | _ => none }
def caliperFindingsRow : OpenClaim := { program := "ytgffeapobcfigaagreatdoor", sum := "0cc3f1b10029e28b559cbae283b351e708d4270b5ddd7286393026afd4ede920", func := "strickle/stricklelaw08.CaliperFindings", spec := "caliperFindings", unfollowed := true, recurses := true, named := ["math/bits.deBruijn64tab"], plainKeys := false, apart := false, laid := [("math/bits.deBruijn64tab", laid_math_bits_deBruijn64tab)] }
def CaliperFindingsSaid : Prop := caliperFindingsRow.holds Tryz.pinned (OpenSpec.ofChange caliperFindingsSpec)

/-- ITS FALSE NEIGHBOUR: 'it returns false'. Refute it at one input. -/
def caliperFindingsWrong : ChangeSpec := { name := "caliperFindings", fn := fun _ => fun
  | [d1, d2, d3, d4] => { results := [.lit (.bool false)], args := [d1, d2, d3, d4] }
  | _ => none }
def CaliperFindingsWrongFalsely : Prop := caliperFindingsRow.holds Tryz.pinned (OpenSpec.ofChange caliperFindingsWrong)

/-- 'stricklelaw08.CaliperNumbers': WHATEVER THE INPUT: true; the input reads as it did. -/
def caliperNumbersSpec : ChangeSpec := { name := "caliperNumbers", fn := fun _ => fun
  | [d1, d2] => { results := [.lit (.bool true)], args := [d1, d2] }
  | _ => none }
def caliperNumbersRow : OpenClaim := { program := "ytgffeapobcfigaagreatdoor", sum := "0cc3f1b10029e28b559cbae283b351e708d4270b5ddd7286393026afd4ede920", func := "strickle/stricklelaw08.CaliperNumbers", spec := "caliperNumbers", unfollowed := true, recurses := true, named := ["math/bits.deBruijn64tab"], plainKeys := false, apart := false, laid := [("math/bits.deBruijn64tab", laid_math_bits_deBruijn64tab)] }
def CaliperNumbersSaid : Prop := caliperNumbersRow.holds Tryz.pinned (OpenSpec.ofChange caliperNumbersSpec)

/-- ITS FALSE NEIGHBOUR: 'it returns false'. Refute it at one input. -/
def caliperNumbersWrong : ChangeSpec := { name := "caliperNumbers", fn := fun _ => fun
  | [d1, d2] => { results := [.lit (.bool false)], args := [d1, d2] }
  | _ => none }
def CaliperNumbersWrongFalsely : Prop := caliperNumbersRow.holds Tryz.pinned (OpenSpec.ofChange caliperNumbersWrong)

/-- 'stricklelaw08.CaliperSeasons': WHATEVER THE INPUT: true; the input reads as it did. -/
def caliperSeasonsSpec : ChangeSpec := { name := "caliperSeasons", fn := fun _ => fun
  | [d1, d2, d3] => { results := [.lit (.bool true)], args := [d1, d2, d3] }
  | _ => none }
def caliperSeasonsRow : OpenClaim := { program := "ytgffeapobcfigaagreatdoor", sum := "0cc3f1b10029e28b559cbae283b351e708d4270b5ddd7286393026afd4ede920", func := "strickle/stricklelaw08.CaliperSeasons", spec := "caliperSeasons", unfollowed := true, recurses := true, named := ["math/bits.deBruijn64tab"], plainKeys := false, apart := false, laid := [("math/bits.deBruijn64tab", laid_math_bits_deBruijn64tab)] }
def CaliperSeasonsSaid : Prop := caliperSeasonsRow.holds Tryz.pinned (OpenSpec.ofChange caliperSeasonsSpec)

/-- ITS FALSE NEIGHBOUR: 'it returns false'. Refute it at one input. -/
def caliperSeasonsWrong : ChangeSpec := { name := "caliperSeasons", fn := fun _ => fun
  | [d1, d2, d3] => { results := [.lit (.bool false)], args := [d1, d2, d3] }
  | _ => none }
def CaliperSeasonsWrongFalsely : Prop := caliperSeasonsRow.holds Tryz.pinned (OpenSpec.ofChange caliperSeasonsWrong)

/-- 'strickletop.TopProbed': WHATEVER THE INPUT: true; the input reads as it did. -/
def topProbedSpec : ChangeSpec := { name := "topProbed", fn := fun _ => fun
  | [d1, d2, d3, d4] => { results := [.lit (.bool true)], args := [d1, d2, d3, d4] }
  | _ => none }
def topProbedRow : OpenClaim := { program := "ytgffeapobcfigaagreatdoor", sum := "0cc3f1b10029e28b559cbae283b351e708d4270b5ddd7286393026afd4ede920", func := "strickle/strickletop.TopProbed", spec := "topProbed", unfollowed := true, recurses := true, named := ["math/bits.deBruijn64tab"], plainKeys := false, apart := false, laid := [("math/bits.deBruijn64tab", laid_math_bits_deBruijn64tab)] }
def TopProbedSaid : Prop := topProbedRow.holds Tryz.pinned (OpenSpec.ofChange topProbedSpec)

/-- ITS FALSE NEIGHBOUR: 'it returns false'. Refute it at one input. -/
def topProbedWrong : ChangeSpec := { name := "topProbed", fn := fun _ => fun
  | [d1, d2, d3, d4] => { results := [.lit (.bool false)], args := [d1, d2, d3, d4] }
  | _ => none }
def TopProbedWrongFalsely : Prop := topProbedRow.holds Tryz.pinned (OpenSpec.ofChange topProbedWrong)

/-- 'stricklelaw08.CaliperKnown': WHATEVER THE INPUT: true; the input reads as it did. -/
def caliperKnownSpec : ChangeSpec := { name := "caliperKnown", fn := fun _ => fun
  | [d1, d2, d3, d4, d5] => { results := [.lit (.bool true)], args := [d1, d2, d3, d4, d5] }
  | _ => none }
def caliperKnownRow : OpenClaim := { program := "ytgffeapobcfigaagreatdoor", sum := "0cc3f1b10029e28b559cbae283b351e708d4270b5ddd7286393026afd4ede920", func := "strickle/stricklelaw08.CaliperKnown", spec := "caliperKnown", unfollowed := true, recurses := true, named := ["math/bits.deBruijn64tab"], plainKeys := false, apart := false, laid := [("math/bits.deBruijn64tab", laid_math_bits_deBruijn64tab)] }
def CaliperKnownSaid : Prop := caliperKnownRow.holds Tryz.pinned (OpenSpec.ofChange caliperKnownSpec)

/-- ITS FALSE NEIGHBOUR: 'it returns false'. Refute it at one input. -/
def caliperKnownWrong : ChangeSpec := { name := "caliperKnown", fn := fun _ => fun
  | [d1, d2, d3, d4, d5] => { results := [.lit (.bool false)], args := [d1, d2, d3, d4, d5] }
  | _ => none }
def CaliperKnownWrongFalsely : Prop := caliperKnownRow.holds Tryz.pinned (OpenSpec.ofChange caliperKnownWrong)

/-- 'stricklelaw08.CaliperLines': WHATEVER THE INPUT: true; the input reads as it did. -/
def caliperLinesSpec : ChangeSpec := { name := "caliperLines", fn := fun _ => fun
  | [d1, d2] => { results := [.lit (.bool true)], args := [d1, d2] }
  | _ => none }
def caliperLinesRow : OpenClaim := { program := "ytgffeapobcfigaagreatdoor", sum := "0cc3f1b10029e28b559cbae283b351e708d4270b5ddd7286393026afd4ede920", func := "strickle/stricklelaw08.CaliperLines", spec := "caliperLines", inPlace := ["internal/abi.NoEscape", "internal/bytealg.MakeNoZero", "internal/bytealg.CountString", "internal/bytealg.IndexByteString", "internal/bytealg.IndexString"], unfollowed := true, recurses := true, named := ["math/bits.deBruijn64tab", "internal/strconv.uint64pow10", "math/bits.deBruijn32tab", "strings.asciiSpace", "unicode.White_Space", "unicode/utf8.first", "unicode/utf8.acceptRanges", "internal/bytealg.MaxLen", "strconv.ErrSyntax", "strconv.ErrRange"], plainKeys := false, apart := false, laid := [("math/bits.deBruijn32tab", laid_math_bits_deBruijn32tab), ("math/bits.deBruijn64tab", laid_math_bits_deBruijn64tab), ("internal/strconv.uint64pow10", laid_internal_strconv_uint64pow10), ("unicode/utf8.acceptRanges", laid_unicode_utf8_acceptRanges), ("strconv.ErrRange", laid_strconv_ErrRange), ("strconv.ErrSyntax", laid_strconv_ErrSyntax), ("unicode.White_Space", laid_unicode_White_Space), ("strings.asciiSpace", laid_strings_asciiSpace), ("unicode/utf8.first", laid_unicode_utf8_first)] }
def CaliperLinesSaid : Prop := caliperLinesRow.holds Tryz.pinned (OpenSpec.ofChange caliperLinesSpec)

/-- ITS FALSE NEIGHBOUR: 'it returns false'. Refute it at one input. -/
def caliperLinesWrong : ChangeSpec := { name := "caliperLines", fn := fun _ => fun
  | [d1, d2] => { results := [.lit (.bool false)], args := [d1, d2] }
  | _ => none }
def CaliperLinesWrongFalsely : Prop := caliperLinesRow.holds Tryz.pinned (OpenSpec.ofChange caliperLinesWrong)

/- THE SECOND FORM. 'bulk': how many values and letters a reading holds, each counted each time it is reached (what is shared counts as often as it is met; a slice's spare places count too). A statement '..UptoSaid' is the law's where the arguments, and the package variables that the reading takes, are together of bulk at most 1048576: NARROWER than '..Said'. Prove '..Said' where nothing that the law and all that it calls make is longer than what came in: it says more and counts as full. Else prove '..UptoSaid'. A law counts once. -/
mutual
def uptoBulk {H : Type} : DataW H → Nat
  | .lit (.string bytes) => bytes.length + 1
  | .lit _ => 1
  | .nil => 1
  | .ptr d => uptoBulk d + 1
  | .slice elems spare => uptoBulkAll elems + uptoBulkAll spare + 1
  | .agg parts => uptoBulkAll parts + 1
  | .iface _ d => uptoBulk d + 1
  | .map entries => uptoBulkEntries entries + 1
  | .held _ => 1
def uptoBulkAll {H : Type} : List (DataW H) → Nat
  | [] => 0
  | d :: r => uptoBulk d + uptoBulkAll r
def uptoBulkEntries {H : Type} : List (Lit × DataW H) → Nat
  | [] => 0
  | x :: r => uptoBulkEntry x + uptoBulkEntries r
def uptoBulkEntry {H : Type} : Lit × DataW H → Nat
  | (.string bytes, d) => bytes.length + uptoBulk d + 1
  | (_, d) => uptoBulk d + 1
 end
def uptoSmall : (H : Type) → List (DataW H) → Bool := fun _ ds => decide (uptoBulkAll ds ≤ 1048576)
def OpenSpec.upto (s : _root_.Go.ChangeSpec) : _root_.Go.OpenSpec := { _root_.Go.OpenSpec.ofChange s with cond := some uptoSmall }

/-- 'stricklelaw08.CaliperNeeds', WHERE WHAT IT READS IS OF BULK AT MOST 1048576: true; the input reads as it did. -/
def caliperNeedsUptoRow : OpenClaim := { program := "ytgffeapobcfigaagreatdoor", sum := "0cc3f1b10029e28b559cbae283b351e708d4270b5ddd7286393026afd4ede920", func := "strickle/stricklelaw08.CaliperNeeds", spec := "caliperNeeds", unfollowed := true, recurses := true, named := ["math/bits.deBruijn64tab"], plainKeys := false, apart := false, laid := [("math/bits.deBruijn64tab", laid_math_bits_deBruijn64tab)], narrowed := true }
def CaliperNeedsUptoSaid : Prop := caliperNeedsUptoRow.holds Tryz.pinned (OpenSpec.upto caliperNeedsSpec)

/-- 'stricklelaw08.CaliperChecks', WHERE WHAT IT READS IS OF BULK AT MOST 1048576: true; the input reads as it did. -/
def caliperChecksUptoRow : OpenClaim := { program := "ytgffeapobcfigaagreatdoor", sum := "0cc3f1b10029e28b559cbae283b351e708d4270b5ddd7286393026afd4ede920", func := "strickle/stricklelaw08.CaliperChecks", spec := "caliperChecks", unfollowed := true, recurses := true, named := ["math/bits.deBruijn64tab"], plainKeys := false, apart := false, laid := [("math/bits.deBruijn64tab", laid_math_bits_deBruijn64tab)], narrowed := true }
def CaliperChecksUptoSaid : Prop := caliperChecksUptoRow.holds Tryz.pinned (OpenSpec.upto caliperChecksSpec)

/-- 'stricklelaw08.CaliperTruths', WHERE WHAT IT READS IS OF BULK AT MOST 1048576: true; the input reads as it did. -/
def caliperTruthsUptoRow : OpenClaim := { program := "ytgffeapobcfigaagreatdoor", sum := "0cc3f1b10029e28b559cbae283b351e708d4270b5ddd7286393026afd4ede920", func := "strickle/stricklelaw08.CaliperTruths", spec := "caliperTruths", unfollowed := true, recurses := true, named := ["math/bits.deBruijn64tab"], plainKeys := false, apart := false, laid := [("math/bits.deBruijn64tab", laid_math_bits_deBruijn64tab)], narrowed := true }
def CaliperTruthsUptoSaid : Prop := caliperTruthsUptoRow.holds Tryz.pinned (OpenSpec.upto caliperTruthsSpec)

/-- 'stricklelaw08.CaliperDoubts', WHERE WHAT IT READS IS OF BULK AT MOST 1048576: true; the input reads as it did. -/
def caliperDoubtsUptoRow : OpenClaim := { program := "ytgffeapobcfigaagreatdoor", sum := "0cc3f1b10029e28b559cbae283b351e708d4270b5ddd7286393026afd4ede920", func := "strickle/stricklelaw08.CaliperDoubts", spec := "caliperDoubts", unfollowed := true, recurses := true, named := ["math/bits.deBruijn64tab"], plainKeys := false, apart := false, laid := [("math/bits.deBruijn64tab", laid_math_bits_deBruijn64tab)], narrowed := true }
def CaliperDoubtsUptoSaid : Prop := caliperDoubtsUptoRow.holds Tryz.pinned (OpenSpec.upto caliperDoubtsSpec)

/-- 'stricklelaw08.CaliperMore', WHERE WHAT IT READS IS OF BULK AT MOST 1048576: true; the input reads as it did. -/
def caliperMoreUptoRow : OpenClaim := { program := "ytgffeapobcfigaagreatdoor", sum := "0cc3f1b10029e28b559cbae283b351e708d4270b5ddd7286393026afd4ede920", func := "strickle/stricklelaw08.CaliperMore", spec := "caliperMore", unfollowed := true, recurses := true, named := ["math/bits.deBruijn64tab"], plainKeys := false, apart := false, laid := [("math/bits.deBruijn64tab", laid_math_bits_deBruijn64tab)], narrowed := true }
def CaliperMoreUptoSaid : Prop := caliperMoreUptoRow.holds Tryz.pinned (OpenSpec.upto caliperMoreSpec)

/-- 'stricklelaw08.CaliperSheets', WHERE WHAT IT READS IS OF BULK AT MOST 1048576: true; the input reads as it did. -/
def caliperSheetsUptoRow : OpenClaim := { program := "ytgffeapobcfigaagreatdoor", sum := "0cc3f1b10029e28b559cbae283b351e708d4270b5ddd7286393026afd4ede920", func := "strickle/stricklelaw08.CaliperSheets", spec := "caliperSheets", unfollowed := true, recurses := true, named := ["math/bits.deBruijn64tab"], plainKeys := false, apart := false, laid := [("math/bits.deBruijn64tab", laid_math_bits_deBruijn64tab)], narrowed := true }
def CaliperSheetsUptoSaid : Prop := caliperSheetsUptoRow.holds Tryz.pinned (OpenSpec.upto caliperSheetsSpec)

/-- 'stricklelaw08.CaliperLater', WHERE WHAT IT READS IS OF BULK AT MOST 1048576: true; the input reads as it did. -/
def caliperLaterUptoRow : OpenClaim := { program := "ytgffeapobcfigaagreatdoor", sum := "0cc3f1b10029e28b559cbae283b351e708d4270b5ddd7286393026afd4ede920", func := "strickle/stricklelaw08.CaliperLater", spec := "caliperLater", unfollowed := true, recurses := true, named := ["math/bits.deBruijn64tab"], plainKeys := false, apart := false, laid := [("math/bits.deBruijn64tab", laid_math_bits_deBruijn64tab)], narrowed := true }
def CaliperLaterUptoSaid : Prop := caliperLaterUptoRow.holds Tryz.pinned (OpenSpec.upto caliperLaterSpec)

/-- 'stricklelaw08.CaliperServes', WHERE WHAT IT READS IS OF BULK AT MOST 1048576: true; the input reads as it did. -/
def caliperServesUptoRow : OpenClaim := { program := "ytgffeapobcfigaagreatdoor", sum := "0cc3f1b10029e28b559cbae283b351e708d4270b5ddd7286393026afd4ede920", func := "strickle/stricklelaw08.CaliperServes", spec := "caliperServes", unfollowed := true, recurses := true, named := ["math/bits.deBruijn64tab"], plainKeys := false, apart := false, laid := [("math/bits.deBruijn64tab", laid_math_bits_deBruijn64tab)], narrowed := true }
def CaliperServesUptoSaid : Prop := caliperServesUptoRow.holds Tryz.pinned (OpenSpec.upto caliperServesSpec)

/-- 'stricklelaw08.CaliperAnswers', WHERE WHAT IT READS IS OF BULK AT MOST 1048576: true; the input reads as it did. -/
def caliperAnswersUptoRow : OpenClaim := { program := "ytgffeapobcfigaagreatdoor", sum := "0cc3f1b10029e28b559cbae283b351e708d4270b5ddd7286393026afd4ede920", func := "strickle/stricklelaw08.CaliperAnswers", spec := "caliperAnswers", unfollowed := true, recurses := true, named := ["math/bits.deBruijn64tab"], plainKeys := false, apart := false, laid := [("math/bits.deBruijn64tab", laid_math_bits_deBruijn64tab)], narrowed := true }
def CaliperAnswersUptoSaid : Prop := caliperAnswersUptoRow.holds Tryz.pinned (OpenSpec.upto caliperAnswersSpec)

/-- 'stricklelaw08.CaliperCost', WHERE WHAT IT READS IS OF BULK AT MOST 1048576: true; the input reads as it did. -/
def caliperCostUptoRow : OpenClaim := { program := "ytgffeapobcfigaagreatdoor", sum := "0cc3f1b10029e28b559cbae283b351e708d4270b5ddd7286393026afd4ede920", func := "strickle/stricklelaw08.CaliperCost", spec := "caliperCost", unfollowed := true, recurses := true, named := ["math/bits.deBruijn64tab"], plainKeys := false, apart := false, laid := [("math/bits.deBruijn64tab", laid_math_bits_deBruijn64tab)], narrowed := true }
def CaliperCostUptoSaid : Prop := caliperCostUptoRow.holds Tryz.pinned (OpenSpec.upto caliperCostSpec)

/-- 'stricklelaw08.CaliperValue', WHERE WHAT IT READS IS OF BULK AT MOST 1048576: true; the input reads as it did. -/
def caliperValueUptoRow : OpenClaim := { program := "ytgffeapobcfigaagreatdoor", sum := "0cc3f1b10029e28b559cbae283b351e708d4270b5ddd7286393026afd4ede920", func := "strickle/stricklelaw08.CaliperValue", spec := "caliperValue", unfollowed := true, recurses := true, named := ["math/bits.deBruijn64tab"], plainKeys := false, apart := false, laid := [("math/bits.deBruijn64tab", laid_math_bits_deBruijn64tab)], narrowed := true }
def CaliperValueUptoSaid : Prop := caliperValueUptoRow.holds Tryz.pinned (OpenSpec.upto caliperValueSpec)

/-- 'stricklelaw08.CaliperFindings', WHERE WHAT IT READS IS OF BULK AT MOST 1048576: true; the input reads as it did. -/
def caliperFindingsUptoRow : OpenClaim := { program := "ytgffeapobcfigaagreatdoor", sum := "0cc3f1b10029e28b559cbae283b351e708d4270b5ddd7286393026afd4ede920", func := "strickle/stricklelaw08.CaliperFindings", spec := "caliperFindings", unfollowed := true, recurses := true, named := ["math/bits.deBruijn64tab"], plainKeys := false, apart := false, laid := [("math/bits.deBruijn64tab", laid_math_bits_deBruijn64tab)], narrowed := true }
def CaliperFindingsUptoSaid : Prop := caliperFindingsUptoRow.holds Tryz.pinned (OpenSpec.upto caliperFindingsSpec)

/-- 'stricklelaw08.CaliperNumbers', WHERE WHAT IT READS IS OF BULK AT MOST 1048576: true; the input reads as it did. -/
def caliperNumbersUptoRow : OpenClaim := { program := "ytgffeapobcfigaagreatdoor", sum := "0cc3f1b10029e28b559cbae283b351e708d4270b5ddd7286393026afd4ede920", func := "strickle/stricklelaw08.CaliperNumbers", spec := "caliperNumbers", unfollowed := true, recurses := true, named := ["math/bits.deBruijn64tab"], plainKeys := false, apart := false, laid := [("math/bits.deBruijn64tab", laid_math_bits_deBruijn64tab)], narrowed := true }
def CaliperNumbersUptoSaid : Prop := caliperNumbersUptoRow.holds Tryz.pinned (OpenSpec.upto caliperNumbersSpec)

/-- 'stricklelaw08.CaliperSeasons', WHERE WHAT IT READS IS OF BULK AT MOST 1048576: true; the input reads as it did. -/
def caliperSeasonsUptoRow : OpenClaim := { program := "ytgffeapobcfigaagreatdoor", sum := "0cc3f1b10029e28b559cbae283b351e708d4270b5ddd7286393026afd4ede920", func := "strickle/stricklelaw08.CaliperSeasons", spec := "caliperSeasons", unfollowed := true, recurses := true, named := ["math/bits.deBruijn64tab"], plainKeys := false, apart := false, laid := [("math/bits.deBruijn64tab", laid_math_bits_deBruijn64tab)], narrowed := true }
def CaliperSeasonsUptoSaid : Prop := caliperSeasonsUptoRow.holds Tryz.pinned (OpenSpec.upto caliperSeasonsSpec)

/-- 'strickletop.TopProbed', WHERE WHAT IT READS IS OF BULK AT MOST 1048576: true; the input reads as it did. -/
def topProbedUptoRow : OpenClaim := { program := "ytgffeapobcfigaagreatdoor", sum := "0cc3f1b10029e28b559cbae283b351e708d4270b5ddd7286393026afd4ede920", func := "strickle/strickletop.TopProbed", spec := "topProbed", unfollowed := true, recurses := true, named := ["math/bits.deBruijn64tab"], plainKeys := false, apart := false, laid := [("math/bits.deBruijn64tab", laid_math_bits_deBruijn64tab)], narrowed := true }
def TopProbedUptoSaid : Prop := topProbedUptoRow.holds Tryz.pinned (OpenSpec.upto topProbedSpec)

/-- 'stricklelaw08.CaliperKnown', WHERE WHAT IT READS IS OF BULK AT MOST 1048576: true; the input reads as it did. -/
def caliperKnownUptoRow : OpenClaim := { program := "ytgffeapobcfigaagreatdoor", sum := "0cc3f1b10029e28b559cbae283b351e708d4270b5ddd7286393026afd4ede920", func := "strickle/stricklelaw08.CaliperKnown", spec := "caliperKnown", unfollowed := true, recurses := true, named := ["math/bits.deBruijn64tab"], plainKeys := false, apart := false, laid := [("math/bits.deBruijn64tab", laid_math_bits_deBruijn64tab)], narrowed := true }
def CaliperKnownUptoSaid : Prop := caliperKnownUptoRow.holds Tryz.pinned (OpenSpec.upto caliperKnownSpec)

/-- 'stricklelaw08.CaliperLines', WHERE WHAT IT READS IS OF BULK AT MOST 1048576: true; the input reads as it did. -/
def caliperLinesUptoRow : OpenClaim := { program := "ytgffeapobcfigaagreatdoor", sum := "0cc3f1b10029e28b559cbae283b351e708d4270b5ddd7286393026afd4ede920", func := "strickle/stricklelaw08.CaliperLines", spec := "caliperLines", inPlace := ["internal/abi.NoEscape", "internal/bytealg.MakeNoZero", "internal/bytealg.CountString", "internal/bytealg.IndexByteString", "internal/bytealg.IndexString"], unfollowed := true, recurses := true, named := ["math/bits.deBruijn64tab", "internal/strconv.uint64pow10", "math/bits.deBruijn32tab", "strings.asciiSpace", "unicode.White_Space", "unicode/utf8.first", "unicode/utf8.acceptRanges", "internal/bytealg.MaxLen", "strconv.ErrSyntax", "strconv.ErrRange"], plainKeys := false, apart := false, laid := [("math/bits.deBruijn32tab", laid_math_bits_deBruijn32tab), ("math/bits.deBruijn64tab", laid_math_bits_deBruijn64tab), ("internal/strconv.uint64pow10", laid_internal_strconv_uint64pow10), ("unicode/utf8.acceptRanges", laid_unicode_utf8_acceptRanges), ("strconv.ErrRange", laid_strconv_ErrRange), ("strconv.ErrSyntax", laid_strconv_ErrSyntax), ("unicode.White_Space", laid_unicode_White_Space), ("strings.asciiSpace", laid_strings_asciiSpace), ("unicode/utf8.first", laid_unicode_utf8_first)], narrowed := true }
def CaliperLinesUptoSaid : Prop := caliperLinesUptoRow.holds Tryz.pinned (OpenSpec.upto caliperLinesSpec)

end Rows
end Go.Proofs.YtgffeapobcfigaaGreatDoor
