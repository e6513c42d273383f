/-
  No cell of these rows narrows 'for every input' (looked for: loops, veiled, ifaces, maps, wideKeys, modest, calm, conditions, laid).
  DERIVED. THE GIVEN ROWS OF THIS SEAT. 16 by the template 'for every input the law returns true; each argument reads behind the call as it read before'; 0 by the template 'total and deterministic' (their statements: YtndkkjpgnmahbaaTotals.lean).
  GIVEN WITH THE SEED: the statements are not yours to turn. If you find one false, say at which input.
  Laid BY PROGRAM, IN A SANDBOX (cutbox-rows.mjs): the forced cells as the released guide's own fill.sh prints them over the translation 8217a3abded9168c… (all of the seat's roots in one cut). By AI agents, Wed Nov 11 2026. No macro, syntax, notation, axiom, sorry.
-/
import Derived.Test.YtndkkjpgnmahbaaChecked
import GoSem.Claim
import GoSem.ClaimJoined
import GoSem.ClaimMapViews
import Derived.JoinedTies
import Derived.KernelRfl
namespace Go.Proofs.Ytndkkjpgnmahbaa
/- THE CELL 'sum', in the pinned program and in every row, IS THE sha256 OF THE DUMP (.gsa) THAT YtndkkjpgnmahbaaProg.lean LOADS. Nothing in Lean hashes anything: it is a label: what it is worth is what the hold of that sum in a sandbox is worth. -/
noncomputable def Try.pinned : Pinned := { name := "ytndkkjpgnmahbaa", sum := "8217a3abded9168c0ddc563f5a5a2fcc21168e1e37855979f5f850193a54e23f", checked := Try.checked }
namespace Rows
def none {H : Type} : Left H := { results := [], args := [] }

/-- 'thermionlaw01.FieldSolves': WHATEVER THE INPUT: true; the input reads as it did. -/
def fieldSolvesSpec : ChangeSpec := { name := "fieldSolves", fn := fun _ => fun
  | [d1, d2, d3, d4] => { results := [.lit (.bool true)], args := [d1, d2, d3, d4] }
  | _ => none }
def fieldSolvesRow : OpenClaim := { program := "ytndkkjpgnmahbaa", sum := "8217a3abded9168c0ddc563f5a5a2fcc21168e1e37855979f5f850193a54e23f", func := "thermion/thermionlaw01.FieldSolves", spec := "fieldSolves", unfollowed := true, recurses := true, apart := false }
def FieldSolvesSaid : Prop := fieldSolvesRow.holds Try.pinned (OpenSpec.ofChange fieldSolvesSpec)

/-- ITS FALSE NEIGHBOUR: 'it returns false'. Refute it at one input. -/
def fieldSolvesWrong : ChangeSpec := { name := "fieldSolves", fn := fun _ => fun
  | [d1, d2, d3, d4] => { results := [.lit (.bool false)], args := [d1, d2, d3, d4] }
  | _ => none }
def FieldSolvesWrongFalsely : Prop := fieldSolvesRow.holds Try.pinned (OpenSpec.ofChange fieldSolvesWrong)

/-- 'thermionlaw01.FieldCharges': WHATEVER THE INPUT: true; the input reads as it did. -/
def fieldChargesSpec : ChangeSpec := { name := "fieldCharges", fn := fun _ => fun
  | [d1, d2, d3, d4, d5] => { results := [.lit (.bool true)], args := [d1, d2, d3, d4, d5] }
  | _ => none }
def fieldChargesRow : OpenClaim := { program := "ytndkkjpgnmahbaa", sum := "8217a3abded9168c0ddc563f5a5a2fcc21168e1e37855979f5f850193a54e23f", func := "thermion/thermionlaw01.FieldCharges", spec := "fieldCharges", unfollowed := true, recurses := true, apart := false }
def FieldChargesSaid : Prop := fieldChargesRow.holds Try.pinned (OpenSpec.ofChange fieldChargesSpec)

/-- ITS FALSE NEIGHBOUR: 'it returns false'. Refute it at one input. -/
def fieldChargesWrong : ChangeSpec := { name := "fieldCharges", fn := fun _ => fun
  | [d1, d2, d3, d4, d5] => { results := [.lit (.bool false)], args := [d1, d2, d3, d4, d5] }
  | _ => none }
def FieldChargesWrongFalsely : Prop := fieldChargesRow.holds Try.pinned (OpenSpec.ofChange fieldChargesWrong)

/-- 'thermionlaw01.FieldExact': WHATEVER THE INPUT: true; the input reads as it did. -/
def fieldExactSpec : ChangeSpec := { name := "fieldExact", fn := fun _ => fun
  | [d1, d2] => { results := [.lit (.bool true)], args := [d1, d2] }
  | _ => none }
def fieldExactRow : OpenClaim := { program := "ytndkkjpgnmahbaa", sum := "8217a3abded9168c0ddc563f5a5a2fcc21168e1e37855979f5f850193a54e23f", func := "thermion/thermionlaw01.FieldExact", spec := "fieldExact", unfollowed := true, recurses := true, apart := false }
def FieldExactSaid : Prop := fieldExactRow.holds Try.pinned (OpenSpec.ofChange fieldExactSpec)

/-- ITS FALSE NEIGHBOUR: 'it returns false'. Refute it at one input. -/
def fieldExactWrong : ChangeSpec := { name := "fieldExact", fn := fun _ => fun
  | [d1, d2] => { results := [.lit (.bool false)], args := [d1, d2] }
  | _ => none }
def FieldExactWrongFalsely : Prop := fieldExactRow.holds Try.pinned (OpenSpec.ofChange fieldExactWrong)

/-- 'thermionlaw01.FieldNarrows': WHATEVER THE INPUT: true; the input reads as it did. -/
def fieldNarrowsSpec : ChangeSpec := { name := "fieldNarrows", fn := fun _ => fun
  | [d1, d2, d3] => { results := [.lit (.bool true)], args := [d1, d2, d3] }
  | _ => none }
def fieldNarrowsRow : OpenClaim := { program := "ytndkkjpgnmahbaa", sum := "8217a3abded9168c0ddc563f5a5a2fcc21168e1e37855979f5f850193a54e23f", func := "thermion/thermionlaw01.FieldNarrows", spec := "fieldNarrows", unfollowed := true, recurses := true, apart := false }
def FieldNarrowsSaid : Prop := fieldNarrowsRow.holds Try.pinned (OpenSpec.ofChange fieldNarrowsSpec)

/-- ITS FALSE NEIGHBOUR: 'it returns false'. Refute it at one input. -/
def fieldNarrowsWrong : ChangeSpec := { name := "fieldNarrows", fn := fun _ => fun
  | [d1, d2, d3] => { results := [.lit (.bool false)], args := [d1, d2, d3] }
  | _ => none }
def FieldNarrowsWrongFalsely : Prop := fieldNarrowsRow.holds Try.pinned (OpenSpec.ofChange fieldNarrowsWrong)

/-- 'thermionlaw01.FieldSums': WHATEVER THE INPUT: true; the input reads as it did. -/
def fieldSumsSpec : ChangeSpec := { name := "fieldSums", fn := fun _ => fun
  | [d1, d2, d3] => { results := [.lit (.bool true)], args := [d1, d2, d3] }
  | _ => none }
def fieldSumsRow : OpenClaim := { program := "ytndkkjpgnmahbaa", sum := "8217a3abded9168c0ddc563f5a5a2fcc21168e1e37855979f5f850193a54e23f", func := "thermion/thermionlaw01.FieldSums", spec := "fieldSums", unfollowed := true, recurses := true, apart := false }
def FieldSumsSaid : Prop := fieldSumsRow.holds Try.pinned (OpenSpec.ofChange fieldSumsSpec)

/-- ITS FALSE NEIGHBOUR: 'it returns false'. Refute it at one input. -/
def fieldSumsWrong : ChangeSpec := { name := "fieldSums", fn := fun _ => fun
  | [d1, d2, d3] => { results := [.lit (.bool false)], args := [d1, d2, d3] }
  | _ => none }
def FieldSumsWrongFalsely : Prop := fieldSumsRow.holds Try.pinned (OpenSpec.ofChange fieldSumsWrong)

/-- 'thermionlaw01.FieldMirrors': WHATEVER THE INPUT: true; the input reads as it did. -/
def fieldMirrorsSpec : ChangeSpec := { name := "fieldMirrors", fn := fun _ => fun
  | [d1, d2, d3] => { results := [.lit (.bool true)], args := [d1, d2, d3] }
  | _ => none }
def fieldMirrorsRow : OpenClaim := { program := "ytndkkjpgnmahbaa", sum := "8217a3abded9168c0ddc563f5a5a2fcc21168e1e37855979f5f850193a54e23f", func := "thermion/thermionlaw01.FieldMirrors", spec := "fieldMirrors", unfollowed := true, recurses := true, apart := false }
def FieldMirrorsSaid : Prop := fieldMirrorsRow.holds Try.pinned (OpenSpec.ofChange fieldMirrorsSpec)

/-- ITS FALSE NEIGHBOUR: 'it returns false'. Refute it at one input. -/
def fieldMirrorsWrong : ChangeSpec := { name := "fieldMirrors", fn := fun _ => fun
  | [d1, d2, d3] => { results := [.lit (.bool false)], args := [d1, d2, d3] }
  | _ => none }
def FieldMirrorsWrongFalsely : Prop := fieldMirrorsRow.holds Try.pinned (OpenSpec.ofChange fieldMirrorsWrong)

/-- 'thermionlaw01.FieldKeeps': WHATEVER THE INPUT: true; the input reads as it did. -/
def fieldKeepsSpec : ChangeSpec := { name := "fieldKeeps", fn := fun _ => fun
  | [d1, d2] => { results := [.lit (.bool true)], args := [d1, d2] }
  | _ => none }
def fieldKeepsRow : OpenClaim := { program := "ytndkkjpgnmahbaa", sum := "8217a3abded9168c0ddc563f5a5a2fcc21168e1e37855979f5f850193a54e23f", func := "thermion/thermionlaw01.FieldKeeps", spec := "fieldKeeps", unfollowed := true, recurses := true, apart := false }
def FieldKeepsSaid : Prop := fieldKeepsRow.holds Try.pinned (OpenSpec.ofChange fieldKeepsSpec)

/-- ITS FALSE NEIGHBOUR: 'it returns false'. Refute it at one input. -/
def fieldKeepsWrong : ChangeSpec := { name := "fieldKeeps", fn := fun _ => fun
  | [d1, d2] => { results := [.lit (.bool false)], args := [d1, d2] }
  | _ => none }
def FieldKeepsWrongFalsely : Prop := fieldKeepsRow.holds Try.pinned (OpenSpec.ofChange fieldKeepsWrong)

/-- 'thermionlaw01.FieldSigns': WHATEVER THE INPUT: true; the input reads as it did. -/
def fieldSignsSpec : ChangeSpec := { name := "fieldSigns", fn := fun _ => fun
  | [d1, d2, d3] => { results := [.lit (.bool true)], args := [d1, d2, d3] }
  | _ => none }
def fieldSignsRow : OpenClaim := { program := "ytndkkjpgnmahbaa", sum := "8217a3abded9168c0ddc563f5a5a2fcc21168e1e37855979f5f850193a54e23f", func := "thermion/thermionlaw01.FieldSigns", spec := "fieldSigns", unfollowed := true, recurses := true, apart := false }
def FieldSignsSaid : Prop := fieldSignsRow.holds Try.pinned (OpenSpec.ofChange fieldSignsSpec)

/-- ITS FALSE NEIGHBOUR: 'it returns false'. Refute it at one input. -/
def fieldSignsWrong : ChangeSpec := { name := "fieldSigns", fn := fun _ => fun
  | [d1, d2, d3] => { results := [.lit (.bool false)], args := [d1, d2, d3] }
  | _ => none }
def FieldSignsWrongFalsely : Prop := fieldSignsRow.holds Try.pinned (OpenSpec.ofChange fieldSignsWrong)

/-- 'thermionlaw01.FieldChecks': WHATEVER THE INPUT: true; the input reads as it did. -/
def fieldChecksSpec : ChangeSpec := { name := "fieldChecks", fn := fun _ => fun
  | [d1, d2, d3, d4, d5, d6] => { results := [.lit (.bool true)], args := [d1, d2, d3, d4, d5, d6] }
  | _ => none }
def fieldChecksRow : OpenClaim := { program := "ytndkkjpgnmahbaa", sum := "8217a3abded9168c0ddc563f5a5a2fcc21168e1e37855979f5f850193a54e23f", func := "thermion/thermionlaw01.FieldChecks", spec := "fieldChecks", unfollowed := true, recurses := true, apart := false }
def FieldChecksSaid : Prop := fieldChecksRow.holds Try.pinned (OpenSpec.ofChange fieldChecksSpec)

/-- ITS FALSE NEIGHBOUR: 'it returns false'. Refute it at one input. -/
def fieldChecksWrong : ChangeSpec := { name := "fieldChecks", fn := fun _ => fun
  | [d1, d2, d3, d4, d5, d6] => { results := [.lit (.bool false)], args := [d1, d2, d3, d4, d5, d6] }
  | _ => none }
def FieldChecksWrongFalsely : Prop := fieldChecksRow.holds Try.pinned (OpenSpec.ofChange fieldChecksWrong)

/-- 'thermionlaw01.FieldGoods': WHATEVER THE INPUT: true; the input reads as it did. -/
def fieldGoodsSpec : ChangeSpec := { name := "fieldGoods", fn := fun _ => fun
  | [d1, d2, d3, d4, d5, d6, d7] => { results := [.lit (.bool true)], args := [d1, d2, d3, d4, d5, d6, d7] }
  | _ => none }
def fieldGoodsRow : OpenClaim := { program := "ytndkkjpgnmahbaa", sum := "8217a3abded9168c0ddc563f5a5a2fcc21168e1e37855979f5f850193a54e23f", func := "thermion/thermionlaw01.FieldGoods", spec := "fieldGoods", unfollowed := true, recurses := true, apart := false }
def FieldGoodsSaid : Prop := fieldGoodsRow.holds Try.pinned (OpenSpec.ofChange fieldGoodsSpec)

/-- ITS FALSE NEIGHBOUR: 'it returns false'. Refute it at one input. -/
def fieldGoodsWrong : ChangeSpec := { name := "fieldGoods", fn := fun _ => fun
  | [d1, d2, d3, d4, d5, d6, d7] => { results := [.lit (.bool false)], args := [d1, d2, d3, d4, d5, d6, d7] }
  | _ => none }
def FieldGoodsWrongFalsely : Prop := fieldGoodsRow.holds Try.pinned (OpenSpec.ofChange fieldGoodsWrong)

/-- 'thermionlaw01.FieldBetween': WHATEVER THE INPUT: true; the input reads as it did. -/
def fieldBetweenSpec : ChangeSpec := { name := "fieldBetween", fn := fun _ => fun
  | [d1, d2] => { results := [.lit (.bool true)], args := [d1, d2] }
  | _ => none }
def fieldBetweenRow : OpenClaim := { program := "ytndkkjpgnmahbaa", sum := "8217a3abded9168c0ddc563f5a5a2fcc21168e1e37855979f5f850193a54e23f", func := "thermion/thermionlaw01.FieldBetween", spec := "fieldBetween", unfollowed := true, recurses := true, apart := false }
def FieldBetweenSaid : Prop := fieldBetweenRow.holds Try.pinned (OpenSpec.ofChange fieldBetweenSpec)

/-- ITS FALSE NEIGHBOUR: 'it returns false'. Refute it at one input. -/
def fieldBetweenWrong : ChangeSpec := { name := "fieldBetween", fn := fun _ => fun
  | [d1, d2] => { results := [.lit (.bool false)], args := [d1, d2] }
  | _ => none }
def FieldBetweenWrongFalsely : Prop := fieldBetweenRow.holds Try.pinned (OpenSpec.ofChange fieldBetweenWrong)

/-- 'thermionlaw01.FieldBoth': WHATEVER THE INPUT: true; the input reads as it did. -/
def fieldBothSpec : ChangeSpec := { name := "fieldBoth", fn := fun _ => fun
  | [d1, d2, d3] => { results := [.lit (.bool true)], args := [d1, d2, d3] }
  | _ => none }
def fieldBothRow : OpenClaim := { program := "ytndkkjpgnmahbaa", sum := "8217a3abded9168c0ddc563f5a5a2fcc21168e1e37855979f5f850193a54e23f", func := "thermion/thermionlaw01.FieldBoth", spec := "fieldBoth", unfollowed := true, recurses := true, apart := false }
def FieldBothSaid : Prop := fieldBothRow.holds Try.pinned (OpenSpec.ofChange fieldBothSpec)

/-- ITS FALSE NEIGHBOUR: 'it returns false'. Refute it at one input. -/
def fieldBothWrong : ChangeSpec := { name := "fieldBoth", fn := fun _ => fun
  | [d1, d2, d3] => { results := [.lit (.bool false)], args := [d1, d2, d3] }
  | _ => none }
def FieldBothWrongFalsely : Prop := fieldBothRow.holds Try.pinned (OpenSpec.ofChange fieldBothWrong)

/-- 'thermionlaw01.FieldScreens': WHATEVER THE INPUT: true; the input reads as it did. -/
def fieldScreensSpec : ChangeSpec := { name := "fieldScreens", fn := fun _ => fun
  | [d1, d2, d3] => { results := [.lit (.bool true)], args := [d1, d2, d3] }
  | _ => none }
def fieldScreensRow : OpenClaim := { program := "ytndkkjpgnmahbaa", sum := "8217a3abded9168c0ddc563f5a5a2fcc21168e1e37855979f5f850193a54e23f", func := "thermion/thermionlaw01.FieldScreens", spec := "fieldScreens", unfollowed := true, recurses := true, apart := false }
def FieldScreensSaid : Prop := fieldScreensRow.holds Try.pinned (OpenSpec.ofChange fieldScreensSpec)

/-- ITS FALSE NEIGHBOUR: 'it returns false'. Refute it at one input. -/
def fieldScreensWrong : ChangeSpec := { name := "fieldScreens", fn := fun _ => fun
  | [d1, d2, d3] => { results := [.lit (.bool false)], args := [d1, d2, d3] }
  | _ => none }
def FieldScreensWrongFalsely : Prop := fieldScreensRow.holds Try.pinned (OpenSpec.ofChange fieldScreensWrong)

/-- 'thermionlaw01.FieldInfluences': WHATEVER THE INPUT: true; the input reads as it did. -/
def fieldInfluencesSpec : ChangeSpec := { name := "fieldInfluences", fn := fun _ => fun
  | [d1, d2, d3, d4, d5, d6] => { results := [.lit (.bool true)], args := [d1, d2, d3, d4, d5, d6] }
  | _ => none }
def fieldInfluencesRow : OpenClaim := { program := "ytndkkjpgnmahbaa", sum := "8217a3abded9168c0ddc563f5a5a2fcc21168e1e37855979f5f850193a54e23f", func := "thermion/thermionlaw01.FieldInfluences", spec := "fieldInfluences", unfollowed := true, recurses := true, apart := false }
def FieldInfluencesSaid : Prop := fieldInfluencesRow.holds Try.pinned (OpenSpec.ofChange fieldInfluencesSpec)

/-- ITS FALSE NEIGHBOUR: 'it returns false'. Refute it at one input. -/
def fieldInfluencesWrong : ChangeSpec := { name := "fieldInfluences", fn := fun _ => fun
  | [d1, d2, d3, d4, d5, d6] => { results := [.lit (.bool false)], args := [d1, d2, d3, d4, d5, d6] }
  | _ => none }
def FieldInfluencesWrongFalsely : Prop := fieldInfluencesRow.holds Try.pinned (OpenSpec.ofChange fieldInfluencesWrong)

/-- 'thermionlaw01.FieldShifts': WHATEVER THE INPUT: true; the input reads as it did. -/
def fieldShiftsSpec : ChangeSpec := { name := "fieldShifts", fn := fun _ => fun
  | [d1, d2, d3, d4, d5, d6] => { results := [.lit (.bool true)], args := [d1, d2, d3, d4, d5, d6] }
  | _ => none }
def fieldShiftsRow : OpenClaim := { program := "ytndkkjpgnmahbaa", sum := "8217a3abded9168c0ddc563f5a5a2fcc21168e1e37855979f5f850193a54e23f", func := "thermion/thermionlaw01.FieldShifts", spec := "fieldShifts", unfollowed := true, recurses := true, apart := false }
def FieldShiftsSaid : Prop := fieldShiftsRow.holds Try.pinned (OpenSpec.ofChange fieldShiftsSpec)

/-- ITS FALSE NEIGHBOUR: 'it returns false'. Refute it at one input. -/
def fieldShiftsWrong : ChangeSpec := { name := "fieldShifts", fn := fun _ => fun
  | [d1, d2, d3, d4, d5, d6] => { results := [.lit (.bool false)], args := [d1, d2, d3, d4, d5, d6] }
  | _ => none }
def FieldShiftsWrongFalsely : Prop := fieldShiftsRow.holds Try.pinned (OpenSpec.ofChange fieldShiftsWrong)

/-- 'thermionlaw01.FieldReturns': WHATEVER THE INPUT: true; the input reads as it did. -/
def fieldReturnsSpec : ChangeSpec := { name := "fieldReturns", fn := fun _ => fun
  | [d1, d2, d3, d4, d5] => { results := [.lit (.bool true)], args := [d1, d2, d3, d4, d5] }
  | _ => none }
def fieldReturnsRow : OpenClaim := { program := "ytndkkjpgnmahbaa", sum := "8217a3abded9168c0ddc563f5a5a2fcc21168e1e37855979f5f850193a54e23f", func := "thermion/thermionlaw01.FieldReturns", spec := "fieldReturns", unfollowed := true, recurses := true, apart := false }
def FieldReturnsSaid : Prop := fieldReturnsRow.holds Try.pinned (OpenSpec.ofChange fieldReturnsSpec)

/-- ITS FALSE NEIGHBOUR: 'it returns false'. Refute it at one input. -/
def fieldReturnsWrong : ChangeSpec := { name := "fieldReturns", fn := fun _ => fun
  | [d1, d2, d3, d4, d5] => { results := [.lit (.bool false)], args := [d1, d2, d3, d4, d5] }
  | _ => none }
def FieldReturnsWrongFalsely : Prop := fieldReturnsRow.holds Try.pinned (OpenSpec.ofChange fieldReturnsWrong)

/- THE SECOND FORM. 'bulk': how many values and letters a reading holds, each counted each time it is reached (what is shared counts as often as it is met; a slice's spare places count too). A statement '..UptoSaid' is the law's where the arguments, and the package variables that the reading takes, are together of bulk at most 1048576: NARROWER than '..Said'. Prove '..Said' where nothing that the law and all that it calls make is longer than what came in: it says more and counts as full. Else prove '..UptoSaid'. A law counts once. -/
mutual
def uptoBulk {H : Type} : DataW H → Nat
  | .lit (.string bytes) => bytes.length + 1
  | .lit _ => 1
  | .nil => 1
  | .ptr d => uptoBulk d + 1
  | .slice elems spare => uptoBulkAll elems + uptoBulkAll spare + 1
  | .agg parts => uptoBulkAll parts + 1
  | .iface _ d => uptoBulk d + 1
  | .map entries => uptoBulkEntries entries + 1
  | .held _ => 1
def uptoBulkAll {H : Type} : List (DataW H) → Nat
  | [] => 0
  | d :: r => uptoBulk d + uptoBulkAll r
def uptoBulkEntries {H : Type} : List (Lit × DataW H) → Nat
  | [] => 0
  | x :: r => uptoBulkEntry x + uptoBulkEntries r
def uptoBulkEntry {H : Type} : Lit × DataW H → Nat
  | (.string bytes, d) => bytes.length + uptoBulk d + 1
  | (_, d) => uptoBulk d + 1
 end
def uptoSmall : (H : Type) → List (DataW H) → Bool := fun _ ds => decide (uptoBulkAll ds ≤ 1048576)
def OpenSpec.upto (s : _root_.Go.ChangeSpec) : _root_.Go.OpenSpec := { _root_.Go.OpenSpec.ofChange s with cond := some uptoSmall }

/-- 'thermionlaw01.FieldSolves', WHERE WHAT IT READS IS OF BULK AT MOST 1048576: true; the input reads as it did. -/
def fieldSolvesUptoRow : OpenClaim := { program := "ytndkkjpgnmahbaa", sum := "8217a3abded9168c0ddc563f5a5a2fcc21168e1e37855979f5f850193a54e23f", func := "thermion/thermionlaw01.FieldSolves", spec := "fieldSolves", unfollowed := true, recurses := true, apart := false, narrowed := true }
def FieldSolvesUptoSaid : Prop := fieldSolvesUptoRow.holds Try.pinned (OpenSpec.upto fieldSolvesSpec)

/-- 'thermionlaw01.FieldCharges', WHERE WHAT IT READS IS OF BULK AT MOST 1048576: true; the input reads as it did. -/
def fieldChargesUptoRow : OpenClaim := { program := "ytndkkjpgnmahbaa", sum := "8217a3abded9168c0ddc563f5a5a2fcc21168e1e37855979f5f850193a54e23f", func := "thermion/thermionlaw01.FieldCharges", spec := "fieldCharges", unfollowed := true, recurses := true, apart := false, narrowed := true }
def FieldChargesUptoSaid : Prop := fieldChargesUptoRow.holds Try.pinned (OpenSpec.upto fieldChargesSpec)

/-- 'thermionlaw01.FieldExact', WHERE WHAT IT READS IS OF BULK AT MOST 1048576: true; the input reads as it did. -/
def fieldExactUptoRow : OpenClaim := { program := "ytndkkjpgnmahbaa", sum := "8217a3abded9168c0ddc563f5a5a2fcc21168e1e37855979f5f850193a54e23f", func := "thermion/thermionlaw01.FieldExact", spec := "fieldExact", unfollowed := true, recurses := true, apart := false, narrowed := true }
def FieldExactUptoSaid : Prop := fieldExactUptoRow.holds Try.pinned (OpenSpec.upto fieldExactSpec)

/-- 'thermionlaw01.FieldNarrows', WHERE WHAT IT READS IS OF BULK AT MOST 1048576: true; the input reads as it did. -/
def fieldNarrowsUptoRow : OpenClaim := { program := "ytndkkjpgnmahbaa", sum := "8217a3abded9168c0ddc563f5a5a2fcc21168e1e37855979f5f850193a54e23f", func := "thermion/thermionlaw01.FieldNarrows", spec := "fieldNarrows", unfollowed := true, recurses := true, apart := false, narrowed := true }
def FieldNarrowsUptoSaid : Prop := fieldNarrowsUptoRow.holds Try.pinned (OpenSpec.upto fieldNarrowsSpec)

/-- 'thermionlaw01.FieldSums', WHERE WHAT IT READS IS OF BULK AT MOST 1048576: true; the input reads as it did. -/
def fieldSumsUptoRow : OpenClaim := { program := "ytndkkjpgnmahbaa", sum := "8217a3abded9168c0ddc563f5a5a2fcc21168e1e37855979f5f850193a54e23f", func := "thermion/thermionlaw01.FieldSums", spec := "fieldSums", unfollowed := true, recurses := true, apart := false, narrowed := true }
def FieldSumsUptoSaid : Prop := fieldSumsUptoRow.holds Try.pinned (OpenSpec.upto fieldSumsSpec)

/-- 'thermionlaw01.FieldMirrors', WHERE WHAT IT READS IS OF BULK AT MOST 1048576: true; the input reads as it did. -/
def fieldMirrorsUptoRow : OpenClaim := { program := "ytndkkjpgnmahbaa", sum := "8217a3abded9168c0ddc563f5a5a2fcc21168e1e37855979f5f850193a54e23f", func := "thermion/thermionlaw01.FieldMirrors", spec := "fieldMirrors", unfollowed := true, recurses := true, apart := false, narrowed := true }
def FieldMirrorsUptoSaid : Prop := fieldMirrorsUptoRow.holds Try.pinned (OpenSpec.upto fieldMirrorsSpec)

/-- 'thermionlaw01.FieldKeeps', WHERE WHAT IT READS IS OF BULK AT MOST 1048576: true; the input reads as it did. -/
def fieldKeepsUptoRow : OpenClaim := { program := "ytndkkjpgnmahbaa", sum := "8217a3abded9168c0ddc563f5a5a2fcc21168e1e37855979f5f850193a54e23f", func := "thermion/thermionlaw01.FieldKeeps", spec := "fieldKeeps", unfollowed := true, recurses := true, apart := false, narrowed := true }
def FieldKeepsUptoSaid : Prop := fieldKeepsUptoRow.holds Try.pinned (OpenSpec.upto fieldKeepsSpec)

/-- 'thermionlaw01.FieldSigns', WHERE WHAT IT READS IS OF BULK AT MOST 1048576: true; the input reads as it did. -/
def fieldSignsUptoRow : OpenClaim := { program := "ytndkkjpgnmahbaa", sum := "8217a3abded9168c0ddc563f5a5a2fcc21168e1e37855979f5f850193a54e23f", func := "thermion/thermionlaw01.FieldSigns", spec := "fieldSigns", unfollowed := true, recurses := true, apart := false, narrowed := true }
def FieldSignsUptoSaid : Prop := fieldSignsUptoRow.holds Try.pinned (OpenSpec.upto fieldSignsSpec)

/-- 'thermionlaw01.FieldChecks', WHERE WHAT IT READS IS OF BULK AT MOST 1048576: true; the input reads as it did. -/
def fieldChecksUptoRow : OpenClaim := { program := "ytndkkjpgnmahbaa", sum := "8217a3abded9168c0ddc563f5a5a2fcc21168e1e37855979f5f850193a54e23f", func := "thermion/thermionlaw01.FieldChecks", spec := "fieldChecks", unfollowed := true, recurses := true, apart := false, narrowed := true }
def FieldChecksUptoSaid : Prop := fieldChecksUptoRow.holds Try.pinned (OpenSpec.upto fieldChecksSpec)

/-- 'thermionlaw01.FieldGoods', WHERE WHAT IT READS IS OF BULK AT MOST 1048576: true; the input reads as it did. -/
def fieldGoodsUptoRow : OpenClaim := { program := "ytndkkjpgnmahbaa", sum := "8217a3abded9168c0ddc563f5a5a2fcc21168e1e37855979f5f850193a54e23f", func := "thermion/thermionlaw01.FieldGoods", spec := "fieldGoods", unfollowed := true, recurses := true, apart := false, narrowed := true }
def FieldGoodsUptoSaid : Prop := fieldGoodsUptoRow.holds Try.pinned (OpenSpec.upto fieldGoodsSpec)

/-- 'thermionlaw01.FieldBetween', WHERE WHAT IT READS IS OF BULK AT MOST 1048576: true; the input reads as it did. -/
def fieldBetweenUptoRow : OpenClaim := { program := "ytndkkjpgnmahbaa", sum := "8217a3abded9168c0ddc563f5a5a2fcc21168e1e37855979f5f850193a54e23f", func := "thermion/thermionlaw01.FieldBetween", spec := "fieldBetween", unfollowed := true, recurses := true, apart := false, narrowed := true }
def FieldBetweenUptoSaid : Prop := fieldBetweenUptoRow.holds Try.pinned (OpenSpec.upto fieldBetweenSpec)

/-- 'thermionlaw01.FieldBoth', WHERE WHAT IT READS IS OF BULK AT MOST 1048576: true; the input reads as it did. -/
def fieldBothUptoRow : OpenClaim := { program := "ytndkkjpgnmahbaa", sum := "8217a3abded9168c0ddc563f5a5a2fcc21168e1e37855979f5f850193a54e23f", func := "thermion/thermionlaw01.FieldBoth", spec := "fieldBoth", unfollowed := true, recurses := true, apart := false, narrowed := true }
def FieldBothUptoSaid : Prop := fieldBothUptoRow.holds Try.pinned (OpenSpec.upto fieldBothSpec)

/-- 'thermionlaw01.FieldScreens', WHERE WHAT IT READS IS OF BULK AT MOST 1048576: true; the input reads as it did. -/
def fieldScreensUptoRow : OpenClaim := { program := "ytndkkjpgnmahbaa", sum := "8217a3abded9168c0ddc563f5a5a2fcc21168e1e37855979f5f850193a54e23f", func := "thermion/thermionlaw01.FieldScreens", spec := "fieldScreens", unfollowed := true, recurses := true, apart := false, narrowed := true }
def FieldScreensUptoSaid : Prop := fieldScreensUptoRow.holds Try.pinned (OpenSpec.upto fieldScreensSpec)

/-- 'thermionlaw01.FieldInfluences', WHERE WHAT IT READS IS OF BULK AT MOST 1048576: true; the input reads as it did. -/
def fieldInfluencesUptoRow : OpenClaim := { program := "ytndkkjpgnmahbaa", sum := "8217a3abded9168c0ddc563f5a5a2fcc21168e1e37855979f5f850193a54e23f", func := "thermion/thermionlaw01.FieldInfluences", spec := "fieldInfluences", unfollowed := true, recurses := true, apart := false, narrowed := true }
def FieldInfluencesUptoSaid : Prop := fieldInfluencesUptoRow.holds Try.pinned (OpenSpec.upto fieldInfluencesSpec)

/-- 'thermionlaw01.FieldShifts', WHERE WHAT IT READS IS OF BULK AT MOST 1048576: true; the input reads as it did. -/
def fieldShiftsUptoRow : OpenClaim := { program := "ytndkkjpgnmahbaa", sum := "8217a3abded9168c0ddc563f5a5a2fcc21168e1e37855979f5f850193a54e23f", func := "thermion/thermionlaw01.FieldShifts", spec := "fieldShifts", unfollowed := true, recurses := true, apart := false, narrowed := true }
def FieldShiftsUptoSaid : Prop := fieldShiftsUptoRow.holds Try.pinned (OpenSpec.upto fieldShiftsSpec)

/-- 'thermionlaw01.FieldReturns', WHERE WHAT IT READS IS OF BULK AT MOST 1048576: true; the input reads as it did. -/
def fieldReturnsUptoRow : OpenClaim := { program := "ytndkkjpgnmahbaa", sum := "8217a3abded9168c0ddc563f5a5a2fcc21168e1e37855979f5f850193a54e23f", func := "thermion/thermionlaw01.FieldReturns", spec := "fieldReturns", unfollowed := true, recurses := true, apart := false, narrowed := true }
def FieldReturnsUptoSaid : Prop := fieldReturnsUptoRow.holds Try.pinned (OpenSpec.upto fieldReturnsSpec)

end Rows
end Go.Proofs.Ytndkkjpgnmahbaa
