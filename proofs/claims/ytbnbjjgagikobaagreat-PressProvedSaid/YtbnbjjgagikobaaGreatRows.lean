/-
  No cell of these rows narrows 'for every input' (looked for: loops, veiled, ifaces, maps, wideKeys, modest, calm, conditions, laid).
  DERIVED. THE GIVEN ROWS OF THIS SEAT. 13 by the template 'for every input the law returns true; each argument reads behind the call as it read before'; 0 by the template 'total and deterministic' (their statements: YtbnbjjgagikobaaGreatTotals.lean).
  GIVEN WITH THE SEED: the statements are not yours to turn. If you find one false, say at which input.
  Laid BY PROGRAM, IN A SANDBOX (cutbox-rows.mjs): the forced cells as the released guide's own fill.sh prints them over the translation 01e889a8119608ac… (all of the seat's roots in one cut). By AI agents, Wed Nov 11 2026. No macro, syntax, notation, axiom, sorry.
-/
import Derived.Test.YtbnbjjgagikobaaGreatChecked
import GoSem.Claim
import GoSem.ClaimJoined
import GoSem.ClaimMapViews
import Derived.JoinedTies
import Derived.KernelRfl
namespace Go.Proofs.YtbnbjjgagikobaaGreat
/- THE CELL 'sum', in the pinned program and in every row, IS THE sha256 OF THE DUMP (.gsa) THAT YtbnbjjgagikobaaGreatProg.lean LOADS. Nothing in Lean hashes anything: it is a label: what it is worth is what the hold of that sum in a sandbox is worth. -/
noncomputable def Tryz.pinned : Pinned := { name := "ytbnbjjgagikobaagreat", sum := "01e889a8119608acb543ae6d01b98c43e92dbaaaa18886f039ded94d5775ba37", checked := Tryz.checked }
namespace Rows
def none {H : Type} : Left H := { results := [], args := [] }

/-- 'crossbandlaw08.PressBeds': WHATEVER THE INPUT: true; the input reads as it did. -/
def pressBedsSpec : ChangeSpec := { name := "pressBeds", fn := fun _ => fun
  | [d1, d2] => { results := [.lit (.bool true)], args := [d1, d2] }
  | _ => none }
def pressBedsRow : OpenClaim := { program := "ytbnbjjgagikobaagreat", sum := "01e889a8119608acb543ae6d01b98c43e92dbaaaa18886f039ded94d5775ba37", func := "crossband/crossbandlaw08.PressBeds", spec := "pressBeds", unfollowed := true, recurses := true, plainKeys := false, apart := false }
def PressBedsSaid : Prop := pressBedsRow.holds Tryz.pinned (OpenSpec.ofChange pressBedsSpec)

/-- ITS FALSE NEIGHBOUR: 'it returns false'. Refute it at one input. -/
def pressBedsWrong : ChangeSpec := { name := "pressBeds", fn := fun _ => fun
  | [d1, d2] => { results := [.lit (.bool false)], args := [d1, d2] }
  | _ => none }
def PressBedsWrongFalsely : Prop := pressBedsRow.holds Tryz.pinned (OpenSpec.ofChange pressBedsWrong)

/-- 'crossbandlaw08.PressTurns': WHATEVER THE INPUT: true; the input reads as it did. -/
def pressTurnsSpec : ChangeSpec := { name := "pressTurns", fn := fun _ => fun
  | [d1, d2, d3] => { results := [.lit (.bool true)], args := [d1, d2, d3] }
  | _ => none }
def pressTurnsRow : OpenClaim := { program := "ytbnbjjgagikobaagreat", sum := "01e889a8119608acb543ae6d01b98c43e92dbaaaa18886f039ded94d5775ba37", func := "crossband/crossbandlaw08.PressTurns", spec := "pressTurns", unfollowed := true, recurses := true, plainKeys := false, apart := false }
def PressTurnsSaid : Prop := pressTurnsRow.holds Tryz.pinned (OpenSpec.ofChange pressTurnsSpec)

/-- ITS FALSE NEIGHBOUR: 'it returns false'. Refute it at one input. -/
def pressTurnsWrong : ChangeSpec := { name := "pressTurns", fn := fun _ => fun
  | [d1, d2, d3] => { results := [.lit (.bool false)], args := [d1, d2, d3] }
  | _ => none }
def PressTurnsWrongFalsely : Prop := pressTurnsRow.holds Tryz.pinned (OpenSpec.ofChange pressTurnsWrong)

/-- 'crossbandlaw08.PressBests': WHATEVER THE INPUT: true; the input reads as it did. -/
def pressBestsSpec : ChangeSpec := { name := "pressBests", fn := fun _ => fun
  | [d1, d2] => { results := [.lit (.bool true)], args := [d1, d2] }
  | _ => none }
def pressBestsRow : OpenClaim := { program := "ytbnbjjgagikobaagreat", sum := "01e889a8119608acb543ae6d01b98c43e92dbaaaa18886f039ded94d5775ba37", func := "crossband/crossbandlaw08.PressBests", spec := "pressBests", unfollowed := true, recurses := true, plainKeys := false, apart := false }
def PressBestsSaid : Prop := pressBestsRow.holds Tryz.pinned (OpenSpec.ofChange pressBestsSpec)

/-- ITS FALSE NEIGHBOUR: 'it returns false'. Refute it at one input. -/
def pressBestsWrong : ChangeSpec := { name := "pressBests", fn := fun _ => fun
  | [d1, d2] => { results := [.lit (.bool false)], args := [d1, d2] }
  | _ => none }
def PressBestsWrongFalsely : Prop := pressBestsRow.holds Tryz.pinned (OpenSpec.ofChange pressBestsWrong)

/-- 'crossbandlaw08.PressMarks': WHATEVER THE INPUT: true; the input reads as it did. -/
def pressMarksSpec : ChangeSpec := { name := "pressMarks", fn := fun _ => fun
  | [d1, d2, d3, d4] => { results := [.lit (.bool true)], args := [d1, d2, d3, d4] }
  | _ => none }
def pressMarksRow : OpenClaim := { program := "ytbnbjjgagikobaagreat", sum := "01e889a8119608acb543ae6d01b98c43e92dbaaaa18886f039ded94d5775ba37", func := "crossband/crossbandlaw08.PressMarks", spec := "pressMarks", unfollowed := true, recurses := true, plainKeys := false, apart := false }
def PressMarksSaid : Prop := pressMarksRow.holds Tryz.pinned (OpenSpec.ofChange pressMarksSpec)

/-- ITS FALSE NEIGHBOUR: 'it returns false'. Refute it at one input. -/
def pressMarksWrong : ChangeSpec := { name := "pressMarks", fn := fun _ => fun
  | [d1, d2, d3, d4] => { results := [.lit (.bool false)], args := [d1, d2, d3, d4] }
  | _ => none }
def PressMarksWrongFalsely : Prop := pressMarksRow.holds Tryz.pinned (OpenSpec.ofChange pressMarksWrong)

/-- 'crossbandlaw08.PressProved': WHATEVER THE INPUT: true; the input reads as it did. -/
def pressProvedSpec : ChangeSpec := { name := "pressProved", fn := fun _ => fun
  | [d1, d2, d3, d4] => { results := [.lit (.bool true)], args := [d1, d2, d3, d4] }
  | _ => none }
def pressProvedRow : OpenClaim := { program := "ytbnbjjgagikobaagreat", sum := "01e889a8119608acb543ae6d01b98c43e92dbaaaa18886f039ded94d5775ba37", func := "crossband/crossbandlaw08.PressProved", spec := "pressProved", unfollowed := true, recurses := true, plainKeys := false, apart := false }
def PressProvedSaid : Prop := pressProvedRow.holds Tryz.pinned (OpenSpec.ofChange pressProvedSpec)

/-- ITS FALSE NEIGHBOUR: 'it returns false'. Refute it at one input. -/
def pressProvedWrong : ChangeSpec := { name := "pressProved", fn := fun _ => fun
  | [d1, d2, d3, d4] => { results := [.lit (.bool false)], args := [d1, d2, d3, d4] }
  | _ => none }
def PressProvedWrongFalsely : Prop := pressProvedRow.holds Tryz.pinned (OpenSpec.ofChange pressProvedWrong)

/-- 'crossbandlaw08.PressWay': WHATEVER THE INPUT: true; the input reads as it did. -/
def pressWaySpec : ChangeSpec := { name := "pressWay", fn := fun _ => fun
  | [d1, d2, d3] => { results := [.lit (.bool true)], args := [d1, d2, d3] }
  | _ => none }
def pressWayRow : OpenClaim := { program := "ytbnbjjgagikobaagreat", sum := "01e889a8119608acb543ae6d01b98c43e92dbaaaa18886f039ded94d5775ba37", func := "crossband/crossbandlaw08.PressWay", spec := "pressWay", unfollowed := true, recurses := true, plainKeys := false, apart := false }
def PressWaySaid : Prop := pressWayRow.holds Tryz.pinned (OpenSpec.ofChange pressWaySpec)

/-- ITS FALSE NEIGHBOUR: 'it returns false'. Refute it at one input. -/
def pressWayWrong : ChangeSpec := { name := "pressWay", fn := fun _ => fun
  | [d1, d2, d3] => { results := [.lit (.bool false)], args := [d1, d2, d3] }
  | _ => none }
def PressWayWrongFalsely : Prop := pressWayRow.holds Tryz.pinned (OpenSpec.ofChange pressWayWrong)

/-- 'crossbandlaw08.PressHeats': WHATEVER THE INPUT: true; the input reads as it did. -/
def pressHeatsSpec : ChangeSpec := { name := "pressHeats", fn := fun _ => fun
  | [d1, d2] => { results := [.lit (.bool true)], args := [d1, d2] }
  | _ => none }
def pressHeatsRow : OpenClaim := { program := "ytbnbjjgagikobaagreat", sum := "01e889a8119608acb543ae6d01b98c43e92dbaaaa18886f039ded94d5775ba37", func := "crossband/crossbandlaw08.PressHeats", spec := "pressHeats", unfollowed := true, recurses := true, plainKeys := false, apart := false }
def PressHeatsSaid : Prop := pressHeatsRow.holds Tryz.pinned (OpenSpec.ofChange pressHeatsSpec)

/-- ITS FALSE NEIGHBOUR: 'it returns false'. Refute it at one input. -/
def pressHeatsWrong : ChangeSpec := { name := "pressHeats", fn := fun _ => fun
  | [d1, d2] => { results := [.lit (.bool false)], args := [d1, d2] }
  | _ => none }
def PressHeatsWrongFalsely : Prop := pressHeatsRow.holds Tryz.pinned (OpenSpec.ofChange pressHeatsWrong)

/-- 'crossbandlaw08.PressMore': WHATEVER THE INPUT: true; the input reads as it did. -/
def pressMoreSpec : ChangeSpec := { name := "pressMore", fn := fun _ => fun
  | [d1, d2, d3, d4, d5] => { results := [.lit (.bool true)], args := [d1, d2, d3, d4, d5] }
  | _ => none }
def pressMoreRow : OpenClaim := { program := "ytbnbjjgagikobaagreat", sum := "01e889a8119608acb543ae6d01b98c43e92dbaaaa18886f039ded94d5775ba37", func := "crossband/crossbandlaw08.PressMore", spec := "pressMore", unfollowed := true, recurses := true, plainKeys := false, apart := false }
def PressMoreSaid : Prop := pressMoreRow.holds Tryz.pinned (OpenSpec.ofChange pressMoreSpec)

/-- ITS FALSE NEIGHBOUR: 'it returns false'. Refute it at one input. -/
def pressMoreWrong : ChangeSpec := { name := "pressMore", fn := fun _ => fun
  | [d1, d2, d3, d4, d5] => { results := [.lit (.bool false)], args := [d1, d2, d3, d4, d5] }
  | _ => none }
def PressMoreWrongFalsely : Prop := pressMoreRow.holds Tryz.pinned (OpenSpec.ofChange pressMoreWrong)

/-- 'crossbandlaw08.PressOpenings': WHATEVER THE INPUT: true; the input reads as it did. -/
def pressOpeningsSpec : ChangeSpec := { name := "pressOpenings", fn := fun _ => fun
  | [d1, d2] => { results := [.lit (.bool true)], args := [d1, d2] }
  | _ => none }
def pressOpeningsRow : OpenClaim := { program := "ytbnbjjgagikobaagreat", sum := "01e889a8119608acb543ae6d01b98c43e92dbaaaa18886f039ded94d5775ba37", func := "crossband/crossbandlaw08.PressOpenings", spec := "pressOpenings", unfollowed := true, recurses := true, plainKeys := false, apart := false }
def PressOpeningsSaid : Prop := pressOpeningsRow.holds Tryz.pinned (OpenSpec.ofChange pressOpeningsSpec)

/-- ITS FALSE NEIGHBOUR: 'it returns false'. Refute it at one input. -/
def pressOpeningsWrong : ChangeSpec := { name := "pressOpenings", fn := fun _ => fun
  | [d1, d2] => { results := [.lit (.bool false)], args := [d1, d2] }
  | _ => none }
def PressOpeningsWrongFalsely : Prop := pressOpeningsRow.holds Tryz.pinned (OpenSpec.ofChange pressOpeningsWrong)

/-- 'crossbandlaw08.PressNeeded': WHATEVER THE INPUT: true; the input reads as it did. -/
def pressNeededSpec : ChangeSpec := { name := "pressNeeded", fn := fun _ => fun
  | [d1, d2, d3] => { results := [.lit (.bool true)], args := [d1, d2, d3] }
  | _ => none }
def pressNeededRow : OpenClaim := { program := "ytbnbjjgagikobaagreat", sum := "01e889a8119608acb543ae6d01b98c43e92dbaaaa18886f039ded94d5775ba37", func := "crossband/crossbandlaw08.PressNeeded", spec := "pressNeeded", unfollowed := true, recurses := true, plainKeys := false, apart := false }
def PressNeededSaid : Prop := pressNeededRow.holds Tryz.pinned (OpenSpec.ofChange pressNeededSpec)

/-- ITS FALSE NEIGHBOUR: 'it returns false'. Refute it at one input. -/
def pressNeededWrong : ChangeSpec := { name := "pressNeeded", fn := fun _ => fun
  | [d1, d2, d3] => { results := [.lit (.bool false)], args := [d1, d2, d3] }
  | _ => none }
def PressNeededWrongFalsely : Prop := pressNeededRow.holds Tryz.pinned (OpenSpec.ofChange pressNeededWrong)

/-- 'crossbandlaw08.PressScaled': WHATEVER THE INPUT: true; the input reads as it did. -/
def pressScaledSpec : ChangeSpec := { name := "pressScaled", fn := fun _ => fun
  | [d1, d2, d3, d4] => { results := [.lit (.bool true)], args := [d1, d2, d3, d4] }
  | _ => none }
def pressScaledRow : OpenClaim := { program := "ytbnbjjgagikobaagreat", sum := "01e889a8119608acb543ae6d01b98c43e92dbaaaa18886f039ded94d5775ba37", func := "crossband/crossbandlaw08.PressScaled", spec := "pressScaled", unfollowed := true, recurses := true, plainKeys := false, apart := false }
def PressScaledSaid : Prop := pressScaledRow.holds Tryz.pinned (OpenSpec.ofChange pressScaledSpec)

/-- ITS FALSE NEIGHBOUR: 'it returns false'. Refute it at one input. -/
def pressScaledWrong : ChangeSpec := { name := "pressScaled", fn := fun _ => fun
  | [d1, d2, d3, d4] => { results := [.lit (.bool false)], args := [d1, d2, d3, d4] }
  | _ => none }
def PressScaledWrongFalsely : Prop := pressScaledRow.holds Tryz.pinned (OpenSpec.ofChange pressScaledWrong)

/-- 'crossbandlaw08.PressDone': WHATEVER THE INPUT: true; the input reads as it did. -/
def pressDoneSpec : ChangeSpec := { name := "pressDone", fn := fun _ => fun
  | [d1, d2, d3] => { results := [.lit (.bool true)], args := [d1, d2, d3] }
  | _ => none }
def pressDoneRow : OpenClaim := { program := "ytbnbjjgagikobaagreat", sum := "01e889a8119608acb543ae6d01b98c43e92dbaaaa18886f039ded94d5775ba37", func := "crossband/crossbandlaw08.PressDone", spec := "pressDone", unfollowed := true, recurses := true, plainKeys := false, apart := false }
def PressDoneSaid : Prop := pressDoneRow.holds Tryz.pinned (OpenSpec.ofChange pressDoneSpec)

/-- ITS FALSE NEIGHBOUR: 'it returns false'. Refute it at one input. -/
def pressDoneWrong : ChangeSpec := { name := "pressDone", fn := fun _ => fun
  | [d1, d2, d3] => { results := [.lit (.bool false)], args := [d1, d2, d3] }
  | _ => none }
def PressDoneWrongFalsely : Prop := pressDoneRow.holds Tryz.pinned (OpenSpec.ofChange pressDoneWrong)

/-- 'crossbandlaw08.PressKnown': WHATEVER THE INPUT: true; the input reads as it did. -/
def pressKnownSpec : ChangeSpec := { name := "pressKnown", fn := fun _ => fun
  | [] => { results := [.lit (.bool true)], args := [] }
  | _ => none }
def pressKnownRow : OpenClaim := { program := "ytbnbjjgagikobaagreat", sum := "01e889a8119608acb543ae6d01b98c43e92dbaaaa18886f039ded94d5775ba37", func := "crossband/crossbandlaw08.PressKnown", spec := "pressKnown", unfollowed := true, recurses := true, plainKeys := false, apart := false }
def PressKnownSaid : Prop := pressKnownRow.holds Tryz.pinned (OpenSpec.ofChange pressKnownSpec)

/-- ITS FALSE NEIGHBOUR: 'it returns false'. Refute it at one input. -/
def pressKnownWrong : ChangeSpec := { name := "pressKnown", fn := fun _ => fun
  | [] => { results := [.lit (.bool false)], args := [] }
  | _ => none }
def PressKnownWrongFalsely : Prop := pressKnownRow.holds Tryz.pinned (OpenSpec.ofChange pressKnownWrong)

/- THE SECOND FORM. 'bulk': how many values and letters a reading holds, each counted each time it is reached (what is shared counts as often as it is met; a slice's spare places count too). A statement '..UptoSaid' is the law's where the arguments, and the package variables that the reading takes, are together of bulk at most 1048576: NARROWER than '..Said'. Prove '..Said' where nothing that the law and all that it calls make is longer than what came in: it says more and counts as full. Else prove '..UptoSaid'. A law counts once. -/
mutual
def uptoBulk {H : Type} : DataW H → Nat
  | .lit (.string bytes) => bytes.length + 1
  | .lit _ => 1
  | .nil => 1
  | .ptr d => uptoBulk d + 1
  | .slice elems spare => uptoBulkAll elems + uptoBulkAll spare + 1
  | .agg parts => uptoBulkAll parts + 1
  | .iface _ d => uptoBulk d + 1
  | .map entries => uptoBulkEntries entries + 1
  | .held _ => 1
def uptoBulkAll {H : Type} : List (DataW H) → Nat
  | [] => 0
  | d :: r => uptoBulk d + uptoBulkAll r
def uptoBulkEntries {H : Type} : List (Lit × DataW H) → Nat
  | [] => 0
  | x :: r => uptoBulkEntry x + uptoBulkEntries r
def uptoBulkEntry {H : Type} : Lit × DataW H → Nat
  | (.string bytes, d) => bytes.length + uptoBulk d + 1
  | (_, d) => uptoBulk d + 1
 end
def uptoSmall : (H : Type) → List (DataW H) → Bool := fun _ ds => decide (uptoBulkAll ds ≤ 1048576)
def OpenSpec.upto (s : _root_.Go.ChangeSpec) : _root_.Go.OpenSpec := { _root_.Go.OpenSpec.ofChange s with cond := some uptoSmall }

/-- 'crossbandlaw08.PressBeds', WHERE WHAT IT READS IS OF BULK AT MOST 1048576: true; the input reads as it did. -/
def pressBedsUptoRow : OpenClaim := { program := "ytbnbjjgagikobaagreat", sum := "01e889a8119608acb543ae6d01b98c43e92dbaaaa18886f039ded94d5775ba37", func := "crossband/crossbandlaw08.PressBeds", spec := "pressBeds", unfollowed := true, recurses := true, plainKeys := false, apart := false, narrowed := true }
def PressBedsUptoSaid : Prop := pressBedsUptoRow.holds Tryz.pinned (OpenSpec.upto pressBedsSpec)

/-- 'crossbandlaw08.PressTurns', WHERE WHAT IT READS IS OF BULK AT MOST 1048576: true; the input reads as it did. -/
def pressTurnsUptoRow : OpenClaim := { program := "ytbnbjjgagikobaagreat", sum := "01e889a8119608acb543ae6d01b98c43e92dbaaaa18886f039ded94d5775ba37", func := "crossband/crossbandlaw08.PressTurns", spec := "pressTurns", unfollowed := true, recurses := true, plainKeys := false, apart := false, narrowed := true }
def PressTurnsUptoSaid : Prop := pressTurnsUptoRow.holds Tryz.pinned (OpenSpec.upto pressTurnsSpec)

/-- 'crossbandlaw08.PressBests', WHERE WHAT IT READS IS OF BULK AT MOST 1048576: true; the input reads as it did. -/
def pressBestsUptoRow : OpenClaim := { program := "ytbnbjjgagikobaagreat", sum := "01e889a8119608acb543ae6d01b98c43e92dbaaaa18886f039ded94d5775ba37", func := "crossband/crossbandlaw08.PressBests", spec := "pressBests", unfollowed := true, recurses := true, plainKeys := false, apart := false, narrowed := true }
def PressBestsUptoSaid : Prop := pressBestsUptoRow.holds Tryz.pinned (OpenSpec.upto pressBestsSpec)

/-- 'crossbandlaw08.PressMarks', WHERE WHAT IT READS IS OF BULK AT MOST 1048576: true; the input reads as it did. -/
def pressMarksUptoRow : OpenClaim := { program := "ytbnbjjgagikobaagreat", sum := "01e889a8119608acb543ae6d01b98c43e92dbaaaa18886f039ded94d5775ba37", func := "crossband/crossbandlaw08.PressMarks", spec := "pressMarks", unfollowed := true, recurses := true, plainKeys := false, apart := false, narrowed := true }
def PressMarksUptoSaid : Prop := pressMarksUptoRow.holds Tryz.pinned (OpenSpec.upto pressMarksSpec)

/-- 'crossbandlaw08.PressProved', WHERE WHAT IT READS IS OF BULK AT MOST 1048576: true; the input reads as it did. -/
def pressProvedUptoRow : OpenClaim := { program := "ytbnbjjgagikobaagreat", sum := "01e889a8119608acb543ae6d01b98c43e92dbaaaa18886f039ded94d5775ba37", func := "crossband/crossbandlaw08.PressProved", spec := "pressProved", unfollowed := true, recurses := true, plainKeys := false, apart := false, narrowed := true }
def PressProvedUptoSaid : Prop := pressProvedUptoRow.holds Tryz.pinned (OpenSpec.upto pressProvedSpec)

/-- 'crossbandlaw08.PressWay', WHERE WHAT IT READS IS OF BULK AT MOST 1048576: true; the input reads as it did. -/
def pressWayUptoRow : OpenClaim := { program := "ytbnbjjgagikobaagreat", sum := "01e889a8119608acb543ae6d01b98c43e92dbaaaa18886f039ded94d5775ba37", func := "crossband/crossbandlaw08.PressWay", spec := "pressWay", unfollowed := true, recurses := true, plainKeys := false, apart := false, narrowed := true }
def PressWayUptoSaid : Prop := pressWayUptoRow.holds Tryz.pinned (OpenSpec.upto pressWaySpec)

/-- 'crossbandlaw08.PressHeats', WHERE WHAT IT READS IS OF BULK AT MOST 1048576: true; the input reads as it did. -/
def pressHeatsUptoRow : OpenClaim := { program := "ytbnbjjgagikobaagreat", sum := "01e889a8119608acb543ae6d01b98c43e92dbaaaa18886f039ded94d5775ba37", func := "crossband/crossbandlaw08.PressHeats", spec := "pressHeats", unfollowed := true, recurses := true, plainKeys := false, apart := false, narrowed := true }
def PressHeatsUptoSaid : Prop := pressHeatsUptoRow.holds Tryz.pinned (OpenSpec.upto pressHeatsSpec)

/-- 'crossbandlaw08.PressMore', WHERE WHAT IT READS IS OF BULK AT MOST 1048576: true; the input reads as it did. -/
def pressMoreUptoRow : OpenClaim := { program := "ytbnbjjgagikobaagreat", sum := "01e889a8119608acb543ae6d01b98c43e92dbaaaa18886f039ded94d5775ba37", func := "crossband/crossbandlaw08.PressMore", spec := "pressMore", unfollowed := true, recurses := true, plainKeys := false, apart := false, narrowed := true }
def PressMoreUptoSaid : Prop := pressMoreUptoRow.holds Tryz.pinned (OpenSpec.upto pressMoreSpec)

/-- 'crossbandlaw08.PressOpenings', WHERE WHAT IT READS IS OF BULK AT MOST 1048576: true; the input reads as it did. -/
def pressOpeningsUptoRow : OpenClaim := { program := "ytbnbjjgagikobaagreat", sum := "01e889a8119608acb543ae6d01b98c43e92dbaaaa18886f039ded94d5775ba37", func := "crossband/crossbandlaw08.PressOpenings", spec := "pressOpenings", unfollowed := true, recurses := true, plainKeys := false, apart := false, narrowed := true }
def PressOpeningsUptoSaid : Prop := pressOpeningsUptoRow.holds Tryz.pinned (OpenSpec.upto pressOpeningsSpec)

/-- 'crossbandlaw08.PressNeeded', WHERE WHAT IT READS IS OF BULK AT MOST 1048576: true; the input reads as it did. -/
def pressNeededUptoRow : OpenClaim := { program := "ytbnbjjgagikobaagreat", sum := "01e889a8119608acb543ae6d01b98c43e92dbaaaa18886f039ded94d5775ba37", func := "crossband/crossbandlaw08.PressNeeded", spec := "pressNeeded", unfollowed := true, recurses := true, plainKeys := false, apart := false, narrowed := true }
def PressNeededUptoSaid : Prop := pressNeededUptoRow.holds Tryz.pinned (OpenSpec.upto pressNeededSpec)

/-- 'crossbandlaw08.PressScaled', WHERE WHAT IT READS IS OF BULK AT MOST 1048576: true; the input reads as it did. -/
def pressScaledUptoRow : OpenClaim := { program := "ytbnbjjgagikobaagreat", sum := "01e889a8119608acb543ae6d01b98c43e92dbaaaa18886f039ded94d5775ba37", func := "crossband/crossbandlaw08.PressScaled", spec := "pressScaled", unfollowed := true, recurses := true, plainKeys := false, apart := false, narrowed := true }
def PressScaledUptoSaid : Prop := pressScaledUptoRow.holds Tryz.pinned (OpenSpec.upto pressScaledSpec)

/-- 'crossbandlaw08.PressDone', WHERE WHAT IT READS IS OF BULK AT MOST 1048576: true; the input reads as it did. -/
def pressDoneUptoRow : OpenClaim := { program := "ytbnbjjgagikobaagreat", sum := "01e889a8119608acb543ae6d01b98c43e92dbaaaa18886f039ded94d5775ba37", func := "crossband/crossbandlaw08.PressDone", spec := "pressDone", unfollowed := true, recurses := true, plainKeys := false, apart := false, narrowed := true }
def PressDoneUptoSaid : Prop := pressDoneUptoRow.holds Tryz.pinned (OpenSpec.upto pressDoneSpec)

/-- 'crossbandlaw08.PressKnown', WHERE WHAT IT READS IS OF BULK AT MOST 1048576: true; the input reads as it did. -/
def pressKnownUptoRow : OpenClaim := { program := "ytbnbjjgagikobaagreat", sum := "01e889a8119608acb543ae6d01b98c43e92dbaaaa18886f039ded94d5775ba37", func := "crossband/crossbandlaw08.PressKnown", spec := "pressKnown", unfollowed := true, recurses := true, plainKeys := false, apart := false, narrowed := true }
def PressKnownUptoSaid : Prop := pressKnownUptoRow.holds Tryz.pinned (OpenSpec.upto pressKnownSpec)

end Rows
end Go.Proofs.YtbnbjjgagikobaaGreat
