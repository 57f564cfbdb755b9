/-
  No cell of these rows narrows 'for every input' (looked for: loops, veiled, ifaces, maps, wideKeys, modest, calm, conditions, laid).
  DERIVED. THE GIVEN ROWS OF THIS SEAT. 7 by the template 'for every input the law returns true; each argument reads behind the call as it read before'; 0 by the template 'total and deterministic' (their statements: YtkoioidpbbbaiaaTotals.lean).
  GIVEN WITH THE SEED: the statements are not yours to turn. If you find one false, say at which input.
  Laid BY PROGRAM, IN A SANDBOX (cutbox-rows.mjs): the forced cells as the released guide's own fill.sh prints them over the translation a6c18345cc10eded… (all of the seat's roots in one cut). By AI agents, Wed Nov 11 2026. No macro, syntax, notation, axiom, sorry.
-/
import Derived.Test.YtkoioidpbbbaiaaChecked
import GoSem.Claim
import GoSem.ClaimJoined
import GoSem.ClaimMapViews
import Derived.JoinedTies
import Derived.KernelRfl
namespace Go.Proofs.Ytkoioidpbbbaiaa
/- THE CELL 'sum', in the pinned program and in every row, IS THE sha256 OF THE DUMP (.gsa) THAT YtkoioidpbbbaiaaProg.lean LOADS. Nothing in Lean hashes anything: it is a label: what it is worth is what the hold of that sum in a sandbox is worth. -/
noncomputable def Try.pinned : Pinned := { name := "ytkoioidpbbbaiaa", sum := "a6c18345cc10eded9036ebfae89faf1e6f0e09b730916f3b069d72058ee04763", checked := Try.checked }
namespace Rows
def none {H : Type} : Left H := { results := [], args := [] }

/-- 'crossbandlaw07.CurlPanels': WHATEVER THE INPUT: true; the input reads as it did. -/
def curlPanelsSpec : ChangeSpec := { name := "curlPanels", fn := fun _ => fun
  | [d1, d2, d3] => { results := [.lit (.bool true)], args := [d1, d2, d3] }
  | _ => none }
def curlPanelsRow : OpenClaim := { program := "ytkoioidpbbbaiaa", sum := "a6c18345cc10eded9036ebfae89faf1e6f0e09b730916f3b069d72058ee04763", func := "crossband/crossbandlaw07.CurlPanels", spec := "curlPanels", unfollowed := true, recurses := true, plainKeys := false, apart := false }
def CurlPanelsSaid : Prop := curlPanelsRow.holds Try.pinned (OpenSpec.ofChange curlPanelsSpec)

/-- ITS FALSE NEIGHBOUR: 'it returns false'. Refute it at one input. -/
def curlPanelsWrong : ChangeSpec := { name := "curlPanels", fn := fun _ => fun
  | [d1, d2, d3] => { results := [.lit (.bool false)], args := [d1, d2, d3] }
  | _ => none }
def CurlPanelsWrongFalsely : Prop := curlPanelsRow.holds Try.pinned (OpenSpec.ofChange curlPanelsWrong)

/-- 'crossbandlaw07.CurlTurned': WHATEVER THE INPUT: true; the input reads as it did. -/
def curlTurnedSpec : ChangeSpec := { name := "curlTurned", fn := fun _ => fun
  | [d1, d2, d3] => { results := [.lit (.bool true)], args := [d1, d2, d3] }
  | _ => none }
def curlTurnedRow : OpenClaim := { program := "ytkoioidpbbbaiaa", sum := "a6c18345cc10eded9036ebfae89faf1e6f0e09b730916f3b069d72058ee04763", func := "crossband/crossbandlaw07.CurlTurned", spec := "curlTurned", unfollowed := true, recurses := true, plainKeys := false, apart := false }
def CurlTurnedSaid : Prop := curlTurnedRow.holds Try.pinned (OpenSpec.ofChange curlTurnedSpec)

/-- ITS FALSE NEIGHBOUR: 'it returns false'. Refute it at one input. -/
def curlTurnedWrong : ChangeSpec := { name := "curlTurned", fn := fun _ => fun
  | [d1, d2, d3] => { results := [.lit (.bool false)], args := [d1, d2, d3] }
  | _ => none }
def CurlTurnedWrongFalsely : Prop := curlTurnedRow.holds Try.pinned (OpenSpec.ofChange curlTurnedWrong)

/-- 'crossbandlaw07.CurlCured': WHATEVER THE INPUT: true; the input reads as it did. -/
def curlCuredSpec : ChangeSpec := { name := "curlCured", fn := fun _ => fun
  | [d1, d2, d3] => { results := [.lit (.bool true)], args := [d1, d2, d3] }
  | _ => none }
def curlCuredRow : OpenClaim := { program := "ytkoioidpbbbaiaa", sum := "a6c18345cc10eded9036ebfae89faf1e6f0e09b730916f3b069d72058ee04763", func := "crossband/crossbandlaw07.CurlCured", spec := "curlCured", unfollowed := true, recurses := true, plainKeys := false, apart := false }
def CurlCuredSaid : Prop := curlCuredRow.holds Try.pinned (OpenSpec.ofChange curlCuredSpec)

/-- ITS FALSE NEIGHBOUR: 'it returns false'. Refute it at one input. -/
def curlCuredWrong : ChangeSpec := { name := "curlCured", fn := fun _ => fun
  | [d1, d2, d3] => { results := [.lit (.bool false)], args := [d1, d2, d3] }
  | _ => none }
def CurlCuredWrongFalsely : Prop := curlCuredRow.holds Try.pinned (OpenSpec.ofChange curlCuredWrong)

/-- 'crossbandlaw07.CurlBlame': WHATEVER THE INPUT: true; the input reads as it did. -/
def curlBlameSpec : ChangeSpec := { name := "curlBlame", fn := fun _ => fun
  | [d1, d2] => { results := [.lit (.bool true)], args := [d1, d2] }
  | _ => none }
def curlBlameRow : OpenClaim := { program := "ytkoioidpbbbaiaa", sum := "a6c18345cc10eded9036ebfae89faf1e6f0e09b730916f3b069d72058ee04763", func := "crossband/crossbandlaw07.CurlBlame", spec := "curlBlame", unfollowed := true, recurses := true, plainKeys := false, apart := false }
def CurlBlameSaid : Prop := curlBlameRow.holds Try.pinned (OpenSpec.ofChange curlBlameSpec)

/-- ITS FALSE NEIGHBOUR: 'it returns false'. Refute it at one input. -/
def curlBlameWrong : ChangeSpec := { name := "curlBlame", fn := fun _ => fun
  | [d1, d2] => { results := [.lit (.bool false)], args := [d1, d2] }
  | _ => none }
def CurlBlameWrongFalsely : Prop := curlBlameRow.holds Try.pinned (OpenSpec.ofChange curlBlameWrong)

/-- 'crossbandlaw07.CurlPair': WHATEVER THE INPUT: true; the input reads as it did. -/
def curlPairSpec : ChangeSpec := { name := "curlPair", fn := fun _ => fun
  | [d1, d2] => { results := [.lit (.bool true)], args := [d1, d2] }
  | _ => none }
def curlPairRow : OpenClaim := { program := "ytkoioidpbbbaiaa", sum := "a6c18345cc10eded9036ebfae89faf1e6f0e09b730916f3b069d72058ee04763", func := "crossband/crossbandlaw07.CurlPair", spec := "curlPair", unfollowed := true, recurses := true, plainKeys := false, apart := false }
def CurlPairSaid : Prop := curlPairRow.holds Try.pinned (OpenSpec.ofChange curlPairSpec)

/-- ITS FALSE NEIGHBOUR: 'it returns false'. Refute it at one input. -/
def curlPairWrong : ChangeSpec := { name := "curlPair", fn := fun _ => fun
  | [d1, d2] => { results := [.lit (.bool false)], args := [d1, d2] }
  | _ => none }
def CurlPairWrongFalsely : Prop := curlPairRow.holds Try.pinned (OpenSpec.ofChange curlPairWrong)

/-- 'crossbandlaw07.CurlThree': WHATEVER THE INPUT: true; the input reads as it did. -/
def curlThreeSpec : ChangeSpec := { name := "curlThree", fn := fun _ => fun
  | [d1, d2] => { results := [.lit (.bool true)], args := [d1, d2] }
  | _ => none }
def curlThreeRow : OpenClaim := { program := "ytkoioidpbbbaiaa", sum := "a6c18345cc10eded9036ebfae89faf1e6f0e09b730916f3b069d72058ee04763", func := "crossband/crossbandlaw07.CurlThree", spec := "curlThree", unfollowed := true, recurses := true, plainKeys := false, apart := false }
def CurlThreeSaid : Prop := curlThreeRow.holds Try.pinned (OpenSpec.ofChange curlThreeSpec)

/-- ITS FALSE NEIGHBOUR: 'it returns false'. Refute it at one input. -/
def curlThreeWrong : ChangeSpec := { name := "curlThree", fn := fun _ => fun
  | [d1, d2] => { results := [.lit (.bool false)], args := [d1, d2] }
  | _ => none }
def CurlThreeWrongFalsely : Prop := curlThreeRow.holds Try.pinned (OpenSpec.ofChange curlThreeWrong)

/-- 'crossbandlaw07.CurlKnown': WHATEVER THE INPUT: true; the input reads as it did. -/
def curlKnownSpec : ChangeSpec := { name := "curlKnown", fn := fun _ => fun
  | [] => { results := [.lit (.bool true)], args := [] }
  | _ => none }
def curlKnownRow : OpenClaim := { program := "ytkoioidpbbbaiaa", sum := "a6c18345cc10eded9036ebfae89faf1e6f0e09b730916f3b069d72058ee04763", func := "crossband/crossbandlaw07.CurlKnown", spec := "curlKnown", unfollowed := true, recurses := true, plainKeys := false, apart := false }
def CurlKnownSaid : Prop := curlKnownRow.holds Try.pinned (OpenSpec.ofChange curlKnownSpec)

/-- ITS FALSE NEIGHBOUR: 'it returns false'. Refute it at one input. -/
def curlKnownWrong : ChangeSpec := { name := "curlKnown", fn := fun _ => fun
  | [] => { results := [.lit (.bool false)], args := [] }
  | _ => none }
def CurlKnownWrongFalsely : Prop := curlKnownRow.holds Try.pinned (OpenSpec.ofChange curlKnownWrong)

/- THE SECOND FORM. 'bulk': how many values and letters a reading holds, each counted each time it is reached (what is shared counts as often as it is met; a slice's spare places count too). A statement '..UptoSaid' is the law's where the arguments, and the package variables that the reading takes, are together of bulk at most 1048576: NARROWER than '..Said'. Prove '..Said' where nothing that the law and all that it calls make is longer than what came in: it says more and counts as full. Else prove '..UptoSaid'. A law counts once. -/
mutual
def uptoBulk {H : Type} : DataW H → Nat
  | .lit (.string bytes) => bytes.length + 1
  | .lit _ => 1
  | .nil => 1
  | .ptr d => uptoBulk d + 1
  | .slice elems spare => uptoBulkAll elems + uptoBulkAll spare + 1
  | .agg parts => uptoBulkAll parts + 1
  | .iface _ d => uptoBulk d + 1
  | .map entries => uptoBulkEntries entries + 1
  | .held _ => 1
def uptoBulkAll {H : Type} : List (DataW H) → Nat
  | [] => 0
  | d :: r => uptoBulk d + uptoBulkAll r
def uptoBulkEntries {H : Type} : List (Lit × DataW H) → Nat
  | [] => 0
  | x :: r => uptoBulkEntry x + uptoBulkEntries r
def uptoBulkEntry {H : Type} : Lit × DataW H → Nat
  | (.string bytes, d) => bytes.length + uptoBulk d + 1
  | (_, d) => uptoBulk d + 1
 end
def uptoSmall : (H : Type) → List (DataW H) → Bool := fun _ ds => decide (uptoBulkAll ds ≤ 1048576)
def OpenSpec.upto (s : _root_.Go.ChangeSpec) : _root_.Go.OpenSpec := { _root_.Go.OpenSpec.ofChange s with cond := some uptoSmall }

/-- 'crossbandlaw07.CurlPanels', WHERE WHAT IT READS IS OF BULK AT MOST 1048576: true; the input reads as it did. -/
def curlPanelsUptoRow : OpenClaim := { program := "ytkoioidpbbbaiaa", sum := "a6c18345cc10eded9036ebfae89faf1e6f0e09b730916f3b069d72058ee04763", func := "crossband/crossbandlaw07.CurlPanels", spec := "curlPanels", unfollowed := true, recurses := true, plainKeys := false, apart := false, narrowed := true }
def CurlPanelsUptoSaid : Prop := curlPanelsUptoRow.holds Try.pinned (OpenSpec.upto curlPanelsSpec)

/-- 'crossbandlaw07.CurlTurned', WHERE WHAT IT READS IS OF BULK AT MOST 1048576: true; the input reads as it did. -/
def curlTurnedUptoRow : OpenClaim := { program := "ytkoioidpbbbaiaa", sum := "a6c18345cc10eded9036ebfae89faf1e6f0e09b730916f3b069d72058ee04763", func := "crossband/crossbandlaw07.CurlTurned", spec := "curlTurned", unfollowed := true, recurses := true, plainKeys := false, apart := false, narrowed := true }
def CurlTurnedUptoSaid : Prop := curlTurnedUptoRow.holds Try.pinned (OpenSpec.upto curlTurnedSpec)

/-- 'crossbandlaw07.CurlCured', WHERE WHAT IT READS IS OF BULK AT MOST 1048576: true; the input reads as it did. -/
def curlCuredUptoRow : OpenClaim := { program := "ytkoioidpbbbaiaa", sum := "a6c18345cc10eded9036ebfae89faf1e6f0e09b730916f3b069d72058ee04763", func := "crossband/crossbandlaw07.CurlCured", spec := "curlCured", unfollowed := true, recurses := true, plainKeys := false, apart := false, narrowed := true }
def CurlCuredUptoSaid : Prop := curlCuredUptoRow.holds Try.pinned (OpenSpec.upto curlCuredSpec)

/-- 'crossbandlaw07.CurlBlame', WHERE WHAT IT READS IS OF BULK AT MOST 1048576: true; the input reads as it did. -/
def curlBlameUptoRow : OpenClaim := { program := "ytkoioidpbbbaiaa", sum := "a6c18345cc10eded9036ebfae89faf1e6f0e09b730916f3b069d72058ee04763", func := "crossband/crossbandlaw07.CurlBlame", spec := "curlBlame", unfollowed := true, recurses := true, plainKeys := false, apart := false, narrowed := true }
def CurlBlameUptoSaid : Prop := curlBlameUptoRow.holds Try.pinned (OpenSpec.upto curlBlameSpec)

/-- 'crossbandlaw07.CurlPair', WHERE WHAT IT READS IS OF BULK AT MOST 1048576: true; the input reads as it did. -/
def curlPairUptoRow : OpenClaim := { program := "ytkoioidpbbbaiaa", sum := "a6c18345cc10eded9036ebfae89faf1e6f0e09b730916f3b069d72058ee04763", func := "crossband/crossbandlaw07.CurlPair", spec := "curlPair", unfollowed := true, recurses := true, plainKeys := false, apart := false, narrowed := true }
def CurlPairUptoSaid : Prop := curlPairUptoRow.holds Try.pinned (OpenSpec.upto curlPairSpec)

/-- 'crossbandlaw07.CurlThree', WHERE WHAT IT READS IS OF BULK AT MOST 1048576: true; the input reads as it did. -/
def curlThreeUptoRow : OpenClaim := { program := "ytkoioidpbbbaiaa", sum := "a6c18345cc10eded9036ebfae89faf1e6f0e09b730916f3b069d72058ee04763", func := "crossband/crossbandlaw07.CurlThree", spec := "curlThree", unfollowed := true, recurses := true, plainKeys := false, apart := false, narrowed := true }
def CurlThreeUptoSaid : Prop := curlThreeUptoRow.holds Try.pinned (OpenSpec.upto curlThreeSpec)

/-- 'crossbandlaw07.CurlKnown', WHERE WHAT IT READS IS OF BULK AT MOST 1048576: true; the input reads as it did. -/
def curlKnownUptoRow : OpenClaim := { program := "ytkoioidpbbbaiaa", sum := "a6c18345cc10eded9036ebfae89faf1e6f0e09b730916f3b069d72058ee04763", func := "crossband/crossbandlaw07.CurlKnown", spec := "curlKnown", unfollowed := true, recurses := true, plainKeys := false, apart := false, narrowed := true }
def CurlKnownUptoSaid : Prop := curlKnownUptoRow.holds Try.pinned (OpenSpec.upto curlKnownSpec)

end Rows
end Go.Proofs.Ytkoioidpbbbaiaa
