/-
  No cell of these rows narrows 'for every input' (looked for: loops, veiled, ifaces, maps, wideKeys, modest, calm, conditions, laid).
  DERIVED. THE GIVEN ROWS OF THIS SEAT. 7 by the template 'for every input the law returns true; each argument reads behind the call as it read before'; 0 by the template 'total and deterministic' (their statements: YtkoioidpbbbaiaaGreatTotals.lean).
  GIVEN WITH THE SEED: the statements are not yours to turn. If you find one false, say at which input.
  Laid BY PROGRAM, IN A SANDBOX (cutbox-rows.mjs): the forced cells as the released guide's own fill.sh prints them over the translation 1fb99a571d604c63… (all of the seat's roots in one cut). By AI agents, Wed Nov 11 2026. No macro, syntax, notation, axiom, sorry.
-/
import Derived.Test.YtkoioidpbbbaiaaGreatChecked
import GoSem.Claim
import GoSem.ClaimJoined
import GoSem.ClaimMapViews
import Derived.JoinedTies
import Derived.KernelRfl
namespace Go.Proofs.YtkoioidpbbbaiaaGreat
/- THE CELL 'sum', in the pinned program and in every row, IS THE sha256 OF THE DUMP (.gsa) THAT YtkoioidpbbbaiaaGreatProg.lean LOADS. Nothing in Lean hashes anything: it is a label: what it is worth is what the hold of that sum in a sandbox is worth. -/
noncomputable def Tryz.pinned : Pinned := { name := "ytkoioidpbbbaiaagreat", sum := "1fb99a571d604c63b4b0fd953dbbeeae2104cad798f00ec66d735d0d928fa85d", checked := Tryz.checked }
namespace Rows
def none {H : Type} : Left H := { results := [], args := [] }

/-- 'crossbandlaw07.CurlLeasts': WHATEVER THE INPUT: true; the input reads as it did. -/
def curlLeastsSpec : ChangeSpec := { name := "curlLeasts", fn := fun _ => fun
  | [d] => { results := [.lit (.bool true)], args := [d] }
  | _ => none }
def curlLeastsRow : OpenClaim := { program := "ytkoioidpbbbaiaagreat", sum := "1fb99a571d604c63b4b0fd953dbbeeae2104cad798f00ec66d735d0d928fa85d", func := "crossband/crossbandlaw07.CurlLeasts", spec := "curlLeasts", unfollowed := true, recurses := true, plainKeys := false, apart := false }
def CurlLeastsSaid : Prop := curlLeastsRow.holds Tryz.pinned (OpenSpec.ofChange curlLeastsSpec)

/-- ITS FALSE NEIGHBOUR: 'it returns false'. Refute it at one input. -/
def curlLeastsWrong : ChangeSpec := { name := "curlLeasts", fn := fun _ => fun
  | [d] => { results := [.lit (.bool false)], args := [d] }
  | _ => none }
def CurlLeastsWrongFalsely : Prop := curlLeastsRow.holds Tryz.pinned (OpenSpec.ofChange curlLeastsWrong)

/-- 'crossbandlaw07.CurlCures': WHATEVER THE INPUT: true; the input reads as it did. -/
def curlCuresSpec : ChangeSpec := { name := "curlCures", fn := fun _ => fun
  | [d1, d2, d3] => { results := [.lit (.bool true)], args := [d1, d2, d3] }
  | _ => none }
def curlCuresRow : OpenClaim := { program := "ytkoioidpbbbaiaagreat", sum := "1fb99a571d604c63b4b0fd953dbbeeae2104cad798f00ec66d735d0d928fa85d", func := "crossband/crossbandlaw07.CurlCures", spec := "curlCures", unfollowed := true, recurses := true, plainKeys := false, apart := false }
def CurlCuresSaid : Prop := curlCuresRow.holds Tryz.pinned (OpenSpec.ofChange curlCuresSpec)

/-- ITS FALSE NEIGHBOUR: 'it returns false'. Refute it at one input. -/
def curlCuresWrong : ChangeSpec := { name := "curlCures", fn := fun _ => fun
  | [d1, d2, d3] => { results := [.lit (.bool false)], args := [d1, d2, d3] }
  | _ => none }
def CurlCuresWrongFalsely : Prop := curlCuresRow.holds Tryz.pinned (OpenSpec.ofChange curlCuresWrong)

/-- 'crossbandlaw07.CurlBlames': WHATEVER THE INPUT: true; the input reads as it did. -/
def curlBlamesSpec : ChangeSpec := { name := "curlBlames", fn := fun _ => fun
  | [d] => { results := [.lit (.bool true)], args := [d] }
  | _ => none }
def curlBlamesRow : OpenClaim := { program := "ytkoioidpbbbaiaagreat", sum := "1fb99a571d604c63b4b0fd953dbbeeae2104cad798f00ec66d735d0d928fa85d", func := "crossband/crossbandlaw07.CurlBlames", spec := "curlBlames", unfollowed := true, recurses := true, plainKeys := false, apart := false }
def CurlBlamesSaid : Prop := curlBlamesRow.holds Tryz.pinned (OpenSpec.ofChange curlBlamesSpec)

/-- ITS FALSE NEIGHBOUR: 'it returns false'. Refute it at one input. -/
def curlBlamesWrong : ChangeSpec := { name := "curlBlames", fn := fun _ => fun
  | [d] => { results := [.lit (.bool false)], args := [d] }
  | _ => none }
def CurlBlamesWrongFalsely : Prop := curlBlamesRow.holds Tryz.pinned (OpenSpec.ofChange curlBlamesWrong)

/-- 'crossbandlaw07.CurlProved': WHATEVER THE INPUT: true; the input reads as it did. -/
def curlProvedSpec : ChangeSpec := { name := "curlProved", fn := fun _ => fun
  | [d1, d2, d3] => { results := [.lit (.bool true)], args := [d1, d2, d3] }
  | _ => none }
def curlProvedRow : OpenClaim := { program := "ytkoioidpbbbaiaagreat", sum := "1fb99a571d604c63b4b0fd953dbbeeae2104cad798f00ec66d735d0d928fa85d", func := "crossband/crossbandlaw07.CurlProved", spec := "curlProved", unfollowed := true, recurses := true, plainKeys := false, apart := false }
def CurlProvedSaid : Prop := curlProvedRow.holds Tryz.pinned (OpenSpec.ofChange curlProvedSpec)

/-- ITS FALSE NEIGHBOUR: 'it returns false'. Refute it at one input. -/
def curlProvedWrong : ChangeSpec := { name := "curlProved", fn := fun _ => fun
  | [d1, d2, d3] => { results := [.lit (.bool false)], args := [d1, d2, d3] }
  | _ => none }
def CurlProvedWrongFalsely : Prop := curlProvedRow.holds Tryz.pinned (OpenSpec.ofChange curlProvedWrong)

/-- 'crossbandlaw07.CurlEven': WHATEVER THE INPUT: true; the input reads as it did. -/
def curlEvenSpec : ChangeSpec := { name := "curlEven", fn := fun _ => fun
  | [d1, d2] => { results := [.lit (.bool true)], args := [d1, d2] }
  | _ => none }
def curlEvenRow : OpenClaim := { program := "ytkoioidpbbbaiaagreat", sum := "1fb99a571d604c63b4b0fd953dbbeeae2104cad798f00ec66d735d0d928fa85d", func := "crossband/crossbandlaw07.CurlEven", spec := "curlEven", unfollowed := true, recurses := true, plainKeys := false, apart := false }
def CurlEvenSaid : Prop := curlEvenRow.holds Tryz.pinned (OpenSpec.ofChange curlEvenSpec)

/-- ITS FALSE NEIGHBOUR: 'it returns false'. Refute it at one input. -/
def curlEvenWrong : ChangeSpec := { name := "curlEven", fn := fun _ => fun
  | [d1, d2] => { results := [.lit (.bool false)], args := [d1, d2] }
  | _ => none }
def CurlEvenWrongFalsely : Prop := curlEvenRow.holds Tryz.pinned (OpenSpec.ofChange curlEvenWrong)

/-- 'crossbandlaw07.CurlAdded': WHATEVER THE INPUT: true; the input reads as it did. -/
def curlAddedSpec : ChangeSpec := { name := "curlAdded", fn := fun _ => fun
  | [d1, d2, d3, d4, d5] => { results := [.lit (.bool true)], args := [d1, d2, d3, d4, d5] }
  | _ => none }
def curlAddedRow : OpenClaim := { program := "ytkoioidpbbbaiaagreat", sum := "1fb99a571d604c63b4b0fd953dbbeeae2104cad798f00ec66d735d0d928fa85d", func := "crossband/crossbandlaw07.CurlAdded", spec := "curlAdded", unfollowed := true, recurses := true, plainKeys := false, apart := false }
def CurlAddedSaid : Prop := curlAddedRow.holds Tryz.pinned (OpenSpec.ofChange curlAddedSpec)

/-- ITS FALSE NEIGHBOUR: 'it returns false'. Refute it at one input. -/
def curlAddedWrong : ChangeSpec := { name := "curlAdded", fn := fun _ => fun
  | [d1, d2, d3, d4, d5] => { results := [.lit (.bool false)], args := [d1, d2, d3, d4, d5] }
  | _ => none }
def CurlAddedWrongFalsely : Prop := curlAddedRow.holds Tryz.pinned (OpenSpec.ofChange curlAddedWrong)

/-- 'crossbandlaw07.CurlDamp': WHATEVER THE INPUT: true; the input reads as it did. -/
def curlDampSpec : ChangeSpec := { name := "curlDamp", fn := fun _ => fun
  | [d1, d2, d3, d4, d5] => { results := [.lit (.bool true)], args := [d1, d2, d3, d4, d5] }
  | _ => none }
def curlDampRow : OpenClaim := { program := "ytkoioidpbbbaiaagreat", sum := "1fb99a571d604c63b4b0fd953dbbeeae2104cad798f00ec66d735d0d928fa85d", func := "crossband/crossbandlaw07.CurlDamp", spec := "curlDamp", unfollowed := true, recurses := true, plainKeys := false, apart := false }
def CurlDampSaid : Prop := curlDampRow.holds Tryz.pinned (OpenSpec.ofChange curlDampSpec)

/-- ITS FALSE NEIGHBOUR: 'it returns false'. Refute it at one input. -/
def curlDampWrong : ChangeSpec := { name := "curlDamp", fn := fun _ => fun
  | [d1, d2, d3, d4, d5] => { results := [.lit (.bool false)], args := [d1, d2, d3, d4, d5] }
  | _ => none }
def CurlDampWrongFalsely : Prop := curlDampRow.holds Tryz.pinned (OpenSpec.ofChange curlDampWrong)

/- THE SECOND FORM. 'bulk': how many values and letters a reading holds, each counted each time it is reached (what is shared counts as often as it is met; a slice's spare places count too). A statement '..UptoSaid' is the law's where the arguments, and the package variables that the reading takes, are together of bulk at most 1048576: NARROWER than '..Said'. Prove '..Said' where nothing that the law and all that it calls make is longer than what came in: it says more and counts as full. Else prove '..UptoSaid'. A law counts once. -/
mutual
def uptoBulk {H : Type} : DataW H → Nat
  | .lit (.string bytes) => bytes.length + 1
  | .lit _ => 1
  | .nil => 1
  | .ptr d => uptoBulk d + 1
  | .slice elems spare => uptoBulkAll elems + uptoBulkAll spare + 1
  | .agg parts => uptoBulkAll parts + 1
  | .iface _ d => uptoBulk d + 1
  | .map entries => uptoBulkEntries entries + 1
  | .held _ => 1
def uptoBulkAll {H : Type} : List (DataW H) → Nat
  | [] => 0
  | d :: r => uptoBulk d + uptoBulkAll r
def uptoBulkEntries {H : Type} : List (Lit × DataW H) → Nat
  | [] => 0
  | x :: r => uptoBulkEntry x + uptoBulkEntries r
def uptoBulkEntry {H : Type} : Lit × DataW H → Nat
  | (.string bytes, d) => bytes.length + uptoBulk d + 1
  | (_, d) => uptoBulk d + 1
 end
def uptoSmall : (H : Type) → List (DataW H) → Bool := fun _ ds => decide (uptoBulkAll ds ≤ 1048576)
def OpenSpec.upto (s : _root_.Go.ChangeSpec) : _root_.Go.OpenSpec := { _root_.Go.OpenSpec.ofChange s with cond := some uptoSmall }

/-- 'crossbandlaw07.CurlLeasts', WHERE WHAT IT READS IS OF BULK AT MOST 1048576: true; the input reads as it did. -/
def curlLeastsUptoRow : OpenClaim := { program := "ytkoioidpbbbaiaagreat", sum := "1fb99a571d604c63b4b0fd953dbbeeae2104cad798f00ec66d735d0d928fa85d", func := "crossband/crossbandlaw07.CurlLeasts", spec := "curlLeasts", unfollowed := true, recurses := true, plainKeys := false, apart := false, narrowed := true }
def CurlLeastsUptoSaid : Prop := curlLeastsUptoRow.holds Tryz.pinned (OpenSpec.upto curlLeastsSpec)

/-- 'crossbandlaw07.CurlCures', WHERE WHAT IT READS IS OF BULK AT MOST 1048576: true; the input reads as it did. -/
def curlCuresUptoRow : OpenClaim := { program := "ytkoioidpbbbaiaagreat", sum := "1fb99a571d604c63b4b0fd953dbbeeae2104cad798f00ec66d735d0d928fa85d", func := "crossband/crossbandlaw07.CurlCures", spec := "curlCures", unfollowed := true, recurses := true, plainKeys := false, apart := false, narrowed := true }
def CurlCuresUptoSaid : Prop := curlCuresUptoRow.holds Tryz.pinned (OpenSpec.upto curlCuresSpec)

/-- 'crossbandlaw07.CurlBlames', WHERE WHAT IT READS IS OF BULK AT MOST 1048576: true; the input reads as it did. -/
def curlBlamesUptoRow : OpenClaim := { program := "ytkoioidpbbbaiaagreat", sum := "1fb99a571d604c63b4b0fd953dbbeeae2104cad798f00ec66d735d0d928fa85d", func := "crossband/crossbandlaw07.CurlBlames", spec := "curlBlames", unfollowed := true, recurses := true, plainKeys := false, apart := false, narrowed := true }
def CurlBlamesUptoSaid : Prop := curlBlamesUptoRow.holds Tryz.pinned (OpenSpec.upto curlBlamesSpec)

/-- 'crossbandlaw07.CurlProved', WHERE WHAT IT READS IS OF BULK AT MOST 1048576: true; the input reads as it did. -/
def curlProvedUptoRow : OpenClaim := { program := "ytkoioidpbbbaiaagreat", sum := "1fb99a571d604c63b4b0fd953dbbeeae2104cad798f00ec66d735d0d928fa85d", func := "crossband/crossbandlaw07.CurlProved", spec := "curlProved", unfollowed := true, recurses := true, plainKeys := false, apart := false, narrowed := true }
def CurlProvedUptoSaid : Prop := curlProvedUptoRow.holds Tryz.pinned (OpenSpec.upto curlProvedSpec)

/-- 'crossbandlaw07.CurlEven', WHERE WHAT IT READS IS OF BULK AT MOST 1048576: true; the input reads as it did. -/
def curlEvenUptoRow : OpenClaim := { program := "ytkoioidpbbbaiaagreat", sum := "1fb99a571d604c63b4b0fd953dbbeeae2104cad798f00ec66d735d0d928fa85d", func := "crossband/crossbandlaw07.CurlEven", spec := "curlEven", unfollowed := true, recurses := true, plainKeys := false, apart := false, narrowed := true }
def CurlEvenUptoSaid : Prop := curlEvenUptoRow.holds Tryz.pinned (OpenSpec.upto curlEvenSpec)

/-- 'crossbandlaw07.CurlAdded', WHERE WHAT IT READS IS OF BULK AT MOST 1048576: true; the input reads as it did. -/
def curlAddedUptoRow : OpenClaim := { program := "ytkoioidpbbbaiaagreat", sum := "1fb99a571d604c63b4b0fd953dbbeeae2104cad798f00ec66d735d0d928fa85d", func := "crossband/crossbandlaw07.CurlAdded", spec := "curlAdded", unfollowed := true, recurses := true, plainKeys := false, apart := false, narrowed := true }
def CurlAddedUptoSaid : Prop := curlAddedUptoRow.holds Tryz.pinned (OpenSpec.upto curlAddedSpec)

/-- 'crossbandlaw07.CurlDamp', WHERE WHAT IT READS IS OF BULK AT MOST 1048576: true; the input reads as it did. -/
def curlDampUptoRow : OpenClaim := { program := "ytkoioidpbbbaiaagreat", sum := "1fb99a571d604c63b4b0fd953dbbeeae2104cad798f00ec66d735d0d928fa85d", func := "crossband/crossbandlaw07.CurlDamp", spec := "curlDamp", unfollowed := true, recurses := true, plainKeys := false, apart := false, narrowed := true }
def CurlDampUptoSaid : Prop := curlDampUptoRow.holds Tryz.pinned (OpenSpec.upto curlDampSpec)

end Rows
end Go.Proofs.YtkoioidpbbbaiaaGreat
