/-
  No cell of these rows narrows 'for every input' (looked for: loops, veiled, ifaces, maps, wideKeys, modest, calm, conditions, laid).
  DERIVED. THE GIVEN ROWS OF THIS SEAT. 13 by the template 'for every input the law returns true; each argument reads behind the call as it read before'; 0 by the template 'total and deterministic' (their statements: YtfakoboiahbhaaaGreatTotals.lean).
  GIVEN WITH THE SEED: the statements are not yours to turn. If you find one false, say at which input.
  Laid BY PROGRAM, IN A SANDBOX (cutbox-rows.mjs): the forced cells as the released guide's own fill.sh prints them over the translation 02f1686dba936892… (all of the seat's roots in one cut). By AI agents, Wed Nov 11 2026. No macro, syntax, notation, axiom, sorry.
-/
import Derived.Test.YtfakoboiahbhaaaGreatChecked
import GoSem.Claim
import GoSem.ClaimJoined
import GoSem.ClaimMapViews
import Derived.JoinedTies
import Derived.KernelRfl
namespace Go.Proofs.YtfakoboiahbhaaaGreat
/- THE CELL 'sum', in the pinned program and in every row, IS THE sha256 OF THE DUMP (.gsa) THAT YtfakoboiahbhaaaGreatProg.lean LOADS. Nothing in Lean hashes anything: it is a label: what it is worth is what the hold of that sum in a sandbox is worth. -/
noncomputable def Tryz.pinned : Pinned := { name := "ytfakoboiahbhaaagreat", sum := "02f1686dba936892b6a0b33ce113278b7c93e360440e9147998b8241c8a43ab8", checked := Tryz.checked }
namespace Rows
def none {H : Type} : Left H := { results := [], args := [] }

/-- 'crossbandlaw11.MatchRows': WHATEVER THE INPUT: true; the input reads as it did. -/
def matchRowsSpec : ChangeSpec := { name := "matchRows", fn := fun _ => fun
  | [d1, d2] => { results := [.lit (.bool true)], args := [d1, d2] }
  | _ => none }
def matchRowsRow : OpenClaim := { program := "ytfakoboiahbhaaagreat", sum := "02f1686dba936892b6a0b33ce113278b7c93e360440e9147998b8241c8a43ab8", func := "crossband/crossbandlaw11.MatchRows", spec := "matchRows", unfollowed := true, recurses := true, plainKeys := false, apart := false }
def MatchRowsSaid : Prop := matchRowsRow.holds Tryz.pinned (OpenSpec.ofChange matchRowsSpec)

/-- ITS FALSE NEIGHBOUR: 'it returns false'. Refute it at one input. -/
def matchRowsWrong : ChangeSpec := { name := "matchRows", fn := fun _ => fun
  | [d1, d2] => { results := [.lit (.bool false)], args := [d1, d2] }
  | _ => none }
def MatchRowsWrongFalsely : Prop := matchRowsRow.holds Tryz.pinned (OpenSpec.ofChange matchRowsWrong)

/-- 'crossbandlaw11.MatchParts': WHATEVER THE INPUT: true; the input reads as it did. -/
def matchPartsSpec : ChangeSpec := { name := "matchParts", fn := fun _ => fun
  | [d1, d2] => { results := [.lit (.bool true)], args := [d1, d2] }
  | _ => none }
def matchPartsRow : OpenClaim := { program := "ytfakoboiahbhaaagreat", sum := "02f1686dba936892b6a0b33ce113278b7c93e360440e9147998b8241c8a43ab8", func := "crossband/crossbandlaw11.MatchParts", spec := "matchParts", unfollowed := true, recurses := true, plainKeys := false, apart := false }
def MatchPartsSaid : Prop := matchPartsRow.holds Tryz.pinned (OpenSpec.ofChange matchPartsSpec)

/-- ITS FALSE NEIGHBOUR: 'it returns false'. Refute it at one input. -/
def matchPartsWrong : ChangeSpec := { name := "matchParts", fn := fun _ => fun
  | [d1, d2] => { results := [.lit (.bool false)], args := [d1, d2] }
  | _ => none }
def MatchPartsWrongFalsely : Prop := matchPartsRow.holds Tryz.pinned (OpenSpec.ofChange matchPartsWrong)

/-- 'crossbandlaw11.MatchFewests': WHATEVER THE INPUT: true; the input reads as it did. -/
def matchFewestsSpec : ChangeSpec := { name := "matchFewests", fn := fun _ => fun
  | [d] => { results := [.lit (.bool true)], args := [d] }
  | _ => none }
def matchFewestsRow : OpenClaim := { program := "ytfakoboiahbhaaagreat", sum := "02f1686dba936892b6a0b33ce113278b7c93e360440e9147998b8241c8a43ab8", func := "crossband/crossbandlaw11.MatchFewests", spec := "matchFewests", unfollowed := true, recurses := true, plainKeys := false, apart := false }
def MatchFewestsSaid : Prop := matchFewestsRow.holds Tryz.pinned (OpenSpec.ofChange matchFewestsSpec)

/-- ITS FALSE NEIGHBOUR: 'it returns false'. Refute it at one input. -/
def matchFewestsWrong : ChangeSpec := { name := "matchFewests", fn := fun _ => fun
  | [d] => { results := [.lit (.bool false)], args := [d] }
  | _ => none }
def MatchFewestsWrongFalsely : Prop := matchFewestsRow.holds Tryz.pinned (OpenSpec.ofChange matchFewestsWrong)

/-- 'crossbandlaw11.MatchChains': WHATEVER THE INPUT: true; the input reads as it did. -/
def matchChainsSpec : ChangeSpec := { name := "matchChains", fn := fun _ => fun
  | [d1, d2, d3] => { results := [.lit (.bool true)], args := [d1, d2, d3] }
  | _ => none }
def matchChainsRow : OpenClaim := { program := "ytfakoboiahbhaaagreat", sum := "02f1686dba936892b6a0b33ce113278b7c93e360440e9147998b8241c8a43ab8", func := "crossband/crossbandlaw11.MatchChains", spec := "matchChains", unfollowed := true, recurses := true, plainKeys := false, apart := false }
def MatchChainsSaid : Prop := matchChainsRow.holds Tryz.pinned (OpenSpec.ofChange matchChainsSpec)

/-- ITS FALSE NEIGHBOUR: 'it returns false'. Refute it at one input. -/
def matchChainsWrong : ChangeSpec := { name := "matchChains", fn := fun _ => fun
  | [d1, d2, d3] => { results := [.lit (.bool false)], args := [d1, d2, d3] }
  | _ => none }
def MatchChainsWrongFalsely : Prop := matchChainsRow.holds Tryz.pinned (OpenSpec.ofChange matchChainsWrong)

/-- 'crossbandlaw11.MatchProved': WHATEVER THE INPUT: true; the input reads as it did. -/
def matchProvedSpec : ChangeSpec := { name := "matchProved", fn := fun _ => fun
  | [d1, d2] => { results := [.lit (.bool true)], args := [d1, d2] }
  | _ => none }
def matchProvedRow : OpenClaim := { program := "ytfakoboiahbhaaagreat", sum := "02f1686dba936892b6a0b33ce113278b7c93e360440e9147998b8241c8a43ab8", func := "crossband/crossbandlaw11.MatchProved", spec := "matchProved", unfollowed := true, recurses := true, plainKeys := false, apart := false }
def MatchProvedSaid : Prop := matchProvedRow.holds Tryz.pinned (OpenSpec.ofChange matchProvedSpec)

/-- ITS FALSE NEIGHBOUR: 'it returns false'. Refute it at one input. -/
def matchProvedWrong : ChangeSpec := { name := "matchProved", fn := fun _ => fun
  | [d1, d2] => { results := [.lit (.bool false)], args := [d1, d2] }
  | _ => none }
def MatchProvedWrongFalsely : Prop := matchProvedRow.holds Tryz.pinned (OpenSpec.ofChange matchProvedWrong)

/-- 'crossbandlaw11.MatchEither': WHATEVER THE INPUT: true; the input reads as it did. -/
def matchEitherSpec : ChangeSpec := { name := "matchEither", fn := fun _ => fun
  | [d] => { results := [.lit (.bool true)], args := [d] }
  | _ => none }
def matchEitherRow : OpenClaim := { program := "ytfakoboiahbhaaagreat", sum := "02f1686dba936892b6a0b33ce113278b7c93e360440e9147998b8241c8a43ab8", func := "crossband/crossbandlaw11.MatchEither", spec := "matchEither", unfollowed := true, recurses := true, plainKeys := false, apart := false }
def MatchEitherSaid : Prop := matchEitherRow.holds Tryz.pinned (OpenSpec.ofChange matchEitherSpec)

/-- ITS FALSE NEIGHBOUR: 'it returns false'. Refute it at one input. -/
def matchEitherWrong : ChangeSpec := { name := "matchEither", fn := fun _ => fun
  | [d] => { results := [.lit (.bool false)], args := [d] }
  | _ => none }
def MatchEitherWrongFalsely : Prop := matchEitherRow.holds Tryz.pinned (OpenSpec.ofChange matchEitherWrong)

/-- 'crossbandlaw11.MatchMissing': WHATEVER THE INPUT: true; the input reads as it did. -/
def matchMissingSpec : ChangeSpec := { name := "matchMissing", fn := fun _ => fun
  | [d1, d2] => { results := [.lit (.bool true)], args := [d1, d2] }
  | _ => none }
def matchMissingRow : OpenClaim := { program := "ytfakoboiahbhaaagreat", sum := "02f1686dba936892b6a0b33ce113278b7c93e360440e9147998b8241c8a43ab8", func := "crossband/crossbandlaw11.MatchMissing", spec := "matchMissing", unfollowed := true, recurses := true, plainKeys := false, apart := false }
def MatchMissingSaid : Prop := matchMissingRow.holds Tryz.pinned (OpenSpec.ofChange matchMissingSpec)

/-- ITS FALSE NEIGHBOUR: 'it returns false'. Refute it at one input. -/
def matchMissingWrong : ChangeSpec := { name := "matchMissing", fn := fun _ => fun
  | [d1, d2] => { results := [.lit (.bool false)], args := [d1, d2] }
  | _ => none }
def MatchMissingWrongFalsely : Prop := matchMissingRow.holds Tryz.pinned (OpenSpec.ofChange matchMissingWrong)

/-- 'crossbandlaw11.MatchMore': WHATEVER THE INPUT: true; the input reads as it did. -/
def matchMoreSpec : ChangeSpec := { name := "matchMore", fn := fun _ => fun
  | [d1, d2, d3] => { results := [.lit (.bool true)], args := [d1, d2, d3] }
  | _ => none }
def matchMoreRow : OpenClaim := { program := "ytfakoboiahbhaaagreat", sum := "02f1686dba936892b6a0b33ce113278b7c93e360440e9147998b8241c8a43ab8", func := "crossband/crossbandlaw11.MatchMore", spec := "matchMore", unfollowed := true, recurses := true, plainKeys := false, apart := false }
def MatchMoreSaid : Prop := matchMoreRow.holds Tryz.pinned (OpenSpec.ofChange matchMoreSpec)

/-- ITS FALSE NEIGHBOUR: 'it returns false'. Refute it at one input. -/
def matchMoreWrong : ChangeSpec := { name := "matchMore", fn := fun _ => fun
  | [d1, d2, d3] => { results := [.lit (.bool false)], args := [d1, d2, d3] }
  | _ => none }
def MatchMoreWrongFalsely : Prop := matchMoreRow.holds Tryz.pinned (OpenSpec.ofChange matchMoreWrong)

/-- 'crossbandlaw11.MatchTurned': WHATEVER THE INPUT: true; the input reads as it did. -/
def matchTurnedSpec : ChangeSpec := { name := "matchTurned", fn := fun _ => fun
  | [d1, d2, d3] => { results := [.lit (.bool true)], args := [d1, d2, d3] }
  | _ => none }
def matchTurnedRow : OpenClaim := { program := "ytfakoboiahbhaaagreat", sum := "02f1686dba936892b6a0b33ce113278b7c93e360440e9147998b8241c8a43ab8", func := "crossband/crossbandlaw11.MatchTurned", spec := "matchTurned", unfollowed := true, recurses := true, plainKeys := false, apart := false }
def MatchTurnedSaid : Prop := matchTurnedRow.holds Tryz.pinned (OpenSpec.ofChange matchTurnedSpec)

/-- ITS FALSE NEIGHBOUR: 'it returns false'. Refute it at one input. -/
def matchTurnedWrong : ChangeSpec := { name := "matchTurned", fn := fun _ => fun
  | [d1, d2, d3] => { results := [.lit (.bool false)], args := [d1, d2, d3] }
  | _ => none }
def MatchTurnedWrongFalsely : Prop := matchTurnedRow.holds Tryz.pinned (OpenSpec.ofChange matchTurnedWrong)

/-- 'crossbandlaw11.MatchJoin': WHATEVER THE INPUT: true; the input reads as it did. -/
def matchJoinSpec : ChangeSpec := { name := "matchJoin", fn := fun _ => fun
  | [d1, d2] => { results := [.lit (.bool true)], args := [d1, d2] }
  | _ => none }
def matchJoinRow : OpenClaim := { program := "ytfakoboiahbhaaagreat", sum := "02f1686dba936892b6a0b33ce113278b7c93e360440e9147998b8241c8a43ab8", func := "crossband/crossbandlaw11.MatchJoin", spec := "matchJoin", unfollowed := true, recurses := true, plainKeys := false, apart := false }
def MatchJoinSaid : Prop := matchJoinRow.holds Tryz.pinned (OpenSpec.ofChange matchJoinSpec)

/-- ITS FALSE NEIGHBOUR: 'it returns false'. Refute it at one input. -/
def matchJoinWrong : ChangeSpec := { name := "matchJoin", fn := fun _ => fun
  | [d1, d2] => { results := [.lit (.bool false)], args := [d1, d2] }
  | _ => none }
def MatchJoinWrongFalsely : Prop := matchJoinRow.holds Tryz.pinned (OpenSpec.ofChange matchJoinWrong)

/-- 'crossbandlaw11.MatchChain': WHATEVER THE INPUT: true; the input reads as it did. -/
def matchChainSpec : ChangeSpec := { name := "matchChain", fn := fun _ => fun
  | [d1, d2, d3] => { results := [.lit (.bool true)], args := [d1, d2, d3] }
  | _ => none }
def matchChainRow : OpenClaim := { program := "ytfakoboiahbhaaagreat", sum := "02f1686dba936892b6a0b33ce113278b7c93e360440e9147998b8241c8a43ab8", func := "crossband/crossbandlaw11.MatchChain", spec := "matchChain", unfollowed := true, recurses := true, plainKeys := false, apart := false }
def MatchChainSaid : Prop := matchChainRow.holds Tryz.pinned (OpenSpec.ofChange matchChainSpec)

/-- ITS FALSE NEIGHBOUR: 'it returns false'. Refute it at one input. -/
def matchChainWrong : ChangeSpec := { name := "matchChain", fn := fun _ => fun
  | [d1, d2, d3] => { results := [.lit (.bool false)], args := [d1, d2, d3] }
  | _ => none }
def MatchChainWrongFalsely : Prop := matchChainRow.holds Tryz.pinned (OpenSpec.ofChange matchChainWrong)

/-- 'crossbandlaw11.MatchApart': WHATEVER THE INPUT: true; the input reads as it did. -/
def matchApartSpec : ChangeSpec := { name := "matchApart", fn := fun _ => fun
  | [d1, d2] => { results := [.lit (.bool true)], args := [d1, d2] }
  | _ => none }
def matchApartRow : OpenClaim := { program := "ytfakoboiahbhaaagreat", sum := "02f1686dba936892b6a0b33ce113278b7c93e360440e9147998b8241c8a43ab8", func := "crossband/crossbandlaw11.MatchApart", spec := "matchApart", unfollowed := true, recurses := true, plainKeys := false, apart := false }
def MatchApartSaid : Prop := matchApartRow.holds Tryz.pinned (OpenSpec.ofChange matchApartSpec)

/-- ITS FALSE NEIGHBOUR: 'it returns false'. Refute it at one input. -/
def matchApartWrong : ChangeSpec := { name := "matchApart", fn := fun _ => fun
  | [d1, d2] => { results := [.lit (.bool false)], args := [d1, d2] }
  | _ => none }
def MatchApartWrongFalsely : Prop := matchApartRow.holds Tryz.pinned (OpenSpec.ofChange matchApartWrong)

/-- 'crossbandlaw11.MatchKnown': WHATEVER THE INPUT: true; the input reads as it did. -/
def matchKnownSpec : ChangeSpec := { name := "matchKnown", fn := fun _ => fun
  | [] => { results := [.lit (.bool true)], args := [] }
  | _ => none }
def matchKnownRow : OpenClaim := { program := "ytfakoboiahbhaaagreat", sum := "02f1686dba936892b6a0b33ce113278b7c93e360440e9147998b8241c8a43ab8", func := "crossband/crossbandlaw11.MatchKnown", spec := "matchKnown", unfollowed := true, recurses := true, plainKeys := false, apart := false }
def MatchKnownSaid : Prop := matchKnownRow.holds Tryz.pinned (OpenSpec.ofChange matchKnownSpec)

/-- ITS FALSE NEIGHBOUR: 'it returns false'. Refute it at one input. -/
def matchKnownWrong : ChangeSpec := { name := "matchKnown", fn := fun _ => fun
  | [] => { results := [.lit (.bool false)], args := [] }
  | _ => none }
def MatchKnownWrongFalsely : Prop := matchKnownRow.holds Tryz.pinned (OpenSpec.ofChange matchKnownWrong)

/- THE SECOND FORM. 'bulk': how many values and letters a reading holds, each counted each time it is reached (what is shared counts as often as it is met; a slice's spare places count too). A statement '..UptoSaid' is the law's where the arguments, and the package variables that the reading takes, are together of bulk at most 1048576: NARROWER than '..Said'. Prove '..Said' where nothing that the law and all that it calls make is longer than what came in: it says more and counts as full. Else prove '..UptoSaid'. A law counts once. -/
mutual
def uptoBulk {H : Type} : DataW H → Nat
  | .lit (.string bytes) => bytes.length + 1
  | .lit _ => 1
  | .nil => 1
  | .ptr d => uptoBulk d + 1
  | .slice elems spare => uptoBulkAll elems + uptoBulkAll spare + 1
  | .agg parts => uptoBulkAll parts + 1
  | .iface _ d => uptoBulk d + 1
  | .map entries => uptoBulkEntries entries + 1
  | .held _ => 1
def uptoBulkAll {H : Type} : List (DataW H) → Nat
  | [] => 0
  | d :: r => uptoBulk d + uptoBulkAll r
def uptoBulkEntries {H : Type} : List (Lit × DataW H) → Nat
  | [] => 0
  | x :: r => uptoBulkEntry x + uptoBulkEntries r
def uptoBulkEntry {H : Type} : Lit × DataW H → Nat
  | (.string bytes, d) => bytes.length + uptoBulk d + 1
  | (_, d) => uptoBulk d + 1
 end
def uptoSmall : (H : Type) → List (DataW H) → Bool := fun _ ds => decide (uptoBulkAll ds ≤ 1048576)
def OpenSpec.upto (s : _root_.Go.ChangeSpec) : _root_.Go.OpenSpec := { _root_.Go.OpenSpec.ofChange s with cond := some uptoSmall }

/-- 'crossbandlaw11.MatchRows', WHERE WHAT IT READS IS OF BULK AT MOST 1048576: true; the input reads as it did. -/
def matchRowsUptoRow : OpenClaim := { program := "ytfakoboiahbhaaagreat", sum := "02f1686dba936892b6a0b33ce113278b7c93e360440e9147998b8241c8a43ab8", func := "crossband/crossbandlaw11.MatchRows", spec := "matchRows", unfollowed := true, recurses := true, plainKeys := false, apart := false, narrowed := true }
def MatchRowsUptoSaid : Prop := matchRowsUptoRow.holds Tryz.pinned (OpenSpec.upto matchRowsSpec)

/-- 'crossbandlaw11.MatchParts', WHERE WHAT IT READS IS OF BULK AT MOST 1048576: true; the input reads as it did. -/
def matchPartsUptoRow : OpenClaim := { program := "ytfakoboiahbhaaagreat", sum := "02f1686dba936892b6a0b33ce113278b7c93e360440e9147998b8241c8a43ab8", func := "crossband/crossbandlaw11.MatchParts", spec := "matchParts", unfollowed := true, recurses := true, plainKeys := false, apart := false, narrowed := true }
def MatchPartsUptoSaid : Prop := matchPartsUptoRow.holds Tryz.pinned (OpenSpec.upto matchPartsSpec)

/-- 'crossbandlaw11.MatchFewests', WHERE WHAT IT READS IS OF BULK AT MOST 1048576: true; the input reads as it did. -/
def matchFewestsUptoRow : OpenClaim := { program := "ytfakoboiahbhaaagreat", sum := "02f1686dba936892b6a0b33ce113278b7c93e360440e9147998b8241c8a43ab8", func := "crossband/crossbandlaw11.MatchFewests", spec := "matchFewests", unfollowed := true, recurses := true, plainKeys := false, apart := false, narrowed := true }
def MatchFewestsUptoSaid : Prop := matchFewestsUptoRow.holds Tryz.pinned (OpenSpec.upto matchFewestsSpec)

/-- 'crossbandlaw11.MatchChains', WHERE WHAT IT READS IS OF BULK AT MOST 1048576: true; the input reads as it did. -/
def matchChainsUptoRow : OpenClaim := { program := "ytfakoboiahbhaaagreat", sum := "02f1686dba936892b6a0b33ce113278b7c93e360440e9147998b8241c8a43ab8", func := "crossband/crossbandlaw11.MatchChains", spec := "matchChains", unfollowed := true, recurses := true, plainKeys := false, apart := false, narrowed := true }
def MatchChainsUptoSaid : Prop := matchChainsUptoRow.holds Tryz.pinned (OpenSpec.upto matchChainsSpec)

/-- 'crossbandlaw11.MatchProved', WHERE WHAT IT READS IS OF BULK AT MOST 1048576: true; the input reads as it did. -/
def matchProvedUptoRow : OpenClaim := { program := "ytfakoboiahbhaaagreat", sum := "02f1686dba936892b6a0b33ce113278b7c93e360440e9147998b8241c8a43ab8", func := "crossband/crossbandlaw11.MatchProved", spec := "matchProved", unfollowed := true, recurses := true, plainKeys := false, apart := false, narrowed := true }
def MatchProvedUptoSaid : Prop := matchProvedUptoRow.holds Tryz.pinned (OpenSpec.upto matchProvedSpec)

/-- 'crossbandlaw11.MatchEither', WHERE WHAT IT READS IS OF BULK AT MOST 1048576: true; the input reads as it did. -/
def matchEitherUptoRow : OpenClaim := { program := "ytfakoboiahbhaaagreat", sum := "02f1686dba936892b6a0b33ce113278b7c93e360440e9147998b8241c8a43ab8", func := "crossband/crossbandlaw11.MatchEither", spec := "matchEither", unfollowed := true, recurses := true, plainKeys := false, apart := false, narrowed := true }
def MatchEitherUptoSaid : Prop := matchEitherUptoRow.holds Tryz.pinned (OpenSpec.upto matchEitherSpec)

/-- 'crossbandlaw11.MatchMissing', WHERE WHAT IT READS IS OF BULK AT MOST 1048576: true; the input reads as it did. -/
def matchMissingUptoRow : OpenClaim := { program := "ytfakoboiahbhaaagreat", sum := "02f1686dba936892b6a0b33ce113278b7c93e360440e9147998b8241c8a43ab8", func := "crossband/crossbandlaw11.MatchMissing", spec := "matchMissing", unfollowed := true, recurses := true, plainKeys := false, apart := false, narrowed := true }
def MatchMissingUptoSaid : Prop := matchMissingUptoRow.holds Tryz.pinned (OpenSpec.upto matchMissingSpec)

/-- 'crossbandlaw11.MatchMore', WHERE WHAT IT READS IS OF BULK AT MOST 1048576: true; the input reads as it did. -/
def matchMoreUptoRow : OpenClaim := { program := "ytfakoboiahbhaaagreat", sum := "02f1686dba936892b6a0b33ce113278b7c93e360440e9147998b8241c8a43ab8", func := "crossband/crossbandlaw11.MatchMore", spec := "matchMore", unfollowed := true, recurses := true, plainKeys := false, apart := false, narrowed := true }
def MatchMoreUptoSaid : Prop := matchMoreUptoRow.holds Tryz.pinned (OpenSpec.upto matchMoreSpec)

/-- 'crossbandlaw11.MatchTurned', WHERE WHAT IT READS IS OF BULK AT MOST 1048576: true; the input reads as it did. -/
def matchTurnedUptoRow : OpenClaim := { program := "ytfakoboiahbhaaagreat", sum := "02f1686dba936892b6a0b33ce113278b7c93e360440e9147998b8241c8a43ab8", func := "crossband/crossbandlaw11.MatchTurned", spec := "matchTurned", unfollowed := true, recurses := true, plainKeys := false, apart := false, narrowed := true }
def MatchTurnedUptoSaid : Prop := matchTurnedUptoRow.holds Tryz.pinned (OpenSpec.upto matchTurnedSpec)

/-- 'crossbandlaw11.MatchJoin', WHERE WHAT IT READS IS OF BULK AT MOST 1048576: true; the input reads as it did. -/
def matchJoinUptoRow : OpenClaim := { program := "ytfakoboiahbhaaagreat", sum := "02f1686dba936892b6a0b33ce113278b7c93e360440e9147998b8241c8a43ab8", func := "crossband/crossbandlaw11.MatchJoin", spec := "matchJoin", unfollowed := true, recurses := true, plainKeys := false, apart := false, narrowed := true }
def MatchJoinUptoSaid : Prop := matchJoinUptoRow.holds Tryz.pinned (OpenSpec.upto matchJoinSpec)

/-- 'crossbandlaw11.MatchChain', WHERE WHAT IT READS IS OF BULK AT MOST 1048576: true; the input reads as it did. -/
def matchChainUptoRow : OpenClaim := { program := "ytfakoboiahbhaaagreat", sum := "02f1686dba936892b6a0b33ce113278b7c93e360440e9147998b8241c8a43ab8", func := "crossband/crossbandlaw11.MatchChain", spec := "matchChain", unfollowed := true, recurses := true, plainKeys := false, apart := false, narrowed := true }
def MatchChainUptoSaid : Prop := matchChainUptoRow.holds Tryz.pinned (OpenSpec.upto matchChainSpec)

/-- 'crossbandlaw11.MatchApart', WHERE WHAT IT READS IS OF BULK AT MOST 1048576: true; the input reads as it did. -/
def matchApartUptoRow : OpenClaim := { program := "ytfakoboiahbhaaagreat", sum := "02f1686dba936892b6a0b33ce113278b7c93e360440e9147998b8241c8a43ab8", func := "crossband/crossbandlaw11.MatchApart", spec := "matchApart", unfollowed := true, recurses := true, plainKeys := false, apart := false, narrowed := true }
def MatchApartUptoSaid : Prop := matchApartUptoRow.holds Tryz.pinned (OpenSpec.upto matchApartSpec)

/-- 'crossbandlaw11.MatchKnown', WHERE WHAT IT READS IS OF BULK AT MOST 1048576: true; the input reads as it did. -/
def matchKnownUptoRow : OpenClaim := { program := "ytfakoboiahbhaaagreat", sum := "02f1686dba936892b6a0b33ce113278b7c93e360440e9147998b8241c8a43ab8", func := "crossband/crossbandlaw11.MatchKnown", spec := "matchKnown", unfollowed := true, recurses := true, plainKeys := false, apart := false, narrowed := true }
def MatchKnownUptoSaid : Prop := matchKnownUptoRow.holds Tryz.pinned (OpenSpec.upto matchKnownSpec)

end Rows
end Go.Proofs.YtfakoboiahbhaaaGreat
