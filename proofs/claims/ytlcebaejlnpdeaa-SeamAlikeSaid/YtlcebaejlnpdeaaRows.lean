/-
  No cell of these rows narrows 'for every input' (looked for: loops, veiled, ifaces, maps, wideKeys, modest, calm, conditions, laid).
  DERIVED. THE GIVEN ROWS OF THIS SEAT. 15 by the template 'for every input the law returns true; each argument reads behind the call as it read before'; 0 by the template 'total and deterministic' (their statements: YtlcebaejlnpdeaaTotals.lean).
  GIVEN WITH THE SEED: the statements are not yours to turn. If you find one false, say at which input.
  Laid BY PROGRAM, IN A SANDBOX (cutbox-rows.mjs): the forced cells as the released guide's own fill.sh prints them over the translation 84e709bec6d75b20… (all of the seat's roots in one cut). By AI agents, Wed Nov 11 2026. No macro, syntax, notation, axiom, sorry.
-/
import Derived.Test.YtlcebaejlnpdeaaChecked
import GoSem.Claim
import GoSem.ClaimJoined
import GoSem.ClaimMapViews
import Derived.JoinedTies
import Derived.KernelRfl
namespace Go.Proofs.Ytlcebaejlnpdeaa
/- THE CELL 'sum', in the pinned program and in every row, IS THE sha256 OF THE DUMP (.gsa) THAT YtlcebaejlnpdeaaProg.lean LOADS. Nothing in Lean hashes anything: it is a label: what it is worth is what the hold of that sum in a sandbox is worth. -/
noncomputable def Try.pinned : Pinned := { name := "ytlcebaejlnpdeaa", sum := "84e709bec6d75b20392210adff81dcc9cab1bd843fd8eb4f93bdf3a3e20bd9e0", checked := Try.checked }
namespace Rows
def none {H : Type} : Left H := { results := [], args := [] }

/-- 'crossbandlaw05.SeamPanels': WHATEVER THE INPUT: true; the input reads as it did. -/
def seamPanelsSpec : ChangeSpec := { name := "seamPanels", fn := fun _ => fun
  | [d1, d2] => { results := [.lit (.bool true)], args := [d1, d2] }
  | _ => none }
def seamPanelsRow : OpenClaim := { program := "ytlcebaejlnpdeaa", sum := "84e709bec6d75b20392210adff81dcc9cab1bd843fd8eb4f93bdf3a3e20bd9e0", func := "crossband/crossbandlaw05.SeamPanels", spec := "seamPanels", unfollowed := true, recurses := true, plainKeys := false, apart := false }
def SeamPanelsSaid : Prop := seamPanelsRow.holds Try.pinned (OpenSpec.ofChange seamPanelsSpec)

/-- ITS FALSE NEIGHBOUR: 'it returns false'. Refute it at one input. -/
def seamPanelsWrong : ChangeSpec := { name := "seamPanels", fn := fun _ => fun
  | [d1, d2] => { results := [.lit (.bool false)], args := [d1, d2] }
  | _ => none }
def SeamPanelsWrongFalsely : Prop := seamPanelsRow.holds Try.pinned (OpenSpec.ofChange seamPanelsWrong)

/-- 'crossbandlaw05.SeamThroughs': WHATEVER THE INPUT: true; the input reads as it did. -/
def seamThroughsSpec : ChangeSpec := { name := "seamThroughs", fn := fun _ => fun
  | [d1, d2] => { results := [.lit (.bool true)], args := [d1, d2] }
  | _ => none }
def seamThroughsRow : OpenClaim := { program := "ytlcebaejlnpdeaa", sum := "84e709bec6d75b20392210adff81dcc9cab1bd843fd8eb4f93bdf3a3e20bd9e0", func := "crossband/crossbandlaw05.SeamThroughs", spec := "seamThroughs", unfollowed := true, recurses := true, plainKeys := false, apart := false }
def SeamThroughsSaid : Prop := seamThroughsRow.holds Try.pinned (OpenSpec.ofChange seamThroughsSpec)

/-- ITS FALSE NEIGHBOUR: 'it returns false'. Refute it at one input. -/
def seamThroughsWrong : ChangeSpec := { name := "seamThroughs", fn := fun _ => fun
  | [d1, d2] => { results := [.lit (.bool false)], args := [d1, d2] }
  | _ => none }
def SeamThroughsWrongFalsely : Prop := seamThroughsRow.holds Try.pinned (OpenSpec.ofChange seamThroughsWrong)

/-- 'crossbandlaw05.SeamFewests': WHATEVER THE INPUT: true; the input reads as it did. -/
def seamFewestsSpec : ChangeSpec := { name := "seamFewests", fn := fun _ => fun
  | [d1, d2] => { results := [.lit (.bool true)], args := [d1, d2] }
  | _ => none }
def seamFewestsRow : OpenClaim := { program := "ytlcebaejlnpdeaa", sum := "84e709bec6d75b20392210adff81dcc9cab1bd843fd8eb4f93bdf3a3e20bd9e0", func := "crossband/crossbandlaw05.SeamFewests", spec := "seamFewests", unfollowed := true, recurses := true, plainKeys := false, apart := false }
def SeamFewestsSaid : Prop := seamFewestsRow.holds Try.pinned (OpenSpec.ofChange seamFewestsSpec)

/-- ITS FALSE NEIGHBOUR: 'it returns false'. Refute it at one input. -/
def seamFewestsWrong : ChangeSpec := { name := "seamFewests", fn := fun _ => fun
  | [d1, d2] => { results := [.lit (.bool false)], args := [d1, d2] }
  | _ => none }
def SeamFewestsWrongFalsely : Prop := seamFewestsRow.holds Try.pinned (OpenSpec.ofChange seamFewestsWrong)

/-- 'crossbandlaw05.SeamSums': WHATEVER THE INPUT: true; the input reads as it did. -/
def seamSumsSpec : ChangeSpec := { name := "seamSums", fn := fun _ => fun
  | [d1, d2] => { results := [.lit (.bool true)], args := [d1, d2] }
  | _ => none }
def seamSumsRow : OpenClaim := { program := "ytlcebaejlnpdeaa", sum := "84e709bec6d75b20392210adff81dcc9cab1bd843fd8eb4f93bdf3a3e20bd9e0", func := "crossband/crossbandlaw05.SeamSums", spec := "seamSums", unfollowed := true, recurses := true, plainKeys := false, apart := false }
def SeamSumsSaid : Prop := seamSumsRow.holds Try.pinned (OpenSpec.ofChange seamSumsSpec)

/-- ITS FALSE NEIGHBOUR: 'it returns false'. Refute it at one input. -/
def seamSumsWrong : ChangeSpec := { name := "seamSums", fn := fun _ => fun
  | [d1, d2] => { results := [.lit (.bool false)], args := [d1, d2] }
  | _ => none }
def SeamSumsWrongFalsely : Prop := seamSumsRow.holds Try.pinned (OpenSpec.ofChange seamSumsWrong)

/-- 'crossbandlaw05.SeamFars': WHATEVER THE INPUT: true; the input reads as it did. -/
def seamFarsSpec : ChangeSpec := { name := "seamFars", fn := fun _ => fun
  | [d1, d2] => { results := [.lit (.bool true)], args := [d1, d2] }
  | _ => none }
def seamFarsRow : OpenClaim := { program := "ytlcebaejlnpdeaa", sum := "84e709bec6d75b20392210adff81dcc9cab1bd843fd8eb4f93bdf3a3e20bd9e0", func := "crossband/crossbandlaw05.SeamFars", spec := "seamFars", unfollowed := true, recurses := true, plainKeys := false, apart := false }
def SeamFarsSaid : Prop := seamFarsRow.holds Try.pinned (OpenSpec.ofChange seamFarsSpec)

/-- ITS FALSE NEIGHBOUR: 'it returns false'. Refute it at one input. -/
def seamFarsWrong : ChangeSpec := { name := "seamFars", fn := fun _ => fun
  | [d1, d2] => { results := [.lit (.bool false)], args := [d1, d2] }
  | _ => none }
def SeamFarsWrongFalsely : Prop := seamFarsRow.holds Try.pinned (OpenSpec.ofChange seamFarsWrong)

/-- 'crossbandlaw05.SeamProved': WHATEVER THE INPUT: true; the input reads as it did. -/
def seamProvedSpec : ChangeSpec := { name := "seamProved", fn := fun _ => fun
  | [d1, d2] => { results := [.lit (.bool true)], args := [d1, d2] }
  | _ => none }
def seamProvedRow : OpenClaim := { program := "ytlcebaejlnpdeaa", sum := "84e709bec6d75b20392210adff81dcc9cab1bd843fd8eb4f93bdf3a3e20bd9e0", func := "crossband/crossbandlaw05.SeamProved", spec := "seamProved", unfollowed := true, recurses := true, plainKeys := false, apart := false }
def SeamProvedSaid : Prop := seamProvedRow.holds Try.pinned (OpenSpec.ofChange seamProvedSpec)

/-- ITS FALSE NEIGHBOUR: 'it returns false'. Refute it at one input. -/
def seamProvedWrong : ChangeSpec := { name := "seamProved", fn := fun _ => fun
  | [d1, d2] => { results := [.lit (.bool false)], args := [d1, d2] }
  | _ => none }
def SeamProvedWrongFalsely : Prop := seamProvedRow.holds Try.pinned (OpenSpec.ofChange seamProvedWrong)

/-- 'crossbandlaw05.SeamMade': WHATEVER THE INPUT: true; the input reads as it did. -/
def seamMadeSpec : ChangeSpec := { name := "seamMade", fn := fun _ => fun
  | [d1, d2, d3] => { results := [.lit (.bool true)], args := [d1, d2, d3] }
  | _ => none }
def seamMadeRow : OpenClaim := { program := "ytlcebaejlnpdeaa", sum := "84e709bec6d75b20392210adff81dcc9cab1bd843fd8eb4f93bdf3a3e20bd9e0", func := "crossband/crossbandlaw05.SeamMade", spec := "seamMade", unfollowed := true, recurses := true, plainKeys := false, apart := false }
def SeamMadeSaid : Prop := seamMadeRow.holds Try.pinned (OpenSpec.ofChange seamMadeSpec)

/-- ITS FALSE NEIGHBOUR: 'it returns false'. Refute it at one input. -/
def seamMadeWrong : ChangeSpec := { name := "seamMade", fn := fun _ => fun
  | [d1, d2, d3] => { results := [.lit (.bool false)], args := [d1, d2, d3] }
  | _ => none }
def SeamMadeWrongFalsely : Prop := seamMadeRow.holds Try.pinned (OpenSpec.ofChange seamMadeWrong)

/-- 'crossbandlaw05.SeamReached': WHATEVER THE INPUT: true; the input reads as it did. -/
def seamReachedSpec : ChangeSpec := { name := "seamReached", fn := fun _ => fun
  | [d1, d2, d3] => { results := [.lit (.bool true)], args := [d1, d2, d3] }
  | _ => none }
def seamReachedRow : OpenClaim := { program := "ytlcebaejlnpdeaa", sum := "84e709bec6d75b20392210adff81dcc9cab1bd843fd8eb4f93bdf3a3e20bd9e0", func := "crossband/crossbandlaw05.SeamReached", spec := "seamReached", unfollowed := true, recurses := true, plainKeys := false, apart := false }
def SeamReachedSaid : Prop := seamReachedRow.holds Try.pinned (OpenSpec.ofChange seamReachedSpec)

/-- ITS FALSE NEIGHBOUR: 'it returns false'. Refute it at one input. -/
def seamReachedWrong : ChangeSpec := { name := "seamReached", fn := fun _ => fun
  | [d1, d2, d3] => { results := [.lit (.bool false)], args := [d1, d2, d3] }
  | _ => none }
def SeamReachedWrongFalsely : Prop := seamReachedRow.holds Try.pinned (OpenSpec.ofChange seamReachedWrong)

/-- 'crossbandlaw05.SeamFar': WHATEVER THE INPUT: true; the input reads as it did. -/
def seamFarSpec : ChangeSpec := { name := "seamFar", fn := fun _ => fun
  | [d1, d2] => { results := [.lit (.bool true)], args := [d1, d2] }
  | _ => none }
def seamFarRow : OpenClaim := { program := "ytlcebaejlnpdeaa", sum := "84e709bec6d75b20392210adff81dcc9cab1bd843fd8eb4f93bdf3a3e20bd9e0", func := "crossband/crossbandlaw05.SeamFar", spec := "seamFar", unfollowed := true, recurses := true, plainKeys := false, apart := false }
def SeamFarSaid : Prop := seamFarRow.holds Try.pinned (OpenSpec.ofChange seamFarSpec)

/-- ITS FALSE NEIGHBOUR: 'it returns false'. Refute it at one input. -/
def seamFarWrong : ChangeSpec := { name := "seamFar", fn := fun _ => fun
  | [d1, d2] => { results := [.lit (.bool false)], args := [d1, d2] }
  | _ => none }
def SeamFarWrongFalsely : Prop := seamFarRow.holds Try.pinned (OpenSpec.ofChange seamFarWrong)

/-- 'crossbandlaw05.SeamTurned': WHATEVER THE INPUT: true; the input reads as it did. -/
def seamTurnedSpec : ChangeSpec := { name := "seamTurned", fn := fun _ => fun
  | [d1, d2] => { results := [.lit (.bool true)], args := [d1, d2] }
  | _ => none }
def seamTurnedRow : OpenClaim := { program := "ytlcebaejlnpdeaa", sum := "84e709bec6d75b20392210adff81dcc9cab1bd843fd8eb4f93bdf3a3e20bd9e0", func := "crossband/crossbandlaw05.SeamTurned", spec := "seamTurned", unfollowed := true, recurses := true, plainKeys := false, apart := false }
def SeamTurnedSaid : Prop := seamTurnedRow.holds Try.pinned (OpenSpec.ofChange seamTurnedSpec)

/-- ITS FALSE NEIGHBOUR: 'it returns false'. Refute it at one input. -/
def seamTurnedWrong : ChangeSpec := { name := "seamTurned", fn := fun _ => fun
  | [d1, d2] => { results := [.lit (.bool false)], args := [d1, d2] }
  | _ => none }
def SeamTurnedWrongFalsely : Prop := seamTurnedRow.holds Try.pinned (OpenSpec.ofChange seamTurnedWrong)

/-- 'crossbandlaw05.SeamUpside': WHATEVER THE INPUT: true; the input reads as it did. -/
def seamUpsideSpec : ChangeSpec := { name := "seamUpside", fn := fun _ => fun
  | [d1, d2] => { results := [.lit (.bool true)], args := [d1, d2] }
  | _ => none }
def seamUpsideRow : OpenClaim := { program := "ytlcebaejlnpdeaa", sum := "84e709bec6d75b20392210adff81dcc9cab1bd843fd8eb4f93bdf3a3e20bd9e0", func := "crossband/crossbandlaw05.SeamUpside", spec := "seamUpside", unfollowed := true, recurses := true, plainKeys := false, apart := false }
def SeamUpsideSaid : Prop := seamUpsideRow.holds Try.pinned (OpenSpec.ofChange seamUpsideSpec)

/-- ITS FALSE NEIGHBOUR: 'it returns false'. Refute it at one input. -/
def seamUpsideWrong : ChangeSpec := { name := "seamUpside", fn := fun _ => fun
  | [d1, d2] => { results := [.lit (.bool false)], args := [d1, d2] }
  | _ => none }
def SeamUpsideWrongFalsely : Prop := seamUpsideRow.holds Try.pinned (OpenSpec.ofChange seamUpsideWrong)

/-- 'crossbandlaw05.SeamScaled': WHATEVER THE INPUT: true; the input reads as it did. -/
def seamScaledSpec : ChangeSpec := { name := "seamScaled", fn := fun _ => fun
  | [d1, d2, d3] => { results := [.lit (.bool true)], args := [d1, d2, d3] }
  | _ => none }
def seamScaledRow : OpenClaim := { program := "ytlcebaejlnpdeaa", sum := "84e709bec6d75b20392210adff81dcc9cab1bd843fd8eb4f93bdf3a3e20bd9e0", func := "crossband/crossbandlaw05.SeamScaled", spec := "seamScaled", unfollowed := true, recurses := true, plainKeys := false, apart := false }
def SeamScaledSaid : Prop := seamScaledRow.holds Try.pinned (OpenSpec.ofChange seamScaledSpec)

/-- ITS FALSE NEIGHBOUR: 'it returns false'. Refute it at one input. -/
def seamScaledWrong : ChangeSpec := { name := "seamScaled", fn := fun _ => fun
  | [d1, d2, d3] => { results := [.lit (.bool false)], args := [d1, d2, d3] }
  | _ => none }
def SeamScaledWrongFalsely : Prop := seamScaledRow.holds Try.pinned (OpenSpec.ofChange seamScaledWrong)

/-- 'crossbandlaw05.SeamFewer': WHATEVER THE INPUT: true; the input reads as it did. -/
def seamFewerSpec : ChangeSpec := { name := "seamFewer", fn := fun _ => fun
  | [d] => { results := [.lit (.bool true)], args := [d] }
  | _ => none }
def seamFewerRow : OpenClaim := { program := "ytlcebaejlnpdeaa", sum := "84e709bec6d75b20392210adff81dcc9cab1bd843fd8eb4f93bdf3a3e20bd9e0", func := "crossband/crossbandlaw05.SeamFewer", spec := "seamFewer", unfollowed := true, recurses := true, plainKeys := false, apart := false }
def SeamFewerSaid : Prop := seamFewerRow.holds Try.pinned (OpenSpec.ofChange seamFewerSpec)

/-- ITS FALSE NEIGHBOUR: 'it returns false'. Refute it at one input. -/
def seamFewerWrong : ChangeSpec := { name := "seamFewer", fn := fun _ => fun
  | [d] => { results := [.lit (.bool false)], args := [d] }
  | _ => none }
def SeamFewerWrongFalsely : Prop := seamFewerRow.holds Try.pinned (OpenSpec.ofChange seamFewerWrong)

/-- 'crossbandlaw05.SeamAlike': WHATEVER THE INPUT: true; the input reads as it did. -/
def seamAlikeSpec : ChangeSpec := { name := "seamAlike", fn := fun _ => fun
  | [d1, d2, d3, d4] => { results := [.lit (.bool true)], args := [d1, d2, d3, d4] }
  | _ => none }
def seamAlikeRow : OpenClaim := { program := "ytlcebaejlnpdeaa", sum := "84e709bec6d75b20392210adff81dcc9cab1bd843fd8eb4f93bdf3a3e20bd9e0", func := "crossband/crossbandlaw05.SeamAlike", spec := "seamAlike", unfollowed := true, recurses := true, plainKeys := false, apart := false }
def SeamAlikeSaid : Prop := seamAlikeRow.holds Try.pinned (OpenSpec.ofChange seamAlikeSpec)

/-- ITS FALSE NEIGHBOUR: 'it returns false'. Refute it at one input. -/
def seamAlikeWrong : ChangeSpec := { name := "seamAlike", fn := fun _ => fun
  | [d1, d2, d3, d4] => { results := [.lit (.bool false)], args := [d1, d2, d3, d4] }
  | _ => none }
def SeamAlikeWrongFalsely : Prop := seamAlikeRow.holds Try.pinned (OpenSpec.ofChange seamAlikeWrong)

/-- 'crossbandlaw05.SeamKnown': WHATEVER THE INPUT: true; the input reads as it did. -/
def seamKnownSpec : ChangeSpec := { name := "seamKnown", fn := fun _ => fun
  | [] => { results := [.lit (.bool true)], args := [] }
  | _ => none }
def seamKnownRow : OpenClaim := { program := "ytlcebaejlnpdeaa", sum := "84e709bec6d75b20392210adff81dcc9cab1bd843fd8eb4f93bdf3a3e20bd9e0", func := "crossband/crossbandlaw05.SeamKnown", spec := "seamKnown", unfollowed := true, recurses := true, plainKeys := false, apart := false }
def SeamKnownSaid : Prop := seamKnownRow.holds Try.pinned (OpenSpec.ofChange seamKnownSpec)

/-- ITS FALSE NEIGHBOUR: 'it returns false'. Refute it at one input. -/
def seamKnownWrong : ChangeSpec := { name := "seamKnown", fn := fun _ => fun
  | [] => { results := [.lit (.bool false)], args := [] }
  | _ => none }
def SeamKnownWrongFalsely : Prop := seamKnownRow.holds Try.pinned (OpenSpec.ofChange seamKnownWrong)

/- THE SECOND FORM. 'bulk': how many values and letters a reading holds, each counted each time it is reached (what is shared counts as often as it is met; a slice's spare places count too). A statement '..UptoSaid' is the law's where the arguments, and the package variables that the reading takes, are together of bulk at most 1048576: NARROWER than '..Said'. Prove '..Said' where nothing that the law and all that it calls make is longer than what came in: it says more and counts as full. Else prove '..UptoSaid'. A law counts once. -/
mutual
def uptoBulk {H : Type} : DataW H → Nat
  | .lit (.string bytes) => bytes.length + 1
  | .lit _ => 1
  | .nil => 1
  | .ptr d => uptoBulk d + 1
  | .slice elems spare => uptoBulkAll elems + uptoBulkAll spare + 1
  | .agg parts => uptoBulkAll parts + 1
  | .iface _ d => uptoBulk d + 1
  | .map entries => uptoBulkEntries entries + 1
  | .held _ => 1
def uptoBulkAll {H : Type} : List (DataW H) → Nat
  | [] => 0
  | d :: r => uptoBulk d + uptoBulkAll r
def uptoBulkEntries {H : Type} : List (Lit × DataW H) → Nat
  | [] => 0
  | x :: r => uptoBulkEntry x + uptoBulkEntries r
def uptoBulkEntry {H : Type} : Lit × DataW H → Nat
  | (.string bytes, d) => bytes.length + uptoBulk d + 1
  | (_, d) => uptoBulk d + 1
 end
def uptoSmall : (H : Type) → List (DataW H) → Bool := fun _ ds => decide (uptoBulkAll ds ≤ 1048576)
def OpenSpec.upto (s : _root_.Go.ChangeSpec) : _root_.Go.OpenSpec := { _root_.Go.OpenSpec.ofChange s with cond := some uptoSmall }

/-- 'crossbandlaw05.SeamPanels', WHERE WHAT IT READS IS OF BULK AT MOST 1048576: true; the input reads as it did. -/
def seamPanelsUptoRow : OpenClaim := { program := "ytlcebaejlnpdeaa", sum := "84e709bec6d75b20392210adff81dcc9cab1bd843fd8eb4f93bdf3a3e20bd9e0", func := "crossband/crossbandlaw05.SeamPanels", spec := "seamPanels", unfollowed := true, recurses := true, plainKeys := false, apart := false, narrowed := true }
def SeamPanelsUptoSaid : Prop := seamPanelsUptoRow.holds Try.pinned (OpenSpec.upto seamPanelsSpec)

/-- 'crossbandlaw05.SeamThroughs', WHERE WHAT IT READS IS OF BULK AT MOST 1048576: true; the input reads as it did. -/
def seamThroughsUptoRow : OpenClaim := { program := "ytlcebaejlnpdeaa", sum := "84e709bec6d75b20392210adff81dcc9cab1bd843fd8eb4f93bdf3a3e20bd9e0", func := "crossband/crossbandlaw05.SeamThroughs", spec := "seamThroughs", unfollowed := true, recurses := true, plainKeys := false, apart := false, narrowed := true }
def SeamThroughsUptoSaid : Prop := seamThroughsUptoRow.holds Try.pinned (OpenSpec.upto seamThroughsSpec)

/-- 'crossbandlaw05.SeamFewests', WHERE WHAT IT READS IS OF BULK AT MOST 1048576: true; the input reads as it did. -/
def seamFewestsUptoRow : OpenClaim := { program := "ytlcebaejlnpdeaa", sum := "84e709bec6d75b20392210adff81dcc9cab1bd843fd8eb4f93bdf3a3e20bd9e0", func := "crossband/crossbandlaw05.SeamFewests", spec := "seamFewests", unfollowed := true, recurses := true, plainKeys := false, apart := false, narrowed := true }
def SeamFewestsUptoSaid : Prop := seamFewestsUptoRow.holds Try.pinned (OpenSpec.upto seamFewestsSpec)

/-- 'crossbandlaw05.SeamSums', WHERE WHAT IT READS IS OF BULK AT MOST 1048576: true; the input reads as it did. -/
def seamSumsUptoRow : OpenClaim := { program := "ytlcebaejlnpdeaa", sum := "84e709bec6d75b20392210adff81dcc9cab1bd843fd8eb4f93bdf3a3e20bd9e0", func := "crossband/crossbandlaw05.SeamSums", spec := "seamSums", unfollowed := true, recurses := true, plainKeys := false, apart := false, narrowed := true }
def SeamSumsUptoSaid : Prop := seamSumsUptoRow.holds Try.pinned (OpenSpec.upto seamSumsSpec)

/-- 'crossbandlaw05.SeamFars', WHERE WHAT IT READS IS OF BULK AT MOST 1048576: true; the input reads as it did. -/
def seamFarsUptoRow : OpenClaim := { program := "ytlcebaejlnpdeaa", sum := "84e709bec6d75b20392210adff81dcc9cab1bd843fd8eb4f93bdf3a3e20bd9e0", func := "crossband/crossbandlaw05.SeamFars", spec := "seamFars", unfollowed := true, recurses := true, plainKeys := false, apart := false, narrowed := true }
def SeamFarsUptoSaid : Prop := seamFarsUptoRow.holds Try.pinned (OpenSpec.upto seamFarsSpec)

/-- 'crossbandlaw05.SeamProved', WHERE WHAT IT READS IS OF BULK AT MOST 1048576: true; the input reads as it did. -/
def seamProvedUptoRow : OpenClaim := { program := "ytlcebaejlnpdeaa", sum := "84e709bec6d75b20392210adff81dcc9cab1bd843fd8eb4f93bdf3a3e20bd9e0", func := "crossband/crossbandlaw05.SeamProved", spec := "seamProved", unfollowed := true, recurses := true, plainKeys := false, apart := false, narrowed := true }
def SeamProvedUptoSaid : Prop := seamProvedUptoRow.holds Try.pinned (OpenSpec.upto seamProvedSpec)

/-- 'crossbandlaw05.SeamMade', WHERE WHAT IT READS IS OF BULK AT MOST 1048576: true; the input reads as it did. -/
def seamMadeUptoRow : OpenClaim := { program := "ytlcebaejlnpdeaa", sum := "84e709bec6d75b20392210adff81dcc9cab1bd843fd8eb4f93bdf3a3e20bd9e0", func := "crossband/crossbandlaw05.SeamMade", spec := "seamMade", unfollowed := true, recurses := true, plainKeys := false, apart := false, narrowed := true }
def SeamMadeUptoSaid : Prop := seamMadeUptoRow.holds Try.pinned (OpenSpec.upto seamMadeSpec)

/-- 'crossbandlaw05.SeamReached', WHERE WHAT IT READS IS OF BULK AT MOST 1048576: true; the input reads as it did. -/
def seamReachedUptoRow : OpenClaim := { program := "ytlcebaejlnpdeaa", sum := "84e709bec6d75b20392210adff81dcc9cab1bd843fd8eb4f93bdf3a3e20bd9e0", func := "crossband/crossbandlaw05.SeamReached", spec := "seamReached", unfollowed := true, recurses := true, plainKeys := false, apart := false, narrowed := true }
def SeamReachedUptoSaid : Prop := seamReachedUptoRow.holds Try.pinned (OpenSpec.upto seamReachedSpec)

/-- 'crossbandlaw05.SeamFar', WHERE WHAT IT READS IS OF BULK AT MOST 1048576: true; the input reads as it did. -/
def seamFarUptoRow : OpenClaim := { program := "ytlcebaejlnpdeaa", sum := "84e709bec6d75b20392210adff81dcc9cab1bd843fd8eb4f93bdf3a3e20bd9e0", func := "crossband/crossbandlaw05.SeamFar", spec := "seamFar", unfollowed := true, recurses := true, plainKeys := false, apart := false, narrowed := true }
def SeamFarUptoSaid : Prop := seamFarUptoRow.holds Try.pinned (OpenSpec.upto seamFarSpec)

/-- 'crossbandlaw05.SeamTurned', WHERE WHAT IT READS IS OF BULK AT MOST 1048576: true; the input reads as it did. -/
def seamTurnedUptoRow : OpenClaim := { program := "ytlcebaejlnpdeaa", sum := "84e709bec6d75b20392210adff81dcc9cab1bd843fd8eb4f93bdf3a3e20bd9e0", func := "crossband/crossbandlaw05.SeamTurned", spec := "seamTurned", unfollowed := true, recurses := true, plainKeys := false, apart := false, narrowed := true }
def SeamTurnedUptoSaid : Prop := seamTurnedUptoRow.holds Try.pinned (OpenSpec.upto seamTurnedSpec)

/-- 'crossbandlaw05.SeamUpside', WHERE WHAT IT READS IS OF BULK AT MOST 1048576: true; the input reads as it did. -/
def seamUpsideUptoRow : OpenClaim := { program := "ytlcebaejlnpdeaa", sum := "84e709bec6d75b20392210adff81dcc9cab1bd843fd8eb4f93bdf3a3e20bd9e0", func := "crossband/crossbandlaw05.SeamUpside", spec := "seamUpside", unfollowed := true, recurses := true, plainKeys := false, apart := false, narrowed := true }
def SeamUpsideUptoSaid : Prop := seamUpsideUptoRow.holds Try.pinned (OpenSpec.upto seamUpsideSpec)

/-- 'crossbandlaw05.SeamScaled', WHERE WHAT IT READS IS OF BULK AT MOST 1048576: true; the input reads as it did. -/
def seamScaledUptoRow : OpenClaim := { program := "ytlcebaejlnpdeaa", sum := "84e709bec6d75b20392210adff81dcc9cab1bd843fd8eb4f93bdf3a3e20bd9e0", func := "crossband/crossbandlaw05.SeamScaled", spec := "seamScaled", unfollowed := true, recurses := true, plainKeys := false, apart := false, narrowed := true }
def SeamScaledUptoSaid : Prop := seamScaledUptoRow.holds Try.pinned (OpenSpec.upto seamScaledSpec)

/-- 'crossbandlaw05.SeamFewer', WHERE WHAT IT READS IS OF BULK AT MOST 1048576: true; the input reads as it did. -/
def seamFewerUptoRow : OpenClaim := { program := "ytlcebaejlnpdeaa", sum := "84e709bec6d75b20392210adff81dcc9cab1bd843fd8eb4f93bdf3a3e20bd9e0", func := "crossband/crossbandlaw05.SeamFewer", spec := "seamFewer", unfollowed := true, recurses := true, plainKeys := false, apart := false, narrowed := true }
def SeamFewerUptoSaid : Prop := seamFewerUptoRow.holds Try.pinned (OpenSpec.upto seamFewerSpec)

/-- 'crossbandlaw05.SeamAlike', WHERE WHAT IT READS IS OF BULK AT MOST 1048576: true; the input reads as it did. -/
def seamAlikeUptoRow : OpenClaim := { program := "ytlcebaejlnpdeaa", sum := "84e709bec6d75b20392210adff81dcc9cab1bd843fd8eb4f93bdf3a3e20bd9e0", func := "crossband/crossbandlaw05.SeamAlike", spec := "seamAlike", unfollowed := true, recurses := true, plainKeys := false, apart := false, narrowed := true }
def SeamAlikeUptoSaid : Prop := seamAlikeUptoRow.holds Try.pinned (OpenSpec.upto seamAlikeSpec)

/-- 'crossbandlaw05.SeamKnown', WHERE WHAT IT READS IS OF BULK AT MOST 1048576: true; the input reads as it did. -/
def seamKnownUptoRow : OpenClaim := { program := "ytlcebaejlnpdeaa", sum := "84e709bec6d75b20392210adff81dcc9cab1bd843fd8eb4f93bdf3a3e20bd9e0", func := "crossband/crossbandlaw05.SeamKnown", spec := "seamKnown", unfollowed := true, recurses := true, plainKeys := false, apart := false, narrowed := true }
def SeamKnownUptoSaid : Prop := seamKnownUptoRow.holds Try.pinned (OpenSpec.upto seamKnownSpec)

end Rows
end Go.Proofs.Ytlcebaejlnpdeaa
