
import Derived.Test.YtfakoboiahbhaaaGreatRows
import Derived.Test.YtfakoboiahbhaaaGreatJp4
import Derived.Test.YtfakoboiahbhaaaGreatJp11
import Derived.WalkKit
import Derived.ProofKit
set_option linter.unusedSimpArgs false
set_option linter.unusedVariables false
set_option linter.unusedSectionVars false
/-
  akl is true for every input: S1 last step, from S1 aky of S1 function to S1 given row. akm akx.
-/
namespace Go.Proofs.YtfakoboiahbhaaaGreat.Ab
open Go Go.ChangeShapes Go.WideShapes Go.ChangeAt Go.RowKit
theorem afE : ownKnob Tryz.prog.godebug = none := by kernel_rfl
theorem laidOut : laidOutB Tryz.prog = true := by kernel_rfl
theorem ag2 : mapsRowed Tryz.prog = true := by kernel_rfl
theorem acN : ((List.range Tryz.prog.types.size).all fun t => match Tryz.prog.underlying t with | some (.slice e) => decide (0 < Tryz.prog.cellsOf e) | _ => true) = true := by kernel_rfl
set_option maxRecDepth 100000 in
theorem lifted (os : Os) (started : os.Started) (H : Type) (enc : TypeId × Value → H) :
    ReturnsInHanded {} Tryz.checked os 5 .any (Rows.matchFewestsSpec.pre6 enc Tryz.prog Tryz.f5 Rows.matchFewestsRow.domain false) (Rows.matchFewestsSpec.post enc Tryz.prog Tryz.f5 false true false false) := by
  refine returnsInHanded_of_change (C := Tryz.checked) afE started (by kernel_rfl) Tryz.func5
    (ChangeSpec.witness6 (enc := enc) (C := Tryz.checked) false ⟨#[], #[.agg #[.int .i64 0, .slice none 0 0]], []⟩ 8 (by kernel_rfl) (by kernel_rfl) (by kernel_rfl) (by kernel_rfl)) ?_
  intro W base args ds gs before adY ln _ _;have yy : ∀ (j : Nat) t v, Tryz.f5.params[j]? = some t → args[j]? = some v → Value.okWide Tryz.prog W .any base t v := adY;have ac3 := ln;obtain ⟨p, q, acT, jm, rfl, _, _⟩ := ln;have aM : DataW.TrodAll enc Tryz.prog W 0 (fun _ => true) true Tryz.f5.params.toList args.toList ds p := acT;rw [Tryz.params5] at aM yy;obtain ⟨v0, d0, rfl, rfl, aT⟩ := trodAll_one aM;obtain ⟨rfl, rfl⟩ := trodVars_none jm;obtain ⟨_, dp, ht, iW, rfl, f0⟩ := abQ (base := base) v0 d0 p (yy 0 24 v0 rfl rfl) aT;refine (ahX (vs := [v0]) (afq) (ah4 dp ht)).mono fun e HK ⟨he, hw⟩ => ?_;subst he;exact ⟨_, rfl, afQ laidOut ag2 acN rfl Tryz.underlying4 (by kernel_rfl) rfl ac3 hw rfl⟩
theorem proved : Rows.MatchFewestsSaid :=
  OpenClaim.holds_of_wide 5 Tryz.f5 rfl rfl rfl rfl rfl rfl rfl ⟨rfl, rfl, rfl, rfl, rfl⟩ rfl rfl rfl rfl rfl (by kernel_rfl) Tryz.func5 (by kernel_rfl)
    (of_decide_eq_true (by kernel_rfl)) (by unfold Func.isWrapper; first | (rw [if_pos (by decide +kernel)]; kernel_rfl) | (rw [if_neg (by decide +kernel)]; exact ⟨rfl, rfl⟩))
    (fun os started H enc _ => lifted os started H enc)
end Go.Proofs.YtfakoboiahbhaaaGreat.Ab
