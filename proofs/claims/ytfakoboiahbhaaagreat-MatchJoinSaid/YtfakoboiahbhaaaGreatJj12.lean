
import Derived.Test.YtfakoboiahbhaaaGreatRows
import Derived.Test.YtfakoboiahbhaaaGreatJj4
import Derived.Test.YtfakoboiahbhaaaGreatJj11
import Derived.WalkKit
import Derived.ProofKit
set_option linter.unusedSimpArgs false
set_option linter.unusedVariables false
set_option linter.unusedSectionVars false
/-
  alC is true for every input: the last step, from the alO of the function to the given row. No alN.
-/
namespace Go.Proofs.YtfakoboiahbhaaaGreat.Ab
open Go Go.ChangeShapes Go.WideShapes Go.ChangeAt Go.RowKit
theorem agZ : ownKnob Tryz.prog.godebug = none := by kernel_rfl
theorem laidOut : laidOutB Tryz.prog = true := by kernel_rfl
theorem aiw : mapsRowed Tryz.prog = true := by kernel_rfl
theorem ad4 : ((List.range Tryz.prog.types.size).all fun t => match Tryz.prog.underlying t with | some (.slice e) => decide (0 < Tryz.prog.cellsOf e) | _ => true) = true := by kernel_rfl
set_option maxRecDepth 100000 in
theorem lifted (os : Os) (started : os.Started) (H : Type) (enc : TypeId × Value → H) :
    ReturnsInHanded {} Tryz.checked os 12 .any (Rows.matchJoinSpec.pre6 enc Tryz.prog Tryz.f12 Rows.matchJoinRow.domain false) (Rows.matchJoinSpec.post enc Tryz.prog Tryz.f12 false true false false) := by
  refine returnsInHanded_of_change (C := Tryz.checked) agZ started (by kernel_rfl) Tryz.func12
    (ChangeSpec.witness6 (enc := enc) (C := Tryz.checked) false ⟨#[], #[.agg #[.int .i64 0, .slice none 0 0], .int .u8 0], []⟩ 8 (by kernel_rfl) (by kernel_rfl) (by kernel_rfl) (by kernel_rfl)) ?_
  intro W base args ds gs before afg lN _ _;have yZ : ∀ (j : Nat) t v, Tryz.f12.params[j]? = some t → args[j]? = some v → Value.okWide Tryz.prog W .any base t v := afg;have aeh := lN;obtain ⟨p, q, ad9, jx, rfl, _, _⟩ := lN;have aK : DataW.TrodAll enc Tryz.prog W 0 (fun _ => true) true Tryz.f12.params.toList args.toList ds p := ad9;rw [Tryz.params12] at aK yZ;obtain ⟨v0, v1, d0, d1, Tr, bR, rfl, rfl, rfl, aS, ad⟩ := trodAll_two aK;obtain ⟨rfl, rfl⟩ := trodVars_none jx;obtain ⟨_, dy, hB, jd, rfl, f0⟩ := acZ (base := base) v0 d0 Tr (yZ 0 24 v0 rfl rfl) aS;obtain ⟨_, bo, r1, la, rfl, f1⟩ := ac2 (base := base) v1 d1 bR (yZ 1 5 v1 rfl rfl) ad;refine (ajq (vs := [v0, v1]) (agF (b := jd) (which := la) f1) (ajv dy hB bo r1)).mono fun e Jb ⟨he, hw⟩ => ?_;subst he;exact ⟨_, rfl, ahg laidOut aiw ad4 rfl Tryz.underlying4 (by kernel_rfl) rfl aeh hw rfl⟩
theorem proved : Rows.MatchJoinSaid :=
  OpenClaim.holds_of_wide 12 Tryz.f12 rfl rfl rfl rfl rfl rfl rfl ⟨rfl, rfl, rfl, rfl, rfl⟩ rfl rfl rfl rfl rfl (by kernel_rfl) Tryz.func12 (by kernel_rfl)
    (of_decide_eq_true (by kernel_rfl)) (by unfold Func.isWrapper; first | (rw [if_pos (by decide +kernel)]; kernel_rfl) | (rw [if_neg (by decide +kernel)]; exact ⟨rfl, rfl⟩))
    (fun os started H enc _ => lifted os started H enc)
end Go.Proofs.YtfakoboiahbhaaaGreat.Ab
