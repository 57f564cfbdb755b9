
import Derived.Test.YtfakoboiahbhaaaGreatRows
import Derived.Test.YtfakoboiahbhaaaGreatJr4
import Derived.Test.YtfakoboiahbhaaaGreatJr11
import Derived.WalkKit
import Derived.ProofKit
set_option linter.unusedSimpArgs false
set_option linter.unusedVariables false
set_option linter.unusedSectionVars false
/-
  akG is true for every input: the last step, from the acS of the function to the given row. No acR.
-/
namespace Go.Proofs.YtfakoboiahbhaaaGreat.Ab
open Go Go.ChangeShapes Go.WideShapes Go.ChangeAt Go.RowKit
theorem Sa : ownKnob Tryz.prog.godebug = none := by kernel_rfl
theorem laidOut : laidOutB Tryz.prog = true := by kernel_rfl
theorem TD : mapsRowed Tryz.prog = true := by kernel_rfl
theorem Q_ : ((List.range Tryz.prog.types.size).all fun t => match Tryz.prog.underlying t with | some (.slice e) => decide (0 < Tryz.prog.cellsOf e) | _ => true) = true := by kernel_rfl
set_option maxRecDepth 100000 in
theorem lifted (os : Os) (started : os.Started) (H : Type) (enc : TypeId × Value → H) :
    ReturnsInHanded {} Tryz.checked os 8 .any (Rows.matchEitherSpec.pre6 enc Tryz.prog Tryz.f8 Rows.matchEitherRow.domain false) (Rows.matchEitherSpec.post enc Tryz.prog Tryz.f8 false true false false) := by
  refine returnsInHanded_of_change (C := Tryz.checked) Sa started (by kernel_rfl) Tryz.func8
    (ChangeSpec.witness6 (enc := enc) (C := Tryz.checked) false ⟨#[], #[.agg #[.int .i64 0, .slice none 0 0]], []⟩ 8 (by kernel_rfl) (by kernel_rfl) (by kernel_rfl) (by kernel_rfl)) ?_
  intro W base args ds gs before RU lO _ _;have yY : ∀ (j : Nat) t v, Tryz.f8.params[j]? = some t → args[j]? = some v → Value.okWide Tryz.prog W .any base t v := RU;have Rv := lO;obtain ⟨p, q, LF, jz, rfl, _, _⟩ := lO;have aK : DataW.TrodAll enc Tryz.prog W 0 (fun _ => true) true Tryz.f8.params.toList args.toList ds p := LF;rw [Tryz.params8] at aK yY;obtain ⟨v0, d0, rfl, rfl, aS⟩ := trodAll_one aK;obtain ⟨rfl, rfl⟩ := trodVars_none jz;obtain ⟨_, dz, hD, jf, rfl, f0⟩ := Vl (base := base) v0 d0 p (yY 0 24 v0 rfl rfl) aS;refine (YN (vs := [v0]) (afX) (aiK dz hD)).mono fun e HX ⟨he, hw⟩ => ?_;subst he;exact ⟨_, rfl, Xo laidOut TD Q_ rfl Tryz.underlying4 (by kernel_rfl) rfl Rv hw rfl⟩
theorem proved : Rows.MatchEitherSaid :=
  OpenClaim.holds_of_wide 8 Tryz.f8 rfl rfl rfl rfl rfl rfl rfl ⟨rfl, rfl, rfl, rfl, rfl⟩ rfl rfl rfl rfl rfl (by kernel_rfl) Tryz.func8 (by kernel_rfl)
    (of_decide_eq_true (by kernel_rfl)) (by unfold Func.isWrapper; first | (rw [if_pos (by decide +kernel)]; kernel_rfl) | (rw [if_neg (by decide +kernel)]; exact ⟨rfl, rfl⟩))
    (fun os started H enc _ => lifted os started H enc)
end Go.Proofs.YtfakoboiahbhaaaGreat.Ab
