
import Derived.Test.YtfakoboiahbhaaaGreatRows
import Derived.Test.YtfakoboiahbhaaaGreatJp4
import Derived.Test.YtfakoboiahbhaaaGreatJp11
import Derived.WalkKit
import Derived.ProofKit
set_option linter.unusedSimpArgs false
set_option linter.unusedVariables false
set_option linter.unusedSectionVars false
/-
  alA is true for every input: the last step, from the alH of the function to the given row. No alG.
-/
namespace Go.Proofs.YtfakoboiahbhaaaGreat.Ab
open Go Go.ChangeShapes Go.WideShapes Go.ChangeAt Go.RowKit
theorem agG : ownKnob Tryz.prog.godebug = none := by kernel_rfl
theorem laidOut : laidOutB Tryz.prog = true := by kernel_rfl
theorem ah2 : mapsRowed Tryz.prog = true := by kernel_rfl
theorem aer : ((List.range Tryz.prog.types.size).all fun t => match Tryz.prog.underlying t with | some (.slice e) => decide (0 < Tryz.prog.cellsOf e) | _ => true) = true := by kernel_rfl
set_option maxRecDepth 100000 in
theorem lifted (os : Os) (started : os.Started) (H : Type) (enc : TypeId × Value → H) :
    ReturnsInHanded {} Tryz.checked os 4 .any (Rows.matchPartsSpec.pre6 enc Tryz.prog Tryz.f4 Rows.matchPartsRow.domain false) (Rows.matchPartsSpec.post enc Tryz.prog Tryz.f4 false true false false) := by
  refine returnsInHanded_of_change (C := Tryz.checked) agG started (by kernel_rfl) Tryz.func4
    (ChangeSpec.witness6 (enc := enc) (C := Tryz.checked) false ⟨#[], #[.agg #[.int .i64 0, .slice none 0 0], .slice none 0 0], []⟩ 8 (by kernel_rfl) (by kernel_rfl) (by kernel_rfl) (by kernel_rfl)) ?_
  intro W base args fA gs before ae7 lQ _ _;have y0 : ∀ (j : Nat) t v, Tryz.f4.params[j]? = some t → args[j]? = some v → Value.okWide Tryz.prog W .any base t v := ae7;have aeA := lQ;obtain ⟨p, q, Pf, jA, rfl, _, _⟩ := lQ;have aK : DataW.TrodAll enc Tryz.prog W 0 (fun _ => true) true Tryz.f4.params.toList args.toList fA p := Pf;rw [Tryz.params4] at aK y0;obtain ⟨v0, v1, d0, d1, SH, bT, rfl, rfl, rfl, aT, ad⟩ := trodAll_two aK;obtain ⟨rfl, rfl⟩ := trodVars_none jA;obtain ⟨_, dy, hE, jg, rfl, f0⟩ := adg (base := base) v0 d0 SH (y0 0 24 v0 rfl rfl) aT;obtain ⟨_, bq, aS, lf, rfl, f1⟩ := adh (base := base) v1 d1 bT (y0 1 34 v1 rfl rfl) ad;refine (ai7 (vs := [v0, v1]) (agq (b := jg) (l := lf) f1) (ajg dy hE bq aS)).mono fun e IF ⟨he, hw⟩ => ?_;subst he;exact ⟨_, rfl, ag1 laidOut ah2 aer rfl Tryz.underlying4 (by kernel_rfl) rfl aeA hw rfl⟩
theorem proved : Rows.MatchPartsSaid :=
  OpenClaim.holds_of_wide 4 Tryz.f4 rfl rfl rfl rfl rfl rfl rfl ⟨rfl, rfl, rfl, rfl, rfl⟩ rfl rfl rfl rfl rfl (by kernel_rfl) Tryz.func4 (by kernel_rfl)
    (of_decide_eq_true (by kernel_rfl)) (by unfold Func.isWrapper; first | (rw [if_pos (by decide +kernel)]; kernel_rfl) | (rw [if_neg (by decide +kernel)]; exact ⟨rfl, rfl⟩))
    (fun os started H enc _ => lifted os started H enc)
end Go.Proofs.YtfakoboiahbhaaaGreat.Ab
