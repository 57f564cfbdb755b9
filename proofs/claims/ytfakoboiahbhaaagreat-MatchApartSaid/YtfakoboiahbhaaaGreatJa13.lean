
import Derived.Test.YtfakoboiahbhaaaGreatRows
import Derived.Test.YtfakoboiahbhaaaGreatJa5
import Derived.Test.YtfakoboiahbhaaaGreatJa12
import Derived.WalkKit
import Derived.ProofKit
set_option linter.unusedSimpArgs false
set_option linter.unusedVariables false
set_option linter.unusedSectionVars false
/-
  ajU is true for every input: the last step, from the aj4 of the function to the given row. No aj3.
-/
namespace Go.Proofs.YtfakoboiahbhaaaGreat.Ab
open Go Go.ChangeShapes Go.WideShapes Go.ChangeAt Go.RowKit
theorem afE : ownKnob Tryz.prog.godebug = none := by kernel_rfl
theorem laidOut : laidOutB Tryz.prog = true := by kernel_rfl
theorem agZ : mapsRowed Tryz.prog = true := by kernel_rfl
theorem acY : ((List.range Tryz.prog.types.size).all fun t => match Tryz.prog.underlying t with | some (.slice e) => decide (0 < Tryz.prog.cellsOf e) | _ => true) = true := by kernel_rfl
set_option maxRecDepth 100000 in
theorem lifted (os : Os) (started : os.Started) (H : Type) (enc : TypeId × Value → H) :
    ReturnsInHanded {} Tryz.checked os 14 .any (Rows.matchApartSpec.pre6 enc Tryz.prog Tryz.f14 Rows.matchApartRow.domain false) (Rows.matchApartSpec.post enc Tryz.prog Tryz.f14 false true false false) := by
  refine returnsInHanded_of_change (C := Tryz.checked) afE started (by kernel_rfl) Tryz.func14
    (ChangeSpec.witness6 (enc := enc) (C := Tryz.checked) false ⟨#[], #[.agg #[.int .i64 0, .slice none 0 0], .agg #[.int .i64 0, .slice none 0 0]], []⟩ 8 (by kernel_rfl) (by kernel_rfl) (by kernel_rfl) (by kernel_rfl)) ?_
  intro W base args ds gs before aee l4 _ _;have zk : ∀ (j : Nat) t v, Tryz.f14.params[j]? = some t → args[j]? = some v → Value.okWide Tryz.prog W .any base t v := aee;have ada := l4;obtain ⟨p, q, PJ, jC, rfl, _, _⟩ := l4;have aL : DataW.TrodAll enc Tryz.prog W 0 (fun _ => true) true Tryz.f14.params.toList args.toList ds p := PJ;rw [Tryz.params14] at aL zk;obtain ⟨v0, v1, d0, d1, SK, bR, rfl, rfl, rfl, aU, ad⟩ := trodAll_two aL;obtain ⟨rfl, rfl⟩ := trodVars_none jC;obtain ⟨_, dB, hK, jj, rfl, f0⟩ := Vp (base := base) v0 d0 SK (zk 0 24 v0 rfl rfl) aU;obtain ⟨_, bp, r1, lx, rfl, f1⟩ := Vp (base := base) v1 d1 bR (zk 1 24 v1 rfl rfl) ad;refine (ahW (vs := [v0, v1]) (afq (a := jj) (b := lx)) (ah3 dB hK bp r1)).mono fun e IF ⟨he, hw⟩ => ?_;subst he;exact ⟨_, rfl, afQ laidOut agZ acY rfl Tryz.underlying4 (by kernel_rfl) rfl ada hw rfl⟩
theorem proved : Rows.MatchApartSaid :=
  OpenClaim.holds_of_wide 14 Tryz.f14 rfl rfl rfl rfl rfl rfl rfl ⟨rfl, rfl, rfl, rfl, rfl⟩ rfl rfl rfl rfl rfl (by kernel_rfl) Tryz.func14 (by kernel_rfl)
    (of_decide_eq_true (by kernel_rfl)) (by unfold Func.isWrapper; first | (rw [if_pos (by decide +kernel)]; kernel_rfl) | (rw [if_neg (by decide +kernel)]; exact ⟨rfl, rfl⟩))
    (fun os started H enc _ => lifted os started H enc)
end Go.Proofs.YtfakoboiahbhaaaGreat.Ab
