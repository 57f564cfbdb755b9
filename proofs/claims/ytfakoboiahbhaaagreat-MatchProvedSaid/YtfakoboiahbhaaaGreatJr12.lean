
import Derived.Test.YtfakoboiahbhaaaGreatRows
import Derived.Test.YtfakoboiahbhaaaGreatJr4
import Derived.Test.YtfakoboiahbhaaaGreatJr11
import Derived.WalkKit
import Derived.ProofKit
set_option linter.unusedSimpArgs false
set_option linter.unusedVariables false
set_option linter.unusedSectionVars false
/-
  ana is true for every input: Vn last step, from Vn ano of Vn function to Vn given row. anb ann.
-/
namespace Go.Proofs.YtfakoboiahbhaaaGreat.Ab
open Go Go.ChangeShapes Go.WideShapes Go.ChangeAt Go.RowKit
theorem ais : ownKnob Tryz.prog.godebug = none := by kernel_rfl
theorem laidOut : laidOutB Tryz.prog = true := by kernel_rfl
theorem ajV : mapsRowed Tryz.prog = true := by kernel_rfl
theorem afx : ((List.range Tryz.prog.types.size).all fun t => match Tryz.prog.underlying t with | some (.slice e) => decide (0 < Tryz.prog.cellsOf e) | _ => true) = true := by kernel_rfl
set_option maxRecDepth 100000 in
theorem lifted (os : Os) (started : os.Started) (H : Type) (enc : TypeId × Value → H) :
    ReturnsInHanded {} Tryz.checked os 7 .any (Rows.matchProvedSpec.pre6 enc Tryz.prog Tryz.f7 Rows.matchProvedRow.domain false) (Rows.matchProvedSpec.post enc Tryz.prog Tryz.f7 false true false false) := by
  refine returnsInHanded_of_change (C := Tryz.checked) ais started (by kernel_rfl) Tryz.func7
    (ChangeSpec.witness6 (enc := enc) (C := Tryz.checked) false ⟨#[], #[.agg #[.int .i64 0, .slice none 0 0], .slice none 0 0], []⟩ 8 (by kernel_rfl) (by kernel_rfl) (by kernel_rfl) (by kernel_rfl)) ?_
  intro W base args ds gs before agH lW _ _;have y6 : ∀ (j : Nat) t v, Tryz.f7.params[j]? = some t → args[j]? = some v → Value.okWide Tryz.prog W .any base t v := agH;have afI := lW;obtain ⟨p, q, PR, jH, rfl, _, _⟩ := lW;have aK : DataW.TrodAll enc Tryz.prog W 0 (fun _ => true) true Tryz.f7.params.toList args.toList ds p := PR;rw [Tryz.params7] at aK y6;obtain ⟨v0, v1, d0, d1, Kn, bT, rfl, rfl, rfl, aS, ad⟩ := trodAll_two aK;obtain ⟨rfl, rfl⟩ := trodVars_none jH;obtain ⟨_, dC, hK, jn, rfl, f0⟩ := aek (base := base) v0 d0 Kn (y6 0 24 v0 rfl rfl) aS;obtain ⟨_, br, r1, lp, rfl, f1⟩ := aeo (base := base) v1 d1 bT (y6 1 55 v1 rfl rfl) ad;refine (akS (vs := [v0, v1]) (ah6 (b := jn) (by_ := lp) f1.v) (akY dC hK br r1)).mono fun e I' ⟨he, hw⟩ => ?_;subst he;exact ⟨_, rfl, aiJ laidOut ajV afx rfl Tryz.underlying4 (by kernel_rfl) rfl afI hw rfl⟩
theorem proved : Rows.MatchProvedSaid :=
  OpenClaim.holds_of_wide 7 Tryz.f7 rfl rfl rfl rfl rfl rfl rfl ⟨rfl, rfl, rfl, rfl, rfl⟩ rfl rfl rfl rfl rfl (by kernel_rfl) Tryz.func7 (by kernel_rfl)
    (of_decide_eq_true (by kernel_rfl)) (by unfold Func.isWrapper; first | (rw [if_pos (by decide +kernel)]; kernel_rfl) | (rw [if_neg (by decide +kernel)]; exact ⟨rfl, rfl⟩))
    (fun os started H enc _ => lifted os started H enc)
end Go.Proofs.YtfakoboiahbhaaaGreat.Ab
