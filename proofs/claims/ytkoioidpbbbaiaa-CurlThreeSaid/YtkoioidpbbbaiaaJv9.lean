
import Derived.Test.YtkoioidpbbbaiaaRows
import Derived.Test.YtkoioidpbbbaiaaJv5
import Derived.Test.YtkoioidpbbbaiaaJv8
import Derived.WalkKit
import Derived.ProofKit
set_option linter.unusedSimpArgs false
set_option linter.unusedVariables false
set_option linter.unusedSectionVars false
/-
  ag4 is true for every input: the last step, from the aho of the function to the given row. No ahn.
-/
namespace Go.Proofs.Ytkoioidpbbbaiaa.Ab
open Go Go.ChangeShapes Go.WideShapes Go.ChangeAt Go.RowKit
theorem ady : ownKnob Try.prog.godebug = none := by kernel_rfl
theorem laidOut : laidOutB Try.prog = true := by kernel_rfl
theorem ae4 : mapsRowed Try.prog = true := by kernel_rfl
theorem aas : ((List.range Try.prog.types.size).all fun t => match Try.prog.underlying t with | some (.slice e) => decide (0 < Try.prog.cellsOf e) | _ => true) = true := by kernel_rfl
set_option maxRecDepth 100000 in
theorem lifted (os : Os) (started : os.Started) (H : Type) (enc : TypeId × Value → H) :
    ReturnsInHanded {} Try.checked os 8 .any (Rows.curlThreeSpec.pre6 enc Try.prog Try.f8 Rows.curlThreeRow.domain false) (Rows.curlThreeSpec.post enc Try.prog Try.f8 false true false false) := by
  refine returnsInHanded_of_change (C := Try.checked) ady started (by kernel_rfl) Try.func8
    (ChangeSpec.witness6 (enc := enc) (C := Try.checked) false ⟨#[], #[.agg #[.slice none 0 0, .int .i64 0, .int .i64 0], .slice none 0 0], []⟩ 8 (by kernel_rfl) (by kernel_rfl) (by kernel_rfl) (by kernel_rfl)) ?_
  intro W base args fG gs before abE mc _ _;have zt : ∀ (j : Nat) t v, Try.f8.params[j]? = some t → args[j]? = some v → Value.okWide Try.prog W .any base t v := abE;have aaJ := mc;obtain ⟨p, q, aax, jL, rfl, _, _⟩ := mc;have aL : DataW.TrodAll enc Try.prog W 0 (fun _ => true) true Try.f8.params.toList args.toList fG p := aax;rw [Try.params8] at aL zt;obtain ⟨v0, v1, d0, d1, Qs, bU, rfl, rfl, rfl, aQ, ab⟩ := trodAll_two aL;obtain ⟨rfl, rfl⟩ := trodVars_none jL;obtain ⟨_, de, hT, ju, rfl, f0⟩ := Zq (base := base) v0 d0 Qs (zt 0 26 v0 rfl rfl) aQ;obtain ⟨_, bm, aS, lF, rfl, f1⟩ := Zs (base := base) v1 d1 bU (zt 1 37 v1 rfl rfl) ab;refine (afy (vs := [v0, v1]) (Z' ju f1.v) (afI de hT bm aS)).mono fun e IC ⟨he, hw⟩ => ?_;subst he;exact ⟨_, rfl, adI laidOut ae4 aas rfl Try.underlying4 (by kernel_rfl) rfl aaJ hw rfl⟩
theorem proved : Rows.CurlThreeSaid :=
  OpenClaim.holds_of_wide 8 Try.f8 rfl rfl rfl rfl rfl rfl rfl ⟨rfl, rfl, rfl, rfl, rfl⟩ rfl rfl rfl rfl rfl (by kernel_rfl) Try.func8 (by kernel_rfl)
    (of_decide_eq_true (by kernel_rfl)) (by unfold Func.isWrapper; first | (rw [if_pos (by decide +kernel)]; kernel_rfl) | (rw [if_neg (by decide +kernel)]; exact ⟨rfl, rfl⟩))
    (fun os started H enc _ => lifted os started H enc)
end Go.Proofs.Ytkoioidpbbbaiaa.Ab
