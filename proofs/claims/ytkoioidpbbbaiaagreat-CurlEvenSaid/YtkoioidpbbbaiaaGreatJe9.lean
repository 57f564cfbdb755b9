
import Derived.Test.YtkoioidpbbbaiaaGreatRows
import Derived.Test.YtkoioidpbbbaiaaGreatJe5
import Derived.Test.YtkoioidpbbbaiaaGreatJe8
import Derived.WalkKit
import Derived.ProofKit
set_option linter.unusedSimpArgs false
set_option linter.unusedVariables false
set_option linter.unusedSectionVars false
/-
  aie is true for every input: the last step, from the aiz of the function to the given row. No aiy.
-/
namespace Go.Proofs.YtkoioidpbbbaiaaGreat.Ab
open Go Go.ChangeShapes Go.WideShapes Go.ChangeAt Go.RowKit
theorem aex : ownKnob Tryz.prog.godebug = none := by kernel_rfl
theorem laidOut : laidOutB Tryz.prog = true := by kernel_rfl
theorem af4 : mapsRowed Tryz.prog = true := by kernel_rfl
theorem abi : ((List.range Tryz.prog.types.size).all fun t => match Tryz.prog.underlying t with | some (.slice e) => decide (0 < Tryz.prog.cellsOf e) | _ => true) = true := by kernel_rfl
set_option maxRecDepth 100000 in
theorem lifted (os : Os) (started : os.Started) (H : Type) (enc : TypeId × Value → H) :
    ReturnsInHanded {} Tryz.checked os 7 .any (Rows.curlEvenSpec.pre6 enc Tryz.prog Tryz.f7 Rows.curlEvenRow.domain false) (Rows.curlEvenSpec.post enc Tryz.prog Tryz.f7 false true false false) := by
  refine returnsInHanded_of_change (C := Tryz.checked) aex started (by kernel_rfl) Tryz.func7
    (ChangeSpec.witness6 (enc := enc) (C := Tryz.checked) false ⟨#[], #[.agg #[.slice none 0 0, .int .i64 0, .int .i64 0], .slice none 0 0], []⟩ 8 (by kernel_rfl) (by kernel_rfl) (by kernel_rfl) (by kernel_rfl)) ?_
  intro W base args fG gs before acy mb _ _;have zr : ∀ (j : Nat) t v, Tryz.f7.params[j]? = some t → args[j]? = some v → Value.okWide Tryz.prog W .any base t v := acy;have abA := mb;obtain ⟨p, q, abn, jK, rfl, _, _⟩ := mb;have aL : DataW.TrodAll enc Tryz.prog W 0 (fun _ => true) true Tryz.f7.params.toList args.toList fG p := abn;rw [Tryz.params7] at aL zr;obtain ⟨v0, v1, d0, d1, QP, bU, rfl, rfl, rfl, aQ, ab⟩ := trodAll_two aL;obtain ⟨rfl, rfl⟩ := trodVars_none jK;obtain ⟨_, de, hT, ju, rfl, f0⟩ := aae (base := base) v0 d0 QP (zr 0 26 v0 rfl rfl) aQ;obtain ⟨_, bm, aS, lE, rfl, f1⟩ := aag (base := base) v1 d1 bU (zr 1 44 v1 rfl rfl) ab;refine (agy (vs := [v0, v1]) (aaY ju f1.v) (agS de hT bm aS)).mono fun e IF ⟨he, hw⟩ => ?_;subst he;exact ⟨_, rfl, aeH laidOut af4 abi rfl Tryz.underlying4 (by kernel_rfl) rfl abA hw rfl⟩
theorem proved : Rows.CurlEvenSaid :=
  OpenClaim.holds_of_wide 7 Tryz.f7 rfl rfl rfl rfl rfl rfl rfl ⟨rfl, rfl, rfl, rfl, rfl⟩ rfl rfl rfl rfl rfl (by kernel_rfl) Tryz.func7 (by kernel_rfl)
    (of_decide_eq_true (by kernel_rfl)) (by unfold Func.isWrapper; first | (rw [if_pos (by decide +kernel)]; kernel_rfl) | (rw [if_neg (by decide +kernel)]; exact ⟨rfl, rfl⟩))
    (fun os started H enc _ => lifted os started H enc)
end Go.Proofs.YtkoioidpbbbaiaaGreat.Ab
