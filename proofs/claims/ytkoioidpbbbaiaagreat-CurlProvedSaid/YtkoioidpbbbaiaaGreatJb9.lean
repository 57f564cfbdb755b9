
import Derived.Test.YtkoioidpbbbaiaaGreatRows
import Derived.Test.YtkoioidpbbbaiaaGreatJb5
import Derived.Test.YtkoioidpbbbaiaaGreatJb8
import Derived.WalkKit
import Derived.ProofKit
set_option linter.unusedSimpArgs false
set_option linter.unusedVariables false
set_option linter.unusedSectionVars false
/-
  aic is true for every input: the last step, from the abe of the function to the given row. No abd.
-/
namespace Go.Proofs.YtkoioidpbbbaiaaGreat.Ab
open Go Go.ChangeShapes Go.WideShapes Go.ChangeAt Go.RowKit
theorem Rf : ownKnob Tryz.prog.godebug = none := by kernel_rfl
theorem laidOut : laidOutB Tryz.prog = true := by kernel_rfl
theorem R5 : mapsRowed Tryz.prog = true := by kernel_rfl
theorem QH : ((List.range Tryz.prog.types.size).all fun t => match Tryz.prog.underlying t with | some (.slice e) => decide (0 < Tryz.prog.cellsOf e) | _ => true) = true := by kernel_rfl
set_option maxRecDepth 100000 in
theorem lifted (os : Os) (started : os.Started) (H : Type) (enc : TypeId × Value → H) :
    ReturnsInHanded {} Tryz.checked os 6 .any (Rows.curlProvedSpec.pre6 enc Tryz.prog Tryz.f6 Rows.curlProvedRow.domain false) (Rows.curlProvedSpec.post enc Tryz.prog Tryz.f6 false true false false) := by
  refine returnsInHanded_of_change (C := Tryz.checked) Rf started (by kernel_rfl) Tryz.func6
    (ChangeSpec.witness6 (enc := enc) (C := Tryz.checked) false ⟨#[], #[.agg #[.slice none 0 0, .int .i64 0, .int .i64 0], .slice none 0 0, .int .u8 0], []⟩ 8 (by kernel_rfl) (by kernel_rfl) (by kernel_rfl) (by kernel_rfl)) ?_
  intro W base args fG gs before Q4 mb _ _;have zr : ∀ (j : Nat) t v, Tryz.f6.params[j]? = some t → args[j]? = some v → Value.okWide Tryz.prog W .any base t v := Q4;have QP := mb;obtain ⟨p, q, QK, jK, rfl, _, _⟩ := mb;have aL : DataW.TrodAll enc Tryz.prog W 0 (fun _ => true) true Tryz.f6.params.toList args.toList fG p := QK;rw [Tryz.params6] at aL zr;obtain ⟨v0, v1, v2, d0, d1, d2, NA, bU, b1, rfl, rfl, rfl, aQ, ab, ae⟩ := trodAll_three aL;obtain ⟨rfl, rfl⟩ := trodVars_none jK;obtain ⟨_, de, hT, ju, rfl, f0⟩ := TY (base := base) v0 d0 NA (zr 0 26 v0 rfl rfl) aQ;obtain ⟨_, bm, aS, lE, rfl, f1⟩ := TZ (base := base) v1 d1 bU (zr 1 44 v1 rfl rfl) ab;obtain ⟨_, cw, bj, lF, rfl, f2⟩ := Oo (base := base) v2 d2 b1 (zr 2 5 v2 rfl rfl) ae;refine (XM (vs := [v0, v1, v2]) (abn ju f1.v f2) (agL de hT bm aS cw bj)).mono fun e IB ⟨he, hw⟩ => ?_;subst he;exact ⟨_, rfl, V5 laidOut R5 QH rfl Tryz.underlying4 (by kernel_rfl) rfl QP hw rfl⟩
theorem proved : Rows.CurlProvedSaid :=
  OpenClaim.holds_of_wide 6 Tryz.f6 rfl rfl rfl rfl rfl rfl rfl ⟨rfl, rfl, rfl, rfl, rfl⟩ rfl rfl rfl rfl rfl (by kernel_rfl) Tryz.func6 (by kernel_rfl)
    (of_decide_eq_true (by kernel_rfl)) (by unfold Func.isWrapper; first | (rw [if_pos (by decide +kernel)]; kernel_rfl) | (rw [if_neg (by decide +kernel)]; exact ⟨rfl, rfl⟩))
    (fun os started H enc _ => lifted os started H enc)
end Go.Proofs.YtkoioidpbbbaiaaGreat.Ab
