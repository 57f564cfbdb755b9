
import Derived.Test.YtkoioidpbbbaiaaGreatRows
import Derived.Test.YtkoioidpbbbaiaaGreatJc5
import Derived.Test.YtkoioidpbbbaiaaGreatJc9
import Derived.WalkKit
import Derived.ProofKit
set_option linter.unusedSimpArgs false
set_option linter.unusedVariables false
set_option linter.unusedSectionVars false
/-
  ajt is true for every input: the last step, from the acq of the function to the given row. No acp.
-/
namespace Go.Proofs.YtkoioidpbbbaiaaGreat.Ab
open Go Go.ChangeShapes Go.WideShapes Go.ChangeAt Go.RowKit
theorem Sy : ownKnob Tryz.prog.godebug = none := by kernel_rfl
theorem laidOut : laidOutB Tryz.prog = true := by kernel_rfl
theorem Ti : mapsRowed Tryz.prog = true := by kernel_rfl
theorem RJ : ((List.range Tryz.prog.types.size).all fun t => match Tryz.prog.underlying t with | some (.slice e) => decide (0 < Tryz.prog.cellsOf e) | _ => true) = true := by kernel_rfl
set_option maxRecDepth 100000 in
theorem lifted (os : Os) (started : os.Started) (H : Type) (enc : TypeId × Value → H) :
    ReturnsInHanded {} Tryz.checked os 8 .any (Rows.curlAddedSpec.pre6 enc Tryz.prog Tryz.f8 Rows.curlAddedRow.domain false) (Rows.curlAddedSpec.post enc Tryz.prog Tryz.f8 false true false false) := by
  refine returnsInHanded_of_change (C := Tryz.checked) Sy started (by kernel_rfl) Tryz.func8
    (ChangeSpec.witness6 (enc := enc) (C := Tryz.checked) false ⟨#[], #[.agg #[.slice none 0 0, .int .i64 0, .int .i64 0], .slice none 0 0, .int .u8 0, .int .u8 0, .int .u8 0], []⟩ 8 (by kernel_rfl) (by kernel_rfl) (by kernel_rfl) (by kernel_rfl)) ?_
  intro W base args fG gs before Si mb _ _;have zr : ∀ (j : Nat) t v, Tryz.f8.params[j]? = some t → args[j]? = some v → Value.okWide Tryz.prog W .any base t v := Si;have RR := mb;obtain ⟨p, q, RM, jK, rfl, _, _⟩ := mb;have aL : DataW.TrodAll enc Tryz.prog W 0 (fun _ => true) true Tryz.f8.params.toList args.toList fG p := RM;rw [Tryz.params8] at aL zr;obtain ⟨v0, v1, v2, IK, v4, d0, d1, d2, d3, d4, Ov, bU, b1, eb, fU, rfl, rfl, rfl, aQ, ab, ae, aF, ba⟩ := YT aL;obtain ⟨rfl, rfl⟩ := trodVars_none jK;obtain ⟨_, de, hT, ju, rfl, f0⟩ := U7 (base := base) v0 d0 Ov (zr 0 26 v0 rfl rfl) aQ;obtain ⟨_, bm, aS, lE, rfl, f1⟩ := U8 (base := base) v1 d1 bU (zr 1 44 v1 rfl rfl) ab;obtain ⟨_, cw, bj, lF, rfl, f2⟩ := M7 (base := base) v2 d2 b1 (zr 2 5 v2 rfl rfl) ae;obtain ⟨_, e2, eK, Gy, rfl, f3⟩ := M7 (base := base) IK d3 eb (zr 3 5 IK rfl rfl) aF;obtain ⟨_, lQ, qW, Zu, rfl, f4⟩ := M7 (base := base) v4 d4 fU (zr 4 5 v4 rfl rfl) ba;refine (YS (vs := [v0, v1, v2, IK, v4]) (acz ju f1.v f2 f3 f4) (Ze de hT bm aS cw bj e2 eK lQ qW)).mono fun e IU ⟨he, hw⟩ => ?_;subst he;exact ⟨_, rfl, Xg laidOut Ti RJ rfl Tryz.underlying4 (by kernel_rfl) rfl RR hw rfl⟩
theorem proved : Rows.CurlAddedSaid :=
  OpenClaim.holds_of_wide 8 Tryz.f8 rfl rfl rfl rfl rfl rfl rfl ⟨rfl, rfl, rfl, rfl, rfl⟩ rfl rfl rfl rfl rfl (by kernel_rfl) Tryz.func8 (by kernel_rfl)
    (of_decide_eq_true (by kernel_rfl)) (by unfold Func.isWrapper; first | (rw [if_pos (by decide +kernel)]; kernel_rfl) | (rw [if_neg (by decide +kernel)]; exact ⟨rfl, rfl⟩))
    (fun os started H enc _ => lifted os started H enc)
end Go.Proofs.YtkoioidpbbbaiaaGreat.Ab
