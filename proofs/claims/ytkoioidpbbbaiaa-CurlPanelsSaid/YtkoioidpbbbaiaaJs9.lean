
import Derived.Test.YtkoioidpbbbaiaaRows
import Derived.Test.YtkoioidpbbbaiaaJs5
import Derived.Test.YtkoioidpbbbaiaaJs8
import Derived.WalkKit
import Derived.ProofKit
set_option linter.unusedSimpArgs false
set_option linter.unusedVariables false
set_option linter.unusedSectionVars false
/-
  agA is true for every input: the last step, from the Z3 of the function to the given row. No Z2.
-/
namespace Go.Proofs.Ytkoioidpbbbaiaa.Ab
open Go Go.ChangeShapes Go.WideShapes Go.ChangeAt Go.RowKit
theorem Q0 : ownKnob Try.prog.godebug = none := by kernel_rfl
theorem laidOut : laidOutB Try.prog = true := by kernel_rfl
theorem RK : mapsRowed Try.prog = true := by kernel_rfl
theorem Qk : ((List.range Try.prog.types.size).all fun t => match Try.prog.underlying t with | some (.slice e) => decide (0 < Try.prog.cellsOf e) | _ => true) = true := by kernel_rfl
set_option maxRecDepth 100000 in
theorem lifted (os : Os) (started : os.Started) (H : Type) (enc : TypeId × Value → H) :
    ReturnsInHanded {} Try.checked os 3 .any (Rows.Z_.pre6 enc Try.prog Try.f3 Rows.ag0.domain false) (Rows.Z_.post enc Try.prog Try.f3 false true false false) := by
  refine returnsInHanded_of_change (C := Try.checked) Q0 started (by kernel_rfl) Try.func3
    (ChangeSpec.witness6 (enc := enc) (C := Try.checked) false ⟨#[], #[.agg #[.slice none 0 0, .int .i64 0, .int .i64 0], .slice none 0 0, .int .i64 0], []⟩ 8 (by kernel_rfl) (by kernel_rfl) (by kernel_rfl) (by kernel_rfl)) ?_
  intro W base args fG gs before QN mb _ _;have zr : ∀ (j : Nat) t v, Try.f3.params[j]? = some t → args[j]? = some v → Value.okWide Try.prog W .any base t v := QN;have Qs := mb;obtain ⟨p, q, Qn, jK, rfl, _, _⟩ := mb;have aL : DataW.TrodAll enc Try.prog W 0 (fun _ => true) true Try.f3.params.toList args.toList fG p := Qn;rw [Try.params3] at aL zr;obtain ⟨v0, v1, v2, d0, d1, d2, Q1, bU, b1, rfl, rfl, rfl, aQ, ab, ae⟩ := trodAll_three aL;obtain ⟨rfl, rfl⟩ := trodVars_none jK;obtain ⟨_, de, hT, ju, rfl, f0⟩ := Zo (base := base) v0 d0 Q1 (zr 0 26 v0 rfl rfl) aQ;obtain ⟨_, bm, aS, lE, rfl, f1⟩ := Zk (base := base) v1 d1 bU (zr 1 27 v1 rfl rfl) ab;obtain ⟨_, cw, bj, lF, rfl, f2⟩ := Zm (base := base) v2 d2 b1 (zr 2 2 v2 rfl rfl) ae;refine (W2 (vs := [v0, v1, v2]) (Z' ju lE lF) (afn de hT bm aS cw bj)).mono fun e Is ⟨he, hw⟩ => ?_;subst he;exact ⟨_, rfl, Vp laidOut RK Qk rfl Try.underlying4 (by kernel_rfl) rfl Qs hw rfl⟩
theorem proved : Rows.agB :=
  OpenClaim.holds_of_wide 3 Try.f3 rfl rfl rfl rfl rfl rfl rfl ⟨rfl, rfl, rfl, rfl, rfl⟩ rfl rfl rfl rfl rfl (by kernel_rfl) Try.func3 (by kernel_rfl)
    (of_decide_eq_true (by kernel_rfl)) (by unfold Func.isWrapper; first | (rw [if_pos (by decide +kernel)]; kernel_rfl) | (rw [if_neg (by decide +kernel)]; exact ⟨rfl, rfl⟩))
    (fun os started H enc _ => lifted os started H enc)
end Go.Proofs.Ytkoioidpbbbaiaa.Ab
