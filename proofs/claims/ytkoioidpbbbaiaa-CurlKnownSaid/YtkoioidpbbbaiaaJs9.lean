
import Derived.Test.YtkoioidpbbbaiaaRows
import Derived.Test.YtkoioidpbbbaiaaJs5
import Derived.Test.YtkoioidpbbbaiaaJs8
import Derived.WalkKit
import Derived.ProofKit
set_option linter.unusedSimpArgs false
set_option linter.unusedVariables false
set_option linter.unusedSectionVars false
/-
  agy is true for every input: the last step, from the Z3 of the function to the given row. No Z2.
-/
namespace Go.Proofs.Ytkoioidpbbbaiaa.Ab
open Go Go.ChangeShapes Go.WideShapes Go.ChangeAt Go.RowKit
theorem Q0 : ownKnob Try.prog.godebug = none := by kernel_rfl
theorem laidOut : laidOutB Try.prog = true := by kernel_rfl
theorem RK : mapsRowed Try.prog = true := by kernel_rfl
theorem Qk : ((List.range Try.prog.types.size).all fun t => match Try.prog.underlying t with | some (.slice e) => decide (0 < Try.prog.cellsOf e) | _ => true) = true := by kernel_rfl
set_option maxRecDepth 100000 in
theorem lifted (os : Os) (started : os.Started) (H : Type) (enc : TypeId × Value → H) :
    ReturnsInHanded {} Try.checked os 9 .any (Rows.Z8.pre6 enc Try.prog Try.f9 Rows.agZ.domain false) (Rows.Z8.post enc Try.prog Try.f9 false true false false) := by
  refine returnsInHanded_of_change (C := Try.checked) Q0 started (by kernel_rfl) Try.func9
    (ChangeSpec.witness6 (enc := enc) (C := Try.checked) false ⟨#[], #[], []⟩ 8 (by kernel_rfl) (by kernel_rfl) (by kernel_rfl) (by kernel_rfl)) ?_
  intro W base args fG gs before QN mb _ _;have zr : ∀ (j : Nat) t v, Try.f9.params[j]? = some t → args[j]? = some v → Value.okWide Try.prog W .any base t v := QN;have Qs := mb;obtain ⟨p, q, Qn, jK, rfl, _, _⟩ := mb;have aL : DataW.TrodAll enc Try.prog W 0 (fun _ => true) true Try.f9.params.toList args.toList fG p := Qn;rw [Try.params9] at aL zr;obtain ⟨CH, rfl, rfl⟩ := trodAll_nil aL;obtain rfl : args = #[] := by cases args; simp_all
  obtain ⟨rfl, rfl⟩ := trodVars_none jK;refine (W2 (vs := []) (Z9  ) afk).mono fun e Is ⟨he, hw⟩ => ?_;subst he;exact ⟨_, rfl, Vp laidOut RK Qk rfl Try.underlying4 (by kernel_rfl) rfl Qs hw rfl⟩
theorem proved : Rows.agz :=
  OpenClaim.holds_of_wide 9 Try.f9 rfl rfl rfl rfl rfl rfl rfl ⟨rfl, rfl, rfl, rfl, rfl⟩ rfl rfl rfl rfl rfl (by kernel_rfl) Try.func9 (by kernel_rfl)
    (of_decide_eq_true (by kernel_rfl)) (by unfold Func.isWrapper; first | (rw [if_pos (by decide +kernel)]; kernel_rfl) | (rw [if_neg (by decide +kernel)]; exact ⟨rfl, rfl⟩))
    (fun os started H enc _ => lifted os started H enc)
end Go.Proofs.Ytkoioidpbbbaiaa.Ab
