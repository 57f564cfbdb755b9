/-
  SeamAlike is true for every input: the last step, from the contract of the function to the given row. No conditions.
-/
import Derived.Test.YtlcebaejlnpdeaaRows
import Derived.Test.YtlcebaejlnpdeaaJa4
import Derived.Test.YtlcebaejlnpdeaaJa7
import Derived.WalkKit
import Derived.ProofKit
set_option linter.unusedSimpArgs false
set_option linter.unusedVariables false
set_option linter.unusedSectionVars false
namespace Go.Proofs.Ytlcebaejlnpdeaa.Ab
open Go Go.ChangeShapes Go.WideShapes Go.ChangeAt Go.RowKit
theorem own : ownKnob Try.prog.godebug = none := by kernel_rfl
theorem laidOut : laidOutB Try.prog = true := by kernel_rfl
theorem rowed : mapsRowed Try.prog = true := by kernel_rfl
theorem fulls : ((List.range Try.prog.types.size).all fun t => match Try.prog.underlying t with | some (.slice e) => decide (0 < Try.prog.cellsOf e) | _ => true) = true := by kernel_rfl
set_option maxRecDepth 100000 in
theorem lifted (os : Os) (started : os.Started) (H : Type) (enc : TypeId × Value → H) :
    ReturnsInHanded {} Try.checked os 16 .any (Rows.seamAlikeSpec.pre6 enc Try.prog Try.f16 Rows.seamAlikeRow.domain false) (Rows.seamAlikeSpec.post enc Try.prog Try.f16 false true false false) := by
  refine returnsInHanded_of_change (C := Try.checked) own started (by kernel_rfl) Try.func16
    (ChangeSpec.witness6 (enc := enc) (C := Try.checked) false ⟨#[], #[.int .u8 0, .int .u8 0, .int .u8 0, .slice none 0 0], []⟩ 8 (by kernel_rfl) (by kernel_rfl) (by kernel_rfl) (by kernel_rfl)) ?_
  intro W base args ds gs before hval0 hW _ _
  have hval : ∀ (j : Nat) t v, Try.f16.params[j]? = some t → args[j]? = some v → Value.okWide Try.prog W .any base t v := hval0
  have hW' := hW
  obtain ⟨p, q, hA0, hV, rfl, _, _⟩ := hW
  have hA : DataW.TrodAll enc Try.prog W 0 (fun _ => true) true Try.f16.params.toList args.toList ds p := hA0
  rw [Try.params16] at hA hval
  obtain ⟨v0, v1, v2, v3, d0, d1, d2, d3, p0, p1, p2, p3, rfl, rfl, rfl, h0, h1, h2, h3⟩ := trodAll_four hA
  obtain ⟨rfl, rfl⟩ := trodVars_none hV
  obtain ⟨_, b0, r0, x0, rfl, f0⟩ := arg_int (base := base) Try.underlying5 v0 d0 p0 (hval 0 5 v0 rfl rfl) h0
  obtain ⟨_, b1, r1, x1, rfl, f1⟩ := arg_int (base := base) Try.underlying5 v1 d1 p1 (hval 1 5 v1 rfl rfl) h1
  obtain ⟨_, b2, r2, x2, rfl, f2⟩ := arg_int (base := base) Try.underlying5 v2 d2 p2 (hval 2 5 v2 rfl rfl) h2
  obtain ⟨_, b3, r3, x3, rfl, f3⟩ := arg_slice (base := base) Try.underlying54 (cel_Y1 Try.underlying54 (by kernel_rfl) Try.underlying5) v3 d3 p3 (hval 3 54 v3 rfl rfl) h3
  refine (top_calls (vs := [v0, v1, v2, v3]) (seamAlike_ok works_ok x0 x1 x2 x3 (wf_u8 f0) (wf_u8 f1) (wf_u8 f2) f3) (vrel_four b0 r0 b1 r1 b2 r2 b3 r3)).mono fun e W' ⟨he, hw⟩ => ?_
  subst he
  exact ⟨_, rfl, post_true laidOut rowed fulls rfl Try.underlying4 (by kernel_rfl) rfl hW' hw rfl⟩
theorem proved : Rows.SeamAlikeSaid :=
  OpenClaim.holds_of_wide 16 Try.f16 rfl rfl rfl rfl rfl rfl rfl ⟨rfl, rfl, rfl, rfl, rfl⟩ rfl rfl rfl rfl rfl (by kernel_rfl) Try.func16 (by kernel_rfl)
    (of_decide_eq_true (by kernel_rfl)) (by unfold Func.isWrapper; first | (rw [if_pos (by decide +kernel)]; kernel_rfl) | (rw [if_neg (by decide +kernel)]; exact ⟨rfl, rfl⟩))
    (fun os started H enc _ => lifted os started H enc)
end Go.Proofs.Ytlcebaejlnpdeaa.Ab
