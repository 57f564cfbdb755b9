
import Derived.Test.YtfakoboiahbhaaaGreatRows
import Derived.Test.YtfakoboiahbhaaaGreatJt4
import Derived.Test.YtfakoboiahbhaaaGreatJt11
import Derived.WalkKit
import Derived.ProofKit
set_option linter.unusedSimpArgs false
set_option linter.unusedVariables false
set_option linter.unusedSectionVars false
/-
  ak_ is true for every input: the last step, from the alj of the function to the given row. No ali.
-/
namespace Go.Proofs.YtfakoboiahbhaaaGreat.Ab
open Go Go.ChangeShapes Go.WideShapes Go.ChangeAt Go.RowKit
theorem agA : ownKnob Tryz.prog.godebug = none := by kernel_rfl
theorem laidOut : laidOutB Tryz.prog = true := by kernel_rfl
theorem ahY : mapsRowed Tryz.prog = true := by kernel_rfl
theorem adO : ((List.range Tryz.prog.types.size).all fun t => match Tryz.prog.underlying t with | some (.slice e) => decide (0 < Tryz.prog.cellsOf e) | _ => true) = true := by kernel_rfl
set_option maxRecDepth 100000 in
theorem lifted (os : Os) (started : os.Started) (H : Type) (enc : TypeId × Value → H) :
    ReturnsInHanded {} Tryz.checked os 11 .any (Rows.matchTurnedSpec.pre6 enc Tryz.prog Tryz.f11 Rows.matchTurnedRow.domain false) (Rows.matchTurnedSpec.post enc Tryz.prog Tryz.f11 false true false false) := by
  refine returnsInHanded_of_change (C := Tryz.checked) agA started (by kernel_rfl) Tryz.func11
    (ChangeSpec.witness6 (enc := enc) (C := Tryz.checked) false ⟨#[], #[.agg #[.int .i64 0, .slice none 0 0], .slice none 0 0, .int .u16 0], []⟩ 8 (by kernel_rfl) (by kernel_rfl) (by kernel_rfl) (by kernel_rfl)) ?_
  intro W base args ds gs before ae8 lN _ _;have yZ : ∀ (j : Nat) t v, Tryz.f11.params[j]? = some t → args[j]? = some v → Value.okWide Tryz.prog W .any base t v := ae8;have ad1 := lN;obtain ⟨p, q, Pv, jx, rfl, _, _⟩ := lN;have aK : DataW.TrodAll enc Tryz.prog W 0 (fun _ => true) true Tryz.f11.params.toList args.toList ds p := Pv;rw [Tryz.params11] at aK yZ;obtain ⟨v0, v1, v2, d0, d1, d2, Tf, bR, b4, rfl, rfl, rfl, aS, ad, af⟩ := trodAll_three aK;obtain ⟨rfl, rfl⟩ := trodVars_none jx;obtain ⟨_, dx, hB, jd, rfl, f0⟩ := acw (base := base) v0 d0 Tf (yZ 0 24 v0 rfl rfl) aS;obtain ⟨_, bo, r1, la, rfl, f1⟩ := acy (base := base) v1 d1 bR (yZ 1 25 v1 rfl rfl) ad;obtain ⟨_, cI, r2, lb, rfl, f2⟩ := acB (base := base) v2 d2 b4 (yZ 2 70 v2 rfl rfl) af;refine (aiW (vs := [v0, v1, v2]) (agm (b := jd) (l := la) (bits := lb)) (aje dx hB bo r1 cI r2)).mono fun e H7 ⟨he, hw⟩ => ?_;subst he;exact ⟨_, rfl, agM laidOut ahY adO rfl Tryz.underlying4 (by kernel_rfl) rfl ad1 hw rfl⟩
theorem proved : Rows.MatchTurnedSaid :=
  OpenClaim.holds_of_wide 11 Tryz.f11 rfl rfl rfl rfl rfl rfl rfl ⟨rfl, rfl, rfl, rfl, rfl⟩ rfl rfl rfl rfl rfl (by kernel_rfl) Tryz.func11 (by kernel_rfl)
    (of_decide_eq_true (by kernel_rfl)) (by unfold Func.isWrapper; first | (rw [if_pos (by decide +kernel)]; kernel_rfl) | (rw [if_neg (by decide +kernel)]; exact ⟨rfl, rfl⟩))
    (fun os started H enc _ => lifted os started H enc)
end Go.Proofs.YtfakoboiahbhaaaGreat.Ab
