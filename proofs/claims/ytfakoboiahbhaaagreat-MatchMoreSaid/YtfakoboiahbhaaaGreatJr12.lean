
import Derived.Test.YtfakoboiahbhaaaGreatRows
import Derived.Test.YtfakoboiahbhaaaGreatJr4
import Derived.Test.YtfakoboiahbhaaaGreatJr11
import Derived.WalkKit
import Derived.ProofKit
set_option linter.unusedSimpArgs false
set_option linter.unusedVariables false
set_option linter.unusedSectionVars false
/-
  akH is true for every input: the last step, from the acS of the function to the given row. No acR.
-/
namespace Go.Proofs.YtfakoboiahbhaaaGreat.Ab
open Go Go.ChangeShapes Go.WideShapes Go.ChangeAt Go.RowKit
theorem Sa : ownKnob Tryz.prog.godebug = none := by kernel_rfl
theorem laidOut : laidOutB Tryz.prog = true := by kernel_rfl
theorem TD : mapsRowed Tryz.prog = true := by kernel_rfl
theorem Q_ : ((List.range Tryz.prog.types.size).all fun t => match Tryz.prog.underlying t with | some (.slice e) => decide (0 < Tryz.prog.cellsOf e) | _ => true) = true := by kernel_rfl
set_option maxRecDepth 100000 in
theorem lifted (os : Os) (started : os.Started) (H : Type) (enc : TypeId × Value → H) :
    ReturnsInHanded {} Tryz.checked os 10 .any (Rows.matchMoreSpec.pre6 enc Tryz.prog Tryz.f10 Rows.matchMoreRow.domain false) (Rows.matchMoreSpec.post enc Tryz.prog Tryz.f10 false true false false) := by
  refine returnsInHanded_of_change (C := Tryz.checked) Sa started (by kernel_rfl) Tryz.func10
    (ChangeSpec.witness6 (enc := enc) (C := Tryz.checked) false ⟨#[], #[.agg #[.int .i64 0, .slice none 0 0], .int .u8 0, .int .u8 0], []⟩ 8 (by kernel_rfl) (by kernel_rfl) (by kernel_rfl) (by kernel_rfl)) ?_
  intro W base args ds gs before RU lO _ _;have yY : ∀ (j : Nat) t v, Tryz.f10.params[j]? = some t → args[j]? = some v → Value.okWide Tryz.prog W .any base t v := RU;have Rv := lO;obtain ⟨p, q, LF, jz, rfl, _, _⟩ := lO;have aK : DataW.TrodAll enc Tryz.prog W 0 (fun _ => true) true Tryz.f10.params.toList args.toList ds p := LF;rw [Tryz.params10] at aK yY;obtain ⟨v0, v1, v2, d0, d1, d2, Kf, bR, b4, rfl, rfl, rfl, aS, ad, af⟩ := trodAll_three aK;obtain ⟨rfl, rfl⟩ := trodVars_none jz;obtain ⟨_, dz, hD, jf, rfl, f0⟩ := Vl (base := base) v0 d0 Kf (yY 0 24 v0 rfl rfl) aS;obtain ⟨_, bo, r1, lb, rfl, f1⟩ := Vm (base := base) v1 d1 bR (yY 1 5 v1 rfl rfl) ad;obtain ⟨_, cI, r2, ld, rfl, f2⟩ := Vm (base := base) v2 d2 b4 (yY 2 5 v2 rfl rfl) af;refine (YN (vs := [v0, v1, v2]) (afY (b := jf) (left := lb) (right := ld) f1 f2) (aiL dz hD bo r1 cI r2)).mono fun e HX ⟨he, hw⟩ => ?_;subst he;exact ⟨_, rfl, Xo laidOut TD Q_ rfl Tryz.underlying4 (by kernel_rfl) rfl Rv hw rfl⟩
theorem proved : Rows.MatchMoreSaid :=
  OpenClaim.holds_of_wide 10 Tryz.f10 rfl rfl rfl rfl rfl rfl rfl ⟨rfl, rfl, rfl, rfl, rfl⟩ rfl rfl rfl rfl rfl (by kernel_rfl) Tryz.func10 (by kernel_rfl)
    (of_decide_eq_true (by kernel_rfl)) (by unfold Func.isWrapper; first | (rw [if_pos (by decide +kernel)]; kernel_rfl) | (rw [if_neg (by decide +kernel)]; exact ⟨rfl, rfl⟩))
    (fun os started H enc _ => lifted os started H enc)
end Go.Proofs.YtfakoboiahbhaaaGreat.Ab
