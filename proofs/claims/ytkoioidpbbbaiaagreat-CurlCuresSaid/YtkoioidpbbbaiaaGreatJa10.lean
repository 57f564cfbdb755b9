
import Derived.Test.YtkoioidpbbbaiaaGreatRows
import Derived.Test.YtkoioidpbbbaiaaGreatJa5
import Derived.Test.YtkoioidpbbbaiaaGreatJa9
import Derived.WalkKit
import Derived.ProofKit
set_option linter.unusedSimpArgs false
set_option linter.unusedVariables false
set_option linter.unusedSectionVars false
/-
  ajz is true for every input: the last step, from the Vg of the function to the given row. No Vf.
-/
namespace Go.Proofs.YtkoioidpbbbaiaaGreat.Ab
open Go Go.ChangeShapes Go.WideShapes Go.ChangeAt Go.RowKit
theorem NL : ownKnob Tryz.prog.godebug = none := by kernel_rfl
theorem laidOut : laidOutB Tryz.prog = true := by kernel_rfl
theorem N3 : mapsRowed Tryz.prog = true := by kernel_rfl
theorem Nk : ((List.range Tryz.prog.types.size).all fun t => match Tryz.prog.underlying t with | some (.slice e) => decide (0 < Tryz.prog.cellsOf e) | _ => true) = true := by kernel_rfl
set_option maxRecDepth 100000 in
theorem lifted (os : Os) (started : os.Started) (H : Type) (enc : TypeId × Value → H) :
    ReturnsInHanded {} Tryz.checked os 4 .any (Rows.curlCuresSpec.pre6 enc Tryz.prog Tryz.f4 Rows.curlCuresRow.domain false) (Rows.curlCuresSpec.post enc Tryz.prog Tryz.f4 false true false false) := by
  refine returnsInHanded_of_change (C := Tryz.checked) NL started (by kernel_rfl) Tryz.func4
    (ChangeSpec.witness6 (enc := enc) (C := Tryz.checked) false ⟨#[], #[.agg #[.slice none 0 0, .int .i64 0, .int .i64 0], .slice none 0 0, .slice none 0 0], []⟩ 8 (by kernel_rfl) (by kernel_rfl) (by kernel_rfl) (by kernel_rfl)) ?_
  intro W base args fD gs before NC l9 _ _;have zr : ∀ (j : Nat) t v, Tryz.f4.params[j]? = some t → args[j]? = some v → Value.okWide Tryz.prog W .any base t v := NC;have Ns := l9;obtain ⟨p, q, Np, jH, rfl, _, _⟩ := l9;have aL : DataW.TrodAll enc Tryz.prog W 0 (fun _ => true) true Tryz.f4.params.toList args.toList fD p := Np;rw [Tryz.params4] at aL zr;obtain ⟨v0, v1, v2, d0, d1, d2, NM, bT, b0, rfl, rfl, rfl, aQ, ab, ae⟩ := trodAll_three aL;obtain ⟨rfl, rfl⟩ := trodVars_none jH;obtain ⟨_, db, hQ, jr, rfl, f0⟩ := Q0 (base := base) v0 d0 NM (zr 0 26 v0 rfl rfl) aQ;obtain ⟨_, bl, aS, lB, rfl, f1⟩ := abO (base := base) v1 d1 bT (zr 1 32 v1 rfl rfl) ab;obtain ⟨_, cr, bh, lC, rfl, f2⟩ := abQ (base := base) v2 d2 b0 (zr 2 38 v2 rfl rfl) ae;refine (S_ (vs := [v0, v1, v2]) (acD jr lB lC) (ahX db hQ bl aS cr bh)).mono fun e Ix ⟨he, hw⟩ => ?_;subst he;exact ⟨_, rfl, R_ laidOut N3 Nk rfl Tryz.underlying4 (by kernel_rfl) rfl Ns hw rfl⟩
theorem proved : Rows.CurlCuresSaid :=
  OpenClaim.holds_of_wide 4 Tryz.f4 rfl rfl rfl rfl rfl rfl rfl ⟨rfl, rfl, rfl, rfl, rfl⟩ rfl rfl rfl rfl rfl (by kernel_rfl) Tryz.func4 (by kernel_rfl)
    (of_decide_eq_true (by kernel_rfl)) (by unfold Func.isWrapper; first | (rw [if_pos (by decide +kernel)]; kernel_rfl) | (rw [if_neg (by decide +kernel)]; exact ⟨rfl, rfl⟩))
    (fun os started H enc _ => lifted os started H enc)
end Go.Proofs.YtkoioidpbbbaiaaGreat.Ab
