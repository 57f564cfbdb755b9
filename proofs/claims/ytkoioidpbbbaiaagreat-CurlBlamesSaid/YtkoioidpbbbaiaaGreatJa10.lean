
import Derived.Test.YtkoioidpbbbaiaaGreatRows
import Derived.Test.YtkoioidpbbbaiaaGreatJa5
import Derived.Test.YtkoioidpbbbaiaaGreatJa9
import Derived.WalkKit
import Derived.ProofKit
set_option linter.unusedSimpArgs false
set_option linter.unusedVariables false
set_option linter.unusedSectionVars false
/-
  ajy is true for every input: the last step, from the Vg of the function to the given row. No Vf.
-/
namespace Go.Proofs.YtkoioidpbbbaiaaGreat.Ab
open Go Go.ChangeShapes Go.WideShapes Go.ChangeAt Go.RowKit
theorem NL : ownKnob Tryz.prog.godebug = none := by kernel_rfl
theorem laidOut : laidOutB Tryz.prog = true := by kernel_rfl
theorem N3 : mapsRowed Tryz.prog = true := by kernel_rfl
theorem Nk : ((List.range Tryz.prog.types.size).all fun t => match Tryz.prog.underlying t with | some (.slice e) => decide (0 < Tryz.prog.cellsOf e) | _ => true) = true := by kernel_rfl
set_option maxRecDepth 100000 in
theorem lifted (os : Os) (started : os.Started) (H : Type) (enc : TypeId × Value → H) :
    ReturnsInHanded {} Tryz.checked os 5 .any (Rows.curlBlamesSpec.pre6 enc Tryz.prog Tryz.f5 Rows.curlBlamesRow.domain false) (Rows.curlBlamesSpec.post enc Tryz.prog Tryz.f5 false true false false) := by
  refine returnsInHanded_of_change (C := Tryz.checked) NL started (by kernel_rfl) Tryz.func5
    (ChangeSpec.witness6 (enc := enc) (C := Tryz.checked) false ⟨#[], #[.agg #[.slice none 0 0, .int .i64 0, .int .i64 0]], []⟩ 8 (by kernel_rfl) (by kernel_rfl) (by kernel_rfl) (by kernel_rfl)) ?_
  intro W base args fD gs before NC l9 _ _;have zr : ∀ (j : Nat) t v, Tryz.f5.params[j]? = some t → args[j]? = some v → Value.okWide Tryz.prog W .any base t v := NC;have Ns := l9;obtain ⟨p, q, Np, jH, rfl, _, _⟩ := l9;have aL : DataW.TrodAll enc Tryz.prog W 0 (fun _ => true) true Tryz.f5.params.toList args.toList fD p := Np;rw [Tryz.params5] at aL zr;obtain ⟨v0, d0, rfl, rfl, aQ⟩ := trodAll_one aL;obtain ⟨rfl, rfl⟩ := trodVars_none jH;obtain ⟨_, db, hQ, jr, rfl, f0⟩ := Q0 (base := base) v0 d0 p (zr 0 26 v0 rfl rfl) aQ;refine (S_ (vs := [v0]) (acC jr) (Zs db hQ)).mono fun e Ix ⟨he, hw⟩ => ?_;subst he;exact ⟨_, rfl, R_ laidOut N3 Nk rfl Tryz.underlying4 (by kernel_rfl) rfl Ns hw rfl⟩
theorem proved : Rows.CurlBlamesSaid :=
  OpenClaim.holds_of_wide 5 Tryz.f5 rfl rfl rfl rfl rfl rfl rfl ⟨rfl, rfl, rfl, rfl, rfl⟩ rfl rfl rfl rfl rfl (by kernel_rfl) Tryz.func5 (by kernel_rfl)
    (of_decide_eq_true (by kernel_rfl)) (by unfold Func.isWrapper; first | (rw [if_pos (by decide +kernel)]; kernel_rfl) | (rw [if_neg (by decide +kernel)]; exact ⟨rfl, rfl⟩))
    (fun os started H enc _ => lifted os started H enc)
end Go.Proofs.YtkoioidpbbbaiaaGreat.Ab
