
import Derived.Test.YtfakoboiahbhaaaGreatRows
import Derived.Test.YtfakoboiahbhaaaGreatJb5
import Derived.Test.YtfakoboiahbhaaaGreatJb12
import Derived.WalkKit
import Derived.ProofKit
set_option linter.unusedSimpArgs false
set_option linter.unusedVariables false
set_option linter.unusedSectionVars false
/-
  alV is true for every input: the last step, from the al7 of the function to the given row. No al6.
-/
namespace Go.Proofs.YtfakoboiahbhaaaGreat.Ab
open Go Go.ChangeShapes Go.WideShapes Go.ChangeAt Go.RowKit
theorem aho : ownKnob Tryz.prog.godebug = none := by kernel_rfl
theorem laidOut : laidOutB Tryz.prog = true := by kernel_rfl
theorem aiM : mapsRowed Tryz.prog = true := by kernel_rfl
theorem aeK : ((List.range Tryz.prog.types.size).all fun t => match Tryz.prog.underlying t with | some (.slice e) => decide (0 < Tryz.prog.cellsOf e) | _ => true) = true := by kernel_rfl
set_option maxRecDepth 100000 in
theorem lifted (os : Os) (started : os.Started) (H : Type) (enc : TypeId × Value → H) :
    ReturnsInHanded {} Tryz.checked os 9 .any (Rows.matchMissingSpec.pre6 enc Tryz.prog Tryz.f9 Rows.matchMissingRow.domain false) (Rows.matchMissingSpec.post enc Tryz.prog Tryz.f9 false true false false) := by
  refine returnsInHanded_of_change (C := Tryz.checked) aho started (by kernel_rfl) Tryz.func9
    (ChangeSpec.witness6 (enc := enc) (C := Tryz.checked) false ⟨#[], #[.agg #[.int .i64 0, .slice none 0 0], .slice none 0 0], []⟩ 8 (by kernel_rfl) (by kernel_rfl) (by kernel_rfl) (by kernel_rfl)) ?_
  intro W base args ds gs before afP l6 _ _;have zl : ∀ (j : Nat) t v, Tryz.f9.params[j]? = some t → args[j]? = some v → Value.okWide Tryz.prog W .any base t v := afP;have aeU := l6;obtain ⟨p, q, PU, jE, rfl, _, _⟩ := l6;have aL : DataW.TrodAll enc Tryz.prog W 0 (fun _ => true) true Tryz.f9.params.toList args.toList ds p := PU;rw [Tryz.params9] at aL zl;obtain ⟨v0, v1, d0, d1, Nu, bS, rfl, rfl, rfl, aV, ad⟩ := trodAll_two aL;obtain ⟨rfl, rfl⟩ := trodVars_none jE;obtain ⟨_, dE, hM, jl, rfl, f0⟩ := adA (base := base) v0 d0 Nu (zl 0 24 v0 rfl rfl) aV;obtain ⟨_, bq, aT, lz, rfl, f1⟩ := adD (base := base) v1 d1 bS (zl 1 55 v1 rfl rfl) ad;refine (ajG (vs := [v0, v1]) (ag5 (b := jl) (p_ := lz) f1.v) (ajN dE hM bq aT)).mono fun e Jq ⟨he, hw⟩ => ?_;subst he;exact ⟨_, rfl, ahB laidOut aiM aeK rfl Tryz.underlying4 (by kernel_rfl) rfl aeU hw rfl⟩
theorem proved : Rows.MatchMissingSaid :=
  OpenClaim.holds_of_wide 9 Tryz.f9 rfl rfl rfl rfl rfl rfl rfl ⟨rfl, rfl, rfl, rfl, rfl⟩ rfl rfl rfl rfl rfl (by kernel_rfl) Tryz.func9 (by kernel_rfl)
    (of_decide_eq_true (by kernel_rfl)) (by unfold Func.isWrapper; first | (rw [if_pos (by decide +kernel)]; kernel_rfl) | (rw [if_neg (by decide +kernel)]; exact ⟨rfl, rfl⟩))
    (fun os started H enc _ => lifted os started H enc)
end Go.Proofs.YtfakoboiahbhaaaGreat.Ab
