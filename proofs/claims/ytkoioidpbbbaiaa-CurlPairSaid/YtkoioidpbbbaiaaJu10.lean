
import Derived.Test.YtkoioidpbbbaiaaRows
import Derived.Test.YtkoioidpbbbaiaaJu5
import Derived.Test.YtkoioidpbbbaiaaJu9
import Derived.WalkKit
import Derived.ProofKit
set_option linter.unusedSimpArgs false
set_option linter.unusedVariables false
set_option linter.unusedSectionVars false
/-
  aiL is true for every input: the last step, from the NU of the function to the given row. No NT.
-/
namespace Go.Proofs.Ytkoioidpbbbaiaa.Ab
open Go Go.ChangeShapes Go.WideShapes Go.ChangeAt Go.RowKit
theorem J5 : ownKnob Try.prog.godebug = none := by kernel_rfl
theorem laidOut : laidOutB Try.prog = true := by kernel_rfl
theorem J9 : mapsRowed Try.prog = true := by kernel_rfl
theorem JN : ((List.range Try.prog.types.size).all fun t => match Try.prog.underlying t with | some (.slice e) => decide (0 < Try.prog.cellsOf e) | _ => true) = true := by kernel_rfl
set_option maxRecDepth 100000 in
theorem lifted (os : Os) (started : os.Started) (H : Type) (enc : TypeId × Value → H) :
    ReturnsInHanded {} Try.checked os 7 .any (Rows.curlPairSpec.pre6 enc Try.prog Try.f7 Rows.curlPairRow.domain false) (Rows.curlPairSpec.post enc Try.prog Try.f7 false true false false) := by
  refine returnsInHanded_of_change (C := Try.checked) J5 started (by kernel_rfl) Try.func7
    (ChangeSpec.witness6 (enc := enc) (C := Try.checked) false ⟨#[], #[.agg #[.slice none 0 0, .int .i64 0, .int .i64 0], .slice none 0 0], []⟩ 8 (by kernel_rfl) (by kernel_rfl) (by kernel_rfl) (by kernel_rfl)) ?_
  intro W base args fD gs before J1 l9 _ _;have zu : ∀ (j : Nat) t v, Try.f7.params[j]? = some t → args[j]? = some v → Value.okWide Try.prog W .any base t v := J1;have JR := l9;obtain ⟨p, q, JQ, jH, rfl, _, _⟩ := l9;have aL : DataW.TrodAll enc Try.prog W 0 (fun _ => true) true Try.f7.params.toList args.toList fD p := JQ;rw [Try.params7] at aL zu;obtain ⟨v0, v1, d0, d1, Jo, bT, rfl, rfl, rfl, aQ, ab⟩ := trodAll_two aL;obtain ⟨rfl, rfl⟩ := trodVars_none jH;obtain ⟨_, db, hQ, jr, rfl, f0⟩ := NR (base := base) v0 d0 Jo (zu 0 26 v0 rfl rfl) aQ;obtain ⟨_, bl, aS, lB, rfl, f1⟩ := Pb (base := base) v1 d1 bT (zu 1 37 v1 rfl rfl) ab;refine (Nk (vs := [v0, v1]) (ab3 jr f1.v) (Zd db hQ bl aS)).mono fun e Ic ⟨he, hw⟩ => ?_;subst he;exact ⟨_, rfl, M3 laidOut J9 JN rfl Try.underlying4 (by kernel_rfl) rfl JR hw rfl⟩
theorem proved : Rows.CurlPairSaid :=
  OpenClaim.holds_of_wide 7 Try.f7 rfl rfl rfl rfl rfl rfl rfl ⟨rfl, rfl, rfl, rfl, rfl⟩ rfl rfl rfl rfl rfl (by kernel_rfl) Try.func7 (by kernel_rfl)
    (of_decide_eq_true (by kernel_rfl)) (by unfold Func.isWrapper; first | (rw [if_pos (by decide +kernel)]; kernel_rfl) | (rw [if_neg (by decide +kernel)]; exact ⟨rfl, rfl⟩))
    (fun os started H enc _ => lifted os started H enc)
end Go.Proofs.Ytkoioidpbbbaiaa.Ab
