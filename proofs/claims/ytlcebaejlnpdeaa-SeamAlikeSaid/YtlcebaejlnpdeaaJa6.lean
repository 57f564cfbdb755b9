/- MADE BY PROGRAM (rc.py): functions, looked up. -/
import Derived.Test.YtlcebaejlnpdeaaJa5
import Derived.Test.YtlcebaejlnpdeaaJa4
import Derived.Test.YtlcebaejlnpdeaaProg
import Derived.KernelRfl
import Derived.Test.YtlcebaejlnpdeaaJa3
set_option linter.unusedSimpArgs false
set_option linter.unusedVariables false
set_option linter.unusedSectionVars false
namespace Go.Proofs.Ytlcebaejlnpdeaa.Ab
open Go
noncomputable def rc105s_1 : RC :=
  .seq (.reg false [I_ 45 [.sl 0] .mv, I_ 46 [.sl 3] .mv, I_ 47 [.sl 4] .mv, I_ 48 [.sl 5] .mv, I_ 49 [.tv 47, .tv 48] (.ia 1), I_ 50 [.tv 49] (.ld .one), I_ 51 [.tv 45, .tv 46] (.ia 1), ⟨none, [.tk 51, .tk 50], none, none, .st
  1⟩]) (.reg false [I_ 52 [.tk 3] .mv, I_ 53 [.tv 52, .cv (.int .i64 1)] (.bin .add), I_ 3 [.tk 53] .mv])
noncomputable def rc105s_2 : RC :=
  .block 3 (.seq (.reg true [I_ 35 [.sl 4] .mv, I_ 36 [.sl 5] .mv, I_ 37 [.tv 35, .tv 36] (.ia 1), I_ 38 [.tv 37] (.ld .one), I_ 39 [.sl 4] .mv, I_ 40 [.sl 5] .mv, I_ 41 [.tv 40, .cv (.int .i64 1)] (.bin .sub), I_ 42 [.tv 39, .tv
  41] (.ia 1), I_ 43 [.tv 42] (.ld .one), I_ 44 [.tv 38, .tv 43] (.bin .neq)]) (.cond (.sl 44) rc105s_1 .skip))
noncomputable def rc105s_3 : RC :=
  .seq (.seq (.reg false [I_ 29 [.sl 5] .mv, I_ 30 [.sl 4] .mv, I_ 31 [.tk 30] .lenS, I_ 32 [.tv 29, .tv 31] (.bin .lss)]) (.cond (.sl 32) .skip (.exit 2))) (.seq rc105s_2 (.reg false [I_ 33 [.tk 5] .mv, I_ 34 [.tv 33, .cv (.int
  .i64 1)] (.bin .add), I_ 5 [.tk 34] .mv]))
noncomputable def rc105s_4 : RC :=
  .seq (.reg false [I_ 57 [.tk 0] .mv, I_ 58 [.tk 3] .mv, I_ 59 [.tk 57, .tk 58] (.slS 1 false true false), I_ 2 [.tk 59] .mv]) .ret
noncomputable def rc105s_5 : RC :=
  .seq (.reg false [I_ 54 [.sl 0] .mv, I_ 55 [.sl 3] .mv, I_ 56 [.tk 54, .tk 55] (.slS 1 true false false), ⟨none, [.tk 56], none, none, .other (Oper.mk none (Op.call (Call.mk (Callee.builtin Builtin.clear) (Array.mk [Operand.tmp
  56]) (Array.mk [37]))) 0 "slices.go:385" (Array.mk [Edge.mk 2 Ground.data]) none) 0⟩]) rc105s_4
noncomputable def rc105s_6 : RC :=
  .seq (.reg false [I_ 26 [.sl 0] .mv, I_ 27 [.sl 3] .mv, I_ 28 [.tk 26, .tk 27] (.slS 1 true false false), I_ 4 [.tk 28] .mv]) (.seq (.seq (.reg false [I_ 5 [.cv (.int .i64 1)] .mv]) (.block 2 (.loop (some [i_,o_,o_,i_,i_,i_,o_,o_,o_,o_,o_,o_,o_,o_,o_,o_,o_,o_,o_,o_,o_,o_,o_,o_,o_,o_,o_,o_,o_,o_,o_,o_,o_,o_,o_,o_,o_,o_,o_,o_,o_,o_,o_,o_,o_,o_,o_,o_,o_,o_,o_,o_,o_,o_,o_,o_,o_,o_,o_,o_,o_]) rc105s_3))) rc105s_5)
noncomputable def rc105s_7 : RC :=
  .block 1 (.seq (.reg true [I_ 16 [.sl 0] .mv, I_ 17 [.sl 3] .mv, I_ 18 [.tv 16, .tv 17] (.ia 1), I_ 19 [.tv 18] (.ld .one), I_ 20 [.sl 0] .mv, I_ 21 [.sl 3] .mv, I_ 22 [.tv 21, .cv (.int .i64 1)] (.bin .sub), I_ 23 [.tv 20, .tv
  22] (.ia 1), I_ 24 [.tv 23] (.ld .one), I_ 25 [.tv 19, .tv 24] (.bin .eql)]) (.cond (.sl 25) rc105s_6 .skip))
noncomputable def rc105s_8 : RC :=
  .seq (.seq (.reg false [I_ 10 [.sl 3] .mv, I_ 11 [.sl 0] .mv, I_ 12 [.tk 11] .lenS, I_ 13 [.tv 10, .tv 12] (.bin .lss)]) (.cond (.sl 13) .skip (.exit 0))) (.seq rc105s_7 (.reg false [I_ 14 [.tk 3] .mv, I_ 15 [.tv 14, .cv (.int
  .i64 1)] (.bin .add), I_ 3 [.tk 15] .mv]))
noncomputable def rc105s_9 : RC :=
  .seq (.seq (.reg false [I_ 6 [.sl 0] .mv, I_ 7 [.tk 6] .lenS, I_ 8 [.tv 7, .cv (.int .i64 2)] (.bin .lss)]) (.cond (.sl 8) (.seq (.reg false [I_ 9 [.tk 0] .mv, I_ 2 [.tk 9] .mv]) .ret) .skip)) (.seq (.seq (.reg false [I_ 3 [.cv
  (.int .i64 1)] .mv]) (.block 0 (.loop (some [i_,o_,o_,i_,o_,o_,o_,o_,o_,o_,o_,o_,o_,o_,o_,o_,o_,o_,o_,o_,o_,o_,o_,o_,o_,o_,o_,o_,o_,o_,o_,o_,o_,o_,o_,o_,o_,o_,o_,o_,o_,o_,o_,o_,o_,o_,o_,o_,o_,o_,o_,o_,o_,o_,o_,o_,o_,o_,o_,o_,o_]) rc105s_8))) (.seq (.reg false [I_ 60 [.tk 0] .mv, I_ 2 [.tk 60] .mv]) .ret))
noncomputable def rc105s : RC :=
  .seq (.reg false [I_ 2 [.cv (.lst [] 0 .full)] (.nil 1)]) rc105s_9
theorem lk105s : linkF Go.Proofs.Try.prog ann105 105 = some (rc105s, 61, [.tmp 2]) := by kernel_rfl
noncomputable def rc88s_1 : RC :=
  .seq (.reg false [I_ 30 [.sl 0] .mv, I_ 31 [.sl 5] .mv, I_ 32 [.tk 7] .mv, I_ 33 [.tv 30, .tv 31] (.ia 1), ⟨none, [.tk 33, .tk 32], none, none, .st 1⟩]) (.reg false [I_ 34 [.tk 5] .mv, I_ 35 [.tv 34, .cv (.int .i64 1)] (.bin
  .add), I_ 5 [.tk 35] .mv])
noncomputable def rc88s_2 : RC :=
  .seq (.reg false [I_ 26 [.sl 1] .mv, I_ 27 [.sl 7] .mv, I_ 28 [.sl 26, .sl 27] (.call 6), I_ 29 [.tv 28] (.un .not)]) (.cond (.sl 29) rc88s_1 .skip)
noncomputable def rc88s_3 : RC :=
  .block 1 (.seq (.reg false [I_ 22 [.sl 0] .mv, I_ 23 [.sl 6] .mv, I_ 24 [.tv 22, .tv 23] (.ia 1), I_ 25 [.tv 24] (.ld .one), I_ 7 [.tk 25] .mv]) rc88s_2)
noncomputable def rc88s_4 : RC :=
  .seq (.seq (.reg false [I_ 16 [.sl 6] .mv, I_ 17 [.sl 0] .mv, I_ 18 [.tk 17] .lenS, I_ 19 [.tv 16, .tv 18] (.bin .lss)]) (.cond (.sl 19) .skip (.exit 0))) (.seq rc88s_3 (.reg false [I_ 20 [.tk 6] .mv, I_ 21 [.tv 20, .cv (.int .i64
  1)] (.bin .add), I_ 6 [.tk 21] .mv]))
noncomputable def rc88s_5 : RC :=
  .seq (.reg false [I_ 39 [.tk 0] .mv, I_ 40 [.tk 5] .mv, I_ 41 [.tk 39, .tk 40] (.slS 1 false true false), I_ 4 [.tk 41] .mv]) .ret
noncomputable def rc88s_6 : RC :=
  .seq (.reg false [I_ 36 [.sl 0] .mv, I_ 37 [.sl 5] .mv, I_ 38 [.tk 36, .tk 37] (.slS 1 true false false), ⟨none, [.tk 38], none, none, .other (Oper.mk none (Op.call (Call.mk (Callee.builtin Builtin.clear) (Array.mk [Operand.tmp
  38]) (Array.mk [37]))) 0 "slices.go:253" (Array.mk [Edge.mk 2 Ground.data]) none) 0⟩]) rc88s_5
noncomputable def rc88s_7 : RC :=
  .seq (.seq (.reg false [I_ 11 [.sl 5] .mv, I_ 12 [.tv 11, .cv (.int .i64 (-1))] (.bin .eql)]) (.cond (.sl 12) (.seq (.reg false [I_ 13 [.tk 0] .mv, I_ 4 [.tk 13] .mv]) .ret) .skip)) (.seq (.seq (.reg false [I_ 14 [.sl 5] .mv, I_
  15 [.tv 14, .cv (.int .i64 1)] (.bin .add), I_ 6 [.tk 15] .mv]) (.block 0 (.loop (some [i_,i_,o_,o_,o_,i_,i_,o_,o_,o_,o_,o_,o_,o_,o_,o_,o_,o_,o_,o_,o_,o_,o_,o_,o_,o_,o_,o_,o_,o_,o_,o_,o_,o_,o_,o_,o_,o_,o_,o_,o_,o_]) rc88s_4))) rc88s_6)
noncomputable def rc88s_8 : RC :=
  .seq (.reg false [I_ 8 [.sl 0] .mv, I_ 9 [.sl 1] .mv, I_ 10 [.cv (.func 110 [] []), .sl 8, .sl 9] (.call 6), I_ 5 [.tk 10] .mv]) rc88s_7
noncomputable def rc88s : RC :=
  .seq (.reg false [I_ 4 [.cv (.lst [] 0 .full)] (.nil 1)]) rc88s_8
theorem lk88s : linkF Go.Proofs.Try.prog ann88 88 = some (rc88s, 42, [.tmp 4]) := by kernel_rfl
noncomputable def rc83s_1 : RC :=
  .reg false [I_ 34 [.tk 8] .mv, I_ 35 [.tk 10] .mv, I_ 36 [.sl 7] .mv, I_ 37 [.tk 9] .mv, I_ 38 [.tv 36, .tv 37] (.bin .shr), I_ 39 [.tv 38, .cv (.int .i64 1)] (.bin .and), I_ 40 [.tv 35, .tv 39] (.bin .mul), I_ 41 [.tv 34, .tv
  40] (.bin .add), I_ 8 [.tk 41] .mv]
noncomputable def rc83s_2 : RC :=
  .block 3 (.seq (.reg false [I_ 31 [.sl 29] .mv, I_ 32 [.sl 27, .sl 29] (.ia 1), I_ 33 [.tv 32] (.ld .one), I_ 9 [.tk 31] .mv, I_ 10 [.tk 33] .mv]) rc83s_1)
noncomputable def rc83s_3 : RC :=
  .reg false [I_ 43 [.tk 5] .mv, I_ 44 [.tk 8] .mv, I_ 45 [.tv 44] (.buildS 1 1 [.int .i64 0] [0]), I_ 46 [.tk 43, .tk 45] (.app 1 8), I_ 5 [.tk 46] .mv]
noncomputable def rc83s_4 : RC :=
  .seq (.seq (.reg false [I_ 27 [.sl 6] .mv, I_ 28 [.sl 27] .lenS, I_ 29 [.cv (.int .i64 0)] .mv]) (.block 2 (.loop (some [o_,o_,o_,o_,o_,i_,i_,i_,i_,o_,o_,o_,o_,o_,o_,o_,o_,o_,o_,o_,o_,o_,o_,o_,o_,o_,o_,i_,i_,i_,o_,o_,o_,o_,o_,o_,o_,o_,o_,o_,o_,o_,o_,o_,o_,o_,o_,o_,o_,o_,o_]) (.seq (.reg false [I_ 30 [.sl 29, .sl 28] (.bin .lss)]) (.seq (.cond (.sl 30) .skip (.exit 2)) (.seq rc83s_2 (.reg false [I_ 42 [.tv 29, .cv (.int .i64 1)] (.bin .add), I_ 29 [.tk 42] .mv]))))))) rc83s_3
noncomputable def rc83s_5 : RC :=
  .block 1 (.seq (.reg false [I_ 8 [.cv (.int .i64 0)] .mv]) rc83s_4)
noncomputable def rc83s_6 : RC :=
  .seq (.seq (.reg false [I_ 19 [.sl 7] .mv, I_ 20 [.sl 6] .mv, I_ 21 [.tk 20] .lenS, I_ 22 [.cv (.int .i64 1), .tv 21] (.bin .shl), I_ 23 [.tv 22, .cv (.int .i64 1)] (.bin .sub), I_ 24 [.tv 19, .tv 23] (.bin .lss)]) (.cond (.sl
  24) .skip (.exit 0))) (.seq rc83s_5 (.reg false [I_ 25 [.tk 7] .mv, I_ 26 [.tv 25, .cv (.int .i64 1)] (.bin .add), I_ 7 [.tk 26] .mv]))
noncomputable def rc83s_7 : RC :=
  .seq (.reg false [⟨some 47, [.tk 5], none, some 5, .thaw⟩, I_ 48 [.cv (.func 104 [] []), .tk 47] (.call 1)]) (.seq (.reg false [I_ 49 [.tk 5] .mv, I_ 50 [.cv (.func 105 [] []), .tk 49] (.call 1), I_ 4 [.tk 50] .mv]) .ret)
noncomputable def rc83s_8 : RC :=
  .seq (.reg false [I_ 11 [.tk 0] .mv, I_ 12 [.tv 11] .nilc, I_ 13 [.tv 12] (.fa 0), I_ 14 [.tv 13] (.fa 0), I_ 15 [.tv 14] (.ld .one), I_ 16 [.tk 1] .mv, I_ 17 [.tv 15, .tv 16] (.ia 1), I_ 18 [.tv 17] (.ld .one), I_ 6 [.tk 18]
  .mv]) (.seq (.seq (.reg false [I_ 7 [.cv (.int .i64 1)] .mv]) (.block 0 (.loop (some [o_,o_,o_,o_,o_,i_,i_,i_,o_,o_,o_,o_,o_,o_,o_,o_,o_,o_,o_,o_,o_,o_,o_,o_,o_,o_,o_,o_,o_,o_,o_,o_,o_,o_,o_,o_,o_,o_,o_,o_,o_,o_,o_,o_,o_,o_,o_,o_,o_,o_,o_]) rc83s_6)))
  rc83s_7)
noncomputable def rc83s : RC :=
  .seq (.reg false [I_ 4 [.cv (.lst [] 0 .full)] (.nil 1)]) (.seq (.reg false [I_ 5 [.cv (.lst [] 0 .full)] (.nil 1)]) rc83s_8)
theorem lk83s : linkF Go.Proofs.Try.prog ann83 83 = some (rc83s, 51, [.tmp 4]) := by kernel_rfl
end Go.Proofs.Ytlcebaejlnpdeaa.Ab

/-
  Contracts: slices' Compact.
-/
namespace Go.Proofs.Ytlcebaejlnpdeaa.Ab
open Go
set_option maxRecDepth 20000
set_option maxHeartbeats 4000000
/-- What is to hold behind some code is a word alone (the kernel is spared it). -/
theorem wpG {P : Program} {A : FAnn} {fn : FuncId} {lo : Nat} {rl : Option Nat} {c : RC} {T : List AV} {H : List AObj} {K : Ex → List AV → List AObj → Prop} (h : ∀ K' : Ex → List AV → List AObj → Prop, (∀ e T H, K e T H → K' e T H) → wpR P A fn lo rl c T H K') : wpR P A fn lo rl c T H K := h K fun _ _ _ h => h
/-- Of equal ones side by side the first. -/
def cmpA (l : List Int) : Nat → List Int
  | 0 => []
  | k + 1 => if 0 < k ∧ l.getD k 0 = l.getD (k - 1) 0 then cmpA l k else cmpA l k ++ [l.getD k 0]
theorem cmpA_le (l : List Int) : ∀ k, (cmpA l k).length ≤ k
  | 0 => Nat.le_refl _
  | k + 1 => by
    have := cmpA_le l k
    simp only [cmpA]; split
    · omega
    · simp; omega
theorem clear1 (lo id off len : Nat) (H : List AObj) (l : List AV) (hlo : lo ≤ id) (hH : H[id]? = some (.cells l)) (h : off + len = l.length) :
    opClear Go.Proofs.Try.prog lo #[37] H [.ref id off len none 1] = some (.tuple [], H.set id (.cells (l.take off ++ List.replicate len (I 0)))) := by
  have e1 : ((#[37] : Array TypeId)[0]?).bind Go.Proofs.Try.prog.underlying = some (.slice 2) := by kernel_rfl
  have e2 : szOf Go.Proofs.Try.prog 2 = some 1 := by kernel_rfl
  have e3 : zeroCells Go.Proofs.Try.prog 2 = some [.int .i64 0] := by kernel_rfl
  have e4 : setCells off (repl len [AV.int .i64 0]) l = l.take off ++ List.replicate len (I 0) := by
    apply List.ext_getElem?
    intro j
    rw [setCells_get _ _ _ _ (by rw [repl_len]; simp; omega), repl_len, repl1]
    by_cases hj : j < off
    · rw [if_neg (by omega), List.getElem?_append_left (by simp; omega), List.getElem?_take_of_lt hj]
    · rw [List.getElem?_append_right (by simp; omega)]
      simp only [List.length_take, List.length_singleton, Nat.mul_one]
      by_cases hj2 : j < off + len
      · rw [if_pos ⟨by omega, hj2⟩, List.getElem?_replicate, List.getElem?_replicate, if_pos (by omega), if_pos (by omega)]
      · rw [if_neg (by omega), List.getElem?_eq_none (by omega), List.getElem?_replicate, if_neg (by omega)]
  unfold opClear
  simp only [e1, e2, e3, mutObj, hH, Option.map_some, if_pos hlo]
  rw [if_pos ⟨trivial, rfl, by decide⟩, if_pos (by omega), e4]
  rfl
theorem atC (l : List Int) (k x : Nat) (h : (cmpA l k).length ≤ x) (hx : x < l.length) : ((cmpA l k ++ l.drop (cmpA l k).length).map I)[x]? = some (I (l.getD x 0)) := by
  rw [List.getElem?_map, List.getElem?_append_right h, List.getElem?_drop, show (cmpA l k).length + (x - (cmpA l k).length) = x by omega, List.getElem?_eq_getElem hx]
  simp [hx]
theorem setC (l : List Int) (A : List Int) (v : Int) (h : A.length < l.length) : ((A ++ l.drop A.length).map I).set A.length (I v) = ((A ++ [v]) ++ l.drop (A ++ [v]).length).map I := by
  rw [List.map_append, List.set_append_right _ _ (by simp), List.length_map, Nat.sub_self, List.drop_eq_getElem_cons h, List.map_cons, List.set_cons_zero]
  simp
theorem listAt (l : List Int) (x : Nat) (hx : x < l.length) : (l.map I)[x]? = some (I (l.getD x 0)) := by simp [hx]
section
variable {H : List AObj} {id lo : Nat}
theorem compact_sem (hlo : lo ≤ id) (l : List Int) (h0 : 0 < l.length) (hl : l.length ≤ 1000) (hH : H[id]? = some (.cells (l.map I))) :
    Sem Go.Proofs.Try.prog (.fn 105) [.ref id 0 l.length none 1] H lo (.ref id 0 (cmpA l l.length).length none 1) (H.set id (.cells ((cmpA l l.length ++ List.replicate (l.length - (cmpA l l.length).length) 0).map I))) := by
  have hid := (List.getElem?_eq_some_iff.1 hH).1
  have hbl : Nat.ble lo id = true := Nat.ble_eq_true_of_le hlo
  have gs : ∀ c : AObj, (H.set id c)[id]? = some c := fun c => by rw [List.getElem?_set_self hid]
  have gss : ∀ c e : AObj, ((H.set id c).set id e)[id]? = some e := fun c e => by rw [List.set_set, gs]
  have same : H.set id (.cells (l.map I)) = H := by
    obtain ⟨h1, h2⟩ := List.getElem?_eq_some_iff.1 hH
    rw [← h2, List.set_getElem_self]
  refine fn_semQ hmix lk105s rfl ⟨by simp, fun j h1 h2 => by rw [List.getElem?_set_ne (by omega)]⟩ fun Q hQ => ?_
  unfold rc105s rc105s_9
  obtain ⟨c8, g8⟩ : ∃ c, rc105s_8 = c := ⟨_, rfl⟩
  rw [g8]
  conv => whnf
  have fin : ∀ T, getT T 2 = .ref id 0 l.length none 1 → cmpA l l.length = l → Q .ret T H := fun T hT e => hQ _ _ _ ⟨.inr rfl, by rw [e, Nat.sub_self, List.replicate_zero, List.append_nil, same]; exact ⟨rfl, fun j o hj => .inr hj⟩, by rw [e]; simp only [readR, hT, Option.map_some, packResults]⟩
  by_cases h2 : ((l.length : Nat) : Int) < 2
  · rw [decide_eq_true h2]
    conv => whnf
    have : l.length = 1 := by omega
    refine fin _ rfl ?_
    match l, this with
    | [x], _ => rfl
  rw [decide_eq_false h2]
  conv => whnf
  refine .intro (fun m T H' => ∃ k, 1 ≤ k ∧ k ≤ l.length ∧ m = l.length - k ∧ cmpA l k = l.take k ∧ T = slots 61 [(0, .ref id 0 l.length none 1), (3, I (k : Nat))] ∧ H = H') (l.length - 1) ⟨1, by omega, by omega, rfl, ?_, rfl, rfl⟩ ?_
  · match l, h0 with
    | x :: r, _ => rfl
  rintro m T H' ⟨k, hk1, hk2, rfl, he, rfl, rfl⟩
  subst g8
  unfold rc105s_8 rc105s_7
  obtain ⟨c6, g6⟩ : ∃ c, rc105s_6 = c := ⟨_, rfl⟩
  rw [g6]
  conv => whnf
  by_cases hk : (k : Int) < (l.length : Int)
  · rw [decide_eq_true hk]
    conv => whnf
    refine ⟨by omega, ?_⟩
    conv => whnf
    refine nthK_of hH ?_
    conv => whnf
    refine nthK_of (x := I (l.getD k 0)) (by rw [show 0 + (k : Int).toNat * 1 = k by simp]; exact listAt l k (by omega)) ?_
    conv => whnf
    rw [show IntKind.i64.wrap ((k : Int) - 1) = ((k - 1 : Nat) : Int) by rw [wrapI _ (by omega) (by omega)]; omega]
    refine ⟨by omega, ?_⟩
    conv => whnf
    refine nthK_of hH ?_
    conv => whnf
    refine nthK_of (x := I (l.getD (k - 1) 0)) (by rw [show 0 + (((k - 1 : Nat)) : Int).toNat * 1 = k - 1 by simp]; exact listAt l (k - 1) (by omega)) ?_
    conv => whnf
    by_cases hd : l.getD k 0 = l.getD (k - 1) 0
    · rw [decide_eq_true hd]
      conv => whnf
      have he1 : cmpA l (k + 1) = l.take k := by simp only [cmpA]; rw [if_pos ⟨by omega, hd⟩, he]
      subst g6
      unfold rc105s_6
      obtain ⟨c3, g3⟩ : ∃ c, rc105s_3 = c := ⟨_, rfl⟩
      obtain ⟨c5, g5⟩ : ∃ c, rc105s_5 = c := ⟨_, rfl⟩
      rw [g3, g5]
      conv => whnf
      refine ⟨rfl, by omega, fun _ => ?_, fun h => by omega⟩
      conv => whnf
      refine .intro (fun m T H' => ∃ q, 1 ≤ q ∧ k + q ≤ l.length ∧ m = l.length - q ∧ (cmpA l (k + q)).length + 1 ≤ k + q ∧ T = slots 61 [(0, .ref id 0 l.length none 1), (3, I (cmpA l (k + q)).length), (4, .ref id (0 + (k : Int).toNat * 1) (l.length - (k : Int).toNat) none 1), (5, I (q : Nat))] ∧ H' = H.set id (.cells ((cmpA l (k + q) ++ l.drop (cmpA l (k + q)).length).map I))) (l.length - 1) ⟨1, Nat.le_refl _, by omega, rfl, by rw [he1]; simp; omega, ?_, ?_⟩ ?_
      · rw [he1, List.length_take, Nat.min_eq_left (by omega)]; rfl
      · rw [he1, List.length_take, Nat.min_eq_left (by omega), List.take_append_drop]; exact same.symm
      rintro m T H' ⟨q, hq1, hq2, rfl, hw, rfl, rfl⟩
      subst g3
      unfold rc105s_3 rc105s_2
      obtain ⟨c1, g1⟩ : ∃ c, rc105s_1 = c := ⟨_, rfl⟩
      rw [g1]
      conv => whnf
      by_cases hq : (q : Int) < ((l.length - k : Nat) : Int)
      · rw [show decide ((q : Int) < ((l.length - (k : Int).toNat : Nat) : Int)) = true from decide_eq_true hq]
        conv => whnf
        refine ⟨by simp; omega, ?_⟩
        conv => whnf
        refine nthK_of (gs _) ?_
        conv => whnf
        refine nthK_of (x := I (l.getD (k + q) 0)) (by rw [show 0 + (k : Int).toNat * 1 + (q : Int).toNat * 1 = k + q by simp]; exact atC l (k + q) (k + q) (by omega) (by omega)) ?_
        conv => whnf
        rw [show IntKind.i64.wrap ((q : Int) - 1) = ((q - 1 : Nat) : Int) by rw [wrapI _ (by omega) (by omega)]; omega]
        refine ⟨by simp; omega, ?_⟩
        conv => whnf
        refine nthK_of (gs _) ?_
        conv => whnf
        refine nthK_of (x := I (l.getD (k + q - 1) 0)) (by rw [show 0 + (k : Int).toNat * 1 + (((q - 1 : Nat)) : Int).toNat * 1 = k + q - 1 by simp; omega]; exact atC l (k + q) (k + q - 1) (by omega) (by omega)) ?_
        conv => whnf
        by_cases hx : l.getD (k + q) 0 = l.getD (k + q - 1) 0
        · rw [decide_eq_false (not_not_intro hx)]
          conv => whnf
          have e : cmpA l (k + (q + 1)) = cmpA l (k + q) := by rw [← Nat.add_assoc]; simp only [cmpA]; rw [if_pos ⟨by omega, hx⟩]
          refine ⟨l.length - (q + 1), by omega, q + 1, by omega, by omega, rfl, by rw [e]; omega, ?_, by rw [e]⟩
          rw [e, ← wrapS q (by omega)]; rfl
        · rw [decide_eq_true hx]
          conv => whnf
          have e : cmpA l (k + (q + 1)) = cmpA l (k + q) ++ [l.getD (k + q) 0] := by rw [← Nat.add_assoc]; simp only [cmpA]; rw [if_neg fun h => hx h.2]
          subst g1
          refine wpG fun K1 hK1 => ?_
          unfold rc105s_1
          conv => whnf
          refine ⟨by simp; omega, ?_⟩
          conv => whnf
          refine nthK_of (gs _) ?_
          conv => whnf
          refine nthK_of (x := I (l.getD (k + q) 0)) (by rw [show 0 + (k : Int).toNat * 1 + (q : Int).toNat * 1 = k + q by simp]; exact atC l (k + q) (k + q) (by omega) (by omega)) ?_
          conv => whnf
          refine ⟨by omega, ?_⟩
          conv => whnf
          rw [hbl]
          conv => whnf
          refine nthK_of (gs _) ?_
          conv => whnf
          refine updK_of (by simp; omega) ?_
          conv => whnf
          refine hK1 _ _ _ ?_
          conv => whnf
          refine ⟨l.length - (q + 1), by omega, q + 1, by omega, by omega, rfl, by rw [e, List.length_append, List.length_singleton]; omega, ?_, ?_⟩
          · rw [e, List.length_append, List.length_singleton, ← wrapS q (by omega), ← wrapS (cmpA l (k + q)).length (by omega)]; rfl
          · rw [List.set_set, e, show 0 + ((cmpA l (k + q)).length : Int).toNat * 1 = (cmpA l (k + q)).length by simp, setC l (cmpA l (k + q)) _ (by omega)]
      · rw [show decide ((q : Int) < ((l.length - (k : Int).toNat : Nat) : Int)) = false from decide_eq_false hq]
        conv => whnf
        obtain rfl : q = l.length - k := by omega
        rw [show k + (l.length - k) = l.length by omega] at hw ⊢
        subst g5
        unfold rc105s_5 rc105s_4
        conv => whnf
        refine ⟨rfl, by omega, fun _ => ?_, fun h => by omega⟩
        conv => whnf
        refine ⟨_, _, fun C => (clear1 lo id _ _ _ _ hlo (gs _) (by simp)), ?_⟩
        conv => whnf
        refine ⟨rfl, by omega, ?_⟩
        conv => whnf
        refine hQ _ _ _ ⟨.inr rfl, ?_, rfl⟩
        rw [List.set_set]
        have e : (List.take (0 + ((cmpA l l.length).length : Int).toNat * 1) ((cmpA l l.length ++ l.drop (cmpA l l.length).length).map I) ++ List.replicate (l.length - ((cmpA l l.length).length : Int).toNat) (I 0)) = (cmpA l l.length ++ List.replicate (l.length - (cmpA l l.length).length) 0).map I := by
          simp
        rw [← e]
        exact ⟨rfl, fun j o hj => .inr hj⟩
    · rw [decide_eq_false hd]
      conv => whnf
      refine ⟨l.length - (k + 1), by omega, k + 1, by omega, by omega, rfl, ?_, by rw [← wrapS k (by omega)]; rfl, rfl⟩
      simp only [cmpA]
      rw [if_neg fun h => hd h.2, he, List.take_succ_eq_append_getElem (by omega)]
      simp [show k < l.length by omega]
  · rw [decide_eq_false hk]
    conv => whnf
    obtain rfl : k = l.length := by omega
    exact fin _ rfl (by rw [he, List.take_length])
end
end Go.Proofs.Ytlcebaejlnpdeaa.Ab

/-
  Contracts: the sums of a layer.
-/
namespace Go.Proofs.Ytlcebaejlnpdeaa.Ab
open Go
set_option maxRecDepth 20000
set_option maxHeartbeats 4000000
/-- The sum of strips that bits tell, of the first so many. -/
def bsumT (w : List Int) (b : Nat) : Nat → Int
  | 0 => 0
  | i + 1 => bsumT w b i + w.getD i 0 * ((b / 2 ^ i % 2 : Nat) : Int)
/-- The sums of some strips, but not of all. -/
def subs (w : List Int) : List Int := (List.range (2 ^ w.length - 2)).map fun r => bsumT w (r + 1) w.length
/-- .. sorted, each once. -/
def psums (w : List Int) : List Int := cmpA (Sort.sort Sort.ltInt (subs w).toArray).toList (subs w).length
theorem bit_val : ∀ (b : Fin 32) (i : Fin 5), IntKind.i64.wrap (((BitVec.ofInt IntKind.i64.bits (((b.1 : Nat) : Int).fdiv (2 ^ (Nat.min (((i.1 : Nat) : Int)).toNat IntKind.i64.bits))) &&& BitVec.ofInt IntKind.i64.bits 1).toNat : Nat) : Int) = ((b.1 / 2 ^ i.1 % 2 : Nat) : Int) := by decide +kernel
theorem pow_val : ∀ (n : Fin 6), IntKind.i64.wrap (IntKind.i64.wrap (1 * 2 ^ (Nat.min (((n.1 : Nat) : Int)).toNat IntKind.i64.bits)) - 1) = ((2 ^ n.1 - 1 : Nat) : Int) ∧ 2 ^ n.1 ≤ 32 := by decide +kernel
theorem bsumT_bound {w : List Int} (hs : ∀ x ∈ w, 1 ≤ x ∧ x ≤ 100) (b : Nat) : ∀ i, 0 ≤ bsumT w b i ∧ bsumT w b i ≤ 100 * i
  | 0 => by simp [bsumT]
  | i + 1 => by
    have ih := bsumT_bound hs b i
    have h1 : 0 ≤ w.getD i 0 ∧ w.getD i 0 ≤ 100 := by
      by_cases h : i < w.length
      · have := hs _ (List.getElem_mem h)
        simp [h]; omega
      · simp [h]
    simp only [bsumT]
    have : b / 2 ^ i % 2 = 0 ∨ b / 2 ^ i % 2 = 1 := by omega
    rcases this with e | e <;> rw [e] <;> omega
section
variable {H : List AObj} {id lo : Nat}
theorem compact0_sem : Sem Go.Proofs.Try.prog (.fn 105) [.lst [] 0 .shared] H lo (.lst [] 0 .shared) H := by
  refine fn_semQ hmix lk105s rfl ⟨Nat.le_refl _, fun j h1 h2 => rfl⟩ fun Q hQ => ?_
  unfold rc105s rc105s_9
  obtain ⟨c8, g8⟩ : ∃ c, rc105s_8 = c := ⟨_, rfl⟩
  rw [g8]
  conv => whnf
  exact hQ _ _ _ ⟨.inr rfl, ⟨rfl, fun j o hj => .inr hj⟩, rfl⟩
/-- How many variables the sorting leaves behind. -/
def dN (w : List Int) : Nat := pdqN (subs w).toArray 0 (subs w).toArray.size (Sort.bitsLen (subs w).toArray.size) true true
theorem sums_walk (hlo : lo ≤ H.length) (p : List (List Int)) (k : Nat) (hk : k < p.length) (hv : Val p) (Q : Ex → List AV → List AObj → Prop)
    (h1 : ∀ T, p[k].length = 1 → getT T 4 = .lst [] 0 .shared → Q .ret T H)
    (h2 : ∀ T, 2 ≤ p[k].length → getT T 4 = .ref H.length 0 (psums p[k]).length none 1 → Q .ret T (H ++ .cells ((psums p[k] ++ List.replicate ((subs p[k]).length - (psums p[k]).length) 0).map I) :: Dd (dN p[k]))) :
    wpR Go.Proofs.Try.prog ann83 83 lo none rc83s (slots 51 [(0, Bn p), (1, I k)]) H Q := by
  have h5 := hv.s5 _ (List.getElem_mem hk)
  have hp1 := hv.s1 _ (List.getElem_mem hk)
  unfold rc83s rc83s_8
  obtain ⟨c6, g6⟩ : ∃ c, rc83s_6 = c := ⟨_, rfl⟩
  obtain ⟨c7, g7⟩ : ∃ c, rc83s_7 = c := ⟨_, rfl⟩
  rw [g6, g7]
  conv => whnf
  refine ⟨by omega, ?_⟩
  conv => whnf
  refine nthM _ _ _ (hk) ?_
  conv => whnf
  have hw := hv.w _ (List.getElem_mem hk)
  obtain ⟨w, hw0⟩ : ∃ w, w = p[k] := ⟨_, rfl⟩
  rw [← hw0] at h5 hp1 hw h1 h2 ⊢
  have hpv := pow_val ⟨w.length, by omega⟩
  have hp32 : 2 ^ w.length ≤ 32 := hpv.2
  have hsl : (subs w).length = 2 ^ w.length - 2 := by simp [subs]
  refine .intro (fun m T H' => ∃ r, r ≤ 2 ^ w.length - 2 ∧ m = 2 ^ w.length - 2 - r ∧ T = slots 51 [(5, U1 ((subs w).take r)), (6, L1 w), (7, I (r + 1 : Nat))] ∧ H = H') (2 ^ w.length - 2) ⟨0, by omega, rfl, rfl, rfl⟩ ?_
  rintro m T H' ⟨r, hr, rfl, rfl, rfl⟩
  have h2p : 2 ≤ 2 ^ w.length := by
    have := Nat.pow_le_pow_right (show 0 < 2 by decide) hp1
    simpa using this
  subst g6
  unfold rc83s_6
  obtain ⟨c5, g5⟩ : ∃ c, rc83s_5 = c := ⟨_, rfl⟩
  rw [g5]
  conv => whnf
  refine ⟨by omega, ?_⟩
  conv => whnf
  rw [show IntKind.i64.wrap (IntKind.i64.wrap (1 * 2 ^ (((w.length : Nat) : Int).toNat.min IntKind.i64.bits)) - 1) = ((2 ^ w.length - 1 : Nat) : Int) from hpv.1]
  by_cases hb : ((r + 1 : Nat) : Int) < ((2 ^ w.length - 1 : Nat) : Int)
  · rw [decide_eq_true hb]
    conv => whnf
    subst g5
    refine wpG fun K1 hK1 => ?_
    unfold rc83s_5 rc83s_4
    obtain ⟨c2, g2⟩ : ∃ c, rc83s_2 = c := ⟨_, rfl⟩
    obtain ⟨c3, g3⟩ : ∃ c, rc83s_3 = c := ⟨_, rfl⟩
    rw [g2, g3]
    conv => whnf
    refine .intro (fun m T H' => ∃ i, i ≤ w.length ∧ m = w.length - i ∧ T = slots 51 [(5, U1 ((subs w).take r)), (6, L1 w), (7, I (r + 1 : Nat)), (8, I (bsumT w (r + 1) i)), (27, L1 w), (28, I w.length), (29, I (i : Nat))] ∧ H = H') w.length ⟨0, by omega, rfl, rfl, rfl⟩ ?_
    rintro m T H' ⟨i, hi, rfl, rfl, rfl⟩
    conv => whnf
    by_cases hlt : (i : Int) < (w.length : Int)
    · rw [decide_eq_true hlt]
      conv => whnf
      subst g2
      refine wpG fun K2 hK2 => ?_
      unfold rc83s_2 rc83s_1
      conv => whnf
      refine ⟨by omega, ?_⟩
      conv => whnf
      refine nthM _ _ _ ((show i < w.length by omega)) ?_
      conv => whnf
      refine ⟨by omega, ?_⟩
      conv => whnf
      rw [show IntKind.i64.wrap (((BitVec.ofInt IntKind.i64.bits (((r + 1 : Nat) : Int).fdiv (2 ^ (((i : Nat) : Int).toNat.min IntKind.i64.bits))) &&& BitVec.ofInt IntKind.i64.bits 1).toNat : Nat) : Int) = (((r + 1) / 2 ^ i % 2 : Nat) : Int) from bit_val ⟨r + 1, by omega⟩ ⟨i, by omega⟩]
      refine hK2 _ _ _ ?_
      conv => whnf
      have b1 := bsumT_bound hw (r + 1) i
      have b2 := bsumT_bound hw (r + 1) (i + 1)
      have hx := hw _ (List.getElem_mem (show i < w.length by omega))
      have e : bsumT w (r + 1) (i + 1) = bsumT w (r + 1) i + w[i]'(by omega) * (((r + 1) / 2 ^ i % 2 : Nat) : Int) := by
        simp [bsumT, show i < w.length by omega]
      refine ⟨w.length - (i + 1), by omega, i + 1, by omega, rfl, ?_, rfl⟩
      have m1 : IntKind.i64.wrap (w[i]'(by omega) * (((r + 1) / 2 ^ i % 2 : Nat) : Int)) = w[i]'(by omega) * (((r + 1) / 2 ^ i % 2 : Nat) : Int) := by
        have : (r + 1) / 2 ^ i % 2 = 0 ∨ (r + 1) / 2 ^ i % 2 = 1 := by omega
        rcases this with e | e <;> rw [e] <;> exact wrapI _ (by omega) (by omega)
      rw [m1, ← e, wrapI (bsumT w (r + 1) (i + 1)) (by omega) (by omega), ← wrapS i (by omega)]
      rfl
    · rw [decide_eq_false hlt]
      obtain rfl : i = w.length := by omega
      conv => whnf
      subst g3
      refine wpG fun K2 hK2 => ?_
      unfold rc83s_3
      conv => whnf
      have htl : ((subs w).take r).length = r := by rw [List.length_take, hsl]; omega
      refine ⟨rfl, by decide, rfl, by omega, ?_⟩
      conv => whnf
      refine hK2 _ _ _ ?_
      conv => whnf
      refine hK1 _ _ _ ?_
      conv => whnf
      refine ⟨2 ^ w.length - 2 - (r + 1), by omega, r + 1, by omega, rfl, ?_, rfl⟩
      have e : (subs w).take (r + 1) = (subs w).take r ++ [bsumT w (r + 1) w.length] := by
        rw [List.take_succ_eq_append_getElem (by omega)]; simp [subs]
      rw [e, ← U1_snoc, ← wrapS (r + 1) (by omega)]
      rfl
  · rw [decide_eq_false hb]
    obtain rfl : r = 2 ^ w.length - 2 := by omega
    rw [← hsl, List.take_length]
    conv => whnf
    subst g7
    unfold rc83s_7
    conv => whnf
    by_cases h0 : (subs w).length = 0
    · have h1l : w.length = 1 := by
        by_cases h : 2 ≤ w.length
        · have : 2 ^ 2 ≤ 2 ^ w.length := Nat.pow_le_pow_right (show 0 < 2 by decide) h
          simp only [Nat.reducePow] at this
          omega
        · omega
      refine .inr ⟨h0, ?_⟩
      have e0 : subs w = [] := List.length_eq_zero_iff.1 h0
      rw [e0]
      conv => whnf
      refine ⟨_, _, call1 (sort0_sem _), ?_⟩
      conv => whnf
      refine ⟨_, _, call1 compact0_sem, ?_⟩
      conv => whnf
      exact h1 _ h1l rfl
    · have h2l : 2 ≤ w.length := by
        by_cases h : 2 ≤ w.length
        · exact h
        · have : w.length = 1 := by omega
          rw [this] at hsl; exact absurd hsl h0
      refine .inl ⟨h0, ?_⟩
      conv => whnf
      have hg : (H ++ [AObj.cells ((subs w).map I)])[H.length]? = some (Cd (subs w).toArray) := getLast0 _ _ _ rfl
      have hss := sort_sem hlo (subs w).toArray (by simp; omega) hg
      have e1 : Da H.length (subs w).toArray.size = .ref H.length 0 (subs w).length none 1 := by simp [Da]
      rw [e1] at hss
      refine ⟨_, _, call1 hss, ?_⟩
      rw [setLast _ _ _ _ rfl]
      conv => whnf
      have hps := (Sort.sort_sorts (lt := Sort.ltInt) Sort.swo_ltInt (subs w).toArray).1.1
      obtain ⟨S, hS⟩ : ∃ x, x = (Sort.sort Sort.ltInt (subs w).toArray).toList := ⟨_, rfl⟩
      have hSl : S.length = (subs w).length := by rw [hS, Array.length_toList, hps]; simp
      have hcs := compact_sem (H := H ++ [Cd (Sort.sort Sort.ltInt (subs w).toArray)] ++ Dd (pdqN (subs w).toArray 0 (subs w).toArray.size (Sort.bitsLen (subs w).toArray.size) true true)) (id := H.length) (lo := lo) hlo S (by omega) (by omega) (by rw [List.append_assoc, List.getElem?_append_right (Nat.le_refl _), Nat.sub_self, hS]; rfl)
      rw [hSl] at hcs
      refine ⟨_, _, call1 hcs, ?_⟩
      conv => whnf
      have e2 : cmpA S (subs w).length = psums w := by rw [hS]; rfl
      rw [e2]
      have hE : ∀ (x y : AObj) (M : Nat), (H ++ [x] ++ Dd M).set H.length y = H ++ y :: Dd M := fun x y M => by simp
      rw [hE]
      exact h2 _ h2l rfl
theorem psums_le (w : List Int) : (psums w).length ≤ (subs w).length := cmpA_le _ _
theorem psums_one (w : List Int) (h : w.length = 1) : psums w = [] := by
  have : (subs w).length = 0 := by simp [subs, h]
  unfold psums; rw [this]; rfl
theorem row_int {H : List AObj} {id : Nat} (l r : List Int) (h : H[id]? = some (.cells ((l ++ r).map I))) : rowOf H (.ref id 0 l.length none 1) = some (l.map I) := by
  simp only [rowOf, h, Nat.zero_add, Nat.mul_one, List.length_map, List.length_append, Nat.le_add_right, if_true, List.drop_zero]
  rw [List.map_append, List.take_left' (by simp), List.map_map]
  rfl
theorem frz_row {H : List AObj} {id d : Nat} (l r : List Int) (h : H[id]? = some (.cells ((l ++ r).map I))) : frz H 0 H.length 0 (d + 2) (.ref id 0 l.length none 1) = some (L1 l) := by
  have h1 := (List.getElem?_eq_some_iff.1 h).1
  have h2 : mapO (frz H 0 H.length 0 (d + 1)) (l.map I) = some (l.map I) := mapO_id fun u hu => frz_pure (by obtain ⟨x, _, rfl⟩ := List.mem_map.1 hu; rfl)
  show (if id < 0 then some (AV.ref id 0 l.length none 1) else if id = H.length then some (.ref 0 0 l.length none 1) else match rowOf H (.ref id 0 l.length none 1) with
      | some row => (mapO (frz H 0 H.length 0 (d + 1)) row).map fun cs => AV.lst cs l.length (frzCap none l.length)
      | none => none) = some (L1 l)
  rw [if_neg (by omega), if_neg (by omega), row_int l r h]
  simp only [h2, Option.map_some]
  rfl
/-- A call over no objects. -/
theorem sums_ok (p : List (List Int)) (k : Nat) (hk : k < p.length) (hv : Val p) : PO 83 [Bn p, I k] (L1 (psums p[k])) := by
  refine fn_pureQ hmix lk83s rfl (pu1' _) fun Q hQ => ?_
  refine sums_walk (Nat.zero_le _) p k hk hv Q (fun T h hT => ?_) (fun T h hT => ?_)
  · rw [psums_one _ h] at hQ
    exact hQ _ _ _ (ret_pure (.inr rfl) (pu1' _) (by simp only [readR, hT, Option.map_some, packResults]; rfl))
  · exact hQ _ _ _ ⟨.inr rfl, [.ref 0 0 (psums p[k]).length none 1], by simp only [readR, hT, Option.map_some]; rfl, L1 (psums p[k]), frz_row (id := 0) (psums p[k]) _ rfl, .inl rfl⟩
end
end Go.Proofs.Ytlcebaejlnpdeaa.Ab

/-
  Plain words of layer 5: the program's orders: joints, layer by layer.
-/
namespace Go.Proofs.Ytlcebaejlnpdeaa.Ab
/-- A joint: orders from a layer on, that layer's seams, meetings, the distance. -/
structure Jt where
  o : List (List Int)
  s : List Int
  m : Int
  d : Int
def bestJ (better : Jt → Jt → Bool) (l : List Jt) (x : Jt) : Jt := l.foldl (fun o y => if better y o = true then y else o) x
def bestL (better : Jt → Jt → Bool) (l : List Jt) : Jt := match l with
  | [] => ⟨[], [], 0, 0⟩
  | x :: t => bestJ better t x
def fw (x y : Jt) : Bool := decide (x.m < y.m)
def tryJ (s : List Int) (j : Jt) : Jt := ⟨j.o, [], j.m + common s j.s, 0⟩
/-- One layer more in front. -/
def jointOf (layer : List Int) (behind : List Jt) (o : List Int) : Jt :=
  ⟨o :: (bestL fw (behind.map (tryJ (seamsOf layer o)))).o, seamsOf layer o, (bestL fw (behind.map (tryJ (seamsOf layer o)))).m, 0⟩
def nextJ (layer : List Int) (behind : List Jt) : List Jt := (perms layer.length).map (jointOf layer behind)
def joints : List (List Int) → List Jt
  | [] => [⟨[], [], 0, 0⟩]
  | a :: r => nextJ a (joints r)
def progOrders (p : List (List Int)) : List (List Int) := (bestL fw (joints p)).o
theorem nextJ_len (a : List Int) (b : List Jt) : (nextJ a b).length = (perms a.length).length := by simp [nextJ]
/-- What bounds joints. -/
structure Jb (n : Nat) (x : Jt) : Prop where
  o : x.o.length = n
  s : x.s.length ≤ 4
  m0 : 0 ≤ x.m
  m1 : x.m ≤ 4 * n
theorem bestJ_mem (better : Jt → Jt → Bool) : ∀ (l : List Jt) (x : Jt), bestJ better l x ∈ x :: l
  | [], x => by simp [bestJ]
  | y :: l, x => by
    have := bestJ_mem better l (if better y x = true then y else x)
    have e : bestJ better (y :: l) x = bestJ better l (if better y x = true then y else x) := rfl
    rw [e]
    split at this
    · rename_i h; rw [if_pos h]; simp only [List.mem_cons] at this ⊢; rcases this with h | h <;> simp [h]
    · rename_i h; rw [if_neg h]; simp only [List.mem_cons] at this ⊢; rcases this with h | h <;> simp [h]
theorem bestL_mem (better : Jt → Jt → Bool) (l : List Jt) (h : 0 < l.length) : bestL better l ∈ l := by
  cases l with
  | nil => simp at h
  | cons x l => exact bestJ_mem better l x
theorem jointOf_b {n : Nat} {a : List Int} {b : List Jt} (hb : ∀ x ∈ b, Jb n x) (h0 : 0 < b.length) {o : List Int} (ho : o.length ≤ 5) : Jb (n + 1) (jointOf a b o) := by
  have hs : (seamsOf a o).length ≤ 4 := by simp [seamsOf, seamsGo_length]; omega
  have hm := bestL_mem fw (b.map (tryJ (seamsOf a o))) (by simpa using h0)
  obtain ⟨j, hj, e⟩ := List.mem_map.1 hm
  have := hb j hj
  have hc := common_le (seamsOf a o) j.s
  refine ⟨?_, hs, ?_, ?_⟩
  · simp only [jointOf, List.length_cons, ← e, tryJ]; rw [this.o]
  · simp only [jointOf, ← e, tryJ]; have := this.m0; omega
  · simp only [jointOf, ← e, tryJ]; have := this.m1; omega
theorem joints_b : ∀ (p : List (List Int)), (∀ l ∈ p, 1 ≤ l.length ∧ l.length ≤ 5) → 0 < (joints p).length ∧ (joints p).length ≤ 3125 ∧ ∀ x ∈ joints p, Jb p.length x
  | [], _ => ⟨by simp [joints], by simp [joints], by simp [joints]; exact ⟨rfl, by simp, by simp, by simp⟩⟩
  | a :: r, h => by
    obtain ⟨h1, h2, h3⟩ := joints_b r fun l hl => h l (by simp [hl])
    have ha := h a (by simp)
    refine ⟨by simp only [joints, nextJ_len]; exact perms_pos ha.1 ha.2, by simp only [joints, nextJ_len]; exact perms_len ha.2, fun x hx => ?_⟩
    simp only [joints, nextJ, List.mem_map] at hx
    obtain ⟨o, ho, rfl⟩ := hx
    exact jointOf_b h3 h1 (by rw [(perms_mem ho).1]; exact ha.2)
end Go.Proofs.Ytlcebaejlnpdeaa.Ab

/-
  Contracts: joints; the best of them; lists of lists joined.
-/
namespace Go.Proofs.Ytlcebaejlnpdeaa.Ab
open Go
set_option maxRecDepth 20000
set_option maxHeartbeats 4000000
/-- Its four cells: whether its lists are known to be full. -/
def jcw (co cs : Cap) (x : Jt) : List AV := [.lst (x.o.map L1) x.o.length co, .lst (x.s.map I) x.s.length cs, I x.m, I x.d]
abbrev jc (x : Jt) : List AV := jcw .shared .shared x
def LJ (co cs : Cap) (l : List Jt) (c : Cap) : AV := .lst (l.flatMap (jcw co cs)) l.length c
section
variable (co cs : Cap)
theorem dropJ : ∀ (l : List Jt) (i : Nat) (h : i < l.length), (l.flatMap (jcw co cs)).drop (i * 4) = jcw co cs l[i] ++ (l.drop (i + 1)).flatMap (jcw co cs)
  | x :: l, 0, h => by simp [List.flatMap_cons]
  | x :: l, i + 1, h => by
    have e : (i + 1) * 4 = (jcw co cs x).length + i * 4 := by rw [show (jcw co cs x).length = 4 from rfl]; omega
    rw [List.flatMap_cons, e, ← List.drop_drop, List.drop_left]
    simpa using dropJ l i (by simpa using h)
theorem flenJ (l : List Jt) : (l.flatMap (jcw co cs)).length = l.length * 4 := by
  induction l with
  | nil => rfl
  | cons x l ih => rw [List.flatMap_cons, List.length_append, ih, show (jcw co cs x).length = 4 from rfl, List.length_cons]; omega
theorem dropJ1 (l : List Jt) : AV.lst (((l.flatMap (jcw co cs)).drop ((1 : Int).toNat * 4)).take ((l.length - (1 : Int).toNat) * 4)) (l.length - (1 : Int).toNat) .shared = LJ co cs (l.drop 1) .shared := by
  have e : (l.flatMap (jcw co cs)).drop 4 = (l.drop 1).flatMap (jcw co cs) := by
    cases l with
    | nil => rfl
    | cons x l => simp [List.flatMap_cons, jcw]
  show AV.lst (((l.flatMap (jcw co cs)).drop 4).take ((l.length - 1) * 4)) (l.length - 1) .shared = _
  rw [e, List.take_of_length_le (by rw [flenJ]; simp), LJ, List.length_drop]
theorem pureJL (l : List Jt) : (l.flatMap (jcw co cs)).all (pureD 7) = true := by
  rw [List.all_eq_true]; intro u hu
  obtain ⟨x, _, hx⟩ := List.mem_flatMap.1 hu
  simp only [jcw, List.mem_cons, List.not_mem_nil, or_false] at hx
  rcases hx with rfl | rfl | rfl | rfl
  · exact pure_lists 4 _
  · exact pure_ints 5 _
  · rfl
  · rfl
theorem puLJ (l : List Jt) (n : Nat) (c : Cap) : pureD 8 (.lst (l.flatMap (jcw co cs)) n c) = true := pureJL co cs l
theorem pureJ (x : Jt) : pureD 8 (.agg (jcw co cs x)) = true := by
  have := pureJL co cs [x]
  rw [List.flatMap_cons, List.flatMap_nil, List.append_nil] at this
  exact this
end
theorem setc_get (Y : List AObj) (c d : AObj) : ((Y.append [c]).set Y.length d)[Y.length]? = some d := by
  show ((Y ++ [c]).set Y.length d)[Y.length]? = some d
  rw [set_concat, get_concat]
/-- Which lists are full. -/
def Caps (co cs : Cap) : Prop := (co = .full ∧ cs = .full) ∨ (co = .shared ∧ cs = .full) ∨ (co = .shared ∧ cs = .shared)
theorem best_ok (better : Jt → Jt → Bool) (f : FuncId) {co cs : Cap} (hc : Caps co cs) (x : Jt) (l : List Jt) (hl : l.length ≤ 1000000) (hf : ∀ a b : Jt, PO f [.agg (jc a), .agg (jc b)] (B (better a b))) :
    PO 101 [LJ co cs (x :: l) .shared, .func f [] []] (.agg (jcw co cs (bestJ better l x))) := by
  rcases hc with ⟨rfl, rfl⟩ | ⟨rfl, rfl⟩ | ⟨rfl, rfl⟩
  · refine fn_pure hmix lk101 rfl (pureJ _ _ _) ?_
    unfold rc101
    conv => whnf
    refine ⟨by first | (simp; done) | (simp; omega), ?_⟩
    rw [show ((x :: l).flatMap (jcw .full .full)).drop ((0 : Int).toNat * 4) = jcw .full .full x ++ l.flatMap (jcw .full .full) from rfl]
    conv => whnf
    refine ⟨by first | (simp; done) | (simp; omega), ?_⟩
    rw [dropJ1, List.drop_one, List.tail_cons]
    conv => whnf
    refine .intro (fun m T H => ∃ i Y, i ≤ l.length ∧ m = l.length - i ∧ T = slots 25 [(1, .func f [] []), (4, .ptr 0 0), (5, .ptr 1 0), (12, LJ .full .full l .shared), (13, I l.length), (14, I i)] ∧ H = .cells [nilF, nilF, I 0, I 0] :: .cells (jcw .full .full (bestJ better (l.take i) x)) :: Y) l.length ⟨0, [], by omega, by omega, rfl, rfl⟩ ?_
    rintro m T H ⟨i, Y, hi, rfl, rfl, rfl⟩
    conv => whnf
    refine dcase (fun h => ?_) (fun h => ?_)
    · have hlt : i < l.length := by omega
      have hb : bestJ better (l.take (i + 1)) x = if better l[i] (bestJ better (l.take i) x) = true then l[i] else bestJ better (l.take i) x := foldl_take _ _ l i hlt
      generalize bestJ better (l.take i) x = cur at hb ⊢
      conv => whnf
      refine ⟨by omega, ?_⟩
      conv => whnf
      rw [Int.toNat_natCast, dropJ .full .full l i hlt]
      conv => whnf
      refine nthK_of (get_concat _ _) ?_
      conv => whnf
      refine nthK_of (x := .cells (jcw .full .full l[i])) (setc_get _ _ _) ?_
      conv => whnf
      refine ⟨_, _, call6 (bs := [.agg (jc l[i]), .agg (jc cur)]) rfl (by show (pureD 8 (.agg (jc l[i])) && (pureD 8 (.agg (jc cur)) && true)) = true; rw [pureJ .shared .shared, pureJ .shared .shared]; rfl) (hf _ _) rfl, ?_⟩
      conv => whnf
      cases hbt : better l[i] cur with
      | true =>
        conv => whnf
        refine nthK_of (x := .cells (jcw .full .full l[i])) (setc_get _ _ _) ?_
        conv => whnf
        refine ⟨l.length - (i + 1), by omega, i + 1, Y ++ [.cells (jcw .full .full l[i])], by omega, rfl, by rw [← wrapS i (by omega)] <;> rfl, ?_⟩
        rw [hb, if_pos hbt]
        rw [set_concat]; rfl
      | false =>
        conv => whnf
        refine ⟨l.length - (i + 1), by omega, i + 1, Y ++ [.cells (jcw .full .full l[i])], by omega, rfl, by rw [← wrapS i (by omega)] <;> rfl, ?_⟩
        rw [hb, if_neg (by simp [hbt])]
        rw [set_concat]; rfl
    · obtain rfl : i = l.length := by omega
      rw [List.take_length]
      conv => whnf
      exact ret_pure (.inr rfl) (pureJ _ _ _) rfl
  · refine fn_pure hmix lk101 rfl (pureJ _ _ _) ?_
    unfold rc101
    conv => whnf
    refine ⟨by first | (simp; done) | (simp; omega), ?_⟩
    rw [show ((x :: l).flatMap (jcw .shared .full)).drop ((0 : Int).toNat * 4) = jcw .shared .full x ++ l.flatMap (jcw .shared .full) from rfl]
    conv => whnf
    refine ⟨by first | (simp; done) | (simp; omega), ?_⟩
    rw [dropJ1, List.drop_one, List.tail_cons]
    conv => whnf
    refine .intro (fun m T H => ∃ i Y, i ≤ l.length ∧ m = l.length - i ∧ T = slots 25 [(1, .func f [] []), (4, .ptr 0 0), (5, .ptr 1 0), (12, LJ .shared .full l .shared), (13, I l.length), (14, I i)] ∧ H = .cells [nilF, nilF, I 0, I 0] :: .cells (jcw .shared .full (bestJ better (l.take i) x)) :: Y) l.length ⟨0, [], by omega, by omega, rfl, rfl⟩ ?_
    rintro m T H ⟨i, Y, hi, rfl, rfl, rfl⟩
    conv => whnf
    refine dcase (fun h => ?_) (fun h => ?_)
    · have hlt : i < l.length := by omega
      have hb : bestJ better (l.take (i + 1)) x = if better l[i] (bestJ better (l.take i) x) = true then l[i] else bestJ better (l.take i) x := foldl_take _ _ l i hlt
      generalize bestJ better (l.take i) x = cur at hb ⊢
      conv => whnf
      refine ⟨by omega, ?_⟩
      conv => whnf
      rw [Int.toNat_natCast, dropJ .shared .full l i hlt]
      conv => whnf
      refine nthK_of (get_concat _ _) ?_
      conv => whnf
      refine nthK_of (x := .cells (jcw .shared .full l[i])) (setc_get _ _ _) ?_
      conv => whnf
      refine ⟨_, _, call6 (bs := [.agg (jc l[i]), .agg (jc cur)]) rfl (by show (pureD 8 (.agg (jc l[i])) && (pureD 8 (.agg (jc cur)) && true)) = true; rw [pureJ .shared .shared, pureJ .shared .shared]; rfl) (hf _ _) rfl, ?_⟩
      conv => whnf
      cases hbt : better l[i] cur with
      | true =>
        conv => whnf
        refine nthK_of (x := .cells (jcw .shared .full l[i])) (setc_get _ _ _) ?_
        conv => whnf
        refine ⟨l.length - (i + 1), by omega, i + 1, Y ++ [.cells (jcw .shared .full l[i])], by omega, rfl, by rw [← wrapS i (by omega)] <;> rfl, ?_⟩
        rw [hb, if_pos hbt]
        rw [set_concat]; rfl
      | false =>
        conv => whnf
        refine ⟨l.length - (i + 1), by omega, i + 1, Y ++ [.cells (jcw .shared .full l[i])], by omega, rfl, by rw [← wrapS i (by omega)] <;> rfl, ?_⟩
        rw [hb, if_neg (by simp [hbt])]
        rw [set_concat]; rfl
    · obtain rfl : i = l.length := by omega
      rw [List.take_length]
      conv => whnf
      exact ret_pure (.inr rfl) (pureJ _ _ _) rfl
  · refine fn_pure hmix lk101 rfl (pureJ _ _ _) ?_
    unfold rc101
    conv => whnf
    refine ⟨by first | (simp; done) | (simp; omega), ?_⟩
    rw [show ((x :: l).flatMap (jcw .shared .shared)).drop ((0 : Int).toNat * 4) = jcw .shared .shared x ++ l.flatMap (jcw .shared .shared) from rfl]
    conv => whnf
    refine ⟨by first | (simp; done) | (simp; omega), ?_⟩
    rw [dropJ1, List.drop_one, List.tail_cons]
    conv => whnf
    refine .intro (fun m T H => ∃ i Y, i ≤ l.length ∧ m = l.length - i ∧ T = slots 25 [(1, .func f [] []), (4, .ptr 0 0), (5, .ptr 1 0), (12, LJ .shared .shared l .shared), (13, I l.length), (14, I i)] ∧ H = .cells [nilF, nilF, I 0, I 0] :: .cells (jcw .shared .shared (bestJ better (l.take i) x)) :: Y) l.length ⟨0, [], by omega, by omega, rfl, rfl⟩ ?_
    rintro m T H ⟨i, Y, hi, rfl, rfl, rfl⟩
    conv => whnf
    refine dcase (fun h => ?_) (fun h => ?_)
    · have hlt : i < l.length := by omega
      have hb : bestJ better (l.take (i + 1)) x = if better l[i] (bestJ better (l.take i) x) = true then l[i] else bestJ better (l.take i) x := foldl_take _ _ l i hlt
      generalize bestJ better (l.take i) x = cur at hb ⊢
      conv => whnf
      refine ⟨by omega, ?_⟩
      conv => whnf
      rw [Int.toNat_natCast, dropJ .shared .shared l i hlt]
      conv => whnf
      refine nthK_of (get_concat _ _) ?_
      conv => whnf
      refine nthK_of (x := .cells (jcw .shared .shared l[i])) (setc_get _ _ _) ?_
      conv => whnf
      refine ⟨_, _, call6 (bs := [.agg (jc l[i]), .agg (jc cur)]) rfl (by show (pureD 8 (.agg (jc l[i])) && (pureD 8 (.agg (jc cur)) && true)) = true; rw [pureJ .shared .shared, pureJ .shared .shared]; rfl) (hf _ _) rfl, ?_⟩
      conv => whnf
      cases hbt : better l[i] cur with
      | true =>
        conv => whnf
        refine nthK_of (x := .cells (jcw .shared .shared l[i])) (setc_get _ _ _) ?_
        conv => whnf
        refine ⟨l.length - (i + 1), by omega, i + 1, Y ++ [.cells (jcw .shared .shared l[i])], by omega, rfl, by rw [← wrapS i (by omega)] <;> rfl, ?_⟩
        rw [hb, if_pos hbt]
        rw [set_concat]; rfl
      | false =>
        conv => whnf
        refine ⟨l.length - (i + 1), by omega, i + 1, Y ++ [.cells (jcw .shared .shared l[i])], by omega, rfl, by rw [← wrapS i (by omega)] <;> rfl, ?_⟩
        rw [hb, if_neg (by simp [hbt])]
        rw [set_concat]; rfl
    · obtain rfl : i = l.length := by omega
      rw [List.take_length]
      conv => whnf
      exact ret_pure (.inr rfl) (pureJ _ _ _) rfl
theorem fewer_ok (a b : Jt) : PO 100 [.agg (jc a), .agg (jc b)] (B (fw a b)) := by
  refine fn_pure hmix lk100 rfl rfl ?_
  unfold rc100
  conv => whnf
  exact ret_pure (.inr rfl) rfl rfl
/-! ### slices.Concat -/
theorem sem_pure {P : Program} {k : FuncId} {args : List AV} {v : AV} (ha : args.all (pureD 8) = true) (h : PureOk P k args v) (H : List AObj) : Sem P (.fn k) args H H.length v H := by
  obtain ⟨⟨_, h1, h2⟩, hp⟩ := h
  exact ⟨Low.refl _ _, h1, fun B ω κ S w vs hH hn hv => CallsIn.mono (h2 B _ [] S w vs (hrel_pure hH) (fun b i h => by obtain ⟨_, _, h⟩ := argsOnly_some h; cases h) (hv.pure ha)) fun e w' he => by
    cases e with
    | returned v => exact post_pure hH (frz_pure (n := 0) hp) he
    | panicked c => exact he.elim
    | outgrown => exact he.elim⟩
/-- A call of mode 0. -/
theorem call0 {P : Program} {k : FuncId} {args : List AV} {v : AV} (ha : args.all (pureD 8) = true) (h : PureOk P k args v) (H : List AObj) (lo : Nat) : CallS P 0 lo (.fn k) args H v H :=
  ⟨_, oneC_sound (sem_pure ha h H), by simp only [callTo, oneC_self, Option.bind_some, frz_pure h.2, Option.map_some]⟩
theorem noEnt : ∀ e ∈ ([] : List Ent), entOk Go.Proofs.Try.prog e := by simp
theorem grow1 : PO 113 [nilF, I 1] (.lst [] 0 (.own 1)) := runC_ok noEnt (by kernel_rfl)
theorem grow2 : PO 113 [nilF, I 2] (.lst [] 0 (.own 1)) := runC_ok noEnt (by kernel_rfl)
theorem grow3 : PO 113 [nilF, I 3] (.lst [] 0 (.own 1)) := runC_ok noEnt (by kernel_rfl)
theorem grow4 : PO 113 [nilF, I 4] (.lst [] 0 (.own 1)) := runC_ok noEnt (by kernel_rfl)
theorem growN (n : Nat) (h1 : 1 ≤ n) (h4 : n ≤ 4) : PO 113 [nilF, I n] (.lst [] 0 (.own 1)) := by
  obtain rfl | rfl | rfl | rfl : n = 1 ∨ n = 2 ∨ n = 3 ∨ n = 4 := by omega
  · exact grow1
  · exact grow2
  · exact grow3
  · exact grow4
def pre2 (a b : List (List Int)) : Nat → List (List Int)
  | 0 => []
  | 1 => a
  | _ => a ++ b
theorem concat_ok (a b : List (List Int)) (ha : a.length = 1) (hb : b.length ≤ 3) : PO 102 [.lst [L2 a, L2 b] 2 .shared] (O2 (a ++ b)) := by
  refine fn_pure hmix lk102 rfl (pu2 _ _ _) ?_
  unfold rc102
  conv => whnf
  refine .intro (CI (fun i => slots 36 [(0, .lst [L2 a, L2 b] 2 .shared), (3, I ((pre2 a b i).length : Nat)), (9, .lst [L2 a, L2 b] 2 .shared), (10, I 2), (11, I i)]) 2 []) 2 (ci0 rfl) ?_
  rintro m T H ⟨i, hi, rfl, rfl, rfl⟩
  conv => whnf
  refine dcase (fun h => ?_) (fun h => ?_)
  · obtain rfl | rfl : i = 0 ∨ i = 1 := by omega
    · conv => whnf
      refine ⟨by omega, ?_⟩
      conv => whnf
      rw [wrapI _ (by first | (simp [pre2]; done) | (simp [pre2]; omega)) (by simp [pre2]; omega), decide_eq_false (by first | (simp [pre2]; done) | (simp [pre2]; omega))]
      conv => whnf
      exact ciN (by omega) (by rw [show ((pre2 a b (0 + 1)).length : Int) = ((pre2 a b 0).length : Int) + a.length by simp [pre2]] <;> rfl)
    · conv => whnf
      refine ⟨by omega, ?_⟩
      conv => whnf
      rw [wrapI _ (by first | (simp [pre2]; done) | (simp [pre2]; omega)) (by simp [pre2]; omega), decide_eq_false (by first | (simp [pre2]; done) | (simp [pre2]; omega))]
      conv => whnf
      exact ciN (by omega) (by rw [show ((pre2 a b (1 + 1)).length : Int) = ((pre2 a b 1).length : Int) + b.length by simp [pre2]] <;> rfl)
  · obtain rfl : i = 2 := by omega
    conv => whnf
    refine ⟨_, _, call0 (by rfl) (growN (pre2 a b 2).length (by first | (simp [pre2]; done) | (simp [pre2]; omega)) (by simp [pre2]; omega)) _ _, ?_⟩
    conv => whnf
    refine .intro (CI (fun i => slots 36 [(6, O2 (pre2 a b i)), (25, .lst [L2 a, L2 b] 2 .shared), (26, I 2), (27, I i)]) 2 []) 2 (ci0 rfl) ?_
    rintro m T H ⟨i, hi, rfl, rfl, rfl⟩
    conv => whnf
    refine dcase (fun h => ?_) (fun h => ?_)
    · obtain rfl | rfl : i = 0 ∨ i = 1 := by omega
      · conv => whnf
        refine ⟨by omega, ?_⟩
        conv => whnf
        refine ⟨by simp, by omega, ?_⟩
        conv => whnf
        refine ⟨by simp, ?_⟩
        conv => whnf
        refine ⟨by simp [pre2]; omega, ?_⟩
        conv => whnf
        exact ciN (by omega) (by rw [show O2 (pre2 a b (0 + 1)) = .lst ((pre2 a b 0).map L1 ++ a.map L1) ((pre2 a b 0).length + a.length) (.own 1) by simp [O2, pre2]] <;> rfl)
      · conv => whnf
        refine ⟨by omega, ?_⟩
        conv => whnf
        refine ⟨by simp, by omega, ?_⟩
        conv => whnf
        refine ⟨by simp, ?_⟩
        conv => whnf
        refine ⟨by simp [pre2]; omega, ?_⟩
        conv => whnf
        exact ciN (by omega) (by rw [show O2 (pre2 a b (1 + 1)) = .lst ((pre2 a b 1).map L1 ++ b.map L1) ((pre2 a b 1).length + b.length) (.own 1) by simp [O2, pre2]] <;> rfl)
    · obtain rfl : i = 2 := by omega
      conv => whnf
      exact ret_own (.inr rfl) (pu2 _ _ _) (.inl rfl)
end Go.Proofs.Ytlcebaejlnpdeaa.Ab

/- MADE BY PROGRAM (rcy.py): rounds, looked up. -/
namespace Go.Proofs.Ytlcebaejlnpdeaa.Ab
open Go
noncomputable def rcY42A : RC :=
  .reg false [I_ 9 [.tk 27] .mv]
theorem lkY42A : linkC Go.Proofs.Try.prog ann42 (rngA Go.Proofs.Try.prog 42 0) 0 = some rcY42A := by kernel_rfl
noncomputable def rcY77A : RC :=
  .reg false [I_ 7 [.tk 32] .mv]
theorem lkY77A : linkC Go.Proofs.Try.prog ann77 (rngA Go.Proofs.Try.prog 77 0) 0 = some rcY77A := by kernel_rfl
noncomputable def rcY42B : RC :=
  .block 1 (.seq (.reg false [I_ 28 [.tv 6] (.ld .one), I_ 29 [.tv 3] (.ld .one), I_ 30 [.tk 9] .mv, I_ 31 [.cv (.func 87 [] []), .sl 28, .sl 29, .sl 30] (.call 3), I_ 10 [] (.alloc [.lst [] 0 .full]), ⟨none, [.sl 10, .tk 31],
  none, none, .st 1⟩]) (.reg false [I_ 32 [.sl 8] (.ld .one), I_ 33 [.tv 10] (.mkF 89 0 1), I_ 34 [.cv (.func 88 [] []), .tk 32, .tk 33] (.call 1), ⟨none, [.tk 8, .tk 34], none, none, .st 1⟩]))
theorem lkY42B : linkC Go.Proofs.Try.prog ann42 (rngB Go.Proofs.Try.prog 42 0) 0 = some rcY42B := by kernel_rfl
noncomputable def rcY77B : RC :=
  .block 3 (.seq (.reg false [I_ 33 [.tv 1] (.ld .one), I_ 34 [.tv 5] (.ld .one), I_ 35 [.sl 7] .mv, I_ 36 [.cv (.func 87 [] []), .sl 33, .sl 34, .sl 35] (.call 3), I_ 8 [.tk 36] .mv]) (.seq (.reg false [I_ 9 [.cv (.lst [] 0
  .full)] (.nil 4)]) (.seq (.seq (.reg false [I_ 37 [.tv 3] (.ld .one), I_ 38 [.sl 37] .lenS, I_ 39 [.cv (.int .i64 0)] .mv]) (.block 4 (.loop (some [o_,o_,o_,o_,i_,o_,i_,i_,i_,i_,o_,o_,o_,o_,o_,o_,o_,o_,o_,o_,o_,o_,o_,o_,o_,o_,o_,o_,o_,o_,o_,o_,o_,o_,o_,o_,o_,i_,i_,i_,o_,o_,o_,o_,o_,o_,o_,o_,o_,o_,o_,o_,o_,o_,o_,o_,o_,o_,o_,o_,o_,o_,o_,o_,o_,o_,o_,o_,o_,o_,o_,o_,o_,o_,o_,o_,o_,o_,o_,o_,o_,o_,o_,o_,o_,o_,o_,o_]) (.seq (.reg false [I_ 40 [.sl 39, .sl 38] (.bin .lss)]) (.seq (.cond (.sl 40) .skip (.exit 4)) (.seq (.block 5 (.seq (.reg false [I_ 41 [.sl 37, .sl
  39] (.ia 4), I_ 42 [.tv 41] (.ld (.str 4)), I_ 11 [] (.alloc [.lst [] 0 .full, .lst [] 0 .full, .int .i64 0, .int .i64 0]), ⟨none, [.sl 11, .tk 42], none, none, .st 4⟩]) (.seq (.reg false [I_ 43 [.sl 11] (.fa 2), I_ 44 [.tv 43]
  (.ld .one), I_ 12 [.tk 44] .mv]) (.seq (.seq (.reg false [I_ 45 [.sl 8] .mv, I_ 46 [.sl 45] .lenS, I_ 47 [.cv (.int .i64 0)] .mv]) (.block 6 (.loop (some [o_,o_,o_,o_,i_,o_,i_,i_,i_,i_,o_,i_,i_,o_,o_,o_,o_,o_,o_,o_,o_,o_,o_,o_,o_,o_,o_,o_,o_,o_,o_,o_,o_,o_,o_,o_,o_,i_,i_,i_,o_,o_,o_,o_,o_,i_,i_,i_,o_,o_,o_,o_,o_,o_,o_,o_,o_,o_,o_,o_,o_,o_,o_,o_,o_,o_,o_,o_,o_,o_,o_,o_,o_,o_,o_,o_,o_,o_,o_,o_,o_,o_,o_,o_,o_,o_,o_,o_]) (.seq (.reg false [I_ 48 [.sl 47, .sl 46] (.bin .lss)]) (.seq (.cond (.sl 48) .skip (.exit 6)) (.seq (.block 7 (.seq (.reg false [I_ 49 [.sl 45, .sl
  47] (.ia 1), I_ 50 [.tv 49] (.ld .one), I_ 14 [.tk 50] .mv]) (.seq (.reg false [I_ 51 [.sl 11] (.fa 1), I_ 52 [.tv 51] (.ld .one), I_ 53 [.tk 14] .mv, I_ 54 [.cv (.func 72 [] []), .sl 52, .sl 53] (.call 3)]) (.cond (.sl 54)
  (.reg false [I_ 55 [.tk 12] .mv, I_ 56 [.tv 55, .cv (.int .i64 1)] (.bin .add), I_ 12 [.tk 56] .mv]) .skip)))) (.reg false [I_ 57 [.tv 47, .cv (.int .i64 1)] (.bin .add), I_ 47 [.tk 57] .mv]))))))) (.reg false [I_ 58 [.tk 9]
  .mv, I_ 59 [.tv 11] (.fa 0), I_ 60 [.tv 59] (.ld .one), I_ 61 [.tk 12] .mv, I_ 62 [.tv 60, .tv 61] (.build [.lst [] 0 .full, .lst [] 0 .full, .int .i64 0, .int .i64 0] [(0, 1), (2, 1)]), I_ 63 [.tv 62] (.buildS 1 4 [.lst [] 0
  .full, .lst [] 0 .full, .int .i64 0, .int .i64 0] [0]), I_ 64 [.tk 58, .tk 63] (.app 4 64), I_ 9 [.tk 64] .mv]))))) (.reg false [I_ 65 [.tv 39, .cv (.int .i64 1)] (.bin .add), I_ 39 [.tk 65] .mv]))))))) (.seq (.reg false [I_ 66
  [.tk 9] .mv, I_ 67 [.tv 4] (.ld .one), I_ 68 [.cv (.func 101 [] []), .sl 66, .sl 67] (.call 3), I_ 15 [] (.alloc [.lst [] 0 .full, .lst [] 0 .full, .int .i64 0, .int .i64 0]), ⟨none, [.sl 15, .tk 68], none, none, .st 4⟩]) (.reg
  true [I_ 69 [.sl 6] .take, I_ 70 [.tk 7] .mv, I_ 71 [.tv 70] (.buildS 1 1 [.lst [] 0 .full] [0]), I_ 72 [.sl 15] (.fa 0), I_ 73 [.tv 72] (.ld .one), I_ 74 [.tv 71, .tv 73] (.buildS 2 1 [.lst [] 0 .full] [0, 1]), I_ 75 [.cv
  (.func 102 [] []), .sl 74] (.call 3), I_ 76 [.tk 8] .mv, I_ 77 [.sl 15] (.fa 2), I_ 78 [.tv 77] (.ld .one), I_ 79 [.tv 75, .tv 76, .tv 78] (.build [.lst [] 0 .full, .lst [] 0 .full, .int .i64 0, .int .i64 0] [(0, 1), (1, 1),
  (2, 1)]), I_ 80 [.tv 79] (.buildS 1 4 [.lst [] 0 .full, .lst [] 0 .full, .int .i64 0, .int .i64 0] [0]), I_ 81 [.tk 69, .tk 80] (.app 4 64), ⟨none, [.sl 6, .tk 81], none, none, .st 1⟩])))))
theorem lkY77B : linkC Go.Proofs.Try.prog ann77 (rngB Go.Proofs.Try.prog 77 0) 0 = some rcY77B := by kernel_rfl
end Go.Proofs.Ytlcebaejlnpdeaa.Ab

/-
  Contracts: the program's orders.
-/
namespace Go.Proofs.Ytlcebaejlnpdeaa.Ab
open Go
set_option maxRecDepth 20000
set_option maxHeartbeats 4000000
theorem puF (p : List (List Int)) (k : Int) : pureD 8 (.func 107 [] [.lptr [Bn p], .lptr [I k]]) = true := by
  have h : pureD 6 (Bn p) = true := by
    show [L2 p].all (pureD 5) = true
    rw [List.all_cons, List.all_nil, pure_L2 2 p]; rfl
  show (([] : List AV).all (pureD 7) && [AV.lptr [Bn p], AV.lptr [I k]].all (pureD 7)) = true
  show (true && (([Bn p] : List AV).all (pureD 6) && (true && true))) = true
  rw [List.all_cons, h]; rfl
theorem all_ok86 (p : List (List Int)) (k : Int) : PO 86 [Bn p, I k] (.func 107 [] [.lptr [Bn p], .lptr [I k]]) := by
  refine fn_pure hmix lk86 rfl (puF p k) ?_
  unfold rc86
  conv => whnf
  have hb : pureD 6 (Bn p) = true := by
    show [L2 p].all (pureD 5) = true
    rw [List.all_cons, List.all_nil, pure_L2 2 p]; rfl
  have e1 := frz_ptr (H := [.cells [Bn p], .cells [I k]]) (id := 0) (d := 6) rfl (by show [Bn p].all (pureD 6) = true; rw [List.all_cons, hb]; rfl)
  have e2 := frz_ptr (H := [.cells [Bn p], .cells [I k]]) (id := 1) (d := 6) rfl rfl
  refine ⟨.inr rfl, _, rfl, .func 107 [] [.lptr [Bn p], .lptr [I k]], ?_, .inl rfl⟩
  show (match mapO (frz [.cells [Bn p], .cells [I k]] 0 2 0 7) [], mapO (frz [.cells [Bn p], .cells [I k]] 0 2 0 7) [.ptr 0 0, .ptr 1 0] with | some a, some b => some (AV.func 107 a b) | _, _ => none) = _
  simp only [mapO]
  rw [show frz [.cells [Bn p], .cells [I k]] 0 2 0 7 (.ptr 0 0) = _ from e1, show frz [.cells [Bn p], .cells [I k]] 0 2 0 7 (.ptr 1 0) = _ from e2]
  rfl
theorem at3 (a b c d : AObj) (Y Z : List AObj) : (a :: b :: c :: (Y ++ d :: Z))[3 + Y.length]? = some d := by
  rw [show 3 + Y.length = Y.length + 1 + 1 + 1 by omega]
  simp
theorem ga {X Z : List AObj} {j : Nat} {o : AObj} (h : X[j]? = some o) : (X ++ Z)[j]? = some o := by
  rw [List.getElem?_append_left (List.getElem?_eq_some_iff.1 h).1]; exact h
theorem LJ_snoc (co cs : Cap) (l : List Jt) (x : Jt) (c : Cap) : LJ co cs (l ++ [x]) c = .lst (l.flatMap (jcw co cs) ++ jcw co cs x) (l.length + 1) c := by
  simp [LJ, List.flatMap_append]
theorem get_set_ne {X : List AObj} {i j : Nat} {c o : AObj} (h : X[j]? = some o) (hne : i ≠ j) : (X.set i c)[j]? = some o := by rw [List.getElem?_set_ne hne]; exact h
theorem puC (a b : List (List Int)) : pureD 8 (.lst [L2 a, L2 b] 2 .shared) = true := by
  show [L2 a, L2 b].all (pureD 7) = true
  rw [List.all_cons, List.all_cons, List.all_nil, pure_L2 4 a, pure_L2 4 b]; rfl
theorem fgt_tail (X J : List AObj) : Fgt (X ++ J) (X ++ List.replicate J.length .dead) := by
  refine ⟨by simp, fun j o hj => ?_⟩
  by_cases h : j < X.length
  · rw [List.getElem?_append_left h] at hj ⊢; exact .inr hj
  · rw [List.getElem?_append_right (by omega)] at hj
    exact .inl (List.eq_of_mem_replicate (List.mem_of_getElem? hj))
theorem sset' (X Y : List AObj) (c d : AObj) : (X ++ c :: Y).set X.length d = X ++ d :: Y := by simp
theorem sset (X Y : List AObj) (c d : AObj) : (X ++ c :: Y).set X.length d = X ++ d :: Y := by simp
def nextk (l : List Jt) (r : Nat) : AV := if r = 0 then nilF else LJ .shared .shared (l.take r) (.own 4)
noncomputable abbrev lp77 (T : List AV) (st : LoopState) : AObj := .loop st none 77 T [32] (rngA Go.Proofs.Try.prog 77 0) (rngB Go.Proofs.Try.prog 77 0) ann77
section
variable (p : List (List Int)) (t : Nat) (ht : t < p.length) (hv : Val p) (Bh : List Jt) (nB : Nat) (hB : ∀ x ∈ Bh, Jb nB x) (hn : nB ≤ 3) (hB0 : 0 < Bh.length) (hB1 : Bh.length ≤ 3125)
variable (c c1 : Cap) (hc : c = .own 4 ∨ c = .shared) (hc1 : c1 = .full ∨ c1 = .shared) (X0 : List AObj) (ii inn : Nat) (fv bv xv yv : AV)
variable (g0 : X0[0]? = some (.cells [Bn p])) (g1 : X0[1]? = some (.cells [LJ c1 c1 Bh c])) (g2 : X0[2]? = some (.cells [.func 100 [] []])) (gi : X0[ii]? = some (.cells [I t]))
variable (hinn : inn < X0.length) (n0 : inn ≠ 0) (n1 : inn ≠ 1) (n2 : inn ≠ 2) (ni : inn ≠ ii)
include ht hv hB hn hB0 hB1 hc hc1 g0 g1 g2 gi hinn n0 n1 n2 ni
theorem round77 (r : Nat) (hr : r < (perms p[t].length).length) (Y : List AObj) (T : List AV) (hT : T = slots 88 [(1, .ptr 0 0), (3, .ptr 1 0), (4, .ptr 2 0), (5, .ptr ii 0), (6, .ptr inn 0), (26, bv), (29, xv), (30, yv), (31, fv)]) :
    Sem Go.Proofs.Try.prog (.yield X0.length) [U1 (perms p[t].length)[r]] (X0.set inn (.cells [nextk (nextJ p[t] Bh) r]) ++ lp77 T .ready :: Y) 0 (.bool true)
      (X0.set inn (.cells [nextk (nextJ p[t] Bh) (r + 1)]) ++ lp77 T .ready :: (Y ++ List.replicate (Bh.length + 1) .dead)) := by
  have h5 := hv.s5 _ (List.getElem_mem ht)
  have h1 := hv.s1 _ (List.getElem_mem ht)
  have hI : InL p[t] (perms p[t].length)[r] := perm_inL (hv.sm (List.getElem_mem ht)) (List.getElem_mem hr) h5
  have hlr := (perms_mem (List.getElem_mem hr)).1
  have hnr : (nextJ p[t] Bh)[r]? = some (jointOf p[t] Bh (perms p[t].length)[r]) := by simp [nextJ, hr]
  have hsl : ∀ d : AObj, (X0.set inn d).length = X0.length := fun d => by simp
  have hset : ∀ (d e : AObj) (Z : List AObj), (X0.set inn d ++ e :: Z)[X0.length]? = some e := fun d e Z => by
    rw [List.getElem?_append_right (by simp), hsl, Nat.sub_self]; rfl
  refine sem_round hmix (l := X0.length) (T := T) lkY77A lkY77B (hset _ _ _) rfl ⟨by simp, fun _ h => by omega⟩ ?_
  subst hT
  generalize hl : (perms p[t].length)[r] = l at *
  unfold rcY77A
  conv => whnf
  refine ⟨rfl, hset _ _ _, ?_⟩
  have hss : ∀ (d e f : AObj) (Z : List AObj), (X0.set inn d ++ e :: Z).set X0.length f = X0.set inn d ++ f :: Z := fun d e f Z => by
    have := sset (X0.set inn d) Z e f
    rwa [hsl] at this
  rw [hss]
  unfold rcY77B
  conv => whnf
  obtain ⟨W, hW⟩ : ∃ W, W = X0.set inn (.cells [nextk (nextJ p[t] Bh) r]) ++ lp77 (slots 88 [(1, .ptr 0 0), (3, .ptr 1 0), (4, .ptr 2 0), (5, .ptr ii 0), (6, .ptr inn 0), (26, bv), (29, xv), (30, yv), (31, fv)]) .busy :: Y := ⟨_, rfl⟩
  have hWs : ∀ (J : List AObj) (d : AObj), (W ++ J).set inn d = X0.set inn d ++ lp77 (slots 88 [(1, .ptr 0 0), (3, .ptr 1 0), (4, .ptr 2 0), (5, .ptr ii 0), (6, .ptr inn 0), (26, bv), (29, xv), (30, yv), (31, fv)]) .busy :: (Y ++ J) := fun J d => by
    rw [hW, List.append_assoc, List.set_append_left _ _ (by simp; exact hinn), List.set_set]; rfl
  have gw : ∀ (j : Nat) (o : AObj), j ≠ inn → X0[j]? = some o → W[j]? = some o := fun j o hj ho => by
    rw [hW]
    exact ga (by rw [List.getElem?_set_ne (fun e => hj e.symm)]; exact ho)
  have w0 := gw 0 _ (Ne.symm n0) g0
  have w1 := gw 1 _ (Ne.symm n1) g1
  have w2 := gw 2 _ (Ne.symm n2) g2
  have wi := gw ii _ (Ne.symm ni) gi
  have wn : W[inn]? = some (.cells [nextk (nextJ p[t] Bh) r]) := by
    rw [hW]; exact ga (by rw [List.getElem?_set_self hinn])
  have hfin : ∀ (J : List AObj) (cx : AObj), J.length = Bh.length + 1 → cx = .cells [nextk (nextJ p[t] Bh) (r + 1)] → ((W ++ J).set inn cx)[X0.length]? = some (lp77 (slots 88 [(1, .ptr 0 0), (3, .ptr 1 0), (4, .ptr 2 0), (5, .ptr ii 0), (6, .ptr inn 0), (26, bv), (29, xv), (30, yv), (31, fv)]) .busy) ∧
      Fgt (((W ++ J).set inn cx).set X0.length (lp77 (slots 88 [(1, .ptr 0 0), (3, .ptr 1 0), (4, .ptr 2 0), (5, .ptr ii 0), (6, .ptr inn 0), (26, bv), (29, xv), (30, yv), (31, fv)]) .ready))
        (X0.set inn (.cells [nextk (nextJ p[t] Bh) (r + 1)]) ++ lp77 (slots 88 [(1, .ptr 0 0), (3, .ptr 1 0), (4, .ptr 2 0), (5, .ptr ii 0), (6, .ptr inn 0), (26, bv), (29, xv), (30, yv), (31, fv)]) .ready :: (Y ++ List.replicate (Bh.length + 1) .dead)) := fun J cx hJ hcx => by
    subst hcx
    rw [hWs]
    refine ⟨hset _ _ _, ?_⟩
    rw [hss, ← hJ, ← List.cons_append, ← List.append_assoc, ← List.cons_append, ← List.append_assoc]
    exact fgt_tail _ _
  rw [← hW]
  clear hWs hset hss gw hW g0 g1 g2 gi
  have hsq : (seamsOf p[t] l).length ≤ 4 := by simp [seamsOf, seamsGo_length]; omega
  have hpl1 := perms_len h5
  refine nthK_of w0 ?_
  conv => whnf
  refine nthK_of wi ?_
  conv => whnf
  refine ⟨?_, _, pseams_ok p t ht l hI (by omega), ?_⟩
  · simp only [List.all_cons, List.all_nil, pu1, pu0, puBn, puQ, Bool.and_true]
  conv => whnf
  refine nthK_of w1 ?_
  have hwl : inn < W.length := (List.getElem?_eq_some_iff.1 wn).1
  have hnk : (nextk (nextJ p[t] Bh) r = nilF ∧ ∀ bt : Jt, jointOf p[t] Bh l = ⟨l :: bt.o, seamsOf p[t] l, bt.m, 0⟩ → AObj.cells [.lst ([] ++ jc ⟨l :: bt.o, seamsOf p[t] l, bt.m, 0⟩) (0 + 1) (.own 4)] = .cells [nextk (nextJ p[t] Bh) (r + 1)]) ∨
      (nextk (nextJ p[t] Bh) r = LJ .shared .shared ((nextJ p[t] Bh).take r) (.own 4) ∧ ∀ bt : Jt, jointOf p[t] Bh l = ⟨l :: bt.o, seamsOf p[t] l, bt.m, 0⟩ → AObj.cells [.lst (((nextJ p[t] Bh).take r).flatMap jc ++ jc ⟨l :: bt.o, seamsOf p[t] l, bt.m, 0⟩) (((nextJ p[t] Bh).take r).length + 1) (.own 4)] = .cells [nextk (nextJ p[t] Bh) (r + 1)]) := by
    obtain ⟨q1, q2⟩ := List.getElem?_eq_some_iff.1 hnr
    have e : (nextJ p[t] Bh).take (r + 1) = (nextJ p[t] Bh).take r ++ [jointOf p[t] Bh l] := by rw [List.take_succ_eq_append_getElem q1, q2]
    by_cases h0 : r = 0
    · subst h0
      refine .inl ⟨rfl, fun bt hb => ?_⟩
      rw [nextk, if_neg (by omega), e, hb]; rfl
    · refine .inr ⟨by rw [nextk, if_neg h0], fun bt hb => ?_⟩
      rw [nextk, if_neg (by omega), e, LJ_snoc, hb]
  have hnl : ((nextJ p[t] Bh).take r).length ≤ 3125 := by
    have := List.length_take_le' r (nextJ p[t] Bh); rw [nextJ_len] at this; omega
  generalize nextk (nextJ p[t] Bh) r = nk at wn hnk
  generalize (nextJ p[t] Bh).take r = nxr at hnk hnl
  rcases hc with rfl | rfl
  all_goals
    rcases hc1 with rfl | rfl
  · conv => whnf
    refine .intro (fun m T H => ∃ j Yj, j ≤ Bh.length ∧ m = Bh.length - j ∧ Yj.length = j ∧ T = slots 88 [(4, .ptr 2 0), (6, .ptr inn 0), (7, O1 l), (8, O1 (seamsOf p[t] l)), (9, LJ .full .full ((Bh.take j).map (tryJ (seamsOf p[t] l))) (.uniq 4)), (37, LJ .full .full Bh .shared), (38, I Bh.length), (39, I j)] ∧ H = W ++ Yj) Bh.length ⟨0, [], by omega, by omega, rfl, rfl, by rw [List.append_nil]⟩ ?_
    rintro m T H ⟨j, Yj, hj, rfl, hYj, rfl, rfl⟩
    conv => whnf
    refine dcase (fun h => ?_) (fun h => ?_)
    · have hlt : j < Bh.length := by omega
      have hjb := hB _ (List.getElem_mem hlt)
      have hjm0 := hjb.m0
      have hjm1 := hjb.m1
      have hjs := hjb.s
      conv => whnf
      refine ⟨by omega, ?_⟩
      conv => whnf
      rw [Int.toNat_natCast, dropJ .full .full Bh j hlt]
      conv => whnf
      refine nthK_of (get_concat _ _) ?_
      conv => whnf
      rw [set_concat]
      refine nthK_of (get_concat _ _) ?_
      conv => whnf
      refine .intro (CI (fun k => slots 88 [(4, .ptr 2 0), (6, .ptr inn 0), (7, O1 l), (8, O1 (seamsOf p[t] l)), (9, LJ .full .full ((Bh.take j).map (tryJ (seamsOf p[t] l))) (.uniq 4)), (11, .ptr (W ++ Yj).length 0), (12, I (Bh[j].m + common ((seamsOf p[t] l).take k) Bh[j].s)), (37, LJ .full .full Bh .shared), (38, I Bh.length), (39, I j), (45, L1 (seamsOf p[t] l)), (46, I (seamsOf p[t] l).length), (47, I k)]) (seamsOf p[t] l).length (W ++ Yj ++ [.cells (jcw .full .full Bh[j])])) (seamsOf p[t] l).length (ci0 ?_) ?_
      · rw [List.take_zero, show common [] Bh[j].s = 0 from rfl, show Bh[j].m + ((0 : Nat) : Int) = Bh[j].m by omega]; rfl
      rintro m T H ⟨k, hk, rfl, rfl, rfl⟩
      conv => whnf
      refine dcase (fun h => ?_) (fun h => ?_)
      · have hkt : k < (seamsOf p[t] l).length := by omega
        have hs : common ((seamsOf p[t] l).take (k + 1)) Bh[j].s = common ((seamsOf p[t] l).take k) Bh[j].s + (if has Bh[j].s (seamsOf p[t] l)[k] then 1 else 0) := by
          unfold common
          rw [List.take_succ_eq_append_getElem hkt, List.filter_append, List.length_append]
          by_cases h : has Bh[j].s (seamsOf p[t] l)[k] = true <;> simp [List.filter_cons, h]
        have hc := common_le ((seamsOf p[t] l).take k) Bh[j].s
        have hk' : ((seamsOf p[t] l).take k).length ≤ k := List.length_take_le _ _
        conv => whnf
        refine ⟨by omega, ?_⟩
        conv => whnf
        refine nthM _ _ _ (hkt) ?_
        conv => whnf
        refine nthK_of (get_concat _ _) ?_
        conv => whnf
        refine ⟨by first | rfl | simp only [List.all_cons, List.all_nil, pu0, pub, pu1, pu2, pu1', pu2', pun, puf, puP, puP', puQ, puQ', Bool.and_true, Bool.and_self], _, contains_ok Bh[j].s (seamsOf p[t] l)[k] (by omega), ?_⟩
        conv => whnf
        cases hh : has Bh[j].s (seamsOf p[t] l)[k] with
        | true =>
          conv => whnf
          exact ciN hkt (by rw [hs, if_pos hh, ← wrapS k (by omega), show Bh[j].m + ((common ((seamsOf p[t] l).take k) Bh[j].s + 1 : Nat) : Int) = IntKind.i64.wrap (Bh[j].m + (common ((seamsOf p[t] l).take k) Bh[j].s : Nat) + 1) by rw [wrapI _ (by omega) (by omega)]; omega] <;> rfl)
        | false =>
          conv => whnf
          exact ciN hkt (by rw [hs, if_neg (by simp [hh]), Nat.add_zero, ← wrapS k (by omega)] <;> rfl)
      · obtain rfl : k = (seamsOf p[t] l).length := by omega
        rw [List.take_length]
        conv => whnf
        refine nthK_of (get_concat _ _) ?_
        conv => whnf
        have hll : ((Bh.take j).map (tryJ (seamsOf p[t] l))).length ≤ j := by simp; omega
        refine ⟨rfl, by decide, rfl, by omega, ?_⟩
        conv => whnf
        exact ⟨Bh.length - (j + 1), by omega, j + 1, Yj ++ [.cells (jcw .full .full Bh[j])], by omega, rfl, by simp [hYj], by rw [List.take_succ_eq_append_getElem hlt, List.map_append, List.map_singleton, LJ_snoc, ← wrapS j (by omega)] <;> rfl, by rw [List.append_assoc]⟩
    · obtain rfl : j = Bh.length := by omega
      rw [List.take_length]
      conv => whnf
      refine nthK_of (ga w2) ?_
      conv => whnf
      have hbm := bestL_mem fw (Bh.map (tryJ (seamsOf p[t] l))) (by simpa using hB0)
      have hbo : (bestL fw (Bh.map (tryJ (seamsOf p[t] l)))).o.length ≤ 3 := by
        obtain ⟨b0, hb0, e0⟩ := List.mem_map.1 hbm
        rw [← e0]; show b0.o.length ≤ 3
        rw [(hB b0 hb0).o]; exact hn
      have hjo : jointOf p[t] Bh l = ⟨l :: (bestL fw (Bh.map (tryJ (seamsOf p[t] l)))).o, seamsOf p[t] l, (bestL fw (Bh.map (tryJ (seamsOf p[t] l)))).m, 0⟩ := rfl
      have htl : (Bh.map (tryJ (seamsOf p[t] l))).length = Bh.length := by simp
      generalize Bh.map (tryJ (seamsOf p[t] l)) = tr at hbm hbo hjo htl ⊢
      obtain ⟨x0, t0, rfl⟩ : ∃ x0 t0, tr = x0 :: t0 := by
        cases tr with
        | nil => simp at hbm
        | cons x0 t0 => exact ⟨x0, t0, rfl⟩
      have hbe : bestL fw (x0 :: t0) = bestJ fw t0 x0 := rfl
      rw [hbe] at hbo hjo
      refine ⟨by simp only [List.all_cons, List.all_nil, puLJ, puf, Bool.and_true, Bool.and_self], _, best_ok fw 100 (.inl ⟨rfl, rfl⟩) x0 t0 (by simp at htl; omega) fewer_ok, ?_⟩
      generalize bestJ fw t0 x0 = bt at hbo hjo ⊢
      conv => whnf
      refine nthK_of (get_concat _ _) ?_
      conv => whnf
      rw [set_concat]
      refine nthK_of (ga (ga wn)) ?_
      rcases hnk with ⟨rfl, hnk⟩ | ⟨rfl, hnk⟩
      · conv => whnf
        refine nthK_of (get_concat _ _) ?_
        conv => whnf
        refine ⟨by show (pureD 8 (.lst [L2 [l], L2 bt.o] 2 .shared) && true) = true; rw [puC]; rfl, _, concat_ok [l] bt.o rfl hbo, acc0, ?_⟩
        conv => whnf
        refine nthK_of (get_concat _ _) ?_
        conv => whnf
        refine ⟨rfl, by omega, by omega, by omega, rfl, ?_⟩
        conv => whnf
        refine nthK_of (ga (ga wn)) ?_
        conv => whnf
        rw [List.append_assoc]
        exact ⟨rfl, hfin _ _ (by simp [hYj]) (hnk bt hjo)⟩
      · conv => whnf
        refine nthK_of (get_set_ne (get_concat _ _) (by simp; omega)) ?_
        conv => whnf
        refine ⟨by show (pureD 8 (.lst [L2 [l], L2 bt.o] 2 .shared) && true) = true; rw [puC]; rfl, _, concat_ok [l] bt.o rfl hbo, acc0, ?_⟩
        conv => whnf
        refine nthK_of (get_set_ne (get_concat _ _) (by simp; omega)) ?_
        conv => whnf
        refine ⟨rfl, by decide, rfl, by omega, ?_⟩
        conv => whnf
        refine nthK_of (by rw [List.getElem?_set_self (by simp; omega)]) ?_
        conv => whnf
        rw [List.set_set, List.append_assoc]
        exact ⟨rfl, hfin _ _ (by simp [hYj]) (hnk bt hjo)⟩
  · conv => whnf
    refine .intro (fun m T H => ∃ j Yj, j ≤ Bh.length ∧ m = Bh.length - j ∧ Yj.length = j ∧ T = slots 88 [(4, .ptr 2 0), (6, .ptr inn 0), (7, O1 l), (8, O1 (seamsOf p[t] l)), (9, LJ .shared .full ((Bh.take j).map (tryJ (seamsOf p[t] l))) (.uniq 4)), (37, LJ .shared .shared Bh .shared), (38, I Bh.length), (39, I j)] ∧ H = W ++ Yj) Bh.length ⟨0, [], by omega, by omega, rfl, rfl, by rw [List.append_nil]⟩ ?_
    rintro m T H ⟨j, Yj, hj, rfl, hYj, rfl, rfl⟩
    conv => whnf
    refine dcase (fun h => ?_) (fun h => ?_)
    · have hlt : j < Bh.length := by omega
      have hjb := hB _ (List.getElem_mem hlt)
      have hjm0 := hjb.m0
      have hjm1 := hjb.m1
      have hjs := hjb.s
      conv => whnf
      refine ⟨by omega, ?_⟩
      conv => whnf
      rw [Int.toNat_natCast, dropJ .shared .shared Bh j hlt]
      conv => whnf
      refine nthK_of (get_concat _ _) ?_
      conv => whnf
      rw [set_concat]
      refine nthK_of (get_concat _ _) ?_
      conv => whnf
      refine .intro (CI (fun k => slots 88 [(4, .ptr 2 0), (6, .ptr inn 0), (7, O1 l), (8, O1 (seamsOf p[t] l)), (9, LJ .shared .full ((Bh.take j).map (tryJ (seamsOf p[t] l))) (.uniq 4)), (11, .ptr (W ++ Yj).length 0), (12, I (Bh[j].m + common ((seamsOf p[t] l).take k) Bh[j].s)), (37, LJ .shared .shared Bh .shared), (38, I Bh.length), (39, I j), (45, L1 (seamsOf p[t] l)), (46, I (seamsOf p[t] l).length), (47, I k)]) (seamsOf p[t] l).length (W ++ Yj ++ [.cells (jcw .shared .shared Bh[j])])) (seamsOf p[t] l).length (ci0 ?_) ?_
      · rw [List.take_zero, show common [] Bh[j].s = 0 from rfl, show Bh[j].m + ((0 : Nat) : Int) = Bh[j].m by omega]; rfl
      rintro m T H ⟨k, hk, rfl, rfl, rfl⟩
      conv => whnf
      refine dcase (fun h => ?_) (fun h => ?_)
      · have hkt : k < (seamsOf p[t] l).length := by omega
        have hs : common ((seamsOf p[t] l).take (k + 1)) Bh[j].s = common ((seamsOf p[t] l).take k) Bh[j].s + (if has Bh[j].s (seamsOf p[t] l)[k] then 1 else 0) := by
          unfold common
          rw [List.take_succ_eq_append_getElem hkt, List.filter_append, List.length_append]
          by_cases h : has Bh[j].s (seamsOf p[t] l)[k] = true <;> simp [List.filter_cons, h]
        have hc := common_le ((seamsOf p[t] l).take k) Bh[j].s
        have hk' : ((seamsOf p[t] l).take k).length ≤ k := List.length_take_le _ _
        conv => whnf
        refine ⟨by omega, ?_⟩
        conv => whnf
        refine nthM _ _ _ (hkt) ?_
        conv => whnf
        refine nthK_of (get_concat _ _) ?_
        conv => whnf
        refine ⟨by first | rfl | simp only [List.all_cons, List.all_nil, pu0, pub, pu1, pu2, pu1', pu2', pun, puf, puP, puP', puQ, puQ', Bool.and_true, Bool.and_self], _, contains_ok Bh[j].s (seamsOf p[t] l)[k] (by omega), ?_⟩
        conv => whnf
        cases hh : has Bh[j].s (seamsOf p[t] l)[k] with
        | true =>
          conv => whnf
          exact ciN hkt (by rw [hs, if_pos hh, ← wrapS k (by omega), show Bh[j].m + ((common ((seamsOf p[t] l).take k) Bh[j].s + 1 : Nat) : Int) = IntKind.i64.wrap (Bh[j].m + (common ((seamsOf p[t] l).take k) Bh[j].s : Nat) + 1) by rw [wrapI _ (by omega) (by omega)]; omega] <;> rfl)
        | false =>
          conv => whnf
          exact ciN hkt (by rw [hs, if_neg (by simp [hh]), Nat.add_zero, ← wrapS k (by omega)] <;> rfl)
      · obtain rfl : k = (seamsOf p[t] l).length := by omega
        rw [List.take_length]
        conv => whnf
        refine nthK_of (get_concat _ _) ?_
        conv => whnf
        have hll : ((Bh.take j).map (tryJ (seamsOf p[t] l))).length ≤ j := by simp; omega
        refine ⟨rfl, by decide, rfl, by omega, ?_⟩
        conv => whnf
        exact ⟨Bh.length - (j + 1), by omega, j + 1, Yj ++ [.cells (jcw .shared .shared Bh[j])], by omega, rfl, by simp [hYj], by rw [List.take_succ_eq_append_getElem hlt, List.map_append, List.map_singleton, LJ_snoc, ← wrapS j (by omega)] <;> rfl, by rw [List.append_assoc]⟩
    · obtain rfl : j = Bh.length := by omega
      rw [List.take_length]
      conv => whnf
      refine nthK_of (ga w2) ?_
      conv => whnf
      have hbm := bestL_mem fw (Bh.map (tryJ (seamsOf p[t] l))) (by simpa using hB0)
      have hbo : (bestL fw (Bh.map (tryJ (seamsOf p[t] l)))).o.length ≤ 3 := by
        obtain ⟨b0, hb0, e0⟩ := List.mem_map.1 hbm
        rw [← e0]; show b0.o.length ≤ 3
        rw [(hB b0 hb0).o]; exact hn
      have hjo : jointOf p[t] Bh l = ⟨l :: (bestL fw (Bh.map (tryJ (seamsOf p[t] l)))).o, seamsOf p[t] l, (bestL fw (Bh.map (tryJ (seamsOf p[t] l)))).m, 0⟩ := rfl
      have htl : (Bh.map (tryJ (seamsOf p[t] l))).length = Bh.length := by simp
      generalize Bh.map (tryJ (seamsOf p[t] l)) = tr at hbm hbo hjo htl ⊢
      obtain ⟨x0, t0, rfl⟩ : ∃ x0 t0, tr = x0 :: t0 := by
        cases tr with
        | nil => simp at hbm
        | cons x0 t0 => exact ⟨x0, t0, rfl⟩
      have hbe : bestL fw (x0 :: t0) = bestJ fw t0 x0 := rfl
      rw [hbe] at hbo hjo
      refine ⟨by simp only [List.all_cons, List.all_nil, puLJ, puf, Bool.and_true, Bool.and_self], _, best_ok fw 100 (.inr (.inl ⟨rfl, rfl⟩)) x0 t0 (by simp at htl; omega) fewer_ok, ?_⟩
      generalize bestJ fw t0 x0 = bt at hbo hjo ⊢
      conv => whnf
      refine nthK_of (get_concat _ _) ?_
      conv => whnf
      rw [set_concat]
      refine nthK_of (ga (ga wn)) ?_
      rcases hnk with ⟨rfl, hnk⟩ | ⟨rfl, hnk⟩
      · conv => whnf
        refine nthK_of (get_concat _ _) ?_
        conv => whnf
        refine ⟨by show (pureD 8 (.lst [L2 [l], L2 bt.o] 2 .shared) && true) = true; rw [puC]; rfl, _, concat_ok [l] bt.o rfl hbo, acc0, ?_⟩
        conv => whnf
        refine nthK_of (get_concat _ _) ?_
        conv => whnf
        refine ⟨rfl, by omega, by omega, by omega, rfl, ?_⟩
        conv => whnf
        refine nthK_of (ga (ga wn)) ?_
        conv => whnf
        rw [List.append_assoc]
        exact ⟨rfl, hfin _ _ (by simp [hYj]) (hnk bt hjo)⟩
      · conv => whnf
        refine nthK_of (get_set_ne (get_concat _ _) (by simp; omega)) ?_
        conv => whnf
        refine ⟨by show (pureD 8 (.lst [L2 [l], L2 bt.o] 2 .shared) && true) = true; rw [puC]; rfl, _, concat_ok [l] bt.o rfl hbo, acc0, ?_⟩
        conv => whnf
        refine nthK_of (get_set_ne (get_concat _ _) (by simp; omega)) ?_
        conv => whnf
        refine ⟨rfl, by decide, rfl, by omega, ?_⟩
        conv => whnf
        refine nthK_of (by rw [List.getElem?_set_self (by simp; omega)]) ?_
        conv => whnf
        rw [List.set_set, List.append_assoc]
        exact ⟨rfl, hfin _ _ (by simp [hYj]) (hnk bt hjo)⟩
  · conv => whnf
    refine .intro (fun m T H => ∃ j Yj, j ≤ Bh.length ∧ m = Bh.length - j ∧ Yj.length = j ∧ T = slots 88 [(4, .ptr 2 0), (6, .ptr inn 0), (7, O1 l), (8, O1 (seamsOf p[t] l)), (9, LJ .full .full ((Bh.take j).map (tryJ (seamsOf p[t] l))) (.uniq 4)), (37, LJ .full .full Bh .shared), (38, I Bh.length), (39, I j)] ∧ H = W ++ Yj) Bh.length ⟨0, [], by omega, by omega, rfl, rfl, by rw [List.append_nil]⟩ ?_
    rintro m T H ⟨j, Yj, hj, rfl, hYj, rfl, rfl⟩
    conv => whnf
    refine dcase (fun h => ?_) (fun h => ?_)
    · have hlt : j < Bh.length := by omega
      have hjb := hB _ (List.getElem_mem hlt)
      have hjm0 := hjb.m0
      have hjm1 := hjb.m1
      have hjs := hjb.s
      conv => whnf
      refine ⟨by omega, ?_⟩
      conv => whnf
      rw [Int.toNat_natCast, dropJ .full .full Bh j hlt]
      conv => whnf
      refine nthK_of (get_concat _ _) ?_
      conv => whnf
      rw [set_concat]
      refine nthK_of (get_concat _ _) ?_
      conv => whnf
      refine .intro (CI (fun k => slots 88 [(4, .ptr 2 0), (6, .ptr inn 0), (7, O1 l), (8, O1 (seamsOf p[t] l)), (9, LJ .full .full ((Bh.take j).map (tryJ (seamsOf p[t] l))) (.uniq 4)), (11, .ptr (W ++ Yj).length 0), (12, I (Bh[j].m + common ((seamsOf p[t] l).take k) Bh[j].s)), (37, LJ .full .full Bh .shared), (38, I Bh.length), (39, I j), (45, L1 (seamsOf p[t] l)), (46, I (seamsOf p[t] l).length), (47, I k)]) (seamsOf p[t] l).length (W ++ Yj ++ [.cells (jcw .full .full Bh[j])])) (seamsOf p[t] l).length (ci0 ?_) ?_
      · rw [List.take_zero, show common [] Bh[j].s = 0 from rfl, show Bh[j].m + ((0 : Nat) : Int) = Bh[j].m by omega]; rfl
      rintro m T H ⟨k, hk, rfl, rfl, rfl⟩
      conv => whnf
      refine dcase (fun h => ?_) (fun h => ?_)
      · have hkt : k < (seamsOf p[t] l).length := by omega
        have hs : common ((seamsOf p[t] l).take (k + 1)) Bh[j].s = common ((seamsOf p[t] l).take k) Bh[j].s + (if has Bh[j].s (seamsOf p[t] l)[k] then 1 else 0) := by
          unfold common
          rw [List.take_succ_eq_append_getElem hkt, List.filter_append, List.length_append]
          by_cases h : has Bh[j].s (seamsOf p[t] l)[k] = true <;> simp [List.filter_cons, h]
        have hc := common_le ((seamsOf p[t] l).take k) Bh[j].s
        have hk' : ((seamsOf p[t] l).take k).length ≤ k := List.length_take_le _ _
        conv => whnf
        refine ⟨by omega, ?_⟩
        conv => whnf
        refine nthM _ _ _ (hkt) ?_
        conv => whnf
        refine nthK_of (get_concat _ _) ?_
        conv => whnf
        refine ⟨by first | rfl | simp only [List.all_cons, List.all_nil, pu0, pub, pu1, pu2, pu1', pu2', pun, puf, puP, puP', puQ, puQ', Bool.and_true, Bool.and_self], _, contains_ok Bh[j].s (seamsOf p[t] l)[k] (by omega), ?_⟩
        conv => whnf
        cases hh : has Bh[j].s (seamsOf p[t] l)[k] with
        | true =>
          conv => whnf
          exact ciN hkt (by rw [hs, if_pos hh, ← wrapS k (by omega), show Bh[j].m + ((common ((seamsOf p[t] l).take k) Bh[j].s + 1 : Nat) : Int) = IntKind.i64.wrap (Bh[j].m + (common ((seamsOf p[t] l).take k) Bh[j].s : Nat) + 1) by rw [wrapI _ (by omega) (by omega)]; omega] <;> rfl)
        | false =>
          conv => whnf
          exact ciN hkt (by rw [hs, if_neg (by simp [hh]), Nat.add_zero, ← wrapS k (by omega)] <;> rfl)
      · obtain rfl : k = (seamsOf p[t] l).length := by omega
        rw [List.take_length]
        conv => whnf
        refine nthK_of (get_concat _ _) ?_
        conv => whnf
        have hll : ((Bh.take j).map (tryJ (seamsOf p[t] l))).length ≤ j := by simp; omega
        refine ⟨rfl, by decide, rfl, by omega, ?_⟩
        conv => whnf
        exact ⟨Bh.length - (j + 1), by omega, j + 1, Yj ++ [.cells (jcw .full .full Bh[j])], by omega, rfl, by simp [hYj], by rw [List.take_succ_eq_append_getElem hlt, List.map_append, List.map_singleton, LJ_snoc, ← wrapS j (by omega)] <;> rfl, by rw [List.append_assoc]⟩
    · obtain rfl : j = Bh.length := by omega
      rw [List.take_length]
      conv => whnf
      refine nthK_of (ga w2) ?_
      conv => whnf
      have hbm := bestL_mem fw (Bh.map (tryJ (seamsOf p[t] l))) (by simpa using hB0)
      have hbo : (bestL fw (Bh.map (tryJ (seamsOf p[t] l)))).o.length ≤ 3 := by
        obtain ⟨b0, hb0, e0⟩ := List.mem_map.1 hbm
        rw [← e0]; show b0.o.length ≤ 3
        rw [(hB b0 hb0).o]; exact hn
      have hjo : jointOf p[t] Bh l = ⟨l :: (bestL fw (Bh.map (tryJ (seamsOf p[t] l)))).o, seamsOf p[t] l, (bestL fw (Bh.map (tryJ (seamsOf p[t] l)))).m, 0⟩ := rfl
      have htl : (Bh.map (tryJ (seamsOf p[t] l))).length = Bh.length := by simp
      generalize Bh.map (tryJ (seamsOf p[t] l)) = tr at hbm hbo hjo htl ⊢
      obtain ⟨x0, t0, rfl⟩ : ∃ x0 t0, tr = x0 :: t0 := by
        cases tr with
        | nil => simp at hbm
        | cons x0 t0 => exact ⟨x0, t0, rfl⟩
      have hbe : bestL fw (x0 :: t0) = bestJ fw t0 x0 := rfl
      rw [hbe] at hbo hjo
      refine ⟨by simp only [List.all_cons, List.all_nil, puLJ, puf, Bool.and_true, Bool.and_self], _, best_ok fw 100 (.inl ⟨rfl, rfl⟩) x0 t0 (by simp at htl; omega) fewer_ok, ?_⟩
      generalize bestJ fw t0 x0 = bt at hbo hjo ⊢
      conv => whnf
      refine nthK_of (get_concat _ _) ?_
      conv => whnf
      rw [set_concat]
      refine nthK_of (ga (ga wn)) ?_
      rcases hnk with ⟨rfl, hnk⟩ | ⟨rfl, hnk⟩
      · conv => whnf
        refine nthK_of (get_concat _ _) ?_
        conv => whnf
        refine ⟨by show (pureD 8 (.lst [L2 [l], L2 bt.o] 2 .shared) && true) = true; rw [puC]; rfl, _, concat_ok [l] bt.o rfl hbo, acc0, ?_⟩
        conv => whnf
        refine nthK_of (get_concat _ _) ?_
        conv => whnf
        refine ⟨rfl, by omega, by omega, by omega, rfl, ?_⟩
        conv => whnf
        refine nthK_of (ga (ga wn)) ?_
        conv => whnf
        rw [List.append_assoc]
        exact ⟨rfl, hfin _ _ (by simp [hYj]) (hnk bt hjo)⟩
      · conv => whnf
        refine nthK_of (get_set_ne (get_concat _ _) (by simp; omega)) ?_
        conv => whnf
        refine ⟨by show (pureD 8 (.lst [L2 [l], L2 bt.o] 2 .shared) && true) = true; rw [puC]; rfl, _, concat_ok [l] bt.o rfl hbo, acc0, ?_⟩
        conv => whnf
        refine nthK_of (get_set_ne (get_concat _ _) (by simp; omega)) ?_
        conv => whnf
        refine ⟨rfl, by decide, rfl, by omega, ?_⟩
        conv => whnf
        refine nthK_of (by rw [List.getElem?_set_self (by simp; omega)]) ?_
        conv => whnf
        rw [List.set_set, List.append_assoc]
        exact ⟨rfl, hfin _ _ (by simp [hYj]) (hnk bt hjo)⟩
  · conv => whnf
    refine .intro (fun m T H => ∃ j Yj, j ≤ Bh.length ∧ m = Bh.length - j ∧ Yj.length = j ∧ T = slots 88 [(4, .ptr 2 0), (6, .ptr inn 0), (7, O1 l), (8, O1 (seamsOf p[t] l)), (9, LJ .shared .full ((Bh.take j).map (tryJ (seamsOf p[t] l))) (.uniq 4)), (37, LJ .shared .shared Bh .shared), (38, I Bh.length), (39, I j)] ∧ H = W ++ Yj) Bh.length ⟨0, [], by omega, by omega, rfl, rfl, by rw [List.append_nil]⟩ ?_
    rintro m T H ⟨j, Yj, hj, rfl, hYj, rfl, rfl⟩
    conv => whnf
    refine dcase (fun h => ?_) (fun h => ?_)
    · have hlt : j < Bh.length := by omega
      have hjb := hB _ (List.getElem_mem hlt)
      have hjm0 := hjb.m0
      have hjm1 := hjb.m1
      have hjs := hjb.s
      conv => whnf
      refine ⟨by omega, ?_⟩
      conv => whnf
      rw [Int.toNat_natCast, dropJ .shared .shared Bh j hlt]
      conv => whnf
      refine nthK_of (get_concat _ _) ?_
      conv => whnf
      rw [set_concat]
      refine nthK_of (get_concat _ _) ?_
      conv => whnf
      refine .intro (CI (fun k => slots 88 [(4, .ptr 2 0), (6, .ptr inn 0), (7, O1 l), (8, O1 (seamsOf p[t] l)), (9, LJ .shared .full ((Bh.take j).map (tryJ (seamsOf p[t] l))) (.uniq 4)), (11, .ptr (W ++ Yj).length 0), (12, I (Bh[j].m + common ((seamsOf p[t] l).take k) Bh[j].s)), (37, LJ .shared .shared Bh .shared), (38, I Bh.length), (39, I j), (45, L1 (seamsOf p[t] l)), (46, I (seamsOf p[t] l).length), (47, I k)]) (seamsOf p[t] l).length (W ++ Yj ++ [.cells (jcw .shared .shared Bh[j])])) (seamsOf p[t] l).length (ci0 ?_) ?_
      · rw [List.take_zero, show common [] Bh[j].s = 0 from rfl, show Bh[j].m + ((0 : Nat) : Int) = Bh[j].m by omega]; rfl
      rintro m T H ⟨k, hk, rfl, rfl, rfl⟩
      conv => whnf
      refine dcase (fun h => ?_) (fun h => ?_)
      · have hkt : k < (seamsOf p[t] l).length := by omega
        have hs : common ((seamsOf p[t] l).take (k + 1)) Bh[j].s = common ((seamsOf p[t] l).take k) Bh[j].s + (if has Bh[j].s (seamsOf p[t] l)[k] then 1 else 0) := by
          unfold common
          rw [List.take_succ_eq_append_getElem hkt, List.filter_append, List.length_append]
          by_cases h : has Bh[j].s (seamsOf p[t] l)[k] = true <;> simp [List.filter_cons, h]
        have hc := common_le ((seamsOf p[t] l).take k) Bh[j].s
        have hk' : ((seamsOf p[t] l).take k).length ≤ k := List.length_take_le _ _
        conv => whnf
        refine ⟨by omega, ?_⟩
        conv => whnf
        refine nthM _ _ _ (hkt) ?_
        conv => whnf
        refine nthK_of (get_concat _ _) ?_
        conv => whnf
        refine ⟨by first | rfl | simp only [List.all_cons, List.all_nil, pu0, pub, pu1, pu2, pu1', pu2', pun, puf, puP, puP', puQ, puQ', Bool.and_true, Bool.and_self], _, contains_ok Bh[j].s (seamsOf p[t] l)[k] (by omega), ?_⟩
        conv => whnf
        cases hh : has Bh[j].s (seamsOf p[t] l)[k] with
        | true =>
          conv => whnf
          exact ciN hkt (by rw [hs, if_pos hh, ← wrapS k (by omega), show Bh[j].m + ((common ((seamsOf p[t] l).take k) Bh[j].s + 1 : Nat) : Int) = IntKind.i64.wrap (Bh[j].m + (common ((seamsOf p[t] l).take k) Bh[j].s : Nat) + 1) by rw [wrapI _ (by omega) (by omega)]; omega] <;> rfl)
        | false =>
          conv => whnf
          exact ciN hkt (by rw [hs, if_neg (by simp [hh]), Nat.add_zero, ← wrapS k (by omega)] <;> rfl)
      · obtain rfl : k = (seamsOf p[t] l).length := by omega
        rw [List.take_length]
        conv => whnf
        refine nthK_of (get_concat _ _) ?_
        conv => whnf
        have hll : ((Bh.take j).map (tryJ (seamsOf p[t] l))).length ≤ j := by simp; omega
        refine ⟨rfl, by decide, rfl, by omega, ?_⟩
        conv => whnf
        exact ⟨Bh.length - (j + 1), by omega, j + 1, Yj ++ [.cells (jcw .shared .shared Bh[j])], by omega, rfl, by simp [hYj], by rw [List.take_succ_eq_append_getElem hlt, List.map_append, List.map_singleton, LJ_snoc, ← wrapS j (by omega)] <;> rfl, by rw [List.append_assoc]⟩
    · obtain rfl : j = Bh.length := by omega
      rw [List.take_length]
      conv => whnf
      refine nthK_of (ga w2) ?_
      conv => whnf
      have hbm := bestL_mem fw (Bh.map (tryJ (seamsOf p[t] l))) (by simpa using hB0)
      have hbo : (bestL fw (Bh.map (tryJ (seamsOf p[t] l)))).o.length ≤ 3 := by
        obtain ⟨b0, hb0, e0⟩ := List.mem_map.1 hbm
        rw [← e0]; show b0.o.length ≤ 3
        rw [(hB b0 hb0).o]; exact hn
      have hjo : jointOf p[t] Bh l = ⟨l :: (bestL fw (Bh.map (tryJ (seamsOf p[t] l)))).o, seamsOf p[t] l, (bestL fw (Bh.map (tryJ (seamsOf p[t] l)))).m, 0⟩ := rfl
      have htl : (Bh.map (tryJ (seamsOf p[t] l))).length = Bh.length := by simp
      generalize Bh.map (tryJ (seamsOf p[t] l)) = tr at hbm hbo hjo htl ⊢
      obtain ⟨x0, t0, rfl⟩ : ∃ x0 t0, tr = x0 :: t0 := by
        cases tr with
        | nil => simp at hbm
        | cons x0 t0 => exact ⟨x0, t0, rfl⟩
      have hbe : bestL fw (x0 :: t0) = bestJ fw t0 x0 := rfl
      rw [hbe] at hbo hjo
      refine ⟨by simp only [List.all_cons, List.all_nil, puLJ, puf, Bool.and_true, Bool.and_self], _, best_ok fw 100 (.inr (.inl ⟨rfl, rfl⟩)) x0 t0 (by simp at htl; omega) fewer_ok, ?_⟩
      generalize bestJ fw t0 x0 = bt at hbo hjo ⊢
      conv => whnf
      refine nthK_of (get_concat _ _) ?_
      conv => whnf
      rw [set_concat]
      refine nthK_of (ga (ga wn)) ?_
      rcases hnk with ⟨rfl, hnk⟩ | ⟨rfl, hnk⟩
      · conv => whnf
        refine nthK_of (get_concat _ _) ?_
        conv => whnf
        refine ⟨by show (pureD 8 (.lst [L2 [l], L2 bt.o] 2 .shared) && true) = true; rw [puC]; rfl, _, concat_ok [l] bt.o rfl hbo, acc0, ?_⟩
        conv => whnf
        refine nthK_of (get_concat _ _) ?_
        conv => whnf
        refine ⟨rfl, by omega, by omega, by omega, rfl, ?_⟩
        conv => whnf
        refine nthK_of (ga (ga wn)) ?_
        conv => whnf
        rw [List.append_assoc]
        exact ⟨rfl, hfin _ _ (by simp [hYj]) (hnk bt hjo)⟩
      · conv => whnf
        refine nthK_of (get_set_ne (get_concat _ _) (by simp; omega)) ?_
        conv => whnf
        refine ⟨by show (pureD 8 (.lst [L2 [l], L2 bt.o] 2 .shared) && true) = true; rw [puC]; rfl, _, concat_ok [l] bt.o rfl hbo, acc0, ?_⟩
        conv => whnf
        refine nthK_of (get_set_ne (get_concat _ _) (by simp; omega)) ?_
        conv => whnf
        refine ⟨rfl, by decide, rfl, by omega, ?_⟩
        conv => whnf
        refine nthK_of (by rw [List.getElem?_set_self (by simp; omega)]) ?_
        conv => whnf
        rw [List.set_set, List.append_assoc]
        exact ⟨rfl, hfin _ _ (by simp [hYj]) (hnk bt hjo)⟩
end
end Go.Proofs.Ytlcebaejlnpdeaa.Ab

/-
  Contracts: the program's orders, all layers.
-/
namespace Go.Proofs.Ytlcebaejlnpdeaa.Ab
open Go
set_option maxRecDepth 20000
set_option maxHeartbeats 4000000
theorem porders_ok (p : List (List Int)) (hv : Val p) : PO 77 [Bn p] (L2 (progOrders p)) := by
  have h2 := hv.n2
  have h4 := hv.n4
  refine fn_pure hmix lk77 rfl (pu2' _) ?_
  unfold rc77
  conv => whnf
  rw [show IntKind.i64.wrap ((p.length : Int) - 1) = (p.length : Int) - 1 by rw [wrapI _ (by omega) (by omega)]]
  refine .intro (fun m T H => ∃ t Y c c1, t ≤ p.length ∧ m = t ∧ (c = .own 4 ∨ c = .shared) ∧ (c1 = .full ∨ c1 = .shared) ∧ T = slots 88 [(1, .ptr 0 0), (3, .ptr 1 0), (4, .ptr 2 0), (5, .ptr (3 + Y.length) 0)] ∧
    H = .cells [Bn p] :: .cells [LJ c1 c1 (joints (p.drop t)) c] :: .cells [.func 100 [] []] :: (Y ++ [.cells [I ((t : Int) - 1)]])) p.length ⟨p.length, [], .own 4, .full, Nat.le_refl _, rfl, .inl rfl, .inl rfl, rfl, by rw [List.drop_length]; rfl⟩ ?_
  rintro t T H ⟨_, Y, c, c1, ht, rfl, hc, hc1, rfl, rfl⟩
  conv => whnf
  refine nthK_of (at3 _ _ _ _ Y []) ?_
  conv => whnf
  refine dcase (fun h => ?_) (fun h => ?_)
  · obtain ⟨t, rfl⟩ : ∃ t', t = t' + 1 := ⟨t - 1, by omega⟩
    rw [show (((t + 1 : Nat) : Int) - 1) = (t : Int) by omega]
    conv => whnf
    refine nthK_of (ga (Z := [_]) (at3 _ _ _ _ Y [])) ?_
    conv => whnf
    refine ⟨by first | rfl | simp only [List.all_cons, List.all_nil, pu0, pub, pu1, pu2, pu1', pu2', pun, puf, puP, puP', puQ, puQ', Bool.and_true, Bool.and_self], _, all_ok86 p t, ?_⟩
    conv => whnf
    have ht' : t < p.length := by omega
    have hd := drop_cons p t ht'
    obtain ⟨q1, q2, q3⟩ := joints_b (p.drop (t + 1)) fun l hl => ⟨hv.s1 l (List.mem_of_mem_drop hl), hv.s5 l (List.mem_of_mem_drop hl)⟩
    have hj : joints (p.drop t) = nextJ p[t] (joints (p.drop (t + 1))) := by rw [hd]; rfl
    have hnB : (p.drop (t + 1)).length ≤ 3 := by simp; omega
    generalize joints (p.drop (t + 1)) = Bh at q1 q2 q3 hj ⊢
    generalize hX : (AObj.cells [Bn p] :: AObj.cells [LJ c1 c1 Bh c] :: AObj.cells [AV.func 100 [] []] :: (Y ++ [AObj.cells [I t]]) ++ [AObj.cells [AV.lst [] 0 Cap.full]]) = X0
    generalize hin : (AObj.cells [Bn p] :: AObj.cells [LJ c1 c1 Bh c] :: AObj.cells [AV.func 100 [] []] :: (Y ++ [AObj.cells [I t]])).length = inn
    have hinn : inn = 4 + Y.length := by rw [← hin]; simp; omega
    have hXl : X0.length = 5 + Y.length := by rw [← hX]; simp; omega
    have g0 : X0[0]? = some (.cells [Bn p]) := by rw [← hX]; rfl
    have g1 : X0[1]? = some (.cells [LJ c1 c1 Bh c]) := by rw [← hX]; rfl
    have g2 : X0[2]? = some (.cells [.func 100 [] []]) := by rw [← hX]; rfl
    have gi : X0[3 + Y.length]? = some (.cells [I t]) := by rw [← hX]; exact ga (at3 _ _ _ _ Y [])
    have hA0 : ∀ cx : AObj, X0.set inn cx = .cells [Bn p] :: .cells [LJ c1 c1 Bh c] :: .cells [.func 100 [] []] :: (Y ++ [.cells [I t], cx]) := fun cx => by
      rw [← hX, ← hin, sset']; simp
    have h5 := hv.s5 _ (List.getElem_mem ht')
    have h1 := hv.s1 _ (List.getElem_mem ht')
    have hN := perms_pos h1 h5
    have hsem := all1_sem p t ht' h1 h5 (by omega) (fun r => X0.set inn (.cells [nextk (nextJ p[t] Bh) r])) (fun _ => Bh.length + 1) X0.length 0
      (lp77 (slots 88 [(1, .ptr 0 0), (3, .ptr 1 0), (4, .ptr 2 0), (5, .ptr (3 + Y.length) 0), (6, .ptr inn 0), (26, .bool (decide (0 ≤ (t : Int)))), (29, Bn p), (30, I t), (31, .func 107 [] [.lptr [Bn p], .lptr [I t]])]) .ready) (fun r => by simp) (Nat.zero_le _) (fun _ _ _ h => by omega)
      (fun r hr Y' => round77 p t ht' hv Bh _ q3 hnB q1 q2 c c1 hc hc1 X0 (3 + Y.length) inn _ _ _ _ g0 g1 g2 gi (by omega) (by omega) (by omega) (by omega) (by omega) r hr Y' _ rfl)
    have hX00 : X0.set inn (.cells [nextk (nextJ p[t] Bh) 0]) = X0 := by rw [hA0, ← hX]; simp [nextk]
    rw [hX00] at hsem
    have hlN : nextk (nextJ p[t] Bh) (perms p[t].length).length = LJ .shared .shared (nextJ p[t] Bh) (.own 4) := by
      rw [nextk, if_neg (by omega), List.take_of_length_le (by rw [nextJ_len] <;> omega)]
    rw [hlN] at hsem
    generalize List.replicate (1 + sumM (fun _ => Bh.length + 1) (perms p[t].length).length) AObj.dead = D at hsem
    refine ⟨rfl, .tuple [], _, .ready, none, 77, slots 88 [(1, .ptr 0 0), (3, .ptr 1 0), (4, .ptr 2 0), (5, .ptr (3 + Y.length) 0), (6, .ptr inn 0), (26, .bool (decide (0 ≤ (t : Int)))), (29, Bn p), (30, I t), (31, .func 107 [] [.lptr [Bn p], .lptr [I t]])], [32], rngA Go.Proofs.Try.prog 77 0, rngB Go.Proofs.Try.prog 77 0, ann77, hsem, ?_, by simp, ?_⟩
    · rw [List.getElem?_append_right (by simp), List.length_set, Nat.sub_self]; rfl
    have hZ : ∀ e : AObj, (X0.set inn (.cells [LJ .shared .shared (nextJ p[t] Bh) (.own 4)]) ++ e :: D).set X0.length .dead = .cells [Bn p] :: .cells [LJ c1 c1 Bh c] :: .cells [.func 100 [] []] :: (Y ++ .cells [I t] :: .cells [LJ .shared .shared (nextJ p[t] Bh) (.own 4)] :: .dead :: D) := fun e => by
      have := sset (X0.set inn (.cells [LJ .shared .shared (nextJ p[t] Bh) (.own 4)])) D e .dead
      rw [List.length_set] at this
      rw [this, hA0]; simp
    rw [hZ]
    obtain ⟨Y2, hY2⟩ : ∃ Y2, Y2 = Y ++ .cells [I t] :: .cells [LJ .shared .shared (nextJ p[t] Bh) (.own 4)] :: .dead :: D := ⟨_, rfl⟩
    have zn : (AObj.cells [Bn p] :: .cells [LJ c1 c1 Bh c] :: .cells [.func 100 [] []] :: Y2)[inn]? = some (.cells [LJ .shared .shared (nextJ p[t] Bh) (.own 4)]) := by
      rw [hY2, hinn, show 4 + Y.length = (Y.length + 1) + 1 + 1 + 1 by omega]
      simp
    have zi : (AObj.cells [Bn p] :: .cells [LJ c1 c1 Bh c] :: .cells [.func 100 [] []] :: Y2)[3 + Y.length]? = some (.cells [I t]) := by
      rw [hY2]; exact at3 _ _ _ _ _ _
    rw [← hY2]
    conv => whnf
    refine nthK_of zn ?_
    conv => whnf
    refine nthK_of (get_set_ne zi (by omega)) ?_
    conv => whnf
    refine nthK_of (get_concat _ _) ?_
    conv => whnf
    refine nthK_of (setc_get _ _ _) ?_
    conv => whnf
    refine nthK_of (setc_get _ _ _) ?_
    conv => whnf
    refine ⟨t, by omega, t, Y2, .shared, .shared, by omega, rfl, .inr rfl, .inr rfl, ?_, ?_⟩
    · rw [show 3 + Y2.length = Y2.length + 1 + 1 + 1 by omega]; rfl
    · rw [hj, set_concat, set_concat, wrapI _ (by omega) (by omega)]; rfl
  · obtain rfl : t = 0 := by omega
    rw [List.drop_zero]
    obtain ⟨q1, q2, q3⟩ := joints_b p fun l hl => ⟨hv.s1 l hl, hv.s5 l hl⟩
    unfold progOrders
    generalize joints p = jl at q1 q2 ⊢
    obtain ⟨x0, t0, rfl⟩ : ∃ x0 t0, jl = x0 :: t0 := by
      cases jl with
      | nil => simp at q1
      | cons x0 t0 => exact ⟨x0, t0, rfl⟩
    rcases hc with rfl | rfl
    all_goals
      rcases hc1 with rfl | rfl
    · conv => whnf
      refine ⟨by simp only [List.all_cons, List.all_nil, puLJ, puf, Bool.and_true, Bool.and_self], _, best_ok fw 100 (.inl ⟨rfl, rfl⟩) x0 t0 (by simp at q2; omega) fewer_ok, ?_⟩
      conv => whnf
      exact ret_pure (.inr rfl) (pu2' _) rfl
    · conv => whnf
      refine ⟨by simp only [List.all_cons, List.all_nil, puLJ, puf, Bool.and_true, Bool.and_self], _, best_ok fw 100 (.inr (.inr ⟨rfl, rfl⟩)) x0 t0 (by simp at q2; omega) fewer_ok, ?_⟩
      conv => whnf
      exact ret_pure (.inr rfl) (pu2' _) rfl
    · conv => whnf
      refine ⟨by simp only [List.all_cons, List.all_nil, puLJ, puf, Bool.and_true, Bool.and_self], _, best_ok fw 100 (.inl ⟨rfl, rfl⟩) x0 t0 (by simp at q2; omega) fewer_ok, ?_⟩
      conv => whnf
      exact ret_pure (.inr rfl) (pu2' _) rfl
    · conv => whnf
      refine ⟨by simp only [List.all_cons, List.all_nil, puLJ, puf, Bool.and_true, Bool.and_self], _, best_ok fw 100 (.inr (.inr ⟨rfl, rfl⟩)) x0 t0 (by simp at q2; omega) fewer_ok, ?_⟩
      conv => whnf
      exact ret_pure (.inr rfl) (pu2' _) rfl
/-! ### by, Fewest, Orders, Pair -/
theorem by_ok (p o : List (List Int)) (hv : Val p) (h : Ords p o) : PO 76 [Bn p, L2 o] (O2 (seamsBy p o)) := by
  have hl := h.len
  have h4 := hv.n4
  refine fn_pure hmix lk76 rfl (pu2 _ _ _) ?_
  unfold rc76
  conv => whnf
  refine .intro (CI (fun i => slots 24 [(0, Bn p), (5, U2 (seamsBy (p.take i) (o.take i))), (8, L2 o), (9, I o.length), (10, I i)]) o.length []) o.length (ci0 rfl) ?_
  rintro m T H ⟨i, hi, rfl, rfl, rfl⟩
  conv => whnf
  refine dcase (fun h2 => ?_) (fun h2 => ?_)
  · have hlt : i < o.length := by omega
    have hlt2 : i < p.length := by omega
    have hI := h.inL hv i hlt hlt2
    have hs1 := hv.s1 _ (List.getElem_mem hlt2)
    have hon := (isOrd_iff.1 (h.ord i hlt hlt2)).1
    conv => whnf
    refine ⟨by omega, ?_⟩
    conv => whnf
    refine nthM _ _ _ (hlt) ?_
    conv => whnf
    refine ⟨?_, _, pseams_ok p i hlt2 o[i] hI (by omega), ?_⟩
    · simp only [List.all_cons, List.all_nil, pu1, pu0, puBn, puQ, Bool.and_true]
    conv => whnf
    have hll : (seamsBy (p.take i) (o.take i)).length ≤ i := by simp [seamsBy]; omega
    refine ⟨rfl, by decide, rfl, by omega, ?_⟩
    conv => whnf
    exact ciN hlt (by rw [seamsBy_take i hlt hlt2, ← U2_snoc, ← wrapS i (by omega)] <;> rfl)
  · obtain rfl : i = o.length := by omega
    conv => whnf
    exact ret_own (.inr rfl) (pu2 _ _ _) (.inr (by rw [List.take_length, hl, List.take_length]; rfl))
theorem jointOf_head (a : List Int) (b : List Jt) (o : List Int) : (jointOf a b o).o = o :: (bestL fw (b.map (tryJ (seamsOf a o)))).o := rfl
/-- What joints' orders are. -/
theorem joints_ords : ∀ (p : List (List Int)), (∀ l ∈ p, 1 ≤ l.length ∧ l.length ≤ 5) → ∀ x ∈ joints p, Ords p x.o
  | [], _, x, hx => by
    simp [joints] at hx; subst hx
    exact ⟨rfl, fun i h => by simp at h⟩
  | a :: r, h, x, hx => by
    have hr : ∀ l ∈ r, 1 ≤ l.length ∧ l.length ≤ 5 := fun l hl => h l (by simp [hl])
    obtain ⟨q1, _, _⟩ := joints_b r hr
    have ih := joints_ords r hr
    simp only [joints, nextJ, List.mem_map] at hx
    obtain ⟨o, ho, rfl⟩ := hx
    have hm := bestL_mem fw ((joints r).map (tryJ (seamsOf a o))) (by simpa using q1)
    obtain ⟨j, hj, e⟩ := List.mem_map.1 hm
    have hjo := ih j hj
    have e2 : (bestL fw ((joints r).map (tryJ (seamsOf a o)))).o = j.o := by rw [← e]; rfl
    refine ⟨by rw [jointOf_head, e2, List.length_cons, List.length_cons, hjo.len], fun i h1 h2 => ?_⟩
    simp only [jointOf_head, e2] at h1 ⊢
    cases i with
    | zero => exact perms_ord ho
    | succ i => exact hjo.ord i (by simpa using h1) (by simpa using h2)
theorem progOrders_ords {p : List (List Int)} (hv : Val p) : Ords p (progOrders p) := by
  have h : ∀ l ∈ p, 1 ≤ l.length ∧ l.length ≤ 5 := fun l hl => ⟨hv.s1 l hl, hv.s5 l hl⟩
  exact joints_ords p h _ (bestL_mem fw _ (joints_b p h).1)
def pfewE (p : List (List Int)) : Int := if checkP p = 0 then (meetN (seamsBy p (progOrders p)) : Int) else 0
theorem pfewest_ok (p : List (List Int)) (h1 : p.length ≤ 140737488355328) (h2 : ∀ l ∈ p, l.length ≤ 140737488355328) : PO 33 [P1 p] (.tuple [I (pfewE p), I (checkP p)]) := by
  by_cases hc : checkP p = 0
  · have hv := checkP_val hc
    have ho := progOrders_ords hv
    have h4 := hv.n4
    have hl := seamsBy_length ho
    have hq := seamsBy_pos hv ho
    have hi := seamsBy_inc hv ho
    rw [show pfewE p = (meetN (seamsBy p (progOrders p)) : Int) from if_pos hc, hc]
    refine fn_pure hmix lk33 rfl rfl ?_
    unfold rc33
    conv => whnf
    refine ⟨by first | rfl | simp only [List.all_cons, List.all_nil, pu0, pub, pu1, pu2, pu1', pu2', pun, puf, puP, puP', puQ, puQ', Bool.and_true, Bool.and_self], _, open_good [] h1 h2 (by simp) hc rfl, ?_⟩
    conv => whnf
    refine ⟨by simp only [List.all_cons, List.all_nil, puQ, puBn, Bool.and_true], _, porders_ok p hv, ?_⟩
    conv => whnf
    refine ⟨by simp only [List.all_cons, List.all_nil, puQ, puBn, pu2, pu2', Bool.and_true], _, by_ok p _ hv ho, ?_⟩
    conv => whnf
    generalize seamsBy p (progOrders p) = l at hl hq hi
    refine ⟨_, _, meet_call l (by omega) (fun r hr => by have := (hq r hr).2; omega) (places_nodup l 0 fun r hr => inc_nodup (hi r hr)) _ _, ?_⟩
    conv => whnf
    refine ⟨_, _, rfl, ?_⟩
    conv => whnf
    exact ret_pure (.inr rfl) rfl (by rw [← meets_length]; rfl)
  · rw [show pfewE p = 0 from if_neg hc]
    refine fn_pure hmix lk33 rfl rfl ?_
    unfold rc33
    conv => whnf
    refine ⟨by first | rfl | simp only [List.all_cons, List.all_nil, pu0, pub, pu1, pu2, pu1', pu2', pun, puf, puP, puP', puQ, puQ', Bool.and_true, Bool.and_self], _, open_bad [] h1 h2 (by simp) hc, ?_⟩
    conv => whnf
    refine dcase (fun h => ?_) (fun h => absurd hc h)
    conv => whnf
    exact ret_pure (.inr rfl) rfl rfl
end Go.Proofs.Ytlcebaejlnpdeaa.Ab

/-
  Plain law of layer 5: the program's orders are the first ones that have the fewest meetings.
-/
namespace Go.Proofs.Ytlcebaejlnpdeaa.Ab
theorem common_nil (s : List Int) : common s [] = 0 := by
  unfold common; rw [List.length_eq_zero_iff, List.filter_eq_nil_iff]; simp [has]
theorem bestJ_m : ∀ (t : List Jt) (x : Jt), (bestJ fw t x).m = t.foldl (fun m y => min m y.m) x.m
  | [], x => rfl
  | y :: t, x => by
    have e : bestJ fw (y :: t) x = bestJ fw t (if fw y x = true then y else x) := rfl
    rw [e, bestJ_m t, List.foldl_cons]
    congr 1
    unfold fw
    by_cases h : y.m < x.m
    · rw [if_pos (decide_eq_true h)]; omega
    · rw [if_neg (by simpa using h)]; omega
/-- Joints' seams and meetings are the table's. -/
theorem joints_s (a : List Int) (r : List (List Int)) : (joints (a :: r)).map (·.s) = seamA a := by
  simp only [joints, nextJ, seamA, List.map_map]; rfl
theorem minJ_best (s : List Int) (l : List Jt) (h : 0 < l.length) (hb : ∀ x ∈ l, x.m + common s x.s ≤ 100) : minJ s (l.map fun j => (j.s, j.m)) = (bestL fw (l.map (tryJ s))).m := by
  cases l with
  | nil => simp at h
  | cons x t =>
    have e : bestL fw ((x :: t).map (tryJ s)) = bestJ fw (t.map (tryJ s)) (tryJ s x) := rfl
    rw [e, bestJ_m, minJ, List.map_cons, List.foldl_cons]
    have h0 := hb x (by simp)
    have e2 : min (100 : Int) ((common s x.s : Int) + x.m) = (tryJ s x).m := by show _ = x.m + (common s x.s : Int); omega
    show (t.map fun j => (j.s, j.m)).foldl (fun m x => min m ((common s x.1 : Int) + x.2)) (min 100 ((common s x.s : Int) + x.m)) = _
    rw [e2, List.foldl_map, List.foldl_map]
    congr 1
    funext m y
    show min m ((common s y.s : Int) + y.m) = min m (y.m + (common s y.s : Int))
    rw [Int.add_comm]
theorem zip_map (l : List Jt) : List.zip (l.map (·.s)) (l.map (·.m)) = l.map fun j => (j.s, j.m) := by
  induction l with
  | nil => rfl
  | cons x l ih => simp only [List.map_cons, List.zip_cons_cons, ih]
abbrev Lens (p : List (List Int)) : Prop := (∀ l ∈ p, 1 ≤ l.length ∧ l.length ≤ 5) ∧ p.length ≤ 4
theorem Lens.tail {a : List Int} {r : List (List Int)} (h : Lens (a :: r)) : Lens r := ⟨fun l hl => h.1 l (by simp [hl]), by have := h.2; simp at this; omega⟩
theorem joints_m : ∀ (p : List (List Int)), Lens p → p ≠ [] → (joints p).map (·.m) = costs p
  | [], _, h => absurd rfl h
  | [a], _, _ => by
    simp only [joints, nextJ, costs, List.map_map]
    refine List.map_congr_left fun o _ => ?_
    show (bestL fw [tryJ (seamsOf a o) ⟨[], [], 0, 0⟩]).m = 0
    show (0 : Int) + (common (seamsOf a o) [] : Int) = 0
    rw [common_nil]; rfl
  | a :: b :: r, h, _ => by
    have hr := Lens.tail h
    have ih := joints_m (b :: r) hr (by simp)
    obtain ⟨q1, q2, q3⟩ := joints_b (b :: r) hr.1
    have e : joints (a :: b :: r) = nextJ a (joints (b :: r)) := rfl
    rw [e, costs, ← ih, ← joints_s b r, zip_map]
    simp only [nextJ, seamA, List.map_map]
    refine List.map_congr_left fun o ho => ?_
    show (bestL fw ((joints (b :: r)).map (tryJ (seamsOf a o)))).m = minJ (seamsOf a o) ((joints (b :: r)).map fun j => (j.s, j.m))
    refine (minJ_best _ _ q1 fun x hx => ?_).symm
    have hx1 := (q3 x hx).m1
    have hc := common_le (seamsOf a o) x.s
    have ho1 := (perms_mem ho).1
    have hs : (seamsOf a o).length ≤ 4 := by
      have := (h.1 a (by simp)).2
      simp [seamsOf, seamsGo_length]; omega
    have := hr.2
    omega
theorem fewest_best {p : List (List Int)} (h : Lens p) (hp : p ≠ []) : fewestOf p = (bestL fw (joints p)).m := by
  have e := joints_m p h hp
  have q := (joints_b p h.1).1
  unfold fewestOf leastOf
  rw [← e]
  generalize joints p = l at q
  cases l with
  | nil => simp at q
  | cons x t =>
    show (List.map (·.m) (x :: t)).foldl min x.m = (bestJ fw t x).m
    rw [bestJ_m, List.foldl_map, List.foldl_cons, Int.min_self]
theorem meetN_cons (s : List Int) (rows : List (List Int)) : meetN (s :: rows) = common s (rows.headD []) + meetN rows := by
  cases rows with
  | nil => simp [meetN, common_nil]
  | cons r rows => rfl
theorem joints_meet : ∀ (p : List (List Int)), (∀ l ∈ p, 1 ≤ l.length ∧ l.length ≤ 5) → ∀ x ∈ joints p, x.m = (meetN (seamsBy p x.o) : Int) ∧ x.s = (seamsBy p x.o).headD []
  | [], _, x, hx => by
    simp [joints] at hx; subst hx; exact ⟨rfl, rfl⟩
  | a :: r, h, x, hx => by
    have hr : ∀ l ∈ r, 1 ≤ l.length ∧ l.length ≤ 5 := fun l hl => h l (by simp [hl])
    obtain ⟨q1, _, _⟩ := joints_b r hr
    have ih := joints_meet r hr
    simp only [joints, nextJ, List.mem_map] at hx
    obtain ⟨o, ho, rfl⟩ := hx
    have hm := bestL_mem fw ((joints r).map (tryJ (seamsOf a o))) (by simpa using q1)
    obtain ⟨j, hj, e⟩ := List.mem_map.1 hm
    obtain ⟨i1, i2⟩ := ih j hj
    have e1 : (jointOf a (joints r) o).o = o :: j.o := by show o :: (bestL fw _).o = _; rw [← e]; rfl
    have e2 : (jointOf a (joints r) o).m = j.m + (common (seamsOf a o) j.s : Int) := by show (bestL fw _).m = _; rw [← e]; rfl
    have e3 : seamsBy (a :: r) (o :: j.o) = seamsOf a o :: seamsBy r j.o := rfl
    rw [e1, e2, e3, meetN_cons, i1, ← i2]
    refine ⟨by omega, rfl⟩
theorem fewest_eq {p : List (List Int)} (h : Lens p) (hp : p ≠ []) : fewestOf p = (meetN (seamsBy p (progOrders p)) : Int) := by
  rw [fewest_best h hp]
  exact (joints_meet p h.1 _ (bestL_mem fw _ (joints_b p h.1).1)).1
end Go.Proofs.Ytlcebaejlnpdeaa.Ab

/-
  Contracts: SeamPanels, SeamThroughs.
-/
namespace Go.Proofs.Ytlcebaejlnpdeaa.Ab
open Go
set_option maxRecDepth 20000
/-- Works is true. -/
abbrev WK : Prop := PO 20 [] (B true)
end Go.Proofs.Ytlcebaejlnpdeaa.Ab

/-
  Contracts: the program's Pair; SeamFewests.
-/
namespace Go.Proofs.Ytlcebaejlnpdeaa.Ab
open Go
set_option maxRecDepth 20000
set_option maxHeartbeats 4000000
theorem Val.lens {p : List (List Int)} (hv : Val p) : Lens p := ⟨fun l hl => ⟨hv.s1 l hl, hv.s5 l hl⟩, hv.n4⟩
theorem Val.ne {p : List (List Int)} (hv : Val p) : p ≠ [] := fun h => by have := hv.n2; rw [h] at this; simp at this
theorem few_same (p : List (List Int)) : pfewE p = fewE p := by
  unfold pfewE fewE
  by_cases h : checkP p = 0
  · have hv := checkP_val h
    rw [if_pos h, if_pos h, fewest_eq hv.lens hv.ne]
  · rw [if_neg h, if_neg h]
theorem ppair_ok (p : List (List Int)) (x : Int) (h1 : p.length ≤ 140737488355328) (h2 : ∀ l ∈ p, l.length ≤ 140737488355328) : PO 37 [P1 p, I x] (.tuple [I (pairV p x), I (pairErr p x)]) := by
  by_cases hc : checkP p = 0
  · have hv := checkP_val hc
    have h4 := hv.n4
    have h22 := hv.n2
    by_cases ha : [x].any (outOf 0 ((p.length : Int) - 1)) = true
    · have e : pairErr p x = 2 := by
        rw [pairErr, if_neg (by simp [hc]), if_pos]
        simp only [List.any_cons, List.any_nil, Bool.or_false, outOf, Bool.or_eq_true, decide_eq_true_eq] at ha
        omega
      rw [pairV, e]
      refine fn_pure hmix lk37 rfl rfl ?_
      unfold rc37
      conv => whnf
      refine ⟨by show (pureD 8 (P1 p) && (pureD 8 (L1 [x]) && true)) = true; rw [puP', pu1']; rfl, _, open_arg [x] h1 h2 (by simp) hc ha, ?_⟩
      conv => whnf
      exact ret_pure (.inr rfl) rfl rfl
    · have ha : [x].any (outOf 0 ((p.length : Int) - 1)) = false := by simpa using ha
      have ha2 := ha
      simp only [List.any_cons, List.any_nil, Bool.or_false, outOf_false] at ha2
      refine fn_pure hmix lk37 rfl rfl ?_
      unfold rc37
      conv => whnf
      refine ⟨by show (pureD 8 (P1 p) && (pureD 8 (L1 [x]) && true)) = true; rw [puP', pu1']; rfl, _, open_good [x] h1 h2 (by simp) hc ha, ?_⟩
      conv => whnf
      rw [wrapI ((p.length : Int) - 1) (by omega) (by omega)]
      refine dcase (fun h => ?_) (fun h => ?_)
      · have e : pairErr p x = 2 := by rw [pairErr, if_neg (by simp [hc]), if_pos (by omega)]
        rw [pairV, e]
        conv => whnf
        exact ret_pure (.inr rfl) rfl rfl
      · have e : pairErr p x = 0 := by rw [pairErr, if_neg (by simp [hc]), if_neg (by omega)]
        obtain ⟨k, rfl⟩ : ∃ k : Nat, x = k := ⟨x.toNat, by omega⟩
        have hsub := hv.sub k (by omega)
        have hfe : pairV p k = pfewE ((p.drop k).take 2) := by
          rw [pairV, if_pos e, few_same, fewE, if_pos hsub.check]; rfl
        have hm : ∀ l ∈ (p.drop k).take 2, l ∈ p := fun l hl => List.mem_of_mem_drop (List.mem_of_mem_take hl)
        conv => whnf
        rw [show IntKind.i64.wrap ((k : Int) + 2) = ((k + 2 : Nat) : Int) by rw [wrapI _ (by omega) (by omega)]; omega]
        refine ⟨by omega, ?_⟩
        rw [cut2, L2_two p k (by omega)]
        conv => whnf
        refine ⟨by first | rfl | simp only [List.all_cons, List.all_nil, pu0, pub, pu1, pu2, pu1', pu2', pun, puf, puP, puP', puQ, puQ', Bool.and_true, Bool.and_self], _, pfewest_ok ((p.drop k).take 2) (by simp; omega) (fun l hl => h2 l (hm l hl)), ?_⟩
        conv => whnf
        exact ret_pure (.inr rfl) rfl (by rw [hfe, e, hsub.check]; rfl)
  · have e : pairErr p x = checkP p := if_pos hc
    rw [pairV, e, if_neg hc]
    refine fn_pure hmix lk37 rfl rfl ?_
    unfold rc37
    conv => whnf
    refine ⟨by show (pureD 8 (P1 p) && (pureD 8 (L1 [x]) && true)) = true; rw [puP', pu1']; rfl, _, open_bad [x] h1 h2 (by simp) hc, ?_⟩
    conv => whnf
    refine dcase (fun h => ?_) (fun h => absurd hc h)
    conv => whnf
    exact ret_pure (.inr rfl) rfl rfl
end Go.Proofs.Ytlcebaejlnpdeaa.Ab

/-
  Contracts: the program's Sums.
-/
namespace Go.Proofs.Ytlcebaejlnpdeaa.Ab
open Go
set_option maxRecDepth 20000
set_option maxHeartbeats 4000000
def F1 (l : List Int) : AV := .lst (l.map I) l.length .full
theorem copy1 (lo id : Nat) (H : List AObj) (l : List Int) (hlo : lo ≤ id) (hH : H[id]? = some (.cells (repl l.length [I 0]))) :
    opCopy Go.Proofs.Try.prog lo #[37, 37] H [.ref id 0 l.length (some l.length) 1, L1 l] = some (I l.length, H.set id (.cells (l.map I))) := by
  have e1 : ((#[37, 37] : Array TypeId)[0]?).bind Go.Proofs.Try.prog.underlying = some (.slice 2) := by kernel_rfl
  have e2 : szOf Go.Proofs.Try.prog 2 = some 1 := by kernel_rfl
  have e4 : setCells 0 (l.map I) (repl l.length [I 0]) = l.map I := by
    apply List.ext_getElem?
    intro j
    have hl : (repl l.length [I 0]).length = l.length := by rw [repl_len]; simp
    rw [setCells_get _ _ _ _ (by rw [hl]; simp)]
    by_cases hj : j < l.length
    · rw [if_pos ⟨by omega, by simpa using hj⟩]; simp
    · rw [if_neg (by simp; omega), List.getElem?_eq_none (by rw [hl]; omega), List.getElem?_eq_none (by simpa using hj)]
  unfold opCopy
  simp only [e1, e2, L1, lenOf, rowOf, mutObj, hH, if_pos hlo]
  rw [if_pos ⟨trivial, by simp⟩, if_pos (by rw [repl_len]; simp), Nat.min_self, Nat.mul_one, List.take_of_length_le (by simp), e4]
  rfl
/-- What Sums, and Sure, tell of a layer; the error. -/
def layErr (p : List (List Int)) (x : Int) : Int := if checkP p ≠ 0 then checkP p else if outOf 0 ((p.length : Int) - 1) x = true then 2 else 0
theorem puL1 (l : List Int) (e : Int) : pureD 8 (.tuple [L1 l, I e]) = true := by
  show [L1 l, I e].all (pureD 7) = true
  rw [List.all_cons, List.all_cons, List.all_nil]
  have : pureD 7 (L1 l) = true := pure_ints 5 l
  rw [this]; rfl
theorem puF1 (l : List Int) (e : Int) : pureD 8 (.tuple [F1 l, I e]) = true := by
  show [F1 l, I e].all (pureD 7) = true
  rw [List.all_cons, List.all_cons, List.all_nil]
  have : pureD 7 (F1 l) = true := pure_ints 5 l
  rw [this]; rfl
theorem pSums_ok (p : List (List Int)) (x : Int) (h1 : p.length ≤ 140737488355328) (h2 : ∀ l ∈ p, l.length ≤ 140737488355328) :
    PO 40 [P1 p, I x] (if layErr p x = 0 then .tuple [F1 (psums (p.getD x.toNat [])), I 0] else .tuple [L1 [], I (layErr p x)]) := by
  by_cases hc : checkP p = 0
  · have hv := checkP_val hc
    cases ha : outOf 0 ((p.length : Int) - 1) x with
    | true =>
      have e : layErr p x = 2 := by unfold layErr; rw [if_neg (by simp [hc]), if_pos ha]
      rw [e, if_neg (by decide)]
      refine fn_pureQ hmix lk40 rfl rfl fun Q hQ => ?_
      unfold rc40
      conv => whnf
      refine ⟨by show (pureD 8 (P1 p) && (pureD 8 (L1 [x]) && true)) = true; rw [puP', pu1']; rfl, _, open_arg [x] h1 h2 (by simp) hc (by simpa using ha), ?_⟩
      conv => whnf
      exact hQ _ _ _ (ret_pure (.inr rfl) rfl rfl)
    | false =>
      have hx := outOf_false.1 ha
      obtain ⟨k, rfl⟩ : ∃ k : Nat, x = k := ⟨x.toNat, by omega⟩
      have hk : k < p.length := by omega
      have e : layErr p (k : Int) = 0 := by unfold layErr; rw [if_neg (by simp [hc]), if_neg (by simp [ha])]
      rw [e, if_pos rfl, show p.getD (k : Int).toNat [] = p[k] by simp [hk]]
      refine fn_pureQ hmix lk40 rfl (puF1 _ _) fun Q hQ => ?_
      unfold rc40
      conv => whnf
      refine ⟨by show (pureD 8 (P1 p) && (pureD 8 (L1 [(k : Int)]) && true)) = true; rw [puP', pu1']; rfl, _, open_good [(k : Int)] h1 h2 (by simp) hc (by simpa using ha), ?_⟩
      conv => whnf
      refine ⟨by simp only [List.all_cons, List.all_nil, puQ, Bool.and_true]; rfl, _, sums_ok p k hk hv, ?_⟩
      conv => whnf
      have hb : (psums p[k]).length ≤ 30 := by
        refine Nat.le_trans (psums_le _) ?_
        have h5 := hv.s5 _ (List.getElem_mem hk)
        have : 2 ^ p[k].length ≤ 32 := (pow_val ⟨p[k].length, by omega⟩).2
        simp only [subs, List.length_map, List.length_range]
        omega
      generalize psums p[k] = l at hb hQ
      refine ⟨by omega, by omega, by simp; omega, ?_⟩
      conv => whnf
      refine ⟨_, _, fun C => copy1 0 _ _ l (Nat.zero_le _) rfl, ?_⟩
      conv => whnf
      refine hQ _ _ _ ⟨.inr rfl, [.ref 1 0 l.length (some l.length) 1, I 0], rfl, .tuple [F1 l, I 0], ?_, .inl rfl⟩
      have hf := frz_ref (H := [.cells [L2 p], .cells (l.map I)]) (id := 1) (n := l.length) (d := 6) (l := l.map I) rfl (by simp) (by rw [List.map_map]; exact pure_ints 5 l)
      rw [List.map_map] at hf
      show ((mapO (frz [.cells [L2 p], .cells (l.map I)] 0 2 0 7) [.ref 1 0 l.length (some l.length) 1, I 0]).map AV.tuple) = _
      have e1 : mapO (frz [AObj.cells [L2 p], .cells (l.map I)] 0 2 0 7) [.ref 1 0 l.length (some l.length) 1, I 0] = some [F1 l, I 0] := by
        unfold mapO
        rw [show frz [AObj.cells [L2 p], .cells (l.map I)] 0 2 0 7 (.ref 1 0 l.length (some l.length) 1) = some (F1 l) from hf]
        rfl
      rw [e1]; rfl
  · have e : layErr p x = checkP p := if_pos hc
    rw [e, if_neg hc]
    refine fn_pureQ hmix lk40 rfl (puL1 _ _) fun Q hQ => ?_
    unfold rc40
    conv => whnf
    refine ⟨by show (pureD 8 (P1 p) && (pureD 8 (L1 [x]) && true)) = true; rw [puP', pu1']; rfl, _, open_bad [x] h1 h2 (by simp) hc, ?_⟩
    conv => whnf
    refine dcase (fun h => ?_) (fun h => absurd hc h)
    conv => whnf
    exact hQ _ _ _ (ret_pure (.inr rfl) (puL1 _ _) rfl)
end Go.Proofs.Ytlcebaejlnpdeaa.Ab

/-
  Contracts: the definitions' Sums and Sure.
-/
namespace Go.Proofs.Ytlcebaejlnpdeaa.Ab
open Go
set_option maxRecDepth 20000
set_option maxHeartbeats 4000000
/-- In how many orders a number is a seam. -/
def cnt (w : List Int) (a : Int) : Nat := ((seamA w).filter fun r => has r a).length
def cntL (w : List Int) (m : Int) (r : Nat) : List Int := ((List.range r).map fun i => ((i + 1 : Nat) : Int)).filter fun a => decide (m ≤ (cnt w a : Int))
/-- What the definitions say. -/
def rsums (w : List Int) : List Int := cntL w 1 (sumI w - 1).toNat
def rsure (w : List Int) : List Int := cntL w (perms w.length).length (sumI w - 1).toNat
theorem layErr_val {p : List (List Int)} {x : Int} (h : layErr p x = 0) : Val p ∧ ∃ k : Nat, x = k ∧ k < p.length := by
  unfold layErr at h
  by_cases hc : checkP p = 0
  · refine ⟨checkP_val hc, ?_⟩
    rw [if_neg (by simp [hc])] at h
    by_cases ho : outOf 0 ((p.length : Int) - 1) x = true
    · rw [if_pos ho] at h; cases h
    · have := outOf_false.1 (by simpa using ho)
      exact ⟨x.toNat, by omega, by omega⟩
  · rw [if_pos hc] at h; exact absurd h hc
end Go.Proofs.Ytlcebaejlnpdeaa.Ab

/-
  Contracts: slices' DeleteFunc, with Sure's closure.
-/
namespace Go.Proofs.Ytlcebaejlnpdeaa.Ab
open Go
set_option maxRecDepth 20000
set_option maxHeartbeats 4000000
theorem clear2 (lo id off len : Nat) (H : List AObj) (l : List AV) (hlo : lo ≤ id) (hH : H[id]? = some (.cells l)) (h : off + len ≤ l.length) :
    opClear Go.Proofs.Try.prog lo #[37] H [.ref id off len none 1] = some (.tuple [], H.set id (.cells (l.take off ++ List.replicate len (I 0) ++ l.drop (off + len)))) := by
  have e1 : ((#[37] : Array TypeId)[0]?).bind Go.Proofs.Try.prog.underlying = some (.slice 2) := by kernel_rfl
  have e2 : szOf Go.Proofs.Try.prog 2 = some 1 := by kernel_rfl
  have e3 : zeroCells Go.Proofs.Try.prog 2 = some [.int .i64 0] := by kernel_rfl
  have e4 : setCells off (repl len [AV.int .i64 0]) l = l.take off ++ List.replicate len (I 0) ++ l.drop (off + len) := by
    apply List.ext_getElem?
    intro j
    rw [setCells_get _ _ _ _ (by rw [repl_len]; simp; omega), repl_len, repl1]
    simp only [List.length_singleton, Nat.mul_one]
    by_cases hj : j < off
    · rw [if_neg (by omega), List.append_assoc, List.getElem?_append_left (by simp; omega), List.getElem?_take_of_lt hj]
    · by_cases hj2 : j < off + len
      · rw [if_pos ⟨by omega, hj2⟩, List.getElem?_append_left (by simp; omega), List.getElem?_append_right (by simp; omega), List.getElem?_replicate, List.getElem?_replicate, List.length_take, if_pos (by omega), if_pos (by omega)]
      · rw [if_neg (by omega), List.getElem?_append_right (by simp; omega), List.getElem?_drop]
        congr 1
        simp; omega
  unfold opClear
  simp only [e1, e2, e3, mutObj, hH, Option.map_some, if_pos hlo]
  rw [if_pos ⟨trivial, rfl, by decide⟩, if_pos (by omega), e4]
  rfl
theorem sure1_ok (s : List Int) (x : Int) (hs : s.length ≤ 140737488355328) : PO 89 [I x, .lptr [L1 s]] (B (!(has s x))) := by
  refine fn_pureQ hmix lk89 rfl rfl fun Q hQ => ?_
  unfold rc89
  conv => whnf
  refine ⟨by first | rfl | simp only [List.all_cons, List.all_nil, pu0, pub, pu1, pu2, pu1', pu2', pun, puf, puP, puP', puQ, puQ', Bool.and_true, Bool.and_self], _, contains_ok s x hs, ?_⟩
  conv => whnf
  exact hQ _ _ _ (ret_pure (.inr rfl) rfl rfl)
theorem idx_cases (p : Int → Bool) : ∀ (l : List Int) (i : Nat), (idxOf p l i = -1 ∧ ∀ x ∈ l, p x = false) ∨ ∃ k, ∃ (h : k < l.length), idxOf p l i = ((i + k : Nat) : Int) ∧ p l[k] = true ∧ ∀ x ∈ l.take k, p x = false
  | [], i => .inl ⟨rfl, by simp⟩
  | x :: l, i => by
    by_cases hx : p x = true
    · exact .inr ⟨0, by simp, by simp [idxOf, hx], hx, by simp⟩
    · rcases idx_cases p l (i + 1) with ⟨h1, h2⟩ | ⟨k, h, h1, h2, h3⟩
      · exact .inl ⟨by rw [idxOf, if_neg hx]; exact h1, fun y hy => (List.mem_cons.1 hy).elim (fun e => by rw [e]; simpa using hx) (h2 y)⟩
      · refine .inr ⟨k + 1, by simp; omega, by rw [idxOf, if_neg hx, h1]; omega, by simpa using h2, ?_⟩
        intro y hy
        rw [List.take_succ_cons] at hy
        rcases List.mem_cons.1 hy with rfl | hy
        · simpa using hx
        · exact h3 y hy
theorem atD (A cur rest : List Int) (x : Nat) (h : A.length ≤ x) (hx : x < cur.length) : ((A ++ cur.drop A.length ++ rest).map I)[x]? = some (I (cur.getD x 0)) := by
  rw [List.getElem?_map, List.getElem?_append_left (by simp; omega), List.getElem?_append_right h, List.getElem?_drop, show A.length + (x - A.length) = x by omega, List.getElem?_eq_getElem hx]
  simp [hx]
theorem setD (cur rest A : List Int) (v : Int) (h : A.length < cur.length) : ((A ++ cur.drop A.length ++ rest).map I).set A.length (I v) = ((A ++ [v]) ++ cur.drop (A ++ [v]).length ++ rest).map I := by
  rw [List.append_assoc, List.map_append, List.set_append_right _ _ (by simp), List.length_map, Nat.sub_self, List.drop_eq_getElem_cons h, List.cons_append, List.map_cons, List.set_cons_zero]
  simp
theorem shz_row {X : List AObj} {id : Nat} (l r : List Int) (h : X[id]? = some (.cells ((l ++ r).map I))) : shz X (.ref id 0 l.length none 1) = L1 l := by
  simp only [shz, shz0, row_int l r h]
  rfl
section
variable {H : List AObj} {id lo sid : Nat}
theorem shz_cl (s : List Int) (hS : H[sid]? = some (.cells [O1 s])) : shz H (.func 89 [] [.ptr sid 0]) = .func 89 [] [.lptr [L1 s]] := by
  simp only [shz, List.map_nil, List.map_cons, shz0, hS]
  rfl
theorem puCl (s : List Int) : pureD 8 (.func 89 [] [.lptr [L1 s]]) = true := by
  show (([] : List AV).all (pureD 7) && [AV.lptr [L1 s]].all (pureD 7)) = true
  simp only [List.all_nil, List.all_cons, Bool.and_true, Bool.true_and]
  show [L1 s].all (pureD 6) = true
  simp only [List.all_nil, List.all_cons, Bool.and_true]
  exact pure_ints 4 s
theorem boxS (s : List Int) : Boxes [.lptr [L1 s]] := ⟨by
  simp only [List.all_nil, List.all_cons, Bool.and_true]
  show [L1 s].all (pureD 6) = true
  simp only [List.all_nil, List.all_cons, Bool.and_true]
  exact pure_ints 4 s, by simp⟩
theorem del_sem (hlo : lo ≤ id) (cur rest s : List Int) (hne : sid ≠ id) (hc : cur.length ≤ 1000) (hs : s.length ≤ 1000) (hH : H[id]? = some (.cells ((cur ++ rest).map I))) (hS : H[sid]? = some (.cells [O1 s])) :
    Sem Go.Proofs.Try.prog (.fn 88) [.ref id 0 cur.length none 1, .func 89 [] [.ptr sid 0]] H lo (.ref id 0 (cur.filter (has s)).length none 1) (H.set id (.cells ((cur.filter (has s) ++ List.replicate (cur.length - (cur.filter (has s)).length) 0 ++ rest).map I))) := by
  have hid := (List.getElem?_eq_some_iff.1 hH).1
  have hbl : Nat.ble lo id = true := Nat.ble_eq_true_of_le hlo
  have gs : ∀ c : AObj, (H.set id c)[id]? = some c := fun c => by rw [List.getElem?_set_self hid]
  have hS2 : ∀ c : AObj, (H.set id c)[sid]? = some (.cells [O1 s]) := fun c => by rw [List.getElem?_set_ne (fun e => hne e.symm)]; exact hS
  have same : H.set id (.cells ((cur ++ rest).map I)) = H := by
    obtain ⟨h1, h2⟩ := List.getElem?_eq_some_iff.1 hH
    rw [← h2, List.set_getElem_self]
  refine fn_semQ hmix lk88s rfl ⟨by simp, fun j h1 h2 => by rw [List.getElem?_set_ne (by omega)]⟩ fun Q hQ => ?_
  unfold rc88s rc88s_8
  obtain ⟨c7, g7⟩ : ∃ c, rc88s_7 = c := ⟨_, rfl⟩
  rw [g7]
  conv => whnf
  refine ⟨_, _, call6 (bs := [L1 cur, .func 89 [] [.lptr [L1 s]]]) ?_ ?_ (indexFunc_ok cur (by omega) (fun x => !(has s x)) 89 _ (boxS s) fun x _ => sure1_ok s x (by omega)) rfl, ?_⟩
  · simp only [List.map_cons, List.map_nil, shz_row cur rest hH, shz_cl s hS]; rfl
  · simp only [List.map_cons, List.map_nil, shz_row cur rest hH, shz_cl s hS, List.all_cons, List.all_nil, puCl, Bool.and_true]; exact pure_L1 6 cur
  conv => whnf
  subst g7
  unfold rc88s_7
  obtain ⟨c4, g4⟩ : ∃ c, rc88s_4 = c := ⟨_, rfl⟩
  obtain ⟨c6, g6⟩ : ∃ c, rc88s_6 = c := ⟨_, rfl⟩
  rw [g4, g6]
  conv => whnf
  rcases idx_cases (fun x => !(has s x)) cur 0 with ⟨q1, q2⟩ | ⟨i, hi, q1, q2, q3⟩
  · rw [q1, decide_eq_true rfl]
    conv => whnf
    have e : cur.filter (has s) = cur := List.filter_eq_self.2 fun x hx => by have := q2 x hx; simpa using this
    rw [e, Nat.sub_self, List.replicate_zero, List.append_nil, same] at hQ
    exact hQ _ _ _ ⟨.inr rfl, ⟨rfl, fun j o hj => .inr hj⟩, rfl⟩
  · rw [q1, Nat.zero_add, decide_eq_false (by omega)]
    conv => whnf
    have q2 : has s cur[i] = false := by simpa using q2
    have e0 : (cur.take i).filter (has s) = cur.take i := List.filter_eq_self.2 fun x hx => by have := q3 x hx; simpa using this
    have e1 : (cur.take (i + 1)).filter (has s) = cur.take i := by
      rw [List.take_succ_eq_append_getElem hi, List.filter_append, e0]; simp [q2]
    have cl : ∀ c : AObj, shz (H.set id c) (.func 89 [] [.ptr sid 0]) = .func 89 [] [.lptr [L1 s]] := fun c => shz_cl s (hS2 c)
    rw [wrapS i (by omega)]
    refine .intro (fun m T H' => ∃ j, i + 1 ≤ j ∧ j ≤ cur.length ∧ m = cur.length - j ∧ ((cur.take j).filter (has s)).length + 1 ≤ j ∧ T = slots 42 [(0, .ref id 0 cur.length none 1), (1, .func 89 [] [.ptr sid 0]), (5, I ((cur.take j).filter (has s)).length), (6, I (j : Nat))] ∧ H' = H.set id (.cells (((cur.take j).filter (has s) ++ cur.drop ((cur.take j).filter (has s)).length ++ rest).map I))) (cur.length - (i + 1)) ⟨i + 1, Nat.le_refl _, by omega, rfl, by rw [e1]; simp; omega, ?_, ?_⟩ ?_
    · rw [e1, List.length_take, Nat.min_eq_left (by omega)]; rfl
    · rw [e1, List.length_take, Nat.min_eq_left (by omega), List.take_append_drop]; exact same.symm
    rintro m T H' ⟨j, hj1, hj2, rfl, hw, rfl, rfl⟩
    subst g4
    unfold rc88s_4 rc88s_3
    obtain ⟨c2, g2⟩ : ∃ c, rc88s_2 = c := ⟨_, rfl⟩
    rw [g2]
    conv => whnf
    by_cases hlt : (j : Int) < (cur.length : Int)
    · rw [decide_eq_true hlt]
      have hlt' : j < cur.length := by omega
      conv => whnf
      refine ⟨by omega, ?_⟩
      conv => whnf
      refine nthK_of (gs _) ?_
      conv => whnf
      refine nthK_of (x := I (cur.getD j 0)) (by rw [show 0 + (j : Int).toNat * 1 = j by simp]; exact atD _ cur rest j (by omega) hlt') ?_
      conv => whnf
      subst g2
      refine wpG fun K2 hK2 => ?_
      unfold rc88s_2
      obtain ⟨c1, g1⟩ : ∃ c, rc88s_1 = c := ⟨_, rfl⟩
      rw [g1]
      conv => whnf
      refine ⟨_, _, call6 (bs := [I (cur.getD j 0), .lptr [L1 s]]) ?_ ?_ (sure1_ok s (cur.getD j 0) (by omega)) rfl, ?_⟩
      · simp only [List.map_cons, List.map_nil]
        rw [show shz (H.set id (.cells (((cur.take j).filter (has s) ++ cur.drop ((cur.take j).filter (has s)).length ++ rest).map I))) (.ptr sid 0) = .lptr [L1 s] by simp only [shz, shz0, hS2]; rfl]
        rfl
      · simp only [List.map_cons, List.map_nil]
        rw [show shz (H.set id (.cells (((cur.take j).filter (has s) ++ cur.drop ((cur.take j).filter (has s)).length ++ rest).map I))) (.ptr sid 0) = .lptr [L1 s] by simp only [shz, shz0, hS2]; rfl]
        show ([I (cur.getD j 0), .lptr [L1 s]].all (pureD 8)) = true
        have := (boxS s).all8
        simp only [List.all_cons, List.all_nil, Bool.and_true] at this ⊢
        rw [this]; rfl
      conv => whnf
      have eg : cur.getD j 0 = cur[j] := by simp [hlt']
      have e2 : (cur.take (j + 1)).filter (has s) = (cur.take j).filter (has s) ++ if has s (cur.getD j 0) = true then [cur.getD j 0] else [] := by
        rw [List.take_succ_eq_append_getElem hlt', List.filter_append, eg]
        simp only [List.filter_cons, List.filter_nil]
      cases hb : has s (cur.getD j 0) with
      | true =>
        rw [hb, if_pos rfl] at e2
        conv => whnf
        subst g1
        unfold rc88s_1
        conv => whnf
        refine ⟨by omega, ?_⟩
        conv => whnf
        rw [hbl]
        conv => whnf
        refine nthK_of (gs _) ?_
        conv => whnf
        refine updK_of (by simp; omega) ?_
        conv => whnf
        refine hK2 _ _ _ ?_
        conv => whnf
        refine ⟨cur.length - (j + 1), by omega, j + 1, by omega, by omega, rfl, by rw [e2, List.length_append, List.length_singleton]; omega, ?_, ?_⟩
        · rw [e2, List.length_append, List.length_singleton, ← wrapS j (by omega), ← wrapS ((cur.take j).filter (has s)).length (by omega)]; rfl
        · rw [List.set_set, e2, show 0 + (((cur.take j).filter (has s)).length : Int).toNat * 1 = ((cur.take j).filter (has s)).length by simp, setD cur rest ((cur.take j).filter (has s)) _ (by omega)]
      | false =>
        rw [hb, if_neg (by decide), List.append_nil] at e2
        conv => whnf
        refine hK2 _ _ _ ?_
        conv => whnf
        refine ⟨cur.length - (j + 1), by omega, j + 1, by omega, by omega, rfl, by rw [e2]; omega, ?_, by rw [e2]⟩
        rw [e2, ← wrapS j (by omega)]; rfl
    · rw [decide_eq_false hlt]
      obtain rfl : j = cur.length := by omega
      rw [List.take_length] at hw ⊢
      conv => whnf
      subst g6
      unfold rc88s_6
      obtain ⟨c5, g5⟩ : ∃ c, rc88s_5 = c := ⟨_, rfl⟩
      rw [g5]
      conv => whnf
      refine ⟨rfl, by omega, fun _ => ?_, fun h => by omega⟩
      conv => whnf
      refine ⟨_, _, fun C => (clear2 lo id _ _ _ _ hlo (gs _) (by simp <;> omega)), ?_⟩
      conv => whnf
      subst g5
      unfold rc88s_5
      conv => whnf
      refine ⟨rfl, by omega, ?_⟩
      conv => whnf
      refine hQ _ _ _ ⟨.inr rfl, ?_, rfl⟩
      rw [List.set_set]
      generalize cur.filter (has s) = A at hw hQ ⊢
      have e : (List.take (0 + (A.length : Int).toNat * 1) ((A ++ cur.drop A.length ++ rest).map I) ++ List.replicate (cur.length - (A.length : Int).toNat) (I 0) ++ List.drop (0 + (A.length : Int).toNat * 1 + (cur.length - (A.length : Int).toNat)) ((A ++ cur.drop A.length ++ rest).map I)) = (A ++ List.replicate (cur.length - A.length) 0 ++ rest).map I := by
        rw [show 0 + (A.length : Int).toNat * 1 = A.length by simp, show (A.length : Int).toNat = A.length by simp]
        rw [← List.map_take, ← List.map_drop, List.append_assoc A, List.take_left' rfl, show A.length + (cur.length - A.length) = cur.length by omega, ← List.append_assoc, List.drop_left' (by simp; omega)]
        simp
      rw [e]
      exact ⟨rfl, fun j o hj => .inr hj⟩
end
end Go.Proofs.Ytlcebaejlnpdeaa.Ab

/-
  Plain words of layer 5: the greatest distance: joints, layer by layer.
-/
namespace Go.Proofs.Ytlcebaejlnpdeaa.Ab
structure Jf (W : Int) (n : Nat) (x : Jt) : Prop where
  o : x.o.length = n
  s : Pos x.s
  d0 : 0 ≤ x.d
  d1 : x.d ≤ W
end Go.Proofs.Ytlcebaejlnpdeaa.Ab

/-
  Contracts: the greatest distance: rounds.
-/
namespace Go.Proofs.Ytlcebaejlnpdeaa.Ab
open Go
set_option maxRecDepth 20000
set_option maxHeartbeats 4000000
section
variable (p : List (List Int)) (t : Nat) (ht : t < p.length) (hv : Val p) (Wd : Int) (Bh : List Jt) (nB : Nat) (hB : ∀ x ∈ Bh, Jf Wd nB x) (hn : nB ≤ 3) (hB0 : 0 < Bh.length) (hB1 : Bh.length ≤ 3125)
variable (c c1 : Cap) (hc : c = .own 4 ∨ c = .shared) (hc1 : c1 = .full ∨ c1 = .shared) (X0 : List AObj) (ii inn : Nat) (TT : List AV)
variable (g0 : X0[0]? = some (.cells [Bn p])) (g2 : X0[2]? = some (.cells [I Wd])) (g3 : X0[3]? = some (.cells [LJ c1 c1 Bh c])) (g4 : X0[4]? = some (.cells [.func 111 [] []])) (gi : X0[ii]? = some (.cells [I t]))
variable (hinn : inn < X0.length) (n0 : inn ≠ 0) (n2 : inn ≠ 2) (n3 : inn ≠ 3) (n4 : inn ≠ 4) (ni : inn ≠ ii)
include ht hv hB hn hB0 hB1 hc hc1 g0 g2 g3 g4 gi hinn n0 n2 n3 n4 ni
end
end Go.Proofs.Ytlcebaejlnpdeaa.Ab

/-
  Contracts: the greatest distance, all layers; Far, Apart.
-/
namespace Go.Proofs.Ytlcebaejlnpdeaa.Ab
open Go
set_option maxRecDepth 20000
set_option maxHeartbeats 4000000
end Go.Proofs.Ytlcebaejlnpdeaa.Ab

/-
  Contracts: the program's Sure.
-/
namespace Go.Proofs.Ytlcebaejlnpdeaa.Ab
open Go
set_option maxRecDepth 20000
set_option maxHeartbeats 4000000
/-- A call of mode 2 that hands out a row of numbers. -/
theorem call2r {P : Program} {k : FuncId} {args : List AV} {H D : List AObj} {lo : Nat} (l r : List Int) (h : Sem P (.fn k) args H H.length (.ref H.length 0 l.length none 1) (H ++ .cells ((l ++ r).map I) :: D)) : CallS P 2 lo (.fn k) args H (.ref H.length 0 l.length none 1) (H ++ [.cells ((l ++ r).map I)]) := by
  refine ⟨_, oneC_sound h, ?_⟩
  have e1 : freshIn H.length (.ref H.length 0 l.length none 1) = some H.length := by simp [freshIn, freshOf]
  have e2 : (H ++ AObj.cells ((l ++ r).map I) :: D)[H.length]? = some (.cells ((l ++ r).map I)) := by simp
  have e3 : frz (H ++ AObj.cells ((l ++ r).map I) :: D) H.length H.length H.length 8 (.ref H.length 0 l.length none 1) = some (.ref H.length 0 l.length none 1) := by simp [frz]
  have e4 : mapO (frz (H ++ AObj.cells ((l ++ r).map I) :: D) H.length H.length H.length 8) ((l ++ r).map I) = some ((l ++ r).map I) := mapO_id fun u hu => by obtain ⟨x, _, rfl⟩ := List.mem_map.1 hu; rfl
  simp only [callTo, oneC_self, Option.bind_some, e1, e2, e3, e4, Nat.le_refl, if_true]
theorem call2n {P : Program} {k : FuncId} {args : List AV} {H H' : List AObj} {lo : Nat} (h : Sem P (.fn k) args H H.length (.lst [] 0 .shared) H') : CallS P 2 lo (.fn k) args H (.lst [] 0 .shared) H := by
  refine ⟨_, oneC_sound h, ?_⟩
  have e1 : freshIn H.length (.lst [] 0 .shared) = none := by simp [freshIn, freshOf]
  simp only [callTo, oneC_self, Option.bind_some, e1]
  rfl
section
variable {H : List AObj} {id lo sid : Nat}
theorem sums_sem2 (p : List (List Int)) (k : Nat) (hk : k < p.length) (hv : Val p) (h2 : 2 ≤ p[k].length) (lo : Nat) :
    CallS Go.Proofs.Try.prog 2 lo (.fn 83) [Bn p, I k] H (.ref H.length 0 (psums p[k]).length none 1) (H ++ [.cells ((psums p[k] ++ List.replicate ((subs p[k]).length - (psums p[k]).length) 0).map I)]) := by
  refine call2r _ _ (D := Dd (dN p[k])) (fn_semQ hmix lk83s rfl ⟨by simp, fun j h1 h2 => by rw [List.getElem?_append_left (by omega)]⟩ fun Q hQ => ?_)
  exact sums_walk (Nat.le_refl _) p k hk hv Q (fun T h hT => by omega) (fun T h hT => hQ _ _ _ ⟨.inr rfl, ⟨rfl, fun j o hj => .inr hj⟩, by simp only [readR, hT, Option.map_some, packResults]⟩)
theorem sums_sem1 (p : List (List Int)) (k : Nat) (hk : k < p.length) (hv : Val p) (h2 : p[k].length = 1) (lo : Nat) :
    CallS Go.Proofs.Try.prog 2 lo (.fn 83) [Bn p, I k] H (.lst [] 0 .shared) H := by
  refine call2n (H' := H) (fn_semQ hmix lk83s rfl ⟨Nat.le_refl _, fun j h1 h2 => rfl⟩ fun Q hQ => ?_)
  exact sums_walk (Nat.le_refl _) p k hk hv Q (fun T h hT => hQ _ _ _ ⟨.inr rfl, ⟨rfl, fun j o hj => .inr hj⟩, by simp only [readR, hT, Option.map_some, packResults]⟩) (fun T h hT => by omega)
theorem del0_sem (s : List Int) (hs : s.length ≤ 1000) (hS : H[sid]? = some (.cells [O1 s])) :
    Sem Go.Proofs.Try.prog (.fn 88) [.lst [] 0 .shared, .func 89 [] [.ptr sid 0]] H lo (.lst [] 0 .shared) H := by
  refine fn_semQ hmix lk88s rfl ⟨Nat.le_refl _, fun j h1 h2 => rfl⟩ fun Q hQ => ?_
  unfold rc88s rc88s_8
  obtain ⟨c7, g7⟩ : ∃ c, rc88s_7 = c := ⟨_, rfl⟩
  rw [g7]
  conv => whnf
  refine ⟨_, _, call6 (bs := [L1 [], .func 89 [] [.lptr [L1 s]]]) ?_ ?_ (indexFunc_ok [] (by simp) (fun x => !(has s x)) 89 _ (boxS s) fun x _ => sure1_ok s x (by omega)) rfl, ?_⟩
  · simp only [List.map_cons, List.map_nil, shz_cl s hS]; rfl
  · simp only [List.map_cons, List.map_nil, shz_cl s hS, List.all_cons, List.all_nil, puCl, Bool.and_true]; rfl
  conv => whnf
  subst g7
  unfold rc88s_7
  conv => whnf
  exact hQ _ _ _ ⟨.inr rfl, ⟨rfl, fun j o hj => .inr hj⟩, rfl⟩
end
/-- What is left of sums, order by order, and what lies behind. -/
def leftS (w : List Int) : Nat → List Int × List Int
  | 0 => (psums w, List.replicate ((subs w).length - (psums w).length) 0)
  | r + 1 => (((leftS w r).1.filter (has (seamsOf w ((perms w.length).getD r [])))), List.replicate ((leftS w r).1.length - ((leftS w r).1.filter (has (seamsOf w ((perms w.length).getD r [])))).length) 0 ++ (leftS w r).2)
theorem leftS_len (w : List Int) : ∀ r, (leftS w r).1.length ≤ (psums w).length
  | 0 => Nat.le_refl _
  | r + 1 => Nat.le_trans (List.length_filter_le _ _) (leftS_len w r)
theorem leftS_fold (w : List Int) : ∀ r, r ≤ (perms w.length).length → (leftS w r).1 = ((perms w.length).take r).foldl (fun cur o => cur.filter (has (seamsOf w o))) (psums w)
  | 0, _ => rfl
  | r + 1, h => by
    rw [foldl_take _ _ _ r (by omega), ← leftS_fold w r (by omega)]
    simp only [leftS]
    rw [show (perms w.length).getD r [] = (perms w.length)[r] by simp [show r < (perms w.length).length by omega]]
theorem frz_pair {H : List AObj} {id : Nat} (l r : List Int) (e : Int) (h : H[id]? = some (.cells ((l ++ r).map I))) : frz H 0 H.length 0 8 (.tuple [.ref id 0 l.length none 1, I e]) = some (.tuple [L1 l, I e]) := by
  show ((mapO (frz H 0 H.length 0 7) [.ref id 0 l.length none 1, I e]).map AV.tuple) = _
  have e1 : mapO (frz H 0 H.length 0 7) [.ref id 0 l.length none 1, I e] = some [L1 l, I e] := by
    unfold mapO
    rw [frz_row (d := 5) l r h]
    rfl
  rw [e1]; rfl
noncomputable abbrev lp42 (T : List AV) (st : LoopState) : AObj := .loop st none 42 T [27] (rngA Go.Proofs.Try.prog 42 0) (rngB Go.Proofs.Try.prog 42 0) ann42
noncomputable def XA (p : List (List Int)) (k : Nat) (w : List Int) (r : Nat) : List AObj := [.cells [L2 p], .cells [I k], .cells [Bn p], .cells (((leftS w r).1 ++ (leftS w r).2).map I), .cells [.ref 3 0 (leftS w r).1.length none 1]]
noncomputable abbrev T42 (x4 x5 x7 o x12 x14 x19 x21 x22 x24 x25 x26 : AV) : List AV := slots 36 [(3, .ptr 1 0), (4, x4), (5, x5), (6, .ptr 2 0), (7, x7), (8, o), (12, x12), (14, x14), (19, x19), (21, x21), (22, x22), (24, x24), (25, x25), (26, x26)]
theorem roundA (p : List (List Int)) (k : Nat) (hk : k < p.length) (hv : Val p) (r : Nat) (hr : r < (perms p[k].length).length) (Y : List AObj) (x4 x5 x7 x12 x14 x19 x21 x22 x24 x25 x26 : AV) (TT : List AV) (hT : TT = T42 x4 x5 x7 (.ptr 4 0) x12 x14 x19 x21 x22 x24 x25 x26) :
    Sem Go.Proofs.Try.prog (.yield 5) [U1 (perms p[k].length)[r]] (XA p k p[k] r ++ lp42 TT .ready :: Y) 0 (.bool true) (XA p k p[k] (r + 1) ++ lp42 TT .ready :: (Y ++ List.replicate 1 .dead)) := by
  have h5 := hv.s5 _ (List.getElem_mem hk)
  have h1 := hv.s1 _ (List.getElem_mem hk)
  have hI : InL p[k] (perms p[k].length)[r] := perm_inL (hv.sm (List.getElem_mem hk)) (List.getElem_mem hr) h5
  have hlr := (perms_mem (List.getElem_mem hr)).1
  refine sem_round hmix (l := 5) (T := TT) lkY42A lkY42B rfl rfl ⟨by simp [XA], fun _ h => by omega⟩ ?_
  generalize hl : (perms p[k].length)[r] = l at *
  obtain ⟨LR, hLR⟩ : ∃ x, x = lp42 TT .ready := ⟨_, rfl⟩
  obtain ⟨LB, hLB⟩ : ∃ x, x = lp42 TT .busy := ⟨_, rfl⟩
  rw [← hLR]
  rw [show AObj.loop .busy none 42 TT [27] (rngA Go.Proofs.Try.prog 42 0) (rngB Go.Proofs.Try.prog 42 0) ann42 = LB from hLB.symm, show AObj.loop .ready none 42 TT [27] (rngA Go.Proofs.Try.prog 42 0) (rngB Go.Proofs.Try.prog 42 0) ann42 = LR from hLR.symm]
  rw [hT]
  unfold rcY42A
  conv => whnf
  refine ⟨rfl, rfl, ?_⟩
  rw [show (XA p k p[k] r ++ LR :: Y).set 5 LB = XA p k p[k] r ++ LB :: Y from rfl]
  refine wpG fun K1 hK1 => ?_
  unfold rcY42B
  conv => whnf
  refine ⟨by simp only [List.all_cons, List.all_nil, puQ, pu1, Bool.and_true]; rfl, _, pseams_ok p k hk l hI (by omega), ?_⟩
  conv => whnf
  refine nthK_of (getLast0 _ _ _ rfl) ?_
  conv => whnf
  rw [setLast _ _ _ _ rfl]
  have hsl : (seamsOf p[k] l).length ≤ 1000 := by rw [seamsOf, seamsGo_length]; simp; omega
  have hpl : (psums p[k]).length ≤ 1000 := by
    refine Nat.le_trans (psums_le _) ?_
    have : 2 ^ p[k].length ≤ 32 := (pow_val ⟨p[k].length, by omega⟩).2
    simp only [subs, List.length_map, List.length_range]
    omega
  have hcl := leftS_len p[k] r
  have hgl : (perms p[k].length).getD r [] = l := by rw [← hl]; simp [hr]
  have hstep : leftS p[k] (r + 1) = (((leftS p[k] r).1.filter (has (seamsOf p[k] l))), List.replicate ((leftS p[k] r).1.length - ((leftS p[k] r).1.filter (has (seamsOf p[k] l))).length) 0 ++ (leftS p[k] r).2) := by
    simp only [leftS, hgl]
  refine ⟨_, _, call1 (del_sem (id := 3) (sid := (XA p k p[k] r ++ LB :: Y).length) (Nat.zero_le _) (leftS p[k] r).1 (leftS p[k] r).2 (seamsOf p[k] l) (by simp [XA]) (by omega) hsl rfl (getLast0 _ _ _ rfl)), ?_⟩
  conv => whnf
  refine hK1 _ _ _ ?_
  conv => whnf
  refine ⟨rfl, rfl, ?_⟩
  have hX : XA p k p[k] (r + 1) = [.cells [L2 p], .cells [I k], .cells [Bn p], .cells (((leftS p[k] r).1.filter (has (seamsOf p[k] l)) ++ List.replicate ((leftS p[k] r).1.length - ((leftS p[k] r).1.filter (has (seamsOf p[k] l))).length) 0 ++ (leftS p[k] r).2).map I), .cells [.ref 3 0 ((leftS p[k] r).1.filter (has (seamsOf p[k] l))).length none 1]] := by
    unfold XA; rw [hstep]; simp only [List.append_assoc]
  rw [hX]
  exact fgt_tail ([.cells [L2 p], .cells [I k], .cells [Bn p], .cells (((leftS p[k] r).1.filter (has (seamsOf p[k] l)) ++ List.replicate ((leftS p[k] r).1.length - ((leftS p[k] r).1.filter (has (seamsOf p[k] l))).length) 0 ++ (leftS p[k] r).2).map I), .cells [.ref 3 0 ((leftS p[k] r).1.filter (has (seamsOf p[k] l))).length none 1]] ++ LR :: Y) [.cells [O1 (seamsOf p[k] l)]]
noncomputable def XB (p : List (List Int)) (k : Nat) (_ : Nat) : List AObj := [.cells [L2 p], .cells [I k], .cells [Bn p], .cells [.lst [] 0 .shared]]
theorem roundB (p : List (List Int)) (k : Nat) (hk : k < p.length) (hv : Val p) (r : Nat) (hr : r < (perms p[k].length).length) (Y : List AObj) (x4 x5 x7 x12 x14 x19 x21 x22 x24 x25 x26 : AV) (TT : List AV) (hT : TT = T42 x4 x5 x7 (.ptr 3 0) x12 x14 x19 x21 x22 x24 x25 x26) :
    Sem Go.Proofs.Try.prog (.yield 4) [U1 (perms p[k].length)[r]] (XB p k r ++ lp42 TT .ready :: Y) 0 (.bool true) (XB p k (r + 1) ++ lp42 TT .ready :: (Y ++ List.replicate 1 .dead)) := by
  have h5 := hv.s5 _ (List.getElem_mem hk)
  have h1 := hv.s1 _ (List.getElem_mem hk)
  have hI : InL p[k] (perms p[k].length)[r] := perm_inL (hv.sm (List.getElem_mem hk)) (List.getElem_mem hr) h5
  have hlr := (perms_mem (List.getElem_mem hr)).1
  refine sem_round hmix (l := 4) (T := TT) lkY42A lkY42B rfl rfl ⟨by simp [XB], fun _ h => by omega⟩ ?_
  generalize hl : (perms p[k].length)[r] = l at *
  obtain ⟨LR, hLR⟩ : ∃ x, x = lp42 TT .ready := ⟨_, rfl⟩
  obtain ⟨LB, hLB⟩ : ∃ x, x = lp42 TT .busy := ⟨_, rfl⟩
  rw [← hLR]
  rw [show AObj.loop .busy none 42 TT [27] (rngA Go.Proofs.Try.prog 42 0) (rngB Go.Proofs.Try.prog 42 0) ann42 = LB from hLB.symm, show AObj.loop .ready none 42 TT [27] (rngA Go.Proofs.Try.prog 42 0) (rngB Go.Proofs.Try.prog 42 0) ann42 = LR from hLR.symm]
  rw [hT]
  unfold rcY42A
  conv => whnf
  refine ⟨rfl, rfl, ?_⟩
  rw [show (XB p k r ++ LR :: Y).set 4 LB = XB p k r ++ LB :: Y from rfl]
  refine wpG fun K1 hK1 => ?_
  unfold rcY42B
  conv => whnf
  refine ⟨by simp only [List.all_cons, List.all_nil, puQ, pu1, Bool.and_true]; rfl, _, pseams_ok p k hk l hI (by omega), ?_⟩
  conv => whnf
  refine nthK_of (getLast0 _ _ _ rfl) ?_
  conv => whnf
  rw [setLast _ _ _ _ rfl]
  have hsl : (seamsOf p[k] l).length ≤ 1000 := by rw [seamsOf, seamsGo_length]; simp; omega
  refine ⟨_, _, call1 (del0_sem (sid := (XB p k r ++ LB :: Y).length) (seamsOf p[k] l) hsl (getLast0 _ _ _ rfl)), ?_⟩
  conv => whnf
  refine hK1 _ _ _ ?_
  conv => whnf
  refine ⟨rfl, rfl, ?_⟩
  exact fgt_tail (XB p k (r + 1) ++ LR :: Y) [.cells [O1 (seamsOf p[k] l)]]
theorem pSure_ok (p : List (List Int)) (x : Int) (h1 : p.length ≤ 140737488355328) (h2 : ∀ l ∈ p, l.length ≤ 140737488355328) :
    PO 42 [P1 p, I x] (.tuple [L1 (if layErr p x = 0 then (perms (p.getD x.toNat []).length).foldl (fun cur o => cur.filter (has (seamsOf (p.getD x.toNat []) o))) (psums (p.getD x.toNat [])) else []), I (layErr p x)]) := by
  refine fn_pureQ hmix lk42 rfl (puL1 _ _) fun Q hQ => ?_
  unfold rc42
  conv => whnf
  by_cases hc : checkP p = 0
  · have hv := checkP_val hc
    cases ha : outOf 0 ((p.length : Int) - 1) x with
    | true =>
      have e : layErr p x = 2 := by unfold layErr; rw [if_neg (by simp [hc]), if_pos ha]
      rw [e, if_neg (by decide)] at hQ
      refine ⟨by show (pureD 8 (P1 p) && (pureD 8 (L1 [x]) && true)) = true; rw [puP', pu1']; rfl, _, open_arg [x] h1 h2 (by simp) hc (by simpa using ha), ?_⟩
      conv => whnf
      exact hQ _ _ _ (ret_pure (.inr rfl) rfl rfl)
    | false =>
      have hx := outOf_false.1 ha
      obtain ⟨k, rfl⟩ : ∃ k : Nat, x = k := ⟨x.toNat, by omega⟩
      have hk : k < p.length := by omega
      have e : layErr p (k : Int) = 0 := by unfold layErr; rw [if_neg (by simp [hc]), if_neg (by simp [ha])]
      rw [e, if_pos rfl, show p.getD (k : Int).toNat [] = p[k] by simp [hk]] at hQ
      refine ⟨by show (pureD 8 (P1 p) && (pureD 8 (L1 [(k : Int)]) && true)) = true; rw [puP', pu1']; rfl, _, open_good [(k : Int)] h1 h2 (by simp) hc (by simpa using ha), ?_⟩
      conv => whnf
      change ∃ v H', CallS Go.Proofs.Try.prog 2 0 (.fn 83) [Bn p, I k] [.cells [L2 p], .cells [I k], .cells [Bn p]] v H' ∧ _
      by_cases hn : p[k].length = 1
      · refine ⟨_, _, sums_sem1 p k hk hv hn 0, ?_⟩
        conv => whnf
        refine ⟨by first | rfl | simp only [List.all_cons, List.all_nil, pu0, pub, pu1, pu2, pu1', pu2', pun, puf, puP, puP', puQ, puQ', Bool.and_true, Bool.and_self], _, all_ok86 p k, ?_⟩
        conv => whnf
        have hsem := all1_sem p k hk (by omega) (hv.s5 _ (List.getElem_mem hk)) (by have := hv.n4; omega) (XB p k) (fun _ => 1) 4 0 (lp42 (T42 (.lst [] 0 .shared) (I 0) (I 0) (.ptr 3 0) (P1 p) (.lst [I k] 1 .shared) (B (decide ((0 : Int) ≠ 0))) (Bn p) (I k) (Bn p) (I k) (.func 107 [] [.lptr [Bn p], .lptr [I k]])) .ready) (fun r => rfl) (Nat.zero_le _) (fun _ _ _ h => by omega)
          (fun r hr Y => roundB p k hk hv r hr Y _ _ _ _ _ _ _ _ _ _ _ _ rfl)
        refine ⟨rfl, .tuple [], _, .ready, none, 42, _, [27], rngA Go.Proofs.Try.prog 42 0, rngB Go.Proofs.Try.prog 42 0, ann42, hsem, rfl, by simp, ?_⟩
        conv => whnf
        have hnil : ∀ L : List (List Int), L.foldl (fun cur o => cur.filter (has (seamsOf p[k] o))) [] = [] := by
          intro L
          induction L with
          | nil => rfl
          | cons a L ih => rw [List.foldl_cons]; exact ih
        rw [psums_one _ hn, hnil] at hQ
        exact hQ _ _ _ (ret_pure (.inr rfl) (puL1 _ _) rfl)
      · have hn2 : 2 ≤ p[k].length := by have := hv.s1 _ (List.getElem_mem hk); omega
        refine ⟨_, _, sums_sem2 p k hk hv hn2 0, ?_⟩
        conv => whnf
        refine ⟨by first | rfl | simp only [List.all_cons, List.all_nil, pu0, pub, pu1, pu2, pu1', pu2', pun, puf, puP, puP', puQ, puQ', Bool.and_true, Bool.and_self], _, all_ok86 p k, ?_⟩
        conv => whnf
        have hsem := all1_sem p k hk (by omega) (hv.s5 _ (List.getElem_mem hk)) (by have := hv.n4; omega) (XA p k p[k]) (fun _ => 1) 5 0 (lp42 (T42 (.lst [] 0 .shared) (I 0) (I 0) (.ptr 4 0) (P1 p) (.lst [I k] 1 .shared) (B (decide ((0 : Int) ≠ 0))) (Bn p) (I k) (Bn p) (I k) (.func 107 [] [.lptr [Bn p], .lptr [I k]])) .ready) (fun r => rfl) (Nat.zero_le _) (fun _ _ _ h => by omega)
          (fun r hr Y => roundA p k hk hv r hr Y _ _ _ _ _ _ _ _ _ _ _ _ rfl)
        refine ⟨rfl, .tuple [], _, .ready, none, 42, _, [27], rngA Go.Proofs.Try.prog 42 0, rngB Go.Proofs.Try.prog 42 0, ann42, hsem, rfl, by simp, ?_⟩
        conv => whnf
        have hN := leftS_fold p[k] (perms p[k].length).length (Nat.le_refl _)
        rw [List.take_length] at hN
        rw [← hN] at hQ
        exact hQ _ _ _ ⟨.inr rfl, [.ref 3 0 (leftS p[k] (perms p[k].length).length).1.length none 1, I 0], rfl, _, frz_pair (leftS p[k] (perms p[k].length).length).1 (leftS p[k] (perms p[k].length).length).2 0 rfl, .inl rfl⟩
  · have e : layErr p x = checkP p := if_pos hc
    rw [e, if_neg hc] at hQ
    refine ⟨by show (pureD 8 (P1 p) && (pureD 8 (L1 [x]) && true)) = true; rw [puP', pu1']; rfl, _, open_bad [x] h1 h2 (by simp) hc, ?_⟩
    conv => whnf
    refine dcase (fun h => ?_) (fun h => absurd hc h)
    conv => whnf
    exact hQ _ _ _ (ret_pure (.inr rfl) (puL1 _ _) rfl)
end Go.Proofs.Ytlcebaejlnpdeaa.Ab

/-
  Plain law of layer 5: the program's greatest distance is the definitions'; its orders have it.
-/
namespace Go.Proofs.Ytlcebaejlnpdeaa.Ab
/-- What joints of a first part say. -/
structure Jd (W : Int) (q : List (List Int)) (x : Jt) : Prop where
  ord : Ords q x.o
  d : x.d = distGo (seamsBy q x.o) W
  last : q = [] ∨ ∃ l, seamsBy q x.o = l ++ [x.s]
end Go.Proofs.Ytlcebaejlnpdeaa.Ab

/-
  Plain law of layer 5: no orders have fewer meetings, none a greater distance; with a layer less, or more.
-/
namespace Go.Proofs.Ytlcebaejlnpdeaa.Ab
theorem jointOf_head' (a : List Int) (b : List Jt) (o : List Int) : (jointOf a b o).o = o :: (bestL fw (b.map (tryJ (seamsOf a o)))).o := rfl
theorem joints_ords1 : ∀ (p : List (List Int)), (∀ l ∈ p, 1 ≤ l.length ∧ l.length ≤ 5) → ∀ x ∈ joints p, Ords p x.o
  | [], _, x, hx => by
    simp [joints] at hx; subst hx
    exact ⟨rfl, fun i h => by simp at h⟩
  | a :: r, h, x, hx => by
    have hr : ∀ l ∈ r, 1 ≤ l.length ∧ l.length ≤ 5 := fun l hl => h l (by simp [hl])
    obtain ⟨q1, _, _⟩ := joints_b r hr
    have ih := joints_ords1 r hr
    simp only [joints, nextJ, List.mem_map] at hx
    obtain ⟨o, ho, rfl⟩ := hx
    have hm := bestL_mem fw ((joints r).map (tryJ (seamsOf a o))) (by simpa using q1)
    obtain ⟨j, hj, e⟩ := List.mem_map.1 hm
    have hjo := ih j hj
    have e2 : (bestL fw ((joints r).map (tryJ (seamsOf a o)))).o = j.o := by rw [← e]; rfl
    refine ⟨by rw [jointOf_head', e2, List.length_cons, List.length_cons, hjo.len], fun i h1 h2 => ?_⟩
    simp only [jointOf_head', e2] at h1 ⊢
    cases i with
    | zero => exact perms_ord ho
    | succ i => exact hjo.ord i (by simpa using h1) (by simpa using h2)
theorem joints_ords' (p : List (List Int)) (h : ∀ l ∈ p, 1 ≤ l.length ∧ l.length ≤ 5) : Ords p (progOrders p) := joints_ords1 p h _ (bestL_mem fw _ (joints_b p h).1)
end Go.Proofs.Ytlcebaejlnpdeaa.Ab

/-
  Plain words: orders that are chosen by numbers; the other way round; times as great.
-/
namespace Go.Proofs.Ytlcebaejlnpdeaa.Ab
/-! ### Orders by numbers -/
def nums (n : Nat) : List Int := (List.range n).map fun (x : Nat) => (x : Int)
theorem nums_succ (n : Nat) : nums (n + 1) = nums n ++ [(n : Int)] := by simp [nums, List.range_succ]
theorem nums_len (n : Nat) : (nums n).length = n := by simp [nums]
theorem nums_ord (n : Nat) : isOrd (nums n) n = true := by
  rw [isOrd_iff]
  refine ⟨nums_len n, fun x hx => ?_, ?_⟩
  · simp [nums] at hx; obtain ⟨k, hk, rfl⟩ := hx; omega
  · rw [nums, List.nodup_iff_pairwise_ne, List.pairwise_map]
    exact List.Pairwise.imp (fun h e => by omega) List.pairwise_lt_range
/-- Which one is next, behind so many; and how many are read then. -/
def pickN (y : List Int) (n t : Nat) : Nat := if y = [] then 0 else (y.getD (t % y.length) 0).toNat % n
def stepN (y : List Int) (t : Nat) : Nat := if y = [] then t else t + 1
def pickGo (y : List Int) : Nat → List Int → Nat → List Int × Nat
  | 0, _, t => ([], t)
  | f + 1, left, t => (left.getD (pickN y left.length t) 0 :: (pickGo y f (left.eraseIdx (pickN y left.length t)) (stepN y t)).1, (pickGo y f (left.eraseIdx (pickN y left.length t)) (stepN y t)).2)
def chosenGo (y : List Int) : List (List Int) → Nat → List (List Int)
  | [], _ => []
  | l :: r, t => (pickGo y l.length (nums l.length) t).1 :: chosenGo y r (pickGo y l.length (nums l.length) t).2
def chosen (p : List (List Int)) (y : List Int) : List (List Int) := chosenGo y p 0
theorem pickN_lt (y : List Int) {n : Nat} (t : Nat) (h : 0 < n) : pickN y n t < n := by
  unfold pickN; split
  · exact h
  · exact Nat.mod_lt _ h
theorem pick_perm (y : List Int) : ∀ (f : Nat) (left : List Int) (t : Nat), left.length = f → (pickGo y f left t).1.Perm left
  | 0, left, t, h => by rw [List.length_eq_zero_iff.1 h]; exact .refl _
  | f + 1, left, t, h => by
    have hn := pickN_lt y (n := left.length) t (by omega)
    have ih := pick_perm y f (left.eraseIdx (pickN y left.length t)) (stepN y t) (by rw [List.length_eraseIdx_of_lt hn]; omega)
    have e : left.getD (pickN y left.length t) 0 = left[pickN y left.length t] := by simp [List.getD_eq_getElem?_getD, hn]
    show (left.getD _ 0 :: _).Perm left
    rw [e]
    have e2 : left = left.take (pickN y left.length t) ++ left[pickN y left.length t] :: left.drop (pickN y left.length t + 1) := by rw [← List.drop_eq_getElem_cons hn, List.take_append_drop]
    have e3 := List.eraseIdx_eq_take_drop_succ left (pickN y left.length t)
    refine (List.Perm.cons _ ih).trans ?_
    rw [e3]
    exact List.perm_middle.symm.trans (.of_eq e2.symm)
theorem ord_perm {a b : List Int} {n : Nat} (h : a.Perm b) (hb : isOrd b n = true) : isOrd a n = true := by
  obtain ⟨h1, h2, h3⟩ := isOrd_iff.1 hb
  exact isOrd_iff.2 ⟨by rw [h.length_eq, h1], fun x hx => h2 x (h.mem_iff.1 hx), h.nodup_iff.2 h3⟩
theorem chosenGo_ords (y : List Int) : ∀ (p : List (List Int)) (t : Nat), Ords p (chosenGo y p t)
  | [], t => ⟨rfl, fun i h => by simp [chosenGo] at h⟩
  | l :: r, t => by
    have ih := chosenGo_ords y r (pickGo y l.length (nums l.length) t).2
    refine ⟨by simp [chosenGo, ih.len], fun i h h' => ?_⟩
    cases i with
    | zero => exact ord_perm (pick_perm y l.length (nums l.length) t (nums_len _)) (nums_ord _)
    | succ i => exact ih.ord i (by simpa [chosenGo] using h) (by simpa using h')
theorem chosen_ords (p : List (List Int)) (y : List Int) : Ords p (chosen p y) := chosenGo_ords y p 0
end Go.Proofs.Ytlcebaejlnpdeaa.Ab

/-
  Plain law of layer 5: the other way round; meetings and the distance.
-/
namespace Go.Proofs.Ytlcebaejlnpdeaa.Ab
/-! ### Seams rise -/
theorem seamsGo_rise (layer : List Int) : ∀ (l : List Int) (a : Int), (∀ i ∈ l, 1 ≤ layer.getD i.toNat 0) → (seamsGo layer a l).Pairwise (· < ·) ∧ ∀ x ∈ seamsGo layer a l, a < x
  | [], a, _ => by simp [seamsGo]
  | i :: l, a, h => by
    have h1 := h i (by simp)
    obtain ⟨h2, h3⟩ := seamsGo_rise layer l (a + layer.getD i.toNat 0) fun j hj => h j (by simp [hj])
    simp only [seamsGo, List.pairwise_cons, List.mem_cons, forall_eq_or_imp]
    exact ⟨⟨h3, h2⟩, by omega, fun x hx => by have := h3 x hx; omega⟩
theorem getD_wide {layer : List Int} (hw : ∀ x ∈ layer, 1 ≤ x) {i : Int} (h0 : 0 ≤ i) (h1 : i < layer.length) : 1 ≤ layer.getD i.toNat 0 := by
  have h : i.toNat < layer.length := by omega
  rw [List.getD_eq_getElem?_getD, List.getElem?_eq_getElem h]
  exact hw _ (List.getElem_mem h)
theorem seamsOf_rise {layer o : List Int} (hw : ∀ x ∈ layer, 1 ≤ x) (ho : isOrd o layer.length = true) : (seamsOf layer o).Pairwise (· < ·) ∧ ∀ x ∈ seamsOf layer o, 0 < x := by
  obtain ⟨_, h2, _⟩ := isOrd_iff.1 ho
  exact seamsGo_rise layer o.dropLast 0 fun i hi => by
    obtain ⟨k0, k1⟩ := h2 i (List.dropLast_subset _ hi)
    exact getD_wide hw k0 k1
theorem few_best {p : List (List Int)} (hv : Val p) : Ords p (progOrders p) ∧ fewestOf p = (meetN (seamsBy p (progOrders p)) : Int) :=
  ⟨joints_ords' _ fun l hl => ⟨hv.s1 l hl, hv.s5 l hl⟩, fewest_eq ⟨fun l hl => ⟨hv.s1 l hl, hv.s5 l hl⟩, hv.n4⟩ fun e => by have := hv.n2; simp [e] at this⟩
end Go.Proofs.Ytlcebaejlnpdeaa.Ab

/-
  Plain law of layer 5: all widths times as great; orders that are turned round.
-/
namespace Go.Proofs.Ytlcebaejlnpdeaa.Ab
/-! ### Orders turned round -/
theorem sum_rev1 : ∀ l : List Int, sumI l.reverse = sumI l
  | [] => rfl
  | x :: l => by rw [List.reverse_cons, sumI_append, sum_rev1 l, sumI_cons, sumI_cons, sumI_nil]; omega
theorem sum_perm {a b : List Int} (h : a.Perm b) : sumI a = sumI b := by
  induction h with
  | nil => rfl
  | cons x _ ih => rw [sumI_cons, sumI_cons, ih]
  | swap x y l => rw [sumI_cons, sumI_cons, sumI_cons, sumI_cons]; omega
  | trans _ _ h1 h2 => rw [h1, h2]
def wsOf (l o : List Int) : List Int := o.map fun i => l.getD i.toNat 0
theorem wsOf_len (l o : List Int) : (wsOf l o).length = o.length := by simp [wsOf]
theorem ord_nums {o : List Int} {n : Nat} (h : isOrd o n = true) : o.Perm (nums n) := by
  obtain ⟨h1, h2, h3⟩ := isOrd_iff.1 h
  obtain ⟨_, _, k3⟩ := isOrd_iff.1 (nums_ord n)
  have hsub : ∀ x ∈ o, x ∈ nums n := fun x hx => by
    have := h2 x hx
    simp only [nums, List.mem_map, List.mem_range]
    exact ⟨x.toNat, by omega, by omega⟩
  rw [List.perm_ext_iff_of_nodup h3 k3]
  refine fun x => ⟨hsub x, fun hx => Classical.byContradiction fun hn => ?_⟩
  have := List.Nodup.length_le_of_subset (l₁ := x :: o) (l₂ := nums n) (List.nodup_cons.2 ⟨hn, h3⟩) fun z hz => by
    rcases List.mem_cons.1 hz with rfl | hz
    · exact hx
    · exact hsub z hz
  rw [nums_len, List.length_cons] at this
  omega
theorem ws_nums (l : List Int) : wsOf l (nums l.length) = l := by
  apply List.ext_getElem
  · simp [wsOf, nums]
  · intro k h1 h2
    simp [wsOf, nums, h2]
theorem ws_sum {l o : List Int} (h : isOrd o l.length = true) : sumI (wsOf l o) = sumI l := by
  rw [show sumI (wsOf l o) = sumI (wsOf l (nums l.length)) from sum_perm ((ord_nums h).map _), ws_nums]
theorem seamsGo_get (layer : List Int) : ∀ (o : List Int) (a : Int) (k : Nat) (h : k < (seamsGo layer a o).length), (seamsGo layer a o)[k] = a + sumI ((wsOf layer o).take (k + 1))
  | [], a, k, h => by simp [seamsGo] at h
  | i :: o, a, k, h => by
    cases k with
    | zero => simp [seamsGo, wsOf, sumI_cons, sumI_nil]
    | succ k =>
      have := seamsGo_get layer o (a + layer.getD i.toNat 0) k (by simpa [seamsGo] using h)
      simp only [seamsGo, List.getElem_cons_succ, this]
      rw [show wsOf layer (i :: o) = layer.getD i.toNat 0 :: wsOf layer o from rfl, List.take_succ_cons, sumI_cons]; omega
theorem seamsOf_len (l o : List Int) : (seamsOf l o).length = o.length - 1 := by simp [seamsOf, seamsGo_length]
theorem seamsOf_get (l o : List Int) (k : Nat) (h : k < (seamsOf l o).length) : (seamsOf l o)[k] = sumI ((wsOf l o).take (k + 1)) := by
  have hl := seamsOf_len l o
  have := seamsGo_get l o.dropLast 0 k h
  have e : (wsOf l o.dropLast).take (k + 1) = (wsOf l o).take (k + 1) := by
    rw [dropLast_take, wsOf, wsOf, List.map_take, List.take_take, Nat.min_eq_left (by omega)]
  rw [e] at this
  rw [show (seamsOf l o)[k] = (seamsGo l 0 o.dropLast)[k]'h from rfl, this]; omega
def turnL (W : Int) (s : List Int) : List Int := (s.map fun x => W - x).reverse
theorem turn_seams {l o : List Int} (h : isOrd o l.length = true) : seamsOf l o.reverse = turnL (sumI l) (seamsOf l o) := by
  have e : wsOf l o.reverse = (wsOf l o).reverse := by simp [wsOf]
  apply List.ext_getElem
  · simp [turnL, seamsOf_len]
  · intro k h1 h2
    have h3 := seamsOf_len l o.reverse
    have h4 := seamsOf_len l o
    rw [List.length_reverse] at h3
    rw [seamsOf_get, e, List.take_reverse, sum_rev1, wsOf_len]
    simp only [turnL, List.getElem_reverse, List.getElem_map, List.length_map]
    rw [seamsOf_get]
    have h5 := ws_sum h
    rw [← List.take_append_drop (o.length - (k + 1)) (wsOf l o), sumI_append] at h5
    rw [show (seamsOf l o).length - 1 - k + 1 = o.length - (k + 1) by omega]
    omega
theorem isOrd_rev {o : List Int} {n : Nat} (h : isOrd o n = true) : isOrd o.reverse n = true := ord_perm (List.reverse_perm o) h
theorem mem_turn (W : Int) (s : List Int) (x : Int) : W - x ∈ turnL W s ↔ x ∈ s := by
  simp only [turnL, List.mem_reverse, List.mem_map]
  exact ⟨fun ⟨y, hy, e⟩ => by rw [show x = y by omega]; exact hy, fun h => ⟨x, h, rfl⟩⟩
/-- Seams lie between both ends. -/
theorem seamsOf_in {l o : List Int} (hw : ∀ x ∈ l, 1 ≤ x) (ho : isOrd o l.length = true) : ∀ x ∈ seamsOf l o, 1 ≤ x ∧ x < sumI l := by
  intro x hx
  have h1 := (seamsOf_rise hw ho).2 x hx
  have h2 := (seamsOf_rise hw (isOrd_rev ho)).2 (sumI l - x) (by rw [turn_seams ho, mem_turn]; exact hx)
  omega
end Go.Proofs.Ytlcebaejlnpdeaa.Ab

/-
  Sums and sure seams: the program's are the definitions'.
-/
namespace Go.Proofs.Ytlcebaejlnpdeaa.Ab
open Go
def indS (w l : List Int) : Nat → Int
  | 0 => 0
  | i + 1 => indS w l i + if (i : Int) ∈ l then w.getD i 0 else 0
theorem indS_cons (w l : List Int) (x : Int) (h0 : 0 ≤ x) (hx : x ∉ l) : ∀ n : Nat, indS w (x :: l) n = indS w l n + if x < (n : Int) then w.getD x.toNat 0 else 0
  | 0 => by rw [if_neg (by omega)]; rfl
  | n + 1 => by
    have ih := indS_cons w l x h0 hx n
    simp only [indS, ih]
    by_cases e : (n : Int) = x
    · subst e
      rw [if_neg (show ¬ (n : Int) < (n : Int) by omega), if_pos (show (n : Int) ∈ (n : Int) :: l by simp), if_neg hx, if_pos (show (n : Int) < ((n + 1 : Nat) : Int) by omega)]
      simp
    · by_cases h : (n : Int) ∈ l
      · rw [if_pos (show (n : Int) ∈ x :: l by simp [h]), if_pos h]
        by_cases h2 : x < (n : Int)
        · rw [if_pos h2, if_pos (show x < ((n + 1 : Nat) : Int) by omega)]; omega
        · rw [if_neg h2, if_neg (show ¬ x < ((n + 1 : Nat) : Int) by omega)]; simp
      · rw [if_neg (show ¬ (n : Int) ∈ x :: l by simp [h, e]), if_neg h]
        by_cases h2 : x < (n : Int)
        · rw [if_pos h2, if_pos (show x < ((n + 1 : Nat) : Int) by omega)]; omega
        · rw [if_neg h2, if_neg (show ¬ x < ((n + 1 : Nat) : Int) by omega)]
theorem indS_sum (w : List Int) (n : Nat) : ∀ l : List Int, (∀ x ∈ l, 0 ≤ x ∧ x < n) → l.Nodup → sumI (wsOf w l) = indS w l n
  | [], _, _ => by
    have : ∀ n, indS w [] n = 0 := fun n => by induction n with
      | zero => rfl
      | succ n ih => simp [indS, ih]
    rw [this]; rfl
  | x :: l, h, hn => by
    have hx := h x (by simp)
    have ih := indS_sum w n l (fun y hy => h y (by simp [hy])) (List.nodup_cons.1 hn).2
    rw [indS_cons w l x hx.1 (List.nodup_cons.1 hn).1, if_pos hx.2, ← ih]
    show sumI (w.getD x.toNat 0 :: wsOf w l) = _
    rw [sumI_cons]; omega
theorem indS_bits (w l : List Int) (b : Nat) : ∀ n : Nat, (∀ i : Nat, i < n → (b / 2 ^ i % 2 = 1 ↔ (i : Int) ∈ l)) → bsumT w b n = indS w l n
  | 0, _ => rfl
  | n + 1, h => by
    simp only [bsumT, indS, indS_bits w l b n fun i hi => h i (by omega)]
    have hn := h n (by omega)
    have : b / 2 ^ n % 2 = 0 ∨ b / 2 ^ n % 2 = 1 := by omega
    rcases this with e | e
    · rw [e] at hn ⊢
      rw [if_neg (fun hh => by have := hn.2 hh; omega)]; simp
    · rw [if_pos (hn.1 e), e]; simp
def agree (b n : Nat) (l : List Int) : Bool := (List.range n).all fun i => decide (b / 2 ^ i % 2 = 1) == l.contains (i : Int)
theorem agree_iff {b n : Nat} {l : List Int} (h : agree b n l = true) (i : Nat) (hi : i < n) : b / 2 ^ i % 2 = 1 ↔ (i : Int) ∈ l := by
  have := List.all_eq_true.1 h i (List.mem_range.2 hi)
  rw [beq_iff_eq] at this
  rw [← decide_eq_true_iff (p := b / 2 ^ i % 2 = 1), this, List.contains_iff_mem]
def facts1 (n : Nat) : Bool := (perms n).all fun o => (List.range (n - 1)).all fun j => (List.range (2 ^ n - 2)).any fun b => agree (b + 1) n (o.take (j + 1))
def facts2 (n : Nat) : Bool := (List.range (2 ^ n - 2)).all fun b => (perms n).any fun o => (List.range (n - 1)).any fun j => agree (b + 1) n (o.take (j + 1))
theorem facts_all : ∀ n : Fin 6, facts1 n.1 = true ∧ facts2 n.1 = true := by decide +kernel
theorem subs_iff {w : List Int} (h5 : w.length ≤ 5) (a : Int) : a ∈ subs w ↔ ∃ o ∈ perms w.length, a ∈ seamsOf w o := by
  obtain ⟨f1, f2⟩ := facts_all ⟨w.length, by omega⟩
  have key : ∀ (b : Nat) (o : List Int) (j : Nat), o ∈ perms w.length → j < w.length - 1 → agree (b + 1) w.length (o.take (j + 1)) = true → ∃ h : j < (seamsOf w o).length, (seamsOf w o)[j] = bsumT w (b + 1) w.length := fun b o j ho hj hg => by
    obtain ⟨p1, p2, p3⟩ := perms_mem ho
    have hl : j < (seamsOf w o).length := by rw [seamsOf_len]; omega
    refine ⟨hl, ?_⟩
    have e : (wsOf w o).take (j + 1) = wsOf w (o.take (j + 1)) := by simp [wsOf, List.map_take]
    rw [seamsOf_get, e, indS_sum w w.length _ (fun x hx => p2 x (List.mem_of_mem_take hx)) (List.Nodup.sublist (List.take_sublist _ _) p3), indS_bits w _ (b + 1) w.length fun i hi => agree_iff hg i hi]
  constructor
  · intro h
    obtain ⟨b, hb, rfl⟩ := List.mem_map.1 h
    obtain ⟨o, ho, h2⟩ := List.any_eq_true.1 (List.all_eq_true.1 f2 b hb)
    obtain ⟨j, hj, h3⟩ := List.any_eq_true.1 h2
    obtain ⟨q1, q2⟩ := key b o j ho (List.mem_range.1 hj) h3
    exact ⟨o, ho, q2 ▸ List.getElem_mem q1⟩
  · rintro ⟨o, ho, h⟩
    obtain ⟨j, hj, rfl⟩ := List.mem_iff_getElem.1 h
    have p1 := (perms_mem ho).1
    have hj2 : j < w.length - 1 := by rw [seamsOf_len] at hj; omega
    obtain ⟨b, hb, h3⟩ := List.any_eq_true.1 (List.all_eq_true.1 (List.all_eq_true.1 f1 o ho) j (List.mem_range.2 hj2))
    obtain ⟨q1, q2⟩ := key b o j ho hj2 h3
    rw [q2]
    exact List.mem_map.2 ⟨b, hb, rfl⟩
/-- Lists that rise, with the same numbers. -/
theorem rise_eq : ∀ {a b : List Int}, a.Pairwise (· < ·) → b.Pairwise (· < ·) → (∀ x, x ∈ a ↔ x ∈ b) → a = b
  | [], [], _, _, _ => rfl
  | [], y :: b, _, _, h => by have := (h y).2 (by simp); simp at this
  | x :: a, [], _, _, h => by have := (h x).1 (by simp); simp at this
  | x :: a, y :: b, ha, hb, h => by
    obtain ⟨a1, a2⟩ := List.pairwise_cons.1 ha
    obtain ⟨b1, b2⟩ := List.pairwise_cons.1 hb
    have hxy : x = y := by
      rcases List.mem_cons.1 ((h x).1 (by simp)) with e | e
      · exact e
      · rcases List.mem_cons.1 ((h y).2 (by simp)) with e2 | e2
        · exact e2.symm
        · have := a1 y e2; have := b1 x e; omega
    subst hxy
    rw [rise_eq a2 b2 fun z => ?_]
    constructor
    · intro hz
      rcases List.mem_cons.1 ((h z).1 (by simp [hz])) with e | e
      · have := a1 z hz; omega
      · exact e
    · intro hz
      rcases List.mem_cons.1 ((h z).2 (by simp [hz])) with e | e
      · have := b1 z hz; omega
      · exact e
theorem cmpA_mem (l : List Int) : ∀ k, k ≤ l.length → ∀ x, x ∈ cmpA l k ↔ x ∈ l.take k
  | 0, _, x => by simp [cmpA]
  | k + 1, h, x => by
    have ih := cmpA_mem l k (by omega) x
    rw [List.take_succ_eq_append_getElem (by omega), List.mem_append, List.mem_singleton]
    have hg : l.getD k 0 = l[k]'(by omega) := by simp [show k < l.length by omega]
    simp only [cmpA]
    split
    · rename_i hc
      rw [ih]
      refine ⟨.inl, fun hh => hh.elim id fun e => ?_⟩
      have hg2 : l.getD (k - 1) 0 = l[k - 1]'(by omega) := by simp [show k - 1 < l.length by omega]
      rw [e, ← hg, hc.2, hg2]
      exact List.mem_iff_getElem.2 ⟨k - 1, by simp; omega, by simp⟩
    · rw [List.mem_append, ih, List.mem_singleton, hg]
theorem cmpA_rise (l : List Int) (hs : ∀ i j, i < j → j < l.length → l.getD i 0 ≤ l.getD j 0) : ∀ k, k ≤ l.length → (cmpA l k).Pairwise (· < ·) ∧ (0 < k → ∀ x ∈ cmpA l k, x ≤ l.getD (k - 1) 0)
  | 0, _ => ⟨List.Pairwise.nil, fun h => by omega⟩
  | k + 1, h => by
    obtain ⟨i1, i2⟩ := cmpA_rise l hs k (by omega)
    simp only [cmpA, Nat.add_sub_cancel]
    split
    · rename_i hc
      exact ⟨i1, fun _ x hx => by have := i2 hc.1 x hx; omega⟩
    · rename_i hc
      have hlt : ∀ x ∈ cmpA l k, x < l.getD k 0 := fun x hx => by
        have hk : 0 < k := by
          cases k with
          | zero => simp [cmpA] at hx
          | succ k => omega
        have h1 := i2 hk x hx
        have h2 := hs (k - 1) k (by omega) (by omega)
        have h3 : l.getD k 0 ≠ l.getD (k - 1) 0 := fun e => hc ⟨hk, e⟩
        omega
      refine ⟨List.pairwise_append.2 ⟨i1, by simp, fun x hx y hy => by rw [List.mem_singleton.1 hy]; exact hlt x hx⟩, fun _ x hx => ?_⟩
      rcases List.mem_append.1 hx with hx | hx
      · have := hlt x hx; omega
      · rw [List.mem_singleton.1 hx]; exact Int.le_refl _
theorem psums_spec (w : List Int) : (psums w).Pairwise (· < ·) ∧ ∀ x, x ∈ psums w ↔ x ∈ subs w := by
  have hs := Sort.sortInt (subs w)
  obtain ⟨S, hS⟩ : ∃ S, S = (Sort.sort Sort.ltInt (subs w).toArray).toList := ⟨_, rfl⟩
  rw [← hS] at hs
  have hp : psums w = cmpA S (subs w).length := by rw [hS]; rfl
  have hl : S.length = (subs w).length := by rw [hs]; exact List.length_mergeSort _
  have hm : ∀ x, x ∈ S ↔ x ∈ subs w := fun x => by rw [hs]; exact List.mem_mergeSort
  have hpw : S.Pairwise fun a b => a ≤ b := by
    rw [hs]
    have := List.pairwise_mergeSort (le := fun x y : Int => decide (x ≤ y)) (fun a b c h1 h2 => by simp at *; omega) (fun a b => by simp; omega) (subs w)
    exact this.imp fun h => by simpa using h
  have hso : ∀ i j, i < j → j < S.length → S.getD i 0 ≤ S.getD j 0 := fun i j hij hj => by
    have := List.pairwise_iff_getElem.1 hpw i j (by omega) hj hij
    simpa [show i < S.length by omega, hj] using this
  rw [hp, ← hl]
  refine ⟨(cmpA_rise S hso _ (Nat.le_refl _)).1, fun x => ?_⟩
  rw [cmpA_mem S _ (Nat.le_refl _) x, List.take_length]
  exact hm x
theorem cntL_spec (w : List Int) (m : Int) (r : Nat) : (cntL w m r).Pairwise (· < ·) ∧ ∀ x, x ∈ cntL w m r ↔ 1 ≤ x ∧ x ≤ r ∧ m ≤ (cnt w x : Int) := by
  constructor
  · refine List.Pairwise.filter _ ?_
    refine List.pairwise_map.2 ?_
    exact (List.pairwise_lt_range (n := r)).imp fun h => by omega
  · intro x
    simp only [cntL, List.mem_filter, List.mem_map, List.mem_range, decide_eq_true_eq]
    constructor
    · rintro ⟨⟨i, hi, rfl⟩, h⟩; exact ⟨by omega, by omega, h⟩
    · rintro ⟨h1, h2, h3⟩; exact ⟨⟨x.toNat - 1, by omega, by omega⟩, h3⟩
theorem cnt_one (w : List Int) (a : Int) : 1 ≤ (cnt w a : Int) ↔ ∃ o ∈ perms w.length, a ∈ seamsOf w o := by
  have : 1 ≤ (cnt w a : Int) ↔ 0 < cnt w a := by omega
  rw [this, cnt, List.length_pos_iff_exists_mem]
  simp only [List.mem_filter, seamA, List.mem_map, has_iff]
  constructor
  · rintro ⟨_, ⟨o, ho, rfl⟩, h⟩; exact ⟨o, ho, h⟩
  · rintro ⟨o, ho, h⟩; exact ⟨_, ⟨o, ho, rfl⟩, h⟩
theorem cnt_all (w : List Int) (a : Int) : ((perms w.length).length : Int) ≤ (cnt w a : Int) ↔ ∀ o ∈ perms w.length, a ∈ seamsOf w o := by
  have hl : (seamA w).length = (perms w.length).length := by simp [seamA]
  have : ((perms w.length).length : Int) ≤ (cnt w a : Int) ↔ cnt w a = (seamA w).length := by
    have := List.length_filter_le (fun r => has r a) (seamA w)
    rw [hl] at this ⊢
    unfold cnt; omega
  rw [this, cnt, List.length_filter_eq_length_iff]
  simp only [seamA, List.mem_map, has_iff]
  constructor
  · intro h o ho; exact h _ ⟨o, ho, rfl⟩
  · rintro h _ ⟨o, ho, rfl⟩; exact h o ho
structure Wl (w : List Int) : Prop where
  n1 : 1 ≤ w.length
  n5 : w.length ≤ 5
  w : ∀ x ∈ w, 1 ≤ x
theorem Val.wl {p : List (List Int)} (hv : Val p) {w : List Int} (h : w ∈ p) : Wl w := ⟨hv.s1 w h, hv.s5 w h, fun x hx => (hv.w w h x hx).1⟩
theorem psums_in {w : List Int} (h : Wl w) {a : Int} (ha : ∃ o ∈ perms w.length, a ∈ seamsOf w o) : 1 ≤ a ∧ a < sumI w := by
  obtain ⟨o, ho, ha⟩ := ha
  exact seamsOf_in h.w (perms_ord ho) a ha
theorem psums_eq {w : List Int} (h : Wl w) : psums w = rsums w := by
  obtain ⟨p1, p2⟩ := psums_spec w
  obtain ⟨r1, r2⟩ := cntL_spec w 1 (sumI w - 1).toNat
  refine rise_eq p1 r1 fun x => ?_
  show x ∈ psums w ↔ x ∈ cntL w 1 (sumI w - 1).toNat
  rw [p2, r2, subs_iff h.n5, cnt_one]
  constructor
  · intro hx; have := psums_in h hx; exact ⟨this.1, by omega, hx⟩
  · exact fun hx => hx.2.2
def sureL (w : List Int) : List Int := (perms w.length).foldl (fun cur o => cur.filter (has (seamsOf w o))) (psums w)
theorem filt_fold (w : List Int) : ∀ (L : List (List Int)) (c : List Int), c.Pairwise (· < ·) → (L.foldl (fun cur o => cur.filter (has (seamsOf w o))) c).Pairwise (· < ·) ∧ ∀ x, x ∈ L.foldl (fun cur o => cur.filter (has (seamsOf w o))) c ↔ x ∈ c ∧ ∀ o ∈ L, x ∈ seamsOf w o
  | [], c, h => ⟨h, by simp⟩
  | o :: L, c, h => by
    obtain ⟨h1, h2⟩ := filt_fold w L (c.filter (has (seamsOf w o))) (h.filter _)
    refine ⟨h1, fun x => ?_⟩
    rw [List.foldl_cons, h2, List.mem_filter, has_iff, List.forall_mem_cons, and_assoc]
theorem sure_eq {w : List Int} (h : Wl w) : sureL w = rsure w := by
  obtain ⟨p1, p2⟩ := psums_spec w
  obtain ⟨f1, f2⟩ := filt_fold w (perms w.length) (psums w) p1
  obtain ⟨r1, r2⟩ := cntL_spec w (perms w.length).length (sumI w - 1).toNat
  refine rise_eq f1 r1 fun x => ?_
  show x ∈ (perms w.length).foldl (fun cur o => cur.filter (has (seamsOf w o))) (psums w) ↔ x ∈ cntL w (perms w.length).length (sumI w - 1).toNat
  rw [f2, r2, p2, subs_iff h.n5, cnt_all]
  have hN := (first_perm h.n1 h.n5).1
  constructor
  · rintro ⟨hx, ha⟩; have := psums_in h hx; exact ⟨this.1, by omega, ha⟩
  · rintro ⟨_, _, ha⟩; exact ⟨⟨_, List.getElem_mem hN, ha _ (List.getElem_mem hN)⟩, ha⟩
end Go.Proofs.Ytlcebaejlnpdeaa.Ab

/-
  What sums and sure seams are like.
-/
namespace Go.Proofs.Ytlcebaejlnpdeaa.Ab
open Go
theorem rsums_mem {w : List Int} (h : Wl w) (a : Int) : a ∈ rsums w ↔ ∃ o ∈ perms w.length, a ∈ seamsOf w o := by
  rw [← psums_eq h, (psums_spec w).2, subs_iff h.n5]
theorem rsure_mem {w : List Int} (h : Wl w) (a : Int) : a ∈ rsure w ↔ ∀ o ∈ perms w.length, a ∈ seamsOf w o := by
  rw [show rsure w = cntL w (perms w.length).length (sumI w - 1).toNat from rfl, (cntL_spec w _ _).2, cnt_all]
  have hN := (first_perm h.n1 h.n5).1
  refine ⟨fun hx => hx.2.2, fun ha => ?_⟩
  have := psums_in h ⟨_, List.getElem_mem hN, ha _ (List.getElem_mem hN)⟩
  exact ⟨this.1, by omega, ha⟩
theorem rsums_rise (w : List Int) : (rsums w).Pairwise (· < ·) := (cntL_spec w _ _).1
theorem rsure_rise (w : List Int) : (rsure w).Pairwise (· < ·) := (cntL_spec w _ _).1
end Go.Proofs.Ytlcebaejlnpdeaa.Ab

/-
  Contracts: Far, Apart, and the definitions' Far.
-/
namespace Go.Proofs.Ytlcebaejlnpdeaa.Ab
open Go
set_option maxRecDepth 20000
set_option maxHeartbeats 4000000
end Go.Proofs.Ytlcebaejlnpdeaa.Ab

/-
  Contracts: the definitions' Far, ApartError; SeamFars.
-/
namespace Go.Proofs.Ytlcebaejlnpdeaa.Ab
open Go
set_option maxRecDepth 20000
set_option maxHeartbeats 4000000
end Go.Proofs.Ytlcebaejlnpdeaa.Ab

/-
  Contracts: fine, fewest, far.
-/
namespace Go.Proofs.Ytlcebaejlnpdeaa.Ab
open Go
set_option maxRecDepth 20000
set_option maxHeartbeats 4000000
theorem Val.big {p : List (List Int)} (hv : Val p) : Ab.big p = false :=
  big_false.2 ⟨by have := hv.n4; omega, fun l hl => by have := hv.s5 l hl; omega⟩
theorem Val.fit {p : List (List Int)} (hv : Val p) : p.length ≤ 140737488355328 ∧ ∀ l ∈ p, l.length ≤ 140737488355328 :=
  ⟨by have := hv.n4; omega, fun l hl => by have := hv.s5 l hl; omega⟩
theorem Ords.fit {p o : List (List Int)} (hv : Val p) (ho : Ords p o) : Fit p o ∧ Ab.big o = false := by
  have h4 := hv.n4
  have hl := ho.len
  have hr : ∀ r ∈ o, r.length ≤ 5 := fun r hr => by
    obtain ⟨i, hi, rfl⟩ := List.mem_iff_getElem.1 hr
    have h2 : i < p.length := by omega
    rw [(isOrd_iff.1 (ho.ord i hi h2)).1]
    exact hv.s5 _ (List.getElem_mem h2)
  exact ⟨⟨hv.fit.1, hv.fit.2, by omega, fun l hl => by have := hr l hl; omega⟩, big_false.2 ⟨by omega, fun l hl => by have := hr l hl; omega⟩⟩
theorem Ords.err {p o : List (List Int)} (hv : Val p) (ho : Ords p o) : ordErr p o = 0 := ordErr_zero.2 ⟨hv, ho⟩
end Go.Proofs.Ytlcebaejlnpdeaa.Ab

/-
  SeamFewer.
-/
namespace Go.Proofs.Ytlcebaejlnpdeaa.Ab
open Go
set_option maxRecDepth 20000
set_option maxHeartbeats 4000000
theorem Val.again {q : List (List Int)} {a : List Int} (hv : Val (q ++ [a])) (h : (q ++ [a]).length ≤ 3) : Val (q ++ [a] ++ [a]) := by
  have hh : (q ++ [a] ++ [a]).headD [] = (q ++ [a]).headD [] := by cases q <;> rfl
  have hm : ∀ l ∈ q ++ [a] ++ [a], l ∈ q ++ [a] := fun l hl => by simp at hl ⊢; rcases hl with h | h | h <;> simp [h]
  have h2 := hv.n2
  refine ⟨by simp at h2 ⊢, by simp at h ⊢; omega, fun l hl => hv.s1 l (hm l hl), fun l hl => hv.s5 l (hm l hl), fun l hl => hv.w l (hm l hl), fun l hl => by rw [hh]; exact hv.eq l (hm l hl)⟩
end Go.Proofs.Ytlcebaejlnpdeaa.Ab

/-
  Chosen: orders by numbers, as a contract.
-/
namespace Go.Proofs.Ytlcebaejlnpdeaa.Ab
open Go
set_option maxRecDepth 20000
set_option maxHeartbeats 4000000
theorem pure_Y1 (l : List Int) : pureD 8 (Y1 l) = true := by
  show (l.map (AV.int .u8)).all (pureD 7) = true
  rw [List.all_map, List.all_eq_true]; intro x _; rfl
theorem pickN_val {y : List Int} (hy : Fy y) (n t : Nat) (h : t % y.length < y.length) : (IntKind.i64.wrap (y[t % y.length]'h)).tmod n = ((pickN y n t : Nat) : Int) := by
  have hb := hy.v _ (List.getElem_mem h)
  have hne : y ≠ [] := fun e => by rw [e] at h; simp at h
  obtain ⟨b, e⟩ : ∃ b : Nat, y[t % y.length]'h = (b : Int) := ⟨(y[t % y.length]'h).toNat, by omega⟩
  rw [wrapI _ (by omega) (by omega), pickN, if_neg hne]
  have e2 : y.getD (t % y.length) 0 = y[t % y.length]'h := by rw [List.getD_eq_getElem?_getD, List.getElem?_eq_getElem h]; rfl
  rw [e2, e]
  rfl
theorem stepN_val {y : List Int} (t : Nat) (h : 0 < y.length) (ht : t ≤ 1000) : IntKind.i64.wrap ((t : Int) + 1) = ((stepN y t : Nat) : Int) := by
  have hne : y ≠ [] := fun e => by rw [e] at h; simp at h
  rw [wrapS t (by omega), stepN, if_neg hne]
theorem dropI (l : List Int) (i : Nat) : AV.lst (((l.map I).drop (((i : Nat) : Int).toNat * 1)).take ((l.length - ((i : Nat) : Int).toNat) * 1)) (l.length - ((i : Nat) : Int).toNat) .shared = L1 (l.drop i) := by
  have e : ((l.map I).drop i).take (l.length - i) = (l.drop i).map I := by rw [← List.map_drop, List.take_of_length_le (by simp)]
  show AV.lst (((l.map I).drop (i * 1)).take ((l.length - i) * 1)) (l.length - i) .shared = _
  rw [Nat.mul_one, Nat.mul_one, e, L1, List.length_drop]
theorem eraseU (left : List Int) (n : Nat) : AV.lst (repl 0 [AV.int .i64 0] ++ (left.take n).map I ++ (left.drop (n + 1)).map I) (0 + (left.take n).length + (left.drop (n + 1)).length) (.uniq 1) = U1 (left.eraseIdx n) := by
  rw [List.eraseIdx_eq_take_drop_succ]; simp [U1, repl]
theorem pickGo_step {y left : List Int} {t n : Nat} (hn : n < left.length) (e : pickN y left.length t = n) : pickGo y left.length left t = (left[n] :: (pickGo y (left.eraseIdx n).length (left.eraseIdx n) (stepN y t)).1, (pickGo y (left.eraseIdx n).length (left.eraseIdx n) (stepN y t)).2) := by
  have hl : (left.eraseIdx n).length = left.length - 1 := List.length_eraseIdx_of_lt hn
  obtain ⟨f, hf⟩ : ∃ f, left.length = f + 1 := ⟨left.length - 1, by omega⟩
  have hg : left.getD n 0 = left[n] := by simp [List.getD_eq_getElem?_getD, hn]
  conv => lhs; rw [hf, pickGo, e, hg]
  rw [hl, hf]; rfl
theorem stepN_le (y : List Int) (t : Nat) : stepN y t ≤ t + 1 := by unfold stepN; split <;> omega
theorem chosen_ok (p : List (List Int)) (y : List Int) (hv : Val p) (hy : Fy y) (h30 : y.length ≤ 30) : PO 50 [P1 p, Y1 y] (O2 (chosen p y)) := by
  have h4 := hv.n4
  refine fn_pure hmix lk50 rfl (pu2 _ _ _) ?_
  unfold rc50
  conv => whnf
  refine .intro (fun m T H => ∃ i t out, i ≤ p.length ∧ m = p.length - i ∧ t ≤ 5 * i ∧ out.length = i ∧ out ++ chosenGo y (p.drop i) t = chosen p y ∧ T = slots 74 [(1, Y1 y), (2, .ptr 0 0), (5, U2 out), (6, I t), (7, I i)] ∧ H = [.cells [L2 p]]) p.length ⟨0, 0, [], Nat.zero_le _, rfl, Nat.zero_le _, rfl, rfl, rfl, rfl⟩ ?_
  rintro m T H ⟨i, t, out, hi, rfl, ht, ho, hc, rfl, rfl⟩
  conv => whnf
  refine dcase (fun h => ?_) (fun h => ?_)
  · have hlt : i < p.length := by omega
    have hl5 := hv.s5 _ (List.getElem_mem hlt)
    conv => whnf
    refine .intro (CI (fun k => slots 74 [(1, Y1 y), (2, .ptr 0 0), (5, U2 out), (6, I t), (7, I i), (8, U1 (nums k)), (9, U1 []), (10, I k)]) p[i].length [.cells [L2 p]]) p[i].length (ci0 rfl) ?_
    rintro m T H ⟨k, hk, rfl, rfl, rfl⟩
    conv => whnf
    refine ⟨by omega, ?_⟩
    conv => whnf
    refine nthM _ _ _ (hlt) ?_
    conv => whnf
    refine dcase (fun h1 => ?_) (fun h1 => ?_)
    · have hnl := nums_len k
      conv => whnf
      refine ⟨rfl, by decide, rfl, by omega, ?_⟩
      conv => whnf
      exact ciN (by omega) (by rw [nums_succ, ← U1_snoc, ← wrapS k (by omega)] <;> rfl)
    · obtain rfl : k = p[i].length := by omega
      conv => whnf
      refine .intro (fun m T H => ∃ left order t', m = left.length ∧ left.length + order.length = p[i].length ∧ t' ≤ t + order.length ∧ order ++ (pickGo y left.length left t').1 = (pickGo y p[i].length (nums p[i].length) t).1 ∧ (pickGo y left.length left t').2 = (pickGo y p[i].length (nums p[i].length) t).2 ∧
        T = slots 74 [(1, Y1 y), (2, .ptr 0 0), (5, U2 out), (6, I t'), (7, I i), (8, U1 left), (9, U1 order)] ∧ H = [.cells [L2 p]]) p[i].length ⟨nums p[i].length, [], t, (nums_len _).symm, by rw [nums_len]; rfl, Nat.le_refl _, by rw [nums_len]; rfl, by rw [nums_len], rfl, rfl⟩ ?_
      rintro m T H ⟨left, order, t', rfl, hlo, ht', hp1, hp2, rfl, rfl⟩
      conv => whnf
      refine dcase (fun h2 => ?_) (fun h2 => ?_)
      · conv => whnf
        refine dcase (fun h3 => ?_) (fun h3 => ?_)
        · conv => whnf
          have hyl : 0 < y.length := by omega
          refine ⟨by omega, ?_⟩
          conv => whnf
          rw [show (t' : Int).tmod y.length = ((t' % y.length : Nat) : Int) from rfl]
          have hm := Nat.mod_lt t' hyl
          refine ⟨by omega, ?_⟩
          conv => whnf
          refine nthM _ _ _ hm ?_
          conv => whnf
          refine ⟨by omega, ?_⟩
          conv => whnf
          have en := pickN_val hy left.length t' hm
          have es := stepN_val t' hyl (by omega)
          have hn := pickN_lt y (n := left.length) t' (by omega)
          rw [en, es]
          generalize hnn : pickN y left.length t' = n at *
          refine ⟨by omega, ?_⟩
          conv => whnf
          refine nthM _ _ _ hn ?_
          conv => whnf
          refine ⟨rfl, by decide, rfl, by omega, ?_⟩
          conv => whnf
          refine ⟨by omega, ?_⟩
          rw [takeI left n (by omega)]
          conv => whnf
          refine ⟨by simp, by rw [List.length_take]; omega, ?_⟩
          conv => whnf
          refine ⟨by simp, ?_⟩
          conv => whnf
          refine ⟨by rw [List.length_take]; omega, ?_⟩
          conv => whnf
          rw [wrapS n (by omega)]
          refine ⟨by omega, ?_⟩
          rw [dropI left (n + 1)]
          conv => whnf
          refine ⟨by simp, by rw [List.length_drop]; omega, ?_⟩
          conv => whnf
          refine ⟨by simp, ?_⟩
          conv => whnf
          refine ⟨by simp; omega, ?_⟩
          conv => whnf
          have hl : (left.eraseIdx n).length = left.length - 1 := List.length_eraseIdx_of_lt hn
          have hs := stepN_le y t'
          rw [pickGo_step hn hnn] at hp1 hp2
          refine ⟨(left.eraseIdx n).length, by omega, left.eraseIdx n, order ++ [left[n]], stepN y t', rfl, by simp; omega, by simp; omega, by rw [← hp1, List.append_assoc]; rfl, hp2, ?_, rfl⟩
          rw [← eraseU, ← U1_snoc]; rfl
        · have hy0 : y = [] := List.length_eq_zero_iff.1 (by omega)
          have hn : 0 < left.length := by omega
          have hnn : pickN y left.length t' = 0 := if_pos hy0
          have es : stepN y t' = t' := if_pos hy0
          conv => whnf
          refine ⟨by omega, ?_⟩
          conv => whnf
          refine nthM I left 0 hn ?_
          conv => whnf
          refine ⟨rfl, by decide, rfl, by omega, ?_⟩
          conv => whnf
          refine ⟨by omega, ?_⟩
          rw [show AV.lst ((left.map I).take ((0 : Int).toNat * 1)) (0 : Int).toNat .shared = L1 (left.take 0) from takeI left 0 (Nat.zero_le _)]
          conv => whnf
          refine ⟨by simp, by rw [List.length_take]; omega, ?_⟩
          conv => whnf
          refine ⟨by simp, ?_⟩
          conv => whnf
          refine ⟨by rw [List.length_take]; omega, ?_⟩
          conv => whnf
          rw [show IntKind.i64.wrap (0 + 1) = (1 : Int) by rw [IntKind.wrap_i64]; rfl]
          refine ⟨by omega, ?_⟩
          rw [show AV.lst (((left.map I).drop ((1 : Int).toNat * 1)).take ((left.length - (1 : Int).toNat) * 1)) (left.length - (1 : Int).toNat) .shared = L1 (left.drop 1) from dropI left 1]
          conv => whnf
          refine ⟨by simp, by rw [List.length_drop]; omega, ?_⟩
          conv => whnf
          refine ⟨by simp, ?_⟩
          conv => whnf
          refine ⟨by simp; omega, ?_⟩
          conv => whnf
          have hl : (left.eraseIdx 0).length = left.length - 1 := List.length_eraseIdx_of_lt hn
          have hs := stepN_le y t'
          rw [pickGo_step hn hnn] at hp1 hp2
          refine ⟨(left.eraseIdx 0).length, by omega, left.eraseIdx 0, order ++ [left[0]], stepN y t', rfl, by simp; omega, by simp; omega, by rw [← hp1, List.append_assoc]; rfl, hp2, ?_, rfl⟩
          rw [← eraseU, ← U1_snoc, es]; rfl
      · have h0 : left.length = 0 := by omega
        rw [h0, pickGo, List.append_nil] at hp1
        rw [h0, pickGo] at hp2
        have hd : p.drop i = p[i] :: p.drop (i + 1) := List.drop_eq_getElem_cons hlt
        rw [hd, chosenGo, ← hp1, ← hp2] at hc
        conv => whnf
        refine ⟨rfl, by decide, rfl, by omega, ?_⟩
        conv => whnf
        refine ⟨p.length - (i + 1), by omega, i + 1, t', out ++ [order], by omega, rfl, by omega, by simp; omega, by rw [← hc, List.append_assoc]; rfl, ?_, rfl⟩
        rw [← U2_snoc, ← wrapS i (by omega)]; rfl
  · obtain rfl : i = p.length := by omega
    rw [List.drop_length, chosenGo, List.append_nil] at hc
    conv => whnf
    exact ret_own (.inr rfl) (pu2 _ _ _) (.inr (by rw [← hc]; rfl))
end Go.Proofs.Ytlcebaejlnpdeaa.Ab

/-
  SeamUpside.
-/
namespace Go.Proofs.Ytlcebaejlnpdeaa.Ab
open Go
set_option maxRecDepth 20000
set_option maxHeartbeats 4000000
theorem pair_good {p : List (List Int)} (hv : Val p) (i : Nat) (h : i + 2 ≤ p.length) : pairErr p i = 0 ∧ pairV p i = fewestOf ((p.drop i).take 2) := by
  have e : pairErr p i = 0 := by rw [pairErr, if_neg (by simp [hv.check]), if_neg (by omega)]
  exact ⟨e, by rw [pairV, if_pos e]; rfl⟩
theorem Val.two {p : List (List Int)} (hv : Val p) (i : Nat) (h : i + 2 ≤ p.length) : Val ((p.drop i).take 2) := by
  have hm : ∀ l ∈ (p.drop i).take 2, l ∈ p := fun l hl => List.mem_of_mem_drop (List.mem_of_mem_take hl)
  have hl2 : ((p.drop i).take 2).length = 2 := by simp; omega
  have hh : ((p.drop i).take 2).headD [] ∈ p := by
    cases hq : (p.drop i).take 2 with
    | nil => rw [hq] at hl2; simp at hl2
    | cons a r => exact hm a (by rw [hq]; simp)
  exact ⟨by omega, by omega, fun l hl => hv.s1 l (hm l hl), fun l hl => hv.s5 l (hm l hl), fun l hl => hv.w l (hm l hl), fun l hl => by rw [hv.eq l (hm l hl), hv.eq _ hh]⟩
end Go.Proofs.Ytlcebaejlnpdeaa.Ab

/-
  The fewest meetings of a panel, of its neighbours, and sure seams.
-/
namespace Go.Proofs.Ytlcebaejlnpdeaa.Ab
open Go
end Go.Proofs.Ytlcebaejlnpdeaa.Ab
