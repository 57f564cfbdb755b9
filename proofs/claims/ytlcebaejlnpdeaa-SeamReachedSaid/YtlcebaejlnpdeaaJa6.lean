/-
  Contracts: the scanning loops of slices' partitionEqualOrdered and partitionOrdered.
-/
import Derived.Test.YtlcebaejlnpdeaaJa5
import Derived.Test.YtlcebaejlnpdeaaJa4
import Derived.Test.YtlcebaejlnpdeaaProg
import Derived.KernelRfl
import Derived.Test.YtlcebaejlnpdeaaJa3
set_option linter.unusedSimpArgs false
set_option linter.unusedVariables false
set_option linter.unusedSectionVars false
namespace Go.Proofs.Ytlcebaejlnpdeaa.Ab
open Go
set_option maxRecDepth 20000
set_option maxHeartbeats 4000000
theorem scanDown_eq (P : Int → Bool) (d : Array Int) (i q : Nat) (h : 1 ≤ i) : Sort.scanDown P d i q = if i ≤ q && P d[q]! then Sort.scanDown P d i (q - 1) else q := by
  cases q with
  | zero => rw [Sort.scanDown, if_neg (by simp; omega)]
  | succ q => rw [Sort.scanDown]; rfl
theorem scanUp_eq (P : Int → Bool) (d : Array Int) (j q : Nat) : Sort.scanUp P d j q = if q ≤ j && P d[q]! then Sort.scanUp P d j (q + 1) else q := by
  rw [Sort.scanUp]
section
variable {H : List AObj} {id lo : Nat} (hid : id < H.length)
include hid
theorem scan123a (d : Array Int) (a i j : Nat) (hd : d.size ≤ 1000) (ha : a < d.size) (hj : j < d.size) (hi1 : 1 ≤ i) (hij : i ≤ j + 1) (Q : Ex → List AV → List AObj → Prop) 
    (k : ∀ q (y0 y1 y2 y3 y4 y5 y6 y7 y8 y9 y10 y11 : AV), i ≤ q → q ≤ j + 1 → Sort.scanUp (fun x => !Sort.ltInt d[a]! x) d j i = q → Q .normal (slots 84 [(0, Da id d.size), (1, I a), (9, I (q : Nat)), (10, I (j : Nat)), (32, y0), (33, y1), (34, y2), (35, y3), (36, y4), (37, y5), (38, y6), (39, y7), (40, y8), (41, y9), (42, y10), (43, y11)]) (H.set id (Cd d))) :
    wpR Go.Proofs.Try.prog ann123 123 lo none rc123_2 (slots 84 [(0, Da id d.size), (1, I a), (9, I (i : Nat)), (10, I (j : Nat))]) (H.set id (Cd d)) Q := by
  have gs : ∀ c : AObj, (H.set id c)[id]? = some c := fun c => by rw [List.getElem?_set_self hid]
  unfold rc123_2
  conv => whnf
  refine .intro (fun m T H' => ∃ q, i ≤ q ∧ q ≤ j + 1 ∧ m = j + 1 - q ∧ Sort.scanUp (fun x => !Sort.ltInt d[a]! x) d j q = Sort.scanUp (fun x => !Sort.ltInt d[a]! x) d j i ∧ T = slots 84 [(0, Da id d.size), (1, I a), (9, I (q : Nat)), (10, I (j : Nat))] ∧ H' = H.set id (Cd d)) (j + 1 - i) ⟨i, by omega, by omega, rfl, rfl, rfl, rfl⟩ ?_
  rintro m T H' ⟨q, hq1, hq2, hm, hqe, rfl, rfl⟩
  unfold rc123_1
  conv => whnf
  by_cases h : ((q : Nat) : Int) ≤ ((j : Nat) : Int)
  · rw [decide_eq_true h]
    conv => whnf
    refine ⟨by omega, ?_⟩
    conv => whnf
    refine nthK_of (by first | exact gs _ | exact gss _ _ | assumption) ?_
    conv => whnf
    refine rdK (a) (by omega) (by omega) ?_
    conv => whnf
    refine ⟨by omega, ?_⟩
    conv => whnf
    refine nthK_of (by first | exact gs _ | exact gss _ _ | assumption) ?_
    conv => whnf
    refine rdK (q) (by omega) (by omega) ?_
    conv => whnf
    refine ⟨by first | rfl | simp only [List.all_cons, List.all_nil, pu0, pub, pu1, pu2, pu1', pu2', pun, puf, puP, puP', puQ, puQ', Bool.and_true, Bool.and_self], _, less_ok d[a]! d[q]!, acc0, ?_⟩
    conv => whnf
    by_cases h5 : d[a]! < d[q]!
    · rw [decide_eq_true h5]
      conv => whnf
      have e : Sort.scanUp (fun x => !Sort.ltInt d[a]! x) d j i = q := by
        rw [← hqe, scanUp_eq, if_neg (by simp only [Sort.ltInt, Bool.and_eq_true, decide_eq_true_eq, Bool.not_eq_true', decide_eq_false_iff_not]; exact fun hh => hh.2 h5)]
      exact k q _ _ _ _ _ _ _ _ _ _ _ _  (by omega) (by omega) e
    · rw [decide_eq_false h5]
      conv => whnf
      exact ⟨j + 1 - (q + 1), by omega, q + 1, by omega, by omega, rfl, by rw [← hqe, scanUp_eq _ _ _ q, if_pos (by simp only [Sort.ltInt, Bool.and_eq_true, decide_eq_true_eq, Bool.not_eq_true', decide_eq_false_iff_not]; exact ⟨by omega, h5⟩)], by rw [← wrapS q (by omega)]; rfl, rfl⟩
  · rw [decide_eq_false h]
    conv => whnf
    have e : Sort.scanUp (fun x => !Sort.ltInt d[a]! x) d j i = q := by
      rw [← hqe, scanUp_eq, if_neg (by simp only [Sort.ltInt, Bool.and_eq_true, decide_eq_true_eq, Bool.not_eq_true', decide_eq_false_iff_not]; exact fun hh => h (by omega))]
    exact k q _ _ _ _ _ _ _ _ _ _ _ _  (by omega) (by omega) e
theorem scan123b (d : Array Int) (a i j : Nat) (hd : d.size ≤ 1000) (ha : a < d.size) (hj : j < d.size) (hi1 : 1 ≤ i) (hij : i ≤ j + 1) (Q : Ex → List AV → List AObj → Prop) (x0 x1 x2 x3 x4 x5 x6 x7 x8 x9 x10 x11 : AV)
    (k : ∀ q (y0 y1 y2 y3 y4 y5 y6 y7 y8 y9 y10 : AV), q ≤ j → i ≤ q + 1 → Sort.scanDown (fun x => Sort.ltInt d[a]! x) d i j = q → Q .normal (slots 84 [(0, Da id d.size), (1, I a), (9, I (i : Nat)), (10, I (q : Nat)), (49, y0), (50, y1), (51, y2), (52, y3), (53, y4), (54, y5), (55, y6), (56, y7), (57, y8), (58, y9), (59, y10)]) (H.set id (Cd d))) :
    wpR Go.Proofs.Try.prog ann123 123 lo none rc123_4 (slots 84 [(0, Da id d.size), (1, I a), (9, I (i : Nat)), (10, I (j : Nat)), (32, x0), (33, x1), (34, x2), (35, x3), (36, x4), (37, x5), (38, x6), (39, x7), (40, x8), (41, x9), (42, x10), (43, x11)]) (H.set id (Cd d)) Q := by
  have gs : ∀ c : AObj, (H.set id c)[id]? = some c := fun c => by rw [List.getElem?_set_self hid]
  unfold rc123_4
  conv => whnf
  refine .intro (fun m T H' => ∃ q, q ≤ j ∧ i ≤ q + 1 ∧ m = q ∧ Sort.scanDown (fun x => Sort.ltInt d[a]! x) d i q = Sort.scanDown (fun x => Sort.ltInt d[a]! x) d i j ∧ T = slots 84 [(0, Da id d.size), (1, I a), (9, I (i : Nat)), (10, I (q : Nat))] ∧ H' = H.set id (Cd d)) (j) ⟨j, by omega, by omega, rfl, rfl, rfl, rfl⟩ ?_
  rintro m T H' ⟨q, hq1, hq2, hm, hqe, rfl, rfl⟩
  unfold rc123_3
  conv => whnf
  by_cases h : ((i : Nat) : Int) ≤ ((q : Nat) : Int)
  · rw [decide_eq_true h]
    conv => whnf
    refine ⟨by omega, ?_⟩
    conv => whnf
    refine nthK_of (by first | exact gs _ | exact gss _ _ | assumption) ?_
    conv => whnf
    refine rdK (a) (by omega) (by omega) ?_
    conv => whnf
    refine ⟨by omega, ?_⟩
    conv => whnf
    refine nthK_of (by first | exact gs _ | exact gss _ _ | assumption) ?_
    conv => whnf
    refine rdK (q) (by omega) (by omega) ?_
    conv => whnf
    refine ⟨by first | rfl | simp only [List.all_cons, List.all_nil, pu0, pub, pu1, pu2, pu1', pu2', pun, puf, puP, puP', puQ, puQ', Bool.and_true, Bool.and_self], _, less_ok d[a]! d[q]!, acc0, ?_⟩
    conv => whnf
    by_cases h5 : d[a]! < d[q]!
    · rw [decide_eq_true h5]
      conv => whnf
      exact ⟨(q - 1), by omega, q - 1, by omega, by omega, rfl, by rw [← hqe, scanDown_eq _ _ _ q hi1, if_pos (by simp only [Sort.ltInt, Bool.and_eq_true, decide_eq_true_eq]; exact ⟨by omega, h5⟩)], by rw [show ((q - 1 : Nat) : Int) = IntKind.i64.wrap ((q : Int) - 1) by rw [wrapI _ (by omega) (by omega)]; omega]; rfl, rfl⟩
    · rw [decide_eq_false h5]
      conv => whnf
      have e : Sort.scanDown (fun x => Sort.ltInt d[a]! x) d i j = q := by
        rw [← hqe, scanDown_eq _ _ _ _ hi1, if_neg (by simp only [Sort.ltInt, Bool.and_eq_true, decide_eq_true_eq]; exact fun hh => h5 hh.2)]
      exact k q _ _ _ _ _ _ _ _ _ _ _  (by omega) (by omega) e
  · rw [decide_eq_false h]
    conv => whnf
    have e : Sort.scanDown (fun x => Sort.ltInt d[a]! x) d i j = q := by
      rw [← hqe, scanDown_eq _ _ _ _ hi1, if_neg (by simp only [Sort.ltInt, Bool.and_eq_true, decide_eq_true_eq]; exact fun hh => h (by omega))]
    exact k q _ _ _ _ _ _ _ _ _ _ _  (by omega) (by omega) e
theorem scan124a (d : Array Int) (a i j : Nat) (hd : d.size ≤ 1000) (ha : a < d.size) (hj : j < d.size) (hi1 : 1 ≤ i) (hij : i ≤ j + 1) (Q : Ex → List AV → List AObj → Prop) (x0 x1 x2 : AV)
    (k : ∀ q (y0 y1 y2 y3 y4 y5 y6 y7 y8 y9 y10 : AV), i ≤ q → q ≤ j + 1 → Sort.scanUp (fun x => Sort.ltInt x d[a]!) d j i = q → Q .normal (slots 168 [(0, Da id d.size), (1, I a), (10, I (q : Nat)), (11, I (j : Nat)), (33, y0), (34, y1), (35, y2), (36, y3), (37, y4), (38, y5), (39, y6), (40, y7), (41, y8), (42, y9), (43, y10)]) (H.set id (Cd d))) :
    wpR Go.Proofs.Try.prog ann124 124 lo none rc124_2 (slots 168 [(0, Da id d.size), (1, I a), (3, x0), (8, x1), (9, x2), (10, I (i : Nat)), (11, I (j : Nat))]) (H.set id (Cd d)) Q := by
  have gs : ∀ c : AObj, (H.set id c)[id]? = some c := fun c => by rw [List.getElem?_set_self hid]
  unfold rc124_2
  conv => whnf
  refine .intro (fun m T H' => ∃ q, i ≤ q ∧ q ≤ j + 1 ∧ m = j + 1 - q ∧ Sort.scanUp (fun x => Sort.ltInt x d[a]!) d j q = Sort.scanUp (fun x => Sort.ltInt x d[a]!) d j i ∧ T = slots 168 [(0, Da id d.size), (1, I a), (10, I (q : Nat)), (11, I (j : Nat))] ∧ H' = H.set id (Cd d)) (j + 1 - i) ⟨i, by omega, by omega, rfl, rfl, rfl, rfl⟩ ?_
  rintro m T H' ⟨q, hq1, hq2, hm, hqe, rfl, rfl⟩
  unfold rc124_1
  conv => whnf
  by_cases h : ((q : Nat) : Int) ≤ ((j : Nat) : Int)
  · rw [decide_eq_true h]
    conv => whnf
    refine ⟨by omega, ?_⟩
    conv => whnf
    refine nthK_of (by first | exact gs _ | exact gss _ _ | assumption) ?_
    conv => whnf
    refine rdK (q) (by omega) (by omega) ?_
    conv => whnf
    refine ⟨by omega, ?_⟩
    conv => whnf
    refine nthK_of (by first | exact gs _ | exact gss _ _ | assumption) ?_
    conv => whnf
    refine rdK (a) (by omega) (by omega) ?_
    conv => whnf
    refine ⟨by first | rfl | simp only [List.all_cons, List.all_nil, pu0, pub, pu1, pu2, pu1', pu2', pun, puf, puP, puP', puQ, puQ', Bool.and_true, Bool.and_self], _, less_ok d[q]! d[a]!, acc0, ?_⟩
    conv => whnf
    by_cases h5 : d[q]! < d[a]!
    · rw [decide_eq_true h5]
      conv => whnf
      exact ⟨j + 1 - (q + 1), by omega, q + 1, by omega, by omega, rfl, by rw [← hqe, scanUp_eq _ _ _ q, if_pos (by simp only [Sort.ltInt, Bool.and_eq_true, decide_eq_true_eq]; exact ⟨by omega, h5⟩)], by rw [← wrapS q (by omega)]; rfl, rfl⟩
    · rw [decide_eq_false h5]
      conv => whnf
      have e : Sort.scanUp (fun x => Sort.ltInt x d[a]!) d j i = q := by
        rw [← hqe, scanUp_eq, if_neg (by simp only [Sort.ltInt, Bool.and_eq_true, decide_eq_true_eq]; exact fun hh => h5 hh.2)]
      exact k q _ _ _ _ _ _ _ _ _ _ _  (by omega) (by omega) e
  · rw [decide_eq_false h]
    conv => whnf
    have e : Sort.scanUp (fun x => Sort.ltInt x d[a]!) d j i = q := by
      rw [← hqe, scanUp_eq, if_neg (by simp only [Sort.ltInt, Bool.and_eq_true, decide_eq_true_eq]; exact fun hh => h (by omega))]
    exact k q _ _ _ _ _ _ _ _ _ _ _  (by omega) (by omega) e
theorem scan124b (d : Array Int) (a i j : Nat) (hd : d.size ≤ 1000) (ha : a < d.size) (hj : j < d.size) (hi1 : 1 ≤ i) (hij : i ≤ j + 1) (Q : Ex → List AV → List AObj → Prop) (x0 x1 x2 x3 x4 x5 x6 x7 x8 x9 x10 : AV)
    (k : ∀ q (y0 y1 y2 y3 y4 y5 y6 y7 y8 y9 y10 y11 : AV), q ≤ j → i ≤ q + 1 → Sort.scanDown (fun x => !Sort.ltInt x d[a]!) d i j = q → Q .normal (slots 168 [(0, Da id d.size), (1, I a), (10, I (i : Nat)), (11, I (q : Nat)), (49, y0), (50, y1), (51, y2), (52, y3), (53, y4), (54, y5), (55, y6), (56, y7), (57, y8), (58, y9), (59, y10), (60, y11)]) (H.set id (Cd d))) :
    wpR Go.Proofs.Try.prog ann124 124 lo none rc124_4 (slots 168 [(0, Da id d.size), (1, I a), (10, I (i : Nat)), (11, I (j : Nat)), (33, x0), (34, x1), (35, x2), (36, x3), (37, x4), (38, x5), (39, x6), (40, x7), (41, x8), (42, x9), (43, x10)]) (H.set id (Cd d)) Q := by
  have gs : ∀ c : AObj, (H.set id c)[id]? = some c := fun c => by rw [List.getElem?_set_self hid]
  unfold rc124_4
  conv => whnf
  refine .intro (fun m T H' => ∃ q, q ≤ j ∧ i ≤ q + 1 ∧ m = q ∧ Sort.scanDown (fun x => !Sort.ltInt x d[a]!) d i q = Sort.scanDown (fun x => !Sort.ltInt x d[a]!) d i j ∧ T = slots 168 [(0, Da id d.size), (1, I a), (10, I (i : Nat)), (11, I (q : Nat))] ∧ H' = H.set id (Cd d)) (j) ⟨j, by omega, by omega, rfl, rfl, rfl, rfl⟩ ?_
  rintro m T H' ⟨q, hq1, hq2, hm, hqe, rfl, rfl⟩
  unfold rc124_3
  conv => whnf
  by_cases h : ((i : Nat) : Int) ≤ ((q : Nat) : Int)
  · rw [decide_eq_true h]
    conv => whnf
    refine ⟨by omega, ?_⟩
    conv => whnf
    refine nthK_of (by first | exact gs _ | exact gss _ _ | assumption) ?_
    conv => whnf
    refine rdK (q) (by omega) (by omega) ?_
    conv => whnf
    refine ⟨by omega, ?_⟩
    conv => whnf
    refine nthK_of (by first | exact gs _ | exact gss _ _ | assumption) ?_
    conv => whnf
    refine rdK (a) (by omega) (by omega) ?_
    conv => whnf
    refine ⟨by first | rfl | simp only [List.all_cons, List.all_nil, pu0, pub, pu1, pu2, pu1', pu2', pun, puf, puP, puP', puQ, puQ', Bool.and_true, Bool.and_self], _, less_ok d[q]! d[a]!, acc0, ?_⟩
    conv => whnf
    by_cases h5 : d[q]! < d[a]!
    · rw [decide_eq_true h5]
      conv => whnf
      have e : Sort.scanDown (fun x => !Sort.ltInt x d[a]!) d i j = q := by
        rw [← hqe, scanDown_eq _ _ _ _ hi1, if_neg (by simp only [Sort.ltInt, Bool.and_eq_true, decide_eq_true_eq, Bool.not_eq_true', decide_eq_false_iff_not]; exact fun hh => hh.2 h5)]
      exact k q _ _ _ _ _ _ _ _ _ _ _ _  (by omega) (by omega) e
    · rw [decide_eq_false h5]
      conv => whnf
      exact ⟨(q - 1), by omega, q - 1, by omega, by omega, rfl, by rw [← hqe, scanDown_eq _ _ _ q hi1, if_pos (by simp only [Sort.ltInt, Bool.and_eq_true, decide_eq_true_eq, Bool.not_eq_true', decide_eq_false_iff_not]; exact ⟨by omega, h5⟩)], by rw [show ((q - 1 : Nat) : Int) = IntKind.i64.wrap ((q : Int) - 1) by rw [wrapI _ (by omega) (by omega)]; omega]; rfl, rfl⟩
  · rw [decide_eq_false h]
    conv => whnf
    have e : Sort.scanDown (fun x => !Sort.ltInt x d[a]!) d i j = q := by
      rw [← hqe, scanDown_eq _ _ _ _ hi1, if_neg (by simp only [Sort.ltInt, Bool.and_eq_true, decide_eq_true_eq, Bool.not_eq_true', decide_eq_false_iff_not]; exact fun hh => h (by omega))]
    exact k q _ _ _ _ _ _ _ _ _ _ _ _  (by omega) (by omega) e
theorem scan124c (d : Array Int) (a i j : Nat) (hd : d.size ≤ 1000) (ha : a < d.size) (hj : j < d.size) (hi1 : 1 ≤ i) (hij : i ≤ j + 1) (Q : Ex → List AV → List AObj → Prop) 
    (k : ∀ q (y0 y1 y2 y3 y4 y5 y6 y7 y8 y9 y10 : AV), i ≤ q → q ≤ j + 1 → Sort.scanUp (fun x => Sort.ltInt x d[a]!) d j i = q → Q .normal (slots 168 [(0, Da id d.size), (1, I a), (10, I (q : Nat)), (11, I (j : Nat)), (102, y0), (103, y1), (104, y2), (105, y3), (106, y4), (107, y5), (108, y6), (109, y7), (110, y8), (111, y9), (112, y10)]) (H.set id (Cd d))) :
    wpR Go.Proofs.Try.prog ann124 124 lo none rc124_7 (slots 168 [(0, Da id d.size), (1, I a), (10, I (i : Nat)), (11, I (j : Nat))]) (H.set id (Cd d)) Q := by
  have gs : ∀ c : AObj, (H.set id c)[id]? = some c := fun c => by rw [List.getElem?_set_self hid]
  unfold rc124_7
  conv => whnf
  refine .intro (fun m T H' => ∃ q, i ≤ q ∧ q ≤ j + 1 ∧ m = j + 1 - q ∧ Sort.scanUp (fun x => Sort.ltInt x d[a]!) d j q = Sort.scanUp (fun x => Sort.ltInt x d[a]!) d j i ∧ T = slots 168 [(0, Da id d.size), (1, I a), (10, I (q : Nat)), (11, I (j : Nat))] ∧ H' = H.set id (Cd d)) (j + 1 - i) ⟨i, by omega, by omega, rfl, rfl, rfl, rfl⟩ ?_
  rintro m T H' ⟨q, hq1, hq2, hm, hqe, rfl, rfl⟩
  unfold rc124_6
  conv => whnf
  by_cases h : ((q : Nat) : Int) ≤ ((j : Nat) : Int)
  · rw [decide_eq_true h]
    conv => whnf
    refine ⟨by omega, ?_⟩
    conv => whnf
    refine nthK_of (by first | exact gs _ | exact gss _ _ | assumption) ?_
    conv => whnf
    refine rdK (q) (by omega) (by omega) ?_
    conv => whnf
    refine ⟨by omega, ?_⟩
    conv => whnf
    refine nthK_of (by first | exact gs _ | exact gss _ _ | assumption) ?_
    conv => whnf
    refine rdK (a) (by omega) (by omega) ?_
    conv => whnf
    refine ⟨by first | rfl | simp only [List.all_cons, List.all_nil, pu0, pub, pu1, pu2, pu1', pu2', pun, puf, puP, puP', puQ, puQ', Bool.and_true, Bool.and_self], _, less_ok d[q]! d[a]!, acc0, ?_⟩
    conv => whnf
    by_cases h5 : d[q]! < d[a]!
    · rw [decide_eq_true h5]
      conv => whnf
      exact ⟨j + 1 - (q + 1), by omega, q + 1, by omega, by omega, rfl, by rw [← hqe, scanUp_eq _ _ _ q, if_pos (by simp only [Sort.ltInt, Bool.and_eq_true, decide_eq_true_eq]; exact ⟨by omega, h5⟩)], by rw [← wrapS q (by omega)]; rfl, rfl⟩
    · rw [decide_eq_false h5]
      conv => whnf
      have e : Sort.scanUp (fun x => Sort.ltInt x d[a]!) d j i = q := by
        rw [← hqe, scanUp_eq, if_neg (by simp only [Sort.ltInt, Bool.and_eq_true, decide_eq_true_eq]; exact fun hh => h5 hh.2)]
      exact k q _ _ _ _ _ _ _ _ _ _ _  (by omega) (by omega) e
  · rw [decide_eq_false h]
    conv => whnf
    have e : Sort.scanUp (fun x => Sort.ltInt x d[a]!) d j i = q := by
      rw [← hqe, scanUp_eq, if_neg (by simp only [Sort.ltInt, Bool.and_eq_true, decide_eq_true_eq]; exact fun hh => h (by omega))]
    exact k q _ _ _ _ _ _ _ _ _ _ _  (by omega) (by omega) e
theorem scan124d (d : Array Int) (a i j : Nat) (hd : d.size ≤ 1000) (ha : a < d.size) (hj : j < d.size) (hi1 : 1 ≤ i) (hij : i ≤ j + 1) (Q : Ex → List AV → List AObj → Prop) (x0 x1 x2 x3 x4 x5 x6 x7 x8 x9 x10 : AV)
    (k : ∀ q (y0 y1 y2 y3 y4 y5 y6 y7 y8 y9 y10 y11 : AV), q ≤ j → i ≤ q + 1 → Sort.scanDown (fun x => !Sort.ltInt x d[a]!) d i j = q → Q .normal (slots 168 [(0, Da id d.size), (1, I a), (10, I (i : Nat)), (11, I (q : Nat)), (118, y0), (119, y1), (120, y2), (121, y3), (122, y4), (123, y5), (124, y6), (125, y7), (126, y8), (127, y9), (128, y10), (129, y11)]) (H.set id (Cd d))) :
    wpR Go.Proofs.Try.prog ann124 124 lo none rc124_9 (slots 168 [(0, Da id d.size), (1, I a), (10, I (i : Nat)), (11, I (j : Nat)), (102, x0), (103, x1), (104, x2), (105, x3), (106, x4), (107, x5), (108, x6), (109, x7), (110, x8), (111, x9), (112, x10)]) (H.set id (Cd d)) Q := by
  have gs : ∀ c : AObj, (H.set id c)[id]? = some c := fun c => by rw [List.getElem?_set_self hid]
  unfold rc124_9
  conv => whnf
  refine .intro (fun m T H' => ∃ q, q ≤ j ∧ i ≤ q + 1 ∧ m = q ∧ Sort.scanDown (fun x => !Sort.ltInt x d[a]!) d i q = Sort.scanDown (fun x => !Sort.ltInt x d[a]!) d i j ∧ T = slots 168 [(0, Da id d.size), (1, I a), (10, I (i : Nat)), (11, I (q : Nat))] ∧ H' = H.set id (Cd d)) (j) ⟨j, by omega, by omega, rfl, rfl, rfl, rfl⟩ ?_
  rintro m T H' ⟨q, hq1, hq2, hm, hqe, rfl, rfl⟩
  unfold rc124_8
  conv => whnf
  by_cases h : ((i : Nat) : Int) ≤ ((q : Nat) : Int)
  · rw [decide_eq_true h]
    conv => whnf
    refine ⟨by omega, ?_⟩
    conv => whnf
    refine nthK_of (by first | exact gs _ | exact gss _ _ | assumption) ?_
    conv => whnf
    refine rdK (q) (by omega) (by omega) ?_
    conv => whnf
    refine ⟨by omega, ?_⟩
    conv => whnf
    refine nthK_of (by first | exact gs _ | exact gss _ _ | assumption) ?_
    conv => whnf
    refine rdK (a) (by omega) (by omega) ?_
    conv => whnf
    refine ⟨by first | rfl | simp only [List.all_cons, List.all_nil, pu0, pub, pu1, pu2, pu1', pu2', pun, puf, puP, puP', puQ, puQ', Bool.and_true, Bool.and_self], _, less_ok d[q]! d[a]!, acc0, ?_⟩
    conv => whnf
    by_cases h5 : d[q]! < d[a]!
    · rw [decide_eq_true h5]
      conv => whnf
      have e : Sort.scanDown (fun x => !Sort.ltInt x d[a]!) d i j = q := by
        rw [← hqe, scanDown_eq _ _ _ _ hi1, if_neg (by simp only [Sort.ltInt, Bool.and_eq_true, decide_eq_true_eq, Bool.not_eq_true', decide_eq_false_iff_not]; exact fun hh => hh.2 h5)]
      exact k q _ _ _ _ _ _ _ _ _ _ _ _  (by omega) (by omega) e
    · rw [decide_eq_false h5]
      conv => whnf
      exact ⟨(q - 1), by omega, q - 1, by omega, by omega, rfl, by rw [← hqe, scanDown_eq _ _ _ q hi1, if_pos (by simp only [Sort.ltInt, Bool.and_eq_true, decide_eq_true_eq, Bool.not_eq_true', decide_eq_false_iff_not]; exact ⟨by omega, h5⟩)], by rw [show ((q - 1 : Nat) : Int) = IntKind.i64.wrap ((q : Int) - 1) by rw [wrapI _ (by omega) (by omega)]; omega]; rfl, rfl⟩
  · rw [decide_eq_false h]
    conv => whnf
    have e : Sort.scanDown (fun x => !Sort.ltInt x d[a]!) d i j = q := by
      rw [← hqe, scanDown_eq _ _ _ _ hi1, if_neg (by simp only [Sort.ltInt, Bool.and_eq_true, decide_eq_true_eq, Bool.not_eq_true', decide_eq_false_iff_not]; exact fun hh => h (by omega))]
    exact k q _ _ _ _ _ _ _ _ _ _ _ _  (by omega) (by omega) e
end
end Go.Proofs.Ytlcebaejlnpdeaa.Ab

/-
  Contracts: slices' partitionEqualOrdered, partitionOrdered.
-/
namespace Go.Proofs.Ytlcebaejlnpdeaa.Ab
open Go
set_option maxRecDepth 20000
set_option maxHeartbeats 4000000
theorem partEq_step (a i j i2 j2 : Nat) (d : Array Int) (h1 : Sort.scanUp (fun x => !Sort.ltInt d[a]! x) d j i = i2) (h2 : Sort.scanDown (fun x => Sort.ltInt d[a]! x) d i2 j = j2) (hi : i ≤ i2) (hj : j2 ≤ j) :
    Sort.partEqLoop Sort.ltInt a i j d = if i2 > j2 then (i2, d) else Sort.partEqLoop Sort.ltInt a (i2 + 1) (j2 - 1) (Sort.swp d i2 j2) := by
  rw [Sort.partEqLoop.eq_1]
  simp only [h1, h2]
  split
  · rfl
  · rw [dif_pos (by omega)]
theorem part_step (a i j i2 j2 : Nat) (d : Array Int) (h1 : Sort.scanUp (fun x => Sort.ltInt x d[a]!) d j i = i2) (h2 : Sort.scanDown (fun x => !Sort.ltInt x d[a]!) d i2 j = j2) (hi : i ≤ i2) (hj : j2 ≤ j) :
    Sort.partLoop Sort.ltInt a i j d = if i2 > j2 then (j2, d) else Sort.partLoop Sort.ltInt a (i2 + 1) (j2 - 1) (Sort.swp d i2 j2) := by
  rw [Sort.partLoop.eq_1]
  simp only [h1, h2]
  split
  · rfl
  · rw [dif_pos (by omega)]
theorem cd_pair (d : Array Int) (i j : Nat) : AObj.cells (((d.setIfInBounds i d[j]!).setIfInBounds j d[i]!).toList.map I) = Cd (Sort.swp d i j) := rfl
section
variable {H : List AObj} {id lo : Nat} (hlo : lo ≤ id)
include hlo
theorem partEq_sem (d : Array Int) (a b p : Nat) (hd : d.size ≤ 1000) (hab : a < b) (hb : b ≤ d.size) (hp : p < d.size) (hH : H[id]? = some (Cd d)) :
    Sem Go.Proofs.Try.prog (.fn 123) [Da id d.size, I a, I b, I p] H lo (I (Sort.partitionEqual Sort.ltInt d a b p).1) (H.set id (Cd (Sort.partitionEqual Sort.ltInt d a b p).2)) := by
  have hid := (List.getElem?_eq_some_iff.1 hH).1
  have hbl : Nat.ble lo id = true := Nat.ble_eq_true_of_le hlo
  have gs : ∀ c : AObj, (H.set id c)[id]? = some c := fun c => by rw [List.getElem?_set_self hid]
  have gss : ∀ c e : AObj, ((H.set id c).set id e)[id]? = some e := fun c e => by rw [List.set_set, gs]
  refine fn_semQ hmix lk123 rfl ⟨by simp, fun j h1 h2 => by rw [List.getElem?_set_ne (by omega)]⟩ fun Q hQ => ?_
  unfold rc123 rc123_9
  obtain ⟨c8, g8⟩ : ∃ c, rc123_8 = c := ⟨_, rfl⟩
  rw [g8]
  conv => whnf
  refine ⟨by omega, ?_⟩
  conv => whnf
  refine nthK_of (by first | exact gs _ | exact gss _ _ | assumption) ?_
  conv => whnf
  refine rdK (p) (by omega) (by omega) ?_
  conv => whnf
  refine ⟨by omega, ?_⟩
  conv => whnf
  refine nthK_of (by first | exact gs _ | exact gss _ _ | assumption) ?_
  conv => whnf
  refine rdK (a) (by omega) (by omega) ?_
  conv => whnf
  refine ⟨by omega, ?_⟩
  conv => whnf
  rw [hbl]
  conv => whnf
  refine nthK_of (by first | exact gs _ | exact gss _ _ | assumption) ?_
  conv => whnf
  refine wrK (a) (by omega) (by first | omega | (simp only [Array.size_setIfInBounds]; omega)) ?_
  conv => whnf
  refine ⟨by omega, ?_⟩
  conv => whnf
  rw [hbl]
  conv => whnf
  refine nthK_of (by first | exact gs _ | exact gss _ _ | assumption) ?_
  conv => whnf
  refine wrK (p) (by omega) (by first | omega | (simp only [Array.size_setIfInBounds]; omega)) ?_
  conv => whnf
  subst g8
  unfold rc123_8
  obtain ⟨c7, g7⟩ : ∃ c, rc123_7 = c := ⟨_, rfl⟩
  rw [g7, List.set_set, cd_pair]
  conv => whnf
  rw [wrapS a (by omega), show IntKind.i64.wrap ((b : Int) - 1) = ((b - 1 : Nat) : Int) by rw [wrapI _ (by omega) (by omega)]; omega]
  subst g7
  unfold rc123_7
  obtain ⟨c2, g2⟩ : ∃ c, rc123_2 = c := ⟨_, rfl⟩
  obtain ⟨c4, g4⟩ : ∃ c, rc123_4 = c := ⟨_, rfl⟩
  obtain ⟨c6, g6⟩ : ∃ c, rc123_6 = c := ⟨_, rfl⟩
  rw [g2, g4, g6]
  conv => whnf
  refine .intro (fun m T H' => ∃ i j d', a + 1 ≤ i ∧ i ≤ j + 1 ∧ j + 1 ≤ b ∧ m = j + 1 - i ∧ d'.size = d.size ∧ Sort.partEqLoop Sort.ltInt a i j d' = Sort.partitionEqual Sort.ltInt d a b p ∧ T = slots 84 [(0, Da id d.size), (1, I a), (9, I (i : Nat)), (10, I (j : Nat))] ∧ H' = H.set id (Cd d')) (b - (a + 1)) ⟨a + 1, b - 1, Sort.swp d a p, by omega, by omega, by omega, by omega, swp_size _ _ _, rfl, rfl, rfl⟩ ?_
  rintro m T H' ⟨i, j, d', h1, h2, h3, hm, hds, he, rfl, rfl⟩
  conv => whnf
  subst g2
  rw [← hds]
  refine scan123a hid d' a i j (by omega) (by omega) (by omega) (by omega) h2 _ fun i2 y0 y1 y2 y3 y4 y5 y6 y7 y8 y9 y10 y11 k1 k2 k3 => ?_
  conv => whnf
  subst g4
  refine scan123b hid d' a i2 j (by omega) (by omega) (by omega) (by omega) (by omega) _ _ _ _ _ _ _ _ _ _ _ _ _ fun j2 z0 z1 z2 z3 z4 z5 z6 z7 z8 z9 z10 l1 l2 l3 => ?_
  conv => whnf
  rw [partEq_step a i j i2 j2 d' k3 l3 (by omega) (by omega)] at he
  by_cases h : (j2 : Int) < (i2 : Int)
  · rw [decide_eq_true h]
    rw [if_pos (by omega)] at he
    conv => whnf
    refine hQ _ _ _ ⟨.inr rfl, ?_, by rw [← he]; rfl⟩
    rw [← he]
    exact ⟨by simp, fun j o hj => .inr hj⟩
  · rw [decide_eq_false h]
    rw [if_neg (by omega)] at he
    conv => whnf
    have hne : i2 ≠ j2 := fun e => by
      have a1 := (Sort.scanUp_spec (fun x => !Sort.ltInt d'[a]! x) d' j _ i rfl).2.2.2 (by rw [k3]; omega)
      have a2 := (Sort.scanDown_spec (fun x => Sort.ltInt d'[a]! x) d' i2 j).2.2.2 (by rw [l3]; omega) (by rw [l3]; omega)
      rw [k3] at a1
      rw [l3, ← e] at a2
      simp only [Bool.not_eq_false'] at a1 a2
      rw [a1] at a2; cases a2
    subst g6
    unfold rc123_6
    obtain ⟨c5, g5⟩ : ∃ c, rc123_5 = c := ⟨_, rfl⟩
    rw [g5]
    conv => whnf
    refine ⟨by omega, ?_⟩
    conv => whnf
    refine nthK_of (by first | exact gs _ | exact gss _ _ | assumption) ?_
    conv => whnf
    refine rdK (j2) (by omega) (by omega) ?_
    conv => whnf
    refine ⟨by omega, ?_⟩
    conv => whnf
    refine nthK_of (by first | exact gs _ | exact gss _ _ | assumption) ?_
    conv => whnf
    refine rdK (i2) (by omega) (by omega) ?_
    conv => whnf
    refine ⟨by omega, ?_⟩
    conv => whnf
    rw [hbl]
    conv => whnf
    refine nthK_of (by first | exact gs _ | exact gss _ _ | assumption) ?_
    conv => whnf
    refine wrK (i2) (by omega) (by first | omega | (simp only [Array.size_setIfInBounds]; omega)) ?_
    conv => whnf
    refine ⟨by omega, ?_⟩
    conv => whnf
    rw [hbl]
    conv => whnf
    refine nthK_of (by first | exact gs _ | exact gss _ _ | assumption) ?_
    conv => whnf
    refine wrK (j2) (by omega) (by first | omega | (simp only [Array.size_setIfInBounds]; omega)) ?_
    conv => whnf
    subst g5
    unfold rc123_5
    rw [List.set_set, List.set_set, cd_pair]
    conv => whnf
    refine ⟨j2 - 1 + 1 - (i2 + 1), by omega, i2 + 1, j2 - 1, Sort.swp d' i2 j2, by omega, by omega, by omega, rfl, by rw [swp_size], he, ?_, rfl⟩
    rw [← wrapS i2 (by omega), show ((j2 - 1 : Nat) : Int) = IntKind.i64.wrap ((j2 : Int) - 1) by rw [wrapI _ (by omega) (by omega)]; omega]; rfl
theorem part_sem (d : Array Int) (a b p : Nat) (hd : d.size ≤ 1000) (hab : a < b) (hb : b ≤ d.size) (hp : p < d.size) (hH : H[id]? = some (Cd d)) :
    Sem Go.Proofs.Try.prog (.fn 124) [Da id d.size, I a, I b, I p] H lo (.tuple [I (Sort.partition Sort.ltInt d a b p).1, B (Sort.partition Sort.ltInt d a b p).2.1]) (H.set id (Cd (Sort.partition Sort.ltInt d a b p).2.2)) := by
  have hid := (List.getElem?_eq_some_iff.1 hH).1
  have hbl : Nat.ble lo id = true := Nat.ble_eq_true_of_le hlo
  have gs : ∀ c : AObj, (H.set id c)[id]? = some c := fun c => by rw [List.getElem?_set_self hid]
  have gss : ∀ c e : AObj, ((H.set id c).set id e)[id]? = some e := fun c e => by rw [List.set_set, gs]
  refine fn_semQ hmix lk124 rfl ⟨by simp, fun j h1 h2 => by rw [List.getElem?_set_ne (by omega)]⟩ fun Q hQ => ?_
  obtain ⟨d1, hd1⟩ : ∃ x, x = Sort.swp d a p := ⟨_, rfl⟩
  have hs1 : d1.size = d.size := by rw [hd1]; exact swp_size _ _ _
  unfold rc124 rc124_17
  obtain ⟨c16, g16⟩ : ∃ c, rc124_16 = c := ⟨_, rfl⟩
  rw [g16]
  conv => whnf
  refine ⟨by omega, ?_⟩
  conv => whnf
  refine nthK_of (by first | exact gs _ | exact gss _ _ | assumption) ?_
  conv => whnf
  refine rdK (p) (by omega) (by omega) ?_
  conv => whnf
  refine ⟨by omega, ?_⟩
  conv => whnf
  refine nthK_of (by first | exact gs _ | exact gss _ _ | assumption) ?_
  conv => whnf
  refine rdK (a) (by omega) (by omega) ?_
  conv => whnf
  refine ⟨by omega, ?_⟩
  conv => whnf
  rw [hbl]
  conv => whnf
  refine nthK_of (by first | exact gs _ | exact gss _ _ | assumption) ?_
  conv => whnf
  refine wrK (a) (by omega) (by first | omega | (simp only [Array.size_setIfInBounds]; omega)) ?_
  conv => whnf
  refine ⟨by omega, ?_⟩
  conv => whnf
  rw [hbl]
  conv => whnf
  refine nthK_of (by first | exact gs _ | exact gss _ _ | assumption) ?_
  conv => whnf
  refine wrK (p) (by omega) (by first | omega | (simp only [Array.size_setIfInBounds]; omega)) ?_
  conv => whnf
  subst g16
  unfold rc124_16
  obtain ⟨c2, g2⟩ : ∃ c, rc124_2 = c := ⟨_, rfl⟩
  obtain ⟨c4, g4⟩ : ∃ c, rc124_4 = c := ⟨_, rfl⟩
  obtain ⟨c5, g5⟩ : ∃ c, rc124_5 = c := ⟨_, rfl⟩
  obtain ⟨c15, g15⟩ : ∃ c, rc124_15 = c := ⟨_, rfl⟩
  rw [g2, g4, g5, g15, List.set_set, cd_pair, ← hd1]
  conv => whnf
  rw [wrapS a (by omega), show IntKind.i64.wrap ((b : Int) - 1) = ((b - 1 : Nat) : Int) by rw [wrapI _ (by omega) (by omega)]; omega, ← hs1]
  subst g2
  refine scan124a hid d1 a (a + 1) (b - 1) (by omega) (by omega) (by omega) (by omega) (by omega) _ _ _ _ fun i2 y0 y1 y2 y3 y4 y5 y6 y7 y8 y9 y10 k1 k2 k3 => ?_
  conv => whnf
  subst g4
  refine scan124b hid d1 a i2 (b - 1) (by omega) (by omega) (by omega) (by omega) (by omega) _ _ _ _ _ _ _ _ _ _ _ _ fun j2 z0 z1 z2 z3 z4 z5 z6 z7 z8 z9 z10 z11 l1 l2 l3 => ?_
  conv => whnf
  have hP : Sort.partition Sort.ltInt d a b p = if i2 > j2 then (j2, true, Sort.swp d1 j2 a) else ((Sort.partLoop Sort.ltInt a (i2 + 1) (j2 - 1) (Sort.swp d1 i2 j2)).1, false, Sort.swp (Sort.partLoop Sort.ltInt a (i2 + 1) (j2 - 1) (Sort.swp d1 i2 j2)).2 (Sort.partLoop Sort.ltInt a (i2 + 1) (j2 - 1) (Sort.swp d1 i2 j2)).1 a) := by
    rw [Sort.partition]
    simp only [← hd1, k3, l3]
  rw [hP] at hQ
  clear hP
  by_cases h : (j2 : Int) < (i2 : Int)
  · rw [decide_eq_true h]
    rw [if_pos (by omega)] at hQ
    conv => whnf
    subst g5
    unfold rc124_5
    conv => whnf
    refine ⟨by omega, ?_⟩
    conv => whnf
    refine nthK_of (by first | exact gs _ | exact gss _ _ | assumption) ?_
    conv => whnf
    refine rdK (a) (by omega) (by omega) ?_
    conv => whnf
    refine ⟨by omega, ?_⟩
    conv => whnf
    refine nthK_of (by first | exact gs _ | exact gss _ _ | assumption) ?_
    conv => whnf
    refine rdK (j2) (by omega) (by omega) ?_
    conv => whnf
    refine ⟨by omega, ?_⟩
    conv => whnf
    rw [hbl]
    conv => whnf
    refine nthK_of (by first | exact gs _ | exact gss _ _ | assumption) ?_
    conv => whnf
    refine wrK (j2) (by omega) (by first | omega | (simp only [Array.size_setIfInBounds]; omega)) ?_
    conv => whnf
    refine ⟨by omega, ?_⟩
    conv => whnf
    rw [hbl]
    conv => whnf
    refine nthK_of (by first | exact gs _ | exact gss _ _ | assumption) ?_
    conv => whnf
    refine wrK (a) (by omega) (by first | omega | (simp only [Array.size_setIfInBounds]; omega)) ?_
    conv => whnf
    rw [List.set_set, List.set_set, cd_pair]
    exact hQ _ _ _ ⟨.inr rfl, ⟨by simp, fun j o hj => .inr hj⟩, rfl⟩
  · rw [decide_eq_false h]
    rw [if_neg (by omega)] at hQ
    conv => whnf
    have hne : i2 ≠ j2 := fun e => by
      have a1 := (Sort.scanUp_spec (fun x => Sort.ltInt x d1[a]!) d1 (b - 1) _ (a + 1) rfl).2.2.2 (by rw [k3]; omega)
      have a2 := (Sort.scanDown_spec (fun x => !Sort.ltInt x d1[a]!) d1 i2 (b - 1)).2.2.2 (by rw [l3]; omega) (by rw [l3]; omega)
      rw [k3] at a1
      rw [l3, ← e] at a2
      simp only [Bool.not_eq_false'] at a1 a2
      rw [a1] at a2; cases a2
    subst g15
    unfold rc124_15
    obtain ⟨c14, g14⟩ : ∃ c, rc124_14 = c := ⟨_, rfl⟩
    rw [g14]
    conv => whnf
    refine ⟨by omega, ?_⟩
    conv => whnf
    refine nthK_of (by first | exact gs _ | exact gss _ _ | assumption) ?_
    conv => whnf
    refine rdK (j2) (by omega) (by omega) ?_
    conv => whnf
    refine ⟨by omega, ?_⟩
    conv => whnf
    refine nthK_of (by first | exact gs _ | exact gss _ _ | assumption) ?_
    conv => whnf
    refine rdK (i2) (by omega) (by omega) ?_
    conv => whnf
    refine ⟨by omega, ?_⟩
    conv => whnf
    rw [hbl]
    conv => whnf
    refine nthK_of (by first | exact gs _ | exact gss _ _ | assumption) ?_
    conv => whnf
    refine wrK (i2) (by omega) (by first | omega | (simp only [Array.size_setIfInBounds]; omega)) ?_
    conv => whnf
    refine ⟨by omega, ?_⟩
    conv => whnf
    rw [hbl]
    conv => whnf
    refine nthK_of (by first | exact gs _ | exact gss _ _ | assumption) ?_
    conv => whnf
    refine wrK (j2) (by omega) (by first | omega | (simp only [Array.size_setIfInBounds]; omega)) ?_
    conv => whnf
    subst g14
    unfold rc124_14
    obtain ⟨c12, g12⟩ : ∃ c, rc124_12 = c := ⟨_, rfl⟩
    obtain ⟨c13, g13⟩ : ∃ c, rc124_13 = c := ⟨_, rfl⟩
    rw [g12, g13, List.set_set, List.set_set, cd_pair]
    conv => whnf
    rw [wrapS i2 (by omega), show IntKind.i64.wrap ((j2 : Int) - 1) = ((j2 - 1 : Nat) : Int) by rw [wrapI _ (by omega) (by omega)]; omega]
    subst g12
    unfold rc124_12
    obtain ⟨c7, g7⟩ : ∃ c, rc124_7 = c := ⟨_, rfl⟩
    obtain ⟨c9, g9⟩ : ∃ c, rc124_9 = c := ⟨_, rfl⟩
    obtain ⟨c11, g11⟩ : ∃ c, rc124_11 = c := ⟨_, rfl⟩
    rw [g7, g9, g11]
    conv => whnf
    generalize hR : Sort.partLoop Sort.ltInt a (i2 + 1) (j2 - 1) (Sort.swp d1 i2 j2) = R at hQ
    refine .intro (fun m T H' => ∃ i j d', a + 1 ≤ i ∧ i ≤ j + 1 ∧ j + 1 ≤ b ∧ m = j + 1 - i ∧ d'.size = d1.size ∧ Sort.partLoop Sort.ltInt a i j d' = R ∧ T = slots 168 [(0, Da id d'.size), (1, I a), (10, I (i : Nat)), (11, I (j : Nat))] ∧ H' = H.set id (Cd d')) (j2 - 1 + 1 - (i2 + 1)) ⟨i2 + 1, j2 - 1, Sort.swp d1 i2 j2, by omega, by omega, by omega, by omega, swp_size _ _ _, hR, by rw [swp_size]; rfl, rfl⟩ ?_
    rintro m T H' ⟨i, j, d', h1, h2, h3, hm, hds, he, rfl, rfl⟩
    conv => whnf
    subst g7
    refine scan124c hid d' a i j (by omega) (by omega) (by omega) (by omega) h2 _ fun i3 y0 y1 y2 y3 y4 y5 y6 y7 y8 y9 y10 k4 k5 k6 => ?_
    conv => whnf
    subst g9
    refine scan124d hid d' a i3 j (by omega) (by omega) (by omega) (by omega) (by omega) _ _ _ _ _ _ _ _ _ _ _ _ fun j3 z0 z1 z2 z3 z4 z5 z6 z7 z8 z9 z10 z11 l4 l5 l6 => ?_
    conv => whnf
    rw [part_step a i j i3 j3 d' k6 l6 (by omega) (by omega)] at he
    by_cases h : (j3 : Int) < (i3 : Int)
    · rw [decide_eq_true h]
      rw [if_pos (by omega)] at he
      conv => whnf
      subst g13
      unfold rc124_13
      conv => whnf
      subst he
      refine ⟨by omega, ?_⟩
      conv => whnf
      refine nthK_of (by first | exact gs _ | exact gss _ _ | assumption) ?_
      conv => whnf
      refine rdK (a) (by omega) (by omega) ?_
      conv => whnf
      refine ⟨by omega, ?_⟩
      conv => whnf
      refine nthK_of (by first | exact gs _ | exact gss _ _ | assumption) ?_
      conv => whnf
      refine rdK (j3) (by omega) (by omega) ?_
      conv => whnf
      refine ⟨by omega, ?_⟩
      conv => whnf
      rw [hbl]
      conv => whnf
      refine nthK_of (by first | exact gs _ | exact gss _ _ | assumption) ?_
      conv => whnf
      refine wrK (j3) (by omega) (by first | omega | (simp only [Array.size_setIfInBounds]; omega)) ?_
      conv => whnf
      refine ⟨by omega, ?_⟩
      conv => whnf
      rw [hbl]
      conv => whnf
      refine nthK_of (by first | exact gs _ | exact gss _ _ | assumption) ?_
      conv => whnf
      refine wrK (a) (by omega) (by first | omega | (simp only [Array.size_setIfInBounds]; omega)) ?_
      conv => whnf
      rw [List.set_set, List.set_set, cd_pair]
      exact hQ _ _ _ ⟨.inr rfl, ⟨by simp, fun j o hj => .inr hj⟩, rfl⟩
    · rw [decide_eq_false h]
      rw [if_neg (by omega)] at he
      conv => whnf
      have hne : i3 ≠ j3 := fun e => by
        have a1 := (Sort.scanUp_spec (fun x => Sort.ltInt x d'[a]!) d' j _ i rfl).2.2.2 (by rw [k6]; omega)
        have a2 := (Sort.scanDown_spec (fun x => !Sort.ltInt x d'[a]!) d' i3 j).2.2.2 (by rw [l6]; omega) (by rw [l6]; omega)
        rw [k6] at a1
        rw [l6, ← e] at a2
        simp only [Bool.not_eq_false'] at a1 a2
        rw [a1] at a2; cases a2
      subst g11
      unfold rc124_11
      obtain ⟨c10, g10⟩ : ∃ c, rc124_10 = c := ⟨_, rfl⟩
      rw [g10]
      conv => whnf
      refine ⟨by omega, ?_⟩
      conv => whnf
      refine nthK_of (by first | exact gs _ | exact gss _ _ | assumption) ?_
      conv => whnf
      refine rdK (j3) (by omega) (by omega) ?_
      conv => whnf
      refine ⟨by omega, ?_⟩
      conv => whnf
      refine nthK_of (by first | exact gs _ | exact gss _ _ | assumption) ?_
      conv => whnf
      refine rdK (i3) (by omega) (by omega) ?_
      conv => whnf
      refine ⟨by omega, ?_⟩
      conv => whnf
      rw [hbl]
      conv => whnf
      refine nthK_of (by first | exact gs _ | exact gss _ _ | assumption) ?_
      conv => whnf
      refine wrK (i3) (by omega) (by first | omega | (simp only [Array.size_setIfInBounds]; omega)) ?_
      conv => whnf
      refine ⟨by omega, ?_⟩
      conv => whnf
      rw [hbl]
      conv => whnf
      refine nthK_of (by first | exact gs _ | exact gss _ _ | assumption) ?_
      conv => whnf
      refine wrK (j3) (by omega) (by first | omega | (simp only [Array.size_setIfInBounds]; omega)) ?_
      conv => whnf
      subst g10
      unfold rc124_10
      rw [List.set_set, List.set_set, cd_pair]
      conv => whnf
      refine ⟨j3 - 1 + 1 - (i3 + 1), by omega, i3 + 1, j3 - 1, Sort.swp d' i3 j3, by omega, by omega, by omega, rfl, by rw [swp_size]; exact hds, he, ?_, rfl⟩
      rw [← wrapS i3 (by omega), show ((j3 - 1 : Nat) : Int) = IntKind.i64.wrap ((j3 : Int) - 1) by rw [wrapI _ (by omega) (by omega)]; omega, swp_size]; rfl
end
end Go.Proofs.Ytlcebaejlnpdeaa.Ab

/-
  Contracts: slices' pdqsortOrdered and Sort, of fewer than 32.
-/
namespace Go.Proofs.Ytlcebaejlnpdeaa.Ab
open Go
set_option maxRecDepth 20000
set_option maxHeartbeats 4000000
theorem partEq_range (a b : Nat) : ∀ (n i j : Nat) (d : Array Int), j + 1 - i ≤ n → a < i → i ≤ b → j < b → a < (Sort.partEqLoop Sort.ltInt a i j d).1 ∧ (Sort.partEqLoop Sort.ltInt a i j d).1 ≤ b ∧ (Sort.partEqLoop Sort.ltInt a i j d).2.size = d.size := by
  intro n
  induction n with
  | zero =>
    intro i j d hn hi hb hj
    have s1 := Sort.scanUp_spec (fun x => !Sort.ltInt d[a]! x) d j _ i rfl
    have s2 := Sort.scanDown_spec (fun x => Sort.ltInt d[a]! x) d (Sort.scanUp (fun x => !Sort.ltInt d[a]! x) d j i) j
    rw [partEq_step a i j _ _ d rfl rfl s1.1 s2.1]
    have e : Sort.scanUp (fun x => !Sort.ltInt d[a]! x) d j i = i := by rw [scanUp_eq, if_neg (by simp; omega)]
    rw [e] at s2 ⊢
    rw [if_pos (by omega)]
    exact ⟨hi, hb, rfl⟩
  | succ n ih =>
    intro i j d hn hi hb hj
    have s1 := Sort.scanUp_spec (fun x => !Sort.ltInt d[a]! x) d j _ i rfl
    have s2 := Sort.scanDown_spec (fun x => Sort.ltInt d[a]! x) d (Sort.scanUp (fun x => !Sort.ltInt d[a]! x) d j i) j
    rw [partEq_step a i j _ _ d rfl rfl s1.1 s2.1]
    obtain ⟨i2, h2⟩ : ∃ x, x = Sort.scanUp (fun x => !Sort.ltInt d[a]! x) d j i := ⟨_, rfl⟩
    rw [← h2] at s1 s2 ⊢
    obtain ⟨j2, h3⟩ : ∃ x, x = Sort.scanDown (fun x => Sort.ltInt d[a]! x) d i2 j := ⟨_, rfl⟩
    rw [← h3] at s2 ⊢
    have hib : i2 ≤ b := by
      by_cases h : i ≤ j + 1
      · have := s1.2.1 h; omega
      · have e : Sort.scanUp (fun x => !Sort.ltInt d[a]! x) d j i = i := by rw [scanUp_eq, if_neg (by simp; omega)]
        omega
    split
    · exact ⟨by have := s1.1; show a < i2; omega, hib, rfl⟩
    · have := ih (i2 + 1) (j2 - 1) (Sort.swp d i2 j2) (by have := s1.1; have := s2.1; omega) (by have := s1.1; omega) (by have := s2.1; omega) (by have := s2.1; omega)
      rw [swp_size] at this; exact this
theorem partitionEqual_range (d : Array Int) (a b p : Nat) (hab : a < b) : a < (Sort.partitionEqual Sort.ltInt d a b p).1 ∧ (Sort.partitionEqual Sort.ltInt d a b p).1 ≤ b ∧ (Sort.partitionEqual Sort.ltInt d a b p).2.size = d.size := by
  have := partEq_range a b _ (a + 1) (b - 1) (Sort.swp d a p) (Nat.le_refl _) (by omega) (by omega) (by omega)
  rw [swp_size] at this; exact this
/-- How many variables pdqsort leaves behind. -/
def pdqN (d : Array Int) (a b limit : Nat) (wasBalanced wasPartitioned : Bool) : Nat :=
  if b - a ≤ 12 then 0 else
  if limit = 0 then 0 else
  let n1 := if !wasBalanced then 2 else 1
  let d1 := if !wasBalanced then Sort.breakPatterns d a b else d
  let limit := if !wasBalanced then limit - 1 else limit
  let c := Sort.choosePivot Sort.ltInt d1 a b
  let d2 := if c.2 = .decreasing then Sort.reverseRange d1 a b else d1
  let pivot := if c.2 = .decreasing then (b - 1) - (c.1 - a) else c.1
  let hint := if c.2 = .decreasing then Sort.Hint.increasing else c.2
  let pi := if wasBalanced && wasPartitioned && hint = .increasing then Sort.partialInsertionSort Sort.ltInt d2 a b else (d2, false)
  if pi.2 then n1 else
  let d3 := pi.1
  if a > 0 && !Sort.ltInt d3[a - 1]! d3[pivot]! then
    match Sort.partitionEqual Sort.ltInt d3 a b pivot with
    | (mid, d4) => if _h : a < mid ∧ mid ≤ b then n1 + pdqN d4 mid b limit wasBalanced wasPartitioned else 0
  else
    match Sort.partition Sort.ltInt d3 a b pivot with
    | (mid, alreadyPartitioned, d4) =>
      if _h : a ≤ mid ∧ mid < b then
        if mid - a < b - mid then
          n1 + pdqN d4 a mid limit true true + pdqN (Sort.pdq Sort.ltInt d4 a mid limit true true) (mid + 1) b limit (decide (mid - a ≥ (b - a) / 8)) alreadyPartitioned
        else
          n1 + pdqN d4 (mid + 1) b limit true true + pdqN (Sort.pdq Sort.ltInt d4 (mid + 1) b limit true true) a mid limit (decide (b - mid ≥ (b - a) / 8)) alreadyPartitioned
      else 0
termination_by b - a
decreasing_by all_goals omega
/-- The dead. -/
abbrev Dd (n : Nat) : List AObj := List.replicate n .dead
theorem dd_add (X : List AObj) (m n : Nat) : X ++ Dd m ++ Dd n = X ++ Dd (m + n) := by rw [List.append_assoc, List.replicate_append_replicate]
theorem dd_one (X : List AObj) (m : Nat) : X ++ Dd m ++ [.dead] = X ++ Dd (m + 1) := dd_add X m 1
theorem dd_set (X : List AObj) (x y : AObj) (m id : Nat) (h : id < X.length) : (X.set id x ++ Dd m).set id y = X.set id y ++ Dd m := by
  rw [List.set_append_left _ _ (by simpa using h), List.set_set]
theorem dd_get (X : List AObj) (x : AObj) (m id : Nat) (h : id < X.length) : (X.set id x ++ Dd m)[id]? = some x := by
  rw [List.getElem?_append_left (by simpa using h), List.getElem?_set_self h]
theorem partial_same (d : Array Int) (a b : Nat) (h50 : b - a < 50) : (Sort.partialInsertionSort Sort.ltInt d a b).1 = d := by
  rw [Sort.partialInsertionSort, Sort.partialIns]
  by_cases h : Sort.scanSorted Sort.ltInt d b (a + 1) = b
  · simp [h]
  · simp [h, h50]
/-- One round. -/
theorem pdq_round {d : Array Int} {a b limit : Nat} {wb wp : Bool} (h12 : ¬ b - a ≤ 12) (hl : ¬ limit = 0) (h50 : b - a < 50) {d1 d2 : Array Int} {l1 n1 pivot : Nat} {c : Nat × Sort.Hint} {hint : Sort.Hint} {fin : Bool}
    (e1 : d1 = if !wb then Sort.breakPatterns d a b else d) (e2 : l1 = if !wb then limit - 1 else limit) (en : n1 = if !wb then 2 else 1) (ec : c = Sort.choosePivot Sort.ltInt d1 a b) (ed : d2 = if c.2 = .decreasing then Sort.reverseRange d1 a b else d1)
    (ep : pivot = if c.2 = .decreasing then (b - 1) - (c.1 - a) else c.1) (eh : hint = if c.2 = .decreasing then Sort.Hint.increasing else c.2) (ef : fin = (wb && wp && decide (hint = .increasing) && (Sort.partialInsertionSort Sort.ltInt d2 a b).2)) :
    Sort.pdq Sort.ltInt d a b limit wb wp = (if fin then d2 else
      if a > 0 && !Sort.ltInt d2[a - 1]! d2[pivot]! then Sort.pdq Sort.ltInt (Sort.partitionEqual Sort.ltInt d2 a b pivot).2 (Sort.partitionEqual Sort.ltInt d2 a b pivot).1 b l1 wb wp
      else if a ≤ (Sort.partition Sort.ltInt d2 a b pivot).1 ∧ (Sort.partition Sort.ltInt d2 a b pivot).1 < b then
        if (Sort.partition Sort.ltInt d2 a b pivot).1 - a < b - (Sort.partition Sort.ltInt d2 a b pivot).1 then
          Sort.pdq Sort.ltInt (Sort.pdq Sort.ltInt (Sort.partition Sort.ltInt d2 a b pivot).2.2 a (Sort.partition Sort.ltInt d2 a b pivot).1 l1 true true) ((Sort.partition Sort.ltInt d2 a b pivot).1 + 1) b l1 (decide ((Sort.partition Sort.ltInt d2 a b pivot).1 - a ≥ (b - a) / 8)) (Sort.partition Sort.ltInt d2 a b pivot).2.1
        else
          Sort.pdq Sort.ltInt (Sort.pdq Sort.ltInt (Sort.partition Sort.ltInt d2 a b pivot).2.2 ((Sort.partition Sort.ltInt d2 a b pivot).1 + 1) b l1 true true) a (Sort.partition Sort.ltInt d2 a b pivot).1 l1 (decide (b - (Sort.partition Sort.ltInt d2 a b pivot).1 ≥ (b - a) / 8)) (Sort.partition Sort.ltInt d2 a b pivot).2.1
      else (Sort.partition Sort.ltInt d2 a b pivot).2.2) ∧
    pdqN d a b limit wb wp = (if fin then n1 else
      if a > 0 && !Sort.ltInt d2[a - 1]! d2[pivot]! then n1 + pdqN (Sort.partitionEqual Sort.ltInt d2 a b pivot).2 (Sort.partitionEqual Sort.ltInt d2 a b pivot).1 b l1 wb wp
      else if a ≤ (Sort.partition Sort.ltInt d2 a b pivot).1 ∧ (Sort.partition Sort.ltInt d2 a b pivot).1 < b then
        if (Sort.partition Sort.ltInt d2 a b pivot).1 - a < b - (Sort.partition Sort.ltInt d2 a b pivot).1 then
          n1 + pdqN (Sort.partition Sort.ltInt d2 a b pivot).2.2 a (Sort.partition Sort.ltInt d2 a b pivot).1 l1 true true + pdqN (Sort.pdq Sort.ltInt (Sort.partition Sort.ltInt d2 a b pivot).2.2 a (Sort.partition Sort.ltInt d2 a b pivot).1 l1 true true) ((Sort.partition Sort.ltInt d2 a b pivot).1 + 1) b l1 (decide ((Sort.partition Sort.ltInt d2 a b pivot).1 - a ≥ (b - a) / 8)) (Sort.partition Sort.ltInt d2 a b pivot).2.1
        else
          n1 + pdqN (Sort.partition Sort.ltInt d2 a b pivot).2.2 ((Sort.partition Sort.ltInt d2 a b pivot).1 + 1) b l1 true true + pdqN (Sort.pdq Sort.ltInt (Sort.partition Sort.ltInt d2 a b pivot).2.2 ((Sort.partition Sort.ltInt d2 a b pivot).1 + 1) b l1 true true) a (Sort.partition Sort.ltInt d2 a b pivot).1 l1 (decide (b - (Sort.partition Sort.ltInt d2 a b pivot).1 ≥ (b - a) / 8)) (Sort.partition Sort.ltInt d2 a b pivot).2.1
      else 0) := by
  have hr := partitionEqual_range d2 a b pivot (by omega)
  have hpi : (if wb && wp && decide (hint = .increasing) then Sort.partialInsertionSort Sort.ltInt d2 a b else (d2, false)) = (d2, fin) := by
    rw [ef]
    split
    · rename_i h
      rw [h, Bool.true_and, ← partial_same d2 a b h50]
      simp only [partial_same d2 a b h50]
      exact Prod.ext (partial_same d2 a b h50) rfl
    · rename_i h
      rw [show (wb && wp && decide (hint = .increasing)) = false by simpa using h]; rfl
  constructor
  · rw [Sort.pdq]
    simp only [if_neg h12, if_neg hl, ← e1, ← e2, ← ec, ← ed, ← ep, ← eh, hpi, dif_pos (And.intro hr.1 hr.2.1), dite_eq_ite]
  · rw [pdqN]
    simp only [if_neg h12, if_neg hl, ← e1, ← e2, ← en, ← ec, ← ed, ← ep, ← eh, hpi, dif_pos (And.intro hr.1 hr.2.1), dite_eq_ite]
theorem rev_size (d : Array Int) (a b : Nat) (h : a ≤ b) (hb : b ≤ d.size) : (Sort.reverseRange d a b).size = d.size := (Sort.reverseRange_holds d a b h hb).1
theorem brk_psize (d : Array Int) (a b : Nat) (h : a ≤ b) (hb : b ≤ d.size) : (Sort.breakPatterns d a b).size = d.size := (Sort.breakPatterns_holds d a b h hb).1
theorem hint_two (h : Sort.Hint) : (hintI h = 2) ↔ h = .decreasing := by cases h <;> simp [hintI]
theorem hint_one (h : Sort.Hint) : (hintI h = 1) ↔ h = .increasing := by cases h <;> simp [hintI]
theorem pdq_size : ∀ (n : Nat) (d : Array Int) (a b limit : Nat) (wb wp : Bool), b - a ≤ n → a ≤ b → b ≤ d.size → b - a < 50 → (Sort.pdq Sort.ltInt d a b limit wb wp).size = d.size := by
  intro n
  induction n using Nat.strongRecOn with
  | _ n IH =>
  intro d a b limit wb wp hn ha hb h50
  by_cases h12 : b - a ≤ 12
  · rw [Sort.pdq, if_pos h12]; exact (Sort.insertionSort_holds (lt := Sort.ltInt) Sort.swo_ltInt d a b ha hb).1.1
  by_cases hl : limit = 0
  · rw [Sort.pdq, if_neg h12, if_pos hl]; exact (Sort.heapSort_holds (lt := Sort.ltInt) Sort.swo_ltInt d a b ha hb).1.1
  obtain ⟨d1, e1⟩ : ∃ x, x = if !wb then Sort.breakPatterns d a b else d := ⟨_, rfl⟩
  obtain ⟨l1, e2⟩ : ∃ x, x = if !wb then limit - 1 else limit := ⟨_, rfl⟩
  obtain ⟨n1, en⟩ : ∃ x, x = if !wb then 2 else 1 := ⟨_, rfl⟩
  obtain ⟨ch, ec⟩ : ∃ x, x = Sort.choosePivot Sort.ltInt d1 a b := ⟨_, rfl⟩
  obtain ⟨d2, ed⟩ : ∃ x, x = if ch.2 = .decreasing then Sort.reverseRange d1 a b else d1 := ⟨_, rfl⟩
  obtain ⟨pivot, ep⟩ : ∃ x, x = if ch.2 = .decreasing then (b - 1) - (ch.1 - a) else ch.1 := ⟨_, rfl⟩
  obtain ⟨hint, eh⟩ : ∃ x, x = if ch.2 = .decreasing then Sort.Hint.increasing else ch.2 := ⟨_, rfl⟩
  obtain ⟨fin, ef⟩ : ∃ x, x = (wb && wp && decide (hint = .increasing) && (Sort.partialInsertionSort Sort.ltInt d2 a b).2) := ⟨_, rfl⟩
  obtain ⟨q1, q2⟩ := pdq_round (wb := wb) (wp := wp) h12 hl h50 e1 e2 en ec ed ep eh ef
  rw [q1]
  have s1 : d1.size = d.size := by
    rw [e1]; split
    · exact brk_psize _ _ _ ha hb
    · rfl
  have s2 : d2.size = d.size := by
    rw [ed]; split
    · rw [rev_size _ _ _ ha (by omega)]; exact s1
    · exact s1
  have hcr := Sort.choosePivot_holds Sort.ltInt d1 a b (by omega)
  rw [← ec] at hcr
  have hp : a ≤ pivot ∧ pivot < b := by rw [ep]; split <;> omega
  have hpr := Sort.partition_holds (lt := Sort.ltInt) Sort.swo_ltInt d2 a b pivot hp.1 hp.2 (by omega)
  have hq := partitionEqual_range d2 a b pivot (by omega)
  have s4 := hpr.2.2.1.1
  split
  · exact s2
  · split
    · rw [IH _ (by omega) _ _ _ _ _ _ (Nat.le_refl _) (by omega) (by omega) (by omega)]; omega
    · rw [if_pos ⟨hpr.1, hpr.2.1⟩]
      split
      · have := IH (Sort.partition Sort.ltInt d2 a b pivot).1 |> fun _ => IH ((Sort.partition Sort.ltInt d2 a b pivot).1 - a) (by omega) (Sort.partition Sort.ltInt d2 a b pivot).2.2 a (Sort.partition Sort.ltInt d2 a b pivot).1 l1 true true (Nat.le_refl _) hpr.1 (by omega) (by omega)
        rw [IH _ (by omega) _ _ _ _ _ _ (Nat.le_refl _) (by omega) (by omega) (by omega)]; omega
      · have := IH (b - ((Sort.partition Sort.ltInt d2 a b pivot).1 + 1)) (by omega) (Sort.partition Sort.ltInt d2 a b pivot).2.2 ((Sort.partition Sort.ltInt d2 a b pivot).1 + 1) b l1 true true (Nat.le_refl _) (by omega) (by omega) (by omega)
        rw [IH ((Sort.partition Sort.ltInt d2 a b pivot).1 - a) (by omega) _ _ _ _ _ _ (Nat.le_refl _) (by omega) (by omega) (by omega)]; omega
def keep114 : List Bool := [true, true, true, true, false, false, false, false, true, true, false, false, false, false, false, false, false, false, false, false, false, false, false, false, false, false, false, false, false, false, false, false, false, false, false, false, false, false, false, false, false, false, false, false, false, false, false, false, false, false, false, false, false, false, false, false, false, false, false, false, false, false, false, false, false, false, false, false, false, false, false, false, false, false, false, false, false, false, false, false, false, false, false, false, false, false, false, false, false, false, false, false, false, false, false, false, false, false, false, false, false, false, false, false, false, false, false, false, false, false, false, false, false, false, false, false, false, false, false, false, false, false, false, false, false, false, false, false, false, false, false, false, false, false]
theorem pdq_tail3 {n : Nat} {H : List AObj} {id lo : Nat} {d d2 R : Array Int} {a b l1 n0 N M pivot : Nat} {wb wp : Bool} (hlo : lo ≤ id)
    (IH : ∀ m, m < n → ∀ (H : List AObj) (id lo : Nat) (d : Array Int) (a b limit : Nat), b - a ≤ m → lo ≤ id → d.size < 32 → a ≤ b → b ≤ d.size → limit ≤ 100 → H[id]? = some (Cd d) →
      Sem Go.Proofs.Try.prog (.fn 114) [Da id d.size, I a, I b, I limit] H lo (.tuple []) (H.set id (Cd (Sort.pdq Sort.ltInt d a b limit true true)) ++ Dd (pdqN d a b limit true true)))
    (hid : id < H.length) (hd : d.size < 32) (hn : b - a ≤ n) (hb : b ≤ d.size) (h12 : 12 < b - a) (hl1 : l1 ≤ 100) (s2 : d2.size = d.size) (hp1 : a ≤ pivot) (hp2 : pivot < b)
    (hR : (if a ≤ (Sort.partition Sort.ltInt d2 a b pivot).1 ∧ (Sort.partition Sort.ltInt d2 a b pivot).1 < b then
        if (Sort.partition Sort.ltInt d2 a b pivot).1 - a < b - (Sort.partition Sort.ltInt d2 a b pivot).1 then
          Sort.pdq Sort.ltInt (Sort.pdq Sort.ltInt (Sort.partition Sort.ltInt d2 a b pivot).2.2 a (Sort.partition Sort.ltInt d2 a b pivot).1 l1 true true) ((Sort.partition Sort.ltInt d2 a b pivot).1 + 1) b l1 (decide ((Sort.partition Sort.ltInt d2 a b pivot).1 - a ≥ (b - a) / 8)) (Sort.partition Sort.ltInt d2 a b pivot).2.1
        else
          Sort.pdq Sort.ltInt (Sort.pdq Sort.ltInt (Sort.partition Sort.ltInt d2 a b pivot).2.2 ((Sort.partition Sort.ltInt d2 a b pivot).1 + 1) b l1 true true) a (Sort.partition Sort.ltInt d2 a b pivot).1 l1 (decide (b - (Sort.partition Sort.ltInt d2 a b pivot).1 ≥ (b - a) / 8)) (Sort.partition Sort.ltInt d2 a b pivot).2.1
      else (Sort.partition Sort.ltInt d2 a b pivot).2.2) = R)
    (hM : N + (if a ≤ (Sort.partition Sort.ltInt d2 a b pivot).1 ∧ (Sort.partition Sort.ltInt d2 a b pivot).1 < b then
        if (Sort.partition Sort.ltInt d2 a b pivot).1 - a < b - (Sort.partition Sort.ltInt d2 a b pivot).1 then
          n0 + pdqN (Sort.partition Sort.ltInt d2 a b pivot).2.2 a (Sort.partition Sort.ltInt d2 a b pivot).1 l1 true true + pdqN (Sort.pdq Sort.ltInt (Sort.partition Sort.ltInt d2 a b pivot).2.2 a (Sort.partition Sort.ltInt d2 a b pivot).1 l1 true true) ((Sort.partition Sort.ltInt d2 a b pivot).1 + 1) b l1 (decide ((Sort.partition Sort.ltInt d2 a b pivot).1 - a ≥ (b - a) / 8)) (Sort.partition Sort.ltInt d2 a b pivot).2.1
        else
          n0 + pdqN (Sort.partition Sort.ltInt d2 a b pivot).2.2 ((Sort.partition Sort.ltInt d2 a b pivot).1 + 1) b l1 true true + pdqN (Sort.pdq Sort.ltInt (Sort.partition Sort.ltInt d2 a b pivot).2.2 ((Sort.partition Sort.ltInt d2 a b pivot).1 + 1) b l1 true true) a (Sort.partition Sort.ltInt d2 a b pivot).1 l1 (decide (b - (Sort.partition Sort.ltInt d2 a b pivot).1 ≥ (b - a) / 8)) (Sort.partition Sort.ltInt d2 a b pivot).2.1
      else 0) = M)
    (Q : Ex → List AV → List AObj → Prop) (x0 x1 x2 x3 x4 x5 y0 y1 y2 z0 z1 z2 z3 u0 u1 u2 v0 v1 v2 v3 v4 v5 v6 v7 v8 : AV)
    (kfin : ∀ T', Q .ret T' (H.set id (Cd R) ++ Dd M))
    (kgo : ∀ e T' a2 b2 wb2 wp2 d5 N5, (e = .normal ∨ e = .exit 1) → b2 - a2 < b - a → a2 ≤ b2 → b2 ≤ d.size → d5.size = d.size → Sort.pdq Sort.ltInt d5 a2 b2 l1 wb2 wp2 = R → N5 + pdqN d5 a2 b2 l1 wb2 wp2 = M →
      zipKeep keep114 T' = slots 134 [(0, Da id d.size), (1, I (a2 : Nat)), (2, I (b2 : Nat)), (3, I (l1 : Nat)), (8, B wb2), (9, B wp2)] → Q e T' (H.set id (Cd d5) ++ Dd N5)) :
    wpR Go.Proofs.Try.prog ann114 114 lo none rc114_14 (slots 134 [(0, Da id d.size), (1, I a), (2, I b), (3, I l1), (8, B wb), (9, B wp), (10, I (b - a : Nat)), (11, I pivot), (12, y0), (23, x0), (29, x1), (35, x2), (39, x3), (50, x4), (54, x5), (63, u0), (66, u1), (67, u2), (68, y1), (72, y2), (75, z0), (76, v0), (77, v1), (78, v2), (79, v3), (80, z1), (81, v4), (82, v5), (83, v6), (84, z2), (85, v7), (86, v8), (87, z3)]) (H.set id (Cd d2) ++ Dd (N + n0)) Q := by
  have hH2 := dd_get H (Cd d2) (N + n0) id hid
  have hpr := Sort.partition_holds (lt := Sort.ltInt) Sort.swo_ltInt d2 a b pivot hp1 hp2 (by omega)
  obtain ⟨mid, hmid⟩ : ∃ x, x = (Sort.partition Sort.ltInt d2 a b pivot).1 := ⟨_, rfl⟩
  obtain ⟨ap, hap⟩ : ∃ x, x = (Sort.partition Sort.ltInt d2 a b pivot).2.1 := ⟨_, rfl⟩
  obtain ⟨d4, hd4⟩ : ∃ x, x = (Sort.partition Sort.ltInt d2 a b pivot).2.2 := ⟨_, rfl⟩
  rw [← hmid, ← hap, ← hd4] at hR
  rw [← hmid, ← hap, ← hd4] at hM
  rw [← hmid, ← hd4] at hpr
  have s4 : d4.size = d.size := hpr.2.2.1.1.trans s2
  rw [if_pos ⟨hpr.1, hpr.2.1⟩] at hR
  rw [if_pos ⟨hpr.1, hpr.2.1⟩] at hM
  have hm1 := hpr.1
  have hm2 := hpr.2.1
  clear hpr
  unfold rc114_14
  obtain ⟨c13, g13⟩ : ∃ c, rc114_13 = c := ⟨_, rfl⟩
  rw [g13]
  conv => whnf
  rw [← s2]
  refine ⟨_, _, call1 (part_sem hlo d2 a b pivot (by omega) (by omega) (by omega) (by omega) hH2), ?_⟩
  rw [← hmid, ← hap, ← hd4, dd_set _ _ _ _ _ hid]
  conv => whnf
  subst g13
  unfold rc114_13
  obtain ⟨c12, g12⟩ : ∃ c, rc114_12 = c := ⟨_, rfl⟩
  rw [g12]
  conv => whnf
  rw [show IntKind.i64.wrap ((mid : Int) - (a : Int)) = ((mid - a : Nat) : Int) by rw [wrapI _ (by omega) (by omega)]; omega, show IntKind.i64.wrap ((b : Int) - (mid : Int)) = ((b - mid : Nat) : Int) by rw [wrapI _ (by omega) (by omega)]; omega]
  subst g12
  unfold rc114_12
  obtain ⟨c9, g9⟩ : ∃ c, rc114_9 = c := ⟨_, rfl⟩
  obtain ⟨c11, g11⟩ : ∃ c, rc114_11 = c := ⟨_, rfl⟩
  rw [g9, g11]
  conv => whnf
  refine ⟨by decide, ?_⟩
  conv => whnf
  rw [show IntKind.i64.wrap (((b - a : Nat) : Int).tdiv 8) = (((b - a) / 8 : Nat) : Int) by rw [show ((b - a : Nat) : Int).tdiv 8 = (((b - a) / 8 : Nat) : Int) from rfl, wrapI _ (by omega) (by omega)]]
  by_cases h : ((mid - a : Nat) : Int) < ((b - mid : Nat) : Int)
  · rw [decide_eq_true h]
    rw [if_pos (by omega)] at hR
    rw [if_pos (by omega)] at hM
    conv => whnf
    subst g9
    unfold rc114_9
    obtain ⟨c8, g8⟩ : ∃ c, rc114_8 = c := ⟨_, rfl⟩
    rw [g8]
    conv => whnf
    subst g8
    unfold rc114_8
    conv => whnf
    rw [s2, ← s4]
    refine ⟨_, _, call1 (IH (mid - a) (by omega) _ id lo d4 a mid l1 (Nat.le_refl _) hlo (by omega) hm1 (by omega) hl1 (dd_get H (Cd d4) (N + n0) id hid)), ?_⟩
    rw [dd_set _ _ _ _ _ hid, dd_add]
    conv => whnf
    rw [wrapS mid (by omega)]
    have e8 : decide (((b - a) / 8 : Nat) ≤ ((mid - a : Nat) : Int)) = decide (mid - a ≥ (b - a) / 8) := by
      rw [decide_eq_decide]; omega
    have sz : (Sort.pdq Sort.ltInt d4 a mid l1 true true).size = d.size := (pdq_size _ d4 a mid l1 true true (Nat.le_refl _) hm1 (by omega) (by omega)).trans s4
    refine kgo .normal _ (mid + 1) b _ ap (Sort.pdq Sort.ltInt d4 a mid l1 true true) _ (.inl rfl) (by omega) (by omega) hb sz hR (by rw [← hM]; omega) ?_
    rw [← e8, ← s4]; rfl
  · rw [decide_eq_false h]
    rw [if_neg (by omega)] at hR
    rw [if_neg (by omega)] at hM
    conv => whnf
    subst g11
    unfold rc114_11
    obtain ⟨c10, g10⟩ : ∃ c, rc114_10 = c := ⟨_, rfl⟩
    rw [g10]
    conv => whnf
    subst g10
    unfold rc114_10
    conv => whnf
    rw [s2, ← s4, wrapS mid (by omega)]
    refine ⟨_, _, call1 (IH (b - (mid + 1)) (by omega) _ id lo d4 (mid + 1) b l1 (Nat.le_refl _) hlo (by omega) (by omega) (by omega) hl1 (dd_get H (Cd d4) (N + n0) id hid)), ?_⟩
    rw [dd_set _ _ _ _ _ hid, dd_add]
    conv => whnf
    have e8 : decide (((b - a) / 8 : Nat) ≤ ((b - mid : Nat) : Int)) = decide (b - mid ≥ (b - a) / 8) := by
      rw [decide_eq_decide]; omega
    have sz : (Sort.pdq Sort.ltInt d4 (mid + 1) b l1 true true).size = d.size := (pdq_size _ d4 (mid + 1) b l1 true true (Nat.le_refl _) (by omega) (by omega) (by omega)).trans s4
    refine kgo .normal _ a mid _ ap (Sort.pdq Sort.ltInt d4 (mid + 1) b l1 true true) _ (.inl rfl) (by omega) hm1 (by omega) sz hR (by rw [← hM]; omega) ?_
    rw [← e8, ← s4]; rfl
theorem pdq_tail2 {n : Nat} {H : List AObj} {id lo : Nat} {d d2 R : Array Int} {a b l1 n0 N M pivot : Nat} {wb wp : Bool} (hlo : lo ≤ id)
    (IH : ∀ m, m < n → ∀ (H : List AObj) (id lo : Nat) (d : Array Int) (a b limit : Nat), b - a ≤ m → lo ≤ id → d.size < 32 → a ≤ b → b ≤ d.size → limit ≤ 100 → H[id]? = some (Cd d) →
      Sem Go.Proofs.Try.prog (.fn 114) [Da id d.size, I a, I b, I limit] H lo (.tuple []) (H.set id (Cd (Sort.pdq Sort.ltInt d a b limit true true)) ++ Dd (pdqN d a b limit true true)))
    (hid : id < H.length) (hd : d.size < 32) (hn : b - a ≤ n) (hb : b ≤ d.size) (h12 : 12 < b - a) (hl1 : l1 ≤ 100) (s2 : d2.size = d.size) (hp1 : a ≤ pivot) (hp2 : pivot < b)
    (hR : (if a > 0 && !Sort.ltInt d2[a - 1]! d2[pivot]! then Sort.pdq Sort.ltInt (Sort.partitionEqual Sort.ltInt d2 a b pivot).2 (Sort.partitionEqual Sort.ltInt d2 a b pivot).1 b l1 wb wp
      else if a ≤ (Sort.partition Sort.ltInt d2 a b pivot).1 ∧ (Sort.partition Sort.ltInt d2 a b pivot).1 < b then
        if (Sort.partition Sort.ltInt d2 a b pivot).1 - a < b - (Sort.partition Sort.ltInt d2 a b pivot).1 then
          Sort.pdq Sort.ltInt (Sort.pdq Sort.ltInt (Sort.partition Sort.ltInt d2 a b pivot).2.2 a (Sort.partition Sort.ltInt d2 a b pivot).1 l1 true true) ((Sort.partition Sort.ltInt d2 a b pivot).1 + 1) b l1 (decide ((Sort.partition Sort.ltInt d2 a b pivot).1 - a ≥ (b - a) / 8)) (Sort.partition Sort.ltInt d2 a b pivot).2.1
        else
          Sort.pdq Sort.ltInt (Sort.pdq Sort.ltInt (Sort.partition Sort.ltInt d2 a b pivot).2.2 ((Sort.partition Sort.ltInt d2 a b pivot).1 + 1) b l1 true true) a (Sort.partition Sort.ltInt d2 a b pivot).1 l1 (decide (b - (Sort.partition Sort.ltInt d2 a b pivot).1 ≥ (b - a) / 8)) (Sort.partition Sort.ltInt d2 a b pivot).2.1
      else (Sort.partition Sort.ltInt d2 a b pivot).2.2) = R)
    (hM : N + (if a > 0 && !Sort.ltInt d2[a - 1]! d2[pivot]! then n0 + pdqN (Sort.partitionEqual Sort.ltInt d2 a b pivot).2 (Sort.partitionEqual Sort.ltInt d2 a b pivot).1 b l1 wb wp
      else if a ≤ (Sort.partition Sort.ltInt d2 a b pivot).1 ∧ (Sort.partition Sort.ltInt d2 a b pivot).1 < b then
        if (Sort.partition Sort.ltInt d2 a b pivot).1 - a < b - (Sort.partition Sort.ltInt d2 a b pivot).1 then
          n0 + pdqN (Sort.partition Sort.ltInt d2 a b pivot).2.2 a (Sort.partition Sort.ltInt d2 a b pivot).1 l1 true true + pdqN (Sort.pdq Sort.ltInt (Sort.partition Sort.ltInt d2 a b pivot).2.2 a (Sort.partition Sort.ltInt d2 a b pivot).1 l1 true true) ((Sort.partition Sort.ltInt d2 a b pivot).1 + 1) b l1 (decide ((Sort.partition Sort.ltInt d2 a b pivot).1 - a ≥ (b - a) / 8)) (Sort.partition Sort.ltInt d2 a b pivot).2.1
        else
          n0 + pdqN (Sort.partition Sort.ltInt d2 a b pivot).2.2 ((Sort.partition Sort.ltInt d2 a b pivot).1 + 1) b l1 true true + pdqN (Sort.pdq Sort.ltInt (Sort.partition Sort.ltInt d2 a b pivot).2.2 ((Sort.partition Sort.ltInt d2 a b pivot).1 + 1) b l1 true true) a (Sort.partition Sort.ltInt d2 a b pivot).1 l1 (decide (b - (Sort.partition Sort.ltInt d2 a b pivot).1 ≥ (b - a) / 8)) (Sort.partition Sort.ltInt d2 a b pivot).2.1
      else 0) = M)
    (Q : Ex → List AV → List AObj → Prop) (x0 x1 x2 x3 x4 x5 y0 y1 y2 u0 u1 u2 : AV)
    (kfin : ∀ T', Q .ret T' (H.set id (Cd R) ++ Dd M))
    (kgo : ∀ e T' a2 b2 wb2 wp2 d5 N5, (e = .normal ∨ e = .exit 1) → b2 - a2 < b - a → a2 ≤ b2 → b2 ≤ d.size → d5.size = d.size → Sort.pdq Sort.ltInt d5 a2 b2 l1 wb2 wp2 = R → N5 + pdqN d5 a2 b2 l1 wb2 wp2 = M →
      zipKeep keep114 T' = slots 134 [(0, Da id d.size), (1, I (a2 : Nat)), (2, I (b2 : Nat)), (3, I (l1 : Nat)), (8, B wb2), (9, B wp2)] → Q e T' (H.set id (Cd d5) ++ Dd N5)) :
    wpR Go.Proofs.Try.prog ann114 114 lo none rc114_15 (slots 134 [(0, Da id d.size), (1, I a), (2, I b), (3, I l1), (8, B wb), (9, B wp), (10, I (b - a : Nat)), (11, I pivot), (12, y0), (23, x0), (29, x1), (35, x2), (39, x3), (50, x4), (54, x5), (63, u0), (66, u1), (67, u2), (68, y1), (72, y2)]) (H.set id (Cd d2) ++ Dd (N + n0)) Q := by
  have hH2 := dd_get H (Cd d2) (N + n0) id hid
  unfold rc114_15
  obtain ⟨c7, g7⟩ : ∃ c, rc114_7 = c := ⟨_, rfl⟩
  obtain ⟨c14, g14⟩ : ∃ c, rc114_14 = c := ⟨_, rfl⟩
  rw [g7, g14]
  conv => whnf
  by_cases h0 : (0 : Int) < (a : Int)
  · rw [decide_eq_true h0]
    conv => whnf
    rw [show IntKind.i64.wrap ((a : Int) - 1) = ((a - 1 : Nat) : Int) by rw [wrapI _ (by omega) (by omega)]; omega]
    rw [← s2]
    refine ⟨by omega, ?_⟩
    conv => whnf
    refine nthK_of (by first | exact gs _ | exact gss _ _ | assumption) ?_
    conv => whnf
    refine rdK (a - 1) (by omega) (by omega) ?_
    conv => whnf
    refine ⟨by omega, ?_⟩
    conv => whnf
    refine nthK_of (by first | exact gs _ | exact gss _ _ | assumption) ?_
    conv => whnf
    refine rdK (pivot) (by omega) (by omega) ?_
    conv => whnf
    refine ⟨by first | rfl | simp only [List.all_cons, List.all_nil, pu0, pub, pu1, pu2, pu1', pu2', pun, puf, puP, puP', puQ, puQ', Bool.and_true, Bool.and_self], _, less_ok d2[a - 1]! d2[pivot]!, acc0, ?_⟩
    conv => whnf
    by_cases h5 : d2[a - 1]! < d2[pivot]!
    · rw [decide_eq_true h5]
      conv => whnf
      rw [if_neg (by simp [Sort.ltInt, h5])] at hR
      rw [if_neg (by simp [Sort.ltInt, h5])] at hM
      subst g14
      rw [s2]
      exact pdq_tail3 hlo IH hid hd hn hb h12 hl1 s2 hp1 hp2 hR hM Q _ _ _ _ _ _ _ _ _ _ _ _ _ _ _ _ _ _ _ _ _ _ _ _ _ kfin kgo
    · rw [decide_eq_false h5]
      conv => whnf
      have hq := partitionEqual_range d2 a b pivot (by omega)
      rw [if_pos (by simp [Sort.ltInt]; omega)] at hR
      rw [if_pos (by simp [Sort.ltInt]; omega)] at hM
      subst g7
      unfold rc114_7
      conv => whnf
      refine ⟨_, _, call1 (partEq_sem hlo d2 a b pivot (by omega) (by omega) (by omega) (by omega) hH2), ?_⟩
      rw [dd_set _ _ _ _ _ hid]
      conv => whnf
      refine kgo (.exit 1) _ _ b wb wp _ _ (.inr rfl) (by omega) hq.2.1 hb (hq.2.2.trans s2) hR (by rw [← hM]; omega) ?_
      rw [s2]; rfl
  · rw [decide_eq_false h0]
    conv => whnf
    rw [if_neg (by simp; omega)] at hR
    rw [if_neg (by simp; omega)] at hM
    subst g14
    exact pdq_tail3 hlo IH hid hd hn hb h12 hl1 s2 hp1 hp2 hR hM Q _ _ _ _ _ _ _ _ _ _ _ _ _ _ _ _ _ _ _ _ _ _ _ _ _ kfin kgo
theorem pdq_tail1 {n : Nat} {H : List AObj} {id lo : Nat} {d d2 R : Array Int} {a b l1 n0 N M pivot : Nat} {wb wp fin : Bool} {hint : Sort.Hint} (hlo : lo ≤ id)
    (IH : ∀ m, m < n → ∀ (H : List AObj) (id lo : Nat) (d : Array Int) (a b limit : Nat), b - a ≤ m → lo ≤ id → d.size < 32 → a ≤ b → b ≤ d.size → limit ≤ 100 → H[id]? = some (Cd d) →
      Sem Go.Proofs.Try.prog (.fn 114) [Da id d.size, I a, I b, I limit] H lo (.tuple []) (H.set id (Cd (Sort.pdq Sort.ltInt d a b limit true true)) ++ Dd (pdqN d a b limit true true)))
    (hid : id < H.length) (hd : d.size < 32) (hn : b - a ≤ n) (hb : b ≤ d.size) (h12 : 12 < b - a) (hl1 : l1 ≤ 100) (s2 : d2.size = d.size) (hp1 : a ≤ pivot) (hp2 : pivot < b)
    (ef : fin = (wb && wp && decide (hint = .increasing) && (Sort.partialInsertionSort Sort.ltInt d2 a b).2))
    (hR : (if fin then d2 else
      if a > 0 && !Sort.ltInt d2[a - 1]! d2[pivot]! then Sort.pdq Sort.ltInt (Sort.partitionEqual Sort.ltInt d2 a b pivot).2 (Sort.partitionEqual Sort.ltInt d2 a b pivot).1 b l1 wb wp
      else if a ≤ (Sort.partition Sort.ltInt d2 a b pivot).1 ∧ (Sort.partition Sort.ltInt d2 a b pivot).1 < b then
        if (Sort.partition Sort.ltInt d2 a b pivot).1 - a < b - (Sort.partition Sort.ltInt d2 a b pivot).1 then
          Sort.pdq Sort.ltInt (Sort.pdq Sort.ltInt (Sort.partition Sort.ltInt d2 a b pivot).2.2 a (Sort.partition Sort.ltInt d2 a b pivot).1 l1 true true) ((Sort.partition Sort.ltInt d2 a b pivot).1 + 1) b l1 (decide ((Sort.partition Sort.ltInt d2 a b pivot).1 - a ≥ (b - a) / 8)) (Sort.partition Sort.ltInt d2 a b pivot).2.1
        else
          Sort.pdq Sort.ltInt (Sort.pdq Sort.ltInt (Sort.partition Sort.ltInt d2 a b pivot).2.2 ((Sort.partition Sort.ltInt d2 a b pivot).1 + 1) b l1 true true) a (Sort.partition Sort.ltInt d2 a b pivot).1 l1 (decide (b - (Sort.partition Sort.ltInt d2 a b pivot).1 ≥ (b - a) / 8)) (Sort.partition Sort.ltInt d2 a b pivot).2.1
      else (Sort.partition Sort.ltInt d2 a b pivot).2.2) = R)
    (hM : N + (if fin then n0 else
      if a > 0 && !Sort.ltInt d2[a - 1]! d2[pivot]! then n0 + pdqN (Sort.partitionEqual Sort.ltInt d2 a b pivot).2 (Sort.partitionEqual Sort.ltInt d2 a b pivot).1 b l1 wb wp
      else if a ≤ (Sort.partition Sort.ltInt d2 a b pivot).1 ∧ (Sort.partition Sort.ltInt d2 a b pivot).1 < b then
        if (Sort.partition Sort.ltInt d2 a b pivot).1 - a < b - (Sort.partition Sort.ltInt d2 a b pivot).1 then
          n0 + pdqN (Sort.partition Sort.ltInt d2 a b pivot).2.2 a (Sort.partition Sort.ltInt d2 a b pivot).1 l1 true true + pdqN (Sort.pdq Sort.ltInt (Sort.partition Sort.ltInt d2 a b pivot).2.2 a (Sort.partition Sort.ltInt d2 a b pivot).1 l1 true true) ((Sort.partition Sort.ltInt d2 a b pivot).1 + 1) b l1 (decide ((Sort.partition Sort.ltInt d2 a b pivot).1 - a ≥ (b - a) / 8)) (Sort.partition Sort.ltInt d2 a b pivot).2.1
        else
          n0 + pdqN (Sort.partition Sort.ltInt d2 a b pivot).2.2 ((Sort.partition Sort.ltInt d2 a b pivot).1 + 1) b l1 true true + pdqN (Sort.pdq Sort.ltInt (Sort.partition Sort.ltInt d2 a b pivot).2.2 ((Sort.partition Sort.ltInt d2 a b pivot).1 + 1) b l1 true true) a (Sort.partition Sort.ltInt d2 a b pivot).1 l1 (decide (b - (Sort.partition Sort.ltInt d2 a b pivot).1 ≥ (b - a) / 8)) (Sort.partition Sort.ltInt d2 a b pivot).2.1
      else 0) = M)
    (Q : Ex → List AV → List AObj → Prop) (x0 x1 x2 x3 x4 x5 : AV)
    (kfin : ∀ T', Q .ret T' (H.set id (Cd R) ++ Dd M))
    (kgo : ∀ e T' a2 b2 wb2 wp2 d5 N5, (e = .normal ∨ e = .exit 1) → b2 - a2 < b - a → a2 ≤ b2 → b2 ≤ d.size → d5.size = d.size → Sort.pdq Sort.ltInt d5 a2 b2 l1 wb2 wp2 = R → N5 + pdqN d5 a2 b2 l1 wb2 wp2 = M →
      zipKeep keep114 T' = slots 134 [(0, Da id d.size), (1, I (a2 : Nat)), (2, I (b2 : Nat)), (3, I (l1 : Nat)), (8, B wb2), (9, B wp2)] → Q e T' (H.set id (Cd d5) ++ Dd N5)) :
    wpR Go.Proofs.Try.prog ann114 114 lo none rc114_16 (slots 134 [(0, Da id d.size), (1, I a), (2, I b), (3, I l1), (8, B wb), (9, B wp), (10, I (b - a : Nat)), (11, I pivot), (12, I (hintI hint)), (23, x0), (29, x1), (35, x2), (39, x3), (50, x4), (54, x5)]) (H.set id (Cd d2) ++ Dd (N + n0)) Q := by
  have hH2 := dd_get H (Cd d2) (N + n0) id hid
  unfold rc114_16
  obtain ⟨c6, g6⟩ : ∃ c, rc114_6 = c := ⟨_, rfl⟩
  obtain ⟨c15, g15⟩ : ∃ c, rc114_15 = c := ⟨_, rfl⟩
  rw [g6, g15]
  cases wb with
  | false =>
    have hf : fin = false := by rw [ef]; rfl
    subst hf
    conv => whnf
    subst g15
    exact pdq_tail2 hlo IH hid hd hn hb h12 hl1 s2 hp1 hp2 hR hM Q _ _ _ _ _ _ _ _ _ _ _ _ kfin kgo
  | true =>
  cases wp with
  | false =>
    have hf : fin = false := by rw [ef]; rfl
    subst hf
    conv => whnf
    subst g15
    exact pdq_tail2 hlo IH hid hd hn hb h12 hl1 s2 hp1 hp2 hR hM Q _ _ _ _ _ _ _ _ _ _ _ _ kfin kgo
  | true =>
  conv => whnf
  by_cases hi : hint = .increasing
  · rw [decide_eq_true ((hint_one hint).2 hi)]
    conv => whnf
    subst g6
    unfold rc114_6
    conv => whnf
    obtain ⟨p1, p2⟩ := partial_sem (lo := lo) d2 a b (by omega) (by omega) (by omega) (by omega) hH2
    rw [← s2]
    refine ⟨_, _, call1 p1, ?_⟩
    conv => whnf
    have hf : fin = (Sort.partialInsertionSort Sort.ltInt d2 a b).2 := by rw [ef, hi]; rfl
    rw [← hf]
    cases fin with
    | true =>
      conv => whnf
      rw [if_pos rfl] at hR
      rw [if_pos rfl] at hM
      rw [hR, hM]
      exact kfin _
    | false =>
      conv => whnf
      subst g15
      rw [s2]
      exact pdq_tail2 hlo IH hid hd hn hb h12 hl1 s2 hp1 hp2 hR hM Q _ _ _ _ _ _ _ _ _ _ _ _ kfin kgo
  · rw [decide_eq_false fun h => hi ((hint_one hint).1 h)]
    have hf : fin = false := by rw [ef, decide_eq_false hi]; rfl
    subst hf
    conv => whnf
    subst g15
    exact pdq_tail2 hlo IH hid hd hn hb h12 hl1 s2 hp1 hp2 hR hM Q _ _ _ _ _ _ _ _ _ _ _ _ kfin kgo
theorem pdq_tail {n : Nat} {H : List AObj} {id lo : Nat} {d d1 d2 R : Array Int} {a b l1 n0 N M pivot : Nat} {wb wp fin : Bool} {ch : Nat × Sort.Hint} {hint : Sort.Hint} (hlo : lo ≤ id)
    (IH : ∀ m, m < n → ∀ (H : List AObj) (id lo : Nat) (d : Array Int) (a b limit : Nat), b - a ≤ m → lo ≤ id → d.size < 32 → a ≤ b → b ≤ d.size → limit ≤ 100 → H[id]? = some (Cd d) →
      Sem Go.Proofs.Try.prog (.fn 114) [Da id d.size, I a, I b, I limit] H lo (.tuple []) (H.set id (Cd (Sort.pdq Sort.ltInt d a b limit true true)) ++ Dd (pdqN d a b limit true true)))
    (hid : id < H.length) (hd : d.size < 32) (hn : b - a ≤ n) (hb : b ≤ d.size) (h12 : 12 < b - a) (hl1 : l1 ≤ 100) (hn0 : 0 < n0) (s1 : d1.size = d.size)
    (ec : ch = Sort.choosePivot Sort.ltInt d1 a b) (ed : d2 = if ch.2 = .decreasing then Sort.reverseRange d1 a b else d1)
    (ep : pivot = if ch.2 = .decreasing then (b - 1) - (ch.1 - a) else ch.1) (eh : hint = if ch.2 = .decreasing then Sort.Hint.increasing else ch.2) (ef : fin = (wb && wp && decide (hint = .increasing) && (Sort.partialInsertionSort Sort.ltInt d2 a b).2))
    (hR : (if fin then d2 else
      if a > 0 && !Sort.ltInt d2[a - 1]! d2[pivot]! then Sort.pdq Sort.ltInt (Sort.partitionEqual Sort.ltInt d2 a b pivot).2 (Sort.partitionEqual Sort.ltInt d2 a b pivot).1 b l1 wb wp
      else if a ≤ (Sort.partition Sort.ltInt d2 a b pivot).1 ∧ (Sort.partition Sort.ltInt d2 a b pivot).1 < b then
        if (Sort.partition Sort.ltInt d2 a b pivot).1 - a < b - (Sort.partition Sort.ltInt d2 a b pivot).1 then
          Sort.pdq Sort.ltInt (Sort.pdq Sort.ltInt (Sort.partition Sort.ltInt d2 a b pivot).2.2 a (Sort.partition Sort.ltInt d2 a b pivot).1 l1 true true) ((Sort.partition Sort.ltInt d2 a b pivot).1 + 1) b l1 (decide ((Sort.partition Sort.ltInt d2 a b pivot).1 - a ≥ (b - a) / 8)) (Sort.partition Sort.ltInt d2 a b pivot).2.1
        else
          Sort.pdq Sort.ltInt (Sort.pdq Sort.ltInt (Sort.partition Sort.ltInt d2 a b pivot).2.2 ((Sort.partition Sort.ltInt d2 a b pivot).1 + 1) b l1 true true) a (Sort.partition Sort.ltInt d2 a b pivot).1 l1 (decide (b - (Sort.partition Sort.ltInt d2 a b pivot).1 ≥ (b - a) / 8)) (Sort.partition Sort.ltInt d2 a b pivot).2.1
      else (Sort.partition Sort.ltInt d2 a b pivot).2.2) = R)
    (hM : N + (if fin then n0 else
      if a > 0 && !Sort.ltInt d2[a - 1]! d2[pivot]! then n0 + pdqN (Sort.partitionEqual Sort.ltInt d2 a b pivot).2 (Sort.partitionEqual Sort.ltInt d2 a b pivot).1 b l1 wb wp
      else if a ≤ (Sort.partition Sort.ltInt d2 a b pivot).1 ∧ (Sort.partition Sort.ltInt d2 a b pivot).1 < b then
        if (Sort.partition Sort.ltInt d2 a b pivot).1 - a < b - (Sort.partition Sort.ltInt d2 a b pivot).1 then
          n0 + pdqN (Sort.partition Sort.ltInt d2 a b pivot).2.2 a (Sort.partition Sort.ltInt d2 a b pivot).1 l1 true true + pdqN (Sort.pdq Sort.ltInt (Sort.partition Sort.ltInt d2 a b pivot).2.2 a (Sort.partition Sort.ltInt d2 a b pivot).1 l1 true true) ((Sort.partition Sort.ltInt d2 a b pivot).1 + 1) b l1 (decide ((Sort.partition Sort.ltInt d2 a b pivot).1 - a ≥ (b - a) / 8)) (Sort.partition Sort.ltInt d2 a b pivot).2.1
        else
          n0 + pdqN (Sort.partition Sort.ltInt d2 a b pivot).2.2 ((Sort.partition Sort.ltInt d2 a b pivot).1 + 1) b l1 true true + pdqN (Sort.pdq Sort.ltInt (Sort.partition Sort.ltInt d2 a b pivot).2.2 ((Sort.partition Sort.ltInt d2 a b pivot).1 + 1) b l1 true true) a (Sort.partition Sort.ltInt d2 a b pivot).1 l1 (decide (b - (Sort.partition Sort.ltInt d2 a b pivot).1 ≥ (b - a) / 8)) (Sort.partition Sort.ltInt d2 a b pivot).2.1
      else 0) = M)
    (Q : Ex → List AV → List AObj → Prop) (x0 x1 x2 x3 : AV)
    (kfin : ∀ T', Q .ret T' (H.set id (Cd R) ++ Dd M))
    (kgo : ∀ e T' a2 b2 wb2 wp2 d5 N5, (e = .normal ∨ e = .exit 1) → b2 - a2 < b - a → a2 ≤ b2 → b2 ≤ d.size → d5.size = d.size → Sort.pdq Sort.ltInt d5 a2 b2 l1 wb2 wp2 = R → N5 + pdqN d5 a2 b2 l1 wb2 wp2 = M →
      zipKeep keep114 T' = slots 134 [(0, Da id d.size), (1, I (a2 : Nat)), (2, I (b2 : Nat)), (3, I (l1 : Nat)), (8, B wb2), (9, B wp2)] → Q e T' (H.set id (Cd d5) ++ Dd N5)) :
    wpR Go.Proofs.Try.prog ann114 114 lo none rc114_17 (slots 134 [(0, Da id d.size), (1, I a), (2, I b), (3, I l1), (8, B wb), (9, B wp), (10, I (b - a : Nat)), (23, x0), (29, x1), (35, x2), (39, x3)]) (H.set id (Cd d1) ++ Dd (N + n0 - 1)) Q := by
  have hcr := Sort.choosePivot_holds Sort.ltInt d1 a b (by omega)
  rw [← ec] at hcr
  have hH1 := dd_get H (Cd d1) (N + n0 - 1) id hid
  unfold rc114_17
  obtain ⟨c5, g5⟩ : ∃ c, rc114_5 = c := ⟨_, rfl⟩
  obtain ⟨c16, g16⟩ : ∃ c, rc114_16 = c := ⟨_, rfl⟩
  rw [g5, g16]
  conv => whnf
  rw [← s1]
  refine ⟨_, _, call1 (pivot_sem d1 a b hlo (by omega) (by omega) (by omega) (by omega) (by simp; omega) hH1), ?_⟩
  rw [← ec, dd_one]
  conv => whnf
  by_cases hd2 : ch.2 = .decreasing
  · rw [decide_eq_true ((hint_two ch.2).2 hd2)]
    conv => whnf
    rw [if_pos hd2] at ed
    rw [if_pos hd2] at ep
    rw [if_pos hd2] at eh
    have s2 : d2.size = d.size := by rw [ed, rev_size _ _ _ (by omega) (by omega)]; exact s1
    subst g5
    unfold rc114_5
    obtain ⟨c4, g4⟩ : ∃ c, rc114_4 = c := ⟨_, rfl⟩
    rw [g4]
    conv => whnf
    refine ⟨_, _, call1 (revRange_sem hlo d1 a b (by omega) (by omega) (by omega) (dd_get H (Cd d1) _ id hid)), ?_⟩
    rw [dd_set _ _ _ _ _ hid, ← ed]
    conv => whnf
    subst g4
    unfold rc114_4
    conv => whnf
    rw [show IntKind.i64.wrap (IntKind.i64.wrap ((b : Int) - 1) - IntKind.i64.wrap ((ch.1 : Int) - (a : Int))) = (pivot : Int) by rw [wrapI ((b : Int) - 1) (by omega) (by omega), wrapI ((ch.1 : Int) - (a : Int)) (by omega) (by omega), wrapI _ (by omega) (by omega), ep]; omega]
    subst g16
    rw [s1, show N + n0 - 1 + 1 = N + n0 by omega]
    rw [show (AV.int .i64 1) = I (hintI hint) by rw [eh]; rfl]
    exact pdq_tail1 hlo IH hid hd hn hb h12 hl1 s2 (by omega) (by omega) ef hR hM Q _ _ _ _ _ _ kfin kgo
  · rw [decide_eq_false fun h => hd2 ((hint_two ch.2).1 h)]
    conv => whnf
    rw [if_neg hd2] at ed
    rw [if_neg hd2] at ep
    rw [if_neg hd2] at eh
    subst ed ep eh
    subst g16
    rw [s1, show N + n0 - 1 + 1 = N + n0 by omega]
    exact pdq_tail1 hlo IH hid hd hn hb h12 hl1 s1 hcr.1 hcr.2 ef hR hM Q _ _ _ _ _ _ kfin kgo
theorem pdq_sem : ∀ (n : Nat) (H : List AObj) (id lo : Nat) (d : Array Int) (a b limit : Nat), b - a ≤ n → lo ≤ id → d.size < 32 → a ≤ b → b ≤ d.size → limit ≤ 100 → H[id]? = some (Cd d) →
    Sem Go.Proofs.Try.prog (.fn 114) [Da id d.size, I a, I b, I limit] H lo (.tuple []) (H.set id (Cd (Sort.pdq Sort.ltInt d a b limit true true)) ++ Dd (pdqN d a b limit true true)) := by
  intro n
  induction n using Nat.strongRecOn with
  | _ n IH =>
  intro H id lo d a b limit hn hlo hd ha hb hlim hH
  have hid := (List.getElem?_eq_some_iff.1 hH).1
  refine fn_semQ hmix lk114 rfl ⟨by simp, fun j h1 h2 => by rw [List.getElem?_append_left (by simp; omega), List.getElem?_set_ne (by omega)]⟩ fun Q hQ => ?_
  unfold rc114
  obtain ⟨c19, g19⟩ : ∃ c, rc114_19 = c := ⟨_, rfl⟩
  rw [g19]
  conv => whnf
  have hB : B true = .bool true := rfl
  generalize hR : Sort.pdq Sort.ltInt d a b limit true true = R at hQ
  generalize hM : pdqN d a b limit true true = M at hQ
  refine .intro (fun m T H' => ∃ a' b' l' wb wp d' N, m = b' - a' ∧ m ≤ n ∧ a' ≤ b' ∧ b' ≤ d.size ∧ l' ≤ 100 ∧ d'.size = d.size ∧ Sort.pdq Sort.ltInt d' a' b' l' wb wp = R ∧ N + pdqN d' a' b' l' wb wp = M ∧ T = slots 134 [(0, Da id d.size), (1, I a'), (2, I b'), (3, I l'), (8, B wb), (9, B wp)] ∧ H' = H.set id (Cd d') ++ Dd N) (b - a) ⟨a, b, limit, true, true, d, 0, rfl, hn, ha, hb, hlim, rfl, hR, by rw [Nat.zero_add]; exact hM, rfl, ?_⟩ ?_
  · obtain ⟨h1, h2⟩ := List.getElem?_eq_some_iff.1 hH
    rw [← h2, List.set_getElem_self]; simp
  clear hR hM
  rintro m T H' ⟨a', b', l', wb, wp, d', N, hm, hmn, ha', hb', hl', hds, hR, hM, rfl, rfl⟩
  subst g19
  unfold rc114_19
  obtain ⟨c1, g1⟩ : ∃ c, rc114_1 = c := ⟨_, rfl⟩
  obtain ⟨c18, g18⟩ : ∃ c, rc114_18 = c := ⟨_, rfl⟩
  rw [g1, g18]
  conv => whnf
  rw [show IntKind.i64.wrap ((b' : Int) - (a' : Int)) = ((b' - a' : Nat) : Int) by rw [wrapI _ (by omega) (by omega)]; omega]
  have hH' := dd_get H (Cd d') N id hid
  by_cases h12 : ((b' - a' : Nat) : Int) ≤ 12
  · rw [decide_eq_true h12]
    conv => whnf
    subst g1
    unfold rc114_1
    conv => whnf
    rw [← hds]
    refine ⟨_, _, call1 (insertion_sem hlo d' a' b' (by omega) ha' (by omega) hH'), ?_⟩
    conv => whnf
    rw [dd_set _ _ _ _ _ hid]
    rw [Sort.pdq, if_pos (by omega)] at hR
    rw [pdqN, if_pos (by omega)] at hM
    refine hQ _ _ _ ⟨.inr rfl, ?_, rfl⟩
    rw [← hR, ← hM]
    exact ⟨rfl, fun j o hj => .inr hj⟩
  rw [decide_eq_false h12]
  conv => whnf
  subst g18
  unfold rc114_18
  obtain ⟨c2, g2⟩ : ∃ c, rc114_2 = c := ⟨_, rfl⟩
  obtain ⟨c3, g3⟩ : ∃ c, rc114_3 = c := ⟨_, rfl⟩
  obtain ⟨c17, g17⟩ : ∃ c, rc114_17 = c := ⟨_, rfl⟩
  rw [g2, g3, g17]
  conv => whnf
  by_cases h0 : ((l' : Nat) : Int) = 0
  · rw [decide_eq_true h0]
    conv => whnf
    subst g2
    unfold rc114_2
    conv => whnf
    rw [← hds]
    refine ⟨_, _, call1 (heap_sem hlo d' a' b' (by omega) ha' (by omega) hH'), ?_⟩
    conv => whnf
    rw [dd_set _ _ _ _ _ hid]
    rw [Sort.pdq, if_neg (by omega), if_pos (by omega)] at hR
    rw [pdqN, if_neg (by omega), if_pos (by omega)] at hM
    refine hQ _ _ _ ⟨.inr rfl, ?_, rfl⟩
    rw [← hR, ← hM]
    exact ⟨rfl, fun j o hj => .inr hj⟩
  rw [decide_eq_false h0]
  conv => whnf
  obtain ⟨d1, e1⟩ : ∃ x, x = if !wb then Sort.breakPatterns d' a' b' else d' := ⟨_, rfl⟩
  obtain ⟨l1, e2⟩ : ∃ x, x = if !wb then l' - 1 else l' := ⟨_, rfl⟩
  obtain ⟨n1, en⟩ : ∃ x, x = if !wb then 2 else 1 := ⟨_, rfl⟩
  obtain ⟨ch, ec⟩ : ∃ x, x = Sort.choosePivot Sort.ltInt d1 a' b' := ⟨_, rfl⟩
  obtain ⟨d2, ed⟩ : ∃ x, x = if ch.2 = .decreasing then Sort.reverseRange d1 a' b' else d1 := ⟨_, rfl⟩
  obtain ⟨pivot, ep⟩ : ∃ x, x = if ch.2 = .decreasing then (b' - 1) - (ch.1 - a') else ch.1 := ⟨_, rfl⟩
  obtain ⟨hint, eh⟩ : ∃ x, x = if ch.2 = .decreasing then Sort.Hint.increasing else ch.2 := ⟨_, rfl⟩
  obtain ⟨fin, ef⟩ : ∃ x, x = (wb && wp && decide (hint = .increasing) && (Sort.partialInsertionSort Sort.ltInt d2 a' b').2) := ⟨_, rfl⟩
  obtain ⟨q1, q2⟩ := pdq_round (wb := wb) (wp := wp) (show ¬ b' - a' ≤ 12 by omega) (show ¬ l' = 0 by omega) (by omega) e1 e2 en ec ed ep eh ef
  rw [q1] at hR
  rw [q2] at hM
  clear q1 q2
  have s1 : d1.size = d.size := by
    rw [e1]; split
    · rw [brk_psize _ _ _ ha' (by omega)]; exact hds
    · exact hds
  have hl1 : l1 ≤ 100 := by rw [e2]; split <;> omega
  have hcr := Sort.choosePivot_holds Sort.ltInt d1 a' b' (by omega)
  rw [← ec] at hcr
  -- the patterns are broken, or not
  have fin_ : ∀ T', Q .ret T' (H.set id (Cd R) ++ Dd M) := fun T' => hQ _ _ _ ⟨.inr rfl, ⟨rfl, fun j o hj => .inr hj⟩, rfl⟩
  cases wb with
  | true =>
    have hd1 : d1 = d' := by rw [e1]; rfl
    have hl : l1 = l' := by rw [e2]; rfl
    have hn1 : n1 = 1 := by rw [en]; rfl
    rw [← hl, ← hd1]
    conv => whnf
    subst g17
    refine pdq_tail (N := N) (n0 := 1) hlo IH hid hd (by omega) hb' (by omega) hl1 (by omega) s1 ec ed ep eh ef hR (by rw [hn1] at hM; exact hM) _ _ _ _ _ fin_ fun e T' a2 b2 wb2 wp2 d5 N5 he k1 k2 k3 k4 k5 k6 hz => ?_
    rcases he with rfl | rfl
    all_goals (
      conv => whnf
      rw [keepK_eq]
      refine ⟨b2 - a2, by omega, a2, b2, l1, wb2, wp2, d5, N5, rfl, by omega, k2, k3, hl1, k4, k5, k6, hz, rfl⟩
    )
  | false =>
    have hd1 : d1 = Sort.breakPatterns d' a' b' := by rw [e1]; rfl
    have hl : l1 = l' - 1 := by rw [e2]; rfl
    have hn1 : n1 = 2 := by rw [en]; rfl
    conv => whnf
    subst g3
    unfold rc114_3
    conv => whnf
    rw [← hds]
    refine ⟨_, _, call1 (break_sem id hlo d' a' b' (by omega) ha' (by omega) (by omega) hH'), ?_⟩
    rw [if_pos (by omega), dd_set _ _ _ _ _ hid, dd_one, ← hd1]
    conv => whnf
    rw [show IntKind.i64.wrap ((l' : Int) - 1) = (l1 : Int) by rw [wrapI _ (by omega) (by omega), hl]; omega, hds]
    subst g17
    refine pdq_tail (N := N) (n0 := 2) hlo IH hid hd (by omega) hb' (by omega) hl1 (by omega) s1 ec ed ep eh ef hR (by rw [hn1] at hM; exact hM) _ _ _ _ _ fin_ fun e T' a2 b2 wb2 wp2 d5 N5 he k1 k2 k3 k4 k5 k6 hz => ?_
    rcases he with rfl | rfl
    all_goals (
      conv => whnf
      rw [keepK_eq]
      refine ⟨b2 - a2, by omega, a2, b2, l1, wb2, wp2, d5, N5, rfl, by omega, k2, k3, hl1, k4, k5, k6, hz, rfl⟩
    )
end Go.Proofs.Ytlcebaejlnpdeaa.Ab

/-
  Contracts: slices' Sort, of fewer than 32.
-/
namespace Go.Proofs.Ytlcebaejlnpdeaa.Ab
open Go
set_option maxRecDepth 20000
set_option maxHeartbeats 4000000
section
variable {H : List AObj} {id lo : Nat}
theorem sort_sem (hlo : lo ≤ id) (d : Array Int) (hd : d.size < 32) (hH : H[id]? = some (Cd d)) :
    Sem Go.Proofs.Try.prog (.fn 104) [Da id d.size] H lo (.tuple []) (H.set id (Cd (Sort.sort Sort.ltInt d)) ++ Dd (pdqN d 0 d.size (Sort.bitsLen d.size) true true)) := by
  have hid := (List.getElem?_eq_some_iff.1 hH).1
  refine fn_semQ hmix lk104 rfl ⟨by simp, fun j h1 h2 => by rw [List.getElem?_append_left (by simp; omega), List.getElem?_set_ne (by omega)]⟩ fun Q hQ => ?_
  unfold rc104
  conv => whnf
  rw [show IntKind.u64.wrap (d.size : Int) = (d.size : Int) by rw [wrapU]; omega]
  refine ⟨by first | rfl | simp only [List.all_cons, List.all_nil, pu0, pub, pu1, pu2, pu1', pu2', pun, puf, puP, puP', puQ, puQ', Bool.and_true, Bool.and_self], _, bitsLen_ok d.size hd, ?_⟩
  conv => whnf
  have := bitsLen_le d.size hd
  refine ⟨_, _, call1 (pdq_sem _ H id lo d 0 d.size (Sort.bitsLen d.size) (Nat.le_refl _) hlo hd (Nat.zero_le _) (Nat.le_refl _) (by omega) hH), ?_⟩
  conv => whnf
  exact hQ _ _ _ ⟨.inl rfl, ⟨rfl, fun j o hj => .inr hj⟩, rfl⟩
theorem ins0_sem (c : Cap) : Sem Go.Proofs.Try.prog (.fn 116) [.lst [] 0 c, I 0, I 0] H lo (.tuple []) H := by
  refine fn_semQ hmix lk116 rfl ⟨Nat.le_refl _, fun j h1 h2 => rfl⟩ fun Q hQ => ?_
  unfold rc116
  conv => whnf
  refine .intro (fun m T H' => T = slots 49 [(0, .lst [] 0 c), (1, I 0), (2, I 0), (6, I 1)] ∧ H = H') 0 ⟨rfl, rfl⟩ ?_
  rintro m T H' ⟨rfl, rfl⟩
  conv => whnf
  exact hQ _ _ _ ⟨.inl rfl, ⟨rfl, fun j o hj => .inr hj⟩, rfl⟩
theorem pdq0_sem (c : Cap) : Sem Go.Proofs.Try.prog (.fn 114) [.lst [] 0 c, I 0, I 0, I 0] H lo (.tuple []) H := by
  refine fn_semQ hmix lk114 rfl ⟨Nat.le_refl _, fun j h1 h2 => rfl⟩ fun Q hQ => ?_
  unfold rc114
  obtain ⟨c19, g19⟩ : ∃ c, rc114_19 = c := ⟨_, rfl⟩
  rw [g19]
  conv => whnf
  refine .intro (fun m T H' => T = slots 134 [(0, .lst [] 0 c), (1, I 0), (2, I 0), (3, I 0), (8, B true), (9, B true)] ∧ H = H') 0 ⟨rfl, rfl⟩ ?_
  rintro m T H' ⟨rfl, rfl⟩
  subst g19
  unfold rc114_19
  obtain ⟨c1, g1⟩ : ∃ c, rc114_1 = c := ⟨_, rfl⟩
  obtain ⟨c18, g18⟩ : ∃ c, rc114_18 = c := ⟨_, rfl⟩
  rw [g1, g18]
  conv => whnf
  subst g1
  unfold rc114_1
  conv => whnf
  cases c
  all_goals (
    conv => whnf
    refine ⟨_, _, call1 (ins0_sem _), ?_⟩
    conv => whnf
    exact hQ _ _ _ ⟨.inr rfl, ⟨rfl, fun j o hj => .inr hj⟩, rfl⟩
  )
theorem sort0_sem (c : Cap) : Sem Go.Proofs.Try.prog (.fn 104) [.lst [] 0 c] H lo (.tuple []) H := by
  refine fn_semQ hmix lk104 rfl ⟨Nat.le_refl _, fun j h1 h2 => rfl⟩ fun Q hQ => ?_
  unfold rc104
  conv => whnf
  cases c
  all_goals (
    conv => whnf
    refine ⟨by rfl, _, bitsLen_ok 0 (by decide), ?_⟩
    conv => whnf
    refine ⟨_, _, call1 (pdq0_sem _), ?_⟩
    conv => whnf
    exact hQ _ _ _ ⟨.inl rfl, ⟨rfl, fun j o hj => .inr hj⟩, rfl⟩
  )
end
end Go.Proofs.Ytlcebaejlnpdeaa.Ab

/- MADE BY PROGRAM (rc.py): functions, looked up. -/
namespace Go.Proofs.Ytlcebaejlnpdeaa.Ab
open Go
noncomputable def rc105s_1 : RC :=
  .seq (.reg false [I_ 45 [.sl 0] .mv, I_ 46 [.sl 3] .mv, I_ 47 [.sl 4] .mv, I_ 48 [.sl 5] .mv, I_ 49 [.tv 47, .tv 48] (.ia 1), I_ 50 [.tv 49] (.ld .one), I_ 51 [.tv 45, .tv 46] (.ia 1), ⟨none, [.tk 51, .tk 50], none, none, .st
  1⟩]) (.reg false [I_ 52 [.tk 3] .mv, I_ 53 [.tv 52, .cv (.int .i64 1)] (.bin .add), I_ 3 [.tk 53] .mv])
noncomputable def rc105s_2 : RC :=
  .block 3 (.seq (.reg true [I_ 35 [.sl 4] .mv, I_ 36 [.sl 5] .mv, I_ 37 [.tv 35, .tv 36] (.ia 1), I_ 38 [.tv 37] (.ld .one), I_ 39 [.sl 4] .mv, I_ 40 [.sl 5] .mv, I_ 41 [.tv 40, .cv (.int .i64 1)] (.bin .sub), I_ 42 [.tv 39, .tv
  41] (.ia 1), I_ 43 [.tv 42] (.ld .one), I_ 44 [.tv 38, .tv 43] (.bin .neq)]) (.cond (.sl 44) rc105s_1 .skip))
noncomputable def rc105s_3 : RC :=
  .seq (.seq (.reg false [I_ 29 [.sl 5] .mv, I_ 30 [.sl 4] .mv, I_ 31 [.tk 30] .lenS, I_ 32 [.tv 29, .tv 31] (.bin .lss)]) (.cond (.sl 32) .skip (.exit 2))) (.seq rc105s_2 (.reg false [I_ 33 [.tk 5] .mv, I_ 34 [.tv 33, .cv (.int
  .i64 1)] (.bin .add), I_ 5 [.tk 34] .mv]))
noncomputable def rc105s_4 : RC :=
  .seq (.reg false [I_ 57 [.tk 0] .mv, I_ 58 [.tk 3] .mv, I_ 59 [.tk 57, .tk 58] (.slS 1 false true false), I_ 2 [.tk 59] .mv]) .ret
noncomputable def rc105s_5 : RC :=
  .seq (.reg false [I_ 54 [.sl 0] .mv, I_ 55 [.sl 3] .mv, I_ 56 [.tk 54, .tk 55] (.slS 1 true false false), ⟨none, [.tk 56], none, none, .other (Oper.mk none (Op.call (Call.mk (Callee.builtin Builtin.clear) (Array.mk [Operand.tmp
  56]) (Array.mk [37]))) 0 "slices.go:385" (Array.mk [Edge.mk 2 Ground.data]) none) 0⟩]) rc105s_4
noncomputable def rc105s_6 : RC :=
  .seq (.reg false [I_ 26 [.sl 0] .mv, I_ 27 [.sl 3] .mv, I_ 28 [.tk 26, .tk 27] (.slS 1 true false false), I_ 4 [.tk 28] .mv]) (.seq (.seq (.reg false [I_ 5 [.cv (.int .i64 1)] .mv]) (.block 2 (.loop (some [true, false, false,
  true, true, true, false, false, false, false, false, false, false, false, false, false, false, false, false, false, false, false, false, false, false, false, false, false, false, false, false, false, false, false, false, false,
  false, false, false, false, false, false, false, false, false, false, false, false, false, false, false, false, false, false, false, false, false, false, false, false, false]) rc105s_3))) rc105s_5)
noncomputable def rc105s_7 : RC :=
  .block 1 (.seq (.reg true [I_ 16 [.sl 0] .mv, I_ 17 [.sl 3] .mv, I_ 18 [.tv 16, .tv 17] (.ia 1), I_ 19 [.tv 18] (.ld .one), I_ 20 [.sl 0] .mv, I_ 21 [.sl 3] .mv, I_ 22 [.tv 21, .cv (.int .i64 1)] (.bin .sub), I_ 23 [.tv 20, .tv
  22] (.ia 1), I_ 24 [.tv 23] (.ld .one), I_ 25 [.tv 19, .tv 24] (.bin .eql)]) (.cond (.sl 25) rc105s_6 .skip))
noncomputable def rc105s_8 : RC :=
  .seq (.seq (.reg false [I_ 10 [.sl 3] .mv, I_ 11 [.sl 0] .mv, I_ 12 [.tk 11] .lenS, I_ 13 [.tv 10, .tv 12] (.bin .lss)]) (.cond (.sl 13) .skip (.exit 0))) (.seq rc105s_7 (.reg false [I_ 14 [.tk 3] .mv, I_ 15 [.tv 14, .cv (.int
  .i64 1)] (.bin .add), I_ 3 [.tk 15] .mv]))
noncomputable def rc105s_9 : RC :=
  .seq (.seq (.reg false [I_ 6 [.sl 0] .mv, I_ 7 [.tk 6] .lenS, I_ 8 [.tv 7, .cv (.int .i64 2)] (.bin .lss)]) (.cond (.sl 8) (.seq (.reg false [I_ 9 [.tk 0] .mv, I_ 2 [.tk 9] .mv]) .ret) .skip)) (.seq (.seq (.reg false [I_ 3 [.cv
  (.int .i64 1)] .mv]) (.block 0 (.loop (some [true, false, false, true, false, false, false, false, false, false, false, false, false, false, false, false, false, false, false, false, false, false, false, false, false, false,
  false, false, false, false, false, false, false, false, false, false, false, false, false, false, false, false, false, false, false, false, false, false, false, false, false, false, false, false, false, false, false, false,
  false, false, false]) rc105s_8))) (.seq (.reg false [I_ 60 [.tk 0] .mv, I_ 2 [.tk 60] .mv]) .ret))
noncomputable def rc105s : RC :=
  .seq (.reg false [I_ 2 [.cv (.lst [] 0 .full)] (.nil 1)]) rc105s_9
theorem lk105s : linkF Go.Proofs.Try.prog ann105 105 = some (rc105s, 61, [.tmp 2]) := by kernel_rfl
noncomputable def rc83s_1 : RC :=
  .reg false [I_ 34 [.tk 8] .mv, I_ 35 [.tk 10] .mv, I_ 36 [.sl 7] .mv, I_ 37 [.tk 9] .mv, I_ 38 [.tv 36, .tv 37] (.bin .shr), I_ 39 [.tv 38, .cv (.int .i64 1)] (.bin .and), I_ 40 [.tv 35, .tv 39] (.bin .mul), I_ 41 [.tv 34, .tv
  40] (.bin .add), I_ 8 [.tk 41] .mv]
noncomputable def rc83s_2 : RC :=
  .block 3 (.seq (.reg false [I_ 31 [.sl 29] .mv, I_ 32 [.sl 27, .sl 29] (.ia 1), I_ 33 [.tv 32] (.ld .one), I_ 9 [.tk 31] .mv, I_ 10 [.tk 33] .mv]) rc83s_1)
noncomputable def rc83s_3 : RC :=
  .reg false [I_ 43 [.tk 5] .mv, I_ 44 [.tk 8] .mv, I_ 45 [.tv 44] (.buildS 1 1 [.int .i64 0] [0]), I_ 46 [.tk 43, .tk 45] (.app 1 8), I_ 5 [.tk 46] .mv]
noncomputable def rc83s_4 : RC :=
  .seq (.seq (.reg false [I_ 27 [.sl 6] .mv, I_ 28 [.sl 27] .lenS, I_ 29 [.cv (.int .i64 0)] .mv]) (.block 2 (.loop (some [false, false, false, false, false, true, true, true, true, false, false, false, false, false, false, false,
  false, false, false, false, false, false, false, false, false, false, false, true, true, true, false, false, false, false, false, false, false, false, false, false, false, false, false, false, false, false, false, false, false,
  false, false]) (.seq (.reg false [I_ 30 [.sl 29, .sl 28] (.bin .lss)]) (.seq (.cond (.sl 30) .skip (.exit 2)) (.seq rc83s_2 (.reg false [I_ 42 [.tv 29, .cv (.int .i64 1)] (.bin .add), I_ 29 [.tk 42] .mv]))))))) rc83s_3
noncomputable def rc83s_5 : RC :=
  .block 1 (.seq (.reg false [I_ 8 [.cv (.int .i64 0)] .mv]) rc83s_4)
noncomputable def rc83s_6 : RC :=
  .seq (.seq (.reg false [I_ 19 [.sl 7] .mv, I_ 20 [.sl 6] .mv, I_ 21 [.tk 20] .lenS, I_ 22 [.cv (.int .i64 1), .tv 21] (.bin .shl), I_ 23 [.tv 22, .cv (.int .i64 1)] (.bin .sub), I_ 24 [.tv 19, .tv 23] (.bin .lss)]) (.cond (.sl
  24) .skip (.exit 0))) (.seq rc83s_5 (.reg false [I_ 25 [.tk 7] .mv, I_ 26 [.tv 25, .cv (.int .i64 1)] (.bin .add), I_ 7 [.tk 26] .mv]))
noncomputable def rc83s_7 : RC :=
  .seq (.reg false [⟨some 47, [.tk 5], none, some 5, .thaw⟩, I_ 48 [.cv (.func 104 [] []), .tk 47] (.call 1)]) (.seq (.reg false [I_ 49 [.tk 5] .mv, I_ 50 [.cv (.func 105 [] []), .tk 49] (.call 1), I_ 4 [.tk 50] .mv]) .ret)
noncomputable def rc83s_8 : RC :=
  .seq (.reg false [I_ 11 [.tk 0] .mv, I_ 12 [.tv 11] .nilc, I_ 13 [.tv 12] (.fa 0), I_ 14 [.tv 13] (.fa 0), I_ 15 [.tv 14] (.ld .one), I_ 16 [.tk 1] .mv, I_ 17 [.tv 15, .tv 16] (.ia 1), I_ 18 [.tv 17] (.ld .one), I_ 6 [.tk 18]
  .mv]) (.seq (.seq (.reg false [I_ 7 [.cv (.int .i64 1)] .mv]) (.block 0 (.loop (some [false, false, false, false, false, true, true, true, false, false, false, false, false, false, false, false, false, false, false, false,
  false, false, false, false, false, false, false, false, false, false, false, false, false, false, false, false, false, false, false, false, false, false, false, false, false, false, false, false, false, false, false]) rc83s_6)))
  rc83s_7)
noncomputable def rc83s : RC :=
  .seq (.reg false [I_ 4 [.cv (.lst [] 0 .full)] (.nil 1)]) (.seq (.reg false [I_ 5 [.cv (.lst [] 0 .full)] (.nil 1)]) rc83s_8)
theorem lk83s : linkF Go.Proofs.Try.prog ann83 83 = some (rc83s, 51, [.tmp 4]) := by kernel_rfl
end Go.Proofs.Ytlcebaejlnpdeaa.Ab

/-
  Contracts: slices' Compact.
-/
namespace Go.Proofs.Ytlcebaejlnpdeaa.Ab
open Go
set_option maxRecDepth 20000
set_option maxHeartbeats 4000000
/-- What is to hold behind some code is a word alone (the kernel is spared it). -/
theorem wpG {P : Program} {A : FAnn} {fn : FuncId} {lo : Nat} {rl : Option Nat} {c : RC} {T : List AV} {H : List AObj} {K : Ex → List AV → List AObj → Prop} (h : ∀ K' : Ex → List AV → List AObj → Prop, (∀ e T H, K e T H → K' e T H) → wpR P A fn lo rl c T H K') : wpR P A fn lo rl c T H K := h K fun _ _ _ h => h
/-- Of equal ones side by side the first. -/
def cmpA (l : List Int) : Nat → List Int
  | 0 => []
  | k + 1 => if 0 < k ∧ l.getD k 0 = l.getD (k - 1) 0 then cmpA l k else cmpA l k ++ [l.getD k 0]
theorem cmpA_le (l : List Int) : ∀ k, (cmpA l k).length ≤ k
  | 0 => Nat.le_refl _
  | k + 1 => by
    have := cmpA_le l k
    simp only [cmpA]; split
    · omega
    · simp; omega
theorem clear1 (lo id off len : Nat) (H : List AObj) (l : List AV) (hlo : lo ≤ id) (hH : H[id]? = some (.cells l)) (h : off + len = l.length) :
    opClear Go.Proofs.Try.prog lo #[37] H [.ref id off len none 1] = some (.tuple [], H.set id (.cells (l.take off ++ List.replicate len (I 0)))) := by
  have e1 : ((#[37] : Array TypeId)[0]?).bind Go.Proofs.Try.prog.underlying = some (.slice 2) := by kernel_rfl
  have e2 : szOf Go.Proofs.Try.prog 2 = some 1 := by kernel_rfl
  have e3 : zeroCells Go.Proofs.Try.prog 2 = some [.int .i64 0] := by kernel_rfl
  have e4 : setCells off (repl len [AV.int .i64 0]) l = l.take off ++ List.replicate len (I 0) := by
    apply List.ext_getElem?
    intro j
    rw [setCells_get _ _ _ _ (by rw [repl_len]; simp; omega), repl_len, repl1]
    by_cases hj : j < off
    · rw [if_neg (by omega), List.getElem?_append_left (by simp; omega), List.getElem?_take_of_lt hj]
    · rw [List.getElem?_append_right (by simp; omega)]
      simp only [List.length_take, List.length_singleton, Nat.mul_one]
      by_cases hj2 : j < off + len
      · rw [if_pos ⟨by omega, hj2⟩, List.getElem?_replicate, List.getElem?_replicate, if_pos (by omega), if_pos (by omega)]
      · rw [if_neg (by omega), List.getElem?_eq_none (by omega), List.getElem?_replicate, if_neg (by omega)]
  unfold opClear
  simp only [e1, e2, e3, mutObj, hH, Option.map_some, if_pos hlo]
  rw [if_pos ⟨trivial, rfl, by decide⟩, if_pos (by omega), e4]
  rfl
theorem atC (l : List Int) (k x : Nat) (h : (cmpA l k).length ≤ x) (hx : x < l.length) : ((cmpA l k ++ l.drop (cmpA l k).length).map I)[x]? = some (I (l.getD x 0)) := by
  rw [List.getElem?_map, List.getElem?_append_right h, List.getElem?_drop, show (cmpA l k).length + (x - (cmpA l k).length) = x by omega, List.getElem?_eq_getElem hx]
  simp [hx]
theorem setC (l : List Int) (A : List Int) (v : Int) (h : A.length < l.length) : ((A ++ l.drop A.length).map I).set A.length (I v) = ((A ++ [v]) ++ l.drop (A ++ [v]).length).map I := by
  rw [List.map_append, List.set_append_right _ _ (by simp), List.length_map, Nat.sub_self, List.drop_eq_getElem_cons h, List.map_cons, List.set_cons_zero]
  simp
theorem listAt (l : List Int) (x : Nat) (hx : x < l.length) : (l.map I)[x]? = some (I (l.getD x 0)) := by simp [hx]
section
variable {H : List AObj} {id lo : Nat}
theorem compact_sem (hlo : lo ≤ id) (l : List Int) (h0 : 0 < l.length) (hl : l.length ≤ 1000) (hH : H[id]? = some (.cells (l.map I))) :
    Sem Go.Proofs.Try.prog (.fn 105) [.ref id 0 l.length none 1] H lo (.ref id 0 (cmpA l l.length).length none 1) (H.set id (.cells ((cmpA l l.length ++ List.replicate (l.length - (cmpA l l.length).length) 0).map I))) := by
  have hid := (List.getElem?_eq_some_iff.1 hH).1
  have hbl : Nat.ble lo id = true := Nat.ble_eq_true_of_le hlo
  have gs : ∀ c : AObj, (H.set id c)[id]? = some c := fun c => by rw [List.getElem?_set_self hid]
  have gss : ∀ c e : AObj, ((H.set id c).set id e)[id]? = some e := fun c e => by rw [List.set_set, gs]
  have same : H.set id (.cells (l.map I)) = H := by
    obtain ⟨h1, h2⟩ := List.getElem?_eq_some_iff.1 hH
    rw [← h2, List.set_getElem_self]
  refine fn_semQ hmix lk105s rfl ⟨by simp, fun j h1 h2 => by rw [List.getElem?_set_ne (by omega)]⟩ fun Q hQ => ?_
  unfold rc105s rc105s_9
  obtain ⟨c8, g8⟩ : ∃ c, rc105s_8 = c := ⟨_, rfl⟩
  rw [g8]
  conv => whnf
  have fin : ∀ T, getT T 2 = .ref id 0 l.length none 1 → cmpA l l.length = l → Q .ret T H := fun T hT e => hQ _ _ _ ⟨.inr rfl, by rw [e, Nat.sub_self, List.replicate_zero, List.append_nil, same]; exact ⟨rfl, fun j o hj => .inr hj⟩, by rw [e]; simp only [readR, hT, Option.map_some, packResults]⟩
  by_cases h2 : ((l.length : Nat) : Int) < 2
  · rw [decide_eq_true h2]
    conv => whnf
    have : l.length = 1 := by omega
    refine fin _ rfl ?_
    match l, this with
    | [x], _ => rfl
  rw [decide_eq_false h2]
  conv => whnf
  refine .intro (fun m T H' => ∃ k, 1 ≤ k ∧ k ≤ l.length ∧ m = l.length - k ∧ cmpA l k = l.take k ∧ T = slots 61 [(0, .ref id 0 l.length none 1), (3, I (k : Nat))] ∧ H = H') (l.length - 1) ⟨1, by omega, by omega, rfl, ?_, rfl, rfl⟩ ?_
  · match l, h0 with
    | x :: r, _ => rfl
  rintro m T H' ⟨k, hk1, hk2, rfl, he, rfl, rfl⟩
  subst g8
  unfold rc105s_8 rc105s_7
  obtain ⟨c6, g6⟩ : ∃ c, rc105s_6 = c := ⟨_, rfl⟩
  rw [g6]
  conv => whnf
  by_cases hk : (k : Int) < (l.length : Int)
  · rw [decide_eq_true hk]
    conv => whnf
    refine ⟨by omega, ?_⟩
    conv => whnf
    refine nthK_of hH ?_
    conv => whnf
    refine nthK_of (x := I (l.getD k 0)) (by rw [show 0 + (k : Int).toNat * 1 = k by simp]; exact listAt l k (by omega)) ?_
    conv => whnf
    rw [show IntKind.i64.wrap ((k : Int) - 1) = ((k - 1 : Nat) : Int) by rw [wrapI _ (by omega) (by omega)]; omega]
    refine ⟨by omega, ?_⟩
    conv => whnf
    refine nthK_of hH ?_
    conv => whnf
    refine nthK_of (x := I (l.getD (k - 1) 0)) (by rw [show 0 + (((k - 1 : Nat)) : Int).toNat * 1 = k - 1 by simp]; exact listAt l (k - 1) (by omega)) ?_
    conv => whnf
    by_cases hd : l.getD k 0 = l.getD (k - 1) 0
    · rw [decide_eq_true hd]
      conv => whnf
      have he1 : cmpA l (k + 1) = l.take k := by simp only [cmpA]; rw [if_pos ⟨by omega, hd⟩, he]
      subst g6
      unfold rc105s_6
      obtain ⟨c3, g3⟩ : ∃ c, rc105s_3 = c := ⟨_, rfl⟩
      obtain ⟨c5, g5⟩ : ∃ c, rc105s_5 = c := ⟨_, rfl⟩
      rw [g3, g5]
      conv => whnf
      refine ⟨rfl, by omega, fun _ => ?_, fun h => by omega⟩
      conv => whnf
      refine .intro (fun m T H' => ∃ q, 1 ≤ q ∧ k + q ≤ l.length ∧ m = l.length - q ∧ (cmpA l (k + q)).length + 1 ≤ k + q ∧ T = slots 61 [(0, .ref id 0 l.length none 1), (3, I (cmpA l (k + q)).length), (4, .ref id (0 + (k : Int).toNat * 1) (l.length - (k : Int).toNat) none 1), (5, I (q : Nat))] ∧ H' = H.set id (.cells ((cmpA l (k + q) ++ l.drop (cmpA l (k + q)).length).map I))) (l.length - 1) ⟨1, Nat.le_refl _, by omega, rfl, by rw [he1]; simp; omega, ?_, ?_⟩ ?_
      · rw [he1, List.length_take, Nat.min_eq_left (by omega)]; rfl
      · rw [he1, List.length_take, Nat.min_eq_left (by omega), List.take_append_drop]; exact same.symm
      rintro m T H' ⟨q, hq1, hq2, rfl, hw, rfl, rfl⟩
      subst g3
      unfold rc105s_3 rc105s_2
      obtain ⟨c1, g1⟩ : ∃ c, rc105s_1 = c := ⟨_, rfl⟩
      rw [g1]
      conv => whnf
      by_cases hq : (q : Int) < ((l.length - k : Nat) : Int)
      · rw [show decide ((q : Int) < ((l.length - (k : Int).toNat : Nat) : Int)) = true from decide_eq_true hq]
        conv => whnf
        refine ⟨by simp; omega, ?_⟩
        conv => whnf
        refine nthK_of (gs _) ?_
        conv => whnf
        refine nthK_of (x := I (l.getD (k + q) 0)) (by rw [show 0 + (k : Int).toNat * 1 + (q : Int).toNat * 1 = k + q by simp]; exact atC l (k + q) (k + q) (by omega) (by omega)) ?_
        conv => whnf
        rw [show IntKind.i64.wrap ((q : Int) - 1) = ((q - 1 : Nat) : Int) by rw [wrapI _ (by omega) (by omega)]; omega]
        refine ⟨by simp; omega, ?_⟩
        conv => whnf
        refine nthK_of (gs _) ?_
        conv => whnf
        refine nthK_of (x := I (l.getD (k + q - 1) 0)) (by rw [show 0 + (k : Int).toNat * 1 + (((q - 1 : Nat)) : Int).toNat * 1 = k + q - 1 by simp; omega]; exact atC l (k + q) (k + q - 1) (by omega) (by omega)) ?_
        conv => whnf
        by_cases hx : l.getD (k + q) 0 = l.getD (k + q - 1) 0
        · rw [decide_eq_false (not_not_intro hx)]
          conv => whnf
          have e : cmpA l (k + (q + 1)) = cmpA l (k + q) := by rw [← Nat.add_assoc]; simp only [cmpA]; rw [if_pos ⟨by omega, hx⟩]
          refine ⟨l.length - (q + 1), by omega, q + 1, by omega, by omega, rfl, by rw [e]; omega, ?_, by rw [e]⟩
          rw [e, ← wrapS q (by omega)]; rfl
        · rw [decide_eq_true hx]
          conv => whnf
          have e : cmpA l (k + (q + 1)) = cmpA l (k + q) ++ [l.getD (k + q) 0] := by rw [← Nat.add_assoc]; simp only [cmpA]; rw [if_neg fun h => hx h.2]
          subst g1
          refine wpG fun K1 hK1 => ?_
          unfold rc105s_1
          conv => whnf
          refine ⟨by simp; omega, ?_⟩
          conv => whnf
          refine nthK_of (gs _) ?_
          conv => whnf
          refine nthK_of (x := I (l.getD (k + q) 0)) (by rw [show 0 + (k : Int).toNat * 1 + (q : Int).toNat * 1 = k + q by simp]; exact atC l (k + q) (k + q) (by omega) (by omega)) ?_
          conv => whnf
          refine ⟨by omega, ?_⟩
          conv => whnf
          rw [hbl]
          conv => whnf
          refine nthK_of (gs _) ?_
          conv => whnf
          refine updK_of (by simp; omega) ?_
          conv => whnf
          refine hK1 _ _ _ ?_
          conv => whnf
          refine ⟨l.length - (q + 1), by omega, q + 1, by omega, by omega, rfl, by rw [e, List.length_append, List.length_singleton]; omega, ?_, ?_⟩
          · rw [e, List.length_append, List.length_singleton, ← wrapS q (by omega), ← wrapS (cmpA l (k + q)).length (by omega)]; rfl
          · rw [List.set_set, e, show 0 + ((cmpA l (k + q)).length : Int).toNat * 1 = (cmpA l (k + q)).length by simp, setC l (cmpA l (k + q)) _ (by omega)]
      · rw [show decide ((q : Int) < ((l.length - (k : Int).toNat : Nat) : Int)) = false from decide_eq_false hq]
        conv => whnf
        obtain rfl : q = l.length - k := by omega
        rw [show k + (l.length - k) = l.length by omega] at hw ⊢
        subst g5
        unfold rc105s_5 rc105s_4
        conv => whnf
        refine ⟨rfl, by omega, fun _ => ?_, fun h => by omega⟩
        conv => whnf
        refine ⟨_, _, fun C => (clear1 lo id _ _ _ _ hlo (gs _) (by simp)), ?_⟩
        conv => whnf
        refine ⟨rfl, by omega, ?_⟩
        conv => whnf
        refine hQ _ _ _ ⟨.inr rfl, ?_, rfl⟩
        rw [List.set_set]
        have e : (List.take (0 + ((cmpA l l.length).length : Int).toNat * 1) ((cmpA l l.length ++ l.drop (cmpA l l.length).length).map I) ++ List.replicate (l.length - ((cmpA l l.length).length : Int).toNat) (I 0)) = (cmpA l l.length ++ List.replicate (l.length - (cmpA l l.length).length) 0).map I := by
          simp
        rw [← e]
        exact ⟨rfl, fun j o hj => .inr hj⟩
    · rw [decide_eq_false hd]
      conv => whnf
      refine ⟨l.length - (k + 1), by omega, k + 1, by omega, by omega, rfl, ?_, by rw [← wrapS k (by omega)]; rfl, rfl⟩
      simp only [cmpA]
      rw [if_neg fun h => hd h.2, he, List.take_succ_eq_append_getElem (by omega)]
      simp [show k < l.length by omega]
  · rw [decide_eq_false hk]
    conv => whnf
    obtain rfl : k = l.length := by omega
    exact fin _ rfl (by rw [he, List.take_length])
end
end Go.Proofs.Ytlcebaejlnpdeaa.Ab

/-
  Contracts: the sums of a layer.
-/
namespace Go.Proofs.Ytlcebaejlnpdeaa.Ab
open Go
set_option maxRecDepth 20000
set_option maxHeartbeats 4000000
/-- The sum of strips that bits tell, of the first so many. -/
def bsumT (w : List Int) (b : Nat) : Nat → Int
  | 0 => 0
  | i + 1 => bsumT w b i + w.getD i 0 * ((b / 2 ^ i % 2 : Nat) : Int)
/-- The sums of some strips, but not of all. -/
def subs (w : List Int) : List Int := (List.range (2 ^ w.length - 2)).map fun r => bsumT w (r + 1) w.length
/-- .. sorted, each once. -/
def psums (w : List Int) : List Int := cmpA (Sort.sort Sort.ltInt (subs w).toArray).toList (subs w).length
theorem bit_val : ∀ (b : Fin 32) (i : Fin 5), IntKind.i64.wrap (((BitVec.ofInt IntKind.i64.bits (((b.1 : Nat) : Int).fdiv (2 ^ (Nat.min (((i.1 : Nat) : Int)).toNat IntKind.i64.bits))) &&& BitVec.ofInt IntKind.i64.bits 1).toNat : Nat) : Int) = ((b.1 / 2 ^ i.1 % 2 : Nat) : Int) := by decide +kernel
theorem pow_val : ∀ (n : Fin 6), IntKind.i64.wrap (IntKind.i64.wrap (1 * 2 ^ (Nat.min (((n.1 : Nat) : Int)).toNat IntKind.i64.bits)) - 1) = ((2 ^ n.1 - 1 : Nat) : Int) ∧ 2 ^ n.1 ≤ 32 := by decide +kernel
theorem bsumT_bound {w : List Int} (hs : ∀ x ∈ w, 1 ≤ x ∧ x ≤ 100) (b : Nat) : ∀ i, 0 ≤ bsumT w b i ∧ bsumT w b i ≤ 100 * i
  | 0 => by simp [bsumT]
  | i + 1 => by
    have ih := bsumT_bound hs b i
    have h1 : 0 ≤ w.getD i 0 ∧ w.getD i 0 ≤ 100 := by
      by_cases h : i < w.length
      · have := hs _ (List.getElem_mem h)
        simp [h]; omega
      · simp [h]
    simp only [bsumT]
    have : b / 2 ^ i % 2 = 0 ∨ b / 2 ^ i % 2 = 1 := by omega
    rcases this with e | e <;> rw [e] <;> omega
section
variable {H : List AObj} {id lo : Nat}
theorem compact0_sem : Sem Go.Proofs.Try.prog (.fn 105) [.lst [] 0 .shared] H lo (.lst [] 0 .shared) H := by
  refine fn_semQ hmix lk105s rfl ⟨Nat.le_refl _, fun j h1 h2 => rfl⟩ fun Q hQ => ?_
  unfold rc105s rc105s_9
  obtain ⟨c8, g8⟩ : ∃ c, rc105s_8 = c := ⟨_, rfl⟩
  rw [g8]
  conv => whnf
  exact hQ _ _ _ ⟨.inr rfl, ⟨rfl, fun j o hj => .inr hj⟩, rfl⟩
/-- How many variables the sorting leaves behind. -/
def dN (w : List Int) : Nat := pdqN (subs w).toArray 0 (subs w).toArray.size (Sort.bitsLen (subs w).toArray.size) true true
theorem sums_walk (hlo : lo ≤ H.length) (p : List (List Int)) (k : Nat) (hk : k < p.length) (hv : Val p) (Q : Ex → List AV → List AObj → Prop)
    (h1 : ∀ T, p[k].length = 1 → getT T 4 = .lst [] 0 .shared → Q .ret T H)
    (h2 : ∀ T, 2 ≤ p[k].length → getT T 4 = .ref H.length 0 (psums p[k]).length none 1 → Q .ret T (H ++ .cells ((psums p[k] ++ List.replicate ((subs p[k]).length - (psums p[k]).length) 0).map I) :: Dd (dN p[k]))) :
    wpR Go.Proofs.Try.prog ann83 83 lo none rc83s (slots 51 [(0, Bn p), (1, I k)]) H Q := by
  have h5 := hv.s5 _ (List.getElem_mem hk)
  have hp1 := hv.s1 _ (List.getElem_mem hk)
  unfold rc83s rc83s_8
  obtain ⟨c6, g6⟩ : ∃ c, rc83s_6 = c := ⟨_, rfl⟩
  obtain ⟨c7, g7⟩ : ∃ c, rc83s_7 = c := ⟨_, rfl⟩
  rw [g6, g7]
  conv => whnf
  refine ⟨by omega, ?_⟩
  conv => whnf
  refine nthM _ _ _ (hk) ?_
  conv => whnf
  have hw := hv.w _ (List.getElem_mem hk)
  obtain ⟨w, hw0⟩ : ∃ w, w = p[k] := ⟨_, rfl⟩
  rw [← hw0] at h5 hp1 hw h1 h2 ⊢
  have hpv := pow_val ⟨w.length, by omega⟩
  have hp32 : 2 ^ w.length ≤ 32 := hpv.2
  have hsl : (subs w).length = 2 ^ w.length - 2 := by simp [subs]
  refine .intro (fun m T H' => ∃ r, r ≤ 2 ^ w.length - 2 ∧ m = 2 ^ w.length - 2 - r ∧ T = slots 51 [(5, U1 ((subs w).take r)), (6, L1 w), (7, I (r + 1 : Nat))] ∧ H = H') (2 ^ w.length - 2) ⟨0, by omega, rfl, rfl, rfl⟩ ?_
  rintro m T H' ⟨r, hr, rfl, rfl, rfl⟩
  have h2p : 2 ≤ 2 ^ w.length := by
    have := Nat.pow_le_pow_right (show 0 < 2 by decide) hp1
    simpa using this
  subst g6
  unfold rc83s_6
  obtain ⟨c5, g5⟩ : ∃ c, rc83s_5 = c := ⟨_, rfl⟩
  rw [g5]
  conv => whnf
  refine ⟨by omega, ?_⟩
  conv => whnf
  rw [show IntKind.i64.wrap (IntKind.i64.wrap (1 * 2 ^ (((w.length : Nat) : Int).toNat.min IntKind.i64.bits)) - 1) = ((2 ^ w.length - 1 : Nat) : Int) from hpv.1]
  by_cases hb : ((r + 1 : Nat) : Int) < ((2 ^ w.length - 1 : Nat) : Int)
  · rw [decide_eq_true hb]
    conv => whnf
    subst g5
    refine wpG fun K1 hK1 => ?_
    unfold rc83s_5 rc83s_4
    obtain ⟨c2, g2⟩ : ∃ c, rc83s_2 = c := ⟨_, rfl⟩
    obtain ⟨c3, g3⟩ : ∃ c, rc83s_3 = c := ⟨_, rfl⟩
    rw [g2, g3]
    conv => whnf
    refine .intro (fun m T H' => ∃ i, i ≤ w.length ∧ m = w.length - i ∧ T = slots 51 [(5, U1 ((subs w).take r)), (6, L1 w), (7, I (r + 1 : Nat)), (8, I (bsumT w (r + 1) i)), (27, L1 w), (28, I w.length), (29, I (i : Nat))] ∧ H = H') w.length ⟨0, by omega, rfl, rfl, rfl⟩ ?_
    rintro m T H' ⟨i, hi, rfl, rfl, rfl⟩
    conv => whnf
    by_cases hlt : (i : Int) < (w.length : Int)
    · rw [decide_eq_true hlt]
      conv => whnf
      subst g2
      refine wpG fun K2 hK2 => ?_
      unfold rc83s_2 rc83s_1
      conv => whnf
      refine ⟨by omega, ?_⟩
      conv => whnf
      refine nthM _ _ _ ((show i < w.length by omega)) ?_
      conv => whnf
      refine ⟨by omega, ?_⟩
      conv => whnf
      rw [show IntKind.i64.wrap (((BitVec.ofInt IntKind.i64.bits (((r + 1 : Nat) : Int).fdiv (2 ^ (((i : Nat) : Int).toNat.min IntKind.i64.bits))) &&& BitVec.ofInt IntKind.i64.bits 1).toNat : Nat) : Int) = (((r + 1) / 2 ^ i % 2 : Nat) : Int) from bit_val ⟨r + 1, by omega⟩ ⟨i, by omega⟩]
      refine hK2 _ _ _ ?_
      conv => whnf
      have b1 := bsumT_bound hw (r + 1) i
      have b2 := bsumT_bound hw (r + 1) (i + 1)
      have hx := hw _ (List.getElem_mem (show i < w.length by omega))
      have e : bsumT w (r + 1) (i + 1) = bsumT w (r + 1) i + w[i]'(by omega) * (((r + 1) / 2 ^ i % 2 : Nat) : Int) := by
        simp [bsumT, show i < w.length by omega]
      refine ⟨w.length - (i + 1), by omega, i + 1, by omega, rfl, ?_, rfl⟩
      have m1 : IntKind.i64.wrap (w[i]'(by omega) * (((r + 1) / 2 ^ i % 2 : Nat) : Int)) = w[i]'(by omega) * (((r + 1) / 2 ^ i % 2 : Nat) : Int) := by
        have : (r + 1) / 2 ^ i % 2 = 0 ∨ (r + 1) / 2 ^ i % 2 = 1 := by omega
        rcases this with e | e <;> rw [e] <;> exact wrapI _ (by omega) (by omega)
      rw [m1, ← e, wrapI (bsumT w (r + 1) (i + 1)) (by omega) (by omega), ← wrapS i (by omega)]
      rfl
    · rw [decide_eq_false hlt]
      obtain rfl : i = w.length := by omega
      conv => whnf
      subst g3
      refine wpG fun K2 hK2 => ?_
      unfold rc83s_3
      conv => whnf
      have htl : ((subs w).take r).length = r := by rw [List.length_take, hsl]; omega
      refine ⟨rfl, by decide, rfl, by omega, ?_⟩
      conv => whnf
      refine hK2 _ _ _ ?_
      conv => whnf
      refine hK1 _ _ _ ?_
      conv => whnf
      refine ⟨2 ^ w.length - 2 - (r + 1), by omega, r + 1, by omega, rfl, ?_, rfl⟩
      have e : (subs w).take (r + 1) = (subs w).take r ++ [bsumT w (r + 1) w.length] := by
        rw [List.take_succ_eq_append_getElem (by omega)]; simp [subs]
      rw [e, ← U1_snoc, ← wrapS (r + 1) (by omega)]
      rfl
  · rw [decide_eq_false hb]
    obtain rfl : r = 2 ^ w.length - 2 := by omega
    rw [← hsl, List.take_length]
    conv => whnf
    subst g7
    unfold rc83s_7
    conv => whnf
    by_cases h0 : (subs w).length = 0
    · have h1l : w.length = 1 := by
        by_cases h : 2 ≤ w.length
        · have : 2 ^ 2 ≤ 2 ^ w.length := Nat.pow_le_pow_right (show 0 < 2 by decide) h
          simp only [Nat.reducePow] at this
          omega
        · omega
      refine .inr ⟨h0, ?_⟩
      have e0 : subs w = [] := List.length_eq_zero_iff.1 h0
      rw [e0]
      conv => whnf
      refine ⟨_, _, call1 (sort0_sem _), ?_⟩
      conv => whnf
      refine ⟨_, _, call1 compact0_sem, ?_⟩
      conv => whnf
      exact h1 _ h1l rfl
    · have h2l : 2 ≤ w.length := by
        by_cases h : 2 ≤ w.length
        · exact h
        · have : w.length = 1 := by omega
          rw [this] at hsl; exact absurd hsl h0
      refine .inl ⟨h0, ?_⟩
      conv => whnf
      have hg : (H ++ [AObj.cells ((subs w).map I)])[H.length]? = some (Cd (subs w).toArray) := getLast0 _ _ _ rfl
      have hss := sort_sem hlo (subs w).toArray (by simp; omega) hg
      have e1 : Da H.length (subs w).toArray.size = .ref H.length 0 (subs w).length none 1 := by simp [Da]
      rw [e1] at hss
      refine ⟨_, _, call1 hss, ?_⟩
      rw [setLast _ _ _ _ rfl]
      conv => whnf
      have hps := (Sort.sort_sorts (lt := Sort.ltInt) Sort.swo_ltInt (subs w).toArray).1.1
      obtain ⟨S, hS⟩ : ∃ x, x = (Sort.sort Sort.ltInt (subs w).toArray).toList := ⟨_, rfl⟩
      have hSl : S.length = (subs w).length := by rw [hS, Array.length_toList, hps]; simp
      have hcs := compact_sem (H := H ++ [Cd (Sort.sort Sort.ltInt (subs w).toArray)] ++ Dd (pdqN (subs w).toArray 0 (subs w).toArray.size (Sort.bitsLen (subs w).toArray.size) true true)) (id := H.length) (lo := lo) hlo S (by omega) (by omega) (by rw [List.append_assoc, List.getElem?_append_right (Nat.le_refl _), Nat.sub_self, hS]; rfl)
      rw [hSl] at hcs
      refine ⟨_, _, call1 hcs, ?_⟩
      conv => whnf
      have e2 : cmpA S (subs w).length = psums w := by rw [hS]; rfl
      rw [e2]
      have hE : ∀ (x y : AObj) (M : Nat), (H ++ [x] ++ Dd M).set H.length y = H ++ y :: Dd M := fun x y M => by simp
      rw [hE]
      exact h2 _ h2l rfl
theorem psums_le (w : List Int) : (psums w).length ≤ (subs w).length := cmpA_le _ _
theorem psums_one (w : List Int) (h : w.length = 1) : psums w = [] := by
  have : (subs w).length = 0 := by simp [subs, h]
  unfold psums; rw [this]; rfl
theorem row_int {H : List AObj} {id : Nat} (l r : List Int) (h : H[id]? = some (.cells ((l ++ r).map I))) : rowOf H (.ref id 0 l.length none 1) = some (l.map I) := by
  simp only [rowOf, h, Nat.zero_add, Nat.mul_one, List.length_map, List.length_append, Nat.le_add_right, if_true, List.drop_zero]
  rw [List.map_append, List.take_left' (by simp), List.map_map]
  rfl
theorem frz_row {H : List AObj} {id d : Nat} (l r : List Int) (h : H[id]? = some (.cells ((l ++ r).map I))) : frz H 0 H.length 0 (d + 2) (.ref id 0 l.length none 1) = some (L1 l) := by
  have h1 := (List.getElem?_eq_some_iff.1 h).1
  have h2 : mapO (frz H 0 H.length 0 (d + 1)) (l.map I) = some (l.map I) := mapO_id fun u hu => frz_pure (by obtain ⟨x, _, rfl⟩ := List.mem_map.1 hu; rfl)
  show (if id < 0 then some (AV.ref id 0 l.length none 1) else if id = H.length then some (.ref 0 0 l.length none 1) else match rowOf H (.ref id 0 l.length none 1) with
      | some row => (mapO (frz H 0 H.length 0 (d + 1)) row).map fun cs => AV.lst cs l.length (frzCap none l.length)
      | none => none) = some (L1 l)
  rw [if_neg (by omega), if_neg (by omega), row_int l r h]
  simp only [h2, Option.map_some]
  rfl
/-- A call over no objects. -/
theorem sums_ok (p : List (List Int)) (k : Nat) (hk : k < p.length) (hv : Val p) : PO 83 [Bn p, I k] (L1 (psums p[k])) := by
  refine fn_pureQ hmix lk83s rfl (pu1' _) fun Q hQ => ?_
  refine sums_walk (Nat.zero_le _) p k hk hv Q (fun T h hT => ?_) (fun T h hT => ?_)
  · rw [psums_one _ h] at hQ
    exact hQ _ _ _ (ret_pure (.inr rfl) (pu1' _) (by simp only [readR, hT, Option.map_some, packResults]; rfl))
  · exact hQ _ _ _ ⟨.inr rfl, [.ref 0 0 (psums p[k]).length none 1], by simp only [readR, hT, Option.map_some]; rfl, L1 (psums p[k]), frz_row (id := 0) (psums p[k]) _ rfl, .inl rfl⟩
end
end Go.Proofs.Ytlcebaejlnpdeaa.Ab

/-
  Plain words of layer 5: the program's orders: joints, layer by layer.
-/
namespace Go.Proofs.Ytlcebaejlnpdeaa.Ab
/-- A joint: orders from a layer on, that layer's seams, meetings, the distance. -/
structure Jt where
  o : List (List Int)
  s : List Int
  m : Int
  d : Int
def fr (x y : Jt) : Bool := decide (y.d < x.d)
/-- What bounds joints. -/
structure Jb (n : Nat) (x : Jt) : Prop where
  o : x.o.length = n
  s : x.s.length ≤ 4
  m0 : 0 ≤ x.m
  m1 : x.m ≤ 4 * n
end Go.Proofs.Ytlcebaejlnpdeaa.Ab

/-
  Contracts: joints; the best of them; lists of lists joined.
-/
namespace Go.Proofs.Ytlcebaejlnpdeaa.Ab
open Go
set_option maxRecDepth 20000
set_option maxHeartbeats 4000000
/-- Its four cells: whether its lists are known to be full. -/
def jcw (co cs : Cap) (x : Jt) : List AV := [.lst (x.o.map L1) x.o.length co, .lst (x.s.map I) x.s.length cs, I x.m, I x.d]
def LJ (co cs : Cap) (l : List Jt) (c : Cap) : AV := .lst (l.flatMap (jcw co cs)) l.length c
section
variable (co cs : Cap)
end
end Go.Proofs.Ytlcebaejlnpdeaa.Ab

/- MADE BY PROGRAM (rcy.py): rounds, looked up. -/
namespace Go.Proofs.Ytlcebaejlnpdeaa.Ab
open Go
end Go.Proofs.Ytlcebaejlnpdeaa.Ab

/-
  Contracts: the program's orders.
-/
namespace Go.Proofs.Ytlcebaejlnpdeaa.Ab
open Go
set_option maxRecDepth 20000
set_option maxHeartbeats 4000000
section
variable (p : List (List Int)) (t : Nat) (ht : t < p.length) (hv : Val p) (Bh : List Jt) (nB : Nat) (hB : ∀ x ∈ Bh, Jb nB x) (hn : nB ≤ 3) (hB0 : 0 < Bh.length) (hB1 : Bh.length ≤ 3125)
variable (c c1 : Cap) (hc : c = .own 4 ∨ c = .shared) (hc1 : c1 = .full ∨ c1 = .shared) (X0 : List AObj) (ii inn : Nat) (fv bv xv yv : AV)
variable (g0 : X0[0]? = some (.cells [Bn p])) (g1 : X0[1]? = some (.cells [LJ c1 c1 Bh c])) (g2 : X0[2]? = some (.cells [.func 100 [] []])) (gi : X0[ii]? = some (.cells [I t]))
variable (hinn : inn < X0.length) (n0 : inn ≠ 0) (n1 : inn ≠ 1) (n2 : inn ≠ 2) (ni : inn ≠ ii)
include ht hv hB hn hB0 hB1 hc hc1 g0 g1 g2 gi hinn n0 n1 n2 ni
end
end Go.Proofs.Ytlcebaejlnpdeaa.Ab

/-
  Contracts: the program's orders, all layers.
-/
namespace Go.Proofs.Ytlcebaejlnpdeaa.Ab
open Go
set_option maxRecDepth 20000
set_option maxHeartbeats 4000000
end Go.Proofs.Ytlcebaejlnpdeaa.Ab

/-
  Plain law of layer 5: the program's orders are the first ones that have the fewest meetings.
-/
namespace Go.Proofs.Ytlcebaejlnpdeaa.Ab
abbrev Lens (p : List (List Int)) : Prop := (∀ l ∈ p, 1 ≤ l.length ∧ l.length ≤ 5) ∧ p.length ≤ 4
theorem Lens.tail {a : List Int} {r : List (List Int)} (h : Lens (a :: r)) : Lens r := ⟨fun l hl => h.1 l (by simp [hl]), by have := h.2; simp at this; omega⟩
end Go.Proofs.Ytlcebaejlnpdeaa.Ab

/-
  Contracts: SeamPanels, SeamThroughs.
-/
namespace Go.Proofs.Ytlcebaejlnpdeaa.Ab
open Go
set_option maxRecDepth 20000
/-- Works is true. -/
abbrev WK : Prop := PO 20 [] (B true)
end Go.Proofs.Ytlcebaejlnpdeaa.Ab

/-
  Contracts: the program's Pair; SeamFewests.
-/
namespace Go.Proofs.Ytlcebaejlnpdeaa.Ab
open Go
set_option maxRecDepth 20000
set_option maxHeartbeats 4000000
theorem Val.ne {p : List (List Int)} (hv : Val p) : p ≠ [] := fun h => by have := hv.n2; rw [h] at this; simp at this
end Go.Proofs.Ytlcebaejlnpdeaa.Ab

/-
  Contracts: the program's Sums.
-/
namespace Go.Proofs.Ytlcebaejlnpdeaa.Ab
open Go
set_option maxRecDepth 20000
set_option maxHeartbeats 4000000
def F1 (l : List Int) : AV := .lst (l.map I) l.length .full
theorem copy1 (lo id : Nat) (H : List AObj) (l : List Int) (hlo : lo ≤ id) (hH : H[id]? = some (.cells (repl l.length [I 0]))) :
    opCopy Go.Proofs.Try.prog lo #[37, 37] H [.ref id 0 l.length (some l.length) 1, L1 l] = some (I l.length, H.set id (.cells (l.map I))) := by
  have e1 : ((#[37, 37] : Array TypeId)[0]?).bind Go.Proofs.Try.prog.underlying = some (.slice 2) := by kernel_rfl
  have e2 : szOf Go.Proofs.Try.prog 2 = some 1 := by kernel_rfl
  have e4 : setCells 0 (l.map I) (repl l.length [I 0]) = l.map I := by
    apply List.ext_getElem?
    intro j
    have hl : (repl l.length [I 0]).length = l.length := by rw [repl_len]; simp
    rw [setCells_get _ _ _ _ (by rw [hl]; simp)]
    by_cases hj : j < l.length
    · rw [if_pos ⟨by omega, by simpa using hj⟩]; simp
    · rw [if_neg (by simp; omega), List.getElem?_eq_none (by rw [hl]; omega), List.getElem?_eq_none (by simpa using hj)]
  unfold opCopy
  simp only [e1, e2, L1, lenOf, rowOf, mutObj, hH, if_pos hlo]
  rw [if_pos ⟨trivial, by simp⟩, if_pos (by rw [repl_len]; simp), Nat.min_self, Nat.mul_one, List.take_of_length_le (by simp), e4]
  rfl
/-- What Sums, and Sure, tell of a layer; the error. -/
def layErr (p : List (List Int)) (x : Int) : Int := if checkP p ≠ 0 then checkP p else if outOf 0 ((p.length : Int) - 1) x = true then 2 else 0
theorem puL1 (l : List Int) (e : Int) : pureD 8 (.tuple [L1 l, I e]) = true := by
  show [L1 l, I e].all (pureD 7) = true
  rw [List.all_cons, List.all_cons, List.all_nil]
  have : pureD 7 (L1 l) = true := pure_ints 5 l
  rw [this]; rfl
theorem puF1 (l : List Int) (e : Int) : pureD 8 (.tuple [F1 l, I e]) = true := by
  show [F1 l, I e].all (pureD 7) = true
  rw [List.all_cons, List.all_cons, List.all_nil]
  have : pureD 7 (F1 l) = true := pure_ints 5 l
  rw [this]; rfl
theorem pSums_ok (p : List (List Int)) (x : Int) (h1 : p.length ≤ 140737488355328) (h2 : ∀ l ∈ p, l.length ≤ 140737488355328) :
    PO 40 [P1 p, I x] (if layErr p x = 0 then .tuple [F1 (psums (p.getD x.toNat [])), I 0] else .tuple [L1 [], I (layErr p x)]) := by
  by_cases hc : checkP p = 0
  · have hv := checkP_val hc
    cases ha : outOf 0 ((p.length : Int) - 1) x with
    | true =>
      have e : layErr p x = 2 := by unfold layErr; rw [if_neg (by simp [hc]), if_pos ha]
      rw [e, if_neg (by decide)]
      refine fn_pureQ hmix lk40 rfl rfl fun Q hQ => ?_
      unfold rc40
      conv => whnf
      refine ⟨by show (pureD 8 (P1 p) && (pureD 8 (L1 [x]) && true)) = true; rw [puP', pu1']; rfl, _, open_arg [x] h1 h2 (by simp) hc (by simpa using ha), ?_⟩
      conv => whnf
      exact hQ _ _ _ (ret_pure (.inr rfl) rfl rfl)
    | false =>
      have hx := outOf_false.1 ha
      obtain ⟨k, rfl⟩ : ∃ k : Nat, x = k := ⟨x.toNat, by omega⟩
      have hk : k < p.length := by omega
      have e : layErr p (k : Int) = 0 := by unfold layErr; rw [if_neg (by simp [hc]), if_neg (by simp [ha])]
      rw [e, if_pos rfl, show p.getD (k : Int).toNat [] = p[k] by simp [hk]]
      refine fn_pureQ hmix lk40 rfl (puF1 _ _) fun Q hQ => ?_
      unfold rc40
      conv => whnf
      refine ⟨by show (pureD 8 (P1 p) && (pureD 8 (L1 [(k : Int)]) && true)) = true; rw [puP', pu1']; rfl, _, open_good [(k : Int)] h1 h2 (by simp) hc (by simpa using ha), ?_⟩
      conv => whnf
      refine ⟨by simp only [List.all_cons, List.all_nil, puQ, Bool.and_true]; rfl, _, sums_ok p k hk hv, ?_⟩
      conv => whnf
      have hb : (psums p[k]).length ≤ 30 := by
        refine Nat.le_trans (psums_le _) ?_
        have h5 := hv.s5 _ (List.getElem_mem hk)
        have : 2 ^ p[k].length ≤ 32 := (pow_val ⟨p[k].length, by omega⟩).2
        simp only [subs, List.length_map, List.length_range]
        omega
      generalize psums p[k] = l at hb hQ
      refine ⟨by omega, by omega, by simp; omega, ?_⟩
      conv => whnf
      refine ⟨_, _, fun C => copy1 0 _ _ l (Nat.zero_le _) rfl, ?_⟩
      conv => whnf
      refine hQ _ _ _ ⟨.inr rfl, [.ref 1 0 l.length (some l.length) 1, I 0], rfl, .tuple [F1 l, I 0], ?_, .inl rfl⟩
      have hf := frz_ref (H := [.cells [L2 p], .cells (l.map I)]) (id := 1) (n := l.length) (d := 6) (l := l.map I) rfl (by simp) (by rw [List.map_map]; exact pure_ints 5 l)
      rw [List.map_map] at hf
      show ((mapO (frz [.cells [L2 p], .cells (l.map I)] 0 2 0 7) [.ref 1 0 l.length (some l.length) 1, I 0]).map AV.tuple) = _
      have e1 : mapO (frz [AObj.cells [L2 p], .cells (l.map I)] 0 2 0 7) [.ref 1 0 l.length (some l.length) 1, I 0] = some [F1 l, I 0] := by
        unfold mapO
        rw [show frz [AObj.cells [L2 p], .cells (l.map I)] 0 2 0 7 (.ref 1 0 l.length (some l.length) 1) = some (F1 l) from hf]
        rfl
      rw [e1]; rfl
  · have e : layErr p x = checkP p := if_pos hc
    rw [e, if_neg hc]
    refine fn_pureQ hmix lk40 rfl (puL1 _ _) fun Q hQ => ?_
    unfold rc40
    conv => whnf
    refine ⟨by show (pureD 8 (P1 p) && (pureD 8 (L1 [x]) && true)) = true; rw [puP', pu1']; rfl, _, open_bad [x] h1 h2 (by simp) hc, ?_⟩
    conv => whnf
    refine dcase (fun h => ?_) (fun h => absurd hc h)
    conv => whnf
    exact hQ _ _ _ (ret_pure (.inr rfl) (puL1 _ _) rfl)
end Go.Proofs.Ytlcebaejlnpdeaa.Ab

/-
  Contracts: the definitions' Sums and Sure.
-/
namespace Go.Proofs.Ytlcebaejlnpdeaa.Ab
open Go
set_option maxRecDepth 20000
set_option maxHeartbeats 4000000
/-- In how many orders a number is a seam. -/
def cnt (w : List Int) (a : Int) : Nat := ((seamA w).filter fun r => has r a).length
def cntL (w : List Int) (m : Int) (r : Nat) : List Int := ((List.range r).map fun i => ((i + 1 : Nat) : Int)).filter fun a => decide (m ≤ (cnt w a : Int))
/-- What the definitions say. -/
def rsums (w : List Int) : List Int := cntL w 1 (sumI w - 1).toNat
theorem layErr_val {p : List (List Int)} {x : Int} (h : layErr p x = 0) : Val p ∧ ∃ k : Nat, x = k ∧ k < p.length := by
  unfold layErr at h
  by_cases hc : checkP p = 0
  · refine ⟨checkP_val hc, ?_⟩
    rw [if_neg (by simp [hc])] at h
    by_cases ho : outOf 0 ((p.length : Int) - 1) x = true
    · rw [if_pos ho] at h; cases h
    · have := outOf_false.1 (by simpa using ho)
      exact ⟨x.toNat, by omega, by omega⟩
  · rw [if_pos hc] at h; exact absurd h hc
end Go.Proofs.Ytlcebaejlnpdeaa.Ab

/-
  Contracts: slices' DeleteFunc, with Sure's closure.
-/
namespace Go.Proofs.Ytlcebaejlnpdeaa.Ab
open Go
set_option maxRecDepth 20000
set_option maxHeartbeats 4000000
section
variable {H : List AObj} {id lo sid : Nat}
end
end Go.Proofs.Ytlcebaejlnpdeaa.Ab

/-
  Plain words of layer 5: the greatest distance: joints, layer by layer.
-/
namespace Go.Proofs.Ytlcebaejlnpdeaa.Ab
structure Jf (W : Int) (n : Nat) (x : Jt) : Prop where
  o : x.o.length = n
  s : Pos x.s
  d0 : 0 ≤ x.d
  d1 : x.d ≤ W
end Go.Proofs.Ytlcebaejlnpdeaa.Ab

/-
  Contracts: the greatest distance: rounds.
-/
namespace Go.Proofs.Ytlcebaejlnpdeaa.Ab
open Go
set_option maxRecDepth 20000
set_option maxHeartbeats 4000000
section
variable (p : List (List Int)) (t : Nat) (ht : t < p.length) (hv : Val p) (Wd : Int) (Bh : List Jt) (nB : Nat) (hB : ∀ x ∈ Bh, Jf Wd nB x) (hn : nB ≤ 3) (hB0 : 0 < Bh.length) (hB1 : Bh.length ≤ 3125)
variable (c c1 : Cap) (hc : c = .own 4 ∨ c = .shared) (hc1 : c1 = .full ∨ c1 = .shared) (X0 : List AObj) (ii inn : Nat) (TT : List AV)
variable (g0 : X0[0]? = some (.cells [Bn p])) (g2 : X0[2]? = some (.cells [I Wd])) (g3 : X0[3]? = some (.cells [LJ c1 c1 Bh c])) (g4 : X0[4]? = some (.cells [.func 111 [] []])) (gi : X0[ii]? = some (.cells [I t]))
variable (hinn : inn < X0.length) (n0 : inn ≠ 0) (n2 : inn ≠ 2) (n3 : inn ≠ 3) (n4 : inn ≠ 4) (ni : inn ≠ ii)
include ht hv hB hn hB0 hB1 hc hc1 g0 g2 g3 g4 gi hinn n0 n2 n3 n4 ni
end
end Go.Proofs.Ytlcebaejlnpdeaa.Ab

/-
  Contracts: the greatest distance, all layers; Far, Apart.
-/
namespace Go.Proofs.Ytlcebaejlnpdeaa.Ab
open Go
set_option maxRecDepth 20000
set_option maxHeartbeats 4000000
end Go.Proofs.Ytlcebaejlnpdeaa.Ab

/-
  Contracts: the program's Sure.
-/
namespace Go.Proofs.Ytlcebaejlnpdeaa.Ab
open Go
set_option maxRecDepth 20000
set_option maxHeartbeats 4000000
section
variable {H : List AObj} {id lo sid : Nat}
end
end Go.Proofs.Ytlcebaejlnpdeaa.Ab

/-
  Plain law of layer 5: the program's greatest distance is the definitions'; its orders have it.
-/
namespace Go.Proofs.Ytlcebaejlnpdeaa.Ab
/-- What joints of a first part say. -/
structure Jd (W : Int) (q : List (List Int)) (x : Jt) : Prop where
  ord : Ords q x.o
  d : x.d = distGo (seamsBy q x.o) W
  last : q = [] ∨ ∃ l, seamsBy q x.o = l ++ [x.s]
end Go.Proofs.Ytlcebaejlnpdeaa.Ab

/-
  Plain law of layer 5: no orders have fewer meetings, none a greater distance; with a layer less, or more.
-/
namespace Go.Proofs.Ytlcebaejlnpdeaa.Ab
end Go.Proofs.Ytlcebaejlnpdeaa.Ab

/-
  Plain words: orders that are chosen by numbers; the other way round; times as great.
-/
namespace Go.Proofs.Ytlcebaejlnpdeaa.Ab
/-! ### Orders by numbers -/
def nums (n : Nat) : List Int := (List.range n).map fun (x : Nat) => (x : Int)
theorem nums_succ (n : Nat) : nums (n + 1) = nums n ++ [(n : Int)] := by simp [nums, List.range_succ]
theorem nums_len (n : Nat) : (nums n).length = n := by simp [nums]
theorem nums_ord (n : Nat) : isOrd (nums n) n = true := by
  rw [isOrd_iff]
  refine ⟨nums_len n, fun x hx => ?_, ?_⟩
  · simp [nums] at hx; obtain ⟨k, hk, rfl⟩ := hx; omega
  · rw [nums, List.nodup_iff_pairwise_ne, List.pairwise_map]
    exact List.Pairwise.imp (fun h e => by omega) List.pairwise_lt_range
/-- Which one is next, behind so many; and how many are read then. -/
def pickN (y : List Int) (n t : Nat) : Nat := if y = [] then 0 else (y.getD (t % y.length) 0).toNat % n
def stepN (y : List Int) (t : Nat) : Nat := if y = [] then t else t + 1
def pickGo (y : List Int) : Nat → List Int → Nat → List Int × Nat
  | 0, _, t => ([], t)
  | f + 1, left, t => (left.getD (pickN y left.length t) 0 :: (pickGo y f (left.eraseIdx (pickN y left.length t)) (stepN y t)).1, (pickGo y f (left.eraseIdx (pickN y left.length t)) (stepN y t)).2)
def chosenGo (y : List Int) : List (List Int) → Nat → List (List Int)
  | [], _ => []
  | l :: r, t => (pickGo y l.length (nums l.length) t).1 :: chosenGo y r (pickGo y l.length (nums l.length) t).2
def chosen (p : List (List Int)) (y : List Int) : List (List Int) := chosenGo y p 0
theorem pickN_lt (y : List Int) {n : Nat} (t : Nat) (h : 0 < n) : pickN y n t < n := by
  unfold pickN; split
  · exact h
  · exact Nat.mod_lt _ h
theorem pick_perm (y : List Int) : ∀ (f : Nat) (left : List Int) (t : Nat), left.length = f → (pickGo y f left t).1.Perm left
  | 0, left, t, h => by rw [List.length_eq_zero_iff.1 h]; exact .refl _
  | f + 1, left, t, h => by
    have hn := pickN_lt y (n := left.length) t (by omega)
    have ih := pick_perm y f (left.eraseIdx (pickN y left.length t)) (stepN y t) (by rw [List.length_eraseIdx_of_lt hn]; omega)
    have e : left.getD (pickN y left.length t) 0 = left[pickN y left.length t] := by simp [List.getD_eq_getElem?_getD, hn]
    show (left.getD _ 0 :: _).Perm left
    rw [e]
    have e2 : left = left.take (pickN y left.length t) ++ left[pickN y left.length t] :: left.drop (pickN y left.length t + 1) := by rw [← List.drop_eq_getElem_cons hn, List.take_append_drop]
    have e3 := List.eraseIdx_eq_take_drop_succ left (pickN y left.length t)
    refine (List.Perm.cons _ ih).trans ?_
    rw [e3]
    exact List.perm_middle.symm.trans (.of_eq e2.symm)
theorem ord_perm {a b : List Int} {n : Nat} (h : a.Perm b) (hb : isOrd b n = true) : isOrd a n = true := by
  obtain ⟨h1, h2, h3⟩ := isOrd_iff.1 hb
  exact isOrd_iff.2 ⟨by rw [h.length_eq, h1], fun x hx => h2 x (h.mem_iff.1 hx), h.nodup_iff.2 h3⟩
theorem chosenGo_ords (y : List Int) : ∀ (p : List (List Int)) (t : Nat), Ords p (chosenGo y p t)
  | [], t => ⟨rfl, fun i h => by simp [chosenGo] at h⟩
  | l :: r, t => by
    have ih := chosenGo_ords y r (pickGo y l.length (nums l.length) t).2
    refine ⟨by simp [chosenGo, ih.len], fun i h h' => ?_⟩
    cases i with
    | zero => exact ord_perm (pick_perm y l.length (nums l.length) t (nums_len _)) (nums_ord _)
    | succ i => exact ih.ord i (by simpa [chosenGo] using h) (by simpa using h')
theorem chosen_ords (p : List (List Int)) (y : List Int) : Ords p (chosen p y) := chosenGo_ords y p 0
end Go.Proofs.Ytlcebaejlnpdeaa.Ab

/-
  Plain law of layer 5: the other way round; meetings and the distance.
-/
namespace Go.Proofs.Ytlcebaejlnpdeaa.Ab
/-! ### Seams rise -/
theorem seamsGo_rise (layer : List Int) : ∀ (l : List Int) (a : Int), (∀ i ∈ l, 1 ≤ layer.getD i.toNat 0) → (seamsGo layer a l).Pairwise (· < ·) ∧ ∀ x ∈ seamsGo layer a l, a < x
  | [], a, _ => by simp [seamsGo]
  | i :: l, a, h => by
    have h1 := h i (by simp)
    obtain ⟨h2, h3⟩ := seamsGo_rise layer l (a + layer.getD i.toNat 0) fun j hj => h j (by simp [hj])
    simp only [seamsGo, List.pairwise_cons, List.mem_cons, forall_eq_or_imp]
    exact ⟨⟨h3, h2⟩, by omega, fun x hx => by have := h3 x hx; omega⟩
theorem getD_wide {layer : List Int} (hw : ∀ x ∈ layer, 1 ≤ x) {i : Int} (h0 : 0 ≤ i) (h1 : i < layer.length) : 1 ≤ layer.getD i.toNat 0 := by
  have h : i.toNat < layer.length := by omega
  rw [List.getD_eq_getElem?_getD, List.getElem?_eq_getElem h]
  exact hw _ (List.getElem_mem h)
theorem seamsOf_rise {layer o : List Int} (hw : ∀ x ∈ layer, 1 ≤ x) (ho : isOrd o layer.length = true) : (seamsOf layer o).Pairwise (· < ·) ∧ ∀ x ∈ seamsOf layer o, 0 < x := by
  obtain ⟨_, h2, _⟩ := isOrd_iff.1 ho
  exact seamsGo_rise layer o.dropLast 0 fun i hi => by
    obtain ⟨k0, k1⟩ := h2 i (List.dropLast_subset _ hi)
    exact getD_wide hw k0 k1
end Go.Proofs.Ytlcebaejlnpdeaa.Ab

/-
  Plain law of layer 5: all widths times as great; orders that are turned round.
-/
namespace Go.Proofs.Ytlcebaejlnpdeaa.Ab
/-! ### Orders turned round -/
theorem sum_rev1 : ∀ l : List Int, sumI l.reverse = sumI l
  | [] => rfl
  | x :: l => by rw [List.reverse_cons, sumI_append, sum_rev1 l, sumI_cons, sumI_cons, sumI_nil]; omega
theorem sum_perm {a b : List Int} (h : a.Perm b) : sumI a = sumI b := by
  induction h with
  | nil => rfl
  | cons x _ ih => rw [sumI_cons, sumI_cons, ih]
  | swap x y l => rw [sumI_cons, sumI_cons, sumI_cons, sumI_cons]; omega
  | trans _ _ h1 h2 => rw [h1, h2]
def wsOf (l o : List Int) : List Int := o.map fun i => l.getD i.toNat 0
theorem wsOf_len (l o : List Int) : (wsOf l o).length = o.length := by simp [wsOf]
theorem ord_nums {o : List Int} {n : Nat} (h : isOrd o n = true) : o.Perm (nums n) := by
  obtain ⟨h1, h2, h3⟩ := isOrd_iff.1 h
  obtain ⟨_, _, k3⟩ := isOrd_iff.1 (nums_ord n)
  have hsub : ∀ x ∈ o, x ∈ nums n := fun x hx => by
    have := h2 x hx
    simp only [nums, List.mem_map, List.mem_range]
    exact ⟨x.toNat, by omega, by omega⟩
  rw [List.perm_ext_iff_of_nodup h3 k3]
  refine fun x => ⟨hsub x, fun hx => Classical.byContradiction fun hn => ?_⟩
  have := List.Nodup.length_le_of_subset (l₁ := x :: o) (l₂ := nums n) (List.nodup_cons.2 ⟨hn, h3⟩) fun z hz => by
    rcases List.mem_cons.1 hz with rfl | hz
    · exact hx
    · exact hsub z hz
  rw [nums_len, List.length_cons] at this
  omega
theorem ws_nums (l : List Int) : wsOf l (nums l.length) = l := by
  apply List.ext_getElem
  · simp [wsOf, nums]
  · intro k h1 h2
    simp [wsOf, nums, h2]
theorem ws_sum {l o : List Int} (h : isOrd o l.length = true) : sumI (wsOf l o) = sumI l := by
  rw [show sumI (wsOf l o) = sumI (wsOf l (nums l.length)) from sum_perm ((ord_nums h).map _), ws_nums]
theorem seamsGo_get (layer : List Int) : ∀ (o : List Int) (a : Int) (k : Nat) (h : k < (seamsGo layer a o).length), (seamsGo layer a o)[k] = a + sumI ((wsOf layer o).take (k + 1))
  | [], a, k, h => by simp [seamsGo] at h
  | i :: o, a, k, h => by
    cases k with
    | zero => simp [seamsGo, wsOf, sumI_cons, sumI_nil]
    | succ k =>
      have := seamsGo_get layer o (a + layer.getD i.toNat 0) k (by simpa [seamsGo] using h)
      simp only [seamsGo, List.getElem_cons_succ, this]
      rw [show wsOf layer (i :: o) = layer.getD i.toNat 0 :: wsOf layer o from rfl, List.take_succ_cons, sumI_cons]; omega
theorem seamsOf_len (l o : List Int) : (seamsOf l o).length = o.length - 1 := by simp [seamsOf, seamsGo_length]
theorem seamsOf_get (l o : List Int) (k : Nat) (h : k < (seamsOf l o).length) : (seamsOf l o)[k] = sumI ((wsOf l o).take (k + 1)) := by
  have hl := seamsOf_len l o
  have := seamsGo_get l o.dropLast 0 k h
  have e : (wsOf l o.dropLast).take (k + 1) = (wsOf l o).take (k + 1) := by
    rw [dropLast_take, wsOf, wsOf, List.map_take, List.take_take, Nat.min_eq_left (by omega)]
  rw [e] at this
  rw [show (seamsOf l o)[k] = (seamsGo l 0 o.dropLast)[k]'h from rfl, this]; omega
def turnL (W : Int) (s : List Int) : List Int := (s.map fun x => W - x).reverse
theorem turn_seams {l o : List Int} (h : isOrd o l.length = true) : seamsOf l o.reverse = turnL (sumI l) (seamsOf l o) := by
  have e : wsOf l o.reverse = (wsOf l o).reverse := by simp [wsOf]
  apply List.ext_getElem
  · simp [turnL, seamsOf_len]
  · intro k h1 h2
    have h3 := seamsOf_len l o.reverse
    have h4 := seamsOf_len l o
    rw [List.length_reverse] at h3
    rw [seamsOf_get, e, List.take_reverse, sum_rev1, wsOf_len]
    simp only [turnL, List.getElem_reverse, List.getElem_map, List.length_map]
    rw [seamsOf_get]
    have h5 := ws_sum h
    rw [← List.take_append_drop (o.length - (k + 1)) (wsOf l o), sumI_append] at h5
    rw [show (seamsOf l o).length - 1 - k + 1 = o.length - (k + 1) by omega]
    omega
theorem isOrd_rev {o : List Int} {n : Nat} (h : isOrd o n = true) : isOrd o.reverse n = true := ord_perm (List.reverse_perm o) h
theorem mem_turn (W : Int) (s : List Int) (x : Int) : W - x ∈ turnL W s ↔ x ∈ s := by
  simp only [turnL, List.mem_reverse, List.mem_map]
  exact ⟨fun ⟨y, hy, e⟩ => by rw [show x = y by omega]; exact hy, fun h => ⟨x, h, rfl⟩⟩
/-- Seams lie between both ends. -/
theorem seamsOf_in {l o : List Int} (hw : ∀ x ∈ l, 1 ≤ x) (ho : isOrd o l.length = true) : ∀ x ∈ seamsOf l o, 1 ≤ x ∧ x < sumI l := by
  intro x hx
  have h1 := (seamsOf_rise hw ho).2 x hx
  have h2 := (seamsOf_rise hw (isOrd_rev ho)).2 (sumI l - x) (by rw [turn_seams ho, mem_turn]; exact hx)
  omega
end Go.Proofs.Ytlcebaejlnpdeaa.Ab

/-
  Sums and sure seams: the program's are the definitions'.
-/
namespace Go.Proofs.Ytlcebaejlnpdeaa.Ab
open Go
def indS (w l : List Int) : Nat → Int
  | 0 => 0
  | i + 1 => indS w l i + if (i : Int) ∈ l then w.getD i 0 else 0
theorem indS_cons (w l : List Int) (x : Int) (h0 : 0 ≤ x) (hx : x ∉ l) : ∀ n : Nat, indS w (x :: l) n = indS w l n + if x < (n : Int) then w.getD x.toNat 0 else 0
  | 0 => by rw [if_neg (by omega)]; rfl
  | n + 1 => by
    have ih := indS_cons w l x h0 hx n
    simp only [indS, ih]
    by_cases e : (n : Int) = x
    · subst e
      rw [if_neg (show ¬ (n : Int) < (n : Int) by omega), if_pos (show (n : Int) ∈ (n : Int) :: l by simp), if_neg hx, if_pos (show (n : Int) < ((n + 1 : Nat) : Int) by omega)]
      simp
    · by_cases h : (n : Int) ∈ l
      · rw [if_pos (show (n : Int) ∈ x :: l by simp [h]), if_pos h]
        by_cases h2 : x < (n : Int)
        · rw [if_pos h2, if_pos (show x < ((n + 1 : Nat) : Int) by omega)]; omega
        · rw [if_neg h2, if_neg (show ¬ x < ((n + 1 : Nat) : Int) by omega)]; simp
      · rw [if_neg (show ¬ (n : Int) ∈ x :: l by simp [h, e]), if_neg h]
        by_cases h2 : x < (n : Int)
        · rw [if_pos h2, if_pos (show x < ((n + 1 : Nat) : Int) by omega)]; omega
        · rw [if_neg h2, if_neg (show ¬ x < ((n + 1 : Nat) : Int) by omega)]
theorem indS_sum (w : List Int) (n : Nat) : ∀ l : List Int, (∀ x ∈ l, 0 ≤ x ∧ x < n) → l.Nodup → sumI (wsOf w l) = indS w l n
  | [], _, _ => by
    have : ∀ n, indS w [] n = 0 := fun n => by induction n with
      | zero => rfl
      | succ n ih => simp [indS, ih]
    rw [this]; rfl
  | x :: l, h, hn => by
    have hx := h x (by simp)
    have ih := indS_sum w n l (fun y hy => h y (by simp [hy])) (List.nodup_cons.1 hn).2
    rw [indS_cons w l x hx.1 (List.nodup_cons.1 hn).1, if_pos hx.2, ← ih]
    show sumI (w.getD x.toNat 0 :: wsOf w l) = _
    rw [sumI_cons]; omega
theorem indS_bits (w l : List Int) (b : Nat) : ∀ n : Nat, (∀ i : Nat, i < n → (b / 2 ^ i % 2 = 1 ↔ (i : Int) ∈ l)) → bsumT w b n = indS w l n
  | 0, _ => rfl
  | n + 1, h => by
    simp only [bsumT, indS, indS_bits w l b n fun i hi => h i (by omega)]
    have hn := h n (by omega)
    have : b / 2 ^ n % 2 = 0 ∨ b / 2 ^ n % 2 = 1 := by omega
    rcases this with e | e
    · rw [e] at hn ⊢
      rw [if_neg (fun hh => by have := hn.2 hh; omega)]; simp
    · rw [if_pos (hn.1 e), e]; simp
def agree (b n : Nat) (l : List Int) : Bool := (List.range n).all fun i => decide (b / 2 ^ i % 2 = 1) == l.contains (i : Int)
theorem agree_iff {b n : Nat} {l : List Int} (h : agree b n l = true) (i : Nat) (hi : i < n) : b / 2 ^ i % 2 = 1 ↔ (i : Int) ∈ l := by
  have := List.all_eq_true.1 h i (List.mem_range.2 hi)
  rw [beq_iff_eq] at this
  rw [← decide_eq_true_iff (p := b / 2 ^ i % 2 = 1), this, List.contains_iff_mem]
def facts1 (n : Nat) : Bool := (perms n).all fun o => (List.range (n - 1)).all fun j => (List.range (2 ^ n - 2)).any fun b => agree (b + 1) n (o.take (j + 1))
def facts2 (n : Nat) : Bool := (List.range (2 ^ n - 2)).all fun b => (perms n).any fun o => (List.range (n - 1)).any fun j => agree (b + 1) n (o.take (j + 1))
theorem facts_all : ∀ n : Fin 6, facts1 n.1 = true ∧ facts2 n.1 = true := by decide +kernel
theorem subs_iff {w : List Int} (h5 : w.length ≤ 5) (a : Int) : a ∈ subs w ↔ ∃ o ∈ perms w.length, a ∈ seamsOf w o := by
  obtain ⟨f1, f2⟩ := facts_all ⟨w.length, by omega⟩
  have key : ∀ (b : Nat) (o : List Int) (j : Nat), o ∈ perms w.length → j < w.length - 1 → agree (b + 1) w.length (o.take (j + 1)) = true → ∃ h : j < (seamsOf w o).length, (seamsOf w o)[j] = bsumT w (b + 1) w.length := fun b o j ho hj hg => by
    obtain ⟨p1, p2, p3⟩ := perms_mem ho
    have hl : j < (seamsOf w o).length := by rw [seamsOf_len]; omega
    refine ⟨hl, ?_⟩
    have e : (wsOf w o).take (j + 1) = wsOf w (o.take (j + 1)) := by simp [wsOf, List.map_take]
    rw [seamsOf_get, e, indS_sum w w.length _ (fun x hx => p2 x (List.mem_of_mem_take hx)) (List.Nodup.sublist (List.take_sublist _ _) p3), indS_bits w _ (b + 1) w.length fun i hi => agree_iff hg i hi]
  constructor
  · intro h
    obtain ⟨b, hb, rfl⟩ := List.mem_map.1 h
    obtain ⟨o, ho, h2⟩ := List.any_eq_true.1 (List.all_eq_true.1 f2 b hb)
    obtain ⟨j, hj, h3⟩ := List.any_eq_true.1 h2
    obtain ⟨q1, q2⟩ := key b o j ho (List.mem_range.1 hj) h3
    exact ⟨o, ho, q2 ▸ List.getElem_mem q1⟩
  · rintro ⟨o, ho, h⟩
    obtain ⟨j, hj, rfl⟩ := List.mem_iff_getElem.1 h
    have p1 := (perms_mem ho).1
    have hj2 : j < w.length - 1 := by rw [seamsOf_len] at hj; omega
    obtain ⟨b, hb, h3⟩ := List.any_eq_true.1 (List.all_eq_true.1 (List.all_eq_true.1 f1 o ho) j (List.mem_range.2 hj2))
    obtain ⟨q1, q2⟩ := key b o j ho hj2 h3
    rw [q2]
    exact List.mem_map.2 ⟨b, hb, rfl⟩
/-- Lists that rise, with the same numbers. -/
theorem rise_eq : ∀ {a b : List Int}, a.Pairwise (· < ·) → b.Pairwise (· < ·) → (∀ x, x ∈ a ↔ x ∈ b) → a = b
  | [], [], _, _, _ => rfl
  | [], y :: b, _, _, h => by have := (h y).2 (by simp); simp at this
  | x :: a, [], _, _, h => by have := (h x).1 (by simp); simp at this
  | x :: a, y :: b, ha, hb, h => by
    obtain ⟨a1, a2⟩ := List.pairwise_cons.1 ha
    obtain ⟨b1, b2⟩ := List.pairwise_cons.1 hb
    have hxy : x = y := by
      rcases List.mem_cons.1 ((h x).1 (by simp)) with e | e
      · exact e
      · rcases List.mem_cons.1 ((h y).2 (by simp)) with e2 | e2
        · exact e2.symm
        · have := a1 y e2; have := b1 x e; omega
    subst hxy
    rw [rise_eq a2 b2 fun z => ?_]
    constructor
    · intro hz
      rcases List.mem_cons.1 ((h z).1 (by simp [hz])) with e | e
      · have := a1 z hz; omega
      · exact e
    · intro hz
      rcases List.mem_cons.1 ((h z).2 (by simp [hz])) with e | e
      · have := b1 z hz; omega
      · exact e
theorem cmpA_mem (l : List Int) : ∀ k, k ≤ l.length → ∀ x, x ∈ cmpA l k ↔ x ∈ l.take k
  | 0, _, x => by simp [cmpA]
  | k + 1, h, x => by
    have ih := cmpA_mem l k (by omega) x
    rw [List.take_succ_eq_append_getElem (by omega), List.mem_append, List.mem_singleton]
    have hg : l.getD k 0 = l[k]'(by omega) := by simp [show k < l.length by omega]
    simp only [cmpA]
    split
    · rename_i hc
      rw [ih]
      refine ⟨.inl, fun hh => hh.elim id fun e => ?_⟩
      have hg2 : l.getD (k - 1) 0 = l[k - 1]'(by omega) := by simp [show k - 1 < l.length by omega]
      rw [e, ← hg, hc.2, hg2]
      exact List.mem_iff_getElem.2 ⟨k - 1, by simp; omega, by simp⟩
    · rw [List.mem_append, ih, List.mem_singleton, hg]
theorem cmpA_rise (l : List Int) (hs : ∀ i j, i < j → j < l.length → l.getD i 0 ≤ l.getD j 0) : ∀ k, k ≤ l.length → (cmpA l k).Pairwise (· < ·) ∧ (0 < k → ∀ x ∈ cmpA l k, x ≤ l.getD (k - 1) 0)
  | 0, _ => ⟨List.Pairwise.nil, fun h => by omega⟩
  | k + 1, h => by
    obtain ⟨i1, i2⟩ := cmpA_rise l hs k (by omega)
    simp only [cmpA, Nat.add_sub_cancel]
    split
    · rename_i hc
      exact ⟨i1, fun _ x hx => by have := i2 hc.1 x hx; omega⟩
    · rename_i hc
      have hlt : ∀ x ∈ cmpA l k, x < l.getD k 0 := fun x hx => by
        have hk : 0 < k := by
          cases k with
          | zero => simp [cmpA] at hx
          | succ k => omega
        have h1 := i2 hk x hx
        have h2 := hs (k - 1) k (by omega) (by omega)
        have h3 : l.getD k 0 ≠ l.getD (k - 1) 0 := fun e => hc ⟨hk, e⟩
        omega
      refine ⟨List.pairwise_append.2 ⟨i1, by simp, fun x hx y hy => by rw [List.mem_singleton.1 hy]; exact hlt x hx⟩, fun _ x hx => ?_⟩
      rcases List.mem_append.1 hx with hx | hx
      · have := hlt x hx; omega
      · rw [List.mem_singleton.1 hx]; exact Int.le_refl _
theorem psums_spec (w : List Int) : (psums w).Pairwise (· < ·) ∧ ∀ x, x ∈ psums w ↔ x ∈ subs w := by
  have hs := Sort.sortInt (subs w)
  obtain ⟨S, hS⟩ : ∃ S, S = (Sort.sort Sort.ltInt (subs w).toArray).toList := ⟨_, rfl⟩
  rw [← hS] at hs
  have hp : psums w = cmpA S (subs w).length := by rw [hS]; rfl
  have hl : S.length = (subs w).length := by rw [hs]; exact List.length_mergeSort _
  have hm : ∀ x, x ∈ S ↔ x ∈ subs w := fun x => by rw [hs]; exact List.mem_mergeSort
  have hpw : S.Pairwise fun a b => a ≤ b := by
    rw [hs]
    have := List.pairwise_mergeSort (le := fun x y : Int => decide (x ≤ y)) (fun a b c h1 h2 => by simp at *; omega) (fun a b => by simp; omega) (subs w)
    exact this.imp fun h => by simpa using h
  have hso : ∀ i j, i < j → j < S.length → S.getD i 0 ≤ S.getD j 0 := fun i j hij hj => by
    have := List.pairwise_iff_getElem.1 hpw i j (by omega) hj hij
    simpa [show i < S.length by omega, hj] using this
  rw [hp, ← hl]
  refine ⟨(cmpA_rise S hso _ (Nat.le_refl _)).1, fun x => ?_⟩
  rw [cmpA_mem S _ (Nat.le_refl _) x, List.take_length]
  exact hm x
theorem cntL_spec (w : List Int) (m : Int) (r : Nat) : (cntL w m r).Pairwise (· < ·) ∧ ∀ x, x ∈ cntL w m r ↔ 1 ≤ x ∧ x ≤ r ∧ m ≤ (cnt w x : Int) := by
  constructor
  · refine List.Pairwise.filter _ ?_
    refine List.pairwise_map.2 ?_
    exact (List.pairwise_lt_range (n := r)).imp fun h => by omega
  · intro x
    simp only [cntL, List.mem_filter, List.mem_map, List.mem_range, decide_eq_true_eq]
    constructor
    · rintro ⟨⟨i, hi, rfl⟩, h⟩; exact ⟨by omega, by omega, h⟩
    · rintro ⟨h1, h2, h3⟩; exact ⟨⟨x.toNat - 1, by omega, by omega⟩, h3⟩
theorem cnt_one (w : List Int) (a : Int) : 1 ≤ (cnt w a : Int) ↔ ∃ o ∈ perms w.length, a ∈ seamsOf w o := by
  have : 1 ≤ (cnt w a : Int) ↔ 0 < cnt w a := by omega
  rw [this, cnt, List.length_pos_iff_exists_mem]
  simp only [List.mem_filter, seamA, List.mem_map, has_iff]
  constructor
  · rintro ⟨_, ⟨o, ho, rfl⟩, h⟩; exact ⟨o, ho, h⟩
  · rintro ⟨o, ho, h⟩; exact ⟨_, ⟨o, ho, rfl⟩, h⟩
structure Wl (w : List Int) : Prop where
  n1 : 1 ≤ w.length
  n5 : w.length ≤ 5
  w : ∀ x ∈ w, 1 ≤ x
theorem Val.wl {p : List (List Int)} (hv : Val p) {w : List Int} (h : w ∈ p) : Wl w := ⟨hv.s1 w h, hv.s5 w h, fun x hx => (hv.w w h x hx).1⟩
theorem psums_in {w : List Int} (h : Wl w) {a : Int} (ha : ∃ o ∈ perms w.length, a ∈ seamsOf w o) : 1 ≤ a ∧ a < sumI w := by
  obtain ⟨o, ho, ha⟩ := ha
  exact seamsOf_in h.w (perms_ord ho) a ha
theorem psums_eq {w : List Int} (h : Wl w) : psums w = rsums w := by
  obtain ⟨p1, p2⟩ := psums_spec w
  obtain ⟨r1, r2⟩ := cntL_spec w 1 (sumI w - 1).toNat
  refine rise_eq p1 r1 fun x => ?_
  show x ∈ psums w ↔ x ∈ cntL w 1 (sumI w - 1).toNat
  rw [p2, r2, subs_iff h.n5, cnt_one]
  constructor
  · intro hx; have := psums_in h hx; exact ⟨this.1, by omega, hx⟩
  · exact fun hx => hx.2.2
end Go.Proofs.Ytlcebaejlnpdeaa.Ab

/-
  What sums and sure seams are like.
-/
namespace Go.Proofs.Ytlcebaejlnpdeaa.Ab
open Go
theorem rsums_mem {w : List Int} (h : Wl w) (a : Int) : a ∈ rsums w ↔ ∃ o ∈ perms w.length, a ∈ seamsOf w o := by
  rw [← psums_eq h, (psums_spec w).2, subs_iff h.n5]
theorem rsums_in {w : List Int} (h : Wl w) {a : Int} (ha : a ∈ rsums w) : 1 ≤ a ∧ a < sumI w := psums_in h ((rsums_mem h a).1 ha)
theorem rsums_len {w : List Int} (h : Wl w) : (rsums w).length ≤ 30 := by
  rw [← psums_eq h]
  refine Nat.le_trans (psums_le w) ?_
  have h5 := h.n5
  have : 2 ^ w.length ≤ 32 := (pow_val ⟨w.length, by omega⟩).2
  simp only [subs, List.length_map, List.length_range]
  omega
end Go.Proofs.Ytlcebaejlnpdeaa.Ab

/-
  Contracts: Far, Apart, and the definitions' Far.
-/
namespace Go.Proofs.Ytlcebaejlnpdeaa.Ab
open Go
set_option maxRecDepth 20000
set_option maxHeartbeats 4000000
end Go.Proofs.Ytlcebaejlnpdeaa.Ab

/-
  Contracts: the definitions' Far, ApartError; SeamFars.
-/
namespace Go.Proofs.Ytlcebaejlnpdeaa.Ab
open Go
set_option maxRecDepth 20000
set_option maxHeartbeats 4000000
end Go.Proofs.Ytlcebaejlnpdeaa.Ab

/-
  Contracts: fine, fewest, far.
-/
namespace Go.Proofs.Ytlcebaejlnpdeaa.Ab
open Go
set_option maxRecDepth 20000
set_option maxHeartbeats 4000000
def fineB (p : List (List Int)) : Bool := !(big p) && decide (checkP p = 0)
theorem fine_ok (p : List (List Int)) (hp : Fl2 p) : PO 48 [P1 p] (B (fineB p)) := by
  have hp1 := hp.n
  refine fn_pure hmix lk48 rfl rfl ?_
  unfold rc48
  conv => whnf
  refine ⟨by first | rfl | simp only [List.all_cons, List.all_nil, pu0, pub, pu1, pu2, pu1', pu2', pun, puf, puP, puP', puQ, puQ', Bool.and_true, Bool.and_self], _, great_ok p hp1, ?_⟩
  conv => whnf
  cases h1 : big p with
  | true =>
    conv => whnf
    exact ret_pure (.inr rfl) rfl (by rw [fineB, h1]; rfl)
  | false =>
    obtain ⟨a1, a2⟩ := big_false.1 h1
    conv => whnf
    refine ⟨by first | rfl | simp only [List.all_cons, List.all_nil, pu0, pub, pu1, pu2, pu1', pu2', pun, puf, puP, puP', puQ, puQ', Bool.and_true, Bool.and_self], _, rcheck_ok p (by omega) fun l hl => by have := a2 l hl; omega, ?_⟩
    conv => whnf
    exact ret_pure (.inr rfl) rfl (by rw [fineB, h1]; rfl)
theorem fineB_val {p : List (List Int)} (h : fineB p = true) : Val p := by
  simp only [fineB, Bool.and_eq_true, decide_eq_true_eq] at h
  exact checkP_val h.2
theorem Val.big {p : List (List Int)} (hv : Val p) : Ab.big p = false :=
  big_false.2 ⟨by have := hv.n4; omega, fun l hl => by have := hv.s5 l hl; omega⟩
theorem Val.fit {p : List (List Int)} (hv : Val p) : p.length ≤ 140737488355328 ∧ ∀ l ∈ p, l.length ≤ 140737488355328 :=
  ⟨by have := hv.n4; omega, fun l hl => by have := hv.s5 l hl; omega⟩
theorem Ords.fit {p o : List (List Int)} (hv : Val p) (ho : Ords p o) : Fit p o ∧ Ab.big o = false := by
  have h4 := hv.n4
  have hl := ho.len
  have hr : ∀ r ∈ o, r.length ≤ 5 := fun r hr => by
    obtain ⟨i, hi, rfl⟩ := List.mem_iff_getElem.1 hr
    have h2 : i < p.length := by omega
    rw [(isOrd_iff.1 (ho.ord i hi h2)).1]
    exact hv.s5 _ (List.getElem_mem h2)
  exact ⟨⟨hv.fit.1, hv.fit.2, by omega, fun l hl => by have := hr l hl; omega⟩, big_false.2 ⟨by omega, fun l hl => by have := hr l hl; omega⟩⟩
theorem Ords.err {p o : List (List Int)} (hv : Val p) (ho : Ords p o) : ordErr p o = 0 := ordErr_zero.2 ⟨hv, ho⟩
end Go.Proofs.Ytlcebaejlnpdeaa.Ab

/-
  Contracts: SeamSums.
-/
namespace Go.Proofs.Ytlcebaejlnpdeaa.Ab
open Go
set_option maxRecDepth 20000
set_option maxHeartbeats 4000000
/-- What the program's Sums and Sure tell. -/
def sumsV (p : List (List Int)) (x : Int) : List Int := if layErr p x = 0 then rsums (p.getD x.toNat []) else []
theorem getD_mem {p : List (List Int)} {x : Int} (h : layErr p x = 0) : Val p ∧ p.getD x.toNat [] ∈ p := by
  obtain ⟨hv, k, rfl, hk⟩ := layErr_val h
  exact ⟨hv, by rw [show p.getD (k : Int).toNat [] = p[k] by simp [hk]]; exact List.getElem_mem hk⟩
theorem pSums2_ok (p : List (List Int)) (x : Int) (h1 : p.length ≤ 140737488355328) (h2 : ∀ l ∈ p, l.length ≤ 140737488355328) :
    PO 40 [P1 p, I x] (.tuple [.lst ((sumsV p x).map I) (sumsV p x).length (if layErr p x = 0 then .full else .shared), I (layErr p x)]) := by
  have := pSums_ok p x h1 h2
  unfold sumsV
  by_cases h : layErr p x = 0
  · obtain ⟨hv, hm⟩ := getD_mem h
    rw [if_pos h, psums_eq (hv.wl hm)] at this
    rw [if_pos h, if_pos h, h]; exact this
  · rw [if_neg h] at this
    rw [if_neg h, if_neg h]; exact this
end Go.Proofs.Ytlcebaejlnpdeaa.Ab

/-
  SeamFewer.
-/
namespace Go.Proofs.Ytlcebaejlnpdeaa.Ab
open Go
set_option maxRecDepth 20000
set_option maxHeartbeats 4000000
theorem Val.again {q : List (List Int)} {a : List Int} (hv : Val (q ++ [a])) (h : (q ++ [a]).length ≤ 3) : Val (q ++ [a] ++ [a]) := by
  have hh : (q ++ [a] ++ [a]).headD [] = (q ++ [a]).headD [] := by cases q <;> rfl
  have hm : ∀ l ∈ q ++ [a] ++ [a], l ∈ q ++ [a] := fun l hl => by simp at hl ⊢; rcases hl with h | h | h <;> simp [h]
  have h2 := hv.n2
  refine ⟨by simp at h2 ⊢, by simp at h ⊢; omega, fun l hl => hv.s1 l (hm l hl), fun l hl => hv.s5 l (hm l hl), fun l hl => hv.w l (hm l hl), fun l hl => by rw [hh]; exact hv.eq l (hm l hl)⟩
end Go.Proofs.Ytlcebaejlnpdeaa.Ab

/-
  Chosen: orders by numbers, as a contract.
-/
namespace Go.Proofs.Ytlcebaejlnpdeaa.Ab
open Go
set_option maxRecDepth 20000
set_option maxHeartbeats 4000000
theorem dropI (l : List Int) (i : Nat) : AV.lst (((l.map I).drop (((i : Nat) : Int).toNat * 1)).take ((l.length - ((i : Nat) : Int).toNat) * 1)) (l.length - ((i : Nat) : Int).toNat) .shared = L1 (l.drop i) := by
  have e : ((l.map I).drop i).take (l.length - i) = (l.drop i).map I := by rw [← List.map_drop, List.take_of_length_le (by simp)]
  show AV.lst (((l.map I).drop (i * 1)).take ((l.length - i) * 1)) (l.length - i) .shared = _
  rw [Nat.mul_one, Nat.mul_one, e, L1, List.length_drop]
theorem eraseU (left : List Int) (n : Nat) : AV.lst (repl 0 [AV.int .i64 0] ++ (left.take n).map I ++ (left.drop (n + 1)).map I) (0 + (left.take n).length + (left.drop (n + 1)).length) (.uniq 1) = U1 (left.eraseIdx n) := by
  rw [List.eraseIdx_eq_take_drop_succ]; simp [U1, repl]
theorem pickGo_step {y left : List Int} {t n : Nat} (hn : n < left.length) (e : pickN y left.length t = n) : pickGo y left.length left t = (left[n] :: (pickGo y (left.eraseIdx n).length (left.eraseIdx n) (stepN y t)).1, (pickGo y (left.eraseIdx n).length (left.eraseIdx n) (stepN y t)).2) := by
  have hl : (left.eraseIdx n).length = left.length - 1 := List.length_eraseIdx_of_lt hn
  obtain ⟨f, hf⟩ : ∃ f, left.length = f + 1 := ⟨left.length - 1, by omega⟩
  have hg : left.getD n 0 = left[n] := by simp [List.getD_eq_getElem?_getD, hn]
  conv => lhs; rw [hf, pickGo, e, hg]
  rw [hl, hf]; rfl
theorem stepN_le (y : List Int) (t : Nat) : stepN y t ≤ t + 1 := by unfold stepN; split <;> omega
end Go.Proofs.Ytlcebaejlnpdeaa.Ab

/-
  Contracts: SeamMade.
-/
namespace Go.Proofs.Ytlcebaejlnpdeaa.Ab
open Go
set_option maxRecDepth 20000
set_option maxHeartbeats 4000000
end Go.Proofs.Ytlcebaejlnpdeaa.Ab

/- MADE BY PROGRAM (rc.py): functions, looked up. -/
namespace Go.Proofs.Ytlcebaejlnpdeaa.Ab
open Go
/-- As the table has it, but for Chosen (its result is a list of its own), and orders, which are frozen for a call. -/
def ann10b : FAnn := { ops := [[{ takes := [true] }], [{}, { mode := 3 }, { takes := [true] }], [{ mode := 3 }, { takes := [true] }], [{ takes := [true] }, { takes := [true] }, {}, { takes := [true] }, { takes := [true] }, { takes := [true, true] }, { takes := [true] }], [], [], [], [{}, {}, { takes := [true] }, {}, { takes := [true, true] }, { takes := [true] }, { takes := [true] }, { takes := [true, true] }], [{ takes := [true] }, { takes := [true] }, { takes := [true] }], [{}, {}, { takes := [true, true] }, { takes := [true] }, { takes := [true] }], [{ takes := [true] }, {}, { takes := [true] }, { takes := [true, true] }, { takes := [true] }, {}, { takes := [true] }, {}, { takes := [true, true] }, { takes := [true] }, {}, { takes := [true, true] }, { takes := [true] }, { takes := [true, true] }, { takes := [true] }, { takes := [true] }], [{ takes := [true] }, {}, { takes := [true] }, { takes := [true, true] }, { takes := [true] }], [{}, { mode := 2 }, { takes := [true] }], [{ takes := [true], mode := 1 }, {}, {}, {}, { takes := [true, true] }, {}, { takes := [true, true] }, { takes := [true, true] }, { takes := [true, true] }], [{}, { takes := [true], mode := 2 }, { mode := 3 }, { takes := [true] }, {}, { takes := [true] }, { takes := [true] }, { takes := [true] }], [{}, {}, { mode := 3 }, { takes := [true] }, {}, { takes := [true] }, { takes := [true] }, { takes := [true] }], [{ takes := [true] }, { takes := [true] }, { takes := [true] }, { takes := [true] }, { takes := [true] }, { takes := [true, false, true] }, { takes := [true] }, {}, { takes := [true] }, { takes := [true] }, { takes := [true] }, { takes := [true] }, { takes := [true, true] }, { takes := [true, false, true] }], [], [{ takes := [true] }, { takes := [true] }, { takes := [true] }, { takes := [true] }, { takes := [true] }, { takes := [true] }, { takes := [true] }, { takes := [true, false, true] }], [{ takes := [true] }, { takes := [true] }, { mode := 3 }, { takes := [true] }, { takes := [true] }, { mode := 3 }, { takes := [true, true] }, { takes := [true] }], [{ takes := [true] }, { takes := [true] }, { takes := [true, true] }, { takes := [true] }, {}, { mode := 3 }, { takes := [true] }, { takes := [true] }, { takes := [true] }, { mode := 3 }, { takes := [true, true] }, { takes := [true] }, { mode := 3 }, { takes := [true, true] }, { takes := [true] }]], keepL := [(0, [false, false, true, true, false, false, false, true, true, true, true, true, false, false, false, false, false, false, false, false, false, false, false, false, false, false, false, false, false, false, false, false, false, false, false, false, false, false, false, false, false, false, false, false, false, false, false, false, false, false, false, false, false, false, false, false, false, false, false, false, false, false, false, false, false, false, false, false, false, false, false, false, false, false, false, false, false, false, false, false, false, false, false, false, false, false, false, false, false, false, false, false, false, false, false, false, false, false, false, false, false, false, false, false, false, false, false, false, false, false, false, false, false, false, false, false, false, false, false, false, false, false, false, false, false])] }
noncomputable def rc10b_1 : RC :=
  .reg true [I_ 42 [.tk 8] .mv, I_ 43 [.sl 11] .mv, I_ 44 [.tv 43] (.buildS 1 1 [.int .i64 0] [0]), I_ 45 [.tk 42, .tk 44] (.app 1 8), I_ 46 [.tk 10] .mv, I_ 47 [.sl 3] (.fa 0), I_ 48 [.tv 47] (.ld .one), I_ 49 [.sl 7] .mv, I_ 50
  [.tv 48, .tv 49] (.ia 1), I_ 51 [.tv 50] (.ld .one), I_ 52 [.sl 11] .mv, I_ 53 [.tv 51, .tv 52] (.ia 1), I_ 54 [.tv 53] (.ld .one), I_ 55 [.tv 46, .tv 54] (.bin .add), I_ 8 [.tk 45] .mv, I_ 10 [.tk 55] .mv]
noncomputable def rc10b_2 : RC :=
  .reg false [I_ 56 [.tk 9] .mv, I_ 57 [.sl 11] .mv, I_ 58 [.tv 57] (.buildS 1 1 [.int .i64 0] [0]), I_ 59 [.tk 56, .tk 58] (.app 1 8), I_ 9 [.tk 59] .mv]
noncomputable def rc10b_3 : RC :=
  .block 1 (.seq (.reg false [I_ 37 [.sl 2] .mv, I_ 38 [.sl 11] .mv, I_ 39 [.tv 37, .tv 38] (.bin .shr), I_ 40 [.tv 39, .cv (.int .u8 1)] (.bin .and), I_ 41 [.tv 40, .cv (.int .u8 1)] (.bin .eql)]) (.cond (.sl 41) rc10b_1 rc10b_2))
noncomputable def rc10b_4 : RC :=
  .seq (.seq (.reg false [I_ 27 [.sl 11] .mv, I_ 28 [.sl 3] (.fa 0), I_ 29 [.tv 28] (.ld .one), I_ 30 [.sl 7] .mv, I_ 31 [.tv 29, .tv 30] (.ia 1), I_ 32 [.tv 31] (.ld .one), I_ 33 [.tk 32] .lenS, I_ 34 [.tv 27, .tv 33] (.bin
  .lss)]) (.cond (.sl 34) .skip (.exit 0))) (.seq rc10b_3 (.reg false [I_ 35 [.tk 11] .mv, I_ 36 [.tv 35, .cv (.int .i64 1)] (.bin .add), I_ 11 [.tk 36] .mv]))
noncomputable def rc10b_5 : RC :=
  .seq (.reg false [I_ 104 [.tk 15] .mv, I_ 105 [.tk 10] .mv, I_ 106 [.cv (.func 52 [] []), .sl 104, .sl 105] (.call 3), I_ 107 [.tv 106] (.un .not), I_ 108 [.tk 107] .mv, ⟨some 109, [.cv (.func 20 [] [])], some (108, true), none,
  .call 3⟩, I_ 110 [.tv 108, .tv 109, .cv (.bool false)] .pick, I_ 6 [.tk 110] .mv]) .ret
noncomputable def rc10b_6 : RC :=
  .seq (.reg false [I_ 111 [.tk 13] .mv, I_ 112 [.tk 7] .mv, I_ 113 [.tv 111, .tv 112] (.ia 1), I_ 114 [.tv 113] (.ld .one), I_ 115 [.sl 10] .mv, I_ 116 [.cv (.func 52 [] []), .sl 114, .sl 115] (.call 3), I_ 117 [.tk 116] .mv,
  ⟨some 118, [.tk 15], some (117, true), none, .mv⟩, ⟨some 119, [.tk 10], some (117, true), none, .mv⟩, ⟨some 120, [.cv (.func 52 [] []), .sl 118, .sl 119], some (117, true), none, .call 3⟩, I_ 121 [.tv 117, .tv 120, .cv (.bool
  false)] .pick, I_ 122 [.tk 121] .mv, ⟨some 123, [.cv (.func 20 [] [])], some (122, true), none, .call 3⟩, I_ 124 [.tv 122, .tv 123, .cv (.bool false)] .pick, I_ 6 [.tk 124] .mv]) .ret
noncomputable def rc10b_7 : RC :=
  .seq (.seq (.reg false [I_ 96 [.tk 8] .mv, I_ 97 [.tk 96] .lenS, I_ 98 [.tv 97, .cv (.int .i64 0)] (.bin .eql), I_ 99 [.tk 98] .mv, ⟨some 100, [.tk 9], some (99, false), none, .mv⟩, ⟨some 101, [.tk 100], some (99, false), none,
  .lenS⟩, ⟨some 102, [.tv 101, .cv (.int .i64 0)], some (99, false), none, .bin .eql⟩, I_ 103 [.tv 99, .cv (.bool true), .tv 102] .pick]) (.cond (.sl 103) rc10b_5 .skip)) rc10b_6
noncomputable def rc10b_8 : RC :=
  .seq (.seq (.reg false [I_ 82 [.tk 14] .mv, I_ 83 [.tv 82, .cv (.int .i64 0)] (.bin .neq), I_ 84 [.tk 83] .mv, ⟨some 85, [.tk 16], some (84, false), none, .mv⟩, ⟨some 86, [.tv 85, .cv (.int .i64 0)], some (84, false), none, .bin
  .neq⟩, I_ 87 [.tv 84, .cv (.bool true), .tv 86] .pick, I_ 88 [.tk 87] .mv, ⟨some 89, [.sl 13], some (88, false), none, .mv⟩, ⟨some 90, [.tk 89], some (88, false), none, .lenS⟩, ⟨some 91, [.tv 3], some (88, false), none, .fa 0⟩,
  ⟨some 92, [.tv 91], some (88, false), none, .ld .one⟩, ⟨some 93, [.tk 92], some (88, false), none, .lenS⟩, ⟨some 94, [.tv 90, .tv 93], some (88, false), none, .bin .neq⟩, I_ 95 [.tv 88, .cv (.bool true), .tv 94] .pick]) (.cond
  (.sl 95) (.seq (.reg false [I_ 6 [.cv (.bool false)] .mv]) .ret) .skip)) rc10b_7
noncomputable def rc10b_9 : RC :=
  .seq (.reg false [I_ 77 [.sl 3] (.ld (.str 1)), I_ 78 [.sl 7] .mv, I_ 79 [.cv (.func 40 [] []), .sl 77, .sl 78] (.call 3), I_ 76 [.tk 79] .mv, I_ 80 [.sl 76] (.ext 0), I_ 81 [.tv 76] (.ext 1), I_ 15 [.tk 80] .mv, I_ 16 [.tk 81]
  .mv]) rc10b_8
noncomputable def rc10b_10 : RC :=
  .seq (.reg false [I_ 71 [.sl 3] (.ld (.str 1)), ⟨some 72, [.tk 12], none, some 12, .other (Oper.mk (some 72) (Op.move (Operand.tmp 12)) 25 "outright.go:141" (Array.mk []) none) 2⟩, I_ 73 [.cv (.func 23 [] []), .sl 71, .sl 72]
  (.call 3), I_ 70 [.tk 73] .mv, I_ 74 [.sl 70] (.ext 0), I_ 75 [.tv 70] (.ext 1), I_ 13 [.tk 74] .mv, I_ 14 [.tk 75] .mv]) rc10b_9
noncomputable def rc10b_11 : RC :=
  .seq (.reg false [⟨some 62, [.tk 12], none, some 12, .thaw⟩, I_ 63 [.sl 7] .mv, I_ 64 [] (.buildS 0 1 [.int .i64 0] []), I_ 65 [.sl 8] .mv, I_ 66 [.tk 64, .tk 65] (.app 1 8), I_ 67 [.sl 9] .mv, I_ 68 [.tk 66, .tk 67] (.app 1 8),
  I_ 69 [.tv 62, .tv 63] (.ia 1), ⟨none, [.tk 69, .tk 68], none, none, .st 1⟩]) rc10b_10
noncomputable def rc10b_12 : RC :=
  .seq (.seq (.reg false [I_ 11 [.cv (.int .i64 0)] .mv]) (.block 0 (.loop (some [false, false, true, true, false, false, false, true, true, true, true, true, false, false, false, false, false, false, false, false, false, false,
  false, false, false, false, false, false, false, false, false, false, false, false, false, false, false, false, false, false, false, false, false, false, false, false, false, false, false, false, false, false, false, false,
  false, false, false, false, false, false, false, false, false, false, false, false, false, false, false, false, false, false, false, false, false, false, false, false, false, false, false, false, false, false, false, false,
  false, false, false, false, false, false, false, false, false, false, false, false, false, false, false, false, false, false, false, false, false, false, false, false, false, false, false, false, false, false, false, false,
  false, false, false, false, false, false, false]) rc10b_4))) (.seq (.reg false [I_ 60 [.sl 3] (.ld (.str 1)), I_ 61 [.cv (.func 50 [] []), .sl 60, .cv (.lst [] 0 .full)] (.call 2), I_ 12 [.tk 61] .mv]) rc10b_11)
noncomputable def rc10b_13 : RC :=
  .seq (.reg false [I_ 21 [.tk 1] .mv, I_ 22 [.tv 21] (.conv .i64), I_ 23 [.sl 3] (.fa 0), I_ 24 [.tv 23] (.ld .one), I_ 25 [.tk 24] .lenS, I_ 26 [.tv 22, .tv 25] (.bin .rem), I_ 7 [.tk 26] .mv]) (.seq (.reg false [I_ 8 [.cv (.lst
  [] 0 .full)] (.nil 1), I_ 9 [.cv (.lst [] 0 .full)] (.nil 1)]) (.seq (.reg false [I_ 10 [.cv (.int .i64 0)] .mv]) rc10b_12))
noncomputable def rc10b_14 : RC :=
  .seq (.seq (.reg false [I_ 17 [.sl 3] (.ld (.str 1)), I_ 18 [.cv (.func 48 [] []), .sl 17] (.call 3), I_ 19 [.tv 18] (.un .not)]) (.cond (.sl 19) (.seq (.reg false [I_ 20 [.cv (.func 20 [] [])] (.call 3), I_ 6 [.tk 20] .mv])
  .ret) .skip)) rc10b_13
noncomputable def rc10b : RC :=
  .seq (.reg false [I_ 3 [.tk 0] .box, I_ 6 [.cv (.bool false)] .mv]) rc10b_14
theorem lk10b : linkF Go.Proofs.Try.prog ann10b 10 = some (rc10b, 125, [.tmp 6]) := by kernel_rfl
end Go.Proofs.Ytlcebaejlnpdeaa.Ab
