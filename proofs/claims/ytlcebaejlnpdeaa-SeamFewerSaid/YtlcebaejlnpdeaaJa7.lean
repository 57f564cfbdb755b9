/-
  Contracts: SeamPanels, SeamThroughs.
-/
import Derived.Test.YtlcebaejlnpdeaaJa5
import Derived.Test.YtlcebaejlnpdeaaJa6
import Derived.Test.YtlcebaejlnpdeaaJa3
import Derived.KernelRfl
set_option linter.unusedSimpArgs false
set_option linter.unusedVariables false
set_option linter.unusedSectionVars false
namespace Go.Proofs.Ytlcebaejlnpdeaa.Ab
open Go
set_option maxRecDepth 20000

theorem big_fit {p o : List (List Int)} (h1 : big p = false) (h2 : big o = false) : Fit p o := by
  obtain ⟨a1, a2⟩ := big_false.1 h1
  obtain ⟨b1, b2⟩ := big_false.1 h2
  exact ⟨by omega, fun l hl => by have := a2 l hl; omega, by omega, fun l hl => by have := b2 l hl; omega⟩


theorem seamsE_fit {p o : List (List Int)} : (seamsE p o).length ≤ 4 ∧ ∀ r ∈ seamsE p o, r.length ≤ 4 := by
  unfold seamsE
  split
  · rename_i h
    obtain ⟨hv, ho⟩ := ordErr_zero.1 h
    exact ⟨by rw [seamsBy_length ho]; exact hv.n4, fun r hr => (seamsBy_pos hv ho r hr).2⟩
  · simp
theorem thruOf_fit {p o : List (List Int)} : (thruOf p o).length ≤ 4 := by
  unfold thruOf
  split
  · rename_i h
    obtain ⟨hv, ho⟩ := ordErr_zero.1 h
    unfold thru
    refine Nat.le_trans (List.length_filter_le _ _) ?_
    have hl := seamsBy_length ho
    have h2 := hv.n2
    have h0 : 0 < (seamsBy p o).length := by omega
    rw [headD0 _ h0]
    exact (seamsBy_pos hv ho _ (List.getElem_mem h0)).2
  · simp
/-- Works is true. -/
abbrev WK : Prop := PO 20 [] (B true)
theorem seamPanels_ok (hw : WK) (p o : List (List Int)) (hp : Fl2 p) (ho : Fl2 o) : PO 3 [P1 p, L2 o] (B true) := by
  have hp1 := hp.n
  have ho1 := ho.n
  refine fn_pure hmix lk3 rfl rfl ?_
  unfold rc3
  conv => whnf
  refine ⟨by first | rfl | simp only [List.all_cons, List.all_nil, pu0, pub, pu1, pu2, pu1', pu2', pun, puf, puP, puP', puQ, puQ', Bool.and_true, Bool.and_self], _, great_ok p hp1, ?_⟩
  conv => whnf
  cases h1 : big p with
  | true =>
    conv => whnf
    refine ⟨by first | rfl | simp only [List.all_cons, List.all_nil, pu0, pub, pu1, pu2, pu1', pu2', pun, puf, puP, puP', puQ, puQ', Bool.and_true, Bool.and_self], _, hw, ?_⟩
    conv => whnf
    exact ret_pure (.inr rfl) rfl rfl
  | false =>
    conv => whnf
    refine ⟨by first | rfl | simp only [List.all_cons, List.all_nil, pu0, pub, pu1, pu2, pu1', pu2', pun, puf, puP, puP', puQ, puQ', Bool.and_true, Bool.and_self], _, wide_ok o ho1, ?_⟩
    conv => whnf
    cases h2 : big o with
    | true =>
      conv => whnf
      refine ⟨by first | rfl | simp only [List.all_cons, List.all_nil, pu0, pub, pu1, pu2, pu1', pu2', pun, puf, puP, puP', puQ, puQ', Bool.and_true, Bool.and_self], _, hw, ?_⟩
      conv => whnf
      exact ret_pure (.inr rfl) rfl rfl
    | false =>
      have hf := big_fit h1 h2
      conv => whnf
      refine ⟨by first | rfl | simp only [List.all_cons, List.all_nil, pu0, pub, pu1, pu2, pu1', pu2', pun, puf, puP, puP', puQ, puQ', Bool.and_true, Bool.and_self], _, pmeet_ok p o hf, ?_⟩
      conv => whnf
      refine ⟨by first | rfl | simp only [List.all_cons, List.all_nil, pu0, pub, pu1, pu2, pu1', pu2', pun, puf, puP, puP', puQ, puQ', Bool.and_true, Bool.and_self], _, rmeet_ok p o hf, ?_⟩
      conv => whnf
      refine ⟨by first | rfl | simp only [List.all_cons, List.all_nil, pu0, pub, pu1, pu2, pu1', pu2', pun, puf, puP, puP', puQ, puQ', Bool.and_true, Bool.and_self], _, pSeams_ok p o hf, ?_⟩
      conv => whnf
      refine ⟨by first | rfl | simp only [List.all_cons, List.all_nil, pu0, pub, pu1, pu2, pu1', pu2', pun, puf, puP, puP', puQ, puQ', Bool.and_true, Bool.and_self], _, rseams_ok p o hf, ?_⟩
      conv => whnf
      refine ⟨by first | rfl | simp only [List.all_cons, List.all_nil, pu0, pub, pu1, pu2, pu1', pu2', pun, puf, puP, puP', puQ, puQ', Bool.and_true, Bool.and_self], _, checkPanel_ok p hf.p1 hf.p2, acc0, ?_⟩
      conv => whnf
      refine ⟨by first | rfl | simp only [List.all_cons, List.all_nil, pu0, pub, pu1, pu2, pu1', pu2', pun, puf, puP, puP', puQ, puQ', Bool.and_true, Bool.and_self], _, rcheck_ok p hf.p1 hf.p2, accN rfl, ?_⟩
      conv => whnf
      rw [deqr]
      conv => whnf
      rw [deqr]
      conv => whnf
      rw [deqr]
      conv => whnf
      obtain ⟨q1, q2⟩ := seamsE_fit (p := p) (o := o)
      refine ⟨by first | rfl | simp only [List.all_cons, List.all_nil, pu0, pub, pu1, pu2, pu1', pu2', pun, puf, puP, puP', puQ, puQ', Bool.and_true, Bool.and_self], _, all_ok (seamsE p o) (seamsE p o) (by omega) fun l hl => by have := q2 l hl; omega, accN rfl, ?_⟩
      conv => whnf
      rw [deqr]
      conv => whnf
      rw [deqr]
      conv => whnf
      refine ⟨by first | rfl | simp only [List.all_cons, List.all_nil, pu0, pub, pu1, pu2, pu1', pu2', pun, puf, puP, puP', puQ, puQ', Bool.and_true, Bool.and_self], _, hw, accN rfl, ?_⟩
      conv => whnf
      exact ret_pure (.inr rfl) rfl rfl
theorem seamThroughs_ok (hw : WK) (p o : List (List Int)) (hp : Fl2 p) (ho : Fl2 o) : PO 4 [P1 p, L2 o] (B true) := by
  have hp1 := hp.n
  have ho1 := ho.n
  refine fn_pure hmix lk4 rfl rfl ?_
  unfold rc4
  conv => whnf
  refine ⟨by first | rfl | simp only [List.all_cons, List.all_nil, pu0, pub, pu1, pu2, pu1', pu2', pun, puf, puP, puP', puQ, puQ', Bool.and_true, Bool.and_self], _, great_ok p hp1, ?_⟩
  conv => whnf
  cases h1 : big p with
  | true =>
    conv => whnf
    refine ⟨by first | rfl | simp only [List.all_cons, List.all_nil, pu0, pub, pu1, pu2, pu1', pu2', pun, puf, puP, puP', puQ, puQ', Bool.and_true, Bool.and_self], _, hw, ?_⟩
    conv => whnf
    exact ret_pure (.inr rfl) rfl rfl
  | false =>
    conv => whnf
    refine ⟨by first | rfl | simp only [List.all_cons, List.all_nil, pu0, pub, pu1, pu2, pu1', pu2', pun, puf, puP, puP', puQ, puQ', Bool.and_true, Bool.and_self], _, wide_ok o ho1, ?_⟩
    conv => whnf
    cases h2 : big o with
    | true =>
      conv => whnf
      refine ⟨by first | rfl | simp only [List.all_cons, List.all_nil, pu0, pub, pu1, pu2, pu1', pu2', pun, puf, puP, puP', puQ, puQ', Bool.and_true, Bool.and_self], _, hw, ?_⟩
      conv => whnf
      exact ret_pure (.inr rfl) rfl rfl
    | false =>
      have hf := big_fit h1 h2
      have q := thruOf_fit (p := p) (o := o)
      conv => whnf
      refine ⟨by first | rfl | simp only [List.all_cons, List.all_nil, pu0, pub, pu1, pu2, pu1', pu2', pun, puf, puP, puP', puQ, puQ', Bool.and_true, Bool.and_self], _, pthrough_ok p o hf, ?_⟩
      conv => whnf
      refine ⟨by first | rfl | simp only [List.all_cons, List.all_nil, pu0, pub, pu1, pu2, pu1', pu2', pun, puf, puP, puP', puQ, puQ', Bool.and_true, Bool.and_self], _, rthrough_ok p o hf, ?_⟩
      conv => whnf
      refine ⟨by first | rfl | simp only [List.all_cons, List.all_nil, pu0, pub, pu1, pu2, pu1', pu2', pun, puf, puP, puP', puQ, puQ', Bool.and_true, Bool.and_self], _, pdist_ok p o hf, ?_⟩
      conv => whnf
      refine ⟨by first | rfl | simp only [List.all_cons, List.all_nil, pu0, pub, pu1, pu2, pu1', pu2', pun, puf, puP, puP', puQ, puQ', Bool.and_true, Bool.and_self], _, rdist_ok p o hf, ?_⟩
      conv => whnf
      refine ⟨by first | rfl | simp only [List.all_cons, List.all_nil, pu0, pub, pu1, pu2, pu1', pu2', pun, puf, puP, puP', puQ, puQ', Bool.and_true, Bool.and_self], _, longs_ok (thruOf p o) (thruOf p o) (by omega), ?_⟩
      conv => whnf
      rw [deqr]
      conv => whnf
      rw [deqr]
      conv => whnf
      rw [deqr]
      conv => whnf
      rw [deqr]
      conv => whnf
      refine ⟨by first | rfl | simp only [List.all_cons, List.all_nil, pu0, pub, pu1, pu2, pu1', pu2', pun, puf, puP, puP', puQ, puQ', Bool.and_true, Bool.and_self], _, hw, ?_⟩
      conv => whnf
      exact ret_pure (.inr rfl) rfl rfl
end Go.Proofs.Ytlcebaejlnpdeaa.Ab

/-
  Contracts: the definitions' Far, ApartError; SeamFars.
-/
namespace Go.Proofs.Ytlcebaejlnpdeaa.Ab
open Go
set_option maxRecDepth 20000
set_option maxHeartbeats 4000000

theorem rFar_ok (p : List (List Int)) (h1 : p.length ≤ 140737488355328) (h2 : ∀ l ∈ p, l.length ≤ 140737488355328) : PO 45 [P1 p] (.tuple [I (farE p), I (checkP p)]) := by
  refine fn_pure hmix lk45 rfl rfl ?_
  unfold rc45
  conv => whnf
  refine ⟨by first | rfl | simp only [List.all_cons, List.all_nil, pu0, pub, pu1, pu2, pu1', pu2', pun, puf, puP, puP', puQ, puQ', Bool.and_true, Bool.and_self], _, rcheck_ok p h1 h2, ?_⟩
  conv => whnf
  refine dcase (fun h => ?_) (fun h => ?_)
  · conv => whnf
    refine ⟨by first | rfl | simp only [List.all_cons, List.all_nil, pu0, pub, pu1, pu2, pu1', pu2', pun, puf, puP, puP', puQ, puQ', Bool.and_true, Bool.and_self], _, rcheck_ok p h1 h2, ?_⟩
    conv => whnf
    exact ret_pure (.inr rfl) rfl (by rw [show farE p = 0 from if_neg h]; rfl)
  · have h := Classical.not_not.1 h
    have hv := checkP_val h
    conv => whnf
    refine ⟨by first | rfl | simp only [List.all_cons, List.all_nil, pu0, pub, pu1, pu2, pu1', pu2', pun, puf, puP, puP', puQ, puQ', Bool.and_true, Bool.and_self], _, rfarOf_ok p hv, ?_⟩
    conv => whnf
    exact ret_pure (.inr rfl) rfl (by rw [show farE p = (farB p).d from if_pos h, h, far_eq hv]; rfl)
theorem rApErr_ok (p : List (List Int)) (x : Int) (h1 : p.length ≤ 140737488355328) (h2 : ∀ l ∈ p, l.length ≤ 140737488355328) : PO 47 [P1 p, I x] (I (apErr p x)) := by
  refine fn_pure hmix lk47 rfl rfl ?_
  unfold rc47
  conv => whnf
  refine ⟨by first | rfl | simp only [List.all_cons, List.all_nil, pu0, pub, pu1, pu2, pu1', pu2', pun, puf, puP, puP', puQ, puQ', Bool.and_true, Bool.and_self], _, rcheck_ok p h1 h2, ?_⟩
  conv => whnf
  refine dcase (fun h => ?_) (fun h => ?_)
  · have e : apErr p x = checkP p := if_pos h
    rw [e]
    conv => whnf
    refine ⟨by first | rfl | simp only [List.all_cons, List.all_nil, pu0, pub, pu1, pu2, pu1', pu2', pun, puf, puP, puP', puQ, puQ', Bool.and_true, Bool.and_self], _, rcheck_ok p h1 h2, ?_⟩
    conv => whnf
    exact ret_pure (.inr rfl) rfl rfl
  · have h := Classical.not_not.1 h
    have hv := checkP_val h
    conv => whnf
    refine dcase (fun h3 => ?_) (fun h3 => ?_)
    · have e : apErr p x = 3 := by rw [apErr, if_neg (by simp [h]), if_pos h3]
      rw [e]
      conv => whnf
      exact ret_pure (.inr rfl) rfl rfl
    · conv => whnf
      refine ⟨by first | rfl | simp only [List.all_cons, List.all_nil, pu0, pub, pu1, pu2, pu1', pu2', pun, puf, puP, puP', puQ, puQ', Bool.and_true, Bool.and_self], _, rfarOf_ok p hv, ?_⟩
      conv => whnf
      rw [far_eq hv]
      refine dcase (fun h5 => ?_) (fun h5 => ?_)
      · have e : apErr p x = 21 := by rw [apErr, if_neg (by simp [h]), if_neg h3, if_pos h5]
        rw [e]
        conv => whnf
        exact ret_pure (.inr rfl) rfl rfl
      · have e : apErr p x = 0 := by rw [apErr, if_neg (by simp [h]), if_neg h3, if_neg h5]
        rw [e]
        conv => whnf
        exact ret_pure (.inr rfl) rfl rfl
theorem farB_fit {p : List (List Int)} (hv : Val p) : (farB p).o.length ≤ 4 ∧ ∀ r ∈ (farB p).o, r.length ≤ 5 := by
  obtain ⟨ho, _⟩ := farB_dist hv
  refine ⟨by rw [ho.len]; exact hv.n4, fun r hr => ?_⟩
  obtain ⟨i, hi, rfl⟩ := List.mem_iff_getElem.1 hr
  have h2 : i < p.length := by have := ho.len; omega
  rw [(isOrd_iff.1 (ho.ord i hi h2)).1]
  exact hv.s5 _ (List.getElem_mem h2)
theorem dneq {α : Type} [DecidableEq α] (a : α) : decide (a ≠ a) = false := decide_eq_false (by simp)
theorem seamFars_ok (hw : WK) (p : List (List Int)) (x : Int) (hp : Fl2 p) (_hx : Fi x) : PO 7 [P1 p, I x] (B true) := by
  have hp1 := hp.n
  refine fn_pure hmix lk7 rfl rfl ?_
  unfold rc7
  conv => whnf
  refine ⟨by first | rfl | simp only [List.all_cons, List.all_nil, pu0, pub, pu1, pu2, pu1', pu2', pun, puf, puP, puP', puQ, puQ', Bool.and_true, Bool.and_self], _, great_ok p hp1, ?_⟩
  conv => whnf
  cases h1 : big p with
  | true =>
    conv => whnf
    refine ⟨by first | rfl | simp only [List.all_cons, List.all_nil, pu0, pub, pu1, pu2, pu1', pu2', pun, puf, puP, puP', puQ, puQ', Bool.and_true, Bool.and_self], _, hw, ?_⟩
    conv => whnf
    exact ret_pure (.inr rfl) rfl rfl
  | false =>
    obtain ⟨a1, a2⟩ := big_false.1 h1
    have f1 : p.length ≤ 140737488355328 := by omega
    have f2 : ∀ l ∈ p, l.length ≤ 140737488355328 := fun l hl => by have := a2 l hl; omega
    conv => whnf
    refine ⟨by first | rfl | simp only [List.all_cons, List.all_nil, pu0, pub, pu1, pu2, pu1', pu2', pun, puf, puP, puP', puQ, puQ', Bool.and_true, Bool.and_self], _, pFar_ok p f1 f2, ?_⟩
    conv => whnf
    refine ⟨by first | rfl | simp only [List.all_cons, List.all_nil, pu0, pub, pu1, pu2, pu1', pu2', pun, puf, puP, puP', puQ, puQ', Bool.and_true, Bool.and_self], _, rFar_ok p f1 f2, ?_⟩
    conv => whnf
    refine ⟨by first | rfl | simp only [List.all_cons, List.all_nil, pu0, pub, pu1, pu2, pu1', pu2', pun, puf, puP, puP', puQ, puQ', Bool.and_true, Bool.and_self], _, pApart_ok p x f1 f2, ?_⟩
    conv => whnf
    refine ⟨by first | rfl | simp only [List.all_cons, List.all_nil, pu0, pub, pu1, pu2, pu1', pu2', pun, puf, puP, puP', puQ, puQ', Bool.and_true, Bool.and_self], _, rApErr_ok p x f1 f2, ?_⟩
    conv => whnf
    rw [dneq]
    conv => whnf
    rw [dneq]
    conv => whnf
    rw [dneq]
    conv => whnf
    refine dcase (fun h => ?_) (fun h => ?_)
    · have e : apO p x = [] := if_neg h
      rw [e]
      conv => whnf
      refine ⟨by first | rfl | simp only [List.all_cons, List.all_nil, pu0, pub, pu1, pu2, pu1', pu2', pun, puf, puP, puP', puQ, puQ', Bool.and_true, Bool.and_self], _, hw, ?_⟩
      conv => whnf
      exact ret_pure (.inr rfl) rfl rfl
    · have h := Classical.not_not.1 h
      have hc : checkP p = 0 := by
        refine Classical.byContradiction fun hc => ?_
        rw [show apErr p x = checkP p from if_pos hc] at h
        exact hc h
      have hv := checkP_val hc
      have hx : 0 ≤ x ∧ x ≤ (farB p).d := by
        rw [apErr, if_neg (by simp [hc])] at h
        split at h
        · cases h
        · split at h
          · cases h
          · omega
      have e : apO p x = (farB p).o := if_pos h
      obtain ⟨ho, hd⟩ := farB_dist hv
      obtain ⟨q1, q2⟩ := farB_fit hv
      have hbig : big (farB p).o = false := big_false.2 ⟨by omega, fun l hl => by have := q2 l hl; omega⟩
      have hoe : ordErr p (farB p).o = 0 := ordErr_zero.2 ⟨hv, ho⟩
      have hdo : distOf p (farB p).o = (farB p).d := by rw [distOf, if_pos hoe]; exact hd
      rw [e]
      conv => whnf
      refine ⟨by first | rfl | simp only [List.all_cons, List.all_nil, pu0, pub, pu1, pu2, pu1', pu2', pun, puf, puP, puP', puQ, puQ', Bool.and_true, Bool.and_self], _, wide_ok (farB p).o (by omega), ?_⟩
      conv => whnf
      rw [hbig]
      conv => whnf
      refine ⟨by first | rfl | simp only [List.all_cons, List.all_nil, pu0, pub, pu1, pu2, pu1', pu2', pun, puf, puP, puP', puQ, puQ', Bool.and_true, Bool.and_self], _, rdist_ok p (farB p).o ⟨f1, f2, by omega, fun l hl => by have := q2 l hl; omega⟩, ?_⟩
      conv => whnf
      rw [hoe, hdo]
      conv => whnf
      rw [decide_eq_true hx.2]
      conv => whnf
      refine ⟨by first | rfl | simp only [List.all_cons, List.all_nil, pu0, pub, pu1, pu2, pu1', pu2', pun, puf, puP, puP', puQ, puQ', Bool.and_true, Bool.and_self], _, hw, ?_⟩
      conv => whnf
      exact ret_pure (.inr rfl) rfl rfl
end Go.Proofs.Ytlcebaejlnpdeaa.Ab

/-
  Contracts: the program's Pair; SeamFewests.
-/
namespace Go.Proofs.Ytlcebaejlnpdeaa.Ab
open Go
set_option maxRecDepth 20000
set_option maxHeartbeats 4000000

theorem Val.lens {p : List (List Int)} (hv : Val p) : Lens p := ⟨fun l hl => ⟨hv.s1 l hl, hv.s5 l hl⟩, hv.n4⟩
theorem Val.ne {p : List (List Int)} (hv : Val p) : p ≠ [] := fun h => by have := hv.n2; rw [h] at this; simp at this
theorem few_same (p : List (List Int)) : pfewE p = fewE p := by
  unfold pfewE fewE
  by_cases h : checkP p = 0
  · have hv := checkP_val h
    rw [if_pos h, if_pos h, fewest_eq hv.lens hv.ne]
  · rw [if_neg h, if_neg h]
theorem ord_same (p : List (List Int)) : pordE p = ordE p := by
  unfold pordE ordE
  by_cases h : checkP p = 0
  · have hv := checkP_val h
    rw [if_pos h, if_pos h, orders_eq hv.lens hv.ne]
  · rw [if_neg h, if_neg h]
theorem ppair_ok (p : List (List Int)) (x : Int) (h1 : p.length ≤ 140737488355328) (h2 : ∀ l ∈ p, l.length ≤ 140737488355328) : PO 37 [P1 p, I x] (.tuple [I (pairV p x), I (pairErr p x)]) := by
  by_cases hc : checkP p = 0
  · have hv := checkP_val hc
    have h4 := hv.n4
    have h22 := hv.n2
    by_cases ha : [x].any (outOf 0 ((p.length : Int) - 1)) = true
    · have e : pairErr p x = 2 := by
        rw [pairErr, if_neg (by simp [hc]), if_pos]
        simp only [List.any_cons, List.any_nil, Bool.or_false, outOf, Bool.or_eq_true, decide_eq_true_eq] at ha
        omega
      rw [pairV, e]
      refine fn_pure hmix lk37 rfl rfl ?_
      unfold rc37
      conv => whnf
      refine ⟨by show (pureD 8 (P1 p) && (pureD 8 (L1 [x]) && true)) = true; rw [puP', pu1']; rfl, _, open_arg [x] h1 h2 (by simp) hc ha, ?_⟩
      conv => whnf
      exact ret_pure (.inr rfl) rfl rfl
    · have ha : [x].any (outOf 0 ((p.length : Int) - 1)) = false := by simpa using ha
      have ha2 := ha
      simp only [List.any_cons, List.any_nil, Bool.or_false, outOf_false] at ha2
      refine fn_pure hmix lk37 rfl rfl ?_
      unfold rc37
      conv => whnf
      refine ⟨by show (pureD 8 (P1 p) && (pureD 8 (L1 [x]) && true)) = true; rw [puP', pu1']; rfl, _, open_good [x] h1 h2 (by simp) hc ha, ?_⟩
      conv => whnf
      rw [wrapI ((p.length : Int) - 1) (by omega) (by omega)]
      refine dcase (fun h => ?_) (fun h => ?_)
      · have e : pairErr p x = 2 := by rw [pairErr, if_neg (by simp [hc]), if_pos (by omega)]
        rw [pairV, e]
        conv => whnf
        exact ret_pure (.inr rfl) rfl rfl
      · have e : pairErr p x = 0 := by rw [pairErr, if_neg (by simp [hc]), if_neg (by omega)]
        obtain ⟨k, rfl⟩ : ∃ k : Nat, x = k := ⟨x.toNat, by omega⟩
        have hsub := hv.sub k (by omega)
        have hfe : pairV p k = pfewE ((p.drop k).take 2) := by
          rw [pairV, if_pos e, few_same, fewE, if_pos hsub.check]; rfl
        have hm : ∀ l ∈ (p.drop k).take 2, l ∈ p := fun l hl => List.mem_of_mem_drop (List.mem_of_mem_take hl)
        conv => whnf
        rw [show IntKind.i64.wrap ((k : Int) + 2) = ((k + 2 : Nat) : Int) by rw [wrapI _ (by omega) (by omega)]; omega]
        refine ⟨by omega, ?_⟩
        rw [cut2, L2_two p k (by omega)]
        conv => whnf
        refine ⟨by first | rfl | simp only [List.all_cons, List.all_nil, pu0, pub, pu1, pu2, pu1', pu2', pun, puf, puP, puP', puQ, puQ', Bool.and_true, Bool.and_self], _, pfewest_ok ((p.drop k).take 2) (by simp; omega) (fun l hl => h2 l (hm l hl)), ?_⟩
        conv => whnf
        exact ret_pure (.inr rfl) rfl (by rw [hfe, e, hsub.check]; rfl)
  · have e : pairErr p x = checkP p := if_pos hc
    rw [pairV, e, if_neg hc]
    refine fn_pure hmix lk37 rfl rfl ?_
    unfold rc37
    conv => whnf
    refine ⟨by show (pureD 8 (P1 p) && (pureD 8 (L1 [x]) && true)) = true; rw [puP', pu1']; rfl, _, open_bad [x] h1 h2 (by simp) hc, ?_⟩
    conv => whnf
    refine dcase (fun h => ?_) (fun h => absurd hc h)
    conv => whnf
    exact ret_pure (.inr rfl) rfl rfl
theorem ordE_fit {p : List (List Int)} : (ordE p).length ≤ 4 ∧ ∀ r ∈ ordE p, r.length ≤ 5 := by
  rw [← ord_same]
  unfold pordE
  split
  · rename_i h
    have hv := checkP_val h
    have ho := progOrders_ords hv
    refine ⟨by rw [ho.len]; exact hv.n4, fun r hr => ?_⟩
    obtain ⟨i, hi, rfl⟩ := List.mem_iff_getElem.1 hr
    have h2 : i < p.length := by have := ho.len; omega
    rw [(isOrd_iff.1 (ho.ord i hi h2)).1]
    exact hv.s5 _ (List.getElem_mem h2)
  · simp
theorem seamFewests_ok (hw : WK) (p : List (List Int)) (x : Int) (hp : Fl2 p) (_hx : Fi x) : PO 5 [P1 p, I x] (B true) := by
  have hp1 := hp.n
  refine fn_pure hmix lk5 rfl rfl ?_
  unfold rc5
  conv => whnf
  refine ⟨by first | rfl | simp only [List.all_cons, List.all_nil, pu0, pub, pu1, pu2, pu1', pu2', pun, puf, puP, puP', puQ, puQ', Bool.and_true, Bool.and_self], _, great_ok p hp1, ?_⟩
  conv => whnf
  cases h1 : big p with
  | true =>
    conv => whnf
    refine ⟨by first | rfl | simp only [List.all_cons, List.all_nil, pu0, pub, pu1, pu2, pu1', pu2', pun, puf, puP, puP', puQ, puQ', Bool.and_true, Bool.and_self], _, hw, ?_⟩
    conv => whnf
    exact ret_pure (.inr rfl) rfl rfl
  | false =>
    obtain ⟨a1, a2⟩ := big_false.1 h1
    have f1 : p.length ≤ 140737488355328 := by omega
    have f2 : ∀ l ∈ p, l.length ≤ 140737488355328 := fun l hl => by have := a2 l hl; omega
    obtain ⟨q1, q2⟩ := ordE_fit (p := p)
    conv => whnf
    refine ⟨by first | rfl | simp only [List.all_cons, List.all_nil, pu0, pub, pu1, pu2, pu1', pu2', pun, puf, puP, puP', puQ, puQ', Bool.and_true, Bool.and_self], _, pfewest_ok p f1 f2, ?_⟩
    conv => whnf
    refine ⟨by first | rfl | simp only [List.all_cons, List.all_nil, pu0, pub, pu1, pu2, pu1', pu2', pun, puf, puP, puP', puQ, puQ', Bool.and_true, Bool.and_self], _, rfewest_ok p f1 f2, ?_⟩
    conv => whnf
    refine ⟨by first | rfl | simp only [List.all_cons, List.all_nil, pu0, pub, pu1, pu2, pu1', pu2', pun, puf, puP, puP', puQ, puQ', Bool.and_true, Bool.and_self], _, pOrders_ok p f1 f2, ?_⟩
    conv => whnf
    refine ⟨by first | rfl | simp only [List.all_cons, List.all_nil, pu0, pub, pu1, pu2, pu1', pu2', pun, puf, puP, puP', puQ, puQ', Bool.and_true, Bool.and_self], _, rorders_ok p f1 f2, ?_⟩
    conv => whnf
    refine ⟨by first | rfl | simp only [List.all_cons, List.all_nil, pu0, pub, pu1, pu2, pu1', pu2', pun, puf, puP, puP', puQ, puQ', Bool.and_true, Bool.and_self], _, ppair_ok p x f1 f2, ?_⟩
    conv => whnf
    refine ⟨by first | rfl | simp only [List.all_cons, List.all_nil, pu0, pub, pu1, pu2, pu1', pu2', pun, puf, puP, puP', puQ, puQ', Bool.and_true, Bool.and_self], _, rpair_ok p x f1 f2, ?_⟩
    conv => whnf
    rw [few_same, deqr]
    conv => whnf
    rw [deqr]
    conv => whnf
    rw [ord_same]
    refine ⟨by first | rfl | simp only [List.all_cons, List.all_nil, pu0, pub, pu1, pu2, pu1', pu2', pun, puf, puP, puP', puQ, puQ', Bool.and_true, Bool.and_self], _, lists_ok (ordE p) (ordE p) (by omega) fun l hl => by have := q2 l hl; omega, ?_⟩
    conv => whnf
    rw [deqr]
    conv => whnf
    rw [deqr]
    conv => whnf
    rw [deqr]
    conv => whnf
    rw [deqr]
    conv => whnf
    refine ⟨by first | rfl | simp only [List.all_cons, List.all_nil, pu0, pub, pu1, pu2, pu1', pu2', pun, puf, puP, puP', puQ, puQ', Bool.and_true, Bool.and_self], _, hw, ?_⟩
    conv => whnf
    exact ret_pure (.inr rfl) rfl rfl
end Go.Proofs.Ytlcebaejlnpdeaa.Ab

/-
  Contracts: fine, fewest, far.
-/
namespace Go.Proofs.Ytlcebaejlnpdeaa.Ab
open Go
set_option maxRecDepth 20000
set_option maxHeartbeats 4000000

def fineB (p : List (List Int)) : Bool := !(big p) && decide (checkP p = 0)
theorem fine_ok (p : List (List Int)) (hp : Fl2 p) : PO 48 [P1 p] (B (fineB p)) := by
  have hp1 := hp.n
  refine fn_pure hmix lk48 rfl rfl ?_
  unfold rc48
  conv => whnf
  refine ⟨by first | rfl | simp only [List.all_cons, List.all_nil, pu0, pub, pu1, pu2, pu1', pu2', pun, puf, puP, puP', puQ, puQ', Bool.and_true, Bool.and_self], _, great_ok p hp1, ?_⟩
  conv => whnf
  cases h1 : big p with
  | true =>
    conv => whnf
    exact ret_pure (.inr rfl) rfl (by rw [fineB, h1]; rfl)
  | false =>
    obtain ⟨a1, a2⟩ := big_false.1 h1
    conv => whnf
    refine ⟨by first | rfl | simp only [List.all_cons, List.all_nil, pu0, pub, pu1, pu2, pu1', pu2', pun, puf, puP, puP', puQ, puQ', Bool.and_true, Bool.and_self], _, rcheck_ok p (by omega) fun l hl => by have := a2 l hl; omega, ?_⟩
    conv => whnf
    exact ret_pure (.inr rfl) rfl (by rw [fineB, h1]; rfl)
theorem fineB_val {p : List (List Int)} (h : fineB p = true) : Val p := by
  simp only [fineB, Bool.and_eq_true, decide_eq_true_eq] at h
  exact checkP_val h.2
theorem Val.big {p : List (List Int)} (hv : Val p) : Ab.big p = false :=
  big_false.2 ⟨by have := hv.n4; omega, fun l hl => by have := hv.s5 l hl; omega⟩
theorem Val.fine {p : List (List Int)} (hv : Val p) : fineB p = true := by
  rw [fineB, hv.big, hv.check]; rfl
theorem Val.fit {p : List (List Int)} (hv : Val p) : p.length ≤ 140737488355328 ∧ ∀ l ∈ p, l.length ≤ 140737488355328 :=
  ⟨by have := hv.n4; omega, fun l hl => by have := hv.s5 l hl; omega⟩
theorem Ords.fit {p o : List (List Int)} (hv : Val p) (ho : Ords p o) : Fit p o ∧ Ab.big o = false := by
  have h4 := hv.n4
  have hl := ho.len
  have hr : ∀ r ∈ o, r.length ≤ 5 := fun r hr => by
    obtain ⟨i, hi, rfl⟩ := List.mem_iff_getElem.1 hr
    have h2 : i < p.length := by omega
    rw [(isOrd_iff.1 (ho.ord i hi h2)).1]
    exact hv.s5 _ (List.getElem_mem h2)
  exact ⟨⟨hv.fit.1, hv.fit.2, by omega, fun l hl => by have := hr l hl; omega⟩, big_false.2 ⟨by omega, fun l hl => by have := hr l hl; omega⟩⟩
theorem Ords.err {p o : List (List Int)} (hv : Val p) (ho : Ords p o) : ordErr p o = 0 := ordErr_zero.2 ⟨hv, ho⟩
theorem fewest49_ok (p : List (List Int)) (hv : Val p) : PO 49 [P1 p] (.tuple [I (fewestOf p), B true]) := by
  obtain ⟨f1, f2⟩ := hv.fit
  have ho := progOrders_ords hv
  obtain ⟨q1, q2⟩ := ho.fit hv
  have he := ho.err hv
  have hm : meetOf p (progOrders p) = fewestOf p := by rw [meetOf, if_pos he, fewest_eq hv.lens hv.ne]
  have e1 : pfewE p = fewestOf p := by rw [few_same, fewE, if_pos hv.check]
  have e2 : pordE p = progOrders p := if_pos hv.check
  refine fn_pure hmix lk49 rfl rfl ?_
  unfold rc49
  conv => whnf
  refine ⟨by first | rfl | simp only [List.all_cons, List.all_nil, pu0, pub, pu1, pu2, pu1', pu2', pun, puf, puP, puP', puQ, puQ', Bool.and_true, Bool.and_self], _, pfewest_ok p f1 f2, ?_⟩
  conv => whnf
  refine ⟨by first | rfl | simp only [List.all_cons, List.all_nil, pu0, pub, pu1, pu2, pu1', pu2', pun, puf, puP, puP', puQ, puQ', Bool.and_true, Bool.and_self], _, pOrders_ok p f1 f2, ?_⟩
  conv => whnf
  rw [hv.check, e1, e2]
  conv => whnf
  refine ⟨by first | rfl | simp only [List.all_cons, List.all_nil, pu0, pub, pu1, pu2, pu1', pu2', pun, puf, puP, puP', puQ, puQ', Bool.and_true, Bool.and_self], _, wide_ok (progOrders p) (by have := q1.o1; omega), ?_⟩
  conv => whnf
  rw [q2]
  conv => whnf
  refine ⟨by first | rfl | simp only [List.all_cons, List.all_nil, pu0, pub, pu1, pu2, pu1', pu2', pun, puf, puP, puP', puQ, puQ', Bool.and_true, Bool.and_self], _, pmeet_ok p (progOrders p) q1, ?_⟩
  conv => whnf
  refine ⟨by first | rfl | simp only [List.all_cons, List.all_nil, pu0, pub, pu1, pu2, pu1', pu2', pun, puf, puP, puP', puQ, puQ', Bool.and_true, Bool.and_self], _, rmeet_ok p (progOrders p) q1, ?_⟩
  conv => whnf
  rw [he, hm]
  conv => whnf
  rw [deqr]
  conv => whnf
  rw [deqr]
  conv => whnf
  exact ret_pure (.inr rfl) rfl rfl
theorem farB_d {p : List (List Int)} (hv : Val p) : 0 ≤ (farB p).d ∧ (farB p).d ≤ sumI (p.headD []) := by
  have h0 : 0 < p.length := by have := hv.n2; omega
  have hs : 0 ≤ sumI (p.headD []) := by rw [headD0 _ h0]; exact (hv.sm (List.getElem_mem h0)).sum.1
  obtain ⟨q1, _, q3⟩ := beforeF_b hs p.length p rfl fun l hl => ⟨hv.sm hl, hv.s1 l hl, hv.s5 l hl⟩
  have := q3 _ (bestL_mem fr _ q1)
  exact ⟨this.d0, this.d1⟩
theorem far54_ok (p : List (List Int)) (hv : Val p) : PO 54 [P1 p] (.tuple [I (farB p).d, B true]) := by
  obtain ⟨f1, f2⟩ := hv.fit
  have h0 : 0 < p.length := by have := hv.n2; omega
  obtain ⟨d0, d1⟩ := farB_d hv
  obtain ⟨ho, hd⟩ := farB_dist hv
  obtain ⟨q1, q2⟩ := ho.fit hv
  have he := ho.err hv
  have hdo : distOf p (farB p).o = (farB p).d := by rw [distOf, if_pos he]; exact hd
  have hs := (hv.sm (List.getElem_mem h0)).sum
  rw [headD0 _ h0] at d1
  have e1 : farE p = (farB p).d := if_pos hv.check
  have e2 : apErr p (farB p).d = 0 := by rw [apErr, if_neg (by simp [hv.check]), if_neg (by omega), if_neg (by omega)]
  have e3 : apErr p ((farB p).d + 1) = 21 := by rw [apErr, if_neg (by simp [hv.check]), if_neg (by omega), if_pos (by omega)]
  have e4 : apO p (farB p).d = (farB p).o := if_pos e2
  refine fn_pure hmix lk54 rfl rfl ?_
  unfold rc54
  conv => whnf
  refine ⟨by first | rfl | simp only [List.all_cons, List.all_nil, pu0, pub, pu1, pu2, pu1', pu2', pun, puf, puP, puP', puQ, puQ', Bool.and_true, Bool.and_self], _, pFar_ok p f1 f2, ?_⟩
  conv => whnf
  rw [hv.check, e1]
  conv => whnf
  rw [decide_eq_false (show ¬ (farB p).d < 0 by omega)]
  conv => whnf
  refine ⟨by omega, ?_⟩
  conv => whnf
  refine nthM _ _ _ (h0) ?_
  conv => whnf
  refine ⟨by first | rfl | simp only [List.all_cons, List.all_nil, pu0, pub, pu1, pu2, pu1', pu2', pun, puf, puP, puP', puQ, puQ', Bool.and_true, Bool.and_self], _, rsum_ok p[0] (hv.sm (List.getElem_mem h0)), ?_⟩
  conv => whnf
  rw [decide_eq_false (show ¬ sumI p[0] < (farB p).d by omega)]
  conv => whnf
  refine ⟨by first | rfl | simp only [List.all_cons, List.all_nil, pu0, pub, pu1, pu2, pu1', pu2', pun, puf, puP, puP', puQ, puQ', Bool.and_true, Bool.and_self], _, pApart_ok p (farB p).d f1 f2, ?_⟩
  conv => whnf
  rw [wrapI _ (by omega) (by omega)]
  refine ⟨by first | rfl | simp only [List.all_cons, List.all_nil, pu0, pub, pu1, pu2, pu1', pu2', pun, puf, puP, puP', puQ, puQ', Bool.and_true, Bool.and_self], _, pApart_ok p ((farB p).d + 1) f1 f2, ?_⟩
  conv => whnf
  rw [e2, e3, e4]
  conv => whnf
  refine ⟨by first | rfl | simp only [List.all_cons, List.all_nil, pu0, pub, pu1, pu2, pu1', pu2', pun, puf, puP, puP', puQ, puQ', Bool.and_true, Bool.and_self], _, wide_ok (farB p).o (by have := q1.o1; omega), ?_⟩
  conv => whnf
  rw [q2]
  conv => whnf
  refine ⟨by first | rfl | simp only [List.all_cons, List.all_nil, pu0, pub, pu1, pu2, pu1', pu2', pun, puf, puP, puP', puQ, puQ', Bool.and_true, Bool.and_self], _, pdist_ok p (farB p).o q1, ?_⟩
  conv => whnf
  refine ⟨by first | rfl | simp only [List.all_cons, List.all_nil, pu0, pub, pu1, pu2, pu1', pu2', pun, puf, puP, puP', puQ, puQ', Bool.and_true, Bool.and_self], _, rdist_ok p (farB p).o q1, ?_⟩
  conv => whnf
  rw [he, hdo]
  conv => whnf
  rw [deqr]
  conv => whnf
  rw [deqr]
  conv => whnf
  exact ret_pure (.inr rfl) rfl rfl
end Go.Proofs.Ytlcebaejlnpdeaa.Ab

/-
  Plain law of layer 5: no orders have fewer meetings, none a greater distance; with a layer less, or more.
-/
namespace Go.Proofs.Ytlcebaejlnpdeaa.Ab

theorem jointOf_head' (a : List Int) (b : List Jt) (o : List Int) : (jointOf a b o).o = o :: (bestL fw (b.map (tryJ (seamsOf a o)))).o := rfl
theorem joints_ords1 : ∀ (p : List (List Int)), (∀ l ∈ p, 1 ≤ l.length ∧ l.length ≤ 5) → ∀ x ∈ joints p, Ords p x.o
  | [], _, x, hx => by
    simp [joints] at hx; subst hx
    exact ⟨rfl, fun i h => by simp at h⟩
  | a :: r, h, x, hx => by
    have hr : ∀ l ∈ r, 1 ≤ l.length ∧ l.length ≤ 5 := fun l hl => h l (by simp [hl])
    obtain ⟨q1, _, _⟩ := joints_b r hr
    have ih := joints_ords1 r hr
    simp only [joints, nextJ, List.mem_map] at hx
    obtain ⟨o, ho, rfl⟩ := hx
    have hm := bestL_mem fw ((joints r).map (tryJ (seamsOf a o))) (by simpa using q1)
    obtain ⟨j, hj, e⟩ := List.mem_map.1 hm
    have hjo := ih j hj
    have e2 : (bestL fw ((joints r).map (tryJ (seamsOf a o)))).o = j.o := by rw [← e]; rfl
    refine ⟨by rw [jointOf_head', e2, List.length_cons, List.length_cons, hjo.len], fun i h1 h2 => ?_⟩
    simp only [jointOf_head', e2] at h1 ⊢
    cases i with
    | zero => exact perms_ord ho
    | succ i => exact hjo.ord i (by simpa using h1) (by simpa using h2)
theorem joints_ords' (p : List (List Int)) (h : ∀ l ∈ p, 1 ≤ l.length ∧ l.length ≤ 5) : Ords p (progOrders p) := joints_ords1 p h _ (bestL_mem fw _ (joints_b p h).1)
theorem bestL_le (l : List Jt) : ∀ y ∈ l, (bestL fw l).m ≤ y.m := by
  intro y hy
  cases l with
  | nil => simp at hy
  | cons x t =>
    have h := bestJ_le t x
    rcases List.mem_cons.1 hy with rfl | hy
    · exact h.1
    · exact h.2 y hy
theorem bestF_ge (l : List Jt) : ∀ y ∈ l, y.d ≤ (bestL fr l).d := by
  intro y hy
  cases l with
  | nil => simp at hy
  | cons x t =>
    show y.d ≤ (bestJ fr t x).d
    rw [bestF_d]
    have key : ∀ (t : List Jt) (a : Int), a ≤ t.foldl (fun m y => max m y.d) a ∧ ∀ y ∈ t, y.d ≤ t.foldl (fun m y => max m y.d) a := by
      intro t
      induction t with
      | nil => intro a; simp
      | cons z t ih =>
        intro a
        obtain ⟨h1, h2⟩ := ih (max a z.d)
        rw [List.foldl_cons]
        refine ⟨by omega, fun y hy => ?_⟩
        rcases List.mem_cons.1 hy with rfl | hy
        · omega
        · exact h2 y hy
    rcases List.mem_cons.1 hy with rfl | hy
    · exact (key t _).1
    · exact (key t _).2 y hy
theorem ords_cons {a : List Int} {r os : List (List Int)} (h : Ords (a :: r) os) : ∃ o os', os = o :: os' ∧ isOrd o a.length = true ∧ Ords r os' := by
  have hl := h.len
  cases os with
  | nil => simp at hl
  | cons o os' =>
    exact ⟨o, os', rfl, h.ord 0 (by simp) (by simp), by simpa using hl, fun i h1 h2 => h.ord (i + 1) (by simpa using h1) (by simpa using h2)⟩
theorem joint_le : ∀ (r : List (List Int)) (a : List Int) (o : List Int) (os : List (List Int)), Ords r os → (jointOf a (joints r) o).m ≤ (meetN (seamsBy (a :: r) (o :: os)) : Int)
  | [], a, o, os, _ => by
    show (bestL fw [tryJ (seamsOf a o) ⟨[], [], 0, 0⟩]).m ≤ _
    show (0 : Int) + (common (seamsOf a o) [] : Int) ≤ _
    rw [common_nil]; omega
  | b :: r, a, o, os, h => by
    obtain ⟨o', os', rfl, h1, h2⟩ := ords_cons h
    have ih := joint_le r b o' os' h2
    have hm : jointOf b (joints r) o' ∈ joints (b :: r) := List.mem_map.2 ⟨o', perms_of h1, rfl⟩
    have hb := bestL_le ((joints (b :: r)).map (tryJ (seamsOf a o))) _ (List.mem_map.2 ⟨_, hm, rfl⟩)
    have e : (tryJ (seamsOf a o) (jointOf b (joints r) o')).m = (jointOf b (joints r) o').m + (common (seamsOf a o) (seamsOf b o') : Int) := rfl
    rw [e] at hb
    have e2 : meetN (seamsBy (a :: b :: r) (o :: o' :: os')) = common (seamsOf a o) (seamsOf b o') + meetN (seamsBy (b :: r) (o' :: os')) := rfl
    have e3 : (jointOf a (joints (b :: r)) o).m = (bestL fw ((joints (b :: r)).map (tryJ (seamsOf a o)))).m := rfl
    rw [e2, e3]; omega
/-- No orders have fewer meetings. -/
theorem fewest_min {p o : List (List Int)} (hp : Lens p) (hn : p ≠ []) (ho : Ords p o) : fewestOf p ≤ (meetN (seamsBy p o) : Int) := by
  rw [fewest_best hp hn]
  cases p with
  | nil => exact absurd rfl hn
  | cons a r =>
    obtain ⟨o1, os, rfl, h1, h2⟩ := ords_cons ho
    have hm : jointOf a (joints r) o1 ∈ joints (a :: r) := List.mem_map.2 ⟨o1, perms_of h1, rfl⟩
    have := bestL_le (joints (a :: r)) _ hm
    have := joint_le r a o1 os h2
    omega

theorem ords_last {q : List (List Int)} {a : List Int} {os : List (List Int)} (h : Ords (q ++ [a]) os) : ∃ os' o, os = os' ++ [o] ∧ Ords q os' ∧ isOrd o a.length = true := by
  have hl := h.len
  have hne : os ≠ [] := fun e => by rw [e] at hl; simp at hl
  obtain ⟨os', o, rfl⟩ : ∃ os' o, os = os' ++ [o] := ⟨os.dropLast, os.getLast hne, (List.dropLast_concat_getLast hne).symm⟩
  have hl' : os'.length = q.length := by simpa using hl
  refine ⟨os', o, rfl, ⟨hl', fun i h1 h2 => ?_⟩, ?_⟩
  · have := h.ord i (by simp; omega) (by simp; omega)
    rwa [List.getElem_append_left h1, List.getElem_append_left h2] at this
  · have := h.ord os'.length (by simp) (by simp; omega)
    rw [List.getElem_append_right (by omega), List.getElem_append_right (by omega)] at this
    simpa [hl'] using this
theorem before_ge {W : Int} (hW : 0 ≤ W) : ∀ (n : Nat) (q : List (List Int)), q.length = n + 1 → (∀ l ∈ q, 1 ≤ l.length ∧ l.length ≤ 5) → ∀ os, Ords q os → ∃ x ∈ beforeF W q, distGo (seamsBy q os) W ≤ x.d ∧ ∃ l, seamsBy q os = l ++ [x.s]
  | n, q, hq, h, os, ho => by
    have hne : q ≠ [] := fun e => by rw [e] at hq; simp at hq
    obtain ⟨r, a, rfl⟩ : ∃ r a, q = r ++ [a] := ⟨q.dropLast, q.getLast hne, (List.dropLast_concat_getLast hne).symm⟩
    obtain ⟨os', o, rfl, h1, h2⟩ := ords_last ho
    have hx : jointF W a (beforeF W r) o ∈ beforeF W (r ++ [a]) := by
      rw [beforeF_snoc]; exact List.mem_map.2 ⟨o, perms_of h2, rfl⟩
    have e4 := seamsBy_snoc r a os' o h1.len
    refine ⟨_, hx, ?_, seamsBy r os', by rw [e4]; rfl⟩
    have hd : (jointF W a (beforeF W r) o).d = (bestL fr ((beforeF W r).map (tryF W (seamsOf a o)))).d := rfl
    rw [hd, e4]
    cases n with
    | zero =>
      have hr : r = [] := List.length_eq_zero_iff.1 (by simpa using hq)
      subst hr
      have : os' = [] := List.length_eq_zero_iff.1 (by simpa using h1.len)
      subst this
      show W ≤ (bestL fr [tryF W (seamsOf a o) ⟨[], [], 0, W⟩]).d
      show W ≤ min W (betw [] (seamsOf a o) W)
      show W ≤ min W W
      omega
    | succ n =>
      obtain ⟨x, hx1, hx2, l, hl⟩ := before_ge hW n r (by simpa using hq) (fun l hl => h l (by simp [hl])) os' h1
      have hb := bestF_ge ((beforeF W r).map (tryF W (seamsOf a o))) _ (List.mem_map.2 ⟨x, hx1, rfl⟩)
      have e : (tryF W (seamsOf a o) x).d = min x.d (betw x.s (seamsOf a o) W) := rfl
      rw [e] at hb
      have hxW := ((beforeF_d (W := W) r.length r rfl fun l hl => h l (by simp [hl])).2 x hx1).1
      rw [hl] at hx2 ⊢
      rw [List.append_assoc, show [x.s] ++ [seamsOf a o] = [x.s, seamsOf a o] from rfl, distGo_snoc, betw_le x.s (seamsOf a o) _ W (by omega)]
      omega
/-- No orders have a greater distance. -/
theorem far_max {p o : List (List Int)} (hv : Val p) (ho : Ords p o) : distGo (seamsBy p o) (sumI (p.headD [])) ≤ (farB p).d := by
  have h2 := hv.n2
  have hs : 0 ≤ sumI (p.headD []) := by
    have h0 : 0 < p.length := by omega
    rw [show p.headD [] = p[0] by cases p <;> simp_all]
    exact (hv.sm (List.getElem_mem h0)).sum.1
  obtain ⟨x, hx, hd, _⟩ := before_ge hs (p.length - 1) p (by omega) (fun l hl => ⟨hv.s1 l hl, hv.s5 l hl⟩) o ho
  have := bestF_ge _ x hx
  unfold farB; omega

/-! ### A layer less, a layer more -/
theorem meetN_mono : ∀ (l : List (List Int)) (a : List Int), meetN l ≤ meetN (l ++ [a])
  | [], a => by simp [meetN]
  | [x], a => by simp [meetN]
  | x :: y :: l, a => by
    have := meetN_mono (y :: l) a
    simp only [List.cons_append, meetN] at this ⊢; omega
theorem distGo_mono (W : Int) (hW : 0 ≤ W) : ∀ (l : List (List Int)) (a : List Int), (∀ r ∈ l ++ [a], ∀ x ∈ r, 0 ≤ x) → distGo (l ++ [a]) W ≤ distGo l W := by
  intro l a h
  by_cases hl : l = []
  · subst hl; simp [distGo]
  · obtain ⟨r, b, rfl⟩ : ∃ r b, l = r ++ [b] := ⟨l.dropLast, l.getLast hl, (List.dropLast_concat_getLast hl).symm⟩
    rw [List.append_assoc, show [b] ++ [a] = [b, a] from rfl, distGo_snoc]
    have h1 := (distGo_bound (r ++ [b]) W (fun s hs => h s (List.mem_append_left _ hs)) hW).1
    exact (betw_bound b a _ (h b (by simp)) (h a (by simp)) h1).2
theorem seamsBy_nonneg {p o : List (List Int)} (hp : ∀ l ∈ p, Sm l) : ∀ r ∈ seamsBy p o, ∀ x ∈ r, 0 ≤ x := by
  intro r hr x hx
  obtain ⟨i, hi, rfl⟩ := List.mem_iff_getElem.1 hr
  simp only [seamsBy, List.getElem_zipWith] at hx
  have hi2 : i < p.length := by simp [seamsBy] at hi; omega
  exact (seamsGo_bound (hp _ (List.getElem_mem hi2)) _ 0 (by omega) x hx).1
theorem fewest_less {q : List (List Int)} {a : List Int} (hp : Lens (q ++ [a])) (hq : q ≠ []) : fewestOf q ≤ fewestOf (q ++ [a]) := by
  have hL : Lens q := ⟨fun l hl => hp.1 l (by simp [hl]), by have := hp.2; simp at this; omega⟩
  rw [fewest_eq hp (by simp)]
  have ho : Ords (q ++ [a]) (progOrders (q ++ [a])) := joints_ords' _ hp.1
  obtain ⟨os', o, e, h1, h2⟩ := ords_last ho
  rw [e, seamsBy_snoc q a os' o h1.len]
  have := fewest_min hL hq h1
  have := meetN_mono (seamsBy q os') (seamsOf a o)
  omega
theorem far_less {q : List (List Int)} {a : List Int} (hv : Val (q ++ [a])) (hq : Val q) : (farB (q ++ [a])).d ≤ (farB q).d := by
  obtain ⟨ho, hd⟩ := farB_dist hv
  obtain ⟨os', o, e, h1, h2⟩ := ords_last ho
  have hne : q ≠ [] := fun h => by have := hq.n2; rw [h] at this; simp at this
  have hh : (q ++ [a]).headD [] = q.headD [] := by cases q <;> simp_all
  have hs : 0 ≤ sumI (q.headD []) := by
    have h0 : 0 < q.length := by have := hq.n2; omega
    rw [show q.headD [] = q[0] by cases q <;> simp_all]
    exact (hq.sm (List.getElem_mem h0)).sum.1
  rw [← hd, distOf', hh, e, seamsBy_snoc q a os' o h1.len]
  have h3 := far_max hq h1
  have h4 := distGo_mono (sumI (q.headD [])) hs (seamsBy q os') (seamsOf a o) (by
    rw [← seamsBy_snoc q a os' o h1.len]; exact seamsBy_nonneg fun l hl => hv.sm hl)
  omega
theorem common_self (s : List Int) : common s s = s.length := by
  unfold common
  rw [List.filter_eq_self.2]
  intro x hx; exact has_iff.2 hx
theorem fewest_again {q : List (List Int)} {a : List Int} (hp : Lens (q ++ [a])) (hp2 : Lens (q ++ [a] ++ [a])) : fewestOf (q ++ [a] ++ [a]) ≤ fewestOf (q ++ [a]) + (a.length : Int) - 1 := by
  have ha := hp.1 a (by simp)
  rw [fewest_eq hp (by simp)]
  have ho : Ords (q ++ [a]) (progOrders (q ++ [a])) := joints_ords' _ hp.1
  obtain ⟨os', o, e, h1, h2⟩ := ords_last ho
  have h3 := fewest_min hp2 (by simp) (ords_snoc ho h2)
  rw [e] at h3 ⊢
  rw [seamsBy_snoc (q ++ [a]) a (os' ++ [o]) o (by simp [h1.len]), seamsBy_snoc q a os' o h1.len] at h3
  rw [seamsBy_snoc q a os' o h1.len]
  have e5 : seamsBy q os' ++ [seamsOf a o] ++ [seamsOf a o] = seamsBy q os' ++ [seamsOf a o, seamsOf a o] := by simp
  rw [e5, meetN_snoc, common_self] at h3
  have hl : (seamsOf a o).length = a.length - 1 := by
    simp [seamsOf, seamsGo_length, (isOrd_iff.1 h2).1]
  omega
end Go.Proofs.Ytlcebaejlnpdeaa.Ab

/-
  SeamFewer.
-/
namespace Go.Proofs.Ytlcebaejlnpdeaa.Ab
open Go
set_option maxRecDepth 20000
set_option maxHeartbeats 4000000

theorem takeN (l : List (List Int)) (n : Nat) (h : n ≤ l.length) : AV.lst ((l.map L1).take ((n : Int).toNat * 1)) (n : Int).toNat .shared = L2 (l.take n) := by
  simp [L2, List.map_take, Nat.min_eq_left h]
theorem Val.init {q : List (List Int)} {a : List Int} (hv : Val (q ++ [a])) (h : 2 ≤ q.length) : Val q := by
  have hh : (q ++ [a]).headD [] = q.headD [] := by cases q <;> simp_all
  exact ⟨h, by have := hv.n4; simp at this; omega, fun l hl => hv.s1 l (by simp [hl]), fun l hl => hv.s5 l (by simp [hl]), fun l hl => hv.w l (by simp [hl]), fun l hl => by rw [← hh]; exact hv.eq l (by simp [hl])⟩
theorem Val.again {q : List (List Int)} {a : List Int} (hv : Val (q ++ [a])) (h : (q ++ [a]).length ≤ 3) : Val (q ++ [a] ++ [a]) := by
  have hh : (q ++ [a] ++ [a]).headD [] = (q ++ [a]).headD [] := by cases q <;> rfl
  have hm : ∀ l ∈ q ++ [a] ++ [a], l ∈ q ++ [a] := fun l hl => by simp at hl ⊢; rcases hl with h | h | h <;> simp [h]
  have h2 := hv.n2
  refine ⟨by simp at h2 ⊢, by simp at h ⊢; omega, fun l hl => hv.s1 l (hm l hl), fun l hl => hv.s5 l (hm l hl), fun l hl => hv.w l (hm l hl), fun l hl => by rw [hh]; exact hv.eq l (hm l hl)⟩
theorem few_bd {p : List (List Int)} (hp : Lens p) (hn : p ≠ []) : 0 ≤ fewestOf p ∧ fewestOf p ≤ 1000 := by
  rw [fewest_best hp hn]
  obtain ⟨q1, q2, q3⟩ := joints_b p hp.1
  have := q3 _ (bestL_mem fw _ q1)
  have h2 := hp.2
  exact ⟨this.m0, by have := this.m1; omega⟩
theorem again_L (q : List (List Int)) (a x : List Int) (hx : x = a) : AV.lst (repl 0 [AV.lst [] 0 Cap.full] ++ List.map L1 (q ++ [a]) ++ AV.lst (x.map I) x.length Cap.shared :: [].append (repl 0 [AV.lst [] 0 Cap.full])) (0 + (q ++ [a]).length + 1) Cap.shared = L2 (q ++ [a] ++ [a]) := by
  subst hx
  simp [L2, repl]; rfl
theorem seamFewer_ok (hw : WK) (p : List (List Int)) (hp : Fl2 p) : PO 15 [P1 p] (B true) := by
  refine fn_pure hmix lk15 rfl rfl ?_
  unfold rc15
  conv => whnf
  refine ⟨by first | rfl | simp only [List.all_cons, List.all_nil, pu0, pub, pu1, pu2, pu1', pu2', pun, puf, puP, puP', puQ, puQ', Bool.and_true, Bool.and_self], _, fine_ok p hp, ?_⟩
  conv => whnf
  cases hf : fineB p with
  | false =>
    conv => whnf
    refine ⟨by first | rfl | simp only [List.all_cons, List.all_nil, pu0, pub, pu1, pu2, pu1', pu2', pun, puf, puP, puP', puQ, puQ', Bool.and_true, Bool.and_self], _, hw, ?_⟩
    conv => whnf
    exact ret_pure (.inr rfl) rfl rfl
  | true =>
    have hv := fineB_val hf
    have h4 := hv.n4
    have h2 := hv.n2
    have hne : p ≠ [] := hv.ne
    obtain ⟨q, a, rfl⟩ : ∃ q a, p = q ++ [a] := ⟨p.dropLast, p.getLast hne, (List.dropLast_concat_getLast hne).symm⟩
    have hL := hv.lens
    have hql : (q ++ [a]).length = q.length + 1 := by simp
    have w : IntKind.i64.wrap (((q ++ [a]).length : Int) - 1) = (q.length : Int) := by rw [wrapI _ (by omega) (by omega)]; omega
    have eL : (((q ++ [a])[((q.length : Int)).toNat]'(by omega)).length : Int) = (a.length : Int) := by simp
    have hal := hv.s5 a (by simp)
    have ⟨b0, b1⟩ := few_bd hL hne
    have hqn : q ≠ [] := fun e => by rw [e] at h2; simp at h2
    conv => whnf
    refine ⟨by first | rfl | simp only [List.all_cons, List.all_nil, pu0, pub, pu1, pu2, pu1', pu2', pun, puf, puP, puP', puQ, puQ', Bool.and_true, Bool.and_self], _, fewest49_ok _ hv, ?_⟩
    conv => whnf
    refine ⟨by first | rfl | simp only [List.all_cons, List.all_nil, pu0, pub, pu1, pu2, pu1', pu2', pun, puf, puP, puP', puQ, puQ', Bool.and_true, Bool.and_self], _, far54_ok _ hv, ?_⟩
    conv => whnf
    refine dcase (fun h => ?_) (fun h => ?_)
    · have hvq : Val q := hv.init (by omega)
      have k1 := fewest_less hL hqn
      have k2 := far_less hv hvq
      conv => whnf
      rw [w]
      refine ⟨by omega, ?_⟩
      rw [takeN (q ++ [a]) q.length (by omega), List.take_left]
      conv => whnf
      refine ⟨by first | rfl | simp only [List.all_cons, List.all_nil, pu0, pub, pu1, pu2, pu1', pu2', pun, puf, puP, puP', puQ, puQ', Bool.and_true, Bool.and_self], _, fewest49_ok q hvq, ?_⟩
      conv => whnf
      refine ⟨by first | rfl | simp only [List.all_cons, List.all_nil, pu0, pub, pu1, pu2, pu1', pu2', pun, puf, puP, puP', puQ, puQ', Bool.and_true, Bool.and_self], _, far54_ok q hvq, ?_⟩
      conv => whnf
      rw [decide_eq_false (show ¬ fewestOf (q ++ [a]) < fewestOf q by omega)]
      conv => whnf
      rw [decide_eq_false (show ¬ (farB q).d < (farB (q ++ [a])).d by omega)]
      conv => whnf
      refine dcase (fun h6 => ?_) (fun h6 => ?_)
      · conv => whnf
        refine ⟨by first | rfl | simp only [List.all_cons, List.all_nil, pu0, pub, pu1, pu2, pu1', pu2', pun, puf, puP, puP', puQ, puQ', Bool.and_true, Bool.and_self], _, hw, ?_⟩
        conv => whnf
        exact ret_pure (.inr rfl) rfl rfl
      · have hy := hv.again (by omega)
        have k3 := fewest_less hy.lens (by simp)
        have k4 := fewest_again hL hy.lens
        conv => whnf
        refine ⟨by simp, by omega, ?_⟩
        conv => whnf
        refine ⟨by simp, ?_⟩
        conv => whnf
        refine ⟨by omega, ?_⟩
        conv => whnf
        rw [w]
        refine ⟨⟨by omega, by omega⟩, ?_⟩
        conv => whnf
        refine nthM _ _ _ (by omega) ?_
        simp only [List.getElem_concat_length]
        conv => whnf
        refine ⟨rfl, by decide, rfl, by omega, ?_⟩
        conv => whnf
        rw [again_L q a ((q ++ [a])[((q.length : Int)).toNat]'(by omega)) (by simp)]
        refine ⟨by first | rfl | simp only [List.all_cons, List.all_nil, pu0, pub, pu1, pu2, pu1', pu2', pun, puf, puP, puP', puQ, puQ', Bool.and_true, Bool.and_self], _, fewest49_ok _ hy, ?_⟩
        conv => whnf
        rw [decide_eq_true k3]
        conv => whnf
        rw [w]
        refine ⟨⟨by omega, by omega⟩, ?_⟩
        conv => whnf
        refine nthM _ _ _ (by omega) ?_
        conv => whnf
        rw [eL, wrapI (fewestOf (q ++ [a]) + (a.length : Int)) (by omega) (by omega), wrapI _ (by omega) (by omega), decide_eq_true k4]
        conv => whnf
        refine ⟨by first | rfl | simp only [List.all_cons, List.all_nil, pu0, pub, pu1, pu2, pu1', pu2', pun, puf, puP, puP', puQ, puQ', Bool.and_true, Bool.and_self], _, hw, ?_⟩
        conv => whnf
        exact ret_pure (.inr rfl) rfl rfl
    · conv => whnf
      refine dcase (fun h6 => ?_) (fun h6 => ?_)
      · conv => whnf
        refine ⟨by first | rfl | simp only [List.all_cons, List.all_nil, pu0, pub, pu1, pu2, pu1', pu2', pun, puf, puP, puP', puQ, puQ', Bool.and_true, Bool.and_self], _, hw, ?_⟩
        conv => whnf
        exact ret_pure (.inr rfl) rfl rfl
      · have hy := hv.again (by omega)
        have k3 := fewest_less hy.lens (by simp)
        have k4 := fewest_again hL hy.lens
        conv => whnf
        refine ⟨by simp, by omega, ?_⟩
        conv => whnf
        refine ⟨by simp, ?_⟩
        conv => whnf
        refine ⟨by omega, ?_⟩
        conv => whnf
        rw [w]
        refine ⟨⟨by omega, by omega⟩, ?_⟩
        conv => whnf
        refine nthM _ _ _ (by omega) ?_
        simp only [List.getElem_concat_length]
        conv => whnf
        refine ⟨rfl, by decide, rfl, by omega, ?_⟩
        conv => whnf
        rw [again_L q a ((q ++ [a])[((q.length : Int)).toNat]'(by omega)) (by simp)]
        refine ⟨by first | rfl | simp only [List.all_cons, List.all_nil, pu0, pub, pu1, pu2, pu1', pu2', pun, puf, puP, puP', puQ, puQ', Bool.and_true, Bool.and_self], _, fewest49_ok _ hy, ?_⟩
        conv => whnf
        rw [decide_eq_true k3]
        conv => whnf
        rw [w]
        refine ⟨⟨by omega, by omega⟩, ?_⟩
        conv => whnf
        refine nthM _ _ _ (by omega) ?_
        conv => whnf
        rw [eL, wrapI (fewestOf (q ++ [a]) + (a.length : Int)) (by omega) (by omega), wrapI _ (by omega) (by omega), decide_eq_true k4]
        conv => whnf
        refine ⟨by first | rfl | simp only [List.all_cons, List.all_nil, pu0, pub, pu1, pu2, pu1', pu2', pun, puf, puP, puP', puQ, puQ', Bool.and_true, Bool.and_self], _, hw, ?_⟩
        conv => whnf
        exact ret_pure (.inr rfl) rfl rfl
end Go.Proofs.Ytlcebaejlnpdeaa.Ab

/-
  Closed calls of the layer: those of the map of meetings.
-/
namespace Go.Proofs.Ytlcebaejlnpdeaa.Ab
open Go

theorem meets_pure (rows : List (List Int)) (j i : Nat) (k v : AV) (h : (meets rows)[j]? = some (i, k, v)) : pureD 8 k = true ∧ pureD 8 v = true := by
  have := List.mem_of_getElem? h
  unfold meets at this
  obtain ⟨q, _, e⟩ := List.mem_map.1 this
  simp only [entOf, Prod.mk.injEq] at e
  obtain ⟨_, rfl, rfl⟩ := e
  exact ⟨rfl, rfl⟩

def meetE (rows : List (List Int)) : Ent := .map 63 [L2 rows] (meets rows) (places rows 0).length
theorem meetE_ok (rows : List (List Int)) (hl : rows.length ≤ 1000) (hr : ∀ r ∈ rows, r.length ≤ 1000) (hn : (places rows 0).Nodup) : entOk Go.Proofs.Try.prog (meetE rows) := fun H =>
  sem_map (by simp only [List.all_cons, List.all_nil, Bool.and_true]; exact pure_L2 5 rows) (meets_pure rows) (meetings_ok rows hl hr hn) H

def meetL : List Ent := [meetE [[2, 5], [5]], meetE [[2, 7], [5]], meetE [[5], [5], [4]], meetE [[5], [5]], meetE [[5], [4]]]
theorem meetL_ok : ∀ e ∈ meetL, entOk Go.Proofs.Try.prog e := by
  intro e he
  simp only [meetL, List.mem_cons, List.not_mem_nil, or_false] at he
  rcases he with rfl | rfl | rfl | rfl | rfl
  · exact meetE_ok _ (by decide) (by decide) (by decide)
  · exact meetE_ok _ (by decide) (by decide) (by decide)
  · exact meetE_ok _ (by decide) (by decide) (by decide)
  · exact meetE_ok _ (by decide) (by decide) (by decide)
  · exact meetE_ok _ (by decide) (by decide) (by decide)
end Go.Proofs.Ytlcebaejlnpdeaa.Ab

/- MADE BY PROGRAM (closed.py): closed calls. -/
namespace Go.Proofs.Ytlcebaejlnpdeaa.Ab
open Go
def e0 : Ent := .pure 21 [.agg [.lst [.lst [.int .i64 2, .int .i64 3, .int .i64 5] 3 .shared, .lst [.int .i64 5, .int .i64 5] 2 .shared] 2 .shared], .lst [.lst [.int .i64 0, .int .i64 1, .int .i64 2] 3 .shared, .lst [.int .i64 0, .int .i64 1] 2 .shared] 2 .shared] (.tuple [.int .i64 1, .int .i64 0])
theorem e0_ok : entOk Go.Proofs.Try.prog e0 := runC_ok meetL_ok (by kernel_rfl)
def e1 : Ent := .pure 21 [.agg [.lst [.lst [.int .i64 2, .int .i64 3, .int .i64 5] 3 .shared, .lst [.int .i64 5, .int .i64 5] 2 .shared] 2 .shared], .lst [.lst [.int .i64 0, .int .i64 2, .int .i64 1] 3 .shared, .lst [.int .i64 1, .int .i64 0] 2 .shared] 2 .shared] (.tuple [.int .i64 0, .int .i64 0])
theorem e1_ok : entOk Go.Proofs.Try.prog e1 := runC_ok meetL_ok (by kernel_rfl)
def e2 : Ent := .pure 21 [.agg [.lst [.lst [.int .i64 2, .int .i64 3, .int .i64 5] 3 .shared, .lst [.int .i64 5, .int .i64 5] 2 .shared] 2 .shared], .lst [.lst [.int .i64 0, .int .i64 1, .int .i64 2] 3 .shared] 1 .shared] (.tuple [.int .i64 0, .int .i64 15])
theorem e2_ok : entOk Go.Proofs.Try.prog e2 := runC_ok meetL_ok (by kernel_rfl)
def e3 : Ent := .pure 21 [.agg [.lst [.lst [.int .i64 2, .int .i64 3, .int .i64 5] 3 .shared, .lst [.int .i64 5, .int .i64 5] 2 .shared] 2 .shared], .lst [.lst [.int .i64 0, .int .i64 1, .int .i64 1] 3 .shared, .lst [.int .i64 0, .int .i64 1] 2 .shared] 2 .shared] (.tuple [.int .i64 0, .int .i64 16])
theorem e3_ok : entOk Go.Proofs.Try.prog e3 := runC_ok meetL_ok (by kernel_rfl)
def e4 : Ent := .pure 23 [.agg [.lst [.lst [.int .i64 2, .int .i64 3, .int .i64 5] 3 .shared, .lst [.int .i64 5, .int .i64 5] 2 .shared] 2 .shared], .lst [.lst [.int .i64 0, .int .i64 1, .int .i64 2] 3 .shared, .lst [.int .i64 0, .int .i64 1] 2 .shared] 2 .shared] (.tuple [.lst [.lst [.int .i64 2, .int .i64 5] 2 .shared, .lst [.int .i64 5] 1 .shared] 2 .shared, .int .i64 0])
theorem e4_ok : entOk Go.Proofs.Try.prog e4 := runC_ok meetL_ok (by kernel_rfl)
def e6 : Ent := .pure 28 [.agg [.lst [.lst [.int .i64 2, .int .i64 3, .int .i64 5] 3 .shared, .lst [.int .i64 5, .int .i64 5] 2 .shared] 2 .shared], .lst [.lst [.int .i64 0, .int .i64 1, .int .i64 2] 3 .shared, .lst [.int .i64 0, .int .i64 1] 2 .shared] 2 .shared] (.tuple [.lst [.int .i64 5] 1 .shared, .int .i64 0])
theorem e6_ok : entOk Go.Proofs.Try.prog e6 := runC_ok meetL_ok (by kernel_rfl)
def e7 : Ent := .pure 30 [.agg [.lst [.lst [.int .i64 2, .int .i64 3, .int .i64 5] 3 .shared, .lst [.int .i64 5, .int .i64 5] 2 .shared] 2 .shared], .lst [.lst [.int .i64 0, .int .i64 2, .int .i64 1] 3 .shared, .lst [.int .i64 0, .int .i64 1] 2 .shared] 2 .shared] (.tuple [.int .i64 2, .int .i64 0])
theorem e7_ok : entOk Go.Proofs.Try.prog e7 := runC_ok meetL_ok (by kernel_rfl)
def e8 : Ent := .pure 33 [.agg [.lst [.lst [.int .i64 5, .int .i64 5] 2 .shared, .lst [.int .i64 5, .int .i64 5] 2 .shared, .lst [.int .i64 4, .int .i64 6] 2 .shared] 3 .shared]] (.tuple [.int .i64 1, .int .i64 0])
theorem e8_ok : entOk Go.Proofs.Try.prog e8 := runC_ok meetL_ok (by kernel_rfl)
def e9 : Ent := .pure 35 [.agg [.lst [.lst [.int .i64 2, .int .i64 3, .int .i64 5] 3 .shared, .lst [.int .i64 5, .int .i64 5] 2 .shared] 2 .shared]] (.tuple [.lst [.lst [.int .i64 0, .int .i64 2, .int .i64 1] 3 .shared, .lst [.int .i64 0, .int .i64 1] 2 .shared] 2 .shared, .int .i64 0])
theorem e9_ok : entOk Go.Proofs.Try.prog e9 := runC_ok meetL_ok (by kernel_rfl)
end Go.Proofs.Ytlcebaejlnpdeaa.Ab

/- MADE BY PROGRAM (closed.py): closed calls. -/
namespace Go.Proofs.Ytlcebaejlnpdeaa.Ab
open Go
def e10 : Ent := .pure 37 [.agg [.lst [.lst [.int .i64 5, .int .i64 5] 2 .shared, .lst [.int .i64 5, .int .i64 5] 2 .shared, .lst [.int .i64 4, .int .i64 6] 2 .shared] 3 .shared], .int .i64 0] (.tuple [.int .i64 1, .int .i64 0])
theorem e10_ok : entOk Go.Proofs.Try.prog e10 := runC_ok meetL_ok (by kernel_rfl)
def e11 : Ent := .pure 37 [.agg [.lst [.lst [.int .i64 5, .int .i64 5] 2 .shared, .lst [.int .i64 5, .int .i64 5] 2 .shared, .lst [.int .i64 4, .int .i64 6] 2 .shared] 3 .shared], .int .i64 2] (.tuple [.int .i64 0, .int .i64 2])
theorem e11_ok : entOk Go.Proofs.Try.prog e11 := runC_ok meetL_ok (by kernel_rfl)
def e12 : Ent := .pure 40 [.agg [.lst [.lst [.int .i64 2, .int .i64 3, .int .i64 5] 3 .shared, .lst [.int .i64 5, .int .i64 5] 2 .shared] 2 .shared], .int .i64 0] (.tuple [.lst [.int .i64 2, .int .i64 3, .int .i64 5, .int .i64 7, .int .i64 8] 5 .full, .int .i64 0])
theorem e12_ok : entOk Go.Proofs.Try.prog e12 := runC_ok meetL_ok (by kernel_rfl)
def e13 : Ent := .pure 42 [.agg [.lst [.lst [.int .i64 2, .int .i64 3, .int .i64 5] 3 .shared, .lst [.int .i64 5, .int .i64 5] 2 .shared] 2 .shared], .int .i64 1] (.tuple [.lst [.int .i64 5] 1 .shared, .int .i64 0])
theorem e13_ok : entOk Go.Proofs.Try.prog e13 := runC_ok meetL_ok (by kernel_rfl)
def e14 : Ent := .pure 42 [.agg [.lst [.lst [.int .i64 2, .int .i64 3, .int .i64 5] 3 .shared, .lst [.int .i64 5, .int .i64 5] 2 .shared] 2 .shared], .int .i64 2] (.tuple [.lst [] 0 .shared, .int .i64 2])
theorem e14_ok : entOk Go.Proofs.Try.prog e14 := runC_ok meetL_ok (by kernel_rfl)
end Go.Proofs.Ytlcebaejlnpdeaa.Ab

/- MADE BY PROGRAM (closed.py): closed calls. -/
namespace Go.Proofs.Ytlcebaejlnpdeaa.Ab
open Go
def e15 : Ent := .pure 44 [.agg [.lst [.lst [.int .i64 2, .int .i64 3, .int .i64 5] 3 .shared, .lst [.int .i64 5, .int .i64 5] 2 .shared] 2 .shared]] (.tuple [.int .i64 2, .int .i64 0])
theorem e15_ok : entOk Go.Proofs.Try.prog e15 := runC_ok meetL_ok (by kernel_rfl)
def e16 : Ent := .pure 46 [.agg [.lst [.lst [.int .i64 2, .int .i64 3, .int .i64 5] 3 .shared, .lst [.int .i64 5, .int .i64 5] 2 .shared] 2 .shared], .int .i64 2] (.tuple [.lst [.lst [.int .i64 0, .int .i64 2, .int .i64 1] 3 .shared, .lst [.int .i64 0, .int .i64 1] 2 .shared] 2 .shared, .int .i64 0])
theorem e16_ok : entOk Go.Proofs.Try.prog e16 := runC_ok meetL_ok (by kernel_rfl)
def e17 : Ent := .pure 46 [.agg [.lst [.lst [.int .i64 2, .int .i64 3, .int .i64 5] 3 .shared, .lst [.int .i64 5, .int .i64 5] 2 .shared] 2 .shared], .int .i64 3] (.tuple [.lst [] 0 .shared, .int .i64 21])
theorem e17_ok : entOk Go.Proofs.Try.prog e17 := runC_ok meetL_ok (by kernel_rfl)
def e18 : Ent := .pure 46 [.agg [.lst [.lst [.int .i64 2, .int .i64 3, .int .i64 5] 3 .shared, .lst [.int .i64 5, .int .i64 5] 2 .shared] 2 .shared], .int .i64 (-1)] (.tuple [.lst [] 0 .shared, .int .i64 3])
theorem e18_ok : entOk Go.Proofs.Try.prog e18 := runC_ok meetL_ok (by kernel_rfl)
end Go.Proofs.Ytlcebaejlnpdeaa.Ab

/-
  Works: a closed call.
-/
namespace Go.Proofs.Ytlcebaejlnpdeaa.Ab
open Go

def worksL : List Ent := [e0, e1, e2, e3, e4, e6, e7, e8, e9, e10, e11, e12, e13, e14, e15, e16, e17, e18]
theorem worksL_ok : ∀ e ∈ worksL, entOk Go.Proofs.Try.prog e := by
  simp only [worksL, List.forall_mem_cons]
  exact ⟨e0_ok, e1_ok, e2_ok, e3_ok, e4_ok, e6_ok, e7_ok, e8_ok, e9_ok, e10_ok, e11_ok, e12_ok, e13_ok, e14_ok, e15_ok, e16_ok, e17_ok, e18_ok, by simp⟩
theorem works_ok : PO 20 [] (B true) := runC_ok worksL_ok (by kernel_rfl)
end Go.Proofs.Ytlcebaejlnpdeaa.Ab
