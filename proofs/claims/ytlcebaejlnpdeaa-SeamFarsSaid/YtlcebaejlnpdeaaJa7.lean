/-
  Contracts: SeamPanels, SeamThroughs.
-/
import Derived.Test.YtlcebaejlnpdeaaJa5
import Derived.Test.YtlcebaejlnpdeaaJa6
import Derived.Test.YtlcebaejlnpdeaaJa3
import Derived.KernelRfl
set_option linter.unusedSimpArgs false
set_option linter.unusedVariables false
set_option linter.unusedSectionVars false
namespace Go.Proofs.Ytlcebaejlnpdeaa.Ab
open Go
set_option maxRecDepth 20000

theorem big_fit {p o : List (List Int)} (h1 : big p = false) (h2 : big o = false) : Fit p o := by
  obtain ⟨a1, a2⟩ := big_false.1 h1
  obtain ⟨b1, b2⟩ := big_false.1 h2
  exact ⟨by omega, fun l hl => by have := a2 l hl; omega, by omega, fun l hl => by have := b2 l hl; omega⟩


theorem seamsE_fit {p o : List (List Int)} : (seamsE p o).length ≤ 4 ∧ ∀ r ∈ seamsE p o, r.length ≤ 4 := by
  unfold seamsE
  split
  · rename_i h
    obtain ⟨hv, ho⟩ := ordErr_zero.1 h
    exact ⟨by rw [seamsBy_length ho]; exact hv.n4, fun r hr => (seamsBy_pos hv ho r hr).2⟩
  · simp
theorem thruOf_fit {p o : List (List Int)} : (thruOf p o).length ≤ 4 := by
  unfold thruOf
  split
  · rename_i h
    obtain ⟨hv, ho⟩ := ordErr_zero.1 h
    unfold thru
    refine Nat.le_trans (List.length_filter_le _ _) ?_
    have hl := seamsBy_length ho
    have h2 := hv.n2
    have h0 : 0 < (seamsBy p o).length := by omega
    rw [headD0 _ h0]
    exact (seamsBy_pos hv ho _ (List.getElem_mem h0)).2
  · simp
/-- Works is true. -/
abbrev WK : Prop := PO 20 [] (B true)
theorem seamPanels_ok (hw : WK) (p o : List (List Int)) (hp : Fl2 p) (ho : Fl2 o) : PO 3 [P1 p, L2 o] (B true) := by
  have hp1 := hp.n
  have ho1 := ho.n
  refine fn_pure hmix lk3 rfl rfl ?_
  unfold rc3
  conv => whnf
  refine ⟨by first | rfl | simp only [List.all_cons, List.all_nil, pu0, pub, pu1, pu2, pu1', pu2', pun, puf, puP, puP', puQ, puQ', Bool.and_true, Bool.and_self], _, great_ok p hp1, ?_⟩
  conv => whnf
  cases h1 : big p with
  | true =>
    conv => whnf
    refine ⟨by first | rfl | simp only [List.all_cons, List.all_nil, pu0, pub, pu1, pu2, pu1', pu2', pun, puf, puP, puP', puQ, puQ', Bool.and_true, Bool.and_self], _, hw, ?_⟩
    conv => whnf
    exact ret_pure (.inr rfl) rfl rfl
  | false =>
    conv => whnf
    refine ⟨by first | rfl | simp only [List.all_cons, List.all_nil, pu0, pub, pu1, pu2, pu1', pu2', pun, puf, puP, puP', puQ, puQ', Bool.and_true, Bool.and_self], _, wide_ok o ho1, ?_⟩
    conv => whnf
    cases h2 : big o with
    | true =>
      conv => whnf
      refine ⟨by first | rfl | simp only [List.all_cons, List.all_nil, pu0, pub, pu1, pu2, pu1', pu2', pun, puf, puP, puP', puQ, puQ', Bool.and_true, Bool.and_self], _, hw, ?_⟩
      conv => whnf
      exact ret_pure (.inr rfl) rfl rfl
    | false =>
      have hf := big_fit h1 h2
      conv => whnf
      refine ⟨by first | rfl | simp only [List.all_cons, List.all_nil, pu0, pub, pu1, pu2, pu1', pu2', pun, puf, puP, puP', puQ, puQ', Bool.and_true, Bool.and_self], _, pmeet_ok p o hf, ?_⟩
      conv => whnf
      refine ⟨by first | rfl | simp only [List.all_cons, List.all_nil, pu0, pub, pu1, pu2, pu1', pu2', pun, puf, puP, puP', puQ, puQ', Bool.and_true, Bool.and_self], _, rmeet_ok p o hf, ?_⟩
      conv => whnf
      refine ⟨by first | rfl | simp only [List.all_cons, List.all_nil, pu0, pub, pu1, pu2, pu1', pu2', pun, puf, puP, puP', puQ, puQ', Bool.and_true, Bool.and_self], _, pSeams_ok p o hf, ?_⟩
      conv => whnf
      refine ⟨by first | rfl | simp only [List.all_cons, List.all_nil, pu0, pub, pu1, pu2, pu1', pu2', pun, puf, puP, puP', puQ, puQ', Bool.and_true, Bool.and_self], _, rseams_ok p o hf, ?_⟩
      conv => whnf
      refine ⟨by first | rfl | simp only [List.all_cons, List.all_nil, pu0, pub, pu1, pu2, pu1', pu2', pun, puf, puP, puP', puQ, puQ', Bool.and_true, Bool.and_self], _, checkPanel_ok p hf.p1 hf.p2, acc0, ?_⟩
      conv => whnf
      refine ⟨by first | rfl | simp only [List.all_cons, List.all_nil, pu0, pub, pu1, pu2, pu1', pu2', pun, puf, puP, puP', puQ, puQ', Bool.and_true, Bool.and_self], _, rcheck_ok p hf.p1 hf.p2, accN rfl, ?_⟩
      conv => whnf
      rw [deqr]
      conv => whnf
      rw [deqr]
      conv => whnf
      rw [deqr]
      conv => whnf
      obtain ⟨q1, q2⟩ := seamsE_fit (p := p) (o := o)
      refine ⟨by first | rfl | simp only [List.all_cons, List.all_nil, pu0, pub, pu1, pu2, pu1', pu2', pun, puf, puP, puP', puQ, puQ', Bool.and_true, Bool.and_self], _, all_ok (seamsE p o) (seamsE p o) (by omega) fun l hl => by have := q2 l hl; omega, accN rfl, ?_⟩
      conv => whnf
      rw [deqr]
      conv => whnf
      rw [deqr]
      conv => whnf
      refine ⟨by first | rfl | simp only [List.all_cons, List.all_nil, pu0, pub, pu1, pu2, pu1', pu2', pun, puf, puP, puP', puQ, puQ', Bool.and_true, Bool.and_self], _, hw, accN rfl, ?_⟩
      conv => whnf
      exact ret_pure (.inr rfl) rfl rfl
theorem seamThroughs_ok (hw : WK) (p o : List (List Int)) (hp : Fl2 p) (ho : Fl2 o) : PO 4 [P1 p, L2 o] (B true) := by
  have hp1 := hp.n
  have ho1 := ho.n
  refine fn_pure hmix lk4 rfl rfl ?_
  unfold rc4
  conv => whnf
  refine ⟨by first | rfl | simp only [List.all_cons, List.all_nil, pu0, pub, pu1, pu2, pu1', pu2', pun, puf, puP, puP', puQ, puQ', Bool.and_true, Bool.and_self], _, great_ok p hp1, ?_⟩
  conv => whnf
  cases h1 : big p with
  | true =>
    conv => whnf
    refine ⟨by first | rfl | simp only [List.all_cons, List.all_nil, pu0, pub, pu1, pu2, pu1', pu2', pun, puf, puP, puP', puQ, puQ', Bool.and_true, Bool.and_self], _, hw, ?_⟩
    conv => whnf
    exact ret_pure (.inr rfl) rfl rfl
  | false =>
    conv => whnf
    refine ⟨by first | rfl | simp only [List.all_cons, List.all_nil, pu0, pub, pu1, pu2, pu1', pu2', pun, puf, puP, puP', puQ, puQ', Bool.and_true, Bool.and_self], _, wide_ok o ho1, ?_⟩
    conv => whnf
    cases h2 : big o with
    | true =>
      conv => whnf
      refine ⟨by first | rfl | simp only [List.all_cons, List.all_nil, pu0, pub, pu1, pu2, pu1', pu2', pun, puf, puP, puP', puQ, puQ', Bool.and_true, Bool.and_self], _, hw, ?_⟩
      conv => whnf
      exact ret_pure (.inr rfl) rfl rfl
    | false =>
      have hf := big_fit h1 h2
      have q := thruOf_fit (p := p) (o := o)
      conv => whnf
      refine ⟨by first | rfl | simp only [List.all_cons, List.all_nil, pu0, pub, pu1, pu2, pu1', pu2', pun, puf, puP, puP', puQ, puQ', Bool.and_true, Bool.and_self], _, pthrough_ok p o hf, ?_⟩
      conv => whnf
      refine ⟨by first | rfl | simp only [List.all_cons, List.all_nil, pu0, pub, pu1, pu2, pu1', pu2', pun, puf, puP, puP', puQ, puQ', Bool.and_true, Bool.and_self], _, rthrough_ok p o hf, ?_⟩
      conv => whnf
      refine ⟨by first | rfl | simp only [List.all_cons, List.all_nil, pu0, pub, pu1, pu2, pu1', pu2', pun, puf, puP, puP', puQ, puQ', Bool.and_true, Bool.and_self], _, pdist_ok p o hf, ?_⟩
      conv => whnf
      refine ⟨by first | rfl | simp only [List.all_cons, List.all_nil, pu0, pub, pu1, pu2, pu1', pu2', pun, puf, puP, puP', puQ, puQ', Bool.and_true, Bool.and_self], _, rdist_ok p o hf, ?_⟩
      conv => whnf
      refine ⟨by first | rfl | simp only [List.all_cons, List.all_nil, pu0, pub, pu1, pu2, pu1', pu2', pun, puf, puP, puP', puQ, puQ', Bool.and_true, Bool.and_self], _, longs_ok (thruOf p o) (thruOf p o) (by omega), ?_⟩
      conv => whnf
      rw [deqr]
      conv => whnf
      rw [deqr]
      conv => whnf
      rw [deqr]
      conv => whnf
      rw [deqr]
      conv => whnf
      refine ⟨by first | rfl | simp only [List.all_cons, List.all_nil, pu0, pub, pu1, pu2, pu1', pu2', pun, puf, puP, puP', puQ, puQ', Bool.and_true, Bool.and_self], _, hw, ?_⟩
      conv => whnf
      exact ret_pure (.inr rfl) rfl rfl
end Go.Proofs.Ytlcebaejlnpdeaa.Ab

/-
  Contracts: the definitions' Far, ApartError; SeamFars.
-/
namespace Go.Proofs.Ytlcebaejlnpdeaa.Ab
open Go
set_option maxRecDepth 20000
set_option maxHeartbeats 4000000

theorem rFar_ok (p : List (List Int)) (h1 : p.length ≤ 140737488355328) (h2 : ∀ l ∈ p, l.length ≤ 140737488355328) : PO 45 [P1 p] (.tuple [I (farE p), I (checkP p)]) := by
  refine fn_pure hmix lk45 rfl rfl ?_
  unfold rc45
  conv => whnf
  refine ⟨by first | rfl | simp only [List.all_cons, List.all_nil, pu0, pub, pu1, pu2, pu1', pu2', pun, puf, puP, puP', puQ, puQ', Bool.and_true, Bool.and_self], _, rcheck_ok p h1 h2, ?_⟩
  conv => whnf
  refine dcase (fun h => ?_) (fun h => ?_)
  · conv => whnf
    refine ⟨by first | rfl | simp only [List.all_cons, List.all_nil, pu0, pub, pu1, pu2, pu1', pu2', pun, puf, puP, puP', puQ, puQ', Bool.and_true, Bool.and_self], _, rcheck_ok p h1 h2, ?_⟩
    conv => whnf
    exact ret_pure (.inr rfl) rfl (by rw [show farE p = 0 from if_neg h]; rfl)
  · have h := Classical.not_not.1 h
    have hv := checkP_val h
    conv => whnf
    refine ⟨by first | rfl | simp only [List.all_cons, List.all_nil, pu0, pub, pu1, pu2, pu1', pu2', pun, puf, puP, puP', puQ, puQ', Bool.and_true, Bool.and_self], _, rfarOf_ok p hv, ?_⟩
    conv => whnf
    exact ret_pure (.inr rfl) rfl (by rw [show farE p = (farB p).d from if_pos h, h, far_eq hv]; rfl)
theorem rApErr_ok (p : List (List Int)) (x : Int) (h1 : p.length ≤ 140737488355328) (h2 : ∀ l ∈ p, l.length ≤ 140737488355328) : PO 47 [P1 p, I x] (I (apErr p x)) := by
  refine fn_pure hmix lk47 rfl rfl ?_
  unfold rc47
  conv => whnf
  refine ⟨by first | rfl | simp only [List.all_cons, List.all_nil, pu0, pub, pu1, pu2, pu1', pu2', pun, puf, puP, puP', puQ, puQ', Bool.and_true, Bool.and_self], _, rcheck_ok p h1 h2, ?_⟩
  conv => whnf
  refine dcase (fun h => ?_) (fun h => ?_)
  · have e : apErr p x = checkP p := if_pos h
    rw [e]
    conv => whnf
    refine ⟨by first | rfl | simp only [List.all_cons, List.all_nil, pu0, pub, pu1, pu2, pu1', pu2', pun, puf, puP, puP', puQ, puQ', Bool.and_true, Bool.and_self], _, rcheck_ok p h1 h2, ?_⟩
    conv => whnf
    exact ret_pure (.inr rfl) rfl rfl
  · have h := Classical.not_not.1 h
    have hv := checkP_val h
    conv => whnf
    refine dcase (fun h3 => ?_) (fun h3 => ?_)
    · have e : apErr p x = 3 := by rw [apErr, if_neg (by simp [h]), if_pos h3]
      rw [e]
      conv => whnf
      exact ret_pure (.inr rfl) rfl rfl
    · conv => whnf
      refine ⟨by first | rfl | simp only [List.all_cons, List.all_nil, pu0, pub, pu1, pu2, pu1', pu2', pun, puf, puP, puP', puQ, puQ', Bool.and_true, Bool.and_self], _, rfarOf_ok p hv, ?_⟩
      conv => whnf
      rw [far_eq hv]
      refine dcase (fun h5 => ?_) (fun h5 => ?_)
      · have e : apErr p x = 21 := by rw [apErr, if_neg (by simp [h]), if_neg h3, if_pos h5]
        rw [e]
        conv => whnf
        exact ret_pure (.inr rfl) rfl rfl
      · have e : apErr p x = 0 := by rw [apErr, if_neg (by simp [h]), if_neg h3, if_neg h5]
        rw [e]
        conv => whnf
        exact ret_pure (.inr rfl) rfl rfl
theorem farB_fit {p : List (List Int)} (hv : Val p) : (farB p).o.length ≤ 4 ∧ ∀ r ∈ (farB p).o, r.length ≤ 5 := by
  obtain ⟨ho, _⟩ := farB_dist hv
  refine ⟨by rw [ho.len]; exact hv.n4, fun r hr => ?_⟩
  obtain ⟨i, hi, rfl⟩ := List.mem_iff_getElem.1 hr
  have h2 : i < p.length := by have := ho.len; omega
  rw [(isOrd_iff.1 (ho.ord i hi h2)).1]
  exact hv.s5 _ (List.getElem_mem h2)
theorem dneq {α : Type} [DecidableEq α] (a : α) : decide (a ≠ a) = false := decide_eq_false (by simp)
theorem seamFars_ok (hw : WK) (p : List (List Int)) (x : Int) (hp : Fl2 p) (_hx : Fi x) : PO 7 [P1 p, I x] (B true) := by
  have hp1 := hp.n
  refine fn_pure hmix lk7 rfl rfl ?_
  unfold rc7
  conv => whnf
  refine ⟨by first | rfl | simp only [List.all_cons, List.all_nil, pu0, pub, pu1, pu2, pu1', pu2', pun, puf, puP, puP', puQ, puQ', Bool.and_true, Bool.and_self], _, great_ok p hp1, ?_⟩
  conv => whnf
  cases h1 : big p with
  | true =>
    conv => whnf
    refine ⟨by first | rfl | simp only [List.all_cons, List.all_nil, pu0, pub, pu1, pu2, pu1', pu2', pun, puf, puP, puP', puQ, puQ', Bool.and_true, Bool.and_self], _, hw, ?_⟩
    conv => whnf
    exact ret_pure (.inr rfl) rfl rfl
  | false =>
    obtain ⟨a1, a2⟩ := big_false.1 h1
    have f1 : p.length ≤ 140737488355328 := by omega
    have f2 : ∀ l ∈ p, l.length ≤ 140737488355328 := fun l hl => by have := a2 l hl; omega
    conv => whnf
    refine ⟨by first | rfl | simp only [List.all_cons, List.all_nil, pu0, pub, pu1, pu2, pu1', pu2', pun, puf, puP, puP', puQ, puQ', Bool.and_true, Bool.and_self], _, pFar_ok p f1 f2, ?_⟩
    conv => whnf
    refine ⟨by first | rfl | simp only [List.all_cons, List.all_nil, pu0, pub, pu1, pu2, pu1', pu2', pun, puf, puP, puP', puQ, puQ', Bool.and_true, Bool.and_self], _, rFar_ok p f1 f2, ?_⟩
    conv => whnf
    refine ⟨by first | rfl | simp only [List.all_cons, List.all_nil, pu0, pub, pu1, pu2, pu1', pu2', pun, puf, puP, puP', puQ, puQ', Bool.and_true, Bool.and_self], _, pApart_ok p x f1 f2, ?_⟩
    conv => whnf
    refine ⟨by first | rfl | simp only [List.all_cons, List.all_nil, pu0, pub, pu1, pu2, pu1', pu2', pun, puf, puP, puP', puQ, puQ', Bool.and_true, Bool.and_self], _, rApErr_ok p x f1 f2, ?_⟩
    conv => whnf
    rw [dneq]
    conv => whnf
    rw [dneq]
    conv => whnf
    rw [dneq]
    conv => whnf
    refine dcase (fun h => ?_) (fun h => ?_)
    · have e : apO p x = [] := if_neg h
      rw [e]
      conv => whnf
      refine ⟨by first | rfl | simp only [List.all_cons, List.all_nil, pu0, pub, pu1, pu2, pu1', pu2', pun, puf, puP, puP', puQ, puQ', Bool.and_true, Bool.and_self], _, hw, ?_⟩
      conv => whnf
      exact ret_pure (.inr rfl) rfl rfl
    · have h := Classical.not_not.1 h
      have hc : checkP p = 0 := by
        refine Classical.byContradiction fun hc => ?_
        rw [show apErr p x = checkP p from if_pos hc] at h
        exact hc h
      have hv := checkP_val hc
      have hx : 0 ≤ x ∧ x ≤ (farB p).d := by
        rw [apErr, if_neg (by simp [hc])] at h
        split at h
        · cases h
        · split at h
          · cases h
          · omega
      have e : apO p x = (farB p).o := if_pos h
      obtain ⟨ho, hd⟩ := farB_dist hv
      obtain ⟨q1, q2⟩ := farB_fit hv
      have hbig : big (farB p).o = false := big_false.2 ⟨by omega, fun l hl => by have := q2 l hl; omega⟩
      have hoe : ordErr p (farB p).o = 0 := ordErr_zero.2 ⟨hv, ho⟩
      have hdo : distOf p (farB p).o = (farB p).d := by rw [distOf, if_pos hoe]; exact hd
      rw [e]
      conv => whnf
      refine ⟨by first | rfl | simp only [List.all_cons, List.all_nil, pu0, pub, pu1, pu2, pu1', pu2', pun, puf, puP, puP', puQ, puQ', Bool.and_true, Bool.and_self], _, wide_ok (farB p).o (by omega), ?_⟩
      conv => whnf
      rw [hbig]
      conv => whnf
      refine ⟨by first | rfl | simp only [List.all_cons, List.all_nil, pu0, pub, pu1, pu2, pu1', pu2', pun, puf, puP, puP', puQ, puQ', Bool.and_true, Bool.and_self], _, rdist_ok p (farB p).o ⟨f1, f2, by omega, fun l hl => by have := q2 l hl; omega⟩, ?_⟩
      conv => whnf
      rw [hoe, hdo]
      conv => whnf
      rw [decide_eq_true hx.2]
      conv => whnf
      refine ⟨by first | rfl | simp only [List.all_cons, List.all_nil, pu0, pub, pu1, pu2, pu1', pu2', pun, puf, puP, puP', puQ, puQ', Bool.and_true, Bool.and_self], _, hw, ?_⟩
      conv => whnf
      exact ret_pure (.inr rfl) rfl rfl
end Go.Proofs.Ytlcebaejlnpdeaa.Ab

/-
  Closed calls of the layer: those of the map of meetings.
-/
namespace Go.Proofs.Ytlcebaejlnpdeaa.Ab
open Go

theorem meets_pure (rows : List (List Int)) (j i : Nat) (k v : AV) (h : (meets rows)[j]? = some (i, k, v)) : pureD 8 k = true ∧ pureD 8 v = true := by
  have := List.mem_of_getElem? h
  unfold meets at this
  obtain ⟨q, _, e⟩ := List.mem_map.1 this
  simp only [entOf, Prod.mk.injEq] at e
  obtain ⟨_, rfl, rfl⟩ := e
  exact ⟨rfl, rfl⟩

def meetE (rows : List (List Int)) : Ent := .map 63 [L2 rows] (meets rows) (places rows 0).length
theorem meetE_ok (rows : List (List Int)) (hl : rows.length ≤ 1000) (hr : ∀ r ∈ rows, r.length ≤ 1000) (hn : (places rows 0).Nodup) : entOk Go.Proofs.Try.prog (meetE rows) := fun H =>
  sem_map (by simp only [List.all_cons, List.all_nil, Bool.and_true]; exact pure_L2 5 rows) (meets_pure rows) (meetings_ok rows hl hr hn) H

def meetL : List Ent := [meetE [[2, 5], [5]], meetE [[2, 7], [5]], meetE [[5], [5], [4]], meetE [[5], [5]], meetE [[5], [4]]]
theorem meetL_ok : ∀ e ∈ meetL, entOk Go.Proofs.Try.prog e := by
  intro e he
  simp only [meetL, List.mem_cons, List.not_mem_nil, or_false] at he
  rcases he with rfl | rfl | rfl | rfl | rfl
  · exact meetE_ok _ (by decide) (by decide) (by decide)
  · exact meetE_ok _ (by decide) (by decide) (by decide)
  · exact meetE_ok _ (by decide) (by decide) (by decide)
  · exact meetE_ok _ (by decide) (by decide) (by decide)
  · exact meetE_ok _ (by decide) (by decide) (by decide)
end Go.Proofs.Ytlcebaejlnpdeaa.Ab

/- MADE BY PROGRAM (closed.py): closed calls. -/
namespace Go.Proofs.Ytlcebaejlnpdeaa.Ab
open Go
def e0 : Ent := .pure 21 [.agg [.lst [.lst [.int .i64 2, .int .i64 3, .int .i64 5] 3 .shared, .lst [.int .i64 5, .int .i64 5] 2 .shared] 2 .shared], .lst [.lst [.int .i64 0, .int .i64 1, .int .i64 2] 3 .shared, .lst [.int .i64 0, .int .i64 1] 2 .shared] 2 .shared] (.tuple [.int .i64 1, .int .i64 0])
theorem e0_ok : entOk Go.Proofs.Try.prog e0 := runC_ok meetL_ok (by kernel_rfl)
def e1 : Ent := .pure 21 [.agg [.lst [.lst [.int .i64 2, .int .i64 3, .int .i64 5] 3 .shared, .lst [.int .i64 5, .int .i64 5] 2 .shared] 2 .shared], .lst [.lst [.int .i64 0, .int .i64 2, .int .i64 1] 3 .shared, .lst [.int .i64 1, .int .i64 0] 2 .shared] 2 .shared] (.tuple [.int .i64 0, .int .i64 0])
theorem e1_ok : entOk Go.Proofs.Try.prog e1 := runC_ok meetL_ok (by kernel_rfl)
def e2 : Ent := .pure 21 [.agg [.lst [.lst [.int .i64 2, .int .i64 3, .int .i64 5] 3 .shared, .lst [.int .i64 5, .int .i64 5] 2 .shared] 2 .shared], .lst [.lst [.int .i64 0, .int .i64 1, .int .i64 2] 3 .shared] 1 .shared] (.tuple [.int .i64 0, .int .i64 15])
theorem e2_ok : entOk Go.Proofs.Try.prog e2 := runC_ok meetL_ok (by kernel_rfl)
def e3 : Ent := .pure 21 [.agg [.lst [.lst [.int .i64 2, .int .i64 3, .int .i64 5] 3 .shared, .lst [.int .i64 5, .int .i64 5] 2 .shared] 2 .shared], .lst [.lst [.int .i64 0, .int .i64 1, .int .i64 1] 3 .shared, .lst [.int .i64 0, .int .i64 1] 2 .shared] 2 .shared] (.tuple [.int .i64 0, .int .i64 16])
theorem e3_ok : entOk Go.Proofs.Try.prog e3 := runC_ok meetL_ok (by kernel_rfl)
def e4 : Ent := .pure 23 [.agg [.lst [.lst [.int .i64 2, .int .i64 3, .int .i64 5] 3 .shared, .lst [.int .i64 5, .int .i64 5] 2 .shared] 2 .shared], .lst [.lst [.int .i64 0, .int .i64 1, .int .i64 2] 3 .shared, .lst [.int .i64 0, .int .i64 1] 2 .shared] 2 .shared] (.tuple [.lst [.lst [.int .i64 2, .int .i64 5] 2 .shared, .lst [.int .i64 5] 1 .shared] 2 .shared, .int .i64 0])
theorem e4_ok : entOk Go.Proofs.Try.prog e4 := runC_ok meetL_ok (by kernel_rfl)
def e6 : Ent := .pure 28 [.agg [.lst [.lst [.int .i64 2, .int .i64 3, .int .i64 5] 3 .shared, .lst [.int .i64 5, .int .i64 5] 2 .shared] 2 .shared], .lst [.lst [.int .i64 0, .int .i64 1, .int .i64 2] 3 .shared, .lst [.int .i64 0, .int .i64 1] 2 .shared] 2 .shared] (.tuple [.lst [.int .i64 5] 1 .shared, .int .i64 0])
theorem e6_ok : entOk Go.Proofs.Try.prog e6 := runC_ok meetL_ok (by kernel_rfl)
def e7 : Ent := .pure 30 [.agg [.lst [.lst [.int .i64 2, .int .i64 3, .int .i64 5] 3 .shared, .lst [.int .i64 5, .int .i64 5] 2 .shared] 2 .shared], .lst [.lst [.int .i64 0, .int .i64 2, .int .i64 1] 3 .shared, .lst [.int .i64 0, .int .i64 1] 2 .shared] 2 .shared] (.tuple [.int .i64 2, .int .i64 0])
theorem e7_ok : entOk Go.Proofs.Try.prog e7 := runC_ok meetL_ok (by kernel_rfl)
def e8 : Ent := .pure 33 [.agg [.lst [.lst [.int .i64 5, .int .i64 5] 2 .shared, .lst [.int .i64 5, .int .i64 5] 2 .shared, .lst [.int .i64 4, .int .i64 6] 2 .shared] 3 .shared]] (.tuple [.int .i64 1, .int .i64 0])
theorem e8_ok : entOk Go.Proofs.Try.prog e8 := runC_ok meetL_ok (by kernel_rfl)
def e9 : Ent := .pure 35 [.agg [.lst [.lst [.int .i64 2, .int .i64 3, .int .i64 5] 3 .shared, .lst [.int .i64 5, .int .i64 5] 2 .shared] 2 .shared]] (.tuple [.lst [.lst [.int .i64 0, .int .i64 2, .int .i64 1] 3 .shared, .lst [.int .i64 0, .int .i64 1] 2 .shared] 2 .shared, .int .i64 0])
theorem e9_ok : entOk Go.Proofs.Try.prog e9 := runC_ok meetL_ok (by kernel_rfl)
end Go.Proofs.Ytlcebaejlnpdeaa.Ab

/- MADE BY PROGRAM (closed.py): closed calls. -/
namespace Go.Proofs.Ytlcebaejlnpdeaa.Ab
open Go
def e10 : Ent := .pure 37 [.agg [.lst [.lst [.int .i64 5, .int .i64 5] 2 .shared, .lst [.int .i64 5, .int .i64 5] 2 .shared, .lst [.int .i64 4, .int .i64 6] 2 .shared] 3 .shared], .int .i64 0] (.tuple [.int .i64 1, .int .i64 0])
theorem e10_ok : entOk Go.Proofs.Try.prog e10 := runC_ok meetL_ok (by kernel_rfl)
def e11 : Ent := .pure 37 [.agg [.lst [.lst [.int .i64 5, .int .i64 5] 2 .shared, .lst [.int .i64 5, .int .i64 5] 2 .shared, .lst [.int .i64 4, .int .i64 6] 2 .shared] 3 .shared], .int .i64 2] (.tuple [.int .i64 0, .int .i64 2])
theorem e11_ok : entOk Go.Proofs.Try.prog e11 := runC_ok meetL_ok (by kernel_rfl)
def e12 : Ent := .pure 40 [.agg [.lst [.lst [.int .i64 2, .int .i64 3, .int .i64 5] 3 .shared, .lst [.int .i64 5, .int .i64 5] 2 .shared] 2 .shared], .int .i64 0] (.tuple [.lst [.int .i64 2, .int .i64 3, .int .i64 5, .int .i64 7, .int .i64 8] 5 .full, .int .i64 0])
theorem e12_ok : entOk Go.Proofs.Try.prog e12 := runC_ok meetL_ok (by kernel_rfl)
def e13 : Ent := .pure 42 [.agg [.lst [.lst [.int .i64 2, .int .i64 3, .int .i64 5] 3 .shared, .lst [.int .i64 5, .int .i64 5] 2 .shared] 2 .shared], .int .i64 1] (.tuple [.lst [.int .i64 5] 1 .shared, .int .i64 0])
theorem e13_ok : entOk Go.Proofs.Try.prog e13 := runC_ok meetL_ok (by kernel_rfl)
def e14 : Ent := .pure 42 [.agg [.lst [.lst [.int .i64 2, .int .i64 3, .int .i64 5] 3 .shared, .lst [.int .i64 5, .int .i64 5] 2 .shared] 2 .shared], .int .i64 2] (.tuple [.lst [] 0 .shared, .int .i64 2])
theorem e14_ok : entOk Go.Proofs.Try.prog e14 := runC_ok meetL_ok (by kernel_rfl)
end Go.Proofs.Ytlcebaejlnpdeaa.Ab

/- MADE BY PROGRAM (closed.py): closed calls. -/
namespace Go.Proofs.Ytlcebaejlnpdeaa.Ab
open Go
def e15 : Ent := .pure 44 [.agg [.lst [.lst [.int .i64 2, .int .i64 3, .int .i64 5] 3 .shared, .lst [.int .i64 5, .int .i64 5] 2 .shared] 2 .shared]] (.tuple [.int .i64 2, .int .i64 0])
theorem e15_ok : entOk Go.Proofs.Try.prog e15 := runC_ok meetL_ok (by kernel_rfl)
def e16 : Ent := .pure 46 [.agg [.lst [.lst [.int .i64 2, .int .i64 3, .int .i64 5] 3 .shared, .lst [.int .i64 5, .int .i64 5] 2 .shared] 2 .shared], .int .i64 2] (.tuple [.lst [.lst [.int .i64 0, .int .i64 2, .int .i64 1] 3 .shared, .lst [.int .i64 0, .int .i64 1] 2 .shared] 2 .shared, .int .i64 0])
theorem e16_ok : entOk Go.Proofs.Try.prog e16 := runC_ok meetL_ok (by kernel_rfl)
def e17 : Ent := .pure 46 [.agg [.lst [.lst [.int .i64 2, .int .i64 3, .int .i64 5] 3 .shared, .lst [.int .i64 5, .int .i64 5] 2 .shared] 2 .shared], .int .i64 3] (.tuple [.lst [] 0 .shared, .int .i64 21])
theorem e17_ok : entOk Go.Proofs.Try.prog e17 := runC_ok meetL_ok (by kernel_rfl)
def e18 : Ent := .pure 46 [.agg [.lst [.lst [.int .i64 2, .int .i64 3, .int .i64 5] 3 .shared, .lst [.int .i64 5, .int .i64 5] 2 .shared] 2 .shared], .int .i64 (-1)] (.tuple [.lst [] 0 .shared, .int .i64 3])
theorem e18_ok : entOk Go.Proofs.Try.prog e18 := runC_ok meetL_ok (by kernel_rfl)
end Go.Proofs.Ytlcebaejlnpdeaa.Ab

/-
  Works: a closed call.
-/
namespace Go.Proofs.Ytlcebaejlnpdeaa.Ab
open Go

def worksL : List Ent := [e0, e1, e2, e3, e4, e6, e7, e8, e9, e10, e11, e12, e13, e14, e15, e16, e17, e18]
theorem worksL_ok : ∀ e ∈ worksL, entOk Go.Proofs.Try.prog e := by
  simp only [worksL, List.forall_mem_cons]
  exact ⟨e0_ok, e1_ok, e2_ok, e3_ok, e4_ok, e6_ok, e7_ok, e8_ok, e9_ok, e10_ok, e11_ok, e12_ok, e13_ok, e14_ok, e15_ok, e16_ok, e17_ok, e18_ok, by simp⟩
theorem works_ok : PO 20 [] (B true) := runC_ok worksL_ok (by kernel_rfl)
end Go.Proofs.Ytlcebaejlnpdeaa.Ab
