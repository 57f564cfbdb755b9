/-
  SeamTurned.
-/
import Derived.Test.YtlcebaejlnpdeaaJa5
import Derived.Test.YtlcebaejlnpdeaaJa3
import Derived.KernelRfl
set_option linter.unusedSimpArgs false
set_option linter.unusedVariables false
set_option linter.unusedSectionVars false
namespace Go.Proofs.Ytlcebaejlnpdeaa.Ab
open Go
set_option maxRecDepth 20000
set_option maxHeartbeats 4000000
theorem thru_turn (W : Int) (S : List (List Int)) : thru (S.map (turnL W)) = turnL W (thru S) := by
  unfold thru
  have e : (S.map (turnL W)).headD [] = turnL W (S.headD []) := by cases S <;> rfl
  rw [e]
  unfold turnL
  rw [List.filter_reverse, List.filter_map]
  congr 2
  apply List.filter_congr
  intro x _
  simp only [Function.comp, List.all_map]
  congr 1; funext r
  exact has_turn W r x
theorem dner {a : Int} {h : Decidable (a ≠ a)} : @decide (a ≠ a) h = false := decide_eq_false fun h => h rfl
theorem turnL_len (W : Int) (l : List Int) : (turnL W l).length = l.length := by simp [turnL]
theorem turnL_get {W : Int} {l : List Int} {k : Nat} (h : k < l.length) (h2 : ((l.length - 1 - k : Nat) : Int).toNat < (turnL W l).length) : (turnL W l)[((l.length - 1 - k : Nat) : Int).toNat] = W - l[k] := by
  simp only [turnL, List.getElem_reverse, List.getElem_map, List.length_map, Int.toNat_natCast]
  congr 2; omega
theorem rev_take {l : List Int} (k : Nat) (h : k < l.length) : l.reverse.take (k + 1) = l.reverse.take k ++ [l[((l.length : Int) - 1 - (k : Int)).toNat]'(by omega)] := by
  rw [List.take_succ_eq_append_getElem (by simp; omega), List.getElem_reverse]
  congr 3; omega
theorem back_ok (l : List Int) (hl : l.length ≤ 1000) : PO 55 [L1 l] (O1 l.reverse) := by
  refine fn_pure hmix lk55 rfl (pu1 _ _ _) ?_
  unfold rc55
  conv => whnf
  refine .intro (fun m T H => ∃ k : Nat, k ≤ l.length ∧ m = l.length - k ∧ T = slots 20 [(0, L1 l), (3, U1 (l.reverse.take k)), (4, I ((l.length : Int) - 1 - k))] ∧ H = []) l.length ⟨0, Nat.zero_le _, rfl, ?_, rfl⟩ ?_
  · rw [wrapI _ (by omega) (by omega), show (l.length : Int) - 1 - ((0 : Nat) : Int) = (l.length : Int) - 1 by omega]; rfl
  rintro m T H ⟨k, hk, rfl, rfl, rfl⟩
  conv => whnf
  refine dcase (fun h => ?_) (fun h => ?_)
  · have hlt : k < l.length := by omega
    have hr := rev_take k hlt
    have hkl : (l.reverse.take k).length = k := by simp; omega
    conv => whnf
    refine ⟨by omega, ?_⟩
    conv => whnf
    refine nthM _ _ _ (by omega) ?_
    conv => whnf
    refine ⟨rfl, by decide, rfl, by omega, ?_⟩
    conv => whnf
    refine ⟨l.length - (k + 1), by omega, k + 1, by omega, rfl, ?_, rfl⟩
    rw [wrapI _ (by omega) (by omega), hr, ← U1_snoc, show (l.length : Int) - 1 - (k : Int) - 1 = (l.length : Int) - 1 - ((k + 1 : Nat) : Int) by omega]; rfl
  · obtain rfl : k = l.length := by omega
    rw [List.take_of_length_le (by simp)]
    conv => whnf
    exact ret_own (.inr rfl) (pu1 _ _ _) (.inr rfl)
theorem seamTurned_ok (hw : WK) (p : List (List Int)) (y : List Int) (hp : Fl2 p) (hy : Fy y) : PO 12 [P1 p, Y1 y] (B true) := by
  refine fn_pure hmix lk12 rfl rfl ?_
  unfold rc12
  conv => whnf
  refine ⟨by first | rfl | simp only [List.all_cons, List.all_nil, pu0, pub, pu1, pu2, pu1', pu2', pun, puf, puP, puP', puQ, puQ', Bool.and_true, Bool.and_self], _, fine_ok p hp, ?_⟩
  conv => whnf
  cases hf : fineB p with
  | false =>
    conv => whnf
    refine ⟨by first | rfl | simp only [List.all_cons, List.all_nil, pu0, pub, pu1, pu2, pu1', pu2', pun, puf, puP, puP', puQ, puQ', Bool.and_true, Bool.and_self], _, hw, ?_⟩
    conv => whnf
    exact ret_pure (.inr rfl) rfl rfl
  | true =>
    have hv := fineB_val hf
    have h4 := hv.n4
    have h2 := hv.n2
    conv => whnf
    refine dcase (fun h => ?_) (fun h => ?_)
    · conv => whnf
      refine ⟨by first | rfl | simp only [List.all_cons, List.all_nil, pu0, pub, pu1, pu2, pu1', pu2', pun, puf, puP, puP', puQ, puQ', Bool.and_true, Bool.and_self], _, hw, ?_⟩
      conv => whnf
      exact ret_pure (.inr rfl) rfl rfl
    · have ho := chosen_ords p y
      conv => whnf
      refine ⟨by simp only [List.all_cons, List.all_nil, Bool.and_true, puP, Bool.true_and]; exact pure_Y1 y, _, chosen_ok p y hv hy (by omega), ?_⟩
      conv => whnf
      generalize chosen p y = o at ho ⊢
      have hol := ho.len
      have h5 : ∀ r ∈ o, r.length ≤ 5 := fun r hr => by
        obtain ⟨i, hi, rfl⟩ := List.mem_iff_getElem.1 hr
        rw [(isOrd_iff.1 (ho.ord i hi (by omega))).1]
        exact hv.s5 _ (List.getElem_mem _)
      refine .intro (CI (fun k => slots 276 [(2, .ptr 0 0), (5, O2 o), (6, U2 ((o.take k).map List.reverse)), (7, I k)]) o.length [.cells [L2 p]]) o.length ⟨0, Nat.zero_le _, rfl, rfl, rfl⟩ ?_
      rintro m T H ⟨k, hk, rfl, rfl, rfl⟩
      conv => whnf
      refine dcase (fun h1 => ?_) (fun h1 => ?_)
      · have hlt : k < o.length := by omega
        have hkl : ((o.take k).map List.reverse).length = k := by simp; omega
        conv => whnf
        refine ⟨by omega, ?_⟩
        conv => whnf
        refine nthM _ _ _ (hlt) ?_
        conv => whnf
        refine ⟨by first | rfl | simp only [List.all_cons, List.all_nil, pu0, pub, pu1, pu2, pu1', pu2', pun, puf, puP, puP', puQ, puQ', Bool.and_true, Bool.and_self], _, back_ok o[k] (by have := h5 _ (List.getElem_mem hlt); omega), ?_⟩
        conv => whnf
        refine ⟨rfl, by decide, rfl, by omega, ?_⟩
        conv => whnf
        refine ciN hlt ?_
        rw [show (o.take (k + 1)).map List.reverse = (o.take k).map List.reverse ++ [o[k].reverse] by rw [List.take_succ_eq_append_getElem hlt, List.map_append]; rfl, ← U2_snoc, ← wrapS k (by omega)]
        rfl
      · obtain rfl : k = o.length := by omega
        rw [List.take_length]
        have hot := turn_ords ho
        obtain ⟨q1, q2⟩ := ho.fit hv
        obtain ⟨r1, r2⟩ := hot.fit hv
        have he := ho.err hv
        have het := hot.err hv
        have h0 : 0 < p.length := by omega
        have hh : p.headD [] = p[0] := headD0 _ h0
        have hs := hv.sm (List.getElem_mem h0)
        have e1 : meetOf p o = meetN (seamsBy p o) := if_pos he
        have e2 : meetOf p (o.map List.reverse) = meetN (seamsBy p o) := by rw [meetOf, if_pos het, turn_by hv ho, meet_turn]
        have e3 : distOf p o = distGo (seamsBy p o) (sumI (p.headD [])) := if_pos he
        have e4 : distOf p (o.map List.reverse) = distGo (seamsBy p o) (sumI (p.headD [])) := by rw [distOf, if_pos het, turn_by hv ho, dist_turn]
        have e5 : thruOf p o = thru (seamsBy p o) := if_pos he
        have e6 : thruOf p (o.map List.reverse) = turnL (sumI p[0]) (thru (seamsBy p o)) := by rw [thruOf, if_pos het, turn_by hv ho, thru_turn, hh]
        have e7 : seamsE p o = seamsBy p o := if_pos he
        have e8 : seamsE p (o.map List.reverse) = (seamsBy p o).map (turnL (sumI p[0])) := by rw [seamsE, if_pos het, turn_by hv ho, hh]
        have hS : (seamsBy p o).length = o.length := by simp [seamsBy]; omega
        have hin := seams_in hv ho
        rw [hh] at hin
        have hsb := hs.sum
        have hth : ∀ x ∈ thru (seamsBy p o), 1 ≤ x ∧ x < sumI p[0] := fun x hx => by
          have hx1 := (List.mem_filter.1 hx).1
          refine hin ((seamsBy p o).headD []) ?_ x hx1
          cases hS2 : seamsBy p o with
          | nil => rw [hS2] at hS; simp at hS; omega
          | cons a r => simp
        conv => whnf
        refine ⟨by omega, ?_⟩
        conv => whnf
        refine nthM _ _ _ (h0) ?_
        conv => whnf
        refine ⟨by first | rfl | simp only [List.all_cons, List.all_nil, pu0, pub, pu1, pu2, pu1', pu2', pun, puf, puP, puP', puQ, puQ', Bool.and_true, Bool.and_self], _, rsum_ok p[0] hs, ?_⟩
        conv => whnf
        refine ⟨by first | rfl | simp only [List.all_cons, List.all_nil, pu0, pub, pu1, pu2, pu1', pu2', pun, puf, puP, puP', puQ, puQ', Bool.and_true, Bool.and_self], _, pmeet_ok p o q1, ?_⟩
        conv => whnf
        refine ⟨by first | rfl | simp only [List.all_cons, List.all_nil, pu0, pub, pu1, pu2, pu1', pu2', pun, puf, puP, puP', puQ, puQ', Bool.and_true, Bool.and_self], _, pmeet_ok p (o.map List.reverse) r1, ?_⟩
        conv => whnf
        refine ⟨by first | rfl | simp only [List.all_cons, List.all_nil, pu0, pub, pu1, pu2, pu1', pu2', pun, puf, puP, puP', puQ, puQ', Bool.and_true, Bool.and_self], _, pdist_ok p o q1, ?_⟩
        conv => whnf
        refine ⟨by first | rfl | simp only [List.all_cons, List.all_nil, pu0, pub, pu1, pu2, pu1', pu2', pun, puf, puP, puP', puQ, puQ', Bool.and_true, Bool.and_self], _, pdist_ok p (o.map List.reverse) r1, ?_⟩
        conv => whnf
        refine ⟨by first | rfl | simp only [List.all_cons, List.all_nil, pu0, pub, pu1, pu2, pu1', pu2', pun, puf, puP, puP', puQ, puQ', Bool.and_true, Bool.and_self], _, pthrough_ok p o q1, ?_⟩
        conv => whnf
        refine ⟨by first | rfl | simp only [List.all_cons, List.all_nil, pu0, pub, pu1, pu2, pu1', pu2', pun, puf, puP, puP', puQ, puQ', Bool.and_true, Bool.and_self], _, pthrough_ok p (o.map List.reverse) r1, ?_⟩
        conv => whnf
        refine ⟨by first | rfl | simp only [List.all_cons, List.all_nil, pu0, pub, pu1, pu2, pu1', pu2', pun, puf, puP, puP', puQ, puQ', Bool.and_true, Bool.and_self], _, pSeams_ok p o q1, ?_⟩
        conv => whnf
        refine ⟨by first | rfl | simp only [List.all_cons, List.all_nil, pu0, pub, pu1, pu2, pu1', pu2', pun, puf, puP, puP', puQ, puQ', Bool.and_true, Bool.and_self], _, pSeams_ok p (o.map List.reverse) r1, ?_⟩
        conv => whnf
        rw [he, het, e1, e2, e3, e4, e5, e6, e7, e8]
        generalize hSS : seamsBy p o = S at *
        generalize distGo S (sumI (p.headD [])) = D at *
        generalize sumI p[0] = W at *
        generalize hX : thru S = X at *
        conv => whnf
        rw [dner]
        conv => whnf
        rw [dner]
        conv => whnf
        rw [decide_eq_false (show ¬ ((X.length : Int) ≠ ((turnL W X).length : Int)) by rw [turnL_len]; exact fun h => h rfl)]
        conv => whnf
        rw [decide_eq_false (show ¬ ((S.length : Int) ≠ (o.length : Int)) by omega)]
        conv => whnf
        rw [decide_eq_false (show ¬ (((S.map (turnL W)).length : Int) ≠ (o.length : Int)) by rw [List.length_map]; omega)]
        conv => whnf
        have hX4 : X.length ≤ 1000 := by
          rw [← hX]
          refine Nat.le_trans (List.length_filter_le _ _) ?_
          cases hS2 : S with
          | nil => simp
          | cons a r =>
            obtain ⟨l, hl, q, hq, e⟩ := seams_mem ho a (by rw [hSS, hS2]; simp)
            have := hv.s5 l hl
            have := (isOrd_iff.1 hq).1
            simp only [List.headD_cons, e, seamsOf_len]; omega
        refine .intro (CI (fun k => slots 276 [(8, I W), (17, L1 X), (19, L1 (turnL W X)), (21, L2 S), (23, L2 (S.map (turnL W))), (25, I k)]) X.length [.cells [L2 p]]) X.length ⟨0, Nat.zero_le _, rfl, rfl, rfl⟩ ?_
        rintro m T H ⟨k, hk, rfl, rfl, rfl⟩
        conv => whnf
        refine dcase (fun h3 => ?_) (fun h3 => ?_)
        · have hlt : k < X.length := by omega
          have hx := hth _ (List.getElem_mem hlt)
          have htl := turnL_len W X
          conv => whnf
          refine ⟨by omega, ?_⟩
          conv => whnf
          refine nthM _ _ _ (hlt) ?_
          conv => whnf
          rw [decide_eq_false (show ¬ X[k] < 1 by omega)]
          conv => whnf
          refine ⟨by omega, ?_⟩
          conv => whnf
          refine nthM _ _ _ (hlt) ?_
          conv => whnf
          rw [decide_eq_false (show ¬ W ≤ X[k] by omega)]
          conv => whnf
          rw [htl, wrapI ((X.length : Int) - 1) (by omega) (by omega), wrapI _ (by omega) (by omega), show (X.length : Int) - 1 - (k : Int) = ((X.length - 1 - k : Nat) : Int) by omega]
          refine ⟨by omega, ?_⟩
          conv => whnf
          refine nthM _ _ _ (by omega) ?_
          rw [turnL_get hlt]
          conv => whnf
          refine ⟨by omega, ?_⟩
          conv => whnf
          refine nthM _ _ _ (hlt) ?_
          conv => whnf
          rw [wrapI (W - X[k]) (by omega) (by omega), dner]
          conv => whnf
          exact ciN hlt (by rw [← wrapS k (by omega)]; rfl)
        · conv => whnf
          have hSb : ∀ r ∈ S, r.length ≤ 5 := fun r hr => by
            obtain ⟨l, hl, q, hq, e⟩ := seams_mem ho r (by rw [hSS]; exact hr)
            have := hv.s5 l hl
            have := (isOrd_iff.1 hq).1
            rw [e, seamsOf_len]; omega
          refine .intro (CI (fun k => slots 276 [(8, I W), (21, L2 S), (23, L2 (S.map (turnL W))), (26, I k)]) S.length [.cells [L2 p]]) S.length ⟨0, Nat.zero_le _, rfl, rfl, rfl⟩ ?_
          rintro m T H ⟨i, hi, rfl, rfl, rfl⟩
          conv => whnf
          refine dcase (fun h4 => ?_) (fun h4 => ?_)
          · have hlt : i < S.length := by omega
            have hr := hin _ (List.getElem_mem hlt)
            have hr5 := hSb _ (List.getElem_mem hlt)
            have htl := turnL_len W S[i]
            have hml : (S.map (turnL W)).length = S.length := List.length_map _
            conv => whnf
            refine ⟨by omega, ?_⟩
            conv => whnf
            refine nthM _ _ _ (hlt) ?_
            conv => whnf
            refine ⟨by omega, ?_⟩
            conv => whnf
            refine nthM _ _ _ ((show i < (S.map (turnL W)).length by omega)) ?_
            conv => whnf
            rw [List.getElem_map]
            conv => whnf
            rw [decide_eq_false (show ¬ ((S[i].length : Int) ≠ ((turnL W S[i]).length : Int)) by omega)]
            conv => whnf
            refine .intro (CI (fun k => slots 276 [(8, I W), (21, L2 S), (23, L2 (S.map (turnL W))), (26, I i), (27, I k)]) S[i].length [.cells [L2 p]]) S[i].length ⟨0, Nat.zero_le _, rfl, rfl, rfl⟩ ?_
            rintro m T H ⟨k, hk, rfl, rfl, rfl⟩
            conv => whnf
            refine ⟨by omega, ?_⟩
            conv => whnf
            refine nthM _ _ _ (hlt) ?_
            conv => whnf
            refine dcase (fun h5 => ?_) (fun h5 => ?_)
            · have hlt2 : k < S[i].length := by omega
              have hx := hr _ (List.getElem_mem hlt2)
              conv => whnf
              refine ⟨by omega, ?_⟩
              conv => whnf
              refine nthM _ _ _ (hlt) ?_
              conv => whnf
              refine ⟨by omega, ?_⟩
              conv => whnf
              refine nthM _ _ _ (hlt2) ?_
              conv => whnf
              rw [decide_eq_false (show ¬ S[i][k] < 1 by omega)]
              conv => whnf
              refine ⟨by omega, ?_⟩
              conv => whnf
              refine nthM _ _ _ (hlt) ?_
              conv => whnf
              refine ⟨by omega, ?_⟩
              conv => whnf
              refine nthM _ _ _ (hlt2) ?_
              conv => whnf
              rw [decide_eq_false (show ¬ W ≤ S[i][k] by omega)]
              conv => whnf
              refine ⟨by omega, ?_⟩
              conv => whnf
              refine nthM _ _ _ ((show i < (S.map (turnL W)).length by omega)) ?_
              conv => whnf
              conv => whnf
              refine ⟨by omega, ?_⟩
              conv => whnf
              refine nthM _ _ _ ((show i < (S.map (turnL W)).length by omega)) ?_
              conv => whnf
              simp only [List.getElem_map]
              conv => whnf
              rw [htl, wrapI ((S[i].length : Int) - 1) (by omega) (by omega), wrapI _ (by omega) (by omega), show (S[i].length : Int) - 1 - (k : Int) = ((S[i].length - 1 - k : Nat) : Int) by omega]
              refine ⟨by omega, ?_⟩
              conv => whnf
              refine nthM _ _ _ (by omega) ?_
              rw [turnL_get hlt2]
              conv => whnf
              refine ⟨by omega, ?_⟩
              conv => whnf
              refine nthM _ _ _ (hlt) ?_
              conv => whnf
              refine ⟨by omega, ?_⟩
              conv => whnf
              refine nthM _ _ _ (hlt2) ?_
              conv => whnf
              rw [wrapI (W - S[i][k]) (by omega) (by omega), dner]
              conv => whnf
              exact ciN hlt2 (by rw [← wrapS k (by omega)]; rfl)
            · obtain rfl : k = S[i].length := by omega
              conv => whnf
              exact ciN hlt (by rw [← wrapS i (by omega)]; rfl)
          · conv => whnf
            refine ⟨by first | rfl | simp only [List.all_cons, List.all_nil, pu0, pub, pu1, pu2, pu1', pu2', pun, puf, puP, puP', puQ, puQ', Bool.and_true, Bool.and_self], _, hw, ?_⟩
            conv => whnf
            exact ret_pure (.inr rfl) rfl rfl
end Go.Proofs.Ytlcebaejlnpdeaa.Ab

/-
  Closed calls of the layer: those of the map of meetings.
-/
namespace Go.Proofs.Ytlcebaejlnpdeaa.Ab
open Go
theorem meets_pure (rows : List (List Int)) (j i : Nat) (k v : AV) (h : (meets rows)[j]? = some (i, k, v)) : pureD 8 k = true ∧ pureD 8 v = true := by
  have := List.mem_of_getElem? h
  unfold meets at this
  obtain ⟨q, _, e⟩ := List.mem_map.1 this
  simp only [entOf, Prod.mk.injEq] at e
  obtain ⟨_, rfl, rfl⟩ := e
  exact ⟨rfl, rfl⟩
def meetE (rows : List (List Int)) : Ent := .map 63 [L2 rows] (meets rows) (places rows 0).length
theorem meetE_ok (rows : List (List Int)) (hl : rows.length ≤ 1000) (hr : ∀ r ∈ rows, r.length ≤ 1000) (hn : (places rows 0).Nodup) : entOk Go.Proofs.Try.prog (meetE rows) := fun H =>
  sem_map (by simp only [List.all_cons, List.all_nil, Bool.and_true]; exact pure_L2 5 rows) (meets_pure rows) (meetings_ok rows hl hr hn) H
def meetL : List Ent := [meetE [[2, 5], [5]], meetE [[2, 7], [5]], meetE [[5], [5], [4]], meetE [[5], [5]], meetE [[5], [4]]]
theorem meetL_ok : ∀ e ∈ meetL, entOk Go.Proofs.Try.prog e := by
  intro e he
  simp only [meetL, List.mem_cons, List.not_mem_nil, or_false] at he
  rcases he with rfl | rfl | rfl | rfl | rfl
  · exact meetE_ok _ (by decide) (by decide) (by decide)
  · exact meetE_ok _ (by decide) (by decide) (by decide)
  · exact meetE_ok _ (by decide) (by decide) (by decide)
  · exact meetE_ok _ (by decide) (by decide) (by decide)
  · exact meetE_ok _ (by decide) (by decide) (by decide)
end Go.Proofs.Ytlcebaejlnpdeaa.Ab

/- MADE BY PROGRAM (closed.py): closed calls. -/
namespace Go.Proofs.Ytlcebaejlnpdeaa.Ab
open Go
def e0 : Ent := .pure 21 [.agg [.lst [.lst [.int .i64 2, .int .i64 3, .int .i64 5] 3 .shared, .lst [.int .i64 5, .int .i64 5] 2 .shared] 2 .shared], .lst [.lst [.int .i64 0, .int .i64 1, .int .i64 2] 3 .shared, .lst [.int .i64 0, .int .i64 1] 2 .shared] 2 .shared] (.tuple [.int .i64 1, .int .i64 0])
theorem e0_ok : entOk Go.Proofs.Try.prog e0 := runC_ok meetL_ok (by kernel_rfl)
def e1 : Ent := .pure 21 [.agg [.lst [.lst [.int .i64 2, .int .i64 3, .int .i64 5] 3 .shared, .lst [.int .i64 5, .int .i64 5] 2 .shared] 2 .shared], .lst [.lst [.int .i64 0, .int .i64 2, .int .i64 1] 3 .shared, .lst [.int .i64 1, .int .i64 0] 2 .shared] 2 .shared] (.tuple [.int .i64 0, .int .i64 0])
theorem e1_ok : entOk Go.Proofs.Try.prog e1 := runC_ok meetL_ok (by kernel_rfl)
def e2 : Ent := .pure 21 [.agg [.lst [.lst [.int .i64 2, .int .i64 3, .int .i64 5] 3 .shared, .lst [.int .i64 5, .int .i64 5] 2 .shared] 2 .shared], .lst [.lst [.int .i64 0, .int .i64 1, .int .i64 2] 3 .shared] 1 .shared] (.tuple [.int .i64 0, .int .i64 15])
theorem e2_ok : entOk Go.Proofs.Try.prog e2 := runC_ok meetL_ok (by kernel_rfl)
def e3 : Ent := .pure 21 [.agg [.lst [.lst [.int .i64 2, .int .i64 3, .int .i64 5] 3 .shared, .lst [.int .i64 5, .int .i64 5] 2 .shared] 2 .shared], .lst [.lst [.int .i64 0, .int .i64 1, .int .i64 1] 3 .shared, .lst [.int .i64 0, .int .i64 1] 2 .shared] 2 .shared] (.tuple [.int .i64 0, .int .i64 16])
theorem e3_ok : entOk Go.Proofs.Try.prog e3 := runC_ok meetL_ok (by kernel_rfl)
def e4 : Ent := .pure 23 [.agg [.lst [.lst [.int .i64 2, .int .i64 3, .int .i64 5] 3 .shared, .lst [.int .i64 5, .int .i64 5] 2 .shared] 2 .shared], .lst [.lst [.int .i64 0, .int .i64 1, .int .i64 2] 3 .shared, .lst [.int .i64 0, .int .i64 1] 2 .shared] 2 .shared] (.tuple [.lst [.lst [.int .i64 2, .int .i64 5] 2 .shared, .lst [.int .i64 5] 1 .shared] 2 .shared, .int .i64 0])
theorem e4_ok : entOk Go.Proofs.Try.prog e4 := runC_ok meetL_ok (by kernel_rfl)
def e6 : Ent := .pure 28 [.agg [.lst [.lst [.int .i64 2, .int .i64 3, .int .i64 5] 3 .shared, .lst [.int .i64 5, .int .i64 5] 2 .shared] 2 .shared], .lst [.lst [.int .i64 0, .int .i64 1, .int .i64 2] 3 .shared, .lst [.int .i64 0, .int .i64 1] 2 .shared] 2 .shared] (.tuple [.lst [.int .i64 5] 1 .shared, .int .i64 0])
theorem e6_ok : entOk Go.Proofs.Try.prog e6 := runC_ok meetL_ok (by kernel_rfl)
def e7 : Ent := .pure 30 [.agg [.lst [.lst [.int .i64 2, .int .i64 3, .int .i64 5] 3 .shared, .lst [.int .i64 5, .int .i64 5] 2 .shared] 2 .shared], .lst [.lst [.int .i64 0, .int .i64 2, .int .i64 1] 3 .shared, .lst [.int .i64 0, .int .i64 1] 2 .shared] 2 .shared] (.tuple [.int .i64 2, .int .i64 0])
theorem e7_ok : entOk Go.Proofs.Try.prog e7 := runC_ok meetL_ok (by kernel_rfl)
def e8 : Ent := .pure 33 [.agg [.lst [.lst [.int .i64 5, .int .i64 5] 2 .shared, .lst [.int .i64 5, .int .i64 5] 2 .shared, .lst [.int .i64 4, .int .i64 6] 2 .shared] 3 .shared]] (.tuple [.int .i64 1, .int .i64 0])
theorem e8_ok : entOk Go.Proofs.Try.prog e8 := runC_ok meetL_ok (by kernel_rfl)
def e9 : Ent := .pure 35 [.agg [.lst [.lst [.int .i64 2, .int .i64 3, .int .i64 5] 3 .shared, .lst [.int .i64 5, .int .i64 5] 2 .shared] 2 .shared]] (.tuple [.lst [.lst [.int .i64 0, .int .i64 2, .int .i64 1] 3 .shared, .lst [.int .i64 0, .int .i64 1] 2 .shared] 2 .shared, .int .i64 0])
theorem e9_ok : entOk Go.Proofs.Try.prog e9 := runC_ok meetL_ok (by kernel_rfl)
end Go.Proofs.Ytlcebaejlnpdeaa.Ab

/- MADE BY PROGRAM (closed.py): closed calls. -/
namespace Go.Proofs.Ytlcebaejlnpdeaa.Ab
open Go
def e10 : Ent := .pure 37 [.agg [.lst [.lst [.int .i64 5, .int .i64 5] 2 .shared, .lst [.int .i64 5, .int .i64 5] 2 .shared, .lst [.int .i64 4, .int .i64 6] 2 .shared] 3 .shared], .int .i64 0] (.tuple [.int .i64 1, .int .i64 0])
theorem e10_ok : entOk Go.Proofs.Try.prog e10 := runC_ok meetL_ok (by kernel_rfl)
def e11 : Ent := .pure 37 [.agg [.lst [.lst [.int .i64 5, .int .i64 5] 2 .shared, .lst [.int .i64 5, .int .i64 5] 2 .shared, .lst [.int .i64 4, .int .i64 6] 2 .shared] 3 .shared], .int .i64 2] (.tuple [.int .i64 0, .int .i64 2])
theorem e11_ok : entOk Go.Proofs.Try.prog e11 := runC_ok meetL_ok (by kernel_rfl)
def e12 : Ent := .pure 40 [.agg [.lst [.lst [.int .i64 2, .int .i64 3, .int .i64 5] 3 .shared, .lst [.int .i64 5, .int .i64 5] 2 .shared] 2 .shared], .int .i64 0] (.tuple [.lst [.int .i64 2, .int .i64 3, .int .i64 5, .int .i64 7, .int .i64 8] 5 .full, .int .i64 0])
theorem e12_ok : entOk Go.Proofs.Try.prog e12 := runC_ok meetL_ok (by kernel_rfl)
def e13 : Ent := .pure 42 [.agg [.lst [.lst [.int .i64 2, .int .i64 3, .int .i64 5] 3 .shared, .lst [.int .i64 5, .int .i64 5] 2 .shared] 2 .shared], .int .i64 1] (.tuple [.lst [.int .i64 5] 1 .shared, .int .i64 0])
theorem e13_ok : entOk Go.Proofs.Try.prog e13 := runC_ok meetL_ok (by kernel_rfl)
def e14 : Ent := .pure 42 [.agg [.lst [.lst [.int .i64 2, .int .i64 3, .int .i64 5] 3 .shared, .lst [.int .i64 5, .int .i64 5] 2 .shared] 2 .shared], .int .i64 2] (.tuple [.lst [] 0 .shared, .int .i64 2])
theorem e14_ok : entOk Go.Proofs.Try.prog e14 := runC_ok meetL_ok (by kernel_rfl)
end Go.Proofs.Ytlcebaejlnpdeaa.Ab

/- MADE BY PROGRAM (closed.py): closed calls. -/
namespace Go.Proofs.Ytlcebaejlnpdeaa.Ab
open Go
def e15 : Ent := .pure 44 [.agg [.lst [.lst [.int .i64 2, .int .i64 3, .int .i64 5] 3 .shared, .lst [.int .i64 5, .int .i64 5] 2 .shared] 2 .shared]] (.tuple [.int .i64 2, .int .i64 0])
theorem e15_ok : entOk Go.Proofs.Try.prog e15 := runC_ok meetL_ok (by kernel_rfl)
def e16 : Ent := .pure 46 [.agg [.lst [.lst [.int .i64 2, .int .i64 3, .int .i64 5] 3 .shared, .lst [.int .i64 5, .int .i64 5] 2 .shared] 2 .shared], .int .i64 2] (.tuple [.lst [.lst [.int .i64 0, .int .i64 2, .int .i64 1] 3 .shared, .lst [.int .i64 0, .int .i64 1] 2 .shared] 2 .shared, .int .i64 0])
theorem e16_ok : entOk Go.Proofs.Try.prog e16 := runC_ok meetL_ok (by kernel_rfl)
def e17 : Ent := .pure 46 [.agg [.lst [.lst [.int .i64 2, .int .i64 3, .int .i64 5] 3 .shared, .lst [.int .i64 5, .int .i64 5] 2 .shared] 2 .shared], .int .i64 3] (.tuple [.lst [] 0 .shared, .int .i64 21])
theorem e17_ok : entOk Go.Proofs.Try.prog e17 := runC_ok meetL_ok (by kernel_rfl)
def e18 : Ent := .pure 46 [.agg [.lst [.lst [.int .i64 2, .int .i64 3, .int .i64 5] 3 .shared, .lst [.int .i64 5, .int .i64 5] 2 .shared] 2 .shared], .int .i64 (-1)] (.tuple [.lst [] 0 .shared, .int .i64 3])
theorem e18_ok : entOk Go.Proofs.Try.prog e18 := runC_ok meetL_ok (by kernel_rfl)
end Go.Proofs.Ytlcebaejlnpdeaa.Ab

/-
  Works: a closed call.
-/
namespace Go.Proofs.Ytlcebaejlnpdeaa.Ab
open Go
def worksL : List Ent := [e0, e1, e2, e3, e4, e6, e7, e8, e9, e10, e11, e12, e13, e14, e15, e16, e17, e18]
theorem worksL_ok : ∀ e ∈ worksL, entOk Go.Proofs.Try.prog e := by
  simp only [worksL, List.forall_mem_cons]
  exact ⟨e0_ok, e1_ok, e2_ok, e3_ok, e4_ok, e6_ok, e7_ok, e8_ok, e9_ok, e10_ok, e11_ok, e12_ok, e13_ok, e14_ok, e15_ok, e16_ok, e17_ok, e18_ok, by simp⟩
theorem works_ok : PO 20 [] (B true) := runC_ok worksL_ok (by kernel_rfl)
end Go.Proofs.Ytlcebaejlnpdeaa.Ab
