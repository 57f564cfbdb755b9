/- MADE BY PROGRAM (ex.py): functions as plain Lean, with their walks. -/
import Derived.Test.YtbnbjjgagikobaaGreatJb5
import Derived.KernelRfl
set_option linter.unusedSimpArgs false
set_option linter.unusedVariables false
set_option linter.unusedSectionVars false
namespace Go.Proofs.YtbnbjjgagikobaaGreat.Ab
open Go
set_option maxRecDepth 20000
set_option maxHeartbeats 4000000
noncomputable def xrc66 : RC :=
  .seq (.reg false [I_ 2 [.tk 0] .box, I_ 4 [.cv (.int .i64 0)] .mv]) (.seq (.seq (.reg false [I_ 5 [.sl 2] (.ld (.str 4)), I_ 6 [.cv (.func 21 [] []), .sl 5] (.call 3), I_ 7 [.tv 6, .cv (.int .i64 0)] (.bin .neq)]) (.cond (.sl 7)
  (.seq (.reg false [I_ 8 [.tv 2] (.ld (.str 4)), I_ 9 [.cv (.func 21 [] []), .sl 8] (.call 3), I_ 4 [.tk 9] .mv]) .ret) .skip)) (.seq (.reg false [I_ 10 [.tk 1] .mv, I_ 11 [.cv (.func 23 [] []), .sl 10] (.call 3), I_ 4 [.tk 11]
  .mv]) .ret))
theorem lxx66 : linkF Tryz.prog ann66 66 = some (xrc66, 12, [.tmp 4]) := by kernel_rfl
/-- crossband/crossbandref08.Both -/
def x66 (b : (Int × (List Int) × Int × Int)) (panels : (List (Int × Int))) : Option Int :=
  (x21 b).bind fun r1 =>
  if (decide (r1 ≠ (0 : Int))) = true then
    (x21 b).bind fun r2 =>
    some r2
  else
    (x23 panels).bind fun r3 =>
    some r3
theorem x66_ok {b : (Int × (List Int) × Int × Int)} {panels : (List (Int × Int))} {v : Int} (h : x66 b panels = some v) : PO 66 [(.agg [(I b.1), (.lst (b.2.1.map I) b.2.1.length .shared), (I b.2.2.1), (I b.2.2.2)]), (.lst (panels.flatMap pr) panels.length .shared)] (I v) := by
  refine fn_pureW hmix lxx66 rfl rfl fun Q hQ => ?_
  have hR : ∀ T H, RetW [.tmp 4] (I v) .ret T H → Q .ret T H := fun T H hh => hQ _ T H hh
  unfold x66 at h
  unfold xrc66
  skip
  conv => whnf
  obtain ⟨r1, hb1, h⟩ := bd_some h
  refine ⟨(allc (pu_agg (allc rfl (allc (pu_map (fun _ => rfl) _ _ _) (allc rfl (allc rfl rfl))))) rfl), _, x21_ok hb1, ?_⟩
  conv => whnf
  rcases bt (decide (r1 ≠ (0 : Int))) with hb2 | hb2
  · rw [hb2]
    conv => whnf
    replace h := it_t hb2 h
    obtain ⟨r2, hb3, h⟩ := bd_some h
    refine ⟨(allc (pu_agg (allc rfl (allc (pu_map (fun _ => rfl) _ _ _) (allc rfl (allc rfl rfl))))) rfl), _, x21_ok hb3, ?_⟩
    conv => whnf
    obtain rfl := Option.some.inj h
    exact hR _ _ ⟨.inr rfl, _, rfl, _, frz_pure rfl, rfl⟩
  · rw [hb2]
    conv => whnf
    replace h := it_f hb2 h
    obtain ⟨r3, hb4, h⟩ := bd_some h
    refine ⟨(allc (pu_flat (fun _ => (allc rfl (allc rfl rfl))) _ _ _) rfl), _, x23_ok hb4, ?_⟩
    conv => whnf
    obtain rfl := Option.some.inj h
    exact hR _ _ ⟨.inr rfl, _, rfl, _, frz_pure rfl, rfl⟩
end Go.Proofs.YtbnbjjgagikobaaGreat.Ab

/- MADE BY PROGRAM (ex.py): functions as plain Lean, with their walks. -/
namespace Go.Proofs.YtbnbjjgagikobaaGreat.Ab
open Go
set_option maxRecDepth 20000
set_option maxHeartbeats 4000000
noncomputable def xrc45 : RC :=
  .seq (.reg false [I_ 2 [.tk 0] .box, I_ 4 [.cv (.bool false)] .mv]) (.seq (.reg false [I_ 5 [.sl 2] (.ld (.str 4)), I_ 6 [.sl 1] .mv, I_ 7 [.cv (.func 16 [] []), .sl 5, .sl 6] (.call 3), I_ 8 [.tv 7] (.un .not), I_ 9 [.tk 8] .mv,
  ⟨some 10, [.tv 2], some (9, true), none, .ld (.str 4)⟩, ⟨some 11, [.tk 1], some (9, true), none, .mv⟩, ⟨some 12, [.cv (.func 66 [] []), .sl 10, .sl 11], some (9, true), none, .call 3⟩, ⟨some 13, [.tv 12, .cv (.int .i64 0)],
  some (9, true), none, .bin .eql⟩, I_ 14 [.tv 9, .tv 13, .cv (.bool false)] .pick, I_ 4 [.tk 14] .mv]) .ret)
theorem lxx45 : linkF Tryz.prog ann45 45 = some (xrc45, 15, [.tmp 4]) := by kernel_rfl
/-- crossband/crossbandlaw08.fine -/
def x45 (b : (Int × (List Int) × Int × Int)) (panels : (List (Int × Int))) : Option Bool :=
  (x16 b panels).bind fun r1 =>
  if r1 = true then
    some false
  else
    (x66 b panels).bind fun r2 =>
    some (decide (r2 = (0 : Int)))
theorem x45_ok {b : (Int × (List Int) × Int × Int)} {panels : (List (Int × Int))} {v : Bool} (h : x45 b panels = some v) : PO 45 [(.agg [(I b.1), (.lst (b.2.1.map I) b.2.1.length .shared), (I b.2.2.1), (I b.2.2.2)]), (.lst (panels.flatMap pr) panels.length .shared)] (B v) := by
  refine fn_pureW hmix lxx45 rfl rfl fun Q hQ => ?_
  have hR : ∀ T H, RetW [.tmp 4] (B v) .ret T H → Q .ret T H := fun T H hh => hQ _ T H hh
  unfold x45 at h
  unfold xrc45
  skip
  conv => whnf
  obtain ⟨r1, hb1, h⟩ := bd_some h
  refine ⟨(allc (pu_agg (allc rfl (allc (pu_map (fun _ => rfl) _ _ _) (allc rfl (allc rfl rfl))))) (allc (pu_flat (fun _ => (allc rfl (allc rfl rfl))) _ _ _) rfl)), _, x16_ok hb1, ?_⟩
  conv => whnf
  cases r1
  · conv => whnf
    replace h := it_f rfl h
    obtain ⟨r2, hb2, h⟩ := bd_some h
    refine ⟨(allc (pu_agg (allc rfl (allc (pu_map (fun _ => rfl) _ _ _) (allc rfl (allc rfl rfl))))) (allc (pu_flat (fun _ => (allc rfl (allc rfl rfl))) _ _ _) rfl)), _, x66_ok hb2, ?_⟩
    conv => whnf
    obtain rfl := Option.some.inj h
    exact hR _ _ ⟨.inr rfl, _, rfl, _, frz_pure rfl, rfl⟩
  · conv => whnf
    replace h := it_t rfl h
    obtain rfl := Option.some.inj h
    exact hR _ _ ⟨.inr rfl, _, rfl, _, frz_pure rfl, rfl⟩
end Go.Proofs.YtbnbjjgagikobaaGreat.Ab

/- MADE BY PROGRAM (ex.py): functions as plain Lean, with their walks. -/
namespace Go.Proofs.YtbnbjjgagikobaaGreat.Ab
open Go
set_option maxRecDepth 20000
set_option maxHeartbeats 4000000
noncomputable def xrc50 : RC :=
  .seq (.reg false [I_ 2 [.tk 0] .box, I_ 4 [.cv (.int .i64 0)] .mv, I_ 5 [.cv (.bool false)] .mv]) (.seq (.reg false [I_ 9 [.tv 2] (.ld (.str 4)), I_ 10 [.tk 1] .mv, I_ 11 [.cv (.func 33 [] []), .sl 9, .sl 10] (.call 3), I_ 8 [.tk
  11] .mv, I_ 12 [.sl 8] (.ext 0), I_ 13 [.tv 8] (.ext 1), I_ 6 [.tk 12] .mv, I_ 7 [.tk 13] .mv]) (.seq (.reg false [I_ 14 [.sl 6] .mv, I_ 15 [.tk 7] .mv, I_ 16 [.tv 15, .cv (.int .i64 0)] (.bin .eql), I_ 17 [.tk 16] .mv, ⟨some
  18, [.sl 6], some (17, true), none, .mv⟩, ⟨some 19, [.tv 18, .cv (.int .i64 0)], some (17, true), none, .bin .geq⟩, I_ 20 [.tv 17, .tv 19, .cv (.bool false)] .pick, I_ 21 [.tk 20] .mv, ⟨some 22, [.tk 6], some (21, true), none,
  .mv⟩, ⟨some 23, [.tv 22, .cv (.int .i64 288)], some (21, true), none, .bin .leq⟩, I_ 24 [.tv 21, .tv 23, .cv (.bool false)] .pick, I_ 4 [.tk 14] .mv, I_ 5 [.tk 24] .mv]) .ret))
theorem lxx50 : linkF Tryz.prog ann50 50 = some (xrc50, 25, [.tmp 4, .tmp 5]) := by kernel_rfl
/-- crossband/crossbandlaw08.hours -/
def x50 (b : (Int × (List Int) × Int × Int)) (panels : (List (Int × Int))) : Option (Int × Bool) :=
  (x33 b panels).bind fun r1 =>
  if (decide (r1.2 = (0 : Int))) = true then
    if (decide ((0 : Int) ≤ r1.1)) = true then
      some (r1.1, (decide (r1.1 ≤ (288 : Int))))
    else
      some (r1.1, false)
  else
    some (r1.1, false)
theorem x50_ok {b : (Int × (List Int) × Int × Int)} {panels : (List (Int × Int))} {v : (Int × Bool)} (h : x50 b panels = some v) : PO 50 [(.agg [(I b.1), (.lst (b.2.1.map I) b.2.1.length .shared), (I b.2.2.1), (I b.2.2.2)]), (.lst (panels.flatMap pr) panels.length .shared)] (.tuple [(I v.1), (B v.2)]) := by
  refine fn_pureW hmix lxx50 rfl (pu_tup (allc rfl (allc rfl rfl))) fun Q hQ => ?_
  have hR : ∀ T H, RetW [.tmp 4, .tmp 5] (.tuple [(I v.1), (B v.2)]) .ret T H → Q .ret T H := fun T H hh => hQ _ T H hh
  unfold x50 at h
  unfold xrc50
  skip
  conv => whnf
  obtain ⟨r1, hb1, h⟩ := bd_some h
  refine ⟨(allc (pu_agg (allc rfl (allc (pu_map (fun _ => rfl) _ _ _) (allc rfl (allc rfl rfl))))) (allc (pu_flat (fun _ => (allc rfl (allc rfl rfl))) _ _ _) rfl)), _, x33_ok hb1, ?_⟩
  conv => whnf
  rcases bt (decide (r1.2 = (0 : Int))) with hb2 | hb2
  · rw [hb2]
    conv => whnf
    replace h := it_t hb2 h
    rcases bt (decide ((0 : Int) ≤ r1.1)) with hb3 | hb3
    · rw [hb3]
      conv => whnf
      replace h := it_t hb3 h
      obtain rfl := Option.some.inj h
      exact hR _ _ ⟨.inr rfl, _, rfl, _, frz_pure (pu_tup (allc rfl (allc rfl rfl))), rfl⟩
    · rw [hb3]
      conv => whnf
      replace h := it_f hb3 h
      obtain rfl := Option.some.inj h
      exact hR _ _ ⟨.inr rfl, _, rfl, _, frz_pure (pu_tup (allc rfl (allc rfl rfl))), rfl⟩
  · rw [hb2]
    conv => whnf
    replace h := it_f hb2 h
    obtain rfl := Option.some.inj h
    exact hR _ _ ⟨.inr rfl, _, rfl, _, frz_pure (pu_tup (allc rfl (allc rfl rfl))), rfl⟩
end Go.Proofs.YtbnbjjgagikobaaGreat.Ab

/- MADE BY PROGRAM (ex.py): functions as plain Lean, with their walks. -/
namespace Go.Proofs.YtbnbjjgagikobaaGreat.Ab
open Go
set_option maxRecDepth 20000
set_option maxHeartbeats 4000000
end Go.Proofs.YtbnbjjgagikobaaGreat.Ab

/-
  The plain law of Hours, and PressHeats.
-/
namespace Go.Proofs.YtbnbjjgagikobaaGreat.Ab
open Go
set_option maxRecDepth 20000
set_option maxHeartbeats 4000000
theorem pig : ∀ (l br : List Int), l.Nodup → (∀ x ∈ l, x ∈ br) → l.length ≤ br.length
  | [], _, _, _ => Nat.zero_le _
  | x :: l, br, hn, h => by
    have hx := h x (by simp)
    have hn := List.nodup_cons.1 hn
    have h1 := pig l (br.erase x) hn.2 fun y hy => (List.mem_erase_of_ne (fun e => hn.1 (by rw [← e]; exact hy))).2 (h y (by simp [hy]))
    rw [List.length_erase_of_mem hx] at h1
    have := List.length_pos_of_mem hx
    simp only [List.length_cons]; omega
theorem nodup_cast (o : Nat) : ((List.range o).map fun (i : Nat) => (i : Int)).Nodup := by
  rw [List.nodup_iff_pairwise_ne, List.pairwise_map]
  exact List.nodup_range.imp fun h e => h (by omega)
theorem whole_pos {b : Bed} (hb : BedOk b) : 0 < (wholeL b.1.toNat b.2.1).length := by
  rcases Nat.eq_zero_or_pos (wholeL b.1.toNat b.2.1).length with h0 | h0
  · exfalso
    have h1 : ∀ x ∈ (List.range b.1.toNat).map (fun (i : Nat) => (i : Int)), x ∈ b.2.1 := by
      intro x hx
      obtain ⟨i, hi, rfl⟩ := List.mem_map.1 hx
      rcases Classical.em ((i : Int) ∈ b.2.1) with h | h
      · exact h
      · exfalso
        have : (i : Int) ∈ wholeL b.1.toNat b.2.1 := by
          unfold wholeL wholeN
          exact List.mem_map.2 ⟨i, List.mem_filter.2 ⟨hi, by simp [h]⟩, rfl⟩
        rw [List.length_eq_zero_iff.1 h0] at this
        cases this
    have h2 := pig _ _ (nodup_cast b.1.toNat) h1
    have h3 := hb.lt
    have h4 := hb.o1
    simp at h2
    omega
  · exact h0
/-- What panels without an error are like. -/
structure PsOk (ps : List (Int × Int)) : Prop where
  len : ps.length ≤ 12
  heat : ∀ p ∈ ps, 0 ≤ p.1 ∧ p.1 ≤ 20
  hour : ∀ p ∈ ps, 1 ≤ p.2 ∧ p.2 ≤ 24
theorem badP_false {p : Int × Int} : badP p = false ↔ (0 ≤ p.1 ∧ p.1 ≤ 20) ∧ (1 ≤ p.2 ∧ p.2 ≤ 24) := by
  unfold badP; rw [Bool.or_eq_false_iff, outOf_false, outOf_false]
theorem pErr_iff (ps : List (Int × Int)) : pErr ps = 0 ↔ PsOk ps := by
  unfold pErr
  constructor
  · intro h
    split at h
    · cases h
    · split at h
      · cases h
      · rename_i h1 h2
        rw [Bool.not_eq_true, List.any_eq_false] at h2
        exact ⟨by omega, fun p hp => (badP_false.1 (by simpa using h2 p hp)).1, fun p hp => (badP_false.1 (by simpa using h2 p hp)).2⟩
  · intro h
    rw [if_neg (by have := h.len; omega), if_neg]
    rw [Bool.not_eq_true, List.any_eq_false]
    exact fun p hp => by simp [badP_false.2 ⟨h.heat p hp, h.hour p hp⟩]
theorem PsOk.hrs {ps : List (Int × Int)} (h : PsOk ps) : hrsOk ps := fun p hp => by have := h.hour p hp; omega
theorem PsOk.sub {ps : List (Int × Int)} (h : PsOk ps) (f : Int × Int → Bool) : PsOk (ps.filter f) :=
  ⟨Nat.le_trans (List.length_filter_le _ _) h.len, fun p hp => h.heat p (List.mem_filter.1 hp).1, fun p hp => h.hour p (List.mem_filter.1 hp).1⟩
theorem ofL_range (ps : List (Int × Int)) (heat : Int) : ∀ i ∈ ofL ps heat, 0 ≤ i ∧ i < (ps.length : Int) := by
  intro x hx
  obtain ⟨i, hi, rfl⟩ := List.mem_iff_getElem.1 hx
  have hi' : i < (idxs ps heat).length := by rw [ofL_len] at hi; exact hi
  have := ins_pr (lt := longer ps) (d := (idxs ps heat).toArray) (a := 0) (b := (idxs ps heat).length) (Pr := fun i => 0 ≤ i ∧ i < (ps.length : Int)) (fun y hy => by rw [getElem!_pos _ y hy]; exact idxs_range ps heat _ (by simp)) (by simp) i (by simpa using hi')
  rw [getElem!_pos _ i (by rw [ins_size]; simpa using hi')] at this
  exact this
theorem r70_eq {x : Bench} (ho : hrsOk x.2.1) {e : List Int} {t : Int} (he : e ≠ []) (hr : ∀ i ∈ e, 0 ≤ i ∧ i < (x.2.1.length : Int)) (ht : 0 ≤ t ∧ t ≤ 1000000) : x70_r1 x t e = some (t + (ix x.2.1 (e.headD 0)).2) ∧ 0 ≤ (ix x.2.1 (e.headD 0)).2 ∧ (ix x.2.1 (e.headD 0)).2 ≤ 24 := by
  cases e with
  | nil => exact absurd rfl he
  | cons a e =>
    have e0 : ix (a :: e) (0 : Int) = a := ix_nat (k := 0) (l := a :: e) (by simp)
    have ha := hr a (by simp)
    have h1 := ho _ (show ix x.2.1 a ∈ x.2.1 by rw [ix_of ha]; exact List.getElem_mem _)
    refine ⟨?_, h1⟩
    unfold x70_r1
    rw [e0, gd_pos ⟨by omega, by simp only [List.length_cons]; omega⟩, gd_pos ha, w_id (by omega)]
    rfl
theorem fold70 {x : Bench} (ho : hrsOk x.2.1) : ∀ (L : List (List Int)) (t : Int), (∀ e ∈ L, e ≠ [] ∧ ∀ i ∈ e, 0 ≤ i ∧ i < (x.2.1.length : Int)) → 0 ≤ t → t + 24 * L.length ≤ 1000000 → foldO (x70_r1 x) L t = some (t + (L.map fun e => (ix x.2.1 (e.headD 0)).2).sum)
  | [], t, _, _, _ => by simp [foldO]
  | e :: L, t, h, h0, h1 => by
    have h2 := h e (by simp)
    simp only [List.length_cons] at h1
    obtain ⟨h3, h4, h5⟩ := r70_eq ho h2.1 h2.2 (t := t) (by omega)
    rw [foldO, h3, Option.bind_some, fold70 ho L _ (fun e he => h e (by simp [he])) (by omega) (by omega), List.map_cons, List.sum_cons, Int.add_assoc]
theorem sum_heads (n : Nat) (hn : 0 < n) (ps : List (Int × Int)) (heat : Int) : ((chunks n (ofL ps heat)).map fun e => (ix ps (e.headD 0)).2).sum = hH n (hrs ps heat) := by
  unfold hH heads
  rw [← ofL_hrs, chunks_map, List.map_map]
  congr 1
  apply List.map_congr_left
  intro e he
  cases e with
  | nil => exact absurd rfl (chunk_ne hn he)
  | cons a e => rfl
theorem x70_l1_eq {x : Bench} {N : Nat} (hN : 1 ≤ N ∧ N ≤ 1000) (ho : PsOk x.2.1) {k : Int → Option Int} : ∀ (m i : Nat) (z : Int), z = i → i ≤ 21 → 21 - i < m → x70_l1 x (N : Int) k m z (hSum N x.2.1 i) = k (hSum N x.2.1 21)
  | 0, i, _, _, _, h => absurd h (by omega)
  | m + 1, i, _, rfl, hi, hm => by
    rw [x70_l1]
    by_cases h : i < 21
    · have hl := ho.len
      have hi2 := idxs_len x.2.1 (i : Int)
      have hs := hSum_le (n := N) (by omega) ho.hrs i
      have hc := cnt_le (fun p hp => (ho.heat p hp).1) i (ps := x.2.1)
      have hk := chunks_cnt (n := N) (by omega) (ofL x.2.1 (i : Int))
      rw [ofL_len] at hk
      have e1 : x76 x (i : Int) = some (ofL x.2.1 (i : Int)) := if_pos (by omega)
      have e2 : x75 (ofL x.2.1 (i : Int)) (N : Int) = some () := if_neg (by rw [decide_eq_true_eq]; omega)
      have e3 : s98 (ofL x.2.1 (i : Int)) (N : Int) = some (chunks N (ofL x.2.1 (i : Int))) := by
        unfold s98; rw [if_pos ⟨by omega, by omega, by rw [ofL_len]; omega⟩, Int.toNat_natCast]
      have e4 := fold70 (x := x) ho.hrs (chunks N (ofL x.2.1 (i : Int))) (hSum N x.2.1 i) (fun e he => ⟨chunk_ne (by omega) he, fun j hj => ofL_range _ _ j (chunk_mem he j hj)⟩) (by omega) (by omega)
      rw [sum_heads N (by omega), ← hSum_succ] at e4
      rw [if_pos (decide_eq_true (by omega)), e1, Option.bind_some, e2, Option.bind_some, e3, Option.bind_some, e4, Option.bind_some, w_succ i (by omega)]
      exact x70_l1_eq hN ho m (i + 1) _ rfl (by omega) (by omega)
    · obtain rfl : i = 21 := by omega
      rw [if_neg (by decide)]
theorem x70_eq {x : Bench} {N : Nat} (hN : 1 ≤ N ∧ N ≤ 1000) (ho : PsOk x.2.1) : x70 x (N : Int) = some (hSum N x.2.1 21) := by
  have := x70_l1_eq (x := x) hN ho (k := fun z => some z) FU 0 0 rfl (by omega) (FU_lt (by omega))
  rw [x70]
  exact this
/-- How many openings are whole. -/
def wn (b : Bed) : Nat := (wholeL b.1.toNat b.2.1).length
theorem wn_pos {b : Bed} (hb : BedOk b) : 1 ≤ wn b ∧ wn b ≤ 10 := ⟨whole_pos hb, Nat.le_trans (wholeL_len _ _) (by have := hb.o10; omega)⟩
theorem x69_eq {b : Bed} (hb : bErr b = 0) (hl : b.2.1.length ≤ 20) {ps : List (Int × Int)} (hp : PsOk ps) : x69 b ps = some (some (b, ps, wholeL b.1.toNat b.2.1, wantL ps), 0) := by
  rw [x69, x20_eq b (by omega), Option.bind_some, hb, if_neg (by decide), x22_eq, Option.bind_some, (pErr_iff ps).2 hp, if_neg (by decide), x59_eq (bedOk hb) hp.heat (by have := hp.len; omega), Option.bind_some]
theorem x33_eq {b : Bed} (hb : bErr b = 0) (hl : b.2.1.length ≤ 20) {ps : List (Int × Int)} (hp : PsOk ps) : x33 b ps = some (hSum (wn b) ps 21, 0) := by
  have hw := wn_pos (bedOk hb)
  rw [x33, x69_eq hb hl hp, Option.bind_some]
  show (if (decide ((0 : Int) ≠ (0 : Int))) = true then _ else _) = _
  rw [if_neg (by decide)]
  have := x70_eq (x := (b, ps, wholeL b.1.toNat b.2.1, wantL ps)) (N := wn b) ⟨by omega, by omega⟩ hp
  show (x70 (b, ps, wholeL b.1.toNat b.2.1, wantL ps) ((wholeL b.1.toNat b.2.1).length : Int)).bind _ = _
  rw [show (wholeL b.1.toNat b.2.1).length = wn b from rfl, this]; rfl
theorem hSum_in {n : Nat} (hn : 0 < n) {ps : List (Int × Int)} (hp : PsOk ps) (i : Nat) : 0 ≤ hSum n ps i ∧ hSum n ps i ≤ 288 := by
  have hs := hSum_le hn hp.hrs i
  have hc := cnt_le (fun p h => (hp.heat p h).1) i (ps := ps)
  have := hp.len
  omega
theorem x50_eq {b : Bed} (hb : bErr b = 0) (hl : b.2.1.length ≤ 20) {ps : List (Int × Int)} (hp : PsOk ps) : x50 b ps = some (hSum (wn b) ps 21, true) := by
  have hw := wn_pos (bedOk hb)
  have hh := hSum_in (n := wn b) (by omega) hp 21
  rw [x50, x33_eq hb hl hp, Option.bind_some]
  show (if decide ((0 : Int) = 0) = true then if decide ((0 : Int) ≤ hSum (wn b) ps 21) = true then some (hSum (wn b) ps 21, decide (hSum (wn b) ps 21 ≤ 288)) else _ else _) = _
  rw [if_pos (by decide), if_pos (decide_eq_true hh.1), decide_eq_true hh.2]
theorem x66_eq {b : Bed} (hl : b.2.1.length ≤ 20) (ps : List (Int × Int)) : x66 b ps = some (if bErr b = 0 then pErr ps else bErr b) := by
  rw [x66, x21_eq b (by omega), Option.bind_some]
  by_cases h : bErr b = 0
  · rw [if_pos h, h, if_neg (by decide), x23_eq]; rfl
  · rw [if_neg h, if_pos (decide_eq_true h)]; rfl
/-- Are a bed and panels such as the laws are about? -/
def FineOk (b : Bed) (ps : List (Int × Int)) : Prop := b.2.1.length ≤ 20 ∧ bErr b = 0 ∧ PsOk ps
theorem x45_eq (b : Bed) (ps : List (Int × Int)) : ∃ r, x45 b ps = some r ∧ (r = true → FineOk b ps) := by
  rw [x45, x16_eq, Option.bind_some]
  by_cases h : 20 < b.2.1.length ∨ 20 < ps.length
  · rw [if_pos (by simpa using h)]; exact ⟨_, rfl, fun h => by cases h⟩
  · rw [if_neg (by simpa using h), x66_eq (by omega), Option.bind_some]
    refine ⟨_, rfl, fun h2 => ?_⟩
    have h3 := of_decide_eq_true h2
    by_cases hb : bErr b = 0
    · rw [if_pos hb] at h3; exact ⟨by omega, hb, (pErr_iff ps).1 h3⟩
    · rw [if_neg hb] at h3; exact absurd h3 hb
end Go.Proofs.YtbnbjjgagikobaaGreat.Ab

/- MADE BY PROGRAM (ex.py): functions as plain Lean, with their walks. -/
namespace Go.Proofs.YtbnbjjgagikobaaGreat.Ab
open Go
set_option maxRecDepth 20000
set_option maxHeartbeats 4000000
noncomputable def xrc40 : RC :=
  .seq (.reg false [I_ 2 [.tk 0] .box, I_ 4 [.cv (.int .i64 0)] .mv, I_ 5 [.cv (.int .i64 0)] .mv]) (.seq (.reg false [I_ 10 [.tv 2] (.ld (.str 4)), I_ 11 [.tk 1] .mv, I_ 12 [.cv (.func 69 [] []), .sl 10, .sl 11] (.call 3), I_ 9
  [.tk 12] .mv, I_ 13 [.sl 9] (.ext 0), I_ 14 [.tv 9] (.ext 1), I_ 6 [.tk 13] .mv, I_ 7 [.tk 14] .mv]) (.seq (.seq (.reg false [I_ 15 [.sl 7] .mv, I_ 16 [.tv 15, .cv (.int .i64 0)] (.bin .neq)]) (.cond (.sl 16) (.seq (.reg false
  [I_ 17 [.tk 7] .mv, I_ 4 [.cv (.int .i64 0)] .mv, I_ 5 [.tk 17] .mv]) .ret) .skip)) (.seq (.reg false [I_ 18 [.sl 6] .mv, I_ 19 [.tv 18] .nilc, I_ 20 [.tv 19] (.fa 5), I_ 21 [.tv 20] (.ld .one), I_ 22 [.tk 21] .lenS, I_ 8 [.tk
  22] .mv]) (.seq (.reg false [I_ 23 [.sl 6] .mv, I_ 24 [.sl 8] .mv, I_ 25 [.cv (.func 70 [] []), .sl 23, .sl 24] (.call 3), I_ 26 [.tk 6] .mv, I_ 27 [.tk 8] .mv, I_ 28 [.tv 27, .cv (.int .i64 1)] (.bin .add), I_ 29 [.cv (.func
  70 [] []), .sl 26, .sl 28] (.call 3), I_ 30 [.tv 25, .tv 29] (.bin .sub), I_ 4 [.tk 30] .mv, I_ 5 [.cv (.int .i64 0)] .mv]) .ret))))
theorem lxx40 : linkF Tryz.prog ann40 40 = some (xrc40, 31, [.tmp 4, .tmp 5]) := by kernel_rfl
/-- crossband/press.Saved -/
def x40 (b : (Int × (List Int) × Int × Int)) (panels : (List (Int × Int))) : Option (Int × Int) :=
  (x69 b panels).bind fun r1 =>
  match r1 with
  | (none, q1) =>
    if (decide (q1 ≠ (0 : Int))) = true then
      some ((0 : Int), q1)
    else
      none
  | (some p1, q1) =>
    if (decide (q1 ≠ (0 : Int))) = true then
      some ((0 : Int), q1)
    else
      (x70 p1 (p1.2.2.1.length : Int)).bind fun r2 =>
      (x70 p1 (w ((p1.2.2.1.length : Int) + (1 : Int)))).bind fun r3 =>
      some ((w (r2 - r3)), (0 : Int))
theorem x40_ok {b : (Int × (List Int) × Int × Int)} {panels : (List (Int × Int))} {v : (Int × Int)} (h : x40 b panels = some v) : PO 40 [(.agg [(I b.1), (.lst (b.2.1.map I) b.2.1.length .shared), (I b.2.2.1), (I b.2.2.2)]), (.lst (panels.flatMap pr) panels.length .shared)] (.tuple [(I v.1), (I v.2)]) := by
  refine fn_pureW hmix lxx40 rfl (pu_tup (allc rfl (allc rfl rfl))) fun Q hQ => ?_
  have hR : ∀ T H, RetW [.tmp 4, .tmp 5] (.tuple [(I v.1), (I v.2)]) .ret T H → Q .ret T H := fun T H hh => hQ _ T H hh
  unfold x40 at h
  unfold xrc40
  skip
  conv => whnf
  obtain ⟨r1, hb1, h⟩ := bd_some h
  rcases r1 with ⟨_ | p1, q1⟩
  · refine ⟨(allc (pu_agg (allc rfl (allc (pu_map (fun _ => rfl) _ _ _) (allc rfl (allc rfl rfl))))) (allc (pu_flat (fun _ => (allc rfl (allc rfl rfl))) _ _ _) rfl)), _, x69_ok hb1, ?_⟩
    conv => whnf
    rcases bt (decide (q1 ≠ (0 : Int))) with hb2 | hb2
    · rw [hb2]
      conv => whnf
      replace h := it_t hb2 h
      obtain rfl := Option.some.inj h
      exact hR _ _ ⟨.inr rfl, _, rfl, _, frz_pure (pu_tup (allc rfl (allc rfl rfl))), rfl⟩
    · rw [hb2]
      conv => whnf
      replace h := it_f hb2 h
      exact none_ne h
  · refine ⟨(allc (pu_agg (allc rfl (allc (pu_map (fun _ => rfl) _ _ _) (allc rfl (allc rfl rfl))))) (allc (pu_flat (fun _ => (allc rfl (allc rfl rfl))) _ _ _) rfl)), _, x69_ok hb1, ?_⟩
    conv => whnf
    rcases bt (decide (q1 ≠ (0 : Int))) with hb3 | hb3
    · rw [hb3]
      conv => whnf
      replace h := it_t hb3 h
      obtain rfl := Option.some.inj h
      exact hR _ _ ⟨.inr rfl, _, rfl, _, frz_pure (pu_tup (allc rfl (allc rfl rfl))), rfl⟩
    · rw [hb3]
      conv => whnf
      replace h := it_f hb3 h
      obtain ⟨r2, hb4, h⟩ := bd_some h
      refine ⟨(allc (pu_lptr (allc rfl (allc (pu_map (fun _ => rfl) _ _ _) (allc rfl (allc rfl (allc (pu_flat (fun _ => (allc rfl (allc rfl rfl))) _ _ _) (allc (pu_map (fun _ => rfl) _ _ _) (pu_run (fun _ => rfl) _)))))))) (allc rfl rfl)), _, x70_ok hb4, ?_⟩
      conv => whnf
      obtain ⟨r3, hb5, h⟩ := bd_some h
      refine ⟨(allc (pu_lptr (allc rfl (allc (pu_map (fun _ => rfl) _ _ _) (allc rfl (allc rfl (allc (pu_flat (fun _ => (allc rfl (allc rfl rfl))) _ _ _) (allc (pu_map (fun _ => rfl) _ _ _) (pu_run (fun _ => rfl) _)))))))) (allc rfl rfl)), _, x70_ok hb5, ?_⟩
      conv => whnf
      obtain rfl := Option.some.inj h
      exact hR _ _ ⟨.inr rfl, _, rfl, _, frz_pure (pu_tup (allc rfl (allc rfl rfl))), rfl⟩
end Go.Proofs.YtbnbjjgagikobaaGreat.Ab

/- MADE BY PROGRAM (ex.py): functions as plain Lean, with their walks. -/
namespace Go.Proofs.YtbnbjjgagikobaaGreat.Ab
open Go
set_option maxRecDepth 20000
set_option maxHeartbeats 4000000
noncomputable def xrc49 : RC :=
  .seq (.reg false [I_ 8 [] (.alloc [.int .i64 0, .lst [] 0 .full, .int .i64 0, .int .i64 0])]) (.seq (.reg false [I_ 9 [.tk 0] .mv, I_ 10 [.tk 3] .mv, I_ 11 [.tk 1] .mv, I_ 12 [.tk 2] .mv, I_ 13 [.tv 9, .tv 10, .tv 11, .tv 12]
  (.build [.int .i64 0, .lst [] 0 .full, .int .i64 0, .int .i64 0] [(0, 1), (1, 1), (2, 1), (3, 1)]), ⟨none, [.sl 8, .tk 13], none, none, .st 4⟩]) .ret)
theorem lxx49 : linkF Tryz.prog ann49 49 = some (xrc49, 14, [.cell 8 (.str 4)]) := by kernel_rfl
/-- crossband/crossbandlaw08.Bed -/
def x49 (openings : Int) (heat : Int) (change : Int) (broken : (List Int)) : Option (Int × (List Int) × Int × Int) :=
  some (openings, broken, heat, change)
theorem x49_ok {openings : Int} {heat : Int} {change : Int} {broken : (List Int)} {v : (Int × (List Int) × Int × Int)} (h : x49 openings heat change broken = some v) : PO 49 [(I openings), (I heat), (I change), (.lst (broken.map I) broken.length .shared)] (.agg [(I v.1), (.lst (v.2.1.map I) v.2.1.length .shared), (I v.2.2.1), (I v.2.2.2)]) := by
  refine fn_pureW hmix lxx49 rfl (pu_agg (allc rfl (allc (pu_map (fun _ => rfl) _ _ _) (allc rfl (allc rfl rfl))))) fun Q hQ => ?_
  have hR : ∀ T H, RetW [.cell 8 (.str 4)] (.agg [(I v.1), (.lst (v.2.1.map I) v.2.1.length .shared), (I v.2.2.1), (I v.2.2.2)]) .ret T H → Q .ret T H := fun T H hh => hQ _ T H hh
  unfold x49 at h
  unfold xrc49
  skip
  conv => whnf
  obtain rfl := Option.some.inj h
  exact hR _ _ ⟨.inr rfl, _, rfl, _, frz_pure (pu_agg (allc rfl (allc (pu_map (fun _ => rfl) _ _ _) (allc rfl (allc rfl rfl))))), rfl⟩
end Go.Proofs.YtbnbjjgagikobaaGreat.Ab

/- MADE BY PROGRAM (ex.py): functions as plain Lean, with their walks. -/
namespace Go.Proofs.YtbnbjjgagikobaaGreat.Ab
open Go
set_option maxRecDepth 20000
set_option maxHeartbeats 4000000
noncomputable def xrc11_1 : RC :=
  .loop (some [o_,i_,i_,o_,o_,o_,o_,o_,o_,i_,o_,o_,o_,o_,i_,i_,i_,o_,o_,o_,o_,o_,o_,o_,o_,o_,o_,o_,o_,o_,o_,o_,o_,o_,o_,o_,o_,o_,o_,o_,o_,o_,o_,o_,o_,o_,o_,o_,o_,o_,o_,o_,o_,o_,o_,o_,o_,o_,o_,o_,o_,o_,o_,o_,o_,o_,o_,o_,o_,o_,o_,o_,o_,o_,o_,o_,o_,o_,o_,o_,o_,o_,o_,o_,o_,o_,o_,o_,o_,o_,o_,o_,o_,o_,o_,o_,o_,o_,o_,o_,o_,o_,o_,o_,o_,o_,o_,o_,o_,o_,o_,o_,o_,o_,o_,o_,o_,o_,o_,o_,o_,o_,o_,o_,o_,o_,o_,o_,o_,o_,o_,o_,o_,o_,o_,o_,o_,o_,o_,o_,o_,o_,o_,o_,o_,o_,o_,o_,o_,o_,o_,o_,o_,o_,o_,o_,o_,o_,o_,o_,o_,o_,o_,o_,o_,o_,o_,o_,o_,o_,o_,o_,o_,o_]) (.seq (.seq (.reg false [I_ 93 [.sl 16] .mv, I_ 94 [.sl 1] .mv, I_ 95 [.tk 94] .lenS, I_ 96 [.tv 93, .tv 95] (.bin
  .lss)]) (.cond (.sl 96) .skip (.exit 0))) (.seq (.block 1 (.seq (.reg false [I_ 99 [.tk 14] .mv, I_ 100 [.sl 1] .mv, I_ 101 [.sl 16] .mv, I_ 102 [.tv 100, .tv 101] (.ia 2), I_ 103 [.tv 102] (.fa 1), I_ 104 [.tv 103] (.ld .one),
  I_ 105 [.tv 99, .tv 104] (.bin .add), I_ 14 [.tk 105] .mv]) (.reg true [I_ 106 [.sl 15] .mv, I_ 107 [.sl 1] .mv, I_ 108 [.sl 16] .mv, I_ 109 [.tv 107, .tv 108] (.ia 2), I_ 110 [.tv 109] (.fa 0), I_ 111 [.tv 110] (.ld .one), I_
  112 [.sl 15] .mv, I_ 113 [.sl 1] .mv, I_ 114 [.sl 16] .mv, I_ 115 [.tv 113, .tv 114] (.ia 2), I_ 116 [.tv 115] (.fa 0), I_ 117 [.tv 116] (.ld .one), I_ 118 [.tv 112, .tv 117] (.ia 1), I_ 119 [.tv 118] (.ld .one), I_ 120 [.sl 1]
  .mv, I_ 121 [.sl 16] .mv, I_ 122 [.tv 120, .tv 121] (.ia 2), I_ 123 [.tv 122] (.fa 1), I_ 124 [.tv 123] (.ld .one), I_ 125 [.tk 119, .tk 124] .max, I_ 126 [.tv 106, .tv 111] (.ia 1), ⟨none, [.tk 126, .tk 125], none, none, .st
  1⟩]))) (.reg false [I_ 97 [.tk 16] .mv, I_ 98 [.tv 97, .cv (.int .i64 1)] (.bin .add), I_ 16 [.tk 98] .mv])))
noncomputable def xrc11_2 : RC :=
  .loop (some [o_,o_,o_,o_,o_,o_,o_,o_,o_,o_,o_,o_,o_,o_,o_,i_,o_,i_,i_,i_,o_,o_,o_,o_,o_,o_,o_,o_,o_,o_,o_,o_,o_,o_,o_,o_,o_,o_,o_,o_,o_,o_,o_,o_,o_,o_,o_,o_,o_,o_,o_,o_,o_,o_,o_,o_,o_,o_,o_,o_,o_,o_,o_,o_,o_,o_,o_,o_,o_,o_,o_,o_,o_,o_,o_,o_,o_,o_,o_,o_,o_,o_,o_,o_,o_,o_,o_,o_,o_,o_,o_,o_,o_,o_,o_,o_,o_,o_,o_,o_,o_,o_,o_,o_,o_,o_,o_,o_,o_,o_,o_,o_,o_,o_,o_,o_,o_,o_,o_,o_,o_,o_,o_,o_,o_,o_,o_,o_,o_,o_,o_,o_,o_,o_,o_,o_,o_,o_,o_,o_,o_,o_,o_,o_,o_,o_,o_,o_,o_,o_,o_,o_,o_,o_,o_,o_,o_,o_,o_,o_,o_,o_,o_,o_,o_,o_,o_,o_,o_,o_,o_,o_,o_,o_]) (.seq (.seq (.reg false [I_ 154 [.sl 19] .mv, I_ 155 [.sl 15] .mv, I_ 156 [.tk 155] .lenS, I_ 157 [.tv 154, .tv 156]
  (.bin .lss)]) (.cond (.sl 157) .skip (.exit 2))) (.seq (.block 3 (.reg false [I_ 160 [.tk 17] .mv, I_ 161 [.sl 15] .mv, I_ 162 [.sl 19] .mv, I_ 163 [.tv 161, .tv 162] (.ia 1), I_ 164 [.tv 163] (.ld .one), I_ 165 [.tv 160, .tv
  164] (.bin .sub), I_ 17 [.tk 165] .mv])) (.reg false [I_ 158 [.tk 19] .mv, I_ 159 [.tv 158, .cv (.int .i64 1)] (.bin .add), I_ 19 [.tk 159] .mv])))
noncomputable def xrc11_3 : RC :=
  .seq (.reg true [I_ 92 [.cv (.int .i64 21), .cv (.int .i64 21)] (.mkS [.int .i64 0] 1 8), I_ 14 [.cv (.int .i64 0)] .mv, I_ 15 [.tk 92] .mv]) (.seq (.seq (.reg false [I_ 16 [.cv (.int .i64 0)] .mv]) (.block 0 xrc11_1)) (.seq
  (.seq (.reg false [I_ 127 [.sl 9] .mv, I_ 128 [.sl 14] .mv, I_ 129 [.tv 127, .tv 128] (.bin .neq), I_ 130 [.tk 129] .mv, ⟨some 131, [.sl 1], some (130, false), none, .mv⟩, ⟨some 132, [.tk 131], some (130, false), none, .lenS⟩,
  ⟨some 133, [.tv 132, .cv (.int .i64 10)], some (130, false), none, .bin .gtr⟩, I_ 134 [.tv 130, .cv (.bool true), .tv 133] .pick]) (.cond (.sl 134) (.seq (.reg false [I_ 135 [.tk 9] .mv, I_ 136 [.tk 14] .mv, I_ 137 [.tv 135,
  .tv 136] (.bin .eql), I_ 138 [.tk 137] .mv, ⟨some 139, [.cv (.func 17 [] [])], some (138, true), none, .call 3⟩, I_ 140 [.tv 138, .tv 139, .cv (.bool false)] .pick, I_ 4 [.tk 140] .mv]) .ret) .skip)) (.seq (.reg false [I_ 142
  [.sl 1] .mv, I_ 143 [.tk 142] .lenS, I_ 144 [.cv (.int .i64 1), .tk 143] .max, I_ 145 [.sl 2] (.fa 2), I_ 146 [.tv 145] (.ld .one), I_ 147 [.tv 2] (.fa 3), I_ 148 [.tv 147] (.ld .one), I_ 149 [.cv (.func 49 [] []), .sl 144, .sl
  146, .sl 148, .cv (.lst [] 0 .full)] (.call 3), I_ 150 [.tk 1] .mv, I_ 151 [.cv (.func 50 [] []), .sl 149, .sl 150] (.call 3), I_ 141 [.tk 151] .mv, I_ 152 [.sl 141] (.ext 0), I_ 153 [.tv 141] (.ext 1), I_ 17 [.tk 152] .mv, I_
  18 [.tk 153] .mv]) (.seq (.seq (.reg false [I_ 19 [.cv (.int .i64 0)] .mv]) (.block 2 xrc11_2)) (.seq (.reg false [I_ 166 [.tk 18] .mv, I_ 167 [.tk 166] .mv, ⟨some 168, [.tk 17], some (167, true), none, .mv⟩, ⟨some 169, [.tv
  168, .cv (.int .i64 0)], some (167, true), none, .bin .eql⟩, I_ 170 [.tv 167, .tv 169, .cv (.bool false)] .pick, I_ 171 [.tk 170] .mv, ⟨some 172, [.cv (.func 17 [] [])], some (171, true), none, .call 3⟩, I_ 173 [.tv 171, .tv
  172, .cv (.bool false)] .pick, I_ 4 [.tk 173] .mv]) .ret)))))
noncomputable def xrc11 : RC :=
  .seq (.reg false [I_ 2 [.tk 0] .box, I_ 4 [.cv (.bool false)] .mv]) (.seq (.seq (.reg false [I_ 20 [.sl 2] (.ld (.str 4)), I_ 21 [.sl 1] .mv, I_ 22 [.cv (.func 45 [] []), .sl 20, .sl 21] (.call 3), I_ 23 [.tv 22] (.un .not)])
  (.cond (.sl 23) (.seq (.reg false [I_ 24 [.cv (.func 17 [] [])] (.call 3), I_ 4 [.tk 24] .mv]) .ret) .skip)) (.seq (.reg false [I_ 26 [.sl 2] (.ld (.str 4)), I_ 27 [.sl 1] .mv, I_ 28 [.cv (.func 50 [] []), .sl 26, .sl 27]
  (.call 3), I_ 25 [.tk 28] .mv, I_ 29 [.sl 25] (.ext 0), I_ 30 [.tv 25] (.ext 1), I_ 5 [.tk 29] .mv, I_ 6 [.tk 30] .mv]) (.seq (.reg false [I_ 32 [.sl 2] (.ld (.str 4)), I_ 33 [.sl 1] .mv, I_ 34 [.cv (.func 40 [] []), .sl 32,
  .sl 33] (.call 3), I_ 31 [.tk 34] .mv, I_ 35 [.sl 31] (.ext 0), I_ 36 [.tv 31] (.ext 1), I_ 7 [.tk 35] .mv, I_ 8 [.tk 36] .mv]) (.seq (.reg false [I_ 38 [.sl 2] (.fa 2), I_ 39 [.tv 38] (.ld .one), I_ 40 [.sl 2] (.fa 3), I_ 41
  [.tv 40] (.ld .one), I_ 42 [.cv (.func 49 [] []), .cv (.int .i64 1), .sl 39, .sl 41, .cv (.lst [] 0 .full)] (.call 3), I_ 43 [.sl 1] .mv, I_ 44 [.cv (.func 50 [] []), .sl 42, .sl 43] (.call 3), I_ 37 [.tk 44] .mv, I_ 45 [.sl
  37] (.ext 0), I_ 46 [.tv 37] (.ext 1), I_ 9 [.tk 45] .mv, I_ 10 [.tk 46] .mv]) (.seq (.seq (.reg false [I_ 47 [.tk 6] .mv, I_ 48 [.tv 47] (.un .not), I_ 49 [.tk 48] .mv, ⟨some 50, [.tk 10], some (49, false), none, .mv⟩, ⟨some
  51, [.tv 50], some (49, false), none, .un .not⟩, I_ 52 [.tv 49, .cv (.bool true), .tv 51] .pick, I_ 53 [.tk 52] .mv, ⟨some 54, [.tk 8], some (53, false), none, .mv⟩, ⟨some 55, [.tv 54, .cv (.int .i64 0)], some (53, false),
  none, .bin .neq⟩, I_ 56 [.tv 53, .cv (.bool true), .tv 55] .pick, I_ 57 [.tk 56] .mv, ⟨some 58, [.sl 7], some (57, false), none, .mv⟩, ⟨some 59, [.tv 58, .cv (.int .i64 0)], some (57, false), none, .bin .lss⟩, I_ 60 [.tv 57,
  .cv (.bool true), .tv 59] .pick, I_ 61 [.tk 60] .mv, ⟨some 62, [.sl 7], some (61, false), none, .mv⟩, ⟨some 63, [.sl 5], some (61, false), none, .mv⟩, ⟨some 64, [.tv 62, .tv 63], some (61, false), none, .bin .gtr⟩, I_ 65 [.tv
  61, .cv (.bool true), .tv 64] .pick]) (.cond (.sl 65) (.seq (.reg false [I_ 4 [.cv (.bool false)] .mv]) .ret) .skip)) (.seq (.reg false [I_ 66 [.sl 2] (.ld (.str 4)), I_ 67 [.cv (.func 51 [] []), .sl 66] (.call 3), I_ 68 [.tk
  67] .lenS, I_ 11 [.tk 68] .mv]) (.seq (.seq (.reg false [I_ 69 [.sl 11] .mv, I_ 70 [.tv 69, .cv (.int .i64 10)] (.bin .lss)]) (.cond (.sl 70) (.seq (.reg false [I_ 72 [.tk 11] .mv, I_ 73 [.tv 72, .cv (.int .i64 1)] (.bin .add),
  I_ 74 [.sl 2] (.fa 2), I_ 75 [.tv 74] (.ld .one), I_ 76 [.sl 2] (.fa 3), I_ 77 [.tv 76] (.ld .one), I_ 78 [.cv (.func 49 [] []), .sl 73, .sl 75, .sl 77, .cv (.lst [] 0 .full)] (.call 3), I_ 79 [.sl 1] .mv, I_ 80 [.cv (.func 50
  [] []), .sl 78, .sl 79] (.call 3), I_ 71 [.tk 80] .mv, I_ 81 [.sl 71] (.ext 0), I_ 82 [.tv 71] (.ext 1), I_ 12 [.tk 81] .mv, I_ 13 [.tk 82] .mv]) (.seq (.reg false [I_ 83 [.tk 13] .mv, I_ 84 [.tv 83] (.un .not), I_ 85 [.tk 84]
  .mv, ⟨some 86, [.tk 12], some (85, false), none, .mv⟩, ⟨some 87, [.tk 5], some (85, false), none, .mv⟩, ⟨some 88, [.tk 7], some (85, false), none, .mv⟩, ⟨some 89, [.tv 87, .tv 88], some (85, false), none, .bin .sub⟩, ⟨some 90,
  [.tv 86, .tv 89], some (85, false), none, .bin .neq⟩, I_ 91 [.tv 85, .cv (.bool true), .tv 90] .pick]) (.cond (.sl 91) (.seq (.reg false [I_ 4 [.cv (.bool false)] .mv]) .ret) .skip))) .skip)) xrc11_3)))))))
theorem lxx11 : linkF Tryz.prog ann11 11 = some (xrc11, 174, [.tmp 4]) := by kernel_rfl
def x11_l2 (panels : (List (Int × Int))) (kl2_0 : Int → (List Int) → Option Bool) : Nat → Int → Int → (List Int) → Option Bool
  | 0, _, _, _ => none
  | m + 1, s1, s2, s3 =>
    if (decide (s2 < (panels.length : Int))) = true then
      gd (0 ≤ s2 ∧ s2 < (panels.length : Int)) <|
      gd (0 ≤ s2 ∧ s2 < (panels.length : Int)) <|
      gd (0 ≤ s2 ∧ s2 < (panels.length : Int)) <|
      gd (0 ≤ (ix panels s2).1 ∧ (ix panels s2).1 < (((21 : Int).toNat : Nat) : Int) ∧ (21 : Int).toNat = s3.length) <|
      gd (0 ≤ s2 ∧ s2 < (panels.length : Int)) <|
      gd (0 ≤ (ix panels s2).1 ∧ (ix panels s2).1 < (((21 : Int).toNat : Nat) : Int) ∧ (21 : Int).toNat = s3.length) <|
      x11_l2 panels kl2_0 m (w (s1 + (ix panels s2).2)) (w (s2 + (1 : Int))) (s3.set ((ix panels s2).1).toNat (max (ix s3 ((ix panels s2).1)) ((ix panels s2).2)))
    else
      kl2_0 s1 s3
def x11_l3 (z2 : (List Int)) (kl3_0 : Int → Option Bool) : Nat → Int → Int → Option Bool
  | 0, _, _ => none
  | m + 1, s4, s5 =>
    if (decide (s5 < (((21 : Int).toNat : Nat) : Int))) = true then
      gd (0 ≤ s5 ∧ s5 < (((21 : Int).toNat : Nat) : Int) ∧ (21 : Int).toNat = z2.length) <|
      x11_l3 z2 kl3_0 m (w (s4 - (ix z2 s5))) (w (s5 + (1 : Int)))
    else
      kl3_0 s4
def x11_j1 (b : (Int × (List Int) × Int × Int)) (panels : (List (Int × Int))) (r5 : (Int × Bool))  : Option Bool :=
  gd (0 ≤ (21 : Int) ∧ (21 : Int) ≤ (21 : Int) ∧ (21 : Int).toNat * 8 ≤ 140737488355328) <|
  x11_l2 panels (fun z1 z2 =>
      if (decide (r5.1 ≠ z1)) = true then
        if (decide (r5.1 = z1)) = true then
          (x17).bind fun r9 =>
          some r9
        else
          some false
      else
        if (decide ((10 : Int) < (panels.length : Int))) = true then
          if (decide (r5.1 = z1)) = true then
            (x17).bind fun r10 =>
            some r10
          else
            some false
        else
          (x49 (max (1 : Int) (panels.length : Int)) b.2.2.1 b.2.2.2 []).bind fun r11 =>
          (x50 r11 panels).bind fun r12 =>
          x11_l3 z2 (fun z3 =>
              if r12.2 = true then
                if (decide (z3 = (0 : Int))) = true then
                  (x17).bind fun r13 =>
                  some r13
                else
                  some false
              else
                some false) FU r12.1 (0 : Int)) FU (0 : Int) (0 : Int) (List.replicate (21 : Int).toNat (0 : Int))
/-- crossband/crossbandlaw08.PressOpenings -/
def x11 (b : (Int × (List Int) × Int × Int)) (panels : (List (Int × Int))) : Option Bool :=
  (x45 b panels).bind fun r1 =>
  if r1 = true then
    (x50 b panels).bind fun r2 =>
    (x40 b panels).bind fun r3 =>
    (x49 (1 : Int) b.2.2.1 b.2.2.2 []).bind fun r4 =>
    (x50 r4 panels).bind fun r5 =>
    if r2.2 = true then
      if r5.2 = true then
        if (decide (r3.2 ≠ (0 : Int))) = true then
          some false
        else
          if (decide (r3.1 < (0 : Int))) = true then
            some false
          else
            if (decide (r2.1 < r3.1)) = true then
              some false
            else
              (x51 b).bind fun r6 =>
              if (decide ((r6.length : Int) < (10 : Int))) = true then
                (x49 (w ((r6.length : Int) + (1 : Int))) b.2.2.1 b.2.2.2 []).bind fun r7 =>
                (x50 r7 panels).bind fun r8 =>
                if r8.2 = true then
                  if (decide (r8.1 ≠ (w (r2.1 - r3.1)))) = true then
                    some false
                  else
                    x11_j1 b panels r5
                else
                  some false
              else
                x11_j1 b panels r5
      else
        some false
    else
      some false
  else
    (x17).bind fun r14 =>
    some r14
theorem x11_l2_ok {panels : (List (Int × Int))} {kl2_0 : Int → (List Int) → Option Bool} {s1 : Int} {s2 : Int} {s3 : (List Int)} {b : (Int × (List Int) × Int × Int)} {r5 : (Int × Bool)} {v : Bool} {Q : Ex → List AV → List AObj → Prop}   (hkl2_0 : ∀ (z1 : Int) (z2 : (List Int)) (u0 : AV) (u4 : AV) (u5 : AV) (u6 : AV) (u7 : AV) (u8 : AV) (u10 : AV) (u11 : AV) (u12 : AV) (u13 : AV) (u16 : AV) (u17 : AV) (u18 : AV) (u19 : AV) (u20 : AV) (u21 : AV) (u22 : AV) (u23 : AV) (u24 : AV) (u25 : AV) (u26 : AV) (u27 : AV) (u28 : AV) (u29 : AV) (u30 : AV) (u31 : AV) (u32 : AV) (u33 : AV) (u34 : AV) (u35 : AV) (u36 : AV) (u37 : AV) (u38 : AV) (u39 : AV) (u40 : AV) (u41 : AV) (u42 : AV) (u43 : AV) (u44 : AV) (u45 : AV) (u46 : AV) (u47 : AV) (u48 : AV) (u49 : AV) (u50 : AV) (u51 : AV) (u52 : AV) (u53 : AV) (u54 : AV) (u55 : AV) (u56 : AV) (u57 : AV) (u58 : AV) (u59 : AV) (u60 : AV) (u61 : AV) (u62 : AV) (u63 : AV) (u64 : AV) (u65 : AV) (u66 : AV) (u67 : AV) (u68 : AV) (u69 : AV) (u70 : AV) (u71 : AV) (u72 : AV) (u73 : AV) (u74 : AV) (u75 : AV) (u76 : AV) (u77 : AV) (u78 : AV) (u79 : AV) (u80 : AV) (u81 : AV) (u82 : AV) (u83 : AV) (u84 : AV) (u85 : AV) (u86 : AV) (u87 : AV) (u88 : AV) (u89 : AV) (u90 : AV) (u91 : AV) (u92 : AV) (u93 : AV) (u94 : AV) (u95 : AV) (u96 : AV) (u97 : AV) (u98 : AV) (u99 : AV) (u100 : AV) (u101 : AV) (u102 : AV) (u103 : AV) (u104 : AV) (u105 : AV) (u106 : AV) (u107 : AV) (u108 : AV) (u109 : AV) (u110 : AV) (u111 : AV) (u112 : AV) (u113 : AV) (u114 : AV) (u115 : AV) (u116 : AV) (u117 : AV) (u118 : AV) (u119 : AV) (u120 : AV) (u121 : AV) (u122 : AV) (u123 : AV) (u124 : AV) (u125 : AV) (u126 : AV) (u127 : AV) (u128 : AV) (u129 : AV) (u130 : AV) (u131 : AV) (u132 : AV) (u133 : AV) (u134 : AV) (u135 : AV) (u136 : AV) (u137 : AV) (u138 : AV) (u139 : AV) (u140 : AV) (u141 : AV) (u142 : AV) (u143 : AV) (u144 : AV) (u145 : AV) (u146 : AV) (u147 : AV) (u148 : AV) (u149 : AV) (u150 : AV) (u151 : AV) (u152 : AV) (u153 : AV) (u154 : AV) (u155 : AV) (u156 : AV) (u157 : AV) (u158 : AV) (u159 : AV) (u160 : AV) (u161 : AV) (u162 : AV) (u163 : AV) (u164 : AV) (u165 : AV) (u166 : AV) (u167 : AV) (u168 : AV) (u169 : AV) (u170 : AV) (u171 : AV) (u172 : AV) (u173 : AV), kl2_0 z1 z2 = some v → Q (.exit 0) [u0, (.lst (panels.flatMap pr) panels.length .shared), (.ptr 0 0), J, u4, u5, u6, u7, u8, (I r5.1), u10, u11, u12, u13, (I z1), (.ref 1 0 (21 : Int).toNat (some (21 : Int).toNat) 1), u16, u17, u18, u19, u20, u21, u22, u23, u24, u25, u26, u27, u28, u29, u30, u31, u32, u33, u34, u35, u36, u37, u38, u39, u40, u41, u42, u43, u44, u45, u46, u47, u48, u49, u50, u51, u52, u53, u54, u55, u56, u57, u58, u59, u60, u61, u62, u63, u64, u65, u66, u67, u68, u69, u70, u71, u72, u73, u74, u75, u76, u77, u78, u79, u80, u81, u82, u83, u84, u85, u86, u87, u88, u89, u90, u91, u92, u93, u94, u95, u96, u97, u98, u99, u100, u101, u102, u103, u104, u105, u106, u107, u108, u109, u110, u111, u112, u113, u114, u115, u116, u117, u118, u119, u120, u121, u122, u123, u124, u125, u126, u127, u128, u129, u130, u131, u132, u133, u134, u135, u136, u137, u138, u139, u140, u141, u142, u143, u144, u145, u146, u147, u148, u149, u150, u151, u152, u153, u154, u155, u156, u157, u158, u159, u160, u161, u162, u163, u164, u165, u166, u167, u168, u169, u170, u171, u172, u173] [AObj.cells [(I b.1), (.lst (b.2.1.map I) b.2.1.length .shared), (I b.2.2.1), (I b.2.2.2)], AObj.cells (z2.map I)]) {T : List AV} (hT : zipKeep [o_,i_,i_,o_,o_,o_,o_,o_,o_,i_,o_,o_,o_,o_,i_,i_,i_,o_,o_,o_,o_,o_,o_,o_,o_,o_,o_,o_,o_,o_,o_,o_,o_,o_,o_,o_,o_,o_,o_,o_,o_,o_,o_,o_,o_,o_,o_,o_,o_,o_,o_,o_,o_,o_,o_,o_,o_,o_,o_,o_,o_,o_,o_,o_,o_,o_,o_,o_,o_,o_,o_,o_,o_,o_,o_,o_,o_,o_,o_,o_,o_,o_,o_,o_,o_,o_,o_,o_,o_,o_,o_,o_,o_,o_,o_,o_,o_,o_,o_,o_,o_,o_,o_,o_,o_,o_,o_,o_,o_,o_,o_,o_,o_,o_,o_,o_,o_,o_,o_,o_,o_,o_,o_,o_,o_,o_,o_,o_,o_,o_,o_,o_,o_,o_,o_,o_,o_,o_,o_,o_,o_,o_,o_,o_,o_,o_,o_,o_,o_,o_,o_,o_,o_,o_,o_,o_,o_,o_,o_,o_,o_,o_,o_,o_,o_,o_,o_,o_,o_,o_,o_,o_,o_,o_] T = slots 174 [(1, (.lst (panels.flatMap pr) panels.length .shared)), (2, (.ptr 0 0)), (9, (I r5.1)), (14, (I s1)), (15, (.ref 1 0 (21 : Int).toNat (some (21 : Int).toNat) 1)), (16, (I s2))]) (h : x11_l2 panels kl2_0 FU s1 s2 s3 = some v) :
    wpR Tryz.prog ann11 11 0 none xrc11_1 T [AObj.cells [(I b.1), (.lst (b.2.1.map I) b.2.1.length .shared), (I b.2.2.1), (I b.2.2.2)], AObj.cells (s3.map I)] Q := by
  unfold xrc11_1
  skip
  refine wp_loop hT ?_
  refine .intro (fun m T H => ∃ (s1 : Int) (s2 : Int) (s3 : (List Int)), T = slots 174 [(1, (.lst (panels.flatMap pr) panels.length .shared)), (2, (.ptr 0 0)), (9, (I r5.1)), (14, (I s1)), (15, (.ref 1 0 (21 : Int).toNat (some (21 : Int).toNat) 1)), (16, (I s2))] ∧ H = [AObj.cells [(I b.1), (.lst (b.2.1.map I) b.2.1.length .shared), (I b.2.2.1), (I b.2.2.2)], AObj.cells (s3.map I)] ∧ x11_l2 panels kl2_0 m s1 s2 s3 = some v) FU ⟨s1, s2, s3, rfl, rfl, h⟩ ?_
  clear h hT
  rintro m T H ⟨s1, s2, s3, rfl, rfl, h⟩
  cases m
  · exact none_ne h
  rename_i m
  rw [x11_l2.eq_2] at h
  conv => whnf
  rcases bt (decide (s2 < (panels.length : Int))) with hb18 | hb18
  · rw [hb18]
    conv => whnf
    replace h := it_t hb18 h
    obtain ⟨hb19, h⟩ := gd_some h
    refine ⟨hb19, ?_⟩
    rw [dropS pr 2 pr_len panels s2 hb19]
    conv => whnf
    obtain ⟨hb20, h⟩ := gd_some h
    refine ⟨hb20, ?_⟩
    rw [dropS pr 2 pr_len panels s2 hb20]
    conv => whnf
    obtain ⟨hb21, h⟩ := gd_some h
    refine ⟨hb21, ?_⟩
    rw [dropS pr 2 pr_len panels s2 hb21]
    conv => whnf
    obtain ⟨hb22, h⟩ := gd_some h
    refine ⟨⟨hb22.1, hb22.2.1⟩, ?_⟩
    replace hb22 : 0 ≤ (ix panels s2).1 ∧ (ix panels s2).1 < (s3.length : Int) := ⟨hb22.1, by have := hb22.2; omega⟩
    conv => whnf
    refine rdD I s3 ((ix panels s2).1) hb22 ?_
    conv => whnf
    obtain ⟨hb23, h⟩ := gd_some h
    refine ⟨hb23, ?_⟩
    rw [dropS pr 2 pr_len panels s2 hb23]
    conv => whnf
    obtain ⟨hb24, h⟩ := gd_some h
    refine ⟨⟨hb24.1, hb24.2.1⟩, ?_⟩
    replace hb24 : 0 ≤ (ix panels s2).1 ∧ (ix panels s2).1 < (s3.length : Int) := ⟨hb24.1, by have := hb24.2; omega⟩
    conv => whnf
    refine updD I s3 ((ix panels s2).1) (max (ix s3 ((ix panels s2).1)) ((ix panels s2).2)) hb24 ?_
    conv => whnf
    exact ⟨m, Nat.lt_succ_self m, (w (s1 + (ix panels s2).2)), (w (s2 + (1 : Int))), (s3.set ((ix panels s2).1).toNat (max (ix s3 ((ix panels s2).1)) ((ix panels s2).2))), rfl, rfl, h⟩
  · rw [hb18]
    conv => whnf
    replace h := it_f hb18 h
    exact hkl2_0 _ _ _ _ _ _ _ _ _ _ _ _ _ _ _ _ _ _ _ _ _ _ _ _ _ _ _ _ _ _ _ _ _ _ _ _ _ _ _ _ _ _ _ _ _ _ _ _ _ _ _ _ _ _ _ _ _ _ _ _ _ _ _ _ _ _ _ _ _ _ _ _ _ _ _ _ _ _ _ _ _ _ _ _ _ _ _ _ _ _ _ _ _ _ _ _ _ _ _ _ _ _ _ _ _ _ _ _ _ _ _ _ _ _ _ _ _ _ _ _ _ _ _ _ _ _ _ _ _ _ _ _ _ _ _ _ _ _ _ _ _ _ _ _ _ _ _ _ _ _ _ _ _ _ _ _ _ _ _ _ _ _ _ _ _ _ _ _ _ _ h
theorem x11_l3_ok {z2 : (List Int)} {kl3_0 : Int → Option Bool} {s4 : Int} {s5 : Int} {r12 : (Int × Bool)} {v : Bool} {Q : Ex → List AV → List AObj → Prop} {o1 : AObj}  (hkl3_0 : ∀ (z3 : Int) (u0 : AV) (u1 : AV) (u2 : AV) (u4 : AV) (u5 : AV) (u6 : AV) (u7 : AV) (u8 : AV) (u9 : AV) (u10 : AV) (u11 : AV) (u12 : AV) (u13 : AV) (u14 : AV) (u15 : AV) (u16 : AV) (u19 : AV) (u20 : AV) (u21 : AV) (u22 : AV) (u23 : AV) (u24 : AV) (u25 : AV) (u26 : AV) (u27 : AV) (u28 : AV) (u29 : AV) (u30 : AV) (u31 : AV) (u32 : AV) (u33 : AV) (u34 : AV) (u35 : AV) (u36 : AV) (u37 : AV) (u38 : AV) (u39 : AV) (u40 : AV) (u41 : AV) (u42 : AV) (u43 : AV) (u44 : AV) (u45 : AV) (u46 : AV) (u47 : AV) (u48 : AV) (u49 : AV) (u50 : AV) (u51 : AV) (u52 : AV) (u53 : AV) (u54 : AV) (u55 : AV) (u56 : AV) (u57 : AV) (u58 : AV) (u59 : AV) (u60 : AV) (u61 : AV) (u62 : AV) (u63 : AV) (u64 : AV) (u65 : AV) (u66 : AV) (u67 : AV) (u68 : AV) (u69 : AV) (u70 : AV) (u71 : AV) (u72 : AV) (u73 : AV) (u74 : AV) (u75 : AV) (u76 : AV) (u77 : AV) (u78 : AV) (u79 : AV) (u80 : AV) (u81 : AV) (u82 : AV) (u83 : AV) (u84 : AV) (u85 : AV) (u86 : AV) (u87 : AV) (u88 : AV) (u89 : AV) (u90 : AV) (u91 : AV) (u92 : AV) (u93 : AV) (u94 : AV) (u95 : AV) (u96 : AV) (u97 : AV) (u98 : AV) (u99 : AV) (u100 : AV) (u101 : AV) (u102 : AV) (u103 : AV) (u104 : AV) (u105 : AV) (u106 : AV) (u107 : AV) (u108 : AV) (u109 : AV) (u110 : AV) (u111 : AV) (u112 : AV) (u113 : AV) (u114 : AV) (u115 : AV) (u116 : AV) (u117 : AV) (u118 : AV) (u119 : AV) (u120 : AV) (u121 : AV) (u122 : AV) (u123 : AV) (u124 : AV) (u125 : AV) (u126 : AV) (u127 : AV) (u128 : AV) (u129 : AV) (u130 : AV) (u131 : AV) (u132 : AV) (u133 : AV) (u134 : AV) (u135 : AV) (u136 : AV) (u137 : AV) (u138 : AV) (u139 : AV) (u140 : AV) (u141 : AV) (u142 : AV) (u143 : AV) (u144 : AV) (u145 : AV) (u146 : AV) (u147 : AV) (u148 : AV) (u149 : AV) (u150 : AV) (u151 : AV) (u152 : AV) (u153 : AV) (u154 : AV) (u155 : AV) (u156 : AV) (u157 : AV) (u158 : AV) (u159 : AV) (u160 : AV) (u161 : AV) (u162 : AV) (u163 : AV) (u164 : AV) (u165 : AV) (u166 : AV) (u167 : AV) (u168 : AV) (u169 : AV) (u170 : AV) (u171 : AV) (u172 : AV) (u173 : AV) (o2 : AObj), kl3_0 z3 = some v → Q (.exit 2) [u0, u1, u2, J, u4, u5, u6, u7, u8, u9, u10, u11, u12, u13, u14, u15, u16, (I z3), (B r12.2), u19, u20, u21, u22, u23, u24, u25, u26, u27, u28, u29, u30, u31, u32, u33, u34, u35, u36, u37, u38, u39, u40, u41, u42, u43, u44, u45, u46, u47, u48, u49, u50, u51, u52, u53, u54, u55, u56, u57, u58, u59, u60, u61, u62, u63, u64, u65, u66, u67, u68, u69, u70, u71, u72, u73, u74, u75, u76, u77, u78, u79, u80, u81, u82, u83, u84, u85, u86, u87, u88, u89, u90, u91, u92, u93, u94, u95, u96, u97, u98, u99, u100, u101, u102, u103, u104, u105, u106, u107, u108, u109, u110, u111, u112, u113, u114, u115, u116, u117, u118, u119, u120, u121, u122, u123, u124, u125, u126, u127, u128, u129, u130, u131, u132, u133, u134, u135, u136, u137, u138, u139, u140, u141, u142, u143, u144, u145, u146, u147, u148, u149, u150, u151, u152, u153, u154, u155, u156, u157, u158, u159, u160, u161, u162, u163, u164, u165, u166, u167, u168, u169, u170, u171, u172, u173] [o1, o2]) {T : List AV} (hT : zipKeep [o_,o_,o_,o_,o_,o_,o_,o_,o_,o_,o_,o_,o_,o_,o_,i_,o_,i_,i_,i_,o_,o_,o_,o_,o_,o_,o_,o_,o_,o_,o_,o_,o_,o_,o_,o_,o_,o_,o_,o_,o_,o_,o_,o_,o_,o_,o_,o_,o_,o_,o_,o_,o_,o_,o_,o_,o_,o_,o_,o_,o_,o_,o_,o_,o_,o_,o_,o_,o_,o_,o_,o_,o_,o_,o_,o_,o_,o_,o_,o_,o_,o_,o_,o_,o_,o_,o_,o_,o_,o_,o_,o_,o_,o_,o_,o_,o_,o_,o_,o_,o_,o_,o_,o_,o_,o_,o_,o_,o_,o_,o_,o_,o_,o_,o_,o_,o_,o_,o_,o_,o_,o_,o_,o_,o_,o_,o_,o_,o_,o_,o_,o_,o_,o_,o_,o_,o_,o_,o_,o_,o_,o_,o_,o_,o_,o_,o_,o_,o_,o_,o_,o_,o_,o_,o_,o_,o_,o_,o_,o_,o_,o_,o_,o_,o_,o_,o_,o_,o_,o_,o_,o_,o_,o_] T = slots 174 [(15, (.ref 1 0 (21 : Int).toNat (some (21 : Int).toNat) 1)), (17, (I s4)), (18, (B r12.2)), (19, (I s5))]) (h : x11_l3 z2 kl3_0 FU s4 s5 = some v) :
    wpR Tryz.prog ann11 11 0 none xrc11_2 T [o1, AObj.cells (z2.map I)] Q := by
  unfold xrc11_2
  skip
  refine wp_loop hT ?_
  refine .intro (fun m T H => ∃ (s4 : Int) (s5 : Int), T = slots 174 [(15, (.ref 1 0 (21 : Int).toNat (some (21 : Int).toNat) 1)), (17, (I s4)), (18, (B r12.2)), (19, (I s5))] ∧ H = [o1, AObj.cells (z2.map I)] ∧ x11_l3 z2 kl3_0 m s4 s5 = some v) FU ⟨s4, s5, rfl, rfl, h⟩ ?_
  clear h hT
  rintro m T H ⟨s4, s5, rfl, rfl, h⟩
  cases m
  · exact none_ne h
  rename_i m
  rw [x11_l3.eq_2] at h
  conv => whnf
  rcases bt (decide (s5 < (((21 : Int).toNat : Nat) : Int))) with hb33 | hb33
  · rw [hb33]
    conv => whnf
    replace h := it_t hb33 h
    obtain ⟨hb34, h⟩ := gd_some h
    refine ⟨⟨hb34.1, hb34.2.1⟩, ?_⟩
    replace hb34 : 0 ≤ s5 ∧ s5 < (z2.length : Int) := ⟨hb34.1, by have := hb34.2; omega⟩
    conv => whnf
    refine rdD I z2 s5 hb34 ?_
    conv => whnf
    exact ⟨m, Nat.lt_succ_self m, (w (s4 - (ix z2 s5))), (w (s5 + (1 : Int))), rfl, rfl, h⟩
  · rw [hb33]
    conv => whnf
    replace h := it_f hb33 h
    exact hkl3_0 _ _ _ _ _ _ _ _ _ _ _ _ _ _ _ _ _ _ _ _ _ _ _ _ _ _ _ _ _ _ _ _ _ _ _ _ _ _ _ _ _ _ _ _ _ _ _ _ _ _ _ _ _ _ _ _ _ _ _ _ _ _ _ _ _ _ _ _ _ _ _ _ _ _ _ _ _ _ _ _ _ _ _ _ _ _ _ _ _ _ _ _ _ _ _ _ _ _ _ _ _ _ _ _ _ _ _ _ _ _ _ _ _ _ _ _ _ _ _ _ _ _ _ _ _ _ _ _ _ _ _ _ _ _ _ _ _ _ _ _ _ _ _ _ _ _ _ _ _ _ _ _ _ _ _ _ _ _ _ _ _ _ _ _ _ _ _ _ _ _ _ _ _ h
theorem x11_j1_ok {b : (Int × (List Int) × Int × Int)} {panels : (List (Int × Int))} {r5 : (Int × Bool)} {v : Bool} {Q : Ex → List AV → List AObj → Prop} {u0 : AV} {u4 : AV} {u5 : AV} {u6 : AV} {u7 : AV} {u8 : AV} {u10 : AV} {u11 : AV} {u12 : AV} {u13 : AV} {u14 : AV} {u15 : AV} {u16 : AV} {u17 : AV} {u18 : AV} {u19 : AV} {u20 : AV} {u21 : AV} {u22 : AV} {u23 : AV} {u24 : AV} {u25 : AV} {u26 : AV} {u27 : AV} {u28 : AV} {u29 : AV} {u30 : AV} {u31 : AV} {u32 : AV} {u33 : AV} {u34 : AV} {u35 : AV} {u36 : AV} {u37 : AV} {u38 : AV} {u39 : AV} {u40 : AV} {u41 : AV} {u42 : AV} {u43 : AV} {u44 : AV} {u45 : AV} {u46 : AV} {u47 : AV} {u48 : AV} {u49 : AV} {u50 : AV} {u51 : AV} {u52 : AV} {u53 : AV} {u54 : AV} {u55 : AV} {u56 : AV} {u57 : AV} {u58 : AV} {u59 : AV} {u60 : AV} {u61 : AV} {u62 : AV} {u63 : AV} {u64 : AV} {u65 : AV} {u66 : AV} {u67 : AV} {u68 : AV} {u69 : AV} {u70 : AV} {u71 : AV} {u72 : AV} {u73 : AV} {u74 : AV} {u75 : AV} {u76 : AV} {u77 : AV} {u78 : AV} {u79 : AV} {u80 : AV} {u81 : AV} {u82 : AV} {u83 : AV} {u84 : AV} {u85 : AV} {u86 : AV} {u87 : AV} {u88 : AV} {u89 : AV} {u90 : AV} {u91 : AV} {u92 : AV} {u93 : AV} {u94 : AV} {u95 : AV} {u96 : AV} {u97 : AV} {u98 : AV} {u99 : AV} {u100 : AV} {u101 : AV} {u102 : AV} {u103 : AV} {u104 : AV} {u105 : AV} {u106 : AV} {u107 : AV} {u108 : AV} {u109 : AV} {u110 : AV} {u111 : AV} {u112 : AV} {u113 : AV} {u114 : AV} {u115 : AV} {u116 : AV} {u117 : AV} {u118 : AV} {u119 : AV} {u120 : AV} {u121 : AV} {u122 : AV} {u123 : AV} {u124 : AV} {u125 : AV} {u126 : AV} {u127 : AV} {u128 : AV} {u129 : AV} {u130 : AV} {u131 : AV} {u132 : AV} {u133 : AV} {u134 : AV} {u135 : AV} {u136 : AV} {u137 : AV} {u138 : AV} {u139 : AV} {u140 : AV} {u141 : AV} {u142 : AV} {u143 : AV} {u144 : AV} {u145 : AV} {u146 : AV} {u147 : AV} {u148 : AV} {u149 : AV} {u150 : AV} {u151 : AV} {u152 : AV} {u153 : AV} {u154 : AV} {u155 : AV} {u156 : AV} {u157 : AV} {u158 : AV} {u159 : AV} {u160 : AV} {u161 : AV} {u162 : AV} {u163 : AV} {u164 : AV} {u165 : AV} {u166 : AV} {u167 : AV} {u168 : AV} {u169 : AV} {u170 : AV} {u171 : AV} {u172 : AV} {u173 : AV}  (hR : ∀ T H, RetW [.tmp 4] (B v) .ret T H → Q .ret T H) (h : x11_j1 b panels r5  = some v) :
    wpR Tryz.prog ann11 11 0 none xrc11_3 [u0, (.lst (panels.flatMap pr) panels.length .shared), (.ptr 0 0), J, u4, u5, u6, u7, u8, (I r5.1), u10, u11, u12, u13, u14, u15, u16, u17, u18, u19, u20, u21, u22, u23, u24, u25, u26, u27, u28, u29, u30, u31, u32, u33, u34, u35, u36, u37, u38, u39, u40, u41, u42, u43, u44, u45, u46, u47, u48, u49, u50, u51, u52, u53, u54, u55, u56, u57, u58, u59, u60, u61, u62, u63, u64, u65, u66, u67, u68, u69, u70, u71, u72, u73, u74, u75, u76, u77, u78, u79, u80, u81, u82, u83, u84, u85, u86, u87, u88, u89, u90, u91, u92, u93, u94, u95, u96, u97, u98, u99, u100, u101, u102, u103, u104, u105, u106, u107, u108, u109, u110, u111, u112, u113, u114, u115, u116, u117, u118, u119, u120, u121, u122, u123, u124, u125, u126, u127, u128, u129, u130, u131, u132, u133, u134, u135, u136, u137, u138, u139, u140, u141, u142, u143, u144, u145, u146, u147, u148, u149, u150, u151, u152, u153, u154, u155, u156, u157, u158, u159, u160, u161, u162, u163, u164, u165, u166, u167, u168, u169, u170, u171, u172, u173] [AObj.cells [(I b.1), (.lst (b.2.1.map I) b.2.1.length .shared), (I b.2.2.1), (I b.2.2.2)]] Q := by
  unfold x11_j1 at h
  unfold xrc11_3
  obtain ⟨c_1, g_1⟩ : ∃ c, xrc11_1 = c := ⟨_, rfl⟩
  rw [g_1]
  obtain ⟨c_2, g_2⟩ : ∃ c, xrc11_2 = c := ⟨_, rfl⟩
  rw [g_2]
  conv => whnf
  obtain ⟨hb17, h⟩ := gd_some h
  refine ⟨hb17.1, hb17.2.1, hb17.2.2, ?_⟩
  rw [replMap I (0 : Int)]
  conv => whnf
  subst g_1
  refine x11_l2_ok ?_ (by exact rfl) h
  intro z1 z2 u0 u4 u5 u6 u7 u8 u10 u11 u12 u13 u16 u17 u18 u19 u20 u21 u22 u23 u24 u25 u26 u27 u28 u29 u30 u31 u32 u33 u34 u35 u36 u37 u38 u39 u40 u41 u42 u43 u44 u45 u46 u47 u48 u49 u50 u51 u52 u53 u54 u55 u56 u57 u58 u59 u60 u61 u62 u63 u64 u65 u66 u67 u68 u69 u70 u71 u72 u73 u74 u75 u76 u77 u78 u79 u80 u81 u82 u83 u84 u85 u86 u87 u88 u89 u90 u91 u92 u93 u94 u95 u96 u97 u98 u99 u100 u101 u102 u103 u104 u105 u106 u107 u108 u109 u110 u111 u112 u113 u114 u115 u116 u117 u118 u119 u120 u121 u122 u123 u124 u125 u126 u127 u128 u129 u130 u131 u132 u133 u134 u135 u136 u137 u138 u139 u140 u141 u142 u143 u144 u145 u146 u147 u148 u149 u150 u151 u152 u153 u154 u155 u156 u157 u158 u159 u160 u161 u162 u163 u164 u165 u166 u167 u168 u169 u170 u171 u172 u173 h
  conv => whnf
  rcases bt (decide (r5.1 ≠ z1)) with hb25 | hb25
  · rw [hb25]
    conv => whnf
    replace h := it_t hb25 h
    rcases bt (decide (r5.1 = z1)) with hb26 | hb26
    · rw [hb26]
      conv => whnf
      replace h := it_t hb26 h
      obtain ⟨r9, hb27, h⟩ := bd_some h
      refine ⟨rfl, _, x17_ok hb27, ?_⟩
      conv => whnf
      obtain rfl := Option.some.inj h
      exact hR _ _ ⟨.inr rfl, _, rfl, _, frz_pure rfl, rfl⟩
    · rw [hb26]
      conv => whnf
      replace h := it_f hb26 h
      obtain rfl := Option.some.inj h
      exact hR _ _ ⟨.inr rfl, _, rfl, _, frz_pure rfl, rfl⟩
  · rw [hb25]
    conv => whnf
    replace h := it_f hb25 h
    rcases bt (decide ((10 : Int) < (panels.length : Int))) with hb28 | hb28
    · rw [hb28]
      conv => whnf
      replace h := it_t hb28 h
      rcases bt (decide (r5.1 = z1)) with hb29 | hb29
      · rw [hb29]
        conv => whnf
        replace h := it_t hb29 h
        obtain ⟨r10, hb30, h⟩ := bd_some h
        refine ⟨rfl, _, x17_ok hb30, ?_⟩
        conv => whnf
        obtain rfl := Option.some.inj h
        exact hR _ _ ⟨.inr rfl, _, rfl, _, frz_pure rfl, rfl⟩
      · rw [hb29]
        conv => whnf
        replace h := it_f hb29 h
        obtain rfl := Option.some.inj h
        exact hR _ _ ⟨.inr rfl, _, rfl, _, frz_pure rfl, rfl⟩
    · rw [hb28]
      conv => whnf
      replace h := it_f hb28 h
      obtain ⟨r11, hb31, h⟩ := bd_some h
      refine ⟨(allc rfl (allc rfl (allc rfl (allc rfl rfl)))), _, x49_ok hb31, ?_⟩
      conv => whnf
      obtain ⟨r12, hb32, h⟩ := bd_some h
      refine ⟨(allc (pu_agg (allc rfl (allc (pu_map (fun _ => rfl) _ _ _) (allc rfl (allc rfl rfl))))) (allc (pu_flat (fun _ => (allc rfl (allc rfl rfl))) _ _ _) rfl)), _, x50_ok hb32, ?_⟩
      conv => whnf
      subst g_2
      refine x11_l3_ok ?_ (by exact rfl) h
      intro z3 u0 u1 u2 u4 u5 u6 u7 u8 u9 u10 u11 u12 u13 u14 u15 u16 u19 u20 u21 u22 u23 u24 u25 u26 u27 u28 u29 u30 u31 u32 u33 u34 u35 u36 u37 u38 u39 u40 u41 u42 u43 u44 u45 u46 u47 u48 u49 u50 u51 u52 u53 u54 u55 u56 u57 u58 u59 u60 u61 u62 u63 u64 u65 u66 u67 u68 u69 u70 u71 u72 u73 u74 u75 u76 u77 u78 u79 u80 u81 u82 u83 u84 u85 u86 u87 u88 u89 u90 u91 u92 u93 u94 u95 u96 u97 u98 u99 u100 u101 u102 u103 u104 u105 u106 u107 u108 u109 u110 u111 u112 u113 u114 u115 u116 u117 u118 u119 u120 u121 u122 u123 u124 u125 u126 u127 u128 u129 u130 u131 u132 u133 u134 u135 u136 u137 u138 u139 u140 u141 u142 u143 u144 u145 u146 u147 u148 u149 u150 u151 u152 u153 u154 u155 u156 u157 u158 u159 u160 u161 u162 u163 u164 u165 u166 u167 u168 u169 u170 u171 u172 u173 o2 h
      conv => whnf
      rcases bt r12.2 with hb35 | hb35
      · rw [hb35]
        conv => whnf
        replace h := it_t hb35 h
        rcases bt (decide (z3 = (0 : Int))) with hb36 | hb36
        · rw [hb36]
          conv => whnf
          replace h := it_t hb36 h
          obtain ⟨r13, hb37, h⟩ := bd_some h
          refine ⟨rfl, _, x17_ok hb37, ?_⟩
          conv => whnf
          obtain rfl := Option.some.inj h
          exact hR _ _ ⟨.inr rfl, _, rfl, _, frz_pure rfl, rfl⟩
        · rw [hb36]
          conv => whnf
          replace h := it_f hb36 h
          obtain rfl := Option.some.inj h
          exact hR _ _ ⟨.inr rfl, _, rfl, _, frz_pure rfl, rfl⟩
      · rw [hb35]
        conv => whnf
        replace h := it_f hb35 h
        obtain rfl := Option.some.inj h
        exact hR _ _ ⟨.inr rfl, _, rfl, _, frz_pure rfl, rfl⟩
theorem x11_ok {b : (Int × (List Int) × Int × Int)} {panels : (List (Int × Int))} {v : Bool} (h : x11 b panels = some v) : PO 11 [(.agg [(I b.1), (.lst (b.2.1.map I) b.2.1.length .shared), (I b.2.2.1), (I b.2.2.2)]), (.lst (panels.flatMap pr) panels.length .shared)] (B v) := by
  refine fn_pureW hmix lxx11 rfl rfl fun Q hQ => ?_
  have hR : ∀ T H, RetW [.tmp 4] (B v) .ret T H → Q .ret T H := fun T H hh => hQ _ T H hh
  unfold x11 at h
  unfold xrc11
  obtain ⟨c_3, g_3⟩ : ∃ c, xrc11_3 = c := ⟨_, rfl⟩
  rw [g_3]
  conv => whnf
  obtain ⟨r1, hb1, h⟩ := bd_some h
  refine ⟨(allc (pu_agg (allc rfl (allc (pu_map (fun _ => rfl) _ _ _) (allc rfl (allc rfl rfl))))) (allc (pu_flat (fun _ => (allc rfl (allc rfl rfl))) _ _ _) rfl)), _, x45_ok hb1, ?_⟩
  conv => whnf
  cases r1
  · conv => whnf
    replace h := it_f rfl h
    obtain ⟨r14, hb38, h⟩ := bd_some h
    refine ⟨rfl, _, x17_ok hb38, ?_⟩
    conv => whnf
    obtain rfl := Option.some.inj h
    exact hR _ _ ⟨.inr rfl, _, rfl, _, frz_pure rfl, rfl⟩
  · conv => whnf
    replace h := it_t rfl h
    obtain ⟨r2, hb2, h⟩ := bd_some h
    refine ⟨(allc (pu_agg (allc rfl (allc (pu_map (fun _ => rfl) _ _ _) (allc rfl (allc rfl rfl))))) (allc (pu_flat (fun _ => (allc rfl (allc rfl rfl))) _ _ _) rfl)), _, x50_ok hb2, ?_⟩
    conv => whnf
    obtain ⟨r3, hb3, h⟩ := bd_some h
    refine ⟨(allc (pu_agg (allc rfl (allc (pu_map (fun _ => rfl) _ _ _) (allc rfl (allc rfl rfl))))) (allc (pu_flat (fun _ => (allc rfl (allc rfl rfl))) _ _ _) rfl)), _, x40_ok hb3, ?_⟩
    conv => whnf
    obtain ⟨r4, hb4, h⟩ := bd_some h
    refine ⟨(allc rfl (allc rfl (allc rfl (allc rfl rfl)))), _, x49_ok hb4, ?_⟩
    conv => whnf
    obtain ⟨r5, hb5, h⟩ := bd_some h
    refine ⟨(allc (pu_agg (allc rfl (allc (pu_map (fun _ => rfl) _ _ _) (allc rfl (allc rfl rfl))))) (allc (pu_flat (fun _ => (allc rfl (allc rfl rfl))) _ _ _) rfl)), _, x50_ok hb5, ?_⟩
    conv => whnf
    rcases bt r2.2 with hb6 | hb6
    · rw [hb6]
      conv => whnf
      replace h := it_t hb6 h
      rcases bt r5.2 with hb7 | hb7
      · rw [hb7]
        conv => whnf
        replace h := it_t hb7 h
        rcases bt (decide (r3.2 ≠ (0 : Int))) with hb8 | hb8
        · rw [hb8]
          conv => whnf
          replace h := it_t hb8 h
          obtain rfl := Option.some.inj h
          exact hR _ _ ⟨.inr rfl, _, rfl, _, frz_pure rfl, rfl⟩
        · rw [hb8]
          conv => whnf
          replace h := it_f hb8 h
          rcases bt (decide (r3.1 < (0 : Int))) with hb9 | hb9
          · rw [hb9]
            conv => whnf
            replace h := it_t hb9 h
            obtain rfl := Option.some.inj h
            exact hR _ _ ⟨.inr rfl, _, rfl, _, frz_pure rfl, rfl⟩
          · rw [hb9]
            conv => whnf
            replace h := it_f hb9 h
            rcases bt (decide (r2.1 < r3.1)) with hb10 | hb10
            · rw [hb10]
              conv => whnf
              replace h := it_t hb10 h
              obtain rfl := Option.some.inj h
              exact hR _ _ ⟨.inr rfl, _, rfl, _, frz_pure rfl, rfl⟩
            · rw [hb10]
              conv => whnf
              replace h := it_f hb10 h
              obtain ⟨r6, hb11, h⟩ := bd_some h
              refine ⟨(allc (pu_agg (allc rfl (allc (pu_map (fun _ => rfl) _ _ _) (allc rfl (allc rfl rfl))))) rfl), _, x51_ok hb11, ?_⟩
              conv => whnf
              rcases bt (decide ((r6.length : Int) < (10 : Int))) with hb12 | hb12
              · rw [hb12]
                conv => whnf
                replace h := it_t hb12 h
                obtain ⟨r7, hb13, h⟩ := bd_some h
                refine ⟨(allc rfl (allc rfl (allc rfl (allc rfl rfl)))), _, x49_ok hb13, ?_⟩
                conv => whnf
                obtain ⟨r8, hb14, h⟩ := bd_some h
                refine ⟨(allc (pu_agg (allc rfl (allc (pu_map (fun _ => rfl) _ _ _) (allc rfl (allc rfl rfl))))) (allc (pu_flat (fun _ => (allc rfl (allc rfl rfl))) _ _ _) rfl)), _, x50_ok hb14, ?_⟩
                conv => whnf
                rcases bt r8.2 with hb15 | hb15
                · rw [hb15]
                  conv => whnf
                  replace h := it_t hb15 h
                  rcases bt (decide (r8.1 ≠ (w (r2.1 - r3.1)))) with hb16 | hb16
                  · rw [hb16]
                    conv => whnf
                    replace h := it_t hb16 h
                    obtain rfl := Option.some.inj h
                    exact hR _ _ ⟨.inr rfl, _, rfl, _, frz_pure rfl, rfl⟩
                  · rw [hb16]
                    conv => whnf
                    replace h := it_f hb16 h
                    subst g_3
                    refine x11_j1_ok ?_ h
                    exact fun T H hh => hR T H hh
                · rw [hb15]
                  conv => whnf
                  replace h := it_f hb15 h
                  obtain rfl := Option.some.inj h
                  exact hR _ _ ⟨.inr rfl, _, rfl, _, frz_pure rfl, rfl⟩
              · rw [hb12]
                conv => whnf
                replace h := it_f hb12 h
                subst g_3
                refine x11_j1_ok ?_ h
                exact fun T H hh => hR T H hh
      · rw [hb7]
        conv => whnf
        replace h := it_f hb7 h
        obtain rfl := Option.some.inj h
        exact hR _ _ ⟨.inr rfl, _, rfl, _, frz_pure rfl, rfl⟩
    · rw [hb6]
      conv => whnf
      replace h := it_f hb6 h
      obtain rfl := Option.some.inj h
      exact hR _ _ ⟨.inr rfl, _, rfl, _, frz_pure rfl, rfl⟩
end Go.Proofs.YtbnbjjgagikobaaGreat.Ab

/-
  The plain law of PressOpenings.
-/
namespace Go.Proofs.YtbnbjjgagikobaaGreat.Ab
open Go
set_option maxRecDepth 20000
set_option maxHeartbeats 4000000
theorem swo_down : Sort.SWO (fun x y : Int => decide (y < x)) := by
  constructor <;> intros <;> simp_all <;> omega
theorem down_perm (l : List Int) : (down l).Perm l := by
  obtain ⟨⟨h1, _, h3⟩, _⟩ := Sort.insertionSort_holds (lt := fun x y : Int => decide (y < x)) swo_down l.toArray 0 l.length (Nat.zero_le _) (by simp)
  unfold down
  generalize Sort.insertionSort (fun x y : Int => decide (y < x)) l.toArray 0 l.length = d at h1 h3
  have e1 : (d.extract 0 l.length).toList = d.toList := by
    have : l.length = d.size := by rw [h1]; simp
    rw [this]; simp
  have e2 : (l.toArray.extract 0 l.length).toList = l := by simp
  rwa [e1, e2] at h3
/-- The one at this place, or none. -/
def dn (l : List Int) (i : Nat) : Int := (down l).getD i 0
theorem dn_get {l : List Int} {i : Nat} (h : i < l.length) : dn l i = (down l)[i]'(by rw [down_len]; exact h) := by
  unfold dn; rw [List.getD_eq_getElem?_getD, List.getElem?_eq_getElem (by rw [down_len]; exact h)]; rfl
theorem dn_out {l : List Int} {i : Nat} (h : l.length ≤ i) : dn l i = 0 := by
  unfold dn; rw [List.getD_eq_getElem?_getD, List.getElem?_eq_none (by rw [down_len]; exact h)]; rfl
theorem dn_mono {l : List Int} (h0 : ∀ x ∈ l, 0 ≤ x) {i j : Nat} (hij : i ≤ j) : dn l j ≤ dn l i ∧ 0 ≤ dn l j := by
  have hin : ∀ k, 0 ≤ dn l k := fun k => by
    by_cases h : k < l.length
    · rw [dn_get h]; exact h0 _ ((down_perm l).mem_iff.1 (List.getElem_mem _))
    · rw [dn_out (by omega)]; exact Int.le_refl _
  refine ⟨?_, hin j⟩
  by_cases hj : j < l.length
  · by_cases e : i = j
    · subst e; exact Int.le_refl _
    · obtain ⟨⟨h1, _, _⟩, h4⟩ := Sort.insertionSort_holds (lt := fun x y : Int => decide (y < x)) swo_down l.toArray 0 l.length (Nat.zero_le _) (by simp)
      have h5 := h4 i j (Nat.zero_le _) (by omega) hj
      have hs : (Sort.insertionSort (fun x y : Int => decide (y < x)) l.toArray 0 l.length).size = l.length := by rw [ins_size]; simp
      rw [getElem!_pos _ i (by omega), getElem!_pos _ j (by omega)] at h5
      rw [dn_get hj, dn_get (by omega : i < l.length)]
      unfold down
      simp only [Array.getElem_toList]
      simpa using h5
  · rw [dn_out (by omega)]; exact hin i
theorem head_dn {n : Nat} (hn : 0 < n) (l : List Int) (j : Nat) : ((l.drop (j * n)).take n).headD 0 = l.getD (j * n) 0 := by
  obtain ⟨k, rfl⟩ : ∃ k, n = k + 1 := ⟨n - 1, by omega⟩
  rw [List.getD_eq_getElem?_getD]
  have : l[j * (k + 1)]? = (l.drop (j * (k + 1)))[0]? := by rw [List.getElem?_drop]; rfl
  rw [this]
  cases l.drop (j * (k + 1)) with
  | nil => rfl
  | cons a r => rfl
theorem hH_dn {n : Nat} (hn : 0 < n) (l : List Int) : hH n l = ((List.range ((l.length + n - 1) / n)).map fun j => dn l (j * n)).sum := by
  unfold hH heads chunks
  rw [List.map_map, down_len]
  congr 1
  apply List.map_congr_left
  intro j _
  exact head_dn hn _ j
theorem sum_range_le {f g : Nat → Int} : ∀ {c c' : Nat}, c' ≤ c → (∀ j, j < c' → f j ≤ g j) → (∀ j, j < c → 0 ≤ g j) → ((List.range c').map f).sum ≤ ((List.range c).map g).sum
  | 0, c', h, _, _ => by obtain rfl : c' = 0 := by omega
                         exact Int.le_refl _
  | c + 1, c', h, h1, h2 => by
    have e : ((List.range (c + 1)).map g).sum = ((List.range c).map g).sum + g c := by rw [List.range_succ, List.map_append, List.sum_append]; simp
    rw [e]
    by_cases hc : c' = c + 1
    · subst hc
      have e2 : ((List.range (c + 1)).map f).sum = ((List.range c).map f).sum + f c := by rw [List.range_succ, List.map_append, List.sum_append]; simp
      have := sum_range_le (f := f) (g := g) (Nat.le_refl c) (fun j hj => h1 j (by omega)) (fun j hj => h2 j (by omega))
      have := h1 c (by omega)
      omega
    · have := sum_range_le (f := f) (g := g) (show c' ≤ c by omega) h1 (fun j hj => h2 j (by omega))
      have := h2 c (by omega)
      omega
theorem hH_mono {n n' : Nat} (hn : 0 < n) (hnn : n ≤ n') {l : List Int} (h0 : ∀ x ∈ l, 0 ≤ x) : hH n' l ≤ hH n l := by
  rw [hH_dn hn, hH_dn (by omega)]
  refine sum_range_le ?_ (fun j _ => (dn_mono h0 (Nat.mul_le_mul_left j hnn)).1) (fun j _ => (dn_mono h0 (Nat.le_refl _)).2)
  apply Nat.le_of_not_lt
  intro hlt
  have := (chunks_lt (k := l.length) (by omega)).1 hlt
  have h2 := (chunks_lt (k := l.length) hn (j := (l.length + n - 1) / n)).2 (Nat.lt_of_le_of_lt (Nat.mul_le_mul_left _ hnn) this)
  omega
theorem perm_sum {a b : List Int} (h : a.Perm b) : a.sum = b.sum := by
  induction h with
  | nil => rfl
  | cons x _ ih => rw [List.sum_cons, List.sum_cons, ih]
  | swap x y l => simp only [List.sum_cons]; omega
  | trans _ _ h1 h2 => exact h1.trans h2
theorem hH_one (l : List Int) : hH 1 l = l.sum := by
  rw [hH_dn (by omega), ← perm_sum (down_perm l)]
  congr 1
  rw [show (l.length + 1 - 1) / 1 = (down l).length by rw [down_len]; simp]
  apply List.ext_getElem
  · simp
  · intro i h1 h2
    rw [List.getElem_map, List.getElem_range, Nat.mul_one, dn_get (by simpa [down_len] using h2)]
theorem hH_many {n : Nat} {l : List Int} (hn : 0 < n) (h : l.length ≤ n) : hH n l = dn l 0 := by
  rw [hH_dn hn]
  cases l with
  | nil => rw [dn_out (Nat.zero_le _)]; simp; rw [Nat.div_eq_of_lt (by omega)]; rfl
  | cons a l =>
    have : ((a :: l).length + n - 1) / n = 1 := by
      simp only [List.length_cons] at h ⊢
      rw [Nat.div_eq_iff hn]; omega
    rw [this]; simp
end Go.Proofs.YtbnbjjgagikobaaGreat.Ab

/-
  PressOpenings.
-/
namespace Go.Proofs.YtbnbjjgagikobaaGreat.Ab
open Go
set_option maxRecDepth 20000
set_option maxHeartbeats 4000000
/-- The greatest one, or none. -/
def max0 (l : List Int) : Int := l.foldl max 0
theorem max0_go (l : List Int) : ∀ a : Int, (a ≤ l.foldl max a ∧ ∀ x ∈ l, x ≤ l.foldl max a) ∧ (l.foldl max a = a ∨ l.foldl max a ∈ l) := by
  induction l with
  | nil => intro a; simp
  | cons x l ih =>
    intro a
    obtain ⟨⟨h1, h2⟩, h3⟩ := ih (max a x)
    rw [List.foldl_cons]
    refine ⟨⟨by omega, fun y hy => ?_⟩, ?_⟩
    · rcases List.mem_cons.1 hy with rfl | hy
      · omega
      · exact h2 y hy
    · rcases h3 with h3 | h3
      · rw [h3]
        by_cases h : a ≤ x
        · right; rw [show max a x = x by omega]; simp
        · left; omega
      · right; exact List.mem_cons_of_mem _ h3
theorem dn_max (l : List Int) (h0 : ∀ x ∈ l, 0 ≤ x) : dn l 0 = max0 l := by
  obtain ⟨⟨h1, h2⟩, h3⟩ := max0_go l 0
  have hu : ∀ x ∈ l, x ≤ dn l 0 := by
    intro x hx
    obtain ⟨i, hi, rfl⟩ := List.mem_iff_getElem.1 ((down_perm l).mem_iff.2 hx)
    have := (dn_mono h0 (Nat.zero_le i)).1
    rw [dn_get (show i < l.length by rw [down_len] at hi; exact hi)] at this
    exact this
  have hm : l = [] ∨ dn l 0 ∈ l := by
    cases l with
    | nil => exact .inl rfl
    | cons a l => right; rw [dn_get (by simp)]; exact (down_perm _).mem_iff.1 (List.getElem_mem _)
  have hd := (dn_mono h0 (Nat.le_refl 0)).2
  unfold max0
  rcases hm with rfl | hm
  · rw [dn_out (by simp)]; rfl
  · have h4 := h2 _ hm
    rcases h3 with h3 | h3
    · omega
    · have := hu _ h3; omega
theorem hrs_snoc (ps : List (Int × Int)) (p : Int × Int) (h : Int) : hrs (ps ++ [p]) h = hrs ps h ++ (if p.1 = h then [p.2] else []) := by
  unfold hrs
  rw [List.filter_append, List.map_append]
  by_cases e : p.1 = h <;> simp [e]
/-- The greatest hours of each heat. -/
def lng (ps : List (Int × Int)) : List Int := (List.range 21).map fun (h : Nat) => max0 (hrs ps (h : Int))
theorem lng_len (ps : List (Int × Int)) : (lng ps).length = 21 := by simp [lng]
theorem lng_get (ps : List (Int × Int)) {i : Nat} (h : i < (lng ps).length) : (lng ps)[i] = max0 (hrs ps (i : Int)) := by simp [lng]
theorem lng_ix (ps : List (Int × Int)) {z : Int} (h : 0 ≤ z ∧ z ≤ 20) : ix (lng ps) z = max0 (hrs ps z) := by
  obtain ⟨n, rfl⟩ : ∃ n : Nat, z = n := ⟨z.toNat, by omega⟩
  rw [ix_nat (by rw [lng_len]; omega), lng_get]
theorem lng_snoc (ps : List (Int × Int)) (p : Int × Int) (hp : 0 ≤ p.1 ∧ p.1 ≤ 20) : lng (ps ++ [p]) = (lng ps).set p.1.toNat (max (ix (lng ps) p.1) p.2) := by
  apply List.ext_getElem
  · simp [lng_len]
  · intro i h1 h2
    simp only [lng_ix ps hp]
    rw [lng_get, hrs_snoc, List.getElem_set]
    have hi : i < 21 := by rw [lng_len] at h1; exact h1
    by_cases e : p.1 = (i : Int)
    · rw [if_pos e, if_pos (by omega), ← e]
      unfold max0; rw [List.foldl_append]; rfl
    · rw [if_neg e, if_neg (by omega), List.append_nil, lng_get]
/-- All Hours together. -/
def tot (ps : List (Int × Int)) : Int := (ps.map (·.2)).sum
theorem tot_snoc (ps : List (Int × Int)) (p : Int × Int) : tot (ps ++ [p]) = tot ps + p.2 := by unfold tot; rw [List.map_append, List.sum_append]; simp
theorem tot_le {ps : List (Int × Int)} (h : hrsOk ps) : 0 ≤ tot ps ∧ tot ps ≤ 24 * ps.length := sum_le ps h
theorem x11_l2_eq {ps : List (Int × Int)} (hp : PsOk ps) {k : Int → List Int → Option Bool} : ∀ (m i : Nat) (z : Int), z = i → i ≤ ps.length → ps.length - i < m → x11_l2 ps k m (tot (ps.take i)) z (lng (ps.take i)) = k (tot ps) (lng ps)
  | 0, i, _, _, _, h => absurd h (by omega)
  | m + 1, i, _, rfl, hi, hm => by
    rw [x11_l2]
    have hl := hp.len
    by_cases hlt : i < ps.length
    · have ih := x11_l2_eq hp (k := k) m (i + 1) _ rfl (by omega) (by omega)
      have hh := hp.heat _ (List.getElem_mem hlt)
      have hr := hp.hour _ (List.getElem_mem hlt)
      have ht := tot_le (ps := ps.take i) fun p h => hp.hrs p (List.mem_of_mem_take h)
      rw [List.length_take] at ht
      rw [List.take_add_one, List.getElem?_eq_getElem hlt, Option.toList_some, lng_snoc _ _ hh, tot_snoc] at ih
      have hg : 0 ≤ ps[i].1 ∧ ps[i].1 < (((21 : Int).toNat : Nat) : Int) ∧ (21 : Int).toNat = (lng (ps.take i)).length := ⟨by omega, by have : (((21 : Int).toNat : Nat) : Int) = 21 := rfl; omega, by rw [lng_len]; rfl⟩
      rw [iflt hlt, gdi hlt, gdi hlt, gdi hlt, ix_nat hlt, gd_pos hg, gdi hlt, gd_pos hg, w_succ i (by omega), w_id (by omega), ih]
    · obtain rfl : i = ps.length := by omega
      rw [ifge hlt, List.take_length]
theorem x11_l3_eq {ps : List (Int × Int)} (hp : PsOk ps) {N : Nat} (hN : ps.length ≤ N ∧ 0 < N) {k : Int → Option Bool} : ∀ (m i : Nat) (z : Int), z = i → i ≤ 21 → 21 - i < m → x11_l3 (lng ps) k m (hSum N ps 21 - hSum N ps i) z = k 0
  | 0, i, _, _, _, h => absurd h (by omega)
  | m + 1, i, _, rfl, hi, hm => by
    rw [x11_l3]
    have e21 : (((21 : Int).toNat : Nat) : Int) = 21 := rfl
    by_cases h : i < 21
    · have h1 := hSum_in (n := N) hN.2 hp 21
      have h2 := hSum_in (n := N) hN.2 hp i
      have h3 := hH_le (n := N) hN.2 (hrs_in hp.hrs (i : Int))
      have h4 : (hrs ps (i : Int)).length ≤ ps.length := by unfold hrs; rw [List.length_map]; exact List.length_filter_le _ _
      have hl := hp.len
      have e5 : max0 (hrs ps (i : Int)) = hH N (hrs ps (i : Int)) := by
        rw [hH_many hN.2 (by omega), dn_max _ fun x hx => (hrs_in hp.hrs _ x hx).1]
      have ih := x11_l3_eq hp hN (k := k) m (i + 1) _ rfl (by omega) (by omega)
      rw [hSum_succ _ _ i] at ih
      rw [if_pos (decide_eq_true (by omega)), gd_pos ⟨by omega, by omega, by rw [lng_len]; rfl⟩, lng_ix ps (by omega), e5, w_id (by omega), w_succ i (by omega), ← ih]
      congr 1
      omega
    · obtain rfl : i = 21 := by omega
      rw [if_neg (by decide), Int.sub_self]
theorem sum_hrs (ps : List (Int × Int)) (h : ∀ p ∈ ps, 0 ≤ p.1) : ∀ i, ((List.range i).map fun (h : Nat) => (hrs ps (h : Int)).sum).sum = tot (ps.filter fun p => decide (p.1 < (i : Int)))
  | 0 => by
    rw [List.filter_eq_nil_iff.2 fun p hp => by have := h p hp; simp; omega]; rfl
  | i + 1 => by
    rw [List.range_succ, List.map_append, List.sum_append, sum_hrs ps h i]
    simp only [List.map_cons, List.map_nil, List.sum_cons, List.sum_nil, Int.add_zero]
    unfold hrs tot
    clear h
    induction ps with
    | nil => rfl
    | cons p ps ih =>
      rw [List.filter_cons, List.filter_cons, List.filter_cons]
      by_cases h1 : p.1 < (i : Int)
      · rw [if_pos (decide_eq_true h1), if_neg (by simp; omega), if_pos (by simp; omega)]; simp only [List.map_cons, List.sum_cons]; omega
      · by_cases h2 : p.1 = (i : Int)
        · rw [if_neg (by simp; omega), if_pos (decide_eq_true h2), if_pos (by simp; omega)]; simp only [List.map_cons, List.sum_cons]; omega
        · rw [if_neg (by simp; omega), if_neg (by simp; omega), if_neg (by simp; omega)]; exact ih
theorem hSum_single {ps : List (Int × Int)} (hp : PsOk ps) : hSum 1 ps 21 = tot ps := by
  unfold hSum
  have := sum_hrs ps (fun p h => (hp.heat p h).1) 21
  rw [List.filter_eq_self.2 fun p h => by have := hp.heat p h; simp; omega] at this
  rw [← this]
  congr 1
  exact List.map_congr_left fun h _ => hH_one _
theorem hSum_mono {n n' : Nat} (hn : 0 < n) (hnn : n ≤ n') {ps : List (Int × Int)} (h : hrsOk ps) : ∀ i, hSum n' ps i ≤ hSum n ps i
  | 0 => Int.le_refl _
  | i + 1 => by
    have := hSum_mono hn hnn h i
    have := hH_mono hn hnn (fun x hx => (hrs_in h (i : Int) x hx).1)
    rw [hSum_succ, hSum_succ]; omega
theorem x40_eq {b : Bed} (hb : bErr b = 0) (hl : b.2.1.length ≤ 20) {ps : List (Int × Int)} (hp : PsOk ps) : x40 b ps = some (hSum (wn b) ps 21 - hSum (wn b + 1) ps 21, 0) := by
  have hw := wn_pos (bedOk hb)
  have h1 := hSum_in (n := wn b) (by omega) hp 21
  have h2 := hSum_in (n := wn b + 1) (by omega) hp 21
  rw [x40, x69_eq hb hl hp, Option.bind_some]
  show (if (decide ((0 : Int) ≠ (0 : Int))) = true then _ else _) = _
  rw [if_neg (by decide)]
  have e1 := x70_eq (x := (b, ps, wholeL b.1.toNat b.2.1, wantL ps)) (N := wn b) ⟨by omega, by omega⟩ hp
  have e2 := x70_eq (x := (b, ps, wholeL b.1.toNat b.2.1, wantL ps)) (N := wn b + 1) ⟨by omega, by omega⟩ hp
  show (x70 (b, ps, wholeL b.1.toNat b.2.1, wantL ps) (wn b : Int)).bind (fun r2 => (x70 (b, ps, wholeL b.1.toNat b.2.1, wantL ps) (w ((wn b : Int) + 1))).bind fun r3 => some (w (r2 - r3), (0 : Int))) = _
  rw [w_succ (wn b) (by omega), e1, e2, Option.bind_some, Option.bind_some]
  show some (w (hSum (wn b) ps 21 - hSum (wn b + 1) ps 21), (0 : Int)) = _
  rw [w_id (by omega)]
theorem bErr_of {o h c : Int} (ho : 1 ≤ o ∧ o ≤ 10) (hh : 0 ≤ h ∧ h ≤ 20) (hc : 0 ≤ c ∧ c ≤ 10) : bErr (o, [], h, c) = 0 := by
  show bedErr o [] h c = 0
  unfold bedErr
  have e1 : outOf 1 10 o = false := outOf_false.2 ho
  have e2 : outOf 0 20 h = false := outOf_false.2 hh
  have e3 : outOf 0 10 c = false := outOf_false.2 hc
  simp [e1, e2, e3, riseGo]
  omega
theorem wn_of (o : Nat) (h c : Int) : wn ((o : Int), [], h, c) = o := by
  unfold wn wholeL wholeN
  simp [List.filter_eq_self.2]
end Go.Proofs.YtbnbjjgagikobaaGreat.Ab

/-
  PressOpenings, the last step of the plain law.
-/
namespace Go.Proofs.YtbnbjjgagikobaaGreat.Ab
open Go
set_option maxRecDepth 20000
set_option maxHeartbeats 4000000
theorem x50_of {b : Bed} (hb : BedOk b) {ps : List (Int × Int)} (hp : PsOk ps) {N : Nat} (hN : 1 ≤ N ∧ N ≤ 10) {o : Int} (ho : o = N) : x50 (o, [], b.2.2.1, b.2.2.2) ps = some (hSum N ps 21, true) := by
  subst ho
  have := x50_eq (b := ((N : Int), [], b.2.2.1, b.2.2.2)) (bErr_of ⟨by omega, by omega⟩ hb.h0 hb.c0) (by simp) hp
  rw [wn_of] at this
  exact this
theorem x11_j1_eq {b : Bed} (hb : BedOk b) {ps : List (Int × Int)} (hp : PsOk ps) : x11_j1 b ps (tot ps, true) = some true := by
  have hl := hp.len
  rw [x11_j1, gd_pos ⟨by decide, by decide, by decide⟩]
  have e := fun k => x11_l2_eq hp (k := k) FU 0 0 rfl (Nat.zero_le _) (FU_lt (by omega))
  refine (e _).trans ?_
  show (if decide (tot ps ≠ tot ps) = true then _ else if decide ((10 : Int) < (ps.length : Int)) = true then (if decide (tot ps = tot ps) = true then (x17).bind (fun r10 => some r10) else some false) else _) = _
  rw [if_neg (by simp)]
  by_cases h : 10 < ps.length
  · rw [if_pos (decide_eq_true (by omega)), if_pos (decide_eq_true rfl)]; rfl
  · rw [if_neg (by rw [decide_eq_true_eq]; omega)]
    have e1 : x49 (max (1 : Int) (ps.length : Int)) b.2.2.1 b.2.2.2 [] = some (max (1 : Int) (ps.length : Int), [], b.2.2.1, b.2.2.2) := rfl
    rw [e1, Option.bind_some, x50_of hb hp (N := max 1 ps.length) ⟨by omega, by omega⟩ (by omega), Option.bind_some]
    have e2 := fun k => x11_l3_eq hp (N := max 1 ps.length) ⟨by omega, by omega⟩ (k := k) FU 0 0 rfl (by omega) (FU_lt (by omega))
    have e3 := e2 (fun z3 => if (true : Bool) = true then (if decide (z3 = (0 : Int)) = true then (x17).bind fun r13 => some r13 else some false) else some false)
    rw [show hSum (max 1 ps.length) ps 0 = 0 from rfl, Int.sub_zero] at e3
    exact e3
theorem x11_eq (b : Bed) (ps : List (Int × Int)) : x11 b ps = some true := by
  rw [x11]
  obtain ⟨r, hr, hf⟩ := x45_eq b ps
  rw [hr, Option.bind_some]
  cases r with
  | false => rw [if_neg (by decide)]; rfl
  | true =>
    obtain ⟨hl, hb, hp⟩ := hf rfl
    have hB := bedOk hb
    have hw := wn_pos hB
    have h1 := hSum_in (n := wn b) (by omega) hp 21
    have h2 := hSum_in (n := wn b + 1) (by omega) hp 21
    have h3 := hSum_mono (n := wn b) (n' := wn b + 1) (by omega) (by omega) hp.hrs 21
    have e4 : x49 (1 : Int) b.2.2.1 b.2.2.2 [] = some ((1 : Int), [], b.2.2.1, b.2.2.2) := rfl
    rw [if_pos rfl, x50_eq hb hl hp, Option.bind_some, x40_eq hb hl hp, Option.bind_some, e4, Option.bind_some, x50_of hB hp (N := 1) ⟨by omega, by omega⟩ (o := 1) rfl, Option.bind_some, if_pos rfl, if_pos rfl, hSum_single hp]
    dsimp only
    rw [if_neg (by simp), if_neg (by simp only [decide_eq_true_eq]; omega), if_neg (by simp only [decide_eq_true_eq]; omega), x51_eq b ⟨by have := hB.o1; omega, by have := hB.o10; omega⟩ (by omega), Option.bind_some]
    show (if decide ((wn b : Int) < 10) = true then _ else _) = _
    by_cases h : wn b < 10
    · rw [if_pos (decide_eq_true (by omega))]
      have e7 : x49 (w ((wn b : Int) + 1)) b.2.2.1 b.2.2.2 [] = some (((wn b + 1 : Nat) : Int), [], b.2.2.1, b.2.2.2) := by rw [w_succ _ (by omega)]; rfl
      refine Eq.trans (congrArg (fun x => Option.bind x _) e7) ?_
      rw [Option.bind_some, x50_of hB hp (N := wn b + 1) ⟨by omega, by omega⟩ rfl, Option.bind_some, if_pos rfl]
      dsimp only
      rw [w_id (by omega), if_neg (by simp only [decide_eq_true_eq]; omega), x11_j1_eq hB hp]
    · rw [if_neg (by rw [decide_eq_true_eq]; omega), x11_j1_eq hB hp]
theorem pressOpenings_ok (b : Bed) (ps : List (Int × Int)) : PO 11 [.agg [I b.1, L1 b.2.1, I b.2.2.1, I b.2.2.2], PL ps] (B true) := x11_ok (x11_eq b ps)
end Go.Proofs.YtbnbjjgagikobaaGreat.Ab
