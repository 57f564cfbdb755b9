/-
  Contracts: all orders, all seams.
-/
import Derived.Test.YtlcebaejlnpdeaaJa5
import Derived.Test.YtlcebaejlnpdeaaJa3
import Derived.Test.YtlcebaejlnpdeaaJa4
set_option linter.unusedSimpArgs false
set_option linter.unusedVariables false
set_option linter.unusedSectionVars false
namespace Go.Proofs.Ytlcebaejlnpdeaa.Ab
open Go
set_option maxRecDepth 20000

theorem flat_take {β : Type} (g : Nat → List β) (i : Nat) : (List.range (i + 1)).flatMap g = (List.range i).flatMap g ++ g i := by
  rw [List.range_succ, List.flatMap_append]; simp
theorem U2_app (a b : List (List Int)) : AV.lst (a.map L1 ++ b.map L1) (a.length + b.length) (.uniq 1) = U2 (a ++ b) := by simp [U2]
theorem nsnoc (b : List Int) (x : Int) (c : Cap) : AV.lst (repl 0 [AV.int .i64 0] ++ b.map I ++ AV.int .i64 x :: List.append [] (repl 0 [AV.int .i64 0])) (0 + b.length + 1) c = .lst ((b ++ [x]).map I) (b ++ [x]).length c := by
  simp [repl]
theorem grown_ok (n : Nat) (hn : n ≤ 5) : ∀ (f : Nat) (b : List Int), b.length + f = n → PO 103 [I n, L1 b] (O2 (grow n f b))
  | 0, b, h => by
    obtain rfl : b.length = n := by omega
    refine fn_pure hmix lk103 rfl (pu2 _ _ _) ?_
    unfold rc103
    conv => whnf
    rw [deqr]
    conv => whnf
    exact ret_own (.inr rfl) (pu2 _ _ _) (.inr rfl)
  | f + 1, b, h => by
    refine fn_pure hmix lk103 rfl (pu2 _ _ _) ?_
    unfold rc103
    conv => whnf
    rw [decide_eq_false (by omega)]
    conv => whnf
    refine .intro (CI (fun i => slots 33 [(0, I n), (1, L1 b), (5, U2 ((List.range i).flatMap fun (i : Nat) => if has b i = true then [] else grow n f (b ++ [(i : Int)]))), (6, I i)]) n []) n (ci0 rfl) ?_
    rintro m T H ⟨i, hi, rfl, rfl, rfl⟩
    conv => whnf
    refine dcase (fun h3 => ?_) (fun h3 => ?_)
    · have hlt : i < n := by omega
      have e := flat_take (fun (i : Nat) => if has b i = true then [] else grow n f (b ++ [(i : Int)])) i
      conv => whnf
      refine ⟨by first | rfl | simp only [List.all_cons, List.all_nil, pu0, pub, pu1, pu2, pu1', pu2', pun, puf, puP, puP', puQ, puQ', Bool.and_true, Bool.and_self], _, rhas_ok b i (by omega), ?_⟩
      conv => whnf
      cases h5 : has b i with
      | true =>
        conv => whnf
        exact ciN hlt (by rw [e, if_pos h5, List.append_nil, ← wrapS i (by omega)] <;> rfl)
      | false =>
        have g1 := flatMap_len (fun (i : Nat) => if has b i = true then [] else grow n f (b ++ [(i : Int)])) 3125 (List.range i) fun i _ => by
          split
          · simp
          · exact Nat.le_trans (grow_len n f _) (pow_le hn (by omega))
        rw [List.length_range] at g1
        have g2 := Nat.le_trans (grow_len n f (b ++ [(i : Int)])) (pow_le hn (show f ≤ 5 by omega))
        conv => whnf
        refine ⟨by simp, by omega, ?_⟩
        conv => whnf
        refine ⟨by simp, ?_⟩
        conv => whnf
        refine ⟨by omega, ?_⟩
        conv => whnf
        refine ⟨rfl, by decide, rfl, by omega, ?_⟩
        conv => whnf
        rw [nsnoc]
        refine ⟨by first | rfl | simp only [List.all_cons, List.all_nil, pu0, pub, pu1, pu2, pu1', pu2', pun, puf, puP, puP', puQ, puQ', Bool.and_true, Bool.and_self], _, grown_ok n hn f (b ++ [(i : Int)]) (by simp; omega), ?_⟩
        conv => whnf
        refine ⟨by simp, by omega, ?_⟩
        conv => whnf
        refine ⟨by simp, ?_⟩
        conv => whnf
        refine ⟨by omega, ?_⟩
        conv => whnf
        exact ciN hlt (by rw [e, if_neg (by simp [h5]), ← U2_app, ← wrapS i (by omega)] <;> rfl)
    · obtain rfl : i = n := by omega
      conv => whnf
      exact ret_own (.inr rfl) (pu2 _ _ _) (.inr rfl)
theorem allOrders_ok (n : Nat) (hn : n ≤ 5) : PO 80 [I n] (O2 (perms n)) := by
  refine fn_pure hmix lk80 rfl (pu2 _ _ _) ?_
  unfold rc80
  conv => whnf
  refine ⟨by first | rfl | simp only [List.all_cons, List.all_nil, pu0, pub, pu1, pu2, pu1', pu2', pun, puf, puP, puP', puQ, puQ', Bool.and_true, Bool.and_self], _, grown_ok n hn n [] (by simp), ?_⟩
  conv => whnf
  exact ret_own (.inr rfl) (pu2 _ _ _) (.inl rfl)
theorem perm_inL {layer : List Int} (hs : Sm layer) {o : List Int} (h : o ∈ perms layer.length) (h5 : layer.length ≤ 5) : InL layer o := by
  obtain ⟨h1, h2, _⟩ := perms_mem h
  exact ⟨hs, by omega, h2⟩
theorem allSeams_ok (layer : List Int) (hs : Sm layer) (h5 : layer.length ≤ 5) : PO 81 [L1 layer] (O2 (seamA layer)) := by
  have hp := perms_len h5
  refine fn_pure hmix lk81 rfl (pu2 _ _ _) ?_
  unfold rc81
  conv => whnf
  refine ⟨by first | rfl | simp only [List.all_cons, List.all_nil, pu0, pub, pu1, pu2, pu1', pu2', pun, puf, puP, puP', puQ, puQ', Bool.and_true, Bool.and_self], _, allOrders_ok layer.length h5, ?_⟩
  conv => whnf
  unfold seamA
  have hmem : ∀ o ∈ perms layer.length, InL layer o := fun o ho => perm_inL hs ho h5
  generalize perms layer.length = ps at hp hmem
  refine .intro (CI (fun i => slots 25 [(0, L1 layer), (3, O2 ps), (4, U2 ((ps.take i).map (seamsOf layer))), (5, I i)]) ps.length []) ps.length (ci0 rfl) ?_
  rintro m T H ⟨i, hi, rfl, rfl, rfl⟩
  conv => whnf
  refine dcase (fun h3 => ?_) (fun h3 => ?_)
  · have hlt : i < ps.length := by omega
    conv => whnf
    refine ⟨by omega, ?_⟩
    conv => whnf
    refine nthM _ _ _ (hlt) ?_
    conv => whnf
    refine ⟨by first | rfl | simp only [List.all_cons, List.all_nil, pu0, pub, pu1, pu2, pu1', pu2', pun, puf, puP, puP', puQ, puQ', Bool.and_true, Bool.and_self], _, seamsOf_ok layer ps[i] (hmem _ (List.getElem_mem hlt)), ?_⟩
    conv => whnf
    have hll : ((ps.take i).map (seamsOf layer)).length ≤ i := by simp; omega
    refine ⟨rfl, by decide, rfl, by omega, ?_⟩
    conv => whnf
    exact ciN hlt (by rw [List.take_succ_eq_append_getElem hlt, List.map_append, List.map_singleton, ← U2_snoc, ← wrapS i (by omega)] <;> rfl)
  · obtain rfl : i = ps.length := by omega
    conv => whnf
    exact ret_own (.inr rfl) (pu2 _ _ _) (.inr (by rw [List.take_length]; rfl))
end Go.Proofs.Ytlcebaejlnpdeaa.Ab

/-
  Contracts: the definitions' fewest meetings.
-/
namespace Go.Proofs.Ytlcebaejlnpdeaa.Ab
open Go
set_option maxRecDepth 20000
set_option maxHeartbeats 4000000

abbrev nilF : AV := .lst [] 0 .full
/-- A row of figures that hands out. -/
def F2 (l : List (List Int)) : AV := .lst (l.map L1) l.length .full
/-- The table: rows from t on are there. -/
def bh (p : List (List Int)) (t : Nat) : List AV := (List.range p.length).map fun j => if j < t then nilF else O1 (costs (p.drop j))
theorem bh_len (p : List (List Int)) (t : Nat) : (bh p t).length = p.length := by simp [bh]
theorem bh_get (p : List (List Int)) (t j : Nat) (h : j < p.length) : (bh p t)[j]? = some (if j < t then nilF else O1 (costs (p.drop j))) := by
  simp [bh, h]
theorem bh_get1 (p : List (List Int)) (t : Nat) (h : t < p.length) : (bh p t)[t]? = some (O1 (costs (p.drop t))) := by
  rw [bh_get p t t h, if_neg (by omega)]
theorem bh_set (p : List (List Int)) (t : Nat) (h : t < p.length) : (bh p (t + 1)).set t (O1 (costs (p.drop t))) = bh p t := by
  apply List.ext_getElem?
  intro j
  by_cases hj : j < p.length
  · rw [List.getElem?_set, bh_len]
    by_cases e : t = j
    · subst e; rw [if_pos rfl, if_pos hj, bh_get1 p t hj]
    · rw [if_neg e, bh_get p _ j hj, bh_get p _ j hj]
      by_cases h1 : j < t
      · rw [if_pos h1, if_pos (by omega)]
      · rw [if_neg h1, if_neg (by omega)]
  · rw [List.getElem?_eq_none (by simp [bh]; omega), List.getElem?_eq_none (by simp [bh]; omega)]
/-- The row that grows. -/
def cellk (l : List Int) (k : Nat) : AV := if k = 0 then nilF else O1 (l.take k)
theorem repl1 (z : AV) : ∀ n : Nat, repl n [z] = List.replicate n z
  | 0 => rfl
  | n + 1 => by simp [repl, repl1 z n, List.replicate_succ]
theorem repl_I (n : Nat) : repl n [AV.int .i64 0] = (List.replicate n (0 : Int)).map I := by
  rw [repl1]; simp
theorem bh_all (p : List (List Int)) : repl p.length [nilF] = bh p p.length := by
  rw [repl1]
  apply List.ext_getElem?
  intro j
  by_cases hj : j < p.length
  · rw [bh_get p _ j hj, if_pos hj]; simp [hj]
  · rw [List.getElem?_eq_none (by simp; omega), List.getElem?_eq_none (by simp [bh]; omega)]
theorem cellk_set (p : List (List Int)) (t k : Nat) (h : t < p.length) : ((bh p (t + 1)).set t (cellk (costs (p.drop t)) k))[t]? = some (cellk (costs (p.drop t)) k) := by
  rw [List.getElem?_set, bh_len, if_pos rfl, if_pos h]
theorem cellk_succ (C : List Int) (k : Nat) (h : k < C.length) : cellk C (k + 1) = .lst ((C.take k).map I ++ (AV.int .i64 C[k] :: List.append [] (repl 0 [AV.int .i64 0]))) ((C.take k).length + 1) (.own 1) := by
  unfold cellk
  rw [if_neg (by omega), List.take_succ_eq_append_getElem h]
  simp only [O1, List.map_append, List.map_cons, List.map_nil, List.length_append, List.length_singleton]
  rfl
theorem cellk_all (C : List Int) (n : Nat) (h : 0 < n) (hn : C.length = n) : cellk C n = O1 C := by
  unfold cellk
  rw [if_neg (by omega), List.take_of_length_le (by omega)]
/-- At the head of a loop that counts, and writes. -/
def CH (F : Nat → List AV) (G : Nat → List AObj) (n : Nat) (m : Nat) (T : List AV) (H : List AObj) : Prop := ∃ i, i ≤ n ∧ m = n - i ∧ T = F i ∧ H = G i
theorem ch0 {F : Nat → List AV} {G : Nat → List AObj} {n : Nat} {T : List AV} {H : List AObj} (h : T = F 0) (h2 : H = G 0) : CH F G n n T H := ⟨0, Nat.zero_le _, rfl, h, h2⟩
theorem chN {F : Nat → List AV} {G : Nat → List AObj} {n : Nat} {i : Nat} {T : List AV} {H : List AObj} (h : i < n) (hT : T = F (i + 1)) (hH : H = G (i + 1)) : ∃ m', m' < n - i ∧ CH F G n m' T H :=
  ⟨n - (i + 1), by omega, i + 1, by omega, rfl, hT, hH⟩
theorem bh_nil (p : List (List Int)) (t : Nat) (l : List Int) (h : t < p.length) : bh p (t + 1) = (bh p (t + 1)).set t (cellk l 0) := by
  apply List.ext_getElem?
  intro j
  rw [List.getElem?_set, bh_len]
  by_cases e : t = j
  · subst e; rw [if_pos rfl, if_pos h, bh_get p _ t h, if_pos (by omega)]; rfl
  · rw [if_neg e]
theorem set_ne {l : List AV} {i j : Nat} {v : AV} (h : i ≠ j) : (l.set i v)[j]? = l[j]? := by rw [List.getElem?_set, if_neg h]
theorem O1_zero (l : List (List Int)) : AV.lst (repl l.length [AV.int .i64 0]) l.length (.own 1) = O1 (l.map fun _ => 0) := by
  rw [repl_I]; simp [O1, List.map_const']
theorem bh_zero (p : List (List Int)) : (bh p 0).map AV.view = ((List.range p.length).map fun i => costs (p.drop i)).map L1 := by
  simp only [bh, List.map_map]
  apply List.map_congr_left
  intro i _
  rfl
theorem pureD_lists (l : List (List Int)) : (l.map L1).all (pureD 7) = true := pure_lists 5 l
/-- A row that is handed out. -/
theorem frz_ref {H : List AObj} {id n d : Nat} {l : List AV} (h : H[id]? = some (.cells l)) (hl : l.length = n) (hp : (l.map AV.view).all (pureD d) = true) : frz H 0 H.length 0 (d + 1) (.ref id 0 n (some n) 1) = some (.lst (l.map AV.view) n .full) := by
  have h1 := (List.getElem?_eq_some_iff.1 h).1
  have h2 : mapO (frz H 0 H.length 0 d) (l.map AV.view) = some (l.map AV.view) := mapO_id fun u hu => frz_pure (by rw [List.all_eq_true] at hp; exact hp u hu)
  have h3 : rowOf H (.ref id 0 n (some n) 1) = some (l.map AV.view) := by
    simp only [rowOf, h, Nat.zero_add, Nat.mul_one, hl, Nat.le_refl, if_true, List.drop_zero]
    rw [List.take_of_length_le (by omega)]
  simp only [frz, Nat.not_lt_zero, if_false, h3, h2, Option.map_some, frzCap, if_true]
  rw [if_neg (by omega)]
theorem behind_ok (p : List (List Int)) (hv : Val p) : PO 79 [P1 p] (F2 ((List.range p.length).map fun i => costs (p.drop i))) := by
  have h2 := hv.n2
  have h4 := hv.n4
  refine fn_pure hmix lk79 rfl (pu2 _ _ _) ?_
  unfold rc79
  conv => whnf
  refine ⟨by omega, by omega, by omega, ?_⟩
  conv => whnf
  have w1 : IntKind.i64.wrap ((p.length : Int) - 1) = ((p.length - 1 : Nat) : Int) := by rw [wrapI _ (by omega) (by omega)]; omega
  rw [w1]
  refine ⟨by omega, ?_⟩
  conv => whnf
  refine nthM _ _ _ ((show p.length - 1 < p.length by omega)) ?_
  conv => whnf
  have hl5 := hv.s5 _ (List.getElem_mem (show p.length - 1 < p.length by omega))
  have hl1 := hv.s1 _ (List.getElem_mem (show p.length - 1 < p.length by omega))
  have hpp := perms_pos hl1 hl5
  have hpl := perms_len hl5
  refine ⟨by first | rfl | simp only [List.all_cons, List.all_nil, pu0, pub, pu1, pu2, pu1', pu2', pun, puf, puP, puP', puQ, puQ', Bool.and_true, Bool.and_self], _, allOrders_ok p[p.length - 1].length hl5, ?_⟩
  conv => whnf
  refine ⟨rfl, by omega, by omega, ?_⟩
  conv => whnf
  refine ⟨by omega, ?_⟩
  conv => whnf
  refine updK_of (by rw [repl1]; simp; omega) ?_
  conv => whnf
  rw [show IntKind.i64.wrap ((p.length : Int) - 2) = ((p.length - 1 : Nat) : Int) - 1 by rw [wrapI _ (by omega) (by omega)]; omega]
  refine .intro (fun m T H => ∃ t, t < p.length ∧ m = t ∧ T = slots 92 [(1, .ptr 0 0), (4, .ref 1 0 p.length (some p.length) 1), (5, I ((t : Int) - 1))] ∧ H = [.cells [L2 p], .cells (bh p t)]) (p.length - 1) ⟨p.length - 1, by omega, rfl, rfl, ?_⟩ ?_
  · have e := bh_set p (p.length - 1) (by omega)
    rw [show p.length - 1 + 1 = p.length by omega, ← bh_all, costs_last p (by omega)] at e
    rw [← e]
    rw [← O1_zero]
    show [AObj.cells [L2 p], AObj.cells ((repl p.length [nilF]).set (0 + ((p.length - 1 : Nat) : Int).toNat * 1) _)] = _
    rw [show 0 + ((p.length - 1 : Nat) : Int).toNat * 1 = p.length - 1 by omega]
    rfl
  rintro t T H ⟨_, ht, rfl, rfl, rfl⟩
  conv => whnf
  refine dcase (fun h => ?_) (fun h => ?_)
  · obtain ⟨t, rfl⟩ : ∃ t', t = t' + 1 := ⟨t - 1, by omega⟩
    rw [show (((t + 1 : Nat) : Int) - 1) = (t : Int) by omega]
    have ht' : t < p.length := by omega
    have a5 := hv.s5 _ (List.getElem_mem ht')
    have a1 := hv.s1 _ (List.getElem_mem ht')
    have b5 := hv.s5 _ (List.getElem_mem ht)
    conv => whnf
    refine ⟨by omega, ?_⟩
    conv => whnf
    refine nthM _ _ _ (ht') ?_
    conv => whnf
    refine ⟨by first | rfl | simp only [List.all_cons, List.all_nil, pu0, pub, pu1, pu2, pu1', pu2', pun, puf, puP, puP', puQ, puQ', Bool.and_true, Bool.and_self], _, allSeams_ok p[t] (hv.sm (List.getElem_mem ht')) a5, acc0, ?_⟩
    conv => whnf
    rw [wrapS t (by omega)]
    refine ⟨by omega, ?_⟩
    conv => whnf
    refine nthM _ _ _ (ht) ?_
    conv => whnf
    refine ⟨by first | rfl | simp only [List.all_cons, List.all_nil, pu0, pub, pu1, pu2, pu1', pu2', pun, puf, puP, puP', puQ, puQ', Bool.and_true, Bool.and_self], _, allSeams_ok p[t + 1] (hv.sm (List.getElem_mem ht)) b5, acc1 fun _ h => ?_, ?_⟩
    · simp only [List.cons.injEq, and_true] at h
      rw [L1_inj (a := p[t]) (b := p[t + 1]) h]
    conv => whnf
    have hc := costs_drop p t ht
    have hcl := costs_dlen p (t + 1) ht
    have hcb := costs_bound (p.drop (t + 1))
    have hnl : (seamA p[t + 1]).length = (perms p[t + 1].length).length := by simp [seamA]
    have hol : (seamA p[t]).length = (perms p[t].length).length := by simp [seamA]
    have hpo := perms_len a5
    have hpn := perms_len b5
    have hp1 := perms_pos a1 a5
    have hq : ∀ s ∈ seamA p[t], s.length ≤ 4 := fun s hs => by
      obtain ⟨o, ho, rfl⟩ := List.mem_map.1 hs
      rw [seamsOf_length, (perms_mem ho).1]; omega
    have hq2 : ∀ s ∈ seamA p[t + 1], s.length ≤ 4 := fun s hs => by
      obtain ⟨o, ho, rfl⟩ := List.mem_map.1 hs
      rw [seamsOf_length, (perms_mem ho).1]; omega
    generalize seamA p[t] = own at hc hol hq ⊢
    generalize seamA p[t + 1] = nx at hc hnl hq2 ⊢
    have hget := bh_get p (t + 1) (t + 1) ht
    rw [if_neg (by omega)] at hget
    generalize hcd : costs (p.drop (t + 1)) = c at hc hcl hcb hget ⊢
    have hco : (costs (p.drop t)).length = own.length := by rw [hc]; simp
    have hset := fun k => cellk_set p t k ht'
    have hbs := bh_set p t ht'
    have hb0 := bh_nil p t (costs (p.drop t)) ht'
    generalize costs (p.drop t) = C at hc hco hset hbs hb0
    have hbl := bh_len p (t + 1)
    generalize bh p (t + 1) = R at hget hset hbs hb0 hbl ⊢
    refine .intro (CH (fun k => slots 92 [(1, .ptr 0 0), (4, .ref 1 0 p.length (some p.length) 1), (5, I t), (6, O2 own), (7, O2 nx), (8, I k)]) (fun k => [.cells [L2 p], .cells (R.set t (cellk C k))]) own.length) own.length (ch0 rfl (by rw [← hb0])) ?_
    rintro m T H ⟨k, hk, rfl, rfl, rfl⟩
    conv => whnf
    refine dcase (fun h5 => ?_) (fun h5 => ?_)
    · have hkt : k < own.length := by omega
      conv => whnf
      refine .intro (CI (fun j => slots 92 [(1, .ptr 0 0), (4, .ref 1 0 p.length (some p.length) 1), (5, I t), (6, O2 own), (7, O2 nx), (8, I k), (9, I (((List.zip nx c).take j).foldl (fun m x => min m ((common own[k] x.1 : Int) + x.2)) 100)), (10, I j)]) nx.length [.cells [L2 p], .cells (R.set t (cellk C k))]) nx.length (ci0 rfl) ?_
      rintro m T H ⟨j, hj, rfl, rfl, rfl⟩
      conv => whnf
      refine dcase (fun h6 => ?_) (fun h6 => ?_)
      · have hjt : j < nx.length := by omega
        have hjc : j < c.length := by omega
        have cb := hcb _ (List.getElem_mem hjc)
        have cl := common_le own[k] nx[j]
        have ol := hq _ (List.getElem_mem hkt)
        conv => whnf
        refine ⟨by omega, ?_⟩
        conv => whnf
        refine nthM _ _ _ (hkt) ?_
        conv => whnf
        refine ⟨by omega, ?_⟩
        conv => whnf
        refine nthM _ _ _ (hjt) ?_
        conv => whnf
        refine ⟨by first | rfl | simp only [List.all_cons, List.all_nil, pu0, pub, pu1, pu2, pu1', pu2', pun, puf, puP, puP', puQ, puQ', Bool.and_true, Bool.and_self], _, common_ok own[k] nx[j] (by omega) (by have := hq2 _ (List.getElem_mem hjt); omega), acc0, ?_⟩
        conv => whnf
        rw [wrapS t (by omega)]
        refine ⟨by omega, ?_⟩
        conv => whnf
        refine nthK_of (x := O1 c) (by rw [show 0 + ((t + 1 : Nat) : Int).toNat * 1 = t + 1 by omega, set_ne (by omega)]; exact hget) ?_
        conv => whnf
        refine ⟨by omega, ?_⟩
        conv => whnf
        refine nthM _ _ _ (hjc) ?_
        conv => whnf
        rw [wrapI _ (by omega) (by omega)]
        have hz : j < (List.zip nx c).length := by simp; omega
        exact ciN hjt (by rw [foldl_take _ _ _ j hz, List.getElem_zip, ← wrapS j (by omega)] <;> rfl)
      · obtain rfl : j = nx.length := by omega
        rw [show (List.zip nx c).take nx.length = List.zip nx c by rw [List.take_of_length_le]; simp; omega]
        have hmin : List.foldl (fun m (x : List Int × Int) => min m ((common own[k] x.1 : Int) + x.2)) 100 (List.zip nx c) = C[k]'(by omega) := by
          simp only [hc, List.getElem_map]; rfl
        rw [hmin]
        conv => whnf
        refine ⟨by omega, ?_⟩
        conv => whnf
        refine nthK_of (x := cellk C k) (by rw [show 0 + (t : Int).toNat * 1 = t by omega]; exact hset k) ?_
        have htk : C.take (k + 1) = C.take k ++ [C[k]'(by omega)] := List.take_succ_eq_append_getElem (by omega)
        cases k with
        | zero =>
          conv => whnf
          refine ⟨rfl, by omega, by omega, by omega, rfl, ?_⟩
          conv => whnf
          refine ⟨by omega, ?_⟩
          conv => whnf
          refine updK_of (by rw [List.length_set, hbl]; omega) ?_
          conv => whnf
          exact chN hkt (by rw [← wrapS 0 (by omega)] <;> rfl) (by rw [show 0 + (t : Int).toNat * 1 = t by omega, cellk_succ C 0 (by omega)]; simp only [List.set_set, List.set_cons_succ, List.set_cons_zero]; rfl)
        | succ k =>
          have hct : (C.take (k + 1)).length ≤ k + 1 := List.length_take_le _ _
          conv => whnf
          refine ⟨rfl, by decide, rfl, by omega, ?_⟩
          conv => whnf
          refine ⟨by omega, ?_⟩
          conv => whnf
          refine updK_of (by rw [List.length_set, List.length_set, hbl]; omega) ?_
          conv => whnf
          exact chN hkt (by rw [← wrapS (k + 1) (by omega)] <;> rfl) (by rw [show 0 + (t : Int).toNat * 1 = t by omega, cellk_succ C (k + 1) (by omega)]; simp only [List.set_set, List.set_cons_succ, List.set_cons_zero])
    · obtain rfl : k = own.length := by omega
      conv => whnf
      refine ⟨t, by omega, t, ht', rfl, ?_, ?_⟩
      · rw [wrapI _ (by omega) (by omega)]
        rfl
      · rw [← hbs]
        show [AObj.cells [L2 p], AObj.cells (R.set t (cellk C own.length))] = _
        rw [cellk_all C own.length (by omega) (by omega)]
  · obtain rfl : t = 0 := by omega
    conv => whnf
    refine ⟨.inr rfl, _, rfl, F2 ((List.range p.length).map fun i => costs (p.drop i)), ?_, .inl rfl⟩
    have hb := bh_zero p
    have := frz_ref (H := [AObj.cells [L2 p], AObj.cells (bh p 0)]) (id := 1) (d := 7) (n := p.length) rfl (bh_len p 0) (by rw [hb]; exact pureD_lists _)
    rw [hb] at this
    show frz [AObj.cells [L2 p], AObj.cells (bh p 0)] 0 2 0 8 (.ref 1 0 p.length (some p.length) 1) = _
    rw [show frz [AObj.cells [L2 p], AObj.cells (bh p 0)] 0 2 0 8 (.ref 1 0 p.length (some p.length) 1) = _ from this]
    simp [F2]
end Go.Proofs.Ytlcebaejlnpdeaa.Ab

/-
  Contracts: the definitions' Fewest, Orders, Pair.
-/
namespace Go.Proofs.Ytlcebaejlnpdeaa.Ab
open Go
set_option maxRecDepth 20000
set_option maxHeartbeats 4000000

/-- The table of figures. -/
def table (p : List (List Int)) : List (List Int) := (List.range p.length).map fun i => costs (p.drop i)
theorem table_get (p : List (List Int)) (i : Nat) (h : i < p.length) : ∃ h' : i < (table p).length, (table p)[i] = costs (p.drop i) := ⟨by simp [table, h], by simp [table]⟩
theorem fewestOf_ok (p : List (List Int)) (hv : Val p) : PO 78 [P1 p] (I (fewestOf p)) := by
  have h2 := hv.n2
  have h4 := hv.n4
  refine fn_pure hmix lk78 rfl rfl ?_
  unfold rc78
  conv => whnf
  refine ⟨by first | rfl | simp only [List.all_cons, List.all_nil, pu0, pub, pu1, pu2, pu1', pu2', pun, puf, puP, puP', puQ, puQ', Bool.and_true, Bool.and_self], _, behind_ok p hv, ?_⟩
  conv => whnf
  obtain ⟨h0, e0⟩ := table_get p 0 (by omega)
  have a5 := hv.s5 _ (List.getElem_mem (show 0 < p.length by omega))
  have a1 := hv.s1 _ (List.getElem_mem (show 0 < p.length by omega))
  have hcl := costs_dlen p 0 (by omega)
  have hpp := perms_pos a1 a5
  have hpl := perms_len a5
  rw [show ((List.range p.length).map fun i => costs (p.drop i)) = table p from rfl]
  refine ⟨⟨by omega, by simp; omega⟩, ?_⟩
  conv => whnf
  refine nthM _ _ _ (h0) ?_
  conv => whnf
  rw [e0]
  unfold fewestOf
  rw [List.drop_zero] at hcl ⊢
  generalize costs p = c at hcl ⊢
  refine ⟨by omega, ?_⟩
  conv => whnf
  refine nthM _ _ _ ((show 0 < c.length by omega)) ?_
  conv => whnf
  have hd : c.headD 0 = c[0] := headD0 _ (by omega)
  unfold leastOf
  rw [hd]
  refine .intro (CI (fun i => slots 26 [(3, L1 c), (4, I ((c.take i).foldl min c[0])), (5, I i)]) c.length [.cells [L2 p]]) c.length (ci0 rfl) ?_
  rintro m T H ⟨i, hi, rfl, rfl, rfl⟩
  conv => whnf
  refine dcase (fun h => ?_) (fun h => ?_)
  · have hlt : i < c.length := by omega
    conv => whnf
    refine ⟨by omega, ?_⟩
    conv => whnf
    refine nthM _ _ _ (hlt) ?_
    conv => whnf
    exact ciN hlt (by rw [foldl_take _ _ c i hlt, ← wrapS i (by omega)] <;> rfl)
  · obtain rfl : i = c.length := by omega
    conv => whnf
    exact ret_pure (.inr rfl) rfl (by rw [List.take_length]; rfl)
/-- What Fewest, and Orders, and Pair return. -/
def fewE (p : List (List Int)) : Int := if checkP p = 0 then fewestOf p else 0
theorem rfewest_ok (p : List (List Int)) (h1 : p.length ≤ 140737488355328) (h2 : ∀ l ∈ p, l.length ≤ 140737488355328) : PO 34 [P1 p] (.tuple [I (fewE p), I (checkP p)]) := by
  refine fn_pure hmix lk34 rfl rfl ?_
  unfold rc34
  conv => whnf
  refine ⟨by first | rfl | simp only [List.all_cons, List.all_nil, pu0, pub, pu1, pu2, pu1', pu2', pun, puf, puP, puP', puQ, puQ', Bool.and_true, Bool.and_self], _, rcheck_ok p h1 h2, ?_⟩
  conv => whnf
  refine dcase (fun h => ?_) (fun h => ?_)
  · conv => whnf
    refine ⟨by first | rfl | simp only [List.all_cons, List.all_nil, pu0, pub, pu1, pu2, pu1', pu2', pun, puf, puP, puP', puQ, puQ', Bool.and_true, Bool.and_self], _, rcheck_ok p h1 h2, ?_⟩
    conv => whnf
    exact ret_pure (.inr rfl) rfl (by rw [show fewE p = 0 from if_neg h]; rfl)
  · have h := Classical.not_not.1 h
    conv => whnf
    refine ⟨by first | rfl | simp only [List.all_cons, List.all_nil, pu0, pub, pu1, pu2, pu1', pu2', pun, puf, puP, puP', puQ, puQ', Bool.and_true, Bool.and_self], _, fewestOf_ok p (checkP_val h), ?_⟩
    conv => whnf
    exact ret_pure (.inr rfl) rfl (by rw [show fewE p = fewestOf p from if_pos h, h]; rfl)
theorem cut2 (l : List (List Int)) (k : Nat) : AV.lst (((l.map L1).drop ((k : Int).toNat * 1)).take ((((k + 2 : Nat) : Int).toNat - (k : Int).toNat) * 1)) (((k + 2 : Nat) : Int).toNat - (k : Int).toNat) .shared = .lst (((l.drop k).take 2).map L1) 2 .shared := by
  have e : ((k + 2 : Nat) : Int).toNat - (k : Int).toNat = 2 := by omega
  rw [e]
  simp [List.map_take, List.map_drop]
theorem L2_two (l : List (List Int)) (k : Nat) (h : k + 2 ≤ l.length) : AV.lst (((l.drop k).take 2).map L1) 2 .shared = L2 ((l.drop k).take 2) := by
  simp [L2]; omega
theorem pairOf_ok (p : List (List Int)) (k : Nat) (h : k + 2 ≤ p.length) (hv : Val ((p.drop k).take 2)) (hp : p.length ≤ 1000) : PO 82 [P1 p, I k] (I (fewestOf ((p.drop k).take 2))) := by
  refine fn_pure hmix lk82 rfl rfl ?_
  unfold rc82
  conv => whnf
  rw [show IntKind.i64.wrap ((k : Int) + 2) = ((k + 2 : Nat) : Int) by rw [wrapI _ (by omega) (by omega)]; omega]
  refine ⟨by omega, ?_⟩
  rw [cut2, L2_two p k h]
  conv => whnf
  refine ⟨by first | rfl | simp only [List.all_cons, List.all_nil, pu0, pub, pu1, pu2, pu1', pu2', pun, puf, puP, puP', puQ, puQ', Bool.and_true, Bool.and_self], _, fewestOf_ok _ hv, ?_⟩
  conv => whnf
  exact ret_pure (.inr rfl) rfl rfl
theorem Val.sub {p : List (List Int)} (hv : Val p) (k : Nat) (h : k + 2 ≤ p.length) : Val ((p.drop k).take 2) := by
  have hm : ∀ l ∈ (p.drop k).take 2, l ∈ p := fun l hl => List.mem_of_mem_drop (List.mem_of_mem_take hl)
  have hl : ((p.drop k).take 2).length = 2 := by simp; omega
  refine ⟨by omega, by omega, fun l h => hv.s1 l (hm l h), fun l h => hv.s5 l (hm l h), fun l h => hv.w l (hm l h), fun l h => ?_⟩
  rw [hv.eq l (hm l h)]
  have e := headD0 (l := (p.drop k).take 2) [] (by omega)
  rw [e]
  exact (hv.eq _ (hm _ (List.getElem_mem _))).symm
def pairErr (p : List (List Int)) (x : Int) : Int := if checkP p ≠ 0 then checkP p else if x < 0 ∨ (p.length : Int) - 1 ≤ x then 2 else 0
def pairV (p : List (List Int)) (x : Int) : Int := if pairErr p x = 0 then fewestOf ((p.drop x.toNat).take 2) else 0
theorem rpair_ok (p : List (List Int)) (x : Int) (h1 : p.length ≤ 140737488355328) (h2 : ∀ l ∈ p, l.length ≤ 140737488355328) : PO 38 [P1 p, I x] (.tuple [I (pairV p x), I (pairErr p x)]) := by
  refine fn_pure hmix lk38 rfl rfl ?_
  unfold rc38
  conv => whnf
  refine ⟨by first | rfl | simp only [List.all_cons, List.all_nil, pu0, pub, pu1, pu2, pu1', pu2', pun, puf, puP, puP', puQ, puQ', Bool.and_true, Bool.and_self], _, rcheck_ok p h1 h2, ?_⟩
  conv => whnf
  refine dcase (fun h => ?_) (fun h => ?_)
  · have e : pairErr p x = checkP p := if_pos h
    conv => whnf
    refine ⟨by first | rfl | simp only [List.all_cons, List.all_nil, pu0, pub, pu1, pu2, pu1', pu2', pun, puf, puP, puP', puQ, puQ', Bool.and_true, Bool.and_self], _, rcheck_ok p h1 h2, ?_⟩
    conv => whnf
    exact ret_pure (.inr rfl) rfl (by rw [pairV, e, if_neg h]; rfl)
  · have h := Classical.not_not.1 h
    have hv := checkP_val h
    have h4 := hv.n4
    conv => whnf
    cases h3 : decide (x < 0) with
    | true =>
      have e : pairErr p x = 2 := by rw [pairErr, if_neg (by simp [h]), if_pos (.inl (of_decide_eq_true h3))]
      conv => whnf
      exact ret_pure (.inr rfl) rfl (by rw [pairV, e]; rfl)
    | false =>
      have h3 := of_decide_eq_false h3
      conv => whnf
      rw [wrapI ((p.length : Int) - 1) (by omega) (by omega)]
      conv => whnf
      cases h5 : decide ((p.length : Int) - 1 ≤ x) with
      | true =>
        have e : pairErr p x = 2 := by rw [pairErr, if_neg (by simp [h]), if_pos (.inr (of_decide_eq_true h5))]
        conv => whnf
        exact ret_pure (.inr rfl) rfl (by rw [pairV, e]; rfl)
      | false =>
        have h5 := of_decide_eq_false h5
        have e : pairErr p x = 0 := by rw [pairErr, if_neg (by simp [h]), if_neg (by omega)]
        obtain ⟨k, rfl⟩ : ∃ k : Nat, x = k := ⟨x.toNat, by omega⟩
        conv => whnf
        refine ⟨by first | rfl | simp only [List.all_cons, List.all_nil, pu0, pub, pu1, pu2, pu1', pu2', pun, puf, puP, puP', puQ, puQ', Bool.and_true, Bool.and_self], _, pairOf_ok p k (by omega) (hv.sub k (by omega)) (by omega), ?_⟩
        conv => whnf
        exact ret_pure (.inr rfl) rfl (by rw [pairV, e]; rfl)

theorem pickO_drop (last : List Int) (left : Int) (l : List (List Int × List Int × Int)) (k : Nat) (h : k < l.length) : pickO last left (l.drop k) = if (common last l[k].2.1 : Int) + l[k].2.2 = left then some l[k] else pickO last left (l.drop (k + 1)) := by
  rw [List.drop_eq_getElem_cons h]; rfl
def ordE (p : List (List Int)) : List (List Int) := if checkP p = 0 then ordersOf p else []
theorem rorders_ok (p : List (List Int)) (h1 : p.length ≤ 140737488355328) (h2 : ∀ l ∈ p, l.length ≤ 140737488355328) : PO 36 [P1 p] (.tuple [L2 (ordE p), I (checkP p)]) := by
  refine fn_pure hmix lk36 rfl (puT _ _) ?_
  unfold rc36
  conv => whnf
  refine ⟨by first | rfl | simp only [List.all_cons, List.all_nil, pu0, pub, pu1, pu2, pu1', pu2', pun, puf, puP, puP', puQ, puQ', Bool.and_true, Bool.and_self], _, rcheck_ok p h1 h2, ?_⟩
  conv => whnf
  refine dcase (fun h => ?_) (fun h => ?_)
  · conv => whnf
    refine ⟨by first | rfl | simp only [List.all_cons, List.all_nil, pu0, pub, pu1, pu2, pu1', pu2', pun, puf, puP, puP', puQ, puQ', Bool.and_true, Bool.and_self], _, rcheck_ok p h1 h2, ?_⟩
    conv => whnf
    exact ret_pure (.inr rfl) (puT _ _) (by rw [show ordE p = [] from if_neg h]; rfl)
  · have h := Classical.not_not.1 h
    have hv := checkP_val h
    have h4 := hv.n4
    rw [show ordE p = ordersOf p from if_pos h, h]
    conv => whnf
    refine ⟨by first | rfl | simp only [List.all_cons, List.all_nil, pu0, pub, pu1, pu2, pu1', pu2', pun, puf, puP, puP', puQ, puQ', Bool.and_true, Bool.and_self], _, behind_ok p hv, ?_⟩
    conv => whnf
    rw [show ((List.range p.length).map fun i => costs (p.drop i)) = table p from rfl]
    refine ⟨by first | rfl | simp only [List.all_cons, List.all_nil, pu0, pub, pu1, pu2, pu1', pu2', pun, puf, puP, puP', puQ, puQ', Bool.and_true, Bool.and_self], _, fewestOf_ok p hv, ?_⟩
    conv => whnf
    refine .intro (fun m T H => ∃ i out last left c, i ≤ p.length ∧ m = p.length - i ∧ out.length ≤ i ∧ out ++ greedy p (p.length - i) i last left = ordersOf p ∧ last.length ≤ 4 ∧ (c = .uniq 1 ∨ c = .own 1 ∨ c = .shared) ∧
      T = slots 84 [(1, .ptr 0 0), (4, L2 (table p)), (5, I left), (6, U2 out), (7, .lst (last.map I) last.length c), (8, I i)] ∧ H = [.cells [L2 p]]) p.length ⟨0, [], [], fewestOf p, .uniq 1, by omega, by omega, by simp, rfl, by simp, .inl rfl, ?_, rfl⟩ ?_
    · rfl
    rintro m T H ⟨i, out, last, left, c, hi, rfl, hol, hg, hla, hc, rfl, rfl⟩
    conv => whnf
    refine dcase (fun h5 => ?_) (fun h5 => ?_)
    · have hlt : i < p.length := by omega
      have a5 := hv.s5 _ (List.getElem_mem hlt)
      have hsm := hv.sm (List.getElem_mem hlt)
      rw [show p.length - i = (p.length - (i + 1)) + 1 by omega, greedy] at hg
      have hop : opts p i = List.zip (perms p[i].length) (List.zip (seamA p[i]) (costs (p.drop i))) := by
        unfold opts; rw [List.getElem?_eq_getElem hlt]
      obtain ⟨ht, et⟩ := table_get p i hlt
      have hcl := costs_dlen p i hlt
      have hcb := costs_bound (p.drop i)
      have hpl := perms_len a5
      have hnl : (seamA p[i]).length = (perms p[i].length).length := by simp [seamA]
      have hq : ∀ s ∈ seamA p[i], s.length ≤ 4 := fun s hs => by
        obtain ⟨o, ho, rfl⟩ := List.mem_map.1 hs
        rw [seamsOf_length, (perms_mem ho).1]; omega
      conv => whnf
      refine ⟨by omega, ?_⟩
      conv => whnf
      refine nthM _ _ _ (hlt) ?_
      conv => whnf
      refine ⟨by first | rfl | simp only [List.all_cons, List.all_nil, pu0, pub, pu1, pu2, pu1', pu2', pun, puf, puP, puP', puQ, puQ', Bool.and_true, Bool.and_self], _, allOrders_ok p[i].length a5, acc0, ?_⟩
      conv => whnf
      refine ⟨by omega, ?_⟩
      conv => whnf
      refine nthM _ _ _ (hlt) ?_
      conv => whnf
      refine ⟨by first | rfl | simp only [List.all_cons, List.all_nil, pu0, pub, pu1, pu2, pu1', pu2', pun, puf, puP, puP', puQ, puQ', Bool.and_true, Bool.and_self], _, allSeams_ok p[i] hsm a5, accN rfl, ?_⟩
      conv => whnf
      generalize seamA p[i] = sa at hop hnl hq ⊢
      generalize perms p[i].length = ps at hop hnl hcl hpl ⊢
      rw [← et] at hcl hcb hop
      generalize hC : (table p)[i] = C at hcl hcb hop
      have hz : (opts p i).length = ps.length := by rw [hop]; simp; omega
      refine .intro (fun m T H => ∃ k c, k ≤ ps.length ∧ m = ps.length - k ∧ pickO last left (opts p i) = pickO last left ((opts p i).drop k) ∧ (c = .uniq 1 ∨ c = .own 1 ∨ c = .shared) ∧ T = slots 84 [(1, .ptr 0 0), (4, L2 (table p)), (5, I left), (6, U2 out), (7, .lst (last.map I) last.length c), (8, I i), (9, O2 ps), (10, O2 sa), (11, I k)] ∧ H = [.cells [L2 p]]) ps.length ⟨0, c, by omega, by omega, rfl, hc, rfl, rfl⟩ ?_
      clear hc
      rintro m T H ⟨k, c, hk, rfl, he, hc, rfl, rfl⟩
      conv => whnf
      refine dcase (fun h6 => ?_) (fun h6 => ?_)
      · have hkt : k < ps.length := by omega
        have hks : k < sa.length := by omega
        have hkc : k < C.length := by omega
        have hko : k < (opts p i).length := by omega
        have hx : (opts p i)[k] = (ps[k], sa[k], C[k]) := by
          simp only [hop, List.getElem_zip]
        rw [pickO_drop _ _ _ k hko, hx] at he
        have cb := hcb _ (List.getElem_mem hkc)
        have cl := common_le last sa[k]
        have cq := hq _ (List.getElem_mem hks)
        rcases hc with rfl | rfl | rfl
        · conv => whnf
          refine ⟨by omega, ?_⟩
          conv => whnf
          refine nthM _ _ _ (hks) ?_
          conv => whnf
          refine ⟨by first | rfl | simp only [List.all_cons, List.all_nil, pu0, pub, pu1, pu2, pu1', pu2', pun, puf, puP, puP', puQ, puQ', Bool.and_true, Bool.and_self], _, common_ok last sa[k] (by omega) (by omega), ?_⟩
          conv => whnf
          refine ⟨by omega, ?_⟩
          conv => whnf
          refine nthM _ _ _ (ht) ?_
          conv => whnf
          rw [hC]
          refine ⟨by omega, ?_⟩
          conv => whnf
          refine nthM _ _ _ (hkc) ?_
          conv => whnf
          rw [wrapI _ (by omega) (by omega)]
          refine dcase (fun h7 => ?_) (fun h7 => ?_)
          · rw [he, if_pos h7] at hg
            conv => whnf
            refine ⟨by omega, ?_⟩
            conv => whnf
            refine nthM _ _ _ (hkt) ?_
            conv => whnf
            refine ⟨rfl, by decide, rfl, by omega, ?_⟩
            conv => whnf
            refine ⟨by omega, ?_⟩
            conv => whnf
            refine nthM _ _ _ (hks) ?_
            conv => whnf
            refine ⟨by omega, ?_⟩
            conv => whnf
            refine nthM _ _ _ (ht) ?_
            conv => whnf
            rw [hC]
            refine ⟨by omega, ?_⟩
            conv => whnf
            refine nthM _ _ _ (hkc) ?_
            conv => whnf
            exact ⟨p.length - (i + 1), by omega, i + 1, out ++ [ps[k]], sa[k], C[k], .shared, by omega, rfl, by simp; omega, by simpa using hg, by omega, .inr (.inr rfl), by rw [← wrapS i (by omega), ← U2_snoc] <;> rfl, rfl⟩
          · conv => whnf
            exact ⟨ps.length - (k + 1), by omega, k + 1, .own 1, by omega, rfl, by rw [he, if_neg h7], .inr (.inl rfl), by rw [← wrapS k (by omega)] <;> rfl, rfl⟩
        · conv => whnf
          refine ⟨by omega, ?_⟩
          conv => whnf
          refine nthM _ _ _ (hks) ?_
          conv => whnf
          refine ⟨by first | rfl | simp only [List.all_cons, List.all_nil, pu0, pub, pu1, pu2, pu1', pu2', pun, puf, puP, puP', puQ, puQ', Bool.and_true, Bool.and_self], _, common_ok last sa[k] (by omega) (by omega), ?_⟩
          conv => whnf
          refine ⟨by omega, ?_⟩
          conv => whnf
          refine nthM _ _ _ (ht) ?_
          conv => whnf
          rw [hC]
          refine ⟨by omega, ?_⟩
          conv => whnf
          refine nthM _ _ _ (hkc) ?_
          conv => whnf
          rw [wrapI _ (by omega) (by omega)]
          refine dcase (fun h7 => ?_) (fun h7 => ?_)
          · rw [he, if_pos h7] at hg
            conv => whnf
            refine ⟨by omega, ?_⟩
            conv => whnf
            refine nthM _ _ _ (hkt) ?_
            conv => whnf
            refine ⟨rfl, by decide, rfl, by omega, ?_⟩
            conv => whnf
            refine ⟨by omega, ?_⟩
            conv => whnf
            refine nthM _ _ _ (hks) ?_
            conv => whnf
            refine ⟨by omega, ?_⟩
            conv => whnf
            refine nthM _ _ _ (ht) ?_
            conv => whnf
            rw [hC]
            refine ⟨by omega, ?_⟩
            conv => whnf
            refine nthM _ _ _ (hkc) ?_
            conv => whnf
            exact ⟨p.length - (i + 1), by omega, i + 1, out ++ [ps[k]], sa[k], C[k], .shared, by omega, rfl, by simp; omega, by simpa using hg, by omega, .inr (.inr rfl), by rw [← wrapS i (by omega), ← U2_snoc] <;> rfl, rfl⟩
          · conv => whnf
            exact ⟨ps.length - (k + 1), by omega, k + 1, .own 1, by omega, rfl, by rw [he, if_neg h7], .inr (.inl rfl), by rw [← wrapS k (by omega)] <;> rfl, rfl⟩
        · conv => whnf
          refine ⟨by omega, ?_⟩
          conv => whnf
          refine nthM _ _ _ (hks) ?_
          conv => whnf
          refine ⟨by first | rfl | simp only [List.all_cons, List.all_nil, pu0, pub, pu1, pu2, pu1', pu2', pun, puf, puP, puP', puQ, puQ', Bool.and_true, Bool.and_self], _, common_ok last sa[k] (by omega) (by omega), ?_⟩
          conv => whnf
          refine ⟨by omega, ?_⟩
          conv => whnf
          refine nthM _ _ _ (ht) ?_
          conv => whnf
          rw [hC]
          refine ⟨by omega, ?_⟩
          conv => whnf
          refine nthM _ _ _ (hkc) ?_
          conv => whnf
          rw [wrapI _ (by omega) (by omega)]
          refine dcase (fun h7 => ?_) (fun h7 => ?_)
          · rw [he, if_pos h7] at hg
            conv => whnf
            refine ⟨by omega, ?_⟩
            conv => whnf
            refine nthM _ _ _ (hkt) ?_
            conv => whnf
            refine ⟨rfl, by decide, rfl, by omega, ?_⟩
            conv => whnf
            refine ⟨by omega, ?_⟩
            conv => whnf
            refine nthM _ _ _ (hks) ?_
            conv => whnf
            refine ⟨by omega, ?_⟩
            conv => whnf
            refine nthM _ _ _ (ht) ?_
            conv => whnf
            rw [hC]
            refine ⟨by omega, ?_⟩
            conv => whnf
            refine nthM _ _ _ (hkc) ?_
            conv => whnf
            exact ⟨p.length - (i + 1), by omega, i + 1, out ++ [ps[k]], sa[k], C[k], .shared, by omega, rfl, by simp; omega, by simpa using hg, by omega, .inr (.inr rfl), by rw [← wrapS i (by omega), ← U2_snoc] <;> rfl, rfl⟩
          · conv => whnf
            exact ⟨ps.length - (k + 1), by omega, k + 1, .shared, by omega, rfl, by rw [he, if_neg h7], .inr (.inr rfl), by rw [← wrapS k (by omega)] <;> rfl, rfl⟩
      · obtain rfl : k = ps.length := by omega
        rw [← hz, List.drop_length] at he
        rw [he] at hg
        conv => whnf
        exact ⟨p.length - (i + 1), by omega, i + 1, out, last, left, c, by omega, rfl, by omega, hg, hla, hc, by rw [← wrapS i (by omega)] <;> rfl, rfl⟩
    · obtain rfl : i = p.length := by omega
      rw [Nat.sub_self, greedy, List.append_nil] at hg
      rcases hc with rfl | rfl | rfl
      all_goals
        conv => whnf
        exact ret_pure (.inr rfl) (puT _ _) (by rw [← hg]; rfl)
end Go.Proofs.Ytlcebaejlnpdeaa.Ab

/-
  Plain words of layer 5: a list whose end is turned round, step by step.
-/
namespace Go.Proofs.Ytlcebaejlnpdeaa.Ab

/-- The part from off on, with its t outer numbers changed on either side. -/
def revT (g : List Int) (off t : Nat) : List Int := (List.range g.length).map fun x => if off ≤ x ∧ (x - off < t ∨ g.length - t ≤ x) then g.getD (off + g.length - 1 - x) 0 else g.getD x 0
theorem revT_len (g : List Int) (off t : Nat) : (revT g off t).length = g.length := by simp [revT]
theorem revT_get (g : List Int) (off t x : Nat) (h : x < g.length) : (revT g off t)[x]? = some (if off ≤ x ∧ (x - off < t ∨ g.length - t ≤ x) then g.getD (off + g.length - 1 - x) 0 else g.getD x 0) := by
  simp [revT, h]
theorem revT_zero (g : List Int) (off : Nat) : revT g off 0 = g := by
  apply List.ext_getElem?
  intro x
  by_cases h : x < g.length
  · rw [revT_get g off 0 x h, if_neg (by omega)]
    simp [h, List.getD_eq_getElem?_getD]
  · rw [List.getElem?_eq_none (by rw [revT_len]; omega), List.getElem?_eq_none (by omega)]
theorem revT_step (g : List Int) (off t : Nat) (ht : off + t < g.length - 1 - t) : ((revT g off t).set (off + t) (g.getD (g.length - 1 - t) 0)).set (g.length - 1 - t) (g.getD (off + t) 0) = revT g off (t + 1) := by
  apply List.ext_getElem?
  intro x
  by_cases h : x < g.length
  · rw [revT_get g off (t + 1) x h]
    by_cases h1 : x = g.length - 1 - t
    · subst h1
      rw [List.getElem?_set_self (by rw [List.length_set, revT_len]; omega), if_pos (by omega)]
      congr 2; omega
    · rw [List.getElem?_set_ne (by omega)]
      by_cases h2 : x = off + t
      · subst h2
        rw [List.getElem?_set_self (by rw [revT_len]; omega), if_pos (by omega)]
        congr 2; omega
      · rw [List.getElem?_set_ne (by omega), revT_get g off t x h]
        by_cases h3 : off ≤ x ∧ (x - off < t ∨ g.length - t ≤ x)
        · rw [if_pos h3, if_pos (by omega)]
        · rw [if_neg h3, if_neg (by omega)]
  · rw [List.getElem?_eq_none (by simp [revT_len]; omega), List.getElem?_eq_none (by rw [revT_len]; omega)]
theorem revT_end (g : List Int) (off t : Nat) (ho : off ≤ g.length) (ht : g.length - 1 - t ≤ off + t) : revT g off t = turn g off := by
  apply List.ext_getElem?
  intro x
  unfold turn
  by_cases h : x < g.length
  · rw [revT_get g off t x h]
    by_cases h1 : x < off
    · rw [if_neg (by omega), List.getElem?_append_left (by simp; omega), List.getElem?_take, if_pos h1]
      simp [h, List.getD_eq_getElem?_getD]
    · rw [List.getElem?_append_right (by simp; omega), List.length_take, Nat.min_eq_left ho, List.getElem?_reverse (by simp; omega), List.getElem?_drop, List.length_drop]
      have e : off + (g.length - off - 1 - (x - off)) = off + g.length - 1 - x := by omega
      rw [e]
      have hl : off + g.length - 1 - x < g.length := by omega
      by_cases h3 : off ≤ x ∧ (x - off < t ∨ g.length - t ≤ x)
      · rw [if_pos h3]; simp [hl, List.getD_eq_getElem?_getD]
      · rw [if_neg h3]
        have : x = off + g.length - 1 - x := by omega
        rw [← this]; simp [h, List.getD_eq_getElem?_getD]
  · rw [List.getElem?_eq_none (by rw [revT_len]; omega), List.getElem?_eq_none (by simp; omega)]
end Go.Proofs.Ytlcebaejlnpdeaa.Ab

/-
  Contracts: slices.Clone, slices.Reverse; all orders of a layer, one behind another.
-/
namespace Go.Proofs.Ytlcebaejlnpdeaa.Ab
open Go
set_option maxRecDepth 20000
set_option maxHeartbeats 4000000

theorem clone_ok (l : List Int) (h0 : 0 < l.length) (hl : l.length ≤ 1000000) : PO 108 [L1 l] (U1 l) := by
  refine fn_pure hmix lk108 rfl (pu1 _ _ _) ?_
  unfold rc108
  conv => whnf
  obtain ⟨x, r, rfl⟩ : ∃ x r, l = x :: r := by
    cases l with
    | nil => simp at h0
    | cons x r => exact ⟨x, r, rfl⟩
  refine ⟨.bool false, [], fun C => by kernel_rfl, ?_⟩
  conv => whnf
  refine ⟨by simp, by omega, ?_⟩
  conv => whnf
  refine ⟨by simp, ?_⟩
  conv => whnf
  refine ⟨by omega, ?_⟩
  conv => whnf
  exact ret_pure (.inr rfl) (pu1 _ _ _) (by rw [Nat.zero_add]; rfl)

theorem I_get (l : List Int) (i : Nat) (h : i < l.length) : (l.map I)[i]? = some (I (l.getD i 0)) := by
  simp [h, List.getD_eq_getElem?_getD]
theorem reverse_sem (g : List Int) (off : Nat) (ho : off < g.length) (hg : g.length ≤ 1000000) {H : List AObj} {id lo : Nat} (hlo : lo ≤ id) (hH : H[id]? = some (.cells (g.map I))) :
    Sem Go.Proofs.Try.prog (.fn 109) [.ref id off (g.length - off) none 1] H lo (.tuple []) (H.set id (.cells ((turn g off).map I))) := by
  have hid := (List.getElem?_eq_some_iff.1 hH).1
  refine fn_sem hmix lk109 rfl ⟨by simp, fun j h1 h2 => by rw [List.getElem?_set_ne (by omega)]⟩ ?_
  unfold rc109
  conv => whnf
  rw [show IntKind.i64.wrap (((g.length - off : Nat) : Int) - 1) = ((g.length - off - 1 : Nat) : Int) by rw [wrapI _ (by omega) (by omega)]; omega]
  have hb : Nat.ble lo id = true := Nat.ble_eq_true_of_le hlo
  have gs : ∀ c : AObj, (H.set id c)[id]? = some c := fun c => by rw [List.getElem?_set_self hid]
  have gss : ∀ c d : AObj, ((H.set id c).set id d)[id]? = some d := fun c d => by rw [List.set_set, gs]
  refine .intro (fun m T H' => ∃ t, 2 * t ≤ g.length - off ∧ m = g.length - t ∧ T = slots 28 [(0, .ref id off (g.length - off) none 1), (2, I t), (3, I (g.length - off - 1 - t : Nat))] ∧ H' = H.set id (.cells ((revT g off t).map I))) g.length ⟨0, by omega, rfl, rfl, ?_⟩ ?_
  · rw [revT_zero]
    obtain ⟨h1, h2⟩ := List.getElem?_eq_some_iff.1 hH
    rw [← h2, List.set_getElem_self]
  rintro m T H' ⟨t, ht, rfl, rfl, rfl⟩
  conv => whnf
  refine dcase (fun h => ?_) (fun h => ?_)
  · conv => whnf
    have e1 : 0 + off + ((g.length - off - 1 - t : Nat) : Int).toNat * 1 = g.length - 1 - t := by omega
    have e2 : off + ((g.length - off - 1 - t : Nat) : Int).toNat * 1 = g.length - 1 - t := by omega
    have e3 : off + (t : Int).toNat * 1 = off + t := by omega
    refine ⟨by omega, ?_⟩
    conv => whnf
    refine nthK_of (gs _) ?_
    conv => whnf
    refine nthK_of (x := I (g.getD (g.length - 1 - t) 0)) (by rw [e2, List.getElem?_map, revT_get g off t _ (by omega), if_neg (by omega)]; rfl) ?_
    conv => whnf
    refine ⟨by omega, ?_⟩
    conv => whnf
    refine nthK_of (gs _) ?_
    conv => whnf
    refine nthK_of (x := I (g.getD (off + t) 0)) (by rw [e3, List.getElem?_map, revT_get g off t _ (by omega), if_neg (by omega)]; rfl) ?_
    conv => whnf
    refine ⟨by omega, ?_⟩
    conv => whnf
    rw [hb]
    conv => whnf
    refine nthK_of (gs _) ?_
    conv => whnf
    refine updK_of (by rw [List.length_map, revT_len]; omega) ?_
    conv => whnf
    refine ⟨by omega, ?_⟩
    conv => whnf
    rw [hb]
    conv => whnf
    refine nthK_of (gss _ _) ?_
    conv => whnf
    refine updK_of (by rw [List.length_set, List.length_map, revT_len]; omega) ?_
    conv => whnf
    refine ⟨g.length - (t + 1), by omega, t + 1, by omega, rfl, ?_, ?_⟩
    · rw [← wrapS t (by omega), show ((g.length - off - 1 - (t + 1) : Nat) : Int) = IntKind.i64.wrap (((g.length - off - 1 - t : Nat) : Int) - 1) by rw [wrapI _ (by omega) (by omega)]; omega]
      rfl
    · rw [List.set_set, List.set_set, ← revT_step g off t (by omega), e2, e3, List.map_set, List.map_set]
  · conv => whnf
    refine ⟨.inl rfl, ⟨by simp, fun j o hj => ?_⟩, rfl⟩
    rw [revT_end g off t (by omega) (by omega)]
    exact .inr hj

/-! ### all$1 -/
/-- A list that is owned, or lies in an object, becomes an object. -/
def Thawed (u : AV) (H : List AObj) (id : Nat) (H' : List AObj) (l : List Int) : Prop :=
  (u = U1 l ∧ id = H.length ∧ H' = H ++ [.cells (l.map I)]) ∨ (u = .ref id 0 l.length none 1 ∧ H' = H ∧ H[id]? = some (.cells (l.map I)))
theorem thaw_of {u : AV} {H : List AObj} {id : Nat} {H' : List AObj} {l : List Int} {K : AV → List AObj → Prop} (h : Thawed u H id H' l) (h0 : l.length ≠ 0) (k : K (.ref id 0 l.length none 1) H') : rkThaw u H K := by
  rcases h with ⟨rfl, rfl, rfl⟩ | ⟨rfl, rfl, _⟩
  · exact ⟨h0, k⟩
  · exact k
theorem thaw_get {u : AV} {H : List AObj} {id : Nat} {H' : List AObj} {l : List Int} (h : Thawed u H id H' l) : H'[id]? = some (.cells (l.map I)) := by
  rcases h with ⟨_, rfl, rfl⟩ | ⟨_, rfl, h⟩
  · exact get_concat _ _
  · exact h
theorem call1 {P : Program} {lo : Nat} {tgt : Tgt} {xs : List AV} {H H' : List AObj} {v : AV} (h : Sem P tgt xs H lo v H') : CallS P 1 lo tgt xs H v H' :=
  ⟨oneC tgt xs H lo v H', oneC_sound h, by simp only [callTo, oneC_self]⟩
theorem shz_ref {X : List AObj} {id : Nat} {l : List Int} (h : X[id]? = some (.cells (l.map I))) : shz X (.ref id 0 l.length none 1) = L1 l := by
  have e : rowOf X (.ref id 0 l.length none 1) = some (l.map I) := by
    simp only [rowOf, h, List.length_map, Nat.zero_add, Nat.mul_one, Nat.le_refl, if_true, List.drop_zero]
    rw [List.take_of_length_le (by simp), List.map_map]
    rfl
  simp only [shz, shz0, e]
  rfl
theorem scal_U1 (l : List Int) : scal (U1 l) = true := by
  show (l.map I).all scal0 = true
  rw [List.all_eq_true]; intro u hu; obtain ⟨x, _, rfl⟩ := List.mem_map.1 hu; rfl
/-- How many objects rounds have left. -/
def sumM (M : Nat → Nat) : Nat → Nat
  | 0 => 0
  | r + 1 => sumM M r + M r
theorem swap_len (l : List Int) (i k : Nat) : (swap l i k).length = l.length := by simp [swap]
theorem rise_lt (l : List Int) : ∀ (n i : Nat), rise l n = some i → i < n ∧ ¬ l.getD (i + 1) 0 < l.getD i 0
  | 0, i, h => by simp [rise] at h
  | n + 1, i, h => by
    unfold rise at h
    split at h
    · have := rise_lt l n i h; exact ⟨by omega, this.2⟩
    · rename_i hh; simp only [Option.some.injEq] at h; subst h; exact ⟨by omega, hh⟩
theorem range_U1 (i : Nat) : (List.range (i + 1)).map Int.ofNat = (List.range i).map Int.ofNat ++ [(i : Int)] := by
  rw [List.range_succ, List.map_append]; rfl
theorem rng_full (i : Nat) : AV.lst ((((List.range i).map Int.ofNat).map I).take ((((List.range i).map Int.ofNat).length : Int).toNat * 1)) (((List.range i).map Int.ofNat).length : Int).toNat .full = AV.lst (((List.range i).map Int.ofNat).map I) i .full := by
  rw [List.take_of_length_le (by simp)]; simp
theorem U1_snoc' (i : Nat) (x : Int) : AV.lst (((List.range i).map Int.ofNat).map I ++ [I x]) (i + 1) (.uniq 1) = U1 ((List.range i).map Int.ofNat ++ [x]) := by simp [U1]
section
variable (p : List (List Int)) (k : Nat) (hk : k < p.length) (h1 : 1 ≤ p[k].length) (h5 : p[k].length ≤ 5) (hp : p.length ≤ 1000)
variable (A : Nat → List AObj) (M : Nat → Nat) (id lo : Nat) (L : AObj) (hA : ∀ r, (A r).length = id) (hlo : lo ≤ id)
variable (hlow : ∀ r, r ≤ (perms p[k].length).length → ∀ j, j < lo → (A r)[j]? = (A 0)[j]?)
variable (hy : ∀ (r : Nat) (h : r < (perms p[k].length).length) (Y : List AObj), Sem Go.Proofs.Try.prog (.yield id) [U1 (perms p[k].length)[r]] (A r ++ L :: Y) lo (.bool true) (A (r + 1) ++ L :: (Y ++ List.replicate (M r) .dead)))
include hk h1 h5 hp hA hlo hlow hy
theorem all1_sem : Sem Go.Proofs.Try.prog (.fn 107) [.yield id, .lptr [Bn p], .lptr [I k]] (A 0 ++ [L]) lo (.tuple []) (A (perms p[k].length).length ++ L :: List.replicate (1 + sumM M (perms p[k].length).length) .dead) := by
  have hlen := perms_len h5
  obtain ⟨hN, hfirst⟩ := first_perm h1 h5
  have hchain := chain_next _ (chain_all h1 h5)
  have hpl : ∀ r (h : r < (perms p[k].length).length), (perms p[k].length)[r].length = p[k].length := fun r h => (perms_mem (List.getElem_mem h)).1
  refine fn_sem hmix lk107 rfl ⟨by simp [hA], fun j j1 j2 => ?_⟩ ?_
  · rw [List.getElem?_append_left (by rw [hA]; omega), List.getElem?_append_left (by rw [hA]; omega)]
    exact hlow _ (Nat.le_refl _) j j1
  unfold rc107
  conv => whnf
  refine ⟨by omega, ?_⟩
  conv => whnf
  refine nthM _ _ _ (hk) ?_
  conv => whnf
  generalize hn : p[k].length = n at *
  generalize hps : perms n = ps at *
  refine .intro (CI (fun i => slots 89 [(0, .yield id), (4, U1 ((List.range i).map Int.ofNat)), (16, I n), (17, I i)]) n (A 0 ++ [L])) n (ci0 rfl) ?_
  rintro m T H ⟨i, hi, rfl, rfl, rfl⟩
  conv => whnf
  refine dcase (fun h => ?_) (fun h => ?_)
  · have hlt : i < n := by omega
    conv => whnf
    refine ⟨by omega, ?_⟩
    conv => whnf
    rw [rng_full]
    conv => whnf
    refine ⟨rfl, by omega, by omega, by omega, by simp, ?_⟩
    conv => whnf
    exact ciN hlt (by rw [range_U1, ← U1_snoc', ← wrapS i (by omega)] <;> rfl)
  · obtain rfl : i = n := by omega
    rw [← hfirst]
    refine .intro (fun m T H => ∃ r u, ∃ (h : r < ps.length), m = ps.length - r ∧ Thawed u H (id + 1) (A r ++ L :: .cells (ps[r].map I) :: List.replicate (sumM M r) .dead) ps[r] ∧ T = slots 89 [(0, .yield id), (4, u)]) ps.length ⟨0, _, hN, rfl, .inl ⟨rfl, by simp [hA], by simp [sumM]⟩, rfl⟩ ?_
    rintro m T H ⟨r, u, hr, rfl, hT, rfl⟩
    have hlr := hpl r hr
    obtain ⟨X, hX⟩ : ∃ X, X = A r ++ L :: .cells (ps[r].map I) :: List.replicate (sumM M r) .dead := ⟨_, rfl⟩
    rw [← hX] at hT
    have hXl : id + 1 < X.length := by rw [hX]; simp [hA]
    have hXg : X[id + 1]? = some (.cells (ps[r].map I)) := thaw_get hT
    have hyr := hy r hr (.cells (ps[r].map I) :: List.replicate (sumM M r) .dead)
    rw [← hX] at hyr
    obtain ⟨Z, hZ⟩ : ∃ Z, Z = A (r + 1) ++ L :: (.cells (ps[r].map I) :: List.replicate (sumM M r) .dead ++ List.replicate (M r) .dead) := ⟨_, rfl⟩
    rw [← hZ] at hyr
    have hZl : id + 1 < Z.length := by rw [hZ]; simp [hA]
    have hZg : Z[id + 1]? = some (.cells (ps[r].map I)) := by
      rw [hZ, List.getElem?_append_right (by rw [hA]; omega), hA, show id + 1 - id = 1 by omega]; rfl
    have hbl : Nat.ble lo (id + 1) = true := Nat.ble_eq_true_of_le (by omega)
    have hnx := hchain r hr
    have hset : ∀ l : List Int, ∀ h : r + 1 < ps.length, l = ps[r + 1] → Z.set (id + 1) (.cells (l.map I)) = A (r + 1) ++ L :: .cells (ps[r + 1].map I) :: List.replicate (sumM M (r + 1)) .dead := by
      rintro l h rfl
      rw [hZ, List.set_append_right _ _ (by rw [hA]; omega), hA, show id + 1 - id = 1 by omega, ← List.cons_append, sumM]
      simp [List.set_cons_succ, List.replicate_append_replicate]
    have hlast : r + 1 = ps.length → Fgt Z (A ps.length ++ L :: List.replicate (1 + sumM M ps.length) .dead) := by
      intro e
      rw [← e, hZ]
      refine ⟨by simp [sumM, hA]; omega, fun j o hj => ?_⟩
      by_cases hj1 : j < id + 1
      · right
        rw [← hj]
        by_cases hj2 : j < id
        · rw [List.getElem?_append_left (by rw [hA]; omega), List.getElem?_append_left (by rw [hA]; omega)]
        · obtain rfl : j = id := by omega
          rw [List.getElem?_append_right (by rw [hA]; omega), List.getElem?_append_right (by rw [hA]; omega), hA, Nat.sub_self]; rfl
      · left
        rw [List.getElem?_append_right (by rw [hA]; omega), hA] at hj
        obtain ⟨j', rfl⟩ : ∃ j', j = id + (j' + 1) := ⟨j - id - 1, by omega⟩
        rw [show id + (j' + 1) - id = j' + 1 by omega, List.getElem?_cons_succ] at hj
        exact List.eq_of_mem_replicate (List.mem_of_getElem? hj)
    rcases hT with ⟨rfl, hid, hX2⟩ | ⟨rfl, hX2, hXc⟩
    · conv => whnf
      refine ⟨by omega, ?_⟩
      conv => whnf
      rw [← hX2, ← hid]
      refine ⟨_, _, call6 (bs := [L1 ps[r]]) ?_ ?_ (clone_ok ps[r] (by omega) (by omega)) (scal_U1 _), ?_⟩
      · simp only [List.map_cons, List.map_nil, shz_ref hXg]; rfl
      · simp only [List.map_cons, List.map_nil, shz_ref hXg, List.all_cons, List.all_nil, pu1', Bool.and_true]
      conv => whnf
      refine ⟨_, _, call1 hyr, ?_⟩
      conv => whnf
      rw [show IntKind.i64.wrap ((ps[r].length : Int) - 2) = ((ps[r].length - 1 : Nat) : Int) - 1 by rw [wrapI _ (by omega) (by omega)]; omega]
      generalize hl : ps[r] = l at *
      refine .intro (fun m T H => ∃ a, a ≤ l.length - 1 ∧ m = a ∧ rise l (l.length - 1) = rise l a ∧ T = slots 89 [(0, .yield id), (4, .ref (id + 1) 0 l.length none 1), (6, I ((a : Int) - 1))] ∧ H = Z) (l.length - 1) ⟨_, Nat.le_refl _, rfl, rfl, rfl, rfl⟩ ?_
      rintro a T Z1 ⟨_, ha, rfl, hrise, rfl, rfl⟩
      conv => whnf
      refine dcase (fun h1 => ?_) (fun h1 => ?_)
      · obtain ⟨b, rfl⟩ : ∃ b, a = b + 1 := ⟨a - 1, by omega⟩
        rw [show (((b + 1 : Nat) : Int) - 1) = (b : Int) by omega]
        conv => whnf
        refine ⟨by omega, ?_⟩
        conv => whnf
        refine nthK_of hZg ?_
        conv => whnf
        refine nthK_of (x := I (l.getD b 0)) (by rw [show 0 + (b : Int).toNat * 1 = b by omega]; exact I_get l b (by omega)) ?_
        conv => whnf
        rw [wrapS b (by omega)]
        refine ⟨by omega, ?_⟩
        conv => whnf
        refine nthK_of hZg ?_
        conv => whnf
        refine nthK_of (x := I (l.getD (b + 1) 0)) (by rw [show 0 + ((b + 1 : Nat) : Int).toNat * 1 = b + 1 by omega]; exact I_get l (b + 1) (by omega)) ?_
        conv => whnf
        rw [rise] at hrise
        refine dcase (fun h2 => ?_) (fun h2 => ?_)
        · conv => whnf
          refine ⟨b, by omega, b, by omega, rfl, by rw [hrise, if_pos h2], ?_, rfl⟩
          rw [wrapI ((b : Int) - 1) (by omega) (by omega)]
          rfl
        · rw [if_neg h2] at hrise
          conv => whnf
          rw [show IntKind.i64.wrap ((l.length : Int) - 1) = ((l.length - 1 : Nat) : Int) by rw [wrapI _ (by omega) (by omega)]; omega]
          refine .intro (fun m T H => ∃ c, b + 1 ≤ c ∧ c ≤ l.length - 1 ∧ m = c ∧ last l (l.getD b 0) (l.length - 1) = last l (l.getD b 0) c ∧ T = slots 89 [(0, .yield id), (4, .ref (id + 1) 0 l.length none 1), (6, I b), (7, I c)] ∧ H = Z1) (l.length - 1) ⟨_, by omega, Nat.le_refl _, rfl, rfl, rfl, rfl⟩ ?_
          rintro c T Z2 ⟨_, hc1, hc2, rfl, hla, rfl, rfl⟩
          conv => whnf
          refine ⟨by omega, ?_⟩
          conv => whnf
          refine nthK_of hZg ?_
          conv => whnf
          refine nthK_of (x := I (l.getD c 0)) (by rw [show 0 + (c : Int).toNat * 1 = c by omega]; exact I_get l c (by omega)) ?_
          conv => whnf
          refine ⟨by omega, ?_⟩
          conv => whnf
          refine nthK_of hZg ?_
          conv => whnf
          refine nthK_of (x := I (l.getD b 0)) (by rw [show 0 + (b : Int).toNat * 1 = b by omega]; exact I_get l b (by omega)) ?_
          conv => whnf
          obtain ⟨d, rfl⟩ : ∃ d, c = d + 1 := ⟨c - 1, by omega⟩
          rw [last] at hla
          refine dcase (fun h3 => ?_) (fun h3 => ?_)
          · have hd : b + 1 ≤ d := by
              by_cases e : d = b
              · subst e; exact absurd h3 h2
              · omega
            conv => whnf
            refine ⟨d, by omega, d, hd, by omega, rfl, by rw [hla, if_pos h3], ?_, rfl⟩
            rw [show IntKind.i64.wrap (((d + 1 : Nat) : Int) - 1) = (d : Int) by rw [wrapI _ (by omega) (by omega)]; omega]
            rfl
          · rw [if_neg h3] at hla
            have hs : succ? l = some (turn (swap l b (d + 1)) (b + 1)) := by
              unfold succ?; rw [hrise]; simp only [hla]
            have e1 : 0 + (b : Int).toNat * 1 = b := by omega
            have e2 : 0 + ((d + 1 : Nat) : Int).toNat * 1 = d + 1 := by omega
            have gs : ∀ c : AObj, (Z2.set (id + 1) c)[id + 1]? = some c := fun c => by rw [List.getElem?_set_self hZl]
            conv => whnf
            refine ⟨by omega, ?_⟩
            conv => whnf
            refine nthK_of hZg ?_
            conv => whnf
            refine nthK_of (x := I (l.getD (d + 1) 0)) (by rw [e2]; exact I_get l (d + 1) (by omega)) ?_
            conv => whnf
            refine ⟨by omega, ?_⟩
            conv => whnf
            refine nthK_of hZg ?_
            conv => whnf
            refine nthK_of (x := I (l.getD b 0)) (by rw [e1]; exact I_get l b (by omega)) ?_
            conv => whnf
            refine ⟨by omega, ?_⟩
            conv => whnf
            rw [hbl]
            conv => whnf
            refine nthK_of hZg ?_
            conv => whnf
            refine updK_of (by rw [List.length_map]; omega) ?_
            conv => whnf
            refine ⟨by omega, ?_⟩
            conv => whnf
            rw [hbl]
            conv => whnf
            refine nthK_of (gs _) ?_
            conv => whnf
            refine updK_of (by rw [List.length_set, List.length_map]; omega) ?_
            conv => whnf
            rw [List.set_set, e1, e2]
            have hsw : ((l.map I).set b (I (l.getD (d + 1) 0))).set (d + 1) (I (l.getD b 0)) = (swap l b (d + 1)).map I := by
              unfold swap; rw [List.map_set, List.map_set]
            rw [wrapS b (by omega)]
            refine ⟨rfl, by omega, fun _ => ?_, fun h => by omega⟩
            conv => whnf
            have hrev := reverse_sem (swap l b (d + 1)) (b + 1) (by rw [swap_len]; omega) (by rw [swap_len]; omega) (H := Z2.set (id + 1) (.cells ((swap l b (d + 1)).map I))) (id := id + 1) (lo := lo) (by omega) (gs _)
            rw [swap_len, List.set_set] at hrev
            rw [hsw, show 0 + ((b + 1 : Nat) : Int).toNat * 1 = b + 1 by omega]
            refine ⟨_, _, call1 hrev, ?_⟩
            conv => whnf
            rw [hs] at hnx
            split at hnx
            · rename_i hr1
              refine ⟨ps.length - (r + 1), by omega, r + 1, .ref (id + 1) 0 l.length none 1, hr1, rfl, .inr ⟨by rw [hpl _ hr1, hlr], ?_, ?_⟩, rfl⟩
              · rw [← hset _ hr1 (Option.some.inj hnx)]
              · rw [List.getElem?_set_self hZl, Option.some.inj hnx]
            · cases hnx
      · obtain rfl : a = 0 := by omega
        have hs : succ? l = none := by
          unfold succ?; rw [hrise]; rfl
        conv => whnf
        refine ⟨.inr rfl, hlast ?_, rfl⟩
        rw [hs] at hnx
        split at hnx
        · cases hnx
        · omega
    · subst hX2
      conv => whnf
      refine ⟨_, _, call6 (bs := [L1 ps[r]]) ?_ ?_ (clone_ok ps[r] (by omega) (by omega)) (scal_U1 _), ?_⟩
      · simp only [List.map_cons, List.map_nil, shz_ref hXg]; rfl
      · simp only [List.map_cons, List.map_nil, shz_ref hXg, List.all_cons, List.all_nil, pu1', Bool.and_true]
      conv => whnf
      refine ⟨_, _, call1 hyr, ?_⟩
      conv => whnf
      rw [show IntKind.i64.wrap ((ps[r].length : Int) - 2) = ((ps[r].length - 1 : Nat) : Int) - 1 by rw [wrapI _ (by omega) (by omega)]; omega]
      generalize hl : ps[r] = l at *
      refine .intro (fun m T H => ∃ a, a ≤ l.length - 1 ∧ m = a ∧ rise l (l.length - 1) = rise l a ∧ T = slots 89 [(0, .yield id), (4, .ref (id + 1) 0 l.length none 1), (6, I ((a : Int) - 1))] ∧ H = Z) (l.length - 1) ⟨_, Nat.le_refl _, rfl, rfl, rfl, rfl⟩ ?_
      rintro a T Z1 ⟨_, ha, rfl, hrise, rfl, rfl⟩
      conv => whnf
      refine dcase (fun h1 => ?_) (fun h1 => ?_)
      · obtain ⟨b, rfl⟩ : ∃ b, a = b + 1 := ⟨a - 1, by omega⟩
        rw [show (((b + 1 : Nat) : Int) - 1) = (b : Int) by omega]
        conv => whnf
        refine ⟨by omega, ?_⟩
        conv => whnf
        refine nthK_of hZg ?_
        conv => whnf
        refine nthK_of (x := I (l.getD b 0)) (by rw [show 0 + (b : Int).toNat * 1 = b by omega]; exact I_get l b (by omega)) ?_
        conv => whnf
        rw [wrapS b (by omega)]
        refine ⟨by omega, ?_⟩
        conv => whnf
        refine nthK_of hZg ?_
        conv => whnf
        refine nthK_of (x := I (l.getD (b + 1) 0)) (by rw [show 0 + ((b + 1 : Nat) : Int).toNat * 1 = b + 1 by omega]; exact I_get l (b + 1) (by omega)) ?_
        conv => whnf
        rw [rise] at hrise
        refine dcase (fun h2 => ?_) (fun h2 => ?_)
        · conv => whnf
          refine ⟨b, by omega, b, by omega, rfl, by rw [hrise, if_pos h2], ?_, rfl⟩
          rw [wrapI ((b : Int) - 1) (by omega) (by omega)]
          rfl
        · rw [if_neg h2] at hrise
          conv => whnf
          rw [show IntKind.i64.wrap ((l.length : Int) - 1) = ((l.length - 1 : Nat) : Int) by rw [wrapI _ (by omega) (by omega)]; omega]
          refine .intro (fun m T H => ∃ c, b + 1 ≤ c ∧ c ≤ l.length - 1 ∧ m = c ∧ last l (l.getD b 0) (l.length - 1) = last l (l.getD b 0) c ∧ T = slots 89 [(0, .yield id), (4, .ref (id + 1) 0 l.length none 1), (6, I b), (7, I c)] ∧ H = Z1) (l.length - 1) ⟨_, by omega, Nat.le_refl _, rfl, rfl, rfl, rfl⟩ ?_
          rintro c T Z2 ⟨_, hc1, hc2, rfl, hla, rfl, rfl⟩
          conv => whnf
          refine ⟨by omega, ?_⟩
          conv => whnf
          refine nthK_of hZg ?_
          conv => whnf
          refine nthK_of (x := I (l.getD c 0)) (by rw [show 0 + (c : Int).toNat * 1 = c by omega]; exact I_get l c (by omega)) ?_
          conv => whnf
          refine ⟨by omega, ?_⟩
          conv => whnf
          refine nthK_of hZg ?_
          conv => whnf
          refine nthK_of (x := I (l.getD b 0)) (by rw [show 0 + (b : Int).toNat * 1 = b by omega]; exact I_get l b (by omega)) ?_
          conv => whnf
          obtain ⟨d, rfl⟩ : ∃ d, c = d + 1 := ⟨c - 1, by omega⟩
          rw [last] at hla
          refine dcase (fun h3 => ?_) (fun h3 => ?_)
          · have hd : b + 1 ≤ d := by
              by_cases e : d = b
              · subst e; exact absurd h3 h2
              · omega
            conv => whnf
            refine ⟨d, by omega, d, hd, by omega, rfl, by rw [hla, if_pos h3], ?_, rfl⟩
            rw [show IntKind.i64.wrap (((d + 1 : Nat) : Int) - 1) = (d : Int) by rw [wrapI _ (by omega) (by omega)]; omega]
            rfl
          · rw [if_neg h3] at hla
            have hs : succ? l = some (turn (swap l b (d + 1)) (b + 1)) := by
              unfold succ?; rw [hrise]; simp only [hla]
            have e1 : 0 + (b : Int).toNat * 1 = b := by omega
            have e2 : 0 + ((d + 1 : Nat) : Int).toNat * 1 = d + 1 := by omega
            have gs : ∀ c : AObj, (Z2.set (id + 1) c)[id + 1]? = some c := fun c => by rw [List.getElem?_set_self hZl]
            conv => whnf
            refine ⟨by omega, ?_⟩
            conv => whnf
            refine nthK_of hZg ?_
            conv => whnf
            refine nthK_of (x := I (l.getD (d + 1) 0)) (by rw [e2]; exact I_get l (d + 1) (by omega)) ?_
            conv => whnf
            refine ⟨by omega, ?_⟩
            conv => whnf
            refine nthK_of hZg ?_
            conv => whnf
            refine nthK_of (x := I (l.getD b 0)) (by rw [e1]; exact I_get l b (by omega)) ?_
            conv => whnf
            refine ⟨by omega, ?_⟩
            conv => whnf
            rw [hbl]
            conv => whnf
            refine nthK_of hZg ?_
            conv => whnf
            refine updK_of (by rw [List.length_map]; omega) ?_
            conv => whnf
            refine ⟨by omega, ?_⟩
            conv => whnf
            rw [hbl]
            conv => whnf
            refine nthK_of (gs _) ?_
            conv => whnf
            refine updK_of (by rw [List.length_set, List.length_map]; omega) ?_
            conv => whnf
            rw [List.set_set, e1, e2]
            have hsw : ((l.map I).set b (I (l.getD (d + 1) 0))).set (d + 1) (I (l.getD b 0)) = (swap l b (d + 1)).map I := by
              unfold swap; rw [List.map_set, List.map_set]
            rw [wrapS b (by omega)]
            refine ⟨rfl, by omega, fun _ => ?_, fun h => by omega⟩
            conv => whnf
            have hrev := reverse_sem (swap l b (d + 1)) (b + 1) (by rw [swap_len]; omega) (by rw [swap_len]; omega) (H := Z2.set (id + 1) (.cells ((swap l b (d + 1)).map I))) (id := id + 1) (lo := lo) (by omega) (gs _)
            rw [swap_len, List.set_set] at hrev
            rw [hsw, show 0 + ((b + 1 : Nat) : Int).toNat * 1 = b + 1 by omega]
            refine ⟨_, _, call1 hrev, ?_⟩
            conv => whnf
            rw [hs] at hnx
            split at hnx
            · rename_i hr1
              refine ⟨ps.length - (r + 1), by omega, r + 1, .ref (id + 1) 0 l.length none 1, hr1, rfl, .inr ⟨by rw [hpl _ hr1, hlr], ?_, ?_⟩, rfl⟩
              · rw [← hset _ hr1 (Option.some.inj hnx)]
              · rw [List.getElem?_set_self hZl, Option.some.inj hnx]
            · cases hnx
      · obtain rfl : a = 0 := by omega
        have hs : succ? l = none := by
          unfold succ?; rw [hrise]; rfl
        conv => whnf
        refine ⟨.inr rfl, hlast ?_, rfl⟩
        rw [hs] at hnx
        split at hnx
        · cases hnx
        · omega
end
end Go.Proofs.Ytlcebaejlnpdeaa.Ab

/-
  A table of closed calls.
-/
namespace Go.Proofs.Ytlcebaejlnpdeaa.Ab
open Go

def capEq : Cap → Cap → Bool
  | .shared, .shared => true
  | .full, .full => true
  | .own a, .own b => Nat.beq a b
  | .uniq a, .uniq b => Nat.beq a b
  | _, _ => false
theorem capEq_ok : ∀ {a b : Cap}, capEq a b = true → a = b := by
  intro a b h
  cases a <;> cases b <;> simp only [capEq, Bool.false_eq_true] at h <;> first | rfl | (rw [Nat.eq_of_beq_eq_true h])

def lEq (f : AV → AV → Bool) : List AV → List AV → Bool
  | [], [] => true
  | a :: l, b :: r => match f a b with
    | true => lEq f l r
    | false => false
  | _, _ => false
theorem lEq_ok {f : AV → AV → Bool} (hf : ∀ a b, f a b = true → a = b) : ∀ {a b : List AV}, lEq f a b = true → a = b
  | [], [], _ => rfl
  | [], _ :: _, h => by simp [lEq] at h
  | _ :: _, [], h => by simp [lEq] at h
  | a :: l, b :: r, h => by
    simp only [lEq] at h
    split at h
    · rename_i hab; rw [hf a b hab, lEq_ok hf h]
    · cases h

/-- Equality of closed values. -/
def avEq : Nat → AV → AV → Bool
  | 0, _, _ => false
  | d + 1, a, b => match a, b with
    | .bool x, .bool y => match x, y with | true, true => true | false, false => true | _, _ => false
    | .int k x, .int q y => match decide (k = q), decide (x = y) with | true, true => true | _, _ => false
    | .nilp, .nilp => true
    | .lptr x, .lptr y => lEq (avEq d) x y
    | .lst x n c, .lst y m e => match lEq (avEq d) x y, Nat.beq n m, capEq c e with | true, true, true => true | _, _, _ => false
    | .func f x y, .func g z w => match Nat.beq f g, lEq (avEq d) x z, lEq (avEq d) y w with | true, true, true => true | _, _, _ => false
    | .agg x, .agg y => lEq (avEq d) x y
    | .tuple x, .tuple y => lEq (avEq d) x y
    | _, _ => false
theorem avEq_ok : ∀ (d : Nat) (a b : AV), avEq d a b = true → a = b
  | 0, _, _, h => by simp [avEq] at h
  | d + 1, a, b, h => by
    have ih := avEq_ok d
    unfold avEq at h
    split at h
    · split at h <;> first | rfl | cases h
    · rename_i k x q y
      split at h
      · rename_i h1 h2; rw [of_decide_eq_true h1, of_decide_eq_true h2]
      · cases h
    · rfl
    · rw [lEq_ok ih h]
    · split at h
      · rename_i h1 h2 h3; rw [lEq_ok ih h1, Nat.eq_of_beq_eq_true h2, capEq_ok h3]
      · cases h
    · split at h
      · rename_i h1 h2 h3; rw [Nat.eq_of_beq_eq_true h1, lEq_ok ih h2, lEq_ok ih h3]
      · cases h
    · rw [lEq_ok ih h]
    · rw [lEq_ok ih h]
    · cases h

/-- An entry: a pure call, or a call that hands out a map. -/
inductive Ent where
  | pure (k : Nat) (args : List AV) (v : AV)
  | map (k : Nat) (args : List AV) (es : List (Nat × AV × AV)) (clock : Nat)

def entOk (P : Program) : Ent → Prop
  | .pure k args v => PureOk P k args v
  | .map k args es clock => ∀ H, Sem P (.fn k) args H H.length (.map H.length) (H ++ [.map es clock])

def look (k : Nat) (args : List AV) (H : List AObj) (lo : Nat) : List Ent → Option (AV × List AObj)
  | [] => none
  | .pure q bs v :: r => match Nat.beq k q with
    | true => match lEq (avEq 20) args bs with
      | true => match H with
        | [] => some (v, [])
        | _ => look k args H lo r
      | false => look k args H lo r
    | false => look k args H lo r
  | .map q bs es clock :: r => match Nat.beq k q with
    | true => match lEq (avEq 20) args bs with
      | true => match Nat.beq lo H.length with
        | true => some (.map H.length, H ++ [.map es clock])
        | false => look k args H lo r
      | false => look k args H lo r
    | false => look k args H lo r

def tabOf (l : List Ent) : CallFn := fun tgt args H lo => match tgt with
  | .fn k => look k args H lo l
  | _ => none

theorem Sem.lo0 {P : Program} {tgt : Tgt} {args : List AV} {r : AV} {H' : List AObj} (h : Sem P tgt args [] 0 r H') (lo : Nat) : Sem P tgt args [] lo r H' :=
  ⟨⟨h.1.1, fun _ _ h => by simp at h⟩, h.2⟩

theorem look_ok {P : Program} {k : Nat} {args : List AV} {H : List AObj} {lo : Nat} {r : AV} {H' : List AObj} : ∀ {l : List Ent}, (∀ e ∈ l, entOk P e) → look k args H lo l = some (r, H') → Sem P (.fn k) args H lo r H'
  | [], _, h => by simp [look] at h
  | .pure q bs v :: l, hl, h => by
    have hrec := look_ok (k := k) (args := args) (H := H) (lo := lo) (r := r) (H' := H') fun e he => hl e (List.mem_cons_of_mem _ he)
    unfold look at h
    split at h
    · rename_i h1
      split at h
      · rename_i h2
        split at h
        · cases h
          have := hl (.pure q bs r) List.mem_cons_self
          rw [Nat.eq_of_beq_eq_true h1, lEq_ok (avEq_ok 20) h2]
          exact this.1.lo0 lo
        · exact hrec h
      · exact hrec h
    · exact hrec h
  | .map q bs es clock :: l, hl, h => by
    have hrec := look_ok (k := k) (args := args) (H := H) (lo := lo) (r := r) (H' := H') fun e he => hl e (List.mem_cons_of_mem _ he)
    unfold look at h
    split at h
    · rename_i h1
      split at h
      · rename_i h2
        split at h
        · rename_i h3
          cases h
          have := hl (.map q bs es clock) List.mem_cons_self
          rw [Nat.eq_of_beq_eq_true h1, lEq_ok (avEq_ok 20) h2, Nat.eq_of_beq_eq_true h3]
          exact this H
        · exact hrec h
      · exact hrec h
    · exact hrec h

theorem tab_sound {P : Program} {l : List Ent} (hl : ∀ e ∈ l, entOk P e) : CSound P (tabOf l) := csound_of fun tgt args H lo r H' h => by
  cases tgt with
  | fn k => exact look_ok hl h
  | yield i => simp [tabOf] at h

/-- Every function's annotations fit. -/
def okFrom (A : FuncId → FAnn) : Nat → List Func → Bool
  | _, [] => true
  | k, f :: r => match f.body with
    | some c => match codeOk (A k) c, f.name == "runtime.NumGoroutine" with
      | true, false => okFrom A (k + 1) r
      | _, _ => false
    | none => okFrom A (k + 1) r
theorem okFrom_ok {A : FuncId → FAnn} : ∀ {l : List Func} {k : Nat}, okFrom A k l = true → ∀ (i : Nat) (f : Func) (c : Code), l[i]? = some f → f.body = some c → codeOk (A (k + i)) c = true ∧ f.name ≠ "runtime.NumGoroutine"
  | [], _, _, i, f, c, h, _ => by simp at h
  | g :: r, k, h, i, f, c, hf, hc => by
    unfold okFrom at h
    cases i with
    | zero =>
      simp at hf; subst hf
      rw [hc] at h
      simp only at h
      split at h
      · rename_i h1 h2; exact ⟨h1, by simpa using h2⟩
      · cases h
    | succ i =>
      have hr : okFrom A (k + 1) r = true := by
        split at h
        · split at h
          · exact h
          · cases h
        · exact h
      have := okFrom_ok hr i f c (by simpa using hf) hc
      rw [show k + (i + 1) = k + 1 + i by omega]; exact this
theorem okAll {P : Program} {A : FuncId → FAnn} (h : okFrom A 0 P.funcs.toList = true) (k : Nat) (f : Func) (c : Code) (hf : P.funcs[k]? = some f) (hc : f.body = some c) : codeOk (A k) c = true ∧ f.name ≠ "runtime.NumGoroutine" := by
  have := okFrom_ok h k f c (by simpa using hf) hc
  rwa [Nat.zero_add] at this

theorem ann_ok : okFrom ann 0 Go.Proofs.Try.prog.funcs.toList = true := by kernel_rfl

/-- A closed call, over no objects. -/
noncomputable def runC (l : List Ent) (k : Nat) (args : List AV) : Option AV := match callF Go.Proofs.Try.prog ann (tabOf l) 300 (.fn k) args [] 0 with
  | some (r, H2) => match frz H2 0 H2.length 0 8 r with
    | some v => match pureD 8 v.settle with
      | true => some v.settle
      | false => none
    | none => none
  | none => none
theorem runC_ok {l : List Ent} (hl : ∀ e ∈ l, entOk Go.Proofs.Try.prog e) {k : Nat} {args : List AV} {v : AV} (h : runC l k args = some v) : PureOk Go.Proofs.Try.prog k args v := by
  unfold runC at h
  split at h
  · rename_i r H2 hc
    split at h
    · rename_i u hf
      split at h
      · rename_i hp
        cases h
        have hs := (callF_sound hmix ann (tab_sound hl) (okAll ann_ok) 300).sem hc
        refine ⟨⟨Low.refl _ _, hs.2.1, fun B ω κ S w xs hH hn hv => CallsIn.mono (hs.2.2 B ω κ S w xs hH hn hv) fun e w' he => ?_⟩, hp⟩
        cases e with
        | returned x =>
          have hpost := post_frz hH (fun id hid => by simp at hid) hf he
          show Post B ω κ S w [] u.settle x w'
          cases u with
          | lst cells len cp =>
            cases cp with
            | uniq z => exact hpost.settle
            | _ => exact hpost
          | _ => exact hpost
        | panicked c => exact he.elim
        | outgrown => exact he.elim
      · cases h
    · cases h
  · cases h
end Go.Proofs.Ytlcebaejlnpdeaa.Ab

/-
  Plain words of layer 5: the program's orders: joints, layer by layer.
-/
namespace Go.Proofs.Ytlcebaejlnpdeaa.Ab

/-- A joint: orders from a layer on, that layer's seams, meetings, the distance. -/
structure Jt where
  o : List (List Int)
  s : List Int
  m : Int
  d : Int
def bestJ (better : Jt → Jt → Bool) (l : List Jt) (x : Jt) : Jt := l.foldl (fun o y => if better y o = true then y else o) x
def bestL (better : Jt → Jt → Bool) (l : List Jt) : Jt := match l with
  | [] => ⟨[], [], 0, 0⟩
  | x :: t => bestJ better t x
def fw (x y : Jt) : Bool := decide (x.m < y.m)
def fr (x y : Jt) : Bool := decide (y.d < x.d)
def tryJ (s : List Int) (j : Jt) : Jt := ⟨j.o, [], j.m + common s j.s, 0⟩
/-- One layer more in front. -/
def jointOf (layer : List Int) (behind : List Jt) (o : List Int) : Jt :=
  ⟨o :: (bestL fw (behind.map (tryJ (seamsOf layer o)))).o, seamsOf layer o, (bestL fw (behind.map (tryJ (seamsOf layer o)))).m, 0⟩
def nextJ (layer : List Int) (behind : List Jt) : List Jt := (perms layer.length).map (jointOf layer behind)
def joints : List (List Int) → List Jt
  | [] => [⟨[], [], 0, 0⟩]
  | a :: r => nextJ a (joints r)
def progOrders (p : List (List Int)) : List (List Int) := (bestL fw (joints p)).o
theorem nextJ_len (a : List Int) (b : List Jt) : (nextJ a b).length = (perms a.length).length := by simp [nextJ]
/-- What bounds joints. -/
structure Jb (n : Nat) (x : Jt) : Prop where
  o : x.o.length = n
  s : x.s.length ≤ 4
  m0 : 0 ≤ x.m
  m1 : x.m ≤ 4 * n
theorem bestJ_mem (better : Jt → Jt → Bool) : ∀ (l : List Jt) (x : Jt), bestJ better l x ∈ x :: l
  | [], x => by simp [bestJ]
  | y :: l, x => by
    have := bestJ_mem better l (if better y x = true then y else x)
    have e : bestJ better (y :: l) x = bestJ better l (if better y x = true then y else x) := rfl
    rw [e]
    split at this
    · rename_i h; rw [if_pos h]; simp only [List.mem_cons] at this ⊢; rcases this with h | h <;> simp [h]
    · rename_i h; rw [if_neg h]; simp only [List.mem_cons] at this ⊢; rcases this with h | h <;> simp [h]
theorem bestL_mem (better : Jt → Jt → Bool) (l : List Jt) (h : 0 < l.length) : bestL better l ∈ l := by
  cases l with
  | nil => simp at h
  | cons x l => exact bestJ_mem better l x
theorem jointOf_b {n : Nat} {a : List Int} {b : List Jt} (hb : ∀ x ∈ b, Jb n x) (h0 : 0 < b.length) {o : List Int} (ho : o.length ≤ 5) : Jb (n + 1) (jointOf a b o) := by
  have hs : (seamsOf a o).length ≤ 4 := by simp [seamsOf, seamsGo_length]; omega
  have hm := bestL_mem fw (b.map (tryJ (seamsOf a o))) (by simpa using h0)
  obtain ⟨j, hj, e⟩ := List.mem_map.1 hm
  have := hb j hj
  have hc := common_le (seamsOf a o) j.s
  refine ⟨?_, hs, ?_, ?_⟩
  · simp only [jointOf, List.length_cons, ← e, tryJ]; rw [this.o]
  · simp only [jointOf, ← e, tryJ]; have := this.m0; omega
  · simp only [jointOf, ← e, tryJ]; have := this.m1; omega
theorem joints_b : ∀ (p : List (List Int)), (∀ l ∈ p, 1 ≤ l.length ∧ l.length ≤ 5) → 0 < (joints p).length ∧ (joints p).length ≤ 3125 ∧ ∀ x ∈ joints p, Jb p.length x
  | [], _ => ⟨by simp [joints], by simp [joints], by simp [joints]; exact ⟨rfl, by simp, by simp, by simp⟩⟩
  | a :: r, h => by
    obtain ⟨h1, h2, h3⟩ := joints_b r fun l hl => h l (by simp [hl])
    have ha := h a (by simp)
    refine ⟨by simp only [joints, nextJ_len]; exact perms_pos ha.1 ha.2, by simp only [joints, nextJ_len]; exact perms_len ha.2, fun x hx => ?_⟩
    simp only [joints, nextJ, List.mem_map] at hx
    obtain ⟨o, ho, rfl⟩ := hx
    exact jointOf_b h3 h1 (by rw [(perms_mem ho).1]; exact ha.2)
end Go.Proofs.Ytlcebaejlnpdeaa.Ab

/-
  Contracts: joints; the best of them; lists of lists joined.
-/
namespace Go.Proofs.Ytlcebaejlnpdeaa.Ab
open Go
set_option maxRecDepth 20000
set_option maxHeartbeats 4000000

/-- Its four cells: whether its lists are known to be full. -/
def jcw (co cs : Cap) (x : Jt) : List AV := [.lst (x.o.map L1) x.o.length co, .lst (x.s.map I) x.s.length cs, I x.m, I x.d]
abbrev jc (x : Jt) : List AV := jcw .shared .shared x
def LJ (co cs : Cap) (l : List Jt) (c : Cap) : AV := .lst (l.flatMap (jcw co cs)) l.length c
section
variable (co cs : Cap)
theorem dropJ : ∀ (l : List Jt) (i : Nat) (h : i < l.length), (l.flatMap (jcw co cs)).drop (i * 4) = jcw co cs l[i] ++ (l.drop (i + 1)).flatMap (jcw co cs)
  | x :: l, 0, h => by simp [List.flatMap_cons]
  | x :: l, i + 1, h => by
    have e : (i + 1) * 4 = (jcw co cs x).length + i * 4 := by rw [show (jcw co cs x).length = 4 from rfl]; omega
    rw [List.flatMap_cons, e, ← List.drop_drop, List.drop_left]
    simpa using dropJ l i (by simpa using h)
theorem flenJ (l : List Jt) : (l.flatMap (jcw co cs)).length = l.length * 4 := by
  induction l with
  | nil => rfl
  | cons x l ih => rw [List.flatMap_cons, List.length_append, ih, show (jcw co cs x).length = 4 from rfl, List.length_cons]; omega
theorem dropJ1 (l : List Jt) : AV.lst (((l.flatMap (jcw co cs)).drop ((1 : Int).toNat * 4)).take ((l.length - (1 : Int).toNat) * 4)) (l.length - (1 : Int).toNat) .shared = LJ co cs (l.drop 1) .shared := by
  have e : (l.flatMap (jcw co cs)).drop 4 = (l.drop 1).flatMap (jcw co cs) := by
    cases l with
    | nil => rfl
    | cons x l => simp [List.flatMap_cons, jcw]
  show AV.lst (((l.flatMap (jcw co cs)).drop 4).take ((l.length - 1) * 4)) (l.length - 1) .shared = _
  rw [e, List.take_of_length_le (by rw [flenJ]; simp), LJ, List.length_drop]
theorem pureJL (l : List Jt) : (l.flatMap (jcw co cs)).all (pureD 7) = true := by
  rw [List.all_eq_true]; intro u hu
  obtain ⟨x, _, hx⟩ := List.mem_flatMap.1 hu
  simp only [jcw, List.mem_cons, List.not_mem_nil, or_false] at hx
  rcases hx with rfl | rfl | rfl | rfl
  · exact pure_lists 4 _
  · exact pure_ints 5 _
  · rfl
  · rfl
theorem puLJ (l : List Jt) (n : Nat) (c : Cap) : pureD 8 (.lst (l.flatMap (jcw co cs)) n c) = true := pureJL co cs l
theorem pureJ (x : Jt) : pureD 8 (.agg (jcw co cs x)) = true := by
  have := pureJL co cs [x]
  rw [List.flatMap_cons, List.flatMap_nil, List.append_nil] at this
  exact this
end
theorem setc_get (Y : List AObj) (c d : AObj) : ((Y.append [c]).set Y.length d)[Y.length]? = some d := by
  show ((Y ++ [c]).set Y.length d)[Y.length]? = some d
  rw [set_concat, get_concat]
/-- Which lists are full. -/
def Caps (co cs : Cap) : Prop := (co = .full ∧ cs = .full) ∨ (co = .shared ∧ cs = .full) ∨ (co = .shared ∧ cs = .shared)
theorem best_ok (better : Jt → Jt → Bool) (f : FuncId) {co cs : Cap} (hc : Caps co cs) (x : Jt) (l : List Jt) (hl : l.length ≤ 1000000) (hf : ∀ a b : Jt, PO f [.agg (jc a), .agg (jc b)] (B (better a b))) :
    PO 101 [LJ co cs (x :: l) .shared, .func f [] []] (.agg (jcw co cs (bestJ better l x))) := by
  rcases hc with ⟨rfl, rfl⟩ | ⟨rfl, rfl⟩ | ⟨rfl, rfl⟩
  · refine fn_pure hmix lk101 rfl (pureJ _ _ _) ?_
    unfold rc101
    conv => whnf
    refine ⟨by first | (simp; done) | (simp; omega), ?_⟩
    rw [show ((x :: l).flatMap (jcw .full .full)).drop ((0 : Int).toNat * 4) = jcw .full .full x ++ l.flatMap (jcw .full .full) from rfl]
    conv => whnf
    refine ⟨by first | (simp; done) | (simp; omega), ?_⟩
    rw [dropJ1, List.drop_one, List.tail_cons]
    conv => whnf
    refine .intro (fun m T H => ∃ i Y, i ≤ l.length ∧ m = l.length - i ∧ T = slots 25 [(1, .func f [] []), (4, .ptr 0 0), (5, .ptr 1 0), (12, LJ .full .full l .shared), (13, I l.length), (14, I i)] ∧ H = .cells [nilF, nilF, I 0, I 0] :: .cells (jcw .full .full (bestJ better (l.take i) x)) :: Y) l.length ⟨0, [], by omega, by omega, rfl, rfl⟩ ?_
    rintro m T H ⟨i, Y, hi, rfl, rfl, rfl⟩
    conv => whnf
    refine dcase (fun h => ?_) (fun h => ?_)
    · have hlt : i < l.length := by omega
      have hb : bestJ better (l.take (i + 1)) x = if better l[i] (bestJ better (l.take i) x) = true then l[i] else bestJ better (l.take i) x := foldl_take _ _ l i hlt
      generalize bestJ better (l.take i) x = cur at hb ⊢
      conv => whnf
      refine ⟨by omega, ?_⟩
      conv => whnf
      rw [Int.toNat_natCast, dropJ .full .full l i hlt]
      conv => whnf
      refine nthK_of (get_concat _ _) ?_
      conv => whnf
      refine nthK_of (x := .cells (jcw .full .full l[i])) (setc_get _ _ _) ?_
      conv => whnf
      refine ⟨_, _, call6 (bs := [.agg (jc l[i]), .agg (jc cur)]) rfl (by show (pureD 8 (.agg (jc l[i])) && (pureD 8 (.agg (jc cur)) && true)) = true; rw [pureJ .shared .shared, pureJ .shared .shared]; rfl) (hf _ _) rfl, ?_⟩
      conv => whnf
      cases hbt : better l[i] cur with
      | true =>
        conv => whnf
        refine nthK_of (x := .cells (jcw .full .full l[i])) (setc_get _ _ _) ?_
        conv => whnf
        refine ⟨l.length - (i + 1), by omega, i + 1, Y ++ [.cells (jcw .full .full l[i])], by omega, rfl, by rw [← wrapS i (by omega)] <;> rfl, ?_⟩
        rw [hb, if_pos hbt]
        rw [set_concat]; rfl
      | false =>
        conv => whnf
        refine ⟨l.length - (i + 1), by omega, i + 1, Y ++ [.cells (jcw .full .full l[i])], by omega, rfl, by rw [← wrapS i (by omega)] <;> rfl, ?_⟩
        rw [hb, if_neg (by simp [hbt])]
        rw [set_concat]; rfl
    · obtain rfl : i = l.length := by omega
      rw [List.take_length]
      conv => whnf
      exact ret_pure (.inr rfl) (pureJ _ _ _) rfl
  · refine fn_pure hmix lk101 rfl (pureJ _ _ _) ?_
    unfold rc101
    conv => whnf
    refine ⟨by first | (simp; done) | (simp; omega), ?_⟩
    rw [show ((x :: l).flatMap (jcw .shared .full)).drop ((0 : Int).toNat * 4) = jcw .shared .full x ++ l.flatMap (jcw .shared .full) from rfl]
    conv => whnf
    refine ⟨by first | (simp; done) | (simp; omega), ?_⟩
    rw [dropJ1, List.drop_one, List.tail_cons]
    conv => whnf
    refine .intro (fun m T H => ∃ i Y, i ≤ l.length ∧ m = l.length - i ∧ T = slots 25 [(1, .func f [] []), (4, .ptr 0 0), (5, .ptr 1 0), (12, LJ .shared .full l .shared), (13, I l.length), (14, I i)] ∧ H = .cells [nilF, nilF, I 0, I 0] :: .cells (jcw .shared .full (bestJ better (l.take i) x)) :: Y) l.length ⟨0, [], by omega, by omega, rfl, rfl⟩ ?_
    rintro m T H ⟨i, Y, hi, rfl, rfl, rfl⟩
    conv => whnf
    refine dcase (fun h => ?_) (fun h => ?_)
    · have hlt : i < l.length := by omega
      have hb : bestJ better (l.take (i + 1)) x = if better l[i] (bestJ better (l.take i) x) = true then l[i] else bestJ better (l.take i) x := foldl_take _ _ l i hlt
      generalize bestJ better (l.take i) x = cur at hb ⊢
      conv => whnf
      refine ⟨by omega, ?_⟩
      conv => whnf
      rw [Int.toNat_natCast, dropJ .shared .full l i hlt]
      conv => whnf
      refine nthK_of (get_concat _ _) ?_
      conv => whnf
      refine nthK_of (x := .cells (jcw .shared .full l[i])) (setc_get _ _ _) ?_
      conv => whnf
      refine ⟨_, _, call6 (bs := [.agg (jc l[i]), .agg (jc cur)]) rfl (by show (pureD 8 (.agg (jc l[i])) && (pureD 8 (.agg (jc cur)) && true)) = true; rw [pureJ .shared .shared, pureJ .shared .shared]; rfl) (hf _ _) rfl, ?_⟩
      conv => whnf
      cases hbt : better l[i] cur with
      | true =>
        conv => whnf
        refine nthK_of (x := .cells (jcw .shared .full l[i])) (setc_get _ _ _) ?_
        conv => whnf
        refine ⟨l.length - (i + 1), by omega, i + 1, Y ++ [.cells (jcw .shared .full l[i])], by omega, rfl, by rw [← wrapS i (by omega)] <;> rfl, ?_⟩
        rw [hb, if_pos hbt]
        rw [set_concat]; rfl
      | false =>
        conv => whnf
        refine ⟨l.length - (i + 1), by omega, i + 1, Y ++ [.cells (jcw .shared .full l[i])], by omega, rfl, by rw [← wrapS i (by omega)] <;> rfl, ?_⟩
        rw [hb, if_neg (by simp [hbt])]
        rw [set_concat]; rfl
    · obtain rfl : i = l.length := by omega
      rw [List.take_length]
      conv => whnf
      exact ret_pure (.inr rfl) (pureJ _ _ _) rfl
  · refine fn_pure hmix lk101 rfl (pureJ _ _ _) ?_
    unfold rc101
    conv => whnf
    refine ⟨by first | (simp; done) | (simp; omega), ?_⟩
    rw [show ((x :: l).flatMap (jcw .shared .shared)).drop ((0 : Int).toNat * 4) = jcw .shared .shared x ++ l.flatMap (jcw .shared .shared) from rfl]
    conv => whnf
    refine ⟨by first | (simp; done) | (simp; omega), ?_⟩
    rw [dropJ1, List.drop_one, List.tail_cons]
    conv => whnf
    refine .intro (fun m T H => ∃ i Y, i ≤ l.length ∧ m = l.length - i ∧ T = slots 25 [(1, .func f [] []), (4, .ptr 0 0), (5, .ptr 1 0), (12, LJ .shared .shared l .shared), (13, I l.length), (14, I i)] ∧ H = .cells [nilF, nilF, I 0, I 0] :: .cells (jcw .shared .shared (bestJ better (l.take i) x)) :: Y) l.length ⟨0, [], by omega, by omega, rfl, rfl⟩ ?_
    rintro m T H ⟨i, Y, hi, rfl, rfl, rfl⟩
    conv => whnf
    refine dcase (fun h => ?_) (fun h => ?_)
    · have hlt : i < l.length := by omega
      have hb : bestJ better (l.take (i + 1)) x = if better l[i] (bestJ better (l.take i) x) = true then l[i] else bestJ better (l.take i) x := foldl_take _ _ l i hlt
      generalize bestJ better (l.take i) x = cur at hb ⊢
      conv => whnf
      refine ⟨by omega, ?_⟩
      conv => whnf
      rw [Int.toNat_natCast, dropJ .shared .shared l i hlt]
      conv => whnf
      refine nthK_of (get_concat _ _) ?_
      conv => whnf
      refine nthK_of (x := .cells (jcw .shared .shared l[i])) (setc_get _ _ _) ?_
      conv => whnf
      refine ⟨_, _, call6 (bs := [.agg (jc l[i]), .agg (jc cur)]) rfl (by show (pureD 8 (.agg (jc l[i])) && (pureD 8 (.agg (jc cur)) && true)) = true; rw [pureJ .shared .shared, pureJ .shared .shared]; rfl) (hf _ _) rfl, ?_⟩
      conv => whnf
      cases hbt : better l[i] cur with
      | true =>
        conv => whnf
        refine nthK_of (x := .cells (jcw .shared .shared l[i])) (setc_get _ _ _) ?_
        conv => whnf
        refine ⟨l.length - (i + 1), by omega, i + 1, Y ++ [.cells (jcw .shared .shared l[i])], by omega, rfl, by rw [← wrapS i (by omega)] <;> rfl, ?_⟩
        rw [hb, if_pos hbt]
        rw [set_concat]; rfl
      | false =>
        conv => whnf
        refine ⟨l.length - (i + 1), by omega, i + 1, Y ++ [.cells (jcw .shared .shared l[i])], by omega, rfl, by rw [← wrapS i (by omega)] <;> rfl, ?_⟩
        rw [hb, if_neg (by simp [hbt])]
        rw [set_concat]; rfl
    · obtain rfl : i = l.length := by omega
      rw [List.take_length]
      conv => whnf
      exact ret_pure (.inr rfl) (pureJ _ _ _) rfl
theorem fewer_ok (a b : Jt) : PO 100 [.agg (jc a), .agg (jc b)] (B (fw a b)) := by
  refine fn_pure hmix lk100 rfl rfl ?_
  unfold rc100
  conv => whnf
  exact ret_pure (.inr rfl) rfl rfl
theorem farther_ok (a b : Jt) : PO 111 [.agg (jc a), .agg (jc b)] (B (fr a b)) := by
  refine fn_pure hmix lk111 rfl rfl ?_
  unfold rc111
  conv => whnf
  exact ret_pure (.inr rfl) rfl rfl

/-! ### slices.Concat -/
theorem sem_pure {P : Program} {k : FuncId} {args : List AV} {v : AV} (ha : args.all (pureD 8) = true) (h : PureOk P k args v) (H : List AObj) : Sem P (.fn k) args H H.length v H := by
  obtain ⟨⟨_, h1, h2⟩, hp⟩ := h
  exact ⟨Low.refl _ _, h1, fun B ω κ S w vs hH hn hv => CallsIn.mono (h2 B _ [] S w vs (hrel_pure hH) (fun b i h => by obtain ⟨_, _, h⟩ := argsOnly_some h; cases h) (hv.pure ha)) fun e w' he => by
    cases e with
    | returned v => exact post_pure hH (frz_pure (n := 0) hp) he
    | panicked c => exact he.elim
    | outgrown => exact he.elim⟩
/-- A call of mode 0. -/
theorem call0 {P : Program} {k : FuncId} {args : List AV} {v : AV} (ha : args.all (pureD 8) = true) (h : PureOk P k args v) (H : List AObj) (lo : Nat) : CallS P 0 lo (.fn k) args H v H :=
  ⟨_, oneC_sound (sem_pure ha h H), by simp only [callTo, oneC_self, Option.bind_some, frz_pure h.2, Option.map_some]⟩
theorem noEnt : ∀ e ∈ ([] : List Ent), entOk Go.Proofs.Try.prog e := by simp
theorem grow1 : PO 113 [nilF, I 1] (.lst [] 0 (.own 1)) := runC_ok noEnt (by kernel_rfl)
theorem grow2 : PO 113 [nilF, I 2] (.lst [] 0 (.own 1)) := runC_ok noEnt (by kernel_rfl)
theorem grow3 : PO 113 [nilF, I 3] (.lst [] 0 (.own 1)) := runC_ok noEnt (by kernel_rfl)
theorem grow4 : PO 113 [nilF, I 4] (.lst [] 0 (.own 1)) := runC_ok noEnt (by kernel_rfl)
theorem growN (n : Nat) (h1 : 1 ≤ n) (h4 : n ≤ 4) : PO 113 [nilF, I n] (.lst [] 0 (.own 1)) := by
  obtain rfl | rfl | rfl | rfl : n = 1 ∨ n = 2 ∨ n = 3 ∨ n = 4 := by omega
  · exact grow1
  · exact grow2
  · exact grow3
  · exact grow4
def pre2 (a b : List (List Int)) : Nat → List (List Int)
  | 0 => []
  | 1 => a
  | _ => a ++ b
theorem concat_ok (a b : List (List Int)) (ha : a.length = 1) (hb : b.length ≤ 3) : PO 102 [.lst [L2 a, L2 b] 2 .shared] (O2 (a ++ b)) := by
  refine fn_pure hmix lk102 rfl (pu2 _ _ _) ?_
  unfold rc102
  conv => whnf
  refine .intro (CI (fun i => slots 36 [(0, .lst [L2 a, L2 b] 2 .shared), (3, I ((pre2 a b i).length : Nat)), (9, .lst [L2 a, L2 b] 2 .shared), (10, I 2), (11, I i)]) 2 []) 2 (ci0 rfl) ?_
  rintro m T H ⟨i, hi, rfl, rfl, rfl⟩
  conv => whnf
  refine dcase (fun h => ?_) (fun h => ?_)
  · obtain rfl | rfl : i = 0 ∨ i = 1 := by omega
    · conv => whnf
      refine ⟨by omega, ?_⟩
      conv => whnf
      rw [wrapI _ (by first | (simp [pre2]; done) | (simp [pre2]; omega)) (by simp [pre2]; omega), decide_eq_false (by first | (simp [pre2]; done) | (simp [pre2]; omega))]
      conv => whnf
      exact ciN (by omega) (by rw [show ((pre2 a b (0 + 1)).length : Int) = ((pre2 a b 0).length : Int) + a.length by simp [pre2]] <;> rfl)
    · conv => whnf
      refine ⟨by omega, ?_⟩
      conv => whnf
      rw [wrapI _ (by first | (simp [pre2]; done) | (simp [pre2]; omega)) (by simp [pre2]; omega), decide_eq_false (by first | (simp [pre2]; done) | (simp [pre2]; omega))]
      conv => whnf
      exact ciN (by omega) (by rw [show ((pre2 a b (1 + 1)).length : Int) = ((pre2 a b 1).length : Int) + b.length by simp [pre2]] <;> rfl)
  · obtain rfl : i = 2 := by omega
    conv => whnf
    refine ⟨_, _, call0 (by rfl) (growN (pre2 a b 2).length (by first | (simp [pre2]; done) | (simp [pre2]; omega)) (by simp [pre2]; omega)) _ _, ?_⟩
    conv => whnf
    refine .intro (CI (fun i => slots 36 [(6, O2 (pre2 a b i)), (25, .lst [L2 a, L2 b] 2 .shared), (26, I 2), (27, I i)]) 2 []) 2 (ci0 rfl) ?_
    rintro m T H ⟨i, hi, rfl, rfl, rfl⟩
    conv => whnf
    refine dcase (fun h => ?_) (fun h => ?_)
    · obtain rfl | rfl : i = 0 ∨ i = 1 := by omega
      · conv => whnf
        refine ⟨by omega, ?_⟩
        conv => whnf
        refine ⟨by simp, by omega, ?_⟩
        conv => whnf
        refine ⟨by simp, ?_⟩
        conv => whnf
        refine ⟨by simp [pre2]; omega, ?_⟩
        conv => whnf
        exact ciN (by omega) (by rw [show O2 (pre2 a b (0 + 1)) = .lst ((pre2 a b 0).map L1 ++ a.map L1) ((pre2 a b 0).length + a.length) (.own 1) by simp [O2, pre2]] <;> rfl)
      · conv => whnf
        refine ⟨by omega, ?_⟩
        conv => whnf
        refine ⟨by simp, by omega, ?_⟩
        conv => whnf
        refine ⟨by simp, ?_⟩
        conv => whnf
        refine ⟨by simp [pre2]; omega, ?_⟩
        conv => whnf
        exact ciN (by omega) (by rw [show O2 (pre2 a b (1 + 1)) = .lst ((pre2 a b 1).map L1 ++ b.map L1) ((pre2 a b 1).length + b.length) (.own 1) by simp [O2, pre2]] <;> rfl)
    · obtain rfl : i = 2 := by omega
      conv => whnf
      exact ret_own (.inr rfl) (pu2 _ _ _) (.inl rfl)
end Go.Proofs.Ytlcebaejlnpdeaa.Ab

/- MADE BY PROGRAM (rcy.py): rounds, looked up. -/
namespace Go.Proofs.Ytlcebaejlnpdeaa.Ab
open Go
noncomputable def rcY77A : RC :=
  .reg false [I_ 7 [.tk 32] .mv]
theorem lkY77A : linkC Go.Proofs.Try.prog ann77 (rngA Go.Proofs.Try.prog 77 0) 0 = some rcY77A := by kernel_rfl
noncomputable def rcY91A : RC :=
  .reg false [I_ 8 [.tk 37] .mv]
theorem lkY91A : linkC Go.Proofs.Try.prog ann91 (rngA Go.Proofs.Try.prog 91 0) 0 = some rcY91A := by kernel_rfl
noncomputable def rcY77B : RC :=
  .block 3 (.seq (.reg false [I_ 33 [.tv 1] (.ld .one), I_ 34 [.tv 5] (.ld .one), I_ 35 [.sl 7] .mv, I_ 36 [.cv (.func 87 [] []), .sl 33, .sl 34, .sl 35] (.call 3), I_ 8 [.tk 36] .mv]) (.seq (.reg false [I_ 9 [.cv (.lst [] 0
  .full)] (.nil 4)]) (.seq (.seq (.reg false [I_ 37 [.tv 3] (.ld .one), I_ 38 [.sl 37] .lenS, I_ 39 [.cv (.int .i64 0)] .mv]) (.block 4 (.loop (some [false, false, false, false, true, false, true, true, true, true, false, false,
  false, false, false, false, false, false, false, false, false, false, false, false, false, false, false, false, false, false, false, false, false, false, false, false, false, true, true, true, false, false, false, false, false,
  false, false, false, false, false, false, false, false, false, false, false, false, false, false, false, false, false, false, false, false, false, false, false, false, false, false, false, false, false, false, false, false,
  false, false, false, false, false, false, false, false, false, false, false]) (.seq (.reg false [I_ 40 [.sl 39, .sl 38] (.bin .lss)]) (.seq (.cond (.sl 40) .skip (.exit 4)) (.seq (.block 5 (.seq (.reg false [I_ 41 [.sl 37, .sl
  39] (.ia 4), I_ 42 [.tv 41] (.ld (.str 4)), I_ 11 [] (.alloc [.lst [] 0 .full, .lst [] 0 .full, .int .i64 0, .int .i64 0]), ⟨none, [.sl 11, .tk 42], none, none, .st 4⟩]) (.seq (.reg false [I_ 43 [.sl 11] (.fa 2), I_ 44 [.tv 43]
  (.ld .one), I_ 12 [.tk 44] .mv]) (.seq (.seq (.reg false [I_ 45 [.sl 8] .mv, I_ 46 [.sl 45] .lenS, I_ 47 [.cv (.int .i64 0)] .mv]) (.block 6 (.loop (some [false, false, false, false, true, false, true, true, true, true, false,
  true, true, false, false, false, false, false, false, false, false, false, false, false, false, false, false, false, false, false, false, false, false, false, false, false, false, true, true, true, false, false, false, false,
  false, true, true, true, false, false, false, false, false, false, false, false, false, false, false, false, false, false, false, false, false, false, false, false, false, false, false, false, false, false, false, false, false,
  false, false, false, false, false, false, false, false, false, false, false]) (.seq (.reg false [I_ 48 [.sl 47, .sl 46] (.bin .lss)]) (.seq (.cond (.sl 48) .skip (.exit 6)) (.seq (.block 7 (.seq (.reg false [I_ 49 [.sl 45, .sl
  47] (.ia 1), I_ 50 [.tv 49] (.ld .one), I_ 14 [.tk 50] .mv]) (.seq (.reg false [I_ 51 [.sl 11] (.fa 1), I_ 52 [.tv 51] (.ld .one), I_ 53 [.tk 14] .mv, I_ 54 [.cv (.func 72 [] []), .sl 52, .sl 53] (.call 3)]) (.cond (.sl 54)
  (.reg false [I_ 55 [.tk 12] .mv, I_ 56 [.tv 55, .cv (.int .i64 1)] (.bin .add), I_ 12 [.tk 56] .mv]) .skip)))) (.reg false [I_ 57 [.tv 47, .cv (.int .i64 1)] (.bin .add), I_ 47 [.tk 57] .mv]))))))) (.reg false [I_ 58 [.tk 9]
  .mv, I_ 59 [.tv 11] (.fa 0), I_ 60 [.tv 59] (.ld .one), I_ 61 [.tk 12] .mv, I_ 62 [.tv 60, .tv 61] (.build [.lst [] 0 .full, .lst [] 0 .full, .int .i64 0, .int .i64 0] [(0, 1), (2, 1)]), I_ 63 [.tv 62] (.buildS 1 4 [.lst [] 0
  .full, .lst [] 0 .full, .int .i64 0, .int .i64 0] [0]), I_ 64 [.tk 58, .tk 63] (.app 4 64), I_ 9 [.tk 64] .mv]))))) (.reg false [I_ 65 [.tv 39, .cv (.int .i64 1)] (.bin .add), I_ 39 [.tk 65] .mv]))))))) (.seq (.reg false [I_ 66
  [.tk 9] .mv, I_ 67 [.tv 4] (.ld .one), I_ 68 [.cv (.func 101 [] []), .sl 66, .sl 67] (.call 3), I_ 15 [] (.alloc [.lst [] 0 .full, .lst [] 0 .full, .int .i64 0, .int .i64 0]), ⟨none, [.sl 15, .tk 68], none, none, .st 4⟩]) (.reg
  true [I_ 69 [.sl 6] .take, I_ 70 [.tk 7] .mv, I_ 71 [.tv 70] (.buildS 1 1 [.lst [] 0 .full] [0]), I_ 72 [.sl 15] (.fa 0), I_ 73 [.tv 72] (.ld .one), I_ 74 [.tv 71, .tv 73] (.buildS 2 1 [.lst [] 0 .full] [0, 1]), I_ 75 [.cv
  (.func 102 [] []), .sl 74] (.call 3), I_ 76 [.tk 8] .mv, I_ 77 [.sl 15] (.fa 2), I_ 78 [.tv 77] (.ld .one), I_ 79 [.tv 75, .tv 76, .tv 78] (.build [.lst [] 0 .full, .lst [] 0 .full, .int .i64 0, .int .i64 0] [(0, 1), (1, 1),
  (2, 1)]), I_ 80 [.tv 79] (.buildS 1 4 [.lst [] 0 .full, .lst [] 0 .full, .int .i64 0, .int .i64 0] [0]), I_ 81 [.tk 69, .tk 80] (.app 4 64), ⟨none, [.sl 6, .tk 81], none, none, .st 1⟩])))))
theorem lkY77B : linkC Go.Proofs.Try.prog ann77 (rngB Go.Proofs.Try.prog 77 0) 0 = some rcY77B := by kernel_rfl
noncomputable def rcY91B : RC :=
  .block 3 (.seq (.reg false [I_ 38 [.tv 1] (.ld .one), I_ 39 [.tv 6] (.ld .one), I_ 40 [.sl 8] .mv, I_ 41 [.cv (.func 87 [] []), .sl 38, .sl 39, .sl 40] (.call 3), I_ 9 [.tk 41] .mv]) (.seq (.reg false [I_ 10 [.cv (.lst [] 0
  .full)] (.nil 4)]) (.seq (.seq (.reg false [I_ 42 [.tv 4] (.ld .one), I_ 43 [.sl 42] .lenS, I_ 44 [.cv (.int .i64 0)] .mv]) (.block 4 (.loop (some [false, false, false, true, false, true, false, true, true, true, true, false,
  false, false, false, false, false, false, false, false, false, false, false, false, false, false, false, false, false, false, false, false, false, false, false, false, false, false, false, false, false, false, true, true, true,
  false, false, false, false, false, false, false, false, false, false, false, false, false, false, false, false, false, false, false, false, false, false, false, false, false, false, false, false, false, false, false, false,
  false, false, false, false, false, false, false, false, false, false, false, false, false]) (.seq (.reg false [I_ 45 [.sl 44, .sl 43] (.bin .lss)]) (.seq (.cond (.sl 45) .skip (.exit 4)) (.seq (.block 5 (.seq (.reg false [I_ 46
  [.sl 42, .sl 44] (.ia 4), I_ 47 [.tv 46] (.ld (.str 4)), I_ 12 [] (.alloc [.lst [] 0 .full, .lst [] 0 .full, .int .i64 0, .int .i64 0]), ⟨none, [.sl 12, .tk 47], none, none, .st 4⟩]) (.reg true [I_ 48 [.tk 10] .mv, I_ 49 [.sl
  12] (.fa 0), I_ 50 [.tv 49] (.ld .one), I_ 51 [.sl 12] (.fa 3), I_ 52 [.tv 51] (.ld .one), I_ 53 [.sl 12] (.fa 1), I_ 54 [.tv 53] (.ld .one), I_ 55 [.sl 9] .mv, I_ 56 [.sl 3] (.ld .one), I_ 57 [.cv (.func 73 [] []), .sl 54, .sl
  55, .sl 56] (.call 3), I_ 58 [.tk 52, .tk 57] .min, I_ 59 [.tv 50, .tv 58] (.build [.lst [] 0 .full, .lst [] 0 .full, .int .i64 0, .int .i64 0] [(0, 1), (3, 1)]), I_ 60 [.tv 59] (.buildS 1 4 [.lst [] 0 .full, .lst [] 0 .full,
  .int .i64 0, .int .i64 0] [0]), I_ 61 [.tk 48, .tk 60] (.app 4 64), I_ 10 [.tk 61] .mv]))) (.reg false [I_ 62 [.tv 44, .cv (.int .i64 1)] (.bin .add), I_ 44 [.tk 62] .mv]))))))) (.seq (.reg false [I_ 63 [.tk 10] .mv, I_ 64 [.tv
  5] (.ld .one), I_ 65 [.cv (.func 101 [] []), .sl 63, .sl 64] (.call 3), I_ 13 [] (.alloc [.lst [] 0 .full, .lst [] 0 .full, .int .i64 0, .int .i64 0]), ⟨none, [.sl 13, .tk 65], none, none, .st 4⟩]) (.reg true [I_ 66 [.sl 7]
  .take, I_ 67 [.sl 13] (.fa 0), I_ 68 [.tv 67] (.ld .one), I_ 69 [.sl 13] (.fa 0), I_ 70 [.tv 69] (.ld .one), I_ 71 [.tk 70] .lenS, I_ 72 [.sl 13] (.fa 0), I_ 73 [.tv 72] (.ld .one), I_ 74 [.tk 73] .lenS, I_ 75 [.tk 68, .tk 71,
  .tk 74] (.slS 1 false true true), I_ 76 [.tk 8] .mv, I_ 77 [.tv 76] (.buildS 1 1 [.lst [] 0 .full] [0]), I_ 78 [.tk 75, .tk 77] (.app 1 24), I_ 79 [.tk 9] .mv, I_ 80 [.sl 13] (.fa 3), I_ 81 [.tv 80] (.ld .one), I_ 82 [.tv 78,
  .tv 79, .tv 81] (.build [.lst [] 0 .full, .lst [] 0 .full, .int .i64 0, .int .i64 0] [(0, 1), (1, 1), (3, 1)]), I_ 83 [.tv 82] (.buildS 1 4 [.lst [] 0 .full, .lst [] 0 .full, .int .i64 0, .int .i64 0] [0]), I_ 84 [.tk 66, .tk
  83] (.app 4 64), ⟨none, [.sl 7, .tk 84], none, none, .st 1⟩])))))
theorem lkY91B : linkC Go.Proofs.Try.prog ann91 (rngB Go.Proofs.Try.prog 91 0) 0 = some rcY91B := by kernel_rfl
end Go.Proofs.Ytlcebaejlnpdeaa.Ab

/-
  Contracts: the program's orders.
-/
namespace Go.Proofs.Ytlcebaejlnpdeaa.Ab
open Go
set_option maxRecDepth 20000
set_option maxHeartbeats 4000000

theorem puL (p : List (List Int)) : pureD 8 (Bn p) = true := puBn p
theorem puF (p : List (List Int)) (k : Int) : pureD 8 (.func 107 [] [.lptr [Bn p], .lptr [I k]]) = true := by
  have h : pureD 6 (Bn p) = true := by
    show [L2 p].all (pureD 5) = true
    rw [List.all_cons, List.all_nil, pure_L2 2 p]; rfl
  show (([] : List AV).all (pureD 7) && [AV.lptr [Bn p], AV.lptr [I k]].all (pureD 7)) = true
  show (true && (([Bn p] : List AV).all (pureD 6) && (true && true))) = true
  rw [List.all_cons, h]; rfl
theorem all_ok86 (p : List (List Int)) (k : Int) : PO 86 [Bn p, I k] (.func 107 [] [.lptr [Bn p], .lptr [I k]]) := by
  refine fn_pure hmix lk86 rfl (puF p k) ?_
  unfold rc86
  conv => whnf
  have hb : pureD 6 (Bn p) = true := by
    show [L2 p].all (pureD 5) = true
    rw [List.all_cons, List.all_nil, pure_L2 2 p]; rfl
  have e1 := frz_ptr (H := [.cells [Bn p], .cells [I k]]) (id := 0) (d := 6) rfl (by show [Bn p].all (pureD 6) = true; rw [List.all_cons, hb]; rfl)
  have e2 := frz_ptr (H := [.cells [Bn p], .cells [I k]]) (id := 1) (d := 6) rfl rfl
  refine ⟨.inr rfl, _, rfl, .func 107 [] [.lptr [Bn p], .lptr [I k]], ?_, .inl rfl⟩
  show (match mapO (frz [.cells [Bn p], .cells [I k]] 0 2 0 7) [], mapO (frz [.cells [Bn p], .cells [I k]] 0 2 0 7) [.ptr 0 0, .ptr 1 0] with | some a, some b => some (AV.func 107 a b) | _, _ => none) = _
  simp only [mapO]
  rw [show frz [.cells [Bn p], .cells [I k]] 0 2 0 7 (.ptr 0 0) = _ from e1, show frz [.cells [Bn p], .cells [I k]] 0 2 0 7 (.ptr 1 0) = _ from e2]
  rfl
theorem at3 (a b c d : AObj) (Y Z : List AObj) : (a :: b :: c :: (Y ++ d :: Z))[3 + Y.length]? = some d := by
  rw [show 3 + Y.length = Y.length + 1 + 1 + 1 by omega]
  simp
theorem ga {X Z : List AObj} {j : Nat} {o : AObj} (h : X[j]? = some o) : (X ++ Z)[j]? = some o := by
  rw [List.getElem?_append_left (List.getElem?_eq_some_iff.1 h).1]; exact h
theorem LJ_snoc (co cs : Cap) (l : List Jt) (x : Jt) (c : Cap) : LJ co cs (l ++ [x]) c = .lst (l.flatMap (jcw co cs) ++ jcw co cs x) (l.length + 1) c := by
  simp [LJ, List.flatMap_append]
theorem get_set_ne {X : List AObj} {i j : Nat} {c o : AObj} (h : X[j]? = some o) (hne : i ≠ j) : (X.set i c)[j]? = some o := by rw [List.getElem?_set_ne hne]; exact h
theorem puC (a b : List (List Int)) : pureD 8 (.lst [L2 a, L2 b] 2 .shared) = true := by
  show [L2 a, L2 b].all (pureD 7) = true
  rw [List.all_cons, List.all_cons, List.all_nil, pure_L2 4 a, pure_L2 4 b]; rfl
theorem fgt_tail (X J : List AObj) : Fgt (X ++ J) (X ++ List.replicate J.length .dead) := by
  refine ⟨by simp, fun j o hj => ?_⟩
  by_cases h : j < X.length
  · rw [List.getElem?_append_left h] at hj ⊢; exact .inr hj
  · rw [List.getElem?_append_right (by omega)] at hj
    exact .inl (List.eq_of_mem_replicate (List.mem_of_getElem? hj))
theorem sset' (X Y : List AObj) (c d : AObj) : (X ++ c :: Y).set X.length d = X ++ d :: Y := by simp
theorem sset (X Y : List AObj) (c d : AObj) : (X ++ c :: Y).set X.length d = X ++ d :: Y := by simp
def nextk (l : List Jt) (r : Nat) : AV := if r = 0 then nilF else LJ .shared .shared (l.take r) (.own 4)
noncomputable abbrev lp77 (T : List AV) (st : LoopState) : AObj := .loop st none 77 T [32] (rngA Go.Proofs.Try.prog 77 0) (rngB Go.Proofs.Try.prog 77 0) ann77
section
variable (p : List (List Int)) (t : Nat) (ht : t < p.length) (hv : Val p) (Bh : List Jt) (nB : Nat) (hB : ∀ x ∈ Bh, Jb nB x) (hn : nB ≤ 3) (hB0 : 0 < Bh.length) (hB1 : Bh.length ≤ 3125)
variable (c c1 : Cap) (hc : c = .own 4 ∨ c = .shared) (hc1 : c1 = .full ∨ c1 = .shared) (X0 : List AObj) (ii inn : Nat) (fv bv xv yv : AV)
variable (g0 : X0[0]? = some (.cells [Bn p])) (g1 : X0[1]? = some (.cells [LJ c1 c1 Bh c])) (g2 : X0[2]? = some (.cells [.func 100 [] []])) (gi : X0[ii]? = some (.cells [I t]))
variable (hinn : inn < X0.length) (n0 : inn ≠ 0) (n1 : inn ≠ 1) (n2 : inn ≠ 2) (ni : inn ≠ ii)
include ht hv hB hn hB0 hB1 hc hc1 g0 g1 g2 gi hinn n0 n1 n2 ni
theorem round77 (r : Nat) (hr : r < (perms p[t].length).length) (Y : List AObj) (T : List AV) (hT : T = slots 88 [(1, .ptr 0 0), (3, .ptr 1 0), (4, .ptr 2 0), (5, .ptr ii 0), (6, .ptr inn 0), (26, bv), (29, xv), (30, yv), (31, fv)]) :
    Sem Go.Proofs.Try.prog (.yield X0.length) [U1 (perms p[t].length)[r]] (X0.set inn (.cells [nextk (nextJ p[t] Bh) r]) ++ lp77 T .ready :: Y) 0 (.bool true)
      (X0.set inn (.cells [nextk (nextJ p[t] Bh) (r + 1)]) ++ lp77 T .ready :: (Y ++ List.replicate (Bh.length + 1) .dead)) := by
  have h5 := hv.s5 _ (List.getElem_mem ht)
  have h1 := hv.s1 _ (List.getElem_mem ht)
  have hI : InL p[t] (perms p[t].length)[r] := perm_inL (hv.sm (List.getElem_mem ht)) (List.getElem_mem hr) h5
  have hlr := (perms_mem (List.getElem_mem hr)).1
  have hnr : (nextJ p[t] Bh)[r]? = some (jointOf p[t] Bh (perms p[t].length)[r]) := by simp [nextJ, hr]
  have hsl : ∀ d : AObj, (X0.set inn d).length = X0.length := fun d => by simp
  have hset : ∀ (d e : AObj) (Z : List AObj), (X0.set inn d ++ e :: Z)[X0.length]? = some e := fun d e Z => by
    rw [List.getElem?_append_right (by simp), hsl, Nat.sub_self]; rfl
  refine sem_round hmix (l := X0.length) (T := T) lkY77A lkY77B (hset _ _ _) rfl ⟨by simp, fun _ h => by omega⟩ ?_
  subst hT
  generalize hl : (perms p[t].length)[r] = l at *
  unfold rcY77A
  conv => whnf
  refine ⟨rfl, hset _ _ _, ?_⟩
  have hss : ∀ (d e f : AObj) (Z : List AObj), (X0.set inn d ++ e :: Z).set X0.length f = X0.set inn d ++ f :: Z := fun d e f Z => by
    have := sset (X0.set inn d) Z e f
    rwa [hsl] at this
  rw [hss]
  unfold rcY77B
  conv => whnf
  obtain ⟨W, hW⟩ : ∃ W, W = X0.set inn (.cells [nextk (nextJ p[t] Bh) r]) ++ lp77 (slots 88 [(1, .ptr 0 0), (3, .ptr 1 0), (4, .ptr 2 0), (5, .ptr ii 0), (6, .ptr inn 0), (26, bv), (29, xv), (30, yv), (31, fv)]) .busy :: Y := ⟨_, rfl⟩
  have hWs : ∀ (J : List AObj) (d : AObj), (W ++ J).set inn d = X0.set inn d ++ lp77 (slots 88 [(1, .ptr 0 0), (3, .ptr 1 0), (4, .ptr 2 0), (5, .ptr ii 0), (6, .ptr inn 0), (26, bv), (29, xv), (30, yv), (31, fv)]) .busy :: (Y ++ J) := fun J d => by
    rw [hW, List.append_assoc, List.set_append_left _ _ (by simp; exact hinn), List.set_set]; rfl
  have gw : ∀ (j : Nat) (o : AObj), j ≠ inn → X0[j]? = some o → W[j]? = some o := fun j o hj ho => by
    rw [hW]
    exact ga (by rw [List.getElem?_set_ne (fun e => hj e.symm)]; exact ho)
  have w0 := gw 0 _ (Ne.symm n0) g0
  have w1 := gw 1 _ (Ne.symm n1) g1
  have w2 := gw 2 _ (Ne.symm n2) g2
  have wi := gw ii _ (Ne.symm ni) gi
  have wn : W[inn]? = some (.cells [nextk (nextJ p[t] Bh) r]) := by
    rw [hW]; exact ga (by rw [List.getElem?_set_self hinn])
  have hfin : ∀ (J : List AObj) (cx : AObj), J.length = Bh.length + 1 → cx = .cells [nextk (nextJ p[t] Bh) (r + 1)] → ((W ++ J).set inn cx)[X0.length]? = some (lp77 (slots 88 [(1, .ptr 0 0), (3, .ptr 1 0), (4, .ptr 2 0), (5, .ptr ii 0), (6, .ptr inn 0), (26, bv), (29, xv), (30, yv), (31, fv)]) .busy) ∧
      Fgt (((W ++ J).set inn cx).set X0.length (lp77 (slots 88 [(1, .ptr 0 0), (3, .ptr 1 0), (4, .ptr 2 0), (5, .ptr ii 0), (6, .ptr inn 0), (26, bv), (29, xv), (30, yv), (31, fv)]) .ready))
        (X0.set inn (.cells [nextk (nextJ p[t] Bh) (r + 1)]) ++ lp77 (slots 88 [(1, .ptr 0 0), (3, .ptr 1 0), (4, .ptr 2 0), (5, .ptr ii 0), (6, .ptr inn 0), (26, bv), (29, xv), (30, yv), (31, fv)]) .ready :: (Y ++ List.replicate (Bh.length + 1) .dead)) := fun J cx hJ hcx => by
    subst hcx
    rw [hWs]
    refine ⟨hset _ _ _, ?_⟩
    rw [hss, ← hJ, ← List.cons_append, ← List.append_assoc, ← List.cons_append, ← List.append_assoc]
    exact fgt_tail _ _
  rw [← hW]
  clear hWs hset hss gw hW g0 g1 g2 gi
  have hsq : (seamsOf p[t] l).length ≤ 4 := by simp [seamsOf, seamsGo_length]; omega
  have hpl1 := perms_len h5
  refine nthK_of w0 ?_
  conv => whnf
  refine nthK_of wi ?_
  conv => whnf
  refine ⟨?_, _, pseams_ok p t ht l hI (by omega), ?_⟩
  · simp only [List.all_cons, List.all_nil, pu1, pu0, puBn, puQ, Bool.and_true]
  conv => whnf
  refine nthK_of w1 ?_
  have hwl : inn < W.length := (List.getElem?_eq_some_iff.1 wn).1
  have hnk : (nextk (nextJ p[t] Bh) r = nilF ∧ ∀ bt : Jt, jointOf p[t] Bh l = ⟨l :: bt.o, seamsOf p[t] l, bt.m, 0⟩ → AObj.cells [.lst ([] ++ jc ⟨l :: bt.o, seamsOf p[t] l, bt.m, 0⟩) (0 + 1) (.own 4)] = .cells [nextk (nextJ p[t] Bh) (r + 1)]) ∨
      (nextk (nextJ p[t] Bh) r = LJ .shared .shared ((nextJ p[t] Bh).take r) (.own 4) ∧ ∀ bt : Jt, jointOf p[t] Bh l = ⟨l :: bt.o, seamsOf p[t] l, bt.m, 0⟩ → AObj.cells [.lst (((nextJ p[t] Bh).take r).flatMap jc ++ jc ⟨l :: bt.o, seamsOf p[t] l, bt.m, 0⟩) (((nextJ p[t] Bh).take r).length + 1) (.own 4)] = .cells [nextk (nextJ p[t] Bh) (r + 1)]) := by
    obtain ⟨q1, q2⟩ := List.getElem?_eq_some_iff.1 hnr
    have e : (nextJ p[t] Bh).take (r + 1) = (nextJ p[t] Bh).take r ++ [jointOf p[t] Bh l] := by rw [List.take_succ_eq_append_getElem q1, q2]
    by_cases h0 : r = 0
    · subst h0
      refine .inl ⟨rfl, fun bt hb => ?_⟩
      rw [nextk, if_neg (by omega), e, hb]; rfl
    · refine .inr ⟨by rw [nextk, if_neg h0], fun bt hb => ?_⟩
      rw [nextk, if_neg (by omega), e, LJ_snoc, hb]
  have hnl : ((nextJ p[t] Bh).take r).length ≤ 3125 := by
    have := List.length_take_le' r (nextJ p[t] Bh); rw [nextJ_len] at this; omega
  generalize nextk (nextJ p[t] Bh) r = nk at wn hnk
  generalize (nextJ p[t] Bh).take r = nxr at hnk hnl
  rcases hc with rfl | rfl
  all_goals
    rcases hc1 with rfl | rfl
  · conv => whnf
    refine .intro (fun m T H => ∃ j Yj, j ≤ Bh.length ∧ m = Bh.length - j ∧ Yj.length = j ∧ T = slots 88 [(4, .ptr 2 0), (6, .ptr inn 0), (7, O1 l), (8, O1 (seamsOf p[t] l)), (9, LJ .full .full ((Bh.take j).map (tryJ (seamsOf p[t] l))) (.uniq 4)), (37, LJ .full .full Bh .shared), (38, I Bh.length), (39, I j)] ∧ H = W ++ Yj) Bh.length ⟨0, [], by omega, by omega, rfl, rfl, by rw [List.append_nil]⟩ ?_
    rintro m T H ⟨j, Yj, hj, rfl, hYj, rfl, rfl⟩
    conv => whnf
    refine dcase (fun h => ?_) (fun h => ?_)
    · have hlt : j < Bh.length := by omega
      have hjb := hB _ (List.getElem_mem hlt)
      have hjm0 := hjb.m0
      have hjm1 := hjb.m1
      have hjs := hjb.s
      conv => whnf
      refine ⟨by omega, ?_⟩
      conv => whnf
      rw [Int.toNat_natCast, dropJ .full .full Bh j hlt]
      conv => whnf
      refine nthK_of (get_concat _ _) ?_
      conv => whnf
      rw [set_concat]
      refine nthK_of (get_concat _ _) ?_
      conv => whnf
      refine .intro (CI (fun k => slots 88 [(4, .ptr 2 0), (6, .ptr inn 0), (7, O1 l), (8, O1 (seamsOf p[t] l)), (9, LJ .full .full ((Bh.take j).map (tryJ (seamsOf p[t] l))) (.uniq 4)), (11, .ptr (W ++ Yj).length 0), (12, I (Bh[j].m + common ((seamsOf p[t] l).take k) Bh[j].s)), (37, LJ .full .full Bh .shared), (38, I Bh.length), (39, I j), (45, L1 (seamsOf p[t] l)), (46, I (seamsOf p[t] l).length), (47, I k)]) (seamsOf p[t] l).length (W ++ Yj ++ [.cells (jcw .full .full Bh[j])])) (seamsOf p[t] l).length (ci0 ?_) ?_
      · rw [List.take_zero, show common [] Bh[j].s = 0 from rfl, show Bh[j].m + ((0 : Nat) : Int) = Bh[j].m by omega]; rfl
      rintro m T H ⟨k, hk, rfl, rfl, rfl⟩
      conv => whnf
      refine dcase (fun h => ?_) (fun h => ?_)
      · have hkt : k < (seamsOf p[t] l).length := by omega
        have hs : common ((seamsOf p[t] l).take (k + 1)) Bh[j].s = common ((seamsOf p[t] l).take k) Bh[j].s + (if has Bh[j].s (seamsOf p[t] l)[k] then 1 else 0) := by
          unfold common
          rw [List.take_succ_eq_append_getElem hkt, List.filter_append, List.length_append]
          by_cases h : has Bh[j].s (seamsOf p[t] l)[k] = true <;> simp [List.filter_cons, h]
        have hc := common_le ((seamsOf p[t] l).take k) Bh[j].s
        have hk' : ((seamsOf p[t] l).take k).length ≤ k := List.length_take_le _ _
        conv => whnf
        refine ⟨by omega, ?_⟩
        conv => whnf
        refine nthM _ _ _ (hkt) ?_
        conv => whnf
        refine nthK_of (get_concat _ _) ?_
        conv => whnf
        refine ⟨by first | rfl | simp only [List.all_cons, List.all_nil, pu0, pub, pu1, pu2, pu1', pu2', pun, puf, puP, puP', puQ, puQ', Bool.and_true, Bool.and_self], _, contains_ok Bh[j].s (seamsOf p[t] l)[k] (by omega), ?_⟩
        conv => whnf
        cases hh : has Bh[j].s (seamsOf p[t] l)[k] with
        | true =>
          conv => whnf
          exact ciN hkt (by rw [hs, if_pos hh, ← wrapS k (by omega), show Bh[j].m + ((common ((seamsOf p[t] l).take k) Bh[j].s + 1 : Nat) : Int) = IntKind.i64.wrap (Bh[j].m + (common ((seamsOf p[t] l).take k) Bh[j].s : Nat) + 1) by rw [wrapI _ (by omega) (by omega)]; omega] <;> rfl)
        | false =>
          conv => whnf
          exact ciN hkt (by rw [hs, if_neg (by simp [hh]), Nat.add_zero, ← wrapS k (by omega)] <;> rfl)
      · obtain rfl : k = (seamsOf p[t] l).length := by omega
        rw [List.take_length]
        conv => whnf
        refine nthK_of (get_concat _ _) ?_
        conv => whnf
        have hll : ((Bh.take j).map (tryJ (seamsOf p[t] l))).length ≤ j := by simp; omega
        refine ⟨rfl, by decide, rfl, by omega, ?_⟩
        conv => whnf
        exact ⟨Bh.length - (j + 1), by omega, j + 1, Yj ++ [.cells (jcw .full .full Bh[j])], by omega, rfl, by simp [hYj], by rw [List.take_succ_eq_append_getElem hlt, List.map_append, List.map_singleton, LJ_snoc, ← wrapS j (by omega)] <;> rfl, by rw [List.append_assoc]⟩
    · obtain rfl : j = Bh.length := by omega
      rw [List.take_length]
      conv => whnf
      refine nthK_of (ga w2) ?_
      conv => whnf
      have hbm := bestL_mem fw (Bh.map (tryJ (seamsOf p[t] l))) (by simpa using hB0)
      have hbo : (bestL fw (Bh.map (tryJ (seamsOf p[t] l)))).o.length ≤ 3 := by
        obtain ⟨b0, hb0, e0⟩ := List.mem_map.1 hbm
        rw [← e0]; show b0.o.length ≤ 3
        rw [(hB b0 hb0).o]; exact hn
      have hjo : jointOf p[t] Bh l = ⟨l :: (bestL fw (Bh.map (tryJ (seamsOf p[t] l)))).o, seamsOf p[t] l, (bestL fw (Bh.map (tryJ (seamsOf p[t] l)))).m, 0⟩ := rfl
      have htl : (Bh.map (tryJ (seamsOf p[t] l))).length = Bh.length := by simp
      generalize Bh.map (tryJ (seamsOf p[t] l)) = tr at hbm hbo hjo htl ⊢
      obtain ⟨x0, t0, rfl⟩ : ∃ x0 t0, tr = x0 :: t0 := by
        cases tr with
        | nil => simp at hbm
        | cons x0 t0 => exact ⟨x0, t0, rfl⟩
      have hbe : bestL fw (x0 :: t0) = bestJ fw t0 x0 := rfl
      rw [hbe] at hbo hjo
      refine ⟨by simp only [List.all_cons, List.all_nil, puLJ, puf, Bool.and_true, Bool.and_self], _, best_ok fw 100 (.inl ⟨rfl, rfl⟩) x0 t0 (by simp at htl; omega) fewer_ok, ?_⟩
      generalize bestJ fw t0 x0 = bt at hbo hjo ⊢
      conv => whnf
      refine nthK_of (get_concat _ _) ?_
      conv => whnf
      rw [set_concat]
      refine nthK_of (ga (ga wn)) ?_
      rcases hnk with ⟨rfl, hnk⟩ | ⟨rfl, hnk⟩
      · conv => whnf
        refine nthK_of (get_concat _ _) ?_
        conv => whnf
        refine ⟨by show (pureD 8 (.lst [L2 [l], L2 bt.o] 2 .shared) && true) = true; rw [puC]; rfl, _, concat_ok [l] bt.o rfl hbo, acc0, ?_⟩
        conv => whnf
        refine nthK_of (get_concat _ _) ?_
        conv => whnf
        refine ⟨rfl, by omega, by omega, by omega, rfl, ?_⟩
        conv => whnf
        refine nthK_of (ga (ga wn)) ?_
        conv => whnf
        rw [List.append_assoc]
        exact ⟨rfl, hfin _ _ (by simp [hYj]) (hnk bt hjo)⟩
      · conv => whnf
        refine nthK_of (get_set_ne (get_concat _ _) (by simp; omega)) ?_
        conv => whnf
        refine ⟨by show (pureD 8 (.lst [L2 [l], L2 bt.o] 2 .shared) && true) = true; rw [puC]; rfl, _, concat_ok [l] bt.o rfl hbo, acc0, ?_⟩
        conv => whnf
        refine nthK_of (get_set_ne (get_concat _ _) (by simp; omega)) ?_
        conv => whnf
        refine ⟨rfl, by decide, rfl, by omega, ?_⟩
        conv => whnf
        refine nthK_of (by rw [List.getElem?_set_self (by simp; omega)]) ?_
        conv => whnf
        rw [List.set_set, List.append_assoc]
        exact ⟨rfl, hfin _ _ (by simp [hYj]) (hnk bt hjo)⟩
  · conv => whnf
    refine .intro (fun m T H => ∃ j Yj, j ≤ Bh.length ∧ m = Bh.length - j ∧ Yj.length = j ∧ T = slots 88 [(4, .ptr 2 0), (6, .ptr inn 0), (7, O1 l), (8, O1 (seamsOf p[t] l)), (9, LJ .shared .full ((Bh.take j).map (tryJ (seamsOf p[t] l))) (.uniq 4)), (37, LJ .shared .shared Bh .shared), (38, I Bh.length), (39, I j)] ∧ H = W ++ Yj) Bh.length ⟨0, [], by omega, by omega, rfl, rfl, by rw [List.append_nil]⟩ ?_
    rintro m T H ⟨j, Yj, hj, rfl, hYj, rfl, rfl⟩
    conv => whnf
    refine dcase (fun h => ?_) (fun h => ?_)
    · have hlt : j < Bh.length := by omega
      have hjb := hB _ (List.getElem_mem hlt)
      have hjm0 := hjb.m0
      have hjm1 := hjb.m1
      have hjs := hjb.s
      conv => whnf
      refine ⟨by omega, ?_⟩
      conv => whnf
      rw [Int.toNat_natCast, dropJ .shared .shared Bh j hlt]
      conv => whnf
      refine nthK_of (get_concat _ _) ?_
      conv => whnf
      rw [set_concat]
      refine nthK_of (get_concat _ _) ?_
      conv => whnf
      refine .intro (CI (fun k => slots 88 [(4, .ptr 2 0), (6, .ptr inn 0), (7, O1 l), (8, O1 (seamsOf p[t] l)), (9, LJ .shared .full ((Bh.take j).map (tryJ (seamsOf p[t] l))) (.uniq 4)), (11, .ptr (W ++ Yj).length 0), (12, I (Bh[j].m + common ((seamsOf p[t] l).take k) Bh[j].s)), (37, LJ .shared .shared Bh .shared), (38, I Bh.length), (39, I j), (45, L1 (seamsOf p[t] l)), (46, I (seamsOf p[t] l).length), (47, I k)]) (seamsOf p[t] l).length (W ++ Yj ++ [.cells (jcw .shared .shared Bh[j])])) (seamsOf p[t] l).length (ci0 ?_) ?_
      · rw [List.take_zero, show common [] Bh[j].s = 0 from rfl, show Bh[j].m + ((0 : Nat) : Int) = Bh[j].m by omega]; rfl
      rintro m T H ⟨k, hk, rfl, rfl, rfl⟩
      conv => whnf
      refine dcase (fun h => ?_) (fun h => ?_)
      · have hkt : k < (seamsOf p[t] l).length := by omega
        have hs : common ((seamsOf p[t] l).take (k + 1)) Bh[j].s = common ((seamsOf p[t] l).take k) Bh[j].s + (if has Bh[j].s (seamsOf p[t] l)[k] then 1 else 0) := by
          unfold common
          rw [List.take_succ_eq_append_getElem hkt, List.filter_append, List.length_append]
          by_cases h : has Bh[j].s (seamsOf p[t] l)[k] = true <;> simp [List.filter_cons, h]
        have hc := common_le ((seamsOf p[t] l).take k) Bh[j].s
        have hk' : ((seamsOf p[t] l).take k).length ≤ k := List.length_take_le _ _
        conv => whnf
        refine ⟨by omega, ?_⟩
        conv => whnf
        refine nthM _ _ _ (hkt) ?_
        conv => whnf
        refine nthK_of (get_concat _ _) ?_
        conv => whnf
        refine ⟨by first | rfl | simp only [List.all_cons, List.all_nil, pu0, pub, pu1, pu2, pu1', pu2', pun, puf, puP, puP', puQ, puQ', Bool.and_true, Bool.and_self], _, contains_ok Bh[j].s (seamsOf p[t] l)[k] (by omega), ?_⟩
        conv => whnf
        cases hh : has Bh[j].s (seamsOf p[t] l)[k] with
        | true =>
          conv => whnf
          exact ciN hkt (by rw [hs, if_pos hh, ← wrapS k (by omega), show Bh[j].m + ((common ((seamsOf p[t] l).take k) Bh[j].s + 1 : Nat) : Int) = IntKind.i64.wrap (Bh[j].m + (common ((seamsOf p[t] l).take k) Bh[j].s : Nat) + 1) by rw [wrapI _ (by omega) (by omega)]; omega] <;> rfl)
        | false =>
          conv => whnf
          exact ciN hkt (by rw [hs, if_neg (by simp [hh]), Nat.add_zero, ← wrapS k (by omega)] <;> rfl)
      · obtain rfl : k = (seamsOf p[t] l).length := by omega
        rw [List.take_length]
        conv => whnf
        refine nthK_of (get_concat _ _) ?_
        conv => whnf
        have hll : ((Bh.take j).map (tryJ (seamsOf p[t] l))).length ≤ j := by simp; omega
        refine ⟨rfl, by decide, rfl, by omega, ?_⟩
        conv => whnf
        exact ⟨Bh.length - (j + 1), by omega, j + 1, Yj ++ [.cells (jcw .shared .shared Bh[j])], by omega, rfl, by simp [hYj], by rw [List.take_succ_eq_append_getElem hlt, List.map_append, List.map_singleton, LJ_snoc, ← wrapS j (by omega)] <;> rfl, by rw [List.append_assoc]⟩
    · obtain rfl : j = Bh.length := by omega
      rw [List.take_length]
      conv => whnf
      refine nthK_of (ga w2) ?_
      conv => whnf
      have hbm := bestL_mem fw (Bh.map (tryJ (seamsOf p[t] l))) (by simpa using hB0)
      have hbo : (bestL fw (Bh.map (tryJ (seamsOf p[t] l)))).o.length ≤ 3 := by
        obtain ⟨b0, hb0, e0⟩ := List.mem_map.1 hbm
        rw [← e0]; show b0.o.length ≤ 3
        rw [(hB b0 hb0).o]; exact hn
      have hjo : jointOf p[t] Bh l = ⟨l :: (bestL fw (Bh.map (tryJ (seamsOf p[t] l)))).o, seamsOf p[t] l, (bestL fw (Bh.map (tryJ (seamsOf p[t] l)))).m, 0⟩ := rfl
      have htl : (Bh.map (tryJ (seamsOf p[t] l))).length = Bh.length := by simp
      generalize Bh.map (tryJ (seamsOf p[t] l)) = tr at hbm hbo hjo htl ⊢
      obtain ⟨x0, t0, rfl⟩ : ∃ x0 t0, tr = x0 :: t0 := by
        cases tr with
        | nil => simp at hbm
        | cons x0 t0 => exact ⟨x0, t0, rfl⟩
      have hbe : bestL fw (x0 :: t0) = bestJ fw t0 x0 := rfl
      rw [hbe] at hbo hjo
      refine ⟨by simp only [List.all_cons, List.all_nil, puLJ, puf, Bool.and_true, Bool.and_self], _, best_ok fw 100 (.inr (.inl ⟨rfl, rfl⟩)) x0 t0 (by simp at htl; omega) fewer_ok, ?_⟩
      generalize bestJ fw t0 x0 = bt at hbo hjo ⊢
      conv => whnf
      refine nthK_of (get_concat _ _) ?_
      conv => whnf
      rw [set_concat]
      refine nthK_of (ga (ga wn)) ?_
      rcases hnk with ⟨rfl, hnk⟩ | ⟨rfl, hnk⟩
      · conv => whnf
        refine nthK_of (get_concat _ _) ?_
        conv => whnf
        refine ⟨by show (pureD 8 (.lst [L2 [l], L2 bt.o] 2 .shared) && true) = true; rw [puC]; rfl, _, concat_ok [l] bt.o rfl hbo, acc0, ?_⟩
        conv => whnf
        refine nthK_of (get_concat _ _) ?_
        conv => whnf
        refine ⟨rfl, by omega, by omega, by omega, rfl, ?_⟩
        conv => whnf
        refine nthK_of (ga (ga wn)) ?_
        conv => whnf
        rw [List.append_assoc]
        exact ⟨rfl, hfin _ _ (by simp [hYj]) (hnk bt hjo)⟩
      · conv => whnf
        refine nthK_of (get_set_ne (get_concat _ _) (by simp; omega)) ?_
        conv => whnf
        refine ⟨by show (pureD 8 (.lst [L2 [l], L2 bt.o] 2 .shared) && true) = true; rw [puC]; rfl, _, concat_ok [l] bt.o rfl hbo, acc0, ?_⟩
        conv => whnf
        refine nthK_of (get_set_ne (get_concat _ _) (by simp; omega)) ?_
        conv => whnf
        refine ⟨rfl, by decide, rfl, by omega, ?_⟩
        conv => whnf
        refine nthK_of (by rw [List.getElem?_set_self (by simp; omega)]) ?_
        conv => whnf
        rw [List.set_set, List.append_assoc]
        exact ⟨rfl, hfin _ _ (by simp [hYj]) (hnk bt hjo)⟩
  · conv => whnf
    refine .intro (fun m T H => ∃ j Yj, j ≤ Bh.length ∧ m = Bh.length - j ∧ Yj.length = j ∧ T = slots 88 [(4, .ptr 2 0), (6, .ptr inn 0), (7, O1 l), (8, O1 (seamsOf p[t] l)), (9, LJ .full .full ((Bh.take j).map (tryJ (seamsOf p[t] l))) (.uniq 4)), (37, LJ .full .full Bh .shared), (38, I Bh.length), (39, I j)] ∧ H = W ++ Yj) Bh.length ⟨0, [], by omega, by omega, rfl, rfl, by rw [List.append_nil]⟩ ?_
    rintro m T H ⟨j, Yj, hj, rfl, hYj, rfl, rfl⟩
    conv => whnf
    refine dcase (fun h => ?_) (fun h => ?_)
    · have hlt : j < Bh.length := by omega
      have hjb := hB _ (List.getElem_mem hlt)
      have hjm0 := hjb.m0
      have hjm1 := hjb.m1
      have hjs := hjb.s
      conv => whnf
      refine ⟨by omega, ?_⟩
      conv => whnf
      rw [Int.toNat_natCast, dropJ .full .full Bh j hlt]
      conv => whnf
      refine nthK_of (get_concat _ _) ?_
      conv => whnf
      rw [set_concat]
      refine nthK_of (get_concat _ _) ?_
      conv => whnf
      refine .intro (CI (fun k => slots 88 [(4, .ptr 2 0), (6, .ptr inn 0), (7, O1 l), (8, O1 (seamsOf p[t] l)), (9, LJ .full .full ((Bh.take j).map (tryJ (seamsOf p[t] l))) (.uniq 4)), (11, .ptr (W ++ Yj).length 0), (12, I (Bh[j].m + common ((seamsOf p[t] l).take k) Bh[j].s)), (37, LJ .full .full Bh .shared), (38, I Bh.length), (39, I j), (45, L1 (seamsOf p[t] l)), (46, I (seamsOf p[t] l).length), (47, I k)]) (seamsOf p[t] l).length (W ++ Yj ++ [.cells (jcw .full .full Bh[j])])) (seamsOf p[t] l).length (ci0 ?_) ?_
      · rw [List.take_zero, show common [] Bh[j].s = 0 from rfl, show Bh[j].m + ((0 : Nat) : Int) = Bh[j].m by omega]; rfl
      rintro m T H ⟨k, hk, rfl, rfl, rfl⟩
      conv => whnf
      refine dcase (fun h => ?_) (fun h => ?_)
      · have hkt : k < (seamsOf p[t] l).length := by omega
        have hs : common ((seamsOf p[t] l).take (k + 1)) Bh[j].s = common ((seamsOf p[t] l).take k) Bh[j].s + (if has Bh[j].s (seamsOf p[t] l)[k] then 1 else 0) := by
          unfold common
          rw [List.take_succ_eq_append_getElem hkt, List.filter_append, List.length_append]
          by_cases h : has Bh[j].s (seamsOf p[t] l)[k] = true <;> simp [List.filter_cons, h]
        have hc := common_le ((seamsOf p[t] l).take k) Bh[j].s
        have hk' : ((seamsOf p[t] l).take k).length ≤ k := List.length_take_le _ _
        conv => whnf
        refine ⟨by omega, ?_⟩
        conv => whnf
        refine nthM _ _ _ (hkt) ?_
        conv => whnf
        refine nthK_of (get_concat _ _) ?_
        conv => whnf
        refine ⟨by first | rfl | simp only [List.all_cons, List.all_nil, pu0, pub, pu1, pu2, pu1', pu2', pun, puf, puP, puP', puQ, puQ', Bool.and_true, Bool.and_self], _, contains_ok Bh[j].s (seamsOf p[t] l)[k] (by omega), ?_⟩
        conv => whnf
        cases hh : has Bh[j].s (seamsOf p[t] l)[k] with
        | true =>
          conv => whnf
          exact ciN hkt (by rw [hs, if_pos hh, ← wrapS k (by omega), show Bh[j].m + ((common ((seamsOf p[t] l).take k) Bh[j].s + 1 : Nat) : Int) = IntKind.i64.wrap (Bh[j].m + (common ((seamsOf p[t] l).take k) Bh[j].s : Nat) + 1) by rw [wrapI _ (by omega) (by omega)]; omega] <;> rfl)
        | false =>
          conv => whnf
          exact ciN hkt (by rw [hs, if_neg (by simp [hh]), Nat.add_zero, ← wrapS k (by omega)] <;> rfl)
      · obtain rfl : k = (seamsOf p[t] l).length := by omega
        rw [List.take_length]
        conv => whnf
        refine nthK_of (get_concat _ _) ?_
        conv => whnf
        have hll : ((Bh.take j).map (tryJ (seamsOf p[t] l))).length ≤ j := by simp; omega
        refine ⟨rfl, by decide, rfl, by omega, ?_⟩
        conv => whnf
        exact ⟨Bh.length - (j + 1), by omega, j + 1, Yj ++ [.cells (jcw .full .full Bh[j])], by omega, rfl, by simp [hYj], by rw [List.take_succ_eq_append_getElem hlt, List.map_append, List.map_singleton, LJ_snoc, ← wrapS j (by omega)] <;> rfl, by rw [List.append_assoc]⟩
    · obtain rfl : j = Bh.length := by omega
      rw [List.take_length]
      conv => whnf
      refine nthK_of (ga w2) ?_
      conv => whnf
      have hbm := bestL_mem fw (Bh.map (tryJ (seamsOf p[t] l))) (by simpa using hB0)
      have hbo : (bestL fw (Bh.map (tryJ (seamsOf p[t] l)))).o.length ≤ 3 := by
        obtain ⟨b0, hb0, e0⟩ := List.mem_map.1 hbm
        rw [← e0]; show b0.o.length ≤ 3
        rw [(hB b0 hb0).o]; exact hn
      have hjo : jointOf p[t] Bh l = ⟨l :: (bestL fw (Bh.map (tryJ (seamsOf p[t] l)))).o, seamsOf p[t] l, (bestL fw (Bh.map (tryJ (seamsOf p[t] l)))).m, 0⟩ := rfl
      have htl : (Bh.map (tryJ (seamsOf p[t] l))).length = Bh.length := by simp
      generalize Bh.map (tryJ (seamsOf p[t] l)) = tr at hbm hbo hjo htl ⊢
      obtain ⟨x0, t0, rfl⟩ : ∃ x0 t0, tr = x0 :: t0 := by
        cases tr with
        | nil => simp at hbm
        | cons x0 t0 => exact ⟨x0, t0, rfl⟩
      have hbe : bestL fw (x0 :: t0) = bestJ fw t0 x0 := rfl
      rw [hbe] at hbo hjo
      refine ⟨by simp only [List.all_cons, List.all_nil, puLJ, puf, Bool.and_true, Bool.and_self], _, best_ok fw 100 (.inl ⟨rfl, rfl⟩) x0 t0 (by simp at htl; omega) fewer_ok, ?_⟩
      generalize bestJ fw t0 x0 = bt at hbo hjo ⊢
      conv => whnf
      refine nthK_of (get_concat _ _) ?_
      conv => whnf
      rw [set_concat]
      refine nthK_of (ga (ga wn)) ?_
      rcases hnk with ⟨rfl, hnk⟩ | ⟨rfl, hnk⟩
      · conv => whnf
        refine nthK_of (get_concat _ _) ?_
        conv => whnf
        refine ⟨by show (pureD 8 (.lst [L2 [l], L2 bt.o] 2 .shared) && true) = true; rw [puC]; rfl, _, concat_ok [l] bt.o rfl hbo, acc0, ?_⟩
        conv => whnf
        refine nthK_of (get_concat _ _) ?_
        conv => whnf
        refine ⟨rfl, by omega, by omega, by omega, rfl, ?_⟩
        conv => whnf
        refine nthK_of (ga (ga wn)) ?_
        conv => whnf
        rw [List.append_assoc]
        exact ⟨rfl, hfin _ _ (by simp [hYj]) (hnk bt hjo)⟩
      · conv => whnf
        refine nthK_of (get_set_ne (get_concat _ _) (by simp; omega)) ?_
        conv => whnf
        refine ⟨by show (pureD 8 (.lst [L2 [l], L2 bt.o] 2 .shared) && true) = true; rw [puC]; rfl, _, concat_ok [l] bt.o rfl hbo, acc0, ?_⟩
        conv => whnf
        refine nthK_of (get_set_ne (get_concat _ _) (by simp; omega)) ?_
        conv => whnf
        refine ⟨rfl, by decide, rfl, by omega, ?_⟩
        conv => whnf
        refine nthK_of (by rw [List.getElem?_set_self (by simp; omega)]) ?_
        conv => whnf
        rw [List.set_set, List.append_assoc]
        exact ⟨rfl, hfin _ _ (by simp [hYj]) (hnk bt hjo)⟩
  · conv => whnf
    refine .intro (fun m T H => ∃ j Yj, j ≤ Bh.length ∧ m = Bh.length - j ∧ Yj.length = j ∧ T = slots 88 [(4, .ptr 2 0), (6, .ptr inn 0), (7, O1 l), (8, O1 (seamsOf p[t] l)), (9, LJ .shared .full ((Bh.take j).map (tryJ (seamsOf p[t] l))) (.uniq 4)), (37, LJ .shared .shared Bh .shared), (38, I Bh.length), (39, I j)] ∧ H = W ++ Yj) Bh.length ⟨0, [], by omega, by omega, rfl, rfl, by rw [List.append_nil]⟩ ?_
    rintro m T H ⟨j, Yj, hj, rfl, hYj, rfl, rfl⟩
    conv => whnf
    refine dcase (fun h => ?_) (fun h => ?_)
    · have hlt : j < Bh.length := by omega
      have hjb := hB _ (List.getElem_mem hlt)
      have hjm0 := hjb.m0
      have hjm1 := hjb.m1
      have hjs := hjb.s
      conv => whnf
      refine ⟨by omega, ?_⟩
      conv => whnf
      rw [Int.toNat_natCast, dropJ .shared .shared Bh j hlt]
      conv => whnf
      refine nthK_of (get_concat _ _) ?_
      conv => whnf
      rw [set_concat]
      refine nthK_of (get_concat _ _) ?_
      conv => whnf
      refine .intro (CI (fun k => slots 88 [(4, .ptr 2 0), (6, .ptr inn 0), (7, O1 l), (8, O1 (seamsOf p[t] l)), (9, LJ .shared .full ((Bh.take j).map (tryJ (seamsOf p[t] l))) (.uniq 4)), (11, .ptr (W ++ Yj).length 0), (12, I (Bh[j].m + common ((seamsOf p[t] l).take k) Bh[j].s)), (37, LJ .shared .shared Bh .shared), (38, I Bh.length), (39, I j), (45, L1 (seamsOf p[t] l)), (46, I (seamsOf p[t] l).length), (47, I k)]) (seamsOf p[t] l).length (W ++ Yj ++ [.cells (jcw .shared .shared Bh[j])])) (seamsOf p[t] l).length (ci0 ?_) ?_
      · rw [List.take_zero, show common [] Bh[j].s = 0 from rfl, show Bh[j].m + ((0 : Nat) : Int) = Bh[j].m by omega]; rfl
      rintro m T H ⟨k, hk, rfl, rfl, rfl⟩
      conv => whnf
      refine dcase (fun h => ?_) (fun h => ?_)
      · have hkt : k < (seamsOf p[t] l).length := by omega
        have hs : common ((seamsOf p[t] l).take (k + 1)) Bh[j].s = common ((seamsOf p[t] l).take k) Bh[j].s + (if has Bh[j].s (seamsOf p[t] l)[k] then 1 else 0) := by
          unfold common
          rw [List.take_succ_eq_append_getElem hkt, List.filter_append, List.length_append]
          by_cases h : has Bh[j].s (seamsOf p[t] l)[k] = true <;> simp [List.filter_cons, h]
        have hc := common_le ((seamsOf p[t] l).take k) Bh[j].s
        have hk' : ((seamsOf p[t] l).take k).length ≤ k := List.length_take_le _ _
        conv => whnf
        refine ⟨by omega, ?_⟩
        conv => whnf
        refine nthM _ _ _ (hkt) ?_
        conv => whnf
        refine nthK_of (get_concat _ _) ?_
        conv => whnf
        refine ⟨by first | rfl | simp only [List.all_cons, List.all_nil, pu0, pub, pu1, pu2, pu1', pu2', pun, puf, puP, puP', puQ, puQ', Bool.and_true, Bool.and_self], _, contains_ok Bh[j].s (seamsOf p[t] l)[k] (by omega), ?_⟩
        conv => whnf
        cases hh : has Bh[j].s (seamsOf p[t] l)[k] with
        | true =>
          conv => whnf
          exact ciN hkt (by rw [hs, if_pos hh, ← wrapS k (by omega), show Bh[j].m + ((common ((seamsOf p[t] l).take k) Bh[j].s + 1 : Nat) : Int) = IntKind.i64.wrap (Bh[j].m + (common ((seamsOf p[t] l).take k) Bh[j].s : Nat) + 1) by rw [wrapI _ (by omega) (by omega)]; omega] <;> rfl)
        | false =>
          conv => whnf
          exact ciN hkt (by rw [hs, if_neg (by simp [hh]), Nat.add_zero, ← wrapS k (by omega)] <;> rfl)
      · obtain rfl : k = (seamsOf p[t] l).length := by omega
        rw [List.take_length]
        conv => whnf
        refine nthK_of (get_concat _ _) ?_
        conv => whnf
        have hll : ((Bh.take j).map (tryJ (seamsOf p[t] l))).length ≤ j := by simp; omega
        refine ⟨rfl, by decide, rfl, by omega, ?_⟩
        conv => whnf
        exact ⟨Bh.length - (j + 1), by omega, j + 1, Yj ++ [.cells (jcw .shared .shared Bh[j])], by omega, rfl, by simp [hYj], by rw [List.take_succ_eq_append_getElem hlt, List.map_append, List.map_singleton, LJ_snoc, ← wrapS j (by omega)] <;> rfl, by rw [List.append_assoc]⟩
    · obtain rfl : j = Bh.length := by omega
      rw [List.take_length]
      conv => whnf
      refine nthK_of (ga w2) ?_
      conv => whnf
      have hbm := bestL_mem fw (Bh.map (tryJ (seamsOf p[t] l))) (by simpa using hB0)
      have hbo : (bestL fw (Bh.map (tryJ (seamsOf p[t] l)))).o.length ≤ 3 := by
        obtain ⟨b0, hb0, e0⟩ := List.mem_map.1 hbm
        rw [← e0]; show b0.o.length ≤ 3
        rw [(hB b0 hb0).o]; exact hn
      have hjo : jointOf p[t] Bh l = ⟨l :: (bestL fw (Bh.map (tryJ (seamsOf p[t] l)))).o, seamsOf p[t] l, (bestL fw (Bh.map (tryJ (seamsOf p[t] l)))).m, 0⟩ := rfl
      have htl : (Bh.map (tryJ (seamsOf p[t] l))).length = Bh.length := by simp
      generalize Bh.map (tryJ (seamsOf p[t] l)) = tr at hbm hbo hjo htl ⊢
      obtain ⟨x0, t0, rfl⟩ : ∃ x0 t0, tr = x0 :: t0 := by
        cases tr with
        | nil => simp at hbm
        | cons x0 t0 => exact ⟨x0, t0, rfl⟩
      have hbe : bestL fw (x0 :: t0) = bestJ fw t0 x0 := rfl
      rw [hbe] at hbo hjo
      refine ⟨by simp only [List.all_cons, List.all_nil, puLJ, puf, Bool.and_true, Bool.and_self], _, best_ok fw 100 (.inr (.inl ⟨rfl, rfl⟩)) x0 t0 (by simp at htl; omega) fewer_ok, ?_⟩
      generalize bestJ fw t0 x0 = bt at hbo hjo ⊢
      conv => whnf
      refine nthK_of (get_concat _ _) ?_
      conv => whnf
      rw [set_concat]
      refine nthK_of (ga (ga wn)) ?_
      rcases hnk with ⟨rfl, hnk⟩ | ⟨rfl, hnk⟩
      · conv => whnf
        refine nthK_of (get_concat _ _) ?_
        conv => whnf
        refine ⟨by show (pureD 8 (.lst [L2 [l], L2 bt.o] 2 .shared) && true) = true; rw [puC]; rfl, _, concat_ok [l] bt.o rfl hbo, acc0, ?_⟩
        conv => whnf
        refine nthK_of (get_concat _ _) ?_
        conv => whnf
        refine ⟨rfl, by omega, by omega, by omega, rfl, ?_⟩
        conv => whnf
        refine nthK_of (ga (ga wn)) ?_
        conv => whnf
        rw [List.append_assoc]
        exact ⟨rfl, hfin _ _ (by simp [hYj]) (hnk bt hjo)⟩
      · conv => whnf
        refine nthK_of (get_set_ne (get_concat _ _) (by simp; omega)) ?_
        conv => whnf
        refine ⟨by show (pureD 8 (.lst [L2 [l], L2 bt.o] 2 .shared) && true) = true; rw [puC]; rfl, _, concat_ok [l] bt.o rfl hbo, acc0, ?_⟩
        conv => whnf
        refine nthK_of (get_set_ne (get_concat _ _) (by simp; omega)) ?_
        conv => whnf
        refine ⟨rfl, by decide, rfl, by omega, ?_⟩
        conv => whnf
        refine nthK_of (by rw [List.getElem?_set_self (by simp; omega)]) ?_
        conv => whnf
        rw [List.set_set, List.append_assoc]
        exact ⟨rfl, hfin _ _ (by simp [hYj]) (hnk bt hjo)⟩
end
end Go.Proofs.Ytlcebaejlnpdeaa.Ab

/-
  Contracts: the program's orders, all layers.
-/
namespace Go.Proofs.Ytlcebaejlnpdeaa.Ab
open Go
set_option maxRecDepth 20000
set_option maxHeartbeats 4000000

theorem porders_ok (p : List (List Int)) (hv : Val p) : PO 77 [Bn p] (L2 (progOrders p)) := by
  have h2 := hv.n2
  have h4 := hv.n4
  refine fn_pure hmix lk77 rfl (pu2' _) ?_
  unfold rc77
  conv => whnf
  rw [show IntKind.i64.wrap ((p.length : Int) - 1) = (p.length : Int) - 1 by rw [wrapI _ (by omega) (by omega)]]
  refine .intro (fun m T H => ∃ t Y c c1, t ≤ p.length ∧ m = t ∧ (c = .own 4 ∨ c = .shared) ∧ (c1 = .full ∨ c1 = .shared) ∧ T = slots 88 [(1, .ptr 0 0), (3, .ptr 1 0), (4, .ptr 2 0), (5, .ptr (3 + Y.length) 0)] ∧
    H = .cells [Bn p] :: .cells [LJ c1 c1 (joints (p.drop t)) c] :: .cells [.func 100 [] []] :: (Y ++ [.cells [I ((t : Int) - 1)]])) p.length ⟨p.length, [], .own 4, .full, Nat.le_refl _, rfl, .inl rfl, .inl rfl, rfl, by rw [List.drop_length]; rfl⟩ ?_
  rintro t T H ⟨_, Y, c, c1, ht, rfl, hc, hc1, rfl, rfl⟩
  conv => whnf
  refine nthK_of (at3 _ _ _ _ Y []) ?_
  conv => whnf
  refine dcase (fun h => ?_) (fun h => ?_)
  · obtain ⟨t, rfl⟩ : ∃ t', t = t' + 1 := ⟨t - 1, by omega⟩
    rw [show (((t + 1 : Nat) : Int) - 1) = (t : Int) by omega]
    conv => whnf
    refine nthK_of (ga (Z := [_]) (at3 _ _ _ _ Y [])) ?_
    conv => whnf
    refine ⟨by first | rfl | simp only [List.all_cons, List.all_nil, pu0, pub, pu1, pu2, pu1', pu2', pun, puf, puP, puP', puQ, puQ', Bool.and_true, Bool.and_self], _, all_ok86 p t, ?_⟩
    conv => whnf
    have ht' : t < p.length := by omega
    have hd := drop_cons p t ht'
    obtain ⟨q1, q2, q3⟩ := joints_b (p.drop (t + 1)) fun l hl => ⟨hv.s1 l (List.mem_of_mem_drop hl), hv.s5 l (List.mem_of_mem_drop hl)⟩
    have hj : joints (p.drop t) = nextJ p[t] (joints (p.drop (t + 1))) := by rw [hd]; rfl
    have hnB : (p.drop (t + 1)).length ≤ 3 := by simp; omega
    generalize joints (p.drop (t + 1)) = Bh at q1 q2 q3 hj ⊢
    generalize hX : (AObj.cells [Bn p] :: AObj.cells [LJ c1 c1 Bh c] :: AObj.cells [AV.func 100 [] []] :: (Y ++ [AObj.cells [I t]]) ++ [AObj.cells [AV.lst [] 0 Cap.full]]) = X0
    generalize hin : (AObj.cells [Bn p] :: AObj.cells [LJ c1 c1 Bh c] :: AObj.cells [AV.func 100 [] []] :: (Y ++ [AObj.cells [I t]])).length = inn
    have hinn : inn = 4 + Y.length := by rw [← hin]; simp; omega
    have hXl : X0.length = 5 + Y.length := by rw [← hX]; simp; omega
    have g0 : X0[0]? = some (.cells [Bn p]) := by rw [← hX]; rfl
    have g1 : X0[1]? = some (.cells [LJ c1 c1 Bh c]) := by rw [← hX]; rfl
    have g2 : X0[2]? = some (.cells [.func 100 [] []]) := by rw [← hX]; rfl
    have gi : X0[3 + Y.length]? = some (.cells [I t]) := by rw [← hX]; exact ga (at3 _ _ _ _ Y [])
    have hA0 : ∀ cx : AObj, X0.set inn cx = .cells [Bn p] :: .cells [LJ c1 c1 Bh c] :: .cells [.func 100 [] []] :: (Y ++ [.cells [I t], cx]) := fun cx => by
      rw [← hX, ← hin, sset']; simp
    have h5 := hv.s5 _ (List.getElem_mem ht')
    have h1 := hv.s1 _ (List.getElem_mem ht')
    have hN := perms_pos h1 h5
    have hsem := all1_sem p t ht' h1 h5 (by omega) (fun r => X0.set inn (.cells [nextk (nextJ p[t] Bh) r])) (fun _ => Bh.length + 1) X0.length 0
      (lp77 (slots 88 [(1, .ptr 0 0), (3, .ptr 1 0), (4, .ptr 2 0), (5, .ptr (3 + Y.length) 0), (6, .ptr inn 0), (26, .bool (decide (0 ≤ (t : Int)))), (29, Bn p), (30, I t), (31, .func 107 [] [.lptr [Bn p], .lptr [I t]])]) .ready) (fun r => by simp) (Nat.zero_le _) (fun _ _ _ h => by omega)
      (fun r hr Y' => round77 p t ht' hv Bh _ q3 hnB q1 q2 c c1 hc hc1 X0 (3 + Y.length) inn _ _ _ _ g0 g1 g2 gi (by omega) (by omega) (by omega) (by omega) (by omega) r hr Y' _ rfl)
    have hX00 : X0.set inn (.cells [nextk (nextJ p[t] Bh) 0]) = X0 := by rw [hA0, ← hX]; simp [nextk]
    rw [hX00] at hsem
    have hlN : nextk (nextJ p[t] Bh) (perms p[t].length).length = LJ .shared .shared (nextJ p[t] Bh) (.own 4) := by
      rw [nextk, if_neg (by omega), List.take_of_length_le (by rw [nextJ_len] <;> omega)]
    rw [hlN] at hsem
    generalize List.replicate (1 + sumM (fun _ => Bh.length + 1) (perms p[t].length).length) AObj.dead = D at hsem
    refine ⟨rfl, .tuple [], _, .ready, none, 77, slots 88 [(1, .ptr 0 0), (3, .ptr 1 0), (4, .ptr 2 0), (5, .ptr (3 + Y.length) 0), (6, .ptr inn 0), (26, .bool (decide (0 ≤ (t : Int)))), (29, Bn p), (30, I t), (31, .func 107 [] [.lptr [Bn p], .lptr [I t]])], [32], rngA Go.Proofs.Try.prog 77 0, rngB Go.Proofs.Try.prog 77 0, ann77, hsem, ?_, by simp, ?_⟩
    · rw [List.getElem?_append_right (by simp), List.length_set, Nat.sub_self]; rfl
    have hZ : ∀ e : AObj, (X0.set inn (.cells [LJ .shared .shared (nextJ p[t] Bh) (.own 4)]) ++ e :: D).set X0.length .dead = .cells [Bn p] :: .cells [LJ c1 c1 Bh c] :: .cells [.func 100 [] []] :: (Y ++ .cells [I t] :: .cells [LJ .shared .shared (nextJ p[t] Bh) (.own 4)] :: .dead :: D) := fun e => by
      have := sset (X0.set inn (.cells [LJ .shared .shared (nextJ p[t] Bh) (.own 4)])) D e .dead
      rw [List.length_set] at this
      rw [this, hA0]; simp
    rw [hZ]
    obtain ⟨Y2, hY2⟩ : ∃ Y2, Y2 = Y ++ .cells [I t] :: .cells [LJ .shared .shared (nextJ p[t] Bh) (.own 4)] :: .dead :: D := ⟨_, rfl⟩
    have zn : (AObj.cells [Bn p] :: .cells [LJ c1 c1 Bh c] :: .cells [.func 100 [] []] :: Y2)[inn]? = some (.cells [LJ .shared .shared (nextJ p[t] Bh) (.own 4)]) := by
      rw [hY2, hinn, show 4 + Y.length = (Y.length + 1) + 1 + 1 + 1 by omega]
      simp
    have zi : (AObj.cells [Bn p] :: .cells [LJ c1 c1 Bh c] :: .cells [.func 100 [] []] :: Y2)[3 + Y.length]? = some (.cells [I t]) := by
      rw [hY2]; exact at3 _ _ _ _ _ _
    rw [← hY2]
    conv => whnf
    refine nthK_of zn ?_
    conv => whnf
    refine nthK_of (get_set_ne zi (by omega)) ?_
    conv => whnf
    refine nthK_of (get_concat _ _) ?_
    conv => whnf
    refine nthK_of (setc_get _ _ _) ?_
    conv => whnf
    refine nthK_of (setc_get _ _ _) ?_
    conv => whnf
    refine ⟨t, by omega, t, Y2, .shared, .shared, by omega, rfl, .inr rfl, .inr rfl, ?_, ?_⟩
    · rw [show 3 + Y2.length = Y2.length + 1 + 1 + 1 by omega]; rfl
    · rw [hj, set_concat, set_concat, wrapI _ (by omega) (by omega)]; rfl
  · obtain rfl : t = 0 := by omega
    rw [List.drop_zero]
    obtain ⟨q1, q2, q3⟩ := joints_b p fun l hl => ⟨hv.s1 l hl, hv.s5 l hl⟩
    unfold progOrders
    generalize joints p = jl at q1 q2 ⊢
    obtain ⟨x0, t0, rfl⟩ : ∃ x0 t0, jl = x0 :: t0 := by
      cases jl with
      | nil => simp at q1
      | cons x0 t0 => exact ⟨x0, t0, rfl⟩
    rcases hc with rfl | rfl
    all_goals
      rcases hc1 with rfl | rfl
    · conv => whnf
      refine ⟨by simp only [List.all_cons, List.all_nil, puLJ, puf, Bool.and_true, Bool.and_self], _, best_ok fw 100 (.inl ⟨rfl, rfl⟩) x0 t0 (by simp at q2; omega) fewer_ok, ?_⟩
      conv => whnf
      exact ret_pure (.inr rfl) (pu2' _) rfl
    · conv => whnf
      refine ⟨by simp only [List.all_cons, List.all_nil, puLJ, puf, Bool.and_true, Bool.and_self], _, best_ok fw 100 (.inr (.inr ⟨rfl, rfl⟩)) x0 t0 (by simp at q2; omega) fewer_ok, ?_⟩
      conv => whnf
      exact ret_pure (.inr rfl) (pu2' _) rfl
    · conv => whnf
      refine ⟨by simp only [List.all_cons, List.all_nil, puLJ, puf, Bool.and_true, Bool.and_self], _, best_ok fw 100 (.inl ⟨rfl, rfl⟩) x0 t0 (by simp at q2; omega) fewer_ok, ?_⟩
      conv => whnf
      exact ret_pure (.inr rfl) (pu2' _) rfl
    · conv => whnf
      refine ⟨by simp only [List.all_cons, List.all_nil, puLJ, puf, Bool.and_true, Bool.and_self], _, best_ok fw 100 (.inr (.inr ⟨rfl, rfl⟩)) x0 t0 (by simp at q2; omega) fewer_ok, ?_⟩
      conv => whnf
      exact ret_pure (.inr rfl) (pu2' _) rfl

/-! ### by, Fewest, Orders, Pair -/
theorem by_ok (p o : List (List Int)) (hv : Val p) (h : Ords p o) : PO 76 [Bn p, L2 o] (O2 (seamsBy p o)) := by
  have hl := h.len
  have h4 := hv.n4
  refine fn_pure hmix lk76 rfl (pu2 _ _ _) ?_
  unfold rc76
  conv => whnf
  refine .intro (CI (fun i => slots 24 [(0, Bn p), (5, U2 (seamsBy (p.take i) (o.take i))), (8, L2 o), (9, I o.length), (10, I i)]) o.length []) o.length (ci0 rfl) ?_
  rintro m T H ⟨i, hi, rfl, rfl, rfl⟩
  conv => whnf
  refine dcase (fun h2 => ?_) (fun h2 => ?_)
  · have hlt : i < o.length := by omega
    have hlt2 : i < p.length := by omega
    have hI := h.inL hv i hlt hlt2
    have hs1 := hv.s1 _ (List.getElem_mem hlt2)
    have hon := (isOrd_iff.1 (h.ord i hlt hlt2)).1
    conv => whnf
    refine ⟨by omega, ?_⟩
    conv => whnf
    refine nthM _ _ _ (hlt) ?_
    conv => whnf
    refine ⟨?_, _, pseams_ok p i hlt2 o[i] hI (by omega), ?_⟩
    · simp only [List.all_cons, List.all_nil, pu1, pu0, puBn, puQ, Bool.and_true]
    conv => whnf
    have hll : (seamsBy (p.take i) (o.take i)).length ≤ i := by simp [seamsBy]; omega
    refine ⟨rfl, by decide, rfl, by omega, ?_⟩
    conv => whnf
    exact ciN hlt (by rw [seamsBy_take i hlt hlt2, ← U2_snoc, ← wrapS i (by omega)] <;> rfl)
  · obtain rfl : i = o.length := by omega
    conv => whnf
    exact ret_own (.inr rfl) (pu2 _ _ _) (.inr (by rw [List.take_length, hl, List.take_length]; rfl))
theorem jointOf_head (a : List Int) (b : List Jt) (o : List Int) : (jointOf a b o).o = o :: (bestL fw (b.map (tryJ (seamsOf a o)))).o := rfl
/-- What joints' orders are. -/
theorem joints_ords : ∀ (p : List (List Int)), (∀ l ∈ p, 1 ≤ l.length ∧ l.length ≤ 5) → ∀ x ∈ joints p, Ords p x.o
  | [], _, x, hx => by
    simp [joints] at hx; subst hx
    exact ⟨rfl, fun i h => by simp at h⟩
  | a :: r, h, x, hx => by
    have hr : ∀ l ∈ r, 1 ≤ l.length ∧ l.length ≤ 5 := fun l hl => h l (by simp [hl])
    obtain ⟨q1, _, _⟩ := joints_b r hr
    have ih := joints_ords r hr
    simp only [joints, nextJ, List.mem_map] at hx
    obtain ⟨o, ho, rfl⟩ := hx
    have hm := bestL_mem fw ((joints r).map (tryJ (seamsOf a o))) (by simpa using q1)
    obtain ⟨j, hj, e⟩ := List.mem_map.1 hm
    have hjo := ih j hj
    have e2 : (bestL fw ((joints r).map (tryJ (seamsOf a o)))).o = j.o := by rw [← e]; rfl
    refine ⟨by rw [jointOf_head, e2, List.length_cons, List.length_cons, hjo.len], fun i h1 h2 => ?_⟩
    simp only [jointOf_head, e2] at h1 ⊢
    cases i with
    | zero => exact perms_ord ho
    | succ i => exact hjo.ord i (by simpa using h1) (by simpa using h2)
theorem progOrders_ords {p : List (List Int)} (hv : Val p) : Ords p (progOrders p) := by
  have h : ∀ l ∈ p, 1 ≤ l.length ∧ l.length ≤ 5 := fun l hl => ⟨hv.s1 l hl, hv.s5 l hl⟩
  exact joints_ords p h _ (bestL_mem fw _ (joints_b p h).1)
def pfewE (p : List (List Int)) : Int := if checkP p = 0 then (meetN (seamsBy p (progOrders p)) : Int) else 0
theorem pfewest_ok (p : List (List Int)) (h1 : p.length ≤ 140737488355328) (h2 : ∀ l ∈ p, l.length ≤ 140737488355328) : PO 33 [P1 p] (.tuple [I (pfewE p), I (checkP p)]) := by
  by_cases hc : checkP p = 0
  · have hv := checkP_val hc
    have ho := progOrders_ords hv
    have h4 := hv.n4
    have hl := seamsBy_length ho
    have hq := seamsBy_pos hv ho
    have hi := seamsBy_inc hv ho
    rw [show pfewE p = (meetN (seamsBy p (progOrders p)) : Int) from if_pos hc, hc]
    refine fn_pure hmix lk33 rfl rfl ?_
    unfold rc33
    conv => whnf
    refine ⟨by first | rfl | simp only [List.all_cons, List.all_nil, pu0, pub, pu1, pu2, pu1', pu2', pun, puf, puP, puP', puQ, puQ', Bool.and_true, Bool.and_self], _, open_good [] h1 h2 (by simp) hc rfl, ?_⟩
    conv => whnf
    refine ⟨by simp only [List.all_cons, List.all_nil, puQ, puBn, Bool.and_true], _, porders_ok p hv, ?_⟩
    conv => whnf
    refine ⟨by simp only [List.all_cons, List.all_nil, puQ, puBn, pu2, pu2', Bool.and_true], _, by_ok p _ hv ho, ?_⟩
    conv => whnf
    generalize seamsBy p (progOrders p) = l at hl hq hi
    refine ⟨_, _, meet_call l (by omega) (fun r hr => by have := (hq r hr).2; omega) (places_nodup l 0 fun r hr => inc_nodup (hi r hr)) _ _, ?_⟩
    conv => whnf
    refine ⟨_, _, rfl, ?_⟩
    conv => whnf
    exact ret_pure (.inr rfl) rfl (by rw [← meets_length]; rfl)
  · rw [show pfewE p = 0 from if_neg hc]
    refine fn_pure hmix lk33 rfl rfl ?_
    unfold rc33
    conv => whnf
    refine ⟨by first | rfl | simp only [List.all_cons, List.all_nil, pu0, pub, pu1, pu2, pu1', pu2', pun, puf, puP, puP', puQ, puQ', Bool.and_true, Bool.and_self], _, open_bad [] h1 h2 (by simp) hc, ?_⟩
    conv => whnf
    refine dcase (fun h => ?_) (fun h => absurd hc h)
    conv => whnf
    exact ret_pure (.inr rfl) rfl rfl
def pordE (p : List (List Int)) : List (List Int) := if checkP p = 0 then progOrders p else []
theorem pOrders_ok (p : List (List Int)) (h1 : p.length ≤ 140737488355328) (h2 : ∀ l ∈ p, l.length ≤ 140737488355328) : PO 35 [P1 p] (.tuple [L2 (pordE p), I (checkP p)]) := by
  by_cases hc : checkP p = 0
  · have hv := checkP_val hc
    rw [show pordE p = progOrders p from if_pos hc, hc]
    refine fn_pure hmix lk35 rfl (puT _ _) ?_
    unfold rc35
    conv => whnf
    refine ⟨by first | rfl | simp only [List.all_cons, List.all_nil, pu0, pub, pu1, pu2, pu1', pu2', pun, puf, puP, puP', puQ, puQ', Bool.and_true, Bool.and_self], _, open_good [] h1 h2 (by simp) hc rfl, ?_⟩
    conv => whnf
    refine ⟨by simp only [List.all_cons, List.all_nil, puQ, puBn, Bool.and_true], _, porders_ok p hv, ?_⟩
    conv => whnf
    exact ret_pure (.inr rfl) (puT _ _) rfl
  · rw [show pordE p = [] from if_neg hc]
    refine fn_pure hmix lk35 rfl (puT _ _) ?_
    unfold rc35
    conv => whnf
    refine ⟨by first | rfl | simp only [List.all_cons, List.all_nil, pu0, pub, pu1, pu2, pu1', pu2', pun, puf, puP, puP', puQ, puQ', Bool.and_true, Bool.and_self], _, open_bad [] h1 h2 (by simp) hc, ?_⟩
    conv => whnf
    refine dcase (fun h => ?_) (fun h => absurd hc h)
    conv => whnf
    exact ret_pure (.inr rfl) (puT _ _) rfl
end Go.Proofs.Ytlcebaejlnpdeaa.Ab

/-
  Plain law of layer 5: the program's orders are the first ones that have the fewest meetings.
-/
namespace Go.Proofs.Ytlcebaejlnpdeaa.Ab

theorem common_nil (s : List Int) : common s [] = 0 := by
  unfold common; rw [List.length_eq_zero_iff, List.filter_eq_nil_iff]; simp [has]
theorem nil_common (s : List Int) : common [] s = 0 := rfl
theorem bestJ_m : ∀ (t : List Jt) (x : Jt), (bestJ fw t x).m = t.foldl (fun m y => min m y.m) x.m
  | [], x => rfl
  | y :: t, x => by
    have e : bestJ fw (y :: t) x = bestJ fw t (if fw y x = true then y else x) := rfl
    rw [e, bestJ_m t, List.foldl_cons]
    congr 1
    unfold fw
    by_cases h : y.m < x.m
    · rw [if_pos (decide_eq_true h)]; omega
    · rw [if_neg (by simpa using h)]; omega
theorem bestJ_le (t : List Jt) (x : Jt) : (bestJ fw t x).m ≤ x.m ∧ ∀ y ∈ t, (bestJ fw t x).m ≤ y.m := by
  rw [bestJ_m]
  have key : ∀ (t : List Jt) (a : Int), t.foldl (fun m y => min m y.m) a ≤ a ∧ ∀ y ∈ t, t.foldl (fun m y => min m y.m) a ≤ y.m := by
    intro t
    induction t with
    | nil => intro a; simp
    | cons z t ih =>
      intro a
      obtain ⟨h1, h2⟩ := ih (min a z.m)
      rw [List.foldl_cons]
      refine ⟨by omega, fun y hy => ?_⟩
      rcases List.mem_cons.1 hy with rfl | hy
      · omega
      · exact h2 y hy
  exact key t x.m
theorem best_find : ∀ (t : List Jt) (x : Jt), (x :: t).find? (fun j => decide (j.m = (bestJ fw t x).m)) = some (bestJ fw t x)
  | [], x => by simp [bestJ]
  | y :: t, x => by
    by_cases h : y.m < x.m
    · have e : bestJ fw (y :: t) x = bestJ fw t y := by show bestJ fw t (if fw y x = true then y else x) = _; rw [if_pos (show fw y x = true from decide_eq_true h)]
      have h1 := (bestJ_le t y).1
      have ih := best_find t y
      rw [e, List.find?_cons, decide_eq_false (by omega)]
      exact ih
    · have e : bestJ fw (y :: t) x = bestJ fw t x := by show bestJ fw t (if fw y x = true then y else x) = _; rw [if_neg (by simpa [fw] using h)]
      have h1 := (bestJ_le t x).1
      have ih := best_find t x
      rw [e]
      rw [List.find?_cons] at ih ⊢
      by_cases h2 : x.m = (bestJ fw t x).m
      · rw [decide_eq_true h2] at ih ⊢; exact ih
      · rw [decide_eq_false h2] at ih ⊢
        rw [List.find?_cons, decide_eq_false (by omega)]
        exact ih
theorem bestJ_map (g : Jt → Jt) (hg : ∀ x, (g x).m = x.m) : ∀ (t : List Jt) (x : Jt), bestJ fw (t.map g) (g x) = g (bestJ fw t x)
  | [], x => rfl
  | y :: t, x => by
    show bestJ fw (t.map g) (if fw (g y) (g x) = true then g y else g x) = g (bestJ fw t (if fw y x = true then y else x))
    have e : fw (g y) (g x) = fw y x := by unfold fw; rw [hg, hg]
    rw [e]
    by_cases h : fw y x = true
    · rw [if_pos h, if_pos h, bestJ_map g hg t]
    · rw [if_neg h, if_neg h, bestJ_map g hg t]

/-- Joints' seams and meetings are the table's. -/
theorem joints_s (a : List Int) (r : List (List Int)) : (joints (a :: r)).map (·.s) = seamA a := by
  simp only [joints, nextJ, seamA, List.map_map]; rfl
theorem minJ_best (s : List Int) (l : List Jt) (h : 0 < l.length) (hb : ∀ x ∈ l, x.m + common s x.s ≤ 100) : minJ s (l.map fun j => (j.s, j.m)) = (bestL fw (l.map (tryJ s))).m := by
  cases l with
  | nil => simp at h
  | cons x t =>
    have e : bestL fw ((x :: t).map (tryJ s)) = bestJ fw (t.map (tryJ s)) (tryJ s x) := rfl
    rw [e, bestJ_m, minJ, List.map_cons, List.foldl_cons]
    have h0 := hb x (by simp)
    have e2 : min (100 : Int) ((common s x.s : Int) + x.m) = (tryJ s x).m := by show _ = x.m + (common s x.s : Int); omega
    show (t.map fun j => (j.s, j.m)).foldl (fun m x => min m ((common s x.1 : Int) + x.2)) (min 100 ((common s x.s : Int) + x.m)) = _
    rw [e2, List.foldl_map, List.foldl_map]
    congr 1
    funext m y
    show min m ((common s y.s : Int) + y.m) = min m (y.m + (common s y.s : Int))
    rw [Int.add_comm]
theorem zip_map (l : List Jt) : List.zip (l.map (·.s)) (l.map (·.m)) = l.map fun j => (j.s, j.m) := by
  induction l with
  | nil => rfl
  | cons x l ih => simp only [List.map_cons, List.zip_cons_cons, ih]
abbrev Lens (p : List (List Int)) : Prop := (∀ l ∈ p, 1 ≤ l.length ∧ l.length ≤ 5) ∧ p.length ≤ 4
theorem Lens.tail {a : List Int} {r : List (List Int)} (h : Lens (a :: r)) : Lens r := ⟨fun l hl => h.1 l (by simp [hl]), by have := h.2; simp at this; omega⟩
theorem joints_m : ∀ (p : List (List Int)), Lens p → p ≠ [] → (joints p).map (·.m) = costs p
  | [], _, h => absurd rfl h
  | [a], _, _ => by
    simp only [joints, nextJ, costs, List.map_map]
    refine List.map_congr_left fun o _ => ?_
    show (bestL fw [tryJ (seamsOf a o) ⟨[], [], 0, 0⟩]).m = 0
    show (0 : Int) + (common (seamsOf a o) [] : Int) = 0
    rw [common_nil]; rfl
  | a :: b :: r, h, _ => by
    have hr := Lens.tail h
    have ih := joints_m (b :: r) hr (by simp)
    obtain ⟨q1, q2, q3⟩ := joints_b (b :: r) hr.1
    have e : joints (a :: b :: r) = nextJ a (joints (b :: r)) := rfl
    rw [e, costs, ← ih, ← joints_s b r, zip_map]
    simp only [nextJ, seamA, List.map_map]
    refine List.map_congr_left fun o ho => ?_
    show (bestL fw ((joints (b :: r)).map (tryJ (seamsOf a o)))).m = minJ (seamsOf a o) ((joints (b :: r)).map fun j => (j.s, j.m))
    refine (minJ_best _ _ q1 fun x hx => ?_).symm
    have hx1 := (q3 x hx).m1
    have hc := common_le (seamsOf a o) x.s
    have ho1 := (perms_mem ho).1
    have hs : (seamsOf a o).length ≤ 4 := by
      have := (h.1 a (by simp)).2
      simp [seamsOf, seamsGo_length]; omega
    have := hr.2
    omega
theorem fewest_best {p : List (List Int)} (h : Lens p) (hp : p ≠ []) : fewestOf p = (bestL fw (joints p)).m := by
  have e := joints_m p h hp
  have q := (joints_b p h.1).1
  unfold fewestOf leastOf
  rw [← e]
  generalize joints p = l at q
  cases l with
  | nil => simp at q
  | cons x t =>
    show (List.map (·.m) (x :: t)).foldl min x.m = (bestJ fw t x).m
    rw [bestJ_m, List.foldl_map, List.foldl_cons, Int.min_self]
theorem meetN_cons (s : List Int) (rows : List (List Int)) : meetN (s :: rows) = common s (rows.headD []) + meetN rows := by
  cases rows with
  | nil => simp [meetN, common_nil]
  | cons r rows => rfl
theorem joints_meet : ∀ (p : List (List Int)), (∀ l ∈ p, 1 ≤ l.length ∧ l.length ≤ 5) → ∀ x ∈ joints p, x.m = (meetN (seamsBy p x.o) : Int) ∧ x.s = (seamsBy p x.o).headD []
  | [], _, x, hx => by
    simp [joints] at hx; subst hx; exact ⟨rfl, rfl⟩
  | a :: r, h, x, hx => by
    have hr : ∀ l ∈ r, 1 ≤ l.length ∧ l.length ≤ 5 := fun l hl => h l (by simp [hl])
    obtain ⟨q1, _, _⟩ := joints_b r hr
    have ih := joints_meet r hr
    simp only [joints, nextJ, List.mem_map] at hx
    obtain ⟨o, ho, rfl⟩ := hx
    have hm := bestL_mem fw ((joints r).map (tryJ (seamsOf a o))) (by simpa using q1)
    obtain ⟨j, hj, e⟩ := List.mem_map.1 hm
    obtain ⟨i1, i2⟩ := ih j hj
    have e1 : (jointOf a (joints r) o).o = o :: j.o := by show o :: (bestL fw _).o = _; rw [← e]; rfl
    have e2 : (jointOf a (joints r) o).m = j.m + (common (seamsOf a o) j.s : Int) := by show (bestL fw _).m = _; rw [← e]; rfl
    have e3 : seamsBy (a :: r) (o :: j.o) = seamsOf a o :: seamsBy r j.o := rfl
    rw [e1, e2, e3, meetN_cons, i1, ← i2]
    refine ⟨by omega, rfl⟩
theorem fewest_eq {p : List (List Int)} (h : Lens p) (hp : p ≠ []) : fewestOf p = (meetN (seamsBy p (progOrders p)) : Int) := by
  rw [fewest_best h hp]
  exact (joints_meet p h.1 _ (bestL_mem fw _ (joints_b p h.1).1)).1

/-! ### The first orders -/
theorem pickO_find (last : List Int) (left : Int) : ∀ l : List (List Int × List Int × Int), pickO last left l = l.find? fun x => decide ((common last x.2.1 : Int) + x.2.2 = left)
  | [] => rfl
  | x :: l => by
    rw [pickO, List.find?_cons, pickO_find last left l]
    by_cases h : (common last x.2.1 : Int) + x.2.2 = left
    · rw [if_pos h, decide_eq_true h]
    · rw [if_neg h, decide_eq_false h]
theorem zip3 {α : Type} (f : α → List Int) (g : α → Int) (h : α → List Int) (l : List α) : List.zip (l.map h) (List.zip (l.map f) (l.map g)) = l.map fun o => (h o, f o, g o) := by
  induction l with
  | nil => rfl
  | cons x l ih => simp only [List.map_cons, List.zip_cons_cons, ih]
theorem greedy_eq (p : List (List Int)) (hp : Lens p) : ∀ (f i : Nat) (last : List Int) (left : Int), i + f = p.length → left = (bestL fw ((joints (p.drop i)).map (tryJ last))).m →
    greedy p f i last left = (bestL fw ((joints (p.drop i)).map (tryJ last))).o
  | 0, i, last, left, hi, _ => by
    have : p.drop i = [] := List.drop_eq_nil_of_le (by omega)
    rw [this]; rfl
  | f + 1, i, last, left, hi, hl => by
    have hlt : i < p.length := by omega
    have hd := drop_cons p i hlt
    have hq : Lens (p.drop i) := ⟨fun l hl => hp.1 l (List.mem_of_mem_drop hl), by have := hp.2; simp; omega⟩
    have hm := joints_m (p.drop i) hq (fun e => by rw [hd] at e; cases e)
    have hj : joints (p.drop i) = (perms p[i].length).map (jointOf p[i] (joints (p.drop (i + 1)))) := by rw [hd]; rfl
    have hop : opts p i = (perms p[i].length).map fun o => (o, seamsOf p[i] o, (jointOf p[i] (joints (p.drop (i + 1))) o).m) := by
      unfold opts
      rw [show p[i]? = some p[i] from List.getElem?_eq_getElem hlt]
      show List.zip (perms p[i].length) (List.zip (seamA p[i]) (costs (p.drop i))) = _
      rw [← hm, hj, List.map_map]
      have := zip3 (seamsOf p[i]) (fun o => (jointOf p[i] (joints (p.drop (i + 1))) o).m) id (perms p[i].length)
      rw [List.map_id] at this
      exact this
    have hpos := perms_pos (hp.1 _ (List.getElem_mem hlt)).1 (hp.1 _ (List.getElem_mem hlt)).2
    have hbf : ((joints (p.drop i)).map (tryJ last)).find? (fun j => decide (j.m = left)) = some (bestL fw ((joints (p.drop i)).map (tryJ last))) := by
      rw [hl]
      have h0 : 0 < ((joints (p.drop i)).map (tryJ last)).length := by rw [hj]; simpa using hpos
      generalize (joints (p.drop i)).map (tryJ last) = tr at h0 ⊢
      cases tr with
      | nil => simp at h0
      | cons x t => exact best_find t x
    rw [greedy, pickO_find, hop, List.find?_map]
    rw [hj, List.map_map, List.find?_map] at hbf
    have hfun : ((fun x : List Int × List Int × Int => decide ((common last x.2.1 : Int) + x.2.2 = left)) ∘ fun o => (o, seamsOf p[i] o, (jointOf p[i] (joints (p.drop (i + 1))) o).m)) = ((fun j : Jt => decide (j.m = left)) ∘ (tryJ last ∘ jointOf p[i] (joints (p.drop (i + 1))))) := by
      funext o
      show decide ((common last (seamsOf p[i] o) : Int) + (jointOf p[i] (joints (p.drop (i + 1))) o).m = left) = decide ((jointOf p[i] (joints (p.drop (i + 1))) o).m + (common last (seamsOf p[i] o) : Int) = left)
      rw [Int.add_comm]
    rw [hfun]
    cases hfd : (perms p[i].length).find? ((fun j : Jt => decide (j.m = left)) ∘ (tryJ last ∘ jointOf p[i] (joints (p.drop (i + 1))))) with
    | none => rw [hfd] at hbf; cases hbf
    | some o =>
      rw [hfd] at hbf
      simp only [Option.map_some, Option.some.injEq] at hbf
      rw [hj, List.map_map, ← hbf]
      show o :: greedy p f (i + 1) (seamsOf p[i] o) (jointOf p[i] (joints (p.drop (i + 1))) o).m = (jointOf p[i] (joints (p.drop (i + 1))) o).o
      have hg := greedy_eq p hp f (i + 1) (seamsOf p[i] o) (jointOf p[i] (joints (p.drop (i + 1))) o).m (by omega) rfl
      rw [hg]
      rfl
theorem orders_eq {p : List (List Int)} (hp : Lens p) (hn : p ≠ []) : ordersOf p = progOrders p := by
  have key : bestL fw ((joints p).map (tryJ [])) = tryJ [] (bestL fw (joints p)) := by
    have q := (joints_b p hp.1).1
    generalize joints p = l at q
    cases l with
    | nil => simp at q
    | cons x t => exact bestJ_map (tryJ []) (fun x => by show x.m + ((common [] x.s : Nat) : Int) = x.m; rw [nil_common]; simp) t x
  unfold ordersOf
  rw [greedy_eq p hp p.length 0 [] (fewestOf p) (by omega) ?_, List.drop_zero, key]
  · rfl
  · rw [List.drop_zero, key, fewest_best hp hn]
    show _ = (bestL fw (joints p)).m + ((common [] (bestL fw (joints p)).s : Nat) : Int)
    rw [nil_common]; simp
end Go.Proofs.Ytlcebaejlnpdeaa.Ab

/-
  Plain words of layer 5: the greatest distance: joints, layer by layer.
-/
namespace Go.Proofs.Ytlcebaejlnpdeaa.Ab

def tryF (W : Int) (s : List Int) (j : Jt) : Jt := ⟨j.o, [], 0, min j.d (betw j.s s W)⟩
def jointF (W : Int) (layer : List Int) (before : List Jt) (o : List Int) : Jt :=
  ⟨(bestL fr (before.map (tryF W (seamsOf layer o)))).o ++ [o], seamsOf layer o, 0, (bestL fr (before.map (tryF W (seamsOf layer o)))).d⟩
def nextF (W : Int) (layer : List Int) (before : List Jt) : List Jt := (perms layer.length).map (jointF W layer before)
def beforeF (W : Int) (p : List (List Int)) : List Jt := p.foldl (fun b a => nextF W a b) [⟨[], [], 0, W⟩]
def farB (p : List (List Int)) : Jt := bestL fr (beforeF (sumI (p.headD [])) p)
theorem nextF_len (W : Int) (a : List Int) (b : List Jt) : (nextF W a b).length = (perms a.length).length := by simp [nextF]
theorem beforeF_snoc (W : Int) (p : List (List Int)) (a : List Int) : beforeF W (p ++ [a]) = nextF W a (beforeF W p) := by
  simp [beforeF, List.foldl_append]
structure Jf (W : Int) (n : Nat) (x : Jt) : Prop where
  o : x.o.length = n
  s : Pos x.s
  d0 : 0 ≤ x.d
  d1 : x.d ≤ W

/-- The definitions' table: the greatest distance that ends in each order of a layer. -/
def maxK (own : List (List Int × Int)) (s : List Int) : Int := own.foldl (fun m x => if m < x.2 then max m (betw x.1 s x.2) else m) 0
def farNext (own : List (List Int)) (far : List Int) (layer : List Int) : List Int := (seamA layer).map (maxK (List.zip own far))
def farGo : List (List Int) → List (List Int) → List Int → List Int
  | [], _, far => far
  | a :: r, own, far => farGo r (seamA a) (farNext own far a)
def farOf (p : List (List Int)) : Int := match p with
  | [] => 0
  | a :: r => (farGo r (seamA a) ((perms a.length).map fun _ => sumI a)).foldl max 0
end Go.Proofs.Ytlcebaejlnpdeaa.Ab

/-
  Contracts: the greatest distance: rounds.
-/
namespace Go.Proofs.Ytlcebaejlnpdeaa.Ab
open Go
set_option maxRecDepth 20000
set_option maxHeartbeats 4000000

noncomputable abbrev lp91 (T : List AV) (st : LoopState) : AObj := .loop st none 91 T [37] (rngA Go.Proofs.Try.prog 91 0) (rngB Go.Proofs.Try.prog 91 0) ann91
theorem takeFull (l : List (List Int)) : AV.lst ((l.map L1).take ((l.length : Int).toNat * 1)) (l.length : Int).toNat .full = .lst (l.map L1) l.length .full := by
  simp [← List.map_take]
theorem L2_sn (l : List (List Int)) (x : List Int) : AV.lst (l.map L1 ++ AV.lst (x.map I) x.length .shared :: List.append [] (repl 0 [AV.lst [] 0 .full])) (l.length + 1) .shared = L2 (l ++ [x]) := by
  simp [L2, L1, repl]
section
variable (p : List (List Int)) (t : Nat) (ht : t < p.length) (hv : Val p) (Wd : Int) (Bh : List Jt) (nB : Nat) (hB : ∀ x ∈ Bh, Jf Wd nB x) (hn : nB ≤ 3) (hB0 : 0 < Bh.length) (hB1 : Bh.length ≤ 3125)
variable (c c1 : Cap) (hc : c = .own 4 ∨ c = .shared) (hc1 : c1 = .full ∨ c1 = .shared) (X0 : List AObj) (ii inn : Nat) (TT : List AV)
variable (g0 : X0[0]? = some (.cells [Bn p])) (g2 : X0[2]? = some (.cells [I Wd])) (g3 : X0[3]? = some (.cells [LJ c1 c1 Bh c])) (g4 : X0[4]? = some (.cells [.func 111 [] []])) (gi : X0[ii]? = some (.cells [I t]))
variable (hinn : inn < X0.length) (n0 : inn ≠ 0) (n2 : inn ≠ 2) (n3 : inn ≠ 3) (n4 : inn ≠ 4) (ni : inn ≠ ii)
include ht hv hB hn hB0 hB1 hc hc1 g0 g2 g3 g4 gi hinn n0 n2 n3 n4 ni
theorem round91 (r : Nat) (hr : r < (perms p[t].length).length) (Y : List AObj) (x30 x31 x32 x34 x35 x36 : AV) (hT : TT = slots 90 [(1, .ptr 0 0), (2, .ptr 1 0), (3, .ptr 2 0), (4, .ptr 3 0), (5, .ptr 4 0), (6, .ptr ii 0), (7, .ptr inn 0), (30, x30), (31, x31), (32, x32), (34, x34), (35, x35), (36, x36)]) :
    Sem Go.Proofs.Try.prog (.yield X0.length) [U1 (perms p[t].length)[r]] (X0.set inn (.cells [nextk (nextF Wd p[t] Bh) r]) ++ lp91 TT .ready :: Y) 0 (.bool true)
      (X0.set inn (.cells [nextk (nextF Wd p[t] Bh) (r + 1)]) ++ lp91 TT .ready :: (Y ++ List.replicate (Bh.length + 1) .dead)) := by
  have h5 := hv.s5 _ (List.getElem_mem ht)
  have h1 := hv.s1 _ (List.getElem_mem ht)
  have hI : InL p[t] (perms p[t].length)[r] := perm_inL (hv.sm (List.getElem_mem ht)) (List.getElem_mem hr) h5
  have hlr := (perms_mem (List.getElem_mem hr)).1
  have hnr : (nextF Wd p[t] Bh)[r]? = some (jointF Wd p[t] Bh (perms p[t].length)[r]) := by simp [nextF, hr]
  have hsl : ∀ d : AObj, (X0.set inn d).length = X0.length := fun d => by simp
  have hset : ∀ (d e : AObj) (Z : List AObj), (X0.set inn d ++ e :: Z)[X0.length]? = some e := fun d e Z => by
    rw [List.getElem?_append_right (by simp), hsl, Nat.sub_self]; rfl
  have hss : ∀ (d e f : AObj) (Z : List AObj), (X0.set inn d ++ e :: Z).set X0.length f = X0.set inn d ++ f :: Z := fun d e f Z => by
    have := sset (X0.set inn d) Z e f
    rwa [hsl] at this
  refine sem_round hmix (l := X0.length) (T := TT) lkY91A lkY91B (hset _ _ _) rfl ⟨by simp, fun _ h => by omega⟩ ?_
  generalize hl : (perms p[t].length)[r] = l at *
  obtain ⟨LR, hLR⟩ : ∃ x, x = lp91 TT .ready := ⟨_, rfl⟩
  obtain ⟨LB, hLB⟩ : ∃ x, x = lp91 TT .busy := ⟨_, rfl⟩
  rw [← hLR]
  rw [show AObj.loop .busy none 91 TT [37] (rngA Go.Proofs.Try.prog 91 0) (rngB Go.Proofs.Try.prog 91 0) ann91 = LB from hLB.symm, show AObj.loop .ready none 91 TT [37] (rngA Go.Proofs.Try.prog 91 0) (rngB Go.Proofs.Try.prog 91 0) ann91 = LR from hLR.symm]
  rw [hT]
  unfold rcY91A
  conv => whnf
  refine ⟨rfl, hset _ _ _, ?_⟩
  rw [hss]
  unfold rcY91B
  conv => whnf
  obtain ⟨W, hW⟩ : ∃ W, W = X0.set inn (.cells [nextk (nextF Wd p[t] Bh) r]) ++ LB :: Y := ⟨_, rfl⟩
  have hWs : ∀ (J : List AObj) (d : AObj), (W ++ J).set inn d = X0.set inn d ++ LB :: (Y ++ J) := fun J d => by
    rw [hW, List.append_assoc, List.set_append_left _ _ (by simp; exact hinn), List.set_set]; rfl
  have gw : ∀ (j : Nat) (o : AObj), j ≠ inn → X0[j]? = some o → W[j]? = some o := fun j o hj ho => by
    rw [hW]
    exact ga (by rw [List.getElem?_set_ne (fun e => hj e.symm)]; exact ho)
  have w0 := gw 0 _ (Ne.symm n0) g0
  have w2 := gw 2 _ (Ne.symm n2) g2
  have w3 := gw 3 _ (Ne.symm n3) g3
  have w4 := gw 4 _ (Ne.symm n4) g4
  have wi := gw ii _ (Ne.symm ni) gi
  have wn : W[inn]? = some (.cells [nextk (nextF Wd p[t] Bh) r]) := by
    rw [hW]; exact ga (by rw [List.getElem?_set_self hinn])
  have hfin : ∀ (J : List AObj) (cx : AObj), J.length = Bh.length + 1 → cx = .cells [nextk (nextF Wd p[t] Bh) (r + 1)] → ((W ++ J).set inn cx)[X0.length]? = some LB ∧
      Fgt (((W ++ J).set inn cx).set X0.length LR) (X0.set inn (.cells [nextk (nextF Wd p[t] Bh) (r + 1)]) ++ LR :: (Y ++ List.replicate (Bh.length + 1) .dead)) := fun J cx hJ hcx => by
    subst hcx
    rw [hWs]
    refine ⟨hset _ _ _, ?_⟩
    rw [hss, ← hJ, ← List.cons_append, ← List.append_assoc, ← List.cons_append, ← List.append_assoc]
    exact fgt_tail _ _
  rw [← hW]
  clear hWs hset hss gw hW g0 g2 g3 g4 gi
  have hsq := seamsOf_pos hI
  have hpl1 := perms_len h5
  refine nthK_of w0 ?_
  conv => whnf
  refine nthK_of wi ?_
  conv => whnf
  refine ⟨?_, _, pseams_ok p t ht l hI (by omega), ?_⟩
  · simp only [List.all_cons, List.all_nil, pu1, pu0, puBn, puQ, Bool.and_true]
  conv => whnf
  refine nthK_of w3 ?_
  have hwl : inn < W.length := (List.getElem?_eq_some_iff.1 wn).1
  have hnk : (nextk (nextF Wd p[t] Bh) r = nilF ∧ ∀ bt : Jt, jointF Wd p[t] Bh l = ⟨bt.o ++ [l], seamsOf p[t] l, 0, bt.d⟩ → AObj.cells [.lst ([] ++ jc ⟨bt.o ++ [l], seamsOf p[t] l, 0, bt.d⟩) (0 + 1) (.own 4)] = .cells [nextk (nextF Wd p[t] Bh) (r + 1)]) ∨
      (nextk (nextF Wd p[t] Bh) r = LJ .shared .shared ((nextF Wd p[t] Bh).take r) (.own 4) ∧ ∀ bt : Jt, jointF Wd p[t] Bh l = ⟨bt.o ++ [l], seamsOf p[t] l, 0, bt.d⟩ → AObj.cells [.lst (((nextF Wd p[t] Bh).take r).flatMap jc ++ jc ⟨bt.o ++ [l], seamsOf p[t] l, 0, bt.d⟩) (((nextF Wd p[t] Bh).take r).length + 1) (.own 4)] = .cells [nextk (nextF Wd p[t] Bh) (r + 1)]) := by
    obtain ⟨q1, q2⟩ := List.getElem?_eq_some_iff.1 hnr
    have e : (nextF Wd p[t] Bh).take (r + 1) = (nextF Wd p[t] Bh).take r ++ [jointF Wd p[t] Bh l] := by rw [List.take_succ_eq_append_getElem q1, q2]
    by_cases h0 : r = 0
    · subst h0
      refine .inl ⟨rfl, fun bt hb => ?_⟩
      rw [nextk, if_neg (by omega), e, hb]; rfl
    · refine .inr ⟨by rw [nextk, if_neg h0], fun bt hb => ?_⟩
      rw [nextk, if_neg (by omega), e, LJ_snoc, hb]
  have hnl : ((nextF Wd p[t] Bh).take r).length ≤ 3125 := by
    have := List.length_take_le' r (nextF Wd p[t] Bh); rw [nextF_len] at this; omega
  generalize nextk (nextF Wd p[t] Bh) r = nk at wn hnk
  generalize (nextF Wd p[t] Bh).take r = nxr at hnk hnl
  rcases hc with rfl | rfl
  all_goals
    rcases hc1 with rfl | rfl
  · conv => whnf
    refine .intro (fun m T H => ∃ j Yj, j ≤ Bh.length ∧ m = Bh.length - j ∧ Yj.length = j ∧ T = slots 90 [(3, .ptr 2 0), (5, .ptr 4 0), (7, .ptr inn 0), (8, O1 l), (9, O1 (seamsOf p[t] l)), (10, LJ .full .full ((Bh.take j).map (tryF Wd (seamsOf p[t] l))) (.uniq 4)), (42, LJ .full .full Bh .shared), (43, I Bh.length), (44, I j)] ∧ H = W ++ Yj) Bh.length ⟨0, [], by omega, by omega, rfl, rfl, by rw [List.append_nil]⟩ ?_
    rintro m T H ⟨j, Yj, hj, rfl, hYj, rfl, rfl⟩
    conv => whnf
    refine dcase (fun h => ?_) (fun h => ?_)
    · have hlt : j < Bh.length := by omega
      have hjb := hB _ (List.getElem_mem hlt)
      conv => whnf
      refine ⟨by omega, ?_⟩
      conv => whnf
      rw [Int.toNat_natCast, dropJ .full .full Bh j hlt]
      conv => whnf
      refine nthK_of (get_concat _ _) ?_
      conv => whnf
      rw [set_concat]
      refine nthK_of (get_concat _ _) ?_
      conv => whnf
      refine nthK_of (get_concat _ _) ?_
      conv => whnf
      refine nthK_of (get_concat _ _) ?_
      conv => whnf
      refine nthK_of (ga (ga w2)) ?_
      conv => whnf
      refine ⟨by first | rfl | simp only [List.all_cons, List.all_nil, pu0, pub, pu1, pu2, pu1', pu2', pun, puf, puP, puP', puQ, puQ', Bool.and_true, Bool.and_self], _, apart_ok Bh[j].s (seamsOf p[t] l) Wd hjb.s hsq, acc0, ?_⟩
      conv => whnf
      have hll : ((Bh.take j).map (tryF Wd (seamsOf p[t] l))).length ≤ j := by simp; omega
      refine ⟨rfl, by decide, rfl, by omega, ?_⟩
      conv => whnf
      exact ⟨Bh.length - (j + 1), by omega, j + 1, Yj ++ [.cells (jcw .full .full Bh[j])], by omega, rfl, by simp [hYj], by rw [List.take_succ_eq_append_getElem hlt, List.map_append, List.map_singleton, LJ_snoc, ← wrapS j (by omega)] <;> rfl, by rw [List.append_assoc]; rfl⟩
    · obtain rfl : j = Bh.length := by omega
      rw [List.take_length]
      conv => whnf
      refine nthK_of (ga w4) ?_
      conv => whnf
      have hbm := bestL_mem fr (Bh.map (tryF Wd (seamsOf p[t] l))) (by simpa using hB0)
      have hbo : (bestL fr (Bh.map (tryF Wd (seamsOf p[t] l)))).o.length ≤ 3 := by
        obtain ⟨b0, hb0, e0⟩ := List.mem_map.1 hbm
        rw [← e0]; show b0.o.length ≤ 3
        rw [(hB b0 hb0).o]; exact hn
      have hjo : jointF Wd p[t] Bh l = ⟨(bestL fr (Bh.map (tryF Wd (seamsOf p[t] l)))).o ++ [l], seamsOf p[t] l, 0, (bestL fr (Bh.map (tryF Wd (seamsOf p[t] l)))).d⟩ := rfl
      have htl : (Bh.map (tryF Wd (seamsOf p[t] l))).length = Bh.length := by simp
      generalize Bh.map (tryF Wd (seamsOf p[t] l)) = tr at hbm hbo hjo htl ⊢
      obtain ⟨x0, t0, rfl⟩ : ∃ x0 t0, tr = x0 :: t0 := by
        cases tr with
        | nil => simp at hbm
        | cons x0 t0 => exact ⟨x0, t0, rfl⟩
      have hbe : bestL fr (x0 :: t0) = bestJ fr t0 x0 := rfl
      rw [hbe] at hbo hjo
      refine ⟨by simp only [List.all_cons, List.all_nil, puLJ, puf, Bool.and_true, Bool.and_self], _, best_ok fr 111 (.inl ⟨rfl, rfl⟩) x0 t0 (by simp at htl; omega) farther_ok, ?_⟩
      generalize bestJ fr t0 x0 = bt at hbo hjo ⊢
      conv => whnf
      refine nthK_of (get_concat _ _) ?_
      conv => whnf
      rw [set_concat]
      refine nthK_of (ga (ga wn)) ?_
      rcases hnk with ⟨rfl, hnk⟩ | ⟨rfl, hnk⟩
      · conv => whnf
        refine nthK_of (get_concat _ _) ?_
        conv => whnf
        refine nthK_of (get_concat _ _) ?_
        conv => whnf
        refine nthK_of (get_concat _ _) ?_
        conv => whnf
        refine ⟨⟨rfl, by omega, by omega⟩, ?_⟩
        rw [takeFull]
        conv => whnf
        refine ⟨rfl, by omega, by omega, by omega, by simp, ?_⟩
        conv => whnf
        refine nthK_of (get_concat _ _) ?_
        conv => whnf
        refine ⟨rfl, by omega, by omega, by omega, rfl, ?_⟩
        conv => whnf
        refine nthK_of (ga (ga wn)) ?_
        conv => whnf
        rw [List.append_assoc, L2_sn]
        exact ⟨rfl, hfin _ _ (by simp [hYj]) (hnk bt hjo)⟩
      · conv => whnf
        refine nthK_of (get_set_ne (get_concat _ _) (by simp; omega)) ?_
        conv => whnf
        refine nthK_of (get_set_ne (get_concat _ _) (by simp; omega)) ?_
        conv => whnf
        refine nthK_of (get_set_ne (get_concat _ _) (by simp; omega)) ?_
        conv => whnf
        refine ⟨⟨rfl, by omega, by omega⟩, ?_⟩
        rw [takeFull]
        conv => whnf
        refine ⟨rfl, by omega, by omega, by omega, by simp, ?_⟩
        conv => whnf
        refine nthK_of (get_set_ne (get_concat _ _) (by simp; omega)) ?_
        conv => whnf
        refine ⟨rfl, by decide, rfl, by omega, ?_⟩
        conv => whnf
        refine nthK_of (by rw [List.getElem?_set_self (by simp; omega)]) ?_
        conv => whnf
        rw [List.set_set, List.append_assoc, L2_sn]
        exact ⟨rfl, hfin _ _ (by simp [hYj]) (hnk bt hjo)⟩
  · conv => whnf
    refine .intro (fun m T H => ∃ j Yj, j ≤ Bh.length ∧ m = Bh.length - j ∧ Yj.length = j ∧ T = slots 90 [(3, .ptr 2 0), (5, .ptr 4 0), (7, .ptr inn 0), (8, O1 l), (9, O1 (seamsOf p[t] l)), (10, LJ .shared .full ((Bh.take j).map (tryF Wd (seamsOf p[t] l))) (.uniq 4)), (42, LJ .shared .shared Bh .shared), (43, I Bh.length), (44, I j)] ∧ H = W ++ Yj) Bh.length ⟨0, [], by omega, by omega, rfl, rfl, by rw [List.append_nil]⟩ ?_
    rintro m T H ⟨j, Yj, hj, rfl, hYj, rfl, rfl⟩
    conv => whnf
    refine dcase (fun h => ?_) (fun h => ?_)
    · have hlt : j < Bh.length := by omega
      have hjb := hB _ (List.getElem_mem hlt)
      conv => whnf
      refine ⟨by omega, ?_⟩
      conv => whnf
      rw [Int.toNat_natCast, dropJ .shared .shared Bh j hlt]
      conv => whnf
      refine nthK_of (get_concat _ _) ?_
      conv => whnf
      rw [set_concat]
      refine nthK_of (get_concat _ _) ?_
      conv => whnf
      refine nthK_of (get_concat _ _) ?_
      conv => whnf
      refine nthK_of (get_concat _ _) ?_
      conv => whnf
      refine nthK_of (ga (ga w2)) ?_
      conv => whnf
      refine ⟨by first | rfl | simp only [List.all_cons, List.all_nil, pu0, pub, pu1, pu2, pu1', pu2', pun, puf, puP, puP', puQ, puQ', Bool.and_true, Bool.and_self], _, apart_ok Bh[j].s (seamsOf p[t] l) Wd hjb.s hsq, acc0, ?_⟩
      conv => whnf
      have hll : ((Bh.take j).map (tryF Wd (seamsOf p[t] l))).length ≤ j := by simp; omega
      refine ⟨rfl, by decide, rfl, by omega, ?_⟩
      conv => whnf
      exact ⟨Bh.length - (j + 1), by omega, j + 1, Yj ++ [.cells (jcw .shared .shared Bh[j])], by omega, rfl, by simp [hYj], by rw [List.take_succ_eq_append_getElem hlt, List.map_append, List.map_singleton, LJ_snoc, ← wrapS j (by omega)] <;> rfl, by rw [List.append_assoc]; rfl⟩
    · obtain rfl : j = Bh.length := by omega
      rw [List.take_length]
      conv => whnf
      refine nthK_of (ga w4) ?_
      conv => whnf
      have hbm := bestL_mem fr (Bh.map (tryF Wd (seamsOf p[t] l))) (by simpa using hB0)
      have hbo : (bestL fr (Bh.map (tryF Wd (seamsOf p[t] l)))).o.length ≤ 3 := by
        obtain ⟨b0, hb0, e0⟩ := List.mem_map.1 hbm
        rw [← e0]; show b0.o.length ≤ 3
        rw [(hB b0 hb0).o]; exact hn
      have hjo : jointF Wd p[t] Bh l = ⟨(bestL fr (Bh.map (tryF Wd (seamsOf p[t] l)))).o ++ [l], seamsOf p[t] l, 0, (bestL fr (Bh.map (tryF Wd (seamsOf p[t] l)))).d⟩ := rfl
      have htl : (Bh.map (tryF Wd (seamsOf p[t] l))).length = Bh.length := by simp
      generalize Bh.map (tryF Wd (seamsOf p[t] l)) = tr at hbm hbo hjo htl ⊢
      obtain ⟨x0, t0, rfl⟩ : ∃ x0 t0, tr = x0 :: t0 := by
        cases tr with
        | nil => simp at hbm
        | cons x0 t0 => exact ⟨x0, t0, rfl⟩
      have hbe : bestL fr (x0 :: t0) = bestJ fr t0 x0 := rfl
      rw [hbe] at hbo hjo
      refine ⟨by simp only [List.all_cons, List.all_nil, puLJ, puf, Bool.and_true, Bool.and_self], _, best_ok fr 111 (.inr (.inl ⟨rfl, rfl⟩)) x0 t0 (by simp at htl; omega) farther_ok, ?_⟩
      generalize bestJ fr t0 x0 = bt at hbo hjo ⊢
      conv => whnf
      refine nthK_of (get_concat _ _) ?_
      conv => whnf
      rw [set_concat]
      refine nthK_of (ga (ga wn)) ?_
      rcases hnk with ⟨rfl, hnk⟩ | ⟨rfl, hnk⟩
      · conv => whnf
        refine nthK_of (get_concat _ _) ?_
        conv => whnf
        refine nthK_of (get_concat _ _) ?_
        conv => whnf
        refine nthK_of (get_concat _ _) ?_
        conv => whnf
        refine ⟨⟨rfl, by omega, by omega⟩, ?_⟩
        rw [takeFull]
        conv => whnf
        refine ⟨rfl, by omega, by omega, by omega, by simp, ?_⟩
        conv => whnf
        refine nthK_of (get_concat _ _) ?_
        conv => whnf
        refine ⟨rfl, by omega, by omega, by omega, rfl, ?_⟩
        conv => whnf
        refine nthK_of (ga (ga wn)) ?_
        conv => whnf
        rw [List.append_assoc, L2_sn]
        exact ⟨rfl, hfin _ _ (by simp [hYj]) (hnk bt hjo)⟩
      · conv => whnf
        refine nthK_of (get_set_ne (get_concat _ _) (by simp; omega)) ?_
        conv => whnf
        refine nthK_of (get_set_ne (get_concat _ _) (by simp; omega)) ?_
        conv => whnf
        refine nthK_of (get_set_ne (get_concat _ _) (by simp; omega)) ?_
        conv => whnf
        refine ⟨⟨rfl, by omega, by omega⟩, ?_⟩
        rw [takeFull]
        conv => whnf
        refine ⟨rfl, by omega, by omega, by omega, by simp, ?_⟩
        conv => whnf
        refine nthK_of (get_set_ne (get_concat _ _) (by simp; omega)) ?_
        conv => whnf
        refine ⟨rfl, by decide, rfl, by omega, ?_⟩
        conv => whnf
        refine nthK_of (by rw [List.getElem?_set_self (by simp; omega)]) ?_
        conv => whnf
        rw [List.set_set, List.append_assoc, L2_sn]
        exact ⟨rfl, hfin _ _ (by simp [hYj]) (hnk bt hjo)⟩
  · conv => whnf
    refine .intro (fun m T H => ∃ j Yj, j ≤ Bh.length ∧ m = Bh.length - j ∧ Yj.length = j ∧ T = slots 90 [(3, .ptr 2 0), (5, .ptr 4 0), (7, .ptr inn 0), (8, O1 l), (9, O1 (seamsOf p[t] l)), (10, LJ .full .full ((Bh.take j).map (tryF Wd (seamsOf p[t] l))) (.uniq 4)), (42, LJ .full .full Bh .shared), (43, I Bh.length), (44, I j)] ∧ H = W ++ Yj) Bh.length ⟨0, [], by omega, by omega, rfl, rfl, by rw [List.append_nil]⟩ ?_
    rintro m T H ⟨j, Yj, hj, rfl, hYj, rfl, rfl⟩
    conv => whnf
    refine dcase (fun h => ?_) (fun h => ?_)
    · have hlt : j < Bh.length := by omega
      have hjb := hB _ (List.getElem_mem hlt)
      conv => whnf
      refine ⟨by omega, ?_⟩
      conv => whnf
      rw [Int.toNat_natCast, dropJ .full .full Bh j hlt]
      conv => whnf
      refine nthK_of (get_concat _ _) ?_
      conv => whnf
      rw [set_concat]
      refine nthK_of (get_concat _ _) ?_
      conv => whnf
      refine nthK_of (get_concat _ _) ?_
      conv => whnf
      refine nthK_of (get_concat _ _) ?_
      conv => whnf
      refine nthK_of (ga (ga w2)) ?_
      conv => whnf
      refine ⟨by first | rfl | simp only [List.all_cons, List.all_nil, pu0, pub, pu1, pu2, pu1', pu2', pun, puf, puP, puP', puQ, puQ', Bool.and_true, Bool.and_self], _, apart_ok Bh[j].s (seamsOf p[t] l) Wd hjb.s hsq, acc0, ?_⟩
      conv => whnf
      have hll : ((Bh.take j).map (tryF Wd (seamsOf p[t] l))).length ≤ j := by simp; omega
      refine ⟨rfl, by decide, rfl, by omega, ?_⟩
      conv => whnf
      exact ⟨Bh.length - (j + 1), by omega, j + 1, Yj ++ [.cells (jcw .full .full Bh[j])], by omega, rfl, by simp [hYj], by rw [List.take_succ_eq_append_getElem hlt, List.map_append, List.map_singleton, LJ_snoc, ← wrapS j (by omega)] <;> rfl, by rw [List.append_assoc]; rfl⟩
    · obtain rfl : j = Bh.length := by omega
      rw [List.take_length]
      conv => whnf
      refine nthK_of (ga w4) ?_
      conv => whnf
      have hbm := bestL_mem fr (Bh.map (tryF Wd (seamsOf p[t] l))) (by simpa using hB0)
      have hbo : (bestL fr (Bh.map (tryF Wd (seamsOf p[t] l)))).o.length ≤ 3 := by
        obtain ⟨b0, hb0, e0⟩ := List.mem_map.1 hbm
        rw [← e0]; show b0.o.length ≤ 3
        rw [(hB b0 hb0).o]; exact hn
      have hjo : jointF Wd p[t] Bh l = ⟨(bestL fr (Bh.map (tryF Wd (seamsOf p[t] l)))).o ++ [l], seamsOf p[t] l, 0, (bestL fr (Bh.map (tryF Wd (seamsOf p[t] l)))).d⟩ := rfl
      have htl : (Bh.map (tryF Wd (seamsOf p[t] l))).length = Bh.length := by simp
      generalize Bh.map (tryF Wd (seamsOf p[t] l)) = tr at hbm hbo hjo htl ⊢
      obtain ⟨x0, t0, rfl⟩ : ∃ x0 t0, tr = x0 :: t0 := by
        cases tr with
        | nil => simp at hbm
        | cons x0 t0 => exact ⟨x0, t0, rfl⟩
      have hbe : bestL fr (x0 :: t0) = bestJ fr t0 x0 := rfl
      rw [hbe] at hbo hjo
      refine ⟨by simp only [List.all_cons, List.all_nil, puLJ, puf, Bool.and_true, Bool.and_self], _, best_ok fr 111 (.inl ⟨rfl, rfl⟩) x0 t0 (by simp at htl; omega) farther_ok, ?_⟩
      generalize bestJ fr t0 x0 = bt at hbo hjo ⊢
      conv => whnf
      refine nthK_of (get_concat _ _) ?_
      conv => whnf
      rw [set_concat]
      refine nthK_of (ga (ga wn)) ?_
      rcases hnk with ⟨rfl, hnk⟩ | ⟨rfl, hnk⟩
      · conv => whnf
        refine nthK_of (get_concat _ _) ?_
        conv => whnf
        refine nthK_of (get_concat _ _) ?_
        conv => whnf
        refine nthK_of (get_concat _ _) ?_
        conv => whnf
        refine ⟨⟨rfl, by omega, by omega⟩, ?_⟩
        rw [takeFull]
        conv => whnf
        refine ⟨rfl, by omega, by omega, by omega, by simp, ?_⟩
        conv => whnf
        refine nthK_of (get_concat _ _) ?_
        conv => whnf
        refine ⟨rfl, by omega, by omega, by omega, rfl, ?_⟩
        conv => whnf
        refine nthK_of (ga (ga wn)) ?_
        conv => whnf
        rw [List.append_assoc, L2_sn]
        exact ⟨rfl, hfin _ _ (by simp [hYj]) (hnk bt hjo)⟩
      · conv => whnf
        refine nthK_of (get_set_ne (get_concat _ _) (by simp; omega)) ?_
        conv => whnf
        refine nthK_of (get_set_ne (get_concat _ _) (by simp; omega)) ?_
        conv => whnf
        refine nthK_of (get_set_ne (get_concat _ _) (by simp; omega)) ?_
        conv => whnf
        refine ⟨⟨rfl, by omega, by omega⟩, ?_⟩
        rw [takeFull]
        conv => whnf
        refine ⟨rfl, by omega, by omega, by omega, by simp, ?_⟩
        conv => whnf
        refine nthK_of (get_set_ne (get_concat _ _) (by simp; omega)) ?_
        conv => whnf
        refine ⟨rfl, by decide, rfl, by omega, ?_⟩
        conv => whnf
        refine nthK_of (by rw [List.getElem?_set_self (by simp; omega)]) ?_
        conv => whnf
        rw [List.set_set, List.append_assoc, L2_sn]
        exact ⟨rfl, hfin _ _ (by simp [hYj]) (hnk bt hjo)⟩
  · conv => whnf
    refine .intro (fun m T H => ∃ j Yj, j ≤ Bh.length ∧ m = Bh.length - j ∧ Yj.length = j ∧ T = slots 90 [(3, .ptr 2 0), (5, .ptr 4 0), (7, .ptr inn 0), (8, O1 l), (9, O1 (seamsOf p[t] l)), (10, LJ .shared .full ((Bh.take j).map (tryF Wd (seamsOf p[t] l))) (.uniq 4)), (42, LJ .shared .shared Bh .shared), (43, I Bh.length), (44, I j)] ∧ H = W ++ Yj) Bh.length ⟨0, [], by omega, by omega, rfl, rfl, by rw [List.append_nil]⟩ ?_
    rintro m T H ⟨j, Yj, hj, rfl, hYj, rfl, rfl⟩
    conv => whnf
    refine dcase (fun h => ?_) (fun h => ?_)
    · have hlt : j < Bh.length := by omega
      have hjb := hB _ (List.getElem_mem hlt)
      conv => whnf
      refine ⟨by omega, ?_⟩
      conv => whnf
      rw [Int.toNat_natCast, dropJ .shared .shared Bh j hlt]
      conv => whnf
      refine nthK_of (get_concat _ _) ?_
      conv => whnf
      rw [set_concat]
      refine nthK_of (get_concat _ _) ?_
      conv => whnf
      refine nthK_of (get_concat _ _) ?_
      conv => whnf
      refine nthK_of (get_concat _ _) ?_
      conv => whnf
      refine nthK_of (ga (ga w2)) ?_
      conv => whnf
      refine ⟨by first | rfl | simp only [List.all_cons, List.all_nil, pu0, pub, pu1, pu2, pu1', pu2', pun, puf, puP, puP', puQ, puQ', Bool.and_true, Bool.and_self], _, apart_ok Bh[j].s (seamsOf p[t] l) Wd hjb.s hsq, acc0, ?_⟩
      conv => whnf
      have hll : ((Bh.take j).map (tryF Wd (seamsOf p[t] l))).length ≤ j := by simp; omega
      refine ⟨rfl, by decide, rfl, by omega, ?_⟩
      conv => whnf
      exact ⟨Bh.length - (j + 1), by omega, j + 1, Yj ++ [.cells (jcw .shared .shared Bh[j])], by omega, rfl, by simp [hYj], by rw [List.take_succ_eq_append_getElem hlt, List.map_append, List.map_singleton, LJ_snoc, ← wrapS j (by omega)] <;> rfl, by rw [List.append_assoc]; rfl⟩
    · obtain rfl : j = Bh.length := by omega
      rw [List.take_length]
      conv => whnf
      refine nthK_of (ga w4) ?_
      conv => whnf
      have hbm := bestL_mem fr (Bh.map (tryF Wd (seamsOf p[t] l))) (by simpa using hB0)
      have hbo : (bestL fr (Bh.map (tryF Wd (seamsOf p[t] l)))).o.length ≤ 3 := by
        obtain ⟨b0, hb0, e0⟩ := List.mem_map.1 hbm
        rw [← e0]; show b0.o.length ≤ 3
        rw [(hB b0 hb0).o]; exact hn
      have hjo : jointF Wd p[t] Bh l = ⟨(bestL fr (Bh.map (tryF Wd (seamsOf p[t] l)))).o ++ [l], seamsOf p[t] l, 0, (bestL fr (Bh.map (tryF Wd (seamsOf p[t] l)))).d⟩ := rfl
      have htl : (Bh.map (tryF Wd (seamsOf p[t] l))).length = Bh.length := by simp
      generalize Bh.map (tryF Wd (seamsOf p[t] l)) = tr at hbm hbo hjo htl ⊢
      obtain ⟨x0, t0, rfl⟩ : ∃ x0 t0, tr = x0 :: t0 := by
        cases tr with
        | nil => simp at hbm
        | cons x0 t0 => exact ⟨x0, t0, rfl⟩
      have hbe : bestL fr (x0 :: t0) = bestJ fr t0 x0 := rfl
      rw [hbe] at hbo hjo
      refine ⟨by simp only [List.all_cons, List.all_nil, puLJ, puf, Bool.and_true, Bool.and_self], _, best_ok fr 111 (.inr (.inl ⟨rfl, rfl⟩)) x0 t0 (by simp at htl; omega) farther_ok, ?_⟩
      generalize bestJ fr t0 x0 = bt at hbo hjo ⊢
      conv => whnf
      refine nthK_of (get_concat _ _) ?_
      conv => whnf
      rw [set_concat]
      refine nthK_of (ga (ga wn)) ?_
      rcases hnk with ⟨rfl, hnk⟩ | ⟨rfl, hnk⟩
      · conv => whnf
        refine nthK_of (get_concat _ _) ?_
        conv => whnf
        refine nthK_of (get_concat _ _) ?_
        conv => whnf
        refine nthK_of (get_concat _ _) ?_
        conv => whnf
        refine ⟨⟨rfl, by omega, by omega⟩, ?_⟩
        rw [takeFull]
        conv => whnf
        refine ⟨rfl, by omega, by omega, by omega, by simp, ?_⟩
        conv => whnf
        refine nthK_of (get_concat _ _) ?_
        conv => whnf
        refine ⟨rfl, by omega, by omega, by omega, rfl, ?_⟩
        conv => whnf
        refine nthK_of (ga (ga wn)) ?_
        conv => whnf
        rw [List.append_assoc, L2_sn]
        exact ⟨rfl, hfin _ _ (by simp [hYj]) (hnk bt hjo)⟩
      · conv => whnf
        refine nthK_of (get_set_ne (get_concat _ _) (by simp; omega)) ?_
        conv => whnf
        refine nthK_of (get_set_ne (get_concat _ _) (by simp; omega)) ?_
        conv => whnf
        refine nthK_of (get_set_ne (get_concat _ _) (by simp; omega)) ?_
        conv => whnf
        refine ⟨⟨rfl, by omega, by omega⟩, ?_⟩
        rw [takeFull]
        conv => whnf
        refine ⟨rfl, by omega, by omega, by omega, by simp, ?_⟩
        conv => whnf
        refine nthK_of (get_set_ne (get_concat _ _) (by simp; omega)) ?_
        conv => whnf
        refine ⟨rfl, by decide, rfl, by omega, ?_⟩
        conv => whnf
        refine nthK_of (by rw [List.getElem?_set_self (by simp; omega)]) ?_
        conv => whnf
        rw [List.set_set, List.append_assoc, L2_sn]
        exact ⟨rfl, hfin _ _ (by simp [hYj]) (hnk bt hjo)⟩
end
end Go.Proofs.Ytlcebaejlnpdeaa.Ab

/-
  Contracts: the greatest distance, all layers; Far, Apart.
-/
namespace Go.Proofs.Ytlcebaejlnpdeaa.Ab
open Go
set_option maxRecDepth 20000
set_option maxHeartbeats 4000000

theorem nextF_b {W : Int} {n : Nat} {a : List Int} {b : List Jt} (hW : 0 ≤ W) (hs : Sm a) (h5 : a.length ≤ 5) (hb : ∀ x ∈ b, Jf W n x) (h0 : 0 < b.length) : ∀ x ∈ nextF W a b, Jf W (n + 1) x := by
  intro x hx
  obtain ⟨o, ho, rfl⟩ := List.mem_map.1 hx
  have hI := perm_inL hs ho h5
  have hp := seamsOf_pos hI
  have hm := bestL_mem fr (b.map (tryF W (seamsOf a o))) (by simpa using h0)
  obtain ⟨j, hj, e⟩ := List.mem_map.1 hm
  have hjb := hb j hj
  have hbt := betw_bound j.s (seamsOf a o) W (fun x hx => (hjb.s.v x hx).1) (fun x hx => (hp.v x hx).1) hW
  have e1 : (jointF W a b o).o = j.o ++ [o] := by show (bestL fr _).o ++ [o] = _; rw [← e]; rfl
  have e2 : (jointF W a b o).d = min j.d (betw j.s (seamsOf a o) W) := by show (bestL fr _).d = _; rw [← e]; rfl
  refine ⟨by rw [e1]; simp [hjb.o], hp, ?_, ?_⟩
  · rw [e2]; have := hjb.d0; omega
  · rw [e2]; have := hjb.d1; omega
theorem beforeF_b {W : Int} (hW : 0 ≤ W) : ∀ (n : Nat) (p : List (List Int)), p.length = n → (∀ l ∈ p, Sm l ∧ 1 ≤ l.length ∧ l.length ≤ 5) → 0 < (beforeF W p).length ∧ (beforeF W p).length ≤ 3125 ∧ ∀ x ∈ beforeF W p, Jf W n x
  | 0, p, hp, _ => by
    obtain rfl := List.length_eq_zero_iff.1 hp
    refine ⟨by simp [beforeF], by simp [beforeF], fun x hx => ?_⟩
    simp [beforeF] at hx; subst hx
    exact ⟨rfl, ⟨by simp, by simp⟩, hW, Int.le_refl _⟩
  | n + 1, p, hp, h => by
    have hne : p ≠ [] := fun e => by rw [e] at hp; simp at hp
    obtain ⟨q, a, rfl⟩ : ∃ q a, p = q ++ [a] := ⟨p.dropLast, p.getLast hne, (List.dropLast_concat_getLast hne).symm⟩
    obtain ⟨i1, i2, i3⟩ := beforeF_b hW n q (by simpa using hp) fun l hl => h l (by simp [hl])
    obtain ⟨a1, a2, a3⟩ := h a (by simp)
    rw [beforeF_snoc]
    exact ⟨by rw [nextF_len]; exact perms_pos a2 a3, by rw [nextF_len]; exact perms_len a3, nextF_b hW a1 a3 i3 i1⟩
theorem take_snoc (p : List (List Int)) (t : Nat) (h : t < p.length) : p.take (t + 1) = p.take t ++ [p[t]] := List.take_succ_eq_append_getElem h
theorem at5 (a b c d e f : AObj) (Y Z : List AObj) : (a :: b :: c :: d :: e :: (Y ++ f :: Z))[5 + Y.length]? = some f := by
  rw [show 5 + Y.length = Y.length + 1 + 1 + 1 + 1 + 1 by omega]
  simp
def zJ : AObj := .cells [nilF, nilF, I 0, I 0]
theorem pfar_ok (p : List (List Int)) (hv : Val p) : PO 91 [Bn p] (.agg (jc (farB p))) := by
  have h2 := hv.n2
  have h4 := hv.n4
  have h0 : 0 < p.length := by omega
  have hs0 := hv.sm (List.getElem_mem h0)
  have hsW := hs0.sum
  have hall : ∀ l ∈ p, Sm l ∧ 1 ≤ l.length ∧ l.length ≤ 5 := fun l hl => ⟨hv.sm hl, hv.s1 l hl, hv.s5 l hl⟩
  unfold farB
  rw [headD0 _ h0]
  refine fn_pure hmix lk91 rfl (pureJ _ _ _) ?_
  unfold rc91
  conv => whnf
  refine ⟨by omega, ?_⟩
  conv => whnf
  refine nthM _ _ _ (h0) ?_
  conv => whnf
  refine ⟨by first | rfl | simp only [List.all_cons, List.all_nil, pu0, pub, pu1, pu2, pu1', pu2', pun, puf, puP, puP', puQ, puQ', Bool.and_true, Bool.and_self], _, sum_ok p[0] hs0, ?_⟩
  conv => whnf
  generalize sumI p[0] = Wd at hsW ⊢
  refine .intro (fun m T H => ∃ t Y c c1, t ≤ p.length ∧ m = p.length - t ∧ (c = .own 4 ∨ c = .shared) ∧ (c1 = .full ∨ c1 = .shared) ∧ T = slots 90 [(1, .ptr 0 0), (2, .ptr 1 0), (3, .ptr 2 0), (4, .ptr 3 0), (5, .ptr 4 0), (30, I p.length), (31, I t)] ∧
    H = .cells [Bn p] :: zJ :: .cells [I Wd] :: .cells [LJ c1 c1 (beforeF Wd (p.take t)) c] :: .cells [.func 111 [] []] :: Y) p.length ⟨0, [], .own 4, .full, by omega, by omega, .inl rfl, .inl rfl, rfl, rfl⟩ ?_
  rintro m T H ⟨t, Y, c, c1, ht, rfl, hc, hc1, rfl, rfl⟩
  conv => whnf
  refine dcase (fun h => ?_) (fun h => ?_)
  · have ht' : t < p.length := by omega
    have hj : beforeF Wd (p.take (t + 1)) = nextF Wd p[t] (beforeF Wd (p.take t)) := by rw [take_snoc p t ht', beforeF_snoc]
    obtain ⟨q1, q2, q3⟩ := beforeF_b hsW.1 t (p.take t) (by simp; omega) fun l hl => hall l (List.mem_of_mem_take hl)
    generalize beforeF Wd (p.take t) = Bh at q1 q2 q3 hj ⊢
    conv => whnf
    refine nthK_of (get_concat _ _) ?_
    conv => whnf
    refine nthK_of (ga (Z := [_]) (setc_get _ _ _)) ?_
    conv => whnf
    refine ⟨by first | rfl | simp only [List.all_cons, List.all_nil, pu0, pub, pu1, pu2, pu1', pu2', pun, puf, puP, puP', puQ, puQ', Bool.and_true, Bool.and_self], _, all_ok86 p t, ?_⟩
    conv => whnf
    rw [set_concat]
    have hnB : (p.take t).length ≤ 3 := by simp; omega
    have h5 := hv.s5 _ (List.getElem_mem ht')
    have h1 := hv.s1 _ (List.getElem_mem ht')
    have hN := perms_pos h1 h5
    generalize hX : (AObj.cells [Bn p] :: zJ :: AObj.cells [I Wd] :: AObj.cells [LJ c1 c1 Bh c] :: AObj.cells [AV.func 111 [] []] :: Y ++ [AObj.cells [AV.int .i64 t]] ++ [AObj.cells [AV.lst [] 0 Cap.full]]) = X0
    generalize hin : (AObj.cells [Bn p] :: zJ :: AObj.cells [I Wd] :: AObj.cells [LJ c1 c1 Bh c] :: AObj.cells [AV.func 111 [] []] :: Y ++ [AObj.cells [AV.int .i64 t]]).length = inn
    generalize hii : (AObj.cells [Bn p] :: zJ :: AObj.cells [I Wd] :: AObj.cells [LJ c1 c1 Bh c] :: AObj.cells [AV.func 111 [] []] :: Y).length = ii
    have hinn : inn = 6 + Y.length := by rw [← hin]; simp; omega
    have hii' : ii = 5 + Y.length := by rw [← hii]; simp; omega
    have hXl : X0.length = 7 + Y.length := by rw [← hX]; simp; omega
    have hX' : X0 = .cells [Bn p] :: zJ :: .cells [I Wd] :: .cells [LJ c1 c1 Bh c] :: .cells [.func 111 [] []] :: (Y ++ .cells [I t] :: [.cells [nilF]]) := by rw [← hX]; simp
    have g0 : X0[0]? = some (.cells [Bn p]) := by rw [hX']; rfl
    have g2 : X0[2]? = some (.cells [I Wd]) := by rw [hX']; rfl
    have g3 : X0[3]? = some (.cells [LJ c1 c1 Bh c]) := by rw [hX']; rfl
    have g4 : X0[4]? = some (.cells [.func 111 [] []]) := by rw [hX']; rfl
    have gi : X0[ii]? = some (.cells [I t]) := by rw [hX', hii']; exact at5 _ _ _ _ _ _ _ _
    have hA0 : ∀ cx : AObj, X0.set inn cx = .cells [Bn p] :: zJ :: .cells [I Wd] :: .cells [LJ c1 c1 Bh c] :: .cells [.func 111 [] []] :: (Y ++ [.cells [I t], cx]) := fun cx => by
      rw [← hX, ← hin, sset']; simp
    have hsem := all1_sem p t ht' h1 h5 (by omega) (fun r => X0.set inn (.cells [nextk (nextF Wd p[t] Bh) r])) (fun _ => Bh.length + 1) X0.length 0
      (lp91 (slots 90 [(1, .ptr 0 0), (2, .ptr 1 0), (3, .ptr 2 0), (4, .ptr 3 0), (5, .ptr 4 0), (6, .ptr ii 0), (7, .ptr inn 0), (30, I p.length), (31, I t), (32, .bool (decide ((t : Int) < p.length))), (34, Bn p), (35, I t), (36, .func 107 [] [.lptr [Bn p], .lptr [I t]])]) .ready) (fun r => by simp) (Nat.zero_le _) (fun _ _ _ h => by omega)
      (fun r hr Y' => round91 p t ht' hv Wd Bh _ q3 (by omega) q1 q2 c c1 hc hc1 X0 ii inn _ g0 g2 g3 g4 gi (by omega) (by omega) (by omega) (by omega) (by omega) (by omega) r hr Y' _ _ _ _ _ _ rfl)
    have hX00 : X0.set inn (.cells [nextk (nextF Wd p[t] Bh) 0]) = X0 := by rw [hA0, hX']; simp [nextk]
    rw [hX00] at hsem
    have hlN : nextk (nextF Wd p[t] Bh) (perms p[t].length).length = LJ .shared .shared (nextF Wd p[t] Bh) (.own 4) := by
      rw [nextk, if_neg (by omega), List.take_of_length_le (by rw [nextF_len] <;> omega)]
    rw [hlN] at hsem
    generalize List.replicate (1 + sumM (fun _ => Bh.length + 1) (perms p[t].length).length) AObj.dead = D at hsem
    refine ⟨rfl, .tuple [], _, .ready, none, 91, slots 90 [(1, .ptr 0 0), (2, .ptr 1 0), (3, .ptr 2 0), (4, .ptr 3 0), (5, .ptr 4 0), (6, .ptr ii 0), (7, .ptr inn 0), (30, I p.length), (31, I t), (32, .bool (decide ((t : Int) < p.length))), (34, Bn p), (35, I t), (36, .func 107 [] [.lptr [Bn p], .lptr [I t]])], [37], rngA Go.Proofs.Try.prog 91 0, rngB Go.Proofs.Try.prog 91 0, ann91, hsem, ?_, by simp, ?_⟩
    · rw [List.getElem?_append_right (by simp), List.length_set, Nat.sub_self]; rfl
    have hZ : ∀ e : AObj, (X0.set inn (.cells [LJ .shared .shared (nextF Wd p[t] Bh) (.own 4)]) ++ e :: D).set X0.length .dead = .cells [Bn p] :: zJ :: .cells [I Wd] :: .cells [LJ c1 c1 Bh c] :: .cells [.func 111 [] []] :: (Y ++ .cells [I t] :: .cells [LJ .shared .shared (nextF Wd p[t] Bh) (.own 4)] :: .dead :: D) := fun e => by
      have := sset (X0.set inn (.cells [LJ .shared .shared (nextF Wd p[t] Bh) (.own 4)])) D e .dead
      rw [List.length_set] at this
      rw [this, hA0]; simp
    rw [hZ]
    obtain ⟨Y2, hY2⟩ : ∃ Y2, Y2 = Y ++ .cells [I t] :: .cells [LJ .shared .shared (nextF Wd p[t] Bh) (.own 4)] :: .dead :: D := ⟨_, rfl⟩
    have zn : (AObj.cells [Bn p] :: zJ :: .cells [I Wd] :: .cells [LJ c1 c1 Bh c] :: .cells [.func 111 [] []] :: Y2)[inn]? = some (.cells [LJ .shared .shared (nextF Wd p[t] Bh) (.own 4)]) := by
      rw [hY2, hinn, show 6 + Y.length = (Y.length + 1) + 1 + 1 + 1 + 1 + 1 by omega]
      simp
    rw [← hY2]
    conv => whnf
    refine nthK_of zn ?_
    conv => whnf
    refine ⟨p.length - (t + 1), by omega, t + 1, Y2, .shared, .shared, by omega, rfl, .inr rfl, .inr rfl, by rw [← wrapS t (by omega)] <;> rfl, ?_⟩
    rw [hj]; rfl
  · obtain rfl : t = p.length := by omega
    rw [List.take_length]
    obtain ⟨q1, q2, q3⟩ := beforeF_b hsW.1 p.length p rfl hall
    generalize beforeF Wd p = jl at q1 q2 ⊢
    obtain ⟨x0, t0, rfl⟩ : ∃ x0 t0, jl = x0 :: t0 := by
      cases jl with
      | nil => simp at q1
      | cons x0 t0 => exact ⟨x0, t0, rfl⟩
    rcases hc with rfl | rfl
    all_goals
      rcases hc1 with rfl | rfl
    · conv => whnf
      refine ⟨by simp only [List.all_cons, List.all_nil, puLJ, puf, Bool.and_true, Bool.and_self], _, best_ok fr 111 (.inl ⟨rfl, rfl⟩) x0 t0 (by simp at q2; omega) farther_ok, ?_⟩
      conv => whnf
      exact ret_pure (.inr rfl) (pureJ _ _ _) rfl
    · conv => whnf
      refine ⟨by simp only [List.all_cons, List.all_nil, puLJ, puf, Bool.and_true, Bool.and_self], _, best_ok fr 111 (.inr (.inr ⟨rfl, rfl⟩)) x0 t0 (by simp at q2; omega) farther_ok, ?_⟩
      conv => whnf
      exact ret_pure (.inr rfl) (pureJ _ _ _) rfl
    · conv => whnf
      refine ⟨by simp only [List.all_cons, List.all_nil, puLJ, puf, Bool.and_true, Bool.and_self], _, best_ok fr 111 (.inl ⟨rfl, rfl⟩) x0 t0 (by simp at q2; omega) farther_ok, ?_⟩
      conv => whnf
      exact ret_pure (.inr rfl) (pureJ _ _ _) rfl
    · conv => whnf
      refine ⟨by simp only [List.all_cons, List.all_nil, puLJ, puf, Bool.and_true, Bool.and_self], _, best_ok fr 111 (.inr (.inr ⟨rfl, rfl⟩)) x0 t0 (by simp at q2; omega) farther_ok, ?_⟩
      conv => whnf
      exact ret_pure (.inr rfl) (pureJ _ _ _) rfl
end Go.Proofs.Ytlcebaejlnpdeaa.Ab

/-
  Contracts: Far, Apart, and the definitions' Far.
-/
namespace Go.Proofs.Ytlcebaejlnpdeaa.Ab
open Go
set_option maxRecDepth 20000
set_option maxHeartbeats 4000000

theorem puTL (l : List (List Int)) (n : Nat) (e : Int) : pureD 8 (.tuple [.lst (l.map L1) n .shared, I e]) = true := by
  show [AV.lst (l.map L1) n .shared, I e].all (pureD 7) = true
  rw [List.all_cons, List.all_cons, List.all_nil, show pureD 7 (.lst (l.map L1) n .shared) = true from pure_lists 4 l]; rfl
def farE (p : List (List Int)) : Int := if checkP p = 0 then (farB p).d else 0
theorem pFar_ok (p : List (List Int)) (h1 : p.length ≤ 140737488355328) (h2 : ∀ l ∈ p, l.length ≤ 140737488355328) : PO 44 [P1 p] (.tuple [I (farE p), I (checkP p)]) := by
  by_cases hc : checkP p = 0
  · have hv := checkP_val hc
    rw [show farE p = (farB p).d from if_pos hc, hc]
    refine fn_pure hmix lk44 rfl rfl ?_
    unfold rc44
    conv => whnf
    refine ⟨by first | rfl | simp only [List.all_cons, List.all_nil, pu0, pub, pu1, pu2, pu1', pu2', pun, puf, puP, puP', puQ, puQ', Bool.and_true, Bool.and_self], _, open_good [] h1 h2 (by simp) hc rfl, ?_⟩
    conv => whnf
    refine ⟨by simp only [List.all_cons, List.all_nil, puQ, puBn, Bool.and_true], _, pfar_ok p hv, ?_⟩
    conv => whnf
    exact ret_pure (.inr rfl) rfl rfl
  · rw [show farE p = 0 from if_neg hc]
    refine fn_pure hmix lk44 rfl rfl ?_
    unfold rc44
    conv => whnf
    refine ⟨by first | rfl | simp only [List.all_cons, List.all_nil, pu0, pub, pu1, pu2, pu1', pu2', pun, puf, puP, puP', puQ, puQ', Bool.and_true, Bool.and_self], _, open_bad [] h1 h2 (by simp) hc, ?_⟩
    conv => whnf
    refine dcase (fun h => ?_) (fun h => absurd hc h)
    conv => whnf
    exact ret_pure (.inr rfl) rfl rfl
def apErr (p : List (List Int)) (x : Int) : Int := if checkP p ≠ 0 then checkP p else if x < 0 then 3 else if (farB p).d < x then 21 else 0
def apO (p : List (List Int)) (x : Int) : List (List Int) := if apErr p x = 0 then (farB p).o else []
theorem pApart_ok (p : List (List Int)) (x : Int) (h1 : p.length ≤ 140737488355328) (h2 : ∀ l ∈ p, l.length ≤ 140737488355328) : PO 46 [P1 p, I x] (.tuple [L2 (apO p x), I (apErr p x)]) := by
  by_cases hc : checkP p = 0
  · have hv := checkP_val hc
    refine fn_pure hmix lk46 rfl (puT _ _) ?_
    unfold rc46
    conv => whnf
    refine ⟨by first | rfl | simp only [List.all_cons, List.all_nil, pu0, pub, pu1, pu2, pu1', pu2', pun, puf, puP, puP', puQ, puQ', Bool.and_true, Bool.and_self], _, open_good [] h1 h2 (by simp) hc rfl, ?_⟩
    conv => whnf
    refine dcase (fun h => ?_) (fun h => ?_)
    · have e : apErr p x = 3 := by rw [apErr, if_neg (by simp [hc]), if_pos h]
      rw [apO, e]
      conv => whnf
      exact ret_pure (.inr rfl) (puT _ _) rfl
    · conv => whnf
      refine ⟨by simp only [List.all_cons, List.all_nil, puQ, puBn, Bool.and_true], _, pfar_ok p hv, ?_⟩
      conv => whnf
      refine dcase (fun h3 => ?_) (fun h3 => ?_)
      · have e : apErr p x = 21 := by rw [apErr, if_neg (by simp [hc]), if_neg h, if_pos h3]
        rw [apO, e]
        conv => whnf
        exact ret_pure (.inr rfl) (puT _ _) rfl
      · have e : apErr p x = 0 := by rw [apErr, if_neg (by simp [hc]), if_neg h, if_neg h3]
        rw [apO, e]
        conv => whnf
        exact ret_pure (.inr rfl) (puT _ _) rfl
  · have e : apErr p x = checkP p := if_pos hc
    rw [apO, e, if_neg hc]
    refine fn_pure hmix lk46 rfl (puT _ _) ?_
    unfold rc46
    conv => whnf
    refine ⟨by first | rfl | simp only [List.all_cons, List.all_nil, pu0, pub, pu1, pu2, pu1', pu2', pun, puf, puP, puP', puQ, puQ', Bool.and_true, Bool.and_self], _, open_bad [] h1 h2 (by simp) hc, ?_⟩
    conv => whnf
    refine dcase (fun h => ?_) (fun h => absurd hc h)
    conv => whnf
    exact ret_pure (.inr rfl) (puT _ _) rfl

/-! ### FarOf -/
theorem maxK_bound (s : List Int) (hs : ∀ x ∈ s, 0 ≤ x) {W : Int} : ∀ (l : List (List Int × Int)) (m : Int), 0 ≤ m → m ≤ W → (∀ x ∈ l, (∀ y ∈ x.1, 0 ≤ y) ∧ 0 ≤ x.2 ∧ x.2 ≤ W) →
    0 ≤ l.foldl (fun m x => if m < x.2 then max m (betw x.1 s x.2) else m) m ∧ l.foldl (fun m x => if m < x.2 then max m (betw x.1 s x.2) else m) m ≤ W
  | [], m, h0, h1, _ => ⟨h0, h1⟩
  | x :: l, m, h0, h1, h => by
    obtain ⟨k1, k2, k3⟩ := h x (by simp)
    have hb := betw_bound x.1 s x.2 k1 hs k2
    have : 0 ≤ (if m < x.2 then max m (betw x.1 s x.2) else m) ∧ (if m < x.2 then max m (betw x.1 s x.2) else m) ≤ W := by split <;> omega
    exact maxK_bound s hs l _ this.1 this.2 fun y hy => h y (by simp [hy])
theorem seamA_pos {a : List Int} (hs : Sm a) (h5 : a.length ≤ 5) : ∀ s ∈ seamA a, Pos s := fun s h => by
  obtain ⟨o, ho, rfl⟩ := List.mem_map.1 h
  exact seamsOf_pos (perm_inL hs ho h5)
theorem farNext_b {W : Int} {own : List (List Int)} {far a : List Int} (hW : 0 ≤ W) (hown : ∀ s ∈ own, Pos s) (hf : ∀ x ∈ far, 0 ≤ x ∧ x ≤ W) (hs : Sm a) (h5 : a.length ≤ 5) : ∀ x ∈ farNext own far a, 0 ≤ x ∧ x ≤ W := by
  intro x hx
  obtain ⟨s, hsm, rfl⟩ := List.mem_map.1 hx
  exact maxK_bound s (fun y hy => ((seamA_pos hs h5 s hsm).v y hy).1) _ 0 (Int.le_refl _) hW fun y hy => ⟨fun z hz => ((hown _ (List.of_mem_zip hy).1).v z hz).1, hf _ (List.of_mem_zip hy).2⟩
theorem farGo_drop (p : List (List Int)) (i : Nat) (h : i < p.length) (own : List (List Int)) (far : List Int) : farGo (p.drop i) own far = farGo (p.drop (i + 1)) (seamA p[i]) (farNext own far p[i]) := by
  rw [List.drop_eq_getElem_cons h, farGo]
theorem rfarOf_ok (p : List (List Int)) (hv : Val p) : PO 92 [P1 p] (I (farOf p)) := by
  have h2 := hv.n2
  have h4 := hv.n4
  have h0 : 0 < p.length := by omega
  have hs0 := hv.sm (List.getElem_mem h0)
  have hsW := hs0.sum
  have a5 := hv.s5 _ (List.getElem_mem h0)
  have e0 : farOf p = (farGo (p.drop 1) (seamA p[0]) ((perms p[0].length).map fun _ => sumI p[0])).foldl max 0 := by
    cases p with
    | nil => simp at h0
    | cons a r => rfl
  rw [e0]
  refine fn_pure hmix lk92 rfl rfl ?_
  unfold rc92
  conv => whnf
  refine ⟨by omega, ?_⟩
  conv => whnf
  refine nthM _ _ _ (h0) ?_
  conv => whnf
  refine ⟨by first | rfl | simp only [List.all_cons, List.all_nil, pu0, pub, pu1, pu2, pu1', pu2', pun, puf, puP, puP', puQ, puQ', Bool.and_true, Bool.and_self], _, allSeams_ok p[0] hs0 a5, ?_⟩
  conv => whnf
  have hnl : (seamA p[0]).length = (perms p[0].length).length := by simp [seamA]
  have hpl := perms_len a5
  have hpos := seamA_pos hs0 a5
  rw [show ((perms p[0].length).map fun _ => sumI p[0]) = (List.replicate (seamA p[0]).length (sumI p[0])) by rw [hnl]; simp [List.map_const']]
  generalize seamA p[0] = own at hnl hpos ⊢
  refine .intro (CI (fun k => slots 98 [(1, .ptr 0 0), (3, O2 own), (4, U1 (List.replicate k (sumI p[0]))), (5, I k)]) own.length [.cells [L2 p]]) own.length (ci0 rfl) ?_
  rintro m T H ⟨k, hk, rfl, rfl, rfl⟩
  conv => whnf
  refine dcase (fun h => ?_) (fun h => ?_)
  · have hkt : k < own.length := by omega
    conv => whnf
    refine ⟨by omega, ?_⟩
    conv => whnf
    refine nthM _ _ _ (h0) ?_
    conv => whnf
    refine ⟨by first | rfl | simp only [List.all_cons, List.all_nil, pu0, pub, pu1, pu2, pu1', pu2', pun, puf, puP, puP', puQ, puQ', Bool.and_true, Bool.and_self], _, rsum_ok p[0] hs0, ?_⟩
    conv => whnf
    have hrl : (List.replicate k (sumI p[0])).length = k := by simp
    refine ⟨rfl, by decide, rfl, by omega, ?_⟩
    conv => whnf
    exact ciN hkt (by rw [List.replicate_succ', ← U1_snoc, ← wrapS k (by omega)] <;> rfl)
  · obtain rfl : k = own.length := by omega
    have hfb : ∀ x ∈ List.replicate own.length (sumI p[0]), 0 ≤ x ∧ x ≤ sumI p[0] := fun x hx => by
      rw [List.eq_of_mem_replicate hx]; omega
    have hfl : (List.replicate own.length (sumI p[0])).length = own.length := by simp
    have hwb := hsW.2
    generalize hF : List.replicate own.length (sumI p[0]) = far at hfb hfl ⊢
    generalize sumI p[0] = W at hsW hfb
    conv => whnf
    refine .intro (fun m T H => ∃ i own' far' co cf, 1 ≤ i ∧ i ≤ p.length ∧ m = p.length - i ∧ own'.length ≤ 3125 ∧ far'.length = own'.length ∧ (∀ s ∈ own', Pos s) ∧ (∀ x ∈ far', 0 ≤ x ∧ x ≤ W) ∧ farGo (p.drop i) own' far' = farGo (p.drop 1) own far ∧
      (co = .own 1) ∧ (cf = .uniq 1 ∨ cf = .own 1) ∧
      T = slots 98 [(1, .ptr 0 0), (3, .lst (own'.map L1) own'.length co), (4, .lst (far'.map I) far'.length cf), (6, I i)] ∧ H = [.cells [L2 p]]) (p.length - 1) ⟨1, own, far, .own 1, .uniq 1, by omega, by omega, rfl, by omega, hfl, hpos, hfb, rfl, rfl, .inl rfl, rfl, rfl⟩ ?_
    clear hF hfb hfl
    rintro m T H ⟨i, own', far', co, cf, hi1, hi, rfl, ho1, hfl, hpo, hfb, hgo, rfl, hcf, rfl, rfl⟩
    conv => whnf
    refine dcase (fun h => ?_) (fun h => ?_)
    · have hlt : i < p.length := by omega
      have b5 := hv.s5 _ (List.getElem_mem hlt)
      have bs := hv.sm (List.getElem_mem hlt)
      rw [farGo_drop p i hlt] at hgo
      conv => whnf
      refine ⟨by omega, ?_⟩
      conv => whnf
      refine nthM _ _ _ (hlt) ?_
      conv => whnf
      refine ⟨by first | rfl | simp only [List.all_cons, List.all_nil, pu0, pub, pu1, pu2, pu1', pu2', pun, puf, puP, puP', puQ, puQ', Bool.and_true, Bool.and_self], _, allSeams_ok p[i] bs b5, ?_⟩
      conv => whnf
      have hfn : farNext own' far' p[i] = (seamA p[i]).map (maxK (List.zip own' far')) := rfl
      have hfnb := farNext_b hsW.1 hpo hfb bs b5
      have hnl2 : (seamA p[i]).length = (perms p[i].length).length := by simp [seamA]
      have hpl2 := perms_len b5
      have hpos2 := seamA_pos bs b5
      generalize farNext own' far' p[i] = fn at hfn hfnb hgo
      generalize seamA p[i] = nx at hfn hnl2 hpos2 hgo ⊢
      refine .intro (fun m T H => ∃ j cf, j ≤ nx.length ∧ m = nx.length - j ∧ (cf = .uniq 1 ∨ cf = .own 1) ∧ T = slots 98 [(1, .ptr 0 0), (3, O2 own'), (4, .lst (far'.map I) far'.length cf), (6, I i), (7, O2 nx), (8, U1 (fn.take j)), (9, I j)] ∧ H = [.cells [L2 p]]) nx.length ⟨0, cf, by omega, by omega, hcf, rfl, rfl⟩ ?_
      clear hcf
      rintro m T H ⟨j, cf, hj, rfl, hcf, rfl, rfl⟩
      conv => whnf
      refine dcase (fun h => ?_) (fun h => ?_)
      · have hjn : j < nx.length := by omega
        conv => whnf
        refine .intro (fun m T H => ∃ k cf, k ≤ own'.length ∧ m = own'.length - k ∧ (cf = .uniq 1 ∨ cf = .own 1) ∧ T = slots 98 [(1, .ptr 0 0), (3, O2 own'), (4, .lst (far'.map I) far'.length cf), (6, I i), (7, O2 nx), (8, U1 (fn.take j)), (9, I j), (10, I (((List.zip own' far').take k).foldl (fun m x => if m < x.2 then max m (betw x.1 nx[j] x.2) else m) 0)), (11, I k)] ∧ H = [.cells [L2 p]]) own'.length ⟨0, cf, by omega, by omega, hcf, rfl, rfl⟩ ?_
        clear hcf
        rintro m T H ⟨k, cf, hk, rfl, hcf, rfl, rfl⟩
        conv => whnf
        refine dcase (fun h => ?_) (fun h => ?_)
        · have hko : k < own'.length := by omega
          have hkf : k < far'.length := by omega
          have hkz : k < (List.zip own' far').length := by simp; omega
          have hst : ((List.zip own' far').take (k + 1)).foldl (fun m x => if m < x.2 then max m (betw x.1 nx[j] x.2) else m) 0 = (if ((List.zip own' far').take k).foldl (fun m x => if m < x.2 then max m (betw x.1 nx[j] x.2) else m) 0 < far'[k] then max (((List.zip own' far').take k).foldl (fun m x => if m < x.2 then max m (betw x.1 nx[j] x.2) else m) 0) (betw own'[k] nx[j] far'[k]) else ((List.zip own' far').take k).foldl (fun m x => if m < x.2 then max m (betw x.1 nx[j] x.2) else m) 0) := by
            rw [foldl_take _ _ _ k hkz, List.getElem_zip]
          generalize ((List.zip own' far').take k).foldl (fun m x => if m < x.2 then max m (betw x.1 nx[j] x.2) else m) 0 = bst at hst ⊢
          rcases hcf with rfl | rfl
          · conv => whnf
            refine ⟨by omega, ?_⟩
            conv => whnf
            refine nthM _ _ _ (hkf) ?_
            conv => whnf
            refine dcase (fun h7 => ?_) (fun h7 => ?_)
            · conv => whnf
              refine ⟨by omega, ?_⟩
              conv => whnf
              refine nthM _ _ _ (hko) ?_
              conv => whnf
              refine ⟨by omega, ?_⟩
              conv => whnf
              refine nthM _ _ _ (hjn) ?_
              conv => whnf
              refine ⟨by omega, ?_⟩
              conv => whnf
              refine nthM _ _ _ (hkf) ?_
              conv => whnf
              refine ⟨by first | rfl | simp only [List.all_cons, List.all_nil, pu0, pub, pu1, pu2, pu1', pu2', pun, puf, puP, puP', puQ, puQ', Bool.and_true, Bool.and_self], _, between_ok own'[k] nx[j] far'[k] (hpo _ (List.getElem_mem hko)) (hpos2 _ (List.getElem_mem hjn)), acc0, ?_⟩
              conv => whnf
              exact ⟨own'.length - (k + 1), by omega, k + 1, .own 1, by omega, rfl, .inr rfl, by rw [hst, if_pos h7, ← wrapS k (by omega)] <;> rfl, rfl⟩
            · conv => whnf
              exact ⟨own'.length - (k + 1), by omega, k + 1, .own 1, by omega, rfl, .inr rfl, by rw [hst, if_neg h7, ← wrapS k (by omega)] <;> rfl, rfl⟩
          · conv => whnf
            refine ⟨by omega, ?_⟩
            conv => whnf
            refine nthM _ _ _ (hkf) ?_
            conv => whnf
            refine dcase (fun h7 => ?_) (fun h7 => ?_)
            · conv => whnf
              refine ⟨by omega, ?_⟩
              conv => whnf
              refine nthM _ _ _ (hko) ?_
              conv => whnf
              refine ⟨by omega, ?_⟩
              conv => whnf
              refine nthM _ _ _ (hjn) ?_
              conv => whnf
              refine ⟨by omega, ?_⟩
              conv => whnf
              refine nthM _ _ _ (hkf) ?_
              conv => whnf
              refine ⟨by first | rfl | simp only [List.all_cons, List.all_nil, pu0, pub, pu1, pu2, pu1', pu2', pun, puf, puP, puP', puQ, puQ', Bool.and_true, Bool.and_self], _, between_ok own'[k] nx[j] far'[k] (hpo _ (List.getElem_mem hko)) (hpos2 _ (List.getElem_mem hjn)), acc0, ?_⟩
              conv => whnf
              exact ⟨own'.length - (k + 1), by omega, k + 1, .own 1, by omega, rfl, .inr rfl, by rw [hst, if_pos h7, ← wrapS k (by omega)] <;> rfl, rfl⟩
            · conv => whnf
              exact ⟨own'.length - (k + 1), by omega, k + 1, .own 1, by omega, rfl, .inr rfl, by rw [hst, if_neg h7, ← wrapS k (by omega)] <;> rfl, rfl⟩
        · obtain rfl : k = own'.length := by omega
          have hjf : j < fn.length := by rw [hfn]; simpa using hjn
          have hfj : fn[j] = (((List.zip own' far').take own'.length).foldl (fun m x => if m < x.2 then max m (betw x.1 nx[j] x.2) else m) 0) := by
            rw [List.take_of_length_le (by simp; omega)]
            simp only [hfn, List.getElem_map]; rfl
          rw [← hfj]
          have hjl : (fn.take j).length ≤ j := List.length_take_le _ _
          conv => whnf
          refine ⟨rfl, by decide, rfl, by omega, ?_⟩
          conv => whnf
          exact ⟨nx.length - (j + 1), by omega, j + 1, cf, by omega, rfl, hcf, by rw [List.take_succ_eq_append_getElem hjf, ← U1_snoc, ← wrapS j (by omega)] <;> rfl, rfl⟩
      · obtain rfl : j = nx.length := by omega
        have hfl2 : fn.length = nx.length := by rw [hfn]; simp
        rw [← hfl2, List.take_length]
        conv => whnf
        exact ⟨p.length - (i + 1), by omega, i + 1, nx, fn, .own 1, .uniq 1, by omega, by omega, rfl, by omega, hfl2, hpos2, hfnb, hgo, rfl, .inl rfl, by rw [← wrapS i (by omega)] <;> rfl, rfl⟩
    · obtain rfl : i = p.length := by omega
      rw [List.drop_length, farGo] at hgo
      rw [← hgo]
      rcases hcf with rfl | rfl
      · conv => whnf
        refine .intro (fun m T H => ∃ k cf, k ≤ far'.length ∧ m = far'.length - k ∧ (cf = .uniq 1 ∨ cf = .own 1) ∧ T = slots 98 [(4, .lst (far'.map I) far'.length cf), (12, I ((far'.take k).foldl max 0)), (13, I k)] ∧ H = [.cells [L2 p]]) far'.length ⟨0, .uniq 1, by omega, by omega, .inl rfl, rfl, rfl⟩ ?_
        rintro m T H ⟨k, cf, hk, rfl, hcf, rfl, rfl⟩
        rcases hcf with rfl | rfl
        · conv => whnf
          refine dcase (fun h => ?_) (fun h => ?_)
          · have hkf : k < far'.length := by omega
            have hst : (far'.take (k + 1)).foldl max 0 = max ((far'.take k).foldl max 0) far'[k] := foldl_take _ _ _ k hkf
            conv => whnf
            refine ⟨by omega, ?_⟩
            conv => whnf
            refine nthM _ _ _ (hkf) ?_
            conv => whnf
            exact ⟨far'.length - (k + 1), by omega, k + 1, .own 1, by omega, rfl, .inr rfl, by rw [hst, ← wrapS k (by omega)] <;> rfl, rfl⟩
          · obtain rfl : k = far'.length := by omega
            conv => whnf
            exact ret_pure (.inr rfl) rfl (by rw [List.take_length]; rfl)
        · conv => whnf
          refine dcase (fun h => ?_) (fun h => ?_)
          · have hkf : k < far'.length := by omega
            have hst : (far'.take (k + 1)).foldl max 0 = max ((far'.take k).foldl max 0) far'[k] := foldl_take _ _ _ k hkf
            conv => whnf
            refine ⟨by omega, ?_⟩
            conv => whnf
            refine nthM _ _ _ (hkf) ?_
            conv => whnf
            exact ⟨far'.length - (k + 1), by omega, k + 1, .own 1, by omega, rfl, .inr rfl, by rw [hst, ← wrapS k (by omega)] <;> rfl, rfl⟩
          · obtain rfl : k = far'.length := by omega
            conv => whnf
            exact ret_pure (.inr rfl) rfl (by rw [List.take_length]; rfl)
      · conv => whnf
        refine .intro (fun m T H => ∃ k cf, k ≤ far'.length ∧ m = far'.length - k ∧ (cf = .uniq 1 ∨ cf = .own 1) ∧ T = slots 98 [(4, .lst (far'.map I) far'.length cf), (12, I ((far'.take k).foldl max 0)), (13, I k)] ∧ H = [.cells [L2 p]]) far'.length ⟨0, .own 1, by omega, by omega, .inr rfl, rfl, rfl⟩ ?_
        rintro m T H ⟨k, cf, hk, rfl, hcf, rfl, rfl⟩
        rcases hcf with rfl | rfl
        · conv => whnf
          refine dcase (fun h => ?_) (fun h => ?_)
          · have hkf : k < far'.length := by omega
            have hst : (far'.take (k + 1)).foldl max 0 = max ((far'.take k).foldl max 0) far'[k] := foldl_take _ _ _ k hkf
            conv => whnf
            refine ⟨by omega, ?_⟩
            conv => whnf
            refine nthM _ _ _ (hkf) ?_
            conv => whnf
            exact ⟨far'.length - (k + 1), by omega, k + 1, .own 1, by omega, rfl, .inr rfl, by rw [hst, ← wrapS k (by omega)] <;> rfl, rfl⟩
          · obtain rfl : k = far'.length := by omega
            conv => whnf
            exact ret_pure (.inr rfl) rfl (by rw [List.take_length]; rfl)
        · conv => whnf
          refine dcase (fun h => ?_) (fun h => ?_)
          · have hkf : k < far'.length := by omega
            have hst : (far'.take (k + 1)).foldl max 0 = max ((far'.take k).foldl max 0) far'[k] := foldl_take _ _ _ k hkf
            conv => whnf
            refine ⟨by omega, ?_⟩
            conv => whnf
            refine nthM _ _ _ (hkf) ?_
            conv => whnf
            exact ⟨far'.length - (k + 1), by omega, k + 1, .own 1, by omega, rfl, .inr rfl, by rw [hst, ← wrapS k (by omega)] <;> rfl, rfl⟩
          · obtain rfl : k = far'.length := by omega
            conv => whnf
            exact ret_pure (.inr rfl) rfl (by rw [List.take_length]; rfl)
end Go.Proofs.Ytlcebaejlnpdeaa.Ab

/-
  Plain law of layer 5: the program's greatest distance is the definitions'; its orders have it.
-/
namespace Go.Proofs.Ytlcebaejlnpdeaa.Ab

theorem betwX_min (x : Int) : ∀ (b : List Int) (m W : Int), b.foldl (fun m y => min m (max (x - y) (y - x))) (min m W) = min m (b.foldl (fun m y => min m (max (x - y) (y - x))) W)
  | [], m, W => rfl
  | y :: b, m, W => by
    rw [List.foldl_cons, List.foldl_cons, ← betwX_min x b m]
    congr 1; omega
theorem betw_min : ∀ (a b : List Int) (m W : Int), betw a b (min m W) = min m (betw a b W)
  | [], b, m, W => rfl
  | x :: a, b, m, W => by
    have e : ∀ v, betw (x :: a) b v = betw a b (b.foldl (fun m y => min m (max (x - y) (y - x))) v) := fun v => rfl
    rw [e, e, betwX_min, betw_min a b]
theorem betw_le (a b : List Int) (m W : Int) (h : m ≤ W) : betw a b m = min m (betw a b W) := by
  rw [← betw_min, Int.min_eq_left h]
theorem bestF_d : ∀ (t : List Jt) (x : Jt), (bestJ fr t x).d = t.foldl (fun m y => max m y.d) x.d
  | [], x => rfl
  | y :: t, x => by
    have e : bestJ fr (y :: t) x = bestJ fr t (if fr y x = true then y else x) := rfl
    rw [e, bestF_d t, List.foldl_cons]
    congr 1
    unfold fr
    by_cases h : x.d < y.d
    · rw [if_pos (decide_eq_true h)]; omega
    · rw [if_neg (by simpa using h)]; omega
theorem maxK_best (W : Int) (s : List Int) (B : List Jt) (h : 0 < B.length) (hb : ∀ x ∈ B, x.d ≤ W ∧ 0 ≤ min x.d (betw x.s s W)) : maxK (List.zip (B.map (·.s)) (B.map (·.d))) s = (bestL fr (B.map (tryF W s))).d := by
  have hz : List.zip (B.map (·.s)) (B.map (·.d)) = B.map fun j => (j.s, j.d) := by
    clear h hb
    induction B with
    | nil => rfl
    | cons x l ih => simp only [List.map_cons, List.zip_cons_cons, ih]
  have hstep : ∀ (l : List Jt) (m : Int), (∀ x ∈ l, x.d ≤ W) → (l.map fun j => (j.s, j.d)).foldl (fun m x => if m < x.2 then max m (betw x.1 s x.2) else m) m = (l.map (tryF W s)).foldl (fun m y => max m y.d) m := by
    intro l
    induction l with
    | nil => intro m _; rfl
    | cons x l ih =>
      intro m hl
      rw [List.map_cons, List.map_cons, List.foldl_cons, List.foldl_cons]
      have hx := hl x (by simp)
      have e : (if m < x.d then max m (betw x.s s x.d) else m) = max m (min x.d (betw x.s s W)) := by
        rw [betw_le x.s s x.d W hx]
        split <;> omega
      show List.foldl _ (if m < x.d then max m (betw x.s s x.d) else m) _ = List.foldl _ (max m (min x.d (betw x.s s W))) _
      rw [e]
      exact ih _ fun y hy => hl y (by simp [hy])
  rw [hz, maxK, hstep B 0 fun x hx => (hb x hx).1]
  cases B with
  | nil => simp at h
  | cons x t =>
    show List.foldl (fun m y => max m y.d) 0 (tryF W s x :: t.map (tryF W s)) = (bestJ fr (t.map (tryF W s)) (tryF W s x)).d
    rw [bestF_d, List.foldl_cons]
    have := (hb x (by simp)).2
    congr 1
    show max 0 (min x.d (betw x.s s W)) = min x.d (betw x.s s W)
    omega
theorem nextF_s (W : Int) (a : List Int) (B : List Jt) : (nextF W a B).map (·.s) = seamA a := by
  simp only [nextF, seamA, List.map_map]; rfl
theorem nextF_d (W : Int) (a : List Int) (B : List Jt) (h : 0 < B.length) (hb : ∀ s ∈ seamA a, ∀ x ∈ B, x.d ≤ W ∧ 0 ≤ min x.d (betw x.s s W)) : (nextF W a B).map (·.d) = farNext (B.map (·.s)) (B.map (·.d)) a := by
  simp only [nextF, farNext, seamA, List.map_map]
  refine List.map_congr_left fun o ho => ?_
  show (bestL fr (B.map (tryF W (seamsOf a o)))).d = maxK _ (seamsOf a o)
  exact (maxK_best W _ B h (hb _ (List.mem_map.2 ⟨o, ho, rfl⟩))).symm

/-- What joints of a first part say. -/
structure Jd (W : Int) (q : List (List Int)) (x : Jt) : Prop where
  ord : Ords q x.o
  d : x.d = distGo (seamsBy q x.o) W
  last : q = [] ∨ ∃ l, seamsBy q x.o = l ++ [x.s]
theorem seamsBy_snoc (q : List (List Int)) (a : List Int) (os : List (List Int)) (o : List Int) (h : os.length = q.length) : seamsBy (q ++ [a]) (os ++ [o]) = seamsBy q os ++ [seamsOf a o] := by
  unfold seamsBy
  rw [List.zipWith_append h.symm]; rfl
theorem ords_snoc {q os : List (List Int)} {a o : List Int} (h : Ords q os) (ho : isOrd o a.length = true) : Ords (q ++ [a]) (os ++ [o]) := by
  have hl := h.len
  refine ⟨by simp [hl], fun i h1 h2 => ?_⟩
  by_cases hi : i < os.length
  · rw [List.getElem_append_left hi, List.getElem_append_left (by omega)]; exact h.ord i hi (by omega)
  · have : i = os.length := by simp at h1; omega
    subst this
    rw [List.getElem_append_right (by omega), List.getElem_append_right (by omega)]
    simpa [hl] using ho
theorem beforeF_d {W : Int} : ∀ (n : Nat) (q : List (List Int)), q.length = n → (∀ l ∈ q, 1 ≤ l.length ∧ l.length ≤ 5) → (0 < (beforeF W q).length) ∧ ∀ x ∈ beforeF W q, x.d ≤ W ∧ Jd W q x
  | 0, q, hq, _ => by
    obtain rfl := List.length_eq_zero_iff.1 hq
    refine ⟨by simp [beforeF], fun x hx => ?_⟩
    simp [beforeF] at hx; subst hx
    exact ⟨Int.le_refl _, ⟨rfl, fun i h => by simp at h⟩, rfl, .inl rfl⟩
  | n + 1, q, hq, h => by
    have hne : q ≠ [] := fun e => by rw [e] at hq; simp at hq
    obtain ⟨r, a, rfl⟩ : ∃ r a, q = r ++ [a] := ⟨q.dropLast, q.getLast hne, (List.dropLast_concat_getLast hne).symm⟩
    obtain ⟨i0, i1⟩ := beforeF_d (W := W) n r (by simpa using hq) fun l hl => h l (by simp [hl])
    have ha := h a (by simp)
    rw [beforeF_snoc]
    refine ⟨by rw [nextF_len]; exact perms_pos ha.1 ha.2, fun x hx => ?_⟩
    obtain ⟨o, ho, rfl⟩ := List.mem_map.1 hx
    have hm := bestL_mem fr ((beforeF W r).map (tryF W (seamsOf a o))) (by simpa using i0)
    obtain ⟨j, hj, e⟩ := List.mem_map.1 hm
    obtain ⟨k1, k2⟩ := i1 j hj
    have e1 : (jointF W a (beforeF W r) o).o = j.o ++ [o] := by show (bestL fr _).o ++ [o] = _; rw [← e]; rfl
    have e2 : (jointF W a (beforeF W r) o).d = min j.d (betw j.s (seamsOf a o) W) := by show (bestL fr _).d = _; rw [← e]; rfl
    have e3 : (jointF W a (beforeF W r) o).s = seamsOf a o := rfl
    have e4 := seamsBy_snoc r a j.o o k2.ord.len
    refine ⟨by rw [e2]; omega, ?_, ?_, ?_⟩
    · rw [e1]; exact ords_snoc k2.ord (perms_ord ho)
    · rw [e1, e2, e4, ← betw_le j.s (seamsOf a o) j.d W k1]
      rcases k2.last with rfl | ⟨l, hl⟩
      · simp [beforeF] at hj; subst hj; rfl
      · have hd := k2.d
        rw [hl] at hd ⊢
        rw [List.append_assoc, show [j.s] ++ [seamsOf a o] = [j.s, seamsOf a o] from rfl, distGo_snoc, ← hd]
    · rw [e1, e3, e4]; exact .inr ⟨_, rfl⟩
theorem farB_jd (p : List (List Int)) (h : ∀ l ∈ p, 1 ≤ l.length ∧ l.length ≤ 5) : Jd (sumI (p.headD [])) p (farB p) := by
  obtain ⟨h0, h1⟩ := beforeF_d (W := sumI (p.headD [])) p.length p rfl h
  exact (h1 _ (bestL_mem fr _ h0)).2
def distOf' (p o : List (List Int)) : Int := distGo (seamsBy p o) (sumI (p.headD []))
theorem farB_dist {p : List (List Int)} (hv : Val p) : Ords p (farB p).o ∧ distOf' p (farB p).o = (farB p).d := by
  have h := farB_jd p fun l hl => ⟨hv.s1 l hl, hv.s5 l hl⟩
  exact ⟨h.ord, h.d.symm⟩

/-- The definitions' table goes as the joints do. -/
theorem farGo_joints {W : Int} (hW : 0 ≤ W) : ∀ (r q : List (List Int)), (∀ l ∈ q ++ r, Sm l ∧ 1 ≤ l.length ∧ l.length ≤ 5) → (∀ x ∈ beforeF W q, 0 ≤ x.d ∧ x.d ≤ W ∧ ∀ y ∈ x.s, 0 ≤ y) → 0 < (beforeF W q).length →
    farGo r ((beforeF W q).map (·.s)) ((beforeF W q).map (·.d)) = (beforeF W (q ++ r)).map (·.d)
  | [], q, _, _, _ => by rw [List.append_nil]; rfl
  | a :: r, q, h, hb, h0 => by
    have ha := h a (by simp)
    have hsp : ∀ s ∈ seamA a, ∀ y ∈ s, 0 ≤ y := fun s hs y hy => by
      obtain ⟨o, ho, rfl⟩ := List.mem_map.1 hs
      have := seamsGo_bound ha.1 o.dropLast 0 (by omega) y hy
      exact this.1
    have hd := nextF_d W a (beforeF W q) h0 fun s hs x hx => by
      obtain ⟨k1, k2, k3⟩ := hb x hx
      have := betw_bound x.s s W k3 (hsp s hs) hW
      exact ⟨k2, by omega⟩
    have hq : q ++ a :: r = (q ++ [a]) ++ r := by simp
    rw [hq, farGo, ← hd, ← nextF_s W a (beforeF W q), ← beforeF_snoc]
    refine farGo_joints hW r (q ++ [a]) (by simpa using h) ?_ (by rw [beforeF_snoc, nextF_len]; exact perms_pos ha.2.1 ha.2.2)
    intro x hx
    rw [beforeF_snoc] at hx
    obtain ⟨o, ho, rfl⟩ := List.mem_map.1 hx
    have hm := bestL_mem fr ((beforeF W q).map (tryF W (seamsOf a o))) (by simpa using h0)
    obtain ⟨j, hj, e⟩ := List.mem_map.1 hm
    obtain ⟨k1, k2, k3⟩ := hb j hj
    have hs := hsp (seamsOf a o) (List.mem_map.2 ⟨o, ho, rfl⟩)
    have := betw_bound j.s (seamsOf a o) W k3 hs hW
    have e2 : (jointF W a (beforeF W q) o).d = min j.d (betw j.s (seamsOf a o) W) := by show (bestL fr _).d = _; rw [← e]; rfl
    exact ⟨by rw [e2]; omega, by rw [e2]; omega, hs⟩
theorem far_eq {p : List (List Int)} (hv : Val p) : farOf p = (farB p).d := by
  have h2 := hv.n2
  have hall : ∀ l ∈ p, Sm l ∧ 1 ≤ l.length ∧ l.length ≤ 5 := fun l hl => ⟨hv.sm hl, hv.s1 l hl, hv.s5 l hl⟩
  unfold farB
  cases p with
  | nil => simp at h2
  | cons a r =>
    have ha := hall a (by simp)
    have hW := ha.1.sum.1
    show (farGo r (seamA a) ((perms a.length).map fun _ => sumI a)).foldl max 0 = (bestL fr (beforeF (sumI a) (a :: r))).d
    have e1 : beforeF (sumI a) [a] = (perms a.length).map (jointF (sumI a) a [⟨[], [], 0, sumI a⟩]) := rfl
    have hd1 : ∀ o, (jointF (sumI a) a [⟨[], [], 0, sumI a⟩] o).d = sumI a := fun o => by
      show min (sumI a) (betw [] (seamsOf a o) (sumI a)) = sumI a
      exact Int.min_self _
    have e2 : (beforeF (sumI a) [a]).map (·.s) = seamA a := nextF_s _ _ _
    have e3 : (beforeF (sumI a) [a]).map (·.d) = (perms a.length).map fun _ => sumI a := by
      rw [e1, List.map_map]
      exact List.map_congr_left fun o _ => hd1 o
    have hpos : 0 < (beforeF (sumI a) [a]).length := by rw [e1, List.length_map]; exact perms_pos ha.2.1 ha.2.2
    have hg := farGo_joints hW r [a] (by simpa using hall) (fun x hx => by
      rw [e1] at hx
      obtain ⟨o, ho, rfl⟩ := List.mem_map.1 hx
      refine ⟨by rw [hd1]; exact hW, by rw [hd1]; exact Int.le_refl _, fun y hy => ?_⟩
      exact (seamsGo_bound ha.1 o.dropLast 0 (by omega) y hy).1) hpos
    rw [e2, e3] at hg
    rw [hg]
    obtain ⟨q1, _⟩ := beforeF_d (W := sumI a) (a :: r).length (a :: r) rfl fun l hl => (hall l hl).2
    have hnn : ∀ x ∈ beforeF (sumI a) (a :: r), 0 ≤ x.d := by
      intro x hx
      have := (beforeF_d (W := sumI a) (a :: r).length (a :: r) rfl fun l hl => (hall l hl).2).2 x hx
      rw [this.2.d]
      refine (distGo_bound _ _ (fun row hrow y hy => ?_) hW).1
      obtain ⟨i, hi, rfl⟩ := List.mem_iff_getElem.1 hrow
      simp only [seamsBy, List.getElem_zipWith] at hy
      have hi2 : i < (a :: r).length := by simp [seamsBy] at hi; simp; omega
      exact (seamsGo_bound (hall _ (List.getElem_mem hi2)).1 _ 0 (by omega) y hy).1
    show ((beforeF (sumI a) (a :: r)).map (·.d)).foldl max 0 = _
    generalize beforeF (sumI a) (a :: r) = l at q1 hnn
    cases l with
    | nil => simp at q1
    | cons x t =>
      show List.foldl max 0 (List.map (·.d) (x :: t)) = (bestJ fr t x).d
      rw [bestF_d, List.map_cons, List.foldl_cons, List.foldl_map]
      have := hnn x (by simp)
      congr 1; omega
end Go.Proofs.Ytlcebaejlnpdeaa.Ab
