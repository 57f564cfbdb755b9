/-
  Contracts: the program's orders, seams.
-/
import Derived.Test.YtlcebaejlnpdeaaJa4
import Derived.KernelRfl
import Derived.Test.YtlcebaejlnpdeaaJa3
import Derived.Test.YtlcebaejlnpdeaaProg
import Derived.Sort.AssemblyPlain
import Derived.Laws.BitsLemmas
set_option linter.unusedSimpArgs false
set_option linter.unusedVariables false
set_option linter.unusedSectionVars false
namespace Go.Proofs.Ytlcebaejlnpdeaa.Ab
open Go
set_option maxRecDepth 20000
theorem open_bad {p : List (List Int)} (is : List Int) (h1 : p.length ≤ 140737488355328) (h2 : ∀ l ∈ p, l.length ≤ 140737488355328) (hi : is.length ≤ 1000) (h : checkP p ≠ 0) : PO 75 [P1 p, L1 is] (.tuple [.nilp, I (checkP p)]) := by
  have := open_ok p is h1 h2 hi
  rwa [show opened p is = .tuple [.nilp, I (checkP p)] from if_pos h] at this
theorem open_arg {p : List (List Int)} (is : List Int) (h1 : p.length ≤ 140737488355328) (h2 : ∀ l ∈ p, l.length ≤ 140737488355328) (hi : is.length ≤ 1000) (h : checkP p = 0) (ha : is.any (outOf 0 ((p.length : Int) - 1)) = true) : PO 75 [P1 p, L1 is] (.tuple [.nilp, I 2]) := by
  have := open_ok p is h1 h2 hi
  rwa [show opened p is = .tuple [.nilp, I 2] by unfold opened; rw [if_neg (by simp [h]), if_pos ha]] at this
theorem open_good {p : List (List Int)} (is : List Int) (h1 : p.length ≤ 140737488355328) (h2 : ∀ l ∈ p, l.length ≤ 140737488355328) (hi : is.length ≤ 1000) (h : checkP p = 0) (ha : is.any (outOf 0 ((p.length : Int) - 1)) = false) : PO 75 [P1 p, L1 is] (.tuple [Bn p, I 0]) := by
  have := open_ok p is h1 h2 hi
  rwa [show opened p is = .tuple [Bn p, I 0] by unfold opened; rw [if_neg (by simp [h]), if_neg (by simp [ha])]] at this
/-! ### isOrder -/
def b2 (b : Bool) : Int := match b with | true => 1 | false => 0
def mkA (s : List Int) : List AV := [I (b2 (has s 0)), I (b2 (has s 1)), I (b2 (has s 2)), I (b2 (has s 3)), I (b2 (has s 4))]
theorem mkA_get (s : List Int) (x : Int) (h0 : 0 ≤ x) (h5 : x < 5) : (mkA s)[x.toNat]? = some (I (b2 (has s x))) := by
  obtain rfl | rfl | rfl | rfl | rfl : x = 0 ∨ x = 1 ∨ x = 2 ∨ x = 3 ∨ x = 4 := by omega
  all_goals rfl
theorem mkA_set (s : List Int) (x : Int) (h0 : 0 ≤ x) (h5 : x < 5) : (mkA s).set x.toNat (I 1) = mkA (s ++ [x]) := by
  obtain rfl | rfl | rfl | rfl | rfl : x = 0 ∨ x = 1 ∨ x = 2 ∨ x = 3 ∨ x = 4 := by omega
  all_goals simp [mkA, has_append, has_cons, b2, has]
theorem puBn (p : List (List Int)) : pureD 8 (Bn p) = true := by
  show [L2 p].all (pureD 7) = true
  rw [List.all_cons, List.all_nil, pure_L2 4 p]; rfl
/-- Are there none? -/
def none5 (s : List Int) : Bool := (b2 (has s 0) == 0) && ((b2 (has s 1) == 0) && ((b2 (has s 2) == 0) && ((b2 (has s 3) == 0) && ((b2 (has s 4) == 0) && true))))
theorem none5_of {s : List Int} {x : Int} (hx : x ∈ s) (h0 : 0 ≤ x) (h5 : x < 5) : none5 s = false := by
  have h : has s x = true := has_iff.2 hx
  obtain rfl | rfl | rfl | rfl | rfl : x = 0 ∨ x = 1 ∨ x = 2 ∨ x = 3 ∨ x = 4 := by omega
  all_goals simp [none5, h, b2]
theorem pisOrder_ok (p : List (List Int)) (k : Nat) (hk : k < p.length) (l : List Int) (h1 : p.length ≤ 1000) (hn : 1 ≤ p[k].length ∧ p[k].length ≤ 5) (hl : l.length ≤ 140737488355328) : PO 93 [Bn p, I k, L1 l] (B (isOrd l p[k].length)) := by
  refine fn_pure hmix lk93 rfl rfl ?_
  unfold rc93
  conv => whnf
  refine ⟨.ref 0 0 5 (some 5) 1, [.cells [I 0, I 0, I 0, I 0, I 0]], fun C => by kernel_rfl, ?_⟩
  conv => whnf
  refine ⟨.tuple [], [.cells [I 0, I 0, I 0, I 0, I 0]], fun C => by kernel_rfl, ?_⟩
  conv => whnf
  generalize hnn : p[k].length = n at hn
  refine .intro (fun m T H => ∃ i, i ≤ l.length ∧ m = l.length - i ∧ (ordGo n [] l = ordGo n (l.take i) (l.drop i) ∧ ∀ x ∈ l.take i, 0 ≤ x ∧ x < n) ∧ T = slots 57 [(0, Bn p), (1, I k), (2, L1 l), (7, .ptr 0 0), (11, L1 l), (12, I l.length), (13, I i)] ∧ H = [.cells (mkA (l.take i))]) l.length ⟨0, by omega, by omega, ⟨rfl, by simp⟩, rfl, rfl⟩ ?_
  rintro m T H ⟨i, hi, rfl, ⟨he, hr⟩, rfl, rfl⟩
  conv => whnf
  refine dcase (fun h3 => ?_) (fun h3 => ?_)
  · have hlt : i < l.length := by omega
    rw [List.drop_eq_getElem_cons hlt, ordGo, ← List.take_succ_eq_append_getElem hlt] at he
    conv => whnf
    refine ⟨by omega, ?_⟩
    conv => whnf
    refine nthM _ _ _ (hlt) ?_
    conv => whnf
    refine ⟨by omega, ?_⟩
    conv => whnf
    refine nthM _ _ _ (hk) ?_
    conv => whnf
    rw [wrapI _ (by omega) (by omega)]
    refine ⟨by first | rfl | simp only [List.all_cons, List.all_nil, pu0, pub, pu1, pu2, pu1', pu2', pun, puf, puP, puP', puQ, puQ', Bool.and_true, Bool.and_self], _, within0_ok 0 ((p[k].length : Int) - 1) l[i], ?_⟩
    conv => whnf
    rw [hnn]
    cases h4 : outOf 0 ((n : Int) - 1) l[i] with
    | true =>
      conv => whnf
      exact ret_pure (.inr rfl) rfl (by rw [show isOrd l n = false by rw [isOrd, he, h4]; simp]; rfl)
    | false =>
      rw [h4] at he
      obtain ⟨v0, v1⟩ := outOf_false.1 h4
      conv => whnf
      refine ⟨by omega, ?_⟩
      conv => whnf
      refine nthK_of (x := I (b2 (has (l.take i) l[i]))) (by rw [show 0 + l[i].toNat * 1 = l[i].toNat by omega]; exact mkA_get _ _ v0 (by omega)) ?_
      conv => whnf
      cases h5 : has (l.take i) l[i] with
      | true =>
        conv => whnf
        exact ret_pure (.inr rfl) rfl (by rw [show isOrd l n = false by rw [isOrd, he, h5]; simp]; rfl)
      | false =>
        rw [h5] at he
        conv => whnf
        refine ⟨by omega, ?_⟩
        conv => whnf
        refine updK_of (by simp [mkA]; omega) ?_
        conv => whnf
        refine ⟨l.length - (i + 1), by omega, i + 1, by omega, rfl, ⟨by rw [he]; rfl, fun x hx => ?_⟩, by rw [← wrapS i (by omega)] <;> rfl, ?_⟩
        · rw [List.take_succ_eq_append_getElem hlt, List.mem_append, List.mem_singleton] at hx
          rcases hx with hx | rfl
          · exact hr x hx
          · omega
        · rw [List.take_succ_eq_append_getElem hlt, ← mkA_set _ _ v0 (by omega)]
          simp
  · obtain rfl : i = l.length := by omega
    rw [List.drop_length, ordGo] at he
    rw [List.take_length] at hr ⊢
    conv => whnf
    refine ⟨by simp [mkA], ?_⟩
    conv => whnf
    refine ⟨.bool (!(none5 l)), [.cells (mkA l)], fun C => by kernel_rfl, ?_⟩
    conv => whnf
    have hs : isOrd l n = decide (l.length = n) := by rw [isOrd, he, Bool.and_true]
    cases h6 : none5 l with
    | true =>
      have hl0 : l = [] := by
        cases l with
        | nil => rfl
        | cons x l =>
          have := hr x (by simp)
          rw [none5_of (s := x :: l) (x := x) (by simp) this.1 (by omega)] at h6; cases h6
      conv => whnf
      exact ret_pure (.inr rfl) rfl (by rw [hs, show decide (l.length = n) = false from decide_eq_false (by rw [hl0]; simp; omega)]; rfl)
    | false =>
      conv => whnf
      refine ⟨by omega, ?_⟩
      conv => whnf
      refine nthM _ _ _ (hk) ?_
      conv => whnf
      exact ret_pure (.inr rfl) rfl (by rw [hnn, hs, show decide (l.length = n) = decide ((l.length : Int) = n) by rw [Bool.eq_iff_iff]; simp only [decide_eq_true_eq]; omega]; rfl)
/-! ### seams, joined -/
theorem pseams_ok (p : List (List Int)) (k : Nat) (hk : k < p.length) (o : List Int) (hI : InL p[k] o) (h1 : 1 ≤ o.length) : PO 87 [Bn p, I k, L1 o] (O1 (seamsOf p[k] o)) := by
  have hn := hI.n
  refine fn_pure hmix lk87 rfl (pu1 _ _ _) ?_
  unfold rc87
  conv => whnf
  rw [show IntKind.i64.wrap ((o.length : Int) - 1) = ((o.length - 1 : Nat) : Int) by rw [wrapI _ (by omega) (by omega)]; omega]
  refine ⟨by omega, ?_⟩
  rw [takeI o (o.length - 1) (by omega), ← dropLast_take]
  have hd : o.dropLast.length = o.length - 1 := by simp
  have hi : ∀ x ∈ o.dropLast, x ∈ o := fun x hx => List.dropLast_subset o hx
  unfold seamsOf
  generalize o.dropLast = l at hd hi
  conv => whnf
  refine .intro (CI (fun i => slots 40 [(0, Bn p), (1, I k), (7, U1 (seamsGo p[k] 0 (l.take i))), (8, I (atGo p[k] 0 (l.take i))), (15, L1 l), (16, I l.length), (17, I i)]) l.length []) l.length (ci0 rfl) ?_
  rintro m T H ⟨i, hii, rfl, rfl, rfl⟩
  conv => whnf
  refine dcase (fun h => ?_) (fun h => ?_)
  · have hlt : i < l.length := by omega
    obtain ⟨s1, s2⟩ := seams_take (layer := p[k]) i hlt
    have hb := atGo_bound hI.sm (l.take i) 0
    have hlen : (l.take i).length ≤ i := List.length_take_le _ _
    have hr := hI.r _ (hi _ (List.getElem_mem hlt))
    have hg := getD_bound hI.sm l[i].toNat
    have hll := seamsGo_length p[k] (l.take i) 0
    conv => whnf
    refine ⟨by omega, ?_⟩
    conv => whnf
    refine nthM _ _ _ (hlt) ?_
    conv => whnf
    refine ⟨by omega, ?_⟩
    conv => whnf
    refine nthM _ _ _ (hk) ?_
    conv => whnf
    refine ⟨hr, ?_⟩
    conv => whnf
    refine nthX hr.1 hr.2 ?_
    conv => whnf
    refine ⟨rfl, by decide, rfl, by omega, ?_⟩
    conv => whnf
    exact ciN hlt (by rw [s1, s2, wrapI _ (by omega) (by omega), ← U1_snoc, ← wrapS i (by omega)] <;> rfl)
  · obtain rfl : i = l.length := by omega
    conv => whnf
    exact ret_own (.inr rfl) (pu1 _ _ _) (.inr (by rw [List.take_length]; rfl))
theorem joined_ok (p o : List (List Int)) (hf : Fit p o) : PO 62 [P1 p, L2 o] (.tuple [L2 (seamsE p o), I (ordErr p o)]) := by
  have hp1 := hf.p1
  have ho1 := hf.o1
  by_cases hc : checkP p = 0
  · have hv := checkP_val hc
    have h2 := hv.n2
    have h4 := hv.n4
    refine fn_pure hmix lk62 rfl (puT _ _) ?_
    unfold rc62
    conv => whnf
    refine ⟨by first | rfl | simp only [List.all_cons, List.all_nil, pu0, pub, pu1, pu2, pu1', pu2', pun, puf, puP, puP', puQ, puQ', Bool.and_true, Bool.and_self], _, open_good [] hf.p1 hf.p2 (by simp) hc rfl, ?_⟩
    conv => whnf
    refine dcase (fun h => ?_) (fun h => ?_)
    · have e : ordErr p o = 15 := by unfold ordErr; rw [if_neg (by simp [hc]), if_pos (by omega)]
      conv => whnf
      exact ret_pure (.inr rfl) (puT _ _) (by rw [show seamsE p o = [] from if_neg (by rw [e]; decide), e]; rfl)
    · have hl : o.length = p.length := by omega
      have hz : (List.zip o p).length = o.length := by simp; omega
      conv => whnf
      refine .intro (CP (fun i => (List.zip o p).any (fun x => !isOrd x.1 x.2.length) = ((List.zip o p).drop i).any (fun x => !isOrd x.1 x.2.length)) (fun i => slots 51 [(6, Bn p), (8, .func 93 [Bn p] []), (9, U2 (seamsBy (p.take i) (o.take i))), (30, L2 o), (31, I o.length), (32, I i)]) o.length [.cells [L2 p]]) (o.length - 0) (cp0 0 (Nat.zero_le _) rfl rfl) ?_
      rintro m T H ⟨i, hi, rfl, he, rfl, rfl⟩
      conv => whnf
      refine dcase (fun h3 => ?_) (fun h3 => ?_)
      · have hlt : i < o.length := by omega
        have hlt2 : i < p.length := by omega
        rw [any_drop _ _ i (by omega), List.getElem_zip] at he
        have s1 := hv.s1 _ (List.getElem_mem hlt2)
        have s5 := hv.s5 _ (List.getElem_mem hlt2)
        conv => whnf
        refine ⟨by omega, ?_⟩
        conv => whnf
        refine nthM _ _ _ (hlt) ?_
        conv => whnf
        refine ⟨?_, _, pisOrder_ok p i hlt2 o[i] (by omega) ⟨s1, s5⟩ (hf.o2 _ (List.getElem_mem hlt)), ?_⟩
        · simp only [List.all_cons, List.all_nil, pu1, pu0, puBn, puQ, Bool.and_true]
        conv => whnf
        cases h5 : isOrd o[i] p[i].length with
        | false =>
          have e : ordErr p o = 16 := by unfold ordErr; rw [if_neg (by simp [hc]), if_neg (by omega), he]; simp only [h5]; rfl
          conv => whnf
          exact ret_pure (.inr rfl) (puT _ _) (by rw [show seamsE p o = [] from if_neg (by rw [e]; decide), e]; rfl)
        | true =>
          obtain ⟨k1, k2, k3⟩ := isOrd_iff.1 h5
          have hin : InL p[i] o[i] := ⟨hv.sm (List.getElem_mem hlt2), by omega, k2⟩
          conv => whnf
          refine ⟨?_, _, pseams_ok p i hlt2 o[i] hin (by omega), ?_⟩
          · simp only [List.all_cons, List.all_nil, pu1, pu0, puBn, puQ, Bool.and_true]
          conv => whnf
          have hll : (seamsBy (p.take i) (o.take i)).length ≤ i := by simp [seamsBy]; omega
          refine ⟨rfl, by decide, rfl, by omega, ?_⟩
          conv => whnf
          exact cpN hlt (by rw [he]; simp only [h5]; rfl) (by rw [seamsBy_take i hlt hlt2, ← U2_snoc, ← wrapS i (by omega)] <;> rfl)
      · obtain rfl : i = o.length := by omega
        rw [← hz, List.drop_length] at he
        have e : ordErr p o = 0 := by unfold ordErr; rw [if_neg (by simp [hc]), if_neg (by omega), he]; rfl
        conv => whnf
        exact ret_pure (.inr rfl) (puT _ _) (by rw [show seamsE p o = seamsBy p o from if_pos e, e, List.take_length, hl, List.take_length]; rfl)
  · have e : ordErr p o = checkP p := by unfold ordErr; rw [if_pos hc]
    refine fn_pure hmix lk62 rfl (puT _ _) ?_
    unfold rc62
    conv => whnf
    refine ⟨by first | rfl | simp only [List.all_cons, List.all_nil, pu0, pub, pu1, pu2, pu1', pu2', pun, puf, puP, puP', puQ, puQ', Bool.and_true, Bool.and_self], _, open_bad [] hf.p1 hf.p2 (by simp) hc, ?_⟩
    conv => whnf
    refine dcase (fun h => ?_) (fun h => absurd hc h)
    conv => whnf
    exact ret_pure (.inr rfl) (puT _ _) (by rw [show seamsE p o = [] from if_neg (by rw [e]; exact hc), e]; rfl)
theorem pSeams_ok (p o : List (List Int)) (hf : Fit p o) : PO 23 [P1 p, L2 o] (.tuple [L2 (seamsE p o), I (ordErr p o)]) := by
  refine fn_pure hmix lk23 rfl (puT _ _) ?_
  unfold rc23
  conv => whnf
  refine ⟨by first | rfl | simp only [List.all_cons, List.all_nil, pu0, pub, pu1, pu2, pu1', pu2', pun, puf, puP, puP', puQ, puQ', Bool.and_true, Bool.and_self], _, joined_ok p o hf, ?_⟩
  conv => whnf
  exact ret_pure (.inr rfl) (puT _ _) rfl
end Go.Proofs.Ytlcebaejlnpdeaa.Ab

/-
  Contract: seam.meetings: the map of the places that are kept.
-/
namespace Go.Proofs.Ytlcebaejlnpdeaa.Ab
open Go
section
variable {P : Program}
/-- A function's contract. -/
theorem fn_sem (hmix : P.follows .mixedOrders = true) {k : Nat} {A : FAnn} {rc : RC} {n : Nat} {ts : List RV} (hl : linkF P A k = some (rc, n, ts)) {lo : Nat} {args T : List AV} {H H' : List AObj} (hT : args ++ List.replicate (n - args.length) .junk = T) {v : AV} (hlow : Low lo H H')
    (h : wpR P A k lo none rc T H fun e T1 H1 => (e = .normal ∨ e = .ret) ∧ Fgt H1 H' ∧ (readR H1 T1 ts).map packResults = some v) : Sem P (.fn k) args H lo v H' := by
  unfold linkF at hl
  split at hl
  · rename_i f hf
    split at hl
    · rename_i c hb
      split at hl
      · rename_i rc' ts' h1 h2 h3 h4
        simp only [Option.some.injEq, Prod.mk.injEq] at hl
        obtain ⟨rfl, rfl, rfl⟩ := hl
        subst hT
        refine sem_fn hmix hf hb (by simpa using h2) h1 hlow (wpA_mono (fun e s hq => ?_) (link_ok h3 h))
        obtain ⟨g1, g2, g3⟩ := hq
        simp only [Option.map_eq_some_iff] at g3
        obtain ⟨vs, g3, g4⟩ := g3
        exact ⟨g1, g2, vs, by rw [readR_eq _ _ h4, g3], g4⟩
      · cases hl
    · cases hl
  · cases hl
end
/-! ### seam.meetings -/
/-- A place: a layer, and a number. -/
def pk (p : Nat × Int) : AV := .agg [I p.1, I p.2]
def ents : List (Nat × Int) → Nat → List (Nat × AV × AV)
  | [], _ => []
  | p :: l, b => (b, pk p, I 1) :: ents l (b + 1)
theorem ents_append : ∀ (a c : List (Nat × Int)) (b : Nat), ents (a ++ c) b = ents a b ++ ents c (b + a.length)
  | [], c, b => by simp [ents]
  | p :: a, c, b => by simp only [List.cons_append, ents, ents_append a c (b + 1), List.length_cons]; rw [Nat.add_right_comm]; rfl
theorem eqKey_pk (p q : Nat × Int) : eqKey (pk p) (pk q) = some (decide (p = q)) := by
  obtain ⟨a, b⟩ := p
  obtain ⟨c, d⟩ := q
  have h1 : ((a : Int) == (c : Int)) = decide (a = c) := by rw [Bool.eq_iff_iff, beq_iff_eq, decide_eq_true_iff]; omega
  have h2 : (b == d) = decide (b = d) := by rw [Bool.eq_iff_iff]; simp
  simp [eqKey, pk, eqInts, h1, h2, Prod.ext_iff, Bool.decide_and]
theorem findK_new (p : Nat × Int) : ∀ (l : List (Nat × Int)) (b n : Nat), p ∉ l → findK (pk p) (ents l b) n = some none
  | [], b, n, _ => rfl
  | q :: l, b, n, h => by
    have hq : decide (p = q) = false := by simp; rintro rfl; exact h (by simp)
    simp only [ents, findK, eqKey_pk, hq]
    exact findK_new p l (b + 1) (n + 1) fun hm => h (by simp [hm])
/-- The places of rows, layer by layer. -/
def places : List (List Int) → Nat → List (Nat × Int)
  | [], _ => []
  | r :: rows, i => r.map (fun x => (i, x)) ++ places rows (i + 1)
theorem places_append : ∀ (a c : List (List Int)) (i : Nat), places (a ++ c) i = places a i ++ places c (i + a.length)
  | [], c, i => by simp [places]
  | r :: a, c, i => by simp only [List.cons_append, places, places_append a c (i + 1), List.length_cons, List.append_assoc]; rw [Nat.add_right_comm]; rfl
theorem places_take (rows : List (List Int)) (i : Nat) (h : i < rows.length) : places (rows.take (i + 1)) 0 = places (rows.take i) 0 ++ rows[i].map fun x => (i, x) := by
  rw [List.take_succ_eq_append_getElem h, places_append]
  simp [places, List.length_take, Nat.min_eq_left (Nat.le_of_lt h)]
/-- The places, numbered. -/
def num : List (Nat × Int) → Nat → List (Nat × Nat × Int)
  | [], _ => []
  | p :: l, b => (b, p) :: num l (b + 1)
def entOf (q : Nat × Nat × Int) : Nat × AV × AV := (q.1, pk q.2, I 1)
theorem ents_num : ∀ (l : List (Nat × Int)) (b : Nat), ents l b = (num l b).map entOf
  | [], b => rfl
  | p :: l, b => by simp only [ents, num, List.map_cons, entOf, ents_num l (b + 1)]
theorem num_lt : ∀ (l : List (Nat × Int)) (b : Nat), ∀ q ∈ num l b, b ≤ q.1 ∧ q.1 < b + l.length ∧ q.2 ∈ l
  | [], b, q, h => by simp [num] at h
  | p :: l, b, q, h => by
    simp only [num, List.mem_cons] at h
    rcases h with rfl | h
    · simp
    · have := num_lt l (b + 1) q h
      simp only [List.length_cons, List.mem_cons]
      exact ⟨by omega, by omega, .inr this.2.2⟩
/-- Numbers tell places apart. -/
theorem num_inj : ∀ (l : List (Nat × Int)) (b : Nat), ∀ q ∈ num l b, ∀ q' ∈ num l b, q.1 = q'.1 → q = q'
  | [], b, q, h, _, _, _ => by simp [num] at h
  | p :: l, b, q, h, q', h', e => by
    simp only [num, List.mem_cons] at h h'
    rcases h with rfl | h <;> rcases h' with rfl | h'
    · rfl
    · have := num_lt l (b + 1) q' h'; simp only at e; omega
    · have := num_lt l (b + 1) q h; simp only at e; omega
    · exact num_inj l (b + 1) q h q' h' e
/-- Places tell numbers apart. -/
theorem num_inj2 : ∀ (l : List (Nat × Int)) (b : Nat), l.Nodup → ∀ q ∈ num l b, ∀ q' ∈ num l b, q.2 = q'.2 → q = q'
  | [], b, _, q, h, _, _, _ => by simp [num] at h
  | p :: l, b, hn, q, h, q', h', e => by
    simp only [num, List.mem_cons] at h h'
    have hn' := List.nodup_cons.1 hn
    rcases h with rfl | h <;> rcases h' with rfl | h'
    · rfl
    · have := num_lt l (b + 1) q' h'; simp only at e; exact absurd (e ▸ this.2.2) hn'.1
    · have := num_lt l (b + 1) q h; simp only at e; exact absurd (e.symm ▸ this.2.2) hn'.1
    · exact num_inj2 l (b + 1) hn'.2 q h q' h' e
theorem num_pair : ∀ (l : List (Nat × Int)) (b : Nat), (num l b).Nodup
  | [], b => List.nodup_nil
  | p :: l, b => List.nodup_cons.2 ⟨fun h => by have := num_lt l (b + 1) _ h; simp only at this; omega, num_pair l (b + 1)⟩
/-- Where a key lies among entries, and what is left without it. -/
theorem findK_at (q : Nat × Nat × Int) : ∀ (l : List (Nat × Nat × Int)) (n : Nat), q ∈ l → (∀ q' ∈ l, q.2 = q'.2 → q = q') → l.Nodup → ∃ i, findK (pk q.2) (l.map entOf) n = some (some (n + i)) ∧ (l.map entOf).eraseIdx i = (l.filter fun q' => !decide (q' = q)).map entOf
  | [], n, h, _, _ => by simp at h
  | q' :: l, n, h, hd, hn => by
    have hn' := List.nodup_cons.1 hn
    cases hp : decide (q.2 = q'.2) with
    | true =>
      have e : q = q' := hd q' (by simp) (of_decide_eq_true hp)
      subst e
      refine ⟨0, ?_, ?_⟩
      · simp [List.map_cons, findK, entOf, eqKey_pk]
      · simp only [List.map_cons, List.eraseIdx_cons_zero, List.filter_cons, decide_true, Bool.not_true, Bool.false_eq_true, if_false]
        congr 1
        symm; apply List.filter_eq_self.2
        intro a ha; simp; rintro rfl; exact hn'.1 ha
    | false =>
      have ne : q ≠ q' := fun e => by subst e; simp at hp
      have hm : q ∈ l := by simpa [ne] using h
      obtain ⟨i, h1, h2⟩ := findK_at q l (n + 1) hm (fun a ha => hd a (by simp [ha])) hn'.2
      refine ⟨i + 1, ?_, ?_⟩
      · simp only [List.map_cons, findK, entOf, eqKey_pk, hp]
        rw [show n + (i + 1) = n + 1 + i by omega]; exact h1
      · have : decide (q' = q) = false := by simp; exact fun e => ne e.symm
        simp only [List.map_cons, List.eraseIdx_cons_succ, List.filter_cons, this, Bool.not_false, if_true, h2]
/-- Which places are kept: seams of the next layer, too. -/
def kept (rows : List (List Int)) (p : Nat × Int) : Bool := match rows[p.1 + 1]? with
  | some r => has r p.2
  | none => false
/-- What is left when these have been looked at. -/
def left (rows : List (List Int)) (seen : List Nat) : List (Nat × Nat × Int) := (num (places rows 0) 0).filter fun q => !seen.contains q.1 || kept rows q.2
/-- The map of all places that are kept. -/
def meets (rows : List (List Int)) : List (Nat × AV × AV) := ((num (places rows 0) 0).filter fun q => kept rows q.2).map entOf
theorem num_length : ∀ (l : List (Nat × Int)) (b : Nat), (num l b).length = l.length
  | [], b => rfl
  | p :: l, b => by simp only [num, List.length_cons, num_length l (b + 1)]
theorem drop_one {l : List (Nat × Nat × Int)} (hn : l.Nodup) (hi : ∀ q ∈ l, ∀ q' ∈ l, q.1 = q'.1 → q = q') {q : Nat × Nat × Int} {seen : List Nat} (hq : q ∈ l) (hs : q.1 ∉ seen) :
    (l.filter fun q => !seen.contains q.1).length = (l.filter fun q' => !(seen ++ [q.1]).contains q'.1).length + 1 := by
  have e : (l.filter fun q' => !(seen ++ [q.1]).contains q'.1) = (l.filter fun q => !seen.contains q.1).filter fun q' => q' != q := by
    rw [List.filter_filter]
    apply List.filter_congr
    intro q' hq'
    have : (q'.1 == q.1) = (q' == q) := by
      rw [Bool.eq_iff_iff, beq_iff_eq, beq_iff_eq]; exact ⟨fun e => hi _ hq' _ hq e, fun e => by rw [e]⟩
    simp only [List.contains_eq_mem, List.mem_append, List.mem_singleton, bne, this.symm]
    by_cases h1 : q'.1 ∈ seen <;> by_cases h2 : q'.1 = q.1 <;> simp [h1, h2]
  have hm : q ∈ l.filter fun q => !seen.contains q.1 := List.mem_filter.2 ⟨hq, by simpa using hs⟩
  rw [e, ← List.Nodup.erase_eq_filter (hn.filter _), List.length_erase_of_mem hm]
  have := List.length_pos_of_mem hm
  omega
theorem find_num {q : Nat × Nat × Int} : ∀ {l : List (Nat × Nat × Int)}, q ∈ l → (∀ q' ∈ l, q.1 = q'.1 → q = q') → (l.map entOf).find? (fun e => e.1 == q.1) = some (entOf q)
  | [], h, _ => by simp at h
  | q' :: l, h, hi => by
    by_cases e : q = q'
    · subst e; simp [List.find?, entOf]
    · have h1 : ((entOf q').1 == q.1) = false := by
        simp only [entOf, beq_eq_false_iff_ne]; exact fun h => e (hi q' (by simp) h.symm)
      rw [List.map_cons, List.find?_cons, h1]
      exact find_num (by simpa [e] using h) fun a ha => hi a (by simp [ha])
theorem set_concat (X : List AObj) (c c' : AObj) : (X ++ [c]).set X.length c' = X ++ [c'] := by simp
theorem get_concat (X : List AObj) (c : AObj) : (X ++ [c])[X.length]? = some c := by simp
theorem places_lt : ∀ (rows : List (List Int)) (i : Nat), ∀ p ∈ places rows i, i ≤ p.1 ∧ p.1 < i + rows.length
  | [], i, p, h => by simp [places] at h
  | r :: rows, i, p, h => by
    simp only [places, List.mem_append, List.mem_map] at h
    rcases h with ⟨x, _, rfl⟩ | h
    · simp
    · have := places_lt rows (i + 1) p h
      simp only [List.length_cons]; omega
theorem left_keep {rows : List (List Int)} {seen : List Nat} {q : Nat × Nat × Int} (hq : q ∈ num (places rows 0) 0) (hk : kept rows q.2 = true) : left rows (seen ++ [q.1]) = left rows seen := by
  refine List.filter_congr fun a ha => ?_
  by_cases e : a.1 = q.1
  · have := num_inj _ _ a ha q hq e; subst this; simp [hk]
  · simp [e]
theorem left_drop {rows : List (List Int)} {seen : List Nat} {q : Nat × Nat × Int} (hq : q ∈ num (places rows 0) 0) (hk : kept rows q.2 = false) : left rows (seen ++ [q.1]) = (left rows seen).filter fun q' => !decide (q' = q) := by
  unfold left
  rw [List.filter_filter]
  refine List.filter_congr fun a ha => ?_
  by_cases e : a.1 = q.1
  · have := num_inj _ _ a ha q hq e; subst this; simp [hk]
  · have : a ≠ q := fun h => e (by rw [h])
    simp [e, this]
set_option maxRecDepth 20000 in
theorem meetings_ok (rows : List (List Int)) (hl : rows.length ≤ 1000) (hr : ∀ r ∈ rows, r.length ≤ 1000) (hn : (places rows 0).Nodup) :
    Sem Go.Proofs.Try.prog (.fn 63) [L2 rows] [] 0 (.map 0) (.map (meets rows) (places rows 0).length :: List.replicate ((places rows 0).length + 1) .dead) := by
  refine fn_sem hmix lk63 rfl ⟨Nat.zero_le _, fun id h => by omega⟩ ?_
  unfold rc63
  conv => whnf
  refine .intro (fun m T H => ∃ i, i ≤ rows.length ∧ m = rows.length - i ∧ T = slots 56 [(0, L2 rows), (3, .map 0), (10, L2 rows), (11, I rows.length), (12, I i)] ∧
    H = [.map (ents (places (rows.take i) 0) 0) (places (rows.take i) 0).length]) rows.length ⟨0, by omega, by omega, rfl, rfl⟩ ?_
  rintro m T H ⟨i, hi, rfl, rfl, rfl⟩
  conv => whnf
  split
  · rename_i hlt
    have hlt : i < rows.length := by simpa using hlt
    conv => whnf
    refine ⟨by omega, ?_⟩
    conv => whnf
    refine nthM _ _ _ hlt ?_
    conv => whnf
    have hrl : rows[i].length ≤ 1000 := hr _ (List.getElem_mem hlt)
    refine .intro (fun m T H => ∃ j, j ≤ rows[i].length ∧ m = rows[i].length - j ∧ T = slots 56 [(0, L2 rows), (3, .map 0), (4, I i), (10, L2 rows), (11, I rows.length), (12, I i), (17, L1 rows[i]), (18, I rows[i].length), (19, I j)] ∧
      H = [.map (ents (places (rows.take i) 0 ++ (rows[i].take j).map fun x => (i, x)) 0) (places (rows.take i) 0 ++ (rows[i].take j).map fun x => (i, x)).length]) rows[i].length ⟨0, by omega, by omega, rfl, by simp⟩ ?_
    rintro m T H ⟨j, hj, rfl, rfl, rfl⟩
    conv => whnf
    split
    · rename_i hlt2
      have hlt2 : j < rows[i].length := by simpa using hlt2
      conv => whnf
      refine ⟨by omega, ?_⟩
      conv => whnf
      refine nthM _ _ _ hlt2 ?_
      conv => whnf
      refine ⟨rfl, _, _, rfl, none, findK_new (i, rows[i][j]) _ 0 0 ?_, ?_⟩
      · have e := places_take rows i hlt
        have hn2 : (places (rows.take (i + 1)) 0).Nodup := by
          have := hn
          rw [← List.take_append_drop (i + 1) rows, places_append] at this
          exact (List.nodup_append.1 this).1
        rw [e] at hn2
        have e2 : rows[i].map (fun x => (i, x)) = (rows[i].take j).map (fun x => (i, x)) ++ (i, rows[i][j]) :: (rows[i].drop (j + 1)).map fun x => (i, x) := by
          rw [← List.map_cons (f := fun x => (i, x)), ← List.map_append, ← List.drop_eq_getElem_cons hlt2, List.take_append_drop]
        rw [e2, ← List.append_assoc] at hn2
        have h3 := (List.nodup_append.1 hn2).2.2
        exact fun hm => h3 _ hm _ (by simp) rfl
      conv => whnf
      refine ⟨rows[i].length - (j + 1), by omega, j + 1, by omega, rfl, by rw [← wrapS j (by omega)]; rfl, ?_⟩
      have e2 : (rows[i].take (j + 1)).map (fun x => (i, x)) = (rows[i].take j).map (fun x => (i, x)) ++ [(i, rows[i][j])] := by
        rw [List.take_succ_eq_append_getElem hlt2, List.map_append]; rfl
      rw [e2, ← List.append_assoc, ents_append (_ ++ _), List.length_append (bs := [_]), Nat.zero_add]
      rfl
    · rename_i hge2
      have hge2 : ¬ j < rows[i].length := by simpa using hge2
      obtain rfl : j = rows[i].length := by omega
      conv => whnf
      refine ⟨rows.length - (i + 1), by omega, i + 1, by omega, rfl, by rw [← wrapS i (by omega)]; rfl, ?_⟩
      rw [places_take rows i hlt, List.take_length]
  · rename_i hge
    have hge : ¬ i < rows.length := by simpa using hge
    obtain rfl : i = rows.length := by omega
    rw [List.take_length]
    conv => whnf
    refine ⟨_, _, rfl, ?_⟩
    conv => whnf
    have fT : ∀ {l : List (Nat × Nat × Int)}, l.filter (fun _ => true) = l := List.filter_eq_self.2 fun _ _ => rfl
    refine .intro (fun m T H => ∃ seen G, m = ((num (places rows 0) 0).filter fun q => !seen.contains q.1).length ∧ m + G.length = (places rows 0).length ∧ T = slots 56 [(0, L2 rows), (3, .map 0), (30, .ptr 1 0)] ∧
      H = .map ((left rows seen).map entOf) (places rows 0).length :: .iter 0 (places rows 0).length seen (places rows 0).length :: G) _ ⟨[], [], rfl, by rw [show (fun q : Nat × Nat × Int => !([] : List Nat).contains q.1) = fun _ => true from rfl, fT, num_length]; rfl, rfl, ?_⟩ ?_
    · simp only [left, List.contains_nil, Bool.not_false, Bool.true_or, fT, ents_num]; rfl
    rintro m T H ⟨seen, G, rfl, hG, rfl, rfl⟩
    conv => whnf
    refine ⟨0, _, seen, _, _, rfl, rfl, Nat.le_refl _, ?_, ?_, ?_⟩
    · intro e he
      obtain ⟨q, hq, rfl⟩ := List.mem_map.1 he
      have := num_lt _ _ q (List.mem_filter.1 hq).1
      simp only [entOf]; omega
    · intro hall
      conv => whnf
      refine ⟨.inr rfl, ?_, rfl⟩
      have hs : ∀ q ∈ num (places rows 0) 0, q.1 ∈ seen := fun q hq => by
        refine Classical.byContradiction fun hc => hc ?_
        exact hall (entOf q) (List.mem_map.2 ⟨q, List.mem_filter.2 ⟨hq, by simp [hc]⟩, rfl⟩)
      have e0 : ((num (places rows 0) 0).filter fun q => !seen.contains q.1) = [] := by
        rw [List.filter_eq_nil_iff]; intro q hq; simpa using hs q hq
      rw [e0, List.length_nil, Nat.zero_add] at hG
      have e1 : left rows seen = (num (places rows 0) 0).filter fun q => kept rows q.2 := List.filter_congr fun q hq => by simp [hs q hq]
      rw [e1]
      refine ⟨by simp [hG], fun id o ho => ?_⟩
      cases id with
      | zero => exact .inr (by simpa [meets] using ho)
      | succ id => exact .inl (List.eq_of_mem_replicate (List.mem_of_getElem? (by simpa using ho)))
    · intro e he hns
      obtain ⟨q, hq, rfl⟩ := List.mem_map.1 he
      conv => whnf
      have hq' := (List.mem_filter.1 hq).1
      refine ⟨0, _, _, _, q.1, _, entOf q, rfl, by simp [entOf], rfl, find_num hq fun a ha e => num_inj _ _ q hq' a (List.mem_filter.1 ha).1 e, ?_⟩
      generalize hX : ((AObj.map ((left rows seen).map entOf) (places rows 0).length :: AObj.iter 0 (places rows 0).length seen (places rows 0).length :: G).set 1 (AObj.iter 0 (places rows 0).length (seen ++ [(entOf q).1]) (places rows 0).length)) = X
      conv => whnf
      refine nthK_of (get_concat X _) ?_
      conv => whnf
      rw [set_concat]
      refine nthK_of (get_concat X _) ?_
      conv => whnf
      have hlt : q.2.1 < rows.length := by have := places_lt rows 0 _ (num_lt _ _ q hq').2.2; omega
      have hm1 := drop_one (num_pair (places rows 0) 0) (num_inj (places rows 0) 0) hq' (seen := seen) hns
      rw [wrapS _ (by omega)]
      cases hd : decide (((q.2.1 + 1 : Nat) : Int) = rows.length) with
      | true =>
        have hd := of_decide_eq_true hd
        have hk : kept rows q.2 = false := by
          unfold kept; rw [List.getElem?_eq_none (by omega)]
        conv => whnf
        refine nthK_of (get_concat X _) ?_
        conv => whnf
        obtain ⟨k, hk1, hk2⟩ := findK_at q (left rows seen) 0 hq (fun a ha e => num_inj2 _ _ hn q hq' a (List.mem_filter.1 ha).1 e) ((num_pair _ _).filter _)
        rw [Nat.zero_add] at hk1
        refine ⟨rfl, _, _, (by subst hX; rfl : (X ++ [AObj.cells [(I q.2.1).settle, (I q.2.2).settle]])[0]? = some (.map ((left rows seen).map entOf) (places rows 0).length)), some k, hk1, ?_⟩
        conv => whnf
        exact ⟨_, by rw [hm1]; exact Nat.lt_succ_self _, seen ++ [q.1], G ++ [.cells [I q.2.1, I q.2.2]], rfl, by rw [List.length_append, List.length_singleton]; omega, rfl, by rw [hk2, ← left_drop hq' hk]; subst hX; rfl⟩
      | false =>
        have hd := of_decide_eq_false hd
        have hi : q.2.1 + 1 < rows.length := by omega
        conv => whnf
        refine nthK_of (get_concat X _) ?_
        conv => whnf
        rw [wrapS _ (by omega)]
        conv => whnf
        refine ⟨⟨by omega, by omega⟩, ?_⟩
        conv => whnf
        refine nthM _ _ _ hi ?_
        conv => whnf
        refine nthK_of (get_concat X _) ?_
        conv => whnf
        refine ⟨?_, _, contains_ok rows[q.2.1 + 1] q.2.2 (by have := hr _ (List.getElem_mem hi); omega), fun p hp => by simp at hp, ?_⟩
        · simp only [List.all_cons, List.all_nil, Bool.and_true, Bool.and_eq_true]; exact ⟨pure_L1 6 _, rfl⟩
        have hkept : kept rows q.2 = has rows[q.2.1 + 1] q.2.2 := by
          unfold kept; rw [List.getElem?_eq_getElem hi]
        rw [← hkept]
        conv => whnf
        cases hk : kept rows q.2 with
        | false =>
          conv => whnf
          refine nthK_of (get_concat X _) ?_
          conv => whnf
          obtain ⟨k, hk1, hk2⟩ := findK_at q (left rows seen) 0 hq (fun a ha e => num_inj2 _ _ hn q hq' a (List.mem_filter.1 ha).1 e) ((num_pair _ _).filter _)
          rw [Nat.zero_add] at hk1
          refine ⟨rfl, _, _, (by subst hX; rfl : (X ++ [AObj.cells [(I q.2.1).settle, (I q.2.2).settle]])[0]? = some (.map ((left rows seen).map entOf) (places rows 0).length)), some k, hk1, ?_⟩
          conv => whnf
          exact ⟨_, by rw [hm1]; exact Nat.lt_succ_self _, seen ++ [q.1], G ++ [.cells [I q.2.1, I q.2.2]], rfl, by rw [List.length_append, List.length_singleton]; omega, rfl, by rw [hk2, ← left_drop hq' hk]; subst hX; rfl⟩
        | true =>
          conv => whnf
          exact ⟨_, by rw [hm1]; exact Nat.lt_succ_self _, seen ++ [q.1], G ++ [.cells [I q.2.1, I q.2.2]], rfl, by rw [List.length_append, List.length_singleton]; omega, rfl, by rw [left_keep hq' hk]; subst hX; rfl⟩
end Go.Proofs.Ytlcebaejlnpdeaa.Ab

/-
  Contracts: CheckOrders, Through, Distance.
-/
namespace Go.Proofs.Ytlcebaejlnpdeaa.Ab
open Go
set_option maxRecDepth 20000
theorem num_filter (k : Nat × Int → Bool) : ∀ (l : List (Nat × Int)) (b : Nat), ((num l b).filter fun q => k q.2).length = (l.filter k).length
  | [], b => rfl
  | p :: l, b => by
    simp only [num, List.filter_cons]
    by_cases h : k p = true <;> simp [h, num_filter k l]
theorem kept_map (all : List (List Int)) (i : Nat) (r : List Int) (next : List Int) (h : all[i + 1]? = some next) : ((r.map fun x => (i, x)).filter (kept all)).length = common r next := by
  unfold common
  induction r with
  | nil => rfl
  | cons x r ih =>
    simp only [List.map_cons, List.filter_cons]
    have e : kept all (i, x) = has next x := by unfold kept; rw [h]
    rw [e]
    by_cases hx : has next x = true <;> simp [hx, ih]
theorem kept_last (all : List (List Int)) (i : Nat) (r : List Int) (h : all[i + 1]? = none) : ((r.map fun x => (i, x)).filter (kept all)).length = 0 := by
  rw [List.length_eq_zero_iff, List.filter_eq_nil_iff]
  intro p hp
  obtain ⟨x, _, rfl⟩ := List.mem_map.1 hp
  simp [kept, h]
theorem places_meet (all : List (List Int)) : ∀ (l : List (List Int)) (i : Nat), all.drop i = l → ((places l i).filter (kept all)).length = meetN l
  | [], i, _ => rfl
  | r :: l, i, h => by
    have hd : all.drop (i + 1) = l := by rw [← List.drop_drop, h]; rfl
    have ih := places_meet all l (i + 1) hd
    simp only [places, List.filter_append, List.length_append, ih]
    have hn : all[i + 1]? = l[0]? := by rw [← hd, List.getElem?_drop] <;> rfl
    cases l with
    | nil => rw [kept_last all i r (by simpa using hn)] <;> rfl
    | cons s l => rw [kept_map all i r s (by simpa using hn)] <;> rfl
theorem meets_length (rows : List (List Int)) : (meets rows).length = meetN rows := by
  unfold meets
  rw [List.length_map, num_filter (kept rows), places_meet rows rows 0 rfl]
theorem seamsGo_inc {layer : List Int} (hw : ∀ x ∈ layer, 1 ≤ x) : ∀ (l : List Int) (a : Int), (∀ x ∈ l, 0 ≤ x ∧ x < layer.length) → (∀ x ∈ seamsGo layer a l, a < x) ∧ (seamsGo layer a l).Pairwise (· < ·)
  | [], a, _ => by simp [seamsGo]
  | i :: l, a, h => by
    obtain ⟨h0, e⟩ := getD_of (h i (by simp)).1 (h i (by simp)).2
    have h1 : 1 ≤ layer.getD i.toNat 0 := by rw [e]; exact hw _ (List.getElem_mem h0)
    obtain ⟨k1, k2⟩ := seamsGo_inc hw l (a + layer.getD i.toNat 0) fun x hx => h x (by simp [hx])
    simp only [seamsGo, List.mem_cons, List.pairwise_cons]
    refine ⟨?_, k1, k2⟩
    rintro x (rfl | hx)
    · omega
    · have := k1 x hx; omega
theorem places_nodup : ∀ (l : List (List Int)) (i : Nat), (∀ r ∈ l, r.Nodup) → (places l i).Nodup
  | [], i, _ => by simp [places]
  | r :: l, i, h => by
    simp only [places]
    refine List.nodup_append.2 ⟨?_, places_nodup l (i + 1) fun s hs => h s (by simp [hs]), ?_⟩
    · exact List.pairwise_map.2 ((h r (by simp)).imp fun hab e => hab (by simpa using e))
    · intro a ha b hb e
      obtain ⟨x, _, rfl⟩ := List.mem_map.1 ha
      have := places_lt l (i + 1) b hb
      rw [← e] at this; simp only at this; omega
theorem seamsBy_inc {p o : List (List Int)} (hv : Val p) (ho : Ords p o) : ∀ r ∈ seamsBy p o, r.Pairwise (· < ·) := by
  intro r hr
  obtain ⟨i, hi, rfl⟩ := List.mem_iff_getElem.1 hr
  have hl := seamsBy_length ho
  have h1 : i < p.length := by omega
  have h2 : i < o.length := by have := ho.len; omega
  rw [seamsBy_get i hi h1 h2]
  exact (seamsGo_inc (fun x hx => (hv.w _ (List.getElem_mem h1) x hx).1) _ 0 fun x hx => (ho.inL hv i h2 h1).r x (List.dropLast_subset _ hx)).2
theorem inc_nodup {l : List Int} (h : l.Pairwise (· < ·)) : l.Nodup := h.imp fun hab e => by omega
/-- The call that makes the map of meetings. -/
theorem meet_call (rows : List (List Int)) (hl : rows.length ≤ 1000) (hr : ∀ r ∈ rows, r.length ≤ 1000) (hn : (places rows 0).Nodup) (H : List AObj) (lo : Nat) :
    CallS Go.Proofs.Try.prog 2 lo (.fn 63) [L2 rows] H (.map H.length) (H ++ [.map (meets rows) (places rows 0).length]) :=
  call2m (by simp only [List.all_cons, List.all_nil, Bool.and_true]; exact pure_L2 5 rows) (fun j i k v h => by
    have := List.mem_of_getElem? h
    unfold meets at this
    obtain ⟨q, _, e⟩ := List.mem_map.1 this
    simp only [entOf, Prod.mk.injEq] at e
    obtain ⟨_, rfl, rfl⟩ := e
    exact ⟨rfl, rfl⟩) (meetings_ok rows hl hr hn) H lo
theorem pmeet_ok (p o : List (List Int)) (hf : Fit p o) : PO 21 [P1 p, L2 o] (.tuple [I (meetOf p o), I (ordErr p o)]) := by
  refine fn_pure hmix lk21 rfl rfl ?_
  unfold rc21
  conv => whnf
  refine ⟨by first | rfl | simp only [List.all_cons, List.all_nil, pu0, pub, pu1, pu2, pu1', pu2', pun, puf, puP, puP', puQ, puQ', Bool.and_true, Bool.and_self], _, joined_ok p o hf, ?_⟩
  conv => whnf
  refine dcase (fun h => ?_) (fun h => ?_)
  · conv => whnf
    exact ret_pure (.inr rfl) rfl (by rw [show meetOf p o = 0 from if_neg h]; rfl)
  · have h := Classical.not_not.1 h
    obtain ⟨hv, ho⟩ := ordErr_zero.1 h
    have hl := seamsBy_length ho
    have hq := seamsBy_pos hv ho
    have hi := seamsBy_inc hv ho
    have h4 := hv.n4
    rw [show meetOf p o = meetN (seamsBy p o) from if_pos h, h, show seamsE p o = seamsBy p o from if_pos h]
    generalize seamsBy p o = l at hl hq hi
    conv => whnf
    refine ⟨_, _, meet_call l (by omega) (fun r hr => by have := (hq r hr).2; omega) (places_nodup l 0 fun r hr => inc_nodup (hi r hr)) _ _, ?_⟩
    conv => whnf
    refine ⟨_, _, rfl, ?_⟩
    conv => whnf
    exact ret_pure (.inr rfl) rfl (by rw [← meets_length]; rfl)
end Go.Proofs.Ytlcebaejlnpdeaa.Ab

/-
  Plain words of layer 5: all orders.
-/
namespace Go.Proofs.Ytlcebaejlnpdeaa.Ab
/-- Orders of so many that begin so; how many are left. -/
def grow (n : Nat) : Nat → List Int → List (List Int)
  | 0, b => [b]
  | f + 1, b => (List.range n).flatMap fun (i : Nat) => if has b i = true then [] else grow n f (b ++ [(i : Int)])
def perms (n : Nat) : List (List Int) := grow n n []
theorem grow_mem (n : Nat) : ∀ (f : Nat) (b : List Int), (∀ x ∈ b, 0 ≤ x ∧ x < n) → b.Nodup → ∀ l ∈ grow n f b, l.length = b.length + f ∧ (∀ x ∈ l, 0 ≤ x ∧ x < n) ∧ l.Nodup ∧ b <+: l
  | 0, b, hb, hn, l, hl => by
    simp only [grow, List.mem_singleton] at hl; subst hl
    exact ⟨rfl, hb, hn, List.prefix_refl _⟩
  | f + 1, b, hb, hn, l, hl => by
    simp only [grow, List.mem_flatMap, List.mem_range] at hl
    obtain ⟨i, hi, hl⟩ := hl
    split at hl
    · simp at hl
    · rename_i hh
      have hni : (i : Int) ∉ b := fun h => hh (has_iff.2 h)
      obtain ⟨k1, k2, k3, k4⟩ := grow_mem n f (b ++ [(i : Int)]) (fun x hx => by
        rcases List.mem_append.1 hx with h | h
        · exact hb x h
        · simp at h; subst h; omega) (by
        rw [List.nodup_append]
        exact ⟨hn, by simp, fun a ha c hc => by simp at hc; subst hc; intro e; exact hni (e ▸ ha)⟩) l hl
      exact ⟨by simp at k1; omega, k2, k3, (List.prefix_append b _).trans k4⟩
theorem perms_mem {n : Nat} {l : List Int} (h : l ∈ perms n) : l.length = n ∧ (∀ x ∈ l, 0 ≤ x ∧ x < n) ∧ l.Nodup := by
  have := grow_mem n n [] (by simp) List.nodup_nil l h
  exact ⟨by simpa using this.1, this.2.1, this.2.2.1⟩
theorem perms_ord {n : Nat} {l : List Int} (h : l ∈ perms n) : isOrd l n = true := by
  obtain ⟨h1, h2, h3⟩ := perms_mem h
  exact isOrd_iff.2 ⟨h1, h2, h3⟩
theorem grow_of (n : Nat) : ∀ (f : Nat) (b l : List Int), l.length = b.length + f → (∀ x ∈ l, 0 ≤ x ∧ x < n) → l.Nodup → b <+: l → l ∈ grow n f b
  | 0, b, l, hl, _, _, hp => by
    rw [List.IsPrefix.eq_of_length hp (by simpa using hl.symm)]; simp [grow]
  | f + 1, b, l, hl, hr, hn, hp => by
    obtain ⟨t, rfl⟩ := hp
    cases t with
    | nil => simp at hl
    | cons x t =>
      have hx := hr x (by simp)
      simp only [grow, List.mem_flatMap, List.mem_range]
      refine ⟨x.toNat, by omega, ?_⟩
      rw [show ((x.toNat : Nat) : Int) = x by omega]
      have hnx : x ∉ b := fun h => by
        rw [List.nodup_append] at hn
        exact hn.2.2 x h x (by simp) rfl
      rw [if_neg (fun h => hnx (has_iff.1 h))]
      refine grow_of n f (b ++ [x]) _ (by simp at hl ⊢; omega) hr hn ⟨t, by simp⟩
theorem perms_of {n : Nat} {l : List Int} (h : isOrd l n = true) : l ∈ perms n := by
  obtain ⟨h1, h2, h3⟩ := isOrd_iff.1 h
  exact grow_of n n [] l (by simpa using h1) h2 h3 (List.nil_prefix)
theorem flatMap_len {α β : Type} (g : α → List β) (m : Nat) : ∀ (l : List α), (∀ x ∈ l, (g x).length ≤ m) → (l.flatMap g).length ≤ l.length * m
  | [], _ => by simp
  | x :: l, h => by
    have h1 := h x (by simp)
    have h2 := flatMap_len g m l fun y hy => h y (by simp [hy])
    rw [List.flatMap_cons, List.length_append, List.length_cons, Nat.succ_mul]; omega
theorem grow_len (n : Nat) : ∀ (f : Nat) (b : List Int), (grow n f b).length ≤ n ^ f
  | 0, b => by simp [grow]
  | f + 1, b => by
    have := flatMap_len (fun (i : Nat) => if has b i = true then [] else grow n f (b ++ [(i : Int)])) (n ^ f) (List.range n) fun i _ => by
      split
      · simp
      · exact grow_len n f _
    rw [List.length_range] at this
    rw [Nat.pow_succ, Nat.mul_comm]; exact this
theorem pow_le {n f : Nat} (hn : n ≤ 5) (hf : f ≤ 5) : n ^ f ≤ 3125 := by
  calc n ^ f ≤ 5 ^ f := Nat.pow_le_pow_left hn f
    _ ≤ 5 ^ 5 := Nat.pow_le_pow_right (by omega) hf
    _ = 3125 := by decide
theorem perms_len {n : Nat} (hn : n ≤ 5) : (perms n).length ≤ 3125 := Nat.le_trans (grow_len n n []) (pow_le hn hn)
/-! ### The next order -/
/-- The last place, below this one, that does not fall. -/
def rise (l : List Int) : Nat → Option Nat
  | 0 => none
  | i + 1 => if l.getD (i + 1) 0 < l.getD i 0 then rise l i else some i
/-- The last place whose number is not below a number. -/
def last (l : List Int) (x : Int) : Nat → Nat
  | 0 => 0
  | k + 1 => if l.getD (k + 1) 0 < x then last l x k else k + 1
def swap (l : List Int) (i k : Nat) : List Int := (l.set i (l.getD k 0)).set k (l.getD i 0)
def turn (l : List Int) (i : Nat) : List Int := l.take i ++ (l.drop i).reverse
def succ? (l : List Int) : Option (List Int) := match rise l (l.length - 1) with
  | none => none
  | some i => some (turn (swap l i (last l (l.getD i 0) (l.length - 1))) (i + 1))
/-- Each order leads to the next one, the last one to none. -/
def chain : List (List Int) → Bool
  | [] => false
  | [l] => (succ? l).isNone
  | a :: b :: r => decide (succ? a = some b) && chain (b :: r)
theorem chain1 : chain (perms 1) = true := by decide +kernel
theorem chain2 : chain (perms 2) = true := by decide +kernel
theorem chain3 : chain (perms 3) = true := by decide +kernel
theorem chain4 : chain (perms 4) = true := by decide +kernel
theorem chain5 : chain (perms 5) = true := by decide +kernel
theorem chain_all {n : Nat} (h1 : 1 ≤ n) (h5 : n ≤ 5) : chain (perms n) = true := by
  obtain rfl | rfl | rfl | rfl | rfl : n = 1 ∨ n = 2 ∨ n = 3 ∨ n = 4 ∨ n = 5 := by omega
  · exact chain1
  · exact chain2
  · exact chain3
  · exact chain4
  · exact chain5
theorem chain_next : ∀ (L : List (List Int)), chain L = true → ∀ (r : Nat) (h : r < L.length), succ? L[r] = if h' : r + 1 < L.length then some L[r + 1] else none
  | [], hc, r, h => by simp at h
  | [l], hc, r, h => by
    have : r = 0 := by simpa using h
    subst this
    simpa [chain] using hc
  | a :: b :: t, hc, r, h => by
    simp only [chain, Bool.and_eq_true, decide_eq_true_eq] at hc
    cases r with
    | zero => simp [hc.1]
    | succ r =>
      have := chain_next (b :: t) hc.2 r (by simpa using h)
      simpa using this
theorem first_perm {n : Nat} (h1 : 1 ≤ n) (h5 : n ≤ 5) : ∃ h : 0 < (perms n).length, (perms n)[0] = (List.range n).map Int.ofNat := by
  obtain rfl | rfl | rfl | rfl | rfl : n = 1 ∨ n = 2 ∨ n = 3 ∨ n = 4 ∨ n = 5 := by omega
  all_goals exact ⟨by decide +kernel, by decide +kernel⟩
end Go.Proofs.Ytlcebaejlnpdeaa.Ab

/-
  Plain words of layer 5: the fewest meetings, as the definitions reckon them.
-/
namespace Go.Proofs.Ytlcebaejlnpdeaa.Ab
def seamA (layer : List Int) : List (List Int) := (perms layer.length).map (seamsOf layer)
/-- The least of what a row of seams costs with each next one. -/
def minJ (s : List Int) (nx : List (List Int × Int)) : Int := nx.foldl (fun m x => min m ((common s x.1 : Int) + x.2)) 100
/-- For each order of the first layer, the fewest meetings with all layers behind it. -/
def costs : List (List Int) → List Int
  | [] => []
  | [a] => (perms a.length).map fun _ => 0
  | a :: b :: r => (seamA a).map fun s => minJ s (List.zip (seamA b) (costs (b :: r)))
theorem drop_cons {α : Type} (p : List α) (i : Nat) (h : i < p.length) : p.drop i = p[i] :: p.drop (i + 1) := List.drop_eq_getElem_cons h
theorem perms_pos {n : Nat} (h1 : 1 ≤ n) (h5 : n ≤ 5) : 0 < (perms n).length := (first_perm h1 h5).1
/-- The least of all. -/
def leastOf (l : List Int) : Int := l.foldl min (l.headD 0)
def fewestOf (p : List (List Int)) : Int := leastOf (costs p)
end Go.Proofs.Ytlcebaejlnpdeaa.Ab

/-
  Contracts: all orders, all seams.
-/
namespace Go.Proofs.Ytlcebaejlnpdeaa.Ab
open Go
set_option maxRecDepth 20000
theorem perm_inL {layer : List Int} (hs : Sm layer) {o : List Int} (h : o ∈ perms layer.length) (h5 : layer.length ≤ 5) : InL layer o := by
  obtain ⟨h1, h2, _⟩ := perms_mem h
  exact ⟨hs, by omega, h2⟩
end Go.Proofs.Ytlcebaejlnpdeaa.Ab

/-
  Contracts: the definitions' fewest meetings.
-/
namespace Go.Proofs.Ytlcebaejlnpdeaa.Ab
open Go
set_option maxRecDepth 20000
set_option maxHeartbeats 4000000
abbrev nilF : AV := .lst [] 0 .full
theorem repl1 (z : AV) : ∀ n : Nat, repl n [z] = List.replicate n z
  | 0 => rfl
  | n + 1 => by simp [repl, repl1 z n, List.replicate_succ]
end Go.Proofs.Ytlcebaejlnpdeaa.Ab

/-
  Contracts: the definitions' Fewest, Orders, Pair.
-/
namespace Go.Proofs.Ytlcebaejlnpdeaa.Ab
open Go
set_option maxRecDepth 20000
set_option maxHeartbeats 4000000
/-- What Fewest, and Orders, and Pair return. -/
def fewE (p : List (List Int)) : Int := if checkP p = 0 then fewestOf p else 0
theorem cut2 (l : List (List Int)) (k : Nat) : AV.lst (((l.map L1).drop ((k : Int).toNat * 1)).take ((((k + 2 : Nat) : Int).toNat - (k : Int).toNat) * 1)) (((k + 2 : Nat) : Int).toNat - (k : Int).toNat) .shared = .lst (((l.drop k).take 2).map L1) 2 .shared := by
  have e : ((k + 2 : Nat) : Int).toNat - (k : Int).toNat = 2 := by omega
  rw [e]
  simp [List.map_take, List.map_drop]
theorem L2_two (l : List (List Int)) (k : Nat) (h : k + 2 ≤ l.length) : AV.lst (((l.drop k).take 2).map L1) 2 .shared = L2 ((l.drop k).take 2) := by
  simp [L2]; omega
theorem Val.sub {p : List (List Int)} (hv : Val p) (k : Nat) (h : k + 2 ≤ p.length) : Val ((p.drop k).take 2) := by
  have hm : ∀ l ∈ (p.drop k).take 2, l ∈ p := fun l hl => List.mem_of_mem_drop (List.mem_of_mem_take hl)
  have hl : ((p.drop k).take 2).length = 2 := by simp; omega
  refine ⟨by omega, by omega, fun l h => hv.s1 l (hm l h), fun l h => hv.s5 l (hm l h), fun l h => hv.w l (hm l h), fun l h => ?_⟩
  rw [hv.eq l (hm l h)]
  have e := headD0 (l := (p.drop k).take 2) [] (by omega)
  rw [e]
  exact (hv.eq _ (hm _ (List.getElem_mem _))).symm
def pairErr (p : List (List Int)) (x : Int) : Int := if checkP p ≠ 0 then checkP p else if x < 0 ∨ (p.length : Int) - 1 ≤ x then 2 else 0
def pairV (p : List (List Int)) (x : Int) : Int := if pairErr p x = 0 then fewestOf ((p.drop x.toNat).take 2) else 0
end Go.Proofs.Ytlcebaejlnpdeaa.Ab

/-
  Plain words of layer 5: a list whose end is turned round, step by step.
-/
namespace Go.Proofs.Ytlcebaejlnpdeaa.Ab
/-- The part from off on, with its t outer numbers changed on either side. -/
def revT (g : List Int) (off t : Nat) : List Int := (List.range g.length).map fun x => if off ≤ x ∧ (x - off < t ∨ g.length - t ≤ x) then g.getD (off + g.length - 1 - x) 0 else g.getD x 0
theorem revT_len (g : List Int) (off t : Nat) : (revT g off t).length = g.length := by simp [revT]
theorem revT_get (g : List Int) (off t x : Nat) (h : x < g.length) : (revT g off t)[x]? = some (if off ≤ x ∧ (x - off < t ∨ g.length - t ≤ x) then g.getD (off + g.length - 1 - x) 0 else g.getD x 0) := by
  simp [revT, h]
theorem revT_zero (g : List Int) (off : Nat) : revT g off 0 = g := by
  apply List.ext_getElem?
  intro x
  by_cases h : x < g.length
  · rw [revT_get g off 0 x h, if_neg (by omega)]
    simp [h, List.getD_eq_getElem?_getD]
  · rw [List.getElem?_eq_none (by rw [revT_len]; omega), List.getElem?_eq_none (by omega)]
theorem revT_step (g : List Int) (off t : Nat) (ht : off + t < g.length - 1 - t) : ((revT g off t).set (off + t) (g.getD (g.length - 1 - t) 0)).set (g.length - 1 - t) (g.getD (off + t) 0) = revT g off (t + 1) := by
  apply List.ext_getElem?
  intro x
  by_cases h : x < g.length
  · rw [revT_get g off (t + 1) x h]
    by_cases h1 : x = g.length - 1 - t
    · subst h1
      rw [List.getElem?_set_self (by rw [List.length_set, revT_len]; omega), if_pos (by omega)]
      congr 2; omega
    · rw [List.getElem?_set_ne (by omega)]
      by_cases h2 : x = off + t
      · subst h2
        rw [List.getElem?_set_self (by rw [revT_len]; omega), if_pos (by omega)]
        congr 2; omega
      · rw [List.getElem?_set_ne (by omega), revT_get g off t x h]
        by_cases h3 : off ≤ x ∧ (x - off < t ∨ g.length - t ≤ x)
        · rw [if_pos h3, if_pos (by omega)]
        · rw [if_neg h3, if_neg (by omega)]
  · rw [List.getElem?_eq_none (by simp [revT_len]; omega), List.getElem?_eq_none (by rw [revT_len]; omega)]
theorem revT_end (g : List Int) (off t : Nat) (ho : off ≤ g.length) (ht : g.length - 1 - t ≤ off + t) : revT g off t = turn g off := by
  apply List.ext_getElem?
  intro x
  unfold turn
  by_cases h : x < g.length
  · rw [revT_get g off t x h]
    by_cases h1 : x < off
    · rw [if_neg (by omega), List.getElem?_append_left (by simp; omega), List.getElem?_take, if_pos h1]
      simp [h, List.getD_eq_getElem?_getD]
    · rw [List.getElem?_append_right (by simp; omega), List.length_take, Nat.min_eq_left ho, List.getElem?_reverse (by simp; omega), List.getElem?_drop, List.length_drop]
      have e : off + (g.length - off - 1 - (x - off)) = off + g.length - 1 - x := by omega
      rw [e]
      have hl : off + g.length - 1 - x < g.length := by omega
      by_cases h3 : off ≤ x ∧ (x - off < t ∨ g.length - t ≤ x)
      · rw [if_pos h3]; simp [hl, List.getD_eq_getElem?_getD]
      · rw [if_neg h3]
        have : x = off + g.length - 1 - x := by omega
        rw [← this]; simp [h, List.getD_eq_getElem?_getD]
  · rw [List.getElem?_eq_none (by rw [revT_len]; omega), List.getElem?_eq_none (by simp; omega)]
end Go.Proofs.Ytlcebaejlnpdeaa.Ab

/-
  Contracts: slices.Clone, slices.Reverse; all orders of a layer, one behind another.
-/
namespace Go.Proofs.Ytlcebaejlnpdeaa.Ab
open Go
set_option maxRecDepth 20000
set_option maxHeartbeats 4000000
theorem clone_ok (l : List Int) (h0 : 0 < l.length) (hl : l.length ≤ 1000000) : PO 108 [L1 l] (U1 l) := by
  refine fn_pure hmix lk108 rfl (pu1 _ _ _) ?_
  unfold rc108
  conv => whnf
  obtain ⟨x, r, rfl⟩ : ∃ x r, l = x :: r := by
    cases l with
    | nil => simp at h0
    | cons x r => exact ⟨x, r, rfl⟩
  refine ⟨.bool false, [], fun C => by kernel_rfl, ?_⟩
  conv => whnf
  refine ⟨by simp, by omega, ?_⟩
  conv => whnf
  refine ⟨by simp, ?_⟩
  conv => whnf
  refine ⟨by omega, ?_⟩
  conv => whnf
  exact ret_pure (.inr rfl) (pu1 _ _ _) (by rw [Nat.zero_add]; rfl)
theorem I_get (l : List Int) (i : Nat) (h : i < l.length) : (l.map I)[i]? = some (I (l.getD i 0)) := by
  simp [h, List.getD_eq_getElem?_getD]
theorem reverse_sem (g : List Int) (off : Nat) (ho : off < g.length) (hg : g.length ≤ 1000000) {H : List AObj} {id lo : Nat} (hlo : lo ≤ id) (hH : H[id]? = some (.cells (g.map I))) :
    Sem Go.Proofs.Try.prog (.fn 109) [.ref id off (g.length - off) none 1] H lo (.tuple []) (H.set id (.cells ((turn g off).map I))) := by
  have hid := (List.getElem?_eq_some_iff.1 hH).1
  refine fn_sem hmix lk109 rfl ⟨by simp, fun j h1 h2 => by rw [List.getElem?_set_ne (by omega)]⟩ ?_
  unfold rc109
  conv => whnf
  rw [show IntKind.i64.wrap (((g.length - off : Nat) : Int) - 1) = ((g.length - off - 1 : Nat) : Int) by rw [wrapI _ (by omega) (by omega)]; omega]
  have hb : Nat.ble lo id = true := Nat.ble_eq_true_of_le hlo
  have gs : ∀ c : AObj, (H.set id c)[id]? = some c := fun c => by rw [List.getElem?_set_self hid]
  have gss : ∀ c d : AObj, ((H.set id c).set id d)[id]? = some d := fun c d => by rw [List.set_set, gs]
  refine .intro (fun m T H' => ∃ t, 2 * t ≤ g.length - off ∧ m = g.length - t ∧ T = slots 28 [(0, .ref id off (g.length - off) none 1), (2, I t), (3, I (g.length - off - 1 - t : Nat))] ∧ H' = H.set id (.cells ((revT g off t).map I))) g.length ⟨0, by omega, rfl, rfl, ?_⟩ ?_
  · rw [revT_zero]
    obtain ⟨h1, h2⟩ := List.getElem?_eq_some_iff.1 hH
    rw [← h2, List.set_getElem_self]
  rintro m T H' ⟨t, ht, rfl, rfl, rfl⟩
  conv => whnf
  refine dcase (fun h => ?_) (fun h => ?_)
  · conv => whnf
    have e1 : 0 + off + ((g.length - off - 1 - t : Nat) : Int).toNat * 1 = g.length - 1 - t := by omega
    have e2 : off + ((g.length - off - 1 - t : Nat) : Int).toNat * 1 = g.length - 1 - t := by omega
    have e3 : off + (t : Int).toNat * 1 = off + t := by omega
    refine ⟨by omega, ?_⟩
    conv => whnf
    refine nthK_of (gs _) ?_
    conv => whnf
    refine nthK_of (x := I (g.getD (g.length - 1 - t) 0)) (by rw [e2, List.getElem?_map, revT_get g off t _ (by omega), if_neg (by omega)]; rfl) ?_
    conv => whnf
    refine ⟨by omega, ?_⟩
    conv => whnf
    refine nthK_of (gs _) ?_
    conv => whnf
    refine nthK_of (x := I (g.getD (off + t) 0)) (by rw [e3, List.getElem?_map, revT_get g off t _ (by omega), if_neg (by omega)]; rfl) ?_
    conv => whnf
    refine ⟨by omega, ?_⟩
    conv => whnf
    rw [hb]
    conv => whnf
    refine nthK_of (gs _) ?_
    conv => whnf
    refine updK_of (by rw [List.length_map, revT_len]; omega) ?_
    conv => whnf
    refine ⟨by omega, ?_⟩
    conv => whnf
    rw [hb]
    conv => whnf
    refine nthK_of (gss _ _) ?_
    conv => whnf
    refine updK_of (by rw [List.length_set, List.length_map, revT_len]; omega) ?_
    conv => whnf
    refine ⟨g.length - (t + 1), by omega, t + 1, by omega, rfl, ?_, ?_⟩
    · rw [← wrapS t (by omega), show ((g.length - off - 1 - (t + 1) : Nat) : Int) = IntKind.i64.wrap (((g.length - off - 1 - t : Nat) : Int) - 1) by rw [wrapI _ (by omega) (by omega)]; omega]
      rfl
    · rw [List.set_set, List.set_set, ← revT_step g off t (by omega), e2, e3, List.map_set, List.map_set]
  · conv => whnf
    refine ⟨.inl rfl, ⟨by simp, fun j o hj => ?_⟩, rfl⟩
    rw [revT_end g off t (by omega) (by omega)]
    exact .inr hj
/-! ### all$1 -/
/-- A list that is owned, or lies in an object, becomes an object. -/
def Thawed (u : AV) (H : List AObj) (id : Nat) (H' : List AObj) (l : List Int) : Prop :=
  (u = U1 l ∧ id = H.length ∧ H' = H ++ [.cells (l.map I)]) ∨ (u = .ref id 0 l.length none 1 ∧ H' = H ∧ H[id]? = some (.cells (l.map I)))
theorem thaw_get {u : AV} {H : List AObj} {id : Nat} {H' : List AObj} {l : List Int} (h : Thawed u H id H' l) : H'[id]? = some (.cells (l.map I)) := by
  rcases h with ⟨_, rfl, rfl⟩ | ⟨_, rfl, h⟩
  · exact get_concat _ _
  · exact h
theorem call1 {P : Program} {lo : Nat} {tgt : Tgt} {xs : List AV} {H H' : List AObj} {v : AV} (h : Sem P tgt xs H lo v H') : CallS P 1 lo tgt xs H v H' :=
  ⟨oneC tgt xs H lo v H', oneC_sound h, by simp only [callTo, oneC_self]⟩
theorem shz_ref {X : List AObj} {id : Nat} {l : List Int} (h : X[id]? = some (.cells (l.map I))) : shz X (.ref id 0 l.length none 1) = L1 l := by
  have e : rowOf X (.ref id 0 l.length none 1) = some (l.map I) := by
    simp only [rowOf, h, List.length_map, Nat.zero_add, Nat.mul_one, Nat.le_refl, if_true, List.drop_zero]
    rw [List.take_of_length_le (by simp), List.map_map]
    rfl
  simp only [shz, shz0, e]
  rfl
theorem scal_U1 (l : List Int) : scal (U1 l) = true := by
  show (l.map I).all scal0 = true
  rw [List.all_eq_true]; intro u hu; obtain ⟨x, _, rfl⟩ := List.mem_map.1 hu; rfl
/-- How many objects rounds have left. -/
def sumM (M : Nat → Nat) : Nat → Nat
  | 0 => 0
  | r + 1 => sumM M r + M r
theorem swap_len (l : List Int) (i k : Nat) : (swap l i k).length = l.length := by simp [swap]
theorem range_U1 (i : Nat) : (List.range (i + 1)).map Int.ofNat = (List.range i).map Int.ofNat ++ [(i : Int)] := by
  rw [List.range_succ, List.map_append]; rfl
theorem rng_full (i : Nat) : AV.lst ((((List.range i).map Int.ofNat).map I).take ((((List.range i).map Int.ofNat).length : Int).toNat * 1)) (((List.range i).map Int.ofNat).length : Int).toNat .full = AV.lst (((List.range i).map Int.ofNat).map I) i .full := by
  rw [List.take_of_length_le (by simp)]; simp
theorem U1_snoc' (i : Nat) (x : Int) : AV.lst (((List.range i).map Int.ofNat).map I ++ [I x]) (i + 1) (.uniq 1) = U1 ((List.range i).map Int.ofNat ++ [x]) := by simp [U1]
section
variable (p : List (List Int)) (k : Nat) (hk : k < p.length) (h1 : 1 ≤ p[k].length) (h5 : p[k].length ≤ 5) (hp : p.length ≤ 1000)
variable (A : Nat → List AObj) (M : Nat → Nat) (id lo : Nat) (L : AObj) (hA : ∀ r, (A r).length = id) (hlo : lo ≤ id)
variable (hlow : ∀ r, r ≤ (perms p[k].length).length → ∀ j, j < lo → (A r)[j]? = (A 0)[j]?)
variable (hy : ∀ (r : Nat) (h : r < (perms p[k].length).length) (Y : List AObj), Sem Go.Proofs.Try.prog (.yield id) [U1 (perms p[k].length)[r]] (A r ++ L :: Y) lo (.bool true) (A (r + 1) ++ L :: (Y ++ List.replicate (M r) .dead)))
include hk h1 h5 hp hA hlo hlow hy
theorem all1_sem : Sem Go.Proofs.Try.prog (.fn 107) [.yield id, .lptr [Bn p], .lptr [I k]] (A 0 ++ [L]) lo (.tuple []) (A (perms p[k].length).length ++ L :: List.replicate (1 + sumM M (perms p[k].length).length) .dead) := by
  have hlen := perms_len h5
  obtain ⟨hN, hfirst⟩ := first_perm h1 h5
  have hchain := chain_next _ (chain_all h1 h5)
  have hpl : ∀ r (h : r < (perms p[k].length).length), (perms p[k].length)[r].length = p[k].length := fun r h => (perms_mem (List.getElem_mem h)).1
  refine fn_sem hmix lk107 rfl ⟨by simp [hA], fun j j1 j2 => ?_⟩ ?_
  · rw [List.getElem?_append_left (by rw [hA]; omega), List.getElem?_append_left (by rw [hA]; omega)]
    exact hlow _ (Nat.le_refl _) j j1
  unfold rc107
  conv => whnf
  refine ⟨by omega, ?_⟩
  conv => whnf
  refine nthM _ _ _ (hk) ?_
  conv => whnf
  generalize hn : p[k].length = n at *
  generalize hps : perms n = ps at *
  refine .intro (CI (fun i => slots 89 [(0, .yield id), (4, U1 ((List.range i).map Int.ofNat)), (16, I n), (17, I i)]) n (A 0 ++ [L])) n (ci0 rfl) ?_
  rintro m T H ⟨i, hi, rfl, rfl, rfl⟩
  conv => whnf
  refine dcase (fun h => ?_) (fun h => ?_)
  · have hlt : i < n := by omega
    conv => whnf
    refine ⟨by omega, ?_⟩
    conv => whnf
    rw [rng_full]
    conv => whnf
    refine ⟨rfl, by omega, by omega, by omega, by simp, ?_⟩
    conv => whnf
    exact ciN hlt (by rw [range_U1, ← U1_snoc', ← wrapS i (by omega)] <;> rfl)
  · obtain rfl : i = n := by omega
    rw [← hfirst]
    refine .intro (fun m T H => ∃ r u, ∃ (h : r < ps.length), m = ps.length - r ∧ Thawed u H (id + 1) (A r ++ L :: .cells (ps[r].map I) :: List.replicate (sumM M r) .dead) ps[r] ∧ T = slots 89 [(0, .yield id), (4, u)]) ps.length ⟨0, _, hN, rfl, .inl ⟨rfl, by simp [hA], by simp [sumM]⟩, rfl⟩ ?_
    rintro m T H ⟨r, u, hr, rfl, hT, rfl⟩
    have hlr := hpl r hr
    obtain ⟨X, hX⟩ : ∃ X, X = A r ++ L :: .cells (ps[r].map I) :: List.replicate (sumM M r) .dead := ⟨_, rfl⟩
    rw [← hX] at hT
    have hXl : id + 1 < X.length := by rw [hX]; simp [hA]
    have hXg : X[id + 1]? = some (.cells (ps[r].map I)) := thaw_get hT
    have hyr := hy r hr (.cells (ps[r].map I) :: List.replicate (sumM M r) .dead)
    rw [← hX] at hyr
    obtain ⟨Z, hZ⟩ : ∃ Z, Z = A (r + 1) ++ L :: (.cells (ps[r].map I) :: List.replicate (sumM M r) .dead ++ List.replicate (M r) .dead) := ⟨_, rfl⟩
    rw [← hZ] at hyr
    have hZl : id + 1 < Z.length := by rw [hZ]; simp [hA]
    have hZg : Z[id + 1]? = some (.cells (ps[r].map I)) := by
      rw [hZ, List.getElem?_append_right (by rw [hA]; omega), hA, show id + 1 - id = 1 by omega]; rfl
    have hbl : Nat.ble lo (id + 1) = true := Nat.ble_eq_true_of_le (by omega)
    have hnx := hchain r hr
    have hset : ∀ l : List Int, ∀ h : r + 1 < ps.length, l = ps[r + 1] → Z.set (id + 1) (.cells (l.map I)) = A (r + 1) ++ L :: .cells (ps[r + 1].map I) :: List.replicate (sumM M (r + 1)) .dead := by
      rintro l h rfl
      rw [hZ, List.set_append_right _ _ (by rw [hA]; omega), hA, show id + 1 - id = 1 by omega, ← List.cons_append, sumM]
      simp [List.set_cons_succ, List.replicate_append_replicate]
    have hlast : r + 1 = ps.length → Fgt Z (A ps.length ++ L :: List.replicate (1 + sumM M ps.length) .dead) := by
      intro e
      rw [← e, hZ]
      refine ⟨by simp [sumM, hA]; omega, fun j o hj => ?_⟩
      by_cases hj1 : j < id + 1
      · right
        rw [← hj]
        by_cases hj2 : j < id
        · rw [List.getElem?_append_left (by rw [hA]; omega), List.getElem?_append_left (by rw [hA]; omega)]
        · obtain rfl : j = id := by omega
          rw [List.getElem?_append_right (by rw [hA]; omega), List.getElem?_append_right (by rw [hA]; omega), hA, Nat.sub_self]; rfl
      · left
        rw [List.getElem?_append_right (by rw [hA]; omega), hA] at hj
        obtain ⟨j', rfl⟩ : ∃ j', j = id + (j' + 1) := ⟨j - id - 1, by omega⟩
        rw [show id + (j' + 1) - id = j' + 1 by omega, List.getElem?_cons_succ] at hj
        exact List.eq_of_mem_replicate (List.mem_of_getElem? hj)
    rcases hT with ⟨rfl, hid, hX2⟩ | ⟨rfl, hX2, hXc⟩
    · conv => whnf
      refine .inl ⟨by omega, ?_⟩
      conv => whnf
      rw [← hX2, ← hid]
      refine ⟨_, _, call6 (bs := [L1 ps[r]]) ?_ ?_ (clone_ok ps[r] (by omega) (by omega)) (scal_U1 _), ?_⟩
      · simp only [List.map_cons, List.map_nil, shz_ref hXg]; rfl
      · simp only [List.map_cons, List.map_nil, shz_ref hXg, List.all_cons, List.all_nil, pu1', Bool.and_true]
      conv => whnf
      refine ⟨_, _, call1 hyr, ?_⟩
      conv => whnf
      rw [show IntKind.i64.wrap ((ps[r].length : Int) - 2) = ((ps[r].length - 1 : Nat) : Int) - 1 by rw [wrapI _ (by omega) (by omega)]; omega]
      generalize hl : ps[r] = l at *
      refine .intro (fun m T H => ∃ a, a ≤ l.length - 1 ∧ m = a ∧ rise l (l.length - 1) = rise l a ∧ T = slots 89 [(0, .yield id), (4, .ref (id + 1) 0 l.length none 1), (6, I ((a : Int) - 1))] ∧ H = Z) (l.length - 1) ⟨_, Nat.le_refl _, rfl, rfl, rfl, rfl⟩ ?_
      rintro a T Z1 ⟨_, ha, rfl, hrise, rfl, rfl⟩
      conv => whnf
      refine dcase (fun h1 => ?_) (fun h1 => ?_)
      · obtain ⟨b, rfl⟩ : ∃ b, a = b + 1 := ⟨a - 1, by omega⟩
        rw [show (((b + 1 : Nat) : Int) - 1) = (b : Int) by omega]
        conv => whnf
        refine ⟨by omega, ?_⟩
        conv => whnf
        refine nthK_of hZg ?_
        conv => whnf
        refine nthK_of (x := I (l.getD b 0)) (by rw [show 0 + (b : Int).toNat * 1 = b by omega]; exact I_get l b (by omega)) ?_
        conv => whnf
        rw [wrapS b (by omega)]
        refine ⟨by omega, ?_⟩
        conv => whnf
        refine nthK_of hZg ?_
        conv => whnf
        refine nthK_of (x := I (l.getD (b + 1) 0)) (by rw [show 0 + ((b + 1 : Nat) : Int).toNat * 1 = b + 1 by omega]; exact I_get l (b + 1) (by omega)) ?_
        conv => whnf
        rw [rise] at hrise
        refine dcase (fun h2 => ?_) (fun h2 => ?_)
        · conv => whnf
          refine ⟨b, by omega, b, by omega, rfl, by rw [hrise, if_pos h2], ?_, rfl⟩
          rw [wrapI ((b : Int) - 1) (by omega) (by omega)]
          rfl
        · rw [if_neg h2] at hrise
          conv => whnf
          rw [show IntKind.i64.wrap ((l.length : Int) - 1) = ((l.length - 1 : Nat) : Int) by rw [wrapI _ (by omega) (by omega)]; omega]
          refine .intro (fun m T H => ∃ c, b + 1 ≤ c ∧ c ≤ l.length - 1 ∧ m = c ∧ last l (l.getD b 0) (l.length - 1) = last l (l.getD b 0) c ∧ T = slots 89 [(0, .yield id), (4, .ref (id + 1) 0 l.length none 1), (6, I b), (7, I c)] ∧ H = Z1) (l.length - 1) ⟨_, by omega, Nat.le_refl _, rfl, rfl, rfl, rfl⟩ ?_
          rintro c T Z2 ⟨_, hc1, hc2, rfl, hla, rfl, rfl⟩
          conv => whnf
          refine ⟨by omega, ?_⟩
          conv => whnf
          refine nthK_of hZg ?_
          conv => whnf
          refine nthK_of (x := I (l.getD c 0)) (by rw [show 0 + (c : Int).toNat * 1 = c by omega]; exact I_get l c (by omega)) ?_
          conv => whnf
          refine ⟨by omega, ?_⟩
          conv => whnf
          refine nthK_of hZg ?_
          conv => whnf
          refine nthK_of (x := I (l.getD b 0)) (by rw [show 0 + (b : Int).toNat * 1 = b by omega]; exact I_get l b (by omega)) ?_
          conv => whnf
          obtain ⟨d, rfl⟩ : ∃ d, c = d + 1 := ⟨c - 1, by omega⟩
          rw [last] at hla
          refine dcase (fun h3 => ?_) (fun h3 => ?_)
          · have hd : b + 1 ≤ d := by
              by_cases e : d = b
              · subst e; exact absurd h3 h2
              · omega
            conv => whnf
            refine ⟨d, by omega, d, hd, by omega, rfl, by rw [hla, if_pos h3], ?_, rfl⟩
            rw [show IntKind.i64.wrap (((d + 1 : Nat) : Int) - 1) = (d : Int) by rw [wrapI _ (by omega) (by omega)]; omega]
            rfl
          · rw [if_neg h3] at hla
            have hs : succ? l = some (turn (swap l b (d + 1)) (b + 1)) := by
              unfold succ?; rw [hrise]; simp only [hla]
            have e1 : 0 + (b : Int).toNat * 1 = b := by omega
            have e2 : 0 + ((d + 1 : Nat) : Int).toNat * 1 = d + 1 := by omega
            have gs : ∀ c : AObj, (Z2.set (id + 1) c)[id + 1]? = some c := fun c => by rw [List.getElem?_set_self hZl]
            conv => whnf
            refine ⟨by omega, ?_⟩
            conv => whnf
            refine nthK_of hZg ?_
            conv => whnf
            refine nthK_of (x := I (l.getD (d + 1) 0)) (by rw [e2]; exact I_get l (d + 1) (by omega)) ?_
            conv => whnf
            refine ⟨by omega, ?_⟩
            conv => whnf
            refine nthK_of hZg ?_
            conv => whnf
            refine nthK_of (x := I (l.getD b 0)) (by rw [e1]; exact I_get l b (by omega)) ?_
            conv => whnf
            refine ⟨by omega, ?_⟩
            conv => whnf
            rw [hbl]
            conv => whnf
            refine nthK_of hZg ?_
            conv => whnf
            refine updK_of (by rw [List.length_map]; omega) ?_
            conv => whnf
            refine ⟨by omega, ?_⟩
            conv => whnf
            rw [hbl]
            conv => whnf
            refine nthK_of (gs _) ?_
            conv => whnf
            refine updK_of (by rw [List.length_set, List.length_map]; omega) ?_
            conv => whnf
            rw [List.set_set, e1, e2]
            have hsw : ((l.map I).set b (I (l.getD (d + 1) 0))).set (d + 1) (I (l.getD b 0)) = (swap l b (d + 1)).map I := by
              unfold swap; rw [List.map_set, List.map_set]
            rw [wrapS b (by omega)]
            refine ⟨rfl, by omega, fun _ => ?_, fun h => by omega⟩
            conv => whnf
            have hrev := reverse_sem (swap l b (d + 1)) (b + 1) (by rw [swap_len]; omega) (by rw [swap_len]; omega) (H := Z2.set (id + 1) (.cells ((swap l b (d + 1)).map I))) (id := id + 1) (lo := lo) (by omega) (gs _)
            rw [swap_len, List.set_set] at hrev
            rw [hsw, show 0 + ((b + 1 : Nat) : Int).toNat * 1 = b + 1 by omega]
            refine ⟨_, _, call1 hrev, ?_⟩
            conv => whnf
            rw [hs] at hnx
            split at hnx
            · rename_i hr1
              refine ⟨ps.length - (r + 1), by omega, r + 1, .ref (id + 1) 0 l.length none 1, hr1, rfl, .inr ⟨by rw [hpl _ hr1, hlr], ?_, ?_⟩, rfl⟩
              · rw [← hset _ hr1 (Option.some.inj hnx)]
              · rw [List.getElem?_set_self hZl, Option.some.inj hnx]
            · cases hnx
      · obtain rfl : a = 0 := by omega
        have hs : succ? l = none := by
          unfold succ?; rw [hrise]; rfl
        conv => whnf
        refine ⟨.inr rfl, hlast ?_, rfl⟩
        rw [hs] at hnx
        split at hnx
        · cases hnx
        · omega
    · subst hX2
      conv => whnf
      refine ⟨_, _, call6 (bs := [L1 ps[r]]) ?_ ?_ (clone_ok ps[r] (by omega) (by omega)) (scal_U1 _), ?_⟩
      · simp only [List.map_cons, List.map_nil, shz_ref hXg]; rfl
      · simp only [List.map_cons, List.map_nil, shz_ref hXg, List.all_cons, List.all_nil, pu1', Bool.and_true]
      conv => whnf
      refine ⟨_, _, call1 hyr, ?_⟩
      conv => whnf
      rw [show IntKind.i64.wrap ((ps[r].length : Int) - 2) = ((ps[r].length - 1 : Nat) : Int) - 1 by rw [wrapI _ (by omega) (by omega)]; omega]
      generalize hl : ps[r] = l at *
      refine .intro (fun m T H => ∃ a, a ≤ l.length - 1 ∧ m = a ∧ rise l (l.length - 1) = rise l a ∧ T = slots 89 [(0, .yield id), (4, .ref (id + 1) 0 l.length none 1), (6, I ((a : Int) - 1))] ∧ H = Z) (l.length - 1) ⟨_, Nat.le_refl _, rfl, rfl, rfl, rfl⟩ ?_
      rintro a T Z1 ⟨_, ha, rfl, hrise, rfl, rfl⟩
      conv => whnf
      refine dcase (fun h1 => ?_) (fun h1 => ?_)
      · obtain ⟨b, rfl⟩ : ∃ b, a = b + 1 := ⟨a - 1, by omega⟩
        rw [show (((b + 1 : Nat) : Int) - 1) = (b : Int) by omega]
        conv => whnf
        refine ⟨by omega, ?_⟩
        conv => whnf
        refine nthK_of hZg ?_
        conv => whnf
        refine nthK_of (x := I (l.getD b 0)) (by rw [show 0 + (b : Int).toNat * 1 = b by omega]; exact I_get l b (by omega)) ?_
        conv => whnf
        rw [wrapS b (by omega)]
        refine ⟨by omega, ?_⟩
        conv => whnf
        refine nthK_of hZg ?_
        conv => whnf
        refine nthK_of (x := I (l.getD (b + 1) 0)) (by rw [show 0 + ((b + 1 : Nat) : Int).toNat * 1 = b + 1 by omega]; exact I_get l (b + 1) (by omega)) ?_
        conv => whnf
        rw [rise] at hrise
        refine dcase (fun h2 => ?_) (fun h2 => ?_)
        · conv => whnf
          refine ⟨b, by omega, b, by omega, rfl, by rw [hrise, if_pos h2], ?_, rfl⟩
          rw [wrapI ((b : Int) - 1) (by omega) (by omega)]
          rfl
        · rw [if_neg h2] at hrise
          conv => whnf
          rw [show IntKind.i64.wrap ((l.length : Int) - 1) = ((l.length - 1 : Nat) : Int) by rw [wrapI _ (by omega) (by omega)]; omega]
          refine .intro (fun m T H => ∃ c, b + 1 ≤ c ∧ c ≤ l.length - 1 ∧ m = c ∧ last l (l.getD b 0) (l.length - 1) = last l (l.getD b 0) c ∧ T = slots 89 [(0, .yield id), (4, .ref (id + 1) 0 l.length none 1), (6, I b), (7, I c)] ∧ H = Z1) (l.length - 1) ⟨_, by omega, Nat.le_refl _, rfl, rfl, rfl, rfl⟩ ?_
          rintro c T Z2 ⟨_, hc1, hc2, rfl, hla, rfl, rfl⟩
          conv => whnf
          refine ⟨by omega, ?_⟩
          conv => whnf
          refine nthK_of hZg ?_
          conv => whnf
          refine nthK_of (x := I (l.getD c 0)) (by rw [show 0 + (c : Int).toNat * 1 = c by omega]; exact I_get l c (by omega)) ?_
          conv => whnf
          refine ⟨by omega, ?_⟩
          conv => whnf
          refine nthK_of hZg ?_
          conv => whnf
          refine nthK_of (x := I (l.getD b 0)) (by rw [show 0 + (b : Int).toNat * 1 = b by omega]; exact I_get l b (by omega)) ?_
          conv => whnf
          obtain ⟨d, rfl⟩ : ∃ d, c = d + 1 := ⟨c - 1, by omega⟩
          rw [last] at hla
          refine dcase (fun h3 => ?_) (fun h3 => ?_)
          · have hd : b + 1 ≤ d := by
              by_cases e : d = b
              · subst e; exact absurd h3 h2
              · omega
            conv => whnf
            refine ⟨d, by omega, d, hd, by omega, rfl, by rw [hla, if_pos h3], ?_, rfl⟩
            rw [show IntKind.i64.wrap (((d + 1 : Nat) : Int) - 1) = (d : Int) by rw [wrapI _ (by omega) (by omega)]; omega]
            rfl
          · rw [if_neg h3] at hla
            have hs : succ? l = some (turn (swap l b (d + 1)) (b + 1)) := by
              unfold succ?; rw [hrise]; simp only [hla]
            have e1 : 0 + (b : Int).toNat * 1 = b := by omega
            have e2 : 0 + ((d + 1 : Nat) : Int).toNat * 1 = d + 1 := by omega
            have gs : ∀ c : AObj, (Z2.set (id + 1) c)[id + 1]? = some c := fun c => by rw [List.getElem?_set_self hZl]
            conv => whnf
            refine ⟨by omega, ?_⟩
            conv => whnf
            refine nthK_of hZg ?_
            conv => whnf
            refine nthK_of (x := I (l.getD (d + 1) 0)) (by rw [e2]; exact I_get l (d + 1) (by omega)) ?_
            conv => whnf
            refine ⟨by omega, ?_⟩
            conv => whnf
            refine nthK_of hZg ?_
            conv => whnf
            refine nthK_of (x := I (l.getD b 0)) (by rw [e1]; exact I_get l b (by omega)) ?_
            conv => whnf
            refine ⟨by omega, ?_⟩
            conv => whnf
            rw [hbl]
            conv => whnf
            refine nthK_of hZg ?_
            conv => whnf
            refine updK_of (by rw [List.length_map]; omega) ?_
            conv => whnf
            refine ⟨by omega, ?_⟩
            conv => whnf
            rw [hbl]
            conv => whnf
            refine nthK_of (gs _) ?_
            conv => whnf
            refine updK_of (by rw [List.length_set, List.length_map]; omega) ?_
            conv => whnf
            rw [List.set_set, e1, e2]
            have hsw : ((l.map I).set b (I (l.getD (d + 1) 0))).set (d + 1) (I (l.getD b 0)) = (swap l b (d + 1)).map I := by
              unfold swap; rw [List.map_set, List.map_set]
            rw [wrapS b (by omega)]
            refine ⟨rfl, by omega, fun _ => ?_, fun h => by omega⟩
            conv => whnf
            have hrev := reverse_sem (swap l b (d + 1)) (b + 1) (by rw [swap_len]; omega) (by rw [swap_len]; omega) (H := Z2.set (id + 1) (.cells ((swap l b (d + 1)).map I))) (id := id + 1) (lo := lo) (by omega) (gs _)
            rw [swap_len, List.set_set] at hrev
            rw [hsw, show 0 + ((b + 1 : Nat) : Int).toNat * 1 = b + 1 by omega]
            refine ⟨_, _, call1 hrev, ?_⟩
            conv => whnf
            rw [hs] at hnx
            split at hnx
            · rename_i hr1
              refine ⟨ps.length - (r + 1), by omega, r + 1, .ref (id + 1) 0 l.length none 1, hr1, rfl, .inr ⟨by rw [hpl _ hr1, hlr], ?_, ?_⟩, rfl⟩
              · rw [← hset _ hr1 (Option.some.inj hnx)]
              · rw [List.getElem?_set_self hZl, Option.some.inj hnx]
            · cases hnx
      · obtain rfl : a = 0 := by omega
        have hs : succ? l = none := by
          unfold succ?; rw [hrise]; rfl
        conv => whnf
        refine ⟨.inr rfl, hlast ?_, rfl⟩
        rw [hs] at hnx
        split at hnx
        · cases hnx
        · omega
end
end Go.Proofs.Ytlcebaejlnpdeaa.Ab

/- MADE BY PROGRAM (rc.py): functions, looked up. -/
namespace Go.Proofs.Ytlcebaejlnpdeaa.Ab
open Go
noncomputable def rc116 : RC :=
  .seq (.reg false [I_ 8 [.sl 1] .mv, I_ 9 [.tv 8, .cv (.int .i64 1)] (.bin .add), I_ 6 [.tk 9] .mv]) (.block 0 (.loop (some [i_,i_,i_,o_,o_,o_,i_,o_,o_,o_,o_,o_,o_,o_,o_,o_,o_,o_,o_,o_,o_,o_,o_,o_,o_,o_,o_,o_,o_,o_,o_,o_,o_,o_,o_,o_,o_,o_,o_,o_,o_,o_,o_,o_,o_,o_,o_,o_,o_]) (.seq (.seq (.reg false [I_ 10 [.sl 6] .mv, I_ 11 [.sl 2] .mv, I_ 12 [.tv 10, .tv 11] (.bin .lss)]) (.cond (.sl 12) .skip (.exit 0))) (.seq (.block 1 (.seq (.reg false [I_ 15 [.sl 6] .mv, I_ 7 [.tk 15] .mv])
  (.block 2 (.loop (some [i_,i_,i_,o_,o_,o_,i_,i_,o_,o_,o_,o_,o_,o_,o_,o_,o_,o_,o_,o_,o_,o_,o_,o_,o_,o_,o_,o_,o_,o_,o_,o_,o_,o_,o_,o_,o_,o_,o_,o_,o_,o_,o_,o_,o_,o_,o_,o_,o_]) (.seq (.seq (.reg true [I_ 16 [.sl 7] .mv, I_ 17 [.sl 1] .mv, I_ 18 [.tv 16, .tv 17]
  (.bin .gtr), I_ 19 [.tk 18] .mv, ⟨some 20, [.sl 0], some (19, true), none, .mv⟩, ⟨some 21, [.sl 7], some (19, true), none, .mv⟩, ⟨some 22, [.tv 20, .tv 21], some (19, true), none, .ia 1⟩, ⟨some 23, [.tv 22], some (19, true),
  none, .ld .one⟩, ⟨some 24, [.sl 0], some (19, true), none, .mv⟩, ⟨some 25, [.sl 7], some (19, true), none, .mv⟩, ⟨some 26, [.tv 25, .cv (.int .i64 1)], some (19, true), none, .bin .sub⟩, ⟨some 27, [.tv 24, .tv 26], some (19,
  true), none, .ia 1⟩, ⟨some 28, [.tv 27], some (19, true), none, .ld .one⟩, ⟨some 29, [.cv (.func 122 [] []), .sl 23, .sl 28], some (19, true), none, .call 3⟩, I_ 30 [.sl 19, .tv 29, .cv (.bool false)] .pick]) (.cond (.sl 30)
  .skip (.exit 2))) (.seq (.block 3 (.reg true [I_ 33 [.sl 0] .mv, I_ 34 [.sl 7] .mv, I_ 35 [.sl 0] .mv, I_ 36 [.sl 7] .mv, I_ 37 [.tv 36, .cv (.int .i64 1)] (.bin .sub), I_ 38 [.sl 0] .mv, I_ 39 [.sl 7] .mv, I_ 40 [.tv 39, .cv
  (.int .i64 1)] (.bin .sub), I_ 41 [.tv 38, .tv 40] (.ia 1), I_ 42 [.tv 41] (.ld .one), I_ 43 [.sl 0] .mv, I_ 44 [.sl 7] .mv, I_ 45 [.tv 43, .tv 44] (.ia 1), I_ 46 [.tv 45] (.ld .one), I_ 47 [.tv 33, .tv 34] (.ia 1), ⟨none, [.tk
  47, .tk 42], none, none, .st 1⟩, I_ 48 [.tv 35, .tv 37] (.ia 1), ⟨none, [.tk 48, .tk 46], none, none, .st 1⟩])) (.reg false [I_ 31 [.tk 7] .mv, I_ 32 [.tv 31, .cv (.int .i64 1)] (.bin .sub), I_ 7 [.tk 32] .mv]))))))) (.reg
  false [I_ 13 [.tk 6] .mv, I_ 14 [.tv 13, .cv (.int .i64 1)] (.bin .add), I_ 6 [.tk 14] .mv])))))
theorem lk116 : linkF Go.Proofs.Try.prog ann116 116 = some (rc116, 49, []) := by kernel_rfl
noncomputable def rc117 : RC :=
  .seq (.reg false [I_ 11 [.sl 1] .mv, I_ 6 [.tk 11] .mv]) (.seq (.reg false [I_ 7 [.cv (.int .i64 0)] .mv]) (.seq (.reg false [I_ 12 [.tk 2] .mv, I_ 13 [.tk 1] .mv, I_ 14 [.tv 12, .tv 13] (.bin .sub), I_ 8 [.tk 14] .mv]) (.seq
  (.seq (.reg false [I_ 15 [.sl 8] .mv, I_ 16 [.tv 15, .cv (.int .i64 1)] (.bin .sub), I_ 17 [.tv 16, .cv (.int .i64 2)] (.bin .quo), I_ 9 [.tk 17] .mv]) (.block 0 (.loop (some [i_,o_,o_,o_,o_,o_,i_,i_,i_,i_,o_,o_,o_,o_,o_,o_,o_,o_,o_,o_,o_,o_,o_,o_,o_,o_,o_,o_,o_,o_,o_,o_,o_,o_,o_,o_,o_,o_,o_,o_,o_,o_,o_,o_,o_,o_,o_,o_,o_,o_,o_,o_,o_,o_,o_,o_]) (.seq (.seq (.reg false [I_ 18 [.sl 9] .mv, I_ 19 [.tv 18, .cv (.int .i64 0)] (.bin .geq)]) (.cond (.sl 19) .skip
  (.exit 0))) (.seq (.block 1 (.reg false [I_ 22 [.sl 0] .mv, I_ 23 [.sl 9] .mv, I_ 24 [.sl 8] .mv, I_ 25 [.sl 6] .mv, I_ 26 [.cv (.func 127 [] []), .tk 22, .tk 23, .tk 24, .tk 25] (.call 1)])) (.reg false [I_ 20 [.tk 9] .mv, I_
  21 [.tv 20, .cv (.int .i64 1)] (.bin .sub), I_ 9 [.tk 21] .mv])))))) (.seq (.reg false [I_ 27 [.tk 8] .mv, I_ 28 [.tv 27, .cv (.int .i64 1)] (.bin .sub), I_ 10 [.tk 28] .mv]) (.block 2 (.loop (some [i_,o_,o_,o_,o_,o_,i_,i_,o_,o_,i_,o_,o_,o_,o_,o_,o_,o_,o_,o_,o_,o_,o_,o_,o_,o_,o_,o_,o_,o_,o_,o_,o_,o_,o_,o_,o_,o_,o_,o_,o_,o_,o_,o_,o_,o_,o_,o_,o_,o_,o_,o_,o_,o_,o_,o_]) (.seq (.seq (.reg false [I_ 29 [.sl 10] .mv, I_ 30 [.tv 29, .cv (.int .i64 0)] (.bin .geq)])
  (.cond (.sl 30) .skip (.exit 2))) (.seq (.block 3 (.seq (.reg true [I_ 33 [.sl 0] .mv, I_ 34 [.sl 6] .mv, I_ 35 [.sl 0] .mv, I_ 36 [.sl 6] .mv, I_ 37 [.sl 10] .mv, I_ 38 [.tv 36, .tv 37] (.bin .add), I_ 39 [.sl 0] .mv, I_ 40
  [.sl 6] .mv, I_ 41 [.sl 10] .mv, I_ 42 [.tv 40, .tv 41] (.bin .add), I_ 43 [.tv 39, .tv 42] (.ia 1), I_ 44 [.tv 43] (.ld .one), I_ 45 [.sl 0] .mv, I_ 46 [.sl 6] .mv, I_ 47 [.tv 45, .tv 46] (.ia 1), I_ 48 [.tv 47] (.ld .one), I_
  49 [.tv 33, .tv 34] (.ia 1), ⟨none, [.tk 49, .tk 44], none, none, .st 1⟩, I_ 50 [.tv 35, .tv 38] (.ia 1), ⟨none, [.tk 50, .tk 48], none, none, .st 1⟩]) (.reg false [I_ 51 [.sl 0] .mv, I_ 52 [.sl 7] .mv, I_ 53 [.sl 10] .mv, I_
  54 [.sl 6] .mv, I_ 55 [.cv (.func 127 [] []), .tk 51, .tk 52, .tk 53, .tk 54] (.call 1)]))) (.reg false [I_ 31 [.tk 10] .mv, I_ 32 [.tv 31, .cv (.int .i64 1)] (.bin .sub), I_ 10 [.tk 32] .mv])))))))))
theorem lk117 : linkF Go.Proofs.Try.prog ann117 117 = some (rc117, 56, []) := by kernel_rfl
noncomputable def rc119 : RC :=
  .seq (.reg false [I_ 6 [.cv (.int .i64 0)] .mv, I_ 7 [.cv (.int .i64 0)] .mv]) (.seq (.reg false [I_ 13 [.tk 2] .mv, I_ 14 [.sl 1] .mv, I_ 15 [.tv 13, .tv 14] (.bin .sub), I_ 8 [.tk 15] .mv]) (.seq (.reg false [I_ 9 [] (.alloc
  [.int .i64 0])]) (.seq (.reg false [I_ 16 [.sl 1] .mv, I_ 17 [.sl 8] .mv, I_ 18 [.tv 17, .cv (.int .i64 4)] (.bin .quo), I_ 19 [.tv 18, .cv (.int .i64 1)] (.bin .mul), I_ 20 [.tv 16, .tv 19] (.bin .add), I_ 10 [.tk 20] .mv])
  (.seq (.reg false [I_ 21 [.sl 1] .mv, I_ 22 [.sl 8] .mv, I_ 23 [.tv 22, .cv (.int .i64 4)] (.bin .quo), I_ 24 [.tv 23, .cv (.int .i64 2)] (.bin .mul), I_ 25 [.tv 21, .tv 24] (.bin .add), I_ 11 [.tk 25] .mv]) (.seq (.reg false
  [I_ 26 [.tk 1] .mv, I_ 27 [.sl 8] .mv, I_ 28 [.tv 27, .cv (.int .i64 4)] (.bin .quo), I_ 29 [.tv 28, .cv (.int .i64 3)] (.bin .mul), I_ 30 [.tv 26, .tv 29] (.bin .add), I_ 12 [.tk 30] .mv]) (.seq (.seq (.reg false [I_ 31 [.sl
  8] .mv, I_ 32 [.tv 31, .cv (.int .i64 8)] (.bin .geq)]) (.cond (.sl 32) (.seq (.seq (.reg false [I_ 33 [.tk 8] .mv, I_ 34 [.tv 33, .cv (.int .i64 50)] (.bin .geq)]) (.cond (.sl 34) (.seq (.reg false [I_ 35 [.sl 0] .mv, I_ 36
  [.tk 10] .mv, I_ 37 [.cv (.func 130 [] []), .tk 35, .tk 36, .sl 9] (.call 1), I_ 10 [.tk 37] .mv]) (.seq (.reg false [I_ 38 [.sl 0] .mv, I_ 39 [.tk 11] .mv, I_ 40 [.cv (.func 130 [] []), .tk 38, .tk 39, .sl 9] (.call 1), I_ 11
  [.tk 40] .mv]) (.reg false [I_ 41 [.sl 0] .mv, I_ 42 [.tk 12] .mv, I_ 43 [.cv (.func 130 [] []), .tk 41, .tk 42, .sl 9] (.call 1), I_ 12 [.tk 43] .mv]))) .skip)) (.reg false [I_ 44 [.tk 0] .mv, I_ 45 [.tk 10] .mv, I_ 46 [.tk
  11] .mv, I_ 47 [.tk 12] .mv, I_ 48 [.cv (.func 131 [] []), .tk 44, .tk 45, .tk 46, .tk 47, .sl 9] (.call 1), I_ 11 [.tk 48] .mv])) .skip)) (.seq (.reg false [I_ 49 [.tv 9] (.ld .one)]) (.block 0 (.seq (.reg false [I_ 52 [.sl
  49, .cv (.int .i64 0)] (.bin .eql), I_ 51 [.tk 52] .mv]) (.cond (.sl 51) (.seq (.reg false [I_ 53 [.tk 11] .mv, I_ 6 [.tk 53] .mv, I_ 7 [.cv (.int .i64 1)] .mv]) .ret) (.seq (.reg false [I_ 55 [.tv 49, .cv (.int .i64 12)] (.bin
  .eql), I_ 54 [.tk 55] .mv]) (.cond (.sl 54) (.seq (.reg false [I_ 56 [.tk 11] .mv, I_ 6 [.tk 56] .mv, I_ 7 [.cv (.int .i64 2)] .mv]) .ret) (.seq (.reg false [I_ 50 [.tk 11] .mv, I_ 6 [.tk 50] .mv, I_ 7 [.cv (.int .i64 0)] .mv])
  .ret)))))))))))))
theorem lk119 : linkF Go.Proofs.Try.prog ann119 119 = some (rc119, 57, [.tmp 6, .tmp 7]) := by kernel_rfl
noncomputable def rc120 : RC :=
  .seq (.reg false [I_ 8 [.tk 1] .mv, I_ 6 [.tk 8] .mv]) (.seq (.reg false [I_ 9 [.tk 2] .mv, I_ 10 [.tv 9, .cv (.int .i64 1)] (.bin .sub), I_ 7 [.tk 10] .mv]) (.block 0 (.loop (some [i_,o_,o_,o_,o_,o_,i_,i_,o_,o_,o_,o_,o_,o_,o_,o_,o_,o_,o_,o_,o_,o_,o_,o_,o_,o_,o_,o_,o_,o_,o_,o_]) (.seq (.seq (.reg false [I_ 11 [.sl 6] .mv, I_ 12
  [.sl 7] .mv, I_ 13 [.tv 11, .tv 12] (.bin .lss)]) (.cond (.sl 13) .skip (.exit 0))) (.block 1 (.seq (.reg true [I_ 14 [.sl 0] .mv, I_ 15 [.sl 6] .mv, I_ 16 [.sl 0] .mv, I_ 17 [.sl 7] .mv, I_ 18 [.sl 0] .mv, I_ 19 [.sl 7] .mv,
  I_ 20 [.tv 18, .tv 19] (.ia 1), I_ 21 [.tv 20] (.ld .one), I_ 22 [.sl 0] .mv, I_ 23 [.sl 6] .mv, I_ 24 [.tv 22, .tv 23] (.ia 1), I_ 25 [.tv 24] (.ld .one), I_ 26 [.tv 14, .tv 15] (.ia 1), ⟨none, [.tk 26, .tk 21], none, none,
  .st 1⟩, I_ 27 [.tv 16, .tv 17] (.ia 1), ⟨none, [.tk 27, .tk 25], none, none, .st 1⟩]) (.seq (.reg false [I_ 28 [.tk 6] .mv, I_ 29 [.tv 28, .cv (.int .i64 1)] (.bin .add), I_ 6 [.tk 29] .mv]) (.reg false [I_ 30 [.tk 7] .mv, I_
  31 [.tv 30, .cv (.int .i64 1)] (.bin .sub), I_ 7 [.tk 31] .mv]))))))))
theorem lk120 : linkF Go.Proofs.Try.prog ann120 120 = some (rc120, 32, []) := by kernel_rfl
noncomputable def rc121 : RC :=
  .seq (.reg false [I_ 6 [.cv (.bool false)] .mv]) (.seq (.reg false [I_ 11 [.sl 1] .mv, I_ 12 [.tv 11, .cv (.int .i64 1)] (.bin .add), I_ 7 [.tk 12] .mv]) (.seq (.seq (.reg false [I_ 8 [.cv (.int .i64 0)] .mv]) (.block 0 (.loop
  (some [i_,i_,i_,o_,o_,o_,o_,i_,i_,o_,o_,o_,o_,o_,o_,o_,o_,o_,o_,o_,o_,o_,o_,o_,o_,o_,o_,o_,o_,o_,o_,o_,o_,o_,o_,o_,o_,o_,o_,o_,o_,o_,o_,o_,o_,o_,o_,o_,o_,o_,o_,o_,o_,o_,o_,o_,o_,o_,o_,o_,o_,o_,o_,o_,o_,o_,o_,o_,o_,o_,o_,o_,o_,o_,o_,o_,o_,o_,o_,o_,o_,o_,o_,o_,o_,o_,o_,o_,o_,o_,o_,o_,o_,o_,o_,o_,o_,o_,o_,o_,o_,o_,o_,o_,o_,o_,o_,o_,o_,o_,o_,o_,o_,o_,o_,o_,o_,o_,o_,o_,o_,o_,o_,o_,o_,o_,o_,o_,o_,o_,o_,o_,o_]) (.seq (.seq (.reg false [I_ 13 [.sl 8] .mv, I_ 14 [.tv 13, .cv (.int .i64 5)] (.bin .lss)]) (.cond (.sl 14) .skip (.exit 0))) (.seq (.block 1 (.seq (.block 2 (.loop (some [i_,i_,i_,o_,o_,o_,o_,i_,i_,o_,o_,o_,o_,o_,o_,o_,o_,o_,o_,o_,o_,o_,o_,o_,o_,o_,o_,o_,o_,o_,o_,o_,o_,o_,o_,o_,o_,o_,o_,o_,o_,o_,o_,o_,o_,o_,o_,o_,o_,o_,o_,o_,o_,o_,o_,o_,o_,o_,o_,o_,o_,o_,o_,o_,o_,o_,o_,o_,o_,o_,o_,o_,o_,o_,o_,o_,o_,o_,o_,o_,o_,o_,o_,o_,o_,o_,o_,o_,o_,o_,o_,o_,o_,o_,o_,o_,o_,o_,o_,o_,o_,o_,o_,o_,o_,o_,o_,o_,o_,o_,o_,o_,o_,o_,o_,o_,o_,o_,o_,o_,o_,o_,o_,o_,o_,o_,o_,o_,o_,o_,o_,o_,o_]) (.seq (.seq (.reg true [I_ 17 [.sl 7] .mv, I_ 18 [.sl 2] .mv, I_ 19 [.tv 17, .tv 18] (.bin .lss), I_ 20 [.tk 19] .mv, ⟨some 21, [.sl 0], some (20, true), none, .mv⟩, ⟨some 22, [.sl 7], some (20, true), none,
  .mv⟩, ⟨some 23, [.tv 21, .tv 22], some (20, true), none, .ia 1⟩, ⟨some 24, [.tv 23], some (20, true), none, .ld .one⟩, ⟨some 25, [.sl 0], some (20, true), none, .mv⟩, ⟨some 26, [.sl 7], some (20, true), none, .mv⟩, ⟨some 27,
  [.tv 26, .cv (.int .i64 1)], some (20, true), none, .bin .sub⟩, ⟨some 28, [.tv 25, .tv 27], some (20, true), none, .ia 1⟩, ⟨some 29, [.tv 28], some (20, true), none, .ld .one⟩, ⟨some 30, [.cv (.func 122 [] []), .sl 24, .sl 29],
  some (20, true), none, .call 3⟩, ⟨some 31, [.tv 30], some (20, true), none, .un .not⟩, I_ 32 [.sl 20, .tv 31, .cv (.bool false)] .pick]) (.cond (.sl 32) .skip (.exit 2))) (.block 3 (.reg false [I_ 33 [.tk 7] .mv, I_ 34 [.tv 33,
  .cv (.int .i64 1)] (.bin .add), I_ 7 [.tk 34] .mv]))))) (.seq (.seq (.reg false [I_ 35 [.sl 7] .mv, I_ 36 [.sl 2] .mv, I_ 37 [.tv 35, .tv 36] (.bin .eql)]) (.cond (.sl 37) (.seq (.reg false [I_ 6 [.cv (.bool true)] .mv]) .ret)
  .skip)) (.seq (.seq (.reg false [I_ 38 [.sl 2] .mv, I_ 39 [.sl 1] .mv, I_ 40 [.tv 38, .tv 39] (.bin .sub), I_ 41 [.tv 40, .cv (.int .i64 50)] (.bin .lss)]) (.cond (.sl 41) (.seq (.reg false [I_ 6 [.cv (.bool false)] .mv]) .ret)
  .skip)) (.seq (.reg true [I_ 42 [.sl 0] .mv, I_ 43 [.sl 7] .mv, I_ 44 [.sl 0] .mv, I_ 45 [.sl 7] .mv, I_ 46 [.tv 45, .cv (.int .i64 1)] (.bin .sub), I_ 47 [.sl 0] .mv, I_ 48 [.sl 7] .mv, I_ 49 [.tv 48, .cv (.int .i64 1)] (.bin
  .sub), I_ 50 [.tv 47, .tv 49] (.ia 1), I_ 51 [.tv 50] (.ld .one), I_ 52 [.sl 0] .mv, I_ 53 [.sl 7] .mv, I_ 54 [.tv 52, .tv 53] (.ia 1), I_ 55 [.tv 54] (.ld .one), I_ 56 [.tv 42, .tv 43] (.ia 1), ⟨none, [.tk 56, .tk 51], none,
  none, .st 1⟩, I_ 57 [.tv 44, .tv 46] (.ia 1), ⟨none, [.tk 57, .tk 55], none, none, .st 1⟩]) (.seq (.seq (.reg false [I_ 58 [.sl 7] .mv, I_ 59 [.sl 1] .mv, I_ 60 [.tv 58, .tv 59] (.bin .sub), I_ 61 [.tv 60, .cv (.int .i64 2)]
  (.bin .geq)]) (.cond (.sl 61) (.seq (.reg false [I_ 62 [.sl 7] .mv, I_ 63 [.tv 62, .cv (.int .i64 1)] (.bin .sub), I_ 9 [.tk 63] .mv]) (.block 4 (.loop (some [i_,i_,i_,o_,o_,o_,o_,i_,i_,i_,o_,o_,o_,o_,o_,o_,o_,o_,o_,o_,o_,o_,o_,o_,o_,o_,o_,o_,o_,o_,o_,o_,o_,o_,o_,o_,o_,o_,o_,o_,o_,o_,o_,o_,o_,o_,o_,o_,o_,o_,o_,o_,o_,o_,o_,o_,o_,o_,o_,o_,o_,o_,o_,o_,o_,o_,o_,o_,o_,o_,o_,o_,o_,o_,o_,o_,o_,o_,o_,o_,o_,o_,o_,o_,o_,o_,o_,o_,o_,o_,o_,o_,o_,o_,o_,o_,o_,o_,o_,o_,o_,o_,o_,o_,o_,o_,o_,o_,o_,o_,o_,o_,o_,o_,o_,o_,o_,o_,o_,o_,o_,o_,o_,o_,o_,o_,o_,o_,o_,o_,o_,o_,o_]) (.seq (.seq (.reg false [I_ 64 [.sl
  9] .mv, I_ 65 [.tv 64, .cv (.int .i64 1)] (.bin .geq)]) (.cond (.sl 65) .skip (.exit 4))) (.seq (.block 5 (.seq (.seq (.reg true [I_ 68 [.sl 0] .mv, I_ 69 [.sl 9] .mv, I_ 70 [.tv 68, .tv 69] (.ia 1), I_ 71 [.tv 70] (.ld .one),
  I_ 72 [.sl 0] .mv, I_ 73 [.sl 9] .mv, I_ 74 [.tv 73, .cv (.int .i64 1)] (.bin .sub), I_ 75 [.tv 72, .tv 74] (.ia 1), I_ 76 [.tv 75] (.ld .one), I_ 77 [.cv (.func 122 [] []), .sl 71, .sl 76] (.call 3), I_ 78 [.tv 77] (.un
  .not)]) (.cond (.sl 78) (.exit 4) .skip)) (.reg true [I_ 79 [.sl 0] .mv, I_ 80 [.sl 9] .mv, I_ 81 [.sl 0] .mv, I_ 82 [.sl 9] .mv, I_ 83 [.tv 82, .cv (.int .i64 1)] (.bin .sub), I_ 84 [.sl 0] .mv, I_ 85 [.sl 9] .mv, I_ 86 [.tv
  85, .cv (.int .i64 1)] (.bin .sub), I_ 87 [.tv 84, .tv 86] (.ia 1), I_ 88 [.tv 87] (.ld .one), I_ 89 [.sl 0] .mv, I_ 90 [.sl 9] .mv, I_ 91 [.tv 89, .tv 90] (.ia 1), I_ 92 [.tv 91] (.ld .one), I_ 93 [.tv 79, .tv 80] (.ia 1),
  ⟨none, [.tk 93, .tk 88], none, none, .st 1⟩, I_ 94 [.tv 81, .tv 83] (.ia 1), ⟨none, [.tk 94, .tk 92], none, none, .st 1⟩]))) (.reg false [I_ 66 [.tk 9] .mv, I_ 67 [.tv 66, .cv (.int .i64 1)] (.bin .sub), I_ 9 [.tk 67]
  .mv])))))) .skip)) (.seq (.reg false [I_ 95 [.sl 2] .mv, I_ 96 [.sl 7] .mv, I_ 97 [.tv 95, .tv 96] (.bin .sub), I_ 98 [.tv 97, .cv (.int .i64 2)] (.bin .geq)]) (.cond (.sl 98) (.seq (.reg false [I_ 99 [.sl 7] .mv, I_ 100 [.tv
  99, .cv (.int .i64 1)] (.bin .add), I_ 10 [.tk 100] .mv]) (.block 6 (.loop (some [i_,i_,i_,o_,o_,o_,o_,i_,i_,o_,i_,o_,o_,o_,o_,o_,o_,o_,o_,o_,o_,o_,o_,o_,o_,o_,o_,o_,o_,o_,o_,o_,o_,o_,o_,o_,o_,o_,o_,o_,o_,o_,o_,o_,o_,o_,o_,o_,o_,o_,o_,o_,o_,o_,o_,o_,o_,o_,o_,o_,o_,o_,o_,o_,o_,o_,o_,o_,o_,o_,o_,o_,o_,o_,o_,o_,o_,o_,o_,o_,o_,o_,o_,o_,o_,o_,o_,o_,o_,o_,o_,o_,o_,o_,o_,o_,o_,o_,o_,o_,o_,o_,o_,o_,o_,o_,o_,o_,o_,o_,o_,o_,o_,o_,o_,o_,o_,o_,o_,o_,o_,o_,o_,o_,o_,o_,o_,o_,o_,o_,o_,o_,o_]) (.seq (.seq (.reg false [I_ 101 [.sl 10] .mv, I_ 102 [.sl 2] .mv, I_ 103 [.tv 101, .tv 102] (.bin .lss)]) (.cond
  (.sl 103) .skip (.exit 6))) (.seq (.block 7 (.seq (.seq (.reg true [I_ 106 [.sl 0] .mv, I_ 107 [.sl 10] .mv, I_ 108 [.tv 106, .tv 107] (.ia 1), I_ 109 [.tv 108] (.ld .one), I_ 110 [.sl 0] .mv, I_ 111 [.sl 10] .mv, I_ 112 [.tv
  111, .cv (.int .i64 1)] (.bin .sub), I_ 113 [.tv 110, .tv 112] (.ia 1), I_ 114 [.tv 113] (.ld .one), I_ 115 [.cv (.func 122 [] []), .sl 109, .sl 114] (.call 3), I_ 116 [.tv 115] (.un .not)]) (.cond (.sl 116) (.exit 6) .skip))
  (.reg true [I_ 117 [.sl 0] .mv, I_ 118 [.sl 10] .mv, I_ 119 [.sl 0] .mv, I_ 120 [.sl 10] .mv, I_ 121 [.tv 120, .cv (.int .i64 1)] (.bin .sub), I_ 122 [.sl 0] .mv, I_ 123 [.sl 10] .mv, I_ 124 [.tv 123, .cv (.int .i64 1)] (.bin
  .sub), I_ 125 [.tv 122, .tv 124] (.ia 1), I_ 126 [.tv 125] (.ld .one), I_ 127 [.sl 0] .mv, I_ 128 [.sl 10] .mv, I_ 129 [.tv 127, .tv 128] (.ia 1), I_ 130 [.tv 129] (.ld .one), I_ 131 [.tv 117, .tv 118] (.ia 1), ⟨none, [.tk 131,
  .tk 126], none, none, .st 1⟩, I_ 132 [.tv 119, .tv 121] (.ia 1), ⟨none, [.tk 132, .tk 130], none, none, .st 1⟩]))) (.reg false [I_ 104 [.tk 10] .mv, I_ 105 [.tv 104, .cv (.int .i64 1)] (.bin .add), I_ 10 [.tk 105] .mv]))))))
  .skip)))))))) (.reg false [I_ 15 [.tk 8] .mv, I_ 16 [.tv 15, .cv (.int .i64 1)] (.bin .add), I_ 8 [.tk 16] .mv])))))) (.seq (.reg false [I_ 6 [.cv (.bool false)] .mv]) .ret)))
theorem lk121 : linkF Go.Proofs.Try.prog ann121 121 = some (rc121, 133, [.tmp 6]) := by kernel_rfl
noncomputable def rc122 : RC :=
  .seq (.reg false [I_ 4 [.cv (.bool false)] .mv]) (.seq (.reg false [I_ 5 [.sl 0] .mv, I_ 6 [.cv (.func 132 [] []), .sl 5] (.call 3), I_ 7 [.tk 6] .mv, ⟨some 8, [.sl 1], some (7, true), none, .mv⟩, ⟨some 9, [.cv (.func 132 [] []),
  .sl 8], some (7, true), none, .call 3⟩, ⟨some 10, [.tv 9], some (7, true), none, .un .not⟩, I_ 11 [.tv 7, .tv 10, .cv (.bool false)] .pick, I_ 12 [.tk 11] .mv, ⟨some 13, [.tk 0], some (12, false), none, .mv⟩, ⟨some 14, [.tk 1],
  some (12, false), none, .mv⟩, ⟨some 15, [.tv 13, .tv 14], some (12, false), none, .bin .lss⟩, I_ 16 [.tv 12, .cv (.bool true), .tv 15] .pick, I_ 4 [.tk 16] .mv]) .ret)
theorem lk122 : linkF Go.Proofs.Try.prog ann122 122 = some (rc122, 17, [.tmp 4]) := by kernel_rfl
noncomputable def rc127 : RC :=
  .seq (.reg false [I_ 10 [.tk 1] .mv, I_ 8 [.tk 10] .mv]) (.block 0 (.loop (some [i_,o_,i_,i_,o_,o_,o_,o_,i_,o_,o_,o_,o_,o_,o_,o_,o_,o_,o_,o_,o_,o_,o_,o_,o_,o_,o_,o_,o_,o_,o_,o_,o_,o_,o_,o_,o_,o_,o_,o_,o_,o_,o_,o_,o_,o_,o_,o_,o_,o_,o_,o_,o_,o_,o_,o_,o_,o_,o_,o_,o_,o_,o_,o_,o_,o_,o_,o_,o_,o_,o_,o_,o_,o_,o_,o_]) (.block 1 (.seq (.reg false [I_ 11 [.sl 8] .mv, I_ 12 [.cv (.int
  .i64 2), .tv 11] (.bin .mul), I_ 13 [.tv 12, .cv (.int .i64 1)] (.bin .add), I_ 9 [.tk 13] .mv]) (.seq (.seq (.reg false [I_ 14 [.sl 9] .mv, I_ 15 [.sl 2] .mv, I_ 16 [.tv 14, .tv 15] (.bin .geq)]) (.cond (.sl 16) (.exit 0)
  .skip)) (.seq (.seq (.reg true [I_ 17 [.sl 9] .mv, I_ 18 [.tv 17, .cv (.int .i64 1)] (.bin .add), I_ 19 [.sl 2] .mv, I_ 20 [.tv 18, .tv 19] (.bin .lss), I_ 21 [.tk 20] .mv, ⟨some 22, [.sl 0], some (21, true), none, .mv⟩, ⟨some
  23, [.sl 3], some (21, true), none, .mv⟩, ⟨some 24, [.sl 9], some (21, true), none, .mv⟩, ⟨some 25, [.tv 23, .tv 24], some (21, true), none, .bin .add⟩, ⟨some 26, [.tv 22, .tv 25], some (21, true), none, .ia 1⟩, ⟨some 27, [.tv
  26], some (21, true), none, .ld .one⟩, ⟨some 28, [.sl 0], some (21, true), none, .mv⟩, ⟨some 29, [.sl 3], some (21, true), none, .mv⟩, ⟨some 30, [.sl 9], some (21, true), none, .mv⟩, ⟨some 31, [.tv 29, .tv 30], some (21, true),
  none, .bin .add⟩, ⟨some 32, [.tv 31, .cv (.int .i64 1)], some (21, true), none, .bin .add⟩, ⟨some 33, [.tv 28, .tv 32], some (21, true), none, .ia 1⟩, ⟨some 34, [.tv 33], some (21, true), none, .ld .one⟩, ⟨some 35, [.cv (.func
  122 [] []), .sl 27, .sl 34], some (21, true), none, .call 3⟩, I_ 36 [.sl 21, .tv 35, .cv (.bool false)] .pick]) (.cond (.sl 36) (.reg false [I_ 37 [.tk 9] .mv, I_ 38 [.tv 37, .cv (.int .i64 1)] (.bin .add), I_ 9 [.tk 38] .mv])
  .skip)) (.seq (.seq (.reg true [I_ 39 [.sl 0] .mv, I_ 40 [.sl 3] .mv, I_ 41 [.sl 8] .mv, I_ 42 [.tv 40, .tv 41] (.bin .add), I_ 43 [.tv 39, .tv 42] (.ia 1), I_ 44 [.tv 43] (.ld .one), I_ 45 [.sl 0] .mv, I_ 46 [.sl 3] .mv, I_ 47
  [.sl 9] .mv, I_ 48 [.tv 46, .tv 47] (.bin .add), I_ 49 [.tv 45, .tv 48] (.ia 1), I_ 50 [.tv 49] (.ld .one), I_ 51 [.cv (.func 122 [] []), .sl 44, .sl 50] (.call 3), I_ 52 [.tv 51] (.un .not)]) (.cond (.sl 52) .ret .skip)) (.seq
  (.reg true [I_ 53 [.sl 0] .mv, I_ 54 [.sl 3] .mv, I_ 55 [.sl 8] .mv, I_ 56 [.tv 54, .tv 55] (.bin .add), I_ 57 [.sl 0] .mv, I_ 58 [.sl 3] .mv, I_ 59 [.sl 9] .mv, I_ 60 [.tv 58, .tv 59] (.bin .add), I_ 61 [.sl 0] .mv, I_ 62 [.sl
  3] .mv, I_ 63 [.sl 9] .mv, I_ 64 [.tv 62, .tv 63] (.bin .add), I_ 65 [.tv 61, .tv 64] (.ia 1), I_ 66 [.tv 65] (.ld .one), I_ 67 [.sl 0] .mv, I_ 68 [.sl 3] .mv, I_ 69 [.sl 8] .mv, I_ 70 [.tv 68, .tv 69] (.bin .add), I_ 71 [.tv
  67, .tv 70] (.ia 1), I_ 72 [.tv 71] (.ld .one), I_ 73 [.tv 53, .tv 56] (.ia 1), ⟨none, [.tk 73, .tk 66], none, none, .st 1⟩, I_ 74 [.tv 57, .tv 60] (.ia 1), ⟨none, [.tk 74, .tk 72], none, none, .st 1⟩]) (.reg false [I_ 75 [.tk
  9] .mv, I_ 8 [.tk 75] .mv])))))))))
theorem lk127 : linkF Go.Proofs.Try.prog ann127 127 = some (rc127, 76, []) := by kernel_rfl
noncomputable def rc128 : RC :=
  .seq (.reg false [I_ 2 [.cv (.int .u64 0)] .mv]) (.seq (.reg false [I_ 3 [.tk 0] .mv, I_ 4 [.tv 3] (.conv .u64), I_ 5 [.cv (.func 115 [] []), .sl 4] (.call 3), I_ 6 [.cv (.int .u64 1), .tv 5] (.bin .shl), I_ 2 [.tk 6] .mv]) .ret)
theorem lk128 : linkF Go.Proofs.Try.prog ann128 128 = some (rc128, 7, [.tmp 2]) := by kernel_rfl
noncomputable def rc129 : RC :=
  .seq (.reg false [I_ 2 [.cv (.int .u64 0)] .mv]) (.seq (.reg true [I_ 3 [.sl 0] .mv, I_ 4 [.sl 3] .nilc, I_ 5 [.tv 4] (.ld .one), I_ 6 [.sl 0] .mv, I_ 7 [.tv 6] .nilc, I_ 8 [.tv 7] (.ld .one), I_ 9 [.tv 8, .cv (.int .u64 13)]
  (.bin .shl), I_ 10 [.tv 5, .tv 9] (.bin .xor), I_ 11 [.sl 3] .nilc, ⟨none, [.tk 11, .tk 10], none, none, .st 1⟩]) (.seq (.reg true [I_ 12 [.sl 0] .mv, I_ 13 [.sl 12] .nilc, I_ 14 [.tv 13] (.ld .one), I_ 15 [.sl 0] .mv, I_ 16
  [.tv 15] .nilc, I_ 17 [.tv 16] (.ld .one), I_ 18 [.tv 17, .cv (.int .u64 7)] (.bin .shr), I_ 19 [.tv 14, .tv 18] (.bin .xor), I_ 20 [.sl 12] .nilc, ⟨none, [.tk 20, .tk 19], none, none, .st 1⟩]) (.seq (.reg true [I_ 21 [.sl 0]
  .mv, I_ 22 [.sl 21] .nilc, I_ 23 [.tv 22] (.ld .one), I_ 24 [.sl 0] .mv, I_ 25 [.tv 24] .nilc, I_ 26 [.tv 25] (.ld .one), I_ 27 [.tv 26, .cv (.int .u64 17)] (.bin .shl), I_ 28 [.tv 23, .tv 27] (.bin .xor), I_ 29 [.sl 21] .nilc,
  ⟨none, [.tk 29, .tk 28], none, none, .st 1⟩]) (.seq (.reg false [I_ 30 [.tk 0] .mv, I_ 31 [.tv 30] .nilc, I_ 32 [.tv 31] (.ld .one), I_ 2 [.tk 32] .mv]) .ret))))
theorem lk129 : linkF Go.Proofs.Try.prog ann129 129 = some (rc129, 33, [.tmp 2]) := by kernel_rfl
noncomputable def rc131 : RC :=
  .seq (.reg false [I_ 10 [.cv (.int .i64 0)] .mv]) (.seq (.reg false [I_ 12 [.sl 0] .mv, I_ 13 [.tk 1] .mv, I_ 14 [.tk 2] .mv, I_ 15 [.sl 4] .mv, I_ 16 [.cv (.func 133 [] []), .tk 12, .tk 13, .tk 14, .tk 15] (.call 1), I_ 11 [.tk
  16] .mv, I_ 17 [.sl 11] (.ext 0), I_ 18 [.tv 11] (.ext 1), I_ 1 [.tk 17] .mv, I_ 2 [.tk 18] .mv]) (.seq (.reg false [I_ 20 [.sl 0] .mv, I_ 21 [.tk 2] .mv, I_ 22 [.tk 3] .mv, I_ 23 [.sl 4] .mv, I_ 24 [.cv (.func 133 [] []), .tk
  20, .tk 21, .tk 22, .tk 23] (.call 1), I_ 19 [.tk 24] .mv, I_ 25 [.sl 19] (.ext 0), I_ 26 [.tv 19] (.ext 1), I_ 2 [.tk 25] .mv, I_ 3 [.tk 26] .mv]) (.seq (.reg false [I_ 28 [.tk 0] .mv, I_ 29 [.tk 1] .mv, I_ 30 [.tk 2] .mv, I_
  31 [.tk 4] .mv, I_ 32 [.cv (.func 133 [] []), .tk 28, .tk 29, .tk 30, .tk 31] (.call 1), I_ 27 [.tk 32] .mv, I_ 33 [.sl 27] (.ext 0), I_ 34 [.tv 27] (.ext 1), I_ 1 [.tk 33] .mv, I_ 2 [.tk 34] .mv]) (.seq (.reg false [I_ 35 [.tk
  2] .mv, I_ 10 [.tk 35] .mv]) .ret))))
theorem lk131 : linkF Go.Proofs.Try.prog ann131 131 = some (rc131, 36, [.tmp 10]) := by kernel_rfl
noncomputable def rc132 : RC :=
  .seq (.reg false [I_ 2 [.cv (.bool false)] .mv]) (.seq (.reg false [I_ 3 [.sl 0] .mv, I_ 4 [.tk 0] .mv, I_ 5 [.tv 3, .tv 4] (.bin .neq), I_ 2 [.tk 5] .mv]) .ret)
theorem lk132 : linkF Go.Proofs.Try.prog ann132 132 = some (rc132, 6, [.tmp 2]) := by kernel_rfl
noncomputable def rc133 : RC :=
  .seq (.reg false [I_ 8 [.cv (.int .i64 0)] .mv, I_ 9 [.cv (.int .i64 0)] .mv]) (.seq (.seq (.reg true [I_ 10 [.sl 0] .mv, I_ 11 [.sl 2] .mv, I_ 12 [.tv 10, .tv 11] (.ia 1), I_ 13 [.tv 12] (.ld .one), I_ 14 [.sl 0] .mv, I_ 15 [.sl
  1] .mv, I_ 16 [.tv 14, .tv 15] (.ia 1), I_ 17 [.tv 16] (.ld .one), I_ 18 [.cv (.func 122 [] []), .sl 13, .sl 17] (.call 3)]) (.cond (.sl 18) (.seq (.reg false [I_ 19 [.tk 3] .mv, I_ 20 [.sl 19] .nilc, I_ 21 [.tv 20] (.ld .one),
  I_ 22 [.tv 21, .cv (.int .i64 1)] (.bin .add), I_ 23 [.tv 19] .nilc, ⟨none, [.tk 23, .tk 22], none, none, .st 1⟩]) (.seq (.reg false [I_ 24 [.tk 2] .mv, I_ 25 [.tk 1] .mv, I_ 8 [.tk 24] .mv, I_ 9 [.tk 25] .mv]) .ret)) .skip))
  (.seq (.reg false [I_ 26 [.tk 1] .mv, I_ 27 [.tk 2] .mv, I_ 8 [.tk 26] .mv, I_ 9 [.tk 27] .mv]) .ret))
theorem lk133 : linkF Go.Proofs.Try.prog ann133 133 = some (rc133, 28, [.tmp 8, .tmp 9]) := by kernel_rfl
end Go.Proofs.Ytlcebaejlnpdeaa.Ab

/-
  Contracts: cmp.Less; slices' insertionSortOrdered.
-/
namespace Go.Proofs.Ytlcebaejlnpdeaa.Ab
open Go
set_option maxRecDepth 20000
set_option maxHeartbeats 4000000
theorem isNaN_ok (x : Int) : PO 132 [I x] (B false) := by
  refine fn_pure hmix lk132 rfl rfl ?_
  unfold rc132
  conv => whnf
  exact ret_pure (.inr rfl) rfl (by rw [decide_eq_false (show ¬ (x ≠ x) from fun h => h rfl)]; rfl)
theorem less_ok (x y : Int) : PO 122 [I x, I y] (B (decide (x < y))) := by
  refine fn_pure hmix lk122 rfl rfl ?_
  unfold rc122
  conv => whnf
  refine ⟨by first | rfl | simp only [List.all_cons, List.all_nil, pu0, pub, pu1, pu2, pu1', pu2', pun, puf, puP, puP', puQ, puQ', Bool.and_true, Bool.and_self], _, isNaN_ok x, ?_⟩
  conv => whnf
  exact ret_pure (.inr rfl) rfl rfl
/-- A list of numbers in an object. -/
def Cd (d : Array Int) : AObj := .cells (d.toList.map I)
def Da (id n : Nat) : AV := .ref id 0 n none 1
theorem cd_get (d : Array Int) (x : Nat) (h : x < d.size) : (d.toList.map I)[x]? = some (I d[x]!) := by
  simp [h]
theorem cd_set (d : Array Int) (x : Nat) (v : Int) : (d.toList.map I).set x (I v) = (d.setIfInBounds x v).toList.map I := by
  simp [List.map_set]
theorem swp_size (d : Array Int) (i j : Nat) : (Sort.swp d i j).size = d.size := by simp [Sort.swp]
theorem rdK {d : Array Int} {n : Nat} (x : Nat) (e : n = x) (h : x < d.size) {K : AV → Prop} (k : K (I d[x]!)) : nthK (d.toList.map I) n K := by
  subst e; exact nthK_of (cd_get d n h) k
theorem wrK {d : Array Int} {n : Nat} {v : Int} (x : Nat) (e : n = x) (h : x < d.size) {K : List AV → Prop} (k : K ((d.setIfInBounds x v).toList.map I)) : updK (d.toList.map I) n (I v) K := by
  subst e; refine updK_of (by simpa using h) ?_; rw [cd_set]; exact k
section
variable {H : List AObj} {id lo : Nat} (hlo : lo ≤ id)
include hlo
theorem insertion_sem (d : Array Int) (a b : Nat) (hd : d.size ≤ 1000) (ha : a ≤ b) (hb : b ≤ d.size) (hH : H[id]? = some (Cd d)) :
    Sem Go.Proofs.Try.prog (.fn 116) [Da id d.size, I a, I b] H lo (.tuple []) (H.set id (Cd (Sort.insertionSort Sort.ltInt d a b))) := by
  have hid := (List.getElem?_eq_some_iff.1 hH).1
  refine fn_sem hmix lk116 rfl ⟨by simp, fun j h1 h2 => by rw [List.getElem?_set_ne (by omega)]⟩ ?_
  unfold rc116
  conv => whnf
  have hbl : Nat.ble lo id = true := Nat.ble_eq_true_of_le hlo
  have gs : ∀ c : AObj, (H.set id c)[id]? = some c := fun c => by rw [List.getElem?_set_self hid]
  have gss : ∀ c e : AObj, ((H.set id c).set id e)[id]? = some e := fun c e => by rw [List.set_set, gs]
  rw [wrapS a (by omega)]
  refine .intro (fun m T H' => ∃ i d', a + 1 ≤ i ∧ (i ≤ b ∨ i = a + 1) ∧ m = b + 1 - i ∧ d'.size = d.size ∧ Sort.insOuter Sort.ltInt a b i d' = Sort.insertionSort Sort.ltInt d a b ∧ T = slots 49 [(0, Da id d.size), (1, I a), (2, I b), (6, I i)] ∧ H' = H.set id (Cd d')) (b - a) ⟨a + 1, d, by omega, .inr rfl, by omega, rfl, rfl, rfl, ?_⟩ ?_
  · obtain ⟨h1, h2⟩ := List.getElem?_eq_some_iff.1 hH
    rw [← h2, List.set_getElem_self]
  rintro m T H' ⟨i, d', hi1, hi2, rfl, hds, he, rfl, rfl⟩
  conv => whnf
  refine dcase (fun h => ?_) (fun h => ?_)
  · conv => whnf
    refine .intro (fun j T H' => ∃ dj : Array Int, j ≤ i ∧ dj.size = d.size ∧ Sort.insInner Sort.ltInt a j dj = Sort.insInner Sort.ltInt a i d' ∧ T = slots 49 [(0, Da id d.size), (1, I a), (2, I b), (6, I i), (7, I j)] ∧ H' = H.set id (Cd dj)) i ⟨d', Nat.le_refl _, hds, rfl, rfl, rfl⟩ ?_
    rintro j T H' ⟨dj, hj, hdj, hej, rfl, rfl⟩
    conv => whnf
    by_cases h3 : (a : Int) < (j : Int)
    · rw [decide_eq_true h3]
      obtain ⟨q, rfl⟩ : ∃ q, j = q + 1 := ⟨j - 1, by omega⟩
      have hw : IntKind.i64.wrap (((q + 1 : Nat) : Int) - 1) = (q : Int) := by rw [wrapI _ (by omega) (by omega)]; omega
      conv => whnf
      refine ⟨by omega, ?_⟩
      conv => whnf
      refine nthK_of (by first | exact gs _ | exact gss _ _ | assumption) ?_
      conv => whnf
      refine rdK (q + 1) (by omega) (by omega) ?_
      conv => whnf
      rw [hw]
      refine ⟨by omega, ?_⟩
      conv => whnf
      refine nthK_of (by first | exact gs _ | exact gss _ _ | assumption) ?_
      conv => whnf
      refine rdK (q) (by omega) (by omega) ?_
      conv => whnf
      refine ⟨by first | rfl | simp only [List.all_cons, List.all_nil, pu0, pub, pu1, pu2, pu1', pu2', pun, puf, puP, puP', puQ, puQ', Bool.and_true, Bool.and_self], _, less_ok dj[q + 1]! dj[q]!, acc0, ?_⟩
      conv => whnf
      by_cases h4 : dj[q + 1]! < dj[q]!
      · rw [decide_eq_true h4]
        conv => whnf
        rw [hw]
        refine ⟨by omega, ?_⟩
        conv => whnf
        refine nthK_of (by first | exact gs _ | exact gss _ _ | assumption) ?_
        conv => whnf
        refine rdK (q) (by omega) (by omega) ?_
        conv => whnf
        refine ⟨by omega, ?_⟩
        conv => whnf
        refine nthK_of (by first | exact gs _ | exact gss _ _ | assumption) ?_
        conv => whnf
        refine rdK (q + 1) (by omega) (by omega) ?_
        conv => whnf
        refine ⟨by omega, ?_⟩
        conv => whnf
        rw [hbl]
        conv => whnf
        refine nthK_of (by first | exact gs _ | exact gss _ _ | assumption) ?_
        conv => whnf
        refine wrK (q + 1) (by omega) (by first | omega | (simp only [Array.size_setIfInBounds]; omega)) ?_
        conv => whnf
        refine ⟨by omega, ?_⟩
        conv => whnf
        rw [hbl]
        conv => whnf
        refine nthK_of (by first | exact gs _ | exact gss _ _ | assumption) ?_
        conv => whnf
        refine wrK (q) (by omega) (by first | omega | (simp only [Array.size_setIfInBounds]; omega)) ?_
        conv => whnf
        refine ⟨q, by omega, Sort.swp dj (q + 1) q, by omega, by rw [swp_size]; exact hdj, ?_, ?_, ?_⟩
        · rw [← hej, Sort.insInner, if_pos (by simp only [Sort.ltInt, Bool.and_eq_true, decide_eq_true_eq]; exact ⟨by omega, h4⟩)]
        · rw [hw]; rfl
        · simp only [List.set_set]; rfl
      · rw [decide_eq_false h4]
        conv => whnf
        have e : Sort.insInner Sort.ltInt a i d' = dj := by
          rw [← hej, Sort.insInner, if_neg (by simp only [Sort.ltInt, Bool.and_eq_true, decide_eq_true_eq]; exact fun hh => h4 hh.2)]
        exact ⟨b + 1 - (i + 1), by omega, i + 1, dj, by omega, by omega, rfl, hdj, by rw [← he, Sort.insOuter.eq_1 _ a b i, if_pos (by omega), e], by rw [← wrapS i (by omega)]; rfl, rfl⟩
    · rw [decide_eq_false h3]
      conv => whnf
      have e : Sort.insInner Sort.ltInt a i d' = dj := by
        rw [← hej]
        cases j with
        | zero => rfl
        | succ q => rw [Sort.insInner, if_neg (by simp only [Bool.and_eq_true, decide_eq_true_eq]; exact fun hh => by omega)]
      exact ⟨b + 1 - (i + 1), by omega, i + 1, dj, by omega, by omega, rfl, hdj, by rw [← he, Sort.insOuter.eq_1 _ a b i, if_pos (by omega), e], by rw [← wrapS i (by omega)]; rfl, rfl⟩
  · conv => whnf
    have e : Sort.insertionSort Sort.ltInt d a b = d' := by
      rw [← he]; unfold Sort.insOuter; rw [if_neg (by omega)]
    rw [e]
    exact ⟨.inl rfl, ⟨by simp, fun j o hj => .inr hj⟩, rfl⟩
end
end Go.Proofs.Ytlcebaejlnpdeaa.Ab

/-
  Contracts: slices' siftDownOrdered, heapSortOrdered.
-/
namespace Go.Proofs.Ytlcebaejlnpdeaa.Ab
open Go
set_option maxRecDepth 20000
set_option maxHeartbeats 4000000
section
variable {H : List AObj} {id lo : Nat} (hlo : lo ≤ id)
include hlo
theorem sift_sem (d : Array Int) (r0 hi first : Nat) (hd : d.size ≤ 1000) (hr : r0 ≤ 1000) (hf : first + hi ≤ d.size) (hH : H[id]? = some (Cd d)) :
    Sem Go.Proofs.Try.prog (.fn 127) [Da id d.size, I r0, I hi, I first] H lo (.tuple []) (H.set id (Cd (Sort.siftDown Sort.ltInt hi first r0 d))) := by
  have hid := (List.getElem?_eq_some_iff.1 hH).1
  refine fn_sem hmix lk127 rfl ⟨by simp, fun j h1 h2 => by rw [List.getElem?_set_ne (by omega)]⟩ ?_
  unfold rc127
  conv => whnf
  have hbl : Nat.ble lo id = true := Nat.ble_eq_true_of_le hlo
  have gs : ∀ c : AObj, (H.set id c)[id]? = some c := fun c => by rw [List.getElem?_set_self hid]
  have gss : ∀ c e : AObj, ((H.set id c).set id e)[id]? = some e := fun c e => by rw [List.set_set, gs]
  refine .intro (fun m T H' => ∃ r d', r ≤ 1000 ∧ m = 1001 - r ∧ d'.size = d.size ∧ Sort.siftDown Sort.ltInt hi first r d' = Sort.siftDown Sort.ltInt hi first r0 d ∧ T = slots 76 [(0, Da id d.size), (2, I hi), (3, I first), (8, I r)] ∧ H' = H.set id (Cd d')) (1001 - r0) ⟨r0, d, hr, rfl, rfl, rfl, rfl, ?_⟩ ?_
  · obtain ⟨h1, h2⟩ := List.getElem?_eq_some_iff.1 hH
    rw [← h2, List.set_getElem_self]
  rintro m T H' ⟨r, d', hr, rfl, hds, he, rfl, rfl⟩
  have w1 : IntKind.i64.wrap (IntKind.i64.wrap (2 * (r : Int)) + 1) = ((2 * r + 1 : Nat) : Int) := by rw [wrapI (2 * (r : Int)) (by omega) (by omega), wrapI _ (by omega) (by omega)]; omega
  conv => whnf
  rw [w1]
  by_cases h : ((hi : Nat) : Int) ≤ ((2 * r + 1 : Nat) : Int)
  · rw [decide_eq_true h]
    conv => whnf
    have e : Sort.siftDown Sort.ltInt hi first r0 d = d' := by
      rw [← he, Sort.siftDown.eq_1, dif_pos (by omega)]
    rw [e]
    exact ⟨.inl rfl, ⟨by simp, fun j o hj => .inr hj⟩, rfl⟩
  · rw [decide_eq_false h]
    have w2 : IntKind.i64.wrap (((2 * r + 1 : Nat) : Int) + 1) = ((2 * r + 2 : Nat) : Int) := by rw [wrapI _ (by omega) (by omega)]; omega
    have w3 : IntKind.i64.wrap ((first : Int) + ((2 * r + 1 : Nat) : Int)) = ((first + (2 * r + 1) : Nat) : Int) := by rw [wrapI _ (by omega) (by omega)]; omega
    have w4 : IntKind.i64.wrap ((first : Int) + ((2 * r + 2 : Nat) : Int)) = ((first + (2 * r + 2) : Nat) : Int) := by rw [wrapI _ (by omega) (by omega)]; omega
    have w5 : IntKind.i64.wrap (((first + (2 * r + 1) : Nat) : Int) + 1) = ((first + (2 * r + 2) : Nat) : Int) := by rw [wrapI _ (by omega) (by omega)]; omega
    have w6 : IntKind.i64.wrap ((first : Int) + (r : Int)) = ((first + r : Nat) : Int) := by rw [wrapI _ (by omega) (by omega)]; omega
    conv => whnf
    rw [w2]
    by_cases h4 : ((2 * r + 2 : Nat) : Int) < (hi : Int)
    · rw [decide_eq_true h4]
      conv => whnf
      rw [w3]
      refine ⟨by omega, ?_⟩
      conv => whnf
      refine nthK_of (by first | exact gs _ | exact gss _ _ | assumption) ?_
      conv => whnf
      refine rdK (first + (2 * r + 1)) (by omega) (by omega) ?_
      conv => whnf
      rw [w3, w5]
      refine ⟨by omega, ?_⟩
      conv => whnf
      refine nthK_of (by first | exact gs _ | exact gss _ _ | assumption) ?_
      conv => whnf
      refine rdK (first + (2 * r + 2)) (by omega) (by omega) ?_
      conv => whnf
      refine ⟨by first | rfl | simp only [List.all_cons, List.all_nil, pu0, pub, pu1, pu2, pu1', pu2', pun, puf, puP, puP', puQ, puQ', Bool.and_true, Bool.and_self], _, less_ok d'[first + (2 * r + 1)]! d'[first + (2 * r + 2)]!, acc0, ?_⟩
      conv => whnf
      by_cases h5 : d'[first + (2 * r + 1)]! < d'[first + (2 * r + 2)]!
      · rw [decide_eq_true h5]
        conv => whnf
        rw [w2]
        conv => whnf
        rw [w6]
        refine ⟨by omega, ?_⟩
        conv => whnf
        refine nthK_of (by first | exact gs _ | exact gss _ _ | assumption) ?_
        conv => whnf
        refine rdK (first + r) (by omega) (by omega) ?_
        conv => whnf
        rw [w4]
        refine ⟨by omega, ?_⟩
        conv => whnf
        refine nthK_of (by first | exact gs _ | exact gss _ _ | assumption) ?_
        conv => whnf
        refine rdK (first + (2 * r + 2)) (by omega) (by omega) ?_
        conv => whnf
        refine ⟨by first | rfl | simp only [List.all_cons, List.all_nil, pu0, pub, pu1, pu2, pu1', pu2', pun, puf, puP, puP', puQ, puQ', Bool.and_true, Bool.and_self], _, less_ok d'[first + r]! d'[first + (2 * r + 2)]!, acc0, ?_⟩
        conv => whnf
        by_cases h6 : d'[first + r]! < d'[first + (2 * r + 2)]!
        · rw [decide_eq_true h6]
          conv => whnf
          rw [w6, w4]
          refine ⟨by omega, ?_⟩
          conv => whnf
          refine nthK_of (by first | exact gs _ | exact gss _ _ | assumption) ?_
          conv => whnf
          refine rdK (first + (2 * r + 2)) (by omega) (by omega) ?_
          conv => whnf
          rw [w6]
          refine ⟨by omega, ?_⟩
          conv => whnf
          refine nthK_of (by first | exact gs _ | exact gss _ _ | assumption) ?_
          conv => whnf
          refine rdK (first + r) (by omega) (by omega) ?_
          conv => whnf
          refine ⟨by omega, ?_⟩
          conv => whnf
          rw [hbl]
          conv => whnf
          refine nthK_of (by first | exact gs _ | exact gss _ _ | assumption) ?_
          conv => whnf
          refine wrK (first + r) (by omega) (by first | omega | (simp only [Array.size_setIfInBounds]; omega)) ?_
          conv => whnf
          refine ⟨by omega, ?_⟩
          conv => whnf
          rw [hbl]
          conv => whnf
          refine nthK_of (by first | exact gs _ | exact gss _ _ | assumption) ?_
          conv => whnf
          refine wrK (first + (2 * r + 2)) (by omega) (by first | omega | (simp only [Array.size_setIfInBounds]; omega)) ?_
          conv => whnf
          refine ⟨1001 - (2 * r + 2), by omega, 2 * r + 2, Sort.swp d' (first + r) (first + (2 * r + 2)), by omega, rfl, by rw [swp_size]; exact hds, ?_, rfl, ?_⟩
          · rw [← he]
            conv => rhs; rw [Sort.siftDown.eq_1, dif_neg (by omega)]
            rw [if_pos (by simp only [Sort.ltInt, Bool.and_eq_true, decide_eq_true_eq]; exact ⟨by omega, h5⟩)]
            have hl : Sort.ltInt d'[first + r]! d'[first + (2 * r + 2)]! = true := decide_eq_true h6
            rw [hl]
            first
              | rfl
              | (rw [if_neg (by decide)]; done)
              | (rw [if_neg (by decide), dif_pos (by omega)]; done)
          · simp only [List.set_set]; rfl
        · rw [decide_eq_false h6]
          conv => whnf
          have e : Sort.siftDown Sort.ltInt hi first r0 d = d' := by
            rw [← he, Sort.siftDown.eq_1, dif_neg (by omega)]
            rw [if_pos (by simp only [Sort.ltInt, Bool.and_eq_true, decide_eq_true_eq]; exact ⟨by omega, h5⟩)]
            have hl : Sort.ltInt d'[first + r]! d'[first + (2 * r + 2)]! = false := decide_eq_false h6
            rw [hl]
            rfl
          rw [e]
          exact ⟨.inr rfl, ⟨by simp, fun j o hj => .inr hj⟩, rfl⟩
      · rw [decide_eq_false h5]
        conv => whnf
        rw [w6]
        refine ⟨by omega, ?_⟩
        conv => whnf
        refine nthK_of (by first | exact gs _ | exact gss _ _ | assumption) ?_
        conv => whnf
        refine rdK (first + r) (by omega) (by omega) ?_
        conv => whnf
        rw [w3]
        refine ⟨by omega, ?_⟩
        conv => whnf
        refine nthK_of (by first | exact gs _ | exact gss _ _ | assumption) ?_
        conv => whnf
        refine rdK (first + (2 * r + 1)) (by omega) (by omega) ?_
        conv => whnf
        refine ⟨by first | rfl | simp only [List.all_cons, List.all_nil, pu0, pub, pu1, pu2, pu1', pu2', pun, puf, puP, puP', puQ, puQ', Bool.and_true, Bool.and_self], _, less_ok d'[first + r]! d'[first + (2 * r + 1)]!, acc0, ?_⟩
        conv => whnf
        by_cases h6 : d'[first + r]! < d'[first + (2 * r + 1)]!
        · rw [decide_eq_true h6]
          conv => whnf
          rw [w6, w3]
          refine ⟨by omega, ?_⟩
          conv => whnf
          refine nthK_of (by first | exact gs _ | exact gss _ _ | assumption) ?_
          conv => whnf
          refine rdK (first + (2 * r + 1)) (by omega) (by omega) ?_
          conv => whnf
          rw [w6]
          refine ⟨by omega, ?_⟩
          conv => whnf
          refine nthK_of (by first | exact gs _ | exact gss _ _ | assumption) ?_
          conv => whnf
          refine rdK (first + r) (by omega) (by omega) ?_
          conv => whnf
          refine ⟨by omega, ?_⟩
          conv => whnf
          rw [hbl]
          conv => whnf
          refine nthK_of (by first | exact gs _ | exact gss _ _ | assumption) ?_
          conv => whnf
          refine wrK (first + r) (by omega) (by first | omega | (simp only [Array.size_setIfInBounds]; omega)) ?_
          conv => whnf
          refine ⟨by omega, ?_⟩
          conv => whnf
          rw [hbl]
          conv => whnf
          refine nthK_of (by first | exact gs _ | exact gss _ _ | assumption) ?_
          conv => whnf
          refine wrK (first + (2 * r + 1)) (by omega) (by first | omega | (simp only [Array.size_setIfInBounds]; omega)) ?_
          conv => whnf
          refine ⟨1001 - (2 * r + 1), by omega, 2 * r + 1, Sort.swp d' (first + r) (first + (2 * r + 1)), by omega, rfl, by rw [swp_size]; exact hds, ?_, rfl, ?_⟩
          · rw [← he]
            conv => rhs; rw [Sort.siftDown.eq_1, dif_neg (by omega)]
            rw [if_neg (by simp only [Sort.ltInt, Bool.and_eq_true, decide_eq_true_eq]; exact fun hh => h5 hh.2)]
            have hl : Sort.ltInt d'[first + r]! d'[first + (2 * r + 1)]! = true := decide_eq_true h6
            rw [hl]
            first
              | rfl
              | (rw [if_neg (by decide)]; done)
              | (rw [if_neg (by decide), dif_pos (by omega)]; done)
          · simp only [List.set_set]; rfl
        · rw [decide_eq_false h6]
          conv => whnf
          have e : Sort.siftDown Sort.ltInt hi first r0 d = d' := by
            rw [← he, Sort.siftDown.eq_1, dif_neg (by omega)]
            rw [if_neg (by simp only [Sort.ltInt, Bool.and_eq_true, decide_eq_true_eq]; exact fun hh => h5 hh.2)]
            have hl : Sort.ltInt d'[first + r]! d'[first + (2 * r + 1)]! = false := decide_eq_false h6
            rw [hl]
            rfl
          rw [e]
          exact ⟨.inr rfl, ⟨by simp, fun j o hj => .inr hj⟩, rfl⟩
    · rw [decide_eq_false h4]
      conv => whnf
      rw [w6]
      refine ⟨by omega, ?_⟩
      conv => whnf
      refine nthK_of (by first | exact gs _ | exact gss _ _ | assumption) ?_
      conv => whnf
      refine rdK (first + r) (by omega) (by omega) ?_
      conv => whnf
      rw [w3]
      refine ⟨by omega, ?_⟩
      conv => whnf
      refine nthK_of (by first | exact gs _ | exact gss _ _ | assumption) ?_
      conv => whnf
      refine rdK (first + (2 * r + 1)) (by omega) (by omega) ?_
      conv => whnf
      refine ⟨by first | rfl | simp only [List.all_cons, List.all_nil, pu0, pub, pu1, pu2, pu1', pu2', pun, puf, puP, puP', puQ, puQ', Bool.and_true, Bool.and_self], _, less_ok d'[first + r]! d'[first + (2 * r + 1)]!, acc0, ?_⟩
      conv => whnf
      by_cases h6 : d'[first + r]! < d'[first + (2 * r + 1)]!
      · rw [decide_eq_true h6]
        conv => whnf
        rw [w6, w3]
        refine ⟨by omega, ?_⟩
        conv => whnf
        refine nthK_of (by first | exact gs _ | exact gss _ _ | assumption) ?_
        conv => whnf
        refine rdK (first + (2 * r + 1)) (by omega) (by omega) ?_
        conv => whnf
        rw [w6]
        refine ⟨by omega, ?_⟩
        conv => whnf
        refine nthK_of (by first | exact gs _ | exact gss _ _ | assumption) ?_
        conv => whnf
        refine rdK (first + r) (by omega) (by omega) ?_
        conv => whnf
        refine ⟨by omega, ?_⟩
        conv => whnf
        rw [hbl]
        conv => whnf
        refine nthK_of (by first | exact gs _ | exact gss _ _ | assumption) ?_
        conv => whnf
        refine wrK (first + r) (by omega) (by first | omega | (simp only [Array.size_setIfInBounds]; omega)) ?_
        conv => whnf
        refine ⟨by omega, ?_⟩
        conv => whnf
        rw [hbl]
        conv => whnf
        refine nthK_of (by first | exact gs _ | exact gss _ _ | assumption) ?_
        conv => whnf
        refine wrK (first + (2 * r + 1)) (by omega) (by first | omega | (simp only [Array.size_setIfInBounds]; omega)) ?_
        conv => whnf
        refine ⟨1001 - (2 * r + 1), by omega, 2 * r + 1, Sort.swp d' (first + r) (first + (2 * r + 1)), by omega, rfl, by rw [swp_size]; exact hds, ?_, rfl, ?_⟩
        · rw [← he]
          conv => rhs; rw [Sort.siftDown.eq_1, dif_neg (by omega)]
          rw [if_neg (by simp only [Bool.and_eq_true, decide_eq_true_eq]; exact fun hh => by omega)]
          have hl : Sort.ltInt d'[first + r]! d'[first + (2 * r + 1)]! = true := decide_eq_true h6
          rw [hl]
          first
            | rfl
            | (rw [if_neg (by decide)]; done)
            | (rw [if_neg (by decide), dif_pos (by omega)]; done)
        · simp only [List.set_set]; rfl
      · rw [decide_eq_false h6]
        conv => whnf
        have e : Sort.siftDown Sort.ltInt hi first r0 d = d' := by
          rw [← he, Sort.siftDown.eq_1, dif_neg (by omega)]
          rw [if_neg (by simp only [Bool.and_eq_true, decide_eq_true_eq]; exact fun hh => by omega)]
          have hl : Sort.ltInt d'[first + r]! d'[first + (2 * r + 1)]! = false := decide_eq_false h6
          rw [hl]
          rfl
        rw [e]
        exact ⟨.inr rfl, ⟨by simp, fun j o hj => .inr hj⟩, rfl⟩
end
end Go.Proofs.Ytlcebaejlnpdeaa.Ab

/-
  Contracts: slices' heapSortOrdered.
-/
namespace Go.Proofs.Ytlcebaejlnpdeaa.Ab
open Go
set_option maxRecDepth 20000
set_option maxHeartbeats 4000000
theorem sift_size (lt : Int → Int → Bool) (hi first : Nat) : ∀ (n root : Nat) (d : Array Int), hi - root ≤ n → (Sort.siftDown lt hi first root d).size = d.size
  | 0, root, d, h => by rw [Sort.siftDown.eq_1, dif_pos (by omega)]
  | n + 1, root, d, h => by
    rw [Sort.siftDown.eq_1]
    split
    · rfl
    · split
      · split
        · rfl
        · split
          · rw [sift_size lt hi first n _ _ (by omega), swp_size]
          · rfl
      · split
        · rfl
        · rw [sift_size lt hi first n _ _ (by omega), swp_size]
theorem sift_sz (lt : Int → Int → Bool) (hi first root : Nat) (d : Array Int) : (Sort.siftDown lt hi first root d).size = d.size := sift_size lt hi first _ root d (Nat.le_refl _)
section
variable {H : List AObj} {id lo : Nat} (hlo : lo ≤ id)
include hlo
theorem heap_sem (d : Array Int) (a b : Nat) (hd : d.size ≤ 1000) (ha : a ≤ b) (hb : b ≤ d.size) (hH : H[id]? = some (Cd d)) :
    Sem Go.Proofs.Try.prog (.fn 117) [Da id d.size, I a, I b] H lo (.tuple []) (H.set id (Cd (Sort.heapSort Sort.ltInt d a b))) := by
  have hid := (List.getElem?_eq_some_iff.1 hH).1
  refine fn_sem hmix lk117 rfl ⟨by simp, fun j h1 h2 => by rw [List.getElem?_set_ne (by omega)]⟩ ?_
  unfold rc117
  conv => whnf
  have hbl : Nat.ble lo id = true := Nat.ble_eq_true_of_le hlo
  have gs : ∀ c : AObj, (H.set id c)[id]? = some c := fun c => by rw [List.getElem?_set_self hid]
  have gss : ∀ c e : AObj, ((H.set id c).set id e)[id]? = some e := fun c e => by rw [List.set_set, gs]
  have w0 : IntKind.i64.wrap ((b : Int) - (a : Int)) = ((b - a : Nat) : Int) := by rw [wrapI _ (by omega) (by omega)]; omega
  have w1 : (IntKind.i64.wrap (((b - a : Nat) : Int) - 1)).tdiv 2 = ((((b - a - 1) / 2 + 1 : Nat) : Int) - 1) := by
    rw [wrapI _ (by omega) (by omega)]
    by_cases hz : b - a = 0
    · rw [hz]; rfl
    · rw [show ((b - a : Nat) : Int) - 1 = ((b - a - 1 : Nat) : Int) by omega, show ((b - a - 1 : Nat) : Int).tdiv 2 = (((b - a - 1) / 2 : Nat) : Int) from rfl]; omega
  rw [w0]
  refine ⟨by decide, ?_⟩
  conv => whnf
  rw [w1, wrapI _ (by omega) (by omega)]
  refine .intro (fun k T H' => ∃ d', k ≤ 1000 ∧ d'.size = d.size ∧ Sort.heapBuild Sort.ltInt (b - a) a k d' = Sort.heapBuild Sort.ltInt (b - a) a ((b - a - 1) / 2 + 1) d ∧ T = slots 56 [(0, Da id d.size), (6, I a), (7, I (0 : Nat)), (8, I (b - a : Nat)), (9, I ((k : Int) - 1))] ∧ H' = H.set id (Cd d')) ((b - a - 1) / 2 + 1) ⟨d, by omega, rfl, rfl, rfl, ?_⟩ ?_
  · obtain ⟨h1, h2⟩ := List.getElem?_eq_some_iff.1 hH
    rw [← h2, List.set_getElem_self]
  rintro k T H' ⟨d', hk, hds, he, rfl, rfl⟩
  conv => whnf
  by_cases h : (0 : Int) ≤ (k : Int) - 1
  · rw [decide_eq_true h]
    obtain ⟨q, rfl⟩ : ∃ q, k = q + 1 := ⟨k - 1, by omega⟩
    have wq : ((q + 1 : Nat) : Int) - 1 = (q : Int) := by omega
    rw [wq]
    conv => whnf
    refine ⟨_, _, call1 (by rw [← hds]; exact sift_sem hlo d' q (b - a) a (by omega) (by omega) (by omega) (gs _)), ?_⟩
    conv => whnf
    refine ⟨q, by omega, Sort.siftDown Sort.ltInt (b - a) a q d', by omega, by rw [sift_sz]; exact hds, by rw [← he]; rfl, ?_, by rw [List.set_set]⟩
    rw [wrapI _ (by omega) (by omega)]; rfl
  · rw [decide_eq_false h]
    obtain rfl : k = 0 := by omega
    rw [Sort.heapBuild] at he
    conv => whnf
    have w2 : IntKind.i64.wrap (((b - a : Nat) : Int) - 1) = ((b - a : Nat) : Int) - 1 := wrapI _ (by omega) (by omega)
    rw [w2]
    have hres : Sort.heapSort Sort.ltInt d a b = Sort.heapPop Sort.ltInt a (b - a) d' := by rw [he]; rfl
    rw [hres]
    refine .intro (fun k T H' => ∃ e, k ≤ b - a ∧ e.size = d.size ∧ Sort.heapPop Sort.ltInt a k e = Sort.heapPop Sort.ltInt a (b - a) d' ∧ T = slots 56 [(0, Da id d.size), (6, I a), (7, I (0 : Nat)), (10, I ((k : Int) - 1))] ∧ H' = H.set id (Cd e)) (b - a) ⟨d', by omega, hds, rfl, rfl, rfl⟩ ?_
    rintro k T H' ⟨e, hk, hes, hee, rfl, rfl⟩
    conv => whnf
    by_cases h : (0 : Int) ≤ (k : Int) - 1
    · rw [decide_eq_true h]
      obtain ⟨q, rfl⟩ : ∃ q, k = q + 1 := ⟨k - 1, by omega⟩
      have wq : ((q + 1 : Nat) : Int) - 1 = (q : Int) := by omega
      have w3 : IntKind.i64.wrap ((a : Int) + (q : Int)) = ((a + q : Nat) : Int) := by rw [wrapI _ (by omega) (by omega)]; omega
      rw [wq]
      conv => whnf
      rw [w3]
      refine ⟨by omega, ?_⟩
      conv => whnf
      refine nthK_of (by first | exact gs _ | exact gss _ _ | assumption) ?_
      conv => whnf
      refine rdK (a + q) (by omega) (by omega) ?_
      conv => whnf
      refine ⟨by omega, ?_⟩
      conv => whnf
      refine nthK_of (by first | exact gs _ | exact gss _ _ | assumption) ?_
      conv => whnf
      refine rdK (a) (by omega) (by omega) ?_
      conv => whnf
      refine ⟨by omega, ?_⟩
      conv => whnf
      rw [hbl]
      conv => whnf
      refine nthK_of (by first | exact gs _ | exact gss _ _ | assumption) ?_
      conv => whnf
      refine wrK (a) (by omega) (by first | omega | (simp only [Array.size_setIfInBounds]; omega)) ?_
      conv => whnf
      refine ⟨by omega, ?_⟩
      conv => whnf
      rw [hbl]
      conv => whnf
      refine nthK_of (by first | exact gs _ | exact gss _ _ | assumption) ?_
      conv => whnf
      refine wrK (a + q) (by omega) (by first | omega | (simp only [Array.size_setIfInBounds]; omega)) ?_
      conv => whnf
      simp only [List.set_set]
      refine ⟨_, _, call1 (by rw [show d.size = (Sort.swp e a (a + q)).size by rw [swp_size]; exact hes.symm]; exact sift_sem hlo (Sort.swp e a (a + q)) 0 q a (by rw [swp_size]; omega) (by omega) (by rw [swp_size]; omega) (gs _)), ?_⟩
      conv => whnf
      refine ⟨q, by omega, Sort.siftDown Sort.ltInt q a 0 (Sort.swp e a (a + q)), by omega, by rw [sift_sz, swp_size]; exact hes, by rw [← hee]; rfl, ?_, by rw [List.set_set]⟩
      rw [wrapI _ (by omega) (by omega)]; rfl
    · rw [decide_eq_false h]
      obtain rfl : k = 0 := by omega
      rw [Sort.heapPop] at hee
      conv => whnf
      rw [← hee]
      exact ⟨.inl rfl, ⟨by simp, fun j o hj => .inr hj⟩, rfl⟩
end
end Go.Proofs.Ytlcebaejlnpdeaa.Ab

/-
  Contracts: slices' reverseRangeOrdered, partialInsertionSortOrdered (of fewer than 50).
-/
namespace Go.Proofs.Ytlcebaejlnpdeaa.Ab
open Go
set_option maxRecDepth 20000
set_option maxHeartbeats 4000000
section
variable {H : List AObj} {id lo : Nat} (hlo : lo ≤ id)
include hlo
theorem revRange_sem (d : Array Int) (a b : Nat) (hd : d.size ≤ 1000) (ha : a < b) (hb : b ≤ d.size) (hH : H[id]? = some (Cd d)) :
    Sem Go.Proofs.Try.prog (.fn 120) [Da id d.size, I a, I b] H lo (.tuple []) (H.set id (Cd (Sort.reverseRange d a b))) := by
  have hid := (List.getElem?_eq_some_iff.1 hH).1
  refine fn_sem hmix lk120 rfl ⟨by simp, fun j h1 h2 => by rw [List.getElem?_set_ne (by omega)]⟩ ?_
  unfold rc120
  conv => whnf
  have hbl : Nat.ble lo id = true := Nat.ble_eq_true_of_le hlo
  have gs : ∀ c : AObj, (H.set id c)[id]? = some c := fun c => by rw [List.getElem?_set_self hid]
  have gss : ∀ c e : AObj, ((H.set id c).set id e)[id]? = some e := fun c e => by rw [List.set_set, gs]
  rw [show IntKind.i64.wrap ((b : Int) - 1) = ((b - 1 : Nat) : Int) by rw [wrapI _ (by omega) (by omega)]; omega]
  refine .intro (fun m T H' => ∃ i j d', m = j - i ∧ j < d.size ∧ i ≤ j + 1 ∧ d'.size = d.size ∧ Sort.reverseLoop i j d' = Sort.reverseRange d a b ∧ T = slots 32 [(0, Da id d.size), (6, I (i : Nat)), (7, I (j : Nat))] ∧ H' = H.set id (Cd d')) (b - 1 - a) ⟨a, b - 1, d, rfl, by omega, by omega, rfl, rfl, rfl, ?_⟩ ?_
  · obtain ⟨h1, h2⟩ := List.getElem?_eq_some_iff.1 hH
    rw [← h2, List.set_getElem_self]
  rintro m T H' ⟨i, j, d', rfl, hj, hij, hds, he, rfl, rfl⟩
  conv => whnf
  by_cases h : (i : Int) < (j : Int)
  · rw [decide_eq_true h]
    conv => whnf
    refine ⟨by omega, ?_⟩
    conv => whnf
    refine nthK_of (by first | exact gs _ | exact gss _ _ | assumption) ?_
    conv => whnf
    refine rdK (j) (by omega) (by omega) ?_
    conv => whnf
    refine ⟨by omega, ?_⟩
    conv => whnf
    refine nthK_of (by first | exact gs _ | exact gss _ _ | assumption) ?_
    conv => whnf
    refine rdK (i) (by omega) (by omega) ?_
    conv => whnf
    refine ⟨by omega, ?_⟩
    conv => whnf
    rw [hbl]
    conv => whnf
    refine nthK_of (by first | exact gs _ | exact gss _ _ | assumption) ?_
    conv => whnf
    refine wrK (i) (by omega) (by first | omega | (simp only [Array.size_setIfInBounds]; omega)) ?_
    conv => whnf
    refine ⟨by omega, ?_⟩
    conv => whnf
    rw [hbl]
    conv => whnf
    refine nthK_of (by first | exact gs _ | exact gss _ _ | assumption) ?_
    conv => whnf
    refine wrK (j) (by omega) (by first | omega | (simp only [Array.size_setIfInBounds]; omega)) ?_
    conv => whnf
    refine ⟨j - 1 - (i + 1), by omega, i + 1, j - 1, Sort.swp d' i j, rfl, by omega, by omega, by rw [swp_size]; exact hds, ?_, ?_, ?_⟩
    · rw [← he, Sort.reverseLoop.eq_1 i j, if_pos (by omega)]
    · rw [← wrapS i (by omega), show ((j - 1 : Nat) : Int) = IntKind.i64.wrap ((j : Int) - 1) by rw [wrapI _ (by omega) (by omega)]; omega]; rfl
    · simp only [List.set_set]; rfl
  · rw [decide_eq_false h]
    conv => whnf
    have e : Sort.reverseRange d a b = d' := by rw [← he, Sort.reverseLoop.eq_1, if_neg (by omega)]
    rw [e]
    exact ⟨.inl rfl, ⟨by simp, fun j o hj => .inr hj⟩, rfl⟩
omit hlo in
theorem partial_sem (d : Array Int) (a b : Nat) (hd : d.size ≤ 1000) (ha : a < b) (hb : b ≤ d.size) (h50 : b - a < 50) (hH : H[id]? = some (Cd d)) :
    Sem Go.Proofs.Try.prog (.fn 121) [Da id d.size, I a, I b] H lo (B (Sort.partialInsertionSort Sort.ltInt d a b).2) H ∧ (Sort.partialInsertionSort Sort.ltInt d a b).1 = d := by
  have hid := (List.getElem?_eq_some_iff.1 hH).1
  have hpi : Sort.partialInsertionSort Sort.ltInt d a b = (d, decide (Sort.scanSorted Sort.ltInt d b (a + 1) = b)) := by
    rw [Sort.partialInsertionSort, Sort.partialIns]
    by_cases h : Sort.scanSorted Sort.ltInt d b (a + 1) = b
    · simp [h]
    · simp [h, h50]
  refine ⟨?_, by rw [hpi]⟩
  rw [hpi]
  refine fn_sem hmix lk121 rfl ⟨Nat.le_refl _, fun j h1 h2 => rfl⟩ ?_
  unfold rc121
  conv => whnf
  rw [wrapS a (by omega)]
  refine .intro (fun m T H' => T = slots 133 [(0, Da id d.size), (1, I a), (2, I b), (7, I (a + 1 : Nat)), (8, I (0 : Nat))] ∧ H = H') 0 ⟨rfl, rfl⟩ ?_
  rintro m T H' ⟨rfl, rfl⟩
  conv => whnf
  refine .intro (fun m T H' => ∃ i, a + 1 ≤ i ∧ i ≤ b ∧ m = b - i ∧ Sort.scanSorted Sort.ltInt d b i = Sort.scanSorted Sort.ltInt d b (a + 1) ∧ T = slots 133 [(0, Da id d.size), (1, I a), (2, I b), (7, I (i : Nat)), (8, I (0 : Nat))] ∧ H = H') (b - (a + 1)) ⟨a + 1, Nat.le_refl _, by omega, rfl, rfl, rfl, rfl⟩ ?_
  rintro m T H' ⟨i, hi, hib, rfl, he, rfl, rfl⟩
  have gs : ∀ _ : Unit, H[id]? = some (Cd d) := fun _ => hH
  have gss : ∀ _ _ : Unit, H[id]? = some (Cd d) := fun _ _ => hH
  conv => whnf
  by_cases h : (i : Int) < (b : Int)
  · rw [decide_eq_true h]
    conv => whnf
    refine ⟨by omega, ?_⟩
    conv => whnf
    refine nthK_of hH ?_
    conv => whnf
    refine rdK i (by omega) (by omega) ?_
    conv => whnf
    rw [show IntKind.i64.wrap ((i : Int) - 1) = ((i - 1 : Nat) : Int) by rw [wrapI _ (by omega) (by omega)]; omega]
    refine ⟨by omega, ?_⟩
    conv => whnf
    refine nthK_of hH ?_
    conv => whnf
    refine rdK (i - 1) (by omega) (by omega) ?_
    conv => whnf
    refine ⟨by first | rfl | simp only [List.all_cons, List.all_nil, pu0, pub, pu1, pu2, pu1', pu2', pun, puf, puP, puP', puQ, puQ', Bool.and_true, Bool.and_self], _, less_ok d[i]! d[i - 1]!, acc0, ?_⟩
    conv => whnf
    by_cases h5 : d[i]! < d[i - 1]!
    · rw [decide_eq_true h5]
      conv => whnf
      rw [decide_eq_false (show ¬ (i : Int) = (b : Int) by omega)]
      conv => whnf
      rw [wrapI _ (by omega) (by omega), decide_eq_true (show (b : Int) - (a : Int) < 50 by omega)]
      conv => whnf
      have e : Sort.scanSorted Sort.ltInt d b (a + 1) = i := by
        rw [← he, Sort.scanSorted.eq_1, if_neg (by simp only [Sort.ltInt, Bool.and_eq_true, decide_eq_true_eq, Bool.not_eq_true', decide_eq_false_iff_not]; exact fun hh => hh.2 h5)]
      rw [e, decide_eq_false (by omega)]
      exact ⟨.inr rfl, ⟨by simp, fun j o hj => .inr hj⟩, rfl⟩
    · rw [decide_eq_false h5]
      conv => whnf
      refine ⟨b - (i + 1), by omega, i + 1, by omega, by omega, rfl, ?_, by rw [← wrapS i (by omega)]; rfl, rfl⟩
      rw [← he, Sort.scanSorted.eq_1 _ _ _ i, if_pos (by simp only [Sort.ltInt, Bool.and_eq_true, decide_eq_true_eq, Bool.not_eq_true', decide_eq_false_iff_not]; exact ⟨by omega, h5⟩)]
  · rw [decide_eq_false h]
    obtain rfl : i = b := by omega
    conv => whnf
    rw [decide_eq_true (show (i : Int) = (i : Int) from rfl)]
    conv => whnf
    have e : Sort.scanSorted Sort.ltInt d i (a + 1) = i := by
      rw [← he, Sort.scanSorted.eq_1, if_neg (by simp only [Bool.and_eq_true, decide_eq_true_eq]; exact fun hh => by omega)]
    rw [e, decide_eq_true rfl]
    exact ⟨.inr rfl, ⟨by simp, fun j o hj => .inr hj⟩, rfl⟩
end
end Go.Proofs.Ytlcebaejlnpdeaa.Ab

/-
  Contracts: slices' order2Ordered, medianOrdered, choosePivotOrdered (of fewer than 50).
-/
namespace Go.Proofs.Ytlcebaejlnpdeaa.Ab
open Go
set_option maxRecDepth 20000
set_option maxHeartbeats 4000000
section
variable {H : List AObj} {id lo : Nat}
theorem order2_sem (d : Array Int) (sid a b s : Nat) (hs : lo ≤ sid) (ha : a < d.size) (hb : b < d.size) (hd : d.size ≤ 1000) (hs2 : s ≤ 1000) (hH : H[id]? = some (Cd d)) (hS : H[sid]? = some (.cells [I s])) :
    Sem Go.Proofs.Try.prog (.fn 133) [Da id d.size, I a, I b, .ptr sid 0] H lo (.tuple [I (Sort.order2 Sort.ltInt d a b s).1, I (Sort.order2 Sort.ltInt d a b s).2.1]) (H.set sid (.cells [I (Sort.order2 Sort.ltInt d a b s).2.2])) := by
  have hid := (List.getElem?_eq_some_iff.1 hS).1
  refine fn_sem hmix lk133 rfl ⟨by simp, fun j h1 h2 => by rw [List.getElem?_set_ne (by omega)]⟩ ?_
  unfold rc133
  conv => whnf
  have hbl : Nat.ble lo sid = true := Nat.ble_eq_true_of_le hs
  refine ⟨by omega, ?_⟩
  conv => whnf
  refine nthK_of hH ?_
  conv => whnf
  refine rdK b (by omega) (by omega) ?_
  conv => whnf
  refine ⟨by omega, ?_⟩
  conv => whnf
  refine nthK_of hH ?_
  conv => whnf
  refine rdK a (by omega) (by omega) ?_
  conv => whnf
  refine ⟨by first | rfl | simp only [List.all_cons, List.all_nil, pu0, pub, pu1, pu2, pu1', pu2', pun, puf, puP, puP', puQ, puQ', Bool.and_true, Bool.and_self], _, less_ok d[b]! d[a]!, acc0, ?_⟩
  conv => whnf
  by_cases h : d[b]! < d[a]!
  · have e : Sort.order2 Sort.ltInt d a b s = (b, a, s + 1) := if_pos (decide_eq_true h)
    rw [decide_eq_true h, e]
    conv => whnf
    refine nthK_of hS ?_
    conv => whnf
    rw [hbl]
    conv => whnf
    refine nthK_of hS ?_
    conv => whnf
    rw [wrapS s (by omega)]
    exact ⟨.inr rfl, ⟨by simp, fun j o hj => .inr hj⟩, rfl⟩
  · have e : Sort.order2 Sort.ltInt d a b s = (a, b, s) := if_neg (by simp only [Sort.ltInt, decide_eq_true_eq]; exact h)
    rw [decide_eq_false h, e]
    conv => whnf
    have hH2 : H.set sid (.cells [I s]) = H := by
      obtain ⟨h1, h2⟩ := List.getElem?_eq_some_iff.1 hS
      rw [← h2, List.set_getElem_self]
    exact ⟨.inr rfl, by rw [hH2]; exact ⟨rfl, fun j o hj => .inr hj⟩, rfl⟩
theorem order2_s (d : Array Int) (a b s : Nat) : (Sort.order2 Sort.ltInt d a b s).2.2 ≤ s + 1 ∧ ((Sort.order2 Sort.ltInt d a b s).1 = a ∧ (Sort.order2 Sort.ltInt d a b s).2.1 = b ∨ (Sort.order2 Sort.ltInt d a b s).1 = b ∧ (Sort.order2 Sort.ltInt d a b s).2.1 = a) := by
  unfold Sort.order2; split
  · exact ⟨Nat.le_refl _, .inr ⟨rfl, rfl⟩⟩
  · exact ⟨by simp, .inl ⟨rfl, rfl⟩⟩
theorem median_sem (d : Array Int) (sid a b c s : Nat) (hne : sid ≠ id) (hs : lo ≤ sid) (ha : a < d.size) (hb : b < d.size) (hc : c < d.size) (hd : d.size ≤ 1000) (hs2 : s ≤ 900) (hH : H[id]? = some (Cd d)) (hS : H[sid]? = some (.cells [I s])) :
    Sem Go.Proofs.Try.prog (.fn 131) [Da id d.size, I a, I b, I c, .ptr sid 0] H lo (I (Sort.median Sort.ltInt d a b c s).1) (H.set sid (.cells [I (Sort.median Sort.ltInt d a b c s).2])) := by
  have hid := (List.getElem?_eq_some_iff.1 hS).1
  have hset : ∀ x : Nat, (H.set sid (.cells [I x]))[id]? = some (Cd d) := fun x => by rw [List.getElem?_set_ne hne]; exact hH
  have gs : ∀ x : Nat, (H.set sid (.cells [I x]))[sid]? = some (.cells [I x]) := fun x => by rw [List.getElem?_set_self hid]
  refine fn_sem hmix lk131 rfl ⟨by simp, fun j h1 h2 => by rw [List.getElem?_set_ne (by omega)]⟩ ?_
  unfold rc131
  conv => whnf
  obtain ⟨t1, u1⟩ := order2_s d a b s
  refine ⟨_, _, call1 (order2_sem d sid a b s hs ha hb hd (by omega) hH hS), ?_⟩
  generalize hr1 : Sort.order2 Sort.ltInt d a b s = r1 at t1 u1 ⊢
  conv => whnf
  obtain ⟨t2, u2⟩ := order2_s d r1.2.1 c r1.2.2
  refine ⟨_, _, call1 (order2_sem d sid r1.2.1 c r1.2.2 hs (by omega) hc hd (by omega) (hset _) (gs _)), ?_⟩
  generalize hr2 : Sort.order2 Sort.ltInt d r1.2.1 c r1.2.2 = r2 at t2 u2 ⊢
  rw [List.set_set]
  conv => whnf
  obtain ⟨t3, u3⟩ := order2_s d r1.1 r2.1 r2.2.2
  refine ⟨_, _, call1 (order2_sem d sid r1.1 r2.1 r2.2.2 hs (by omega) (by omega) hd (by omega) (hset _) (gs _)), ?_⟩
  generalize hr3 : Sort.order2 Sort.ltInt d r1.1 r2.1 r2.2.2 = r3 at t3 u3 ⊢
  rw [List.set_set]
  conv => whnf
  have e : Sort.median Sort.ltInt d a b c s = (r3.2.1, r3.2.2) := by unfold Sort.median; simp only [hr1, hr2, hr3]
  rw [e]
  exact ⟨.inr rfl, ⟨by simp, fun j o hj => .inr hj⟩, rfl⟩
def hintI : Sort.Hint → Int
  | .unknown => 0 | .increasing => 1 | .decreasing => 2
theorem fgt_snoc (X : List AObj) (x : AObj) : Fgt (X ++ [x]) (X ++ [.dead]) := by
  refine ⟨by simp, fun j o hj => ?_⟩
  by_cases h : j < X.length
  · rw [List.getElem?_append_left h] at hj ⊢; exact .inr hj
  · rw [List.getElem?_append_right (by omega)] at hj
    obtain ⟨h1, h2⟩ := List.getElem?_eq_some_iff.1 hj
    simp at h1
    simp [show j - X.length = 0 by omega] at h2
    exact .inl h2.symm
theorem pivot_sem (d : Array Int) (a b : Nat) (hlo : lo ≤ id) (hd : d.size ≤ 1000) (ha : a < b) (hb : b ≤ d.size) (h50 : b - a < 50) (hl : lo ≤ H.length) (hH : H[id]? = some (Cd d)) :
    Sem Go.Proofs.Try.prog (.fn 119) [Da id d.size, I a, I b] H lo (.tuple [I (Sort.choosePivot Sort.ltInt d a b).1, I (hintI (Sort.choosePivot Sort.ltInt d a b).2)]) (H ++ [.dead]) := by
  have hid := (List.getElem?_eq_some_iff.1 hH).1
  refine fn_sem hmix lk119 rfl ⟨by simp, fun j h1 h2 => by rw [List.getElem?_append_left h2]⟩ ?_
  unfold rc119
  conv => whnf
  have hH1 : ∀ o : AObj, (H ++ [o])[id]? = some (Cd d) := fun o => by rw [List.getElem?_append_left hid]; exact hH
  have gs : ∀ o : AObj, (H ++ [o])[H.length]? = some o := fun o => by simp
  have w0 : IntKind.i64.wrap ((b : Int) - (a : Int)) = ((b - a : Nat) : Int) := by rw [wrapI _ (by omega) (by omega)]; omega
  have wq : IntKind.i64.wrap (((b - a : Nat) : Int).tdiv 4) = (((b - a) / 4 : Nat) : Int) := by
    rw [show ((b - a : Nat) : Int).tdiv 4 = (((b - a) / 4 : Nat) : Int) from rfl, wrapI _ (by omega) (by omega)]
  have wi : IntKind.i64.wrap ((a : Int) + IntKind.i64.wrap ((((b - a) / 4 : Nat) : Int) * 1)) = ((a + (b - a) / 4 * 1 : Nat) : Int) := by rw [wrapI ((((b - a) / 4 : Nat) : Int) * 1) (by omega) (by omega), wrapI _ (by omega) (by omega)]; omega
  have wj : IntKind.i64.wrap ((a : Int) + IntKind.i64.wrap ((((b - a) / 4 : Nat) : Int) * 2)) = ((a + (b - a) / 4 * 2 : Nat) : Int) := by rw [wrapI ((((b - a) / 4 : Nat) : Int) * 2) (by omega) (by omega), wrapI _ (by omega) (by omega)]; omega
  have wk : IntKind.i64.wrap ((a : Int) + IntKind.i64.wrap ((((b - a) / 4 : Nat) : Int) * 3)) = ((a + (b - a) / 4 * 3 : Nat) : Int) := by rw [wrapI ((((b - a) / 4 : Nat) : Int) * 3) (by omega) (by omega), wrapI _ (by omega) (by omega)]; omega
  rw [w0]
  refine ⟨by decide, ?_⟩
  conv => whnf
  rw [wq, wi]
  refine ⟨by decide, ?_⟩
  conv => whnf
  rw [wq, wj]
  refine ⟨by decide, ?_⟩
  conv => whnf
  rw [wk]
  by_cases h8 : (8 : Int) ≤ ((b - a : Nat) : Int)
  · rw [decide_eq_true h8]
    conv => whnf
    rw [decide_eq_false (show ¬ (50 : Int) ≤ ((b - a : Nat) : Int) by omega)]
    conv => whnf
    refine ⟨_, _, call1 (median_sem d H.length (a + (b - a) / 4 * 1) (a + (b - a) / 4 * 2) (a + (b - a) / 4 * 3) 0 (by omega) hl (by omega) (by omega) (by omega) hd (by omega) (hH1 _) (gs _)), ?_⟩
    have hset : ∀ o e : AObj, ((H ++ [o]).set H.length e) = H ++ [e] := fun o e => by simp
    rw [hset]
    generalize hm : Sort.median Sort.ltInt d (a + (b - a) / 4 * 1) (a + (b - a) / 4 * 2) (a + (b - a) / 4 * 3) 0 = m
    have e : Sort.choosePivot Sort.ltInt d a b = (m.1, if m.2 = 0 then .increasing else if m.2 = 12 then .decreasing else .unknown) := by
      unfold Sort.choosePivot
      simp only [if_pos (show b - a ≥ 8 by omega), if_neg (show ¬ b - a ≥ 50 by omega), hm]
    rw [e]
    conv => whnf
    refine nthK_of (gs _) ?_
    conv => whnf
    by_cases h0 : ((m.2 : Nat) : Int) = 0
    · rw [decide_eq_true h0]
      conv => whnf
      rw [if_pos (show m.2 = 0 by omega)]
      exact ⟨.inr rfl, fgt_snoc _ _, rfl⟩
    · rw [decide_eq_false h0]
      conv => whnf
      rw [if_neg (show ¬ m.2 = 0 by omega)]
      by_cases h1 : ((m.2 : Nat) : Int) = 12
      · rw [decide_eq_true h1]
        conv => whnf
        rw [if_pos (show m.2 = 12 by omega)]
        exact ⟨.inr rfl, fgt_snoc _ _, rfl⟩
      · rw [decide_eq_false h1]
        conv => whnf
        rw [if_neg (show ¬ m.2 = 12 by omega)]
        exact ⟨.inr rfl, fgt_snoc _ _, rfl⟩
  · rw [decide_eq_false h8]
    have e : Sort.choosePivot Sort.ltInt d a b = (a + (b - a) / 4 * 2, .increasing) := by
      unfold Sort.choosePivot
      simp only [if_neg (show ¬ b - a ≥ 8 by omega)]
      rfl
    rw [e]
    conv => whnf
    refine nthK_of (gs _) ?_
    conv => whnf
    exact ⟨.inr rfl, fgt_snoc _ _, rfl⟩
end
end Go.Proofs.Ytlcebaejlnpdeaa.Ab

/-
  A table of closed calls.
-/
namespace Go.Proofs.Ytlcebaejlnpdeaa.Ab
open Go
def capEq : Cap → Cap → Bool
  | .shared, .shared => true
  | .full, .full => true
  | .own a, .own b => Nat.beq a b
  | .uniq a, .uniq b => Nat.beq a b
  | _, _ => false
theorem capEq_ok : ∀ {a b : Cap}, capEq a b = true → a = b := by
  intro a b h
  cases a <;> cases b <;> simp only [capEq, Bool.false_eq_true] at h <;> first | rfl | (rw [Nat.eq_of_beq_eq_true h])
def lEq (f : AV → AV → Bool) : List AV → List AV → Bool
  | [], [] => true
  | a :: l, b :: r => match f a b with
    | true => lEq f l r
    | false => false
  | _, _ => false
theorem lEq_ok {f : AV → AV → Bool} (hf : ∀ a b, f a b = true → a = b) : ∀ {a b : List AV}, lEq f a b = true → a = b
  | [], [], _ => rfl
  | [], _ :: _, h => by simp [lEq] at h
  | _ :: _, [], h => by simp [lEq] at h
  | a :: l, b :: r, h => by
    simp only [lEq] at h
    split at h
    · rename_i hab; rw [hf a b hab, lEq_ok hf h]
    · cases h
/-- Equality of closed values. -/
def avEq : Nat → AV → AV → Bool
  | 0, _, _ => false
  | d + 1, a, b => match a, b with
    | .bool x, .bool y => match x, y with | true, true => true | false, false => true | _, _ => false
    | .int k x, .int q y => match decide (k = q), decide (x = y) with | true, true => true | _, _ => false
    | .nilp, .nilp => true
    | .lptr x, .lptr y => lEq (avEq d) x y
    | .lst x n c, .lst y m e => match lEq (avEq d) x y, Nat.beq n m, capEq c e with | true, true, true => true | _, _, _ => false
    | .func f x y, .func g z w => match Nat.beq f g, lEq (avEq d) x z, lEq (avEq d) y w with | true, true, true => true | _, _, _ => false
    | .agg x, .agg y => lEq (avEq d) x y
    | .tuple x, .tuple y => lEq (avEq d) x y
    | _, _ => false
theorem avEq_ok : ∀ (d : Nat) (a b : AV), avEq d a b = true → a = b
  | 0, _, _, h => by simp [avEq] at h
  | d + 1, a, b, h => by
    have ih := avEq_ok d
    unfold avEq at h
    split at h
    · split at h <;> first | rfl | cases h
    · rename_i k x q y
      split at h
      · rename_i h1 h2; rw [of_decide_eq_true h1, of_decide_eq_true h2]
      · cases h
    · rfl
    · rw [lEq_ok ih h]
    · split at h
      · rename_i h1 h2 h3; rw [lEq_ok ih h1, Nat.eq_of_beq_eq_true h2, capEq_ok h3]
      · cases h
    · split at h
      · rename_i h1 h2 h3; rw [Nat.eq_of_beq_eq_true h1, lEq_ok ih h2, lEq_ok ih h3]
      · cases h
    · rw [lEq_ok ih h]
    · rw [lEq_ok ih h]
    · cases h
/-- An entry: a pure call, or a call that hands out a map. -/
inductive Ent where
  | pure (k : Nat) (args : List AV) (v : AV)
  | map (k : Nat) (args : List AV) (es : List (Nat × AV × AV)) (clock : Nat)
def entOk (P : Program) : Ent → Prop
  | .pure k args v => PureOk P k args v
  | .map k args es clock => ∀ H, Sem P (.fn k) args H H.length (.map H.length) (H ++ [.map es clock])
def look (k : Nat) (args : List AV) (H : List AObj) (lo : Nat) : List Ent → Option (AV × List AObj)
  | [] => none
  | .pure q bs v :: r => match Nat.beq k q with
    | true => match lEq (avEq 20) args bs with
      | true => match H with
        | [] => some (v, [])
        | _ => look k args H lo r
      | false => look k args H lo r
    | false => look k args H lo r
  | .map q bs es clock :: r => match Nat.beq k q with
    | true => match lEq (avEq 20) args bs with
      | true => match Nat.beq lo H.length with
        | true => some (.map H.length, H ++ [.map es clock])
        | false => look k args H lo r
      | false => look k args H lo r
    | false => look k args H lo r
def tabOf (l : List Ent) : CallFn := fun tgt args H lo => match tgt with
  | .fn k => look k args H lo l
  | _ => none
theorem Sem.lo0 {P : Program} {tgt : Tgt} {args : List AV} {r : AV} {H' : List AObj} (h : Sem P tgt args [] 0 r H') (lo : Nat) : Sem P tgt args [] lo r H' :=
  ⟨⟨h.1.1, fun _ _ h => by simp at h⟩, h.2⟩
theorem look_ok {P : Program} {k : Nat} {args : List AV} {H : List AObj} {lo : Nat} {r : AV} {H' : List AObj} : ∀ {l : List Ent}, (∀ e ∈ l, entOk P e) → look k args H lo l = some (r, H') → Sem P (.fn k) args H lo r H'
  | [], _, h => by simp [look] at h
  | .pure q bs v :: l, hl, h => by
    have hrec := look_ok (k := k) (args := args) (H := H) (lo := lo) (r := r) (H' := H') fun e he => hl e (List.mem_cons_of_mem _ he)
    unfold look at h
    split at h
    · rename_i h1
      split at h
      · rename_i h2
        split at h
        · cases h
          have := hl (.pure q bs r) List.mem_cons_self
          rw [Nat.eq_of_beq_eq_true h1, lEq_ok (avEq_ok 20) h2]
          exact this.1.lo0 lo
        · exact hrec h
      · exact hrec h
    · exact hrec h
  | .map q bs es clock :: l, hl, h => by
    have hrec := look_ok (k := k) (args := args) (H := H) (lo := lo) (r := r) (H' := H') fun e he => hl e (List.mem_cons_of_mem _ he)
    unfold look at h
    split at h
    · rename_i h1
      split at h
      · rename_i h2
        split at h
        · rename_i h3
          cases h
          have := hl (.map q bs es clock) List.mem_cons_self
          rw [Nat.eq_of_beq_eq_true h1, lEq_ok (avEq_ok 20) h2, Nat.eq_of_beq_eq_true h3]
          exact this H
        · exact hrec h
      · exact hrec h
    · exact hrec h
theorem tab_sound {P : Program} {l : List Ent} (hl : ∀ e ∈ l, entOk P e) : CSound P (tabOf l) := csound_of fun tgt args H lo r H' h => by
  cases tgt with
  | fn k => exact look_ok hl h
  | yield i => simp [tabOf] at h
/-- Every function's annotations fit. -/
def okFrom (A : FuncId → FAnn) : Nat → List Func → Bool
  | _, [] => true
  | k, f :: r => match f.body with
    | some c => match codeOk (A k) c, f.name == "runtime.NumGoroutine" with
      | true, false => okFrom A (k + 1) r
      | _, _ => false
    | none => okFrom A (k + 1) r
theorem okFrom_ok {A : FuncId → FAnn} : ∀ {l : List Func} {k : Nat}, okFrom A k l = true → ∀ (i : Nat) (f : Func) (c : Code), l[i]? = some f → f.body = some c → codeOk (A (k + i)) c = true ∧ f.name ≠ "runtime.NumGoroutine"
  | [], _, _, i, f, c, h, _ => by simp at h
  | g :: r, k, h, i, f, c, hf, hc => by
    unfold okFrom at h
    cases i with
    | zero =>
      simp at hf; subst hf
      rw [hc] at h
      simp only at h
      split at h
      · rename_i h1 h2; exact ⟨h1, by simpa using h2⟩
      · cases h
    | succ i =>
      have hr : okFrom A (k + 1) r = true := by
        split at h
        · split at h
          · exact h
          · cases h
        · exact h
      have := okFrom_ok hr i f c (by simpa using hf) hc
      rw [show k + (i + 1) = k + 1 + i by omega]; exact this
theorem okAll {P : Program} {A : FuncId → FAnn} (h : okFrom A 0 P.funcs.toList = true) (k : Nat) (f : Func) (c : Code) (hf : P.funcs[k]? = some f) (hc : f.body = some c) : codeOk (A k) c = true ∧ f.name ≠ "runtime.NumGoroutine" := by
  have := okFrom_ok h k f c (by simpa using hf) hc
  rwa [Nat.zero_add] at this
theorem ann_ok : okFrom ann 0 Go.Proofs.Try.prog.funcs.toList = true := by kernel_rfl
/-- A closed call, over no objects. -/
noncomputable def runC (l : List Ent) (k : Nat) (args : List AV) : Option AV := match callF Go.Proofs.Try.prog ann (tabOf l) 300 (.fn k) args [] 0 with
  | some (r, H2) => match frz H2 0 H2.length 0 8 r with
    | some v => match pureD 8 v.settle with
      | true => some v.settle
      | false => none
    | none => none
  | none => none
theorem runC_ok {l : List Ent} (hl : ∀ e ∈ l, entOk Go.Proofs.Try.prog e) {k : Nat} {args : List AV} {v : AV} (h : runC l k args = some v) : PureOk Go.Proofs.Try.prog k args v := by
  unfold runC at h
  split at h
  · rename_i r H2 hc
    split at h
    · rename_i u hf
      split at h
      · rename_i hp
        cases h
        have hs := (callF_sound hmix ann (tab_sound hl) (okAll ann_ok) 300).sem hc
        refine ⟨⟨Low.refl _ _, hs.2.1, fun B ω κ S w xs hH hn hv => CallsIn.mono (hs.2.2 B ω κ S w xs hH hn hv) fun e w' he => ?_⟩, hp⟩
        cases e with
        | returned x =>
          have hpost := post_frz hH (fun id hid => by simp at hid) hf he
          show Post B ω κ S w [] u.settle x w'
          cases u with
          | lst cells len cp =>
            cases cp with
            | uniq z => exact hpost.settle
            | _ => exact hpost
          | _ => exact hpost
        | panicked c => exact he.elim
        | outgrown => exact he.elim
      · cases h
    · cases h
  · cases h
end Go.Proofs.Ytlcebaejlnpdeaa.Ab

/- MADE BY PROGRAM (rc.py): functions, looked up. -/
namespace Go.Proofs.Ytlcebaejlnpdeaa.Ab
open Go
noncomputable def rc118_1 : RC :=
  .reg false [I_ 44 [.tk 10] .mv, I_ 45 [.sl 6] .mv, I_ 46 [.tv 44, .tv 45] (.bin .sub), I_ 10 [.tk 46] .mv]
noncomputable def rc118_2 : RC :=
  .reg true [I_ 47 [.sl 0] .mv, I_ 48 [.sl 9] .mv, I_ 49 [.sl 0] .mv, I_ 50 [.sl 1] .mv, I_ 51 [.sl 10] .mv, I_ 52 [.tv 50, .tv 51] (.bin .add), I_ 53 [.sl 0] .mv, I_ 54 [.sl 1] .mv, I_ 55 [.sl 10] .mv, I_ 56 [.tv 54, .tv 55] (.bin
  .add), I_ 57 [.tv 53, .tv 56] (.ia 1), I_ 58 [.tv 57] (.ld .one), I_ 59 [.sl 0] .mv, I_ 60 [.sl 9] .mv, I_ 61 [.tv 59, .tv 60] (.ia 1), I_ 62 [.tv 61] (.ld .one), I_ 63 [.tv 47, .tv 48] (.ia 1), ⟨none, [.tk 63, .tk 58], none,
  none, .st 1⟩, I_ 64 [.tv 49, .tv 52] (.ia 1), ⟨none, [.tk 64, .tk 62], none, none, .st 1⟩]
noncomputable def rc118_3 : RC :=
  .seq (.block 1 (.seq (.reg false [I_ 36 [.cv (.func 129 [] []), .sl 7] (.call 1), I_ 37 [.sl 8] .mv, I_ 38 [.tv 37, .cv (.int .u64 1)] (.bin .sub), I_ 39 [.tv 36, .tv 38] (.bin .and), I_ 40 [.tv 39] (.conv .i64), I_ 10 [.tk 40]
  .mv]) (.seq (.seq (.reg false [I_ 41 [.sl 10] .mv, I_ 42 [.sl 6] .mv, I_ 43 [.tv 41, .tv 42] (.bin .geq)]) (.cond (.sl 43) rc118_1 .skip)) rc118_2))) (.reg false [I_ 34 [.tk 9] .mv, I_ 35 [.tv 34, .cv (.int .i64 1)] (.bin
  .add), I_ 9 [.tk 35] .mv])
noncomputable def rc118_4 : RC :=
  .seq (.seq (.reg false [I_ 26 [.sl 9] .mv, I_ 27 [.sl 1] .mv, I_ 28 [.sl 6] .mv, I_ 29 [.tv 28, .cv (.int .i64 4)] (.bin .quo), I_ 30 [.tv 29, .cv (.int .i64 2)] (.bin .mul), I_ 31 [.tv 27, .tv 30] (.bin .add), I_ 32 [.tv 31, .cv
  (.int .i64 1)] (.bin .add), I_ 33 [.tv 26, .tv 32] (.bin .leq)]) (.cond (.sl 33) .skip (.exit 0))) rc118_3
noncomputable def rc118_5 : RC :=
  .seq (.reg false [I_ 20 [.sl 1] .mv, I_ 21 [.sl 6] .mv, I_ 22 [.tv 21, .cv (.int .i64 4)] (.bin .quo), I_ 23 [.tv 22, .cv (.int .i64 2)] (.bin .mul), I_ 24 [.tv 20, .tv 23] (.bin .add), I_ 25 [.tv 24, .cv (.int .i64 1)] (.bin
  .sub), I_ 9 [.tk 25] .mv]) (.block 0 (.loop (some [i_,i_,o_,o_,o_,o_,i_,i_,i_,i_,o_,o_,o_,o_,o_,o_,o_,o_,o_,o_,o_,o_,o_,o_,o_,o_,o_,o_,o_,o_,o_,o_,o_,o_,o_,o_,o_,o_,o_,o_,o_,o_,o_,o_,o_,o_,o_,o_,o_,o_,o_,o_,o_,o_,o_,o_,o_,o_,o_,o_,o_,o_,o_,o_,o_]) rc118_4))
noncomputable def rc118_6 : RC :=
  .seq (.reg false [I_ 16 [.sl 6] .mv, I_ 17 [.tv 16] (.conv .u64), I_ 7 [] (.alloc [.int .u64 0]), ⟨none, [.sl 7, .tk 17], none, none, .st 1⟩]) (.seq (.reg false [I_ 18 [.sl 6] .mv, I_ 19 [.cv (.func 128 [] []), .sl 18] (.call 3),
  I_ 8 [.tk 19] .mv]) rc118_5)
noncomputable def rc118 : RC :=
  .seq (.reg false [I_ 11 [.tk 2] .mv, I_ 12 [.sl 1] .mv, I_ 13 [.tv 11, .tv 12] (.bin .sub), I_ 6 [.tk 13] .mv]) (.seq (.reg false [I_ 14 [.sl 6] .mv, I_ 15 [.tv 14, .cv (.int .i64 8)] (.bin .geq)]) (.cond (.sl 15) rc118_6 .skip))
theorem lk118 : linkF Go.Proofs.Try.prog ann118 118 = some (rc118, 65, []) := by kernel_rfl
end Go.Proofs.Ytlcebaejlnpdeaa.Ab

/-
  Contracts: slices' nextPowerOfTwo, xorshift.Next, breakPatternsOrdered.
-/
namespace Go.Proofs.Ytlcebaejlnpdeaa.Ab
open Go
set_option maxRecDepth 20000
set_option maxHeartbeats 4000000
theorem wrapU (n : Int) : IntKind.u64.wrap n = n % 18446744073709551616 := by simp [IntKind.wrap, IntKind.bits, IntKind.signed]
theorem lens_all : ((List.range 32).all fun n => match runC [] 115 [.int .u64 (n : Nat)] with | some v => avEq 3 v (I (Sort.bitsLen n)) | none => false) = true := by kernel_rfl
theorem bitsLen_ok (n : Nat) (h : n < 32) : PO 115 [.int .u64 n] (I (Sort.bitsLen n)) := by
  have := List.all_eq_true.1 lens_all n (List.mem_range.2 h)
  split at this
  · rename_i v hv
    rw [avEq_ok _ _ _ this] at hv
    exact runC_ok (l := []) (by simp) hv
  · cases this
theorem bitsLen_le (n : Nat) (h : n < 32) : Sort.bitsLen n ≤ 5 := by
  have : ∀ n : Fin 32, Sort.bitsLen n.1 ≤ 5 := by decide
  exact this ⟨n, h⟩
theorem pow2_ok (n : Nat) (h : n < 32) : PO 128 [I n] (.int .u64 ((1 <<< Sort.bitsLen n : Nat) : Int)) := by
  refine fn_pure hmix lk128 rfl rfl ?_
  unfold rc128
  conv => whnf
  rw [show IntKind.u64.wrap (n : Int) = (n : Int) by rw [wrapU]; omega]
  refine ⟨by first | rfl | simp only [List.all_cons, List.all_nil, pu0, pub, pu1, pu2, pu1', pu2', pun, puf, puP, puP', puQ, puQ', Bool.and_true, Bool.and_self], _, bitsLen_ok n h, ?_⟩
  conv => whnf
  have hb := bitsLen_le n h
  have e : IntKind.u64.wrap (1 * 2 ^ ((Sort.bitsLen n : Nat) : Int).toNat.min IntKind.u64.bits) = ((1 <<< Sort.bitsLen n : Nat) : Int) := by
    generalize Sort.bitsLen n = m at hb
    have : ∀ m : Fin 6, IntKind.u64.wrap (1 * 2 ^ ((m.1 : Nat) : Int).toNat.min IntKind.u64.bits) = ((1 <<< m.1 : Nat) : Int) := by decide
    exact this ⟨m, by omega⟩
  rw [e]
  refine ⟨by omega, ?_⟩
  conv => whnf
  exact ret_pure (.inr rfl) rfl rfl
theorem u64_xor (a b : UInt64) : IntKind.u64.wrap (((BitVec.ofInt IntKind.u64.bits (a.toNat : Int) ^^^ BitVec.ofInt IntKind.u64.bits (b.toNat : Int)).toNat : Nat) : Int) = ((a ^^^ b).toNat : Int) := by
  have h1 : BitVec.ofInt IntKind.u64.bits (a.toNat : Int) = a.toBitVec := by
    apply BitVec.eq_of_toNat_eq; simp [IntKind.bits]
  have h2 : BitVec.ofInt IntKind.u64.bits (b.toNat : Int) = b.toBitVec := by
    apply BitVec.eq_of_toNat_eq; simp [IntKind.bits]
  rw [h1, h2, wrapU]
  have := (a ^^^ b).toNat_lt
  show ((a ^^^ b).toNat : Int) % 18446744073709551616 = _
  omega
theorem two64 : ((2 ^ 64 : Nat) : Int) = 18446744073709551616 := by decide
theorem u64_shl (a k : UInt64) (m : Nat) (hk : k.toNat = m) (h : m < 64) : IntKind.u64.wrap ((a.toNat : Int) * 2 ^ m) = ((a <<< k).toNat : Int) := by
  subst hk
  rw [wrapU, UInt64.toNat_shiftLeft, Nat.mod_eq_of_lt h, Nat.shiftLeft_eq, Int.natCast_emod, two64, Int.natCast_mul, Int.natCast_pow]
  congr 1
theorem u64_shr (a k : UInt64) (m : Nat) (hk : k.toNat = m) (h : m < 64) : ((a.toNat : Int).fdiv (2 ^ m)) = ((a >>> k).toNat : Int) := by
  subst hk
  rw [UInt64.toNat_shiftRight, Nat.mod_eq_of_lt h, Nat.shiftRight_eq_div_pow]
  rw [Int.fdiv_eq_ediv_of_nonneg _ (Int.pow_nonneg (by decide)), Int.natCast_ediv, Int.natCast_pow]
  congr 1
/-- A region, for any rest. -/
theorem regG {P : Program} {lo : Nat} {d : Bool} {l : List RI} {acc : PAcc} {T : List AV} {H : List AObj} {K : List AV → List AObj → Prop} {G : (List AV → List AObj → Prop) → Prop} (e : ∀ K, G K → regK P lo d l acc T H K) (h : G K) : regK P lo d l acc T H K := e K h
/-- A contract; what is to hold at the end is a word alone (the kernel is spared it). -/
theorem fn_semQ {P : Program} (hmix : P.follows .mixedOrders = true) {k : Nat} {A : FAnn} {rc : RC} {n : Nat} {ts : List RV} (hl : linkF P A k = some (rc, n, ts)) {lo : Nat} {args T : List AV} {H H' : List AObj} (hT : args ++ List.replicate (n - args.length) .junk = T) {v : AV} (hlow : Low lo H H')
    (h : ∀ Q : Ex → List AV → List AObj → Prop, (∀ e T1 H1, (e = .normal ∨ e = .ret) ∧ Fgt H1 H' ∧ (readR H1 T1 ts).map packResults = some v → Q e T1 H1) → wpR P A k lo none rc T H Q) : Sem P (.fn k) args H lo v H' :=
  fn_sem hmix hl hT hlow (h _ fun _ _ _ h => h)
theorem fn_pureQ {P : Program} (hmix : P.follows .mixedOrders = true) {k : Nat} {A : FAnn} {rc : RC} {n : Nat} {ts : List RV} (hl : linkF P A k = some (rc, n, ts)) {args T : List AV} (hT : args ++ List.replicate (n - args.length) .junk = T) {v : AV} (hp : pureD 8 v = true)
    (h : ∀ Q : Ex → List AV → List AObj → Prop, (∀ e T1 H1, Ret ts v e T1 H1 → Q e T1 H1) → wpR P A k 0 none rc T [] Q) : PureOk P k args v :=
  fn_pure hmix hl hT hp (h _ fun _ _ _ h => h)
section
variable {H : List AObj} {lo : Nat}
theorem next_sem (r : UInt64) (sid : Nat) (hs : lo ≤ sid) (hS : H[sid]? = some (.cells [.int .u64 (r.toNat : Nat)])) :
    Sem Go.Proofs.Try.prog (.fn 129) [.ptr sid 0] H lo (.int .u64 ((Sort.xorNext r).toNat : Nat)) (H.set sid (.cells [.int .u64 ((Sort.xorNext r).toNat : Nat)])) := by
  have hid := (List.getElem?_eq_some_iff.1 hS).1
  refine fn_sem hmix lk129 rfl ⟨by simp, fun j h1 h2 => by rw [List.getElem?_set_ne (by omega)]⟩ ?_
  unfold rc129
  conv => whnf
  have hbl : Nat.ble lo sid = true := Nat.ble_eq_true_of_le hs
  have gs : ∀ c : AObj, (H.set sid c)[sid]? = some c := fun c => by rw [List.getElem?_set_self hid]
  have gss : ∀ c e : AObj, ((H.set sid c).set sid e)[sid]? = some e := fun c e => by rw [List.set_set, gs]
  obtain ⟨r1, h1⟩ : ∃ r1, r1 = r ^^^ (r <<< 13) := ⟨_, rfl⟩
  obtain ⟨r2, h2⟩ : ∃ r2, r2 = r1 ^^^ (r1 >>> 7) := ⟨_, rfl⟩
  obtain ⟨r3, h3⟩ : ∃ r3, r3 = r2 ^^^ (r2 <<< 17) := ⟨_, rfl⟩
  have e3 : Sort.xorNext r = r3 := by subst h3 h2 h1; rfl
  rw [e3]
  refine nthK_of (hS) ?_
  conv => whnf
  refine nthK_of (hS) ?_
  conv => whnf
  refine ⟨by decide, ?_⟩
  rw [show IntKind.u64.wrap ((r.toNat : Int) * 2 ^ ((13 : Int).toNat.min IntKind.u64.bits)) = ((r <<< 13).toNat : Int) from u64_shl r 13 13 rfl (by decide)]
  show regK Go.Proofs.Try.prog lo true [I_ 10 [.tv 5, .tv 9] (.bin .xor), I_ 11 [.sl 3] .nilc, ⟨none, [.tk 11, .tk 10], none, none, .st 1⟩] _ _ _ _
  refine regG (G := ?G1) (fun K h => ?e1) ?h1
  case e1 =>
    conv => whnf
    rw [u64_xor, ← h1, hbl]
    conv => whnf
    exact h
  refine nthK_of (hS) ?_
  conv => whnf
  refine nthK_of (gs _) ?_
  conv => whnf
  refine nthK_of (gs _) ?_
  conv => whnf
  refine ⟨by decide, ?_⟩
  rw [show ((r1.toNat : Int).fdiv (2 ^ ((7 : Int).toNat.min IntKind.u64.bits))) = ((r1 >>> 7).toNat : Int) from u64_shr r1 7 7 rfl (by decide)]
  show regK Go.Proofs.Try.prog lo true [I_ 19 [.tv 14, .tv 18] (.bin .xor), I_ 20 [.sl 12] .nilc, ⟨none, [.tk 20, .tk 19], none, none, .st 1⟩] _ _ _ _
  refine regG (G := ?G2) (fun K h => ?e2) ?h2
  case e2 =>
    conv => whnf
    rw [u64_xor, ← h2, hbl]
    conv => whnf
    exact h
  refine nthK_of (gs _) ?_
  conv => whnf
  refine nthK_of (gss _ _) ?_
  conv => whnf
  refine nthK_of (gss _ _) ?_
  conv => whnf
  refine ⟨by decide, ?_⟩
  rw [show IntKind.u64.wrap ((r2.toNat : Int) * 2 ^ ((17 : Int).toNat.min IntKind.u64.bits)) = ((r2 <<< 17).toNat : Int) from u64_shl r2 17 17 rfl (by decide)]
  show regK Go.Proofs.Try.prog lo true [I_ 28 [.tv 23, .tv 27] (.bin .xor), I_ 29 [.sl 21] .nilc, ⟨none, [.tk 29, .tk 28], none, none, .st 1⟩] _ _ _ _
  refine regG (G := ?G3) (fun K h => ?e3) ?h3
  case e3 =>
    conv => whnf
    rw [u64_xor, ← h3, hbl]
    conv => whnf
    exact h
  refine nthK_of (gss _ _) ?_
  conv => whnf
  refine nthK_of (by rw [List.set_set, List.set_set, gs]) ?_
  conv => whnf
  refine ⟨.inr rfl, ?_, rfl⟩
  simp only [List.set_set]
  exact ⟨by simp, fun j o hj => .inr hj⟩
theorem and_bound (x : Nat) (L : Nat) (h8 : 8 ≤ L) (h : L < 32) : (x &&& ((1 <<< Sort.bitsLen L) - 1)) < 2 * L ∧ 1 ≤ 1 <<< Sort.bitsLen L ∧ 1 <<< Sort.bitsLen L ≤ 64 := by
  have key : ∀ n : Fin 32, (8 ≤ n.1 → (1 <<< Sort.bitsLen n.1) - 1 < 2 * n.1) ∧ 1 ≤ 1 <<< Sort.bitsLen n.1 ∧ 1 <<< Sort.bitsLen n.1 ≤ 64 := by decide
  have h1 := key ⟨L, h⟩
  have h2 : (x &&& ((1 <<< Sort.bitsLen L) - 1)) ≤ (1 <<< Sort.bitsLen L) - 1 := Nat.and_le_right
  exact ⟨Nat.lt_of_le_of_lt h2 (h1.1 h8), h1.2⟩
theorem u64_and (x : UInt64) (m : Nat) (h : m < 18446744073709551616) : IntKind.u64.wrap (((BitVec.ofInt IntKind.u64.bits (x.toNat : Int) &&& BitVec.ofInt IntKind.u64.bits (m : Int)).toNat : Nat) : Int) = ((x.toNat &&& m : Nat) : Int) := by
  have h1 : BitVec.ofInt IntKind.u64.bits (x.toNat : Int) = BitVec.ofNat 64 x.toNat := by
    apply BitVec.eq_of_toNat_eq; simp [IntKind.bits]
  have h2 : BitVec.ofInt IntKind.u64.bits (m : Int) = BitVec.ofNat 64 m := by
    apply BitVec.eq_of_toNat_eq; simp [IntKind.bits]
  rw [h1, h2, wrapU]
  have e : (BitVec.ofNat 64 x.toNat &&& BitVec.ofNat 64 m).toNat = x.toNat &&& m := by
    rw [BitVec.toNat_and, BitVec.toNat_ofNat, BitVec.toNat_ofNat, Nat.mod_eq_of_lt (by have := x.toNat_lt; omega), Nat.mod_eq_of_lt (by omega)]
  show ((BitVec.ofNat 64 x.toNat &&& BitVec.ofNat 64 m).toNat : Int) % 18446744073709551616 = _
  rw [e]
  have : x.toNat &&& m ≤ m := Nat.and_le_right
  omega
theorem setLast {α : Type} (X : List α) (y z : α) (n : Nat) (h : X.length = n) : (X ++ [y]).set n z = X ++ [z] := by subst h; simp
theorem getLast0 {α : Type} (X : List α) (y : α) (n : Nat) (h : X.length = n) : (X ++ [y])[n]? = some y := by subst h; simp
theorem setInit {α : Type} (X : List α) (y z : α) (n : Nat) (h : n < X.length) : (X ++ [y]).set n z = X.set n z ++ [y] := List.set_append_left _ _ h
noncomputable def brk (a L M idx : Nat) (d : Array Int) : Nat → UInt64 × Array Int
  | 0 => (UInt64.ofNat L, d)
  | k + 1 => Sort.breakStep a L M (brk a L M idx d k) (idx + k)
theorem brk_size (a L M idx : Nat) (d : Array Int) : ∀ k, (brk a L M idx d k).2.size = d.size
  | 0 => rfl
  | k + 1 => by
    simp only [brk, Sort.breakStep]
    rw [swp_size]; exact brk_size a L M idx d k
theorem idx3 {idx a L k : Nat} (h : idx = a + L / 4 * 2 - 1) (hL : 8 ≤ L) (hk : k ≤ 3) (hc : ¬ ((idx + k : Nat) : Int) ≤ ((a + L / 4 * 2 + 1 : Nat) : Int)) : k = 3 := by omega
theorem idx2 {idx a L k : Nat} (h : idx = a + L / 4 * 2 - 1) (hL : 8 ≤ L) (hc : ((idx + k : Nat) : Int) ≤ ((a + L / 4 * 2 + 1 : Nat) : Int)) : k < 3 := by omega
theorem break_sem (id : Nat) (hlo : lo ≤ id) (d : Array Int) (a b : Nat) (hd : d.size ≤ 1000) (ha : a ≤ b) (hb : b ≤ d.size) (h32 : b - a < 32) (hH : H[id]? = some (Cd d)) :
    Sem Go.Proofs.Try.prog (.fn 118) [Da id d.size, I a, I b] H lo (.tuple []) (H.set id (Cd (Sort.breakPatterns d a b)) ++ if 8 ≤ b - a then [.dead] else []) := by
  have hid := (List.getElem?_eq_some_iff.1 hH).1
  refine fn_semQ hmix lk118 rfl ⟨by simp, fun j h1 h2 => by rw [List.getElem?_append_left (by simp; omega), List.getElem?_set_ne (by omega)]⟩ fun Q hQ => ?_
  unfold rc118
  obtain ⟨c6, g6⟩ : ∃ c, rc118_6 = c := ⟨_, rfl⟩
  rw [g6]
  conv => whnf
  have hbl : Nat.ble lo id = true := Nat.ble_eq_true_of_le hlo
  rw [show IntKind.i64.wrap ((b : Int) - (a : Int)) = ((b - a : Nat) : Int) by rw [wrapI _ (by omega) (by omega)]; omega]
  by_cases h8 : (8 : Int) ≤ ((b - a : Nat) : Int)
  · rw [decide_eq_true h8]
    conv => whnf
    subst g6
    unfold rc118_6
    obtain ⟨c5, g5⟩ : ∃ c, rc118_5 = c := ⟨_, rfl⟩
    rw [g5]
    conv => whnf
    rw [show IntKind.u64.wrap (((b - a : Nat) : Nat) : Int) = ((b - a : Nat) : Int) by rw [wrapU]; omega]
    rw [show Nat.ble lo H.length = true from Nat.ble_eq_true_of_le (by omega)]
    conv => whnf
    refine nthK_of (getLast0 _ _ _ rfl) ?_
    conv => whnf
    rw [setLast _ _ _ _ rfl]
    refine ⟨by first | rfl | simp only [List.all_cons, List.all_nil, pu0, pub, pu1, pu2, pu1', pu2', pun, puf, puP, puP', puQ, puQ', Bool.and_true, Bool.and_self], _, pow2_ok (b - a) h32, ?_⟩
    conv => whnf
    obtain ⟨L, hL⟩ : ∃ L, L = b - a := ⟨_, rfl⟩
    obtain ⟨M, hM⟩ : ∃ M, M = 1 <<< Sort.bitsLen (b - a) := ⟨_, rfl⟩
    have hand := fun x => and_bound x (b - a) (by omega) h32
    rw [← hM] at hand ⊢
    rw [← hL] at hand hQ ⊢
    rw [if_pos (by omega)] at hQ
    have hM1 := (hand 0).2
    have wi : IntKind.i64.wrap (IntKind.i64.wrap ((a : Int) + IntKind.i64.wrap (IntKind.i64.wrap ((L : Int).tdiv 4) * 2)) - 1) = ((a + L / 4 * 2 - 1 : Nat) : Int) := by
      rw [show (L : Int).tdiv 4 = ((L / 4 : Nat) : Int) from rfl, wrapI ((L / 4 : Nat) : Int) (by omega) (by omega), wrapI (((L / 4 : Nat) : Int) * 2) (by omega) (by omega), wrapI ((a : Int) + _) (by omega) (by omega), wrapI _ (by omega) (by omega)]; omega
    have wj : IntKind.i64.wrap (IntKind.i64.wrap ((a : Int) + IntKind.i64.wrap (IntKind.i64.wrap ((L : Int).tdiv 4) * 2)) + 1) = ((a + L / 4 * 2 + 1 : Nat) : Int) := by
      rw [show (L : Int).tdiv 4 = ((L / 4 : Nat) : Int) from rfl, wrapI ((L / 4 : Nat) : Int) (by omega) (by omega), wrapI (((L / 4 : Nat) : Int) * 2) (by omega) (by omega), wrapI ((a : Int) + _) (by omega) (by omega), wrapI _ (by omega) (by omega)]; omega
    conv => whnf
    conv => whnf
    subst g5
    unfold rc118_5
    obtain ⟨c4, g4⟩ : ∃ c, rc118_4 = c := ⟨_, rfl⟩
    rw [g4]
    conv => whnf
    refine ⟨by decide, ?_⟩
    conv => whnf
    rw [wi]
    obtain ⟨idx, hidx⟩ : ∃ i, i = a + L / 4 * 2 - 1 := ⟨_, rfl⟩
    have he : Sort.breakPatterns d a b = (brk a L M idx d 3).2 := by
      rw [Sort.breakPatterns, ← hL, if_pos (by omega), hidx, hM, hL]; rfl
    rw [he] at hQ
    refine .intro (fun m T H' => ∃ k, k ≤ 3 ∧ m = 3 - k ∧ T = slots 65 [(0, Da id d.size), (1, I a), (6, I L), (7, .ptr H.length 0), (8, .int .u64 M), (9, I (idx + k : Nat))] ∧ H' = H.set id (Cd (brk a L M idx d k).2) ++ [.cells [.int .u64 ((brk a L M idx d k).1.toNat : Nat)]]) 3 ⟨0, by omega, rfl, ?_, ?_⟩ ?_
    · rw [← hidx]; rfl
    · obtain ⟨h1, h2⟩ := List.getElem?_eq_some_iff.1 hH
      have e : (UInt64.ofNat L).toNat = L := by simp; omega
      show H ++ [AObj.cells [.int .u64 ((L : Nat) : Int)]] = H.set id (Cd d) ++ [AObj.cells [.int .u64 (((UInt64.ofNat L).toNat : Nat) : Int)]]
      rw [e, ← h2, List.set_getElem_self]
    rintro m T H' ⟨k, hk, rfl, rfl, rfl⟩
    have hsz := brk_size a L M idx d k
    obtain ⟨r, hr⟩ : ∃ r, r = (brk a L M idx d k).1 := ⟨_, rfl⟩
    obtain ⟨dk, hdk⟩ : ∃ r, r = (brk a L M idx d k).2 := ⟨_, rfl⟩
    have hb1 : brk a L M idx d (k + 1) = Sort.breakStep a L M (r, dk) (idx + k) := by rw [hr, hdk]; rfl
    rw [← hr, ← hdk]
    rw [← hdk] at hsz
    have ls : ∀ c : AObj, (H.set id c).length = H.length := fun c => by simp
    subst g4
    unfold rc118_4
    obtain ⟨c3, g3⟩ : ∃ c, rc118_3 = c := ⟨_, rfl⟩
    rw [g3]
    conv => whnf
    refine ⟨by decide, ?_⟩
    conv => whnf
    rw [wj]
    by_cases hc : ((idx + k : Nat) : Int) ≤ ((a + L / 4 * 2 + 1 : Nat) : Int)
    · rw [decide_eq_true hc]
      conv => whnf
      subst g3
      unfold rc118_3
      obtain ⟨c1, g1⟩ : ∃ c, rc118_1 = c := ⟨_, rfl⟩
      rw [g1]
      obtain ⟨c2, g2⟩ : ∃ c, rc118_2 = c := ⟨_, rfl⟩
      rw [g2]
      conv => whnf
      refine ⟨_, _, call1 (next_sem r H.length (by omega) (getLast0 _ _ _ (ls _))), ?_⟩
      rw [setLast _ _ _ _ (ls _)]
      conv => whnf
      obtain ⟨r', hr'⟩ : ∃ x, x = Sort.xorNext r := ⟨_, rfl⟩
      rw [← hr']
      rw [show IntKind.u64.wrap ((M : Int) - 1) = ((M - 1 : Nat) : Int) by rw [wrapU]; omega, u64_and r' (M - 1) (by omega)]
      obtain ⟨o, ho⟩ : ∃ x, x = r'.toNat &&& (M - 1) := ⟨_, rfl⟩
      have hob := (hand r'.toNat).1
      rw [← ho] at hob ⊢
      rw [wrapI (o : Int) (by omega) (by omega)]
      obtain ⟨o', ho'⟩ : ∃ x, x = if o ≥ L then o - L else o := ⟨_, rfl⟩
      have hst : brk a L M idx d (k + 1) = (r', Sort.swp dk (idx + k) (a + o')) := by
        rw [hb1, Sort.breakStep]; simp only [← hr', ← ho, ← ho']
      have hoL : o' < L := by rw [ho']; split <;> omega
      have gs : ∀ c : AObj, (H.set id c ++ [AObj.cells [AV.int IntKind.u64 r'.toNat]])[id]? = some c := fun c => by rw [List.getElem?_append_left (by simp; omega), List.getElem?_set_self hid]
      have gss : ∀ c e : AObj, ((H.set id c ++ [AObj.cells [AV.int IntKind.u64 r'.toNat]]).set id e)[id]? = some e := fun c e => by rw [List.getElem?_set_self (by simp; omega)]
      have wio : IntKind.i64.wrap ((a : Int) + (o' : Int)) = ((a + o' : Nat) : Int) := by rw [wrapI _ (by omega) (by omega)]; omega
      have hk3 := idx2 hidx (by omega) hc
      by_cases hge : (L : Int) ≤ (o : Int)
      all_goals first
        | (rw [decide_eq_true hge]
           conv => whnf
           subst g1
           unfold rc118_1
           conv => whnf
           rw [show IntKind.i64.wrap ((o : Int) - (L : Int)) = (o' : Int) by rw [wrapI _ (by omega) (by omega), ho', if_pos (by omega)]; omega])
        | (rw [decide_eq_false hge]
           conv => whnf
           rw [show (o : Int) = (o' : Int) by rw [ho', if_neg (by omega)]])
      all_goals subst g2
      all_goals unfold rc118_2
      all_goals conv => whnf
      all_goals rw [wio]
      all_goals (
        skip
        refine ⟨by omega, ?_⟩
        conv => whnf
        refine nthK_of (by first | exact gs _ | exact gss _ _ | assumption) ?_
        conv => whnf
        refine rdK (a + o') (by omega) (by omega) ?_
        conv => whnf
        refine ⟨by omega, ?_⟩
        conv => whnf
        refine nthK_of (by first | exact gs _ | exact gss _ _ | assumption) ?_
        conv => whnf
        refine rdK (idx + k) (by omega) (by omega) ?_
        conv => whnf
        refine ⟨by omega, ?_⟩
        conv => whnf
        rw [hbl]
        conv => whnf
        refine nthK_of (by first | exact gs _ | exact gss _ _ | assumption) ?_
        conv => whnf
        refine wrK (idx + k) (by omega) (by first | omega | (simp only [Array.size_setIfInBounds]; omega)) ?_
        conv => whnf
        refine ⟨by omega, ?_⟩
        conv => whnf
        rw [hbl]
        conv => whnf
        refine nthK_of (by first | exact gs _ | exact gss _ _ | assumption) ?_
        conv => whnf
        refine wrK (a + o') (by omega) (by first | omega | (simp only [Array.size_setIfInBounds]; omega)) ?_
        conv => whnf
        refine ⟨3 - (k + 1), by omega, k + 1, by omega, rfl, ?_, ?_⟩
        · rw [wrapS (idx + k) (by omega)]; rfl
        · rw [hst]
          rw [setInit _ _ _ _ (by simp; omega), setInit _ _ _ _ (by simp; omega), List.set_set, List.set_set]
          rfl
      )
    · rw [decide_eq_false hc]
      have hk3 : k = 3 := idx3 hidx (by omega) hk hc
      conv => whnf
      refine hQ _ _ _ ⟨.inl rfl, ?_, rfl⟩
      rw [hdk, hk3]
      exact fgt_snoc _ _
  · rw [decide_eq_false h8]
    conv => whnf
    rw [if_neg (by omega), Sort.breakPatterns, if_neg (by omega)] at hQ
    refine hQ _ _ _ ⟨.inl rfl, ?_, rfl⟩
    obtain ⟨h1, h2⟩ := List.getElem?_eq_some_iff.1 hH
    rw [← h2, List.set_getElem_self, List.append_nil]
    exact ⟨rfl, fun j o hj => .inr hj⟩
end
end Go.Proofs.Ytlcebaejlnpdeaa.Ab

/- MADE BY PROGRAM (rc.py): functions, looked up. -/
namespace Go.Proofs.Ytlcebaejlnpdeaa.Ab
open Go
noncomputable def rc123_1 : RC :=
  .seq (.seq (.reg true [I_ 29 [.sl 9] .mv, I_ 30 [.sl 10] .mv, I_ 31 [.tv 29, .tv 30] (.bin .leq), I_ 32 [.tk 31] .mv, ⟨some 33, [.sl 0], some (32, true), none, .mv⟩, ⟨some 34, [.sl 1], some (32, true), none, .mv⟩, ⟨some 35, [.tv
  33, .tv 34], some (32, true), none, .ia 1⟩, ⟨some 36, [.tv 35], some (32, true), none, .ld .one⟩, ⟨some 37, [.sl 0], some (32, true), none, .mv⟩, ⟨some 38, [.sl 9], some (32, true), none, .mv⟩, ⟨some 39, [.tv 37, .tv 38], some
  (32, true), none, .ia 1⟩, ⟨some 40, [.tv 39], some (32, true), none, .ld .one⟩, ⟨some 41, [.cv (.func 122 [] []), .sl 36, .sl 40], some (32, true), none, .call 3⟩, ⟨some 42, [.tv 41], some (32, true), none, .un .not⟩, I_ 43
  [.sl 32, .tv 42, .cv (.bool false)] .pick]) (.cond (.sl 43) .skip (.exit 2))) (.block 3 (.reg false [I_ 44 [.tk 9] .mv, I_ 45 [.tv 44, .cv (.int .i64 1)] (.bin .add), I_ 9 [.tk 45] .mv]))
noncomputable def rc123_2 : RC :=
  .block 2 (.loop (some [i_,i_,o_,o_,o_,o_,o_,o_,o_,i_,i_,o_,o_,o_,o_,o_,o_,o_,o_,o_,o_,o_,o_,o_,o_,o_,o_,o_,o_,o_,o_,o_,o_,o_,o_,o_,o_,o_,o_,o_,o_,o_,o_,o_,o_,o_,o_,o_,o_,o_,o_,o_,o_,o_,o_,o_,o_,o_,o_,o_,o_,o_,o_,o_,o_,o_,o_,o_,o_,o_,o_,o_,o_,o_,o_,o_,o_,o_,o_,o_,o_,o_,o_,o_]) rc123_1)
noncomputable def rc123_3 : RC :=
  .seq (.seq (.reg true [I_ 46 [.sl 9] .mv, I_ 47 [.sl 10] .mv, I_ 48 [.tv 46, .tv 47] (.bin .leq), I_ 49 [.tk 48] .mv, ⟨some 50, [.sl 0], some (49, true), none, .mv⟩, ⟨some 51, [.sl 1], some (49, true), none, .mv⟩, ⟨some 52, [.tv
  50, .tv 51], some (49, true), none, .ia 1⟩, ⟨some 53, [.tv 52], some (49, true), none, .ld .one⟩, ⟨some 54, [.sl 0], some (49, true), none, .mv⟩, ⟨some 55, [.sl 10], some (49, true), none, .mv⟩, ⟨some 56, [.tv 54, .tv 55], some
  (49, true), none, .ia 1⟩, ⟨some 57, [.tv 56], some (49, true), none, .ld .one⟩, ⟨some 58, [.cv (.func 122 [] []), .sl 53, .sl 57], some (49, true), none, .call 3⟩, I_ 59 [.sl 49, .tv 58, .cv (.bool false)] .pick]) (.cond (.sl
  59) .skip (.exit 4))) (.block 5 (.reg false [I_ 60 [.tk 10] .mv, I_ 61 [.tv 60, .cv (.int .i64 1)] (.bin .sub), I_ 10 [.tk 61] .mv]))
noncomputable def rc123_4 : RC :=
  .block 4 (.loop (some [i_,i_,o_,o_,o_,o_,o_,o_,o_,i_,i_,o_,o_,o_,o_,o_,o_,o_,o_,o_,o_,o_,o_,o_,o_,o_,o_,o_,o_,o_,o_,o_,o_,o_,o_,o_,o_,o_,o_,o_,o_,o_,o_,o_,o_,o_,o_,o_,o_,o_,o_,o_,o_,o_,o_,o_,o_,o_,o_,o_,o_,o_,o_,o_,o_,o_,o_,o_,o_,o_,o_,o_,o_,o_,o_,o_,o_,o_,o_,o_,o_,o_,o_,o_]) rc123_3)
noncomputable def rc123_5 : RC :=
  .seq (.reg false [I_ 79 [.tk 9] .mv, I_ 80 [.tv 79, .cv (.int .i64 1)] (.bin .add), I_ 9 [.tk 80] .mv]) (.reg false [I_ 81 [.tk 10] .mv, I_ 82 [.tv 81, .cv (.int .i64 1)] (.bin .sub), I_ 10 [.tk 82] .mv])
noncomputable def rc123_6 : RC :=
  .seq (.reg true [I_ 65 [.sl 0] .mv, I_ 66 [.sl 9] .mv, I_ 67 [.sl 0] .mv, I_ 68 [.sl 10] .mv, I_ 69 [.sl 0] .mv, I_ 70 [.sl 10] .mv, I_ 71 [.tv 69, .tv 70] (.ia 1), I_ 72 [.tv 71] (.ld .one), I_ 73 [.sl 0] .mv, I_ 74 [.sl 9] .mv,
  I_ 75 [.tv 73, .tv 74] (.ia 1), I_ 76 [.tv 75] (.ld .one), I_ 77 [.tv 65, .tv 66] (.ia 1), ⟨none, [.tk 77, .tk 72], none, none, .st 1⟩, I_ 78 [.tv 67, .tv 68] (.ia 1), ⟨none, [.tk 78, .tk 76], none, none, .st 1⟩]) rc123_5
noncomputable def rc123_7 : RC :=
  .block 0 (.loop (some [i_,i_,o_,o_,o_,o_,o_,o_,o_,i_,i_,o_,o_,o_,o_,o_,o_,o_,o_,o_,o_,o_,o_,o_,o_,o_,o_,o_,o_,o_,o_,o_,o_,o_,o_,o_,o_,o_,o_,o_,o_,o_,o_,o_,o_,o_,o_,o_,o_,o_,o_,o_,o_,o_,o_,o_,o_,o_,o_,o_,o_,o_,o_,o_,o_,o_,o_,o_,o_,o_,o_,o_,o_,o_,o_,o_,o_,o_,o_,o_,o_,o_,o_,o_]) (.block 1 (.seq rc123_2 (.seq rc123_4 (.seq (.seq (.reg false [I_ 62
  [.sl 9] .mv, I_ 63 [.sl 10] .mv, I_ 64 [.tv 62, .tv 63] (.bin .gtr)]) (.cond (.sl 64) (.exit 0) .skip)) rc123_6)))))
noncomputable def rc123_8 : RC :=
  .seq (.reg false [I_ 25 [.sl 1] .mv, I_ 26 [.tv 25, .cv (.int .i64 1)] (.bin .add), I_ 27 [.tk 2] .mv, I_ 28 [.tv 27, .cv (.int .i64 1)] (.bin .sub), I_ 9 [.tk 26] .mv, I_ 10 [.tk 28] .mv]) (.seq rc123_7 (.seq (.reg false [I_ 83
  [.tk 9] .mv, I_ 8 [.tk 83] .mv]) .ret))
noncomputable def rc123_9 : RC :=
  .seq (.reg true [I_ 11 [.sl 0] .mv, I_ 12 [.sl 1] .mv, I_ 13 [.sl 0] .mv, I_ 14 [.sl 3] .mv, I_ 15 [.sl 0] .mv, I_ 16 [.sl 3] .mv, I_ 17 [.tv 15, .tv 16] (.ia 1), I_ 18 [.tv 17] (.ld .one), I_ 19 [.sl 0] .mv, I_ 20 [.sl 1] .mv,
  I_ 21 [.tv 19, .tv 20] (.ia 1), I_ 22 [.tv 21] (.ld .one), I_ 23 [.tv 11, .tv 12] (.ia 1), ⟨none, [.tk 23, .tk 18], none, none, .st 1⟩, I_ 24 [.tv 13, .tv 14] (.ia 1), ⟨none, [.tk 24, .tk 22], none, none, .st 1⟩]) rc123_8
noncomputable def rc123 : RC :=
  .seq (.reg false [I_ 8 [.cv (.int .i64 0)] .mv]) rc123_9
theorem lk123 : linkF Go.Proofs.Try.prog ann123 123 = some (rc123, 84, [.tmp 8]) := by kernel_rfl
noncomputable def rc124_1 : RC :=
  .seq (.seq (.reg true [I_ 30 [.sl 10] .mv, I_ 31 [.sl 11] .mv, I_ 32 [.tv 30, .tv 31] (.bin .leq), I_ 33 [.tk 32] .mv, ⟨some 34, [.sl 0], some (33, true), none, .mv⟩, ⟨some 35, [.sl 10], some (33, true), none, .mv⟩, ⟨some 36,
  [.tv 34, .tv 35], some (33, true), none, .ia 1⟩, ⟨some 37, [.tv 36], some (33, true), none, .ld .one⟩, ⟨some 38, [.sl 0], some (33, true), none, .mv⟩, ⟨some 39, [.sl 1], some (33, true), none, .mv⟩, ⟨some 40, [.tv 38, .tv 39],
  some (33, true), none, .ia 1⟩, ⟨some 41, [.tv 40], some (33, true), none, .ld .one⟩, ⟨some 42, [.cv (.func 122 [] []), .sl 37, .sl 41], some (33, true), none, .call 3⟩, I_ 43 [.sl 33, .tv 42, .cv (.bool false)] .pick]) (.cond
  (.sl 43) .skip (.exit 0))) (.block 1 (.reg false [I_ 44 [.tk 10] .mv, I_ 45 [.tv 44, .cv (.int .i64 1)] (.bin .add), I_ 10 [.tk 45] .mv]))
noncomputable def rc124_2 : RC :=
  .block 0 (.loop (some [i_,i_,o_,o_,o_,o_,o_,o_,o_,o_,i_,i_,o_,o_,o_,o_,o_,o_,o_,o_,o_,o_,o_,o_,o_,o_,o_,o_,o_,o_,o_,o_,o_,o_,o_,o_,o_,o_,o_,o_,o_,o_,o_,o_,o_,o_,o_,o_,o_,o_,o_,o_,o_,o_,o_,o_,o_,o_,o_,o_,o_,o_,o_,o_,o_,o_,o_,o_,o_,o_,o_,o_,o_,o_,o_,o_,o_,o_,o_,o_,o_,o_,o_,o_,o_,o_,o_,o_,o_,o_,o_,o_,o_,o_,o_,o_,o_,o_,o_,o_,o_,o_,o_,o_,o_,o_,o_,o_,o_,o_,o_,o_,o_,o_,o_,o_,o_,o_,o_,o_,o_,o_,o_,o_,o_,o_,o_,o_,o_,o_,o_,o_,o_,o_,o_,o_,o_,o_,o_,o_,o_,o_,o_,o_,o_,o_,o_,o_,o_,o_,o_,o_,o_,o_,o_,o_,o_,o_,o_,o_,o_,o_,o_,o_,o_,o_,o_,o_]) rc124_1)
noncomputable def rc124_3 : RC :=
  .seq (.seq (.reg true [I_ 46 [.sl 10] .mv, I_ 47 [.sl 11] .mv, I_ 48 [.tv 46, .tv 47] (.bin .leq), I_ 49 [.tk 48] .mv, ⟨some 50, [.sl 0], some (49, true), none, .mv⟩, ⟨some 51, [.sl 11], some (49, true), none, .mv⟩, ⟨some 52,
  [.tv 50, .tv 51], some (49, true), none, .ia 1⟩, ⟨some 53, [.tv 52], some (49, true), none, .ld .one⟩, ⟨some 54, [.sl 0], some (49, true), none, .mv⟩, ⟨some 55, [.sl 1], some (49, true), none, .mv⟩, ⟨some 56, [.tv 54, .tv 55],
  some (49, true), none, .ia 1⟩, ⟨some 57, [.tv 56], some (49, true), none, .ld .one⟩, ⟨some 58, [.cv (.func 122 [] []), .sl 53, .sl 57], some (49, true), none, .call 3⟩, ⟨some 59, [.tv 58], some (49, true), none, .un .not⟩, I_
  60 [.sl 49, .tv 59, .cv (.bool false)] .pick]) (.cond (.sl 60) .skip (.exit 2))) (.block 3 (.reg false [I_ 61 [.tk 11] .mv, I_ 62 [.tv 61, .cv (.int .i64 1)] (.bin .sub), I_ 11 [.tk 62] .mv]))
noncomputable def rc124_4 : RC :=
  .block 2 (.loop (some [i_,i_,o_,o_,o_,o_,o_,o_,o_,o_,i_,i_,o_,o_,o_,o_,o_,o_,o_,o_,o_,o_,o_,o_,o_,o_,o_,o_,o_,o_,o_,o_,o_,o_,o_,o_,o_,o_,o_,o_,o_,o_,o_,o_,o_,o_,o_,o_,o_,o_,o_,o_,o_,o_,o_,o_,o_,o_,o_,o_,o_,o_,o_,o_,o_,o_,o_,o_,o_,o_,o_,o_,o_,o_,o_,o_,o_,o_,o_,o_,o_,o_,o_,o_,o_,o_,o_,o_,o_,o_,o_,o_,o_,o_,o_,o_,o_,o_,o_,o_,o_,o_,o_,o_,o_,o_,o_,o_,o_,o_,o_,o_,o_,o_,o_,o_,o_,o_,o_,o_,o_,o_,o_,o_,o_,o_,o_,o_,o_,o_,o_,o_,o_,o_,o_,o_,o_,o_,o_,o_,o_,o_,o_,o_,o_,o_,o_,o_,o_,o_,o_,o_,o_,o_,o_,o_,o_,o_,o_,o_,o_,o_,o_,o_,o_,o_,o_,o_]) rc124_3)
noncomputable def rc124_5 : RC :=
  .seq (.reg true [I_ 66 [.sl 0] .mv, I_ 67 [.sl 11] .mv, I_ 68 [.sl 0] .mv, I_ 69 [.sl 1] .mv, I_ 70 [.sl 0] .mv, I_ 71 [.sl 1] .mv, I_ 72 [.tv 70, .tv 71] (.ia 1), I_ 73 [.tv 72] (.ld .one), I_ 74 [.sl 0] .mv, I_ 75 [.sl 11] .mv,
  I_ 76 [.tv 74, .tv 75] (.ia 1), I_ 77 [.tv 76] (.ld .one), I_ 78 [.tv 66, .tv 67] (.ia 1), ⟨none, [.tk 78, .tk 73], none, none, .st 1⟩, I_ 79 [.tv 68, .tv 69] (.ia 1), ⟨none, [.tk 79, .tk 77], none, none, .st 1⟩]) (.seq (.reg
  false [I_ 80 [.tk 11] .mv, I_ 8 [.tk 80] .mv, I_ 9 [.cv (.bool true)] .mv]) .ret)
noncomputable def rc124_6 : RC :=
  .seq (.seq (.reg true [I_ 99 [.sl 10] .mv, I_ 100 [.sl 11] .mv, I_ 101 [.tv 99, .tv 100] (.bin .leq), I_ 102 [.tk 101] .mv, ⟨some 103, [.sl 0], some (102, true), none, .mv⟩, ⟨some 104, [.sl 10], some (102, true), none, .mv⟩,
  ⟨some 105, [.tv 103, .tv 104], some (102, true), none, .ia 1⟩, ⟨some 106, [.tv 105], some (102, true), none, .ld .one⟩, ⟨some 107, [.sl 0], some (102, true), none, .mv⟩, ⟨some 108, [.sl 1], some (102, true), none, .mv⟩, ⟨some
  109, [.tv 107, .tv 108], some (102, true), none, .ia 1⟩, ⟨some 110, [.tv 109], some (102, true), none, .ld .one⟩, ⟨some 111, [.cv (.func 122 [] []), .sl 106, .sl 110], some (102, true), none, .call 3⟩, I_ 112 [.sl 102, .tv 111,
  .cv (.bool false)] .pick]) (.cond (.sl 112) .skip (.exit 6))) (.block 7 (.reg false [I_ 113 [.tk 10] .mv, I_ 114 [.tv 113, .cv (.int .i64 1)] (.bin .add), I_ 10 [.tk 114] .mv]))
noncomputable def rc124_7 : RC :=
  .block 6 (.loop (some [i_,i_,o_,o_,o_,o_,o_,o_,o_,o_,i_,i_,o_,o_,o_,o_,o_,o_,o_,o_,o_,o_,o_,o_,o_,o_,o_,o_,o_,o_,o_,o_,o_,o_,o_,o_,o_,o_,o_,o_,o_,o_,o_,o_,o_,o_,o_,o_,o_,o_,o_,o_,o_,o_,o_,o_,o_,o_,o_,o_,o_,o_,o_,o_,o_,o_,o_,o_,o_,o_,o_,o_,o_,o_,o_,o_,o_,o_,o_,o_,o_,o_,o_,o_,o_,o_,o_,o_,o_,o_,o_,o_,o_,o_,o_,o_,o_,o_,o_,o_,o_,o_,o_,o_,o_,o_,o_,o_,o_,o_,o_,o_,o_,o_,o_,o_,o_,o_,o_,o_,o_,o_,o_,o_,o_,o_,o_,o_,o_,o_,o_,o_,o_,o_,o_,o_,o_,o_,o_,o_,o_,o_,o_,o_,o_,o_,o_,o_,o_,o_,o_,o_,o_,o_,o_,o_,o_,o_,o_,o_,o_,o_,o_,o_,o_,o_,o_,o_]) rc124_6)
noncomputable def rc124_8 : RC :=
  .seq (.seq (.reg true [I_ 115 [.sl 10] .mv, I_ 116 [.sl 11] .mv, I_ 117 [.tv 115, .tv 116] (.bin .leq), I_ 118 [.tk 117] .mv, ⟨some 119, [.sl 0], some (118, true), none, .mv⟩, ⟨some 120, [.sl 11], some (118, true), none, .mv⟩,
  ⟨some 121, [.tv 119, .tv 120], some (118, true), none, .ia 1⟩, ⟨some 122, [.tv 121], some (118, true), none, .ld .one⟩, ⟨some 123, [.sl 0], some (118, true), none, .mv⟩, ⟨some 124, [.sl 1], some (118, true), none, .mv⟩, ⟨some
  125, [.tv 123, .tv 124], some (118, true), none, .ia 1⟩, ⟨some 126, [.tv 125], some (118, true), none, .ld .one⟩, ⟨some 127, [.cv (.func 122 [] []), .sl 122, .sl 126], some (118, true), none, .call 3⟩, ⟨some 128, [.tv 127],
  some (118, true), none, .un .not⟩, I_ 129 [.sl 118, .tv 128, .cv (.bool false)] .pick]) (.cond (.sl 129) .skip (.exit 8))) (.block 9 (.reg false [I_ 130 [.tk 11] .mv, I_ 131 [.tv 130, .cv (.int .i64 1)] (.bin .sub), I_ 11 [.tk
  131] .mv]))
noncomputable def rc124_9 : RC :=
  .block 8 (.loop (some [i_,i_,o_,o_,o_,o_,o_,o_,o_,o_,i_,i_,o_,o_,o_,o_,o_,o_,o_,o_,o_,o_,o_,o_,o_,o_,o_,o_,o_,o_,o_,o_,o_,o_,o_,o_,o_,o_,o_,o_,o_,o_,o_,o_,o_,o_,o_,o_,o_,o_,o_,o_,o_,o_,o_,o_,o_,o_,o_,o_,o_,o_,o_,o_,o_,o_,o_,o_,o_,o_,o_,o_,o_,o_,o_,o_,o_,o_,o_,o_,o_,o_,o_,o_,o_,o_,o_,o_,o_,o_,o_,o_,o_,o_,o_,o_,o_,o_,o_,o_,o_,o_,o_,o_,o_,o_,o_,o_,o_,o_,o_,o_,o_,o_,o_,o_,o_,o_,o_,o_,o_,o_,o_,o_,o_,o_,o_,o_,o_,o_,o_,o_,o_,o_,o_,o_,o_,o_,o_,o_,o_,o_,o_,o_,o_,o_,o_,o_,o_,o_,o_,o_,o_,o_,o_,o_,o_,o_,o_,o_,o_,o_,o_,o_,o_,o_,o_,o_]) rc124_8)
noncomputable def rc124_10 : RC :=
  .seq (.reg false [I_ 149 [.tk 10] .mv, I_ 150 [.tv 149, .cv (.int .i64 1)] (.bin .add), I_ 10 [.tk 150] .mv]) (.reg false [I_ 151 [.tk 11] .mv, I_ 152 [.tv 151, .cv (.int .i64 1)] (.bin .sub), I_ 11 [.tk 152] .mv])
noncomputable def rc124_11 : RC :=
  .seq (.reg true [I_ 135 [.sl 0] .mv, I_ 136 [.sl 10] .mv, I_ 137 [.sl 0] .mv, I_ 138 [.sl 11] .mv, I_ 139 [.sl 0] .mv, I_ 140 [.sl 11] .mv, I_ 141 [.tv 139, .tv 140] (.ia 1), I_ 142 [.tv 141] (.ld .one), I_ 143 [.sl 0] .mv, I_
  144 [.sl 10] .mv, I_ 145 [.tv 143, .tv 144] (.ia 1), I_ 146 [.tv 145] (.ld .one), I_ 147 [.tv 135, .tv 136] (.ia 1), ⟨none, [.tk 147, .tk 142], none, none, .st 1⟩, I_ 148 [.tv 137, .tv 138] (.ia 1), ⟨none, [.tk 148, .tk 146],
  none, none, .st 1⟩]) rc124_10
noncomputable def rc124_12 : RC :=
  .block 4 (.loop (some [i_,i_,o_,o_,o_,o_,o_,o_,o_,o_,i_,i_,o_,o_,o_,o_,o_,o_,o_,o_,o_,o_,o_,o_,o_,o_,o_,o_,o_,o_,o_,o_,o_,o_,o_,o_,o_,o_,o_,o_,o_,o_,o_,o_,o_,o_,o_,o_,o_,o_,o_,o_,o_,o_,o_,o_,o_,o_,o_,o_,o_,o_,o_,o_,o_,o_,o_,o_,o_,o_,o_,o_,o_,o_,o_,o_,o_,o_,o_,o_,o_,o_,o_,o_,o_,o_,o_,o_,o_,o_,o_,o_,o_,o_,o_,o_,o_,o_,o_,o_,o_,o_,o_,o_,o_,o_,o_,o_,o_,o_,o_,o_,o_,o_,o_,o_,o_,o_,o_,o_,o_,o_,o_,o_,o_,o_,o_,o_,o_,o_,o_,o_,o_,o_,o_,o_,o_,o_,o_,o_,o_,o_,o_,o_,o_,o_,o_,o_,o_,o_,o_,o_,o_,o_,o_,o_,o_,o_,o_,o_,o_,o_,o_,o_,o_,o_,o_,o_]) (.block 5 (.seq rc124_7 (.seq rc124_9 (.seq (.seq (.reg false [I_ 132 [.sl 10] .mv, I_ 133 [.sl 11] .mv, I_ 134 [.tv 132, .tv 133] (.bin .gtr)]) (.cond (.sl
  134) (.exit 4) .skip)) rc124_11)))))
noncomputable def rc124_13 : RC :=
  .seq (.reg true [I_ 153 [.sl 0] .mv, I_ 154 [.sl 11] .mv, I_ 155 [.sl 0] .mv, I_ 156 [.sl 1] .mv, I_ 157 [.sl 0] .mv, I_ 158 [.sl 1] .mv, I_ 159 [.tv 157, .tv 158] (.ia 1), I_ 160 [.tv 159] (.ld .one), I_ 161 [.sl 0] .mv, I_ 162
  [.sl 11] .mv, I_ 163 [.tv 161, .tv 162] (.ia 1), I_ 164 [.tv 163] (.ld .one), I_ 165 [.tv 153, .tv 154] (.ia 1), ⟨none, [.tk 165, .tk 160], none, none, .st 1⟩, I_ 166 [.tv 155, .tv 156] (.ia 1), ⟨none, [.tk 166, .tk 164], none,
  none, .st 1⟩]) (.seq (.reg false [I_ 167 [.tk 11] .mv, I_ 8 [.tk 167] .mv, I_ 9 [.cv (.bool false)] .mv]) .ret)
noncomputable def rc124_14 : RC :=
  .seq (.reg false [I_ 95 [.tk 10] .mv, I_ 96 [.tv 95, .cv (.int .i64 1)] (.bin .add), I_ 10 [.tk 96] .mv]) (.seq (.reg false [I_ 97 [.tk 11] .mv, I_ 98 [.tv 97, .cv (.int .i64 1)] (.bin .sub), I_ 11 [.tk 98] .mv]) (.seq rc124_12
  rc124_13))
noncomputable def rc124_15 : RC :=
  .seq (.reg true [I_ 81 [.sl 0] .mv, I_ 82 [.sl 10] .mv, I_ 83 [.sl 0] .mv, I_ 84 [.sl 11] .mv, I_ 85 [.sl 0] .mv, I_ 86 [.sl 11] .mv, I_ 87 [.tv 85, .tv 86] (.ia 1), I_ 88 [.tv 87] (.ld .one), I_ 89 [.sl 0] .mv, I_ 90 [.sl 10]
  .mv, I_ 91 [.tv 89, .tv 90] (.ia 1), I_ 92 [.tv 91] (.ld .one), I_ 93 [.tv 81, .tv 82] (.ia 1), ⟨none, [.tk 93, .tk 88], none, none, .st 1⟩, I_ 94 [.tv 83, .tv 84] (.ia 1), ⟨none, [.tk 94, .tk 92], none, none, .st 1⟩]) rc124_14
noncomputable def rc124_16 : RC :=
  .seq (.reg false [I_ 26 [.sl 1] .mv, I_ 27 [.tv 26, .cv (.int .i64 1)] (.bin .add), I_ 28 [.tk 2] .mv, I_ 29 [.tv 28, .cv (.int .i64 1)] (.bin .sub), I_ 10 [.tk 27] .mv, I_ 11 [.tk 29] .mv]) (.seq rc124_2 (.seq rc124_4 (.seq
  (.seq (.reg false [I_ 63 [.sl 10] .mv, I_ 64 [.sl 11] .mv, I_ 65 [.tv 63, .tv 64] (.bin .gtr)]) (.cond (.sl 65) rc124_5 .skip)) rc124_15)))
noncomputable def rc124_17 : RC :=
  .seq (.reg true [I_ 12 [.sl 0] .mv, I_ 13 [.sl 1] .mv, I_ 14 [.sl 0] .mv, I_ 15 [.sl 3] .mv, I_ 16 [.sl 0] .mv, I_ 17 [.sl 3] .mv, I_ 18 [.tv 16, .tv 17] (.ia 1), I_ 19 [.tv 18] (.ld .one), I_ 20 [.sl 0] .mv, I_ 21 [.sl 1] .mv,
  I_ 22 [.tv 20, .tv 21] (.ia 1), I_ 23 [.tv 22] (.ld .one), I_ 24 [.tv 12, .tv 13] (.ia 1), ⟨none, [.tk 24, .tk 19], none, none, .st 1⟩, I_ 25 [.tv 14, .tv 15] (.ia 1), ⟨none, [.tk 25, .tk 23], none, none, .st 1⟩]) rc124_16
noncomputable def rc124 : RC :=
  .seq (.reg false [I_ 8 [.cv (.int .i64 0)] .mv, I_ 9 [.cv (.bool false)] .mv]) rc124_17
theorem lk124 : linkF Go.Proofs.Try.prog ann124 124 = some (rc124, 168, [.tmp 8, .tmp 9]) := by kernel_rfl
noncomputable def rc114_1 : RC :=
  .seq (.reg false [I_ 24 [.tk 0] .mv, I_ 25 [.tk 1] .mv, I_ 26 [.tk 2] .mv, I_ 27 [.cv (.func 116 [] []), .tk 24, .tk 25, .tk 26] (.call 1)]) .ret
noncomputable def rc114_2 : RC :=
  .seq (.reg false [I_ 30 [.tk 0] .mv, I_ 31 [.tk 1] .mv, I_ 32 [.tk 2] .mv, I_ 33 [.cv (.func 117 [] []), .tk 30, .tk 31, .tk 32] (.call 1)]) .ret
noncomputable def rc114_3 : RC :=
  .seq (.reg false [I_ 36 [.sl 0] .mv, I_ 37 [.sl 1] .mv, I_ 38 [.sl 2] .mv, I_ 39 [.cv (.func 118 [] []), .tk 36, .tk 37, .tk 38] (.call 1)]) (.reg false [I_ 40 [.tk 3] .mv, I_ 41 [.tv 40, .cv (.int .i64 1)] (.bin .sub), I_ 3 [.tk
  41] .mv])
noncomputable def rc114_4 : RC :=
  .seq (.reg false [I_ 55 [.sl 2] .mv, I_ 56 [.tv 55, .cv (.int .i64 1)] (.bin .sub), I_ 57 [.tk 11] .mv, I_ 58 [.sl 1] .mv, I_ 59 [.tv 57, .tv 58] (.bin .sub), I_ 60 [.tv 56, .tv 59] (.bin .sub), I_ 11 [.tk 60] .mv]) (.reg false
  [I_ 12 [.cv (.int .i64 1)] .mv])
noncomputable def rc114_5 : RC :=
  .seq (.reg false [I_ 51 [.sl 0] .mv, I_ 52 [.sl 1] .mv, I_ 53 [.sl 2] .mv, I_ 54 [.cv (.func 120 [] []), .tk 51, .tk 52, .tk 53] (.call 1)]) rc114_4
noncomputable def rc114_6 : RC :=
  .seq (.reg false [I_ 69 [.sl 0] .mv, I_ 70 [.sl 1] .mv, I_ 71 [.sl 2] .mv, I_ 72 [.cv (.func 121 [] []), .tk 69, .tk 70, .tk 71] (.call 1)]) (.cond (.sl 72) .ret .skip)
noncomputable def rc114_7 : RC :=
  .seq (.reg false [I_ 88 [.sl 0] .mv, I_ 89 [.tk 1] .mv, I_ 90 [.sl 2] .mv, I_ 91 [.tk 11] .mv, I_ 92 [.cv (.func 123 [] []), .tk 88, .tk 89, .tk 90, .tk 91] (.call 1), I_ 13 [.tk 92] .mv]) (.seq (.reg false [I_ 93 [.tk 13] .mv,
  I_ 1 [.tk 93] .mv]) (.exit 1))
noncomputable def rc114_8 : RC :=
  .seq (.reg false [I_ 117 [.sl 0] .mv, I_ 118 [.tk 1] .mv, I_ 119 [.sl 14] .mv, I_ 120 [.sl 3] .mv, I_ 121 [.cv (.func 114 [] []), .tk 117, .tk 118, .tk 119, .tk 120] (.call 1)]) (.reg false [I_ 122 [.tk 14] .mv, I_ 123 [.tv 122,
  .cv (.int .i64 1)] (.bin .add), I_ 1 [.tk 123] .mv])
noncomputable def rc114_9 : RC :=
  .seq (.reg false [I_ 114 [.tk 16] .mv, I_ 115 [.tk 18] .mv, I_ 116 [.tv 114, .tv 115] (.bin .geq), I_ 8 [.tk 116] .mv]) rc114_8
noncomputable def rc114_10 : RC :=
  .seq (.reg false [I_ 127 [.sl 0] .mv, I_ 128 [.sl 14] .mv, I_ 129 [.tv 128, .cv (.int .i64 1)] (.bin .add), I_ 130 [.tk 2] .mv, I_ 131 [.sl 3] .mv, I_ 132 [.cv (.func 114 [] []), .tk 127, .tk 129, .tk 130, .tk 131] (.call 1)])
  (.reg false [I_ 133 [.tk 14] .mv, I_ 2 [.tk 133] .mv])
noncomputable def rc114_11 : RC :=
  .seq (.reg false [I_ 124 [.tk 17] .mv, I_ 125 [.tk 18] .mv, I_ 126 [.tv 124, .tv 125] (.bin .geq), I_ 8 [.tk 126] .mv]) rc114_10
noncomputable def rc114_12 : RC :=
  .seq (.reg false [I_ 109 [.tk 10] .mv, I_ 110 [.tv 109, .cv (.int .i64 8)] (.bin .quo), I_ 18 [.tk 110] .mv]) (.seq (.reg false [I_ 111 [.sl 16] .mv, I_ 112 [.sl 17] .mv, I_ 113 [.tv 111, .tv 112] (.bin .lss)]) (.cond (.sl 113)
  rc114_9 rc114_11))
noncomputable def rc114_13 : RC :=
  .seq (.reg false [I_ 103 [.sl 14] .mv, I_ 104 [.sl 1] .mv, I_ 105 [.tv 103, .tv 104] (.bin .sub), I_ 106 [.sl 2] .mv, I_ 107 [.sl 14] .mv, I_ 108 [.tv 106, .tv 107] (.bin .sub), I_ 16 [.tk 105] .mv, I_ 17 [.tk 108] .mv]) rc114_12
noncomputable def rc114_14 : RC :=
  .seq (.reg false [I_ 95 [.sl 0] .mv, I_ 96 [.sl 1] .mv, I_ 97 [.sl 2] .mv, I_ 98 [.tk 11] .mv, I_ 99 [.cv (.func 124 [] []), .tk 95, .tk 96, .tk 97, .tk 98] (.call 1), I_ 94 [.tk 99] .mv, I_ 100 [.sl 94] (.ext 0), I_ 101 [.tv 94]
  (.ext 1), I_ 14 [.tk 100] .mv, I_ 15 [.tk 101] .mv]) (.seq (.reg false [I_ 102 [.tk 15] .mv, I_ 9 [.tk 102] .mv]) rc114_13)
noncomputable def rc114_15 : RC :=
  .seq (.seq (.reg true [I_ 73 [.sl 1] .mv, I_ 74 [.tv 73, .cv (.int .i64 0)] (.bin .gtr), I_ 75 [.tk 74] .mv, ⟨some 76, [.sl 0], some (75, true), none, .mv⟩, ⟨some 77, [.sl 1], some (75, true), none, .mv⟩, ⟨some 78, [.tv 77, .cv
  (.int .i64 1)], some (75, true), none, .bin .sub⟩, ⟨some 79, [.tv 76, .tv 78], some (75, true), none, .ia 1⟩, ⟨some 80, [.tv 79], some (75, true), none, .ld .one⟩, ⟨some 81, [.sl 0], some (75, true), none, .mv⟩, ⟨some 82, [.sl
  11], some (75, true), none, .mv⟩, ⟨some 83, [.tv 81, .tv 82], some (75, true), none, .ia 1⟩, ⟨some 84, [.tv 83], some (75, true), none, .ld .one⟩, ⟨some 85, [.cv (.func 122 [] []), .sl 80, .sl 84], some (75, true), none, .call
  3⟩, ⟨some 86, [.tv 85], some (75, true), none, .un .not⟩, I_ 87 [.sl 75, .tv 86, .cv (.bool false)] .pick]) (.cond (.sl 87) rc114_7 .skip)) rc114_14
noncomputable def rc114_16 : RC :=
  .seq (.seq (.reg false [I_ 61 [.sl 8] .mv, I_ 62 [.tk 61] .mv, ⟨some 63, [.sl 9], some (62, true), none, .mv⟩, I_ 64 [.tv 62, .tv 63, .cv (.bool false)] .pick, I_ 65 [.tk 64] .mv, ⟨some 66, [.tk 12], some (65, true), none, .mv⟩,
  ⟨some 67, [.tv 66, .cv (.int .i64 1)], some (65, true), none, .bin .eql⟩, I_ 68 [.tv 65, .tv 67, .cv (.bool false)] .pick]) (.cond (.sl 68) rc114_6 .skip)) rc114_15
noncomputable def rc114_17 : RC :=
  .seq (.reg false [I_ 43 [.sl 0] .mv, I_ 44 [.sl 1] .mv, I_ 45 [.sl 2] .mv, I_ 46 [.cv (.func 119 [] []), .tk 43, .tk 44, .tk 45] (.call 1), I_ 42 [.tk 46] .mv, I_ 47 [.sl 42] (.ext 0), I_ 48 [.tv 42] (.ext 1), I_ 11 [.tk 47] .mv,
  I_ 12 [.tk 48] .mv]) (.seq (.seq (.reg false [I_ 49 [.sl 12] .mv, I_ 50 [.tv 49, .cv (.int .i64 2)] (.bin .eql)]) (.cond (.sl 50) rc114_5 .skip)) rc114_16)
noncomputable def rc114_18 : RC :=
  .seq (.seq (.reg false [I_ 28 [.sl 3] .mv, I_ 29 [.tv 28, .cv (.int .i64 0)] (.bin .eql)]) (.cond (.sl 29) rc114_2 .skip)) (.seq (.seq (.reg false [I_ 34 [.sl 8] .mv, I_ 35 [.tv 34] (.un .not)]) (.cond (.sl 35) rc114_3 .skip))
  rc114_17)
noncomputable def rc114_19 : RC :=
  .block 1 (.seq (.reg false [I_ 19 [.sl 2] .mv, I_ 20 [.sl 1] .mv, I_ 21 [.tv 19, .tv 20] (.bin .sub), I_ 10 [.tk 21] .mv]) (.seq (.seq (.reg false [I_ 22 [.sl 10] .mv, I_ 23 [.tv 22, .cv (.int .i64 12)] (.bin .leq)]) (.cond (.sl
  23) rc114_1 .skip)) rc114_18))
noncomputable def rc114 : RC :=
  .seq (.reg false [I_ 8 [.cv (.bool true)] .mv]) (.seq (.reg false [I_ 9 [.cv (.bool true)] .mv]) (.block 0 (.loop (some [i_,i_,i_,i_,o_,o_,o_,o_,i_,i_,o_,o_,o_,o_,o_,o_,o_,o_,o_,o_,o_,o_,o_,o_,o_,o_,o_,o_,o_,o_,o_,o_,o_,o_,o_,o_,o_,o_,o_,o_,o_,o_,o_,o_,o_,o_,o_,o_,o_,o_,o_,o_,o_,o_,o_,o_,o_,o_,o_,o_,o_,o_,o_,o_,o_,o_,o_,o_,o_,o_,o_,o_,o_,o_,o_,o_,o_,o_,o_,o_,o_,o_,o_,o_,o_,o_,o_,o_,o_,o_,o_,o_,o_,o_,o_,o_,o_,o_,o_,o_,o_,o_,o_,o_,o_,o_,o_,o_,o_,o_,o_,o_,o_,o_,o_,o_,o_,o_,o_,o_,o_,o_,o_,o_,o_,o_,o_,o_,o_,o_,o_,o_,o_,o_]) rc114_19)))
theorem lk114 : linkF Go.Proofs.Try.prog ann114 114 = some (rc114, 134, []) := by kernel_rfl
end Go.Proofs.Ytlcebaejlnpdeaa.Ab

/-
  Contracts: the scanning loops of slices' partitionEqualOrdered and partitionOrdered.
-/
namespace Go.Proofs.Ytlcebaejlnpdeaa.Ab
open Go
set_option maxRecDepth 20000
set_option maxHeartbeats 4000000
theorem scanDown_eq (P : Int → Bool) (d : Array Int) (i q : Nat) (h : 1 ≤ i) : Sort.scanDown P d i q = if i ≤ q && P d[q]! then Sort.scanDown P d i (q - 1) else q := by
  cases q with
  | zero => rw [Sort.scanDown, if_neg (by simp; omega)]
  | succ q => rw [Sort.scanDown]; rfl
theorem scanUp_eq (P : Int → Bool) (d : Array Int) (j q : Nat) : Sort.scanUp P d j q = if q ≤ j && P d[q]! then Sort.scanUp P d j (q + 1) else q := by
  rw [Sort.scanUp]
section
variable {H : List AObj} {id lo : Nat} (hid : id < H.length)
include hid
theorem scan123a (d : Array Int) (a i j : Nat) (hd : d.size ≤ 1000) (ha : a < d.size) (hj : j < d.size) (hi1 : 1 ≤ i) (hij : i ≤ j + 1) (Q : Ex → List AV → List AObj → Prop) 
    (k : ∀ q (y0 y1 y2 y3 y4 y5 y6 y7 y8 y9 y10 y11 : AV), i ≤ q → q ≤ j + 1 → Sort.scanUp (fun x => !Sort.ltInt d[a]! x) d j i = q → Q .normal (slots 84 [(0, Da id d.size), (1, I a), (9, I (q : Nat)), (10, I (j : Nat)), (32, y0), (33, y1), (34, y2), (35, y3), (36, y4), (37, y5), (38, y6), (39, y7), (40, y8), (41, y9), (42, y10), (43, y11)]) (H.set id (Cd d))) :
    wpR Go.Proofs.Try.prog ann123 123 lo none rc123_2 (slots 84 [(0, Da id d.size), (1, I a), (9, I (i : Nat)), (10, I (j : Nat))]) (H.set id (Cd d)) Q := by
  have gs : ∀ c : AObj, (H.set id c)[id]? = some c := fun c => by rw [List.getElem?_set_self hid]
  unfold rc123_2
  conv => whnf
  refine .intro (fun m T H' => ∃ q, i ≤ q ∧ q ≤ j + 1 ∧ m = j + 1 - q ∧ Sort.scanUp (fun x => !Sort.ltInt d[a]! x) d j q = Sort.scanUp (fun x => !Sort.ltInt d[a]! x) d j i ∧ T = slots 84 [(0, Da id d.size), (1, I a), (9, I (q : Nat)), (10, I (j : Nat))] ∧ H' = H.set id (Cd d)) (j + 1 - i) ⟨i, by omega, by omega, rfl, rfl, rfl, rfl⟩ ?_
  rintro m T H' ⟨q, hq1, hq2, hm, hqe, rfl, rfl⟩
  unfold rc123_1
  conv => whnf
  by_cases h : ((q : Nat) : Int) ≤ ((j : Nat) : Int)
  · rw [decide_eq_true h]
    conv => whnf
    refine ⟨by omega, ?_⟩
    conv => whnf
    refine nthK_of (by first | exact gs _ | exact gss _ _ | assumption) ?_
    conv => whnf
    refine rdK (a) (by omega) (by omega) ?_
    conv => whnf
    refine ⟨by omega, ?_⟩
    conv => whnf
    refine nthK_of (by first | exact gs _ | exact gss _ _ | assumption) ?_
    conv => whnf
    refine rdK (q) (by omega) (by omega) ?_
    conv => whnf
    refine ⟨by first | rfl | simp only [List.all_cons, List.all_nil, pu0, pub, pu1, pu2, pu1', pu2', pun, puf, puP, puP', puQ, puQ', Bool.and_true, Bool.and_self], _, less_ok d[a]! d[q]!, acc0, ?_⟩
    conv => whnf
    by_cases h5 : d[a]! < d[q]!
    · rw [decide_eq_true h5]
      conv => whnf
      have e : Sort.scanUp (fun x => !Sort.ltInt d[a]! x) d j i = q := by
        rw [← hqe, scanUp_eq, if_neg (by simp only [Sort.ltInt, Bool.and_eq_true, decide_eq_true_eq, Bool.not_eq_true', decide_eq_false_iff_not]; exact fun hh => hh.2 h5)]
      exact k q _ _ _ _ _ _ _ _ _ _ _ _  (by omega) (by omega) e
    · rw [decide_eq_false h5]
      conv => whnf
      exact ⟨j + 1 - (q + 1), by omega, q + 1, by omega, by omega, rfl, by rw [← hqe, scanUp_eq _ _ _ q, if_pos (by simp only [Sort.ltInt, Bool.and_eq_true, decide_eq_true_eq, Bool.not_eq_true', decide_eq_false_iff_not]; exact ⟨by omega, h5⟩)], by rw [← wrapS q (by omega)]; rfl, rfl⟩
  · rw [decide_eq_false h]
    conv => whnf
    have e : Sort.scanUp (fun x => !Sort.ltInt d[a]! x) d j i = q := by
      rw [← hqe, scanUp_eq, if_neg (by simp only [Sort.ltInt, Bool.and_eq_true, decide_eq_true_eq, Bool.not_eq_true', decide_eq_false_iff_not]; exact fun hh => h (by omega))]
    exact k q _ _ _ _ _ _ _ _ _ _ _ _  (by omega) (by omega) e
theorem scan123b (d : Array Int) (a i j : Nat) (hd : d.size ≤ 1000) (ha : a < d.size) (hj : j < d.size) (hi1 : 1 ≤ i) (hij : i ≤ j + 1) (Q : Ex → List AV → List AObj → Prop) (x0 x1 x2 x3 x4 x5 x6 x7 x8 x9 x10 x11 : AV)
    (k : ∀ q (y0 y1 y2 y3 y4 y5 y6 y7 y8 y9 y10 : AV), q ≤ j → i ≤ q + 1 → Sort.scanDown (fun x => Sort.ltInt d[a]! x) d i j = q → Q .normal (slots 84 [(0, Da id d.size), (1, I a), (9, I (i : Nat)), (10, I (q : Nat)), (49, y0), (50, y1), (51, y2), (52, y3), (53, y4), (54, y5), (55, y6), (56, y7), (57, y8), (58, y9), (59, y10)]) (H.set id (Cd d))) :
    wpR Go.Proofs.Try.prog ann123 123 lo none rc123_4 (slots 84 [(0, Da id d.size), (1, I a), (9, I (i : Nat)), (10, I (j : Nat)), (32, x0), (33, x1), (34, x2), (35, x3), (36, x4), (37, x5), (38, x6), (39, x7), (40, x8), (41, x9), (42, x10), (43, x11)]) (H.set id (Cd d)) Q := by
  have gs : ∀ c : AObj, (H.set id c)[id]? = some c := fun c => by rw [List.getElem?_set_self hid]
  unfold rc123_4
  conv => whnf
  refine .intro (fun m T H' => ∃ q, q ≤ j ∧ i ≤ q + 1 ∧ m = q ∧ Sort.scanDown (fun x => Sort.ltInt d[a]! x) d i q = Sort.scanDown (fun x => Sort.ltInt d[a]! x) d i j ∧ T = slots 84 [(0, Da id d.size), (1, I a), (9, I (i : Nat)), (10, I (q : Nat))] ∧ H' = H.set id (Cd d)) (j) ⟨j, by omega, by omega, rfl, rfl, rfl, rfl⟩ ?_
  rintro m T H' ⟨q, hq1, hq2, hm, hqe, rfl, rfl⟩
  unfold rc123_3
  conv => whnf
  by_cases h : ((i : Nat) : Int) ≤ ((q : Nat) : Int)
  · rw [decide_eq_true h]
    conv => whnf
    refine ⟨by omega, ?_⟩
    conv => whnf
    refine nthK_of (by first | exact gs _ | exact gss _ _ | assumption) ?_
    conv => whnf
    refine rdK (a) (by omega) (by omega) ?_
    conv => whnf
    refine ⟨by omega, ?_⟩
    conv => whnf
    refine nthK_of (by first | exact gs _ | exact gss _ _ | assumption) ?_
    conv => whnf
    refine rdK (q) (by omega) (by omega) ?_
    conv => whnf
    refine ⟨by first | rfl | simp only [List.all_cons, List.all_nil, pu0, pub, pu1, pu2, pu1', pu2', pun, puf, puP, puP', puQ, puQ', Bool.and_true, Bool.and_self], _, less_ok d[a]! d[q]!, acc0, ?_⟩
    conv => whnf
    by_cases h5 : d[a]! < d[q]!
    · rw [decide_eq_true h5]
      conv => whnf
      exact ⟨(q - 1), by omega, q - 1, by omega, by omega, rfl, by rw [← hqe, scanDown_eq _ _ _ q hi1, if_pos (by simp only [Sort.ltInt, Bool.and_eq_true, decide_eq_true_eq]; exact ⟨by omega, h5⟩)], by rw [show ((q - 1 : Nat) : Int) = IntKind.i64.wrap ((q : Int) - 1) by rw [wrapI _ (by omega) (by omega)]; omega]; rfl, rfl⟩
    · rw [decide_eq_false h5]
      conv => whnf
      have e : Sort.scanDown (fun x => Sort.ltInt d[a]! x) d i j = q := by
        rw [← hqe, scanDown_eq _ _ _ _ hi1, if_neg (by simp only [Sort.ltInt, Bool.and_eq_true, decide_eq_true_eq]; exact fun hh => h5 hh.2)]
      exact k q _ _ _ _ _ _ _ _ _ _ _  (by omega) (by omega) e
  · rw [decide_eq_false h]
    conv => whnf
    have e : Sort.scanDown (fun x => Sort.ltInt d[a]! x) d i j = q := by
      rw [← hqe, scanDown_eq _ _ _ _ hi1, if_neg (by simp only [Sort.ltInt, Bool.and_eq_true, decide_eq_true_eq]; exact fun hh => h (by omega))]
    exact k q _ _ _ _ _ _ _ _ _ _ _  (by omega) (by omega) e
theorem scan124a (d : Array Int) (a i j : Nat) (hd : d.size ≤ 1000) (ha : a < d.size) (hj : j < d.size) (hi1 : 1 ≤ i) (hij : i ≤ j + 1) (Q : Ex → List AV → List AObj → Prop) (x0 x1 x2 : AV)
    (k : ∀ q (y0 y1 y2 y3 y4 y5 y6 y7 y8 y9 y10 : AV), i ≤ q → q ≤ j + 1 → Sort.scanUp (fun x => Sort.ltInt x d[a]!) d j i = q → Q .normal (slots 168 [(0, Da id d.size), (1, I a), (10, I (q : Nat)), (11, I (j : Nat)), (33, y0), (34, y1), (35, y2), (36, y3), (37, y4), (38, y5), (39, y6), (40, y7), (41, y8), (42, y9), (43, y10)]) (H.set id (Cd d))) :
    wpR Go.Proofs.Try.prog ann124 124 lo none rc124_2 (slots 168 [(0, Da id d.size), (1, I a), (3, x0), (8, x1), (9, x2), (10, I (i : Nat)), (11, I (j : Nat))]) (H.set id (Cd d)) Q := by
  have gs : ∀ c : AObj, (H.set id c)[id]? = some c := fun c => by rw [List.getElem?_set_self hid]
  unfold rc124_2
  conv => whnf
  refine .intro (fun m T H' => ∃ q, i ≤ q ∧ q ≤ j + 1 ∧ m = j + 1 - q ∧ Sort.scanUp (fun x => Sort.ltInt x d[a]!) d j q = Sort.scanUp (fun x => Sort.ltInt x d[a]!) d j i ∧ T = slots 168 [(0, Da id d.size), (1, I a), (10, I (q : Nat)), (11, I (j : Nat))] ∧ H' = H.set id (Cd d)) (j + 1 - i) ⟨i, by omega, by omega, rfl, rfl, rfl, rfl⟩ ?_
  rintro m T H' ⟨q, hq1, hq2, hm, hqe, rfl, rfl⟩
  unfold rc124_1
  conv => whnf
  by_cases h : ((q : Nat) : Int) ≤ ((j : Nat) : Int)
  · rw [decide_eq_true h]
    conv => whnf
    refine ⟨by omega, ?_⟩
    conv => whnf
    refine nthK_of (by first | exact gs _ | exact gss _ _ | assumption) ?_
    conv => whnf
    refine rdK (q) (by omega) (by omega) ?_
    conv => whnf
    refine ⟨by omega, ?_⟩
    conv => whnf
    refine nthK_of (by first | exact gs _ | exact gss _ _ | assumption) ?_
    conv => whnf
    refine rdK (a) (by omega) (by omega) ?_
    conv => whnf
    refine ⟨by first | rfl | simp only [List.all_cons, List.all_nil, pu0, pub, pu1, pu2, pu1', pu2', pun, puf, puP, puP', puQ, puQ', Bool.and_true, Bool.and_self], _, less_ok d[q]! d[a]!, acc0, ?_⟩
    conv => whnf
    by_cases h5 : d[q]! < d[a]!
    · rw [decide_eq_true h5]
      conv => whnf
      exact ⟨j + 1 - (q + 1), by omega, q + 1, by omega, by omega, rfl, by rw [← hqe, scanUp_eq _ _ _ q, if_pos (by simp only [Sort.ltInt, Bool.and_eq_true, decide_eq_true_eq]; exact ⟨by omega, h5⟩)], by rw [← wrapS q (by omega)]; rfl, rfl⟩
    · rw [decide_eq_false h5]
      conv => whnf
      have e : Sort.scanUp (fun x => Sort.ltInt x d[a]!) d j i = q := by
        rw [← hqe, scanUp_eq, if_neg (by simp only [Sort.ltInt, Bool.and_eq_true, decide_eq_true_eq]; exact fun hh => h5 hh.2)]
      exact k q _ _ _ _ _ _ _ _ _ _ _  (by omega) (by omega) e
  · rw [decide_eq_false h]
    conv => whnf
    have e : Sort.scanUp (fun x => Sort.ltInt x d[a]!) d j i = q := by
      rw [← hqe, scanUp_eq, if_neg (by simp only [Sort.ltInt, Bool.and_eq_true, decide_eq_true_eq]; exact fun hh => h (by omega))]
    exact k q _ _ _ _ _ _ _ _ _ _ _  (by omega) (by omega) e
theorem scan124b (d : Array Int) (a i j : Nat) (hd : d.size ≤ 1000) (ha : a < d.size) (hj : j < d.size) (hi1 : 1 ≤ i) (hij : i ≤ j + 1) (Q : Ex → List AV → List AObj → Prop) (x0 x1 x2 x3 x4 x5 x6 x7 x8 x9 x10 : AV)
    (k : ∀ q (y0 y1 y2 y3 y4 y5 y6 y7 y8 y9 y10 y11 : AV), q ≤ j → i ≤ q + 1 → Sort.scanDown (fun x => !Sort.ltInt x d[a]!) d i j = q → Q .normal (slots 168 [(0, Da id d.size), (1, I a), (10, I (i : Nat)), (11, I (q : Nat)), (49, y0), (50, y1), (51, y2), (52, y3), (53, y4), (54, y5), (55, y6), (56, y7), (57, y8), (58, y9), (59, y10), (60, y11)]) (H.set id (Cd d))) :
    wpR Go.Proofs.Try.prog ann124 124 lo none rc124_4 (slots 168 [(0, Da id d.size), (1, I a), (10, I (i : Nat)), (11, I (j : Nat)), (33, x0), (34, x1), (35, x2), (36, x3), (37, x4), (38, x5), (39, x6), (40, x7), (41, x8), (42, x9), (43, x10)]) (H.set id (Cd d)) Q := by
  have gs : ∀ c : AObj, (H.set id c)[id]? = some c := fun c => by rw [List.getElem?_set_self hid]
  unfold rc124_4
  conv => whnf
  refine .intro (fun m T H' => ∃ q, q ≤ j ∧ i ≤ q + 1 ∧ m = q ∧ Sort.scanDown (fun x => !Sort.ltInt x d[a]!) d i q = Sort.scanDown (fun x => !Sort.ltInt x d[a]!) d i j ∧ T = slots 168 [(0, Da id d.size), (1, I a), (10, I (i : Nat)), (11, I (q : Nat))] ∧ H' = H.set id (Cd d)) (j) ⟨j, by omega, by omega, rfl, rfl, rfl, rfl⟩ ?_
  rintro m T H' ⟨q, hq1, hq2, hm, hqe, rfl, rfl⟩
  unfold rc124_3
  conv => whnf
  by_cases h : ((i : Nat) : Int) ≤ ((q : Nat) : Int)
  · rw [decide_eq_true h]
    conv => whnf
    refine ⟨by omega, ?_⟩
    conv => whnf
    refine nthK_of (by first | exact gs _ | exact gss _ _ | assumption) ?_
    conv => whnf
    refine rdK (q) (by omega) (by omega) ?_
    conv => whnf
    refine ⟨by omega, ?_⟩
    conv => whnf
    refine nthK_of (by first | exact gs _ | exact gss _ _ | assumption) ?_
    conv => whnf
    refine rdK (a) (by omega) (by omega) ?_
    conv => whnf
    refine ⟨by first | rfl | simp only [List.all_cons, List.all_nil, pu0, pub, pu1, pu2, pu1', pu2', pun, puf, puP, puP', puQ, puQ', Bool.and_true, Bool.and_self], _, less_ok d[q]! d[a]!, acc0, ?_⟩
    conv => whnf
    by_cases h5 : d[q]! < d[a]!
    · rw [decide_eq_true h5]
      conv => whnf
      have e : Sort.scanDown (fun x => !Sort.ltInt x d[a]!) d i j = q := by
        rw [← hqe, scanDown_eq _ _ _ _ hi1, if_neg (by simp only [Sort.ltInt, Bool.and_eq_true, decide_eq_true_eq, Bool.not_eq_true', decide_eq_false_iff_not]; exact fun hh => hh.2 h5)]
      exact k q _ _ _ _ _ _ _ _ _ _ _ _  (by omega) (by omega) e
    · rw [decide_eq_false h5]
      conv => whnf
      exact ⟨(q - 1), by omega, q - 1, by omega, by omega, rfl, by rw [← hqe, scanDown_eq _ _ _ q hi1, if_pos (by simp only [Sort.ltInt, Bool.and_eq_true, decide_eq_true_eq, Bool.not_eq_true', decide_eq_false_iff_not]; exact ⟨by omega, h5⟩)], by rw [show ((q - 1 : Nat) : Int) = IntKind.i64.wrap ((q : Int) - 1) by rw [wrapI _ (by omega) (by omega)]; omega]; rfl, rfl⟩
  · rw [decide_eq_false h]
    conv => whnf
    have e : Sort.scanDown (fun x => !Sort.ltInt x d[a]!) d i j = q := by
      rw [← hqe, scanDown_eq _ _ _ _ hi1, if_neg (by simp only [Sort.ltInt, Bool.and_eq_true, decide_eq_true_eq, Bool.not_eq_true', decide_eq_false_iff_not]; exact fun hh => h (by omega))]
    exact k q _ _ _ _ _ _ _ _ _ _ _ _  (by omega) (by omega) e
theorem scan124c (d : Array Int) (a i j : Nat) (hd : d.size ≤ 1000) (ha : a < d.size) (hj : j < d.size) (hi1 : 1 ≤ i) (hij : i ≤ j + 1) (Q : Ex → List AV → List AObj → Prop) 
    (k : ∀ q (y0 y1 y2 y3 y4 y5 y6 y7 y8 y9 y10 : AV), i ≤ q → q ≤ j + 1 → Sort.scanUp (fun x => Sort.ltInt x d[a]!) d j i = q → Q .normal (slots 168 [(0, Da id d.size), (1, I a), (10, I (q : Nat)), (11, I (j : Nat)), (102, y0), (103, y1), (104, y2), (105, y3), (106, y4), (107, y5), (108, y6), (109, y7), (110, y8), (111, y9), (112, y10)]) (H.set id (Cd d))) :
    wpR Go.Proofs.Try.prog ann124 124 lo none rc124_7 (slots 168 [(0, Da id d.size), (1, I a), (10, I (i : Nat)), (11, I (j : Nat))]) (H.set id (Cd d)) Q := by
  have gs : ∀ c : AObj, (H.set id c)[id]? = some c := fun c => by rw [List.getElem?_set_self hid]
  unfold rc124_7
  conv => whnf
  refine .intro (fun m T H' => ∃ q, i ≤ q ∧ q ≤ j + 1 ∧ m = j + 1 - q ∧ Sort.scanUp (fun x => Sort.ltInt x d[a]!) d j q = Sort.scanUp (fun x => Sort.ltInt x d[a]!) d j i ∧ T = slots 168 [(0, Da id d.size), (1, I a), (10, I (q : Nat)), (11, I (j : Nat))] ∧ H' = H.set id (Cd d)) (j + 1 - i) ⟨i, by omega, by omega, rfl, rfl, rfl, rfl⟩ ?_
  rintro m T H' ⟨q, hq1, hq2, hm, hqe, rfl, rfl⟩
  unfold rc124_6
  conv => whnf
  by_cases h : ((q : Nat) : Int) ≤ ((j : Nat) : Int)
  · rw [decide_eq_true h]
    conv => whnf
    refine ⟨by omega, ?_⟩
    conv => whnf
    refine nthK_of (by first | exact gs _ | exact gss _ _ | assumption) ?_
    conv => whnf
    refine rdK (q) (by omega) (by omega) ?_
    conv => whnf
    refine ⟨by omega, ?_⟩
    conv => whnf
    refine nthK_of (by first | exact gs _ | exact gss _ _ | assumption) ?_
    conv => whnf
    refine rdK (a) (by omega) (by omega) ?_
    conv => whnf
    refine ⟨by first | rfl | simp only [List.all_cons, List.all_nil, pu0, pub, pu1, pu2, pu1', pu2', pun, puf, puP, puP', puQ, puQ', Bool.and_true, Bool.and_self], _, less_ok d[q]! d[a]!, acc0, ?_⟩
    conv => whnf
    by_cases h5 : d[q]! < d[a]!
    · rw [decide_eq_true h5]
      conv => whnf
      exact ⟨j + 1 - (q + 1), by omega, q + 1, by omega, by omega, rfl, by rw [← hqe, scanUp_eq _ _ _ q, if_pos (by simp only [Sort.ltInt, Bool.and_eq_true, decide_eq_true_eq]; exact ⟨by omega, h5⟩)], by rw [← wrapS q (by omega)]; rfl, rfl⟩
    · rw [decide_eq_false h5]
      conv => whnf
      have e : Sort.scanUp (fun x => Sort.ltInt x d[a]!) d j i = q := by
        rw [← hqe, scanUp_eq, if_neg (by simp only [Sort.ltInt, Bool.and_eq_true, decide_eq_true_eq]; exact fun hh => h5 hh.2)]
      exact k q _ _ _ _ _ _ _ _ _ _ _  (by omega) (by omega) e
  · rw [decide_eq_false h]
    conv => whnf
    have e : Sort.scanUp (fun x => Sort.ltInt x d[a]!) d j i = q := by
      rw [← hqe, scanUp_eq, if_neg (by simp only [Sort.ltInt, Bool.and_eq_true, decide_eq_true_eq]; exact fun hh => h (by omega))]
    exact k q _ _ _ _ _ _ _ _ _ _ _  (by omega) (by omega) e
theorem scan124d (d : Array Int) (a i j : Nat) (hd : d.size ≤ 1000) (ha : a < d.size) (hj : j < d.size) (hi1 : 1 ≤ i) (hij : i ≤ j + 1) (Q : Ex → List AV → List AObj → Prop) (x0 x1 x2 x3 x4 x5 x6 x7 x8 x9 x10 : AV)
    (k : ∀ q (y0 y1 y2 y3 y4 y5 y6 y7 y8 y9 y10 y11 : AV), q ≤ j → i ≤ q + 1 → Sort.scanDown (fun x => !Sort.ltInt x d[a]!) d i j = q → Q .normal (slots 168 [(0, Da id d.size), (1, I a), (10, I (i : Nat)), (11, I (q : Nat)), (118, y0), (119, y1), (120, y2), (121, y3), (122, y4), (123, y5), (124, y6), (125, y7), (126, y8), (127, y9), (128, y10), (129, y11)]) (H.set id (Cd d))) :
    wpR Go.Proofs.Try.prog ann124 124 lo none rc124_9 (slots 168 [(0, Da id d.size), (1, I a), (10, I (i : Nat)), (11, I (j : Nat)), (102, x0), (103, x1), (104, x2), (105, x3), (106, x4), (107, x5), (108, x6), (109, x7), (110, x8), (111, x9), (112, x10)]) (H.set id (Cd d)) Q := by
  have gs : ∀ c : AObj, (H.set id c)[id]? = some c := fun c => by rw [List.getElem?_set_self hid]
  unfold rc124_9
  conv => whnf
  refine .intro (fun m T H' => ∃ q, q ≤ j ∧ i ≤ q + 1 ∧ m = q ∧ Sort.scanDown (fun x => !Sort.ltInt x d[a]!) d i q = Sort.scanDown (fun x => !Sort.ltInt x d[a]!) d i j ∧ T = slots 168 [(0, Da id d.size), (1, I a), (10, I (i : Nat)), (11, I (q : Nat))] ∧ H' = H.set id (Cd d)) (j) ⟨j, by omega, by omega, rfl, rfl, rfl, rfl⟩ ?_
  rintro m T H' ⟨q, hq1, hq2, hm, hqe, rfl, rfl⟩
  unfold rc124_8
  conv => whnf
  by_cases h : ((i : Nat) : Int) ≤ ((q : Nat) : Int)
  · rw [decide_eq_true h]
    conv => whnf
    refine ⟨by omega, ?_⟩
    conv => whnf
    refine nthK_of (by first | exact gs _ | exact gss _ _ | assumption) ?_
    conv => whnf
    refine rdK (q) (by omega) (by omega) ?_
    conv => whnf
    refine ⟨by omega, ?_⟩
    conv => whnf
    refine nthK_of (by first | exact gs _ | exact gss _ _ | assumption) ?_
    conv => whnf
    refine rdK (a) (by omega) (by omega) ?_
    conv => whnf
    refine ⟨by first | rfl | simp only [List.all_cons, List.all_nil, pu0, pub, pu1, pu2, pu1', pu2', pun, puf, puP, puP', puQ, puQ', Bool.and_true, Bool.and_self], _, less_ok d[q]! d[a]!, acc0, ?_⟩
    conv => whnf
    by_cases h5 : d[q]! < d[a]!
    · rw [decide_eq_true h5]
      conv => whnf
      have e : Sort.scanDown (fun x => !Sort.ltInt x d[a]!) d i j = q := by
        rw [← hqe, scanDown_eq _ _ _ _ hi1, if_neg (by simp only [Sort.ltInt, Bool.and_eq_true, decide_eq_true_eq, Bool.not_eq_true', decide_eq_false_iff_not]; exact fun hh => hh.2 h5)]
      exact k q _ _ _ _ _ _ _ _ _ _ _ _  (by omega) (by omega) e
    · rw [decide_eq_false h5]
      conv => whnf
      exact ⟨(q - 1), by omega, q - 1, by omega, by omega, rfl, by rw [← hqe, scanDown_eq _ _ _ q hi1, if_pos (by simp only [Sort.ltInt, Bool.and_eq_true, decide_eq_true_eq, Bool.not_eq_true', decide_eq_false_iff_not]; exact ⟨by omega, h5⟩)], by rw [show ((q - 1 : Nat) : Int) = IntKind.i64.wrap ((q : Int) - 1) by rw [wrapI _ (by omega) (by omega)]; omega]; rfl, rfl⟩
  · rw [decide_eq_false h]
    conv => whnf
    have e : Sort.scanDown (fun x => !Sort.ltInt x d[a]!) d i j = q := by
      rw [← hqe, scanDown_eq _ _ _ _ hi1, if_neg (by simp only [Sort.ltInt, Bool.and_eq_true, decide_eq_true_eq, Bool.not_eq_true', decide_eq_false_iff_not]; exact fun hh => h (by omega))]
    exact k q _ _ _ _ _ _ _ _ _ _ _ _  (by omega) (by omega) e
end
end Go.Proofs.Ytlcebaejlnpdeaa.Ab
