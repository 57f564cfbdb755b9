/-
  Contracts: the definitions' Fewest, Orders, Pair.
-/
import Derived.Test.YtlcebaejlnpdeaaJa4
import Derived.Test.YtlcebaejlnpdeaaJa3
import Derived.Test.YtlcebaejlnpdeaaProg
import Derived.KernelRfl
import Derived.Sort.AssemblyPlain
import Derived.Laws.BitsLemmas
set_option linter.unusedSimpArgs false
set_option linter.unusedVariables false
set_option linter.unusedSectionVars false
namespace Go.Proofs.Ytlcebaejlnpdeaa.Ab
open Go
set_option maxRecDepth 20000
set_option maxHeartbeats 4000000
/-- What Fewest, and Orders, and Pair return. -/
def fewE (p : List (List Int)) : Int := if checkP p = 0 then fewestOf p else 0
theorem cut2 (l : List (List Int)) (k : Nat) : AV.lst (((l.map L1).drop ((k : Int).toNat * 1)).take ((((k + 2 : Nat) : Int).toNat - (k : Int).toNat) * 1)) (((k + 2 : Nat) : Int).toNat - (k : Int).toNat) .shared = .lst (((l.drop k).take 2).map L1) 2 .shared := by
  have e : ((k + 2 : Nat) : Int).toNat - (k : Int).toNat = 2 := by omega
  rw [e]
  simp [List.map_take, List.map_drop]
theorem L2_two (l : List (List Int)) (k : Nat) (h : k + 2 ≤ l.length) : AV.lst (((l.drop k).take 2).map L1) 2 .shared = L2 ((l.drop k).take 2) := by
  simp [L2]; omega
theorem Val.sub {p : List (List Int)} (hv : Val p) (k : Nat) (h : k + 2 ≤ p.length) : Val ((p.drop k).take 2) := by
  have hm : ∀ l ∈ (p.drop k).take 2, l ∈ p := fun l hl => List.mem_of_mem_drop (List.mem_of_mem_take hl)
  have hl : ((p.drop k).take 2).length = 2 := by simp; omega
  refine ⟨by omega, by omega, fun l h => hv.s1 l (hm l h), fun l h => hv.s5 l (hm l h), fun l h => hv.w l (hm l h), fun l h => ?_⟩
  rw [hv.eq l (hm l h)]
  have e := headD0 (l := (p.drop k).take 2) [] (by omega)
  rw [e]
  exact (hv.eq _ (hm _ (List.getElem_mem _))).symm
def pairErr (p : List (List Int)) (x : Int) : Int := if checkP p ≠ 0 then checkP p else if x < 0 ∨ (p.length : Int) - 1 ≤ x then 2 else 0
def pairV (p : List (List Int)) (x : Int) : Int := if pairErr p x = 0 then fewestOf ((p.drop x.toNat).take 2) else 0
end Go.Proofs.Ytlcebaejlnpdeaa.Ab

/-
  Plain words of layer 5: a list whose end is turned round, step by step.
-/
namespace Go.Proofs.Ytlcebaejlnpdeaa.Ab
/-- The part from off on, with its t outer numbers changed on either side. -/
def revT (g : List Int) (off t : Nat) : List Int := (List.range g.length).map fun x => if off ≤ x ∧ (x - off < t ∨ g.length - t ≤ x) then g.getD (off + g.length - 1 - x) 0 else g.getD x 0
theorem revT_len (g : List Int) (off t : Nat) : (revT g off t).length = g.length := by simp [revT]
theorem revT_get (g : List Int) (off t x : Nat) (h : x < g.length) : (revT g off t)[x]? = some (if off ≤ x ∧ (x - off < t ∨ g.length - t ≤ x) then g.getD (off + g.length - 1 - x) 0 else g.getD x 0) := by
  simp [revT, h]
theorem revT_zero (g : List Int) (off : Nat) : revT g off 0 = g := by
  apply List.ext_getElem?
  intro x
  by_cases h : x < g.length
  · rw [revT_get g off 0 x h, if_neg (by omega)]
    simp [h, List.getD_eq_getElem?_getD]
  · rw [List.getElem?_eq_none (by rw [revT_len]; omega), List.getElem?_eq_none (by omega)]
theorem revT_step (g : List Int) (off t : Nat) (ht : off + t < g.length - 1 - t) : ((revT g off t).set (off + t) (g.getD (g.length - 1 - t) 0)).set (g.length - 1 - t) (g.getD (off + t) 0) = revT g off (t + 1) := by
  apply List.ext_getElem?
  intro x
  by_cases h : x < g.length
  · rw [revT_get g off (t + 1) x h]
    by_cases h1 : x = g.length - 1 - t
    · subst h1
      rw [List.getElem?_set_self (by rw [List.length_set, revT_len]; omega), if_pos (by omega)]
      congr 2; omega
    · rw [List.getElem?_set_ne (by omega)]
      by_cases h2 : x = off + t
      · subst h2
        rw [List.getElem?_set_self (by rw [revT_len]; omega), if_pos (by omega)]
        congr 2; omega
      · rw [List.getElem?_set_ne (by omega), revT_get g off t x h]
        by_cases h3 : off ≤ x ∧ (x - off < t ∨ g.length - t ≤ x)
        · rw [if_pos h3, if_pos (by omega)]
        · rw [if_neg h3, if_neg (by omega)]
  · rw [List.getElem?_eq_none (by simp [revT_len]; omega), List.getElem?_eq_none (by rw [revT_len]; omega)]
theorem revT_end (g : List Int) (off t : Nat) (ho : off ≤ g.length) (ht : g.length - 1 - t ≤ off + t) : revT g off t = turn g off := by
  apply List.ext_getElem?
  intro x
  unfold turn
  by_cases h : x < g.length
  · rw [revT_get g off t x h]
    by_cases h1 : x < off
    · rw [if_neg (by omega), List.getElem?_append_left (by simp; omega), List.getElem?_take, if_pos h1]
      simp [h, List.getD_eq_getElem?_getD]
    · rw [List.getElem?_append_right (by simp; omega), List.length_take, Nat.min_eq_left ho, List.getElem?_reverse (by simp; omega), List.getElem?_drop, List.length_drop]
      have e : off + (g.length - off - 1 - (x - off)) = off + g.length - 1 - x := by omega
      rw [e]
      have hl : off + g.length - 1 - x < g.length := by omega
      by_cases h3 : off ≤ x ∧ (x - off < t ∨ g.length - t ≤ x)
      · rw [if_pos h3]; simp [hl, List.getD_eq_getElem?_getD]
      · rw [if_neg h3]
        have : x = off + g.length - 1 - x := by omega
        rw [← this]; simp [h, List.getD_eq_getElem?_getD]
  · rw [List.getElem?_eq_none (by rw [revT_len]; omega), List.getElem?_eq_none (by simp; omega)]
end Go.Proofs.Ytlcebaejlnpdeaa.Ab

/-
  Contracts: slices.Clone, slices.Reverse; all orders of a layer, one behind another.
-/
namespace Go.Proofs.Ytlcebaejlnpdeaa.Ab
open Go
set_option maxRecDepth 20000
set_option maxHeartbeats 4000000
theorem clone_ok (l : List Int) (h0 : 0 < l.length) (hl : l.length ≤ 1000000) : PO 108 [L1 l] (U1 l) := by
  refine fn_pure hmix lk108 rfl (pu1 _ _ _) ?_
  unfold rc108
  conv => whnf
  obtain ⟨x, r, rfl⟩ : ∃ x r, l = x :: r := by
    cases l with
    | nil => simp at h0
    | cons x r => exact ⟨x, r, rfl⟩
  refine ⟨.bool false, [], fun C => by kernel_rfl, ?_⟩
  conv => whnf
  refine ⟨by simp, by omega, ?_⟩
  conv => whnf
  refine ⟨by simp, ?_⟩
  conv => whnf
  refine ⟨by omega, ?_⟩
  conv => whnf
  exact ret_pure (.inr rfl) (pu1 _ _ _) (by rw [Nat.zero_add]; rfl)
theorem I_get (l : List Int) (i : Nat) (h : i < l.length) : (l.map I)[i]? = some (I (l.getD i 0)) := by
  simp [h, List.getD_eq_getElem?_getD]
theorem reverse_sem (g : List Int) (off : Nat) (ho : off < g.length) (hg : g.length ≤ 1000000) {H : List AObj} {id lo : Nat} (hlo : lo ≤ id) (hH : H[id]? = some (.cells (g.map I))) :
    Sem Go.Proofs.Try.prog (.fn 109) [.ref id off (g.length - off) none 1] H lo (.tuple []) (H.set id (.cells ((turn g off).map I))) := by
  have hid := (List.getElem?_eq_some_iff.1 hH).1
  refine fn_sem hmix lk109 rfl ⟨by simp, fun j h1 h2 => by rw [List.getElem?_set_ne (by omega)]⟩ ?_
  unfold rc109
  conv => whnf
  rw [show IntKind.i64.wrap (((g.length - off : Nat) : Int) - 1) = ((g.length - off - 1 : Nat) : Int) by rw [wrapI _ (by omega) (by omega)]; omega]
  have hb : Nat.ble lo id = true := Nat.ble_eq_true_of_le hlo
  have gs : ∀ c : AObj, (H.set id c)[id]? = some c := fun c => by rw [List.getElem?_set_self hid]
  have gss : ∀ c d : AObj, ((H.set id c).set id d)[id]? = some d := fun c d => by rw [List.set_set, gs]
  refine .intro (fun m T H' => ∃ t, 2 * t ≤ g.length - off ∧ m = g.length - t ∧ T = slots 28 [(0, .ref id off (g.length - off) none 1), (2, I t), (3, I (g.length - off - 1 - t : Nat))] ∧ H' = H.set id (.cells ((revT g off t).map I))) g.length ⟨0, by omega, rfl, rfl, ?_⟩ ?_
  · rw [revT_zero]
    obtain ⟨h1, h2⟩ := List.getElem?_eq_some_iff.1 hH
    rw [← h2, List.set_getElem_self]
  rintro m T H' ⟨t, ht, rfl, rfl, rfl⟩
  conv => whnf
  refine dcase (fun h => ?_) (fun h => ?_)
  · conv => whnf
    have e1 : 0 + off + ((g.length - off - 1 - t : Nat) : Int).toNat * 1 = g.length - 1 - t := by omega
    have e2 : off + ((g.length - off - 1 - t : Nat) : Int).toNat * 1 = g.length - 1 - t := by omega
    have e3 : off + (t : Int).toNat * 1 = off + t := by omega
    refine ⟨by omega, ?_⟩
    conv => whnf
    refine nthK_of (gs _) ?_
    conv => whnf
    refine nthK_of (x := I (g.getD (g.length - 1 - t) 0)) (by rw [e2, List.getElem?_map, revT_get g off t _ (by omega), if_neg (by omega)]; rfl) ?_
    conv => whnf
    refine ⟨by omega, ?_⟩
    conv => whnf
    refine nthK_of (gs _) ?_
    conv => whnf
    refine nthK_of (x := I (g.getD (off + t) 0)) (by rw [e3, List.getElem?_map, revT_get g off t _ (by omega), if_neg (by omega)]; rfl) ?_
    conv => whnf
    refine ⟨by omega, ?_⟩
    conv => whnf
    rw [hb]
    conv => whnf
    refine nthK_of (gs _) ?_
    conv => whnf
    refine updK_of (by rw [List.length_map, revT_len]; omega) ?_
    conv => whnf
    refine ⟨by omega, ?_⟩
    conv => whnf
    rw [hb]
    conv => whnf
    refine nthK_of (gss _ _) ?_
    conv => whnf
    refine updK_of (by rw [List.length_set, List.length_map, revT_len]; omega) ?_
    conv => whnf
    refine ⟨g.length - (t + 1), by omega, t + 1, by omega, rfl, ?_, ?_⟩
    · rw [← wrapS t (by omega), show ((g.length - off - 1 - (t + 1) : Nat) : Int) = IntKind.i64.wrap (((g.length - off - 1 - t : Nat) : Int) - 1) by rw [wrapI _ (by omega) (by omega)]; omega]
      rfl
    · rw [List.set_set, List.set_set, ← revT_step g off t (by omega), e2, e3, List.map_set, List.map_set]
  · conv => whnf
    refine ⟨.inl rfl, ⟨by simp, fun j o hj => ?_⟩, rfl⟩
    rw [revT_end g off t (by omega) (by omega)]
    exact .inr hj
/-! ### all$1 -/
/-- A list that is owned, or lies in an object, becomes an object. -/
def Thawed (u : AV) (H : List AObj) (id : Nat) (H' : List AObj) (l : List Int) : Prop :=
  (u = U1 l ∧ id = H.length ∧ H' = H ++ [.cells (l.map I)]) ∨ (u = .ref id 0 l.length none 1 ∧ H' = H ∧ H[id]? = some (.cells (l.map I)))
theorem thaw_get {u : AV} {H : List AObj} {id : Nat} {H' : List AObj} {l : List Int} (h : Thawed u H id H' l) : H'[id]? = some (.cells (l.map I)) := by
  rcases h with ⟨_, rfl, rfl⟩ | ⟨_, rfl, h⟩
  · exact get_concat _ _
  · exact h
theorem call1 {P : Program} {lo : Nat} {tgt : Tgt} {xs : List AV} {H H' : List AObj} {v : AV} (h : Sem P tgt xs H lo v H') : CallS P 1 lo tgt xs H v H' :=
  ⟨oneC tgt xs H lo v H', oneC_sound h, by simp only [callTo, oneC_self]⟩
theorem shz_ref {X : List AObj} {id : Nat} {l : List Int} (h : X[id]? = some (.cells (l.map I))) : shz X (.ref id 0 l.length none 1) = L1 l := by
  have e : rowOf X (.ref id 0 l.length none 1) = some (l.map I) := by
    simp only [rowOf, h, List.length_map, Nat.zero_add, Nat.mul_one, Nat.le_refl, if_true, List.drop_zero]
    rw [List.take_of_length_le (by simp), List.map_map]
    rfl
  simp only [shz, shz0, e]
  rfl
theorem scal_U1 (l : List Int) : scal (U1 l) = true := by
  show (l.map I).all scal0 = true
  rw [List.all_eq_true]; intro u hu; obtain ⟨x, _, rfl⟩ := List.mem_map.1 hu; rfl
/-- How many objects rounds have left. -/
def sumM (M : Nat → Nat) : Nat → Nat
  | 0 => 0
  | r + 1 => sumM M r + M r
theorem swap_len (l : List Int) (i k : Nat) : (swap l i k).length = l.length := by simp [swap]
theorem range_U1 (i : Nat) : (List.range (i + 1)).map Int.ofNat = (List.range i).map Int.ofNat ++ [(i : Int)] := by
  rw [List.range_succ, List.map_append]; rfl
theorem rng_full (i : Nat) : AV.lst ((((List.range i).map Int.ofNat).map I).take ((((List.range i).map Int.ofNat).length : Int).toNat * 1)) (((List.range i).map Int.ofNat).length : Int).toNat .full = AV.lst (((List.range i).map Int.ofNat).map I) i .full := by
  rw [List.take_of_length_le (by simp)]; simp
theorem U1_snoc' (i : Nat) (x : Int) : AV.lst (((List.range i).map Int.ofNat).map I ++ [I x]) (i + 1) (.uniq 1) = U1 ((List.range i).map Int.ofNat ++ [x]) := by simp [U1]
section
variable (p : List (List Int)) (k : Nat) (hk : k < p.length) (h1 : 1 ≤ p[k].length) (h5 : p[k].length ≤ 5) (hp : p.length ≤ 1000)
variable (A : Nat → List AObj) (M : Nat → Nat) (id lo : Nat) (L : AObj) (hA : ∀ r, (A r).length = id) (hlo : lo ≤ id)
variable (hlow : ∀ r, r ≤ (perms p[k].length).length → ∀ j, j < lo → (A r)[j]? = (A 0)[j]?)
variable (hy : ∀ (r : Nat) (h : r < (perms p[k].length).length) (Y : List AObj), Sem Go.Proofs.Try.prog (.yield id) [U1 (perms p[k].length)[r]] (A r ++ L :: Y) lo (.bool true) (A (r + 1) ++ L :: (Y ++ List.replicate (M r) .dead)))
include hk h1 h5 hp hA hlo hlow hy
theorem all1_sem : Sem Go.Proofs.Try.prog (.fn 107) [.yield id, .lptr [Bn p], .lptr [I k]] (A 0 ++ [L]) lo (.tuple []) (A (perms p[k].length).length ++ L :: List.replicate (1 + sumM M (perms p[k].length).length) .dead) := by
  have hlen := perms_len h5
  obtain ⟨hN, hfirst⟩ := first_perm h1 h5
  have hchain := chain_next _ (chain_all h1 h5)
  have hpl : ∀ r (h : r < (perms p[k].length).length), (perms p[k].length)[r].length = p[k].length := fun r h => (perms_mem (List.getElem_mem h)).1
  refine fn_sem hmix lk107 rfl ⟨by simp [hA], fun j j1 j2 => ?_⟩ ?_
  · rw [List.getElem?_append_left (by rw [hA]; omega), List.getElem?_append_left (by rw [hA]; omega)]
    exact hlow _ (Nat.le_refl _) j j1
  unfold rc107
  conv => whnf
  refine ⟨by omega, ?_⟩
  conv => whnf
  refine nthM _ _ _ (hk) ?_
  conv => whnf
  generalize hn : p[k].length = n at *
  generalize hps : perms n = ps at *
  refine .intro (CI (fun i => slots 89 [(0, .yield id), (4, U1 ((List.range i).map Int.ofNat)), (16, I n), (17, I i)]) n (A 0 ++ [L])) n (ci0 rfl) ?_
  rintro m T H ⟨i, hi, rfl, rfl, rfl⟩
  conv => whnf
  refine dcase (fun h => ?_) (fun h => ?_)
  · have hlt : i < n := by omega
    conv => whnf
    refine ⟨by omega, ?_⟩
    conv => whnf
    rw [rng_full]
    conv => whnf
    refine ⟨rfl, by omega, by omega, by omega, by simp, ?_⟩
    conv => whnf
    exact ciN hlt (by rw [range_U1, ← U1_snoc', ← wrapS i (by omega)] <;> rfl)
  · obtain rfl : i = n := by omega
    rw [← hfirst]
    refine .intro (fun m T H => ∃ r u, ∃ (h : r < ps.length), m = ps.length - r ∧ Thawed u H (id + 1) (A r ++ L :: .cells (ps[r].map I) :: List.replicate (sumM M r) .dead) ps[r] ∧ T = slots 89 [(0, .yield id), (4, u)]) ps.length ⟨0, _, hN, rfl, .inl ⟨rfl, by simp [hA], by simp [sumM]⟩, rfl⟩ ?_
    rintro m T H ⟨r, u, hr, rfl, hT, rfl⟩
    have hlr := hpl r hr
    obtain ⟨X, hX⟩ : ∃ X, X = A r ++ L :: .cells (ps[r].map I) :: List.replicate (sumM M r) .dead := ⟨_, rfl⟩
    rw [← hX] at hT
    have hXl : id + 1 < X.length := by rw [hX]; simp [hA]
    have hXg : X[id + 1]? = some (.cells (ps[r].map I)) := thaw_get hT
    have hyr := hy r hr (.cells (ps[r].map I) :: List.replicate (sumM M r) .dead)
    rw [← hX] at hyr
    obtain ⟨Z, hZ⟩ : ∃ Z, Z = A (r + 1) ++ L :: (.cells (ps[r].map I) :: List.replicate (sumM M r) .dead ++ List.replicate (M r) .dead) := ⟨_, rfl⟩
    rw [← hZ] at hyr
    have hZl : id + 1 < Z.length := by rw [hZ]; simp [hA]
    have hZg : Z[id + 1]? = some (.cells (ps[r].map I)) := by
      rw [hZ, List.getElem?_append_right (by rw [hA]; omega), hA, show id + 1 - id = 1 by omega]; rfl
    have hbl : Nat.ble lo (id + 1) = true := Nat.ble_eq_true_of_le (by omega)
    have hnx := hchain r hr
    have hset : ∀ l : List Int, ∀ h : r + 1 < ps.length, l = ps[r + 1] → Z.set (id + 1) (.cells (l.map I)) = A (r + 1) ++ L :: .cells (ps[r + 1].map I) :: List.replicate (sumM M (r + 1)) .dead := by
      rintro l h rfl
      rw [hZ, List.set_append_right _ _ (by rw [hA]; omega), hA, show id + 1 - id = 1 by omega, ← List.cons_append, sumM]
      simp [List.set_cons_succ, List.replicate_append_replicate]
    have hlast : r + 1 = ps.length → Fgt Z (A ps.length ++ L :: List.replicate (1 + sumM M ps.length) .dead) := by
      intro e
      rw [← e, hZ]
      refine ⟨by simp [sumM, hA]; omega, fun j o hj => ?_⟩
      by_cases hj1 : j < id + 1
      · right
        rw [← hj]
        by_cases hj2 : j < id
        · rw [List.getElem?_append_left (by rw [hA]; omega), List.getElem?_append_left (by rw [hA]; omega)]
        · obtain rfl : j = id := by omega
          rw [List.getElem?_append_right (by rw [hA]; omega), List.getElem?_append_right (by rw [hA]; omega), hA, Nat.sub_self]; rfl
      · left
        rw [List.getElem?_append_right (by rw [hA]; omega), hA] at hj
        obtain ⟨j', rfl⟩ : ∃ j', j = id + (j' + 1) := ⟨j - id - 1, by omega⟩
        rw [show id + (j' + 1) - id = j' + 1 by omega, List.getElem?_cons_succ] at hj
        exact List.eq_of_mem_replicate (List.mem_of_getElem? hj)
    rcases hT with ⟨rfl, hid, hX2⟩ | ⟨rfl, hX2, hXc⟩
    · conv => whnf
      refine .inl ⟨by omega, ?_⟩
      conv => whnf
      rw [← hX2, ← hid]
      refine ⟨_, _, call6 (bs := [L1 ps[r]]) ?_ ?_ (clone_ok ps[r] (by omega) (by omega)) (scal_U1 _), ?_⟩
      · simp only [List.map_cons, List.map_nil, shz_ref hXg]; rfl
      · simp only [List.map_cons, List.map_nil, shz_ref hXg, List.all_cons, List.all_nil, pu1', Bool.and_true]
      conv => whnf
      refine ⟨_, _, call1 hyr, ?_⟩
      conv => whnf
      rw [show IntKind.i64.wrap ((ps[r].length : Int) - 2) = ((ps[r].length - 1 : Nat) : Int) - 1 by rw [wrapI _ (by omega) (by omega)]; omega]
      generalize hl : ps[r] = l at *
      refine .intro (fun m T H => ∃ a, a ≤ l.length - 1 ∧ m = a ∧ rise l (l.length - 1) = rise l a ∧ T = slots 89 [(0, .yield id), (4, .ref (id + 1) 0 l.length none 1), (6, I ((a : Int) - 1))] ∧ H = Z) (l.length - 1) ⟨_, Nat.le_refl _, rfl, rfl, rfl, rfl⟩ ?_
      rintro a T Z1 ⟨_, ha, rfl, hrise, rfl, rfl⟩
      conv => whnf
      refine dcase (fun h1 => ?_) (fun h1 => ?_)
      · obtain ⟨b, rfl⟩ : ∃ b, a = b + 1 := ⟨a - 1, by omega⟩
        rw [show (((b + 1 : Nat) : Int) - 1) = (b : Int) by omega]
        conv => whnf
        refine ⟨by omega, ?_⟩
        conv => whnf
        refine nthK_of hZg ?_
        conv => whnf
        refine nthK_of (x := I (l.getD b 0)) (by rw [show 0 + (b : Int).toNat * 1 = b by omega]; exact I_get l b (by omega)) ?_
        conv => whnf
        rw [wrapS b (by omega)]
        refine ⟨by omega, ?_⟩
        conv => whnf
        refine nthK_of hZg ?_
        conv => whnf
        refine nthK_of (x := I (l.getD (b + 1) 0)) (by rw [show 0 + ((b + 1 : Nat) : Int).toNat * 1 = b + 1 by omega]; exact I_get l (b + 1) (by omega)) ?_
        conv => whnf
        rw [rise] at hrise
        refine dcase (fun h2 => ?_) (fun h2 => ?_)
        · conv => whnf
          refine ⟨b, by omega, b, by omega, rfl, by rw [hrise, if_pos h2], ?_, rfl⟩
          rw [wrapI ((b : Int) - 1) (by omega) (by omega)]
          rfl
        · rw [if_neg h2] at hrise
          conv => whnf
          rw [show IntKind.i64.wrap ((l.length : Int) - 1) = ((l.length - 1 : Nat) : Int) by rw [wrapI _ (by omega) (by omega)]; omega]
          refine .intro (fun m T H => ∃ c, b + 1 ≤ c ∧ c ≤ l.length - 1 ∧ m = c ∧ last l (l.getD b 0) (l.length - 1) = last l (l.getD b 0) c ∧ T = slots 89 [(0, .yield id), (4, .ref (id + 1) 0 l.length none 1), (6, I b), (7, I c)] ∧ H = Z1) (l.length - 1) ⟨_, by omega, Nat.le_refl _, rfl, rfl, rfl, rfl⟩ ?_
          rintro c T Z2 ⟨_, hc1, hc2, rfl, hla, rfl, rfl⟩
          conv => whnf
          refine ⟨by omega, ?_⟩
          conv => whnf
          refine nthK_of hZg ?_
          conv => whnf
          refine nthK_of (x := I (l.getD c 0)) (by rw [show 0 + (c : Int).toNat * 1 = c by omega]; exact I_get l c (by omega)) ?_
          conv => whnf
          refine ⟨by omega, ?_⟩
          conv => whnf
          refine nthK_of hZg ?_
          conv => whnf
          refine nthK_of (x := I (l.getD b 0)) (by rw [show 0 + (b : Int).toNat * 1 = b by omega]; exact I_get l b (by omega)) ?_
          conv => whnf
          obtain ⟨d, rfl⟩ : ∃ d, c = d + 1 := ⟨c - 1, by omega⟩
          rw [last] at hla
          refine dcase (fun h3 => ?_) (fun h3 => ?_)
          · have hd : b + 1 ≤ d := by
              by_cases e : d = b
              · subst e; exact absurd h3 h2
              · omega
            conv => whnf
            refine ⟨d, by omega, d, hd, by omega, rfl, by rw [hla, if_pos h3], ?_, rfl⟩
            rw [show IntKind.i64.wrap (((d + 1 : Nat) : Int) - 1) = (d : Int) by rw [wrapI _ (by omega) (by omega)]; omega]
            rfl
          · rw [if_neg h3] at hla
            have hs : succ? l = some (turn (swap l b (d + 1)) (b + 1)) := by
              unfold succ?; rw [hrise]; simp only [hla]
            have e1 : 0 + (b : Int).toNat * 1 = b := by omega
            have e2 : 0 + ((d + 1 : Nat) : Int).toNat * 1 = d + 1 := by omega
            have gs : ∀ c : AObj, (Z2.set (id + 1) c)[id + 1]? = some c := fun c => by rw [List.getElem?_set_self hZl]
            conv => whnf
            refine ⟨by omega, ?_⟩
            conv => whnf
            refine nthK_of hZg ?_
            conv => whnf
            refine nthK_of (x := I (l.getD (d + 1) 0)) (by rw [e2]; exact I_get l (d + 1) (by omega)) ?_
            conv => whnf
            refine ⟨by omega, ?_⟩
            conv => whnf
            refine nthK_of hZg ?_
            conv => whnf
            refine nthK_of (x := I (l.getD b 0)) (by rw [e1]; exact I_get l b (by omega)) ?_
            conv => whnf
            refine ⟨by omega, ?_⟩
            conv => whnf
            rw [hbl]
            conv => whnf
            refine nthK_of hZg ?_
            conv => whnf
            refine updK_of (by rw [List.length_map]; omega) ?_
            conv => whnf
            refine ⟨by omega, ?_⟩
            conv => whnf
            rw [hbl]
            conv => whnf
            refine nthK_of (gs _) ?_
            conv => whnf
            refine updK_of (by rw [List.length_set, List.length_map]; omega) ?_
            conv => whnf
            rw [List.set_set, e1, e2]
            have hsw : ((l.map I).set b (I (l.getD (d + 1) 0))).set (d + 1) (I (l.getD b 0)) = (swap l b (d + 1)).map I := by
              unfold swap; rw [List.map_set, List.map_set]
            rw [wrapS b (by omega)]
            refine ⟨rfl, by omega, fun _ => ?_, fun h => by omega⟩
            conv => whnf
            have hrev := reverse_sem (swap l b (d + 1)) (b + 1) (by rw [swap_len]; omega) (by rw [swap_len]; omega) (H := Z2.set (id + 1) (.cells ((swap l b (d + 1)).map I))) (id := id + 1) (lo := lo) (by omega) (gs _)
            rw [swap_len, List.set_set] at hrev
            rw [hsw, show 0 + ((b + 1 : Nat) : Int).toNat * 1 = b + 1 by omega]
            refine ⟨_, _, call1 hrev, ?_⟩
            conv => whnf
            rw [hs] at hnx
            split at hnx
            · rename_i hr1
              refine ⟨ps.length - (r + 1), by omega, r + 1, .ref (id + 1) 0 l.length none 1, hr1, rfl, .inr ⟨by rw [hpl _ hr1, hlr], ?_, ?_⟩, rfl⟩
              · rw [← hset _ hr1 (Option.some.inj hnx)]
              · rw [List.getElem?_set_self hZl, Option.some.inj hnx]
            · cases hnx
      · obtain rfl : a = 0 := by omega
        have hs : succ? l = none := by
          unfold succ?; rw [hrise]; rfl
        conv => whnf
        refine ⟨.inr rfl, hlast ?_, rfl⟩
        rw [hs] at hnx
        split at hnx
        · cases hnx
        · omega
    · subst hX2
      conv => whnf
      refine ⟨_, _, call6 (bs := [L1 ps[r]]) ?_ ?_ (clone_ok ps[r] (by omega) (by omega)) (scal_U1 _), ?_⟩
      · simp only [List.map_cons, List.map_nil, shz_ref hXg]; rfl
      · simp only [List.map_cons, List.map_nil, shz_ref hXg, List.all_cons, List.all_nil, pu1', Bool.and_true]
      conv => whnf
      refine ⟨_, _, call1 hyr, ?_⟩
      conv => whnf
      rw [show IntKind.i64.wrap ((ps[r].length : Int) - 2) = ((ps[r].length - 1 : Nat) : Int) - 1 by rw [wrapI _ (by omega) (by omega)]; omega]
      generalize hl : ps[r] = l at *
      refine .intro (fun m T H => ∃ a, a ≤ l.length - 1 ∧ m = a ∧ rise l (l.length - 1) = rise l a ∧ T = slots 89 [(0, .yield id), (4, .ref (id + 1) 0 l.length none 1), (6, I ((a : Int) - 1))] ∧ H = Z) (l.length - 1) ⟨_, Nat.le_refl _, rfl, rfl, rfl, rfl⟩ ?_
      rintro a T Z1 ⟨_, ha, rfl, hrise, rfl, rfl⟩
      conv => whnf
      refine dcase (fun h1 => ?_) (fun h1 => ?_)
      · obtain ⟨b, rfl⟩ : ∃ b, a = b + 1 := ⟨a - 1, by omega⟩
        rw [show (((b + 1 : Nat) : Int) - 1) = (b : Int) by omega]
        conv => whnf
        refine ⟨by omega, ?_⟩
        conv => whnf
        refine nthK_of hZg ?_
        conv => whnf
        refine nthK_of (x := I (l.getD b 0)) (by rw [show 0 + (b : Int).toNat * 1 = b by omega]; exact I_get l b (by omega)) ?_
        conv => whnf
        rw [wrapS b (by omega)]
        refine ⟨by omega, ?_⟩
        conv => whnf
        refine nthK_of hZg ?_
        conv => whnf
        refine nthK_of (x := I (l.getD (b + 1) 0)) (by rw [show 0 + ((b + 1 : Nat) : Int).toNat * 1 = b + 1 by omega]; exact I_get l (b + 1) (by omega)) ?_
        conv => whnf
        rw [rise] at hrise
        refine dcase (fun h2 => ?_) (fun h2 => ?_)
        · conv => whnf
          refine ⟨b, by omega, b, by omega, rfl, by rw [hrise, if_pos h2], ?_, rfl⟩
          rw [wrapI ((b : Int) - 1) (by omega) (by omega)]
          rfl
        · rw [if_neg h2] at hrise
          conv => whnf
          rw [show IntKind.i64.wrap ((l.length : Int) - 1) = ((l.length - 1 : Nat) : Int) by rw [wrapI _ (by omega) (by omega)]; omega]
          refine .intro (fun m T H => ∃ c, b + 1 ≤ c ∧ c ≤ l.length - 1 ∧ m = c ∧ last l (l.getD b 0) (l.length - 1) = last l (l.getD b 0) c ∧ T = slots 89 [(0, .yield id), (4, .ref (id + 1) 0 l.length none 1), (6, I b), (7, I c)] ∧ H = Z1) (l.length - 1) ⟨_, by omega, Nat.le_refl _, rfl, rfl, rfl, rfl⟩ ?_
          rintro c T Z2 ⟨_, hc1, hc2, rfl, hla, rfl, rfl⟩
          conv => whnf
          refine ⟨by omega, ?_⟩
          conv => whnf
          refine nthK_of hZg ?_
          conv => whnf
          refine nthK_of (x := I (l.getD c 0)) (by rw [show 0 + (c : Int).toNat * 1 = c by omega]; exact I_get l c (by omega)) ?_
          conv => whnf
          refine ⟨by omega, ?_⟩
          conv => whnf
          refine nthK_of hZg ?_
          conv => whnf
          refine nthK_of (x := I (l.getD b 0)) (by rw [show 0 + (b : Int).toNat * 1 = b by omega]; exact I_get l b (by omega)) ?_
          conv => whnf
          obtain ⟨d, rfl⟩ : ∃ d, c = d + 1 := ⟨c - 1, by omega⟩
          rw [last] at hla
          refine dcase (fun h3 => ?_) (fun h3 => ?_)
          · have hd : b + 1 ≤ d := by
              by_cases e : d = b
              · subst e; exact absurd h3 h2
              · omega
            conv => whnf
            refine ⟨d, by omega, d, hd, by omega, rfl, by rw [hla, if_pos h3], ?_, rfl⟩
            rw [show IntKind.i64.wrap (((d + 1 : Nat) : Int) - 1) = (d : Int) by rw [wrapI _ (by omega) (by omega)]; omega]
            rfl
          · rw [if_neg h3] at hla
            have hs : succ? l = some (turn (swap l b (d + 1)) (b + 1)) := by
              unfold succ?; rw [hrise]; simp only [hla]
            have e1 : 0 + (b : Int).toNat * 1 = b := by omega
            have e2 : 0 + ((d + 1 : Nat) : Int).toNat * 1 = d + 1 := by omega
            have gs : ∀ c : AObj, (Z2.set (id + 1) c)[id + 1]? = some c := fun c => by rw [List.getElem?_set_self hZl]
            conv => whnf
            refine ⟨by omega, ?_⟩
            conv => whnf
            refine nthK_of hZg ?_
            conv => whnf
            refine nthK_of (x := I (l.getD (d + 1) 0)) (by rw [e2]; exact I_get l (d + 1) (by omega)) ?_
            conv => whnf
            refine ⟨by omega, ?_⟩
            conv => whnf
            refine nthK_of hZg ?_
            conv => whnf
            refine nthK_of (x := I (l.getD b 0)) (by rw [e1]; exact I_get l b (by omega)) ?_
            conv => whnf
            refine ⟨by omega, ?_⟩
            conv => whnf
            rw [hbl]
            conv => whnf
            refine nthK_of hZg ?_
            conv => whnf
            refine updK_of (by rw [List.length_map]; omega) ?_
            conv => whnf
            refine ⟨by omega, ?_⟩
            conv => whnf
            rw [hbl]
            conv => whnf
            refine nthK_of (gs _) ?_
            conv => whnf
            refine updK_of (by rw [List.length_set, List.length_map]; omega) ?_
            conv => whnf
            rw [List.set_set, e1, e2]
            have hsw : ((l.map I).set b (I (l.getD (d + 1) 0))).set (d + 1) (I (l.getD b 0)) = (swap l b (d + 1)).map I := by
              unfold swap; rw [List.map_set, List.map_set]
            rw [wrapS b (by omega)]
            refine ⟨rfl, by omega, fun _ => ?_, fun h => by omega⟩
            conv => whnf
            have hrev := reverse_sem (swap l b (d + 1)) (b + 1) (by rw [swap_len]; omega) (by rw [swap_len]; omega) (H := Z2.set (id + 1) (.cells ((swap l b (d + 1)).map I))) (id := id + 1) (lo := lo) (by omega) (gs _)
            rw [swap_len, List.set_set] at hrev
            rw [hsw, show 0 + ((b + 1 : Nat) : Int).toNat * 1 = b + 1 by omega]
            refine ⟨_, _, call1 hrev, ?_⟩
            conv => whnf
            rw [hs] at hnx
            split at hnx
            · rename_i hr1
              refine ⟨ps.length - (r + 1), by omega, r + 1, .ref (id + 1) 0 l.length none 1, hr1, rfl, .inr ⟨by rw [hpl _ hr1, hlr], ?_, ?_⟩, rfl⟩
              · rw [← hset _ hr1 (Option.some.inj hnx)]
              · rw [List.getElem?_set_self hZl, Option.some.inj hnx]
            · cases hnx
      · obtain rfl : a = 0 := by omega
        have hs : succ? l = none := by
          unfold succ?; rw [hrise]; rfl
        conv => whnf
        refine ⟨.inr rfl, hlast ?_, rfl⟩
        rw [hs] at hnx
        split at hnx
        · cases hnx
        · omega
end
end Go.Proofs.Ytlcebaejlnpdeaa.Ab

/- MADE BY PROGRAM (rc.py): functions, looked up. -/
namespace Go.Proofs.Ytlcebaejlnpdeaa.Ab
open Go
noncomputable def rc116 : RC :=
  .seq (.reg false [I_ 8 [.sl 1] .mv, I_ 9 [.tv 8, .cv (.int .i64 1)] (.bin .add), I_ 6 [.tk 9] .mv]) (.block 0 (.loop (some [i_,i_,i_,o_,o_,o_,i_,o_,o_,o_,o_,o_,o_,o_,o_,o_,o_,o_,o_,o_,o_,o_,o_,o_,o_,o_,o_,o_,o_,o_,o_,o_,o_,o_,o_,o_,o_,o_,o_,o_,o_,o_,o_,o_,o_,o_,o_,o_,o_]) (.seq (.seq (.reg false [I_ 10 [.sl 6] .mv, I_ 11 [.sl 2] .mv, I_ 12 [.tv 10, .tv 11] (.bin .lss)]) (.cond (.sl 12) .skip (.exit 0))) (.seq (.block 1 (.seq (.reg false [I_ 15 [.sl 6] .mv, I_ 7 [.tk 15] .mv])
  (.block 2 (.loop (some [i_,i_,i_,o_,o_,o_,i_,i_,o_,o_,o_,o_,o_,o_,o_,o_,o_,o_,o_,o_,o_,o_,o_,o_,o_,o_,o_,o_,o_,o_,o_,o_,o_,o_,o_,o_,o_,o_,o_,o_,o_,o_,o_,o_,o_,o_,o_,o_,o_]) (.seq (.seq (.reg true [I_ 16 [.sl 7] .mv, I_ 17 [.sl 1] .mv, I_ 18 [.tv 16, .tv 17]
  (.bin .gtr), I_ 19 [.tk 18] .mv, ⟨some 20, [.sl 0], some (19, true), none, .mv⟩, ⟨some 21, [.sl 7], some (19, true), none, .mv⟩, ⟨some 22, [.tv 20, .tv 21], some (19, true), none, .ia 1⟩, ⟨some 23, [.tv 22], some (19, true),
  none, .ld .one⟩, ⟨some 24, [.sl 0], some (19, true), none, .mv⟩, ⟨some 25, [.sl 7], some (19, true), none, .mv⟩, ⟨some 26, [.tv 25, .cv (.int .i64 1)], some (19, true), none, .bin .sub⟩, ⟨some 27, [.tv 24, .tv 26], some (19,
  true), none, .ia 1⟩, ⟨some 28, [.tv 27], some (19, true), none, .ld .one⟩, ⟨some 29, [.cv (.func 122 [] []), .sl 23, .sl 28], some (19, true), none, .call 3⟩, I_ 30 [.sl 19, .tv 29, .cv (.bool false)] .pick]) (.cond (.sl 30)
  .skip (.exit 2))) (.seq (.block 3 (.reg true [I_ 33 [.sl 0] .mv, I_ 34 [.sl 7] .mv, I_ 35 [.sl 0] .mv, I_ 36 [.sl 7] .mv, I_ 37 [.tv 36, .cv (.int .i64 1)] (.bin .sub), I_ 38 [.sl 0] .mv, I_ 39 [.sl 7] .mv, I_ 40 [.tv 39, .cv
  (.int .i64 1)] (.bin .sub), I_ 41 [.tv 38, .tv 40] (.ia 1), I_ 42 [.tv 41] (.ld .one), I_ 43 [.sl 0] .mv, I_ 44 [.sl 7] .mv, I_ 45 [.tv 43, .tv 44] (.ia 1), I_ 46 [.tv 45] (.ld .one), I_ 47 [.tv 33, .tv 34] (.ia 1), ⟨none, [.tk
  47, .tk 42], none, none, .st 1⟩, I_ 48 [.tv 35, .tv 37] (.ia 1), ⟨none, [.tk 48, .tk 46], none, none, .st 1⟩])) (.reg false [I_ 31 [.tk 7] .mv, I_ 32 [.tv 31, .cv (.int .i64 1)] (.bin .sub), I_ 7 [.tk 32] .mv]))))))) (.reg
  false [I_ 13 [.tk 6] .mv, I_ 14 [.tv 13, .cv (.int .i64 1)] (.bin .add), I_ 6 [.tk 14] .mv])))))
theorem lk116 : linkF Go.Proofs.Try.prog ann116 116 = some (rc116, 49, []) := by kernel_rfl
noncomputable def rc117 : RC :=
  .seq (.reg false [I_ 11 [.sl 1] .mv, I_ 6 [.tk 11] .mv]) (.seq (.reg false [I_ 7 [.cv (.int .i64 0)] .mv]) (.seq (.reg false [I_ 12 [.tk 2] .mv, I_ 13 [.tk 1] .mv, I_ 14 [.tv 12, .tv 13] (.bin .sub), I_ 8 [.tk 14] .mv]) (.seq
  (.seq (.reg false [I_ 15 [.sl 8] .mv, I_ 16 [.tv 15, .cv (.int .i64 1)] (.bin .sub), I_ 17 [.tv 16, .cv (.int .i64 2)] (.bin .quo), I_ 9 [.tk 17] .mv]) (.block 0 (.loop (some [i_,o_,o_,o_,o_,o_,i_,i_,i_,i_,o_,o_,o_,o_,o_,o_,o_,o_,o_,o_,o_,o_,o_,o_,o_,o_,o_,o_,o_,o_,o_,o_,o_,o_,o_,o_,o_,o_,o_,o_,o_,o_,o_,o_,o_,o_,o_,o_,o_,o_,o_,o_,o_,o_,o_,o_]) (.seq (.seq (.reg false [I_ 18 [.sl 9] .mv, I_ 19 [.tv 18, .cv (.int .i64 0)] (.bin .geq)]) (.cond (.sl 19) .skip
  (.exit 0))) (.seq (.block 1 (.reg false [I_ 22 [.sl 0] .mv, I_ 23 [.sl 9] .mv, I_ 24 [.sl 8] .mv, I_ 25 [.sl 6] .mv, I_ 26 [.cv (.func 127 [] []), .tk 22, .tk 23, .tk 24, .tk 25] (.call 1)])) (.reg false [I_ 20 [.tk 9] .mv, I_
  21 [.tv 20, .cv (.int .i64 1)] (.bin .sub), I_ 9 [.tk 21] .mv])))))) (.seq (.reg false [I_ 27 [.tk 8] .mv, I_ 28 [.tv 27, .cv (.int .i64 1)] (.bin .sub), I_ 10 [.tk 28] .mv]) (.block 2 (.loop (some [i_,o_,o_,o_,o_,o_,i_,i_,o_,o_,i_,o_,o_,o_,o_,o_,o_,o_,o_,o_,o_,o_,o_,o_,o_,o_,o_,o_,o_,o_,o_,o_,o_,o_,o_,o_,o_,o_,o_,o_,o_,o_,o_,o_,o_,o_,o_,o_,o_,o_,o_,o_,o_,o_,o_,o_]) (.seq (.seq (.reg false [I_ 29 [.sl 10] .mv, I_ 30 [.tv 29, .cv (.int .i64 0)] (.bin .geq)])
  (.cond (.sl 30) .skip (.exit 2))) (.seq (.block 3 (.seq (.reg true [I_ 33 [.sl 0] .mv, I_ 34 [.sl 6] .mv, I_ 35 [.sl 0] .mv, I_ 36 [.sl 6] .mv, I_ 37 [.sl 10] .mv, I_ 38 [.tv 36, .tv 37] (.bin .add), I_ 39 [.sl 0] .mv, I_ 40
  [.sl 6] .mv, I_ 41 [.sl 10] .mv, I_ 42 [.tv 40, .tv 41] (.bin .add), I_ 43 [.tv 39, .tv 42] (.ia 1), I_ 44 [.tv 43] (.ld .one), I_ 45 [.sl 0] .mv, I_ 46 [.sl 6] .mv, I_ 47 [.tv 45, .tv 46] (.ia 1), I_ 48 [.tv 47] (.ld .one), I_
  49 [.tv 33, .tv 34] (.ia 1), ⟨none, [.tk 49, .tk 44], none, none, .st 1⟩, I_ 50 [.tv 35, .tv 38] (.ia 1), ⟨none, [.tk 50, .tk 48], none, none, .st 1⟩]) (.reg false [I_ 51 [.sl 0] .mv, I_ 52 [.sl 7] .mv, I_ 53 [.sl 10] .mv, I_
  54 [.sl 6] .mv, I_ 55 [.cv (.func 127 [] []), .tk 51, .tk 52, .tk 53, .tk 54] (.call 1)]))) (.reg false [I_ 31 [.tk 10] .mv, I_ 32 [.tv 31, .cv (.int .i64 1)] (.bin .sub), I_ 10 [.tk 32] .mv])))))))))
theorem lk117 : linkF Go.Proofs.Try.prog ann117 117 = some (rc117, 56, []) := by kernel_rfl
noncomputable def rc119 : RC :=
  .seq (.reg false [I_ 6 [.cv (.int .i64 0)] .mv, I_ 7 [.cv (.int .i64 0)] .mv]) (.seq (.reg false [I_ 13 [.tk 2] .mv, I_ 14 [.sl 1] .mv, I_ 15 [.tv 13, .tv 14] (.bin .sub), I_ 8 [.tk 15] .mv]) (.seq (.reg false [I_ 9 [] (.alloc
  [.int .i64 0])]) (.seq (.reg false [I_ 16 [.sl 1] .mv, I_ 17 [.sl 8] .mv, I_ 18 [.tv 17, .cv (.int .i64 4)] (.bin .quo), I_ 19 [.tv 18, .cv (.int .i64 1)] (.bin .mul), I_ 20 [.tv 16, .tv 19] (.bin .add), I_ 10 [.tk 20] .mv])
  (.seq (.reg false [I_ 21 [.sl 1] .mv, I_ 22 [.sl 8] .mv, I_ 23 [.tv 22, .cv (.int .i64 4)] (.bin .quo), I_ 24 [.tv 23, .cv (.int .i64 2)] (.bin .mul), I_ 25 [.tv 21, .tv 24] (.bin .add), I_ 11 [.tk 25] .mv]) (.seq (.reg false
  [I_ 26 [.tk 1] .mv, I_ 27 [.sl 8] .mv, I_ 28 [.tv 27, .cv (.int .i64 4)] (.bin .quo), I_ 29 [.tv 28, .cv (.int .i64 3)] (.bin .mul), I_ 30 [.tv 26, .tv 29] (.bin .add), I_ 12 [.tk 30] .mv]) (.seq (.seq (.reg false [I_ 31 [.sl
  8] .mv, I_ 32 [.tv 31, .cv (.int .i64 8)] (.bin .geq)]) (.cond (.sl 32) (.seq (.seq (.reg false [I_ 33 [.tk 8] .mv, I_ 34 [.tv 33, .cv (.int .i64 50)] (.bin .geq)]) (.cond (.sl 34) (.seq (.reg false [I_ 35 [.sl 0] .mv, I_ 36
  [.tk 10] .mv, I_ 37 [.cv (.func 130 [] []), .tk 35, .tk 36, .sl 9] (.call 1), I_ 10 [.tk 37] .mv]) (.seq (.reg false [I_ 38 [.sl 0] .mv, I_ 39 [.tk 11] .mv, I_ 40 [.cv (.func 130 [] []), .tk 38, .tk 39, .sl 9] (.call 1), I_ 11
  [.tk 40] .mv]) (.reg false [I_ 41 [.sl 0] .mv, I_ 42 [.tk 12] .mv, I_ 43 [.cv (.func 130 [] []), .tk 41, .tk 42, .sl 9] (.call 1), I_ 12 [.tk 43] .mv]))) .skip)) (.reg false [I_ 44 [.tk 0] .mv, I_ 45 [.tk 10] .mv, I_ 46 [.tk
  11] .mv, I_ 47 [.tk 12] .mv, I_ 48 [.cv (.func 131 [] []), .tk 44, .tk 45, .tk 46, .tk 47, .sl 9] (.call 1), I_ 11 [.tk 48] .mv])) .skip)) (.seq (.reg false [I_ 49 [.tv 9] (.ld .one)]) (.block 0 (.seq (.reg false [I_ 52 [.sl
  49, .cv (.int .i64 0)] (.bin .eql), I_ 51 [.tk 52] .mv]) (.cond (.sl 51) (.seq (.reg false [I_ 53 [.tk 11] .mv, I_ 6 [.tk 53] .mv, I_ 7 [.cv (.int .i64 1)] .mv]) .ret) (.seq (.reg false [I_ 55 [.tv 49, .cv (.int .i64 12)] (.bin
  .eql), I_ 54 [.tk 55] .mv]) (.cond (.sl 54) (.seq (.reg false [I_ 56 [.tk 11] .mv, I_ 6 [.tk 56] .mv, I_ 7 [.cv (.int .i64 2)] .mv]) .ret) (.seq (.reg false [I_ 50 [.tk 11] .mv, I_ 6 [.tk 50] .mv, I_ 7 [.cv (.int .i64 0)] .mv])
  .ret)))))))))))))
theorem lk119 : linkF Go.Proofs.Try.prog ann119 119 = some (rc119, 57, [.tmp 6, .tmp 7]) := by kernel_rfl
noncomputable def rc120 : RC :=
  .seq (.reg false [I_ 8 [.tk 1] .mv, I_ 6 [.tk 8] .mv]) (.seq (.reg false [I_ 9 [.tk 2] .mv, I_ 10 [.tv 9, .cv (.int .i64 1)] (.bin .sub), I_ 7 [.tk 10] .mv]) (.block 0 (.loop (some [i_,o_,o_,o_,o_,o_,i_,i_,o_,o_,o_,o_,o_,o_,o_,o_,o_,o_,o_,o_,o_,o_,o_,o_,o_,o_,o_,o_,o_,o_,o_,o_]) (.seq (.seq (.reg false [I_ 11 [.sl 6] .mv, I_ 12
  [.sl 7] .mv, I_ 13 [.tv 11, .tv 12] (.bin .lss)]) (.cond (.sl 13) .skip (.exit 0))) (.block 1 (.seq (.reg true [I_ 14 [.sl 0] .mv, I_ 15 [.sl 6] .mv, I_ 16 [.sl 0] .mv, I_ 17 [.sl 7] .mv, I_ 18 [.sl 0] .mv, I_ 19 [.sl 7] .mv,
  I_ 20 [.tv 18, .tv 19] (.ia 1), I_ 21 [.tv 20] (.ld .one), I_ 22 [.sl 0] .mv, I_ 23 [.sl 6] .mv, I_ 24 [.tv 22, .tv 23] (.ia 1), I_ 25 [.tv 24] (.ld .one), I_ 26 [.tv 14, .tv 15] (.ia 1), ⟨none, [.tk 26, .tk 21], none, none,
  .st 1⟩, I_ 27 [.tv 16, .tv 17] (.ia 1), ⟨none, [.tk 27, .tk 25], none, none, .st 1⟩]) (.seq (.reg false [I_ 28 [.tk 6] .mv, I_ 29 [.tv 28, .cv (.int .i64 1)] (.bin .add), I_ 6 [.tk 29] .mv]) (.reg false [I_ 30 [.tk 7] .mv, I_
  31 [.tv 30, .cv (.int .i64 1)] (.bin .sub), I_ 7 [.tk 31] .mv]))))))))
theorem lk120 : linkF Go.Proofs.Try.prog ann120 120 = some (rc120, 32, []) := by kernel_rfl
noncomputable def rc121 : RC :=
  .seq (.reg false [I_ 6 [.cv (.bool false)] .mv]) (.seq (.reg false [I_ 11 [.sl 1] .mv, I_ 12 [.tv 11, .cv (.int .i64 1)] (.bin .add), I_ 7 [.tk 12] .mv]) (.seq (.seq (.reg false [I_ 8 [.cv (.int .i64 0)] .mv]) (.block 0 (.loop
  (some [i_,i_,i_,o_,o_,o_,o_,i_,i_,o_,o_,o_,o_,o_,o_,o_,o_,o_,o_,o_,o_,o_,o_,o_,o_,o_,o_,o_,o_,o_,o_,o_,o_,o_,o_,o_,o_,o_,o_,o_,o_,o_,o_,o_,o_,o_,o_,o_,o_,o_,o_,o_,o_,o_,o_,o_,o_,o_,o_,o_,o_,o_,o_,o_,o_,o_,o_,o_,o_,o_,o_,o_,o_,o_,o_,o_,o_,o_,o_,o_,o_,o_,o_,o_,o_,o_,o_,o_,o_,o_,o_,o_,o_,o_,o_,o_,o_,o_,o_,o_,o_,o_,o_,o_,o_,o_,o_,o_,o_,o_,o_,o_,o_,o_,o_,o_,o_,o_,o_,o_,o_,o_,o_,o_,o_,o_,o_,o_,o_,o_,o_,o_,o_]) (.seq (.seq (.reg false [I_ 13 [.sl 8] .mv, I_ 14 [.tv 13, .cv (.int .i64 5)] (.bin .lss)]) (.cond (.sl 14) .skip (.exit 0))) (.seq (.block 1 (.seq (.block 2 (.loop (some [i_,i_,i_,o_,o_,o_,o_,i_,i_,o_,o_,o_,o_,o_,o_,o_,o_,o_,o_,o_,o_,o_,o_,o_,o_,o_,o_,o_,o_,o_,o_,o_,o_,o_,o_,o_,o_,o_,o_,o_,o_,o_,o_,o_,o_,o_,o_,o_,o_,o_,o_,o_,o_,o_,o_,o_,o_,o_,o_,o_,o_,o_,o_,o_,o_,o_,o_,o_,o_,o_,o_,o_,o_,o_,o_,o_,o_,o_,o_,o_,o_,o_,o_,o_,o_,o_,o_,o_,o_,o_,o_,o_,o_,o_,o_,o_,o_,o_,o_,o_,o_,o_,o_,o_,o_,o_,o_,o_,o_,o_,o_,o_,o_,o_,o_,o_,o_,o_,o_,o_,o_,o_,o_,o_,o_,o_,o_,o_,o_,o_,o_,o_,o_]) (.seq (.seq (.reg true [I_ 17 [.sl 7] .mv, I_ 18 [.sl 2] .mv, I_ 19 [.tv 17, .tv 18] (.bin .lss), I_ 20 [.tk 19] .mv, ⟨some 21, [.sl 0], some (20, true), none, .mv⟩, ⟨some 22, [.sl 7], some (20, true), none,
  .mv⟩, ⟨some 23, [.tv 21, .tv 22], some (20, true), none, .ia 1⟩, ⟨some 24, [.tv 23], some (20, true), none, .ld .one⟩, ⟨some 25, [.sl 0], some (20, true), none, .mv⟩, ⟨some 26, [.sl 7], some (20, true), none, .mv⟩, ⟨some 27,
  [.tv 26, .cv (.int .i64 1)], some (20, true), none, .bin .sub⟩, ⟨some 28, [.tv 25, .tv 27], some (20, true), none, .ia 1⟩, ⟨some 29, [.tv 28], some (20, true), none, .ld .one⟩, ⟨some 30, [.cv (.func 122 [] []), .sl 24, .sl 29],
  some (20, true), none, .call 3⟩, ⟨some 31, [.tv 30], some (20, true), none, .un .not⟩, I_ 32 [.sl 20, .tv 31, .cv (.bool false)] .pick]) (.cond (.sl 32) .skip (.exit 2))) (.block 3 (.reg false [I_ 33 [.tk 7] .mv, I_ 34 [.tv 33,
  .cv (.int .i64 1)] (.bin .add), I_ 7 [.tk 34] .mv]))))) (.seq (.seq (.reg false [I_ 35 [.sl 7] .mv, I_ 36 [.sl 2] .mv, I_ 37 [.tv 35, .tv 36] (.bin .eql)]) (.cond (.sl 37) (.seq (.reg false [I_ 6 [.cv (.bool true)] .mv]) .ret)
  .skip)) (.seq (.seq (.reg false [I_ 38 [.sl 2] .mv, I_ 39 [.sl 1] .mv, I_ 40 [.tv 38, .tv 39] (.bin .sub), I_ 41 [.tv 40, .cv (.int .i64 50)] (.bin .lss)]) (.cond (.sl 41) (.seq (.reg false [I_ 6 [.cv (.bool false)] .mv]) .ret)
  .skip)) (.seq (.reg true [I_ 42 [.sl 0] .mv, I_ 43 [.sl 7] .mv, I_ 44 [.sl 0] .mv, I_ 45 [.sl 7] .mv, I_ 46 [.tv 45, .cv (.int .i64 1)] (.bin .sub), I_ 47 [.sl 0] .mv, I_ 48 [.sl 7] .mv, I_ 49 [.tv 48, .cv (.int .i64 1)] (.bin
  .sub), I_ 50 [.tv 47, .tv 49] (.ia 1), I_ 51 [.tv 50] (.ld .one), I_ 52 [.sl 0] .mv, I_ 53 [.sl 7] .mv, I_ 54 [.tv 52, .tv 53] (.ia 1), I_ 55 [.tv 54] (.ld .one), I_ 56 [.tv 42, .tv 43] (.ia 1), ⟨none, [.tk 56, .tk 51], none,
  none, .st 1⟩, I_ 57 [.tv 44, .tv 46] (.ia 1), ⟨none, [.tk 57, .tk 55], none, none, .st 1⟩]) (.seq (.seq (.reg false [I_ 58 [.sl 7] .mv, I_ 59 [.sl 1] .mv, I_ 60 [.tv 58, .tv 59] (.bin .sub), I_ 61 [.tv 60, .cv (.int .i64 2)]
  (.bin .geq)]) (.cond (.sl 61) (.seq (.reg false [I_ 62 [.sl 7] .mv, I_ 63 [.tv 62, .cv (.int .i64 1)] (.bin .sub), I_ 9 [.tk 63] .mv]) (.block 4 (.loop (some [i_,i_,i_,o_,o_,o_,o_,i_,i_,i_,o_,o_,o_,o_,o_,o_,o_,o_,o_,o_,o_,o_,o_,o_,o_,o_,o_,o_,o_,o_,o_,o_,o_,o_,o_,o_,o_,o_,o_,o_,o_,o_,o_,o_,o_,o_,o_,o_,o_,o_,o_,o_,o_,o_,o_,o_,o_,o_,o_,o_,o_,o_,o_,o_,o_,o_,o_,o_,o_,o_,o_,o_,o_,o_,o_,o_,o_,o_,o_,o_,o_,o_,o_,o_,o_,o_,o_,o_,o_,o_,o_,o_,o_,o_,o_,o_,o_,o_,o_,o_,o_,o_,o_,o_,o_,o_,o_,o_,o_,o_,o_,o_,o_,o_,o_,o_,o_,o_,o_,o_,o_,o_,o_,o_,o_,o_,o_,o_,o_,o_,o_,o_,o_]) (.seq (.seq (.reg false [I_ 64 [.sl
  9] .mv, I_ 65 [.tv 64, .cv (.int .i64 1)] (.bin .geq)]) (.cond (.sl 65) .skip (.exit 4))) (.seq (.block 5 (.seq (.seq (.reg true [I_ 68 [.sl 0] .mv, I_ 69 [.sl 9] .mv, I_ 70 [.tv 68, .tv 69] (.ia 1), I_ 71 [.tv 70] (.ld .one),
  I_ 72 [.sl 0] .mv, I_ 73 [.sl 9] .mv, I_ 74 [.tv 73, .cv (.int .i64 1)] (.bin .sub), I_ 75 [.tv 72, .tv 74] (.ia 1), I_ 76 [.tv 75] (.ld .one), I_ 77 [.cv (.func 122 [] []), .sl 71, .sl 76] (.call 3), I_ 78 [.tv 77] (.un
  .not)]) (.cond (.sl 78) (.exit 4) .skip)) (.reg true [I_ 79 [.sl 0] .mv, I_ 80 [.sl 9] .mv, I_ 81 [.sl 0] .mv, I_ 82 [.sl 9] .mv, I_ 83 [.tv 82, .cv (.int .i64 1)] (.bin .sub), I_ 84 [.sl 0] .mv, I_ 85 [.sl 9] .mv, I_ 86 [.tv
  85, .cv (.int .i64 1)] (.bin .sub), I_ 87 [.tv 84, .tv 86] (.ia 1), I_ 88 [.tv 87] (.ld .one), I_ 89 [.sl 0] .mv, I_ 90 [.sl 9] .mv, I_ 91 [.tv 89, .tv 90] (.ia 1), I_ 92 [.tv 91] (.ld .one), I_ 93 [.tv 79, .tv 80] (.ia 1),
  ⟨none, [.tk 93, .tk 88], none, none, .st 1⟩, I_ 94 [.tv 81, .tv 83] (.ia 1), ⟨none, [.tk 94, .tk 92], none, none, .st 1⟩]))) (.reg false [I_ 66 [.tk 9] .mv, I_ 67 [.tv 66, .cv (.int .i64 1)] (.bin .sub), I_ 9 [.tk 67]
  .mv])))))) .skip)) (.seq (.reg false [I_ 95 [.sl 2] .mv, I_ 96 [.sl 7] .mv, I_ 97 [.tv 95, .tv 96] (.bin .sub), I_ 98 [.tv 97, .cv (.int .i64 2)] (.bin .geq)]) (.cond (.sl 98) (.seq (.reg false [I_ 99 [.sl 7] .mv, I_ 100 [.tv
  99, .cv (.int .i64 1)] (.bin .add), I_ 10 [.tk 100] .mv]) (.block 6 (.loop (some [i_,i_,i_,o_,o_,o_,o_,i_,i_,o_,i_,o_,o_,o_,o_,o_,o_,o_,o_,o_,o_,o_,o_,o_,o_,o_,o_,o_,o_,o_,o_,o_,o_,o_,o_,o_,o_,o_,o_,o_,o_,o_,o_,o_,o_,o_,o_,o_,o_,o_,o_,o_,o_,o_,o_,o_,o_,o_,o_,o_,o_,o_,o_,o_,o_,o_,o_,o_,o_,o_,o_,o_,o_,o_,o_,o_,o_,o_,o_,o_,o_,o_,o_,o_,o_,o_,o_,o_,o_,o_,o_,o_,o_,o_,o_,o_,o_,o_,o_,o_,o_,o_,o_,o_,o_,o_,o_,o_,o_,o_,o_,o_,o_,o_,o_,o_,o_,o_,o_,o_,o_,o_,o_,o_,o_,o_,o_,o_,o_,o_,o_,o_,o_]) (.seq (.seq (.reg false [I_ 101 [.sl 10] .mv, I_ 102 [.sl 2] .mv, I_ 103 [.tv 101, .tv 102] (.bin .lss)]) (.cond
  (.sl 103) .skip (.exit 6))) (.seq (.block 7 (.seq (.seq (.reg true [I_ 106 [.sl 0] .mv, I_ 107 [.sl 10] .mv, I_ 108 [.tv 106, .tv 107] (.ia 1), I_ 109 [.tv 108] (.ld .one), I_ 110 [.sl 0] .mv, I_ 111 [.sl 10] .mv, I_ 112 [.tv
  111, .cv (.int .i64 1)] (.bin .sub), I_ 113 [.tv 110, .tv 112] (.ia 1), I_ 114 [.tv 113] (.ld .one), I_ 115 [.cv (.func 122 [] []), .sl 109, .sl 114] (.call 3), I_ 116 [.tv 115] (.un .not)]) (.cond (.sl 116) (.exit 6) .skip))
  (.reg true [I_ 117 [.sl 0] .mv, I_ 118 [.sl 10] .mv, I_ 119 [.sl 0] .mv, I_ 120 [.sl 10] .mv, I_ 121 [.tv 120, .cv (.int .i64 1)] (.bin .sub), I_ 122 [.sl 0] .mv, I_ 123 [.sl 10] .mv, I_ 124 [.tv 123, .cv (.int .i64 1)] (.bin
  .sub), I_ 125 [.tv 122, .tv 124] (.ia 1), I_ 126 [.tv 125] (.ld .one), I_ 127 [.sl 0] .mv, I_ 128 [.sl 10] .mv, I_ 129 [.tv 127, .tv 128] (.ia 1), I_ 130 [.tv 129] (.ld .one), I_ 131 [.tv 117, .tv 118] (.ia 1), ⟨none, [.tk 131,
  .tk 126], none, none, .st 1⟩, I_ 132 [.tv 119, .tv 121] (.ia 1), ⟨none, [.tk 132, .tk 130], none, none, .st 1⟩]))) (.reg false [I_ 104 [.tk 10] .mv, I_ 105 [.tv 104, .cv (.int .i64 1)] (.bin .add), I_ 10 [.tk 105] .mv]))))))
  .skip)))))))) (.reg false [I_ 15 [.tk 8] .mv, I_ 16 [.tv 15, .cv (.int .i64 1)] (.bin .add), I_ 8 [.tk 16] .mv])))))) (.seq (.reg false [I_ 6 [.cv (.bool false)] .mv]) .ret)))
theorem lk121 : linkF Go.Proofs.Try.prog ann121 121 = some (rc121, 133, [.tmp 6]) := by kernel_rfl
noncomputable def rc122 : RC :=
  .seq (.reg false [I_ 4 [.cv (.bool false)] .mv]) (.seq (.reg false [I_ 5 [.sl 0] .mv, I_ 6 [.cv (.func 132 [] []), .sl 5] (.call 3), I_ 7 [.tk 6] .mv, ⟨some 8, [.sl 1], some (7, true), none, .mv⟩, ⟨some 9, [.cv (.func 132 [] []),
  .sl 8], some (7, true), none, .call 3⟩, ⟨some 10, [.tv 9], some (7, true), none, .un .not⟩, I_ 11 [.tv 7, .tv 10, .cv (.bool false)] .pick, I_ 12 [.tk 11] .mv, ⟨some 13, [.tk 0], some (12, false), none, .mv⟩, ⟨some 14, [.tk 1],
  some (12, false), none, .mv⟩, ⟨some 15, [.tv 13, .tv 14], some (12, false), none, .bin .lss⟩, I_ 16 [.tv 12, .cv (.bool true), .tv 15] .pick, I_ 4 [.tk 16] .mv]) .ret)
theorem lk122 : linkF Go.Proofs.Try.prog ann122 122 = some (rc122, 17, [.tmp 4]) := by kernel_rfl
noncomputable def rc127 : RC :=
  .seq (.reg false [I_ 10 [.tk 1] .mv, I_ 8 [.tk 10] .mv]) (.block 0 (.loop (some [i_,o_,i_,i_,o_,o_,o_,o_,i_,o_,o_,o_,o_,o_,o_,o_,o_,o_,o_,o_,o_,o_,o_,o_,o_,o_,o_,o_,o_,o_,o_,o_,o_,o_,o_,o_,o_,o_,o_,o_,o_,o_,o_,o_,o_,o_,o_,o_,o_,o_,o_,o_,o_,o_,o_,o_,o_,o_,o_,o_,o_,o_,o_,o_,o_,o_,o_,o_,o_,o_,o_,o_,o_,o_,o_,o_]) (.block 1 (.seq (.reg false [I_ 11 [.sl 8] .mv, I_ 12 [.cv (.int
  .i64 2), .tv 11] (.bin .mul), I_ 13 [.tv 12, .cv (.int .i64 1)] (.bin .add), I_ 9 [.tk 13] .mv]) (.seq (.seq (.reg false [I_ 14 [.sl 9] .mv, I_ 15 [.sl 2] .mv, I_ 16 [.tv 14, .tv 15] (.bin .geq)]) (.cond (.sl 16) (.exit 0)
  .skip)) (.seq (.seq (.reg true [I_ 17 [.sl 9] .mv, I_ 18 [.tv 17, .cv (.int .i64 1)] (.bin .add), I_ 19 [.sl 2] .mv, I_ 20 [.tv 18, .tv 19] (.bin .lss), I_ 21 [.tk 20] .mv, ⟨some 22, [.sl 0], some (21, true), none, .mv⟩, ⟨some
  23, [.sl 3], some (21, true), none, .mv⟩, ⟨some 24, [.sl 9], some (21, true), none, .mv⟩, ⟨some 25, [.tv 23, .tv 24], some (21, true), none, .bin .add⟩, ⟨some 26, [.tv 22, .tv 25], some (21, true), none, .ia 1⟩, ⟨some 27, [.tv
  26], some (21, true), none, .ld .one⟩, ⟨some 28, [.sl 0], some (21, true), none, .mv⟩, ⟨some 29, [.sl 3], some (21, true), none, .mv⟩, ⟨some 30, [.sl 9], some (21, true), none, .mv⟩, ⟨some 31, [.tv 29, .tv 30], some (21, true),
  none, .bin .add⟩, ⟨some 32, [.tv 31, .cv (.int .i64 1)], some (21, true), none, .bin .add⟩, ⟨some 33, [.tv 28, .tv 32], some (21, true), none, .ia 1⟩, ⟨some 34, [.tv 33], some (21, true), none, .ld .one⟩, ⟨some 35, [.cv (.func
  122 [] []), .sl 27, .sl 34], some (21, true), none, .call 3⟩, I_ 36 [.sl 21, .tv 35, .cv (.bool false)] .pick]) (.cond (.sl 36) (.reg false [I_ 37 [.tk 9] .mv, I_ 38 [.tv 37, .cv (.int .i64 1)] (.bin .add), I_ 9 [.tk 38] .mv])
  .skip)) (.seq (.seq (.reg true [I_ 39 [.sl 0] .mv, I_ 40 [.sl 3] .mv, I_ 41 [.sl 8] .mv, I_ 42 [.tv 40, .tv 41] (.bin .add), I_ 43 [.tv 39, .tv 42] (.ia 1), I_ 44 [.tv 43] (.ld .one), I_ 45 [.sl 0] .mv, I_ 46 [.sl 3] .mv, I_ 47
  [.sl 9] .mv, I_ 48 [.tv 46, .tv 47] (.bin .add), I_ 49 [.tv 45, .tv 48] (.ia 1), I_ 50 [.tv 49] (.ld .one), I_ 51 [.cv (.func 122 [] []), .sl 44, .sl 50] (.call 3), I_ 52 [.tv 51] (.un .not)]) (.cond (.sl 52) .ret .skip)) (.seq
  (.reg true [I_ 53 [.sl 0] .mv, I_ 54 [.sl 3] .mv, I_ 55 [.sl 8] .mv, I_ 56 [.tv 54, .tv 55] (.bin .add), I_ 57 [.sl 0] .mv, I_ 58 [.sl 3] .mv, I_ 59 [.sl 9] .mv, I_ 60 [.tv 58, .tv 59] (.bin .add), I_ 61 [.sl 0] .mv, I_ 62 [.sl
  3] .mv, I_ 63 [.sl 9] .mv, I_ 64 [.tv 62, .tv 63] (.bin .add), I_ 65 [.tv 61, .tv 64] (.ia 1), I_ 66 [.tv 65] (.ld .one), I_ 67 [.sl 0] .mv, I_ 68 [.sl 3] .mv, I_ 69 [.sl 8] .mv, I_ 70 [.tv 68, .tv 69] (.bin .add), I_ 71 [.tv
  67, .tv 70] (.ia 1), I_ 72 [.tv 71] (.ld .one), I_ 73 [.tv 53, .tv 56] (.ia 1), ⟨none, [.tk 73, .tk 66], none, none, .st 1⟩, I_ 74 [.tv 57, .tv 60] (.ia 1), ⟨none, [.tk 74, .tk 72], none, none, .st 1⟩]) (.reg false [I_ 75 [.tk
  9] .mv, I_ 8 [.tk 75] .mv])))))))))
theorem lk127 : linkF Go.Proofs.Try.prog ann127 127 = some (rc127, 76, []) := by kernel_rfl
noncomputable def rc128 : RC :=
  .seq (.reg false [I_ 2 [.cv (.int .u64 0)] .mv]) (.seq (.reg false [I_ 3 [.tk 0] .mv, I_ 4 [.tv 3] (.conv .u64), I_ 5 [.cv (.func 115 [] []), .sl 4] (.call 3), I_ 6 [.cv (.int .u64 1), .tv 5] (.bin .shl), I_ 2 [.tk 6] .mv]) .ret)
theorem lk128 : linkF Go.Proofs.Try.prog ann128 128 = some (rc128, 7, [.tmp 2]) := by kernel_rfl
noncomputable def rc129 : RC :=
  .seq (.reg false [I_ 2 [.cv (.int .u64 0)] .mv]) (.seq (.reg true [I_ 3 [.sl 0] .mv, I_ 4 [.sl 3] .nilc, I_ 5 [.tv 4] (.ld .one), I_ 6 [.sl 0] .mv, I_ 7 [.tv 6] .nilc, I_ 8 [.tv 7] (.ld .one), I_ 9 [.tv 8, .cv (.int .u64 13)]
  (.bin .shl), I_ 10 [.tv 5, .tv 9] (.bin .xor), I_ 11 [.sl 3] .nilc, ⟨none, [.tk 11, .tk 10], none, none, .st 1⟩]) (.seq (.reg true [I_ 12 [.sl 0] .mv, I_ 13 [.sl 12] .nilc, I_ 14 [.tv 13] (.ld .one), I_ 15 [.sl 0] .mv, I_ 16
  [.tv 15] .nilc, I_ 17 [.tv 16] (.ld .one), I_ 18 [.tv 17, .cv (.int .u64 7)] (.bin .shr), I_ 19 [.tv 14, .tv 18] (.bin .xor), I_ 20 [.sl 12] .nilc, ⟨none, [.tk 20, .tk 19], none, none, .st 1⟩]) (.seq (.reg true [I_ 21 [.sl 0]
  .mv, I_ 22 [.sl 21] .nilc, I_ 23 [.tv 22] (.ld .one), I_ 24 [.sl 0] .mv, I_ 25 [.tv 24] .nilc, I_ 26 [.tv 25] (.ld .one), I_ 27 [.tv 26, .cv (.int .u64 17)] (.bin .shl), I_ 28 [.tv 23, .tv 27] (.bin .xor), I_ 29 [.sl 21] .nilc,
  ⟨none, [.tk 29, .tk 28], none, none, .st 1⟩]) (.seq (.reg false [I_ 30 [.tk 0] .mv, I_ 31 [.tv 30] .nilc, I_ 32 [.tv 31] (.ld .one), I_ 2 [.tk 32] .mv]) .ret))))
theorem lk129 : linkF Go.Proofs.Try.prog ann129 129 = some (rc129, 33, [.tmp 2]) := by kernel_rfl
noncomputable def rc131 : RC :=
  .seq (.reg false [I_ 10 [.cv (.int .i64 0)] .mv]) (.seq (.reg false [I_ 12 [.sl 0] .mv, I_ 13 [.tk 1] .mv, I_ 14 [.tk 2] .mv, I_ 15 [.sl 4] .mv, I_ 16 [.cv (.func 133 [] []), .tk 12, .tk 13, .tk 14, .tk 15] (.call 1), I_ 11 [.tk
  16] .mv, I_ 17 [.sl 11] (.ext 0), I_ 18 [.tv 11] (.ext 1), I_ 1 [.tk 17] .mv, I_ 2 [.tk 18] .mv]) (.seq (.reg false [I_ 20 [.sl 0] .mv, I_ 21 [.tk 2] .mv, I_ 22 [.tk 3] .mv, I_ 23 [.sl 4] .mv, I_ 24 [.cv (.func 133 [] []), .tk
  20, .tk 21, .tk 22, .tk 23] (.call 1), I_ 19 [.tk 24] .mv, I_ 25 [.sl 19] (.ext 0), I_ 26 [.tv 19] (.ext 1), I_ 2 [.tk 25] .mv, I_ 3 [.tk 26] .mv]) (.seq (.reg false [I_ 28 [.tk 0] .mv, I_ 29 [.tk 1] .mv, I_ 30 [.tk 2] .mv, I_
  31 [.tk 4] .mv, I_ 32 [.cv (.func 133 [] []), .tk 28, .tk 29, .tk 30, .tk 31] (.call 1), I_ 27 [.tk 32] .mv, I_ 33 [.sl 27] (.ext 0), I_ 34 [.tv 27] (.ext 1), I_ 1 [.tk 33] .mv, I_ 2 [.tk 34] .mv]) (.seq (.reg false [I_ 35 [.tk
  2] .mv, I_ 10 [.tk 35] .mv]) .ret))))
theorem lk131 : linkF Go.Proofs.Try.prog ann131 131 = some (rc131, 36, [.tmp 10]) := by kernel_rfl
noncomputable def rc132 : RC :=
  .seq (.reg false [I_ 2 [.cv (.bool false)] .mv]) (.seq (.reg false [I_ 3 [.sl 0] .mv, I_ 4 [.tk 0] .mv, I_ 5 [.tv 3, .tv 4] (.bin .neq), I_ 2 [.tk 5] .mv]) .ret)
theorem lk132 : linkF Go.Proofs.Try.prog ann132 132 = some (rc132, 6, [.tmp 2]) := by kernel_rfl
noncomputable def rc133 : RC :=
  .seq (.reg false [I_ 8 [.cv (.int .i64 0)] .mv, I_ 9 [.cv (.int .i64 0)] .mv]) (.seq (.seq (.reg true [I_ 10 [.sl 0] .mv, I_ 11 [.sl 2] .mv, I_ 12 [.tv 10, .tv 11] (.ia 1), I_ 13 [.tv 12] (.ld .one), I_ 14 [.sl 0] .mv, I_ 15 [.sl
  1] .mv, I_ 16 [.tv 14, .tv 15] (.ia 1), I_ 17 [.tv 16] (.ld .one), I_ 18 [.cv (.func 122 [] []), .sl 13, .sl 17] (.call 3)]) (.cond (.sl 18) (.seq (.reg false [I_ 19 [.tk 3] .mv, I_ 20 [.sl 19] .nilc, I_ 21 [.tv 20] (.ld .one),
  I_ 22 [.tv 21, .cv (.int .i64 1)] (.bin .add), I_ 23 [.tv 19] .nilc, ⟨none, [.tk 23, .tk 22], none, none, .st 1⟩]) (.seq (.reg false [I_ 24 [.tk 2] .mv, I_ 25 [.tk 1] .mv, I_ 8 [.tk 24] .mv, I_ 9 [.tk 25] .mv]) .ret)) .skip))
  (.seq (.reg false [I_ 26 [.tk 1] .mv, I_ 27 [.tk 2] .mv, I_ 8 [.tk 26] .mv, I_ 9 [.tk 27] .mv]) .ret))
theorem lk133 : linkF Go.Proofs.Try.prog ann133 133 = some (rc133, 28, [.tmp 8, .tmp 9]) := by kernel_rfl
end Go.Proofs.Ytlcebaejlnpdeaa.Ab

/-
  Contracts: cmp.Less; slices' insertionSortOrdered.
-/
namespace Go.Proofs.Ytlcebaejlnpdeaa.Ab
open Go
set_option maxRecDepth 20000
set_option maxHeartbeats 4000000
theorem isNaN_ok (x : Int) : PO 132 [I x] (B false) := by
  refine fn_pure hmix lk132 rfl rfl ?_
  unfold rc132
  conv => whnf
  exact ret_pure (.inr rfl) rfl (by rw [decide_eq_false (show ¬ (x ≠ x) from fun h => h rfl)]; rfl)
theorem less_ok (x y : Int) : PO 122 [I x, I y] (B (decide (x < y))) := by
  refine fn_pure hmix lk122 rfl rfl ?_
  unfold rc122
  conv => whnf
  refine ⟨by first | rfl | simp only [List.all_cons, List.all_nil, pu0, pub, pu1, pu2, pu1', pu2', pun, puf, puP, puP', puQ, puQ', Bool.and_true, Bool.and_self], _, isNaN_ok x, ?_⟩
  conv => whnf
  exact ret_pure (.inr rfl) rfl rfl
/-- A list of numbers in an object. -/
def Cd (d : Array Int) : AObj := .cells (d.toList.map I)
def Da (id n : Nat) : AV := .ref id 0 n none 1
theorem cd_get (d : Array Int) (x : Nat) (h : x < d.size) : (d.toList.map I)[x]? = some (I d[x]!) := by
  simp [h]
theorem cd_set (d : Array Int) (x : Nat) (v : Int) : (d.toList.map I).set x (I v) = (d.setIfInBounds x v).toList.map I := by
  simp [List.map_set]
theorem swp_size (d : Array Int) (i j : Nat) : (Sort.swp d i j).size = d.size := by simp [Sort.swp]
theorem rdK {d : Array Int} {n : Nat} (x : Nat) (e : n = x) (h : x < d.size) {K : AV → Prop} (k : K (I d[x]!)) : nthK (d.toList.map I) n K := by
  subst e; exact nthK_of (cd_get d n h) k
theorem wrK {d : Array Int} {n : Nat} {v : Int} (x : Nat) (e : n = x) (h : x < d.size) {K : List AV → Prop} (k : K ((d.setIfInBounds x v).toList.map I)) : updK (d.toList.map I) n (I v) K := by
  subst e; refine updK_of (by simpa using h) ?_; rw [cd_set]; exact k
section
variable {H : List AObj} {id lo : Nat} (hlo : lo ≤ id)
include hlo
theorem insertion_sem (d : Array Int) (a b : Nat) (hd : d.size ≤ 1000) (ha : a ≤ b) (hb : b ≤ d.size) (hH : H[id]? = some (Cd d)) :
    Sem Go.Proofs.Try.prog (.fn 116) [Da id d.size, I a, I b] H lo (.tuple []) (H.set id (Cd (Sort.insertionSort Sort.ltInt d a b))) := by
  have hid := (List.getElem?_eq_some_iff.1 hH).1
  refine fn_sem hmix lk116 rfl ⟨by simp, fun j h1 h2 => by rw [List.getElem?_set_ne (by omega)]⟩ ?_
  unfold rc116
  conv => whnf
  have hbl : Nat.ble lo id = true := Nat.ble_eq_true_of_le hlo
  have gs : ∀ c : AObj, (H.set id c)[id]? = some c := fun c => by rw [List.getElem?_set_self hid]
  have gss : ∀ c e : AObj, ((H.set id c).set id e)[id]? = some e := fun c e => by rw [List.set_set, gs]
  rw [wrapS a (by omega)]
  refine .intro (fun m T H' => ∃ i d', a + 1 ≤ i ∧ (i ≤ b ∨ i = a + 1) ∧ m = b + 1 - i ∧ d'.size = d.size ∧ Sort.insOuter Sort.ltInt a b i d' = Sort.insertionSort Sort.ltInt d a b ∧ T = slots 49 [(0, Da id d.size), (1, I a), (2, I b), (6, I i)] ∧ H' = H.set id (Cd d')) (b - a) ⟨a + 1, d, by omega, .inr rfl, by omega, rfl, rfl, rfl, ?_⟩ ?_
  · obtain ⟨h1, h2⟩ := List.getElem?_eq_some_iff.1 hH
    rw [← h2, List.set_getElem_self]
  rintro m T H' ⟨i, d', hi1, hi2, rfl, hds, he, rfl, rfl⟩
  conv => whnf
  refine dcase (fun h => ?_) (fun h => ?_)
  · conv => whnf
    refine .intro (fun j T H' => ∃ dj : Array Int, j ≤ i ∧ dj.size = d.size ∧ Sort.insInner Sort.ltInt a j dj = Sort.insInner Sort.ltInt a i d' ∧ T = slots 49 [(0, Da id d.size), (1, I a), (2, I b), (6, I i), (7, I j)] ∧ H' = H.set id (Cd dj)) i ⟨d', Nat.le_refl _, hds, rfl, rfl, rfl⟩ ?_
    rintro j T H' ⟨dj, hj, hdj, hej, rfl, rfl⟩
    conv => whnf
    by_cases h3 : (a : Int) < (j : Int)
    · rw [decide_eq_true h3]
      obtain ⟨q, rfl⟩ : ∃ q, j = q + 1 := ⟨j - 1, by omega⟩
      have hw : IntKind.i64.wrap (((q + 1 : Nat) : Int) - 1) = (q : Int) := by rw [wrapI _ (by omega) (by omega)]; omega
      conv => whnf
      refine ⟨by omega, ?_⟩
      conv => whnf
      refine nthK_of (by first | exact gs _ | exact gss _ _ | assumption) ?_
      conv => whnf
      refine rdK (q + 1) (by omega) (by omega) ?_
      conv => whnf
      rw [hw]
      refine ⟨by omega, ?_⟩
      conv => whnf
      refine nthK_of (by first | exact gs _ | exact gss _ _ | assumption) ?_
      conv => whnf
      refine rdK (q) (by omega) (by omega) ?_
      conv => whnf
      refine ⟨by first | rfl | simp only [List.all_cons, List.all_nil, pu0, pub, pu1, pu2, pu1', pu2', pun, puf, puP, puP', puQ, puQ', Bool.and_true, Bool.and_self], _, less_ok dj[q + 1]! dj[q]!, acc0, ?_⟩
      conv => whnf
      by_cases h4 : dj[q + 1]! < dj[q]!
      · rw [decide_eq_true h4]
        conv => whnf
        rw [hw]
        refine ⟨by omega, ?_⟩
        conv => whnf
        refine nthK_of (by first | exact gs _ | exact gss _ _ | assumption) ?_
        conv => whnf
        refine rdK (q) (by omega) (by omega) ?_
        conv => whnf
        refine ⟨by omega, ?_⟩
        conv => whnf
        refine nthK_of (by first | exact gs _ | exact gss _ _ | assumption) ?_
        conv => whnf
        refine rdK (q + 1) (by omega) (by omega) ?_
        conv => whnf
        refine ⟨by omega, ?_⟩
        conv => whnf
        rw [hbl]
        conv => whnf
        refine nthK_of (by first | exact gs _ | exact gss _ _ | assumption) ?_
        conv => whnf
        refine wrK (q + 1) (by omega) (by first | omega | (simp only [Array.size_setIfInBounds]; omega)) ?_
        conv => whnf
        refine ⟨by omega, ?_⟩
        conv => whnf
        rw [hbl]
        conv => whnf
        refine nthK_of (by first | exact gs _ | exact gss _ _ | assumption) ?_
        conv => whnf
        refine wrK (q) (by omega) (by first | omega | (simp only [Array.size_setIfInBounds]; omega)) ?_
        conv => whnf
        refine ⟨q, by omega, Sort.swp dj (q + 1) q, by omega, by rw [swp_size]; exact hdj, ?_, ?_, ?_⟩
        · rw [← hej, Sort.insInner, if_pos (by simp only [Sort.ltInt, Bool.and_eq_true, decide_eq_true_eq]; exact ⟨by omega, h4⟩)]
        · rw [hw]; rfl
        · simp only [List.set_set]; rfl
      · rw [decide_eq_false h4]
        conv => whnf
        have e : Sort.insInner Sort.ltInt a i d' = dj := by
          rw [← hej, Sort.insInner, if_neg (by simp only [Sort.ltInt, Bool.and_eq_true, decide_eq_true_eq]; exact fun hh => h4 hh.2)]
        exact ⟨b + 1 - (i + 1), by omega, i + 1, dj, by omega, by omega, rfl, hdj, by rw [← he, Sort.insOuter.eq_1 _ a b i, if_pos (by omega), e], by rw [← wrapS i (by omega)]; rfl, rfl⟩
    · rw [decide_eq_false h3]
      conv => whnf
      have e : Sort.insInner Sort.ltInt a i d' = dj := by
        rw [← hej]
        cases j with
        | zero => rfl
        | succ q => rw [Sort.insInner, if_neg (by simp only [Bool.and_eq_true, decide_eq_true_eq]; exact fun hh => by omega)]
      exact ⟨b + 1 - (i + 1), by omega, i + 1, dj, by omega, by omega, rfl, hdj, by rw [← he, Sort.insOuter.eq_1 _ a b i, if_pos (by omega), e], by rw [← wrapS i (by omega)]; rfl, rfl⟩
  · conv => whnf
    have e : Sort.insertionSort Sort.ltInt d a b = d' := by
      rw [← he]; unfold Sort.insOuter; rw [if_neg (by omega)]
    rw [e]
    exact ⟨.inl rfl, ⟨by simp, fun j o hj => .inr hj⟩, rfl⟩
end
end Go.Proofs.Ytlcebaejlnpdeaa.Ab

/-
  Contracts: slices' siftDownOrdered, heapSortOrdered.
-/
namespace Go.Proofs.Ytlcebaejlnpdeaa.Ab
open Go
set_option maxRecDepth 20000
set_option maxHeartbeats 4000000
section
variable {H : List AObj} {id lo : Nat} (hlo : lo ≤ id)
include hlo
theorem sift_sem (d : Array Int) (r0 hi first : Nat) (hd : d.size ≤ 1000) (hr : r0 ≤ 1000) (hf : first + hi ≤ d.size) (hH : H[id]? = some (Cd d)) :
    Sem Go.Proofs.Try.prog (.fn 127) [Da id d.size, I r0, I hi, I first] H lo (.tuple []) (H.set id (Cd (Sort.siftDown Sort.ltInt hi first r0 d))) := by
  have hid := (List.getElem?_eq_some_iff.1 hH).1
  refine fn_sem hmix lk127 rfl ⟨by simp, fun j h1 h2 => by rw [List.getElem?_set_ne (by omega)]⟩ ?_
  unfold rc127
  conv => whnf
  have hbl : Nat.ble lo id = true := Nat.ble_eq_true_of_le hlo
  have gs : ∀ c : AObj, (H.set id c)[id]? = some c := fun c => by rw [List.getElem?_set_self hid]
  have gss : ∀ c e : AObj, ((H.set id c).set id e)[id]? = some e := fun c e => by rw [List.set_set, gs]
  refine .intro (fun m T H' => ∃ r d', r ≤ 1000 ∧ m = 1001 - r ∧ d'.size = d.size ∧ Sort.siftDown Sort.ltInt hi first r d' = Sort.siftDown Sort.ltInt hi first r0 d ∧ T = slots 76 [(0, Da id d.size), (2, I hi), (3, I first), (8, I r)] ∧ H' = H.set id (Cd d')) (1001 - r0) ⟨r0, d, hr, rfl, rfl, rfl, rfl, ?_⟩ ?_
  · obtain ⟨h1, h2⟩ := List.getElem?_eq_some_iff.1 hH
    rw [← h2, List.set_getElem_self]
  rintro m T H' ⟨r, d', hr, rfl, hds, he, rfl, rfl⟩
  have w1 : IntKind.i64.wrap (IntKind.i64.wrap (2 * (r : Int)) + 1) = ((2 * r + 1 : Nat) : Int) := by rw [wrapI (2 * (r : Int)) (by omega) (by omega), wrapI _ (by omega) (by omega)]; omega
  conv => whnf
  rw [w1]
  by_cases h : ((hi : Nat) : Int) ≤ ((2 * r + 1 : Nat) : Int)
  · rw [decide_eq_true h]
    conv => whnf
    have e : Sort.siftDown Sort.ltInt hi first r0 d = d' := by
      rw [← he, Sort.siftDown.eq_1, dif_pos (by omega)]
    rw [e]
    exact ⟨.inl rfl, ⟨by simp, fun j o hj => .inr hj⟩, rfl⟩
  · rw [decide_eq_false h]
    have w2 : IntKind.i64.wrap (((2 * r + 1 : Nat) : Int) + 1) = ((2 * r + 2 : Nat) : Int) := by rw [wrapI _ (by omega) (by omega)]; omega
    have w3 : IntKind.i64.wrap ((first : Int) + ((2 * r + 1 : Nat) : Int)) = ((first + (2 * r + 1) : Nat) : Int) := by rw [wrapI _ (by omega) (by omega)]; omega
    have w4 : IntKind.i64.wrap ((first : Int) + ((2 * r + 2 : Nat) : Int)) = ((first + (2 * r + 2) : Nat) : Int) := by rw [wrapI _ (by omega) (by omega)]; omega
    have w5 : IntKind.i64.wrap (((first + (2 * r + 1) : Nat) : Int) + 1) = ((first + (2 * r + 2) : Nat) : Int) := by rw [wrapI _ (by omega) (by omega)]; omega
    have w6 : IntKind.i64.wrap ((first : Int) + (r : Int)) = ((first + r : Nat) : Int) := by rw [wrapI _ (by omega) (by omega)]; omega
    conv => whnf
    rw [w2]
    by_cases h4 : ((2 * r + 2 : Nat) : Int) < (hi : Int)
    · rw [decide_eq_true h4]
      conv => whnf
      rw [w3]
      refine ⟨by omega, ?_⟩
      conv => whnf
      refine nthK_of (by first | exact gs _ | exact gss _ _ | assumption) ?_
      conv => whnf
      refine rdK (first + (2 * r + 1)) (by omega) (by omega) ?_
      conv => whnf
      rw [w3, w5]
      refine ⟨by omega, ?_⟩
      conv => whnf
      refine nthK_of (by first | exact gs _ | exact gss _ _ | assumption) ?_
      conv => whnf
      refine rdK (first + (2 * r + 2)) (by omega) (by omega) ?_
      conv => whnf
      refine ⟨by first | rfl | simp only [List.all_cons, List.all_nil, pu0, pub, pu1, pu2, pu1', pu2', pun, puf, puP, puP', puQ, puQ', Bool.and_true, Bool.and_self], _, less_ok d'[first + (2 * r + 1)]! d'[first + (2 * r + 2)]!, acc0, ?_⟩
      conv => whnf
      by_cases h5 : d'[first + (2 * r + 1)]! < d'[first + (2 * r + 2)]!
      · rw [decide_eq_true h5]
        conv => whnf
        rw [w2]
        conv => whnf
        rw [w6]
        refine ⟨by omega, ?_⟩
        conv => whnf
        refine nthK_of (by first | exact gs _ | exact gss _ _ | assumption) ?_
        conv => whnf
        refine rdK (first + r) (by omega) (by omega) ?_
        conv => whnf
        rw [w4]
        refine ⟨by omega, ?_⟩
        conv => whnf
        refine nthK_of (by first | exact gs _ | exact gss _ _ | assumption) ?_
        conv => whnf
        refine rdK (first + (2 * r + 2)) (by omega) (by omega) ?_
        conv => whnf
        refine ⟨by first | rfl | simp only [List.all_cons, List.all_nil, pu0, pub, pu1, pu2, pu1', pu2', pun, puf, puP, puP', puQ, puQ', Bool.and_true, Bool.and_self], _, less_ok d'[first + r]! d'[first + (2 * r + 2)]!, acc0, ?_⟩
        conv => whnf
        by_cases h6 : d'[first + r]! < d'[first + (2 * r + 2)]!
        · rw [decide_eq_true h6]
          conv => whnf
          rw [w6, w4]
          refine ⟨by omega, ?_⟩
          conv => whnf
          refine nthK_of (by first | exact gs _ | exact gss _ _ | assumption) ?_
          conv => whnf
          refine rdK (first + (2 * r + 2)) (by omega) (by omega) ?_
          conv => whnf
          rw [w6]
          refine ⟨by omega, ?_⟩
          conv => whnf
          refine nthK_of (by first | exact gs _ | exact gss _ _ | assumption) ?_
          conv => whnf
          refine rdK (first + r) (by omega) (by omega) ?_
          conv => whnf
          refine ⟨by omega, ?_⟩
          conv => whnf
          rw [hbl]
          conv => whnf
          refine nthK_of (by first | exact gs _ | exact gss _ _ | assumption) ?_
          conv => whnf
          refine wrK (first + r) (by omega) (by first | omega | (simp only [Array.size_setIfInBounds]; omega)) ?_
          conv => whnf
          refine ⟨by omega, ?_⟩
          conv => whnf
          rw [hbl]
          conv => whnf
          refine nthK_of (by first | exact gs _ | exact gss _ _ | assumption) ?_
          conv => whnf
          refine wrK (first + (2 * r + 2)) (by omega) (by first | omega | (simp only [Array.size_setIfInBounds]; omega)) ?_
          conv => whnf
          refine ⟨1001 - (2 * r + 2), by omega, 2 * r + 2, Sort.swp d' (first + r) (first + (2 * r + 2)), by omega, rfl, by rw [swp_size]; exact hds, ?_, rfl, ?_⟩
          · rw [← he]
            conv => rhs; rw [Sort.siftDown.eq_1, dif_neg (by omega)]
            rw [if_pos (by simp only [Sort.ltInt, Bool.and_eq_true, decide_eq_true_eq]; exact ⟨by omega, h5⟩)]
            have hl : Sort.ltInt d'[first + r]! d'[first + (2 * r + 2)]! = true := decide_eq_true h6
            rw [hl]
            first
              | rfl
              | (rw [if_neg (by decide)]; done)
              | (rw [if_neg (by decide), dif_pos (by omega)]; done)
          · simp only [List.set_set]; rfl
        · rw [decide_eq_false h6]
          conv => whnf
          have e : Sort.siftDown Sort.ltInt hi first r0 d = d' := by
            rw [← he, Sort.siftDown.eq_1, dif_neg (by omega)]
            rw [if_pos (by simp only [Sort.ltInt, Bool.and_eq_true, decide_eq_true_eq]; exact ⟨by omega, h5⟩)]
            have hl : Sort.ltInt d'[first + r]! d'[first + (2 * r + 2)]! = false := decide_eq_false h6
            rw [hl]
            rfl
          rw [e]
          exact ⟨.inr rfl, ⟨by simp, fun j o hj => .inr hj⟩, rfl⟩
      · rw [decide_eq_false h5]
        conv => whnf
        rw [w6]
        refine ⟨by omega, ?_⟩
        conv => whnf
        refine nthK_of (by first | exact gs _ | exact gss _ _ | assumption) ?_
        conv => whnf
        refine rdK (first + r) (by omega) (by omega) ?_
        conv => whnf
        rw [w3]
        refine ⟨by omega, ?_⟩
        conv => whnf
        refine nthK_of (by first | exact gs _ | exact gss _ _ | assumption) ?_
        conv => whnf
        refine rdK (first + (2 * r + 1)) (by omega) (by omega) ?_
        conv => whnf
        refine ⟨by first | rfl | simp only [List.all_cons, List.all_nil, pu0, pub, pu1, pu2, pu1', pu2', pun, puf, puP, puP', puQ, puQ', Bool.and_true, Bool.and_self], _, less_ok d'[first + r]! d'[first + (2 * r + 1)]!, acc0, ?_⟩
        conv => whnf
        by_cases h6 : d'[first + r]! < d'[first + (2 * r + 1)]!
        · rw [decide_eq_true h6]
          conv => whnf
          rw [w6, w3]
          refine ⟨by omega, ?_⟩
          conv => whnf
          refine nthK_of (by first | exact gs _ | exact gss _ _ | assumption) ?_
          conv => whnf
          refine rdK (first + (2 * r + 1)) (by omega) (by omega) ?_
          conv => whnf
          rw [w6]
          refine ⟨by omega, ?_⟩
          conv => whnf
          refine nthK_of (by first | exact gs _ | exact gss _ _ | assumption) ?_
          conv => whnf
          refine rdK (first + r) (by omega) (by omega) ?_
          conv => whnf
          refine ⟨by omega, ?_⟩
          conv => whnf
          rw [hbl]
          conv => whnf
          refine nthK_of (by first | exact gs _ | exact gss _ _ | assumption) ?_
          conv => whnf
          refine wrK (first + r) (by omega) (by first | omega | (simp only [Array.size_setIfInBounds]; omega)) ?_
          conv => whnf
          refine ⟨by omega, ?_⟩
          conv => whnf
          rw [hbl]
          conv => whnf
          refine nthK_of (by first | exact gs _ | exact gss _ _ | assumption) ?_
          conv => whnf
          refine wrK (first + (2 * r + 1)) (by omega) (by first | omega | (simp only [Array.size_setIfInBounds]; omega)) ?_
          conv => whnf
          refine ⟨1001 - (2 * r + 1), by omega, 2 * r + 1, Sort.swp d' (first + r) (first + (2 * r + 1)), by omega, rfl, by rw [swp_size]; exact hds, ?_, rfl, ?_⟩
          · rw [← he]
            conv => rhs; rw [Sort.siftDown.eq_1, dif_neg (by omega)]
            rw [if_neg (by simp only [Sort.ltInt, Bool.and_eq_true, decide_eq_true_eq]; exact fun hh => h5 hh.2)]
            have hl : Sort.ltInt d'[first + r]! d'[first + (2 * r + 1)]! = true := decide_eq_true h6
            rw [hl]
            first
              | rfl
              | (rw [if_neg (by decide)]; done)
              | (rw [if_neg (by decide), dif_pos (by omega)]; done)
          · simp only [List.set_set]; rfl
        · rw [decide_eq_false h6]
          conv => whnf
          have e : Sort.siftDown Sort.ltInt hi first r0 d = d' := by
            rw [← he, Sort.siftDown.eq_1, dif_neg (by omega)]
            rw [if_neg (by simp only [Sort.ltInt, Bool.and_eq_true, decide_eq_true_eq]; exact fun hh => h5 hh.2)]
            have hl : Sort.ltInt d'[first + r]! d'[first + (2 * r + 1)]! = false := decide_eq_false h6
            rw [hl]
            rfl
          rw [e]
          exact ⟨.inr rfl, ⟨by simp, fun j o hj => .inr hj⟩, rfl⟩
    · rw [decide_eq_false h4]
      conv => whnf
      rw [w6]
      refine ⟨by omega, ?_⟩
      conv => whnf
      refine nthK_of (by first | exact gs _ | exact gss _ _ | assumption) ?_
      conv => whnf
      refine rdK (first + r) (by omega) (by omega) ?_
      conv => whnf
      rw [w3]
      refine ⟨by omega, ?_⟩
      conv => whnf
      refine nthK_of (by first | exact gs _ | exact gss _ _ | assumption) ?_
      conv => whnf
      refine rdK (first + (2 * r + 1)) (by omega) (by omega) ?_
      conv => whnf
      refine ⟨by first | rfl | simp only [List.all_cons, List.all_nil, pu0, pub, pu1, pu2, pu1', pu2', pun, puf, puP, puP', puQ, puQ', Bool.and_true, Bool.and_self], _, less_ok d'[first + r]! d'[first + (2 * r + 1)]!, acc0, ?_⟩
      conv => whnf
      by_cases h6 : d'[first + r]! < d'[first + (2 * r + 1)]!
      · rw [decide_eq_true h6]
        conv => whnf
        rw [w6, w3]
        refine ⟨by omega, ?_⟩
        conv => whnf
        refine nthK_of (by first | exact gs _ | exact gss _ _ | assumption) ?_
        conv => whnf
        refine rdK (first + (2 * r + 1)) (by omega) (by omega) ?_
        conv => whnf
        rw [w6]
        refine ⟨by omega, ?_⟩
        conv => whnf
        refine nthK_of (by first | exact gs _ | exact gss _ _ | assumption) ?_
        conv => whnf
        refine rdK (first + r) (by omega) (by omega) ?_
        conv => whnf
        refine ⟨by omega, ?_⟩
        conv => whnf
        rw [hbl]
        conv => whnf
        refine nthK_of (by first | exact gs _ | exact gss _ _ | assumption) ?_
        conv => whnf
        refine wrK (first + r) (by omega) (by first | omega | (simp only [Array.size_setIfInBounds]; omega)) ?_
        conv => whnf
        refine ⟨by omega, ?_⟩
        conv => whnf
        rw [hbl]
        conv => whnf
        refine nthK_of (by first | exact gs _ | exact gss _ _ | assumption) ?_
        conv => whnf
        refine wrK (first + (2 * r + 1)) (by omega) (by first | omega | (simp only [Array.size_setIfInBounds]; omega)) ?_
        conv => whnf
        refine ⟨1001 - (2 * r + 1), by omega, 2 * r + 1, Sort.swp d' (first + r) (first + (2 * r + 1)), by omega, rfl, by rw [swp_size]; exact hds, ?_, rfl, ?_⟩
        · rw [← he]
          conv => rhs; rw [Sort.siftDown.eq_1, dif_neg (by omega)]
          rw [if_neg (by simp only [Bool.and_eq_true, decide_eq_true_eq]; exact fun hh => by omega)]
          have hl : Sort.ltInt d'[first + r]! d'[first + (2 * r + 1)]! = true := decide_eq_true h6
          rw [hl]
          first
            | rfl
            | (rw [if_neg (by decide)]; done)
            | (rw [if_neg (by decide), dif_pos (by omega)]; done)
        · simp only [List.set_set]; rfl
      · rw [decide_eq_false h6]
        conv => whnf
        have e : Sort.siftDown Sort.ltInt hi first r0 d = d' := by
          rw [← he, Sort.siftDown.eq_1, dif_neg (by omega)]
          rw [if_neg (by simp only [Bool.and_eq_true, decide_eq_true_eq]; exact fun hh => by omega)]
          have hl : Sort.ltInt d'[first + r]! d'[first + (2 * r + 1)]! = false := decide_eq_false h6
          rw [hl]
          rfl
        rw [e]
        exact ⟨.inr rfl, ⟨by simp, fun j o hj => .inr hj⟩, rfl⟩
end
end Go.Proofs.Ytlcebaejlnpdeaa.Ab

/-
  Contracts: slices' heapSortOrdered.
-/
namespace Go.Proofs.Ytlcebaejlnpdeaa.Ab
open Go
set_option maxRecDepth 20000
set_option maxHeartbeats 4000000
theorem sift_size (lt : Int → Int → Bool) (hi first : Nat) : ∀ (n root : Nat) (d : Array Int), hi - root ≤ n → (Sort.siftDown lt hi first root d).size = d.size
  | 0, root, d, h => by rw [Sort.siftDown.eq_1, dif_pos (by omega)]
  | n + 1, root, d, h => by
    rw [Sort.siftDown.eq_1]
    split
    · rfl
    · split
      · split
        · rfl
        · split
          · rw [sift_size lt hi first n _ _ (by omega), swp_size]
          · rfl
      · split
        · rfl
        · rw [sift_size lt hi first n _ _ (by omega), swp_size]
theorem sift_sz (lt : Int → Int → Bool) (hi first root : Nat) (d : Array Int) : (Sort.siftDown lt hi first root d).size = d.size := sift_size lt hi first _ root d (Nat.le_refl _)
section
variable {H : List AObj} {id lo : Nat} (hlo : lo ≤ id)
include hlo
theorem heap_sem (d : Array Int) (a b : Nat) (hd : d.size ≤ 1000) (ha : a ≤ b) (hb : b ≤ d.size) (hH : H[id]? = some (Cd d)) :
    Sem Go.Proofs.Try.prog (.fn 117) [Da id d.size, I a, I b] H lo (.tuple []) (H.set id (Cd (Sort.heapSort Sort.ltInt d a b))) := by
  have hid := (List.getElem?_eq_some_iff.1 hH).1
  refine fn_sem hmix lk117 rfl ⟨by simp, fun j h1 h2 => by rw [List.getElem?_set_ne (by omega)]⟩ ?_
  unfold rc117
  conv => whnf
  have hbl : Nat.ble lo id = true := Nat.ble_eq_true_of_le hlo
  have gs : ∀ c : AObj, (H.set id c)[id]? = some c := fun c => by rw [List.getElem?_set_self hid]
  have gss : ∀ c e : AObj, ((H.set id c).set id e)[id]? = some e := fun c e => by rw [List.set_set, gs]
  have w0 : IntKind.i64.wrap ((b : Int) - (a : Int)) = ((b - a : Nat) : Int) := by rw [wrapI _ (by omega) (by omega)]; omega
  have w1 : (IntKind.i64.wrap (((b - a : Nat) : Int) - 1)).tdiv 2 = ((((b - a - 1) / 2 + 1 : Nat) : Int) - 1) := by
    rw [wrapI _ (by omega) (by omega)]
    by_cases hz : b - a = 0
    · rw [hz]; rfl
    · rw [show ((b - a : Nat) : Int) - 1 = ((b - a - 1 : Nat) : Int) by omega, show ((b - a - 1 : Nat) : Int).tdiv 2 = (((b - a - 1) / 2 : Nat) : Int) from rfl]; omega
  rw [w0]
  refine ⟨by decide, ?_⟩
  conv => whnf
  rw [w1, wrapI _ (by omega) (by omega)]
  refine .intro (fun k T H' => ∃ d', k ≤ 1000 ∧ d'.size = d.size ∧ Sort.heapBuild Sort.ltInt (b - a) a k d' = Sort.heapBuild Sort.ltInt (b - a) a ((b - a - 1) / 2 + 1) d ∧ T = slots 56 [(0, Da id d.size), (6, I a), (7, I (0 : Nat)), (8, I (b - a : Nat)), (9, I ((k : Int) - 1))] ∧ H' = H.set id (Cd d')) ((b - a - 1) / 2 + 1) ⟨d, by omega, rfl, rfl, rfl, ?_⟩ ?_
  · obtain ⟨h1, h2⟩ := List.getElem?_eq_some_iff.1 hH
    rw [← h2, List.set_getElem_self]
  rintro k T H' ⟨d', hk, hds, he, rfl, rfl⟩
  conv => whnf
  by_cases h : (0 : Int) ≤ (k : Int) - 1
  · rw [decide_eq_true h]
    obtain ⟨q, rfl⟩ : ∃ q, k = q + 1 := ⟨k - 1, by omega⟩
    have wq : ((q + 1 : Nat) : Int) - 1 = (q : Int) := by omega
    rw [wq]
    conv => whnf
    refine ⟨_, _, call1 (by rw [← hds]; exact sift_sem hlo d' q (b - a) a (by omega) (by omega) (by omega) (gs _)), ?_⟩
    conv => whnf
    refine ⟨q, by omega, Sort.siftDown Sort.ltInt (b - a) a q d', by omega, by rw [sift_sz]; exact hds, by rw [← he]; rfl, ?_, by rw [List.set_set]⟩
    rw [wrapI _ (by omega) (by omega)]; rfl
  · rw [decide_eq_false h]
    obtain rfl : k = 0 := by omega
    rw [Sort.heapBuild] at he
    conv => whnf
    have w2 : IntKind.i64.wrap (((b - a : Nat) : Int) - 1) = ((b - a : Nat) : Int) - 1 := wrapI _ (by omega) (by omega)
    rw [w2]
    have hres : Sort.heapSort Sort.ltInt d a b = Sort.heapPop Sort.ltInt a (b - a) d' := by rw [he]; rfl
    rw [hres]
    refine .intro (fun k T H' => ∃ e, k ≤ b - a ∧ e.size = d.size ∧ Sort.heapPop Sort.ltInt a k e = Sort.heapPop Sort.ltInt a (b - a) d' ∧ T = slots 56 [(0, Da id d.size), (6, I a), (7, I (0 : Nat)), (10, I ((k : Int) - 1))] ∧ H' = H.set id (Cd e)) (b - a) ⟨d', by omega, hds, rfl, rfl, rfl⟩ ?_
    rintro k T H' ⟨e, hk, hes, hee, rfl, rfl⟩
    conv => whnf
    by_cases h : (0 : Int) ≤ (k : Int) - 1
    · rw [decide_eq_true h]
      obtain ⟨q, rfl⟩ : ∃ q, k = q + 1 := ⟨k - 1, by omega⟩
      have wq : ((q + 1 : Nat) : Int) - 1 = (q : Int) := by omega
      have w3 : IntKind.i64.wrap ((a : Int) + (q : Int)) = ((a + q : Nat) : Int) := by rw [wrapI _ (by omega) (by omega)]; omega
      rw [wq]
      conv => whnf
      rw [w3]
      refine ⟨by omega, ?_⟩
      conv => whnf
      refine nthK_of (by first | exact gs _ | exact gss _ _ | assumption) ?_
      conv => whnf
      refine rdK (a + q) (by omega) (by omega) ?_
      conv => whnf
      refine ⟨by omega, ?_⟩
      conv => whnf
      refine nthK_of (by first | exact gs _ | exact gss _ _ | assumption) ?_
      conv => whnf
      refine rdK (a) (by omega) (by omega) ?_
      conv => whnf
      refine ⟨by omega, ?_⟩
      conv => whnf
      rw [hbl]
      conv => whnf
      refine nthK_of (by first | exact gs _ | exact gss _ _ | assumption) ?_
      conv => whnf
      refine wrK (a) (by omega) (by first | omega | (simp only [Array.size_setIfInBounds]; omega)) ?_
      conv => whnf
      refine ⟨by omega, ?_⟩
      conv => whnf
      rw [hbl]
      conv => whnf
      refine nthK_of (by first | exact gs _ | exact gss _ _ | assumption) ?_
      conv => whnf
      refine wrK (a + q) (by omega) (by first | omega | (simp only [Array.size_setIfInBounds]; omega)) ?_
      conv => whnf
      simp only [List.set_set]
      refine ⟨_, _, call1 (by rw [show d.size = (Sort.swp e a (a + q)).size by rw [swp_size]; exact hes.symm]; exact sift_sem hlo (Sort.swp e a (a + q)) 0 q a (by rw [swp_size]; omega) (by omega) (by rw [swp_size]; omega) (gs _)), ?_⟩
      conv => whnf
      refine ⟨q, by omega, Sort.siftDown Sort.ltInt q a 0 (Sort.swp e a (a + q)), by omega, by rw [sift_sz, swp_size]; exact hes, by rw [← hee]; rfl, ?_, by rw [List.set_set]⟩
      rw [wrapI _ (by omega) (by omega)]; rfl
    · rw [decide_eq_false h]
      obtain rfl : k = 0 := by omega
      rw [Sort.heapPop] at hee
      conv => whnf
      rw [← hee]
      exact ⟨.inl rfl, ⟨by simp, fun j o hj => .inr hj⟩, rfl⟩
end
end Go.Proofs.Ytlcebaejlnpdeaa.Ab

/-
  Contracts: slices' reverseRangeOrdered, partialInsertionSortOrdered (of fewer than 50).
-/
namespace Go.Proofs.Ytlcebaejlnpdeaa.Ab
open Go
set_option maxRecDepth 20000
set_option maxHeartbeats 4000000
section
variable {H : List AObj} {id lo : Nat} (hlo : lo ≤ id)
include hlo
theorem revRange_sem (d : Array Int) (a b : Nat) (hd : d.size ≤ 1000) (ha : a < b) (hb : b ≤ d.size) (hH : H[id]? = some (Cd d)) :
    Sem Go.Proofs.Try.prog (.fn 120) [Da id d.size, I a, I b] H lo (.tuple []) (H.set id (Cd (Sort.reverseRange d a b))) := by
  have hid := (List.getElem?_eq_some_iff.1 hH).1
  refine fn_sem hmix lk120 rfl ⟨by simp, fun j h1 h2 => by rw [List.getElem?_set_ne (by omega)]⟩ ?_
  unfold rc120
  conv => whnf
  have hbl : Nat.ble lo id = true := Nat.ble_eq_true_of_le hlo
  have gs : ∀ c : AObj, (H.set id c)[id]? = some c := fun c => by rw [List.getElem?_set_self hid]
  have gss : ∀ c e : AObj, ((H.set id c).set id e)[id]? = some e := fun c e => by rw [List.set_set, gs]
  rw [show IntKind.i64.wrap ((b : Int) - 1) = ((b - 1 : Nat) : Int) by rw [wrapI _ (by omega) (by omega)]; omega]
  refine .intro (fun m T H' => ∃ i j d', m = j - i ∧ j < d.size ∧ i ≤ j + 1 ∧ d'.size = d.size ∧ Sort.reverseLoop i j d' = Sort.reverseRange d a b ∧ T = slots 32 [(0, Da id d.size), (6, I (i : Nat)), (7, I (j : Nat))] ∧ H' = H.set id (Cd d')) (b - 1 - a) ⟨a, b - 1, d, rfl, by omega, by omega, rfl, rfl, rfl, ?_⟩ ?_
  · obtain ⟨h1, h2⟩ := List.getElem?_eq_some_iff.1 hH
    rw [← h2, List.set_getElem_self]
  rintro m T H' ⟨i, j, d', rfl, hj, hij, hds, he, rfl, rfl⟩
  conv => whnf
  by_cases h : (i : Int) < (j : Int)
  · rw [decide_eq_true h]
    conv => whnf
    refine ⟨by omega, ?_⟩
    conv => whnf
    refine nthK_of (by first | exact gs _ | exact gss _ _ | assumption) ?_
    conv => whnf
    refine rdK (j) (by omega) (by omega) ?_
    conv => whnf
    refine ⟨by omega, ?_⟩
    conv => whnf
    refine nthK_of (by first | exact gs _ | exact gss _ _ | assumption) ?_
    conv => whnf
    refine rdK (i) (by omega) (by omega) ?_
    conv => whnf
    refine ⟨by omega, ?_⟩
    conv => whnf
    rw [hbl]
    conv => whnf
    refine nthK_of (by first | exact gs _ | exact gss _ _ | assumption) ?_
    conv => whnf
    refine wrK (i) (by omega) (by first | omega | (simp only [Array.size_setIfInBounds]; omega)) ?_
    conv => whnf
    refine ⟨by omega, ?_⟩
    conv => whnf
    rw [hbl]
    conv => whnf
    refine nthK_of (by first | exact gs _ | exact gss _ _ | assumption) ?_
    conv => whnf
    refine wrK (j) (by omega) (by first | omega | (simp only [Array.size_setIfInBounds]; omega)) ?_
    conv => whnf
    refine ⟨j - 1 - (i + 1), by omega, i + 1, j - 1, Sort.swp d' i j, rfl, by omega, by omega, by rw [swp_size]; exact hds, ?_, ?_, ?_⟩
    · rw [← he, Sort.reverseLoop.eq_1 i j, if_pos (by omega)]
    · rw [← wrapS i (by omega), show ((j - 1 : Nat) : Int) = IntKind.i64.wrap ((j : Int) - 1) by rw [wrapI _ (by omega) (by omega)]; omega]; rfl
    · simp only [List.set_set]; rfl
  · rw [decide_eq_false h]
    conv => whnf
    have e : Sort.reverseRange d a b = d' := by rw [← he, Sort.reverseLoop.eq_1, if_neg (by omega)]
    rw [e]
    exact ⟨.inl rfl, ⟨by simp, fun j o hj => .inr hj⟩, rfl⟩
omit hlo in
theorem partial_sem (d : Array Int) (a b : Nat) (hd : d.size ≤ 1000) (ha : a < b) (hb : b ≤ d.size) (h50 : b - a < 50) (hH : H[id]? = some (Cd d)) :
    Sem Go.Proofs.Try.prog (.fn 121) [Da id d.size, I a, I b] H lo (B (Sort.partialInsertionSort Sort.ltInt d a b).2) H ∧ (Sort.partialInsertionSort Sort.ltInt d a b).1 = d := by
  have hid := (List.getElem?_eq_some_iff.1 hH).1
  have hpi : Sort.partialInsertionSort Sort.ltInt d a b = (d, decide (Sort.scanSorted Sort.ltInt d b (a + 1) = b)) := by
    rw [Sort.partialInsertionSort, Sort.partialIns]
    by_cases h : Sort.scanSorted Sort.ltInt d b (a + 1) = b
    · simp [h]
    · simp [h, h50]
  refine ⟨?_, by rw [hpi]⟩
  rw [hpi]
  refine fn_sem hmix lk121 rfl ⟨Nat.le_refl _, fun j h1 h2 => rfl⟩ ?_
  unfold rc121
  conv => whnf
  rw [wrapS a (by omega)]
  refine .intro (fun m T H' => T = slots 133 [(0, Da id d.size), (1, I a), (2, I b), (7, I (a + 1 : Nat)), (8, I (0 : Nat))] ∧ H = H') 0 ⟨rfl, rfl⟩ ?_
  rintro m T H' ⟨rfl, rfl⟩
  conv => whnf
  refine .intro (fun m T H' => ∃ i, a + 1 ≤ i ∧ i ≤ b ∧ m = b - i ∧ Sort.scanSorted Sort.ltInt d b i = Sort.scanSorted Sort.ltInt d b (a + 1) ∧ T = slots 133 [(0, Da id d.size), (1, I a), (2, I b), (7, I (i : Nat)), (8, I (0 : Nat))] ∧ H = H') (b - (a + 1)) ⟨a + 1, Nat.le_refl _, by omega, rfl, rfl, rfl, rfl⟩ ?_
  rintro m T H' ⟨i, hi, hib, rfl, he, rfl, rfl⟩
  have gs : ∀ _ : Unit, H[id]? = some (Cd d) := fun _ => hH
  have gss : ∀ _ _ : Unit, H[id]? = some (Cd d) := fun _ _ => hH
  conv => whnf
  by_cases h : (i : Int) < (b : Int)
  · rw [decide_eq_true h]
    conv => whnf
    refine ⟨by omega, ?_⟩
    conv => whnf
    refine nthK_of hH ?_
    conv => whnf
    refine rdK i (by omega) (by omega) ?_
    conv => whnf
    rw [show IntKind.i64.wrap ((i : Int) - 1) = ((i - 1 : Nat) : Int) by rw [wrapI _ (by omega) (by omega)]; omega]
    refine ⟨by omega, ?_⟩
    conv => whnf
    refine nthK_of hH ?_
    conv => whnf
    refine rdK (i - 1) (by omega) (by omega) ?_
    conv => whnf
    refine ⟨by first | rfl | simp only [List.all_cons, List.all_nil, pu0, pub, pu1, pu2, pu1', pu2', pun, puf, puP, puP', puQ, puQ', Bool.and_true, Bool.and_self], _, less_ok d[i]! d[i - 1]!, acc0, ?_⟩
    conv => whnf
    by_cases h5 : d[i]! < d[i - 1]!
    · rw [decide_eq_true h5]
      conv => whnf
      rw [decide_eq_false (show ¬ (i : Int) = (b : Int) by omega)]
      conv => whnf
      rw [wrapI _ (by omega) (by omega), decide_eq_true (show (b : Int) - (a : Int) < 50 by omega)]
      conv => whnf
      have e : Sort.scanSorted Sort.ltInt d b (a + 1) = i := by
        rw [← he, Sort.scanSorted.eq_1, if_neg (by simp only [Sort.ltInt, Bool.and_eq_true, decide_eq_true_eq, Bool.not_eq_true', decide_eq_false_iff_not]; exact fun hh => hh.2 h5)]
      rw [e, decide_eq_false (by omega)]
      exact ⟨.inr rfl, ⟨by simp, fun j o hj => .inr hj⟩, rfl⟩
    · rw [decide_eq_false h5]
      conv => whnf
      refine ⟨b - (i + 1), by omega, i + 1, by omega, by omega, rfl, ?_, by rw [← wrapS i (by omega)]; rfl, rfl⟩
      rw [← he, Sort.scanSorted.eq_1 _ _ _ i, if_pos (by simp only [Sort.ltInt, Bool.and_eq_true, decide_eq_true_eq, Bool.not_eq_true', decide_eq_false_iff_not]; exact ⟨by omega, h5⟩)]
  · rw [decide_eq_false h]
    obtain rfl : i = b := by omega
    conv => whnf
    rw [decide_eq_true (show (i : Int) = (i : Int) from rfl)]
    conv => whnf
    have e : Sort.scanSorted Sort.ltInt d i (a + 1) = i := by
      rw [← he, Sort.scanSorted.eq_1, if_neg (by simp only [Bool.and_eq_true, decide_eq_true_eq]; exact fun hh => by omega)]
    rw [e, decide_eq_true rfl]
    exact ⟨.inr rfl, ⟨by simp, fun j o hj => .inr hj⟩, rfl⟩
end
end Go.Proofs.Ytlcebaejlnpdeaa.Ab

/-
  Contracts: slices' order2Ordered, medianOrdered, choosePivotOrdered (of fewer than 50).
-/
namespace Go.Proofs.Ytlcebaejlnpdeaa.Ab
open Go
set_option maxRecDepth 20000
set_option maxHeartbeats 4000000
section
variable {H : List AObj} {id lo : Nat}
theorem order2_sem (d : Array Int) (sid a b s : Nat) (hs : lo ≤ sid) (ha : a < d.size) (hb : b < d.size) (hd : d.size ≤ 1000) (hs2 : s ≤ 1000) (hH : H[id]? = some (Cd d)) (hS : H[sid]? = some (.cells [I s])) :
    Sem Go.Proofs.Try.prog (.fn 133) [Da id d.size, I a, I b, .ptr sid 0] H lo (.tuple [I (Sort.order2 Sort.ltInt d a b s).1, I (Sort.order2 Sort.ltInt d a b s).2.1]) (H.set sid (.cells [I (Sort.order2 Sort.ltInt d a b s).2.2])) := by
  have hid := (List.getElem?_eq_some_iff.1 hS).1
  refine fn_sem hmix lk133 rfl ⟨by simp, fun j h1 h2 => by rw [List.getElem?_set_ne (by omega)]⟩ ?_
  unfold rc133
  conv => whnf
  have hbl : Nat.ble lo sid = true := Nat.ble_eq_true_of_le hs
  refine ⟨by omega, ?_⟩
  conv => whnf
  refine nthK_of hH ?_
  conv => whnf
  refine rdK b (by omega) (by omega) ?_
  conv => whnf
  refine ⟨by omega, ?_⟩
  conv => whnf
  refine nthK_of hH ?_
  conv => whnf
  refine rdK a (by omega) (by omega) ?_
  conv => whnf
  refine ⟨by first | rfl | simp only [List.all_cons, List.all_nil, pu0, pub, pu1, pu2, pu1', pu2', pun, puf, puP, puP', puQ, puQ', Bool.and_true, Bool.and_self], _, less_ok d[b]! d[a]!, acc0, ?_⟩
  conv => whnf
  by_cases h : d[b]! < d[a]!
  · have e : Sort.order2 Sort.ltInt d a b s = (b, a, s + 1) := if_pos (decide_eq_true h)
    rw [decide_eq_true h, e]
    conv => whnf
    refine nthK_of hS ?_
    conv => whnf
    rw [hbl]
    conv => whnf
    refine nthK_of hS ?_
    conv => whnf
    rw [wrapS s (by omega)]
    exact ⟨.inr rfl, ⟨by simp, fun j o hj => .inr hj⟩, rfl⟩
  · have e : Sort.order2 Sort.ltInt d a b s = (a, b, s) := if_neg (by simp only [Sort.ltInt, decide_eq_true_eq]; exact h)
    rw [decide_eq_false h, e]
    conv => whnf
    have hH2 : H.set sid (.cells [I s]) = H := by
      obtain ⟨h1, h2⟩ := List.getElem?_eq_some_iff.1 hS
      rw [← h2, List.set_getElem_self]
    exact ⟨.inr rfl, by rw [hH2]; exact ⟨rfl, fun j o hj => .inr hj⟩, rfl⟩
theorem order2_s (d : Array Int) (a b s : Nat) : (Sort.order2 Sort.ltInt d a b s).2.2 ≤ s + 1 ∧ ((Sort.order2 Sort.ltInt d a b s).1 = a ∧ (Sort.order2 Sort.ltInt d a b s).2.1 = b ∨ (Sort.order2 Sort.ltInt d a b s).1 = b ∧ (Sort.order2 Sort.ltInt d a b s).2.1 = a) := by
  unfold Sort.order2; split
  · exact ⟨Nat.le_refl _, .inr ⟨rfl, rfl⟩⟩
  · exact ⟨by simp, .inl ⟨rfl, rfl⟩⟩
theorem median_sem (d : Array Int) (sid a b c s : Nat) (hne : sid ≠ id) (hs : lo ≤ sid) (ha : a < d.size) (hb : b < d.size) (hc : c < d.size) (hd : d.size ≤ 1000) (hs2 : s ≤ 900) (hH : H[id]? = some (Cd d)) (hS : H[sid]? = some (.cells [I s])) :
    Sem Go.Proofs.Try.prog (.fn 131) [Da id d.size, I a, I b, I c, .ptr sid 0] H lo (I (Sort.median Sort.ltInt d a b c s).1) (H.set sid (.cells [I (Sort.median Sort.ltInt d a b c s).2])) := by
  have hid := (List.getElem?_eq_some_iff.1 hS).1
  have hset : ∀ x : Nat, (H.set sid (.cells [I x]))[id]? = some (Cd d) := fun x => by rw [List.getElem?_set_ne hne]; exact hH
  have gs : ∀ x : Nat, (H.set sid (.cells [I x]))[sid]? = some (.cells [I x]) := fun x => by rw [List.getElem?_set_self hid]
  refine fn_sem hmix lk131 rfl ⟨by simp, fun j h1 h2 => by rw [List.getElem?_set_ne (by omega)]⟩ ?_
  unfold rc131
  conv => whnf
  obtain ⟨t1, u1⟩ := order2_s d a b s
  refine ⟨_, _, call1 (order2_sem d sid a b s hs ha hb hd (by omega) hH hS), ?_⟩
  generalize hr1 : Sort.order2 Sort.ltInt d a b s = r1 at t1 u1 ⊢
  conv => whnf
  obtain ⟨t2, u2⟩ := order2_s d r1.2.1 c r1.2.2
  refine ⟨_, _, call1 (order2_sem d sid r1.2.1 c r1.2.2 hs (by omega) hc hd (by omega) (hset _) (gs _)), ?_⟩
  generalize hr2 : Sort.order2 Sort.ltInt d r1.2.1 c r1.2.2 = r2 at t2 u2 ⊢
  rw [List.set_set]
  conv => whnf
  obtain ⟨t3, u3⟩ := order2_s d r1.1 r2.1 r2.2.2
  refine ⟨_, _, call1 (order2_sem d sid r1.1 r2.1 r2.2.2 hs (by omega) (by omega) hd (by omega) (hset _) (gs _)), ?_⟩
  generalize hr3 : Sort.order2 Sort.ltInt d r1.1 r2.1 r2.2.2 = r3 at t3 u3 ⊢
  rw [List.set_set]
  conv => whnf
  have e : Sort.median Sort.ltInt d a b c s = (r3.2.1, r3.2.2) := by unfold Sort.median; simp only [hr1, hr2, hr3]
  rw [e]
  exact ⟨.inr rfl, ⟨by simp, fun j o hj => .inr hj⟩, rfl⟩
def hintI : Sort.Hint → Int
  | .unknown => 0 | .increasing => 1 | .decreasing => 2
theorem fgt_snoc (X : List AObj) (x : AObj) : Fgt (X ++ [x]) (X ++ [.dead]) := by
  refine ⟨by simp, fun j o hj => ?_⟩
  by_cases h : j < X.length
  · rw [List.getElem?_append_left h] at hj ⊢; exact .inr hj
  · rw [List.getElem?_append_right (by omega)] at hj
    obtain ⟨h1, h2⟩ := List.getElem?_eq_some_iff.1 hj
    simp at h1
    simp [show j - X.length = 0 by omega] at h2
    exact .inl h2.symm
theorem pivot_sem (d : Array Int) (a b : Nat) (hlo : lo ≤ id) (hd : d.size ≤ 1000) (ha : a < b) (hb : b ≤ d.size) (h50 : b - a < 50) (hl : lo ≤ H.length) (hH : H[id]? = some (Cd d)) :
    Sem Go.Proofs.Try.prog (.fn 119) [Da id d.size, I a, I b] H lo (.tuple [I (Sort.choosePivot Sort.ltInt d a b).1, I (hintI (Sort.choosePivot Sort.ltInt d a b).2)]) (H ++ [.dead]) := by
  have hid := (List.getElem?_eq_some_iff.1 hH).1
  refine fn_sem hmix lk119 rfl ⟨by simp, fun j h1 h2 => by rw [List.getElem?_append_left h2]⟩ ?_
  unfold rc119
  conv => whnf
  have hH1 : ∀ o : AObj, (H ++ [o])[id]? = some (Cd d) := fun o => by rw [List.getElem?_append_left hid]; exact hH
  have gs : ∀ o : AObj, (H ++ [o])[H.length]? = some o := fun o => by simp
  have w0 : IntKind.i64.wrap ((b : Int) - (a : Int)) = ((b - a : Nat) : Int) := by rw [wrapI _ (by omega) (by omega)]; omega
  have wq : IntKind.i64.wrap (((b - a : Nat) : Int).tdiv 4) = (((b - a) / 4 : Nat) : Int) := by
    rw [show ((b - a : Nat) : Int).tdiv 4 = (((b - a) / 4 : Nat) : Int) from rfl, wrapI _ (by omega) (by omega)]
  have wi : IntKind.i64.wrap ((a : Int) + IntKind.i64.wrap ((((b - a) / 4 : Nat) : Int) * 1)) = ((a + (b - a) / 4 * 1 : Nat) : Int) := by rw [wrapI ((((b - a) / 4 : Nat) : Int) * 1) (by omega) (by omega), wrapI _ (by omega) (by omega)]; omega
  have wj : IntKind.i64.wrap ((a : Int) + IntKind.i64.wrap ((((b - a) / 4 : Nat) : Int) * 2)) = ((a + (b - a) / 4 * 2 : Nat) : Int) := by rw [wrapI ((((b - a) / 4 : Nat) : Int) * 2) (by omega) (by omega), wrapI _ (by omega) (by omega)]; omega
  have wk : IntKind.i64.wrap ((a : Int) + IntKind.i64.wrap ((((b - a) / 4 : Nat) : Int) * 3)) = ((a + (b - a) / 4 * 3 : Nat) : Int) := by rw [wrapI ((((b - a) / 4 : Nat) : Int) * 3) (by omega) (by omega), wrapI _ (by omega) (by omega)]; omega
  rw [w0]
  refine ⟨by decide, ?_⟩
  conv => whnf
  rw [wq, wi]
  refine ⟨by decide, ?_⟩
  conv => whnf
  rw [wq, wj]
  refine ⟨by decide, ?_⟩
  conv => whnf
  rw [wk]
  by_cases h8 : (8 : Int) ≤ ((b - a : Nat) : Int)
  · rw [decide_eq_true h8]
    conv => whnf
    rw [decide_eq_false (show ¬ (50 : Int) ≤ ((b - a : Nat) : Int) by omega)]
    conv => whnf
    refine ⟨_, _, call1 (median_sem d H.length (a + (b - a) / 4 * 1) (a + (b - a) / 4 * 2) (a + (b - a) / 4 * 3) 0 (by omega) hl (by omega) (by omega) (by omega) hd (by omega) (hH1 _) (gs _)), ?_⟩
    have hset : ∀ o e : AObj, ((H ++ [o]).set H.length e) = H ++ [e] := fun o e => by simp
    rw [hset]
    generalize hm : Sort.median Sort.ltInt d (a + (b - a) / 4 * 1) (a + (b - a) / 4 * 2) (a + (b - a) / 4 * 3) 0 = m
    have e : Sort.choosePivot Sort.ltInt d a b = (m.1, if m.2 = 0 then .increasing else if m.2 = 12 then .decreasing else .unknown) := by
      unfold Sort.choosePivot
      simp only [if_pos (show b - a ≥ 8 by omega), if_neg (show ¬ b - a ≥ 50 by omega), hm]
    rw [e]
    conv => whnf
    refine nthK_of (gs _) ?_
    conv => whnf
    by_cases h0 : ((m.2 : Nat) : Int) = 0
    · rw [decide_eq_true h0]
      conv => whnf
      rw [if_pos (show m.2 = 0 by omega)]
      exact ⟨.inr rfl, fgt_snoc _ _, rfl⟩
    · rw [decide_eq_false h0]
      conv => whnf
      rw [if_neg (show ¬ m.2 = 0 by omega)]
      by_cases h1 : ((m.2 : Nat) : Int) = 12
      · rw [decide_eq_true h1]
        conv => whnf
        rw [if_pos (show m.2 = 12 by omega)]
        exact ⟨.inr rfl, fgt_snoc _ _, rfl⟩
      · rw [decide_eq_false h1]
        conv => whnf
        rw [if_neg (show ¬ m.2 = 12 by omega)]
        exact ⟨.inr rfl, fgt_snoc _ _, rfl⟩
  · rw [decide_eq_false h8]
    have e : Sort.choosePivot Sort.ltInt d a b = (a + (b - a) / 4 * 2, .increasing) := by
      unfold Sort.choosePivot
      simp only [if_neg (show ¬ b - a ≥ 8 by omega)]
      rfl
    rw [e]
    conv => whnf
    refine nthK_of (gs _) ?_
    conv => whnf
    exact ⟨.inr rfl, fgt_snoc _ _, rfl⟩
end
end Go.Proofs.Ytlcebaejlnpdeaa.Ab

/-
  A table of closed calls.
-/
namespace Go.Proofs.Ytlcebaejlnpdeaa.Ab
open Go
def capEq : Cap → Cap → Bool
  | .shared, .shared => true
  | .full, .full => true
  | .own a, .own b => Nat.beq a b
  | .uniq a, .uniq b => Nat.beq a b
  | _, _ => false
theorem capEq_ok : ∀ {a b : Cap}, capEq a b = true → a = b := by
  intro a b h
  cases a <;> cases b <;> simp only [capEq, Bool.false_eq_true] at h <;> first | rfl | (rw [Nat.eq_of_beq_eq_true h])
def lEq (f : AV → AV → Bool) : List AV → List AV → Bool
  | [], [] => true
  | a :: l, b :: r => match f a b with
    | true => lEq f l r
    | false => false
  | _, _ => false
theorem lEq_ok {f : AV → AV → Bool} (hf : ∀ a b, f a b = true → a = b) : ∀ {a b : List AV}, lEq f a b = true → a = b
  | [], [], _ => rfl
  | [], _ :: _, h => by simp [lEq] at h
  | _ :: _, [], h => by simp [lEq] at h
  | a :: l, b :: r, h => by
    simp only [lEq] at h
    split at h
    · rename_i hab; rw [hf a b hab, lEq_ok hf h]
    · cases h
/-- Equality of closed values. -/
def avEq : Nat → AV → AV → Bool
  | 0, _, _ => false
  | d + 1, a, b => match a, b with
    | .bool x, .bool y => match x, y with | true, true => true | false, false => true | _, _ => false
    | .int k x, .int q y => match decide (k = q), decide (x = y) with | true, true => true | _, _ => false
    | .nilp, .nilp => true
    | .lptr x, .lptr y => lEq (avEq d) x y
    | .lst x n c, .lst y m e => match lEq (avEq d) x y, Nat.beq n m, capEq c e with | true, true, true => true | _, _, _ => false
    | .func f x y, .func g z w => match Nat.beq f g, lEq (avEq d) x z, lEq (avEq d) y w with | true, true, true => true | _, _, _ => false
    | .agg x, .agg y => lEq (avEq d) x y
    | .tuple x, .tuple y => lEq (avEq d) x y
    | _, _ => false
theorem avEq_ok : ∀ (d : Nat) (a b : AV), avEq d a b = true → a = b
  | 0, _, _, h => by simp [avEq] at h
  | d + 1, a, b, h => by
    have ih := avEq_ok d
    unfold avEq at h
    split at h
    · split at h <;> first | rfl | cases h
    · rename_i k x q y
      split at h
      · rename_i h1 h2; rw [of_decide_eq_true h1, of_decide_eq_true h2]
      · cases h
    · rfl
    · rw [lEq_ok ih h]
    · split at h
      · rename_i h1 h2 h3; rw [lEq_ok ih h1, Nat.eq_of_beq_eq_true h2, capEq_ok h3]
      · cases h
    · split at h
      · rename_i h1 h2 h3; rw [Nat.eq_of_beq_eq_true h1, lEq_ok ih h2, lEq_ok ih h3]
      · cases h
    · rw [lEq_ok ih h]
    · rw [lEq_ok ih h]
    · cases h
/-- An entry: a pure call, or a call that hands out a map. -/
inductive Ent where
  | pure (k : Nat) (args : List AV) (v : AV)
  | map (k : Nat) (args : List AV) (es : List (Nat × AV × AV)) (clock : Nat)
def entOk (P : Program) : Ent → Prop
  | .pure k args v => PureOk P k args v
  | .map k args es clock => ∀ H, Sem P (.fn k) args H H.length (.map H.length) (H ++ [.map es clock])
def look (k : Nat) (args : List AV) (H : List AObj) (lo : Nat) : List Ent → Option (AV × List AObj)
  | [] => none
  | .pure q bs v :: r => match Nat.beq k q with
    | true => match lEq (avEq 20) args bs with
      | true => match H with
        | [] => some (v, [])
        | _ => look k args H lo r
      | false => look k args H lo r
    | false => look k args H lo r
  | .map q bs es clock :: r => match Nat.beq k q with
    | true => match lEq (avEq 20) args bs with
      | true => match Nat.beq lo H.length with
        | true => some (.map H.length, H ++ [.map es clock])
        | false => look k args H lo r
      | false => look k args H lo r
    | false => look k args H lo r
def tabOf (l : List Ent) : CallFn := fun tgt args H lo => match tgt with
  | .fn k => look k args H lo l
  | _ => none
theorem Sem.lo0 {P : Program} {tgt : Tgt} {args : List AV} {r : AV} {H' : List AObj} (h : Sem P tgt args [] 0 r H') (lo : Nat) : Sem P tgt args [] lo r H' :=
  ⟨⟨h.1.1, fun _ _ h => by simp at h⟩, h.2⟩
theorem look_ok {P : Program} {k : Nat} {args : List AV} {H : List AObj} {lo : Nat} {r : AV} {H' : List AObj} : ∀ {l : List Ent}, (∀ e ∈ l, entOk P e) → look k args H lo l = some (r, H') → Sem P (.fn k) args H lo r H'
  | [], _, h => by simp [look] at h
  | .pure q bs v :: l, hl, h => by
    have hrec := look_ok (k := k) (args := args) (H := H) (lo := lo) (r := r) (H' := H') fun e he => hl e (List.mem_cons_of_mem _ he)
    unfold look at h
    split at h
    · rename_i h1
      split at h
      · rename_i h2
        split at h
        · cases h
          have := hl (.pure q bs r) List.mem_cons_self
          rw [Nat.eq_of_beq_eq_true h1, lEq_ok (avEq_ok 20) h2]
          exact this.1.lo0 lo
        · exact hrec h
      · exact hrec h
    · exact hrec h
  | .map q bs es clock :: l, hl, h => by
    have hrec := look_ok (k := k) (args := args) (H := H) (lo := lo) (r := r) (H' := H') fun e he => hl e (List.mem_cons_of_mem _ he)
    unfold look at h
    split at h
    · rename_i h1
      split at h
      · rename_i h2
        split at h
        · rename_i h3
          cases h
          have := hl (.map q bs es clock) List.mem_cons_self
          rw [Nat.eq_of_beq_eq_true h1, lEq_ok (avEq_ok 20) h2, Nat.eq_of_beq_eq_true h3]
          exact this H
        · exact hrec h
      · exact hrec h
    · exact hrec h
theorem tab_sound {P : Program} {l : List Ent} (hl : ∀ e ∈ l, entOk P e) : CSound P (tabOf l) := csound_of fun tgt args H lo r H' h => by
  cases tgt with
  | fn k => exact look_ok hl h
  | yield i => simp [tabOf] at h
/-- Every function's annotations fit. -/
def okFrom (A : FuncId → FAnn) : Nat → List Func → Bool
  | _, [] => true
  | k, f :: r => match f.body with
    | some c => match codeOk (A k) c, f.name == "runtime.NumGoroutine" with
      | true, false => okFrom A (k + 1) r
      | _, _ => false
    | none => okFrom A (k + 1) r
theorem okFrom_ok {A : FuncId → FAnn} : ∀ {l : List Func} {k : Nat}, okFrom A k l = true → ∀ (i : Nat) (f : Func) (c : Code), l[i]? = some f → f.body = some c → codeOk (A (k + i)) c = true ∧ f.name ≠ "runtime.NumGoroutine"
  | [], _, _, i, f, c, h, _ => by simp at h
  | g :: r, k, h, i, f, c, hf, hc => by
    unfold okFrom at h
    cases i with
    | zero =>
      simp at hf; subst hf
      rw [hc] at h
      simp only at h
      split at h
      · rename_i h1 h2; exact ⟨h1, by simpa using h2⟩
      · cases h
    | succ i =>
      have hr : okFrom A (k + 1) r = true := by
        split at h
        · split at h
          · exact h
          · cases h
        · exact h
      have := okFrom_ok hr i f c (by simpa using hf) hc
      rw [show k + (i + 1) = k + 1 + i by omega]; exact this
theorem okAll {P : Program} {A : FuncId → FAnn} (h : okFrom A 0 P.funcs.toList = true) (k : Nat) (f : Func) (c : Code) (hf : P.funcs[k]? = some f) (hc : f.body = some c) : codeOk (A k) c = true ∧ f.name ≠ "runtime.NumGoroutine" := by
  have := okFrom_ok h k f c (by simpa using hf) hc
  rwa [Nat.zero_add] at this
theorem ann_ok : okFrom ann 0 Go.Proofs.Try.prog.funcs.toList = true := by kernel_rfl
/-- A closed call, over no objects. -/
noncomputable def runC (l : List Ent) (k : Nat) (args : List AV) : Option AV := match callF Go.Proofs.Try.prog ann (tabOf l) 300 (.fn k) args [] 0 with
  | some (r, H2) => match frz H2 0 H2.length 0 8 r with
    | some v => match pureD 8 v.settle with
      | true => some v.settle
      | false => none
    | none => none
  | none => none
theorem runC_ok {l : List Ent} (hl : ∀ e ∈ l, entOk Go.Proofs.Try.prog e) {k : Nat} {args : List AV} {v : AV} (h : runC l k args = some v) : PureOk Go.Proofs.Try.prog k args v := by
  unfold runC at h
  split at h
  · rename_i r H2 hc
    split at h
    · rename_i u hf
      split at h
      · rename_i hp
        cases h
        have hs := (callF_sound hmix ann (tab_sound hl) (okAll ann_ok) 300).sem hc
        refine ⟨⟨Low.refl _ _, hs.2.1, fun B ω κ S w xs hH hn hv => CallsIn.mono (hs.2.2 B ω κ S w xs hH hn hv) fun e w' he => ?_⟩, hp⟩
        cases e with
        | returned x =>
          have hpost := post_frz hH (fun id hid => by simp at hid) hf he
          show Post B ω κ S w [] u.settle x w'
          cases u with
          | lst cells len cp =>
            cases cp with
            | uniq z => exact hpost.settle
            | _ => exact hpost
          | _ => exact hpost
        | panicked c => exact he.elim
        | outgrown => exact he.elim
      · cases h
    · cases h
  · cases h
end Go.Proofs.Ytlcebaejlnpdeaa.Ab

/- MADE BY PROGRAM (rc.py): functions, looked up. -/
namespace Go.Proofs.Ytlcebaejlnpdeaa.Ab
open Go
noncomputable def rc118_1 : RC :=
  .reg false [I_ 44 [.tk 10] .mv, I_ 45 [.sl 6] .mv, I_ 46 [.tv 44, .tv 45] (.bin .sub), I_ 10 [.tk 46] .mv]
noncomputable def rc118_2 : RC :=
  .reg true [I_ 47 [.sl 0] .mv, I_ 48 [.sl 9] .mv, I_ 49 [.sl 0] .mv, I_ 50 [.sl 1] .mv, I_ 51 [.sl 10] .mv, I_ 52 [.tv 50, .tv 51] (.bin .add), I_ 53 [.sl 0] .mv, I_ 54 [.sl 1] .mv, I_ 55 [.sl 10] .mv, I_ 56 [.tv 54, .tv 55] (.bin
  .add), I_ 57 [.tv 53, .tv 56] (.ia 1), I_ 58 [.tv 57] (.ld .one), I_ 59 [.sl 0] .mv, I_ 60 [.sl 9] .mv, I_ 61 [.tv 59, .tv 60] (.ia 1), I_ 62 [.tv 61] (.ld .one), I_ 63 [.tv 47, .tv 48] (.ia 1), ⟨none, [.tk 63, .tk 58], none,
  none, .st 1⟩, I_ 64 [.tv 49, .tv 52] (.ia 1), ⟨none, [.tk 64, .tk 62], none, none, .st 1⟩]
noncomputable def rc118_3 : RC :=
  .seq (.block 1 (.seq (.reg false [I_ 36 [.cv (.func 129 [] []), .sl 7] (.call 1), I_ 37 [.sl 8] .mv, I_ 38 [.tv 37, .cv (.int .u64 1)] (.bin .sub), I_ 39 [.tv 36, .tv 38] (.bin .and), I_ 40 [.tv 39] (.conv .i64), I_ 10 [.tk 40]
  .mv]) (.seq (.seq (.reg false [I_ 41 [.sl 10] .mv, I_ 42 [.sl 6] .mv, I_ 43 [.tv 41, .tv 42] (.bin .geq)]) (.cond (.sl 43) rc118_1 .skip)) rc118_2))) (.reg false [I_ 34 [.tk 9] .mv, I_ 35 [.tv 34, .cv (.int .i64 1)] (.bin
  .add), I_ 9 [.tk 35] .mv])
noncomputable def rc118_4 : RC :=
  .seq (.seq (.reg false [I_ 26 [.sl 9] .mv, I_ 27 [.sl 1] .mv, I_ 28 [.sl 6] .mv, I_ 29 [.tv 28, .cv (.int .i64 4)] (.bin .quo), I_ 30 [.tv 29, .cv (.int .i64 2)] (.bin .mul), I_ 31 [.tv 27, .tv 30] (.bin .add), I_ 32 [.tv 31, .cv
  (.int .i64 1)] (.bin .add), I_ 33 [.tv 26, .tv 32] (.bin .leq)]) (.cond (.sl 33) .skip (.exit 0))) rc118_3
noncomputable def rc118_5 : RC :=
  .seq (.reg false [I_ 20 [.sl 1] .mv, I_ 21 [.sl 6] .mv, I_ 22 [.tv 21, .cv (.int .i64 4)] (.bin .quo), I_ 23 [.tv 22, .cv (.int .i64 2)] (.bin .mul), I_ 24 [.tv 20, .tv 23] (.bin .add), I_ 25 [.tv 24, .cv (.int .i64 1)] (.bin
  .sub), I_ 9 [.tk 25] .mv]) (.block 0 (.loop (some [i_,i_,o_,o_,o_,o_,i_,i_,i_,i_,o_,o_,o_,o_,o_,o_,o_,o_,o_,o_,o_,o_,o_,o_,o_,o_,o_,o_,o_,o_,o_,o_,o_,o_,o_,o_,o_,o_,o_,o_,o_,o_,o_,o_,o_,o_,o_,o_,o_,o_,o_,o_,o_,o_,o_,o_,o_,o_,o_,o_,o_,o_,o_,o_,o_]) rc118_4))
noncomputable def rc118_6 : RC :=
  .seq (.reg false [I_ 16 [.sl 6] .mv, I_ 17 [.tv 16] (.conv .u64), I_ 7 [] (.alloc [.int .u64 0]), ⟨none, [.sl 7, .tk 17], none, none, .st 1⟩]) (.seq (.reg false [I_ 18 [.sl 6] .mv, I_ 19 [.cv (.func 128 [] []), .sl 18] (.call 3),
  I_ 8 [.tk 19] .mv]) rc118_5)
noncomputable def rc118 : RC :=
  .seq (.reg false [I_ 11 [.tk 2] .mv, I_ 12 [.sl 1] .mv, I_ 13 [.tv 11, .tv 12] (.bin .sub), I_ 6 [.tk 13] .mv]) (.seq (.reg false [I_ 14 [.sl 6] .mv, I_ 15 [.tv 14, .cv (.int .i64 8)] (.bin .geq)]) (.cond (.sl 15) rc118_6 .skip))
theorem lk118 : linkF Go.Proofs.Try.prog ann118 118 = some (rc118, 65, []) := by kernel_rfl
end Go.Proofs.Ytlcebaejlnpdeaa.Ab

/-
  Contracts: slices' nextPowerOfTwo, xorshift.Next, breakPatternsOrdered.
-/
namespace Go.Proofs.Ytlcebaejlnpdeaa.Ab
open Go
set_option maxRecDepth 20000
set_option maxHeartbeats 4000000
theorem wrapU (n : Int) : IntKind.u64.wrap n = n % 18446744073709551616 := by simp [IntKind.wrap, IntKind.bits, IntKind.signed]
theorem lens_all : ((List.range 32).all fun n => match runC [] 115 [.int .u64 (n : Nat)] with | some v => avEq 3 v (I (Sort.bitsLen n)) | none => false) = true := by kernel_rfl
theorem bitsLen_ok (n : Nat) (h : n < 32) : PO 115 [.int .u64 n] (I (Sort.bitsLen n)) := by
  have := List.all_eq_true.1 lens_all n (List.mem_range.2 h)
  split at this
  · rename_i v hv
    rw [avEq_ok _ _ _ this] at hv
    exact runC_ok (l := []) (by simp) hv
  · cases this
theorem bitsLen_le (n : Nat) (h : n < 32) : Sort.bitsLen n ≤ 5 := by
  have : ∀ n : Fin 32, Sort.bitsLen n.1 ≤ 5 := by decide
  exact this ⟨n, h⟩
theorem pow2_ok (n : Nat) (h : n < 32) : PO 128 [I n] (.int .u64 ((1 <<< Sort.bitsLen n : Nat) : Int)) := by
  refine fn_pure hmix lk128 rfl rfl ?_
  unfold rc128
  conv => whnf
  rw [show IntKind.u64.wrap (n : Int) = (n : Int) by rw [wrapU]; omega]
  refine ⟨by first | rfl | simp only [List.all_cons, List.all_nil, pu0, pub, pu1, pu2, pu1', pu2', pun, puf, puP, puP', puQ, puQ', Bool.and_true, Bool.and_self], _, bitsLen_ok n h, ?_⟩
  conv => whnf
  have hb := bitsLen_le n h
  have e : IntKind.u64.wrap (1 * 2 ^ ((Sort.bitsLen n : Nat) : Int).toNat.min IntKind.u64.bits) = ((1 <<< Sort.bitsLen n : Nat) : Int) := by
    generalize Sort.bitsLen n = m at hb
    have : ∀ m : Fin 6, IntKind.u64.wrap (1 * 2 ^ ((m.1 : Nat) : Int).toNat.min IntKind.u64.bits) = ((1 <<< m.1 : Nat) : Int) := by decide
    exact this ⟨m, by omega⟩
  rw [e]
  refine ⟨by omega, ?_⟩
  conv => whnf
  exact ret_pure (.inr rfl) rfl rfl
theorem u64_xor (a b : UInt64) : IntKind.u64.wrap (((BitVec.ofInt IntKind.u64.bits (a.toNat : Int) ^^^ BitVec.ofInt IntKind.u64.bits (b.toNat : Int)).toNat : Nat) : Int) = ((a ^^^ b).toNat : Int) := by
  have h1 : BitVec.ofInt IntKind.u64.bits (a.toNat : Int) = a.toBitVec := by
    apply BitVec.eq_of_toNat_eq; simp [IntKind.bits]
  have h2 : BitVec.ofInt IntKind.u64.bits (b.toNat : Int) = b.toBitVec := by
    apply BitVec.eq_of_toNat_eq; simp [IntKind.bits]
  rw [h1, h2, wrapU]
  have := (a ^^^ b).toNat_lt
  show ((a ^^^ b).toNat : Int) % 18446744073709551616 = _
  omega
theorem two64 : ((2 ^ 64 : Nat) : Int) = 18446744073709551616 := by decide
theorem u64_shl (a k : UInt64) (m : Nat) (hk : k.toNat = m) (h : m < 64) : IntKind.u64.wrap ((a.toNat : Int) * 2 ^ m) = ((a <<< k).toNat : Int) := by
  subst hk
  rw [wrapU, UInt64.toNat_shiftLeft, Nat.mod_eq_of_lt h, Nat.shiftLeft_eq, Int.natCast_emod, two64, Int.natCast_mul, Int.natCast_pow]
  congr 1
theorem u64_shr (a k : UInt64) (m : Nat) (hk : k.toNat = m) (h : m < 64) : ((a.toNat : Int).fdiv (2 ^ m)) = ((a >>> k).toNat : Int) := by
  subst hk
  rw [UInt64.toNat_shiftRight, Nat.mod_eq_of_lt h, Nat.shiftRight_eq_div_pow]
  rw [Int.fdiv_eq_ediv_of_nonneg _ (Int.pow_nonneg (by decide)), Int.natCast_ediv, Int.natCast_pow]
  congr 1
/-- A region, for any rest. -/
theorem regG {P : Program} {lo : Nat} {d : Bool} {l : List RI} {acc : PAcc} {T : List AV} {H : List AObj} {K : List AV → List AObj → Prop} {G : (List AV → List AObj → Prop) → Prop} (e : ∀ K, G K → regK P lo d l acc T H K) (h : G K) : regK P lo d l acc T H K := e K h
/-- A contract; what is to hold at the end is a word alone (the kernel is spared it). -/
theorem fn_semQ {P : Program} (hmix : P.follows .mixedOrders = true) {k : Nat} {A : FAnn} {rc : RC} {n : Nat} {ts : List RV} (hl : linkF P A k = some (rc, n, ts)) {lo : Nat} {args T : List AV} {H H' : List AObj} (hT : args ++ List.replicate (n - args.length) .junk = T) {v : AV} (hlow : Low lo H H')
    (h : ∀ Q : Ex → List AV → List AObj → Prop, (∀ e T1 H1, (e = .normal ∨ e = .ret) ∧ Fgt H1 H' ∧ (readR H1 T1 ts).map packResults = some v → Q e T1 H1) → wpR P A k lo none rc T H Q) : Sem P (.fn k) args H lo v H' :=
  fn_sem hmix hl hT hlow (h _ fun _ _ _ h => h)
theorem fn_pureQ {P : Program} (hmix : P.follows .mixedOrders = true) {k : Nat} {A : FAnn} {rc : RC} {n : Nat} {ts : List RV} (hl : linkF P A k = some (rc, n, ts)) {args T : List AV} (hT : args ++ List.replicate (n - args.length) .junk = T) {v : AV} (hp : pureD 8 v = true)
    (h : ∀ Q : Ex → List AV → List AObj → Prop, (∀ e T1 H1, Ret ts v e T1 H1 → Q e T1 H1) → wpR P A k 0 none rc T [] Q) : PureOk P k args v :=
  fn_pure hmix hl hT hp (h _ fun _ _ _ h => h)
section
variable {H : List AObj} {lo : Nat}
theorem next_sem (r : UInt64) (sid : Nat) (hs : lo ≤ sid) (hS : H[sid]? = some (.cells [.int .u64 (r.toNat : Nat)])) :
    Sem Go.Proofs.Try.prog (.fn 129) [.ptr sid 0] H lo (.int .u64 ((Sort.xorNext r).toNat : Nat)) (H.set sid (.cells [.int .u64 ((Sort.xorNext r).toNat : Nat)])) := by
  have hid := (List.getElem?_eq_some_iff.1 hS).1
  refine fn_sem hmix lk129 rfl ⟨by simp, fun j h1 h2 => by rw [List.getElem?_set_ne (by omega)]⟩ ?_
  unfold rc129
  conv => whnf
  have hbl : Nat.ble lo sid = true := Nat.ble_eq_true_of_le hs
  have gs : ∀ c : AObj, (H.set sid c)[sid]? = some c := fun c => by rw [List.getElem?_set_self hid]
  have gss : ∀ c e : AObj, ((H.set sid c).set sid e)[sid]? = some e := fun c e => by rw [List.set_set, gs]
  obtain ⟨r1, h1⟩ : ∃ r1, r1 = r ^^^ (r <<< 13) := ⟨_, rfl⟩
  obtain ⟨r2, h2⟩ : ∃ r2, r2 = r1 ^^^ (r1 >>> 7) := ⟨_, rfl⟩
  obtain ⟨r3, h3⟩ : ∃ r3, r3 = r2 ^^^ (r2 <<< 17) := ⟨_, rfl⟩
  have e3 : Sort.xorNext r = r3 := by subst h3 h2 h1; rfl
  rw [e3]
  refine nthK_of (hS) ?_
  conv => whnf
  refine nthK_of (hS) ?_
  conv => whnf
  refine ⟨by decide, ?_⟩
  rw [show IntKind.u64.wrap ((r.toNat : Int) * 2 ^ ((13 : Int).toNat.min IntKind.u64.bits)) = ((r <<< 13).toNat : Int) from u64_shl r 13 13 rfl (by decide)]
  show regK Go.Proofs.Try.prog lo true [I_ 10 [.tv 5, .tv 9] (.bin .xor), I_ 11 [.sl 3] .nilc, ⟨none, [.tk 11, .tk 10], none, none, .st 1⟩] _ _ _ _
  refine regG (G := ?G1) (fun K h => ?e1) ?h1
  case e1 =>
    conv => whnf
    rw [u64_xor, ← h1, hbl]
    conv => whnf
    exact h
  refine nthK_of (hS) ?_
  conv => whnf
  refine nthK_of (gs _) ?_
  conv => whnf
  refine nthK_of (gs _) ?_
  conv => whnf
  refine ⟨by decide, ?_⟩
  rw [show ((r1.toNat : Int).fdiv (2 ^ ((7 : Int).toNat.min IntKind.u64.bits))) = ((r1 >>> 7).toNat : Int) from u64_shr r1 7 7 rfl (by decide)]
  show regK Go.Proofs.Try.prog lo true [I_ 19 [.tv 14, .tv 18] (.bin .xor), I_ 20 [.sl 12] .nilc, ⟨none, [.tk 20, .tk 19], none, none, .st 1⟩] _ _ _ _
  refine regG (G := ?G2) (fun K h => ?e2) ?h2
  case e2 =>
    conv => whnf
    rw [u64_xor, ← h2, hbl]
    conv => whnf
    exact h
  refine nthK_of (gs _) ?_
  conv => whnf
  refine nthK_of (gss _ _) ?_
  conv => whnf
  refine nthK_of (gss _ _) ?_
  conv => whnf
  refine ⟨by decide, ?_⟩
  rw [show IntKind.u64.wrap ((r2.toNat : Int) * 2 ^ ((17 : Int).toNat.min IntKind.u64.bits)) = ((r2 <<< 17).toNat : Int) from u64_shl r2 17 17 rfl (by decide)]
  show regK Go.Proofs.Try.prog lo true [I_ 28 [.tv 23, .tv 27] (.bin .xor), I_ 29 [.sl 21] .nilc, ⟨none, [.tk 29, .tk 28], none, none, .st 1⟩] _ _ _ _
  refine regG (G := ?G3) (fun K h => ?e3) ?h3
  case e3 =>
    conv => whnf
    rw [u64_xor, ← h3, hbl]
    conv => whnf
    exact h
  refine nthK_of (gss _ _) ?_
  conv => whnf
  refine nthK_of (by rw [List.set_set, List.set_set, gs]) ?_
  conv => whnf
  refine ⟨.inr rfl, ?_, rfl⟩
  simp only [List.set_set]
  exact ⟨by simp, fun j o hj => .inr hj⟩
theorem and_bound (x : Nat) (L : Nat) (h8 : 8 ≤ L) (h : L < 32) : (x &&& ((1 <<< Sort.bitsLen L) - 1)) < 2 * L ∧ 1 ≤ 1 <<< Sort.bitsLen L ∧ 1 <<< Sort.bitsLen L ≤ 64 := by
  have key : ∀ n : Fin 32, (8 ≤ n.1 → (1 <<< Sort.bitsLen n.1) - 1 < 2 * n.1) ∧ 1 ≤ 1 <<< Sort.bitsLen n.1 ∧ 1 <<< Sort.bitsLen n.1 ≤ 64 := by decide
  have h1 := key ⟨L, h⟩
  have h2 : (x &&& ((1 <<< Sort.bitsLen L) - 1)) ≤ (1 <<< Sort.bitsLen L) - 1 := Nat.and_le_right
  exact ⟨Nat.lt_of_le_of_lt h2 (h1.1 h8), h1.2⟩
theorem u64_and (x : UInt64) (m : Nat) (h : m < 18446744073709551616) : IntKind.u64.wrap (((BitVec.ofInt IntKind.u64.bits (x.toNat : Int) &&& BitVec.ofInt IntKind.u64.bits (m : Int)).toNat : Nat) : Int) = ((x.toNat &&& m : Nat) : Int) := by
  have h1 : BitVec.ofInt IntKind.u64.bits (x.toNat : Int) = BitVec.ofNat 64 x.toNat := by
    apply BitVec.eq_of_toNat_eq; simp [IntKind.bits]
  have h2 : BitVec.ofInt IntKind.u64.bits (m : Int) = BitVec.ofNat 64 m := by
    apply BitVec.eq_of_toNat_eq; simp [IntKind.bits]
  rw [h1, h2, wrapU]
  have e : (BitVec.ofNat 64 x.toNat &&& BitVec.ofNat 64 m).toNat = x.toNat &&& m := by
    rw [BitVec.toNat_and, BitVec.toNat_ofNat, BitVec.toNat_ofNat, Nat.mod_eq_of_lt (by have := x.toNat_lt; omega), Nat.mod_eq_of_lt (by omega)]
  show ((BitVec.ofNat 64 x.toNat &&& BitVec.ofNat 64 m).toNat : Int) % 18446744073709551616 = _
  rw [e]
  have : x.toNat &&& m ≤ m := Nat.and_le_right
  omega
theorem setLast {α : Type} (X : List α) (y z : α) (n : Nat) (h : X.length = n) : (X ++ [y]).set n z = X ++ [z] := by subst h; simp
theorem getLast0 {α : Type} (X : List α) (y : α) (n : Nat) (h : X.length = n) : (X ++ [y])[n]? = some y := by subst h; simp
theorem setInit {α : Type} (X : List α) (y z : α) (n : Nat) (h : n < X.length) : (X ++ [y]).set n z = X.set n z ++ [y] := List.set_append_left _ _ h
noncomputable def brk (a L M idx : Nat) (d : Array Int) : Nat → UInt64 × Array Int
  | 0 => (UInt64.ofNat L, d)
  | k + 1 => Sort.breakStep a L M (brk a L M idx d k) (idx + k)
theorem brk_size (a L M idx : Nat) (d : Array Int) : ∀ k, (brk a L M idx d k).2.size = d.size
  | 0 => rfl
  | k + 1 => by
    simp only [brk, Sort.breakStep]
    rw [swp_size]; exact brk_size a L M idx d k
theorem idx3 {idx a L k : Nat} (h : idx = a + L / 4 * 2 - 1) (hL : 8 ≤ L) (hk : k ≤ 3) (hc : ¬ ((idx + k : Nat) : Int) ≤ ((a + L / 4 * 2 + 1 : Nat) : Int)) : k = 3 := by omega
theorem idx2 {idx a L k : Nat} (h : idx = a + L / 4 * 2 - 1) (hL : 8 ≤ L) (hc : ((idx + k : Nat) : Int) ≤ ((a + L / 4 * 2 + 1 : Nat) : Int)) : k < 3 := by omega
theorem break_sem (id : Nat) (hlo : lo ≤ id) (d : Array Int) (a b : Nat) (hd : d.size ≤ 1000) (ha : a ≤ b) (hb : b ≤ d.size) (h32 : b - a < 32) (hH : H[id]? = some (Cd d)) :
    Sem Go.Proofs.Try.prog (.fn 118) [Da id d.size, I a, I b] H lo (.tuple []) (H.set id (Cd (Sort.breakPatterns d a b)) ++ if 8 ≤ b - a then [.dead] else []) := by
  have hid := (List.getElem?_eq_some_iff.1 hH).1
  refine fn_semQ hmix lk118 rfl ⟨by simp, fun j h1 h2 => by rw [List.getElem?_append_left (by simp; omega), List.getElem?_set_ne (by omega)]⟩ fun Q hQ => ?_
  unfold rc118
  obtain ⟨c6, g6⟩ : ∃ c, rc118_6 = c := ⟨_, rfl⟩
  rw [g6]
  conv => whnf
  have hbl : Nat.ble lo id = true := Nat.ble_eq_true_of_le hlo
  rw [show IntKind.i64.wrap ((b : Int) - (a : Int)) = ((b - a : Nat) : Int) by rw [wrapI _ (by omega) (by omega)]; omega]
  by_cases h8 : (8 : Int) ≤ ((b - a : Nat) : Int)
  · rw [decide_eq_true h8]
    conv => whnf
    subst g6
    unfold rc118_6
    obtain ⟨c5, g5⟩ : ∃ c, rc118_5 = c := ⟨_, rfl⟩
    rw [g5]
    conv => whnf
    rw [show IntKind.u64.wrap (((b - a : Nat) : Nat) : Int) = ((b - a : Nat) : Int) by rw [wrapU]; omega]
    rw [show Nat.ble lo H.length = true from Nat.ble_eq_true_of_le (by omega)]
    conv => whnf
    refine nthK_of (getLast0 _ _ _ rfl) ?_
    conv => whnf
    rw [setLast _ _ _ _ rfl]
    refine ⟨by first | rfl | simp only [List.all_cons, List.all_nil, pu0, pub, pu1, pu2, pu1', pu2', pun, puf, puP, puP', puQ, puQ', Bool.and_true, Bool.and_self], _, pow2_ok (b - a) h32, ?_⟩
    conv => whnf
    obtain ⟨L, hL⟩ : ∃ L, L = b - a := ⟨_, rfl⟩
    obtain ⟨M, hM⟩ : ∃ M, M = 1 <<< Sort.bitsLen (b - a) := ⟨_, rfl⟩
    have hand := fun x => and_bound x (b - a) (by omega) h32
    rw [← hM] at hand ⊢
    rw [← hL] at hand hQ ⊢
    rw [if_pos (by omega)] at hQ
    have hM1 := (hand 0).2
    have wi : IntKind.i64.wrap (IntKind.i64.wrap ((a : Int) + IntKind.i64.wrap (IntKind.i64.wrap ((L : Int).tdiv 4) * 2)) - 1) = ((a + L / 4 * 2 - 1 : Nat) : Int) := by
      rw [show (L : Int).tdiv 4 = ((L / 4 : Nat) : Int) from rfl, wrapI ((L / 4 : Nat) : Int) (by omega) (by omega), wrapI (((L / 4 : Nat) : Int) * 2) (by omega) (by omega), wrapI ((a : Int) + _) (by omega) (by omega), wrapI _ (by omega) (by omega)]; omega
    have wj : IntKind.i64.wrap (IntKind.i64.wrap ((a : Int) + IntKind.i64.wrap (IntKind.i64.wrap ((L : Int).tdiv 4) * 2)) + 1) = ((a + L / 4 * 2 + 1 : Nat) : Int) := by
      rw [show (L : Int).tdiv 4 = ((L / 4 : Nat) : Int) from rfl, wrapI ((L / 4 : Nat) : Int) (by omega) (by omega), wrapI (((L / 4 : Nat) : Int) * 2) (by omega) (by omega), wrapI ((a : Int) + _) (by omega) (by omega), wrapI _ (by omega) (by omega)]; omega
    conv => whnf
    conv => whnf
    subst g5
    unfold rc118_5
    obtain ⟨c4, g4⟩ : ∃ c, rc118_4 = c := ⟨_, rfl⟩
    rw [g4]
    conv => whnf
    refine ⟨by decide, ?_⟩
    conv => whnf
    rw [wi]
    obtain ⟨idx, hidx⟩ : ∃ i, i = a + L / 4 * 2 - 1 := ⟨_, rfl⟩
    have he : Sort.breakPatterns d a b = (brk a L M idx d 3).2 := by
      rw [Sort.breakPatterns, ← hL, if_pos (by omega), hidx, hM, hL]; rfl
    rw [he] at hQ
    refine .intro (fun m T H' => ∃ k, k ≤ 3 ∧ m = 3 - k ∧ T = slots 65 [(0, Da id d.size), (1, I a), (6, I L), (7, .ptr H.length 0), (8, .int .u64 M), (9, I (idx + k : Nat))] ∧ H' = H.set id (Cd (brk a L M idx d k).2) ++ [.cells [.int .u64 ((brk a L M idx d k).1.toNat : Nat)]]) 3 ⟨0, by omega, rfl, ?_, ?_⟩ ?_
    · rw [← hidx]; rfl
    · obtain ⟨h1, h2⟩ := List.getElem?_eq_some_iff.1 hH
      have e : (UInt64.ofNat L).toNat = L := by simp; omega
      show H ++ [AObj.cells [.int .u64 ((L : Nat) : Int)]] = H.set id (Cd d) ++ [AObj.cells [.int .u64 (((UInt64.ofNat L).toNat : Nat) : Int)]]
      rw [e, ← h2, List.set_getElem_self]
    rintro m T H' ⟨k, hk, rfl, rfl, rfl⟩
    have hsz := brk_size a L M idx d k
    obtain ⟨r, hr⟩ : ∃ r, r = (brk a L M idx d k).1 := ⟨_, rfl⟩
    obtain ⟨dk, hdk⟩ : ∃ r, r = (brk a L M idx d k).2 := ⟨_, rfl⟩
    have hb1 : brk a L M idx d (k + 1) = Sort.breakStep a L M (r, dk) (idx + k) := by rw [hr, hdk]; rfl
    rw [← hr, ← hdk]
    rw [← hdk] at hsz
    have ls : ∀ c : AObj, (H.set id c).length = H.length := fun c => by simp
    subst g4
    unfold rc118_4
    obtain ⟨c3, g3⟩ : ∃ c, rc118_3 = c := ⟨_, rfl⟩
    rw [g3]
    conv => whnf
    refine ⟨by decide, ?_⟩
    conv => whnf
    rw [wj]
    by_cases hc : ((idx + k : Nat) : Int) ≤ ((a + L / 4 * 2 + 1 : Nat) : Int)
    · rw [decide_eq_true hc]
      conv => whnf
      subst g3
      unfold rc118_3
      obtain ⟨c1, g1⟩ : ∃ c, rc118_1 = c := ⟨_, rfl⟩
      rw [g1]
      obtain ⟨c2, g2⟩ : ∃ c, rc118_2 = c := ⟨_, rfl⟩
      rw [g2]
      conv => whnf
      refine ⟨_, _, call1 (next_sem r H.length (by omega) (getLast0 _ _ _ (ls _))), ?_⟩
      rw [setLast _ _ _ _ (ls _)]
      conv => whnf
      obtain ⟨r', hr'⟩ : ∃ x, x = Sort.xorNext r := ⟨_, rfl⟩
      rw [← hr']
      rw [show IntKind.u64.wrap ((M : Int) - 1) = ((M - 1 : Nat) : Int) by rw [wrapU]; omega, u64_and r' (M - 1) (by omega)]
      obtain ⟨o, ho⟩ : ∃ x, x = r'.toNat &&& (M - 1) := ⟨_, rfl⟩
      have hob := (hand r'.toNat).1
      rw [← ho] at hob ⊢
      rw [wrapI (o : Int) (by omega) (by omega)]
      obtain ⟨o', ho'⟩ : ∃ x, x = if o ≥ L then o - L else o := ⟨_, rfl⟩
      have hst : brk a L M idx d (k + 1) = (r', Sort.swp dk (idx + k) (a + o')) := by
        rw [hb1, Sort.breakStep]; simp only [← hr', ← ho, ← ho']
      have hoL : o' < L := by rw [ho']; split <;> omega
      have gs : ∀ c : AObj, (H.set id c ++ [AObj.cells [AV.int IntKind.u64 r'.toNat]])[id]? = some c := fun c => by rw [List.getElem?_append_left (by simp; omega), List.getElem?_set_self hid]
      have gss : ∀ c e : AObj, ((H.set id c ++ [AObj.cells [AV.int IntKind.u64 r'.toNat]]).set id e)[id]? = some e := fun c e => by rw [List.getElem?_set_self (by simp; omega)]
      have wio : IntKind.i64.wrap ((a : Int) + (o' : Int)) = ((a + o' : Nat) : Int) := by rw [wrapI _ (by omega) (by omega)]; omega
      have hk3 := idx2 hidx (by omega) hc
      by_cases hge : (L : Int) ≤ (o : Int)
      all_goals first
        | (rw [decide_eq_true hge]
           conv => whnf
           subst g1
           unfold rc118_1
           conv => whnf
           rw [show IntKind.i64.wrap ((o : Int) - (L : Int)) = (o' : Int) by rw [wrapI _ (by omega) (by omega), ho', if_pos (by omega)]; omega])
        | (rw [decide_eq_false hge]
           conv => whnf
           rw [show (o : Int) = (o' : Int) by rw [ho', if_neg (by omega)]])
      all_goals subst g2
      all_goals unfold rc118_2
      all_goals conv => whnf
      all_goals rw [wio]
      all_goals (
        skip
        refine ⟨by omega, ?_⟩
        conv => whnf
        refine nthK_of (by first | exact gs _ | exact gss _ _ | assumption) ?_
        conv => whnf
        refine rdK (a + o') (by omega) (by omega) ?_
        conv => whnf
        refine ⟨by omega, ?_⟩
        conv => whnf
        refine nthK_of (by first | exact gs _ | exact gss _ _ | assumption) ?_
        conv => whnf
        refine rdK (idx + k) (by omega) (by omega) ?_
        conv => whnf
        refine ⟨by omega, ?_⟩
        conv => whnf
        rw [hbl]
        conv => whnf
        refine nthK_of (by first | exact gs _ | exact gss _ _ | assumption) ?_
        conv => whnf
        refine wrK (idx + k) (by omega) (by first | omega | (simp only [Array.size_setIfInBounds]; omega)) ?_
        conv => whnf
        refine ⟨by omega, ?_⟩
        conv => whnf
        rw [hbl]
        conv => whnf
        refine nthK_of (by first | exact gs _ | exact gss _ _ | assumption) ?_
        conv => whnf
        refine wrK (a + o') (by omega) (by first | omega | (simp only [Array.size_setIfInBounds]; omega)) ?_
        conv => whnf
        refine ⟨3 - (k + 1), by omega, k + 1, by omega, rfl, ?_, ?_⟩
        · rw [wrapS (idx + k) (by omega)]; rfl
        · rw [hst]
          rw [setInit _ _ _ _ (by simp; omega), setInit _ _ _ _ (by simp; omega), List.set_set, List.set_set]
          rfl
      )
    · rw [decide_eq_false hc]
      have hk3 : k = 3 := idx3 hidx (by omega) hk hc
      conv => whnf
      refine hQ _ _ _ ⟨.inl rfl, ?_, rfl⟩
      rw [hdk, hk3]
      exact fgt_snoc _ _
  · rw [decide_eq_false h8]
    conv => whnf
    rw [if_neg (by omega), Sort.breakPatterns, if_neg (by omega)] at hQ
    refine hQ _ _ _ ⟨.inl rfl, ?_, rfl⟩
    obtain ⟨h1, h2⟩ := List.getElem?_eq_some_iff.1 hH
    rw [← h2, List.set_getElem_self, List.append_nil]
    exact ⟨rfl, fun j o hj => .inr hj⟩
end
end Go.Proofs.Ytlcebaejlnpdeaa.Ab

/- MADE BY PROGRAM (rc.py): functions, looked up. -/
namespace Go.Proofs.Ytlcebaejlnpdeaa.Ab
open Go
noncomputable def rc123_1 : RC :=
  .seq (.seq (.reg true [I_ 29 [.sl 9] .mv, I_ 30 [.sl 10] .mv, I_ 31 [.tv 29, .tv 30] (.bin .leq), I_ 32 [.tk 31] .mv, ⟨some 33, [.sl 0], some (32, true), none, .mv⟩, ⟨some 34, [.sl 1], some (32, true), none, .mv⟩, ⟨some 35, [.tv
  33, .tv 34], some (32, true), none, .ia 1⟩, ⟨some 36, [.tv 35], some (32, true), none, .ld .one⟩, ⟨some 37, [.sl 0], some (32, true), none, .mv⟩, ⟨some 38, [.sl 9], some (32, true), none, .mv⟩, ⟨some 39, [.tv 37, .tv 38], some
  (32, true), none, .ia 1⟩, ⟨some 40, [.tv 39], some (32, true), none, .ld .one⟩, ⟨some 41, [.cv (.func 122 [] []), .sl 36, .sl 40], some (32, true), none, .call 3⟩, ⟨some 42, [.tv 41], some (32, true), none, .un .not⟩, I_ 43
  [.sl 32, .tv 42, .cv (.bool false)] .pick]) (.cond (.sl 43) .skip (.exit 2))) (.block 3 (.reg false [I_ 44 [.tk 9] .mv, I_ 45 [.tv 44, .cv (.int .i64 1)] (.bin .add), I_ 9 [.tk 45] .mv]))
noncomputable def rc123_2 : RC :=
  .block 2 (.loop (some [i_,i_,o_,o_,o_,o_,o_,o_,o_,i_,i_,o_,o_,o_,o_,o_,o_,o_,o_,o_,o_,o_,o_,o_,o_,o_,o_,o_,o_,o_,o_,o_,o_,o_,o_,o_,o_,o_,o_,o_,o_,o_,o_,o_,o_,o_,o_,o_,o_,o_,o_,o_,o_,o_,o_,o_,o_,o_,o_,o_,o_,o_,o_,o_,o_,o_,o_,o_,o_,o_,o_,o_,o_,o_,o_,o_,o_,o_,o_,o_,o_,o_,o_,o_]) rc123_1)
noncomputable def rc123_3 : RC :=
  .seq (.seq (.reg true [I_ 46 [.sl 9] .mv, I_ 47 [.sl 10] .mv, I_ 48 [.tv 46, .tv 47] (.bin .leq), I_ 49 [.tk 48] .mv, ⟨some 50, [.sl 0], some (49, true), none, .mv⟩, ⟨some 51, [.sl 1], some (49, true), none, .mv⟩, ⟨some 52, [.tv
  50, .tv 51], some (49, true), none, .ia 1⟩, ⟨some 53, [.tv 52], some (49, true), none, .ld .one⟩, ⟨some 54, [.sl 0], some (49, true), none, .mv⟩, ⟨some 55, [.sl 10], some (49, true), none, .mv⟩, ⟨some 56, [.tv 54, .tv 55], some
  (49, true), none, .ia 1⟩, ⟨some 57, [.tv 56], some (49, true), none, .ld .one⟩, ⟨some 58, [.cv (.func 122 [] []), .sl 53, .sl 57], some (49, true), none, .call 3⟩, I_ 59 [.sl 49, .tv 58, .cv (.bool false)] .pick]) (.cond (.sl
  59) .skip (.exit 4))) (.block 5 (.reg false [I_ 60 [.tk 10] .mv, I_ 61 [.tv 60, .cv (.int .i64 1)] (.bin .sub), I_ 10 [.tk 61] .mv]))
noncomputable def rc123_4 : RC :=
  .block 4 (.loop (some [i_,i_,o_,o_,o_,o_,o_,o_,o_,i_,i_,o_,o_,o_,o_,o_,o_,o_,o_,o_,o_,o_,o_,o_,o_,o_,o_,o_,o_,o_,o_,o_,o_,o_,o_,o_,o_,o_,o_,o_,o_,o_,o_,o_,o_,o_,o_,o_,o_,o_,o_,o_,o_,o_,o_,o_,o_,o_,o_,o_,o_,o_,o_,o_,o_,o_,o_,o_,o_,o_,o_,o_,o_,o_,o_,o_,o_,o_,o_,o_,o_,o_,o_,o_]) rc123_3)
noncomputable def rc123_5 : RC :=
  .seq (.reg false [I_ 79 [.tk 9] .mv, I_ 80 [.tv 79, .cv (.int .i64 1)] (.bin .add), I_ 9 [.tk 80] .mv]) (.reg false [I_ 81 [.tk 10] .mv, I_ 82 [.tv 81, .cv (.int .i64 1)] (.bin .sub), I_ 10 [.tk 82] .mv])
noncomputable def rc123_6 : RC :=
  .seq (.reg true [I_ 65 [.sl 0] .mv, I_ 66 [.sl 9] .mv, I_ 67 [.sl 0] .mv, I_ 68 [.sl 10] .mv, I_ 69 [.sl 0] .mv, I_ 70 [.sl 10] .mv, I_ 71 [.tv 69, .tv 70] (.ia 1), I_ 72 [.tv 71] (.ld .one), I_ 73 [.sl 0] .mv, I_ 74 [.sl 9] .mv,
  I_ 75 [.tv 73, .tv 74] (.ia 1), I_ 76 [.tv 75] (.ld .one), I_ 77 [.tv 65, .tv 66] (.ia 1), ⟨none, [.tk 77, .tk 72], none, none, .st 1⟩, I_ 78 [.tv 67, .tv 68] (.ia 1), ⟨none, [.tk 78, .tk 76], none, none, .st 1⟩]) rc123_5
noncomputable def rc123_7 : RC :=
  .block 0 (.loop (some [i_,i_,o_,o_,o_,o_,o_,o_,o_,i_,i_,o_,o_,o_,o_,o_,o_,o_,o_,o_,o_,o_,o_,o_,o_,o_,o_,o_,o_,o_,o_,o_,o_,o_,o_,o_,o_,o_,o_,o_,o_,o_,o_,o_,o_,o_,o_,o_,o_,o_,o_,o_,o_,o_,o_,o_,o_,o_,o_,o_,o_,o_,o_,o_,o_,o_,o_,o_,o_,o_,o_,o_,o_,o_,o_,o_,o_,o_,o_,o_,o_,o_,o_,o_]) (.block 1 (.seq rc123_2 (.seq rc123_4 (.seq (.seq (.reg false [I_ 62
  [.sl 9] .mv, I_ 63 [.sl 10] .mv, I_ 64 [.tv 62, .tv 63] (.bin .gtr)]) (.cond (.sl 64) (.exit 0) .skip)) rc123_6)))))
noncomputable def rc123_8 : RC :=
  .seq (.reg false [I_ 25 [.sl 1] .mv, I_ 26 [.tv 25, .cv (.int .i64 1)] (.bin .add), I_ 27 [.tk 2] .mv, I_ 28 [.tv 27, .cv (.int .i64 1)] (.bin .sub), I_ 9 [.tk 26] .mv, I_ 10 [.tk 28] .mv]) (.seq rc123_7 (.seq (.reg false [I_ 83
  [.tk 9] .mv, I_ 8 [.tk 83] .mv]) .ret))
noncomputable def rc123_9 : RC :=
  .seq (.reg true [I_ 11 [.sl 0] .mv, I_ 12 [.sl 1] .mv, I_ 13 [.sl 0] .mv, I_ 14 [.sl 3] .mv, I_ 15 [.sl 0] .mv, I_ 16 [.sl 3] .mv, I_ 17 [.tv 15, .tv 16] (.ia 1), I_ 18 [.tv 17] (.ld .one), I_ 19 [.sl 0] .mv, I_ 20 [.sl 1] .mv,
  I_ 21 [.tv 19, .tv 20] (.ia 1), I_ 22 [.tv 21] (.ld .one), I_ 23 [.tv 11, .tv 12] (.ia 1), ⟨none, [.tk 23, .tk 18], none, none, .st 1⟩, I_ 24 [.tv 13, .tv 14] (.ia 1), ⟨none, [.tk 24, .tk 22], none, none, .st 1⟩]) rc123_8
noncomputable def rc123 : RC :=
  .seq (.reg false [I_ 8 [.cv (.int .i64 0)] .mv]) rc123_9
theorem lk123 : linkF Go.Proofs.Try.prog ann123 123 = some (rc123, 84, [.tmp 8]) := by kernel_rfl
noncomputable def rc124_1 : RC :=
  .seq (.seq (.reg true [I_ 30 [.sl 10] .mv, I_ 31 [.sl 11] .mv, I_ 32 [.tv 30, .tv 31] (.bin .leq), I_ 33 [.tk 32] .mv, ⟨some 34, [.sl 0], some (33, true), none, .mv⟩, ⟨some 35, [.sl 10], some (33, true), none, .mv⟩, ⟨some 36,
  [.tv 34, .tv 35], some (33, true), none, .ia 1⟩, ⟨some 37, [.tv 36], some (33, true), none, .ld .one⟩, ⟨some 38, [.sl 0], some (33, true), none, .mv⟩, ⟨some 39, [.sl 1], some (33, true), none, .mv⟩, ⟨some 40, [.tv 38, .tv 39],
  some (33, true), none, .ia 1⟩, ⟨some 41, [.tv 40], some (33, true), none, .ld .one⟩, ⟨some 42, [.cv (.func 122 [] []), .sl 37, .sl 41], some (33, true), none, .call 3⟩, I_ 43 [.sl 33, .tv 42, .cv (.bool false)] .pick]) (.cond
  (.sl 43) .skip (.exit 0))) (.block 1 (.reg false [I_ 44 [.tk 10] .mv, I_ 45 [.tv 44, .cv (.int .i64 1)] (.bin .add), I_ 10 [.tk 45] .mv]))
noncomputable def rc124_2 : RC :=
  .block 0 (.loop (some [i_,i_,o_,o_,o_,o_,o_,o_,o_,o_,i_,i_,o_,o_,o_,o_,o_,o_,o_,o_,o_,o_,o_,o_,o_,o_,o_,o_,o_,o_,o_,o_,o_,o_,o_,o_,o_,o_,o_,o_,o_,o_,o_,o_,o_,o_,o_,o_,o_,o_,o_,o_,o_,o_,o_,o_,o_,o_,o_,o_,o_,o_,o_,o_,o_,o_,o_,o_,o_,o_,o_,o_,o_,o_,o_,o_,o_,o_,o_,o_,o_,o_,o_,o_,o_,o_,o_,o_,o_,o_,o_,o_,o_,o_,o_,o_,o_,o_,o_,o_,o_,o_,o_,o_,o_,o_,o_,o_,o_,o_,o_,o_,o_,o_,o_,o_,o_,o_,o_,o_,o_,o_,o_,o_,o_,o_,o_,o_,o_,o_,o_,o_,o_,o_,o_,o_,o_,o_,o_,o_,o_,o_,o_,o_,o_,o_,o_,o_,o_,o_,o_,o_,o_,o_,o_,o_,o_,o_,o_,o_,o_,o_,o_,o_,o_,o_,o_,o_]) rc124_1)
noncomputable def rc124_3 : RC :=
  .seq (.seq (.reg true [I_ 46 [.sl 10] .mv, I_ 47 [.sl 11] .mv, I_ 48 [.tv 46, .tv 47] (.bin .leq), I_ 49 [.tk 48] .mv, ⟨some 50, [.sl 0], some (49, true), none, .mv⟩, ⟨some 51, [.sl 11], some (49, true), none, .mv⟩, ⟨some 52,
  [.tv 50, .tv 51], some (49, true), none, .ia 1⟩, ⟨some 53, [.tv 52], some (49, true), none, .ld .one⟩, ⟨some 54, [.sl 0], some (49, true), none, .mv⟩, ⟨some 55, [.sl 1], some (49, true), none, .mv⟩, ⟨some 56, [.tv 54, .tv 55],
  some (49, true), none, .ia 1⟩, ⟨some 57, [.tv 56], some (49, true), none, .ld .one⟩, ⟨some 58, [.cv (.func 122 [] []), .sl 53, .sl 57], some (49, true), none, .call 3⟩, ⟨some 59, [.tv 58], some (49, true), none, .un .not⟩, I_
  60 [.sl 49, .tv 59, .cv (.bool false)] .pick]) (.cond (.sl 60) .skip (.exit 2))) (.block 3 (.reg false [I_ 61 [.tk 11] .mv, I_ 62 [.tv 61, .cv (.int .i64 1)] (.bin .sub), I_ 11 [.tk 62] .mv]))
noncomputable def rc124_4 : RC :=
  .block 2 (.loop (some [i_,i_,o_,o_,o_,o_,o_,o_,o_,o_,i_,i_,o_,o_,o_,o_,o_,o_,o_,o_,o_,o_,o_,o_,o_,o_,o_,o_,o_,o_,o_,o_,o_,o_,o_,o_,o_,o_,o_,o_,o_,o_,o_,o_,o_,o_,o_,o_,o_,o_,o_,o_,o_,o_,o_,o_,o_,o_,o_,o_,o_,o_,o_,o_,o_,o_,o_,o_,o_,o_,o_,o_,o_,o_,o_,o_,o_,o_,o_,o_,o_,o_,o_,o_,o_,o_,o_,o_,o_,o_,o_,o_,o_,o_,o_,o_,o_,o_,o_,o_,o_,o_,o_,o_,o_,o_,o_,o_,o_,o_,o_,o_,o_,o_,o_,o_,o_,o_,o_,o_,o_,o_,o_,o_,o_,o_,o_,o_,o_,o_,o_,o_,o_,o_,o_,o_,o_,o_,o_,o_,o_,o_,o_,o_,o_,o_,o_,o_,o_,o_,o_,o_,o_,o_,o_,o_,o_,o_,o_,o_,o_,o_,o_,o_,o_,o_,o_,o_]) rc124_3)
noncomputable def rc124_5 : RC :=
  .seq (.reg true [I_ 66 [.sl 0] .mv, I_ 67 [.sl 11] .mv, I_ 68 [.sl 0] .mv, I_ 69 [.sl 1] .mv, I_ 70 [.sl 0] .mv, I_ 71 [.sl 1] .mv, I_ 72 [.tv 70, .tv 71] (.ia 1), I_ 73 [.tv 72] (.ld .one), I_ 74 [.sl 0] .mv, I_ 75 [.sl 11] .mv,
  I_ 76 [.tv 74, .tv 75] (.ia 1), I_ 77 [.tv 76] (.ld .one), I_ 78 [.tv 66, .tv 67] (.ia 1), ⟨none, [.tk 78, .tk 73], none, none, .st 1⟩, I_ 79 [.tv 68, .tv 69] (.ia 1), ⟨none, [.tk 79, .tk 77], none, none, .st 1⟩]) (.seq (.reg
  false [I_ 80 [.tk 11] .mv, I_ 8 [.tk 80] .mv, I_ 9 [.cv (.bool true)] .mv]) .ret)
noncomputable def rc124_6 : RC :=
  .seq (.seq (.reg true [I_ 99 [.sl 10] .mv, I_ 100 [.sl 11] .mv, I_ 101 [.tv 99, .tv 100] (.bin .leq), I_ 102 [.tk 101] .mv, ⟨some 103, [.sl 0], some (102, true), none, .mv⟩, ⟨some 104, [.sl 10], some (102, true), none, .mv⟩,
  ⟨some 105, [.tv 103, .tv 104], some (102, true), none, .ia 1⟩, ⟨some 106, [.tv 105], some (102, true), none, .ld .one⟩, ⟨some 107, [.sl 0], some (102, true), none, .mv⟩, ⟨some 108, [.sl 1], some (102, true), none, .mv⟩, ⟨some
  109, [.tv 107, .tv 108], some (102, true), none, .ia 1⟩, ⟨some 110, [.tv 109], some (102, true), none, .ld .one⟩, ⟨some 111, [.cv (.func 122 [] []), .sl 106, .sl 110], some (102, true), none, .call 3⟩, I_ 112 [.sl 102, .tv 111,
  .cv (.bool false)] .pick]) (.cond (.sl 112) .skip (.exit 6))) (.block 7 (.reg false [I_ 113 [.tk 10] .mv, I_ 114 [.tv 113, .cv (.int .i64 1)] (.bin .add), I_ 10 [.tk 114] .mv]))
noncomputable def rc124_7 : RC :=
  .block 6 (.loop (some [i_,i_,o_,o_,o_,o_,o_,o_,o_,o_,i_,i_,o_,o_,o_,o_,o_,o_,o_,o_,o_,o_,o_,o_,o_,o_,o_,o_,o_,o_,o_,o_,o_,o_,o_,o_,o_,o_,o_,o_,o_,o_,o_,o_,o_,o_,o_,o_,o_,o_,o_,o_,o_,o_,o_,o_,o_,o_,o_,o_,o_,o_,o_,o_,o_,o_,o_,o_,o_,o_,o_,o_,o_,o_,o_,o_,o_,o_,o_,o_,o_,o_,o_,o_,o_,o_,o_,o_,o_,o_,o_,o_,o_,o_,o_,o_,o_,o_,o_,o_,o_,o_,o_,o_,o_,o_,o_,o_,o_,o_,o_,o_,o_,o_,o_,o_,o_,o_,o_,o_,o_,o_,o_,o_,o_,o_,o_,o_,o_,o_,o_,o_,o_,o_,o_,o_,o_,o_,o_,o_,o_,o_,o_,o_,o_,o_,o_,o_,o_,o_,o_,o_,o_,o_,o_,o_,o_,o_,o_,o_,o_,o_,o_,o_,o_,o_,o_,o_]) rc124_6)
noncomputable def rc124_8 : RC :=
  .seq (.seq (.reg true [I_ 115 [.sl 10] .mv, I_ 116 [.sl 11] .mv, I_ 117 [.tv 115, .tv 116] (.bin .leq), I_ 118 [.tk 117] .mv, ⟨some 119, [.sl 0], some (118, true), none, .mv⟩, ⟨some 120, [.sl 11], some (118, true), none, .mv⟩,
  ⟨some 121, [.tv 119, .tv 120], some (118, true), none, .ia 1⟩, ⟨some 122, [.tv 121], some (118, true), none, .ld .one⟩, ⟨some 123, [.sl 0], some (118, true), none, .mv⟩, ⟨some 124, [.sl 1], some (118, true), none, .mv⟩, ⟨some
  125, [.tv 123, .tv 124], some (118, true), none, .ia 1⟩, ⟨some 126, [.tv 125], some (118, true), none, .ld .one⟩, ⟨some 127, [.cv (.func 122 [] []), .sl 122, .sl 126], some (118, true), none, .call 3⟩, ⟨some 128, [.tv 127],
  some (118, true), none, .un .not⟩, I_ 129 [.sl 118, .tv 128, .cv (.bool false)] .pick]) (.cond (.sl 129) .skip (.exit 8))) (.block 9 (.reg false [I_ 130 [.tk 11] .mv, I_ 131 [.tv 130, .cv (.int .i64 1)] (.bin .sub), I_ 11 [.tk
  131] .mv]))
noncomputable def rc124_9 : RC :=
  .block 8 (.loop (some [i_,i_,o_,o_,o_,o_,o_,o_,o_,o_,i_,i_,o_,o_,o_,o_,o_,o_,o_,o_,o_,o_,o_,o_,o_,o_,o_,o_,o_,o_,o_,o_,o_,o_,o_,o_,o_,o_,o_,o_,o_,o_,o_,o_,o_,o_,o_,o_,o_,o_,o_,o_,o_,o_,o_,o_,o_,o_,o_,o_,o_,o_,o_,o_,o_,o_,o_,o_,o_,o_,o_,o_,o_,o_,o_,o_,o_,o_,o_,o_,o_,o_,o_,o_,o_,o_,o_,o_,o_,o_,o_,o_,o_,o_,o_,o_,o_,o_,o_,o_,o_,o_,o_,o_,o_,o_,o_,o_,o_,o_,o_,o_,o_,o_,o_,o_,o_,o_,o_,o_,o_,o_,o_,o_,o_,o_,o_,o_,o_,o_,o_,o_,o_,o_,o_,o_,o_,o_,o_,o_,o_,o_,o_,o_,o_,o_,o_,o_,o_,o_,o_,o_,o_,o_,o_,o_,o_,o_,o_,o_,o_,o_,o_,o_,o_,o_,o_,o_]) rc124_8)
noncomputable def rc124_10 : RC :=
  .seq (.reg false [I_ 149 [.tk 10] .mv, I_ 150 [.tv 149, .cv (.int .i64 1)] (.bin .add), I_ 10 [.tk 150] .mv]) (.reg false [I_ 151 [.tk 11] .mv, I_ 152 [.tv 151, .cv (.int .i64 1)] (.bin .sub), I_ 11 [.tk 152] .mv])
noncomputable def rc124_11 : RC :=
  .seq (.reg true [I_ 135 [.sl 0] .mv, I_ 136 [.sl 10] .mv, I_ 137 [.sl 0] .mv, I_ 138 [.sl 11] .mv, I_ 139 [.sl 0] .mv, I_ 140 [.sl 11] .mv, I_ 141 [.tv 139, .tv 140] (.ia 1), I_ 142 [.tv 141] (.ld .one), I_ 143 [.sl 0] .mv, I_
  144 [.sl 10] .mv, I_ 145 [.tv 143, .tv 144] (.ia 1), I_ 146 [.tv 145] (.ld .one), I_ 147 [.tv 135, .tv 136] (.ia 1), ⟨none, [.tk 147, .tk 142], none, none, .st 1⟩, I_ 148 [.tv 137, .tv 138] (.ia 1), ⟨none, [.tk 148, .tk 146],
  none, none, .st 1⟩]) rc124_10
noncomputable def rc124_12 : RC :=
  .block 4 (.loop (some [i_,i_,o_,o_,o_,o_,o_,o_,o_,o_,i_,i_,o_,o_,o_,o_,o_,o_,o_,o_,o_,o_,o_,o_,o_,o_,o_,o_,o_,o_,o_,o_,o_,o_,o_,o_,o_,o_,o_,o_,o_,o_,o_,o_,o_,o_,o_,o_,o_,o_,o_,o_,o_,o_,o_,o_,o_,o_,o_,o_,o_,o_,o_,o_,o_,o_,o_,o_,o_,o_,o_,o_,o_,o_,o_,o_,o_,o_,o_,o_,o_,o_,o_,o_,o_,o_,o_,o_,o_,o_,o_,o_,o_,o_,o_,o_,o_,o_,o_,o_,o_,o_,o_,o_,o_,o_,o_,o_,o_,o_,o_,o_,o_,o_,o_,o_,o_,o_,o_,o_,o_,o_,o_,o_,o_,o_,o_,o_,o_,o_,o_,o_,o_,o_,o_,o_,o_,o_,o_,o_,o_,o_,o_,o_,o_,o_,o_,o_,o_,o_,o_,o_,o_,o_,o_,o_,o_,o_,o_,o_,o_,o_,o_,o_,o_,o_,o_,o_]) (.block 5 (.seq rc124_7 (.seq rc124_9 (.seq (.seq (.reg false [I_ 132 [.sl 10] .mv, I_ 133 [.sl 11] .mv, I_ 134 [.tv 132, .tv 133] (.bin .gtr)]) (.cond (.sl
  134) (.exit 4) .skip)) rc124_11)))))
noncomputable def rc124_13 : RC :=
  .seq (.reg true [I_ 153 [.sl 0] .mv, I_ 154 [.sl 11] .mv, I_ 155 [.sl 0] .mv, I_ 156 [.sl 1] .mv, I_ 157 [.sl 0] .mv, I_ 158 [.sl 1] .mv, I_ 159 [.tv 157, .tv 158] (.ia 1), I_ 160 [.tv 159] (.ld .one), I_ 161 [.sl 0] .mv, I_ 162
  [.sl 11] .mv, I_ 163 [.tv 161, .tv 162] (.ia 1), I_ 164 [.tv 163] (.ld .one), I_ 165 [.tv 153, .tv 154] (.ia 1), ⟨none, [.tk 165, .tk 160], none, none, .st 1⟩, I_ 166 [.tv 155, .tv 156] (.ia 1), ⟨none, [.tk 166, .tk 164], none,
  none, .st 1⟩]) (.seq (.reg false [I_ 167 [.tk 11] .mv, I_ 8 [.tk 167] .mv, I_ 9 [.cv (.bool false)] .mv]) .ret)
noncomputable def rc124_14 : RC :=
  .seq (.reg false [I_ 95 [.tk 10] .mv, I_ 96 [.tv 95, .cv (.int .i64 1)] (.bin .add), I_ 10 [.tk 96] .mv]) (.seq (.reg false [I_ 97 [.tk 11] .mv, I_ 98 [.tv 97, .cv (.int .i64 1)] (.bin .sub), I_ 11 [.tk 98] .mv]) (.seq rc124_12
  rc124_13))
noncomputable def rc124_15 : RC :=
  .seq (.reg true [I_ 81 [.sl 0] .mv, I_ 82 [.sl 10] .mv, I_ 83 [.sl 0] .mv, I_ 84 [.sl 11] .mv, I_ 85 [.sl 0] .mv, I_ 86 [.sl 11] .mv, I_ 87 [.tv 85, .tv 86] (.ia 1), I_ 88 [.tv 87] (.ld .one), I_ 89 [.sl 0] .mv, I_ 90 [.sl 10]
  .mv, I_ 91 [.tv 89, .tv 90] (.ia 1), I_ 92 [.tv 91] (.ld .one), I_ 93 [.tv 81, .tv 82] (.ia 1), ⟨none, [.tk 93, .tk 88], none, none, .st 1⟩, I_ 94 [.tv 83, .tv 84] (.ia 1), ⟨none, [.tk 94, .tk 92], none, none, .st 1⟩]) rc124_14
noncomputable def rc124_16 : RC :=
  .seq (.reg false [I_ 26 [.sl 1] .mv, I_ 27 [.tv 26, .cv (.int .i64 1)] (.bin .add), I_ 28 [.tk 2] .mv, I_ 29 [.tv 28, .cv (.int .i64 1)] (.bin .sub), I_ 10 [.tk 27] .mv, I_ 11 [.tk 29] .mv]) (.seq rc124_2 (.seq rc124_4 (.seq
  (.seq (.reg false [I_ 63 [.sl 10] .mv, I_ 64 [.sl 11] .mv, I_ 65 [.tv 63, .tv 64] (.bin .gtr)]) (.cond (.sl 65) rc124_5 .skip)) rc124_15)))
noncomputable def rc124_17 : RC :=
  .seq (.reg true [I_ 12 [.sl 0] .mv, I_ 13 [.sl 1] .mv, I_ 14 [.sl 0] .mv, I_ 15 [.sl 3] .mv, I_ 16 [.sl 0] .mv, I_ 17 [.sl 3] .mv, I_ 18 [.tv 16, .tv 17] (.ia 1), I_ 19 [.tv 18] (.ld .one), I_ 20 [.sl 0] .mv, I_ 21 [.sl 1] .mv,
  I_ 22 [.tv 20, .tv 21] (.ia 1), I_ 23 [.tv 22] (.ld .one), I_ 24 [.tv 12, .tv 13] (.ia 1), ⟨none, [.tk 24, .tk 19], none, none, .st 1⟩, I_ 25 [.tv 14, .tv 15] (.ia 1), ⟨none, [.tk 25, .tk 23], none, none, .st 1⟩]) rc124_16
noncomputable def rc124 : RC :=
  .seq (.reg false [I_ 8 [.cv (.int .i64 0)] .mv, I_ 9 [.cv (.bool false)] .mv]) rc124_17
theorem lk124 : linkF Go.Proofs.Try.prog ann124 124 = some (rc124, 168, [.tmp 8, .tmp 9]) := by kernel_rfl
noncomputable def rc114_1 : RC :=
  .seq (.reg false [I_ 24 [.tk 0] .mv, I_ 25 [.tk 1] .mv, I_ 26 [.tk 2] .mv, I_ 27 [.cv (.func 116 [] []), .tk 24, .tk 25, .tk 26] (.call 1)]) .ret
noncomputable def rc114_2 : RC :=
  .seq (.reg false [I_ 30 [.tk 0] .mv, I_ 31 [.tk 1] .mv, I_ 32 [.tk 2] .mv, I_ 33 [.cv (.func 117 [] []), .tk 30, .tk 31, .tk 32] (.call 1)]) .ret
noncomputable def rc114_3 : RC :=
  .seq (.reg false [I_ 36 [.sl 0] .mv, I_ 37 [.sl 1] .mv, I_ 38 [.sl 2] .mv, I_ 39 [.cv (.func 118 [] []), .tk 36, .tk 37, .tk 38] (.call 1)]) (.reg false [I_ 40 [.tk 3] .mv, I_ 41 [.tv 40, .cv (.int .i64 1)] (.bin .sub), I_ 3 [.tk
  41] .mv])
noncomputable def rc114_4 : RC :=
  .seq (.reg false [I_ 55 [.sl 2] .mv, I_ 56 [.tv 55, .cv (.int .i64 1)] (.bin .sub), I_ 57 [.tk 11] .mv, I_ 58 [.sl 1] .mv, I_ 59 [.tv 57, .tv 58] (.bin .sub), I_ 60 [.tv 56, .tv 59] (.bin .sub), I_ 11 [.tk 60] .mv]) (.reg false
  [I_ 12 [.cv (.int .i64 1)] .mv])
noncomputable def rc114_5 : RC :=
  .seq (.reg false [I_ 51 [.sl 0] .mv, I_ 52 [.sl 1] .mv, I_ 53 [.sl 2] .mv, I_ 54 [.cv (.func 120 [] []), .tk 51, .tk 52, .tk 53] (.call 1)]) rc114_4
noncomputable def rc114_6 : RC :=
  .seq (.reg false [I_ 69 [.sl 0] .mv, I_ 70 [.sl 1] .mv, I_ 71 [.sl 2] .mv, I_ 72 [.cv (.func 121 [] []), .tk 69, .tk 70, .tk 71] (.call 1)]) (.cond (.sl 72) .ret .skip)
noncomputable def rc114_7 : RC :=
  .seq (.reg false [I_ 88 [.sl 0] .mv, I_ 89 [.tk 1] .mv, I_ 90 [.sl 2] .mv, I_ 91 [.tk 11] .mv, I_ 92 [.cv (.func 123 [] []), .tk 88, .tk 89, .tk 90, .tk 91] (.call 1), I_ 13 [.tk 92] .mv]) (.seq (.reg false [I_ 93 [.tk 13] .mv,
  I_ 1 [.tk 93] .mv]) (.exit 1))
noncomputable def rc114_8 : RC :=
  .seq (.reg false [I_ 117 [.sl 0] .mv, I_ 118 [.tk 1] .mv, I_ 119 [.sl 14] .mv, I_ 120 [.sl 3] .mv, I_ 121 [.cv (.func 114 [] []), .tk 117, .tk 118, .tk 119, .tk 120] (.call 1)]) (.reg false [I_ 122 [.tk 14] .mv, I_ 123 [.tv 122,
  .cv (.int .i64 1)] (.bin .add), I_ 1 [.tk 123] .mv])
noncomputable def rc114_9 : RC :=
  .seq (.reg false [I_ 114 [.tk 16] .mv, I_ 115 [.tk 18] .mv, I_ 116 [.tv 114, .tv 115] (.bin .geq), I_ 8 [.tk 116] .mv]) rc114_8
noncomputable def rc114_10 : RC :=
  .seq (.reg false [I_ 127 [.sl 0] .mv, I_ 128 [.sl 14] .mv, I_ 129 [.tv 128, .cv (.int .i64 1)] (.bin .add), I_ 130 [.tk 2] .mv, I_ 131 [.sl 3] .mv, I_ 132 [.cv (.func 114 [] []), .tk 127, .tk 129, .tk 130, .tk 131] (.call 1)])
  (.reg false [I_ 133 [.tk 14] .mv, I_ 2 [.tk 133] .mv])
noncomputable def rc114_11 : RC :=
  .seq (.reg false [I_ 124 [.tk 17] .mv, I_ 125 [.tk 18] .mv, I_ 126 [.tv 124, .tv 125] (.bin .geq), I_ 8 [.tk 126] .mv]) rc114_10
noncomputable def rc114_12 : RC :=
  .seq (.reg false [I_ 109 [.tk 10] .mv, I_ 110 [.tv 109, .cv (.int .i64 8)] (.bin .quo), I_ 18 [.tk 110] .mv]) (.seq (.reg false [I_ 111 [.sl 16] .mv, I_ 112 [.sl 17] .mv, I_ 113 [.tv 111, .tv 112] (.bin .lss)]) (.cond (.sl 113)
  rc114_9 rc114_11))
noncomputable def rc114_13 : RC :=
  .seq (.reg false [I_ 103 [.sl 14] .mv, I_ 104 [.sl 1] .mv, I_ 105 [.tv 103, .tv 104] (.bin .sub), I_ 106 [.sl 2] .mv, I_ 107 [.sl 14] .mv, I_ 108 [.tv 106, .tv 107] (.bin .sub), I_ 16 [.tk 105] .mv, I_ 17 [.tk 108] .mv]) rc114_12
noncomputable def rc114_14 : RC :=
  .seq (.reg false [I_ 95 [.sl 0] .mv, I_ 96 [.sl 1] .mv, I_ 97 [.sl 2] .mv, I_ 98 [.tk 11] .mv, I_ 99 [.cv (.func 124 [] []), .tk 95, .tk 96, .tk 97, .tk 98] (.call 1), I_ 94 [.tk 99] .mv, I_ 100 [.sl 94] (.ext 0), I_ 101 [.tv 94]
  (.ext 1), I_ 14 [.tk 100] .mv, I_ 15 [.tk 101] .mv]) (.seq (.reg false [I_ 102 [.tk 15] .mv, I_ 9 [.tk 102] .mv]) rc114_13)
noncomputable def rc114_15 : RC :=
  .seq (.seq (.reg true [I_ 73 [.sl 1] .mv, I_ 74 [.tv 73, .cv (.int .i64 0)] (.bin .gtr), I_ 75 [.tk 74] .mv, ⟨some 76, [.sl 0], some (75, true), none, .mv⟩, ⟨some 77, [.sl 1], some (75, true), none, .mv⟩, ⟨some 78, [.tv 77, .cv
  (.int .i64 1)], some (75, true), none, .bin .sub⟩, ⟨some 79, [.tv 76, .tv 78], some (75, true), none, .ia 1⟩, ⟨some 80, [.tv 79], some (75, true), none, .ld .one⟩, ⟨some 81, [.sl 0], some (75, true), none, .mv⟩, ⟨some 82, [.sl
  11], some (75, true), none, .mv⟩, ⟨some 83, [.tv 81, .tv 82], some (75, true), none, .ia 1⟩, ⟨some 84, [.tv 83], some (75, true), none, .ld .one⟩, ⟨some 85, [.cv (.func 122 [] []), .sl 80, .sl 84], some (75, true), none, .call
  3⟩, ⟨some 86, [.tv 85], some (75, true), none, .un .not⟩, I_ 87 [.sl 75, .tv 86, .cv (.bool false)] .pick]) (.cond (.sl 87) rc114_7 .skip)) rc114_14
noncomputable def rc114_16 : RC :=
  .seq (.seq (.reg false [I_ 61 [.sl 8] .mv, I_ 62 [.tk 61] .mv, ⟨some 63, [.sl 9], some (62, true), none, .mv⟩, I_ 64 [.tv 62, .tv 63, .cv (.bool false)] .pick, I_ 65 [.tk 64] .mv, ⟨some 66, [.tk 12], some (65, true), none, .mv⟩,
  ⟨some 67, [.tv 66, .cv (.int .i64 1)], some (65, true), none, .bin .eql⟩, I_ 68 [.tv 65, .tv 67, .cv (.bool false)] .pick]) (.cond (.sl 68) rc114_6 .skip)) rc114_15
noncomputable def rc114_17 : RC :=
  .seq (.reg false [I_ 43 [.sl 0] .mv, I_ 44 [.sl 1] .mv, I_ 45 [.sl 2] .mv, I_ 46 [.cv (.func 119 [] []), .tk 43, .tk 44, .tk 45] (.call 1), I_ 42 [.tk 46] .mv, I_ 47 [.sl 42] (.ext 0), I_ 48 [.tv 42] (.ext 1), I_ 11 [.tk 47] .mv,
  I_ 12 [.tk 48] .mv]) (.seq (.seq (.reg false [I_ 49 [.sl 12] .mv, I_ 50 [.tv 49, .cv (.int .i64 2)] (.bin .eql)]) (.cond (.sl 50) rc114_5 .skip)) rc114_16)
noncomputable def rc114_18 : RC :=
  .seq (.seq (.reg false [I_ 28 [.sl 3] .mv, I_ 29 [.tv 28, .cv (.int .i64 0)] (.bin .eql)]) (.cond (.sl 29) rc114_2 .skip)) (.seq (.seq (.reg false [I_ 34 [.sl 8] .mv, I_ 35 [.tv 34] (.un .not)]) (.cond (.sl 35) rc114_3 .skip))
  rc114_17)
noncomputable def rc114_19 : RC :=
  .block 1 (.seq (.reg false [I_ 19 [.sl 2] .mv, I_ 20 [.sl 1] .mv, I_ 21 [.tv 19, .tv 20] (.bin .sub), I_ 10 [.tk 21] .mv]) (.seq (.seq (.reg false [I_ 22 [.sl 10] .mv, I_ 23 [.tv 22, .cv (.int .i64 12)] (.bin .leq)]) (.cond (.sl
  23) rc114_1 .skip)) rc114_18))
noncomputable def rc114 : RC :=
  .seq (.reg false [I_ 8 [.cv (.bool true)] .mv]) (.seq (.reg false [I_ 9 [.cv (.bool true)] .mv]) (.block 0 (.loop (some [i_,i_,i_,i_,o_,o_,o_,o_,i_,i_,o_,o_,o_,o_,o_,o_,o_,o_,o_,o_,o_,o_,o_,o_,o_,o_,o_,o_,o_,o_,o_,o_,o_,o_,o_,o_,o_,o_,o_,o_,o_,o_,o_,o_,o_,o_,o_,o_,o_,o_,o_,o_,o_,o_,o_,o_,o_,o_,o_,o_,o_,o_,o_,o_,o_,o_,o_,o_,o_,o_,o_,o_,o_,o_,o_,o_,o_,o_,o_,o_,o_,o_,o_,o_,o_,o_,o_,o_,o_,o_,o_,o_,o_,o_,o_,o_,o_,o_,o_,o_,o_,o_,o_,o_,o_,o_,o_,o_,o_,o_,o_,o_,o_,o_,o_,o_,o_,o_,o_,o_,o_,o_,o_,o_,o_,o_,o_,o_,o_,o_,o_,o_,o_,o_]) rc114_19)))
theorem lk114 : linkF Go.Proofs.Try.prog ann114 114 = some (rc114, 134, []) := by kernel_rfl
end Go.Proofs.Ytlcebaejlnpdeaa.Ab

/-
  Contracts: the scanning loops of slices' partitionEqualOrdered and partitionOrdered.
-/
namespace Go.Proofs.Ytlcebaejlnpdeaa.Ab
open Go
set_option maxRecDepth 20000
set_option maxHeartbeats 4000000
theorem scanDown_eq (P : Int → Bool) (d : Array Int) (i q : Nat) (h : 1 ≤ i) : Sort.scanDown P d i q = if i ≤ q && P d[q]! then Sort.scanDown P d i (q - 1) else q := by
  cases q with
  | zero => rw [Sort.scanDown, if_neg (by simp; omega)]
  | succ q => rw [Sort.scanDown]; rfl
theorem scanUp_eq (P : Int → Bool) (d : Array Int) (j q : Nat) : Sort.scanUp P d j q = if q ≤ j && P d[q]! then Sort.scanUp P d j (q + 1) else q := by
  rw [Sort.scanUp]
section
variable {H : List AObj} {id lo : Nat} (hid : id < H.length)
include hid
theorem scan123a (d : Array Int) (a i j : Nat) (hd : d.size ≤ 1000) (ha : a < d.size) (hj : j < d.size) (hi1 : 1 ≤ i) (hij : i ≤ j + 1) (Q : Ex → List AV → List AObj → Prop) 
    (k : ∀ q (y0 y1 y2 y3 y4 y5 y6 y7 y8 y9 y10 y11 : AV), i ≤ q → q ≤ j + 1 → Sort.scanUp (fun x => !Sort.ltInt d[a]! x) d j i = q → Q .normal (slots 84 [(0, Da id d.size), (1, I a), (9, I (q : Nat)), (10, I (j : Nat)), (32, y0), (33, y1), (34, y2), (35, y3), (36, y4), (37, y5), (38, y6), (39, y7), (40, y8), (41, y9), (42, y10), (43, y11)]) (H.set id (Cd d))) :
    wpR Go.Proofs.Try.prog ann123 123 lo none rc123_2 (slots 84 [(0, Da id d.size), (1, I a), (9, I (i : Nat)), (10, I (j : Nat))]) (H.set id (Cd d)) Q := by
  have gs : ∀ c : AObj, (H.set id c)[id]? = some c := fun c => by rw [List.getElem?_set_self hid]
  unfold rc123_2
  conv => whnf
  refine .intro (fun m T H' => ∃ q, i ≤ q ∧ q ≤ j + 1 ∧ m = j + 1 - q ∧ Sort.scanUp (fun x => !Sort.ltInt d[a]! x) d j q = Sort.scanUp (fun x => !Sort.ltInt d[a]! x) d j i ∧ T = slots 84 [(0, Da id d.size), (1, I a), (9, I (q : Nat)), (10, I (j : Nat))] ∧ H' = H.set id (Cd d)) (j + 1 - i) ⟨i, by omega, by omega, rfl, rfl, rfl, rfl⟩ ?_
  rintro m T H' ⟨q, hq1, hq2, hm, hqe, rfl, rfl⟩
  unfold rc123_1
  conv => whnf
  by_cases h : ((q : Nat) : Int) ≤ ((j : Nat) : Int)
  · rw [decide_eq_true h]
    conv => whnf
    refine ⟨by omega, ?_⟩
    conv => whnf
    refine nthK_of (by first | exact gs _ | exact gss _ _ | assumption) ?_
    conv => whnf
    refine rdK (a) (by omega) (by omega) ?_
    conv => whnf
    refine ⟨by omega, ?_⟩
    conv => whnf
    refine nthK_of (by first | exact gs _ | exact gss _ _ | assumption) ?_
    conv => whnf
    refine rdK (q) (by omega) (by omega) ?_
    conv => whnf
    refine ⟨by first | rfl | simp only [List.all_cons, List.all_nil, pu0, pub, pu1, pu2, pu1', pu2', pun, puf, puP, puP', puQ, puQ', Bool.and_true, Bool.and_self], _, less_ok d[a]! d[q]!, acc0, ?_⟩
    conv => whnf
    by_cases h5 : d[a]! < d[q]!
    · rw [decide_eq_true h5]
      conv => whnf
      have e : Sort.scanUp (fun x => !Sort.ltInt d[a]! x) d j i = q := by
        rw [← hqe, scanUp_eq, if_neg (by simp only [Sort.ltInt, Bool.and_eq_true, decide_eq_true_eq, Bool.not_eq_true', decide_eq_false_iff_not]; exact fun hh => hh.2 h5)]
      exact k q _ _ _ _ _ _ _ _ _ _ _ _  (by omega) (by omega) e
    · rw [decide_eq_false h5]
      conv => whnf
      exact ⟨j + 1 - (q + 1), by omega, q + 1, by omega, by omega, rfl, by rw [← hqe, scanUp_eq _ _ _ q, if_pos (by simp only [Sort.ltInt, Bool.and_eq_true, decide_eq_true_eq, Bool.not_eq_true', decide_eq_false_iff_not]; exact ⟨by omega, h5⟩)], by rw [← wrapS q (by omega)]; rfl, rfl⟩
  · rw [decide_eq_false h]
    conv => whnf
    have e : Sort.scanUp (fun x => !Sort.ltInt d[a]! x) d j i = q := by
      rw [← hqe, scanUp_eq, if_neg (by simp only [Sort.ltInt, Bool.and_eq_true, decide_eq_true_eq, Bool.not_eq_true', decide_eq_false_iff_not]; exact fun hh => h (by omega))]
    exact k q _ _ _ _ _ _ _ _ _ _ _ _  (by omega) (by omega) e
theorem scan123b (d : Array Int) (a i j : Nat) (hd : d.size ≤ 1000) (ha : a < d.size) (hj : j < d.size) (hi1 : 1 ≤ i) (hij : i ≤ j + 1) (Q : Ex → List AV → List AObj → Prop) (x0 x1 x2 x3 x4 x5 x6 x7 x8 x9 x10 x11 : AV)
    (k : ∀ q (y0 y1 y2 y3 y4 y5 y6 y7 y8 y9 y10 : AV), q ≤ j → i ≤ q + 1 → Sort.scanDown (fun x => Sort.ltInt d[a]! x) d i j = q → Q .normal (slots 84 [(0, Da id d.size), (1, I a), (9, I (i : Nat)), (10, I (q : Nat)), (49, y0), (50, y1), (51, y2), (52, y3), (53, y4), (54, y5), (55, y6), (56, y7), (57, y8), (58, y9), (59, y10)]) (H.set id (Cd d))) :
    wpR Go.Proofs.Try.prog ann123 123 lo none rc123_4 (slots 84 [(0, Da id d.size), (1, I a), (9, I (i : Nat)), (10, I (j : Nat)), (32, x0), (33, x1), (34, x2), (35, x3), (36, x4), (37, x5), (38, x6), (39, x7), (40, x8), (41, x9), (42, x10), (43, x11)]) (H.set id (Cd d)) Q := by
  have gs : ∀ c : AObj, (H.set id c)[id]? = some c := fun c => by rw [List.getElem?_set_self hid]
  unfold rc123_4
  conv => whnf
  refine .intro (fun m T H' => ∃ q, q ≤ j ∧ i ≤ q + 1 ∧ m = q ∧ Sort.scanDown (fun x => Sort.ltInt d[a]! x) d i q = Sort.scanDown (fun x => Sort.ltInt d[a]! x) d i j ∧ T = slots 84 [(0, Da id d.size), (1, I a), (9, I (i : Nat)), (10, I (q : Nat))] ∧ H' = H.set id (Cd d)) (j) ⟨j, by omega, by omega, rfl, rfl, rfl, rfl⟩ ?_
  rintro m T H' ⟨q, hq1, hq2, hm, hqe, rfl, rfl⟩
  unfold rc123_3
  conv => whnf
  by_cases h : ((i : Nat) : Int) ≤ ((q : Nat) : Int)
  · rw [decide_eq_true h]
    conv => whnf
    refine ⟨by omega, ?_⟩
    conv => whnf
    refine nthK_of (by first | exact gs _ | exact gss _ _ | assumption) ?_
    conv => whnf
    refine rdK (a) (by omega) (by omega) ?_
    conv => whnf
    refine ⟨by omega, ?_⟩
    conv => whnf
    refine nthK_of (by first | exact gs _ | exact gss _ _ | assumption) ?_
    conv => whnf
    refine rdK (q) (by omega) (by omega) ?_
    conv => whnf
    refine ⟨by first | rfl | simp only [List.all_cons, List.all_nil, pu0, pub, pu1, pu2, pu1', pu2', pun, puf, puP, puP', puQ, puQ', Bool.and_true, Bool.and_self], _, less_ok d[a]! d[q]!, acc0, ?_⟩
    conv => whnf
    by_cases h5 : d[a]! < d[q]!
    · rw [decide_eq_true h5]
      conv => whnf
      exact ⟨(q - 1), by omega, q - 1, by omega, by omega, rfl, by rw [← hqe, scanDown_eq _ _ _ q hi1, if_pos (by simp only [Sort.ltInt, Bool.and_eq_true, decide_eq_true_eq]; exact ⟨by omega, h5⟩)], by rw [show ((q - 1 : Nat) : Int) = IntKind.i64.wrap ((q : Int) - 1) by rw [wrapI _ (by omega) (by omega)]; omega]; rfl, rfl⟩
    · rw [decide_eq_false h5]
      conv => whnf
      have e : Sort.scanDown (fun x => Sort.ltInt d[a]! x) d i j = q := by
        rw [← hqe, scanDown_eq _ _ _ _ hi1, if_neg (by simp only [Sort.ltInt, Bool.and_eq_true, decide_eq_true_eq]; exact fun hh => h5 hh.2)]
      exact k q _ _ _ _ _ _ _ _ _ _ _  (by omega) (by omega) e
  · rw [decide_eq_false h]
    conv => whnf
    have e : Sort.scanDown (fun x => Sort.ltInt d[a]! x) d i j = q := by
      rw [← hqe, scanDown_eq _ _ _ _ hi1, if_neg (by simp only [Sort.ltInt, Bool.and_eq_true, decide_eq_true_eq]; exact fun hh => h (by omega))]
    exact k q _ _ _ _ _ _ _ _ _ _ _  (by omega) (by omega) e
theorem scan124a (d : Array Int) (a i j : Nat) (hd : d.size ≤ 1000) (ha : a < d.size) (hj : j < d.size) (hi1 : 1 ≤ i) (hij : i ≤ j + 1) (Q : Ex → List AV → List AObj → Prop) (x0 x1 x2 : AV)
    (k : ∀ q (y0 y1 y2 y3 y4 y5 y6 y7 y8 y9 y10 : AV), i ≤ q → q ≤ j + 1 → Sort.scanUp (fun x => Sort.ltInt x d[a]!) d j i = q → Q .normal (slots 168 [(0, Da id d.size), (1, I a), (10, I (q : Nat)), (11, I (j : Nat)), (33, y0), (34, y1), (35, y2), (36, y3), (37, y4), (38, y5), (39, y6), (40, y7), (41, y8), (42, y9), (43, y10)]) (H.set id (Cd d))) :
    wpR Go.Proofs.Try.prog ann124 124 lo none rc124_2 (slots 168 [(0, Da id d.size), (1, I a), (3, x0), (8, x1), (9, x2), (10, I (i : Nat)), (11, I (j : Nat))]) (H.set id (Cd d)) Q := by
  have gs : ∀ c : AObj, (H.set id c)[id]? = some c := fun c => by rw [List.getElem?_set_self hid]
  unfold rc124_2
  conv => whnf
  refine .intro (fun m T H' => ∃ q, i ≤ q ∧ q ≤ j + 1 ∧ m = j + 1 - q ∧ Sort.scanUp (fun x => Sort.ltInt x d[a]!) d j q = Sort.scanUp (fun x => Sort.ltInt x d[a]!) d j i ∧ T = slots 168 [(0, Da id d.size), (1, I a), (10, I (q : Nat)), (11, I (j : Nat))] ∧ H' = H.set id (Cd d)) (j + 1 - i) ⟨i, by omega, by omega, rfl, rfl, rfl, rfl⟩ ?_
  rintro m T H' ⟨q, hq1, hq2, hm, hqe, rfl, rfl⟩
  unfold rc124_1
  conv => whnf
  by_cases h : ((q : Nat) : Int) ≤ ((j : Nat) : Int)
  · rw [decide_eq_true h]
    conv => whnf
    refine ⟨by omega, ?_⟩
    conv => whnf
    refine nthK_of (by first | exact gs _ | exact gss _ _ | assumption) ?_
    conv => whnf
    refine rdK (q) (by omega) (by omega) ?_
    conv => whnf
    refine ⟨by omega, ?_⟩
    conv => whnf
    refine nthK_of (by first | exact gs _ | exact gss _ _ | assumption) ?_
    conv => whnf
    refine rdK (a) (by omega) (by omega) ?_
    conv => whnf
    refine ⟨by first | rfl | simp only [List.all_cons, List.all_nil, pu0, pub, pu1, pu2, pu1', pu2', pun, puf, puP, puP', puQ, puQ', Bool.and_true, Bool.and_self], _, less_ok d[q]! d[a]!, acc0, ?_⟩
    conv => whnf
    by_cases h5 : d[q]! < d[a]!
    · rw [decide_eq_true h5]
      conv => whnf
      exact ⟨j + 1 - (q + 1), by omega, q + 1, by omega, by omega, rfl, by rw [← hqe, scanUp_eq _ _ _ q, if_pos (by simp only [Sort.ltInt, Bool.and_eq_true, decide_eq_true_eq]; exact ⟨by omega, h5⟩)], by rw [← wrapS q (by omega)]; rfl, rfl⟩
    · rw [decide_eq_false h5]
      conv => whnf
      have e : Sort.scanUp (fun x => Sort.ltInt x d[a]!) d j i = q := by
        rw [← hqe, scanUp_eq, if_neg (by simp only [Sort.ltInt, Bool.and_eq_true, decide_eq_true_eq]; exact fun hh => h5 hh.2)]
      exact k q _ _ _ _ _ _ _ _ _ _ _  (by omega) (by omega) e
  · rw [decide_eq_false h]
    conv => whnf
    have e : Sort.scanUp (fun x => Sort.ltInt x d[a]!) d j i = q := by
      rw [← hqe, scanUp_eq, if_neg (by simp only [Sort.ltInt, Bool.and_eq_true, decide_eq_true_eq]; exact fun hh => h (by omega))]
    exact k q _ _ _ _ _ _ _ _ _ _ _  (by omega) (by omega) e
theorem scan124b (d : Array Int) (a i j : Nat) (hd : d.size ≤ 1000) (ha : a < d.size) (hj : j < d.size) (hi1 : 1 ≤ i) (hij : i ≤ j + 1) (Q : Ex → List AV → List AObj → Prop) (x0 x1 x2 x3 x4 x5 x6 x7 x8 x9 x10 : AV)
    (k : ∀ q (y0 y1 y2 y3 y4 y5 y6 y7 y8 y9 y10 y11 : AV), q ≤ j → i ≤ q + 1 → Sort.scanDown (fun x => !Sort.ltInt x d[a]!) d i j = q → Q .normal (slots 168 [(0, Da id d.size), (1, I a), (10, I (i : Nat)), (11, I (q : Nat)), (49, y0), (50, y1), (51, y2), (52, y3), (53, y4), (54, y5), (55, y6), (56, y7), (57, y8), (58, y9), (59, y10), (60, y11)]) (H.set id (Cd d))) :
    wpR Go.Proofs.Try.prog ann124 124 lo none rc124_4 (slots 168 [(0, Da id d.size), (1, I a), (10, I (i : Nat)), (11, I (j : Nat)), (33, x0), (34, x1), (35, x2), (36, x3), (37, x4), (38, x5), (39, x6), (40, x7), (41, x8), (42, x9), (43, x10)]) (H.set id (Cd d)) Q := by
  have gs : ∀ c : AObj, (H.set id c)[id]? = some c := fun c => by rw [List.getElem?_set_self hid]
  unfold rc124_4
  conv => whnf
  refine .intro (fun m T H' => ∃ q, q ≤ j ∧ i ≤ q + 1 ∧ m = q ∧ Sort.scanDown (fun x => !Sort.ltInt x d[a]!) d i q = Sort.scanDown (fun x => !Sort.ltInt x d[a]!) d i j ∧ T = slots 168 [(0, Da id d.size), (1, I a), (10, I (i : Nat)), (11, I (q : Nat))] ∧ H' = H.set id (Cd d)) (j) ⟨j, by omega, by omega, rfl, rfl, rfl, rfl⟩ ?_
  rintro m T H' ⟨q, hq1, hq2, hm, hqe, rfl, rfl⟩
  unfold rc124_3
  conv => whnf
  by_cases h : ((i : Nat) : Int) ≤ ((q : Nat) : Int)
  · rw [decide_eq_true h]
    conv => whnf
    refine ⟨by omega, ?_⟩
    conv => whnf
    refine nthK_of (by first | exact gs _ | exact gss _ _ | assumption) ?_
    conv => whnf
    refine rdK (q) (by omega) (by omega) ?_
    conv => whnf
    refine ⟨by omega, ?_⟩
    conv => whnf
    refine nthK_of (by first | exact gs _ | exact gss _ _ | assumption) ?_
    conv => whnf
    refine rdK (a) (by omega) (by omega) ?_
    conv => whnf
    refine ⟨by first | rfl | simp only [List.all_cons, List.all_nil, pu0, pub, pu1, pu2, pu1', pu2', pun, puf, puP, puP', puQ, puQ', Bool.and_true, Bool.and_self], _, less_ok d[q]! d[a]!, acc0, ?_⟩
    conv => whnf
    by_cases h5 : d[q]! < d[a]!
    · rw [decide_eq_true h5]
      conv => whnf
      have e : Sort.scanDown (fun x => !Sort.ltInt x d[a]!) d i j = q := by
        rw [← hqe, scanDown_eq _ _ _ _ hi1, if_neg (by simp only [Sort.ltInt, Bool.and_eq_true, decide_eq_true_eq, Bool.not_eq_true', decide_eq_false_iff_not]; exact fun hh => hh.2 h5)]
      exact k q _ _ _ _ _ _ _ _ _ _ _ _  (by omega) (by omega) e
    · rw [decide_eq_false h5]
      conv => whnf
      exact ⟨(q - 1), by omega, q - 1, by omega, by omega, rfl, by rw [← hqe, scanDown_eq _ _ _ q hi1, if_pos (by simp only [Sort.ltInt, Bool.and_eq_true, decide_eq_true_eq, Bool.not_eq_true', decide_eq_false_iff_not]; exact ⟨by omega, h5⟩)], by rw [show ((q - 1 : Nat) : Int) = IntKind.i64.wrap ((q : Int) - 1) by rw [wrapI _ (by omega) (by omega)]; omega]; rfl, rfl⟩
  · rw [decide_eq_false h]
    conv => whnf
    have e : Sort.scanDown (fun x => !Sort.ltInt x d[a]!) d i j = q := by
      rw [← hqe, scanDown_eq _ _ _ _ hi1, if_neg (by simp only [Sort.ltInt, Bool.and_eq_true, decide_eq_true_eq, Bool.not_eq_true', decide_eq_false_iff_not]; exact fun hh => h (by omega))]
    exact k q _ _ _ _ _ _ _ _ _ _ _ _  (by omega) (by omega) e
theorem scan124c (d : Array Int) (a i j : Nat) (hd : d.size ≤ 1000) (ha : a < d.size) (hj : j < d.size) (hi1 : 1 ≤ i) (hij : i ≤ j + 1) (Q : Ex → List AV → List AObj → Prop) 
    (k : ∀ q (y0 y1 y2 y3 y4 y5 y6 y7 y8 y9 y10 : AV), i ≤ q → q ≤ j + 1 → Sort.scanUp (fun x => Sort.ltInt x d[a]!) d j i = q → Q .normal (slots 168 [(0, Da id d.size), (1, I a), (10, I (q : Nat)), (11, I (j : Nat)), (102, y0), (103, y1), (104, y2), (105, y3), (106, y4), (107, y5), (108, y6), (109, y7), (110, y8), (111, y9), (112, y10)]) (H.set id (Cd d))) :
    wpR Go.Proofs.Try.prog ann124 124 lo none rc124_7 (slots 168 [(0, Da id d.size), (1, I a), (10, I (i : Nat)), (11, I (j : Nat))]) (H.set id (Cd d)) Q := by
  have gs : ∀ c : AObj, (H.set id c)[id]? = some c := fun c => by rw [List.getElem?_set_self hid]
  unfold rc124_7
  conv => whnf
  refine .intro (fun m T H' => ∃ q, i ≤ q ∧ q ≤ j + 1 ∧ m = j + 1 - q ∧ Sort.scanUp (fun x => Sort.ltInt x d[a]!) d j q = Sort.scanUp (fun x => Sort.ltInt x d[a]!) d j i ∧ T = slots 168 [(0, Da id d.size), (1, I a), (10, I (q : Nat)), (11, I (j : Nat))] ∧ H' = H.set id (Cd d)) (j + 1 - i) ⟨i, by omega, by omega, rfl, rfl, rfl, rfl⟩ ?_
  rintro m T H' ⟨q, hq1, hq2, hm, hqe, rfl, rfl⟩
  unfold rc124_6
  conv => whnf
  by_cases h : ((q : Nat) : Int) ≤ ((j : Nat) : Int)
  · rw [decide_eq_true h]
    conv => whnf
    refine ⟨by omega, ?_⟩
    conv => whnf
    refine nthK_of (by first | exact gs _ | exact gss _ _ | assumption) ?_
    conv => whnf
    refine rdK (q) (by omega) (by omega) ?_
    conv => whnf
    refine ⟨by omega, ?_⟩
    conv => whnf
    refine nthK_of (by first | exact gs _ | exact gss _ _ | assumption) ?_
    conv => whnf
    refine rdK (a) (by omega) (by omega) ?_
    conv => whnf
    refine ⟨by first | rfl | simp only [List.all_cons, List.all_nil, pu0, pub, pu1, pu2, pu1', pu2', pun, puf, puP, puP', puQ, puQ', Bool.and_true, Bool.and_self], _, less_ok d[q]! d[a]!, acc0, ?_⟩
    conv => whnf
    by_cases h5 : d[q]! < d[a]!
    · rw [decide_eq_true h5]
      conv => whnf
      exact ⟨j + 1 - (q + 1), by omega, q + 1, by omega, by omega, rfl, by rw [← hqe, scanUp_eq _ _ _ q, if_pos (by simp only [Sort.ltInt, Bool.and_eq_true, decide_eq_true_eq]; exact ⟨by omega, h5⟩)], by rw [← wrapS q (by omega)]; rfl, rfl⟩
    · rw [decide_eq_false h5]
      conv => whnf
      have e : Sort.scanUp (fun x => Sort.ltInt x d[a]!) d j i = q := by
        rw [← hqe, scanUp_eq, if_neg (by simp only [Sort.ltInt, Bool.and_eq_true, decide_eq_true_eq]; exact fun hh => h5 hh.2)]
      exact k q _ _ _ _ _ _ _ _ _ _ _  (by omega) (by omega) e
  · rw [decide_eq_false h]
    conv => whnf
    have e : Sort.scanUp (fun x => Sort.ltInt x d[a]!) d j i = q := by
      rw [← hqe, scanUp_eq, if_neg (by simp only [Sort.ltInt, Bool.and_eq_true, decide_eq_true_eq]; exact fun hh => h (by omega))]
    exact k q _ _ _ _ _ _ _ _ _ _ _  (by omega) (by omega) e
theorem scan124d (d : Array Int) (a i j : Nat) (hd : d.size ≤ 1000) (ha : a < d.size) (hj : j < d.size) (hi1 : 1 ≤ i) (hij : i ≤ j + 1) (Q : Ex → List AV → List AObj → Prop) (x0 x1 x2 x3 x4 x5 x6 x7 x8 x9 x10 : AV)
    (k : ∀ q (y0 y1 y2 y3 y4 y5 y6 y7 y8 y9 y10 y11 : AV), q ≤ j → i ≤ q + 1 → Sort.scanDown (fun x => !Sort.ltInt x d[a]!) d i j = q → Q .normal (slots 168 [(0, Da id d.size), (1, I a), (10, I (i : Nat)), (11, I (q : Nat)), (118, y0), (119, y1), (120, y2), (121, y3), (122, y4), (123, y5), (124, y6), (125, y7), (126, y8), (127, y9), (128, y10), (129, y11)]) (H.set id (Cd d))) :
    wpR Go.Proofs.Try.prog ann124 124 lo none rc124_9 (slots 168 [(0, Da id d.size), (1, I a), (10, I (i : Nat)), (11, I (j : Nat)), (102, x0), (103, x1), (104, x2), (105, x3), (106, x4), (107, x5), (108, x6), (109, x7), (110, x8), (111, x9), (112, x10)]) (H.set id (Cd d)) Q := by
  have gs : ∀ c : AObj, (H.set id c)[id]? = some c := fun c => by rw [List.getElem?_set_self hid]
  unfold rc124_9
  conv => whnf
  refine .intro (fun m T H' => ∃ q, q ≤ j ∧ i ≤ q + 1 ∧ m = q ∧ Sort.scanDown (fun x => !Sort.ltInt x d[a]!) d i q = Sort.scanDown (fun x => !Sort.ltInt x d[a]!) d i j ∧ T = slots 168 [(0, Da id d.size), (1, I a), (10, I (i : Nat)), (11, I (q : Nat))] ∧ H' = H.set id (Cd d)) (j) ⟨j, by omega, by omega, rfl, rfl, rfl, rfl⟩ ?_
  rintro m T H' ⟨q, hq1, hq2, hm, hqe, rfl, rfl⟩
  unfold rc124_8
  conv => whnf
  by_cases h : ((i : Nat) : Int) ≤ ((q : Nat) : Int)
  · rw [decide_eq_true h]
    conv => whnf
    refine ⟨by omega, ?_⟩
    conv => whnf
    refine nthK_of (by first | exact gs _ | exact gss _ _ | assumption) ?_
    conv => whnf
    refine rdK (q) (by omega) (by omega) ?_
    conv => whnf
    refine ⟨by omega, ?_⟩
    conv => whnf
    refine nthK_of (by first | exact gs _ | exact gss _ _ | assumption) ?_
    conv => whnf
    refine rdK (a) (by omega) (by omega) ?_
    conv => whnf
    refine ⟨by first | rfl | simp only [List.all_cons, List.all_nil, pu0, pub, pu1, pu2, pu1', pu2', pun, puf, puP, puP', puQ, puQ', Bool.and_true, Bool.and_self], _, less_ok d[q]! d[a]!, acc0, ?_⟩
    conv => whnf
    by_cases h5 : d[q]! < d[a]!
    · rw [decide_eq_true h5]
      conv => whnf
      have e : Sort.scanDown (fun x => !Sort.ltInt x d[a]!) d i j = q := by
        rw [← hqe, scanDown_eq _ _ _ _ hi1, if_neg (by simp only [Sort.ltInt, Bool.and_eq_true, decide_eq_true_eq, Bool.not_eq_true', decide_eq_false_iff_not]; exact fun hh => hh.2 h5)]
      exact k q _ _ _ _ _ _ _ _ _ _ _ _  (by omega) (by omega) e
    · rw [decide_eq_false h5]
      conv => whnf
      exact ⟨(q - 1), by omega, q - 1, by omega, by omega, rfl, by rw [← hqe, scanDown_eq _ _ _ q hi1, if_pos (by simp only [Sort.ltInt, Bool.and_eq_true, decide_eq_true_eq, Bool.not_eq_true', decide_eq_false_iff_not]; exact ⟨by omega, h5⟩)], by rw [show ((q - 1 : Nat) : Int) = IntKind.i64.wrap ((q : Int) - 1) by rw [wrapI _ (by omega) (by omega)]; omega]; rfl, rfl⟩
  · rw [decide_eq_false h]
    conv => whnf
    have e : Sort.scanDown (fun x => !Sort.ltInt x d[a]!) d i j = q := by
      rw [← hqe, scanDown_eq _ _ _ _ hi1, if_neg (by simp only [Sort.ltInt, Bool.and_eq_true, decide_eq_true_eq, Bool.not_eq_true', decide_eq_false_iff_not]; exact fun hh => h (by omega))]
    exact k q _ _ _ _ _ _ _ _ _ _ _ _  (by omega) (by omega) e
end
end Go.Proofs.Ytlcebaejlnpdeaa.Ab

/-
  Contracts: slices' partitionEqualOrdered, partitionOrdered.
-/
namespace Go.Proofs.Ytlcebaejlnpdeaa.Ab
open Go
set_option maxRecDepth 20000
set_option maxHeartbeats 4000000
theorem partEq_step (a i j i2 j2 : Nat) (d : Array Int) (h1 : Sort.scanUp (fun x => !Sort.ltInt d[a]! x) d j i = i2) (h2 : Sort.scanDown (fun x => Sort.ltInt d[a]! x) d i2 j = j2) (hi : i ≤ i2) (hj : j2 ≤ j) :
    Sort.partEqLoop Sort.ltInt a i j d = if i2 > j2 then (i2, d) else Sort.partEqLoop Sort.ltInt a (i2 + 1) (j2 - 1) (Sort.swp d i2 j2) := by
  rw [Sort.partEqLoop.eq_1]
  simp only [h1, h2]
  split
  · rfl
  · rw [dif_pos (by omega)]
theorem part_step (a i j i2 j2 : Nat) (d : Array Int) (h1 : Sort.scanUp (fun x => Sort.ltInt x d[a]!) d j i = i2) (h2 : Sort.scanDown (fun x => !Sort.ltInt x d[a]!) d i2 j = j2) (hi : i ≤ i2) (hj : j2 ≤ j) :
    Sort.partLoop Sort.ltInt a i j d = if i2 > j2 then (j2, d) else Sort.partLoop Sort.ltInt a (i2 + 1) (j2 - 1) (Sort.swp d i2 j2) := by
  rw [Sort.partLoop.eq_1]
  simp only [h1, h2]
  split
  · rfl
  · rw [dif_pos (by omega)]
theorem cd_pair (d : Array Int) (i j : Nat) : AObj.cells (((d.setIfInBounds i d[j]!).setIfInBounds j d[i]!).toList.map I) = Cd (Sort.swp d i j) := rfl
section
variable {H : List AObj} {id lo : Nat} (hlo : lo ≤ id)
include hlo
theorem partEq_sem (d : Array Int) (a b p : Nat) (hd : d.size ≤ 1000) (hab : a < b) (hb : b ≤ d.size) (hp : p < d.size) (hH : H[id]? = some (Cd d)) :
    Sem Go.Proofs.Try.prog (.fn 123) [Da id d.size, I a, I b, I p] H lo (I (Sort.partitionEqual Sort.ltInt d a b p).1) (H.set id (Cd (Sort.partitionEqual Sort.ltInt d a b p).2)) := by
  have hid := (List.getElem?_eq_some_iff.1 hH).1
  have hbl : Nat.ble lo id = true := Nat.ble_eq_true_of_le hlo
  have gs : ∀ c : AObj, (H.set id c)[id]? = some c := fun c => by rw [List.getElem?_set_self hid]
  have gss : ∀ c e : AObj, ((H.set id c).set id e)[id]? = some e := fun c e => by rw [List.set_set, gs]
  refine fn_semQ hmix lk123 rfl ⟨by simp, fun j h1 h2 => by rw [List.getElem?_set_ne (by omega)]⟩ fun Q hQ => ?_
  unfold rc123 rc123_9
  obtain ⟨c8, g8⟩ : ∃ c, rc123_8 = c := ⟨_, rfl⟩
  rw [g8]
  conv => whnf
  refine ⟨by omega, ?_⟩
  conv => whnf
  refine nthK_of (by first | exact gs _ | exact gss _ _ | assumption) ?_
  conv => whnf
  refine rdK (p) (by omega) (by omega) ?_
  conv => whnf
  refine ⟨by omega, ?_⟩
  conv => whnf
  refine nthK_of (by first | exact gs _ | exact gss _ _ | assumption) ?_
  conv => whnf
  refine rdK (a) (by omega) (by omega) ?_
  conv => whnf
  refine ⟨by omega, ?_⟩
  conv => whnf
  rw [hbl]
  conv => whnf
  refine nthK_of (by first | exact gs _ | exact gss _ _ | assumption) ?_
  conv => whnf
  refine wrK (a) (by omega) (by first | omega | (simp only [Array.size_setIfInBounds]; omega)) ?_
  conv => whnf
  refine ⟨by omega, ?_⟩
  conv => whnf
  rw [hbl]
  conv => whnf
  refine nthK_of (by first | exact gs _ | exact gss _ _ | assumption) ?_
  conv => whnf
  refine wrK (p) (by omega) (by first | omega | (simp only [Array.size_setIfInBounds]; omega)) ?_
  conv => whnf
  subst g8
  unfold rc123_8
  obtain ⟨c7, g7⟩ : ∃ c, rc123_7 = c := ⟨_, rfl⟩
  rw [g7, List.set_set, cd_pair]
  conv => whnf
  rw [wrapS a (by omega), show IntKind.i64.wrap ((b : Int) - 1) = ((b - 1 : Nat) : Int) by rw [wrapI _ (by omega) (by omega)]; omega]
  subst g7
  unfold rc123_7
  obtain ⟨c2, g2⟩ : ∃ c, rc123_2 = c := ⟨_, rfl⟩
  obtain ⟨c4, g4⟩ : ∃ c, rc123_4 = c := ⟨_, rfl⟩
  obtain ⟨c6, g6⟩ : ∃ c, rc123_6 = c := ⟨_, rfl⟩
  rw [g2, g4, g6]
  conv => whnf
  refine .intro (fun m T H' => ∃ i j d', a + 1 ≤ i ∧ i ≤ j + 1 ∧ j + 1 ≤ b ∧ m = j + 1 - i ∧ d'.size = d.size ∧ Sort.partEqLoop Sort.ltInt a i j d' = Sort.partitionEqual Sort.ltInt d a b p ∧ T = slots 84 [(0, Da id d.size), (1, I a), (9, I (i : Nat)), (10, I (j : Nat))] ∧ H' = H.set id (Cd d')) (b - (a + 1)) ⟨a + 1, b - 1, Sort.swp d a p, by omega, by omega, by omega, by omega, swp_size _ _ _, rfl, rfl, rfl⟩ ?_
  rintro m T H' ⟨i, j, d', h1, h2, h3, hm, hds, he, rfl, rfl⟩
  conv => whnf
  subst g2
  rw [← hds]
  refine scan123a hid d' a i j (by omega) (by omega) (by omega) (by omega) h2 _ fun i2 y0 y1 y2 y3 y4 y5 y6 y7 y8 y9 y10 y11 k1 k2 k3 => ?_
  conv => whnf
  subst g4
  refine scan123b hid d' a i2 j (by omega) (by omega) (by omega) (by omega) (by omega) _ _ _ _ _ _ _ _ _ _ _ _ _ fun j2 z0 z1 z2 z3 z4 z5 z6 z7 z8 z9 z10 l1 l2 l3 => ?_
  conv => whnf
  rw [partEq_step a i j i2 j2 d' k3 l3 (by omega) (by omega)] at he
  by_cases h : (j2 : Int) < (i2 : Int)
  · rw [decide_eq_true h]
    rw [if_pos (by omega)] at he
    conv => whnf
    refine hQ _ _ _ ⟨.inr rfl, ?_, by rw [← he]; rfl⟩
    rw [← he]
    exact ⟨by simp, fun j o hj => .inr hj⟩
  · rw [decide_eq_false h]
    rw [if_neg (by omega)] at he
    conv => whnf
    have hne : i2 ≠ j2 := fun e => by
      have a1 := (Sort.scanUp_spec (fun x => !Sort.ltInt d'[a]! x) d' j _ i rfl).2.2.2 (by rw [k3]; omega)
      have a2 := (Sort.scanDown_spec (fun x => Sort.ltInt d'[a]! x) d' i2 j).2.2.2 (by rw [l3]; omega) (by rw [l3]; omega)
      rw [k3] at a1
      rw [l3, ← e] at a2
      simp only [Bool.not_eq_false'] at a1 a2
      rw [a1] at a2; cases a2
    subst g6
    unfold rc123_6
    obtain ⟨c5, g5⟩ : ∃ c, rc123_5 = c := ⟨_, rfl⟩
    rw [g5]
    conv => whnf
    refine ⟨by omega, ?_⟩
    conv => whnf
    refine nthK_of (by first | exact gs _ | exact gss _ _ | assumption) ?_
    conv => whnf
    refine rdK (j2) (by omega) (by omega) ?_
    conv => whnf
    refine ⟨by omega, ?_⟩
    conv => whnf
    refine nthK_of (by first | exact gs _ | exact gss _ _ | assumption) ?_
    conv => whnf
    refine rdK (i2) (by omega) (by omega) ?_
    conv => whnf
    refine ⟨by omega, ?_⟩
    conv => whnf
    rw [hbl]
    conv => whnf
    refine nthK_of (by first | exact gs _ | exact gss _ _ | assumption) ?_
    conv => whnf
    refine wrK (i2) (by omega) (by first | omega | (simp only [Array.size_setIfInBounds]; omega)) ?_
    conv => whnf
    refine ⟨by omega, ?_⟩
    conv => whnf
    rw [hbl]
    conv => whnf
    refine nthK_of (by first | exact gs _ | exact gss _ _ | assumption) ?_
    conv => whnf
    refine wrK (j2) (by omega) (by first | omega | (simp only [Array.size_setIfInBounds]; omega)) ?_
    conv => whnf
    subst g5
    unfold rc123_5
    rw [List.set_set, List.set_set, cd_pair]
    conv => whnf
    refine ⟨j2 - 1 + 1 - (i2 + 1), by omega, i2 + 1, j2 - 1, Sort.swp d' i2 j2, by omega, by omega, by omega, rfl, by rw [swp_size], he, ?_, rfl⟩
    rw [← wrapS i2 (by omega), show ((j2 - 1 : Nat) : Int) = IntKind.i64.wrap ((j2 : Int) - 1) by rw [wrapI _ (by omega) (by omega)]; omega]; rfl
theorem part_sem (d : Array Int) (a b p : Nat) (hd : d.size ≤ 1000) (hab : a < b) (hb : b ≤ d.size) (hp : p < d.size) (hH : H[id]? = some (Cd d)) :
    Sem Go.Proofs.Try.prog (.fn 124) [Da id d.size, I a, I b, I p] H lo (.tuple [I (Sort.partition Sort.ltInt d a b p).1, B (Sort.partition Sort.ltInt d a b p).2.1]) (H.set id (Cd (Sort.partition Sort.ltInt d a b p).2.2)) := by
  have hid := (List.getElem?_eq_some_iff.1 hH).1
  have hbl : Nat.ble lo id = true := Nat.ble_eq_true_of_le hlo
  have gs : ∀ c : AObj, (H.set id c)[id]? = some c := fun c => by rw [List.getElem?_set_self hid]
  have gss : ∀ c e : AObj, ((H.set id c).set id e)[id]? = some e := fun c e => by rw [List.set_set, gs]
  refine fn_semQ hmix lk124 rfl ⟨by simp, fun j h1 h2 => by rw [List.getElem?_set_ne (by omega)]⟩ fun Q hQ => ?_
  obtain ⟨d1, hd1⟩ : ∃ x, x = Sort.swp d a p := ⟨_, rfl⟩
  have hs1 : d1.size = d.size := by rw [hd1]; exact swp_size _ _ _
  unfold rc124 rc124_17
  obtain ⟨c16, g16⟩ : ∃ c, rc124_16 = c := ⟨_, rfl⟩
  rw [g16]
  conv => whnf
  refine ⟨by omega, ?_⟩
  conv => whnf
  refine nthK_of (by first | exact gs _ | exact gss _ _ | assumption) ?_
  conv => whnf
  refine rdK (p) (by omega) (by omega) ?_
  conv => whnf
  refine ⟨by omega, ?_⟩
  conv => whnf
  refine nthK_of (by first | exact gs _ | exact gss _ _ | assumption) ?_
  conv => whnf
  refine rdK (a) (by omega) (by omega) ?_
  conv => whnf
  refine ⟨by omega, ?_⟩
  conv => whnf
  rw [hbl]
  conv => whnf
  refine nthK_of (by first | exact gs _ | exact gss _ _ | assumption) ?_
  conv => whnf
  refine wrK (a) (by omega) (by first | omega | (simp only [Array.size_setIfInBounds]; omega)) ?_
  conv => whnf
  refine ⟨by omega, ?_⟩
  conv => whnf
  rw [hbl]
  conv => whnf
  refine nthK_of (by first | exact gs _ | exact gss _ _ | assumption) ?_
  conv => whnf
  refine wrK (p) (by omega) (by first | omega | (simp only [Array.size_setIfInBounds]; omega)) ?_
  conv => whnf
  subst g16
  unfold rc124_16
  obtain ⟨c2, g2⟩ : ∃ c, rc124_2 = c := ⟨_, rfl⟩
  obtain ⟨c4, g4⟩ : ∃ c, rc124_4 = c := ⟨_, rfl⟩
  obtain ⟨c5, g5⟩ : ∃ c, rc124_5 = c := ⟨_, rfl⟩
  obtain ⟨c15, g15⟩ : ∃ c, rc124_15 = c := ⟨_, rfl⟩
  rw [g2, g4, g5, g15, List.set_set, cd_pair, ← hd1]
  conv => whnf
  rw [wrapS a (by omega), show IntKind.i64.wrap ((b : Int) - 1) = ((b - 1 : Nat) : Int) by rw [wrapI _ (by omega) (by omega)]; omega, ← hs1]
  subst g2
  refine scan124a hid d1 a (a + 1) (b - 1) (by omega) (by omega) (by omega) (by omega) (by omega) _ _ _ _ fun i2 y0 y1 y2 y3 y4 y5 y6 y7 y8 y9 y10 k1 k2 k3 => ?_
  conv => whnf
  subst g4
  refine scan124b hid d1 a i2 (b - 1) (by omega) (by omega) (by omega) (by omega) (by omega) _ _ _ _ _ _ _ _ _ _ _ _ fun j2 z0 z1 z2 z3 z4 z5 z6 z7 z8 z9 z10 z11 l1 l2 l3 => ?_
  conv => whnf
  have hP : Sort.partition Sort.ltInt d a b p = if i2 > j2 then (j2, true, Sort.swp d1 j2 a) else ((Sort.partLoop Sort.ltInt a (i2 + 1) (j2 - 1) (Sort.swp d1 i2 j2)).1, false, Sort.swp (Sort.partLoop Sort.ltInt a (i2 + 1) (j2 - 1) (Sort.swp d1 i2 j2)).2 (Sort.partLoop Sort.ltInt a (i2 + 1) (j2 - 1) (Sort.swp d1 i2 j2)).1 a) := by
    rw [Sort.partition]
    simp only [← hd1, k3, l3]
  rw [hP] at hQ
  clear hP
  by_cases h : (j2 : Int) < (i2 : Int)
  · rw [decide_eq_true h]
    rw [if_pos (by omega)] at hQ
    conv => whnf
    subst g5
    unfold rc124_5
    conv => whnf
    refine ⟨by omega, ?_⟩
    conv => whnf
    refine nthK_of (by first | exact gs _ | exact gss _ _ | assumption) ?_
    conv => whnf
    refine rdK (a) (by omega) (by omega) ?_
    conv => whnf
    refine ⟨by omega, ?_⟩
    conv => whnf
    refine nthK_of (by first | exact gs _ | exact gss _ _ | assumption) ?_
    conv => whnf
    refine rdK (j2) (by omega) (by omega) ?_
    conv => whnf
    refine ⟨by omega, ?_⟩
    conv => whnf
    rw [hbl]
    conv => whnf
    refine nthK_of (by first | exact gs _ | exact gss _ _ | assumption) ?_
    conv => whnf
    refine wrK (j2) (by omega) (by first | omega | (simp only [Array.size_setIfInBounds]; omega)) ?_
    conv => whnf
    refine ⟨by omega, ?_⟩
    conv => whnf
    rw [hbl]
    conv => whnf
    refine nthK_of (by first | exact gs _ | exact gss _ _ | assumption) ?_
    conv => whnf
    refine wrK (a) (by omega) (by first | omega | (simp only [Array.size_setIfInBounds]; omega)) ?_
    conv => whnf
    rw [List.set_set, List.set_set, cd_pair]
    exact hQ _ _ _ ⟨.inr rfl, ⟨by simp, fun j o hj => .inr hj⟩, rfl⟩
  · rw [decide_eq_false h]
    rw [if_neg (by omega)] at hQ
    conv => whnf
    have hne : i2 ≠ j2 := fun e => by
      have a1 := (Sort.scanUp_spec (fun x => Sort.ltInt x d1[a]!) d1 (b - 1) _ (a + 1) rfl).2.2.2 (by rw [k3]; omega)
      have a2 := (Sort.scanDown_spec (fun x => !Sort.ltInt x d1[a]!) d1 i2 (b - 1)).2.2.2 (by rw [l3]; omega) (by rw [l3]; omega)
      rw [k3] at a1
      rw [l3, ← e] at a2
      simp only [Bool.not_eq_false'] at a1 a2
      rw [a1] at a2; cases a2
    subst g15
    unfold rc124_15
    obtain ⟨c14, g14⟩ : ∃ c, rc124_14 = c := ⟨_, rfl⟩
    rw [g14]
    conv => whnf
    refine ⟨by omega, ?_⟩
    conv => whnf
    refine nthK_of (by first | exact gs _ | exact gss _ _ | assumption) ?_
    conv => whnf
    refine rdK (j2) (by omega) (by omega) ?_
    conv => whnf
    refine ⟨by omega, ?_⟩
    conv => whnf
    refine nthK_of (by first | exact gs _ | exact gss _ _ | assumption) ?_
    conv => whnf
    refine rdK (i2) (by omega) (by omega) ?_
    conv => whnf
    refine ⟨by omega, ?_⟩
    conv => whnf
    rw [hbl]
    conv => whnf
    refine nthK_of (by first | exact gs _ | exact gss _ _ | assumption) ?_
    conv => whnf
    refine wrK (i2) (by omega) (by first | omega | (simp only [Array.size_setIfInBounds]; omega)) ?_
    conv => whnf
    refine ⟨by omega, ?_⟩
    conv => whnf
    rw [hbl]
    conv => whnf
    refine nthK_of (by first | exact gs _ | exact gss _ _ | assumption) ?_
    conv => whnf
    refine wrK (j2) (by omega) (by first | omega | (simp only [Array.size_setIfInBounds]; omega)) ?_
    conv => whnf
    subst g14
    unfold rc124_14
    obtain ⟨c12, g12⟩ : ∃ c, rc124_12 = c := ⟨_, rfl⟩
    obtain ⟨c13, g13⟩ : ∃ c, rc124_13 = c := ⟨_, rfl⟩
    rw [g12, g13, List.set_set, List.set_set, cd_pair]
    conv => whnf
    rw [wrapS i2 (by omega), show IntKind.i64.wrap ((j2 : Int) - 1) = ((j2 - 1 : Nat) : Int) by rw [wrapI _ (by omega) (by omega)]; omega]
    subst g12
    unfold rc124_12
    obtain ⟨c7, g7⟩ : ∃ c, rc124_7 = c := ⟨_, rfl⟩
    obtain ⟨c9, g9⟩ : ∃ c, rc124_9 = c := ⟨_, rfl⟩
    obtain ⟨c11, g11⟩ : ∃ c, rc124_11 = c := ⟨_, rfl⟩
    rw [g7, g9, g11]
    conv => whnf
    generalize hR : Sort.partLoop Sort.ltInt a (i2 + 1) (j2 - 1) (Sort.swp d1 i2 j2) = R at hQ
    refine .intro (fun m T H' => ∃ i j d', a + 1 ≤ i ∧ i ≤ j + 1 ∧ j + 1 ≤ b ∧ m = j + 1 - i ∧ d'.size = d1.size ∧ Sort.partLoop Sort.ltInt a i j d' = R ∧ T = slots 168 [(0, Da id d'.size), (1, I a), (10, I (i : Nat)), (11, I (j : Nat))] ∧ H' = H.set id (Cd d')) (j2 - 1 + 1 - (i2 + 1)) ⟨i2 + 1, j2 - 1, Sort.swp d1 i2 j2, by omega, by omega, by omega, by omega, swp_size _ _ _, hR, by rw [swp_size]; rfl, rfl⟩ ?_
    rintro m T H' ⟨i, j, d', h1, h2, h3, hm, hds, he, rfl, rfl⟩
    conv => whnf
    subst g7
    refine scan124c hid d' a i j (by omega) (by omega) (by omega) (by omega) h2 _ fun i3 y0 y1 y2 y3 y4 y5 y6 y7 y8 y9 y10 k4 k5 k6 => ?_
    conv => whnf
    subst g9
    refine scan124d hid d' a i3 j (by omega) (by omega) (by omega) (by omega) (by omega) _ _ _ _ _ _ _ _ _ _ _ _ fun j3 z0 z1 z2 z3 z4 z5 z6 z7 z8 z9 z10 z11 l4 l5 l6 => ?_
    conv => whnf
    rw [part_step a i j i3 j3 d' k6 l6 (by omega) (by omega)] at he
    by_cases h : (j3 : Int) < (i3 : Int)
    · rw [decide_eq_true h]
      rw [if_pos (by omega)] at he
      conv => whnf
      subst g13
      unfold rc124_13
      conv => whnf
      subst he
      refine ⟨by omega, ?_⟩
      conv => whnf
      refine nthK_of (by first | exact gs _ | exact gss _ _ | assumption) ?_
      conv => whnf
      refine rdK (a) (by omega) (by omega) ?_
      conv => whnf
      refine ⟨by omega, ?_⟩
      conv => whnf
      refine nthK_of (by first | exact gs _ | exact gss _ _ | assumption) ?_
      conv => whnf
      refine rdK (j3) (by omega) (by omega) ?_
      conv => whnf
      refine ⟨by omega, ?_⟩
      conv => whnf
      rw [hbl]
      conv => whnf
      refine nthK_of (by first | exact gs _ | exact gss _ _ | assumption) ?_
      conv => whnf
      refine wrK (j3) (by omega) (by first | omega | (simp only [Array.size_setIfInBounds]; omega)) ?_
      conv => whnf
      refine ⟨by omega, ?_⟩
      conv => whnf
      rw [hbl]
      conv => whnf
      refine nthK_of (by first | exact gs _ | exact gss _ _ | assumption) ?_
      conv => whnf
      refine wrK (a) (by omega) (by first | omega | (simp only [Array.size_setIfInBounds]; omega)) ?_
      conv => whnf
      rw [List.set_set, List.set_set, cd_pair]
      exact hQ _ _ _ ⟨.inr rfl, ⟨by simp, fun j o hj => .inr hj⟩, rfl⟩
    · rw [decide_eq_false h]
      rw [if_neg (by omega)] at he
      conv => whnf
      have hne : i3 ≠ j3 := fun e => by
        have a1 := (Sort.scanUp_spec (fun x => Sort.ltInt x d'[a]!) d' j _ i rfl).2.2.2 (by rw [k6]; omega)
        have a2 := (Sort.scanDown_spec (fun x => !Sort.ltInt x d'[a]!) d' i3 j).2.2.2 (by rw [l6]; omega) (by rw [l6]; omega)
        rw [k6] at a1
        rw [l6, ← e] at a2
        simp only [Bool.not_eq_false'] at a1 a2
        rw [a1] at a2; cases a2
      subst g11
      unfold rc124_11
      obtain ⟨c10, g10⟩ : ∃ c, rc124_10 = c := ⟨_, rfl⟩
      rw [g10]
      conv => whnf
      refine ⟨by omega, ?_⟩
      conv => whnf
      refine nthK_of (by first | exact gs _ | exact gss _ _ | assumption) ?_
      conv => whnf
      refine rdK (j3) (by omega) (by omega) ?_
      conv => whnf
      refine ⟨by omega, ?_⟩
      conv => whnf
      refine nthK_of (by first | exact gs _ | exact gss _ _ | assumption) ?_
      conv => whnf
      refine rdK (i3) (by omega) (by omega) ?_
      conv => whnf
      refine ⟨by omega, ?_⟩
      conv => whnf
      rw [hbl]
      conv => whnf
      refine nthK_of (by first | exact gs _ | exact gss _ _ | assumption) ?_
      conv => whnf
      refine wrK (i3) (by omega) (by first | omega | (simp only [Array.size_setIfInBounds]; omega)) ?_
      conv => whnf
      refine ⟨by omega, ?_⟩
      conv => whnf
      rw [hbl]
      conv => whnf
      refine nthK_of (by first | exact gs _ | exact gss _ _ | assumption) ?_
      conv => whnf
      refine wrK (j3) (by omega) (by first | omega | (simp only [Array.size_setIfInBounds]; omega)) ?_
      conv => whnf
      subst g10
      unfold rc124_10
      rw [List.set_set, List.set_set, cd_pair]
      conv => whnf
      refine ⟨j3 - 1 + 1 - (i3 + 1), by omega, i3 + 1, j3 - 1, Sort.swp d' i3 j3, by omega, by omega, by omega, rfl, by rw [swp_size]; exact hds, he, ?_, rfl⟩
      rw [← wrapS i3 (by omega), show ((j3 - 1 : Nat) : Int) = IntKind.i64.wrap ((j3 : Int) - 1) by rw [wrapI _ (by omega) (by omega)]; omega, swp_size]; rfl
end
end Go.Proofs.Ytlcebaejlnpdeaa.Ab

/-
  Contracts: slices' pdqsortOrdered and Sort, of fewer than 32.
-/
namespace Go.Proofs.Ytlcebaejlnpdeaa.Ab
open Go
set_option maxRecDepth 20000
set_option maxHeartbeats 4000000
theorem partEq_range (a b : Nat) : ∀ (n i j : Nat) (d : Array Int), j + 1 - i ≤ n → a < i → i ≤ b → j < b → a < (Sort.partEqLoop Sort.ltInt a i j d).1 ∧ (Sort.partEqLoop Sort.ltInt a i j d).1 ≤ b ∧ (Sort.partEqLoop Sort.ltInt a i j d).2.size = d.size := by
  intro n
  induction n with
  | zero =>
    intro i j d hn hi hb hj
    have s1 := Sort.scanUp_spec (fun x => !Sort.ltInt d[a]! x) d j _ i rfl
    have s2 := Sort.scanDown_spec (fun x => Sort.ltInt d[a]! x) d (Sort.scanUp (fun x => !Sort.ltInt d[a]! x) d j i) j
    rw [partEq_step a i j _ _ d rfl rfl s1.1 s2.1]
    have e : Sort.scanUp (fun x => !Sort.ltInt d[a]! x) d j i = i := by rw [scanUp_eq, if_neg (by simp; omega)]
    rw [e] at s2 ⊢
    rw [if_pos (by omega)]
    exact ⟨hi, hb, rfl⟩
  | succ n ih =>
    intro i j d hn hi hb hj
    have s1 := Sort.scanUp_spec (fun x => !Sort.ltInt d[a]! x) d j _ i rfl
    have s2 := Sort.scanDown_spec (fun x => Sort.ltInt d[a]! x) d (Sort.scanUp (fun x => !Sort.ltInt d[a]! x) d j i) j
    rw [partEq_step a i j _ _ d rfl rfl s1.1 s2.1]
    obtain ⟨i2, h2⟩ : ∃ x, x = Sort.scanUp (fun x => !Sort.ltInt d[a]! x) d j i := ⟨_, rfl⟩
    rw [← h2] at s1 s2 ⊢
    obtain ⟨j2, h3⟩ : ∃ x, x = Sort.scanDown (fun x => Sort.ltInt d[a]! x) d i2 j := ⟨_, rfl⟩
    rw [← h3] at s2 ⊢
    have hib : i2 ≤ b := by
      by_cases h : i ≤ j + 1
      · have := s1.2.1 h; omega
      · have e : Sort.scanUp (fun x => !Sort.ltInt d[a]! x) d j i = i := by rw [scanUp_eq, if_neg (by simp; omega)]
        omega
    split
    · exact ⟨by have := s1.1; show a < i2; omega, hib, rfl⟩
    · have := ih (i2 + 1) (j2 - 1) (Sort.swp d i2 j2) (by have := s1.1; have := s2.1; omega) (by have := s1.1; omega) (by have := s2.1; omega) (by have := s2.1; omega)
      rw [swp_size] at this; exact this
theorem partitionEqual_range (d : Array Int) (a b p : Nat) (hab : a < b) : a < (Sort.partitionEqual Sort.ltInt d a b p).1 ∧ (Sort.partitionEqual Sort.ltInt d a b p).1 ≤ b ∧ (Sort.partitionEqual Sort.ltInt d a b p).2.size = d.size := by
  have := partEq_range a b _ (a + 1) (b - 1) (Sort.swp d a p) (Nat.le_refl _) (by omega) (by omega) (by omega)
  rw [swp_size] at this; exact this
/-- How many variables pdqsort leaves behind. -/
def pdqN (d : Array Int) (a b limit : Nat) (wasBalanced wasPartitioned : Bool) : Nat :=
  if b - a ≤ 12 then 0 else
  if limit = 0 then 0 else
  let n1 := if !wasBalanced then 2 else 1
  let d1 := if !wasBalanced then Sort.breakPatterns d a b else d
  let limit := if !wasBalanced then limit - 1 else limit
  let c := Sort.choosePivot Sort.ltInt d1 a b
  let d2 := if c.2 = .decreasing then Sort.reverseRange d1 a b else d1
  let pivot := if c.2 = .decreasing then (b - 1) - (c.1 - a) else c.1
  let hint := if c.2 = .decreasing then Sort.Hint.increasing else c.2
  let pi := if wasBalanced && wasPartitioned && hint = .increasing then Sort.partialInsertionSort Sort.ltInt d2 a b else (d2, false)
  if pi.2 then n1 else
  let d3 := pi.1
  if a > 0 && !Sort.ltInt d3[a - 1]! d3[pivot]! then
    match Sort.partitionEqual Sort.ltInt d3 a b pivot with
    | (mid, d4) => if _h : a < mid ∧ mid ≤ b then n1 + pdqN d4 mid b limit wasBalanced wasPartitioned else 0
  else
    match Sort.partition Sort.ltInt d3 a b pivot with
    | (mid, alreadyPartitioned, d4) =>
      if _h : a ≤ mid ∧ mid < b then
        if mid - a < b - mid then
          n1 + pdqN d4 a mid limit true true + pdqN (Sort.pdq Sort.ltInt d4 a mid limit true true) (mid + 1) b limit (decide (mid - a ≥ (b - a) / 8)) alreadyPartitioned
        else
          n1 + pdqN d4 (mid + 1) b limit true true + pdqN (Sort.pdq Sort.ltInt d4 (mid + 1) b limit true true) a mid limit (decide (b - mid ≥ (b - a) / 8)) alreadyPartitioned
      else 0
termination_by b - a
decreasing_by all_goals omega
/-- The dead. -/
abbrev Dd (n : Nat) : List AObj := List.replicate n .dead
theorem dd_add (X : List AObj) (m n : Nat) : X ++ Dd m ++ Dd n = X ++ Dd (m + n) := by rw [List.append_assoc, List.replicate_append_replicate]
theorem dd_one (X : List AObj) (m : Nat) : X ++ Dd m ++ [.dead] = X ++ Dd (m + 1) := dd_add X m 1
theorem dd_set (X : List AObj) (x y : AObj) (m id : Nat) (h : id < X.length) : (X.set id x ++ Dd m).set id y = X.set id y ++ Dd m := by
  rw [List.set_append_left _ _ (by simpa using h), List.set_set]
theorem dd_get (X : List AObj) (x : AObj) (m id : Nat) (h : id < X.length) : (X.set id x ++ Dd m)[id]? = some x := by
  rw [List.getElem?_append_left (by simpa using h), List.getElem?_set_self h]
theorem partial_same (d : Array Int) (a b : Nat) (h50 : b - a < 50) : (Sort.partialInsertionSort Sort.ltInt d a b).1 = d := by
  rw [Sort.partialInsertionSort, Sort.partialIns]
  by_cases h : Sort.scanSorted Sort.ltInt d b (a + 1) = b
  · simp [h]
  · simp [h, h50]
/-- One round. -/
theorem pdq_round {d : Array Int} {a b limit : Nat} {wb wp : Bool} (h12 : ¬ b - a ≤ 12) (hl : ¬ limit = 0) (h50 : b - a < 50) {d1 d2 : Array Int} {l1 n1 pivot : Nat} {c : Nat × Sort.Hint} {hint : Sort.Hint} {fin : Bool}
    (e1 : d1 = if !wb then Sort.breakPatterns d a b else d) (e2 : l1 = if !wb then limit - 1 else limit) (en : n1 = if !wb then 2 else 1) (ec : c = Sort.choosePivot Sort.ltInt d1 a b) (ed : d2 = if c.2 = .decreasing then Sort.reverseRange d1 a b else d1)
    (ep : pivot = if c.2 = .decreasing then (b - 1) - (c.1 - a) else c.1) (eh : hint = if c.2 = .decreasing then Sort.Hint.increasing else c.2) (ef : fin = (wb && wp && decide (hint = .increasing) && (Sort.partialInsertionSort Sort.ltInt d2 a b).2)) :
    Sort.pdq Sort.ltInt d a b limit wb wp = (if fin then d2 else
      if a > 0 && !Sort.ltInt d2[a - 1]! d2[pivot]! then Sort.pdq Sort.ltInt (Sort.partitionEqual Sort.ltInt d2 a b pivot).2 (Sort.partitionEqual Sort.ltInt d2 a b pivot).1 b l1 wb wp
      else if a ≤ (Sort.partition Sort.ltInt d2 a b pivot).1 ∧ (Sort.partition Sort.ltInt d2 a b pivot).1 < b then
        if (Sort.partition Sort.ltInt d2 a b pivot).1 - a < b - (Sort.partition Sort.ltInt d2 a b pivot).1 then
          Sort.pdq Sort.ltInt (Sort.pdq Sort.ltInt (Sort.partition Sort.ltInt d2 a b pivot).2.2 a (Sort.partition Sort.ltInt d2 a b pivot).1 l1 true true) ((Sort.partition Sort.ltInt d2 a b pivot).1 + 1) b l1 (decide ((Sort.partition Sort.ltInt d2 a b pivot).1 - a ≥ (b - a) / 8)) (Sort.partition Sort.ltInt d2 a b pivot).2.1
        else
          Sort.pdq Sort.ltInt (Sort.pdq Sort.ltInt (Sort.partition Sort.ltInt d2 a b pivot).2.2 ((Sort.partition Sort.ltInt d2 a b pivot).1 + 1) b l1 true true) a (Sort.partition Sort.ltInt d2 a b pivot).1 l1 (decide (b - (Sort.partition Sort.ltInt d2 a b pivot).1 ≥ (b - a) / 8)) (Sort.partition Sort.ltInt d2 a b pivot).2.1
      else (Sort.partition Sort.ltInt d2 a b pivot).2.2) ∧
    pdqN d a b limit wb wp = (if fin then n1 else
      if a > 0 && !Sort.ltInt d2[a - 1]! d2[pivot]! then n1 + pdqN (Sort.partitionEqual Sort.ltInt d2 a b pivot).2 (Sort.partitionEqual Sort.ltInt d2 a b pivot).1 b l1 wb wp
      else if a ≤ (Sort.partition Sort.ltInt d2 a b pivot).1 ∧ (Sort.partition Sort.ltInt d2 a b pivot).1 < b then
        if (Sort.partition Sort.ltInt d2 a b pivot).1 - a < b - (Sort.partition Sort.ltInt d2 a b pivot).1 then
          n1 + pdqN (Sort.partition Sort.ltInt d2 a b pivot).2.2 a (Sort.partition Sort.ltInt d2 a b pivot).1 l1 true true + pdqN (Sort.pdq Sort.ltInt (Sort.partition Sort.ltInt d2 a b pivot).2.2 a (Sort.partition Sort.ltInt d2 a b pivot).1 l1 true true) ((Sort.partition Sort.ltInt d2 a b pivot).1 + 1) b l1 (decide ((Sort.partition Sort.ltInt d2 a b pivot).1 - a ≥ (b - a) / 8)) (Sort.partition Sort.ltInt d2 a b pivot).2.1
        else
          n1 + pdqN (Sort.partition Sort.ltInt d2 a b pivot).2.2 ((Sort.partition Sort.ltInt d2 a b pivot).1 + 1) b l1 true true + pdqN (Sort.pdq Sort.ltInt (Sort.partition Sort.ltInt d2 a b pivot).2.2 ((Sort.partition Sort.ltInt d2 a b pivot).1 + 1) b l1 true true) a (Sort.partition Sort.ltInt d2 a b pivot).1 l1 (decide (b - (Sort.partition Sort.ltInt d2 a b pivot).1 ≥ (b - a) / 8)) (Sort.partition Sort.ltInt d2 a b pivot).2.1
      else 0) := by
  have hr := partitionEqual_range d2 a b pivot (by omega)
  have hpi : (if wb && wp && decide (hint = .increasing) then Sort.partialInsertionSort Sort.ltInt d2 a b else (d2, false)) = (d2, fin) := by
    rw [ef]
    split
    · rename_i h
      rw [h, Bool.true_and, ← partial_same d2 a b h50]
      simp only [partial_same d2 a b h50]
      exact Prod.ext (partial_same d2 a b h50) rfl
    · rename_i h
      rw [show (wb && wp && decide (hint = .increasing)) = false by simpa using h]; rfl
  constructor
  · rw [Sort.pdq]
    simp only [if_neg h12, if_neg hl, ← e1, ← e2, ← ec, ← ed, ← ep, ← eh, hpi, dif_pos (And.intro hr.1 hr.2.1), dite_eq_ite]
  · rw [pdqN]
    simp only [if_neg h12, if_neg hl, ← e1, ← e2, ← en, ← ec, ← ed, ← ep, ← eh, hpi, dif_pos (And.intro hr.1 hr.2.1), dite_eq_ite]
theorem rev_size (d : Array Int) (a b : Nat) (h : a ≤ b) (hb : b ≤ d.size) : (Sort.reverseRange d a b).size = d.size := (Sort.reverseRange_holds d a b h hb).1
theorem brk_psize (d : Array Int) (a b : Nat) (h : a ≤ b) (hb : b ≤ d.size) : (Sort.breakPatterns d a b).size = d.size := (Sort.breakPatterns_holds d a b h hb).1
theorem hint_two (h : Sort.Hint) : (hintI h = 2) ↔ h = .decreasing := by cases h <;> simp [hintI]
theorem hint_one (h : Sort.Hint) : (hintI h = 1) ↔ h = .increasing := by cases h <;> simp [hintI]
theorem pdq_size : ∀ (n : Nat) (d : Array Int) (a b limit : Nat) (wb wp : Bool), b - a ≤ n → a ≤ b → b ≤ d.size → b - a < 50 → (Sort.pdq Sort.ltInt d a b limit wb wp).size = d.size := by
  intro n
  induction n using Nat.strongRecOn with
  | _ n IH =>
  intro d a b limit wb wp hn ha hb h50
  by_cases h12 : b - a ≤ 12
  · rw [Sort.pdq, if_pos h12]; exact (Sort.insertionSort_holds (lt := Sort.ltInt) Sort.swo_ltInt d a b ha hb).1.1
  by_cases hl : limit = 0
  · rw [Sort.pdq, if_neg h12, if_pos hl]; exact (Sort.heapSort_holds (lt := Sort.ltInt) Sort.swo_ltInt d a b ha hb).1.1
  obtain ⟨d1, e1⟩ : ∃ x, x = if !wb then Sort.breakPatterns d a b else d := ⟨_, rfl⟩
  obtain ⟨l1, e2⟩ : ∃ x, x = if !wb then limit - 1 else limit := ⟨_, rfl⟩
  obtain ⟨n1, en⟩ : ∃ x, x = if !wb then 2 else 1 := ⟨_, rfl⟩
  obtain ⟨ch, ec⟩ : ∃ x, x = Sort.choosePivot Sort.ltInt d1 a b := ⟨_, rfl⟩
  obtain ⟨d2, ed⟩ : ∃ x, x = if ch.2 = .decreasing then Sort.reverseRange d1 a b else d1 := ⟨_, rfl⟩
  obtain ⟨pivot, ep⟩ : ∃ x, x = if ch.2 = .decreasing then (b - 1) - (ch.1 - a) else ch.1 := ⟨_, rfl⟩
  obtain ⟨hint, eh⟩ : ∃ x, x = if ch.2 = .decreasing then Sort.Hint.increasing else ch.2 := ⟨_, rfl⟩
  obtain ⟨fin, ef⟩ : ∃ x, x = (wb && wp && decide (hint = .increasing) && (Sort.partialInsertionSort Sort.ltInt d2 a b).2) := ⟨_, rfl⟩
  obtain ⟨q1, q2⟩ := pdq_round (wb := wb) (wp := wp) h12 hl h50 e1 e2 en ec ed ep eh ef
  rw [q1]
  have s1 : d1.size = d.size := by
    rw [e1]; split
    · exact brk_psize _ _ _ ha hb
    · rfl
  have s2 : d2.size = d.size := by
    rw [ed]; split
    · rw [rev_size _ _ _ ha (by omega)]; exact s1
    · exact s1
  have hcr := Sort.choosePivot_holds Sort.ltInt d1 a b (by omega)
  rw [← ec] at hcr
  have hp : a ≤ pivot ∧ pivot < b := by rw [ep]; split <;> omega
  have hpr := Sort.partition_holds (lt := Sort.ltInt) Sort.swo_ltInt d2 a b pivot hp.1 hp.2 (by omega)
  have hq := partitionEqual_range d2 a b pivot (by omega)
  have s4 := hpr.2.2.1.1
  split
  · exact s2
  · split
    · rw [IH _ (by omega) _ _ _ _ _ _ (Nat.le_refl _) (by omega) (by omega) (by omega)]; omega
    · rw [if_pos ⟨hpr.1, hpr.2.1⟩]
      split
      · have := IH (Sort.partition Sort.ltInt d2 a b pivot).1 |> fun _ => IH ((Sort.partition Sort.ltInt d2 a b pivot).1 - a) (by omega) (Sort.partition Sort.ltInt d2 a b pivot).2.2 a (Sort.partition Sort.ltInt d2 a b pivot).1 l1 true true (Nat.le_refl _) hpr.1 (by omega) (by omega)
        rw [IH _ (by omega) _ _ _ _ _ _ (Nat.le_refl _) (by omega) (by omega) (by omega)]; omega
      · have := IH (b - ((Sort.partition Sort.ltInt d2 a b pivot).1 + 1)) (by omega) (Sort.partition Sort.ltInt d2 a b pivot).2.2 ((Sort.partition Sort.ltInt d2 a b pivot).1 + 1) b l1 true true (Nat.le_refl _) (by omega) (by omega) (by omega)
        rw [IH ((Sort.partition Sort.ltInt d2 a b pivot).1 - a) (by omega) _ _ _ _ _ _ (Nat.le_refl _) (by omega) (by omega) (by omega)]; omega
def keep114 : List Bool := [true, true, true, true, false, false, false, false, true, true, false, false, false, false, false, false, false, false, false, false, false, false, false, false, false, false, false, false, false, false, false, false, false, false, false, false, false, false, false, false, false, false, false, false, false, false, false, false, false, false, false, false, false, false, false, false, false, false, false, false, false, false, false, false, false, false, false, false, false, false, false, false, false, false, false, false, false, false, false, false, false, false, false, false, false, false, false, false, false, false, false, false, false, false, false, false, false, false, false, false, false, false, false, false, false, false, false, false, false, false, false, false, false, false, false, false, false, false, false, false, false, false, false, false, false, false, false, false, false, false, false, false, false, false]
theorem pdq_tail3 {n : Nat} {H : List AObj} {id lo : Nat} {d d2 R : Array Int} {a b l1 n0 N M pivot : Nat} {wb wp : Bool} (hlo : lo ≤ id)
    (IH : ∀ m, m < n → ∀ (H : List AObj) (id lo : Nat) (d : Array Int) (a b limit : Nat), b - a ≤ m → lo ≤ id → d.size < 32 → a ≤ b → b ≤ d.size → limit ≤ 100 → H[id]? = some (Cd d) →
      Sem Go.Proofs.Try.prog (.fn 114) [Da id d.size, I a, I b, I limit] H lo (.tuple []) (H.set id (Cd (Sort.pdq Sort.ltInt d a b limit true true)) ++ Dd (pdqN d a b limit true true)))
    (hid : id < H.length) (hd : d.size < 32) (hn : b - a ≤ n) (hb : b ≤ d.size) (h12 : 12 < b - a) (hl1 : l1 ≤ 100) (s2 : d2.size = d.size) (hp1 : a ≤ pivot) (hp2 : pivot < b)
    (hR : (if a ≤ (Sort.partition Sort.ltInt d2 a b pivot).1 ∧ (Sort.partition Sort.ltInt d2 a b pivot).1 < b then
        if (Sort.partition Sort.ltInt d2 a b pivot).1 - a < b - (Sort.partition Sort.ltInt d2 a b pivot).1 then
          Sort.pdq Sort.ltInt (Sort.pdq Sort.ltInt (Sort.partition Sort.ltInt d2 a b pivot).2.2 a (Sort.partition Sort.ltInt d2 a b pivot).1 l1 true true) ((Sort.partition Sort.ltInt d2 a b pivot).1 + 1) b l1 (decide ((Sort.partition Sort.ltInt d2 a b pivot).1 - a ≥ (b - a) / 8)) (Sort.partition Sort.ltInt d2 a b pivot).2.1
        else
          Sort.pdq Sort.ltInt (Sort.pdq Sort.ltInt (Sort.partition Sort.ltInt d2 a b pivot).2.2 ((Sort.partition Sort.ltInt d2 a b pivot).1 + 1) b l1 true true) a (Sort.partition Sort.ltInt d2 a b pivot).1 l1 (decide (b - (Sort.partition Sort.ltInt d2 a b pivot).1 ≥ (b - a) / 8)) (Sort.partition Sort.ltInt d2 a b pivot).2.1
      else (Sort.partition Sort.ltInt d2 a b pivot).2.2) = R)
    (hM : N + (if a ≤ (Sort.partition Sort.ltInt d2 a b pivot).1 ∧ (Sort.partition Sort.ltInt d2 a b pivot).1 < b then
        if (Sort.partition Sort.ltInt d2 a b pivot).1 - a < b - (Sort.partition Sort.ltInt d2 a b pivot).1 then
          n0 + pdqN (Sort.partition Sort.ltInt d2 a b pivot).2.2 a (Sort.partition Sort.ltInt d2 a b pivot).1 l1 true true + pdqN (Sort.pdq Sort.ltInt (Sort.partition Sort.ltInt d2 a b pivot).2.2 a (Sort.partition Sort.ltInt d2 a b pivot).1 l1 true true) ((Sort.partition Sort.ltInt d2 a b pivot).1 + 1) b l1 (decide ((Sort.partition Sort.ltInt d2 a b pivot).1 - a ≥ (b - a) / 8)) (Sort.partition Sort.ltInt d2 a b pivot).2.1
        else
          n0 + pdqN (Sort.partition Sort.ltInt d2 a b pivot).2.2 ((Sort.partition Sort.ltInt d2 a b pivot).1 + 1) b l1 true true + pdqN (Sort.pdq Sort.ltInt (Sort.partition Sort.ltInt d2 a b pivot).2.2 ((Sort.partition Sort.ltInt d2 a b pivot).1 + 1) b l1 true true) a (Sort.partition Sort.ltInt d2 a b pivot).1 l1 (decide (b - (Sort.partition Sort.ltInt d2 a b pivot).1 ≥ (b - a) / 8)) (Sort.partition Sort.ltInt d2 a b pivot).2.1
      else 0) = M)
    (Q : Ex → List AV → List AObj → Prop) (x0 x1 x2 x3 x4 x5 y0 y1 y2 z0 z1 z2 z3 u0 u1 u2 v0 v1 v2 v3 v4 v5 v6 v7 v8 : AV)
    (kfin : ∀ T', Q .ret T' (H.set id (Cd R) ++ Dd M))
    (kgo : ∀ e T' a2 b2 wb2 wp2 d5 N5, (e = .normal ∨ e = .exit 1) → b2 - a2 < b - a → a2 ≤ b2 → b2 ≤ d.size → d5.size = d.size → Sort.pdq Sort.ltInt d5 a2 b2 l1 wb2 wp2 = R → N5 + pdqN d5 a2 b2 l1 wb2 wp2 = M →
      zipKeep keep114 T' = slots 134 [(0, Da id d.size), (1, I (a2 : Nat)), (2, I (b2 : Nat)), (3, I (l1 : Nat)), (8, B wb2), (9, B wp2)] → Q e T' (H.set id (Cd d5) ++ Dd N5)) :
    wpR Go.Proofs.Try.prog ann114 114 lo none rc114_14 (slots 134 [(0, Da id d.size), (1, I a), (2, I b), (3, I l1), (8, B wb), (9, B wp), (10, I (b - a : Nat)), (11, I pivot), (12, y0), (23, x0), (29, x1), (35, x2), (39, x3), (50, x4), (54, x5), (63, u0), (66, u1), (67, u2), (68, y1), (72, y2), (75, z0), (76, v0), (77, v1), (78, v2), (79, v3), (80, z1), (81, v4), (82, v5), (83, v6), (84, z2), (85, v7), (86, v8), (87, z3)]) (H.set id (Cd d2) ++ Dd (N + n0)) Q := by
  have hH2 := dd_get H (Cd d2) (N + n0) id hid
  have hpr := Sort.partition_holds (lt := Sort.ltInt) Sort.swo_ltInt d2 a b pivot hp1 hp2 (by omega)
  obtain ⟨mid, hmid⟩ : ∃ x, x = (Sort.partition Sort.ltInt d2 a b pivot).1 := ⟨_, rfl⟩
  obtain ⟨ap, hap⟩ : ∃ x, x = (Sort.partition Sort.ltInt d2 a b pivot).2.1 := ⟨_, rfl⟩
  obtain ⟨d4, hd4⟩ : ∃ x, x = (Sort.partition Sort.ltInt d2 a b pivot).2.2 := ⟨_, rfl⟩
  rw [← hmid, ← hap, ← hd4] at hR
  rw [← hmid, ← hap, ← hd4] at hM
  rw [← hmid, ← hd4] at hpr
  have s4 : d4.size = d.size := hpr.2.2.1.1.trans s2
  rw [if_pos ⟨hpr.1, hpr.2.1⟩] at hR
  rw [if_pos ⟨hpr.1, hpr.2.1⟩] at hM
  have hm1 := hpr.1
  have hm2 := hpr.2.1
  clear hpr
  unfold rc114_14
  obtain ⟨c13, g13⟩ : ∃ c, rc114_13 = c := ⟨_, rfl⟩
  rw [g13]
  conv => whnf
  rw [← s2]
  refine ⟨_, _, call1 (part_sem hlo d2 a b pivot (by omega) (by omega) (by omega) (by omega) hH2), ?_⟩
  rw [← hmid, ← hap, ← hd4, dd_set _ _ _ _ _ hid]
  conv => whnf
  subst g13
  unfold rc114_13
  obtain ⟨c12, g12⟩ : ∃ c, rc114_12 = c := ⟨_, rfl⟩
  rw [g12]
  conv => whnf
  rw [show IntKind.i64.wrap ((mid : Int) - (a : Int)) = ((mid - a : Nat) : Int) by rw [wrapI _ (by omega) (by omega)]; omega, show IntKind.i64.wrap ((b : Int) - (mid : Int)) = ((b - mid : Nat) : Int) by rw [wrapI _ (by omega) (by omega)]; omega]
  subst g12
  unfold rc114_12
  obtain ⟨c9, g9⟩ : ∃ c, rc114_9 = c := ⟨_, rfl⟩
  obtain ⟨c11, g11⟩ : ∃ c, rc114_11 = c := ⟨_, rfl⟩
  rw [g9, g11]
  conv => whnf
  refine ⟨by decide, ?_⟩
  conv => whnf
  rw [show IntKind.i64.wrap (((b - a : Nat) : Int).tdiv 8) = (((b - a) / 8 : Nat) : Int) by rw [show ((b - a : Nat) : Int).tdiv 8 = (((b - a) / 8 : Nat) : Int) from rfl, wrapI _ (by omega) (by omega)]]
  by_cases h : ((mid - a : Nat) : Int) < ((b - mid : Nat) : Int)
  · rw [decide_eq_true h]
    rw [if_pos (by omega)] at hR
    rw [if_pos (by omega)] at hM
    conv => whnf
    subst g9
    unfold rc114_9
    obtain ⟨c8, g8⟩ : ∃ c, rc114_8 = c := ⟨_, rfl⟩
    rw [g8]
    conv => whnf
    subst g8
    unfold rc114_8
    conv => whnf
    rw [s2, ← s4]
    refine ⟨_, _, call1 (IH (mid - a) (by omega) _ id lo d4 a mid l1 (Nat.le_refl _) hlo (by omega) hm1 (by omega) hl1 (dd_get H (Cd d4) (N + n0) id hid)), ?_⟩
    rw [dd_set _ _ _ _ _ hid, dd_add]
    conv => whnf
    rw [wrapS mid (by omega)]
    have e8 : decide (((b - a) / 8 : Nat) ≤ ((mid - a : Nat) : Int)) = decide (mid - a ≥ (b - a) / 8) := by
      rw [decide_eq_decide]; omega
    have sz : (Sort.pdq Sort.ltInt d4 a mid l1 true true).size = d.size := (pdq_size _ d4 a mid l1 true true (Nat.le_refl _) hm1 (by omega) (by omega)).trans s4
    refine kgo .normal _ (mid + 1) b _ ap (Sort.pdq Sort.ltInt d4 a mid l1 true true) _ (.inl rfl) (by omega) (by omega) hb sz hR (by rw [← hM]; omega) ?_
    rw [← e8, ← s4]; rfl
  · rw [decide_eq_false h]
    rw [if_neg (by omega)] at hR
    rw [if_neg (by omega)] at hM
    conv => whnf
    subst g11
    unfold rc114_11
    obtain ⟨c10, g10⟩ : ∃ c, rc114_10 = c := ⟨_, rfl⟩
    rw [g10]
    conv => whnf
    subst g10
    unfold rc114_10
    conv => whnf
    rw [s2, ← s4, wrapS mid (by omega)]
    refine ⟨_, _, call1 (IH (b - (mid + 1)) (by omega) _ id lo d4 (mid + 1) b l1 (Nat.le_refl _) hlo (by omega) (by omega) (by omega) hl1 (dd_get H (Cd d4) (N + n0) id hid)), ?_⟩
    rw [dd_set _ _ _ _ _ hid, dd_add]
    conv => whnf
    have e8 : decide (((b - a) / 8 : Nat) ≤ ((b - mid : Nat) : Int)) = decide (b - mid ≥ (b - a) / 8) := by
      rw [decide_eq_decide]; omega
    have sz : (Sort.pdq Sort.ltInt d4 (mid + 1) b l1 true true).size = d.size := (pdq_size _ d4 (mid + 1) b l1 true true (Nat.le_refl _) (by omega) (by omega) (by omega)).trans s4
    refine kgo .normal _ a mid _ ap (Sort.pdq Sort.ltInt d4 (mid + 1) b l1 true true) _ (.inl rfl) (by omega) hm1 (by omega) sz hR (by rw [← hM]; omega) ?_
    rw [← e8, ← s4]; rfl
theorem pdq_tail2 {n : Nat} {H : List AObj} {id lo : Nat} {d d2 R : Array Int} {a b l1 n0 N M pivot : Nat} {wb wp : Bool} (hlo : lo ≤ id)
    (IH : ∀ m, m < n → ∀ (H : List AObj) (id lo : Nat) (d : Array Int) (a b limit : Nat), b - a ≤ m → lo ≤ id → d.size < 32 → a ≤ b → b ≤ d.size → limit ≤ 100 → H[id]? = some (Cd d) →
      Sem Go.Proofs.Try.prog (.fn 114) [Da id d.size, I a, I b, I limit] H lo (.tuple []) (H.set id (Cd (Sort.pdq Sort.ltInt d a b limit true true)) ++ Dd (pdqN d a b limit true true)))
    (hid : id < H.length) (hd : d.size < 32) (hn : b - a ≤ n) (hb : b ≤ d.size) (h12 : 12 < b - a) (hl1 : l1 ≤ 100) (s2 : d2.size = d.size) (hp1 : a ≤ pivot) (hp2 : pivot < b)
    (hR : (if a > 0 && !Sort.ltInt d2[a - 1]! d2[pivot]! then Sort.pdq Sort.ltInt (Sort.partitionEqual Sort.ltInt d2 a b pivot).2 (Sort.partitionEqual Sort.ltInt d2 a b pivot).1 b l1 wb wp
      else if a ≤ (Sort.partition Sort.ltInt d2 a b pivot).1 ∧ (Sort.partition Sort.ltInt d2 a b pivot).1 < b then
        if (Sort.partition Sort.ltInt d2 a b pivot).1 - a < b - (Sort.partition Sort.ltInt d2 a b pivot).1 then
          Sort.pdq Sort.ltInt (Sort.pdq Sort.ltInt (Sort.partition Sort.ltInt d2 a b pivot).2.2 a (Sort.partition Sort.ltInt d2 a b pivot).1 l1 true true) ((Sort.partition Sort.ltInt d2 a b pivot).1 + 1) b l1 (decide ((Sort.partition Sort.ltInt d2 a b pivot).1 - a ≥ (b - a) / 8)) (Sort.partition Sort.ltInt d2 a b pivot).2.1
        else
          Sort.pdq Sort.ltInt (Sort.pdq Sort.ltInt (Sort.partition Sort.ltInt d2 a b pivot).2.2 ((Sort.partition Sort.ltInt d2 a b pivot).1 + 1) b l1 true true) a (Sort.partition Sort.ltInt d2 a b pivot).1 l1 (decide (b - (Sort.partition Sort.ltInt d2 a b pivot).1 ≥ (b - a) / 8)) (Sort.partition Sort.ltInt d2 a b pivot).2.1
      else (Sort.partition Sort.ltInt d2 a b pivot).2.2) = R)
    (hM : N + (if a > 0 && !Sort.ltInt d2[a - 1]! d2[pivot]! then n0 + pdqN (Sort.partitionEqual Sort.ltInt d2 a b pivot).2 (Sort.partitionEqual Sort.ltInt d2 a b pivot).1 b l1 wb wp
      else if a ≤ (Sort.partition Sort.ltInt d2 a b pivot).1 ∧ (Sort.partition Sort.ltInt d2 a b pivot).1 < b then
        if (Sort.partition Sort.ltInt d2 a b pivot).1 - a < b - (Sort.partition Sort.ltInt d2 a b pivot).1 then
          n0 + pdqN (Sort.partition Sort.ltInt d2 a b pivot).2.2 a (Sort.partition Sort.ltInt d2 a b pivot).1 l1 true true + pdqN (Sort.pdq Sort.ltInt (Sort.partition Sort.ltInt d2 a b pivot).2.2 a (Sort.partition Sort.ltInt d2 a b pivot).1 l1 true true) ((Sort.partition Sort.ltInt d2 a b pivot).1 + 1) b l1 (decide ((Sort.partition Sort.ltInt d2 a b pivot).1 - a ≥ (b - a) / 8)) (Sort.partition Sort.ltInt d2 a b pivot).2.1
        else
          n0 + pdqN (Sort.partition Sort.ltInt d2 a b pivot).2.2 ((Sort.partition Sort.ltInt d2 a b pivot).1 + 1) b l1 true true + pdqN (Sort.pdq Sort.ltInt (Sort.partition Sort.ltInt d2 a b pivot).2.2 ((Sort.partition Sort.ltInt d2 a b pivot).1 + 1) b l1 true true) a (Sort.partition Sort.ltInt d2 a b pivot).1 l1 (decide (b - (Sort.partition Sort.ltInt d2 a b pivot).1 ≥ (b - a) / 8)) (Sort.partition Sort.ltInt d2 a b pivot).2.1
      else 0) = M)
    (Q : Ex → List AV → List AObj → Prop) (x0 x1 x2 x3 x4 x5 y0 y1 y2 u0 u1 u2 : AV)
    (kfin : ∀ T', Q .ret T' (H.set id (Cd R) ++ Dd M))
    (kgo : ∀ e T' a2 b2 wb2 wp2 d5 N5, (e = .normal ∨ e = .exit 1) → b2 - a2 < b - a → a2 ≤ b2 → b2 ≤ d.size → d5.size = d.size → Sort.pdq Sort.ltInt d5 a2 b2 l1 wb2 wp2 = R → N5 + pdqN d5 a2 b2 l1 wb2 wp2 = M →
      zipKeep keep114 T' = slots 134 [(0, Da id d.size), (1, I (a2 : Nat)), (2, I (b2 : Nat)), (3, I (l1 : Nat)), (8, B wb2), (9, B wp2)] → Q e T' (H.set id (Cd d5) ++ Dd N5)) :
    wpR Go.Proofs.Try.prog ann114 114 lo none rc114_15 (slots 134 [(0, Da id d.size), (1, I a), (2, I b), (3, I l1), (8, B wb), (9, B wp), (10, I (b - a : Nat)), (11, I pivot), (12, y0), (23, x0), (29, x1), (35, x2), (39, x3), (50, x4), (54, x5), (63, u0), (66, u1), (67, u2), (68, y1), (72, y2)]) (H.set id (Cd d2) ++ Dd (N + n0)) Q := by
  have hH2 := dd_get H (Cd d2) (N + n0) id hid
  unfold rc114_15
  obtain ⟨c7, g7⟩ : ∃ c, rc114_7 = c := ⟨_, rfl⟩
  obtain ⟨c14, g14⟩ : ∃ c, rc114_14 = c := ⟨_, rfl⟩
  rw [g7, g14]
  conv => whnf
  by_cases h0 : (0 : Int) < (a : Int)
  · rw [decide_eq_true h0]
    conv => whnf
    rw [show IntKind.i64.wrap ((a : Int) - 1) = ((a - 1 : Nat) : Int) by rw [wrapI _ (by omega) (by omega)]; omega]
    rw [← s2]
    refine ⟨by omega, ?_⟩
    conv => whnf
    refine nthK_of (by first | exact gs _ | exact gss _ _ | assumption) ?_
    conv => whnf
    refine rdK (a - 1) (by omega) (by omega) ?_
    conv => whnf
    refine ⟨by omega, ?_⟩
    conv => whnf
    refine nthK_of (by first | exact gs _ | exact gss _ _ | assumption) ?_
    conv => whnf
    refine rdK (pivot) (by omega) (by omega) ?_
    conv => whnf
    refine ⟨by first | rfl | simp only [List.all_cons, List.all_nil, pu0, pub, pu1, pu2, pu1', pu2', pun, puf, puP, puP', puQ, puQ', Bool.and_true, Bool.and_self], _, less_ok d2[a - 1]! d2[pivot]!, acc0, ?_⟩
    conv => whnf
    by_cases h5 : d2[a - 1]! < d2[pivot]!
    · rw [decide_eq_true h5]
      conv => whnf
      rw [if_neg (by simp [Sort.ltInt, h5])] at hR
      rw [if_neg (by simp [Sort.ltInt, h5])] at hM
      subst g14
      rw [s2]
      exact pdq_tail3 hlo IH hid hd hn hb h12 hl1 s2 hp1 hp2 hR hM Q _ _ _ _ _ _ _ _ _ _ _ _ _ _ _ _ _ _ _ _ _ _ _ _ _ kfin kgo
    · rw [decide_eq_false h5]
      conv => whnf
      have hq := partitionEqual_range d2 a b pivot (by omega)
      rw [if_pos (by simp [Sort.ltInt]; omega)] at hR
      rw [if_pos (by simp [Sort.ltInt]; omega)] at hM
      subst g7
      unfold rc114_7
      conv => whnf
      refine ⟨_, _, call1 (partEq_sem hlo d2 a b pivot (by omega) (by omega) (by omega) (by omega) hH2), ?_⟩
      rw [dd_set _ _ _ _ _ hid]
      conv => whnf
      refine kgo (.exit 1) _ _ b wb wp _ _ (.inr rfl) (by omega) hq.2.1 hb (hq.2.2.trans s2) hR (by rw [← hM]; omega) ?_
      rw [s2]; rfl
  · rw [decide_eq_false h0]
    conv => whnf
    rw [if_neg (by simp; omega)] at hR
    rw [if_neg (by simp; omega)] at hM
    subst g14
    exact pdq_tail3 hlo IH hid hd hn hb h12 hl1 s2 hp1 hp2 hR hM Q _ _ _ _ _ _ _ _ _ _ _ _ _ _ _ _ _ _ _ _ _ _ _ _ _ kfin kgo
theorem pdq_tail1 {n : Nat} {H : List AObj} {id lo : Nat} {d d2 R : Array Int} {a b l1 n0 N M pivot : Nat} {wb wp fin : Bool} {hint : Sort.Hint} (hlo : lo ≤ id)
    (IH : ∀ m, m < n → ∀ (H : List AObj) (id lo : Nat) (d : Array Int) (a b limit : Nat), b - a ≤ m → lo ≤ id → d.size < 32 → a ≤ b → b ≤ d.size → limit ≤ 100 → H[id]? = some (Cd d) →
      Sem Go.Proofs.Try.prog (.fn 114) [Da id d.size, I a, I b, I limit] H lo (.tuple []) (H.set id (Cd (Sort.pdq Sort.ltInt d a b limit true true)) ++ Dd (pdqN d a b limit true true)))
    (hid : id < H.length) (hd : d.size < 32) (hn : b - a ≤ n) (hb : b ≤ d.size) (h12 : 12 < b - a) (hl1 : l1 ≤ 100) (s2 : d2.size = d.size) (hp1 : a ≤ pivot) (hp2 : pivot < b)
    (ef : fin = (wb && wp && decide (hint = .increasing) && (Sort.partialInsertionSort Sort.ltInt d2 a b).2))
    (hR : (if fin then d2 else
      if a > 0 && !Sort.ltInt d2[a - 1]! d2[pivot]! then Sort.pdq Sort.ltInt (Sort.partitionEqual Sort.ltInt d2 a b pivot).2 (Sort.partitionEqual Sort.ltInt d2 a b pivot).1 b l1 wb wp
      else if a ≤ (Sort.partition Sort.ltInt d2 a b pivot).1 ∧ (Sort.partition Sort.ltInt d2 a b pivot).1 < b then
        if (Sort.partition Sort.ltInt d2 a b pivot).1 - a < b - (Sort.partition Sort.ltInt d2 a b pivot).1 then
          Sort.pdq Sort.ltInt (Sort.pdq Sort.ltInt (Sort.partition Sort.ltInt d2 a b pivot).2.2 a (Sort.partition Sort.ltInt d2 a b pivot).1 l1 true true) ((Sort.partition Sort.ltInt d2 a b pivot).1 + 1) b l1 (decide ((Sort.partition Sort.ltInt d2 a b pivot).1 - a ≥ (b - a) / 8)) (Sort.partition Sort.ltInt d2 a b pivot).2.1
        else
          Sort.pdq Sort.ltInt (Sort.pdq Sort.ltInt (Sort.partition Sort.ltInt d2 a b pivot).2.2 ((Sort.partition Sort.ltInt d2 a b pivot).1 + 1) b l1 true true) a (Sort.partition Sort.ltInt d2 a b pivot).1 l1 (decide (b - (Sort.partition Sort.ltInt d2 a b pivot).1 ≥ (b - a) / 8)) (Sort.partition Sort.ltInt d2 a b pivot).2.1
      else (Sort.partition Sort.ltInt d2 a b pivot).2.2) = R)
    (hM : N + (if fin then n0 else
      if a > 0 && !Sort.ltInt d2[a - 1]! d2[pivot]! then n0 + pdqN (Sort.partitionEqual Sort.ltInt d2 a b pivot).2 (Sort.partitionEqual Sort.ltInt d2 a b pivot).1 b l1 wb wp
      else if a ≤ (Sort.partition Sort.ltInt d2 a b pivot).1 ∧ (Sort.partition Sort.ltInt d2 a b pivot).1 < b then
        if (Sort.partition Sort.ltInt d2 a b pivot).1 - a < b - (Sort.partition Sort.ltInt d2 a b pivot).1 then
          n0 + pdqN (Sort.partition Sort.ltInt d2 a b pivot).2.2 a (Sort.partition Sort.ltInt d2 a b pivot).1 l1 true true + pdqN (Sort.pdq Sort.ltInt (Sort.partition Sort.ltInt d2 a b pivot).2.2 a (Sort.partition Sort.ltInt d2 a b pivot).1 l1 true true) ((Sort.partition Sort.ltInt d2 a b pivot).1 + 1) b l1 (decide ((Sort.partition Sort.ltInt d2 a b pivot).1 - a ≥ (b - a) / 8)) (Sort.partition Sort.ltInt d2 a b pivot).2.1
        else
          n0 + pdqN (Sort.partition Sort.ltInt d2 a b pivot).2.2 ((Sort.partition Sort.ltInt d2 a b pivot).1 + 1) b l1 true true + pdqN (Sort.pdq Sort.ltInt (Sort.partition Sort.ltInt d2 a b pivot).2.2 ((Sort.partition Sort.ltInt d2 a b pivot).1 + 1) b l1 true true) a (Sort.partition Sort.ltInt d2 a b pivot).1 l1 (decide (b - (Sort.partition Sort.ltInt d2 a b pivot).1 ≥ (b - a) / 8)) (Sort.partition Sort.ltInt d2 a b pivot).2.1
      else 0) = M)
    (Q : Ex → List AV → List AObj → Prop) (x0 x1 x2 x3 x4 x5 : AV)
    (kfin : ∀ T', Q .ret T' (H.set id (Cd R) ++ Dd M))
    (kgo : ∀ e T' a2 b2 wb2 wp2 d5 N5, (e = .normal ∨ e = .exit 1) → b2 - a2 < b - a → a2 ≤ b2 → b2 ≤ d.size → d5.size = d.size → Sort.pdq Sort.ltInt d5 a2 b2 l1 wb2 wp2 = R → N5 + pdqN d5 a2 b2 l1 wb2 wp2 = M →
      zipKeep keep114 T' = slots 134 [(0, Da id d.size), (1, I (a2 : Nat)), (2, I (b2 : Nat)), (3, I (l1 : Nat)), (8, B wb2), (9, B wp2)] → Q e T' (H.set id (Cd d5) ++ Dd N5)) :
    wpR Go.Proofs.Try.prog ann114 114 lo none rc114_16 (slots 134 [(0, Da id d.size), (1, I a), (2, I b), (3, I l1), (8, B wb), (9, B wp), (10, I (b - a : Nat)), (11, I pivot), (12, I (hintI hint)), (23, x0), (29, x1), (35, x2), (39, x3), (50, x4), (54, x5)]) (H.set id (Cd d2) ++ Dd (N + n0)) Q := by
  have hH2 := dd_get H (Cd d2) (N + n0) id hid
  unfold rc114_16
  obtain ⟨c6, g6⟩ : ∃ c, rc114_6 = c := ⟨_, rfl⟩
  obtain ⟨c15, g15⟩ : ∃ c, rc114_15 = c := ⟨_, rfl⟩
  rw [g6, g15]
  cases wb with
  | false =>
    have hf : fin = false := by rw [ef]; rfl
    subst hf
    conv => whnf
    subst g15
    exact pdq_tail2 hlo IH hid hd hn hb h12 hl1 s2 hp1 hp2 hR hM Q _ _ _ _ _ _ _ _ _ _ _ _ kfin kgo
  | true =>
  cases wp with
  | false =>
    have hf : fin = false := by rw [ef]; rfl
    subst hf
    conv => whnf
    subst g15
    exact pdq_tail2 hlo IH hid hd hn hb h12 hl1 s2 hp1 hp2 hR hM Q _ _ _ _ _ _ _ _ _ _ _ _ kfin kgo
  | true =>
  conv => whnf
  by_cases hi : hint = .increasing
  · rw [decide_eq_true ((hint_one hint).2 hi)]
    conv => whnf
    subst g6
    unfold rc114_6
    conv => whnf
    obtain ⟨p1, p2⟩ := partial_sem (lo := lo) d2 a b (by omega) (by omega) (by omega) (by omega) hH2
    rw [← s2]
    refine ⟨_, _, call1 p1, ?_⟩
    conv => whnf
    have hf : fin = (Sort.partialInsertionSort Sort.ltInt d2 a b).2 := by rw [ef, hi]; rfl
    rw [← hf]
    cases fin with
    | true =>
      conv => whnf
      rw [if_pos rfl] at hR
      rw [if_pos rfl] at hM
      rw [hR, hM]
      exact kfin _
    | false =>
      conv => whnf
      subst g15
      rw [s2]
      exact pdq_tail2 hlo IH hid hd hn hb h12 hl1 s2 hp1 hp2 hR hM Q _ _ _ _ _ _ _ _ _ _ _ _ kfin kgo
  · rw [decide_eq_false fun h => hi ((hint_one hint).1 h)]
    have hf : fin = false := by rw [ef, decide_eq_false hi]; rfl
    subst hf
    conv => whnf
    subst g15
    exact pdq_tail2 hlo IH hid hd hn hb h12 hl1 s2 hp1 hp2 hR hM Q _ _ _ _ _ _ _ _ _ _ _ _ kfin kgo
theorem pdq_tail {n : Nat} {H : List AObj} {id lo : Nat} {d d1 d2 R : Array Int} {a b l1 n0 N M pivot : Nat} {wb wp fin : Bool} {ch : Nat × Sort.Hint} {hint : Sort.Hint} (hlo : lo ≤ id)
    (IH : ∀ m, m < n → ∀ (H : List AObj) (id lo : Nat) (d : Array Int) (a b limit : Nat), b - a ≤ m → lo ≤ id → d.size < 32 → a ≤ b → b ≤ d.size → limit ≤ 100 → H[id]? = some (Cd d) →
      Sem Go.Proofs.Try.prog (.fn 114) [Da id d.size, I a, I b, I limit] H lo (.tuple []) (H.set id (Cd (Sort.pdq Sort.ltInt d a b limit true true)) ++ Dd (pdqN d a b limit true true)))
    (hid : id < H.length) (hd : d.size < 32) (hn : b - a ≤ n) (hb : b ≤ d.size) (h12 : 12 < b - a) (hl1 : l1 ≤ 100) (hn0 : 0 < n0) (s1 : d1.size = d.size)
    (ec : ch = Sort.choosePivot Sort.ltInt d1 a b) (ed : d2 = if ch.2 = .decreasing then Sort.reverseRange d1 a b else d1)
    (ep : pivot = if ch.2 = .decreasing then (b - 1) - (ch.1 - a) else ch.1) (eh : hint = if ch.2 = .decreasing then Sort.Hint.increasing else ch.2) (ef : fin = (wb && wp && decide (hint = .increasing) && (Sort.partialInsertionSort Sort.ltInt d2 a b).2))
    (hR : (if fin then d2 else
      if a > 0 && !Sort.ltInt d2[a - 1]! d2[pivot]! then Sort.pdq Sort.ltInt (Sort.partitionEqual Sort.ltInt d2 a b pivot).2 (Sort.partitionEqual Sort.ltInt d2 a b pivot).1 b l1 wb wp
      else if a ≤ (Sort.partition Sort.ltInt d2 a b pivot).1 ∧ (Sort.partition Sort.ltInt d2 a b pivot).1 < b then
        if (Sort.partition Sort.ltInt d2 a b pivot).1 - a < b - (Sort.partition Sort.ltInt d2 a b pivot).1 then
          Sort.pdq Sort.ltInt (Sort.pdq Sort.ltInt (Sort.partition Sort.ltInt d2 a b pivot).2.2 a (Sort.partition Sort.ltInt d2 a b pivot).1 l1 true true) ((Sort.partition Sort.ltInt d2 a b pivot).1 + 1) b l1 (decide ((Sort.partition Sort.ltInt d2 a b pivot).1 - a ≥ (b - a) / 8)) (Sort.partition Sort.ltInt d2 a b pivot).2.1
        else
          Sort.pdq Sort.ltInt (Sort.pdq Sort.ltInt (Sort.partition Sort.ltInt d2 a b pivot).2.2 ((Sort.partition Sort.ltInt d2 a b pivot).1 + 1) b l1 true true) a (Sort.partition Sort.ltInt d2 a b pivot).1 l1 (decide (b - (Sort.partition Sort.ltInt d2 a b pivot).1 ≥ (b - a) / 8)) (Sort.partition Sort.ltInt d2 a b pivot).2.1
      else (Sort.partition Sort.ltInt d2 a b pivot).2.2) = R)
    (hM : N + (if fin then n0 else
      if a > 0 && !Sort.ltInt d2[a - 1]! d2[pivot]! then n0 + pdqN (Sort.partitionEqual Sort.ltInt d2 a b pivot).2 (Sort.partitionEqual Sort.ltInt d2 a b pivot).1 b l1 wb wp
      else if a ≤ (Sort.partition Sort.ltInt d2 a b pivot).1 ∧ (Sort.partition Sort.ltInt d2 a b pivot).1 < b then
        if (Sort.partition Sort.ltInt d2 a b pivot).1 - a < b - (Sort.partition Sort.ltInt d2 a b pivot).1 then
          n0 + pdqN (Sort.partition Sort.ltInt d2 a b pivot).2.2 a (Sort.partition Sort.ltInt d2 a b pivot).1 l1 true true + pdqN (Sort.pdq Sort.ltInt (Sort.partition Sort.ltInt d2 a b pivot).2.2 a (Sort.partition Sort.ltInt d2 a b pivot).1 l1 true true) ((Sort.partition Sort.ltInt d2 a b pivot).1 + 1) b l1 (decide ((Sort.partition Sort.ltInt d2 a b pivot).1 - a ≥ (b - a) / 8)) (Sort.partition Sort.ltInt d2 a b pivot).2.1
        else
          n0 + pdqN (Sort.partition Sort.ltInt d2 a b pivot).2.2 ((Sort.partition Sort.ltInt d2 a b pivot).1 + 1) b l1 true true + pdqN (Sort.pdq Sort.ltInt (Sort.partition Sort.ltInt d2 a b pivot).2.2 ((Sort.partition Sort.ltInt d2 a b pivot).1 + 1) b l1 true true) a (Sort.partition Sort.ltInt d2 a b pivot).1 l1 (decide (b - (Sort.partition Sort.ltInt d2 a b pivot).1 ≥ (b - a) / 8)) (Sort.partition Sort.ltInt d2 a b pivot).2.1
      else 0) = M)
    (Q : Ex → List AV → List AObj → Prop) (x0 x1 x2 x3 : AV)
    (kfin : ∀ T', Q .ret T' (H.set id (Cd R) ++ Dd M))
    (kgo : ∀ e T' a2 b2 wb2 wp2 d5 N5, (e = .normal ∨ e = .exit 1) → b2 - a2 < b - a → a2 ≤ b2 → b2 ≤ d.size → d5.size = d.size → Sort.pdq Sort.ltInt d5 a2 b2 l1 wb2 wp2 = R → N5 + pdqN d5 a2 b2 l1 wb2 wp2 = M →
      zipKeep keep114 T' = slots 134 [(0, Da id d.size), (1, I (a2 : Nat)), (2, I (b2 : Nat)), (3, I (l1 : Nat)), (8, B wb2), (9, B wp2)] → Q e T' (H.set id (Cd d5) ++ Dd N5)) :
    wpR Go.Proofs.Try.prog ann114 114 lo none rc114_17 (slots 134 [(0, Da id d.size), (1, I a), (2, I b), (3, I l1), (8, B wb), (9, B wp), (10, I (b - a : Nat)), (23, x0), (29, x1), (35, x2), (39, x3)]) (H.set id (Cd d1) ++ Dd (N + n0 - 1)) Q := by
  have hcr := Sort.choosePivot_holds Sort.ltInt d1 a b (by omega)
  rw [← ec] at hcr
  have hH1 := dd_get H (Cd d1) (N + n0 - 1) id hid
  unfold rc114_17
  obtain ⟨c5, g5⟩ : ∃ c, rc114_5 = c := ⟨_, rfl⟩
  obtain ⟨c16, g16⟩ : ∃ c, rc114_16 = c := ⟨_, rfl⟩
  rw [g5, g16]
  conv => whnf
  rw [← s1]
  refine ⟨_, _, call1 (pivot_sem d1 a b hlo (by omega) (by omega) (by omega) (by omega) (by simp; omega) hH1), ?_⟩
  rw [← ec, dd_one]
  conv => whnf
  by_cases hd2 : ch.2 = .decreasing
  · rw [decide_eq_true ((hint_two ch.2).2 hd2)]
    conv => whnf
    rw [if_pos hd2] at ed
    rw [if_pos hd2] at ep
    rw [if_pos hd2] at eh
    have s2 : d2.size = d.size := by rw [ed, rev_size _ _ _ (by omega) (by omega)]; exact s1
    subst g5
    unfold rc114_5
    obtain ⟨c4, g4⟩ : ∃ c, rc114_4 = c := ⟨_, rfl⟩
    rw [g4]
    conv => whnf
    refine ⟨_, _, call1 (revRange_sem hlo d1 a b (by omega) (by omega) (by omega) (dd_get H (Cd d1) _ id hid)), ?_⟩
    rw [dd_set _ _ _ _ _ hid, ← ed]
    conv => whnf
    subst g4
    unfold rc114_4
    conv => whnf
    rw [show IntKind.i64.wrap (IntKind.i64.wrap ((b : Int) - 1) - IntKind.i64.wrap ((ch.1 : Int) - (a : Int))) = (pivot : Int) by rw [wrapI ((b : Int) - 1) (by omega) (by omega), wrapI ((ch.1 : Int) - (a : Int)) (by omega) (by omega), wrapI _ (by omega) (by omega), ep]; omega]
    subst g16
    rw [s1, show N + n0 - 1 + 1 = N + n0 by omega]
    rw [show (AV.int .i64 1) = I (hintI hint) by rw [eh]; rfl]
    exact pdq_tail1 hlo IH hid hd hn hb h12 hl1 s2 (by omega) (by omega) ef hR hM Q _ _ _ _ _ _ kfin kgo
  · rw [decide_eq_false fun h => hd2 ((hint_two ch.2).1 h)]
    conv => whnf
    rw [if_neg hd2] at ed
    rw [if_neg hd2] at ep
    rw [if_neg hd2] at eh
    subst ed ep eh
    subst g16
    rw [s1, show N + n0 - 1 + 1 = N + n0 by omega]
    exact pdq_tail1 hlo IH hid hd hn hb h12 hl1 s1 hcr.1 hcr.2 ef hR hM Q _ _ _ _ _ _ kfin kgo
theorem pdq_sem : ∀ (n : Nat) (H : List AObj) (id lo : Nat) (d : Array Int) (a b limit : Nat), b - a ≤ n → lo ≤ id → d.size < 32 → a ≤ b → b ≤ d.size → limit ≤ 100 → H[id]? = some (Cd d) →
    Sem Go.Proofs.Try.prog (.fn 114) [Da id d.size, I a, I b, I limit] H lo (.tuple []) (H.set id (Cd (Sort.pdq Sort.ltInt d a b limit true true)) ++ Dd (pdqN d a b limit true true)) := by
  intro n
  induction n using Nat.strongRecOn with
  | _ n IH =>
  intro H id lo d a b limit hn hlo hd ha hb hlim hH
  have hid := (List.getElem?_eq_some_iff.1 hH).1
  refine fn_semQ hmix lk114 rfl ⟨by simp, fun j h1 h2 => by rw [List.getElem?_append_left (by simp; omega), List.getElem?_set_ne (by omega)]⟩ fun Q hQ => ?_
  unfold rc114
  obtain ⟨c19, g19⟩ : ∃ c, rc114_19 = c := ⟨_, rfl⟩
  rw [g19]
  conv => whnf
  have hB : B true = .bool true := rfl
  generalize hR : Sort.pdq Sort.ltInt d a b limit true true = R at hQ
  generalize hM : pdqN d a b limit true true = M at hQ
  refine .intro (fun m T H' => ∃ a' b' l' wb wp d' N, m = b' - a' ∧ m ≤ n ∧ a' ≤ b' ∧ b' ≤ d.size ∧ l' ≤ 100 ∧ d'.size = d.size ∧ Sort.pdq Sort.ltInt d' a' b' l' wb wp = R ∧ N + pdqN d' a' b' l' wb wp = M ∧ T = slots 134 [(0, Da id d.size), (1, I a'), (2, I b'), (3, I l'), (8, B wb), (9, B wp)] ∧ H' = H.set id (Cd d') ++ Dd N) (b - a) ⟨a, b, limit, true, true, d, 0, rfl, hn, ha, hb, hlim, rfl, hR, by rw [Nat.zero_add]; exact hM, rfl, ?_⟩ ?_
  · obtain ⟨h1, h2⟩ := List.getElem?_eq_some_iff.1 hH
    rw [← h2, List.set_getElem_self]; simp
  clear hR hM
  rintro m T H' ⟨a', b', l', wb, wp, d', N, hm, hmn, ha', hb', hl', hds, hR, hM, rfl, rfl⟩
  subst g19
  unfold rc114_19
  obtain ⟨c1, g1⟩ : ∃ c, rc114_1 = c := ⟨_, rfl⟩
  obtain ⟨c18, g18⟩ : ∃ c, rc114_18 = c := ⟨_, rfl⟩
  rw [g1, g18]
  conv => whnf
  rw [show IntKind.i64.wrap ((b' : Int) - (a' : Int)) = ((b' - a' : Nat) : Int) by rw [wrapI _ (by omega) (by omega)]; omega]
  have hH' := dd_get H (Cd d') N id hid
  by_cases h12 : ((b' - a' : Nat) : Int) ≤ 12
  · rw [decide_eq_true h12]
    conv => whnf
    subst g1
    unfold rc114_1
    conv => whnf
    rw [← hds]
    refine ⟨_, _, call1 (insertion_sem hlo d' a' b' (by omega) ha' (by omega) hH'), ?_⟩
    conv => whnf
    rw [dd_set _ _ _ _ _ hid]
    rw [Sort.pdq, if_pos (by omega)] at hR
    rw [pdqN, if_pos (by omega)] at hM
    refine hQ _ _ _ ⟨.inr rfl, ?_, rfl⟩
    rw [← hR, ← hM]
    exact ⟨rfl, fun j o hj => .inr hj⟩
  rw [decide_eq_false h12]
  conv => whnf
  subst g18
  unfold rc114_18
  obtain ⟨c2, g2⟩ : ∃ c, rc114_2 = c := ⟨_, rfl⟩
  obtain ⟨c3, g3⟩ : ∃ c, rc114_3 = c := ⟨_, rfl⟩
  obtain ⟨c17, g17⟩ : ∃ c, rc114_17 = c := ⟨_, rfl⟩
  rw [g2, g3, g17]
  conv => whnf
  by_cases h0 : ((l' : Nat) : Int) = 0
  · rw [decide_eq_true h0]
    conv => whnf
    subst g2
    unfold rc114_2
    conv => whnf
    rw [← hds]
    refine ⟨_, _, call1 (heap_sem hlo d' a' b' (by omega) ha' (by omega) hH'), ?_⟩
    conv => whnf
    rw [dd_set _ _ _ _ _ hid]
    rw [Sort.pdq, if_neg (by omega), if_pos (by omega)] at hR
    rw [pdqN, if_neg (by omega), if_pos (by omega)] at hM
    refine hQ _ _ _ ⟨.inr rfl, ?_, rfl⟩
    rw [← hR, ← hM]
    exact ⟨rfl, fun j o hj => .inr hj⟩
  rw [decide_eq_false h0]
  conv => whnf
  obtain ⟨d1, e1⟩ : ∃ x, x = if !wb then Sort.breakPatterns d' a' b' else d' := ⟨_, rfl⟩
  obtain ⟨l1, e2⟩ : ∃ x, x = if !wb then l' - 1 else l' := ⟨_, rfl⟩
  obtain ⟨n1, en⟩ : ∃ x, x = if !wb then 2 else 1 := ⟨_, rfl⟩
  obtain ⟨ch, ec⟩ : ∃ x, x = Sort.choosePivot Sort.ltInt d1 a' b' := ⟨_, rfl⟩
  obtain ⟨d2, ed⟩ : ∃ x, x = if ch.2 = .decreasing then Sort.reverseRange d1 a' b' else d1 := ⟨_, rfl⟩
  obtain ⟨pivot, ep⟩ : ∃ x, x = if ch.2 = .decreasing then (b' - 1) - (ch.1 - a') else ch.1 := ⟨_, rfl⟩
  obtain ⟨hint, eh⟩ : ∃ x, x = if ch.2 = .decreasing then Sort.Hint.increasing else ch.2 := ⟨_, rfl⟩
  obtain ⟨fin, ef⟩ : ∃ x, x = (wb && wp && decide (hint = .increasing) && (Sort.partialInsertionSort Sort.ltInt d2 a' b').2) := ⟨_, rfl⟩
  obtain ⟨q1, q2⟩ := pdq_round (wb := wb) (wp := wp) (show ¬ b' - a' ≤ 12 by omega) (show ¬ l' = 0 by omega) (by omega) e1 e2 en ec ed ep eh ef
  rw [q1] at hR
  rw [q2] at hM
  clear q1 q2
  have s1 : d1.size = d.size := by
    rw [e1]; split
    · rw [brk_psize _ _ _ ha' (by omega)]; exact hds
    · exact hds
  have hl1 : l1 ≤ 100 := by rw [e2]; split <;> omega
  have hcr := Sort.choosePivot_holds Sort.ltInt d1 a' b' (by omega)
  rw [← ec] at hcr
  -- the patterns are broken, or not
  have fin_ : ∀ T', Q .ret T' (H.set id (Cd R) ++ Dd M) := fun T' => hQ _ _ _ ⟨.inr rfl, ⟨rfl, fun j o hj => .inr hj⟩, rfl⟩
  cases wb with
  | true =>
    have hd1 : d1 = d' := by rw [e1]; rfl
    have hl : l1 = l' := by rw [e2]; rfl
    have hn1 : n1 = 1 := by rw [en]; rfl
    rw [← hl, ← hd1]
    conv => whnf
    subst g17
    refine pdq_tail (N := N) (n0 := 1) hlo IH hid hd (by omega) hb' (by omega) hl1 (by omega) s1 ec ed ep eh ef hR (by rw [hn1] at hM; exact hM) _ _ _ _ _ fin_ fun e T' a2 b2 wb2 wp2 d5 N5 he k1 k2 k3 k4 k5 k6 hz => ?_
    rcases he with rfl | rfl
    all_goals (
      conv => whnf
      rw [keepK_eq]
      refine ⟨b2 - a2, by omega, a2, b2, l1, wb2, wp2, d5, N5, rfl, by omega, k2, k3, hl1, k4, k5, k6, hz, rfl⟩
    )
  | false =>
    have hd1 : d1 = Sort.breakPatterns d' a' b' := by rw [e1]; rfl
    have hl : l1 = l' - 1 := by rw [e2]; rfl
    have hn1 : n1 = 2 := by rw [en]; rfl
    conv => whnf
    subst g3
    unfold rc114_3
    conv => whnf
    rw [← hds]
    refine ⟨_, _, call1 (break_sem id hlo d' a' b' (by omega) ha' (by omega) (by omega) hH'), ?_⟩
    rw [if_pos (by omega), dd_set _ _ _ _ _ hid, dd_one, ← hd1]
    conv => whnf
    rw [show IntKind.i64.wrap ((l' : Int) - 1) = (l1 : Int) by rw [wrapI _ (by omega) (by omega), hl]; omega, hds]
    subst g17
    refine pdq_tail (N := N) (n0 := 2) hlo IH hid hd (by omega) hb' (by omega) hl1 (by omega) s1 ec ed ep eh ef hR (by rw [hn1] at hM; exact hM) _ _ _ _ _ fin_ fun e T' a2 b2 wb2 wp2 d5 N5 he k1 k2 k3 k4 k5 k6 hz => ?_
    rcases he with rfl | rfl
    all_goals (
      conv => whnf
      rw [keepK_eq]
      refine ⟨b2 - a2, by omega, a2, b2, l1, wb2, wp2, d5, N5, rfl, by omega, k2, k3, hl1, k4, k5, k6, hz, rfl⟩
    )
end Go.Proofs.Ytlcebaejlnpdeaa.Ab

/-
  Contracts: slices' Sort, of fewer than 32.
-/
namespace Go.Proofs.Ytlcebaejlnpdeaa.Ab
open Go
set_option maxRecDepth 20000
set_option maxHeartbeats 4000000
section
variable {H : List AObj} {id lo : Nat}
theorem sort_sem (hlo : lo ≤ id) (d : Array Int) (hd : d.size < 32) (hH : H[id]? = some (Cd d)) :
    Sem Go.Proofs.Try.prog (.fn 104) [Da id d.size] H lo (.tuple []) (H.set id (Cd (Sort.sort Sort.ltInt d)) ++ Dd (pdqN d 0 d.size (Sort.bitsLen d.size) true true)) := by
  have hid := (List.getElem?_eq_some_iff.1 hH).1
  refine fn_semQ hmix lk104 rfl ⟨by simp, fun j h1 h2 => by rw [List.getElem?_append_left (by simp; omega), List.getElem?_set_ne (by omega)]⟩ fun Q hQ => ?_
  unfold rc104
  conv => whnf
  rw [show IntKind.u64.wrap (d.size : Int) = (d.size : Int) by rw [wrapU]; omega]
  refine ⟨by first | rfl | simp only [List.all_cons, List.all_nil, pu0, pub, pu1, pu2, pu1', pu2', pun, puf, puP, puP', puQ, puQ', Bool.and_true, Bool.and_self], _, bitsLen_ok d.size hd, ?_⟩
  conv => whnf
  have := bitsLen_le d.size hd
  refine ⟨_, _, call1 (pdq_sem _ H id lo d 0 d.size (Sort.bitsLen d.size) (Nat.le_refl _) hlo hd (Nat.zero_le _) (Nat.le_refl _) (by omega) hH), ?_⟩
  conv => whnf
  exact hQ _ _ _ ⟨.inl rfl, ⟨rfl, fun j o hj => .inr hj⟩, rfl⟩
theorem ins0_sem (c : Cap) : Sem Go.Proofs.Try.prog (.fn 116) [.lst [] 0 c, I 0, I 0] H lo (.tuple []) H := by
  refine fn_semQ hmix lk116 rfl ⟨Nat.le_refl _, fun j h1 h2 => rfl⟩ fun Q hQ => ?_
  unfold rc116
  conv => whnf
  refine .intro (fun m T H' => T = slots 49 [(0, .lst [] 0 c), (1, I 0), (2, I 0), (6, I 1)] ∧ H = H') 0 ⟨rfl, rfl⟩ ?_
  rintro m T H' ⟨rfl, rfl⟩
  conv => whnf
  exact hQ _ _ _ ⟨.inl rfl, ⟨rfl, fun j o hj => .inr hj⟩, rfl⟩
theorem pdq0_sem (c : Cap) : Sem Go.Proofs.Try.prog (.fn 114) [.lst [] 0 c, I 0, I 0, I 0] H lo (.tuple []) H := by
  refine fn_semQ hmix lk114 rfl ⟨Nat.le_refl _, fun j h1 h2 => rfl⟩ fun Q hQ => ?_
  unfold rc114
  obtain ⟨c19, g19⟩ : ∃ c, rc114_19 = c := ⟨_, rfl⟩
  rw [g19]
  conv => whnf
  refine .intro (fun m T H' => T = slots 134 [(0, .lst [] 0 c), (1, I 0), (2, I 0), (3, I 0), (8, B true), (9, B true)] ∧ H = H') 0 ⟨rfl, rfl⟩ ?_
  rintro m T H' ⟨rfl, rfl⟩
  subst g19
  unfold rc114_19
  obtain ⟨c1, g1⟩ : ∃ c, rc114_1 = c := ⟨_, rfl⟩
  obtain ⟨c18, g18⟩ : ∃ c, rc114_18 = c := ⟨_, rfl⟩
  rw [g1, g18]
  conv => whnf
  subst g1
  unfold rc114_1
  conv => whnf
  cases c
  all_goals (
    conv => whnf
    refine ⟨_, _, call1 (ins0_sem _), ?_⟩
    conv => whnf
    exact hQ _ _ _ ⟨.inr rfl, ⟨rfl, fun j o hj => .inr hj⟩, rfl⟩
  )
theorem sort0_sem (c : Cap) : Sem Go.Proofs.Try.prog (.fn 104) [.lst [] 0 c] H lo (.tuple []) H := by
  refine fn_semQ hmix lk104 rfl ⟨Nat.le_refl _, fun j h1 h2 => rfl⟩ fun Q hQ => ?_
  unfold rc104
  conv => whnf
  cases c
  all_goals (
    conv => whnf
    refine ⟨by rfl, _, bitsLen_ok 0 (by decide), ?_⟩
    conv => whnf
    refine ⟨_, _, call1 (pdq0_sem _), ?_⟩
    conv => whnf
    exact hQ _ _ _ ⟨.inl rfl, ⟨rfl, fun j o hj => .inr hj⟩, rfl⟩
  )
end
end Go.Proofs.Ytlcebaejlnpdeaa.Ab
