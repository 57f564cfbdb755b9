/-
  Plain words: orders that are chosen by numbers; the other way round; times as great.
-/
import Derived.Test.YtlcebaejlnpdeaaJa6
import Derived.Test.YtlcebaejlnpdeaaJa5
import Derived.Test.YtlcebaejlnpdeaaJa3
import Derived.KernelRfl
set_option linter.unusedSimpArgs false
set_option linter.unusedVariables false
set_option linter.unusedSectionVars false
namespace Go.Proofs.Ytlcebaejlnpdeaa.Ab
/-! ### Orders by numbers -/
def nums (n : Nat) : List Int := (List.range n).map fun (x : Nat) => (x : Int)
theorem nums_succ (n : Nat) : nums (n + 1) = nums n ++ [(n : Int)] := by simp [nums, List.range_succ]
theorem nums_len (n : Nat) : (nums n).length = n := by simp [nums]
theorem nums_ord (n : Nat) : isOrd (nums n) n = true := by
  rw [isOrd_iff]
  refine ⟨nums_len n, fun x hx => ?_, ?_⟩
  · simp [nums] at hx; obtain ⟨k, hk, rfl⟩ := hx; omega
  · rw [nums, List.nodup_iff_pairwise_ne, List.pairwise_map]
    exact List.Pairwise.imp (fun h e => by omega) List.pairwise_lt_range
/-- Which one is next, behind so many; and how many are read then. -/
def pickN (y : List Int) (n t : Nat) : Nat := if y = [] then 0 else (y.getD (t % y.length) 0).toNat % n
def stepN (y : List Int) (t : Nat) : Nat := if y = [] then t else t + 1
def pickGo (y : List Int) : Nat → List Int → Nat → List Int × Nat
  | 0, _, t => ([], t)
  | f + 1, left, t => (left.getD (pickN y left.length t) 0 :: (pickGo y f (left.eraseIdx (pickN y left.length t)) (stepN y t)).1, (pickGo y f (left.eraseIdx (pickN y left.length t)) (stepN y t)).2)
def chosenGo (y : List Int) : List (List Int) → Nat → List (List Int)
  | [], _ => []
  | l :: r, t => (pickGo y l.length (nums l.length) t).1 :: chosenGo y r (pickGo y l.length (nums l.length) t).2
def chosen (p : List (List Int)) (y : List Int) : List (List Int) := chosenGo y p 0
theorem pickN_lt (y : List Int) {n : Nat} (t : Nat) (h : 0 < n) : pickN y n t < n := by
  unfold pickN; split
  · exact h
  · exact Nat.mod_lt _ h
theorem pick_perm (y : List Int) : ∀ (f : Nat) (left : List Int) (t : Nat), left.length = f → (pickGo y f left t).1.Perm left
  | 0, left, t, h => by rw [List.length_eq_zero_iff.1 h]; exact .refl _
  | f + 1, left, t, h => by
    have hn := pickN_lt y (n := left.length) t (by omega)
    have ih := pick_perm y f (left.eraseIdx (pickN y left.length t)) (stepN y t) (by rw [List.length_eraseIdx_of_lt hn]; omega)
    have e : left.getD (pickN y left.length t) 0 = left[pickN y left.length t] := by simp [List.getD_eq_getElem?_getD, hn]
    show (left.getD _ 0 :: _).Perm left
    rw [e]
    have e2 : left = left.take (pickN y left.length t) ++ left[pickN y left.length t] :: left.drop (pickN y left.length t + 1) := by rw [← List.drop_eq_getElem_cons hn, List.take_append_drop]
    have e3 := List.eraseIdx_eq_take_drop_succ left (pickN y left.length t)
    refine (List.Perm.cons _ ih).trans ?_
    rw [e3]
    exact List.perm_middle.symm.trans (.of_eq e2.symm)
theorem ord_perm {a b : List Int} {n : Nat} (h : a.Perm b) (hb : isOrd b n = true) : isOrd a n = true := by
  obtain ⟨h1, h2, h3⟩ := isOrd_iff.1 hb
  exact isOrd_iff.2 ⟨by rw [h.length_eq, h1], fun x hx => h2 x (h.mem_iff.1 hx), h.nodup_iff.2 h3⟩
theorem chosenGo_ords (y : List Int) : ∀ (p : List (List Int)) (t : Nat), Ords p (chosenGo y p t)
  | [], t => ⟨rfl, fun i h => by simp [chosenGo] at h⟩
  | l :: r, t => by
    have ih := chosenGo_ords y r (pickGo y l.length (nums l.length) t).2
    refine ⟨by simp [chosenGo, ih.len], fun i h h' => ?_⟩
    cases i with
    | zero => exact ord_perm (pick_perm y l.length (nums l.length) t (nums_len _)) (nums_ord _)
    | succ i => exact ih.ord i (by simpa [chosenGo] using h) (by simpa using h')
theorem chosen_ords (p : List (List Int)) (y : List Int) : Ords p (chosen p y) := chosenGo_ords y p 0
end Go.Proofs.Ytlcebaejlnpdeaa.Ab

/-
  Plain law of layer 5: the other way round; meetings and the distance.
-/
namespace Go.Proofs.Ytlcebaejlnpdeaa.Ab
/-! ### Seams rise -/
theorem seamsGo_rise (layer : List Int) : ∀ (l : List Int) (a : Int), (∀ i ∈ l, 1 ≤ layer.getD i.toNat 0) → (seamsGo layer a l).Pairwise (· < ·) ∧ ∀ x ∈ seamsGo layer a l, a < x
  | [], a, _ => by simp [seamsGo]
  | i :: l, a, h => by
    have h1 := h i (by simp)
    obtain ⟨h2, h3⟩ := seamsGo_rise layer l (a + layer.getD i.toNat 0) fun j hj => h j (by simp [hj])
    simp only [seamsGo, List.pairwise_cons, List.mem_cons, forall_eq_or_imp]
    exact ⟨⟨h3, h2⟩, by omega, fun x hx => by have := h3 x hx; omega⟩
theorem getD_wide {layer : List Int} (hw : ∀ x ∈ layer, 1 ≤ x) {i : Int} (h0 : 0 ≤ i) (h1 : i < layer.length) : 1 ≤ layer.getD i.toNat 0 := by
  have h : i.toNat < layer.length := by omega
  rw [List.getD_eq_getElem?_getD, List.getElem?_eq_getElem h]
  exact hw _ (List.getElem_mem h)
theorem seamsOf_rise {layer o : List Int} (hw : ∀ x ∈ layer, 1 ≤ x) (ho : isOrd o layer.length = true) : (seamsOf layer o).Pairwise (· < ·) ∧ ∀ x ∈ seamsOf layer o, 0 < x := by
  obtain ⟨_, h2, _⟩ := isOrd_iff.1 ho
  exact seamsGo_rise layer o.dropLast 0 fun i hi => by
    obtain ⟨k0, k1⟩ := h2 i (List.dropLast_subset _ hi)
    exact getD_wide hw k0 k1
theorem seams_mem {p o : List (List Int)} (ho : Ords p o) : ∀ r ∈ seamsBy p o, ∃ l ∈ p, ∃ q, isOrd q l.length = true ∧ r = seamsOf l q := by
  intro r hr
  obtain ⟨i, hi, rfl⟩ := List.mem_iff_getElem.1 hr
  have hl := ho.len
  have hi' : i < o.length ∧ i < p.length := by simp [seamsBy] at hi; omega
  exact ⟨p[i]'hi'.2, List.getElem_mem _, o[i]'hi'.1, ho.ord i hi'.1 hi'.2, by simp [seamsBy]⟩
theorem few_best {p : List (List Int)} (hv : Val p) : Ords p (progOrders p) ∧ fewestOf p = (meetN (seamsBy p (progOrders p)) : Int) :=
  ⟨joints_ords' _ fun l hl => ⟨hv.s1 l hl, hv.s5 l hl⟩, fewest_eq ⟨fun l hl => ⟨hv.s1 l hl, hv.s5 l hl⟩, hv.n4⟩ fun e => by have := hv.n2; simp [e] at this⟩
theorem few_le {p o : List (List Int)} (hv : Val p) (ho : Ords p o) : fewestOf p ≤ (meetN (seamsBy p o) : Int) :=
  fewest_min ⟨fun l hl => ⟨hv.s1 l hl, hv.s5 l hl⟩, hv.n4⟩ (fun e => by have := hv.n2; simp [e] at this) ho
end Go.Proofs.Ytlcebaejlnpdeaa.Ab

/-
  Plain law of layer 5: all widths times as great; orders that are turned round.
-/
namespace Go.Proofs.Ytlcebaejlnpdeaa.Ab
/-! ### Orders turned round -/
theorem sum_rev1 : ∀ l : List Int, sumI l.reverse = sumI l
  | [] => rfl
  | x :: l => by rw [List.reverse_cons, sumI_append, sum_rev1 l, sumI_cons, sumI_cons, sumI_nil]; omega
theorem sum_perm {a b : List Int} (h : a.Perm b) : sumI a = sumI b := by
  induction h with
  | nil => rfl
  | cons x _ ih => rw [sumI_cons, sumI_cons, ih]
  | swap x y l => rw [sumI_cons, sumI_cons, sumI_cons, sumI_cons]; omega
  | trans _ _ h1 h2 => rw [h1, h2]
def wsOf (l o : List Int) : List Int := o.map fun i => l.getD i.toNat 0
theorem wsOf_len (l o : List Int) : (wsOf l o).length = o.length := by simp [wsOf]
theorem ord_nums {o : List Int} {n : Nat} (h : isOrd o n = true) : o.Perm (nums n) := by
  obtain ⟨h1, h2, h3⟩ := isOrd_iff.1 h
  obtain ⟨_, _, k3⟩ := isOrd_iff.1 (nums_ord n)
  have hsub : ∀ x ∈ o, x ∈ nums n := fun x hx => by
    have := h2 x hx
    simp only [nums, List.mem_map, List.mem_range]
    exact ⟨x.toNat, by omega, by omega⟩
  rw [List.perm_ext_iff_of_nodup h3 k3]
  refine fun x => ⟨hsub x, fun hx => Classical.byContradiction fun hn => ?_⟩
  have := List.Nodup.length_le_of_subset (l₁ := x :: o) (l₂ := nums n) (List.nodup_cons.2 ⟨hn, h3⟩) fun z hz => by
    rcases List.mem_cons.1 hz with rfl | hz
    · exact hx
    · exact hsub z hz
  rw [nums_len, List.length_cons] at this
  omega
theorem ws_nums (l : List Int) : wsOf l (nums l.length) = l := by
  apply List.ext_getElem
  · simp [wsOf, nums]
  · intro k h1 h2
    simp [wsOf, nums, h2]
theorem ws_sum {l o : List Int} (h : isOrd o l.length = true) : sumI (wsOf l o) = sumI l := by
  rw [show sumI (wsOf l o) = sumI (wsOf l (nums l.length)) from sum_perm ((ord_nums h).map _), ws_nums]
theorem seamsGo_get (layer : List Int) : ∀ (o : List Int) (a : Int) (k : Nat) (h : k < (seamsGo layer a o).length), (seamsGo layer a o)[k] = a + sumI ((wsOf layer o).take (k + 1))
  | [], a, k, h => by simp [seamsGo] at h
  | i :: o, a, k, h => by
    cases k with
    | zero => simp [seamsGo, wsOf, sumI_cons, sumI_nil]
    | succ k =>
      have := seamsGo_get layer o (a + layer.getD i.toNat 0) k (by simpa [seamsGo] using h)
      simp only [seamsGo, List.getElem_cons_succ, this]
      rw [show wsOf layer (i :: o) = layer.getD i.toNat 0 :: wsOf layer o from rfl, List.take_succ_cons, sumI_cons]; omega
theorem seamsOf_len (l o : List Int) : (seamsOf l o).length = o.length - 1 := by simp [seamsOf, seamsGo_length]
theorem seamsOf_get (l o : List Int) (k : Nat) (h : k < (seamsOf l o).length) : (seamsOf l o)[k] = sumI ((wsOf l o).take (k + 1)) := by
  have hl := seamsOf_len l o
  have := seamsGo_get l o.dropLast 0 k h
  have e : (wsOf l o.dropLast).take (k + 1) = (wsOf l o).take (k + 1) := by
    rw [dropLast_take, wsOf, wsOf, List.map_take, List.take_take, Nat.min_eq_left (by omega)]
  rw [e] at this
  rw [show (seamsOf l o)[k] = (seamsGo l 0 o.dropLast)[k]'h from rfl, this]; omega
def turnL (W : Int) (s : List Int) : List Int := (s.map fun x => W - x).reverse
theorem turn_seams {l o : List Int} (h : isOrd o l.length = true) : seamsOf l o.reverse = turnL (sumI l) (seamsOf l o) := by
  have e : wsOf l o.reverse = (wsOf l o).reverse := by simp [wsOf]
  apply List.ext_getElem
  · simp [turnL, seamsOf_len]
  · intro k h1 h2
    have h3 := seamsOf_len l o.reverse
    have h4 := seamsOf_len l o
    rw [List.length_reverse] at h3
    rw [seamsOf_get, e, List.take_reverse, sum_rev1, wsOf_len]
    simp only [turnL, List.getElem_reverse, List.getElem_map, List.length_map]
    rw [seamsOf_get]
    have h5 := ws_sum h
    rw [← List.take_append_drop (o.length - (k + 1)) (wsOf l o), sumI_append] at h5
    rw [show (seamsOf l o).length - 1 - k + 1 = o.length - (k + 1) by omega]
    omega
theorem isOrd_rev {o : List Int} {n : Nat} (h : isOrd o n = true) : isOrd o.reverse n = true := ord_perm (List.reverse_perm o) h
theorem mem_turn (W : Int) (s : List Int) (x : Int) : W - x ∈ turnL W s ↔ x ∈ s := by
  simp only [turnL, List.mem_reverse, List.mem_map]
  exact ⟨fun ⟨y, hy, e⟩ => by rw [show x = y by omega]; exact hy, fun h => ⟨x, h, rfl⟩⟩
/-- Seams lie between both ends. -/
theorem seamsOf_in {l o : List Int} (hw : ∀ x ∈ l, 1 ≤ x) (ho : isOrd o l.length = true) : ∀ x ∈ seamsOf l o, 1 ≤ x ∧ x < sumI l := by
  intro x hx
  have h1 := (seamsOf_rise hw ho).2 x hx
  have h2 := (seamsOf_rise hw (isOrd_rev ho)).2 (sumI l - x) (by rw [turn_seams ho, mem_turn]; exact hx)
  omega
end Go.Proofs.Ytlcebaejlnpdeaa.Ab

/-
  Sums and sure seams: the program's are the definitions'.
-/
namespace Go.Proofs.Ytlcebaejlnpdeaa.Ab
open Go
def indS (w l : List Int) : Nat → Int
  | 0 => 0
  | i + 1 => indS w l i + if (i : Int) ∈ l then w.getD i 0 else 0
theorem indS_cons (w l : List Int) (x : Int) (h0 : 0 ≤ x) (hx : x ∉ l) : ∀ n : Nat, indS w (x :: l) n = indS w l n + if x < (n : Int) then w.getD x.toNat 0 else 0
  | 0 => by rw [if_neg (by omega)]; rfl
  | n + 1 => by
    have ih := indS_cons w l x h0 hx n
    simp only [indS, ih]
    by_cases e : (n : Int) = x
    · subst e
      rw [if_neg (show ¬ (n : Int) < (n : Int) by omega), if_pos (show (n : Int) ∈ (n : Int) :: l by simp), if_neg hx, if_pos (show (n : Int) < ((n + 1 : Nat) : Int) by omega)]
      simp
    · by_cases h : (n : Int) ∈ l
      · rw [if_pos (show (n : Int) ∈ x :: l by simp [h]), if_pos h]
        by_cases h2 : x < (n : Int)
        · rw [if_pos h2, if_pos (show x < ((n + 1 : Nat) : Int) by omega)]; omega
        · rw [if_neg h2, if_neg (show ¬ x < ((n + 1 : Nat) : Int) by omega)]; simp
      · rw [if_neg (show ¬ (n : Int) ∈ x :: l by simp [h, e]), if_neg h]
        by_cases h2 : x < (n : Int)
        · rw [if_pos h2, if_pos (show x < ((n + 1 : Nat) : Int) by omega)]; omega
        · rw [if_neg h2, if_neg (show ¬ x < ((n + 1 : Nat) : Int) by omega)]
theorem indS_sum (w : List Int) (n : Nat) : ∀ l : List Int, (∀ x ∈ l, 0 ≤ x ∧ x < n) → l.Nodup → sumI (wsOf w l) = indS w l n
  | [], _, _ => by
    have : ∀ n, indS w [] n = 0 := fun n => by induction n with
      | zero => rfl
      | succ n ih => simp [indS, ih]
    rw [this]; rfl
  | x :: l, h, hn => by
    have hx := h x (by simp)
    have ih := indS_sum w n l (fun y hy => h y (by simp [hy])) (List.nodup_cons.1 hn).2
    rw [indS_cons w l x hx.1 (List.nodup_cons.1 hn).1, if_pos hx.2, ← ih]
    show sumI (w.getD x.toNat 0 :: wsOf w l) = _
    rw [sumI_cons]; omega
theorem indS_bits (w l : List Int) (b : Nat) : ∀ n : Nat, (∀ i : Nat, i < n → (b / 2 ^ i % 2 = 1 ↔ (i : Int) ∈ l)) → bsumT w b n = indS w l n
  | 0, _ => rfl
  | n + 1, h => by
    simp only [bsumT, indS, indS_bits w l b n fun i hi => h i (by omega)]
    have hn := h n (by omega)
    have : b / 2 ^ n % 2 = 0 ∨ b / 2 ^ n % 2 = 1 := by omega
    rcases this with e | e
    · rw [e] at hn ⊢
      rw [if_neg (fun hh => by have := hn.2 hh; omega)]; simp
    · rw [if_pos (hn.1 e), e]; simp
def agree (b n : Nat) (l : List Int) : Bool := (List.range n).all fun i => decide (b / 2 ^ i % 2 = 1) == l.contains (i : Int)
theorem agree_iff {b n : Nat} {l : List Int} (h : agree b n l = true) (i : Nat) (hi : i < n) : b / 2 ^ i % 2 = 1 ↔ (i : Int) ∈ l := by
  have := List.all_eq_true.1 h i (List.mem_range.2 hi)
  rw [beq_iff_eq] at this
  rw [← decide_eq_true_iff (p := b / 2 ^ i % 2 = 1), this, List.contains_iff_mem]
def facts1 (n : Nat) : Bool := (perms n).all fun o => (List.range (n - 1)).all fun j => (List.range (2 ^ n - 2)).any fun b => agree (b + 1) n (o.take (j + 1))
def facts2 (n : Nat) : Bool := (List.range (2 ^ n - 2)).all fun b => (perms n).any fun o => (List.range (n - 1)).any fun j => agree (b + 1) n (o.take (j + 1))
theorem facts_all : ∀ n : Fin 6, facts1 n.1 = true ∧ facts2 n.1 = true := by decide +kernel
theorem subs_iff {w : List Int} (h5 : w.length ≤ 5) (a : Int) : a ∈ subs w ↔ ∃ o ∈ perms w.length, a ∈ seamsOf w o := by
  obtain ⟨f1, f2⟩ := facts_all ⟨w.length, by omega⟩
  have key : ∀ (b : Nat) (o : List Int) (j : Nat), o ∈ perms w.length → j < w.length - 1 → agree (b + 1) w.length (o.take (j + 1)) = true → ∃ h : j < (seamsOf w o).length, (seamsOf w o)[j] = bsumT w (b + 1) w.length := fun b o j ho hj hg => by
    obtain ⟨p1, p2, p3⟩ := perms_mem ho
    have hl : j < (seamsOf w o).length := by rw [seamsOf_len]; omega
    refine ⟨hl, ?_⟩
    have e : (wsOf w o).take (j + 1) = wsOf w (o.take (j + 1)) := by simp [wsOf, List.map_take]
    rw [seamsOf_get, e, indS_sum w w.length _ (fun x hx => p2 x (List.mem_of_mem_take hx)) (List.Nodup.sublist (List.take_sublist _ _) p3), indS_bits w _ (b + 1) w.length fun i hi => agree_iff hg i hi]
  constructor
  · intro h
    obtain ⟨b, hb, rfl⟩ := List.mem_map.1 h
    obtain ⟨o, ho, h2⟩ := List.any_eq_true.1 (List.all_eq_true.1 f2 b hb)
    obtain ⟨j, hj, h3⟩ := List.any_eq_true.1 h2
    obtain ⟨q1, q2⟩ := key b o j ho (List.mem_range.1 hj) h3
    exact ⟨o, ho, q2 ▸ List.getElem_mem q1⟩
  · rintro ⟨o, ho, h⟩
    obtain ⟨j, hj, rfl⟩ := List.mem_iff_getElem.1 h
    have p1 := (perms_mem ho).1
    have hj2 : j < w.length - 1 := by rw [seamsOf_len] at hj; omega
    obtain ⟨b, hb, h3⟩ := List.any_eq_true.1 (List.all_eq_true.1 (List.all_eq_true.1 f1 o ho) j (List.mem_range.2 hj2))
    obtain ⟨q1, q2⟩ := key b o j ho hj2 h3
    rw [q2]
    exact List.mem_map.2 ⟨b, hb, rfl⟩
/-- Lists that rise, with the same numbers. -/
theorem rise_eq : ∀ {a b : List Int}, a.Pairwise (· < ·) → b.Pairwise (· < ·) → (∀ x, x ∈ a ↔ x ∈ b) → a = b
  | [], [], _, _, _ => rfl
  | [], y :: b, _, _, h => by have := (h y).2 (by simp); simp at this
  | x :: a, [], _, _, h => by have := (h x).1 (by simp); simp at this
  | x :: a, y :: b, ha, hb, h => by
    obtain ⟨a1, a2⟩ := List.pairwise_cons.1 ha
    obtain ⟨b1, b2⟩ := List.pairwise_cons.1 hb
    have hxy : x = y := by
      rcases List.mem_cons.1 ((h x).1 (by simp)) with e | e
      · exact e
      · rcases List.mem_cons.1 ((h y).2 (by simp)) with e2 | e2
        · exact e2.symm
        · have := a1 y e2; have := b1 x e; omega
    subst hxy
    rw [rise_eq a2 b2 fun z => ?_]
    constructor
    · intro hz
      rcases List.mem_cons.1 ((h z).1 (by simp [hz])) with e | e
      · have := a1 z hz; omega
      · exact e
    · intro hz
      rcases List.mem_cons.1 ((h z).2 (by simp [hz])) with e | e
      · have := b1 z hz; omega
      · exact e
theorem cmpA_mem (l : List Int) : ∀ k, k ≤ l.length → ∀ x, x ∈ cmpA l k ↔ x ∈ l.take k
  | 0, _, x => by simp [cmpA]
  | k + 1, h, x => by
    have ih := cmpA_mem l k (by omega) x
    rw [List.take_succ_eq_append_getElem (by omega), List.mem_append, List.mem_singleton]
    have hg : l.getD k 0 = l[k]'(by omega) := by simp [show k < l.length by omega]
    simp only [cmpA]
    split
    · rename_i hc
      rw [ih]
      refine ⟨.inl, fun hh => hh.elim id fun e => ?_⟩
      have hg2 : l.getD (k - 1) 0 = l[k - 1]'(by omega) := by simp [show k - 1 < l.length by omega]
      rw [e, ← hg, hc.2, hg2]
      exact List.mem_iff_getElem.2 ⟨k - 1, by simp; omega, by simp⟩
    · rw [List.mem_append, ih, List.mem_singleton, hg]
theorem cmpA_rise (l : List Int) (hs : ∀ i j, i < j → j < l.length → l.getD i 0 ≤ l.getD j 0) : ∀ k, k ≤ l.length → (cmpA l k).Pairwise (· < ·) ∧ (0 < k → ∀ x ∈ cmpA l k, x ≤ l.getD (k - 1) 0)
  | 0, _ => ⟨List.Pairwise.nil, fun h => by omega⟩
  | k + 1, h => by
    obtain ⟨i1, i2⟩ := cmpA_rise l hs k (by omega)
    simp only [cmpA, Nat.add_sub_cancel]
    split
    · rename_i hc
      exact ⟨i1, fun _ x hx => by have := i2 hc.1 x hx; omega⟩
    · rename_i hc
      have hlt : ∀ x ∈ cmpA l k, x < l.getD k 0 := fun x hx => by
        have hk : 0 < k := by
          cases k with
          | zero => simp [cmpA] at hx
          | succ k => omega
        have h1 := i2 hk x hx
        have h2 := hs (k - 1) k (by omega) (by omega)
        have h3 : l.getD k 0 ≠ l.getD (k - 1) 0 := fun e => hc ⟨hk, e⟩
        omega
      refine ⟨List.pairwise_append.2 ⟨i1, by simp, fun x hx y hy => by rw [List.mem_singleton.1 hy]; exact hlt x hx⟩, fun _ x hx => ?_⟩
      rcases List.mem_append.1 hx with hx | hx
      · have := hlt x hx; omega
      · rw [List.mem_singleton.1 hx]; exact Int.le_refl _
theorem psums_spec (w : List Int) : (psums w).Pairwise (· < ·) ∧ ∀ x, x ∈ psums w ↔ x ∈ subs w := by
  have hs := Sort.sortInt (subs w)
  obtain ⟨S, hS⟩ : ∃ S, S = (Sort.sort Sort.ltInt (subs w).toArray).toList := ⟨_, rfl⟩
  rw [← hS] at hs
  have hp : psums w = cmpA S (subs w).length := by rw [hS]; rfl
  have hl : S.length = (subs w).length := by rw [hs]; exact List.length_mergeSort _
  have hm : ∀ x, x ∈ S ↔ x ∈ subs w := fun x => by rw [hs]; exact List.mem_mergeSort
  have hpw : S.Pairwise fun a b => a ≤ b := by
    rw [hs]
    have := List.pairwise_mergeSort (le := fun x y : Int => decide (x ≤ y)) (fun a b c h1 h2 => by simp at *; omega) (fun a b => by simp; omega) (subs w)
    exact this.imp fun h => by simpa using h
  have hso : ∀ i j, i < j → j < S.length → S.getD i 0 ≤ S.getD j 0 := fun i j hij hj => by
    have := List.pairwise_iff_getElem.1 hpw i j (by omega) hj hij
    simpa [show i < S.length by omega, hj] using this
  rw [hp, ← hl]
  refine ⟨(cmpA_rise S hso _ (Nat.le_refl _)).1, fun x => ?_⟩
  rw [cmpA_mem S _ (Nat.le_refl _) x, List.take_length]
  exact hm x
theorem cntL_spec (w : List Int) (m : Int) (r : Nat) : (cntL w m r).Pairwise (· < ·) ∧ ∀ x, x ∈ cntL w m r ↔ 1 ≤ x ∧ x ≤ r ∧ m ≤ (cnt w x : Int) := by
  constructor
  · refine List.Pairwise.filter _ ?_
    refine List.pairwise_map.2 ?_
    exact (List.pairwise_lt_range (n := r)).imp fun h => by omega
  · intro x
    simp only [cntL, List.mem_filter, List.mem_map, List.mem_range, decide_eq_true_eq]
    constructor
    · rintro ⟨⟨i, hi, rfl⟩, h⟩; exact ⟨by omega, by omega, h⟩
    · rintro ⟨h1, h2, h3⟩; exact ⟨⟨x.toNat - 1, by omega, by omega⟩, h3⟩
theorem cnt_all (w : List Int) (a : Int) : ((perms w.length).length : Int) ≤ (cnt w a : Int) ↔ ∀ o ∈ perms w.length, a ∈ seamsOf w o := by
  have hl : (seamA w).length = (perms w.length).length := by simp [seamA]
  have : ((perms w.length).length : Int) ≤ (cnt w a : Int) ↔ cnt w a = (seamA w).length := by
    have := List.length_filter_le (fun r => has r a) (seamA w)
    rw [hl] at this ⊢
    unfold cnt; omega
  rw [this, cnt, List.length_filter_eq_length_iff]
  simp only [seamA, List.mem_map, has_iff]
  constructor
  · intro h o ho; exact h _ ⟨o, ho, rfl⟩
  · rintro h _ ⟨o, ho, rfl⟩; exact h o ho
structure Wl (w : List Int) : Prop where
  n1 : 1 ≤ w.length
  n5 : w.length ≤ 5
  w : ∀ x ∈ w, 1 ≤ x
theorem Val.wl {p : List (List Int)} (hv : Val p) {w : List Int} (h : w ∈ p) : Wl w := ⟨hv.s1 w h, hv.s5 w h, fun x hx => (hv.w w h x hx).1⟩
theorem psums_in {w : List Int} (h : Wl w) {a : Int} (ha : ∃ o ∈ perms w.length, a ∈ seamsOf w o) : 1 ≤ a ∧ a < sumI w := by
  obtain ⟨o, ho, ha⟩ := ha
  exact seamsOf_in h.w (perms_ord ho) a ha
def sureL (w : List Int) : List Int := (perms w.length).foldl (fun cur o => cur.filter (has (seamsOf w o))) (psums w)
theorem filt_fold (w : List Int) : ∀ (L : List (List Int)) (c : List Int), c.Pairwise (· < ·) → (L.foldl (fun cur o => cur.filter (has (seamsOf w o))) c).Pairwise (· < ·) ∧ ∀ x, x ∈ L.foldl (fun cur o => cur.filter (has (seamsOf w o))) c ↔ x ∈ c ∧ ∀ o ∈ L, x ∈ seamsOf w o
  | [], c, h => ⟨h, by simp⟩
  | o :: L, c, h => by
    obtain ⟨h1, h2⟩ := filt_fold w L (c.filter (has (seamsOf w o))) (h.filter _)
    refine ⟨h1, fun x => ?_⟩
    rw [List.foldl_cons, h2, List.mem_filter, has_iff, List.forall_mem_cons, and_assoc]
theorem sure_eq {w : List Int} (h : Wl w) : sureL w = rsure w := by
  obtain ⟨p1, p2⟩ := psums_spec w
  obtain ⟨f1, f2⟩ := filt_fold w (perms w.length) (psums w) p1
  obtain ⟨r1, r2⟩ := cntL_spec w (perms w.length).length (sumI w - 1).toNat
  refine rise_eq f1 r1 fun x => ?_
  show x ∈ (perms w.length).foldl (fun cur o => cur.filter (has (seamsOf w o))) (psums w) ↔ x ∈ cntL w (perms w.length).length (sumI w - 1).toNat
  rw [f2, r2, p2, subs_iff h.n5, cnt_all]
  have hN := (first_perm h.n1 h.n5).1
  constructor
  · rintro ⟨hx, ha⟩; have := psums_in h hx; exact ⟨this.1, by omega, ha⟩
  · rintro ⟨_, _, ha⟩; exact ⟨⟨_, List.getElem_mem hN, ha _ (List.getElem_mem hN)⟩, ha⟩
end Go.Proofs.Ytlcebaejlnpdeaa.Ab

/-
  What sums and sure seams are like.
-/
namespace Go.Proofs.Ytlcebaejlnpdeaa.Ab
open Go
theorem rsure_mem {w : List Int} (h : Wl w) (a : Int) : a ∈ rsure w ↔ ∀ o ∈ perms w.length, a ∈ seamsOf w o := by
  rw [show rsure w = cntL w (perms w.length).length (sumI w - 1).toNat from rfl, (cntL_spec w _ _).2, cnt_all]
  have hN := (first_perm h.n1 h.n5).1
  refine ⟨fun hx => hx.2.2, fun ha => ?_⟩
  have := psums_in h ⟨_, List.getElem_mem hN, ha _ (List.getElem_mem hN)⟩
  exact ⟨this.1, by omega, ha⟩
theorem rsure_rise (w : List Int) : (rsure w).Pairwise (· < ·) := (cntL_spec w _ _).1
theorem rsure_len {w : List Int} (h : Wl w) : (rsure w).length ≤ 4 := by
  have hN := (first_perm h.n1 h.n5).1
  have ho := List.getElem_mem hN
  have hr := (seamsOf_rise h.w (perms_ord ho)).1
  have e : rsure w = (seamsOf w (perms w.length)[0]).filter fun x => decide (x ∈ rsure w) := by
    refine rise_eq (rsure_rise w) (hr.filter _) fun x => ?_
    rw [List.mem_filter, decide_eq_true_iff]
    exact ⟨fun hx => ⟨(rsure_mem h x).1 hx _ ho, hx⟩, fun hx => hx.2⟩
  rw [e]
  refine Nat.le_trans (List.length_filter_le _ _) ?_
  rw [seamsOf_len, (perms_mem ho).1]
  have := h.n5
  omega
end Go.Proofs.Ytlcebaejlnpdeaa.Ab

/-
  Contracts: Far, Apart, and the definitions' Far.
-/
namespace Go.Proofs.Ytlcebaejlnpdeaa.Ab
open Go
set_option maxRecDepth 20000
set_option maxHeartbeats 4000000
end Go.Proofs.Ytlcebaejlnpdeaa.Ab

/-
  Contracts: the definitions' Far, ApartError; SeamFars.
-/
namespace Go.Proofs.Ytlcebaejlnpdeaa.Ab
open Go
set_option maxRecDepth 20000
set_option maxHeartbeats 4000000
end Go.Proofs.Ytlcebaejlnpdeaa.Ab

/-
  Contracts: fine, fewest, far.
-/
namespace Go.Proofs.Ytlcebaejlnpdeaa.Ab
open Go
set_option maxRecDepth 20000
set_option maxHeartbeats 4000000
def fineB (p : List (List Int)) : Bool := !(big p) && decide (checkP p = 0)
theorem fine_ok (p : List (List Int)) (hp : Fl2 p) : PO 48 [P1 p] (B (fineB p)) := by
  have hp1 := hp.n
  refine fn_pure hmix lk48 rfl rfl ?_
  unfold rc48
  conv => whnf
  refine ⟨by first | rfl | simp only [List.all_cons, List.all_nil, pu0, pub, pu1, pu2, pu1', pu2', pun, puf, puP, puP', puQ, puQ', Bool.and_true, Bool.and_self], _, great_ok p hp1, ?_⟩
  conv => whnf
  cases h1 : big p with
  | true =>
    conv => whnf
    exact ret_pure (.inr rfl) rfl (by rw [fineB, h1]; rfl)
  | false =>
    obtain ⟨a1, a2⟩ := big_false.1 h1
    conv => whnf
    refine ⟨by first | rfl | simp only [List.all_cons, List.all_nil, pu0, pub, pu1, pu2, pu1', pu2', pun, puf, puP, puP', puQ, puQ', Bool.and_true, Bool.and_self], _, rcheck_ok p (by omega) fun l hl => by have := a2 l hl; omega, ?_⟩
    conv => whnf
    exact ret_pure (.inr rfl) rfl (by rw [fineB, h1]; rfl)
theorem fineB_val {p : List (List Int)} (h : fineB p = true) : Val p := by
  simp only [fineB, Bool.and_eq_true, decide_eq_true_eq] at h
  exact checkP_val h.2
theorem Val.big {p : List (List Int)} (hv : Val p) : Ab.big p = false :=
  big_false.2 ⟨by have := hv.n4; omega, fun l hl => by have := hv.s5 l hl; omega⟩
theorem Val.fit {p : List (List Int)} (hv : Val p) : p.length ≤ 140737488355328 ∧ ∀ l ∈ p, l.length ≤ 140737488355328 :=
  ⟨by have := hv.n4; omega, fun l hl => by have := hv.s5 l hl; omega⟩
theorem Ords.fit {p o : List (List Int)} (hv : Val p) (ho : Ords p o) : Fit p o ∧ Ab.big o = false := by
  have h4 := hv.n4
  have hl := ho.len
  have hr : ∀ r ∈ o, r.length ≤ 5 := fun r hr => by
    obtain ⟨i, hi, rfl⟩ := List.mem_iff_getElem.1 hr
    have h2 : i < p.length := by omega
    rw [(isOrd_iff.1 (ho.ord i hi h2)).1]
    exact hv.s5 _ (List.getElem_mem h2)
  exact ⟨⟨hv.fit.1, hv.fit.2, by omega, fun l hl => by have := hr l hl; omega⟩, big_false.2 ⟨by omega, fun l hl => by have := hr l hl; omega⟩⟩
theorem Ords.err {p o : List (List Int)} (hv : Val p) (ho : Ords p o) : ordErr p o = 0 := ordErr_zero.2 ⟨hv, ho⟩
theorem fewest49_ok (p : List (List Int)) (hv : Val p) : PO 49 [P1 p] (.tuple [I (fewestOf p), B true]) := by
  obtain ⟨f1, f2⟩ := hv.fit
  have ho := progOrders_ords hv
  obtain ⟨q1, q2⟩ := ho.fit hv
  have he := ho.err hv
  have hm : meetOf p (progOrders p) = fewestOf p := by rw [meetOf, if_pos he, fewest_eq hv.lens hv.ne]
  have e1 : pfewE p = fewestOf p := by rw [few_same, fewE, if_pos hv.check]
  have e2 : pordE p = progOrders p := if_pos hv.check
  refine fn_pure hmix lk49 rfl rfl ?_
  unfold rc49
  conv => whnf
  refine ⟨by first | rfl | simp only [List.all_cons, List.all_nil, pu0, pub, pu1, pu2, pu1', pu2', pun, puf, puP, puP', puQ, puQ', Bool.and_true, Bool.and_self], _, pfewest_ok p f1 f2, ?_⟩
  conv => whnf
  refine ⟨by first | rfl | simp only [List.all_cons, List.all_nil, pu0, pub, pu1, pu2, pu1', pu2', pun, puf, puP, puP', puQ, puQ', Bool.and_true, Bool.and_self], _, pOrders_ok p f1 f2, ?_⟩
  conv => whnf
  rw [hv.check, e1, e2]
  conv => whnf
  refine ⟨by first | rfl | simp only [List.all_cons, List.all_nil, pu0, pub, pu1, pu2, pu1', pu2', pun, puf, puP, puP', puQ, puQ', Bool.and_true, Bool.and_self], _, wide_ok (progOrders p) (by have := q1.o1; omega), ?_⟩
  conv => whnf
  rw [q2]
  conv => whnf
  refine ⟨by first | rfl | simp only [List.all_cons, List.all_nil, pu0, pub, pu1, pu2, pu1', pu2', pun, puf, puP, puP', puQ, puQ', Bool.and_true, Bool.and_self], _, pmeet_ok p (progOrders p) q1, ?_⟩
  conv => whnf
  refine ⟨by first | rfl | simp only [List.all_cons, List.all_nil, pu0, pub, pu1, pu2, pu1', pu2', pun, puf, puP, puP', puQ, puQ', Bool.and_true, Bool.and_self], _, rmeet_ok p (progOrders p) q1, ?_⟩
  conv => whnf
  rw [he, hm]
  conv => whnf
  rw [deqr]
  conv => whnf
  rw [deqr]
  conv => whnf
  exact ret_pure (.inr rfl) rfl rfl
end Go.Proofs.Ytlcebaejlnpdeaa.Ab

/-
  SeamFewer.
-/
namespace Go.Proofs.Ytlcebaejlnpdeaa.Ab
open Go
set_option maxRecDepth 20000
set_option maxHeartbeats 4000000
theorem Val.again {q : List (List Int)} {a : List Int} (hv : Val (q ++ [a])) (h : (q ++ [a]).length ≤ 3) : Val (q ++ [a] ++ [a]) := by
  have hh : (q ++ [a] ++ [a]).headD [] = (q ++ [a]).headD [] := by cases q <;> rfl
  have hm : ∀ l ∈ q ++ [a] ++ [a], l ∈ q ++ [a] := fun l hl => by simp at hl ⊢; rcases hl with h | h | h <;> simp [h]
  have h2 := hv.n2
  refine ⟨by simp at h2 ⊢, by simp at h ⊢; omega, fun l hl => hv.s1 l (hm l hl), fun l hl => hv.s5 l (hm l hl), fun l hl => hv.w l (hm l hl), fun l hl => by rw [hh]; exact hv.eq l (hm l hl)⟩
end Go.Proofs.Ytlcebaejlnpdeaa.Ab

/-
  Chosen: orders by numbers, as a contract.
-/
namespace Go.Proofs.Ytlcebaejlnpdeaa.Ab
open Go
set_option maxRecDepth 20000
set_option maxHeartbeats 4000000
theorem pure_Y1 (l : List Int) : pureD 8 (Y1 l) = true := by
  show (l.map (AV.int .u8)).all (pureD 7) = true
  rw [List.all_map, List.all_eq_true]; intro x _; rfl
theorem pickN_val {y : List Int} (hy : Fy y) (n t : Nat) (h : t % y.length < y.length) : (IntKind.i64.wrap (y[t % y.length]'h)).tmod n = ((pickN y n t : Nat) : Int) := by
  have hb := hy.v _ (List.getElem_mem h)
  have hne : y ≠ [] := fun e => by rw [e] at h; simp at h
  obtain ⟨b, e⟩ : ∃ b : Nat, y[t % y.length]'h = (b : Int) := ⟨(y[t % y.length]'h).toNat, by omega⟩
  rw [wrapI _ (by omega) (by omega), pickN, if_neg hne]
  have e2 : y.getD (t % y.length) 0 = y[t % y.length]'h := by rw [List.getD_eq_getElem?_getD, List.getElem?_eq_getElem h]; rfl
  rw [e2, e]
  rfl
theorem stepN_val {y : List Int} (t : Nat) (h : 0 < y.length) (ht : t ≤ 1000) : IntKind.i64.wrap ((t : Int) + 1) = ((stepN y t : Nat) : Int) := by
  have hne : y ≠ [] := fun e => by rw [e] at h; simp at h
  rw [wrapS t (by omega), stepN, if_neg hne]
theorem dropI (l : List Int) (i : Nat) : AV.lst (((l.map I).drop (((i : Nat) : Int).toNat * 1)).take ((l.length - ((i : Nat) : Int).toNat) * 1)) (l.length - ((i : Nat) : Int).toNat) .shared = L1 (l.drop i) := by
  have e : ((l.map I).drop i).take (l.length - i) = (l.drop i).map I := by rw [← List.map_drop, List.take_of_length_le (by simp)]
  show AV.lst (((l.map I).drop (i * 1)).take ((l.length - i) * 1)) (l.length - i) .shared = _
  rw [Nat.mul_one, Nat.mul_one, e, L1, List.length_drop]
theorem eraseU (left : List Int) (n : Nat) : AV.lst (repl 0 [AV.int .i64 0] ++ (left.take n).map I ++ (left.drop (n + 1)).map I) (0 + (left.take n).length + (left.drop (n + 1)).length) (.uniq 1) = U1 (left.eraseIdx n) := by
  rw [List.eraseIdx_eq_take_drop_succ]; simp [U1, repl]
theorem pickGo_step {y left : List Int} {t n : Nat} (hn : n < left.length) (e : pickN y left.length t = n) : pickGo y left.length left t = (left[n] :: (pickGo y (left.eraseIdx n).length (left.eraseIdx n) (stepN y t)).1, (pickGo y (left.eraseIdx n).length (left.eraseIdx n) (stepN y t)).2) := by
  have hl : (left.eraseIdx n).length = left.length - 1 := List.length_eraseIdx_of_lt hn
  obtain ⟨f, hf⟩ : ∃ f, left.length = f + 1 := ⟨left.length - 1, by omega⟩
  have hg : left.getD n 0 = left[n] := by simp [List.getD_eq_getElem?_getD, hn]
  conv => lhs; rw [hf, pickGo, e, hg]
  rw [hl, hf]; rfl
theorem stepN_le (y : List Int) (t : Nat) : stepN y t ≤ t + 1 := by unfold stepN; split <;> omega
theorem chosen_ok (p : List (List Int)) (y : List Int) (hv : Val p) (hy : Fy y) (h30 : y.length ≤ 30) : PO 50 [P1 p, Y1 y] (O2 (chosen p y)) := by
  have h4 := hv.n4
  refine fn_pure hmix lk50 rfl (pu2 _ _ _) ?_
  unfold rc50
  conv => whnf
  refine .intro (fun m T H => ∃ i t out, i ≤ p.length ∧ m = p.length - i ∧ t ≤ 5 * i ∧ out.length = i ∧ out ++ chosenGo y (p.drop i) t = chosen p y ∧ T = slots 74 [(1, Y1 y), (2, .ptr 0 0), (5, U2 out), (6, I t), (7, I i)] ∧ H = [.cells [L2 p]]) p.length ⟨0, 0, [], Nat.zero_le _, rfl, Nat.zero_le _, rfl, rfl, rfl, rfl⟩ ?_
  rintro m T H ⟨i, t, out, hi, rfl, ht, ho, hc, rfl, rfl⟩
  conv => whnf
  refine dcase (fun h => ?_) (fun h => ?_)
  · have hlt : i < p.length := by omega
    have hl5 := hv.s5 _ (List.getElem_mem hlt)
    conv => whnf
    refine .intro (CI (fun k => slots 74 [(1, Y1 y), (2, .ptr 0 0), (5, U2 out), (6, I t), (7, I i), (8, U1 (nums k)), (9, U1 []), (10, I k)]) p[i].length [.cells [L2 p]]) p[i].length (ci0 rfl) ?_
    rintro m T H ⟨k, hk, rfl, rfl, rfl⟩
    conv => whnf
    refine ⟨by omega, ?_⟩
    conv => whnf
    refine nthM _ _ _ (hlt) ?_
    conv => whnf
    refine dcase (fun h1 => ?_) (fun h1 => ?_)
    · have hnl := nums_len k
      conv => whnf
      refine ⟨rfl, by decide, rfl, by omega, ?_⟩
      conv => whnf
      exact ciN (by omega) (by rw [nums_succ, ← U1_snoc, ← wrapS k (by omega)] <;> rfl)
    · obtain rfl : k = p[i].length := by omega
      conv => whnf
      refine .intro (fun m T H => ∃ left order t', m = left.length ∧ left.length + order.length = p[i].length ∧ t' ≤ t + order.length ∧ order ++ (pickGo y left.length left t').1 = (pickGo y p[i].length (nums p[i].length) t).1 ∧ (pickGo y left.length left t').2 = (pickGo y p[i].length (nums p[i].length) t).2 ∧
        T = slots 74 [(1, Y1 y), (2, .ptr 0 0), (5, U2 out), (6, I t'), (7, I i), (8, U1 left), (9, U1 order)] ∧ H = [.cells [L2 p]]) p[i].length ⟨nums p[i].length, [], t, (nums_len _).symm, by rw [nums_len]; rfl, Nat.le_refl _, by rw [nums_len]; rfl, by rw [nums_len], rfl, rfl⟩ ?_
      rintro m T H ⟨left, order, t', rfl, hlo, ht', hp1, hp2, rfl, rfl⟩
      conv => whnf
      refine dcase (fun h2 => ?_) (fun h2 => ?_)
      · conv => whnf
        refine dcase (fun h3 => ?_) (fun h3 => ?_)
        · conv => whnf
          have hyl : 0 < y.length := by omega
          refine ⟨by omega, ?_⟩
          conv => whnf
          rw [show (t' : Int).tmod y.length = ((t' % y.length : Nat) : Int) from rfl]
          have hm := Nat.mod_lt t' hyl
          refine ⟨by omega, ?_⟩
          conv => whnf
          refine nthM _ _ _ hm ?_
          conv => whnf
          refine ⟨by omega, ?_⟩
          conv => whnf
          have en := pickN_val hy left.length t' hm
          have es := stepN_val t' hyl (by omega)
          have hn := pickN_lt y (n := left.length) t' (by omega)
          rw [en, es]
          generalize hnn : pickN y left.length t' = n at *
          refine ⟨by omega, ?_⟩
          conv => whnf
          refine nthM _ _ _ hn ?_
          conv => whnf
          refine ⟨rfl, by decide, rfl, by omega, ?_⟩
          conv => whnf
          refine ⟨by omega, ?_⟩
          rw [takeI left n (by omega)]
          conv => whnf
          refine ⟨by simp, by rw [List.length_take]; omega, ?_⟩
          conv => whnf
          refine ⟨by simp, ?_⟩
          conv => whnf
          refine ⟨by rw [List.length_take]; omega, ?_⟩
          conv => whnf
          rw [wrapS n (by omega)]
          refine ⟨by omega, ?_⟩
          rw [dropI left (n + 1)]
          conv => whnf
          refine ⟨by simp, by rw [List.length_drop]; omega, ?_⟩
          conv => whnf
          refine ⟨by simp, ?_⟩
          conv => whnf
          refine ⟨by simp; omega, ?_⟩
          conv => whnf
          have hl : (left.eraseIdx n).length = left.length - 1 := List.length_eraseIdx_of_lt hn
          have hs := stepN_le y t'
          rw [pickGo_step hn hnn] at hp1 hp2
          refine ⟨(left.eraseIdx n).length, by omega, left.eraseIdx n, order ++ [left[n]], stepN y t', rfl, by simp; omega, by simp; omega, by rw [← hp1, List.append_assoc]; rfl, hp2, ?_, rfl⟩
          rw [← eraseU, ← U1_snoc]; rfl
        · have hy0 : y = [] := List.length_eq_zero_iff.1 (by omega)
          have hn : 0 < left.length := by omega
          have hnn : pickN y left.length t' = 0 := if_pos hy0
          have es : stepN y t' = t' := if_pos hy0
          conv => whnf
          refine ⟨by omega, ?_⟩
          conv => whnf
          refine nthM I left 0 hn ?_
          conv => whnf
          refine ⟨rfl, by decide, rfl, by omega, ?_⟩
          conv => whnf
          refine ⟨by omega, ?_⟩
          rw [show AV.lst ((left.map I).take ((0 : Int).toNat * 1)) (0 : Int).toNat .shared = L1 (left.take 0) from takeI left 0 (Nat.zero_le _)]
          conv => whnf
          refine ⟨by simp, by rw [List.length_take]; omega, ?_⟩
          conv => whnf
          refine ⟨by simp, ?_⟩
          conv => whnf
          refine ⟨by rw [List.length_take]; omega, ?_⟩
          conv => whnf
          rw [show IntKind.i64.wrap (0 + 1) = (1 : Int) by rw [IntKind.wrap_i64]; rfl]
          refine ⟨by omega, ?_⟩
          rw [show AV.lst (((left.map I).drop ((1 : Int).toNat * 1)).take ((left.length - (1 : Int).toNat) * 1)) (left.length - (1 : Int).toNat) .shared = L1 (left.drop 1) from dropI left 1]
          conv => whnf
          refine ⟨by simp, by rw [List.length_drop]; omega, ?_⟩
          conv => whnf
          refine ⟨by simp, ?_⟩
          conv => whnf
          refine ⟨by simp; omega, ?_⟩
          conv => whnf
          have hl : (left.eraseIdx 0).length = left.length - 1 := List.length_eraseIdx_of_lt hn
          have hs := stepN_le y t'
          rw [pickGo_step hn hnn] at hp1 hp2
          refine ⟨(left.eraseIdx 0).length, by omega, left.eraseIdx 0, order ++ [left[0]], stepN y t', rfl, by simp; omega, by simp; omega, by rw [← hp1, List.append_assoc]; rfl, hp2, ?_, rfl⟩
          rw [← eraseU, ← U1_snoc, es]; rfl
      · have h0 : left.length = 0 := by omega
        rw [h0, pickGo, List.append_nil] at hp1
        rw [h0, pickGo] at hp2
        have hd : p.drop i = p[i] :: p.drop (i + 1) := List.drop_eq_getElem_cons hlt
        rw [hd, chosenGo, ← hp1, ← hp2] at hc
        conv => whnf
        refine ⟨rfl, by decide, rfl, by omega, ?_⟩
        conv => whnf
        refine ⟨p.length - (i + 1), by omega, i + 1, t', out ++ [order], by omega, rfl, by omega, by simp; omega, by rw [← hc, List.append_assoc]; rfl, ?_, rfl⟩
        rw [← U2_snoc, ← wrapS i (by omega)]; rfl
  · obtain rfl : i = p.length := by omega
    rw [List.drop_length, chosenGo, List.append_nil] at hc
    conv => whnf
    exact ret_own (.inr rfl) (pu2 _ _ _) (.inr (by rw [← hc]; rfl))
end Go.Proofs.Ytlcebaejlnpdeaa.Ab

/-
  SeamUpside.
-/
namespace Go.Proofs.Ytlcebaejlnpdeaa.Ab
open Go
set_option maxRecDepth 20000
set_option maxHeartbeats 4000000
theorem pair_good {p : List (List Int)} (hv : Val p) (i : Nat) (h : i + 2 ≤ p.length) : pairErr p i = 0 ∧ pairV p i = fewestOf ((p.drop i).take 2) := by
  have e : pairErr p i = 0 := by rw [pairErr, if_neg (by simp [hv.check]), if_neg (by omega)]
  exact ⟨e, by rw [pairV, if_pos e]; rfl⟩
theorem Val.two {p : List (List Int)} (hv : Val p) (i : Nat) (h : i + 2 ≤ p.length) : Val ((p.drop i).take 2) := by
  have hm : ∀ l ∈ (p.drop i).take 2, l ∈ p := fun l hl => List.mem_of_mem_drop (List.mem_of_mem_take hl)
  have hl2 : ((p.drop i).take 2).length = 2 := by simp; omega
  have hh : ((p.drop i).take 2).headD [] ∈ p := by
    cases hq : (p.drop i).take 2 with
    | nil => rw [hq] at hl2; simp at hl2
    | cons a r => exact hm a (by rw [hq]; simp)
  exact ⟨by omega, by omega, fun l hl => hv.s1 l (hm l hl), fun l hl => hv.s5 l (hm l hl), fun l hl => hv.w l (hm l hl), fun l hl => by rw [hv.eq l (hm l hl), hv.eq _ hh]⟩
end Go.Proofs.Ytlcebaejlnpdeaa.Ab

/-
  The fewest meetings of a panel, of its neighbours, and sure seams.
-/
namespace Go.Proofs.Ytlcebaejlnpdeaa.Ab
open Go
theorem common_mono {a b s t : List Int} (ha : a.Pairwise (· < ·)) (hs : s.Pairwise (· < ·)) (h1 : ∀ x ∈ a, x ∈ s) (h2 : ∀ x ∈ b, x ∈ t) : common a b ≤ common s t := by
  have e : (a.filter fun x => has b x) = (s.filter fun x => has t x).filter fun x => decide (x ∈ a.filter fun x => has b x) := by
    refine rise_eq (ha.filter _) ((hs.filter _).filter _) fun x => ?_
    simp only [List.mem_filter, has_iff, decide_eq_true_iff]
    exact ⟨fun h => ⟨⟨h1 x h.1, h2 x h.2⟩, h⟩, fun h => h.2⟩
  unfold common
  rw [e]
  exact List.length_filter_le _ _
theorem two_drop {p : List (List Int)} (i : Nat) (h : i + 2 ≤ p.length) : (p.drop i).take 2 = [p[i], p[i + 1]] := by
  rw [List.drop_eq_getElem_cons (by omega), List.drop_eq_getElem_cons (by omega)]; rfl
theorem ords_two {p o : List (List Int)} (ho : Ords p o) (i : Nat) (h : i + 2 ≤ p.length) : Ords ((p.drop i).take 2) ((o.drop i).take 2) := by
  have hl := ho.len
  rw [two_drop i h, two_drop i (by omega)]
  refine ⟨rfl, fun j h1 h2 => ?_⟩
  match j, h1 with
  | 0, _ => exact ho.ord i (by omega) (by omega)
  | 1, _ => exact ho.ord (i + 1) (by omega) (by omega)
theorem seams_two {p o : List (List Int)} (ho : Ords p o) (i : Nat) (h : i + 2 ≤ p.length) : meetN (seamsBy ((p.drop i).take 2) ((o.drop i).take 2)) = common ((seamsBy p o)[i]'(by have := ho.len; simp [seamsBy]; omega)) ((seamsBy p o)[i + 1]'(by have := ho.len; simp [seamsBy]; omega)) := by
  have hl := ho.len
  rw [two_drop i h, two_drop i (by omega)]
  simp [seamsBy, meetN]
theorem pair_le {p o : List (List Int)} (hv : Val p) (ho : Ords p o) (i : Nat) (h : i + 2 ≤ p.length) : fewestOf ((p.drop i).take 2) ≤ (common ((seamsBy p o)[i]'(by have := ho.len; simp [seamsBy]; omega)) ((seamsBy p o)[i + 1]'(by have := ho.len; simp [seamsBy]; omega)) : Int) := by
  rw [← seams_two ho i h]
  exact few_le (hv.sub i h) (ords_two ho i h)
/-- All neighbours' fewest, of the first so many. -/
def pairSum (p : List (List Int)) : Nat → Int
  | 0 => 0
  | i + 1 => pairSum p i + fewestOf ((p.drop i).take 2)
def sureSum (p : List (List Int)) : Nat → Int
  | 0 => 0
  | i + 1 => sureSum p i + (common (rsure (p.getD i [])) (rsure (p.getD (i + 1) [])) : Int)
theorem pairSum_le {p o : List (List Int)} (hv : Val p) (ho : Ords p o) : ∀ k, k + 1 ≤ p.length → pairSum p k ≤ (meetN ((seamsBy p o).take (k + 1)) : Int)
  | 0, _ => by simp only [pairSum]; omega
  | k + 1, h => by
    have hl := ho.len
    have hS : (seamsBy p o).length = p.length := by simp [seamsBy]; omega
    have ih := pairSum_le hv ho k (by omega)
    have hp := pair_le hv ho k (by omega)
    rw [meetN_take (seamsBy p o) k (by omega)]
    simp only [pairSum]
    omega
theorem pairSum_all {p : List (List Int)} (hv : Val p) : pairSum p (p.length - 1) ≤ fewestOf p := by
  obtain ⟨ho, he⟩ := few_best hv
  have h2 := hv.n2
  have hS : (seamsBy p (progOrders p)).length = p.length := by have := ho.len; simp [seamsBy]; omega
  have := pairSum_le hv ho (p.length - 1) (by omega)
  rw [List.take_of_length_le (by omega)] at this
  omega
theorem sure_pair {p : List (List Int)} (hv : Val p) (i : Nat) (h : i + 2 ≤ p.length) : (common (rsure p[i]) (rsure p[i + 1]) : Int) ≤ fewestOf ((p.drop i).take 2) := by
  have hs := hv.sub i h
  obtain ⟨ho, he⟩ := few_best hs
  rw [he]
  rw [two_drop i h] at ho ⊢
  have hl := ho.len
  generalize progOrders [p[i], p[i + 1]] = o at ho hl ⊢
  match o, hl with
  | [a, b], _ =>
    have h0 : isOrd a p[i].length = true := ho.ord 0 (by simp) (by simp)
    have h1 : isOrd b p[i + 1].length = true := ho.ord 1 (by simp) (by simp)
    have w0 := hv.wl (List.getElem_mem (show i < p.length by omega))
    have w1 := hv.wl (List.getElem_mem (show i + 1 < p.length by omega))
    have := common_mono (rsure_rise p[i]) (seamsOf_rise w0.w h0).1 (fun x hx => (rsure_mem w0 x).1 hx a (perms_of h0)) (fun x hx => (rsure_mem w1 x).1 hx b (perms_of h1))
    simp only [seamsBy, List.zipWith_cons_cons, meetN]
    simp
    omega
theorem sureSum_le {p : List (List Int)} (hv : Val p) : ∀ k, k + 1 ≤ p.length → 0 ≤ sureSum p k ∧ sureSum p k ≤ pairSum p k
  | 0, _ => by simp [sureSum, pairSum]
  | k + 1, h => by
    have ih := sureSum_le hv k (by omega)
    have hp := sure_pair hv k (by omega)
    simp only [sureSum, pairSum]
    rw [show p.getD k [] = p[k] by simp [show k < p.length by omega], show p.getD (k + 1) [] = p[k + 1] by simp [show k + 1 < p.length by omega]]
    omega
end Go.Proofs.Ytlcebaejlnpdeaa.Ab

/-
  Contracts: SeamSums.
-/
namespace Go.Proofs.Ytlcebaejlnpdeaa.Ab
open Go
set_option maxRecDepth 20000
set_option maxHeartbeats 4000000
def sureV (p : List (List Int)) (x : Int) : List Int := if layErr p x = 0 then rsure (p.getD x.toNat []) else []
theorem getD_mem {p : List (List Int)} {x : Int} (h : layErr p x = 0) : Val p ∧ p.getD x.toNat [] ∈ p := by
  obtain ⟨hv, k, rfl, hk⟩ := layErr_val h
  exact ⟨hv, by rw [show p.getD (k : Int).toNat [] = p[k] by simp [hk]]; exact List.getElem_mem hk⟩
theorem pSure2_ok (p : List (List Int)) (x : Int) (h1 : p.length ≤ 140737488355328) (h2 : ∀ l ∈ p, l.length ≤ 140737488355328) :
    PO 42 [P1 p, I x] (.tuple [L1 (sureV p x), I (layErr p x)]) := by
  have := pSure_ok p x h1 h2
  unfold sureV
  by_cases h : layErr p x = 0
  · obtain ⟨hv, hm⟩ := getD_mem h
    rw [if_pos h] at this
    rw [if_pos h, ← sure_eq (hv.wl hm)]; exact this
  · rw [if_neg h] at this
    rw [if_neg h]; exact this
end Go.Proofs.Ytlcebaejlnpdeaa.Ab

/-
  Contracts: SeamMade.
-/
namespace Go.Proofs.Ytlcebaejlnpdeaa.Ab
open Go
set_option maxRecDepth 20000
set_option maxHeartbeats 4000000
end Go.Proofs.Ytlcebaejlnpdeaa.Ab

/-
  Contracts: SeamProved.
-/
namespace Go.Proofs.Ytlcebaejlnpdeaa.Ab
open Go
set_option maxRecDepth 20000
set_option maxHeartbeats 4000000
theorem seamProved_ok (hw : WK) (p : List (List Int)) (y : List Int) (hp : Fl2 p) (hy : Fy y) : PO 8 [P1 p, Y1 y] (B true) := by
  refine fn_pureQ hmix lk8 rfl rfl fun Q hQ => ?_
  unfold rc8
  conv => whnf
  refine ⟨by first | rfl | simp only [List.all_cons, List.all_nil, pu0, pub, pu1, pu2, pu1', pu2', pun, puf, puP, puP', puQ, puQ', Bool.and_true, Bool.and_self], _, fine_ok p hp, ?_⟩
  conv => whnf
  cases hf : fineB p with
  | false =>
    conv => whnf
    refine ⟨by first | rfl | simp only [List.all_cons, List.all_nil, pu0, pub, pu1, pu2, pu1', pu2', pun, puf, puP, puP', puQ, puQ', Bool.and_true, Bool.and_self], _, hw, ?_⟩
    conv => whnf
    exact hQ _ _ _ (ret_pure (.inr rfl) rfl rfl)
  | true =>
    have hv := fineB_val hf
    have h4 := hv.n4
    have h2 := hv.n2
    have hlen := hv.fit
    conv => whnf
    refine dcase (fun h => ?_) (fun h => ?_)
    · conv => whnf
      refine ⟨by first | rfl | simp only [List.all_cons, List.all_nil, pu0, pub, pu1, pu2, pu1', pu2', pun, puf, puP, puP', puQ, puQ', Bool.and_true, Bool.and_self], _, hw, ?_⟩
      conv => whnf
      exact hQ _ _ _ (ret_pure (.inr rfl) rfl rfl)
    have ho := chosen_ords p y
    conv => whnf
    refine ⟨by first | rfl | simp only [List.all_cons, List.all_nil, pu0, pub, pu1, pu2, pu1', pu2', pun, puf, puP, puP', puQ, puQ', Bool.and_true, Bool.and_self], _, fewest49_ok p hv, ?_⟩
    conv => whnf
    refine ⟨by simp only [List.all_cons, List.all_nil, Bool.and_true, puP, Bool.true_and]; exact pure_Y1 y, _, chosen_ok p y hv hy (by omega), ?_⟩
    conv => whnf
    generalize chosen p y = o at ho ⊢
    obtain ⟨q1, q2⟩ := ho.fit hv
    have he := ho.err hv
    have hol := ho.len
    refine ⟨by simp only [List.all_cons, List.all_nil, Bool.and_true, puP, pu2, Bool.and_self], _, pmeet_ok p o q1, ?_⟩
    have e1 : meetOf p o = meetN (seamsBy p o) := if_pos he
    have e7 : seamsE p o = seamsBy p o := if_pos he
    rw [e1, he]
    conv => whnf
    refine ⟨by simp only [List.all_cons, List.all_nil, Bool.and_true, puP, pu2, Bool.and_self], _, pSeams_ok p o q1, ?_⟩
    obtain ⟨S, hSd⟩ : ∃ S, S = seamsBy p o := ⟨_, rfl⟩
    have hfl : fewestOf p ≤ (meetN S : Int) := by rw [hSd]; exact few_le hv ho
    rw [e7, he, ← hSd]
    have hS : S.length = p.length := by rw [hSd]; simp [seamsBy]; omega
    conv => whnf
    rw [decide_eq_false (show ¬ ((meetN S : Int) < fewestOf p) by omega)]
    conv => whnf
    rw [decide_eq_false (show ¬ ((S.length : Int) ≠ (p.length : Int)) by omega)]
    conv => whnf
    have hpa := pairSum_all hv
    have hfb : ∀ k, k + 1 ≤ p.length → 0 ≤ sureSum p k ∧ sureSum p k ≤ pairSum p k := sureSum_le hv
    have hS5 : ∀ r ∈ S, r.length ≤ 5 := fun r hr => by
      rw [hSd] at hr
      obtain ⟨l, hl, q, hq, rfl⟩ := seams_mem ho r hr
      have := hv.s5 l hl
      rw [seamsOf_len, (isOrd_iff.1 hq).1]; omega
    refine .intro (CI (fun i => slots 185 [(2, .ptr 0 0), (5, I (fewestOf p)), (10, L2 S), (12, I (pairSum p i)), (13, I (sureSum p i)), (14, I i)]) (p.length - 1) [.cells [L2 p]]) (p.length - 1) (ci0 rfl) ?_
    rintro m T H ⟨i, hi, rfl, rfl, rfl⟩
    conv => whnf
    rw [wrapS i (by omega)]
    by_cases hlt : ((i + 1 : Nat) : Int) < (p.length : Int)
    · rw [decide_eq_true hlt]
      have h2i : i + 2 ≤ p.length := by omega
      obtain ⟨g1, g2⟩ := pair_good hv i h2i
      have hsp := sure_pair hv i h2i
      have hpl := pair_le hv ho i h2i
      have w0 := hv.wl (List.getElem_mem (show i < p.length by omega))
      have w1 := hv.wl (List.getElem_mem (show i + 1 < p.length by omega))
      have hle : ∀ j : Nat, j < p.length → layErr p (j : Int) = 0 := fun j hj => by
        unfold layErr
        rw [if_neg (by simp [hv.check]), if_neg (by simp [outOf]; omega)]
      have hsv : ∀ (j : Nat) (hj : j < p.length), sureV p (j : Int) = rsure p[j] := fun j hj => by
        unfold sureV; rw [if_pos (hle j hj)]; simp [hj]
      conv => whnf
      have c0 := ppair_ok p (i : Int) hlen.1 hlen.2
      rw [g1, g2] at c0
      refine ⟨by first | rfl | simp only [List.all_cons, List.all_nil, pu0, pub, pu1, pu2, pu1', pu2', pun, puf, puP, puP', puQ, puQ', Bool.and_true, Bool.and_self], _, c0, ?_⟩
      conv => whnf
      have c1 := pSure2_ok p (i : Int) hlen.1 hlen.2
      rw [hsv i (by omega), hle i (by omega)] at c1
      refine ⟨by first | rfl | simp only [List.all_cons, List.all_nil, pu0, pub, pu1, pu2, pu1', pu2', pun, puf, puP, puP', puQ, puQ', Bool.and_true, Bool.and_self], _, c1, ?_⟩
      conv => whnf
      rw [wrapS i (by omega)]
      have c2 := pSure2_ok p ((i + 1 : Nat) : Int) hlen.1 hlen.2
      rw [hsv (i + 1) (by omega), hle (i + 1) (by omega)] at c2
      refine ⟨by first | rfl | simp only [List.all_cons, List.all_nil, pu0, pub, pu1, pu2, pu1', pu2', pun, puf, puP, puP', puQ, puQ', Bool.and_true, Bool.and_self], _, c2, ?_⟩
      conv => whnf
      have hc0 : (0 : Int) ≤ (common (rsure p[i]) (rsure p[i + 1]) : Int) := by omega
      rw [decide_eq_false (show ¬ (fewestOf ((p.drop i).take 2) < 0) by omega)]
      have hSi : S[i]'(by omega) = (seamsBy p o)[i]'(by rw [← hSd]; omega) := by subst hSd; rfl
      have hSj : S[i + 1]'(by omega) = (seamsBy p o)[i + 1]'(by rw [← hSd]; omega) := by subst hSd; rfl
      rw [← hSi, ← hSj] at hpl
      have hci := hS5 _ (List.getElem_mem (show i < S.length by omega))
      have hcj := hS5 _ (List.getElem_mem (show i + 1 < S.length by omega))
      have hoi : isOrd (o[i]'(by omega)) p[i].length = true := ho.ord i (by omega) (by omega)
      have hoj : isOrd (o[i + 1]'(by omega)) p[i + 1].length = true := ho.ord (i + 1) (by omega) (by omega)
      have hM0 : ∀ x ∈ rsure p[i], x ∈ S[i]'(by omega) := fun x hx => by
        rw [hSi, show (seamsBy p o)[i]'(by rw [← hSd]; omega) = seamsOf p[i] (o[i]'(by omega)) by simp [seamsBy]]
        exact (rsure_mem w0 x).1 hx _ (perms_of hoi)
      have hM1 : ∀ x ∈ rsure p[i + 1], x ∈ S[i + 1]'(by omega) := fun x hx => by
        rw [hSj, show (seamsBy p o)[i + 1]'(by rw [← hSd]; omega) = seamsOf p[i + 1] (o[i + 1]'(by omega)) by simp [seamsBy]]
        exact (rsure_mem w1 x).1 hx _ (perms_of hoj)
      conv => whnf
      refine ⟨by omega, ?_⟩
      conv => whnf
      refine nthM _ _ _ ((show i < S.length by omega)) ?_
      conv => whnf
      rw [wrapS i (by omega)]
      refine ⟨by omega, ?_⟩
      conv => whnf
      refine nthM _ _ _ ((show i + 1 < S.length by omega)) ?_
      conv => whnf
      refine ⟨by first | rfl | simp only [List.all_cons, List.all_nil, pu0, pub, pu1, pu2, pu1', pu2', pun, puf, puP, puP', puQ, puQ', Bool.and_true, Bool.and_self], _, common_ok (S[i]'(by omega)) (S[i + 1]'(by omega)) (by omega) (by omega), acc0, ?_⟩
      conv => whnf
      rw [decide_eq_false (show ¬ ((common (S[i]'(by omega)) (S[i + 1]'(by omega)) : Int) < fewestOf ((p.drop i).take 2)) by omega)]
      conv => whnf
      have ra := rsure_len w0
      have rb := rsure_len w1
      refine .intro (CI (fun j => slots 185 [(2, .ptr 0 0), (5, I (fewestOf p)), (10, L2 S), (12, I (pairSum p i)), (13, I (sureSum p i)), (14, I i), (15, I (fewestOf ((p.drop i).take 2))), (17, L1 (rsure p[i])), (19, L1 (rsure p[i + 1])), (21, I j)]) (rsure p[i]).length [.cells [L2 p]]) (rsure p[i]).length (ci0 rfl) ?_
      rintro m T H ⟨j, hj, rfl, rfl, rfl⟩
      conv => whnf
      refine dcase (fun h5 => ?_) (fun h5 => ?_)
      · have hjl : j < (rsure p[i]).length := by omega
        conv => whnf
        refine ⟨by omega, ?_⟩
        conv => whnf
        refine nthM _ _ _ (hjl) ?_
        conv => whnf
        have k1 := hasLong_ok (rsure p[i + 1]) (rsure p[i])[j] (by omega)
        cases hb : has (rsure p[i + 1]) (rsure p[i])[j] with
        | false =>
          rw [hb] at k1
          refine ⟨by first | rfl | simp only [List.all_cons, List.all_nil, pu0, pub, pu1, pu2, pu1', pu2', pun, puf, puP, puP', puQ, puQ', Bool.and_true, Bool.and_self], _, k1, acc0, ?_⟩
          conv => whnf
          exact ciN hjl (by rw [← wrapS j (by omega)]; rfl)
        | true =>
          rw [hb] at k1
          refine ⟨by first | rfl | simp only [List.all_cons, List.all_nil, pu0, pub, pu1, pu2, pu1', pu2', pun, puf, puP, puP', puQ, puQ', Bool.and_true, Bool.and_self], _, k1, acc0, ?_⟩
          conv => whnf
          refine ⟨by omega, ?_⟩
          conv => whnf
          refine nthM _ _ _ ((show i < S.length by omega)) ?_
          conv => whnf
          refine ⟨by omega, ?_⟩
          conv => whnf
          refine nthM _ _ _ (hjl) ?_
          conv => whnf
          have k2 := hasLong_ok (S[i]'(by omega)) (rsure p[i])[j] (by omega)
          rw [has_iff.2 (hM0 _ (List.getElem_mem hjl))] at k2
          refine ⟨by simp only [List.all_cons, List.all_nil, pu1, pu1', pu0, Bool.and_true], _, k2, acc1 fun _ _ => rfl, ?_⟩
          conv => whnf
          rw [wrapS i (by omega)]
          refine ⟨by omega, ?_⟩
          conv => whnf
          refine nthM _ _ _ ((show i + 1 < S.length by omega)) ?_
          conv => whnf
          refine ⟨by omega, ?_⟩
          conv => whnf
          refine nthM _ _ _ (hjl) ?_
          conv => whnf
          have k3 := hasLong_ok (S[i + 1]'(by omega)) (rsure p[i])[j] (by omega)
          rw [has_iff.2 (hM1 _ (has_iff.1 hb))] at k3
          refine ⟨by simp only [List.all_cons, List.all_nil, pu1, pu1', pu0, Bool.and_true], _, k3, (fun q hq _ _ => by simp only [List.mem_cons, List.not_mem_nil, or_false] at hq; rcases hq with rfl | rfl <;> rfl), ?_⟩
          conv => whnf
          exact ciN hjl (by rw [← wrapS j (by omega)]; rfl)
      · conv => whnf
        refine ⟨by first | rfl | simp only [List.all_cons, List.all_nil, pu0, pub, pu1, pu2, pu1', pu2', pun, puf, puP, puP', puQ, puQ', Bool.and_true, Bool.and_self], _, common_ok (rsure p[i]) (rsure p[i + 1]) (by omega) (by omega), ?_⟩
        conv => whnf
        have b1 := hfb i (by omega)
        have b2 := hfb (i + 1) (by omega)
        have c1 := common_le (rsure p[i]) (rsure p[i + 1])
        have c2 := common_le (S[i]'(by omega)) (S[i + 1]'(by omega))
        have e1 : pairSum p (i + 1) = pairSum p i + fewestOf ((p.drop i).take 2) := rfl
        have e2 : sureSum p (i + 1) = sureSum p i + (common (rsure p[i]) (rsure p[i + 1]) : Int) := by
          simp only [sureSum]
          rw [show p.getD i [] = p[i] by simp [show i < p.length by omega], show p.getD (i + 1) [] = p[i + 1] by simp [show i + 1 < p.length by omega]]
        have hps := pairSum_le hv ho (i + 1) (by omega)
        have hmn := meetN_le ((seamsBy p o).take (i + 1 + 1)) 5 (fun r hr => hS5 r (hSd ▸ List.mem_of_mem_take hr))
        have hml : ((seamsBy p o).take (i + 1 + 1)).length ≤ 4 := by rw [List.length_take, ← hSd]; omega
        refine ciN (by omega) ?_
        rw [e1, e2, ← wrapS i (by omega), wrapI (pairSum p i + fewestOf ((p.drop i).take 2)) (by omega) (by omega), wrapI (sureSum p i + (common (rsure p[i]) (rsure p[i + 1]) : Int)) (by omega) (by omega)]
        rfl
    · rw [decide_eq_false hlt]
      obtain rfl : i = p.length - 1 := by omega
      conv => whnf
      rw [decide_eq_true (show pairSum p (p.length - 1) ≤ fewestOf p by omega)]
      conv => whnf
      rw [decide_eq_true (hfb (p.length - 1) (by omega)).2]
      conv => whnf
      refine ⟨by first | rfl | simp only [List.all_cons, List.all_nil, pu0, pub, pu1, pu2, pu1', pu2', pun, puf, puP, puP', puQ, puQ', Bool.and_true, Bool.and_self], _, hw, ?_⟩
      conv => whnf
      exact hQ _ _ _ (ret_pure (.inr rfl) rfl rfl)
end Go.Proofs.Ytlcebaejlnpdeaa.Ab

/-
  Closed calls of the layer: those of the map of meetings.
-/
namespace Go.Proofs.Ytlcebaejlnpdeaa.Ab
open Go
theorem meets_pure (rows : List (List Int)) (j i : Nat) (k v : AV) (h : (meets rows)[j]? = some (i, k, v)) : pureD 8 k = true ∧ pureD 8 v = true := by
  have := List.mem_of_getElem? h
  unfold meets at this
  obtain ⟨q, _, e⟩ := List.mem_map.1 this
  simp only [entOf, Prod.mk.injEq] at e
  obtain ⟨_, rfl, rfl⟩ := e
  exact ⟨rfl, rfl⟩
def meetE (rows : List (List Int)) : Ent := .map 63 [L2 rows] (meets rows) (places rows 0).length
theorem meetE_ok (rows : List (List Int)) (hl : rows.length ≤ 1000) (hr : ∀ r ∈ rows, r.length ≤ 1000) (hn : (places rows 0).Nodup) : entOk Go.Proofs.Try.prog (meetE rows) := fun H =>
  sem_map (by simp only [List.all_cons, List.all_nil, Bool.and_true]; exact pure_L2 5 rows) (meets_pure rows) (meetings_ok rows hl hr hn) H
def meetL : List Ent := [meetE [[2, 5], [5]], meetE [[2, 7], [5]], meetE [[5], [5], [4]], meetE [[5], [5]], meetE [[5], [4]]]
theorem meetL_ok : ∀ e ∈ meetL, entOk Go.Proofs.Try.prog e := by
  intro e he
  simp only [meetL, List.mem_cons, List.not_mem_nil, or_false] at he
  rcases he with rfl | rfl | rfl | rfl | rfl
  · exact meetE_ok _ (by decide) (by decide) (by decide)
  · exact meetE_ok _ (by decide) (by decide) (by decide)
  · exact meetE_ok _ (by decide) (by decide) (by decide)
  · exact meetE_ok _ (by decide) (by decide) (by decide)
  · exact meetE_ok _ (by decide) (by decide) (by decide)
end Go.Proofs.Ytlcebaejlnpdeaa.Ab

/- MADE BY PROGRAM (closed.py): closed calls. -/
namespace Go.Proofs.Ytlcebaejlnpdeaa.Ab
open Go
def e0 : Ent := .pure 21 [.agg [.lst [.lst [.int .i64 2, .int .i64 3, .int .i64 5] 3 .shared, .lst [.int .i64 5, .int .i64 5] 2 .shared] 2 .shared], .lst [.lst [.int .i64 0, .int .i64 1, .int .i64 2] 3 .shared, .lst [.int .i64 0, .int .i64 1] 2 .shared] 2 .shared] (.tuple [.int .i64 1, .int .i64 0])
theorem e0_ok : entOk Go.Proofs.Try.prog e0 := runC_ok meetL_ok (by kernel_rfl)
def e1 : Ent := .pure 21 [.agg [.lst [.lst [.int .i64 2, .int .i64 3, .int .i64 5] 3 .shared, .lst [.int .i64 5, .int .i64 5] 2 .shared] 2 .shared], .lst [.lst [.int .i64 0, .int .i64 2, .int .i64 1] 3 .shared, .lst [.int .i64 1, .int .i64 0] 2 .shared] 2 .shared] (.tuple [.int .i64 0, .int .i64 0])
theorem e1_ok : entOk Go.Proofs.Try.prog e1 := runC_ok meetL_ok (by kernel_rfl)
def e2 : Ent := .pure 21 [.agg [.lst [.lst [.int .i64 2, .int .i64 3, .int .i64 5] 3 .shared, .lst [.int .i64 5, .int .i64 5] 2 .shared] 2 .shared], .lst [.lst [.int .i64 0, .int .i64 1, .int .i64 2] 3 .shared] 1 .shared] (.tuple [.int .i64 0, .int .i64 15])
theorem e2_ok : entOk Go.Proofs.Try.prog e2 := runC_ok meetL_ok (by kernel_rfl)
def e3 : Ent := .pure 21 [.agg [.lst [.lst [.int .i64 2, .int .i64 3, .int .i64 5] 3 .shared, .lst [.int .i64 5, .int .i64 5] 2 .shared] 2 .shared], .lst [.lst [.int .i64 0, .int .i64 1, .int .i64 1] 3 .shared, .lst [.int .i64 0, .int .i64 1] 2 .shared] 2 .shared] (.tuple [.int .i64 0, .int .i64 16])
theorem e3_ok : entOk Go.Proofs.Try.prog e3 := runC_ok meetL_ok (by kernel_rfl)
def e4 : Ent := .pure 23 [.agg [.lst [.lst [.int .i64 2, .int .i64 3, .int .i64 5] 3 .shared, .lst [.int .i64 5, .int .i64 5] 2 .shared] 2 .shared], .lst [.lst [.int .i64 0, .int .i64 1, .int .i64 2] 3 .shared, .lst [.int .i64 0, .int .i64 1] 2 .shared] 2 .shared] (.tuple [.lst [.lst [.int .i64 2, .int .i64 5] 2 .shared, .lst [.int .i64 5] 1 .shared] 2 .shared, .int .i64 0])
theorem e4_ok : entOk Go.Proofs.Try.prog e4 := runC_ok meetL_ok (by kernel_rfl)
def e6 : Ent := .pure 28 [.agg [.lst [.lst [.int .i64 2, .int .i64 3, .int .i64 5] 3 .shared, .lst [.int .i64 5, .int .i64 5] 2 .shared] 2 .shared], .lst [.lst [.int .i64 0, .int .i64 1, .int .i64 2] 3 .shared, .lst [.int .i64 0, .int .i64 1] 2 .shared] 2 .shared] (.tuple [.lst [.int .i64 5] 1 .shared, .int .i64 0])
theorem e6_ok : entOk Go.Proofs.Try.prog e6 := runC_ok meetL_ok (by kernel_rfl)
def e7 : Ent := .pure 30 [.agg [.lst [.lst [.int .i64 2, .int .i64 3, .int .i64 5] 3 .shared, .lst [.int .i64 5, .int .i64 5] 2 .shared] 2 .shared], .lst [.lst [.int .i64 0, .int .i64 2, .int .i64 1] 3 .shared, .lst [.int .i64 0, .int .i64 1] 2 .shared] 2 .shared] (.tuple [.int .i64 2, .int .i64 0])
theorem e7_ok : entOk Go.Proofs.Try.prog e7 := runC_ok meetL_ok (by kernel_rfl)
def e8 : Ent := .pure 33 [.agg [.lst [.lst [.int .i64 5, .int .i64 5] 2 .shared, .lst [.int .i64 5, .int .i64 5] 2 .shared, .lst [.int .i64 4, .int .i64 6] 2 .shared] 3 .shared]] (.tuple [.int .i64 1, .int .i64 0])
theorem e8_ok : entOk Go.Proofs.Try.prog e8 := runC_ok meetL_ok (by kernel_rfl)
def e9 : Ent := .pure 35 [.agg [.lst [.lst [.int .i64 2, .int .i64 3, .int .i64 5] 3 .shared, .lst [.int .i64 5, .int .i64 5] 2 .shared] 2 .shared]] (.tuple [.lst [.lst [.int .i64 0, .int .i64 2, .int .i64 1] 3 .shared, .lst [.int .i64 0, .int .i64 1] 2 .shared] 2 .shared, .int .i64 0])
theorem e9_ok : entOk Go.Proofs.Try.prog e9 := runC_ok meetL_ok (by kernel_rfl)
end Go.Proofs.Ytlcebaejlnpdeaa.Ab

/- MADE BY PROGRAM (closed.py): closed calls. -/
namespace Go.Proofs.Ytlcebaejlnpdeaa.Ab
open Go
def e10 : Ent := .pure 37 [.agg [.lst [.lst [.int .i64 5, .int .i64 5] 2 .shared, .lst [.int .i64 5, .int .i64 5] 2 .shared, .lst [.int .i64 4, .int .i64 6] 2 .shared] 3 .shared], .int .i64 0] (.tuple [.int .i64 1, .int .i64 0])
theorem e10_ok : entOk Go.Proofs.Try.prog e10 := runC_ok meetL_ok (by kernel_rfl)
def e11 : Ent := .pure 37 [.agg [.lst [.lst [.int .i64 5, .int .i64 5] 2 .shared, .lst [.int .i64 5, .int .i64 5] 2 .shared, .lst [.int .i64 4, .int .i64 6] 2 .shared] 3 .shared], .int .i64 2] (.tuple [.int .i64 0, .int .i64 2])
theorem e11_ok : entOk Go.Proofs.Try.prog e11 := runC_ok meetL_ok (by kernel_rfl)
def e12 : Ent := .pure 40 [.agg [.lst [.lst [.int .i64 2, .int .i64 3, .int .i64 5] 3 .shared, .lst [.int .i64 5, .int .i64 5] 2 .shared] 2 .shared], .int .i64 0] (.tuple [.lst [.int .i64 2, .int .i64 3, .int .i64 5, .int .i64 7, .int .i64 8] 5 .full, .int .i64 0])
theorem e12_ok : entOk Go.Proofs.Try.prog e12 := runC_ok meetL_ok (by kernel_rfl)
def e13 : Ent := .pure 42 [.agg [.lst [.lst [.int .i64 2, .int .i64 3, .int .i64 5] 3 .shared, .lst [.int .i64 5, .int .i64 5] 2 .shared] 2 .shared], .int .i64 1] (.tuple [.lst [.int .i64 5] 1 .shared, .int .i64 0])
theorem e13_ok : entOk Go.Proofs.Try.prog e13 := runC_ok meetL_ok (by kernel_rfl)
def e14 : Ent := .pure 42 [.agg [.lst [.lst [.int .i64 2, .int .i64 3, .int .i64 5] 3 .shared, .lst [.int .i64 5, .int .i64 5] 2 .shared] 2 .shared], .int .i64 2] (.tuple [.lst [] 0 .shared, .int .i64 2])
theorem e14_ok : entOk Go.Proofs.Try.prog e14 := runC_ok meetL_ok (by kernel_rfl)
end Go.Proofs.Ytlcebaejlnpdeaa.Ab

/- MADE BY PROGRAM (closed.py): closed calls. -/
namespace Go.Proofs.Ytlcebaejlnpdeaa.Ab
open Go
def e15 : Ent := .pure 44 [.agg [.lst [.lst [.int .i64 2, .int .i64 3, .int .i64 5] 3 .shared, .lst [.int .i64 5, .int .i64 5] 2 .shared] 2 .shared]] (.tuple [.int .i64 2, .int .i64 0])
theorem e15_ok : entOk Go.Proofs.Try.prog e15 := runC_ok meetL_ok (by kernel_rfl)
def e16 : Ent := .pure 46 [.agg [.lst [.lst [.int .i64 2, .int .i64 3, .int .i64 5] 3 .shared, .lst [.int .i64 5, .int .i64 5] 2 .shared] 2 .shared], .int .i64 2] (.tuple [.lst [.lst [.int .i64 0, .int .i64 2, .int .i64 1] 3 .shared, .lst [.int .i64 0, .int .i64 1] 2 .shared] 2 .shared, .int .i64 0])
theorem e16_ok : entOk Go.Proofs.Try.prog e16 := runC_ok meetL_ok (by kernel_rfl)
def e17 : Ent := .pure 46 [.agg [.lst [.lst [.int .i64 2, .int .i64 3, .int .i64 5] 3 .shared, .lst [.int .i64 5, .int .i64 5] 2 .shared] 2 .shared], .int .i64 3] (.tuple [.lst [] 0 .shared, .int .i64 21])
theorem e17_ok : entOk Go.Proofs.Try.prog e17 := runC_ok meetL_ok (by kernel_rfl)
def e18 : Ent := .pure 46 [.agg [.lst [.lst [.int .i64 2, .int .i64 3, .int .i64 5] 3 .shared, .lst [.int .i64 5, .int .i64 5] 2 .shared] 2 .shared], .int .i64 (-1)] (.tuple [.lst [] 0 .shared, .int .i64 3])
theorem e18_ok : entOk Go.Proofs.Try.prog e18 := runC_ok meetL_ok (by kernel_rfl)
end Go.Proofs.Ytlcebaejlnpdeaa.Ab

/-
  Works: a closed call.
-/
namespace Go.Proofs.Ytlcebaejlnpdeaa.Ab
open Go
def worksL : List Ent := [e0, e1, e2, e3, e4, e6, e7, e8, e9, e10, e11, e12, e13, e14, e15, e16, e17, e18]
theorem worksL_ok : ∀ e ∈ worksL, entOk Go.Proofs.Try.prog e := by
  simp only [worksL, List.forall_mem_cons]
  exact ⟨e0_ok, e1_ok, e2_ok, e3_ok, e4_ok, e6_ok, e7_ok, e8_ok, e9_ok, e10_ok, e11_ok, e12_ok, e13_ok, e14_ok, e15_ok, e16_ok, e17_ok, e18_ok, by simp⟩
theorem works_ok : PO 20 [] (B true) := runC_ok worksL_ok (by kernel_rfl)
end Go.Proofs.Ytlcebaejlnpdeaa.Ab
