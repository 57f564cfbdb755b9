/-
  Plain laws: numbers within bounds, rising lists, valid beds and panels, whole openings.
-/
import Derived.Test.YtbnbjjgagikobaaGreatJc5
import Derived.Test.YtbnbjjgagikobaaGreatJc6
import Derived.KernelRfl
set_option linter.unusedSimpArgs false
set_option linter.unusedVariables false
set_option linter.unusedSectionVars false
namespace Go.Proofs.YtbnbjjgagikobaaGreat.Ab
open Go
theorem outOf_true {lo hi x : Int} : outOf lo hi x = true ↔ x < lo ∨ hi < x := by
  simp only [outOf, Bool.or_eq_true, decide_eq_true_eq]
theorem x87_eq (n lo hi : Int) : x87 n lo hi = some (outOf lo hi n) := by
  unfold x87 outOf; by_cases h : n < lo <;> simp [h]
theorem x80_l1_eq {s : List Int} {f : Int → Option Bool} {k : Unit → Option Int} {p : Int → Bool} (hf : ∀ x ∈ s, f x = some (p x)) (hs : s.length ≤ 140737488355328) : ∀ (m i : Nat) (z : Int), z = i → i ≤ s.length → s.length - i < m → x80_l1 s f k m z = if (s.drop i).any p = true then some (idxOf p (s.drop i) i) else k ()
  | 0, i, _, _, _, h => absurd h (by omega)
  | m + 1, i, _, rfl, hi, hm => by
    rw [x80_l1]
    by_cases h : i < s.length
    · rw [iflt h, gdi h, ix_nat h, hf _ (List.getElem_mem h), Option.bind_some, List.drop_eq_getElem_cons h, List.any_cons, idxOf]
      by_cases hp : p s[i] = true
      · simp [hp]
      · rw [if_neg hp, if_neg hp, w_succ i (by omega), x80_l1_eq hf hs m (i + 1) _ rfl (by omega) (by omega)]; simp [hp]
    · rw [ifge h, List.drop_eq_nil_of_le (by omega)]; simp
theorem x80_eq {s : List Int} {f : Int → Option Bool} {p : Int → Bool} (hf : ∀ x ∈ s, f x = some (p x)) (hs : s.length ≤ 140737488355328) : x80 s f = some (idxOf p s 0) := by
  unfold x80
  have := x80_l1_eq (k := fun _ => some (-1 : Int)) hf hs FU 0 0 rfl (Nat.zero_le _) (FU_lt (by omega))
  rw [List.drop_zero] at this
  rw [this]
  by_cases h : s.any p = true
  · rw [if_pos h]
  · rw [if_neg h]
    have := (not_congr (idxOf_nonneg p s 0)).2 h
    have e : ∀ (l : List Int) (i : Nat), l.any p = false → idxOf p l i = -1 := fun l => by
      induction l with
      | nil => intro i _; rfl
      | cons x l ih =>
        intro i hh
        simp only [List.any_cons, Bool.or_eq_false_iff] at hh
        rw [idxOf, if_neg (by simp [hh.1]), ih _ hh.2]
    rw [e s 0 (by simpa using h)]
theorem x86_eq {s : List Int} {f : Int → Option Bool} {p : Int → Bool} (hf : ∀ x ∈ s, f x = some (p x)) (hs : s.length ≤ 140737488355328) : x86 s f = some (s.any p) := by
  rw [x86, x80_eq hf hs, Option.bind_some, idxOf_any]
theorem x88_l1_eq {s : List (Int × Int)} {f : Int × Int → Option Bool} {k : Unit → Option Int} {p : Int × Int → Bool} (hf : ∀ x ∈ s, f x = some (p x)) (hs : s.length ≤ 140737488355328) : ∀ (m i : Nat) (z : Int), z = i → i ≤ s.length → s.length - i < m → x88_l1 s f k m z = if (s.drop i).any p = true then some (idxOf p (s.drop i) i) else k ()
  | 0, i, _, _, _, h => absurd h (by omega)
  | m + 1, i, _, rfl, hi, hm => by
    rw [x88_l1]
    by_cases h : i < s.length
    · rw [iflt h, gdi h, ix_nat h, hf _ (List.getElem_mem h), Option.bind_some, List.drop_eq_getElem_cons h, List.any_cons, idxOf]
      by_cases hp : p s[i] = true
      · simp [hp]
      · rw [if_neg hp, if_neg hp, w_succ i (by omega), x88_l1_eq hf hs m (i + 1) _ rfl (by omega) (by omega)]; simp only [hp, Bool.false_or]
    · rw [ifge h, List.drop_eq_nil_of_le (by omega)]; simp
theorem x64_eq {s : List (Int × Int)} {f : Int × Int → Option Bool} {p : Int × Int → Bool} (hf : ∀ x ∈ s, f x = some (p x)) (hs : s.length ≤ 140737488355328) : x64 s f = some (s.any p) := by
  have := x88_l1_eq (k := fun _ => some (-1 : Int)) hf hs FU 0 0 rfl (Nat.zero_le _) (FU_lt (by omega))
  rw [List.drop_zero] at this
  rw [x64, x88, this]
  by_cases h : s.any p = true
  · rw [if_pos h, Option.bind_some]
    have := (idxOf_nonneg p s 0).2 h
    simp [h, this]
  · rw [if_neg h, Option.bind_some]
    simp only [Bool.not_eq_true] at h
    rw [h]; rfl
theorem x60_eq (lo hi : Int) (l : List Int) (hl : l.length ≤ 140737488355328) : x60 lo hi l = some (!(l.any (outOf lo hi))) := by
  rw [x60, x86_eq (p := outOf lo hi) (fun x _ => x87_eq x lo hi) hl, Option.bind_some]
theorem x60_one (lo hi x : Int) : x60 lo hi [x] = some (!(outOf lo hi x)) := by
  rw [x60_eq lo hi [x] (by simp)]; simp
theorem x61_l1_eq {l : List Int} {b : Int} {k : Unit → Option Bool} (hl : l.length ≤ 1000) (hb : 0 ≤ b ∧ b ≤ 1000000) : ∀ (m i : Nat) (z n : Int), z = i → 0 ≤ n → n ≤ 1000001 → i ≤ l.length → l.length - i < m → x61_l1 l b k m n z = if riseGo b n (l.drop i) = true then k () else some false
  | 0, i, _, _, _, _, _, _, h => absurd h (by omega)
  | m + 1, i, _, n, rfl, hn0, hn1, hi, hm => by
    rw [x61_l1]
    by_cases h : i < l.length
    · rw [iflt h, gdi h, ix_nat h, x60_one, w_id (n := b - 1) (by omega), Option.bind_some, List.drop_eq_getElem_cons h, riseGo]
      cases ho : outOf n (b - 1) l[i] with
      | true => simp
      | false =>
        have := outOf_false.1 ho
        rw [w_succ i (by omega), w_id (n := l[i] + 1) (by omega), x61_l1_eq hl hb m (i + 1) _ (l[i] + 1) rfl (by omega) (by omega) (by omega) (by omega)]
        simp
    · rw [ifge h, List.drop_eq_nil_of_le (by omega)]; simp [riseGo]
theorem x61_eq {l : List Int} {b : Int} (hl : l.length ≤ 1000) (hb : 0 ≤ b ∧ b ≤ 1000000) : x61 l b = some (riseGo b 0 l) := by
  have := x61_l1_eq (k := fun _ => some true) hl hb FU 0 0 0 rfl (by omega) (by omega) (Nat.zero_le _) (FU_lt (by omega))
  rw [List.drop_zero] at this
  rw [x61, this]
  cases riseGo b 0 l <;> rfl
theorem x62_l1_eq {l : List Int} {b : Int} {k : Unit → Option Bool} (hl : l.length ≤ 1000) (hb : 0 ≤ b ∧ b ≤ 1000000) : ∀ (m i : Nat) (z : Int), z = i → (i = 0 ∨ (0 ≤ nextOf l i ∧ nextOf l i ≤ 1000001)) → i ≤ l.length → l.length - i < m → x62_l1 l b k m z = if riseGo b (nextOf l i) (l.drop i) = true then k () else some false
  | 0, i, _, _, _, _, h => absurd h (by omega)
  | m + 1, i, _, rfl, hn, hi, hm => by
    rw [x62_l1]
    by_cases h : i < l.length
    · have en : nextOf l (i + 1) = l[i] + 1 := by unfold nextOf; simp [h]
      rw [iflt h, gdi h, gdi h, gdi h, ix_nat h, List.drop_eq_getElem_cons h, riseGo]
      by_cases h1 : l[i] < 0
      · rw [if_pos (decide_eq_true h1)]
        have : outOf (nextOf l i) (b - 1) l[i] = true := by
          rw [outOf_true]
          rcases hn with rfl | hn
          · rw [nextOf, if_pos rfl]; omega
          · omega
        rw [if_pos this, if_neg (by decide)]
      rw [if_neg (by simp [h1])]
      by_cases h2 : b ≤ l[i]
      · rw [if_pos (decide_eq_true h2), if_pos (outOf_true.2 (by omega)), if_neg (by decide)]
      rw [if_neg (by simp [h2])]
      have hstep : x62_l1 l b k m (w ((i : Int) + 1)) = if riseGo b (l[i] + 1) (l.drop (i + 1)) = true then k () else some false := by
        rw [w_succ i (by omega), x62_l1_eq hl hb m (i + 1) _ rfl (.inr (by rw [en]; omega)) (by omega) (by omega), en]
      by_cases h3 : (0 : Int) < (i : Int)
      · rw [if_pos (decide_eq_true h3), show w ((i : Int) - 1) = ((i - 1 : Nat) : Int) by rw [w_id (by omega)]; omega, gdi (show i - 1 < l.length by omega), ix_nat (show i - 1 < l.length by omega), hstep]
        have ep : nextOf l i = l[i - 1] + 1 := by unfold nextOf; rw [if_neg (by omega)]; simp [show i - 1 < l.length by omega]
        rw [ep]
        by_cases h4 : l[i] ≤ l[i - 1]
        · rw [if_pos (decide_eq_true h4), if_pos (outOf_true.2 (by omega)), if_neg (by decide)]
        · have ho : outOf (l[i - 1] + 1) (b - 1) l[i] = false := outOf_false.2 (by omega)
          simp [h4, ho]
      · have i0 : i = 0 := by omega
        subst i0
        have ho : outOf 0 (b - 1) l[0] = false := outOf_false.2 (by omega)
        rw [if_neg (by simp), hstep, show nextOf l 0 = 0 from rfl]
        simp [ho]
    · rw [ifge h, List.drop_eq_nil_of_le (by omega)]; simp [riseGo]
theorem x62_eq {l : List Int} {b : Int} (hl : l.length ≤ 1000) (hb : 0 ≤ b ∧ b ≤ 1000000) : x62 l b = some (riseGo b 0 l) := by
  have := x62_l1_eq (k := fun _ => some true) hl hb FU 0 0 rfl (.inl rfl) (Nat.zero_le _) (FU_lt (by omega))
  rw [List.drop_zero, show nextOf l 0 = 0 from rfl] at this
  rw [x62, this]
  cases riseGo b 0 l <;> rfl
/-- The error of a bed. -/
abbrev bErr (b : Bed) : Int := bedErr b.1 b.2.1 b.2.2.1 b.2.2.2
theorem x20_eq (b : Bed) (hb : b.2.1.length ≤ 1000) : x20 b = some (bErr b) := by
  obtain ⟨o, br, h, c⟩ := b
  simp only at hb
  simp only [x20, x60_one, Option.bind_some, bErr, bedErr]
  cases h1 : outOf 1 10 o with
  | true => simp
  | false =>
    have := outOf_false.1 h1
    rw [x61_eq hb (by omega), Option.bind_some]
    cases riseGo o 0 br with
    | false => simp
    | true =>
      by_cases h3 : (br.length : Int) = o
      · simp [h3]
      · cases h4 : outOf 0 20 h with
        | true => simp [h3]
        | false =>
          unfold outOf
          by_cases h5 : c < 0 <;> by_cases h6 : 10 < c <;> simp [h3, h5, h6]
theorem x21_eq (b : Bed) (hb : b.2.1.length ≤ 1000) : x21 b = some (bErr b) := by
  obtain ⟨o, br, h, c⟩ := b
  simp only at hb
  have e1 : outOf 1 10 o = (decide (o < 1) || decide (10 < o)) := rfl
  simp only [x21, bErr, bedErr, e1]
  by_cases h1 : o < 1
  · simp [h1]
  by_cases h2 : 10 < o
  · simp [h1, h2]
  rw [x62_eq hb (by omega), Option.bind_some]
  simp only [h1, h2]
  cases riseGo o 0 br with
  | false => simp
  | true =>
    by_cases h3 : (br.length : Int) = o
    · simp [h3]
    · unfold outOf
      by_cases h4 : h < 0 <;> by_cases h5 : 20 < h <;> by_cases h6 : c < 0 <;> by_cases h7 : 10 < c <;> simp [h3, h4, h5, h6, h7]
def badP (p : Int × Int) : Bool := outOf 0 20 p.1 || outOf 1 24 p.2
def pErr (ps : List (Int × Int)) : Int := if 12 < ps.length then 6 else if ps.any badP = true then 3 else 0
theorem x63_eq (p : Int × Int) : x63 p = some (badP p) := by
  simp only [x63, x60_one, Option.bind_some, badP]
  cases outOf 0 20 p.1 with
  | true => simp
  | false => unfold outOf; by_cases h : p.2 < 1 <;> simp [h]
theorem x22_eq (ps : List (Int × Int)) : x22 ps = some (pErr ps) := by
  unfold x22 pErr
  by_cases h : 12 < ps.length
  · rw [if_pos (decide_eq_true (by omega)), if_pos h]
  · rw [if_neg (by rw [decide_eq_true_eq]; omega), if_neg h, x64_eq (p := badP) (fun p _ => x63_eq p) (by omega), Option.bind_some]
    cases ps.any badP <;> rfl
theorem x23_l1_eq {ps : List (Int × Int)} {k : Unit → Option Int} (hl : ps.length ≤ 1000) : ∀ (m i : Nat) (z : Int), z = i → i ≤ ps.length → ps.length - i < m → x23_l1 ps k m z = if (ps.drop i).any badP = true then some 3 else k ()
  | 0, i, _, _, _, h => absurd h (by omega)
  | m + 1, i, _, rfl, hi, hm => by
    rw [x23_l1]
    by_cases h : i < ps.length
    · rw [iflt h, gdi h, ix_nat h, List.drop_eq_getElem_cons h, List.any_cons, w_succ i (by omega), x23_l1_eq hl m (i + 1) _ rfl (by omega) (by omega)]
      generalize (ps.drop (i + 1)).any badP = t
      unfold badP outOf
      by_cases h1 : ps[i].1 < 0 <;> by_cases h2 : 20 < ps[i].1 <;> by_cases h3 : ps[i].2 < 1 <;> by_cases h4 : 24 < ps[i].2 <;> simp [h1, h2, h3, h4]
    · rw [ifge h, List.drop_eq_nil_of_le (by omega)]; simp
theorem x23_eq (ps : List (Int × Int)) : x23 ps = some (pErr ps) := by
  unfold x23 pErr
  by_cases h : 12 < ps.length
  · rw [if_pos (decide_eq_true (by omega)), if_pos h]
  · rw [if_neg (by rw [decide_eq_true_eq]; omega), if_neg h]
    have := x23_l1_eq (ps := ps) (k := fun _ => some 0) (by omega) FU 0 0 rfl (Nat.zero_le _) (FU_lt (by omega))
    rw [List.drop_zero] at this
    rw [this]
    split <;> rfl
theorem x53_l1_eq {l : List Int} {n : Int} {k : Unit → Option Bool} (hl : l.length ≤ 140737488355328) : ∀ (m i : Nat) (z : Int), z = i → i ≤ l.length → l.length - i < m → x53_l1 l n k m z = if n ∈ l.drop i then some true else k ()
  | 0, i, _, _, _, h => absurd h (by omega)
  | m + 1, i, _, rfl, hi, hm => by
    rw [x53_l1]
    by_cases h : i < l.length
    · rw [iflt h, gdi h, ix_nat h, List.drop_eq_getElem_cons h, w_succ i (by omega), x53_l1_eq hl m (i + 1) _ rfl (by omega) (by omega)]
      by_cases h1 : l[i] = n
      · rw [if_pos (decide_eq_true h1), if_pos (by simp only [List.mem_cons, h1, true_or])]
      · rw [if_neg (by simpa using h1)]; simp only [List.mem_cons, Ne.symm h1, false_or]
    · rw [ifge h, List.drop_eq_nil_of_le (by omega)]; simp
theorem x53_eq (l : List Int) (n : Int) (hl : l.length ≤ 140737488355328) : x53 l n = some (decide (n ∈ l)) := by
  have := x53_l1_eq (n := n) (k := fun _ => some false) hl FU 0 0 rfl (Nat.zero_le _) (FU_lt (by omega))
  rw [List.drop_zero] at this
  rw [x53, this]
  by_cases h : n ∈ l <;> simp [h]
theorem wholeL_snoc (i : Nat) (br : List Int) : wholeL (i + 1) br = wholeL i br ++ (if (i : Int) ∈ br then [] else [(i : Int)]) := by
  unfold wholeL wholeN
  rw [List.range_succ, List.filter_append, List.map_append]
  by_cases h : (i : Int) ∈ br <;> simp [h]
theorem x51_l1_eq {b : Bed} {k : List Int → Option (List Int)} {o : Nat} (ho : b.1 = o) (hb : o ≤ 1000) (hl : b.2.1.length ≤ 1000) : ∀ (m i : Nat) (z : Int), z = i → i ≤ o → o - i < m → x51_l1 b k m (wholeL i b.2.1) z = k (wholeL o b.2.1)
  | 0, i, _, _, _, h => absurd h (by omega)
  | m + 1, i, _, rfl, hi, hm => by
    rw [x51_l1, ho]
    by_cases h : i < o
    · have hlen : (wholeL i b.2.1).length ≤ i := by unfold wholeL; rw [List.length_map]; exact wholeN_le i b.2.1
      have ih := x51_l1_eq (k := k) ho hb hl m (i + 1) _ rfl (by omega) (by omega)
      rw [wholeL_snoc] at ih
      rw [iflt h, x53_eq _ _ (by omega), Option.bind_some, gd_pos (by omega), w_succ i (by omega)]
      by_cases hm : (i : Int) ∈ b.2.1
      · rw [if_pos hm, List.append_nil] at ih; rw [if_pos (decide_eq_true hm)]; exact ih
      · rw [if_neg hm] at ih; rw [if_neg (by simpa using hm)]; exact ih
    · obtain rfl : i = o := by omega
      rw [ifge h]
theorem x51_eq (b : Bed) (hb : 0 ≤ b.1 ∧ b.1 ≤ 1000) (hl : b.2.1.length ≤ 1000) : x51 b = some (wholeL b.1.toNat b.2.1) := by
  have := x51_l1_eq (b := b) (k := fun z => some z) (o := b.1.toNat) (by omega) (by omega) hl FU 0 0 rfl (Nat.zero_le _) (FU_lt (by omega))
  rw [x51]
  exact this
/-- What a bed without an error is like. -/
structure BedOk (b : Bed) : Prop where
  o1 : 1 ≤ b.1
  o10 : b.1 ≤ 10
  mem : ∀ x ∈ b.2.1, 0 ≤ x ∧ x < b.1
  nodup : b.2.1.Nodup
  lt : (b.2.1.length : Int) < b.1
  h0 : 0 ≤ b.2.2.1 ∧ b.2.2.1 ≤ 20
  c0 : 0 ≤ b.2.2.2 ∧ b.2.2.2 ≤ 10
theorem rise_spec (b : Int) : ∀ (l : List Int) (n : Int), riseGo b n l = true → (∀ x ∈ l, n ≤ x ∧ x < b) ∧ l.Pairwise (· < ·)
  | [], n, _ => by simp
  | x :: l, n, h => by
    rw [riseGo] at h
    split at h
    · cases h
    · rename_i ho
      have ho := outOf_false.1 (by simpa using ho)
      obtain ⟨h1, h2⟩ := rise_spec b l (x + 1) h
      refine ⟨fun y hy => ?_, List.pairwise_cons.2 ⟨fun y hy => by have := h1 y hy; omega, h2⟩⟩
      rcases List.mem_cons.1 hy with rfl | hy
      · omega
      · have := h1 y hy; omega
theorem spec_rise (b : Int) : ∀ (l : List Int) (n : Int), (∀ x ∈ l, n ≤ x ∧ x < b) → l.Pairwise (· < ·) → riseGo b n l = true
  | [], n, _, _ => rfl
  | x :: l, n, h, hp => by
    obtain ⟨p1, p2⟩ := List.pairwise_cons.1 hp
    rw [riseGo, if_neg (by rw [Bool.not_eq_true, outOf_false]; have := h x (by simp); omega)]
    exact spec_rise b l (x + 1) (fun y hy => by have := p1 y hy; have := h y (by simp [hy]); omega) p2
theorem rise_iff (b : Int) (l : List Int) : riseGo b 0 l = true ↔ (∀ x ∈ l, 0 ≤ x ∧ x < b) ∧ l.Pairwise (· < ·) := ⟨rise_spec b l 0, fun h => spec_rise b l 0 h.1 h.2⟩
theorem rise_len {b : Int} {l : List Int} (h : riseGo b 0 l = true) (hb : 0 ≤ b) : (l.length : Int) ≤ b := by
  obtain ⟨h1, h2⟩ := rise_spec b l 0 h
  have h3 : l.length ≤ ((List.range b.toNat).map fun (i : Nat) => (i : Int)).length := sub_len _ _ (h2.imp fun h => by omega) fun x hx => by
    have := h1 x hx
    exact List.mem_map.2 ⟨x.toNat, by simp; omega, by omega⟩
  simp at h3; omega
theorem bedOk {b : Bed} (h : bErr b = 0) : BedOk b := by
  obtain ⟨o, br, he, c⟩ := b
  simp only [bErr, bedErr] at h
  split at h
  · cases h
  rename_i h1
  split at h
  · cases h
  rename_i h2
  split at h
  · cases h
  rename_i h3
  split at h
  · cases h
  rename_i h4
  have h1 := outOf_false.1 (by simpa using h1)
  have h2 : riseGo o 0 br = true := by simpa using h2
  obtain ⟨r1, r2⟩ := rise_spec o br 0 h2
  have h4 : outOf 0 20 he = false ∧ outOf 0 10 c = false := by simpa using h4
  have hl := rise_len h2 (by omega)
  exact ⟨h1.1, h1.2, r1, r2.imp fun h => by omega, by simp only; omega, outOf_false.1 h4.1, outOf_false.1 h4.2⟩
theorem wholeL_len (o : Nat) (br : List Int) : (wholeL o br).length ≤ o := by unfold wholeL; rw [List.length_map]; exact wholeN_le o br
theorem x59_eq {b : Bed} (hb : BedOk b) {ps : List (Int × Int)} (h1 : ∀ p ∈ ps, 0 ≤ p.1 ∧ p.1 ≤ 20) (h2 : ps.length ≤ 1000) : x59 b ps = some (b, ps, wholeL b.1.toNat b.2.1, wantL ps) := by
  rw [x59, if_pos ⟨hb.o1, hb.o10, hb.mem, hb.nodup, hb.lt, h1, h2⟩]
theorem x16_eq (b : Bed) (ps : List (Int × Int)) : x16 b ps = some (decide (20 < b.2.1.length) || decide (20 < ps.length)) := by
  unfold x16
  by_cases h : 20 < b.2.1.length
  · rw [if_pos (decide_eq_true (by omega))]; simp [h]
  · rw [if_neg (by rw [decide_eq_true_eq]; omega), decide_eq_false h, Bool.false_or]
    congr 1
    rw [Bool.eq_iff_iff, decide_eq_true_eq, decide_eq_true_eq]; omega
end Go.Proofs.YtbnbjjgagikobaaGreat.Ab

/-
  The plain law of Hours: the hours of a heat's panels, the longest first, so many at once.
-/
namespace Go.Proofs.YtbnbjjgagikobaaGreat.Ab
open Go
set_option maxRecDepth 20000
set_option maxHeartbeats 4000000
/-! ### A sort by a function of its things -/
theorem map_get {f : Int → Int} {d : Array Int} {x : Nat} (h : x < d.size) : (d.map f)[x]! = f d[x]! := by simp [h]
theorem map_swp {f : Int → Int} {d : Array Int} {i j : Nat} (hi : i < d.size) (hj : j < d.size) : (Sort.swp d i j).map f = Sort.swp (d.map f) i j := by
  apply Array.ext
  · simp [Sort.swp]
  · intro k h1 h2
    simp [Sort.swp, hi, hj, Array.getElem_setIfInBounds]
section
variable {f : Int → Int} {lt lt' : Int → Int → Bool} (hlt : ∀ x y, lt x y = lt' (f x) (f y))
include hlt
theorem map_insI (a : Nat) : ∀ (j : Nat) (d : Array Int), j < d.size → (Sort.insInner lt a j d).map f = Sort.insInner lt' a j (d.map f)
  | 0, d, _ => rfl
  | j + 1, d, hj => by
    rw [Sort.insInner, Sort.insInner, map_get hj, map_get (Nat.lt_of_succ_lt hj), ← hlt]
    split
    · rw [map_insI a j _ (by rw [swp_size]; omega), map_swp hj (by omega)]
    · rfl
theorem map_insO (a b i : Nat) (d : Array Int) (hb : b ≤ d.size) : (Sort.insOuter lt a b i d).map f = Sort.insOuter lt' a b i (d.map f) := by
  induction h : b - i generalizing i d with
  | zero => rw [Sort.insOuter.eq_1, if_neg (by omega), Sort.insOuter.eq_1, if_neg (by omega)]
  | succ n ih => rw [Sort.insOuter.eq_1, if_pos (by omega), Sort.insOuter.eq_1 lt', if_pos (by omega), ih _ _ (by rw [insI_size]; exact hb) (by omega), map_insI hlt a i d (by omega)]
theorem map_ins (d : Array Int) (a b : Nat) (hb : b ≤ d.size) : (Sort.insertionSort lt d a b).map f = Sort.insertionSort lt' (d.map f) a b := map_insO hlt a b _ d hb
end
/-- Numbers, the greatest first. -/
def down (l : List Int) : List Int := (Sort.insertionSort (fun x y => decide (y < x)) l.toArray 0 l.length).toList
theorem down_len (l : List Int) : (down l).length = l.length := by rw [down, Array.length_toList, ins_size, List.size_toArray]
/-- The hours of the panels that want a heat. -/
def hrs (ps : List (Int × Int)) (heat : Int) : List Int := (ps.filter fun p => decide (p.1 = heat)).map (·.2)
theorem filter_map_range {α β : Type} (g : Nat → α) (p : α → Bool) (q : α → β) : ∀ (l : List Nat), (l.filter fun i => p (g i)).map (fun i => q (g i)) = ((l.map g).filter p).map q
  | [] => rfl
  | x :: l => by
    rw [List.filter_cons, List.map_cons, List.filter_cons]
    by_cases h : p (g x) = true
    · rw [if_pos h, if_pos h, List.map_cons, List.map_cons, filter_map_range g p q l]
    · rw [if_neg h, if_neg h, filter_map_range g p q l]
theorem range_get {α : Type} [Inhabited α] (l : List α) : (List.range l.length).map (fun (i : Nat) => ix l (i : Int)) = l := by
  apply List.ext_getElem
  · simp
  · intro i h1 h2
    rw [List.getElem_map, List.getElem_range, ix_nat h2]
theorem idxs_hrs (ps : List (Int × Int)) (heat : Int) : (idxs ps heat).map (fun i => (ix ps i).2) = hrs ps heat := by
  rw [idxs, List.map_map]
  have := filter_map_range (fun (i : Nat) => ix ps (i : Int)) (fun p => decide (p.1 = heat)) (·.2) (List.range ps.length)
  rw [range_get] at this
  exact this
theorem ofL_hrs (ps : List (Int × Int)) (heat : Int) : (ofL ps heat).map (fun i => (ix ps i).2) = down (hrs ps heat) := by
  rw [ofL, ← Array.toList_map, map_ins (lt := longer ps) (lt' := fun x y => decide (y < x)) (f := fun i => (ix ps i).2) (fun _ _ => rfl) _ _ _ (by simp), down, ← idxs_hrs]
  simp
/-- The first ones of each so many. -/
def heads (n : Nat) (l : List Int) : List Int := (chunks n l).map (·.headD 0)
/-- For how many hours panels that want one heat are pressed. -/
def hH (n : Nat) (l : List Int) : Int := (heads n (down l)).sum
theorem chunks_map (f : Int → Int) (n : Nat) (l : List Int) : chunks n (l.map f) = (chunks n l).map (·.map f) := by
  simp [chunks, List.map_map, Function.comp_def, List.map_take, List.map_drop]
theorem chunk_ne {n : Nat} (hn : 0 < n) {l : List Int} {e : List Int} (h : e ∈ chunks n l) : e ≠ [] := by
  obtain ⟨j, hj, rfl⟩ := List.mem_map.1 h
  have := (chunks_lt hn).1 (List.mem_range.1 hj)
  intro h0
  have := congrArg List.length h0
  simp at this
  omega
theorem chunk_mem {n : Nat} {l : List Int} {e : List Int} (h : e ∈ chunks n l) : ∀ x ∈ e, x ∈ l := by
  obtain ⟨j, hj, rfl⟩ := List.mem_map.1 h
  exact fun x hx => List.mem_of_mem_drop (List.mem_of_mem_take hx)
theorem chunks_cnt {n : Nat} (hn : 0 < n) (l : List Int) : (chunks n l).length ≤ l.length := by
  rw [chunks_len]
  apply Nat.le_of_lt_succ
  rw [Nat.div_lt_iff_lt_mul hn]
  show _ < (l.length + 1) * n
  have h2 : l.length + n ≤ (l.length + 1) * n := by
    have : l.length ≤ l.length * n := Nat.le_mul_of_pos_right _ hn
    rw [Nat.add_mul, Nat.one_mul]; omega
  omega
theorem down_pr {Pr : Int → Prop} {l : List Int} (h : ∀ x ∈ l, Pr x) : ∀ x ∈ down l, Pr x := by
  intro x hx
  obtain ⟨i, hi, rfl⟩ := List.mem_iff_getElem.1 hx
  have hi' : i < l.length := by rw [down_len] at hi; exact hi
  have := ins_pr (lt := fun x y => decide (y < x)) (d := l.toArray) (a := 0) (b := l.length) (Pr := Pr) (fun y hy => by rw [getElem!_pos l.toArray y hy]; exact h _ (by simp)) (by simp) i (by simpa using hi')
  rw [getElem!_pos _ i (by rw [ins_size]; simpa using hi')] at this
  exact this
theorem sum_le {α : Type} {f : α → Int} {M : Int} : ∀ (l : List α), (∀ x ∈ l, 0 ≤ f x ∧ f x ≤ M) → 0 ≤ (l.map f).sum ∧ (l.map f).sum ≤ M * l.length
  | [], _ => by simp
  | x :: l, h => by
    have h1 := h x (by simp)
    have h2 := sum_le l fun y hy => h y (by simp [hy])
    rw [List.map_cons, List.sum_cons, List.length_cons, Int.natCast_add, Int.mul_add]
    simp only [Int.natCast_one, Int.mul_one]
    omega
theorem head_in {Pr : Int → Prop} {n : Nat} (hn : 0 < n) {l : List Int} (h : ∀ x ∈ l, Pr x) {e : List Int} (he : e ∈ chunks n l) : Pr (e.headD 0) := by
  cases e with
  | nil => exact absurd rfl (chunk_ne hn he)
  | cons a e => exact h a (chunk_mem he a (by simp))
theorem hH_le {n : Nat} (hn : 0 < n) {l : List Int} (h : ∀ x ∈ l, 0 ≤ x ∧ x ≤ 24) : 0 ≤ hH n l ∧ hH n l ≤ 24 * l.length := by
  have h1 := sum_le (f := fun e : List Int => e.headD 0) (M := 24) (chunks n (down l)) fun e he => head_in hn (down_pr h) he
  have h2 := chunks_cnt hn (down l)
  rw [down_len] at h2
  unfold hH heads
  omega
theorem hH_nil (n : Nat) (hn : 0 < n) : hH n [] = 0 := by
  have := hH_le hn (l := []) (by simp)
  simp at this
  omega
/-- For how many hours, up to a heat. -/
def hSum (n : Nat) (ps : List (Int × Int)) (i : Nat) : Int := ((List.range i).map fun (h : Nat) => hH n (hrs ps (h : Int))).sum
theorem hSum_succ (n : Nat) (ps : List (Int × Int)) (i : Nat) : hSum n ps (i + 1) = hSum n ps i + hH n (hrs ps (i : Int)) := by
  unfold hSum; rw [List.range_succ, List.map_append, List.sum_append]; simp
def hrsOk (ps : List (Int × Int)) : Prop := ∀ p ∈ ps, 0 ≤ p.2 ∧ p.2 ≤ 24
theorem hrs_in {ps : List (Int × Int)} (h : hrsOk ps) (heat : Int) : ∀ x ∈ hrs ps heat, 0 ≤ x ∧ x ≤ 24 := by
  intro x hx
  obtain ⟨p, hp, rfl⟩ := List.mem_map.1 hx
  exact h p (List.mem_filter.1 hp).1
/-- How many panels want a heat below this one. -/
def cnt (ps : List (Int × Int)) (i : Nat) : Nat := ((List.range i).map fun (h : Nat) => (hrs ps (h : Int)).length).sum
theorem cnt_succ (ps : List (Int × Int)) (i : Nat) : cnt ps (i + 1) = cnt ps i + (hrs ps (i : Int)).length := by
  unfold cnt; rw [List.range_succ, List.map_append, List.sum_append]; simp
theorem cnt_eq (ps : List (Int × Int)) (h : ∀ p ∈ ps, 0 ≤ p.1) : ∀ i, cnt ps i = (ps.filter fun p => decide (p.1 < (i : Int))).length
  | 0 => by
    rw [List.filter_eq_nil_iff.2 fun p hp => by have := h p hp; simp; omega]; rfl
  | i + 1 => by
    rw [cnt_succ, cnt_eq ps h i]
    unfold hrs
    rw [List.length_map]
    clear h
    induction ps with
    | nil => rfl
    | cons p ps ih =>
      rw [List.filter_cons, List.filter_cons, List.filter_cons]
      by_cases h1 : p.1 < (i : Int)
      · rw [if_pos (decide_eq_true h1), if_neg (by simp; omega), if_pos (by simp; omega)]; simp only [List.length_cons]; omega
      · by_cases h2 : p.1 = (i : Int)
        · rw [if_neg (by simp; omega), if_pos (decide_eq_true h2), if_pos (by simp; omega)]; simp only [List.length_cons]; omega
        · rw [if_neg (by simp; omega), if_neg (by simp; omega), if_neg (by simp; omega)]; exact ih
theorem hSum_le {n : Nat} (hn : 0 < n) {ps : List (Int × Int)} (h : hrsOk ps) : ∀ i, 0 ≤ hSum n ps i ∧ hSum n ps i ≤ 24 * cnt ps i
  | 0 => by simp [hSum, cnt]
  | i + 1 => by
    have h1 := hSum_le hn h i
    have h2 := hH_le hn (hrs_in h (i : Int))
    rw [hSum_succ, cnt_succ]
    omega
theorem cnt_le {ps : List (Int × Int)} (h : ∀ p ∈ ps, 0 ≤ p.1) (i : Nat) : cnt ps i ≤ ps.length := by
  rw [cnt_eq ps h i]; exact List.length_filter_le _ _
end Go.Proofs.YtbnbjjgagikobaaGreat.Ab

/- MADE BY PROGRAM (ex.py): functions as plain Lean, with their walks. -/
namespace Go.Proofs.YtbnbjjgagikobaaGreat.Ab
open Go
set_option maxRecDepth 20000
set_option maxHeartbeats 4000000
def E_bench (x : ((Int × (List Int) × Int × Int) × (List (Int × Int)) × (List Int) × (List Int))) : List AV := ((I x.1.1) :: (.lst (x.1.2.1.map I) x.1.2.1.length .shared) :: (I x.1.2.2.1) :: (I x.1.2.2.2) :: (.lst (x.2.1.flatMap pr) x.2.1.length .shared) :: (.lst (x.2.2.1.map I) x.2.2.1.length .shared) :: (x.2.2.2.map I))
noncomputable def xrc69 : RC :=
  .seq (.reg false [I_ 2 [.tk 0] .box, I_ 4 [.cv .nilp] .mv, I_ 5 [.cv (.int .i64 0)] .mv]) (.seq (.seq (.reg false [I_ 8 [.sl 2] (.ld (.str 4)), I_ 9 [.cv (.func 20 [] []), .sl 8] (.call 3), I_ 6 [.tk 9] .mv]) (.seq (.reg false
  [I_ 10 [.sl 6] .mv, I_ 11 [.tv 10, .cv (.int .i64 0)] (.bin .neq)]) (.cond (.sl 11) (.seq (.reg false [I_ 12 [.tk 6] .mv, I_ 4 [.cv .nilp] .mv, I_ 5 [.tk 12] .mv]) .ret) .skip))) (.seq (.seq (.reg false [I_ 13 [.sl 1] .mv, I_
  14 [.cv (.func 22 [] []), .sl 13] (.call 3), I_ 7 [.tk 14] .mv]) (.seq (.reg false [I_ 15 [.sl 7] .mv, I_ 16 [.tv 15, .cv (.int .i64 0)] (.bin .neq)]) (.cond (.sl 16) (.seq (.reg false [I_ 17 [.tk 7] .mv, I_ 4 [.cv .nilp] .mv,
  I_ 5 [.tk 17] .mv]) .ret) .skip))) (.seq (.reg false [I_ 18 [.tv 2] (.ld (.str 4)), I_ 19 [.tk 1] .mv, I_ 20 [.cv (.func 59 [] []), .sl 18, .sl 19] (.call 3), I_ 4 [.tk 20] .mv, I_ 5 [.cv (.int .i64 0)] .mv]) .ret)))
theorem lxx69 : linkF Tryz.prog ann69 69 = some (xrc69, 21, [.tmp 4, .tmp 5]) := by kernel_rfl
/-- crossband/press.open -/
def x69 (b : (Int × (List Int) × Int × Int)) (panels : (List (Int × Int))) : Option ((Option ((Int × (List Int) × Int × Int) × (List (Int × Int)) × (List Int) × (List Int))) × Int) :=
  (x20 b).bind fun r1 =>
  if (decide (r1 ≠ (0 : Int))) = true then
    some (none, r1)
  else
    (x22 panels).bind fun r2 =>
    if (decide (r2 ≠ (0 : Int))) = true then
      some (none, r2)
    else
      (x59 b panels).bind fun r3 =>
      some ((some r3), (0 : Int))
theorem x69_ok {b : (Int × (List Int) × Int × Int)} {panels : (List (Int × Int))} {v : ((Option ((Int × (List Int) × Int × Int) × (List (Int × Int)) × (List Int) × (List Int))) × Int)} (h : x69 b panels = some v) : PO 69 [(.agg [(I b.1), (.lst (b.2.1.map I) b.2.1.length .shared), (I b.2.2.1), (I b.2.2.2)]), (.lst (panels.flatMap pr) panels.length .shared)] (.tuple [(optP E_bench v.1), (I v.2)]) := by
  refine fn_pureW hmix lxx69 rfl (pu_tup (allc (pu_opt (fun _ => (allc rfl (allc (pu_map (fun _ => rfl) _ _ _) (allc rfl (allc rfl (allc (pu_flat (fun _ => (allc rfl (allc rfl rfl))) _ _ _) (allc (pu_map (fun _ => rfl) _ _ _) (pu_run (fun _ => rfl) _)))))))) _) (allc rfl rfl))) fun Q hQ => ?_
  have hR : ∀ T H, RetW [.tmp 4, .tmp 5] (.tuple [(optP E_bench v.1), (I v.2)]) .ret T H → Q .ret T H := fun T H hh => hQ _ T H hh
  unfold x69 at h
  unfold xrc69
  skip
  conv => whnf
  obtain ⟨r1, hb1, h⟩ := bd_some h
  refine ⟨(allc (pu_agg (allc rfl (allc (pu_map (fun _ => rfl) _ _ _) (allc rfl (allc rfl rfl))))) rfl), _, x20_ok hb1, ?_⟩
  conv => whnf
  rcases bt (decide (r1 ≠ (0 : Int))) with hb2 | hb2
  · rw [hb2]
    conv => whnf
    replace h := it_t hb2 h
    obtain rfl := Option.some.inj h
    exact hR _ _ ⟨.inr rfl, _, rfl, _, frz_pure (pu_tup (allc rfl (allc rfl rfl))), rfl⟩
  · rw [hb2]
    conv => whnf
    replace h := it_f hb2 h
    obtain ⟨r2, hb3, h⟩ := bd_some h
    refine ⟨(allc (pu_flat (fun _ => (allc rfl (allc rfl rfl))) _ _ _) rfl), _, x22_ok hb3, ?_⟩
    conv => whnf
    rcases bt (decide (r2 ≠ (0 : Int))) with hb4 | hb4
    · rw [hb4]
      conv => whnf
      replace h := it_t hb4 h
      obtain rfl := Option.some.inj h
      exact hR _ _ ⟨.inr rfl, _, rfl, _, frz_pure (pu_tup (allc rfl (allc rfl rfl))), rfl⟩
    · rw [hb4]
      conv => whnf
      replace h := it_f hb4 h
      obtain ⟨r3, hb5, h⟩ := bd_some h
      refine ⟨(allc (pu_agg (allc rfl (allc (pu_map (fun _ => rfl) _ _ _) (allc rfl (allc rfl rfl))))) (allc (pu_flat (fun _ => (allc rfl (allc rfl rfl))) _ _ _) rfl)), _, x59_ok hb5, ?_⟩
      conv => whnf
      obtain rfl := Option.some.inj h
      exact hR _ _ ⟨.inr rfl, _, rfl, _, frz_pure (pu_tup (allc (pu_lptr (allc rfl (allc (pu_map (fun _ => rfl) _ _ _) (allc rfl (allc rfl (allc (pu_flat (fun _ => (allc rfl (allc rfl rfl))) _ _ _) (allc (pu_map (fun _ => rfl) _ _ _) (pu_run (fun _ => rfl) _)))))))) (allc rfl rfl))), rfl⟩
end Go.Proofs.YtbnbjjgagikobaaGreat.Ab

/- MADE BY PROGRAM (ex.py): functions as plain Lean, with their walks. -/
namespace Go.Proofs.YtbnbjjgagikobaaGreat.Ab
open Go
set_option maxRecDepth 20000
set_option maxHeartbeats 4000000
noncomputable def xrc75 : RC :=
  .seq (.reg false [I_ 2 [.tk 0] .box, I_ 3 [.tk 1] .box, I_ 4 [.cv .junk] .mv]) (.seq (.seq (.reg false [I_ 5 [.sl 3] (.ld .one), I_ 6 [.tv 5, .cv (.int .i64 1)] (.bin .lss)]) (.cond (.sl 6) (.reg false [I_ 7 [.cv (.str
  (ByteArray.mk (Array.mk [99, 97, 110, 110, 111, 116, 32, 98, 101, 32, 108, 101, 115, 115, 32, 116, 104, 97, 110, 32, 49])))] (.other (Oper.mk (some 7) (Op.makeInterface 9 (Operand.const (Value.string (ByteArray.mk (Array.mk
  [99, 97, 110, 110, 111, 116, 32, 98, 101, 32, 108, 101, 115, 115, 32, 116, 104, 97, 110, 32, 49]))))) 20 "iter.go:99" (Array.mk []) none) 0), ⟨none, [.tv 7], none, none, .other (Oper.mk none (Op.panic (Operand.tmp 7)) 0
  "iter.go:99" (Array.mk [Edge.mk 0 Ground.data]) none) 0⟩]) .skip)) (.seq (.reg false [I_ 8 [.tv 2, .tv 3] (.mkF 98 0 2), I_ 4 [.tk 8] .mv]) .ret))
theorem lxx75 : linkF Tryz.prog ann75 75 = some (xrc75, 9, [.tmp 4]) := by kernel_rfl
/-- slices.Chunk[[]int,int] -/
def x75 (s : (List Int)) (n : Int) : Option Unit :=
  if (decide (n < (1 : Int))) = true then
    none
  else
    some ()
theorem x75_ok {s : (List Int)} {n : Int} {v : Unit} (h : x75 s n = some v) : PO 75 [(.lst (s.map I) s.length .shared), (I n)] (.func 98 [] [(.lptr [(.lst (s.map I) s.length .shared)]), (.lptr [(I n)])]) := by
  refine fn_pureW hmix lxx75 rfl (pu_fn rfl (allc (pu_lptr (allc (pu_map (fun _ => rfl) _ _ _) rfl)) (allc (pu_lptr (allc rfl rfl)) rfl))) fun Q hQ => ?_
  have hR : ∀ T H, RetW [.tmp 4] (.func 98 [] [(.lptr [(.lst (s.map I) s.length .shared)]), (.lptr [(I n)])]) .ret T H → Q .ret T H := fun T H hh => hQ _ T H hh
  unfold x75 at h
  unfold xrc75
  skip
  conv => whnf
  rcases bt (decide (n < (1 : Int))) with hb1 | hb1
  · rw [hb1]
    conv => whnf
    replace h := it_t hb1 h
    exact none_ne h
  · rw [hb1]
    conv => whnf
    replace h := it_f hb1 h
    exact hR _ _ ⟨.inr rfl, _, rfl, _, (frz_fn mapO_nil' (mapO_cons' (frz_ptr (l := [(.lst (s.map I) s.length .shared)]) (by first | with_reducible exact get_concat _ _ | exact get_concat _ _ | exact ga (get_concat _ _) | rfl | (simp [List.getElem?_append, AV.settle]; done)) (allc (pu_map (fun _ => rfl) _ _ _) rfl)) (mapO_cons' (frz_ptr (l := [(I n)]) (by first | with_reducible exact get_concat _ _ | exact get_concat _ _ | exact ga (get_concat _ _) | rfl | (simp [List.getElem?_append, AV.settle]; done)) (allc rfl rfl)) mapO_nil'))), rfl⟩
end Go.Proofs.YtbnbjjgagikobaaGreat.Ab

/- MADE BY PROGRAM (ex.py): functions as plain Lean, with their walks. -/
namespace Go.Proofs.YtbnbjjgagikobaaGreat.Ab
open Go
set_option maxRecDepth 20000
set_option maxHeartbeats 4000000
noncomputable def xrc70_1 : RC :=
  .rng (.sl 15) [16] (rngA Tryz.prog 70 0) (rngB Tryz.prog 70 0)
noncomputable def xrc70_2 : RC :=
  .loop (some [o_,i_,i_,o_,o_,i_,o_,o_,i_,o_,o_,o_,o_,o_,o_,o_,o_,o_,o_,o_,o_,o_,o_,o_,o_,o_,o_,o_,o_,o_,o_])
  (.seq (.reg false [I_ 9 [.sl 8, .cv (.int .i64 21)] (.bin .lss)]) (.seq (.cond (.sl 9) .skip (.exit 0)) (.seq (.block 1 (.seq (.reg false [I_ 10 [.sl 8] .mv, I_ 6 [.tk 10] .mv]) (.seq (.reg false [I_ 11 [.sl 2] (.ld .one), I_
  12 [.tk 6] .mv, I_ 13 [.cv (.func 76 [] []), .sl 11, .sl 12] (.call 3), I_ 14 [.sl 1] .mv, I_ 15 [.cv (.func 75 [] []), .sl 13, .sl 14] (.call 3)]) (.block 2 xrc70_1)))) (.reg false [I_ 29 [.tv 8, .cv (.int .i64 1)] (.bin
  .add), I_ 8 [.tk 29] .mv]))))
noncomputable def xrc70 : RC :=
  .seq (.reg false [I_ 2 [.tk 0] .box, I_ 4 [.cv (.int .i64 0)] .mv]) (.seq (.reg false [I_ 5 [] (.alloc [.int .i64 0]), ⟨none, [.sl 5, .cv (.int .i64 0)], none, none, .st 1⟩]) (.seq (.seq (.reg false [I_ 8 [.cv (.int .i64 0)]
  .mv]) (.block 0 xrc70_2)) (.seq (.reg false [I_ 30 [.tv 5] (.ld .one), I_ 4 [.tk 30] .mv]) .ret)))
noncomputable def xrc70_A0 : RC :=
  .reg false [I_ 7 [.tk 16] .mv]
theorem lxx70_A0 : linkC Tryz.prog ann70 (rngA Tryz.prog 70 0) 0 = some xrc70_A0 := by kernel_rfl
noncomputable def xrc70_B0 : RC :=
  .block 3 (.reg true [I_ 17 [.sl 5] (.ld .one), I_ 18 [.tv 2] (.ld .one), I_ 19 [.tv 18] .nilc, I_ 20 [.tv 19] (.fa 4), I_ 21 [.tv 20] (.ld .one), I_ 22 [.tk 7] .mv, I_ 23 [.tv 22, .cv (.int .i64 0)] (.ia 1), I_ 24 [.tv 23] (.ld
  .one), I_ 25 [.tv 21, .tv 24] (.ia 2), I_ 26 [.tv 25] (.fa 1), I_ 27 [.tv 26] (.ld .one), I_ 28 [.tv 17, .tv 27] (.bin .add), ⟨none, [.sl 5, .tk 28], none, none, .st 1⟩])
theorem lxx70_B0 : linkC Tryz.prog ann70 (rngB Tryz.prog 70 0) 0 = some xrc70_B0 := by kernel_rfl
theorem lxx70 : linkF Tryz.prog ann70 70 = some (xrc70, 31, [.tmp 4]) := by kernel_rfl
def x70_r1 (x : ((Int × (List Int) × Int × Int) × (List (Int × Int)) × (List Int) × (List Int))) (t1 : Int) (e1 : (List Int)) : Option (Int) :=
  gd (0 ≤ (0 : Int) ∧ (0 : Int) < (e1.length : Int)) <|
  gd (0 ≤ (ix e1 (0 : Int)) ∧ (ix e1 (0 : Int)) < (x.2.1.length : Int)) <|
  some (w (t1 + (ix x.2.1 (ix e1 (0 : Int))).2))
def x70_l1 (x : ((Int × (List Int) × Int × Int) × (List (Int × Int)) × (List Int) × (List Int))) (whole : Int) (kl1_0 : Int → Option Int) : Nat → Int → Int → Option Int
  | 0, _, _ => none
  | m + 1, s1, s2 =>
    if (decide (s1 < (21 : Int))) = true then
      (x76 x s1).bind fun r1 =>
      (x75 r1 whole).bind fun r2 =>
      (s98 r1 whole).bind fun l1 =>
      (foldO (x70_r1 x) l1 s2).bind fun r3 =>
      x70_l1 x whole kl1_0 m (w (s1 + (1 : Int))) r3
    else
      kl1_0 s2
/-- (*crossband/press.bench).hours -/
def x70 (x : ((Int × (List Int) × Int × Int) × (List (Int × Int)) × (List Int) × (List Int))) (whole : Int) : Option Int :=
  x70_l1 x whole (fun z1 =>
      some z1) FU (0 : Int) (0 : Int)
theorem x70_r1_ok {x : ((Int × (List Int) × Int × Int) × (List (Int × Int)) × (List Int) × (List Int))} {t1 : Int} {e1 : (List Int)} {u0 : AV} {u1 : AV} {u3 : AV} {u4 : AV} {u6 : AV} {u7 : AV} {u8 : AV} {u9 : AV} {u10 : AV} {u11 : AV} {u12 : AV} {u13 : AV} {u14 : AV} {u15 : AV} {u16 : AV} {u17 : AV} {u18 : AV} {u19 : AV} {u20 : AV} {u21 : AV} {u22 : AV} {u23 : AV} {u24 : AV} {u25 : AV} {u26 : AV} {u27 : AV} {u28 : AV} {u29 : AV} {u30 : AV} {Y70_1 : List AObj} {v_ : Int} (h : x70_r1 x t1 e1 = some v_) (Y : List AObj) :
    ∃ Y', Sem Tryz.prog (.yield ((AObj.cells [(.lptr ((I x.1.1) :: (.lst (x.1.2.1.map I) x.1.2.1.length .shared) :: (I x.1.2.2.1) :: (I x.1.2.2.2) :: (.lst (x.2.1.flatMap pr) x.2.1.length .shared) :: (.lst (x.2.2.1.map I) x.2.2.1.length .shared) :: (x.2.2.2.map I)))] :: AObj.cells [(I t1)] :: Y70_1)).length) [(.lst (e1.map I) e1.length .full)] (((AObj.cells [(.lptr ((I x.1.1) :: (.lst (x.1.2.1.map I) x.1.2.1.length .shared) :: (I x.1.2.2.1) :: (I x.1.2.2.2) :: (.lst (x.2.1.flatMap pr) x.2.1.length .shared) :: (.lst (x.2.2.1.map I) x.2.2.1.length .shared) :: (x.2.2.2.map I)))] :: AObj.cells [(I t1)] :: Y70_1) ++ [AObj.loop .ready none 70 [u0, u1, (.ptr 0 0), u3, u4, (.ptr 1 0), u6, u7, u8, u9, u10, u11, u12, u13, u14, u15, u16, u17, u18, u19, u20, u21, u22, u23, u24, u25, u26, u27, u28, u29, u30] [16] (rngA Tryz.prog 70 0) (rngB Tryz.prog 70 0) ann70]) ++ Y) 0 (.bool true) (((AObj.cells [(.lptr ((I x.1.1) :: (.lst (x.1.2.1.map I) x.1.2.1.length .shared) :: (I x.1.2.2.1) :: (I x.1.2.2.2) :: (.lst (x.2.1.flatMap pr) x.2.1.length .shared) :: (.lst (x.2.2.1.map I) x.2.2.1.length .shared) :: (x.2.2.2.map I)))] :: AObj.cells [(I v_)] :: Y70_1) ++ [AObj.loop .ready none 70 [u0, u1, (.ptr 0 0), u3, u4, (.ptr 1 0), u6, u7, u8, u9, u10, u11, u12, u13, u14, u15, u16, u17, u18, u19, u20, u21, u22, u23, u24, u25, u26, u27, u28, u29, u30] [16] (rngA Tryz.prog 70 0) (rngB Tryz.prog 70 0) ann70]) ++ Y') := by
  unfold x70_r1 at h
  refine ⟨Y, sem_round hmix lxx70_A0 lxx70_B0 (get_mid _ _ _) rfl (low0 (by simp)) ?_⟩
  unfold xrc70_A0
  conv => whnf
  refine ⟨rfl, get_mid _ _ _, ?_⟩
  rw [set_mid]
  unfold xrc70_B0
  conv => whnf
  obtain ⟨hb4, h⟩ := gd_some h
  refine ⟨hb4, ?_⟩
  rw [drop1 I e1 (0 : Int) hb4]
  conv => whnf
  obtain ⟨hb5, h⟩ := gd_some h
  refine ⟨hb5, ?_⟩
  rw [dropS pr 2 pr_len x.2.1 (ix e1 (0 : Int)) hb5]
  conv => whnf
  obtain rfl := Option.some.inj h
  show _ ∧ (((AObj.cells [(.lptr ((I x.1.1) :: (.lst (x.1.2.1.map I) x.1.2.1.length .shared) :: (I x.1.2.2.1) :: (I x.1.2.2.2) :: (.lst (x.2.1.flatMap pr) x.2.1.length .shared) :: (.lst (x.2.2.1.map I) x.2.2.1.length .shared) :: (x.2.2.2.map I)))] :: AObj.cells [(I (w (t1 + (ix x.2.1 (ix e1 (0 : Int))).2)))] :: Y70_1) ++ [AObj.loop .busy none 70 [u0, u1, (.ptr 0 0), u3, u4, (.ptr 1 0), u6, u7, u8, u9, u10, u11, u12, u13, u14, u15, u16, u17, u18, u19, u20, u21, u22, u23, u24, u25, u26, u27, u28, u29, u30] [16] (rngA Tryz.prog 70 0) (rngB Tryz.prog 70 0) ann70]) ++ Y)[((AObj.cells [(.lptr ((I x.1.1) :: (.lst (x.1.2.1.map I) x.1.2.1.length .shared) :: (I x.1.2.2.1) :: (I x.1.2.2.2) :: (.lst (x.2.1.flatMap pr) x.2.1.length .shared) :: (.lst (x.2.2.1.map I) x.2.2.1.length .shared) :: (x.2.2.2.map I)))] :: AObj.cells [(I (w (t1 + (ix x.2.1 (ix e1 (0 : Int))).2)))] :: Y70_1)).length]? = _ ∧ Fgt ((((AObj.cells [(.lptr ((I x.1.1) :: (.lst (x.1.2.1.map I) x.1.2.1.length .shared) :: (I x.1.2.2.1) :: (I x.1.2.2.2) :: (.lst (x.2.1.flatMap pr) x.2.1.length .shared) :: (.lst (x.2.2.1.map I) x.2.2.1.length .shared) :: (x.2.2.2.map I)))] :: AObj.cells [(I (w (t1 + (ix x.2.1 (ix e1 (0 : Int))).2)))] :: Y70_1) ++ [AObj.loop .busy none 70 [u0, u1, (.ptr 0 0), u3, u4, (.ptr 1 0), u6, u7, u8, u9, u10, u11, u12, u13, u14, u15, u16, u17, u18, u19, u20, u21, u22, u23, u24, u25, u26, u27, u28, u29, u30] [16] (rngA Tryz.prog 70 0) (rngB Tryz.prog 70 0) ann70]) ++ Y).set ((AObj.cells [(.lptr ((I x.1.1) :: (.lst (x.1.2.1.map I) x.1.2.1.length .shared) :: (I x.1.2.2.1) :: (I x.1.2.2.2) :: (.lst (x.2.1.flatMap pr) x.2.1.length .shared) :: (.lst (x.2.2.1.map I) x.2.2.1.length .shared) :: (x.2.2.2.map I)))] :: AObj.cells [(I (w (t1 + (ix x.2.1 (ix e1 (0 : Int))).2)))] :: Y70_1)).length _) _
  exact ⟨rfl, get_mid _ _ _, by rw [set_mid]; exact Fgt.refl _⟩
theorem x70_l1_ok {x : ((Int × (List Int) × Int × Int) × (List (Int × Int)) × (List Int) × (List Int))} {whole : Int} {kl1_0 : Int → Option Int} {s1 : Int} {s2 : Int} {v : Int} {Q : Ex → List AV → List AObj → Prop}   (hkl1_0 : ∀ (z1 : Int) (u0 : AV) (u1 : AV) (u2 : AV) (u4 : AV) (u6 : AV) (u7 : AV) (u8 : AV) (u9 : AV) (u10 : AV) (u11 : AV) (u12 : AV) (u13 : AV) (u14 : AV) (u15 : AV) (u16 : AV) (u17 : AV) (u18 : AV) (u19 : AV) (u20 : AV) (u21 : AV) (u22 : AV) (u23 : AV) (u24 : AV) (u25 : AV) (u26 : AV) (u27 : AV) (u28 : AV) (u29 : AV) (u30 : AV) (o1 : AObj) (Yq : List AObj), kl1_0 z1 = some v → Q (.exit 0) [u0, u1, u2, J, u4, (.ptr 1 0), u6, u7, u8, u9, u10, u11, u12, u13, u14, u15, u16, u17, u18, u19, u20, u21, u22, u23, u24, u25, u26, u27, u28, u29, u30] (o1 :: AObj.cells [(I z1)] :: Yq)) {T : List AV} (hT : zipKeep [o_,i_,i_,o_,o_,i_,o_,o_,i_,o_,o_,o_,o_,o_,o_,o_,o_,o_,o_,o_,o_,o_,o_,o_,o_,o_,o_,o_,o_,o_,o_] T = slots 31 [(1, (I whole)), (2, (.ptr 0 0)), (5, (.ptr 1 0)), (8, (I s1))]) (h : x70_l1 x whole kl1_0 FU s1 s2 = some v) :
    wpR Tryz.prog ann70 70 0 none xrc70_2 T [AObj.cells [(.lptr ((I x.1.1) :: (.lst (x.1.2.1.map I) x.1.2.1.length .shared) :: (I x.1.2.2.1) :: (I x.1.2.2.2) :: (.lst (x.2.1.flatMap pr) x.2.1.length .shared) :: (.lst (x.2.2.1.map I) x.2.2.1.length .shared) :: (x.2.2.2.map I)))], AObj.cells [(I s2)]] Q := by
  unfold xrc70_2
  obtain ⟨c_1, g_1⟩ : ∃ c, xrc70_1 = c := ⟨_, rfl⟩
  rw [g_1]
  refine wp_loop hT ?_
  refine .intro (fun m T H => ∃ (s1 : Int) (s2 : Int) (Y70_1 : List AObj), T = slots 31 [(1, (I whole)), (2, (.ptr 0 0)), (5, (.ptr 1 0)), (8, (I s1))] ∧ H = (AObj.cells [(.lptr ((I x.1.1) :: (.lst (x.1.2.1.map I) x.1.2.1.length .shared) :: (I x.1.2.2.1) :: (I x.1.2.2.2) :: (.lst (x.2.1.flatMap pr) x.2.1.length .shared) :: (.lst (x.2.2.1.map I) x.2.2.1.length .shared) :: (x.2.2.2.map I)))] :: AObj.cells [(I s2)] :: Y70_1) ∧ x70_l1 x whole kl1_0 m s1 s2 = some v) FU ⟨s1, s2, [], rfl, rfl, h⟩ ?_
  clear h hT
  rintro m T H ⟨s1, s2, Y70_1, rfl, rfl, h⟩
  cases m
  · exact none_ne h
  rename_i m
  rw [x70_l1.eq_2] at h
  conv => whnf
  rcases bt (decide (s1 < (21 : Int))) with hb1 | hb1
  · rw [hb1]
    conv => whnf
    replace h := it_t hb1 h
    obtain ⟨r1, hb2, h⟩ := bd_some h
    refine ⟨(allc (pu_lptr (allc rfl (allc (pu_map (fun _ => rfl) _ _ _) (allc rfl (allc rfl (allc (pu_flat (fun _ => (allc rfl (allc rfl rfl))) _ _ _) (allc (pu_map (fun _ => rfl) _ _ _) (pu_run (fun _ => rfl) _)))))))) (allc rfl rfl)), _, x76_ok hb2, ?_⟩
    conv => whnf
    obtain ⟨r2, hb3, h⟩ := bd_some h
    refine ⟨(allc (pu_map (fun _ => rfl) _ _ _) (allc rfl rfl)), _, x75_ok hb3, ?_⟩
    conv => whnf
    obtain ⟨l1, hb6, h⟩ := bd_some h
    obtain ⟨r3, hb7, h⟩ := bd_some h
    obtain ⟨F_, hF0, hFn, hF⟩ := foldO_states hb7
    subst g_1
    unfold xrc70_1
    refine rng_wp (f := fun (e1 : (List Int)) => (.lst (e1.map I) e1.length .full)) (s98_ok hb6) (fun i => (AObj.cells [(.lptr ((I x.1.1) :: (.lst (x.1.2.1.map I) x.1.2.1.length .shared) :: (I x.1.2.2.1) :: (I x.1.2.2.2) :: (.lst (x.2.1.flatMap pr) x.2.1.length .shared) :: (.lst (x.2.2.1.map I) x.2.2.1.length .shared) :: (x.2.2.2.map I)))] :: AObj.cells [(I (F_ i))] :: Y70_1)) (by exact rfl) (by show (AObj.cells [(.lptr ((I x.1.1) :: (.lst (x.1.2.1.map I) x.1.2.1.length .shared) :: (I x.1.2.2.1) :: (I x.1.2.2.2) :: (.lst (x.2.1.flatMap pr) x.2.1.length .shared) :: (.lst (x.2.2.1.map I) x.2.2.1.length .shared) :: (x.2.2.2.map I)))] :: AObj.cells [(I (F_ 0))] :: Y70_1) = _; first | (rw [hF0]; done) | (rw [hF0]; rfl)) (fun _ => rfl) ?_ (rl := none) (by exact rfl) (Hn := (AObj.cells [(.lptr ((I x.1.1) :: (.lst (x.1.2.1.map I) x.1.2.1.length .shared) :: (I x.1.2.2.1) :: (I x.1.2.2.2) :: (.lst (x.2.1.flatMap pr) x.2.1.length .shared) :: (.lst (x.2.2.1.map I) x.2.2.1.length .shared) :: (x.2.2.2.map I)))] :: AObj.cells [(I r3)] :: Y70_1)) (by show (AObj.cells [(.lptr ((I x.1.1) :: (.lst (x.1.2.1.map I) x.1.2.1.length .shared) :: (I x.1.2.2.1) :: (I x.1.2.2.2) :: (.lst (x.2.1.flatMap pr) x.2.1.length .shared) :: (.lst (x.2.2.1.map I) x.2.2.1.length .shared) :: (x.2.2.2.map I)))] :: AObj.cells [(I (F_ l1.length))] :: Y70_1) = _; first | (rw [hFn]; done) | (rw [hFn]; rfl)) (fun Yr3 => ?_)
    · intro i hi Y
      exact x70_r1_ok (hF i hi) Y
    conv => whnf
    exact ⟨m, Nat.lt_succ_self m, (w (s1 + (1 : Int))), r3, _, rfl, rfl, h⟩
  · rw [hb1]
    conv => whnf
    replace h := it_f hb1 h
    exact hkl1_0 _ _ _ _ _ _ _ _ _ _ _ _ _ _ _ _ _ _ _ _ _ _ _ _ _ _ _ _ _ _ _ _ h
theorem x70_ok {x : ((Int × (List Int) × Int × Int) × (List (Int × Int)) × (List Int) × (List Int))} {whole : Int} {v : Int} (h : x70 x whole = some v) : PO 70 [(.lptr ((I x.1.1) :: (.lst (x.1.2.1.map I) x.1.2.1.length .shared) :: (I x.1.2.2.1) :: (I x.1.2.2.2) :: (.lst (x.2.1.flatMap pr) x.2.1.length .shared) :: (.lst (x.2.2.1.map I) x.2.2.1.length .shared) :: (x.2.2.2.map I))), (I whole)] (I v) := by
  refine fn_pureW hmix lxx70 rfl rfl fun Q hQ => ?_
  have hR : ∀ T H, RetW [.tmp 4] (I v) .ret T H → Q .ret T H := fun T H hh => hQ _ T H hh
  unfold x70 at h
  unfold xrc70
  obtain ⟨c_2, g_2⟩ : ∃ c, xrc70_2 = c := ⟨_, rfl⟩
  rw [g_2]
  conv => whnf
  subst g_2
  refine x70_l1_ok ?_ (by exact rfl) h
  intro z1 u0 u1 u2 u4 u6 u7 u8 u9 u10 u11 u12 u13 u14 u15 u16 u17 u18 u19 u20 u21 u22 u23 u24 u25 u26 u27 u28 u29 u30 o1 Yq h
  conv => whnf
  obtain rfl := Option.some.inj h
  exact hR _ _ ⟨.inr rfl, _, rfl, _, frz_pure rfl, rfl⟩
end Go.Proofs.YtbnbjjgagikobaaGreat.Ab

/- MADE BY PROGRAM (ex.py): functions as plain Lean, with their walks. -/
namespace Go.Proofs.YtbnbjjgagikobaaGreat.Ab
open Go
set_option maxRecDepth 20000
set_option maxHeartbeats 4000000
noncomputable def xrc33 : RC :=
  .seq (.reg false [I_ 2 [.tk 0] .box, I_ 4 [.cv (.int .i64 0)] .mv, I_ 5 [.cv (.int .i64 0)] .mv]) (.seq (.reg false [I_ 9 [.tv 2] (.ld (.str 4)), I_ 10 [.tk 1] .mv, I_ 11 [.cv (.func 69 [] []), .sl 9, .sl 10] (.call 3), I_ 8 [.tk
  11] .mv, I_ 12 [.sl 8] (.ext 0), I_ 13 [.tv 8] (.ext 1), I_ 6 [.tk 12] .mv, I_ 7 [.tk 13] .mv]) (.seq (.seq (.reg false [I_ 14 [.sl 7] .mv, I_ 15 [.tv 14, .cv (.int .i64 0)] (.bin .neq)]) (.cond (.sl 15) (.seq (.reg false [I_
  16 [.tk 7] .mv, I_ 4 [.cv (.int .i64 0)] .mv, I_ 5 [.tk 16] .mv]) .ret) .skip)) (.seq (.reg false [I_ 17 [.sl 6] .mv, I_ 18 [.tk 6] .mv, I_ 19 [.tv 18] .nilc, I_ 20 [.tv 19] (.fa 5), I_ 21 [.tv 20] (.ld .one), I_ 22 [.tk 21]
  .lenS, I_ 23 [.cv (.func 70 [] []), .sl 17, .sl 22] (.call 3), I_ 4 [.tk 23] .mv, I_ 5 [.cv (.int .i64 0)] .mv]) .ret)))
theorem lxx33 : linkF Tryz.prog ann33 33 = some (xrc33, 24, [.tmp 4, .tmp 5]) := by kernel_rfl
/-- crossband/press.Hours -/
def x33 (b : (Int × (List Int) × Int × Int)) (panels : (List (Int × Int))) : Option (Int × Int) :=
  (x69 b panels).bind fun r1 =>
  match r1 with
  | (none, q1) =>
    if (decide (q1 ≠ (0 : Int))) = true then
      some ((0 : Int), q1)
    else
      none
  | (some p1, q1) =>
    if (decide (q1 ≠ (0 : Int))) = true then
      some ((0 : Int), q1)
    else
      (x70 p1 (p1.2.2.1.length : Int)).bind fun r2 =>
      some (r2, (0 : Int))
theorem x33_ok {b : (Int × (List Int) × Int × Int)} {panels : (List (Int × Int))} {v : (Int × Int)} (h : x33 b panels = some v) : PO 33 [(.agg [(I b.1), (.lst (b.2.1.map I) b.2.1.length .shared), (I b.2.2.1), (I b.2.2.2)]), (.lst (panels.flatMap pr) panels.length .shared)] (.tuple [(I v.1), (I v.2)]) := by
  refine fn_pureW hmix lxx33 rfl (pu_tup (allc rfl (allc rfl rfl))) fun Q hQ => ?_
  have hR : ∀ T H, RetW [.tmp 4, .tmp 5] (.tuple [(I v.1), (I v.2)]) .ret T H → Q .ret T H := fun T H hh => hQ _ T H hh
  unfold x33 at h
  unfold xrc33
  skip
  conv => whnf
  obtain ⟨r1, hb1, h⟩ := bd_some h
  rcases r1 with ⟨_ | p1, q1⟩
  · refine ⟨(allc (pu_agg (allc rfl (allc (pu_map (fun _ => rfl) _ _ _) (allc rfl (allc rfl rfl))))) (allc (pu_flat (fun _ => (allc rfl (allc rfl rfl))) _ _ _) rfl)), _, x69_ok hb1, ?_⟩
    conv => whnf
    rcases bt (decide (q1 ≠ (0 : Int))) with hb2 | hb2
    · rw [hb2]
      conv => whnf
      replace h := it_t hb2 h
      obtain rfl := Option.some.inj h
      exact hR _ _ ⟨.inr rfl, _, rfl, _, frz_pure (pu_tup (allc rfl (allc rfl rfl))), rfl⟩
    · rw [hb2]
      conv => whnf
      replace h := it_f hb2 h
      exact none_ne h
  · refine ⟨(allc (pu_agg (allc rfl (allc (pu_map (fun _ => rfl) _ _ _) (allc rfl (allc rfl rfl))))) (allc (pu_flat (fun _ => (allc rfl (allc rfl rfl))) _ _ _) rfl)), _, x69_ok hb1, ?_⟩
    conv => whnf
    rcases bt (decide (q1 ≠ (0 : Int))) with hb3 | hb3
    · rw [hb3]
      conv => whnf
      replace h := it_t hb3 h
      obtain rfl := Option.some.inj h
      exact hR _ _ ⟨.inr rfl, _, rfl, _, frz_pure (pu_tup (allc rfl (allc rfl rfl))), rfl⟩
    · rw [hb3]
      conv => whnf
      replace h := it_f hb3 h
      obtain ⟨r2, hb4, h⟩ := bd_some h
      refine ⟨(allc (pu_lptr (allc rfl (allc (pu_map (fun _ => rfl) _ _ _) (allc rfl (allc rfl (allc (pu_flat (fun _ => (allc rfl (allc rfl rfl))) _ _ _) (allc (pu_map (fun _ => rfl) _ _ _) (pu_run (fun _ => rfl) _)))))))) (allc rfl rfl)), _, x70_ok hb4, ?_⟩
      conv => whnf
      obtain rfl := Option.some.inj h
      exact hR _ _ ⟨.inr rfl, _, rfl, _, frz_pure (pu_tup (allc rfl (allc rfl rfl))), rfl⟩
end Go.Proofs.YtbnbjjgagikobaaGreat.Ab

/- MADE BY PROGRAM (ex.py): functions as plain Lean, with their walks. -/
namespace Go.Proofs.YtbnbjjgagikobaaGreat.Ab
open Go
set_option maxRecDepth 20000
set_option maxHeartbeats 4000000
noncomputable def xrc66 : RC :=
  .seq (.reg false [I_ 2 [.tk 0] .box, I_ 4 [.cv (.int .i64 0)] .mv]) (.seq (.seq (.reg false [I_ 5 [.sl 2] (.ld (.str 4)), I_ 6 [.cv (.func 21 [] []), .sl 5] (.call 3), I_ 7 [.tv 6, .cv (.int .i64 0)] (.bin .neq)]) (.cond (.sl 7)
  (.seq (.reg false [I_ 8 [.tv 2] (.ld (.str 4)), I_ 9 [.cv (.func 21 [] []), .sl 8] (.call 3), I_ 4 [.tk 9] .mv]) .ret) .skip)) (.seq (.reg false [I_ 10 [.tk 1] .mv, I_ 11 [.cv (.func 23 [] []), .sl 10] (.call 3), I_ 4 [.tk 11]
  .mv]) .ret))
theorem lxx66 : linkF Tryz.prog ann66 66 = some (xrc66, 12, [.tmp 4]) := by kernel_rfl
/-- crossband/crossbandref08.Both -/
def x66 (b : (Int × (List Int) × Int × Int)) (panels : (List (Int × Int))) : Option Int :=
  (x21 b).bind fun r1 =>
  if (decide (r1 ≠ (0 : Int))) = true then
    (x21 b).bind fun r2 =>
    some r2
  else
    (x23 panels).bind fun r3 =>
    some r3
theorem x66_ok {b : (Int × (List Int) × Int × Int)} {panels : (List (Int × Int))} {v : Int} (h : x66 b panels = some v) : PO 66 [(.agg [(I b.1), (.lst (b.2.1.map I) b.2.1.length .shared), (I b.2.2.1), (I b.2.2.2)]), (.lst (panels.flatMap pr) panels.length .shared)] (I v) := by
  refine fn_pureW hmix lxx66 rfl rfl fun Q hQ => ?_
  have hR : ∀ T H, RetW [.tmp 4] (I v) .ret T H → Q .ret T H := fun T H hh => hQ _ T H hh
  unfold x66 at h
  unfold xrc66
  skip
  conv => whnf
  obtain ⟨r1, hb1, h⟩ := bd_some h
  refine ⟨(allc (pu_agg (allc rfl (allc (pu_map (fun _ => rfl) _ _ _) (allc rfl (allc rfl rfl))))) rfl), _, x21_ok hb1, ?_⟩
  conv => whnf
  rcases bt (decide (r1 ≠ (0 : Int))) with hb2 | hb2
  · rw [hb2]
    conv => whnf
    replace h := it_t hb2 h
    obtain ⟨r2, hb3, h⟩ := bd_some h
    refine ⟨(allc (pu_agg (allc rfl (allc (pu_map (fun _ => rfl) _ _ _) (allc rfl (allc rfl rfl))))) rfl), _, x21_ok hb3, ?_⟩
    conv => whnf
    obtain rfl := Option.some.inj h
    exact hR _ _ ⟨.inr rfl, _, rfl, _, frz_pure rfl, rfl⟩
  · rw [hb2]
    conv => whnf
    replace h := it_f hb2 h
    obtain ⟨r3, hb4, h⟩ := bd_some h
    refine ⟨(allc (pu_flat (fun _ => (allc rfl (allc rfl rfl))) _ _ _) rfl), _, x23_ok hb4, ?_⟩
    conv => whnf
    obtain rfl := Option.some.inj h
    exact hR _ _ ⟨.inr rfl, _, rfl, _, frz_pure rfl, rfl⟩
end Go.Proofs.YtbnbjjgagikobaaGreat.Ab

/- MADE BY PROGRAM (ex.py): functions as plain Lean, with their walks. -/
namespace Go.Proofs.YtbnbjjgagikobaaGreat.Ab
open Go
set_option maxRecDepth 20000
set_option maxHeartbeats 4000000
end Go.Proofs.YtbnbjjgagikobaaGreat.Ab

/- MADE BY PROGRAM (ex.py): functions as plain Lean, with their walks. -/
namespace Go.Proofs.YtbnbjjgagikobaaGreat.Ab
open Go
set_option maxRecDepth 20000
set_option maxHeartbeats 4000000
end Go.Proofs.YtbnbjjgagikobaaGreat.Ab

/- MADE BY PROGRAM (ex.py): functions as plain Lean, with their walks. -/
namespace Go.Proofs.YtbnbjjgagikobaaGreat.Ab
open Go
set_option maxRecDepth 20000
set_option maxHeartbeats 4000000
end Go.Proofs.YtbnbjjgagikobaaGreat.Ab

/-
  The plain law of Hours, and PressHeats.
-/
namespace Go.Proofs.YtbnbjjgagikobaaGreat.Ab
open Go
set_option maxRecDepth 20000
set_option maxHeartbeats 4000000
theorem pig : ∀ (l br : List Int), l.Nodup → (∀ x ∈ l, x ∈ br) → l.length ≤ br.length
  | [], _, _, _ => Nat.zero_le _
  | x :: l, br, hn, h => by
    have hx := h x (by simp)
    have hn := List.nodup_cons.1 hn
    have h1 := pig l (br.erase x) hn.2 fun y hy => (List.mem_erase_of_ne (fun e => hn.1 (by rw [← e]; exact hy))).2 (h y (by simp [hy]))
    rw [List.length_erase_of_mem hx] at h1
    have := List.length_pos_of_mem hx
    simp only [List.length_cons]; omega
theorem nodup_cast (o : Nat) : ((List.range o).map fun (i : Nat) => (i : Int)).Nodup := by
  rw [List.nodup_iff_pairwise_ne, List.pairwise_map]
  exact List.nodup_range.imp fun h e => h (by omega)
theorem whole_pos {b : Bed} (hb : BedOk b) : 0 < (wholeL b.1.toNat b.2.1).length := by
  rcases Nat.eq_zero_or_pos (wholeL b.1.toNat b.2.1).length with h0 | h0
  · exfalso
    have h1 : ∀ x ∈ (List.range b.1.toNat).map (fun (i : Nat) => (i : Int)), x ∈ b.2.1 := by
      intro x hx
      obtain ⟨i, hi, rfl⟩ := List.mem_map.1 hx
      rcases Classical.em ((i : Int) ∈ b.2.1) with h | h
      · exact h
      · exfalso
        have : (i : Int) ∈ wholeL b.1.toNat b.2.1 := by
          unfold wholeL wholeN
          exact List.mem_map.2 ⟨i, List.mem_filter.2 ⟨hi, by simp [h]⟩, rfl⟩
        rw [List.length_eq_zero_iff.1 h0] at this
        cases this
    have h2 := pig _ _ (nodup_cast b.1.toNat) h1
    have h3 := hb.lt
    have h4 := hb.o1
    simp at h2
    omega
  · exact h0
/-- What panels without an error are like. -/
structure PsOk (ps : List (Int × Int)) : Prop where
  len : ps.length ≤ 12
  heat : ∀ p ∈ ps, 0 ≤ p.1 ∧ p.1 ≤ 20
  hour : ∀ p ∈ ps, 1 ≤ p.2 ∧ p.2 ≤ 24
theorem badP_false {p : Int × Int} : badP p = false ↔ (0 ≤ p.1 ∧ p.1 ≤ 20) ∧ (1 ≤ p.2 ∧ p.2 ≤ 24) := by
  unfold badP; rw [Bool.or_eq_false_iff, outOf_false, outOf_false]
theorem pErr_iff (ps : List (Int × Int)) : pErr ps = 0 ↔ PsOk ps := by
  unfold pErr
  constructor
  · intro h
    split at h
    · cases h
    · split at h
      · cases h
      · rename_i h1 h2
        rw [Bool.not_eq_true, List.any_eq_false] at h2
        exact ⟨by omega, fun p hp => (badP_false.1 (by simpa using h2 p hp)).1, fun p hp => (badP_false.1 (by simpa using h2 p hp)).2⟩
  · intro h
    rw [if_neg (by have := h.len; omega), if_neg]
    rw [Bool.not_eq_true, List.any_eq_false]
    exact fun p hp => by simp [badP_false.2 ⟨h.heat p hp, h.hour p hp⟩]
theorem PsOk.hrs {ps : List (Int × Int)} (h : PsOk ps) : hrsOk ps := fun p hp => by have := h.hour p hp; omega
theorem PsOk.sub {ps : List (Int × Int)} (h : PsOk ps) (f : Int × Int → Bool) : PsOk (ps.filter f) :=
  ⟨Nat.le_trans (List.length_filter_le _ _) h.len, fun p hp => h.heat p (List.mem_filter.1 hp).1, fun p hp => h.hour p (List.mem_filter.1 hp).1⟩
theorem ofL_range (ps : List (Int × Int)) (heat : Int) : ∀ i ∈ ofL ps heat, 0 ≤ i ∧ i < (ps.length : Int) := by
  intro x hx
  obtain ⟨i, hi, rfl⟩ := List.mem_iff_getElem.1 hx
  have hi' : i < (idxs ps heat).length := by rw [ofL_len] at hi; exact hi
  have := ins_pr (lt := longer ps) (d := (idxs ps heat).toArray) (a := 0) (b := (idxs ps heat).length) (Pr := fun i => 0 ≤ i ∧ i < (ps.length : Int)) (fun y hy => by rw [getElem!_pos _ y hy]; exact idxs_range ps heat _ (by simp)) (by simp) i (by simpa using hi')
  rw [getElem!_pos _ i (by rw [ins_size]; simpa using hi')] at this
  exact this
theorem r70_eq {x : Bench} (ho : hrsOk x.2.1) {e : List Int} {t : Int} (he : e ≠ []) (hr : ∀ i ∈ e, 0 ≤ i ∧ i < (x.2.1.length : Int)) (ht : 0 ≤ t ∧ t ≤ 1000000) : x70_r1 x t e = some (t + (ix x.2.1 (e.headD 0)).2) ∧ 0 ≤ (ix x.2.1 (e.headD 0)).2 ∧ (ix x.2.1 (e.headD 0)).2 ≤ 24 := by
  cases e with
  | nil => exact absurd rfl he
  | cons a e =>
    have e0 : ix (a :: e) (0 : Int) = a := ix_nat (k := 0) (l := a :: e) (by simp)
    have ha := hr a (by simp)
    have h1 := ho _ (show ix x.2.1 a ∈ x.2.1 by rw [ix_of ha]; exact List.getElem_mem _)
    refine ⟨?_, h1⟩
    unfold x70_r1
    rw [e0, gd_pos ⟨by omega, by simp only [List.length_cons]; omega⟩, gd_pos ha, w_id (by omega)]
    rfl
theorem fold70 {x : Bench} (ho : hrsOk x.2.1) : ∀ (L : List (List Int)) (t : Int), (∀ e ∈ L, e ≠ [] ∧ ∀ i ∈ e, 0 ≤ i ∧ i < (x.2.1.length : Int)) → 0 ≤ t → t + 24 * L.length ≤ 1000000 → foldO (x70_r1 x) L t = some (t + (L.map fun e => (ix x.2.1 (e.headD 0)).2).sum)
  | [], t, _, _, _ => by simp [foldO]
  | e :: L, t, h, h0, h1 => by
    have h2 := h e (by simp)
    simp only [List.length_cons] at h1
    obtain ⟨h3, h4, h5⟩ := r70_eq ho h2.1 h2.2 (t := t) (by omega)
    rw [foldO, h3, Option.bind_some, fold70 ho L _ (fun e he => h e (by simp [he])) (by omega) (by omega), List.map_cons, List.sum_cons, Int.add_assoc]
theorem sum_heads (n : Nat) (hn : 0 < n) (ps : List (Int × Int)) (heat : Int) : ((chunks n (ofL ps heat)).map fun e => (ix ps (e.headD 0)).2).sum = hH n (hrs ps heat) := by
  unfold hH heads
  rw [← ofL_hrs, chunks_map, List.map_map]
  congr 1
  apply List.map_congr_left
  intro e he
  cases e with
  | nil => exact absurd rfl (chunk_ne hn he)
  | cons a e => rfl
theorem x70_l1_eq {x : Bench} {N : Nat} (hN : 1 ≤ N ∧ N ≤ 1000) (ho : PsOk x.2.1) {k : Int → Option Int} : ∀ (m i : Nat) (z : Int), z = i → i ≤ 21 → 21 - i < m → x70_l1 x (N : Int) k m z (hSum N x.2.1 i) = k (hSum N x.2.1 21)
  | 0, i, _, _, _, h => absurd h (by omega)
  | m + 1, i, _, rfl, hi, hm => by
    rw [x70_l1]
    by_cases h : i < 21
    · have hl := ho.len
      have hi2 := idxs_len x.2.1 (i : Int)
      have hs := hSum_le (n := N) (by omega) ho.hrs i
      have hc := cnt_le (fun p hp => (ho.heat p hp).1) i (ps := x.2.1)
      have hk := chunks_cnt (n := N) (by omega) (ofL x.2.1 (i : Int))
      rw [ofL_len] at hk
      have e1 : x76 x (i : Int) = some (ofL x.2.1 (i : Int)) := if_pos (by omega)
      have e2 : x75 (ofL x.2.1 (i : Int)) (N : Int) = some () := if_neg (by rw [decide_eq_true_eq]; omega)
      have e3 : s98 (ofL x.2.1 (i : Int)) (N : Int) = some (chunks N (ofL x.2.1 (i : Int))) := by
        unfold s98; rw [if_pos ⟨by omega, by omega, by rw [ofL_len]; omega⟩, Int.toNat_natCast]
      have e4 := fold70 (x := x) ho.hrs (chunks N (ofL x.2.1 (i : Int))) (hSum N x.2.1 i) (fun e he => ⟨chunk_ne (by omega) he, fun j hj => ofL_range _ _ j (chunk_mem he j hj)⟩) (by omega) (by omega)
      rw [sum_heads N (by omega), ← hSum_succ] at e4
      rw [if_pos (decide_eq_true (by omega)), e1, Option.bind_some, e2, Option.bind_some, e3, Option.bind_some, e4, Option.bind_some, w_succ i (by omega)]
      exact x70_l1_eq hN ho m (i + 1) _ rfl (by omega) (by omega)
    · obtain rfl : i = 21 := by omega
      rw [if_neg (by decide)]
theorem x70_eq {x : Bench} {N : Nat} (hN : 1 ≤ N ∧ N ≤ 1000) (ho : PsOk x.2.1) : x70 x (N : Int) = some (hSum N x.2.1 21) := by
  have := x70_l1_eq (x := x) hN ho (k := fun z => some z) FU 0 0 rfl (by omega) (FU_lt (by omega))
  rw [x70]
  exact this
/-- How many openings are whole. -/
def wn (b : Bed) : Nat := (wholeL b.1.toNat b.2.1).length
theorem wn_pos {b : Bed} (hb : BedOk b) : 1 ≤ wn b ∧ wn b ≤ 10 := ⟨whole_pos hb, Nat.le_trans (wholeL_len _ _) (by have := hb.o10; omega)⟩
theorem x69_eq {b : Bed} (hb : bErr b = 0) (hl : b.2.1.length ≤ 20) {ps : List (Int × Int)} (hp : PsOk ps) : x69 b ps = some (some (b, ps, wholeL b.1.toNat b.2.1, wantL ps), 0) := by
  rw [x69, x20_eq b (by omega), Option.bind_some, hb, if_neg (by decide), x22_eq, Option.bind_some, (pErr_iff ps).2 hp, if_neg (by decide), x59_eq (bedOk hb) hp.heat (by have := hp.len; omega), Option.bind_some]
theorem x33_eq {b : Bed} (hb : bErr b = 0) (hl : b.2.1.length ≤ 20) {ps : List (Int × Int)} (hp : PsOk ps) : x33 b ps = some (hSum (wn b) ps 21, 0) := by
  have hw := wn_pos (bedOk hb)
  rw [x33, x69_eq hb hl hp, Option.bind_some]
  show (if (decide ((0 : Int) ≠ (0 : Int))) = true then _ else _) = _
  rw [if_neg (by decide)]
  have := x70_eq (x := (b, ps, wholeL b.1.toNat b.2.1, wantL ps)) (N := wn b) ⟨by omega, by omega⟩ hp
  show (x70 (b, ps, wholeL b.1.toNat b.2.1, wantL ps) ((wholeL b.1.toNat b.2.1).length : Int)).bind _ = _
  rw [show (wholeL b.1.toNat b.2.1).length = wn b from rfl, this]; rfl
theorem x66_eq {b : Bed} (hl : b.2.1.length ≤ 20) (ps : List (Int × Int)) : x66 b ps = some (if bErr b = 0 then pErr ps else bErr b) := by
  rw [x66, x21_eq b (by omega), Option.bind_some]
  by_cases h : bErr b = 0
  · rw [if_pos h, h, if_neg (by decide), x23_eq]; rfl
  · rw [if_neg h, if_pos (decide_eq_true h)]; rfl
end Go.Proofs.YtbnbjjgagikobaaGreat.Ab

/- MADE BY PROGRAM (ex.py): functions as plain Lean, with their walks. -/
namespace Go.Proofs.YtbnbjjgagikobaaGreat.Ab
open Go
set_option maxRecDepth 20000
set_option maxHeartbeats 4000000
end Go.Proofs.YtbnbjjgagikobaaGreat.Ab

/- MADE BY PROGRAM (ex.py): functions as plain Lean, with their walks. -/
namespace Go.Proofs.YtbnbjjgagikobaaGreat.Ab
open Go
set_option maxRecDepth 20000
set_option maxHeartbeats 4000000
end Go.Proofs.YtbnbjjgagikobaaGreat.Ab

/- MADE BY PROGRAM (ex.py): functions as plain Lean, with their walks. -/
namespace Go.Proofs.YtbnbjjgagikobaaGreat.Ab
open Go
set_option maxRecDepth 20000
set_option maxHeartbeats 4000000
end Go.Proofs.YtbnbjjgagikobaaGreat.Ab

/-
  The plain law of PressOpenings.
-/
namespace Go.Proofs.YtbnbjjgagikobaaGreat.Ab
open Go
set_option maxRecDepth 20000
set_option maxHeartbeats 4000000
theorem swo_down : Sort.SWO (fun x y : Int => decide (y < x)) := by
  constructor <;> intros <;> simp_all <;> omega
theorem down_perm (l : List Int) : (down l).Perm l := by
  obtain ⟨⟨h1, _, h3⟩, _⟩ := Sort.insertionSort_holds (lt := fun x y : Int => decide (y < x)) swo_down l.toArray 0 l.length (Nat.zero_le _) (by simp)
  unfold down
  generalize Sort.insertionSort (fun x y : Int => decide (y < x)) l.toArray 0 l.length = d at h1 h3
  have e1 : (d.extract 0 l.length).toList = d.toList := by
    have : l.length = d.size := by rw [h1]; simp
    rw [this]; simp
  have e2 : (l.toArray.extract 0 l.length).toList = l := by simp
  rwa [e1, e2] at h3
/-- The one at this place, or none. -/
def dn (l : List Int) (i : Nat) : Int := (down l).getD i 0
theorem dn_get {l : List Int} {i : Nat} (h : i < l.length) : dn l i = (down l)[i]'(by rw [down_len]; exact h) := by
  unfold dn; rw [List.getD_eq_getElem?_getD, List.getElem?_eq_getElem (by rw [down_len]; exact h)]; rfl
theorem dn_out {l : List Int} {i : Nat} (h : l.length ≤ i) : dn l i = 0 := by
  unfold dn; rw [List.getD_eq_getElem?_getD, List.getElem?_eq_none (by rw [down_len]; exact h)]; rfl
theorem dn_mono {l : List Int} (h0 : ∀ x ∈ l, 0 ≤ x) {i j : Nat} (hij : i ≤ j) : dn l j ≤ dn l i ∧ 0 ≤ dn l j := by
  have hin : ∀ k, 0 ≤ dn l k := fun k => by
    by_cases h : k < l.length
    · rw [dn_get h]; exact h0 _ ((down_perm l).mem_iff.1 (List.getElem_mem _))
    · rw [dn_out (by omega)]; exact Int.le_refl _
  refine ⟨?_, hin j⟩
  by_cases hj : j < l.length
  · by_cases e : i = j
    · subst e; exact Int.le_refl _
    · obtain ⟨⟨h1, _, _⟩, h4⟩ := Sort.insertionSort_holds (lt := fun x y : Int => decide (y < x)) swo_down l.toArray 0 l.length (Nat.zero_le _) (by simp)
      have h5 := h4 i j (Nat.zero_le _) (by omega) hj
      have hs : (Sort.insertionSort (fun x y : Int => decide (y < x)) l.toArray 0 l.length).size = l.length := by rw [ins_size]; simp
      rw [getElem!_pos _ i (by omega), getElem!_pos _ j (by omega)] at h5
      rw [dn_get hj, dn_get (by omega : i < l.length)]
      unfold down
      simp only [Array.getElem_toList]
      simpa using h5
  · rw [dn_out (by omega)]; exact hin i
theorem head_dn {n : Nat} (hn : 0 < n) (l : List Int) (j : Nat) : ((l.drop (j * n)).take n).headD 0 = l.getD (j * n) 0 := by
  obtain ⟨k, rfl⟩ : ∃ k, n = k + 1 := ⟨n - 1, by omega⟩
  rw [List.getD_eq_getElem?_getD]
  have : l[j * (k + 1)]? = (l.drop (j * (k + 1)))[0]? := by rw [List.getElem?_drop]; rfl
  rw [this]
  cases l.drop (j * (k + 1)) with
  | nil => rfl
  | cons a r => rfl
theorem hH_dn {n : Nat} (hn : 0 < n) (l : List Int) : hH n l = ((List.range ((l.length + n - 1) / n)).map fun j => dn l (j * n)).sum := by
  unfold hH heads chunks
  rw [List.map_map, down_len]
  congr 1
  apply List.map_congr_left
  intro j _
  exact head_dn hn _ j
theorem perm_sum {a b : List Int} (h : a.Perm b) : a.sum = b.sum := by
  induction h with
  | nil => rfl
  | cons x _ ih => rw [List.sum_cons, List.sum_cons, ih]
  | swap x y l => simp only [List.sum_cons]; omega
  | trans _ _ h1 h2 => exact h1.trans h2
end Go.Proofs.YtbnbjjgagikobaaGreat.Ab

/-
  PressOpenings.
-/
namespace Go.Proofs.YtbnbjjgagikobaaGreat.Ab
open Go
set_option maxRecDepth 20000
set_option maxHeartbeats 4000000
end Go.Proofs.YtbnbjjgagikobaaGreat.Ab

/-
  PressOpenings, the last step of the plain law.
-/
namespace Go.Proofs.YtbnbjjgagikobaaGreat.Ab
open Go
set_option maxRecDepth 20000
set_option maxHeartbeats 4000000
end Go.Proofs.YtbnbjjgagikobaaGreat.Ab

/-
  Words for rows of structs that are objects; rows that are settled.
-/
namespace Go.Proofs.YtbnbjjgagikobaaGreat.Ab
open Go
end Go.Proofs.YtbnbjjgagikobaaGreat.Ab

/- MADE BY PROGRAM (ex.py): functions as plain Lean, with their walks. -/
namespace Go.Proofs.YtbnbjjgagikobaaGreat.Ab
open Go
set_option maxRecDepth 20000
set_option maxHeartbeats 4000000
end Go.Proofs.YtbnbjjgagikobaaGreat.Ab

/-
  Sums over ranges; how many hours turns of one heat need, by counting; PressMore.
-/
namespace Go.Proofs.YtbnbjjgagikobaaGreat.Ab
open Go
set_option maxRecDepth 20000
set_option maxHeartbeats 4000000
def sumR (n : Nat) (f : Nat → Int) : Int := ((List.range n).map f).sum
theorem sumR_zero (f : Nat → Int) : sumR 0 f = 0 := rfl
theorem sumR_succ (n : Nat) (f : Nat → Int) : sumR (n + 1) f = sumR n f + f n := by
  unfold sumR; rw [List.range_succ, List.map_append, List.sum_append]; simp
theorem sumR_congr {f g : Nat → Int} : ∀ {n : Nat}, (∀ i, i < n → f i = g i) → sumR n f = sumR n g
  | 0, _ => rfl
  | n + 1, h => by rw [sumR_succ, sumR_succ, sumR_congr fun i hi => h i (by omega), h n (by omega)]
theorem sumR_add (f g : Nat → Int) : ∀ n, sumR n (fun i => f i + g i) = sumR n f + sumR n g
  | 0 => rfl
  | n + 1 => by rw [sumR_succ, sumR_succ, sumR_succ, sumR_add f g n]; omega
theorem sumR_const0 : ∀ n, sumR n (fun _ => 0) = 0
  | 0 => rfl
  | n + 1 => by rw [sumR_succ, sumR_const0 n]; rfl
theorem sumR_swap (f : Nat → Nat → Int) (m : Nat) : ∀ n, sumR n (fun i => sumR m (f i)) = sumR m (fun j => sumR n fun i => f i j)
  | 0 => (sumR_const0 m).symm
  | n + 1 => by
    rw [sumR_succ, sumR_swap f m n, ← sumR_add]
    exact sumR_congr fun j _ => by rw [sumR_succ]
theorem sumR_lt (c : Nat) : ∀ n, c ≤ n → sumR n (fun i => if i < c then 1 else 0) = c
  | 0, h => by obtain rfl : c = 0 := by omega
               rfl
  | n + 1, h => by
    rw [sumR_succ]
    by_cases hc : c = n + 1
    · subst hc
      have : sumR n (fun i => if i < n + 1 then (1 : Int) else 0) = sumR n (fun i => if i < n then 1 else 0) := sumR_congr fun i hi => by rw [if_pos (by omega), if_pos hi]
      rw [this, sumR_lt n n (Nat.le_refl _), if_pos (by omega)]; omega
    · rw [sumR_lt c n (by omega), if_neg (by omega)]; omega
/-- A number, as many ones. -/
theorem ones {x : Int} (h : 0 ≤ x ∧ x ≤ 24) : sumR 24 (fun t => if (t : Int) + 1 ≤ x then 1 else 0) = x := by
  have := sumR_lt x.toNat 24 (by omega)
  rw [show ((x.toNat : Nat) : Int) = x by omega] at this
  rw [← this]
  exact sumR_congr fun t _ => by
    by_cases h1 : t < x.toNat
    · rw [if_pos h1, if_pos (by omega)]
    · rw [if_neg h1, if_neg (by omega)]
theorem sorted_ge (t : Int) : ∀ (s : List Int), s.Pairwise (fun a b => b ≤ a) → ∀ (i : Nat) (hi : i < s.length), t ≤ s[i] ↔ i < s.countP (fun x => decide (t ≤ x))
  | [], _, i, hi => absurd hi (by simp)
  | a :: r, hp, i, hi => by
    obtain ⟨h1, h2⟩ := List.pairwise_cons.1 hp
    by_cases ha : t ≤ a
    · rw [List.countP_cons_of_pos (by simpa using ha)]
      cases i with
      | zero => simp [ha]
      | succ i =>
        have := sorted_ge t r h2 i (by simpa using hi)
        rw [List.getElem_cons_succ, this]; omega
    · rw [List.countP_cons_of_neg (by simpa using ha)]
      have h0 : r.countP (fun x => decide (t ≤ x)) = 0 := by
        rw [List.countP_eq_zero]; intro x hx; have := h1 x hx; simp; omega
      rw [h0]
      cases i with
      | zero => simp [ha]
      | succ i =>
        have := h1 _ (List.getElem_mem (l := r) (n := i) (by simpa using hi))
        rw [List.getElem_cons_succ]; omega
theorem down_sorted {l : List Int} (h0 : ∀ x ∈ l, 0 ≤ x) : (down l).Pairwise (fun a b => b ≤ a) := by
  rw [List.pairwise_iff_getElem]
  intro i j hi hj hij
  have := (dn_mono h0 (Nat.le_of_lt hij)).1
  rw [dn_get (i := i) (by rw [down_len] at hi; exact hi), dn_get (i := j) (by rw [down_len] at hj; exact hj)] at this
  exact this
/-- The i-th of the greatest is at least so great just if more than i are. -/
theorem dn_ge {l : List Int} (h0 : ∀ x ∈ l, 0 ≤ x) {t : Int} (ht : 1 ≤ t) (i : Nat) : t ≤ dn l i ↔ i < l.countP (fun x => decide (t ≤ x)) := by
  rw [← (down_perm l).countP_eq]
  by_cases hi : i < l.length
  · rw [dn_get hi]
    exact sorted_ge t (down l) (down_sorted h0) i (by rw [down_len]; exact hi)
  · rw [dn_out (by omega)]
    have := List.countP_le_length (l := down l) (p := fun x => decide (t ≤ x))
    rw [down_len] at this
    omega
def ceil (n c : Nat) : Nat := (c + n - 1) / n
/-- Hours by counting: for each hour as many turns as are needed for those that last so long. -/
theorem hH_cnt {n : Nat} (hn : 0 < n) {l : List Int} (h : ∀ x ∈ l, 0 ≤ x ∧ x ≤ 24) : hH n l = sumR 24 (fun t => (ceil n (l.countP fun x => decide ((t : Int) + 1 ≤ x)) : Int)) := by
  have h0 : ∀ x ∈ l, 0 ≤ x := fun x hx => (h x hx).1
  have hd : ∀ i, 0 ≤ dn l i ∧ dn l i ≤ 24 := fun i => by
    by_cases hi : i < l.length
    · rw [dn_get hi]; exact h _ ((down_perm l).mem_iff.1 (List.getElem_mem _))
    · rw [dn_out (by omega)]; omega
  rw [hH_dn hn]
  show sumR (ceil n l.length) (fun j => dn l (j * n)) = _
  have e1 : sumR (ceil n l.length) (fun j => dn l (j * n)) = sumR (ceil n l.length) (fun j => sumR 24 fun t => if (t : Int) + 1 ≤ dn l (j * n) then 1 else 0) := sumR_congr fun j _ => (ones (hd _)).symm
  rw [e1, sumR_swap]
  refine sumR_congr fun t _ => ?_
  have hc : l.countP (fun x => decide ((t : Int) + 1 ≤ x)) ≤ l.length := List.countP_le_length
  have e2 : sumR (ceil n l.length) (fun j => if (t : Int) + 1 ≤ dn l (j * n) then (1 : Int) else 0) = sumR (ceil n l.length) (fun j => if j < ceil n (l.countP fun x => decide ((t : Int) + 1 ≤ x)) then 1 else 0) := sumR_congr fun j _ => by
    have h1 := dn_ge h0 (t := (t : Int) + 1) (by omega) (j * n)
    have h2 := chunks_lt (k := l.countP fun x => decide ((t : Int) + 1 ≤ x)) hn (j := j)
    unfold ceil
    by_cases hh : (t : Int) + 1 ≤ dn l (j * n)
    · rw [if_pos hh, if_pos (h2.2 (h1.1 hh))]
    · rw [if_neg hh, if_neg fun hx => hh (h1.2 (h2.1 hx))]
  rw [e2]
  refine sumR_lt _ _ ?_
  unfold ceil
  exact Nat.div_le_div_right (by omega)
def cP (ps : List (Int × Int)) (h t : Int) : Nat := ps.countP fun p => decide (p.1 = h) && decide (t ≤ p.2)
theorem hrs_cnt (ps : List (Int × Int)) (h t : Int) : (hrs ps h).countP (fun x => decide (t ≤ x)) = cP ps h t := by
  unfold hrs cP
  rw [List.countP_map, List.countP_filter]
  exact List.countP_congr fun p _ => by simp [and_comm]
theorem hSum_cnt {n : Nat} (hn : 0 < n) {ps : List (Int × Int)} (hp : hrsOk ps) (i : Nat) : hSum n ps i = sumR i (fun h => sumR 24 fun t => (ceil n (cP ps h ((t : Int) + 1)) : Int)) := by
  show sumR i (fun h => hH n (hrs ps (h : Int))) = _
  exact sumR_congr fun h _ => by
    rw [hH_cnt hn (hrs_in hp _)]
    exact sumR_congr fun t _ => by rw [hrs_cnt]
theorem cP_snoc (ps : List (Int × Int)) (p : Int × Int) (h t : Int) : cP (ps ++ [p]) h t = cP ps h t + if p.1 = h ∧ t ≤ p.2 then 1 else 0 := by
  unfold cP
  rw [List.countP_append, List.countP_cons]
  by_cases h1 : p.1 = h ∧ t ≤ p.2
  · rw [if_pos h1]; simp [h1.1, h1.2]
  · rw [if_neg h1, if_neg (by simpa using h1)]; rfl
end Go.Proofs.YtbnbjjgagikobaaGreat.Ab

/-
  PressMore, the plain law.
-/
namespace Go.Proofs.YtbnbjjgagikobaaGreat.Ab
open Go
set_option maxRecDepth 20000
set_option maxHeartbeats 4000000
end Go.Proofs.YtbnbjjgagikobaaGreat.Ab

/- MADE BY PROGRAM (ex.py): functions as plain Lean, with their walks. -/
namespace Go.Proofs.YtbnbjjgagikobaaGreat.Ab
open Go
set_option maxRecDepth 20000
set_option maxHeartbeats 4000000
noncomputable def xrc71_1 : RC :=
  .loop (some [i_,i_,o_,o_,o_,i_,i_,i_,i_,i_,o_,o_,o_,o_,o_,o_,o_,o_,o_,o_,o_,o_,o_,o_,o_,o_,o_,o_,o_,o_,o_,o_,o_,o_,o_,o_,o_,o_,o_,o_,o_,o_,o_,o_,o_,o_,o_,o_,o_,o_,o_]) (.seq (.seq (.reg false [I_ 18 [.sl 9] .mv, I_ 19 [.sl 0] .mv, I_ 20 [.tk 19] .lenS, I_ 21
  [.tv 18, .tv 20] (.bin .lss)]) (.cond (.sl 21) .skip (.exit 4))) (.seq (.block 5 (.seq (.reg false [I_ 24 [.sl 0] .mv, I_ 25 [.sl 9] .mv, I_ 26 [.tv 24, .tv 25] (.ia 2), I_ 27 [.tv 26] (.fa 0), I_ 28 [.tv 27] (.ld .one), I_ 29
  [.sl 6] .mv, I_ 30 [.tv 28, .tv 29] (.bin .eql), I_ 31 [.tk 30] .mv, ⟨some 32, [.sl 0], some (31, true), none, .mv⟩, ⟨some 33, [.sl 9], some (31, true), none, .mv⟩, ⟨some 34, [.tv 32, .tv 33], some (31, true), none, .ia 2⟩,
  ⟨some 35, [.tv 34], some (31, true), none, .fa 1⟩, ⟨some 36, [.tv 35], some (31, true), none, .ld .one⟩, ⟨some 37, [.sl 7], some (31, true), none, .mv⟩, ⟨some 38, [.tv 36, .tv 37], some (31, true), none, .bin .geq⟩, I_ 39 [.tv
  31, .tv 38, .cv (.bool false)] .pick]) (.cond (.sl 39) (.reg false [I_ 40 [.tk 8] .mv, I_ 41 [.tv 40, .cv (.int .i64 1)] (.bin .add), I_ 8 [.tk 41] .mv]) .skip))) (.reg false [I_ 22 [.tk 9] .mv, I_ 23 [.tv 22, .cv (.int .i64
  1)] (.bin .add), I_ 9 [.tk 23] .mv])))
noncomputable def xrc71_2 : RC :=
  .loop (some [i_,i_,o_,o_,o_,i_,i_,i_,o_,o_,o_,o_,o_,o_,o_,o_,o_,o_,o_,o_,o_,o_,o_,o_,o_,o_,o_,o_,o_,o_,o_,o_,o_,o_,o_,o_,o_,o_,o_,o_,o_,o_,o_,o_,o_,o_,o_,o_,o_,o_,o_]) (.seq (.seq (.reg false [I_ 14 [.sl 7] .mv, I_ 15 [.tv 14, .cv (.int .i64 24)] (.bin
  .leq)]) (.cond (.sl 15) .skip (.exit 2))) (.seq (.block 3 (.seq (.reg false [I_ 8 [.cv (.int .i64 0)] .mv]) (.seq (.seq (.reg false [I_ 9 [.cv (.int .i64 0)] .mv]) (.block 4 xrc71_1)) (.reg false [I_ 42 [.tk 5] .mv, I_ 43 [.tk
  8] .mv, I_ 44 [.sl 1] .mv, I_ 45 [.tv 43, .tv 44] (.bin .add), I_ 46 [.tv 45, .cv (.int .i64 1)] (.bin .sub), I_ 47 [.sl 1] .mv, I_ 48 [.tv 46, .tv 47] (.bin .quo), I_ 49 [.tv 42, .tv 48] (.bin .add), I_ 5 [.tk 49] .mv]))))
  (.reg false [I_ 16 [.tk 7] .mv, I_ 17 [.tv 16, .cv (.int .i64 1)] (.bin .add), I_ 7 [.tk 17] .mv])))
noncomputable def xrc71_3 : RC :=
  .loop (some [i_,i_,o_,o_,o_,i_,i_,o_,o_,o_,o_,o_,o_,o_,o_,o_,o_,o_,o_,o_,o_,o_,o_,o_,o_,o_,o_,o_,o_,o_,o_,o_,o_,o_,o_,o_,o_,o_,o_,o_,o_,o_,o_,o_,o_,o_,o_,o_,o_,o_,o_]) (.seq (.seq (.reg false [I_ 10 [.sl 6] .mv, I_ 11 [.tv 10, .cv (.int .i64 20)] (.bin
  .leq)]) (.cond (.sl 11) .skip (.exit 0))) (.seq (.block 1 (.seq (.reg false [I_ 7 [.cv (.int .i64 1)] .mv]) (.block 2 xrc71_2))) (.reg false [I_ 12 [.tk 6] .mv, I_ 13 [.tv 12, .cv (.int .i64 1)] (.bin .add), I_ 6 [.tk 13]
  .mv])))
noncomputable def xrc71 : RC :=
  .seq (.reg false [I_ 4 [.cv (.int .i64 0)] .mv]) (.seq (.reg false [I_ 5 [.cv (.int .i64 0)] .mv]) (.seq (.seq (.reg false [I_ 6 [.cv (.int .i64 0)] .mv]) (.block 0 xrc71_3)) (.seq (.reg false [I_ 50 [.tk 5] .mv, I_ 4 [.tk 50]
  .mv]) .ret)))
theorem lxx71 : linkF Tryz.prog ann71 71 = some (xrc71, 51, [.tmp 4]) := by kernel_rfl
def x71_l3 (panels : (List (Int × Int))) (s2 : Int) (s4 : Int) (kl3_0 : Int → Option Int) : Nat → Int → Int → Option Int
  | 0, _, _ => none
  | m + 1, s5, s6 =>
    if (decide (s6 < (panels.length : Int))) = true then
      gd (0 ≤ s6 ∧ s6 < (panels.length : Int)) <|
      if (decide ((ix panels s6).1 = s2)) = true then
        gd (0 ≤ s6 ∧ s6 < (panels.length : Int)) <|
        if (decide (s4 ≤ (ix panels s6).2)) = true then
          x71_l3 panels s2 s4 kl3_0 m (w (s5 + (1 : Int))) (w (s6 + (1 : Int)))
        else
          x71_l3 panels s2 s4 kl3_0 m s5 (w (s6 + (1 : Int)))
      else
        x71_l3 panels s2 s4 kl3_0 m s5 (w (s6 + (1 : Int)))
    else
      kl3_0 s5
def x71_l2 (panels : (List (Int × Int))) (whole : Int) (s2 : Int) (kl2_0 : Int → Option Int) : Nat → Int → Int → Option Int
  | 0, _, _ => none
  | m + 1, s3, s4 =>
    if (decide (s4 ≤ (24 : Int))) = true then
      x71_l3 panels s2 s4 (fun z1 =>
          gd (whole ≠ 0) <|
          x71_l2 panels whole s2 kl2_0 m (w (s3 + (w ((w ((w (z1 + whole)) - (1 : Int))).tdiv whole)))) (w (s4 + (1 : Int)))) FU (0 : Int) (0 : Int)
    else
      kl2_0 s3
def x71_l1 (panels : (List (Int × Int))) (whole : Int) (kl1_0 : Int → Option Int) : Nat → Int → Int → Option Int
  | 0, _, _ => none
  | m + 1, s1, s2 =>
    if (decide (s2 ≤ (20 : Int))) = true then
      x71_l2 panels whole s2 (fun z2 =>
          x71_l1 panels whole kl1_0 m z2 (w (s2 + (1 : Int)))) FU s1 (1 : Int)
    else
      kl1_0 s1
/-- crossband/crossbandref08.HoursOf -/
def x71 (panels : (List (Int × Int))) (whole : Int) : Option Int :=
  x71_l1 panels whole (fun z3 =>
      some z3) FU (0 : Int) (0 : Int)
theorem x71_l3_ok {panels : (List (Int × Int))} {s2 : Int} {s4 : Int} {kl3_0 : Int → Option Int} {s5 : Int} {s6 : Int} {whole : Int} {s3 : Int} {v : Int} {Q : Ex → List AV → List AObj → Prop}   (hkl3_0 : ∀ (z1 : Int) (u4 : AV) (u9 : AV) (u10 : AV) (u11 : AV) (u12 : AV) (u13 : AV) (u14 : AV) (u15 : AV) (u16 : AV) (u17 : AV) (u18 : AV) (u19 : AV) (u20 : AV) (u21 : AV) (u22 : AV) (u23 : AV) (u24 : AV) (u25 : AV) (u26 : AV) (u27 : AV) (u28 : AV) (u29 : AV) (u30 : AV) (u31 : AV) (u32 : AV) (u33 : AV) (u34 : AV) (u35 : AV) (u36 : AV) (u37 : AV) (u38 : AV) (u39 : AV) (u40 : AV) (u41 : AV) (u42 : AV) (u43 : AV) (u44 : AV) (u45 : AV) (u46 : AV) (u47 : AV) (u48 : AV) (u49 : AV) (u50 : AV), kl3_0 z1 = some v → Q (.exit 4) [(.lst (panels.flatMap pr) panels.length .shared), (I whole), J, J, u4, (I s3), (I s2), (I s4), (I z1), u9, u10, u11, u12, u13, u14, u15, u16, u17, u18, u19, u20, u21, u22, u23, u24, u25, u26, u27, u28, u29, u30, u31, u32, u33, u34, u35, u36, u37, u38, u39, u40, u41, u42, u43, u44, u45, u46, u47, u48, u49, u50] []) {T : List AV} (hT : zipKeep [i_,i_,o_,o_,o_,i_,i_,i_,i_,i_,o_,o_,o_,o_,o_,o_,o_,o_,o_,o_,o_,o_,o_,o_,o_,o_,o_,o_,o_,o_,o_,o_,o_,o_,o_,o_,o_,o_,o_,o_,o_,o_,o_,o_,o_,o_,o_,o_,o_,o_,o_] T = slots 51 [(0, (.lst (panels.flatMap pr) panels.length .shared)), (1, (I whole)), (5, (I s3)), (6, (I s2)), (7, (I s4)), (8, (I s5)), (9, (I s6))]) (h : x71_l3 panels s2 s4 kl3_0 FU s5 s6 = some v) :
    wpR Tryz.prog ann71 71 0 none xrc71_1 T [] Q := by
  unfold xrc71_1
  skip
  refine wp_loop hT ?_
  refine .intro (fun m T H => ∃ (s5 : Int) (s6 : Int), T = slots 51 [(0, (.lst (panels.flatMap pr) panels.length .shared)), (1, (I whole)), (5, (I s3)), (6, (I s2)), (7, (I s4)), (8, (I s5)), (9, (I s6))] ∧ H = [] ∧ x71_l3 panels s2 s4 kl3_0 m s5 s6 = some v) FU ⟨s5, s6, rfl, rfl, h⟩ ?_
  clear h hT
  rintro m T H ⟨s5, s6, rfl, rfl, h⟩
  cases m
  · exact none_ne h
  rename_i m
  rw [x71_l3.eq_2] at h
  conv => whnf
  rcases bt (decide (s6 < (panels.length : Int))) with hb3 | hb3
  · rw [hb3]
    conv => whnf
    replace h := it_t hb3 h
    obtain ⟨hb4, h⟩ := gd_some h
    refine ⟨hb4, ?_⟩
    rw [dropS pr 2 pr_len panels s6 hb4]
    conv => whnf
    rcases bt (decide ((ix panels s6).1 = s2)) with hb5 | hb5
    · rw [hb5]
      conv => whnf
      replace h := it_t hb5 h
      obtain ⟨hb6, h⟩ := gd_some h
      refine ⟨hb6, ?_⟩
      rw [dropS pr 2 pr_len panels s6 hb6]
      conv => whnf
      rcases bt (decide (s4 ≤ (ix panels s6).2)) with hb7 | hb7
      · rw [hb7]
        conv => whnf
        replace h := it_t hb7 h
        exact ⟨m, Nat.lt_succ_self m, (w (s5 + (1 : Int))), (w (s6 + (1 : Int))), rfl, rfl, h⟩
      · rw [hb7]
        conv => whnf
        replace h := it_f hb7 h
        exact ⟨m, Nat.lt_succ_self m, s5, (w (s6 + (1 : Int))), rfl, rfl, h⟩
    · rw [hb5]
      conv => whnf
      replace h := it_f hb5 h
      exact ⟨m, Nat.lt_succ_self m, s5, (w (s6 + (1 : Int))), rfl, rfl, h⟩
  · rw [hb3]
    conv => whnf
    replace h := it_f hb3 h
    exact hkl3_0 _ _ _ _ _ _ _ _ _ _ _ _ _ _ _ _ _ _ _ _ _ _ _ _ _ _ _ _ _ _ _ _ _ _ _ _ _ _ _ _ _ _ _ _ h
theorem x71_l2_ok {panels : (List (Int × Int))} {whole : Int} {s2 : Int} {kl2_0 : Int → Option Int} {s3 : Int} {s4 : Int} {v : Int} {Q : Ex → List AV → List AObj → Prop}   (hkl2_0 : ∀ (z2 : Int) (u4 : AV) (u7 : AV) (u8 : AV) (u9 : AV) (u10 : AV) (u11 : AV) (u12 : AV) (u13 : AV) (u14 : AV) (u15 : AV) (u16 : AV) (u17 : AV) (u18 : AV) (u19 : AV) (u20 : AV) (u21 : AV) (u22 : AV) (u23 : AV) (u24 : AV) (u25 : AV) (u26 : AV) (u27 : AV) (u28 : AV) (u29 : AV) (u30 : AV) (u31 : AV) (u32 : AV) (u33 : AV) (u34 : AV) (u35 : AV) (u36 : AV) (u37 : AV) (u38 : AV) (u39 : AV) (u40 : AV) (u41 : AV) (u42 : AV) (u43 : AV) (u44 : AV) (u45 : AV) (u46 : AV) (u47 : AV) (u48 : AV) (u49 : AV) (u50 : AV), kl2_0 z2 = some v → Q (.exit 2) [(.lst (panels.flatMap pr) panels.length .shared), (I whole), J, J, u4, (I z2), (I s2), u7, u8, u9, u10, u11, u12, u13, u14, u15, u16, u17, u18, u19, u20, u21, u22, u23, u24, u25, u26, u27, u28, u29, u30, u31, u32, u33, u34, u35, u36, u37, u38, u39, u40, u41, u42, u43, u44, u45, u46, u47, u48, u49, u50] []) {T : List AV} (hT : zipKeep [i_,i_,o_,o_,o_,i_,i_,i_,o_,o_,o_,o_,o_,o_,o_,o_,o_,o_,o_,o_,o_,o_,o_,o_,o_,o_,o_,o_,o_,o_,o_,o_,o_,o_,o_,o_,o_,o_,o_,o_,o_,o_,o_,o_,o_,o_,o_,o_,o_,o_,o_] T = slots 51 [(0, (.lst (panels.flatMap pr) panels.length .shared)), (1, (I whole)), (5, (I s3)), (6, (I s2)), (7, (I s4))]) (h : x71_l2 panels whole s2 kl2_0 FU s3 s4 = some v) :
    wpR Tryz.prog ann71 71 0 none xrc71_2 T [] Q := by
  unfold xrc71_2
  obtain ⟨c_1, g_1⟩ : ∃ c, xrc71_1 = c := ⟨_, rfl⟩
  rw [g_1]
  refine wp_loop hT ?_
  refine .intro (fun m T H => ∃ (s3 : Int) (s4 : Int), T = slots 51 [(0, (.lst (panels.flatMap pr) panels.length .shared)), (1, (I whole)), (5, (I s3)), (6, (I s2)), (7, (I s4))] ∧ H = [] ∧ x71_l2 panels whole s2 kl2_0 m s3 s4 = some v) FU ⟨s3, s4, rfl, rfl, h⟩ ?_
  clear h hT
  rintro m T H ⟨s3, s4, rfl, rfl, h⟩
  cases m
  · exact none_ne h
  rename_i m
  rw [x71_l2.eq_2] at h
  conv => whnf
  rcases bt (decide (s4 ≤ (24 : Int))) with hb2 | hb2
  · rw [hb2]
    conv => whnf
    replace h := it_t hb2 h
    subst g_1
    refine x71_l3_ok ?_ (by exact rfl) h
    intro z1 u4 u9 u10 u11 u12 u13 u14 u15 u16 u17 u18 u19 u20 u21 u22 u23 u24 u25 u26 u27 u28 u29 u30 u31 u32 u33 u34 u35 u36 u37 u38 u39 u40 u41 u42 u43 u44 u45 u46 u47 u48 u49 u50 h
    conv => whnf
    obtain ⟨hb8, h⟩ := gd_some h
    refine ⟨hb8, ?_⟩
    conv => whnf
    exact ⟨m, Nat.lt_succ_self m, (w (s3 + (w ((w ((w (z1 + whole)) - (1 : Int))).tdiv whole)))), (w (s4 + (1 : Int))), rfl, rfl, h⟩
  · rw [hb2]
    conv => whnf
    replace h := it_f hb2 h
    exact hkl2_0 _ _ _ _ _ _ _ _ _ _ _ _ _ _ _ _ _ _ _ _ _ _ _ _ _ _ _ _ _ _ _ _ _ _ _ _ _ _ _ _ _ _ _ _ _ _ h
theorem x71_l1_ok {panels : (List (Int × Int))} {whole : Int} {kl1_0 : Int → Option Int} {s1 : Int} {s2 : Int} {v : Int} {Q : Ex → List AV → List AObj → Prop}   (hkl1_0 : ∀ (z3 : Int) (u0 : AV) (u1 : AV) (u4 : AV) (u6 : AV) (u7 : AV) (u8 : AV) (u9 : AV) (u10 : AV) (u11 : AV) (u12 : AV) (u13 : AV) (u14 : AV) (u15 : AV) (u16 : AV) (u17 : AV) (u18 : AV) (u19 : AV) (u20 : AV) (u21 : AV) (u22 : AV) (u23 : AV) (u24 : AV) (u25 : AV) (u26 : AV) (u27 : AV) (u28 : AV) (u29 : AV) (u30 : AV) (u31 : AV) (u32 : AV) (u33 : AV) (u34 : AV) (u35 : AV) (u36 : AV) (u37 : AV) (u38 : AV) (u39 : AV) (u40 : AV) (u41 : AV) (u42 : AV) (u43 : AV) (u44 : AV) (u45 : AV) (u46 : AV) (u47 : AV) (u48 : AV) (u49 : AV) (u50 : AV), kl1_0 z3 = some v → Q (.exit 0) [u0, u1, J, J, u4, (I z3), u6, u7, u8, u9, u10, u11, u12, u13, u14, u15, u16, u17, u18, u19, u20, u21, u22, u23, u24, u25, u26, u27, u28, u29, u30, u31, u32, u33, u34, u35, u36, u37, u38, u39, u40, u41, u42, u43, u44, u45, u46, u47, u48, u49, u50] []) {T : List AV} (hT : zipKeep [i_,i_,o_,o_,o_,i_,i_,o_,o_,o_,o_,o_,o_,o_,o_,o_,o_,o_,o_,o_,o_,o_,o_,o_,o_,o_,o_,o_,o_,o_,o_,o_,o_,o_,o_,o_,o_,o_,o_,o_,o_,o_,o_,o_,o_,o_,o_,o_,o_,o_,o_] T = slots 51 [(0, (.lst (panels.flatMap pr) panels.length .shared)), (1, (I whole)), (5, (I s1)), (6, (I s2))]) (h : x71_l1 panels whole kl1_0 FU s1 s2 = some v) :
    wpR Tryz.prog ann71 71 0 none xrc71_3 T [] Q := by
  unfold xrc71_3
  obtain ⟨c_2, g_2⟩ : ∃ c, xrc71_2 = c := ⟨_, rfl⟩
  rw [g_2]
  refine wp_loop hT ?_
  refine .intro (fun m T H => ∃ (s1 : Int) (s2 : Int), T = slots 51 [(0, (.lst (panels.flatMap pr) panels.length .shared)), (1, (I whole)), (5, (I s1)), (6, (I s2))] ∧ H = [] ∧ x71_l1 panels whole kl1_0 m s1 s2 = some v) FU ⟨s1, s2, rfl, rfl, h⟩ ?_
  clear h hT
  rintro m T H ⟨s1, s2, rfl, rfl, h⟩
  cases m
  · exact none_ne h
  rename_i m
  rw [x71_l1.eq_2] at h
  conv => whnf
  rcases bt (decide (s2 ≤ (20 : Int))) with hb1 | hb1
  · rw [hb1]
    conv => whnf
    replace h := it_t hb1 h
    subst g_2
    refine x71_l2_ok ?_ (by exact rfl) h
    intro z2 u4 u7 u8 u9 u10 u11 u12 u13 u14 u15 u16 u17 u18 u19 u20 u21 u22 u23 u24 u25 u26 u27 u28 u29 u30 u31 u32 u33 u34 u35 u36 u37 u38 u39 u40 u41 u42 u43 u44 u45 u46 u47 u48 u49 u50 h
    conv => whnf
    exact ⟨m, Nat.lt_succ_self m, z2, (w (s2 + (1 : Int))), rfl, rfl, h⟩
  · rw [hb1]
    conv => whnf
    replace h := it_f hb1 h
    exact hkl1_0 _ _ _ _ _ _ _ _ _ _ _ _ _ _ _ _ _ _ _ _ _ _ _ _ _ _ _ _ _ _ _ _ _ _ _ _ _ _ _ _ _ _ _ _ _ _ _ _ _ h
theorem x71_ok {panels : (List (Int × Int))} {whole : Int} {v : Int} (h : x71 panels whole = some v) : PO 71 [(.lst (panels.flatMap pr) panels.length .shared), (I whole)] (I v) := by
  refine fn_pureW hmix lxx71 rfl rfl fun Q hQ => ?_
  have hR : ∀ T H, RetW [.tmp 4] (I v) .ret T H → Q .ret T H := fun T H hh => hQ _ T H hh
  unfold x71 at h
  unfold xrc71
  obtain ⟨c_3, g_3⟩ : ∃ c, xrc71_3 = c := ⟨_, rfl⟩
  rw [g_3]
  conv => whnf
  subst g_3
  refine x71_l1_ok ?_ (by exact rfl) h
  intro z3 u0 u1 u4 u6 u7 u8 u9 u10 u11 u12 u13 u14 u15 u16 u17 u18 u19 u20 u21 u22 u23 u24 u25 u26 u27 u28 u29 u30 u31 u32 u33 u34 u35 u36 u37 u38 u39 u40 u41 u42 u43 u44 u45 u46 u47 u48 u49 u50 h
  conv => whnf
  obtain rfl := Option.some.inj h
  exact hR _ _ ⟨.inr rfl, _, rfl, _, frz_pure rfl, rfl⟩
end Go.Proofs.YtbnbjjgagikobaaGreat.Ab

/- MADE BY PROGRAM (ex.py): functions as plain Lean, with their walks. -/
namespace Go.Proofs.YtbnbjjgagikobaaGreat.Ab
open Go
set_option maxRecDepth 20000
set_option maxHeartbeats 4000000
noncomputable def xrc34 : RC :=
  .seq (.reg false [I_ 2 [.tk 0] .box, I_ 4 [.cv (.int .i64 0)] .mv, I_ 5 [.cv (.int .i64 0)] .mv]) (.seq (.seq (.reg false [I_ 6 [.sl 2] (.ld (.str 4)), I_ 7 [.sl 1] .mv, I_ 8 [.cv (.func 66 [] []), .sl 6, .sl 7] (.call 3), I_ 9
  [.tv 8, .cv (.int .i64 0)] (.bin .neq)]) (.cond (.sl 9) (.seq (.reg false [I_ 10 [.tv 2] (.ld (.str 4)), I_ 11 [.tk 1] .mv, I_ 12 [.cv (.func 66 [] []), .sl 10, .sl 11] (.call 3), I_ 4 [.cv (.int .i64 0)] .mv, I_ 5 [.tk 12]
  .mv]) .ret) .skip)) (.seq (.reg false [I_ 13 [.tk 1] .mv, I_ 14 [.tv 2] (.ld (.str 4)), I_ 15 [.cv (.func 51 [] []), .sl 14] (.call 3), I_ 16 [.tk 15] .lenS, I_ 17 [.cv (.func 71 [] []), .sl 13, .sl 16] (.call 3), I_ 4 [.tk 17]
  .mv, I_ 5 [.cv (.int .i64 0)] .mv]) .ret))
theorem lxx34 : linkF Tryz.prog ann34 34 = some (xrc34, 18, [.tmp 4, .tmp 5]) := by kernel_rfl
/-- crossband/crossbandref08.Hours -/
def x34 (b : (Int × (List Int) × Int × Int)) (panels : (List (Int × Int))) : Option (Int × Int) :=
  (x66 b panels).bind fun r1 =>
  if (decide (r1 ≠ (0 : Int))) = true then
    (x66 b panels).bind fun r2 =>
    some ((0 : Int), r2)
  else
    (x51 b).bind fun r3 =>
    (x71 panels (r3.length : Int)).bind fun r4 =>
    some (r4, (0 : Int))
theorem x34_ok {b : (Int × (List Int) × Int × Int)} {panels : (List (Int × Int))} {v : (Int × Int)} (h : x34 b panels = some v) : PO 34 [(.agg [(I b.1), (.lst (b.2.1.map I) b.2.1.length .shared), (I b.2.2.1), (I b.2.2.2)]), (.lst (panels.flatMap pr) panels.length .shared)] (.tuple [(I v.1), (I v.2)]) := by
  refine fn_pureW hmix lxx34 rfl (pu_tup (allc rfl (allc rfl rfl))) fun Q hQ => ?_
  have hR : ∀ T H, RetW [.tmp 4, .tmp 5] (.tuple [(I v.1), (I v.2)]) .ret T H → Q .ret T H := fun T H hh => hQ _ T H hh
  unfold x34 at h
  unfold xrc34
  skip
  conv => whnf
  obtain ⟨r1, hb1, h⟩ := bd_some h
  refine ⟨(allc (pu_agg (allc rfl (allc (pu_map (fun _ => rfl) _ _ _) (allc rfl (allc rfl rfl))))) (allc (pu_flat (fun _ => (allc rfl (allc rfl rfl))) _ _ _) rfl)), _, x66_ok hb1, ?_⟩
  conv => whnf
  rcases bt (decide (r1 ≠ (0 : Int))) with hb2 | hb2
  · rw [hb2]
    conv => whnf
    replace h := it_t hb2 h
    obtain ⟨r2, hb3, h⟩ := bd_some h
    refine ⟨(allc (pu_agg (allc rfl (allc (pu_map (fun _ => rfl) _ _ _) (allc rfl (allc rfl rfl))))) (allc (pu_flat (fun _ => (allc rfl (allc rfl rfl))) _ _ _) rfl)), _, x66_ok hb3, ?_⟩
    conv => whnf
    obtain rfl := Option.some.inj h
    exact hR _ _ ⟨.inr rfl, _, rfl, _, frz_pure (pu_tup (allc rfl (allc rfl rfl))), rfl⟩
  · rw [hb2]
    conv => whnf
    replace h := it_f hb2 h
    obtain ⟨r3, hb4, h⟩ := bd_some h
    refine ⟨(allc (pu_agg (allc rfl (allc (pu_map (fun _ => rfl) _ _ _) (allc rfl (allc rfl rfl))))) rfl), _, x51_ok hb4, ?_⟩
    conv => whnf
    obtain ⟨r4, hb5, h⟩ := bd_some h
    refine ⟨(allc (pu_flat (fun _ => (allc rfl (allc rfl rfl))) _ _ _) (allc rfl rfl)), _, x71_ok hb5, ?_⟩
    conv => whnf
    obtain rfl := Option.some.inj h
    exact hR _ _ ⟨.inr rfl, _, rfl, _, frz_pure (pu_tup (allc rfl (allc rfl rfl))), rfl⟩
end Go.Proofs.YtbnbjjgagikobaaGreat.Ab

/- MADE BY PROGRAM (ex.py): functions as plain Lean, with their walks. -/
namespace Go.Proofs.YtbnbjjgagikobaaGreat.Ab
open Go
set_option maxRecDepth 20000
set_option maxHeartbeats 4000000
noncomputable def xrc72_1 : RC :=
  .loop (some [o_,o_,o_,i_,i_,o_,o_,o_,o_,o_,o_,o_,o_,i_,i_,i_,o_,o_,o_,o_,o_,o_,o_,o_,o_,o_,o_]) (.seq (.reg false [I_ 16 [.sl
  15, .sl 14] (.bin .lss)]) (.seq (.cond (.sl 16) .skip (.exit 0)) (.seq (.block 1 (.seq (.reg false [I_ 17 [.sl 13, .sl 15] (.ia 1), I_ 18 [.tv 17] (.ld .one), I_ 6 [.tk 18] .mv]) (.seq (.reg false [I_ 19 [.tk 4] .mv, I_ 20 [.tk
  3] .mv, I_ 21 [.sl 6] .mv, I_ 22 [.cv (.func 93 [] []), .sl 20, .sl 21] (.call 3), I_ 23 [.tv 19, .tv 22] (.bin .add), I_ 4 [.tk 23] .mv]) (.reg false [I_ 24 [.tk 6] .mv, I_ 3 [.tk 24] .mv])))) (.reg false [I_ 25 [.tv 15, .cv
  (.int .i64 1)] (.bin .add), I_ 15 [.tk 25] .mv]))))
noncomputable def xrc72 : RC :=
  .seq (.reg false [I_ 2 [.cv (.int .i64 0)] .mv]) (.seq (.reg false [I_ 7 [.sl 0] .mv, I_ 8 [.tv 7] .nilc, I_ 9 [.tv 8] (.fa 0), I_ 10 [.tv 9] (.fa 2), I_ 11 [.tv 10] (.ld .one), I_ 3 [.tk 11] .mv, I_ 4 [.cv (.int .i64 0)] .mv])
  (.seq (.seq (.reg false [I_ 12 [.tk 0] .mv, I_ 13 [.cv (.func 74 [] []), .sl 12] (.call 3), I_ 14 [.sl 13] .lenS, I_ 15 [.cv (.int .i64 0)] .mv]) (.block 0 xrc72_1)) (.seq (.reg false [I_ 26 [.tk 4] .mv, I_ 2 [.tk 26] .mv])
  .ret)))
theorem lxx72 : linkF Tryz.prog ann72 72 = some (xrc72, 27, [.tmp 2]) := by kernel_rfl
def x72_l1 (r1 : (List Int)) (kl1_0 : Int → Option Int) : Nat → Int → Int → Int → Option Int
  | 0, _, _, _ => none
  | m + 1, s1, s2, s3 =>
    if (decide (s3 < (r1.length : Int))) = true then
      gd (0 ≤ s3 ∧ s3 < (r1.length : Int)) <|
      (x93 s1 (ix r1 s3)).bind fun r2 =>
      x72_l1 r1 kl1_0 m (ix r1 s3) (w (s2 + r2)) (w (s3 + (1 : Int)))
    else
      kl1_0 s2
/-- (*crossband/press.bench).way -/
def x72 (x : ((Int × (List Int) × Int × Int) × (List (Int × Int)) × (List Int) × (List Int))) : Option Int :=
  (x74 x).bind fun r1 =>
  x72_l1 r1 (fun z1 =>
      some z1) FU x.1.2.2.1 (0 : Int) (0 : Int)
theorem x72_l1_ok {r1 : (List Int)} {kl1_0 : Int → Option Int} {s1 : Int} {s2 : Int} {s3 : Int} {v : Int} {Q : Ex → List AV → List AObj → Prop}   (hkl1_0 : ∀ (z1 : Int) (u0 : AV) (u2 : AV) (u3 : AV) (u6 : AV) (u7 : AV) (u8 : AV) (u9 : AV) (u10 : AV) (u11 : AV) (u12 : AV) (u13 : AV) (u14 : AV) (u15 : AV) (u16 : AV) (u17 : AV) (u18 : AV) (u19 : AV) (u20 : AV) (u21 : AV) (u22 : AV) (u23 : AV) (u24 : AV) (u25 : AV) (u26 : AV), kl1_0 z1 = some v → Q (.exit 0) [u0, J, u2, u3, (I z1), J, u6, u7, u8, u9, u10, u11, u12, u13, u14, u15, u16, u17, u18, u19, u20, u21, u22, u23, u24, u25, u26] []) {T : List AV} (hT : zipKeep [o_,o_,o_,i_,i_,o_,o_,o_,o_,o_,o_,o_,o_,i_,i_,i_,o_,o_,o_,o_,o_,o_,o_,o_,o_,o_,o_] T = slots 27 [(3, (I s1)), (4, (I s2)), (13, (.lst (r1.map I) r1.length .shared)), (14, (I (r1.length : Int))), (15, (I s3))]) (h : x72_l1 r1 kl1_0 FU s1 s2 s3 = some v) :
    wpR Tryz.prog ann72 72 0 none xrc72_1 T [] Q := by
  unfold xrc72_1
  skip
  refine wp_loop hT ?_
  refine .intro (fun m T H => ∃ (s1 : Int) (s2 : Int) (s3 : Int), T = slots 27 [(3, (I s1)), (4, (I s2)), (13, (.lst (r1.map I) r1.length .shared)), (14, (I (r1.length : Int))), (15, (I s3))] ∧ H = [] ∧ x72_l1 r1 kl1_0 m s1 s2 s3 = some v) FU ⟨s1, s2, s3, rfl, rfl, h⟩ ?_
  clear h hT
  rintro m T H ⟨s1, s2, s3, rfl, rfl, h⟩
  cases m
  · exact none_ne h
  rename_i m
  rw [x72_l1.eq_2] at h
  conv => whnf
  rcases bt (decide (s3 < (r1.length : Int))) with hb2 | hb2
  · rw [hb2]
    conv => whnf
    replace h := it_t hb2 h
    obtain ⟨hb3, h⟩ := gd_some h
    refine ⟨hb3, ?_⟩
    rw [drop1 I r1 s3 hb3]
    conv => whnf
    obtain ⟨r2, hb4, h⟩ := bd_some h
    refine ⟨(allc rfl (allc rfl rfl)), _, x93_ok hb4, ?_⟩
    conv => whnf
    exact ⟨m, Nat.lt_succ_self m, (ix r1 s3), (w (s2 + r2)), (w (s3 + (1 : Int))), rfl, rfl, h⟩
  · rw [hb2]
    conv => whnf
    replace h := it_f hb2 h
    exact hkl1_0 _ _ _ _ _ _ _ _ _ _ _ _ _ _ _ _ _ _ _ _ _ _ _ _ _ h
theorem x72_ok {x : ((Int × (List Int) × Int × Int) × (List (Int × Int)) × (List Int) × (List Int))} {v : Int} (h : x72 x = some v) : PO 72 [(.lptr ((I x.1.1) :: (.lst (x.1.2.1.map I) x.1.2.1.length .shared) :: (I x.1.2.2.1) :: (I x.1.2.2.2) :: (.lst (x.2.1.flatMap pr) x.2.1.length .shared) :: (.lst (x.2.2.1.map I) x.2.2.1.length .shared) :: (x.2.2.2.map I)))] (I v) := by
  refine fn_pureW hmix lxx72 rfl rfl fun Q hQ => ?_
  have hR : ∀ T H, RetW [.tmp 2] (I v) .ret T H → Q .ret T H := fun T H hh => hQ _ T H hh
  unfold x72 at h
  unfold xrc72
  obtain ⟨c_1, g_1⟩ : ∃ c, xrc72_1 = c := ⟨_, rfl⟩
  rw [g_1]
  conv => whnf
  obtain ⟨r1, hb1, h⟩ := bd_some h
  refine ⟨(allc (pu_lptr (allc rfl (allc (pu_map (fun _ => rfl) _ _ _) (allc rfl (allc rfl (allc (pu_flat (fun _ => (allc rfl (allc rfl rfl))) _ _ _) (allc (pu_map (fun _ => rfl) _ _ _) (pu_run (fun _ => rfl) _)))))))) rfl), _, x74_ok hb1, ?_⟩
  conv => whnf
  subst g_1
  refine x72_l1_ok ?_ (by exact rfl) h
  intro z1 u0 u2 u3 u6 u7 u8 u9 u10 u11 u12 u13 u14 u15 u16 u17 u18 u19 u20 u21 u22 u23 u24 u25 u26 h
  conv => whnf
  obtain rfl := Option.some.inj h
  exact hR _ _ ⟨.inr rfl, _, rfl, _, frz_pure rfl, rfl⟩
end Go.Proofs.YtbnbjjgagikobaaGreat.Ab

/- MADE BY PROGRAM (ex.py): functions as plain Lean, with their walks. -/
namespace Go.Proofs.YtbnbjjgagikobaaGreat.Ab
open Go
set_option maxRecDepth 20000
set_option maxHeartbeats 4000000
noncomputable def xrc35 : RC :=
  .seq (.reg false [I_ 2 [.tk 0] .box, I_ 4 [.cv (.int .i64 0)] .mv, I_ 5 [.cv (.int .i64 0)] .mv]) (.seq (.reg false [I_ 9 [.tv 2] (.ld (.str 4)), I_ 10 [.tk 1] .mv, I_ 11 [.cv (.func 69 [] []), .sl 9, .sl 10] (.call 3), I_ 8 [.tk
  11] .mv, I_ 12 [.sl 8] (.ext 0), I_ 13 [.tv 8] (.ext 1), I_ 6 [.tk 12] .mv, I_ 7 [.tk 13] .mv]) (.seq (.seq (.reg false [I_ 14 [.sl 7] .mv, I_ 15 [.tv 14, .cv (.int .i64 0)] (.bin .neq)]) (.cond (.sl 15) (.seq (.reg false [I_
  16 [.tk 7] .mv, I_ 4 [.cv (.int .i64 0)] .mv, I_ 5 [.tk 16] .mv]) .ret) .skip)) (.seq (.reg false [I_ 17 [.tk 6] .mv, I_ 18 [.cv (.func 72 [] []), .sl 17] (.call 3), I_ 4 [.tk 18] .mv, I_ 5 [.cv (.int .i64 0)] .mv]) .ret)))
theorem lxx35 : linkF Tryz.prog ann35 35 = some (xrc35, 19, [.tmp 4, .tmp 5]) := by kernel_rfl
/-- crossband/press.Way -/
def x35 (b : (Int × (List Int) × Int × Int)) (panels : (List (Int × Int))) : Option (Int × Int) :=
  (x69 b panels).bind fun r1 =>
  match r1 with
  | (none, q1) =>
    if (decide (q1 ≠ (0 : Int))) = true then
      some ((0 : Int), q1)
    else
      none
  | (some p1, q1) =>
    if (decide (q1 ≠ (0 : Int))) = true then
      some ((0 : Int), q1)
    else
      (x72 p1).bind fun r2 =>
      some (r2, (0 : Int))
theorem x35_ok {b : (Int × (List Int) × Int × Int)} {panels : (List (Int × Int))} {v : (Int × Int)} (h : x35 b panels = some v) : PO 35 [(.agg [(I b.1), (.lst (b.2.1.map I) b.2.1.length .shared), (I b.2.2.1), (I b.2.2.2)]), (.lst (panels.flatMap pr) panels.length .shared)] (.tuple [(I v.1), (I v.2)]) := by
  refine fn_pureW hmix lxx35 rfl (pu_tup (allc rfl (allc rfl rfl))) fun Q hQ => ?_
  have hR : ∀ T H, RetW [.tmp 4, .tmp 5] (.tuple [(I v.1), (I v.2)]) .ret T H → Q .ret T H := fun T H hh => hQ _ T H hh
  unfold x35 at h
  unfold xrc35
  skip
  conv => whnf
  obtain ⟨r1, hb1, h⟩ := bd_some h
  rcases r1 with ⟨_ | p1, q1⟩
  · refine ⟨(allc (pu_agg (allc rfl (allc (pu_map (fun _ => rfl) _ _ _) (allc rfl (allc rfl rfl))))) (allc (pu_flat (fun _ => (allc rfl (allc rfl rfl))) _ _ _) rfl)), _, x69_ok hb1, ?_⟩
    conv => whnf
    rcases bt (decide (q1 ≠ (0 : Int))) with hb2 | hb2
    · rw [hb2]
      conv => whnf
      replace h := it_t hb2 h
      obtain rfl := Option.some.inj h
      exact hR _ _ ⟨.inr rfl, _, rfl, _, frz_pure (pu_tup (allc rfl (allc rfl rfl))), rfl⟩
    · rw [hb2]
      conv => whnf
      replace h := it_f hb2 h
      exact none_ne h
  · refine ⟨(allc (pu_agg (allc rfl (allc (pu_map (fun _ => rfl) _ _ _) (allc rfl (allc rfl rfl))))) (allc (pu_flat (fun _ => (allc rfl (allc rfl rfl))) _ _ _) rfl)), _, x69_ok hb1, ?_⟩
    conv => whnf
    rcases bt (decide (q1 ≠ (0 : Int))) with hb3 | hb3
    · rw [hb3]
      conv => whnf
      replace h := it_t hb3 h
      obtain rfl := Option.some.inj h
      exact hR _ _ ⟨.inr rfl, _, rfl, _, frz_pure (pu_tup (allc rfl (allc rfl rfl))), rfl⟩
    · rw [hb3]
      conv => whnf
      replace h := it_f hb3 h
      obtain ⟨r2, hb4, h⟩ := bd_some h
      refine ⟨(allc (pu_lptr (allc rfl (allc (pu_map (fun _ => rfl) _ _ _) (allc rfl (allc rfl (allc (pu_flat (fun _ => (allc rfl (allc rfl rfl))) _ _ _) (allc (pu_map (fun _ => rfl) _ _ _) (pu_run (fun _ => rfl) _)))))))) rfl), _, x72_ok hb4, ?_⟩
      conv => whnf
      obtain rfl := Option.some.inj h
      exact hR _ _ ⟨.inr rfl, _, rfl, _, frz_pure (pu_tup (allc rfl (allc rfl rfl))), rfl⟩
end Go.Proofs.YtbnbjjgagikobaaGreat.Ab

/- MADE BY PROGRAM (ex.py): functions as plain Lean, with their walks. -/
namespace Go.Proofs.YtbnbjjgagikobaaGreat.Ab
open Go
set_option maxRecDepth 20000
set_option maxHeartbeats 4000000
noncomputable def xrc73_1 : RC :=
  .loop (some [o_,i_,i_,o_,o_,i_,i_,i_,o_,o_,o_,o_,o_,o_,o_,o_,o_,o_,o_,o_,o_,o_,o_,o_,o_,o_,o_,o_,o_,o_,o_,o_,o_,o_,o_,o_,o_,o_,o_,o_,o_,o_,o_,o_,o_]) (.seq (.seq (.reg false [I_ 12 [.sl 7] .mv, I_ 13 [.sl 1] .mv, I_ 14 [.tk 13] .lenS, I_ 15 [.tv 12, .tv 14] (.bin .lss)]) (.cond
  (.sl 15) .skip (.exit 0))) (.seq (.block 1 (.reg true [I_ 18 [.tk 5] .mv, I_ 19 [.sl 1] .mv, I_ 20 [.sl 7] .mv, I_ 21 [.tv 19, .tv 20] (.ia 2), I_ 22 [.tv 21] (.fa 0), I_ 23 [.tv 22] (.ld .one), I_ 24 [.tk 18, .tk 23] .min, I_
  25 [.tk 6] .mv, I_ 26 [.sl 1] .mv, I_ 27 [.sl 7] .mv, I_ 28 [.tv 26, .tv 27] (.ia 2), I_ 29 [.tv 28] (.fa 0), I_ 30 [.tv 29] (.ld .one), I_ 31 [.tk 25, .tk 30] .max, I_ 5 [.tk 24] .mv, I_ 6 [.tk 31] .mv])) (.reg false [I_ 16
  [.tk 7] .mv, I_ 17 [.tv 16, .cv (.int .i64 1)] (.bin .add), I_ 7 [.tk 17] .mv])))
noncomputable def xrc73 : RC :=
  .seq (.reg false [I_ 2 [.tk 0] .box, I_ 4 [.cv (.int .i64 0)] .mv]) (.seq (.reg true [I_ 8 [.sl 2] (.fa 2), I_ 9 [.tv 8] (.ld .one), I_ 10 [.sl 2] (.fa 2), I_ 11 [.tv 10] (.ld .one), I_ 5 [.tk 9] .mv, I_ 6 [.tk 11] .mv]) (.seq
  (.seq (.reg false [I_ 7 [.cv (.int .i64 0)] .mv]) (.block 0 xrc73_1)) (.seq (.reg false [I_ 32 [.sl 6] .mv, I_ 33 [.sl 5] .mv, I_ 34 [.tv 32, .tv 33] (.bin .sub), I_ 35 [.sl 2] (.fa 2), I_ 36 [.tv 35] (.ld .one), I_ 37 [.tk 5]
  .mv, I_ 38 [.tv 36, .tv 37] (.bin .sub), I_ 39 [.tk 6] .mv, I_ 40 [.tv 2] (.fa 2), I_ 41 [.tv 40] (.ld .one), I_ 42 [.tv 39, .tv 41] (.bin .sub), I_ 43 [.tk 38, .tk 42] .min, I_ 44 [.tv 34, .tv 43] (.bin .add), I_ 4 [.tk 44]
  .mv]) .ret)))
theorem lxx73 : linkF Tryz.prog ann73 73 = some (xrc73, 45, [.tmp 4]) := by kernel_rfl
def x73_l1 (panels : (List (Int × Int))) (kl1_0 : Int → Int → Option Int) : Nat → Int → Int → Int → Option Int
  | 0, _, _, _ => none
  | m + 1, s1, s2, s3 =>
    if (decide (s3 < (panels.length : Int))) = true then
      gd (0 ≤ s3 ∧ s3 < (panels.length : Int)) <|
      gd (0 ≤ s3 ∧ s3 < (panels.length : Int)) <|
      x73_l1 panels kl1_0 m (min s1 ((ix panels s3).1)) (max s2 ((ix panels s3).1)) (w (s3 + (1 : Int)))
    else
      kl1_0 s1 s2
/-- crossband/crossbandref08.WayOf -/
def x73 (b : (Int × (List Int) × Int × Int)) (panels : (List (Int × Int))) : Option Int :=
  x73_l1 panels (fun z1 z2 =>
      some (w ((w (z2 - z1)) + (min (w (b.2.2.1 - z1)) (w (z2 - b.2.2.1)))))) FU b.2.2.1 b.2.2.1 (0 : Int)
theorem x73_l1_ok {panels : (List (Int × Int))} {kl1_0 : Int → Int → Option Int} {s1 : Int} {s2 : Int} {s3 : Int} {b : (Int × (List Int) × Int × Int)} {v : Int} {Q : Ex → List AV → List AObj → Prop}   (hkl1_0 : ∀ (z1 : Int) (z2 : Int) (u0 : AV) (u1 : AV) (u4 : AV) (u7 : AV) (u8 : AV) (u9 : AV) (u10 : AV) (u11 : AV) (u12 : AV) (u13 : AV) (u14 : AV) (u15 : AV) (u16 : AV) (u17 : AV) (u18 : AV) (u19 : AV) (u20 : AV) (u21 : AV) (u22 : AV) (u23 : AV) (u24 : AV) (u25 : AV) (u26 : AV) (u27 : AV) (u28 : AV) (u29 : AV) (u30 : AV) (u31 : AV) (u32 : AV) (u33 : AV) (u34 : AV) (u35 : AV) (u36 : AV) (u37 : AV) (u38 : AV) (u39 : AV) (u40 : AV) (u41 : AV) (u42 : AV) (u43 : AV) (u44 : AV), kl1_0 z1 z2 = some v → Q (.exit 0) [u0, u1, (.ptr 0 0), J, u4, (I z1), (I z2), u7, u8, u9, u10, u11, u12, u13, u14, u15, u16, u17, u18, u19, u20, u21, u22, u23, u24, u25, u26, u27, u28, u29, u30, u31, u32, u33, u34, u35, u36, u37, u38, u39, u40, u41, u42, u43, u44] [AObj.cells [(I b.1), (.lst (b.2.1.map I) b.2.1.length .shared), (I b.2.2.1), (I b.2.2.2)]]) {T : List AV} (hT : zipKeep [o_,i_,i_,o_,o_,i_,i_,i_,o_,o_,o_,o_,o_,o_,o_,o_,o_,o_,o_,o_,o_,o_,o_,o_,o_,o_,o_,o_,o_,o_,o_,o_,o_,o_,o_,o_,o_,o_,o_,o_,o_,o_,o_,o_,o_] T = slots 45 [(1, (.lst (panels.flatMap pr) panels.length .shared)), (2, (.ptr 0 0)), (5, (I s1)), (6, (I s2)), (7, (I s3))]) (h : x73_l1 panels kl1_0 FU s1 s2 s3 = some v) :
    wpR Tryz.prog ann73 73 0 none xrc73_1 T [AObj.cells [(I b.1), (.lst (b.2.1.map I) b.2.1.length .shared), (I b.2.2.1), (I b.2.2.2)]] Q := by
  unfold xrc73_1
  skip
  refine wp_loop hT ?_
  refine .intro (fun m T H => ∃ (s1 : Int) (s2 : Int) (s3 : Int), T = slots 45 [(1, (.lst (panels.flatMap pr) panels.length .shared)), (2, (.ptr 0 0)), (5, (I s1)), (6, (I s2)), (7, (I s3))] ∧ H = [AObj.cells [(I b.1), (.lst (b.2.1.map I) b.2.1.length .shared), (I b.2.2.1), (I b.2.2.2)]] ∧ x73_l1 panels kl1_0 m s1 s2 s3 = some v) FU ⟨s1, s2, s3, rfl, rfl, h⟩ ?_
  clear h hT
  rintro m T H ⟨s1, s2, s3, rfl, rfl, h⟩
  cases m
  · exact none_ne h
  rename_i m
  rw [x73_l1.eq_2] at h
  conv => whnf
  rcases bt (decide (s3 < (panels.length : Int))) with hb1 | hb1
  · rw [hb1]
    conv => whnf
    replace h := it_t hb1 h
    obtain ⟨hb2, h⟩ := gd_some h
    refine ⟨hb2, ?_⟩
    rw [dropS pr 2 pr_len panels s3 hb2]
    conv => whnf
    obtain ⟨hb3, h⟩ := gd_some h
    refine ⟨hb3, ?_⟩
    rw [dropS pr 2 pr_len panels s3 hb3]
    conv => whnf
    exact ⟨m, Nat.lt_succ_self m, (min s1 ((ix panels s3).1)), (max s2 ((ix panels s3).1)), (w (s3 + (1 : Int))), rfl, rfl, h⟩
  · rw [hb1]
    conv => whnf
    replace h := it_f hb1 h
    exact hkl1_0 _ _ _ _ _ _ _ _ _ _ _ _ _ _ _ _ _ _ _ _ _ _ _ _ _ _ _ _ _ _ _ _ _ _ _ _ _ _ _ _ _ _ _ h
theorem x73_ok {b : (Int × (List Int) × Int × Int)} {panels : (List (Int × Int))} {v : Int} (h : x73 b panels = some v) : PO 73 [(.agg [(I b.1), (.lst (b.2.1.map I) b.2.1.length .shared), (I b.2.2.1), (I b.2.2.2)]), (.lst (panels.flatMap pr) panels.length .shared)] (I v) := by
  refine fn_pureW hmix lxx73 rfl rfl fun Q hQ => ?_
  have hR : ∀ T H, RetW [.tmp 4] (I v) .ret T H → Q .ret T H := fun T H hh => hQ _ T H hh
  unfold x73 at h
  unfold xrc73
  obtain ⟨c_1, g_1⟩ : ∃ c, xrc73_1 = c := ⟨_, rfl⟩
  rw [g_1]
  conv => whnf
  subst g_1
  refine x73_l1_ok ?_ (by exact rfl) h
  intro z1 z2 u0 u1 u4 u7 u8 u9 u10 u11 u12 u13 u14 u15 u16 u17 u18 u19 u20 u21 u22 u23 u24 u25 u26 u27 u28 u29 u30 u31 u32 u33 u34 u35 u36 u37 u38 u39 u40 u41 u42 u43 u44 h
  conv => whnf
  obtain rfl := Option.some.inj h
  exact hR _ _ ⟨.inr rfl, _, rfl, _, frz_pure rfl, rfl⟩
end Go.Proofs.YtbnbjjgagikobaaGreat.Ab

/- MADE BY PROGRAM (ex.py): functions as plain Lean, with their walks. -/
namespace Go.Proofs.YtbnbjjgagikobaaGreat.Ab
open Go
set_option maxRecDepth 20000
set_option maxHeartbeats 4000000
noncomputable def xrc36 : RC :=
  .seq (.reg false [I_ 2 [.tk 0] .box, I_ 4 [.cv (.int .i64 0)] .mv, I_ 5 [.cv (.int .i64 0)] .mv]) (.seq (.seq (.reg false [I_ 6 [.sl 2] (.ld (.str 4)), I_ 7 [.sl 1] .mv, I_ 8 [.cv (.func 66 [] []), .sl 6, .sl 7] (.call 3), I_ 9
  [.tv 8, .cv (.int .i64 0)] (.bin .neq)]) (.cond (.sl 9) (.seq (.reg false [I_ 10 [.tv 2] (.ld (.str 4)), I_ 11 [.tk 1] .mv, I_ 12 [.cv (.func 66 [] []), .sl 10, .sl 11] (.call 3), I_ 4 [.cv (.int .i64 0)] .mv, I_ 5 [.tk 12]
  .mv]) .ret) .skip)) (.seq (.reg false [I_ 13 [.tv 2] (.ld (.str 4)), I_ 14 [.tk 1] .mv, I_ 15 [.cv (.func 73 [] []), .sl 13, .sl 14] (.call 3), I_ 4 [.tk 15] .mv, I_ 5 [.cv (.int .i64 0)] .mv]) .ret))
theorem lxx36 : linkF Tryz.prog ann36 36 = some (xrc36, 16, [.tmp 4, .tmp 5]) := by kernel_rfl
/-- crossband/crossbandref08.Way -/
def x36 (b : (Int × (List Int) × Int × Int)) (panels : (List (Int × Int))) : Option (Int × Int) :=
  (x66 b panels).bind fun r1 =>
  if (decide (r1 ≠ (0 : Int))) = true then
    (x66 b panels).bind fun r2 =>
    some ((0 : Int), r2)
  else
    (x73 b panels).bind fun r3 =>
    some (r3, (0 : Int))
theorem x36_ok {b : (Int × (List Int) × Int × Int)} {panels : (List (Int × Int))} {v : (Int × Int)} (h : x36 b panels = some v) : PO 36 [(.agg [(I b.1), (.lst (b.2.1.map I) b.2.1.length .shared), (I b.2.2.1), (I b.2.2.2)]), (.lst (panels.flatMap pr) panels.length .shared)] (.tuple [(I v.1), (I v.2)]) := by
  refine fn_pureW hmix lxx36 rfl (pu_tup (allc rfl (allc rfl rfl))) fun Q hQ => ?_
  have hR : ∀ T H, RetW [.tmp 4, .tmp 5] (.tuple [(I v.1), (I v.2)]) .ret T H → Q .ret T H := fun T H hh => hQ _ T H hh
  unfold x36 at h
  unfold xrc36
  skip
  conv => whnf
  obtain ⟨r1, hb1, h⟩ := bd_some h
  refine ⟨(allc (pu_agg (allc rfl (allc (pu_map (fun _ => rfl) _ _ _) (allc rfl (allc rfl rfl))))) (allc (pu_flat (fun _ => (allc rfl (allc rfl rfl))) _ _ _) rfl)), _, x66_ok hb1, ?_⟩
  conv => whnf
  rcases bt (decide (r1 ≠ (0 : Int))) with hb2 | hb2
  · rw [hb2]
    conv => whnf
    replace h := it_t hb2 h
    obtain ⟨r2, hb3, h⟩ := bd_some h
    refine ⟨(allc (pu_agg (allc rfl (allc (pu_map (fun _ => rfl) _ _ _) (allc rfl (allc rfl rfl))))) (allc (pu_flat (fun _ => (allc rfl (allc rfl rfl))) _ _ _) rfl)), _, x66_ok hb3, ?_⟩
    conv => whnf
    obtain rfl := Option.some.inj h
    exact hR _ _ ⟨.inr rfl, _, rfl, _, frz_pure (pu_tup (allc rfl (allc rfl rfl))), rfl⟩
  · rw [hb2]
    conv => whnf
    replace h := it_f hb2 h
    obtain ⟨r3, hb4, h⟩ := bd_some h
    refine ⟨(allc (pu_agg (allc rfl (allc (pu_map (fun _ => rfl) _ _ _) (allc rfl (allc rfl rfl))))) (allc (pu_flat (fun _ => (allc rfl (allc rfl rfl))) _ _ _) rfl)), _, x73_ok hb4, ?_⟩
    conv => whnf
    obtain rfl := Option.some.inj h
    exact hR _ _ ⟨.inr rfl, _, rfl, _, frz_pure (pu_tup (allc rfl (allc rfl rfl))), rfl⟩
end Go.Proofs.YtbnbjjgagikobaaGreat.Ab

/-
  Hours and the way by the reference; the shortest way.
-/
namespace Go.Proofs.YtbnbjjgagikobaaGreat.Ab
open Go
set_option maxRecDepth 20000
set_option maxHeartbeats 4000000
theorem take_snoc {α : Type} {l : List α} {i : Nat} (h : i < l.length) : l.take (i + 1) = l.take i ++ [l[i]] := by
  rw [List.take_add_one, List.getElem?_eq_getElem h, Option.toList_some]
theorem cP_le (ps : List (Int × Int)) (h t : Int) : cP ps h t ≤ ps.length := List.countP_le_length
theorem ceil_le {n : Nat} (hn : 0 < n) (c : Nat) : ceil n c ≤ c := by
  unfold ceil
  cases c with
  | zero => rw [Nat.zero_add, Nat.div_eq_of_lt (by omega)]; exact Nat.le_refl 0
  | succ c =>
    rw [show c + 1 + n - 1 = c + n by omega, Nat.add_div_right _ hn]
    exact Nat.succ_le_succ (Nat.div_le_self c n)
theorem ceil_w {n c : Nat} (hn : 1 ≤ n ∧ n ≤ 1000) (hc : c ≤ 1000) : w ((w ((w ((c : Int) + (n : Int))) - 1)).tdiv (n : Int)) = (ceil n c : Int) := by
  have e : w (w ((c : Int) + (n : Int)) - 1) = ((c + n - 1 : Nat) : Int) := by rw [w_id (n := (c : Int) + n) (by omega), w_id (by omega)]; omega
  have h1 := ceil_le (n := n) (by omega) c
  rw [e, ← Int.ofNat_tdiv]
  show w ((ceil n c : Nat) : Int) = _
  exact w_id (by omega)
theorem sumR_bd {f : Nat → Int} {M : Int} : ∀ (n : Nat), (∀ i, i < n → 0 ≤ f i ∧ f i ≤ M) → 0 ≤ sumR n f ∧ sumR n f ≤ M * n
  | 0, _ => by rw [sumR_zero]; simp
  | n + 1, h => by
    have h1 := sumR_bd n fun i hi => h i (by omega)
    have h2 := h n (by omega)
    rw [sumR_succ, show M * ((n + 1 : Nat) : Int) = M * (n : Int) + M by rw [Int.natCast_add, Int.mul_add]; simp]
    omega
def hF (n : Nat) (ps : List (Int × Int)) (he : Int) (t : Nat) : Int := (ceil n (cP ps he ((t : Int) + 1)) : Int)
theorem hF_in {n : Nat} (hn : 0 < n) {ps : List (Int × Int)} (hl : ps.length ≤ 1000) (he : Int) (t : Nat) : 0 ≤ hF n ps he t ∧ hF n ps he t ≤ 1000 := by
  have h1 := cP_le ps he ((t : Int) + 1)
  have h2 := ceil_le hn (cP ps he ((t : Int) + 1))
  unfold hF; omega
theorem x71_l3_eq {ps : List (Int × Int)} {he t : Int} {k : Int → Option Int} (hl : ps.length ≤ 1000) : ∀ (m i : Nat) (z : Int), z = i → i ≤ ps.length → ps.length - i < m → x71_l3 ps he t k m ((cP (ps.take i) he t : Nat) : Int) z = k ((cP ps he t : Nat) : Int)
  | 0, i, _, _, _, h => absurd h (by omega)
  | m + 1, i, _, rfl, hi, hm => by
    rw [x71_l3]
    by_cases hlt : i < ps.length
    · have ih := x71_l3_eq (he := he) (t := t) (k := k) hl m (i + 1) _ rfl (by omega) (by omega)
      have hc := cP_le (ps.take i) he t
      rw [List.length_take] at hc
      rw [take_snoc hlt, cP_snoc] at ih
      rw [iflt hlt, gdi hlt, ix_nat hlt, w_succ i (by omega)]
      by_cases h1 : ps[i].1 = he
      · rw [if_pos (decide_eq_true h1), gdi hlt]
        by_cases h2 : t ≤ ps[i].2
        · rw [if_pos (decide_eq_true h2), w_succ _ (by omega)]
          rw [if_pos ⟨h1, h2⟩] at ih
          exact ih
        · rw [if_neg (by simpa using h2), ← ih, if_neg (fun x => h2 x.2)]; rfl
      · rw [if_neg (by simpa using h1), ← ih, if_neg (fun x => h1 x.1)]; rfl
    · obtain rfl : i = ps.length := by omega
      rw [ifge hlt, List.take_length]
theorem x71_l3_all {ps : List (Int × Int)} {he t : Int} {k : Int → Option Int} (hl : ps.length ≤ 1000) : x71_l3 ps he t k FU 0 0 = k ((cP ps he t : Nat) : Int) := by
  have := x71_l3_eq (he := he) (t := t) (k := k) hl FU 0 0 rfl (Nat.zero_le _) (FU_lt (by omega))
  rw [List.take_zero] at this
  exact this
theorem x71_l2_eq {ps : List (Int × Int)} {n : Nat} (hl : ps.length ≤ 1000) (hn : 1 ≤ n ∧ n ≤ 1000) {he : Int} {k : Int → Option Int} {a : Int} (ha : 0 ≤ a ∧ a ≤ 1000000000) : ∀ (m i : Nat) (z : Int), z = (i : Int) + 1 → i ≤ 24 → 24 - i < m → x71_l2 ps (n : Int) he k m (a + sumR i (hF n ps he)) z = k (a + sumR 24 (hF n ps he))
  | 0, i, _, _, _, h => absurd h (by omega)
  | m + 1, i, _, rfl, hi, hm => by
    rw [x71_l2]
    by_cases hlt : i < 24
    · have hc := cP_le ps he ((i : Int) + 1)
      have hs := sumR_bd (f := hF n ps he) (M := 1000) i fun t _ => hF_in (by omega) hl he t
      have hb := hF_in (n := n) (by omega) hl he i
      have ih := x71_l2_eq hl hn (he := he) (k := k) ha m (i + 1) (w ((i : Int) + 1 + 1)) (by rw [w_id (by omega)]; omega) (by omega) (by omega)
      rw [if_pos (decide_eq_true (by omega)), x71_l3_all hl, gd_pos (by omega), ceil_w hn (by omega)]
      rw [sumR_succ, ← Int.add_assoc] at ih
      rw [w_id (n := a + sumR i (hF n ps he) + ((ceil n (cP ps he ((i : Int) + 1)) : Nat) : Int)) (by unfold hF at hb ⊢; unfold hF at hs; omega)]
      exact ih
    · obtain rfl : i = 24 := by omega
      rw [if_neg (by decide)]
theorem x71_l1_eq {ps : List (Int × Int)} {n : Nat} (hl : ps.length ≤ 1000) (hn : 1 ≤ n ∧ n ≤ 1000) {k : Int → Option Int} : ∀ (m i : Nat) (z : Int), z = i → i ≤ 21 → 21 - i < m → x71_l1 ps (n : Int) k m (sumR i fun h => sumR 24 (hF n ps (h : Int))) z = k (sumR 21 fun h => sumR 24 (hF n ps (h : Int)))
  | 0, i, _, _, _, h => absurd h (by omega)
  | m + 1, i, _, rfl, hi, hm => by
    rw [x71_l1]
    by_cases hlt : i < 21
    · have hs := sumR_bd (f := fun h => sumR 24 (hF n ps (h : Int))) (M := 24000) i fun h _ => by
        have := sumR_bd (f := hF n ps (h : Int)) (M := 1000) 24 fun t _ => hF_in (by omega) hl _ t
        omega
      have h2 := x71_l2_eq hl hn (he := (i : Int)) (k := fun z2 => x71_l1 ps (n : Int) k m z2 (w ((i : Int) + (1 : Int)))) (a := sumR i fun h => sumR 24 (hF n ps (h : Int))) (by omega) FU 0 1 rfl (by omega) (FU_lt (by omega))
      rw [sumR_zero, Int.add_zero] at h2
      rw [if_pos (decide_eq_true (by omega))]
      refine h2.trans ?_
      have ih := x71_l1_eq hl hn (k := k) m (i + 1) _ rfl (by omega) (by omega)
      rw [sumR_succ] at ih
      rw [w_succ i (by omega)]
      exact ih
    · obtain rfl : i = 21 := by omega
      rw [if_neg (by decide)]
theorem x71_eq {ps : List (Int × Int)} (hp : PsOk ps) {n : Nat} (hn : 1 ≤ n ∧ n ≤ 1000) : x71 ps (n : Int) = some (hSum n ps 21) := by
  have hl := hp.len
  have := x71_l1_eq (ps := ps) (n := n) (by omega) hn (k := fun z => some z) FU 0 0 rfl (by omega) (FU_lt (by omega))
  rw [hSum_cnt (by omega) hp.hrs, x71]
  exact this
/-! ### Errors -/
def eB (b : Bed) (ps : List (Int × Int)) : Int := if bErr b = 0 then pErr ps else bErr b
theorem eB_ok {b : Bed} {ps : List (Int × Int)} (h : eB b ps = 0) : bErr b = 0 ∧ PsOk ps := by
  unfold eB at h
  by_cases hb : bErr b = 0
  · rw [if_pos hb] at h; exact ⟨hb, (pErr_iff ps).1 h⟩
  · rw [if_neg hb] at h; exact absurd h hb
theorem eB_of {b : Bed} {ps : List (Int × Int)} (hb : bErr b = 0) (hp : PsOk ps) : eB b ps = 0 := by
  unfold eB; rw [if_pos hb]; exact (pErr_iff ps).2 hp
theorem x69_err {b : Bed} (hl : b.2.1.length ≤ 1000) {ps : List (Int × Int)} (he : eB b ps ≠ 0) : x69 b ps = some (none, eB b ps) := by
  rw [x69, x20_eq b hl, Option.bind_some]
  unfold eB at he ⊢
  by_cases hb : bErr b = 0
  · rw [if_pos hb] at he ⊢
    rw [if_neg (by simp [hb]), x22_eq, Option.bind_some, if_pos (decide_eq_true he)]
  · rw [if_neg hb] at he ⊢
    rw [if_pos (decide_eq_true hb)]
theorem x66_eB {b : Bed} (hl : b.2.1.length ≤ 20) (ps : List (Int × Int)) : x66 b ps = some (eB b ps) := x66_eq hl ps
/-! ### The least and the greatest -/
def minL (s : Int) (l : List Int) : Int := l.foldl min s
def maxL (s : Int) (l : List Int) : Int := l.foldl max s
theorem minL_spec : ∀ (l : List Int) (s : Int), minL s l ≤ s ∧ (∀ x ∈ l, minL s l ≤ x) ∧ (minL s l = s ∨ minL s l ∈ l)
  | [], s => ⟨Int.le_refl _, by simp, .inl rfl⟩
  | a :: r, s => by
    have e : minL s (a :: r) = minL (min s a) r := rfl
    obtain ⟨h1, h2, h3⟩ := minL_spec r (min s a)
    rw [e]
    refine ⟨by omega, fun x hx => ?_, ?_⟩
    · rcases List.mem_cons.1 hx with rfl | hx
      · omega
      · exact h2 x hx
    · rcases h3 with h3 | h3
      · by_cases h : s ≤ a
        · exact .inl (by omega)
        · exact .inr (by rw [h3, show min s a = a by omega]; simp)
      · exact .inr (by simp [h3])
theorem maxL_spec : ∀ (l : List Int) (s : Int), s ≤ maxL s l ∧ (∀ x ∈ l, x ≤ maxL s l) ∧ (maxL s l = s ∨ maxL s l ∈ l)
  | [], s => ⟨Int.le_refl _, by simp, .inl rfl⟩
  | a :: r, s => by
    have e : maxL s (a :: r) = maxL (max s a) r := rfl
    obtain ⟨h1, h2, h3⟩ := maxL_spec r (max s a)
    rw [e]
    refine ⟨by omega, fun x hx => ?_, ?_⟩
    · rcases List.mem_cons.1 hx with rfl | hx
      · omega
      · exact h2 x hx
    · rcases h3 with h3 | h3
      · by_cases h : a ≤ s
        · exact .inl (by omega)
        · exact .inr (by rw [h3, show max s a = a by omega]; simp)
      · exact .inr (by simp [h3])
theorem minL_sub {l l' : List Int} (h : ∀ x ∈ l', x ∈ l) (s : Int) : minL s l ≤ minL s l' := by
  have h1 := minL_spec l s
  rcases (minL_spec l' s).2.2 with h2 | h2
  · omega
  · exact h1.2.1 _ (h _ h2)
theorem maxL_sub {l l' : List Int} (h : ∀ x ∈ l', x ∈ l) (s : Int) : maxL s l' ≤ maxL s l := by
  have h1 := maxL_spec l s
  rcases (maxL_spec l' s).2.2 with h2 | h2
  · omega
  · exact h1.2.1 _ (h _ h2)
theorem minL_set {l l' : List Int} (h : ∀ x, x ∈ l ↔ x ∈ l') (s : Int) : minL s l = minL s l' :=
  Int.le_antisymm (minL_sub (fun x hx => (h x).2 hx) s) (minL_sub (fun x hx => (h x).1 hx) s)
theorem maxL_set {l l' : List Int} (h : ∀ x, x ∈ l ↔ x ∈ l') (s : Int) : maxL s l = maxL s l' :=
  Int.le_antisymm (maxL_sub (fun x hx => (h x).1 hx) s) (maxL_sub (fun x hx => (h x).2 hx) s)
theorem minL_min : ∀ (r : List Int) (s a : Int), minL (min s a) r = min s (minL a r)
  | [], _, _ => rfl
  | b :: r, s, a => by
    show minL (min (min s a) b) r = min s (minL (min a b) r)
    rw [show min (min s a) b = min s (min a b) by omega, minL_min r]
theorem maxL_max : ∀ (r : List Int) (s a : Int), maxL (max s a) r = max s (maxL a r)
  | [], _, _ => rfl
  | b :: r, s, a => by
    show maxL (max (max s a) b) r = max s (maxL (max a b) r)
    rw [show max (max s a) b = max s (max a b) by omega, maxL_max r]
/-! ### The way -/
/-- The way over places, one after the other. -/
def walk : Int → List Int → Int
  | _, [] => 0
  | s, a :: r => max (s - a) (a - s) + walk a r
/-- The shortest way over places, from a place. -/
def wayM (h : Int) (l : List Int) : Int := (maxL h l - minL h l) + min (h - minL h l) (maxL h l - h)
theorem wayM_set {l l' : List Int} (h : ∀ x, x ∈ l ↔ x ∈ l') (s : Int) : wayM s l = wayM s l' := by unfold wayM; rw [minL_set h, maxL_set h]
theorem walk_up : ∀ (r : List Int) (a : Int), (a :: r).Pairwise (· < ·) → walk a r = maxL a r - a
  | [], a, _ => by show (0 : Int) = a - a; omega
  | b :: r, a, h => by
    obtain ⟨h1, h2⟩ := List.pairwise_cons.1 h
    have h3 := h1 b (by simp)
    have e : maxL a (b :: r) = maxL b r := by show maxL (max a b) r = _; rw [show max a b = b by omega]
    have h4 := (maxL_spec r b).1
    rw [walk, walk_up r b h2, e]
    omega
theorem walk_dn : ∀ (r : List Int) (a : Int), (a :: r).Pairwise (fun x y => y < x) → walk a r = a - minL a r
  | [], a, _ => by show (0 : Int) = a - a; omega
  | b :: r, a, h => by
    obtain ⟨h1, h2⟩ := List.pairwise_cons.1 h
    have h3 := h1 b (by simp)
    have e : minL a (b :: r) = minL b r := by show minL (min a b) r = _; rw [show min a b = b by omega]
    have h4 := (minL_spec r b).1
    rw [walk, walk_dn r b h2, e]
    omega
theorem farD_eq {a b : Int} (ha : 0 ≤ a ∧ a ≤ 1000) (hb : 0 ≤ b ∧ b ≤ 1000) : farD a b = max (a - b) (b - a) := by
  unfold farD; rw [w_id (by omega), w_id (by omega)]
/-- A rising list, walked from its nearer end on, is the shortest way. -/
theorem order_way {up : List Int} {h : Int} (hp : up.Pairwise (· < ·)) (hne : up ≠ []) (hr : ∀ x ∈ up, 0 ≤ x ∧ x ≤ 1000) (hh : 0 ≤ h ∧ h ≤ 1000) : walk h (if nearer h up.reverse up = true then up.reverse else up) = wayM h up := by
  cases up with
  | nil => exact absurd rfl hne
  | cons a r =>
    have hw1 : walk h (a :: r) = max (h - a) (a - h) + (maxL a r - a) := by rw [walk, walk_up r a hp]
    have hrev : (a :: r).reverse.Pairwise (fun x y => y < x) := List.pairwise_reverse.2 hp
    have hmem : ∀ x, x ∈ (a :: r).reverse ↔ x ∈ a :: r := fun x => List.mem_reverse
    cases hc : (a :: r).reverse with
    | nil => have := congrArg List.length hc; simp at this
    | cons c r' =>
      rw [hc] at hrev hmem
      have hw2 : walk h (c :: r') = max (h - c) (c - h) + (c - minL c r') := by rw [walk, walk_dn r' c hrev]
      have ha := hr a (by simp)
      have hcm := (hmem c).1 (by simp)
      have hc2 := hr c hcm
      have p1 := (List.pairwise_cons.1 hp).1
      have p2 := (List.pairwise_cons.1 hrev).1
      have hac : ∀ x ∈ a :: r, a ≤ x := fun x hx => by
        rcases List.mem_cons.1 hx with rfl | hx
        · omega
        · have := p1 x hx; omega
      have hcc : ∀ x ∈ a :: r, x ≤ c := fun x hx => by
        rcases List.mem_cons.1 ((hmem x).2 hx) with rfl | hx
        · omega
        · have := p2 x hx; omega
      have e1 : maxL a r = c := by
        have s := maxL_spec r a
        refine Int.le_antisymm ?_ ?_
        · rcases s.2.2 with h | h
          · rw [h]; exact hcc a (by simp)
          · exact hcc _ (by simp [h])
        · rcases List.mem_cons.1 hcm with h | h
          · rw [h]; exact s.1
          · exact s.2.1 c h
      have e2 : minL a r = a := by
        have s := minL_spec r a
        refine Int.le_antisymm s.1 ?_
        rcases s.2.2 with h | h
        · rw [h]; exact Int.le_refl _
        · exact hac _ (by simp [h])
      have e3 : minL c r' = a := by
        have s := minL_spec r' c
        refine Int.le_antisymm ?_ ?_
        · rcases List.mem_cons.1 ((hmem a).2 (by simp)) with h | h
          · rw [h]; exact s.1
          · exact s.2.1 a h
        · rcases s.2.2 with h | h
          · rw [h]; exact hac _ hcm
          · exact hac _ ((hmem _).1 (by simp [h]))
      have e4 : minL h (a :: r) = min h a := (minL_min r h a).trans (by rw [e2])
      have e5 : maxL h (a :: r) = max h c := (maxL_max r h a).trans (by rw [e1])
      have e6 : nearer h (c :: r') (a :: r) = decide (max (h - c) (c - h) < max (h - a) (a - h)) := by
        show decide (farD h c < farD h a) = _
        rw [farD_eq hh hc2, farD_eq hh ha]
      have hle := hcc a (by simp)
      rw [e6]
      unfold wayM
      rw [e4, e5]
      by_cases hn : max (h - c) (c - h) < max (h - a) (a - h)
      · rw [if_pos (decide_eq_true hn), hw2, e3]; omega
      · rw [if_neg (by simpa using hn), hw1, e1]; omega
theorem mem_upTo {want : List Int} {i : Nat} {x : Int} : x ∈ upTo want i ↔ ∃ j : Nat, j < i ∧ 0 < ix want (j : Int) ∧ x = (j : Int) := by
  unfold upTo
  rw [List.mem_map]
  constructor
  · rintro ⟨j, hj, rfl⟩
    obtain ⟨h1, h2⟩ := List.mem_filter.1 hj
    exact ⟨j, by simpa using h1, by simpa using h2, rfl⟩
  · rintro ⟨j, h1, h2, rfl⟩
    exact ⟨j, List.mem_filter.2 ⟨by simpa using h1, by simpa using h2⟩, rfl⟩
theorem upTo_up (want : List Int) (i : Nat) : (upTo want i).Pairwise (· < ·) := by
  unfold upTo
  rw [List.pairwise_map]
  exact (List.pairwise_lt_range.filter _).imp fun h => by omega
theorem want_mem {ps : List (Int × Int)} (hp : ∀ p ∈ ps, 0 ≤ p.1 ∧ p.1 ≤ 20) (x : Int) : x ∈ upTo (wantL ps) 21 ↔ x ∈ ps.map (·.1) := by
  have hg : ∀ j : Nat, j < 21 → (0 < ix (wantL ps) (j : Int) ↔ ∃ p ∈ ps, p.1 = (j : Int)) := fun j hj => by
    have hl : j < (wantL ps).length := by rw [wantL_len]; exact hj
    rw [ix_nat hl, wantL_get]
    constructor
    · intro h
      obtain ⟨p, hp⟩ := List.exists_mem_of_length_pos (l := ps.filter fun p => decide (p.1 = (j : Int))) (by omega)
      obtain ⟨h1, h2⟩ := List.mem_filter.1 hp
      exact ⟨p, h1, by simpa using h2⟩
    · rintro ⟨p, h1, h2⟩
      have := List.length_pos_of_mem (l := ps.filter fun p => decide (p.1 = (j : Int))) (List.mem_filter.2 ⟨h1, by simpa using h2⟩)
      omega
  rw [mem_upTo, List.mem_map]
  constructor
  · rintro ⟨j, hj, h1, rfl⟩
    exact (hg j hj).1 h1
  · rintro ⟨p, h1, rfl⟩
    have h2 := hp p h1
    exact ⟨p.1.toNat, by omega, (hg _ (by omega)).2 ⟨p, h1, by omega⟩, by omega⟩
/-- The order of heats. -/
def ordP (h : Int) (ps : List (Int × Int)) : List Int := if nearer h (upTo (wantL ps) 21).reverse (upTo (wantL ps) 21) = true then (upTo (wantL ps) 21).reverse else upTo (wantL ps) 21
theorem ordP_mem {h : Int} {ps : List (Int × Int)} (hp : ∀ p ∈ ps, 0 ≤ p.1 ∧ p.1 ≤ 20) (x : Int) : x ∈ ordP h ps ↔ x ∈ ps.map (·.1) := by
  unfold ordP
  rw [← want_mem hp]
  split
  · exact List.mem_reverse
  · exact Iff.rfl
theorem ordP_nodup (h : Int) (ps : List (Int × Int)) : (ordP h ps).Nodup := by
  have h1 : (upTo (wantL ps) 21).Nodup := (upTo_up _ _).imp fun h => by omega
  unfold ordP
  split
  · exact List.pairwise_reverse.2 (h1.imp fun h => Ne.symm h)
  · exact h1
theorem ordP_len (h : Int) (ps : List (Int × Int)) : (ordP h ps).length ≤ 21 := by
  have := upTo_len (wantL ps) 21
  unfold ordP
  split
  · rw [List.length_reverse]; exact this
  · exact this
theorem upTo_nil {ps : List (Int × Int)} (hp : ∀ p ∈ ps, 0 ≤ p.1 ∧ p.1 ≤ 20) : ps = [] ↔ upTo (wantL ps) 21 = [] := by
  constructor
  · intro h
    refine List.eq_nil_iff_forall_not_mem.2 fun x hx => ?_
    have := (want_mem hp x).1 hx
    rw [h] at this; cases this
  · intro h
    refine List.eq_nil_iff_forall_not_mem.2 fun p hx => ?_
    have := (want_mem hp p.1).2 (List.mem_map.2 ⟨p, hx, rfl⟩)
    rw [h] at this; cases this
theorem want_zero {ps : List (Int × Int)} (hp : ∀ p ∈ ps, 0 ≤ p.1 ∧ p.1 ≤ 20) : wantL ps = List.replicate 21 0 ↔ ps = [] := by
  constructor
  · intro h
    refine (upTo_nil hp).2 ?_
    refine List.eq_nil_iff_forall_not_mem.2 fun x hx => ?_
    obtain ⟨j, h1, h2, _⟩ := mem_upTo.1 hx
    rw [h, ix_nat (by simpa using h1), List.getElem_replicate] at h2
    omega
  · rintro rfl; rfl
theorem orderL_eq {b : Bed} {ps : List (Int × Int)} {wl : List Int} (hp : ∀ p ∈ ps, 0 ≤ p.1 ∧ p.1 ≤ 20) : orderL (b, ps, wl, wantL ps) = ordP b.2.2.1 ps := by
  show (if wantL ps = List.replicate 21 0 then [] else ordP b.2.2.1 ps) = _
  by_cases h : wantL ps = List.replicate 21 0
  · rw [if_pos h]
    have := (upTo_nil hp).1 ((want_zero hp).1 h)
    unfold ordP
    rw [this]
    split <;> rfl
  · rw [if_neg h]
theorem x74_eq {b : Bed} {ps : List (Int × Int)} {wl : List Int} (hp : ∀ p ∈ ps, 0 ≤ p.1 ∧ p.1 ≤ 20) : x74 (b, ps, wl, wantL ps) = some (ordP b.2.2.1 ps) := by
  rw [x74, if_pos, orderL_eq hp]
  refine ⟨wantL_len ps, ?_⟩
  by_cases h : wantL ps = List.replicate 21 0
  · exact .inr h
  · refine .inl ?_
    rcases Nat.eq_zero_or_pos (upTo (wantL ps) 21).length with h0 | h0
    · exact absurd ((want_zero hp).2 ((upTo_nil hp).2 (List.eq_nil_of_length_eq_zero h0))) h
    · exact h0
theorem ordP_way {h : Int} (hh : 0 ≤ h ∧ h ≤ 20) {ps : List (Int × Int)} (hp : ∀ p ∈ ps, 0 ≤ p.1 ∧ p.1 ≤ 20) : walk h (ordP h ps) = wayM h (ps.map (·.1)) := by
  rw [← wayM_set (want_mem hp) h]
  by_cases h0 : upTo (wantL ps) 21 = []
  · unfold ordP
    rw [h0]
    have : ∀ b : Bool, walk h (if b = true then ([] : List Int).reverse else []) = wayM h [] := fun b => by
      cases b <;> (unfold wayM walk minL maxL; simp; try omega)
    exact this _
  · unfold ordP
    refine order_way (upTo_up _ _) h0 (fun x hx => ?_) (by omega)
    have := (want_mem hp x).1 hx
    obtain ⟨p, h1, rfl⟩ := List.mem_map.1 this
    have := hp p h1; omega
theorem x72_l1_eq {r : List Int} {k : Int → Option Int} (hl : r.length ≤ 1000) (hr : ∀ x ∈ r, 0 ≤ x ∧ x ≤ 20) : ∀ (m i : Nat) (z s a : Int), z = i → i ≤ r.length → r.length - i < m → 0 ≤ s ∧ s ≤ 20 → 0 ≤ a ∧ a ≤ 20 * i → x72_l1 r k m s a z = k (a + walk s (r.drop i))
  | 0, i, _, _, _, _, _, h, _, _ => absurd h (by omega)
  | m + 1, i, _, s, a, rfl, hi, hm, hs, ha => by
    rw [x72_l1]
    by_cases hlt : i < r.length
    · have h1 := hr _ (List.getElem_mem hlt)
      have e : x93 s (ix r (i : Int)) = some (max (s - r[i]) (r[i] - s)) := by
        rw [ix_nat hlt]; show some (farD s r[i]) = _; rw [farD_eq (by omega) (by omega)]
      rw [iflt hlt, gdi hlt, e, Option.bind_some, w_succ i (by omega), ix_nat hlt, w_id (by omega), x72_l1_eq hl hr m (i + 1) _ _ _ rfl (by omega) (by omega) h1 (by omega), List.drop_eq_getElem_cons hlt, walk, Int.add_assoc]
    · obtain rfl : i = r.length := by omega
      rw [ifge hlt, List.drop_length]
      show k a = k (a + 0)
      rw [Int.add_zero]
theorem x72_eq {b : Bed} {ps : List (Int × Int)} {wl : List Int} (hh : 0 ≤ b.2.2.1 ∧ b.2.2.1 ≤ 20) (hp : ∀ p ∈ ps, 0 ≤ p.1 ∧ p.1 ≤ 20) : x72 (b, ps, wl, wantL ps) = some (wayM b.2.2.1 (ps.map (·.1))) := by
  have hl := ordP_len b.2.2.1 ps
  have := x72_l1_eq (r := ordP b.2.2.1 ps) (k := fun z => some z) (by omega) (fun x hx => by
    obtain ⟨p, h1, rfl⟩ := List.mem_map.1 ((ordP_mem hp x).1 hx)
    exact hp p h1) FU 0 0 b.2.2.1 0 rfl (Nat.zero_le _) (FU_lt (by omega)) hh (by omega)
  rw [List.drop_zero, ordP_way hh hp, Int.zero_add] at this
  rw [x72, x74_eq hp, Option.bind_some]
  exact this
theorem x73_l1_eq {ps : List (Int × Int)} {k : Int → Int → Option Int} (hl : ps.length ≤ 1000) : ∀ (m i : Nat) (z s t : Int), z = i → i ≤ ps.length → ps.length - i < m → x73_l1 ps k m s t z = k (minL s ((ps.drop i).map (·.1))) (maxL t ((ps.drop i).map (·.1)))
  | 0, i, _, _, _, _, _, h => absurd h (by omega)
  | m + 1, i, _, s, t, rfl, hi, hm => by
    rw [x73_l1]
    by_cases hlt : i < ps.length
    · rw [iflt hlt, gdi hlt, gdi hlt, w_succ i (by omega), ix_nat hlt, x73_l1_eq hl m (i + 1) _ _ _ rfl (by omega) (by omega), List.drop_eq_getElem_cons hlt]
      rfl
    · obtain rfl : i = ps.length := by omega
      rw [ifge hlt, List.drop_length]
      rfl
theorem heats_in {ps : List (Int × Int)} (hp : ∀ p ∈ ps, 0 ≤ p.1 ∧ p.1 ≤ 20) {h : Int} (hh : 0 ≤ h ∧ h ≤ 20) : 0 ≤ minL h (ps.map (·.1)) ∧ minL h (ps.map (·.1)) ≤ h ∧ h ≤ maxL h (ps.map (·.1)) ∧ maxL h (ps.map (·.1)) ≤ 20 := by
  have h1 := minL_spec (ps.map (·.1)) h
  have h2 := maxL_spec (ps.map (·.1)) h
  have hm : ∀ x ∈ ps.map (·.1), 0 ≤ x ∧ x ≤ 20 := fun x hx => by
    obtain ⟨p, h1, rfl⟩ := List.mem_map.1 hx
    exact hp p h1
  refine ⟨?_, h1.1, h2.1, ?_⟩
  · rcases h1.2.2 with h | h
    · rw [h]; exact hh.1
    · exact (hm _ h).1
  · rcases h2.2.2 with h | h
    · rw [h]; exact hh.2
    · exact (hm _ h).2
theorem x73_eq {b : Bed} {ps : List (Int × Int)} (hl : ps.length ≤ 1000) (hh : 0 ≤ b.2.2.1 ∧ b.2.2.1 ≤ 20) (hp : ∀ p ∈ ps, 0 ≤ p.1 ∧ p.1 ≤ 20) : x73 b ps = some (wayM b.2.2.1 (ps.map (·.1))) := by
  have h1 := x73_l1_eq (k := fun z1 z2 => some (w ((w (z2 - z1)) + (min (w (b.2.2.1 - z1)) (w (z2 - b.2.2.1)))))) hl FU 0 0 b.2.2.1 b.2.2.1 rfl (Nat.zero_le _) (FU_lt (by omega))
  have h2 := heats_in hp hh
  rw [List.drop_zero] at h1
  rw [x73]
  refine h1.trans ?_
  unfold wayM
  rw [w_id (n := maxL _ _ - minL _ _) (by omega), w_id (n := b.2.2.1 - minL _ _) (by omega), w_id (n := maxL _ _ - b.2.2.1) (by omega), w_id (by omega)]
/-! ### Hours and way: the two are the same -/
theorem x34_eq {b : Bed} (hb : bErr b = 0) (hl : b.2.1.length ≤ 20) {ps : List (Int × Int)} (hp : PsOk ps) : x34 b ps = some (hSum (wn b) ps 21, 0) := by
  have hB := bedOk hb
  have hw := wn_pos hB
  have h1 := hB.o1; have h10 := hB.o10
  rw [x34, x66_eB hl, Option.bind_some, eB_of hb hp, if_neg (by decide), x51_eq b (by omega) (by omega), Option.bind_some]
  have := x71_eq hp (n := wn b) (by omega)
  unfold wn at this ⊢
  rw [this]; rfl
theorem x35_eq {b : Bed} (hb : bErr b = 0) (hl : b.2.1.length ≤ 20) {ps : List (Int × Int)} (hp : PsOk ps) : x35 b ps = some (wayM b.2.2.1 (ps.map (·.1)), 0) := by
  have hB := bedOk hb
  rw [x35, x69_eq hb hl hp, Option.bind_some]
  show (if (decide ((0 : Int) ≠ (0 : Int))) = true then _ else _) = _
  rw [if_neg (by decide), x72_eq hB.h0 hp.heat]; rfl
theorem x36_eq {b : Bed} (hb : bErr b = 0) (hl : b.2.1.length ≤ 20) {ps : List (Int × Int)} (hp : PsOk ps) : x36 b ps = some (wayM b.2.2.1 (ps.map (·.1)), 0) := by
  have hB := bedOk hb
  have := hp.len
  rw [x36, x66_eB hl, Option.bind_some, eB_of hb hp, if_neg (by decide), x73_eq (by omega) hB.h0 hp.heat, Option.bind_some]
theorem x33_err {b : Bed} (hl : b.2.1.length ≤ 20) {ps : List (Int × Int)} (he : eB b ps ≠ 0) : x33 b ps = some (0, eB b ps) := by
  rw [x33, x69_err (by omega) he, Option.bind_some]
  exact if_pos (decide_eq_true he)
theorem x34_err {b : Bed} (hl : b.2.1.length ≤ 20) {ps : List (Int × Int)} (he : eB b ps ≠ 0) : x34 b ps = some (0, eB b ps) := by
  rw [x34, x66_eB hl, Option.bind_some, if_pos (decide_eq_true he), Option.bind_some]
theorem x35_err {b : Bed} (hl : b.2.1.length ≤ 20) {ps : List (Int × Int)} (he : eB b ps ≠ 0) : x35 b ps = some (0, eB b ps) := by
  rw [x35, x69_err (by omega) he, Option.bind_some]
  exact if_pos (decide_eq_true he)
theorem x36_err {b : Bed} (hl : b.2.1.length ≤ 20) {ps : List (Int × Int)} (he : eB b ps ≠ 0) : x36 b ps = some (0, eB b ps) := by
  rw [x36, x66_eB hl, Option.bind_some, if_pos (decide_eq_true he), Option.bind_some]
end Go.Proofs.YtbnbjjgagikobaaGreat.Ab

/- MADE BY PROGRAM (ex.py): functions as plain Lean, with their walks. -/
namespace Go.Proofs.YtbnbjjgagikobaaGreat.Ab
open Go
set_option maxRecDepth 20000
set_option maxHeartbeats 4000000
end Go.Proofs.YtbnbjjgagikobaaGreat.Ab

/- MADE BY PROGRAM (ex.py): functions as plain Lean, with their walks. -/
namespace Go.Proofs.YtbnbjjgagikobaaGreat.Ab
open Go
set_option maxRecDepth 20000
set_option maxHeartbeats 4000000
end Go.Proofs.YtbnbjjgagikobaaGreat.Ab

/- MADE BY PROGRAM (ex.py): functions as plain Lean, with their walks. -/
namespace Go.Proofs.YtbnbjjgagikobaaGreat.Ab
open Go
set_option maxRecDepth 20000
set_option maxHeartbeats 4000000
end Go.Proofs.YtbnbjjgagikobaaGreat.Ab

/- MADE BY PROGRAM (ex.py): functions as plain Lean, with their walks. -/
namespace Go.Proofs.YtbnbjjgagikobaaGreat.Ab
open Go
set_option maxRecDepth 20000
set_option maxHeartbeats 4000000
end Go.Proofs.YtbnbjjgagikobaaGreat.Ab

/- MADE BY PROGRAM (ex.py): functions as plain Lean, with their walks. -/
namespace Go.Proofs.YtbnbjjgagikobaaGreat.Ab
open Go
set_option maxRecDepth 20000
set_option maxHeartbeats 4000000
end Go.Proofs.YtbnbjjgagikobaaGreat.Ab

/- MADE BY PROGRAM (ex.py): functions as plain Lean, with their walks. -/
namespace Go.Proofs.YtbnbjjgagikobaaGreat.Ab
open Go
set_option maxRecDepth 20000
set_option maxHeartbeats 4000000
noncomputable def xrc52 : RC :=
  .seq (.reg false [I_ 4 [.cv (.int .i64 0)] .mv]) (.seq (.reg false [I_ 5 [.sl 0] .mv, I_ 6 [.sl 1] .mv, I_ 7 [.tv 5, .tv 6] (.bin .sub), I_ 8 [.tk 1] .mv, I_ 9 [.tk 0] .mv, I_ 10 [.tv 8, .tv 9] (.bin .sub), I_ 11 [.tk 7, .tk 10]
  .max, I_ 4 [.tk 11] .mv]) .ret)
theorem lxx52 : linkF Tryz.prog ann52 52 = some (xrc52, 12, [.tmp 4]) := by kernel_rfl
/-- crossband/crossbandref08.Far -/
def x52 (a : Int) (b : Int) : Option Int :=
  some (max (w (a - b)) (w (b - a)))
theorem x52_ok {a : Int} {b : Int} {v : Int} (h : x52 a b = some v) : PO 52 [(I a), (I b)] (I v) := by
  refine fn_pureW hmix lxx52 rfl rfl fun Q hQ => ?_
  have hR : ∀ T H, RetW [.tmp 4] (I v) .ret T H → Q .ret T H := fun T H hh => hQ _ T H hh
  unfold x52 at h
  unfold xrc52
  skip
  conv => whnf
  obtain rfl := Option.some.inj h
  exact hR _ _ ⟨.inr rfl, _, rfl, _, frz_pure rfl, rfl⟩
end Go.Proofs.YtbnbjjgagikobaaGreat.Ab

/- MADE BY PROGRAM (ex.py): functions as plain Lean, with their walks. -/
namespace Go.Proofs.YtbnbjjgagikobaaGreat.Ab
open Go
set_option maxRecDepth 20000
set_option maxHeartbeats 4000000
noncomputable def xrc67_1 : RC :=
  .loop (some [o_,i_,i_,i_,o_,o_,o_,i_,i_,i_,i_,o_,o_,o_,o_,o_,o_,o_,o_,o_,o_,o_,o_,o_,o_,o_,o_,o_,o_,o_,o_,o_,o_,o_,o_,o_,o_,o_,o_,o_,o_,o_,o_,o_,o_,o_,o_,o_,o_,o_,o_,o_,o_,o_,o_,o_,o_,o_,o_,o_,o_,o_,o_,o_,o_,o_,o_,o_,o_,o_,o_,o_,o_,o_,o_,o_,o_,o_,o_,o_]) (.seq (.seq (.reg false [I_ 38 [.sl 10] .mv, I_ 39 [.sl 9] .mv, I_ 40 [.tk 39] .lenS, I_ 41 [.tv 38, .tv 40] (.bin
  .lss)]) (.cond (.sl 41) .skip (.exit 2))) (.seq (.block 3 (.seq (.reg true [I_ 44 [.sl 1] .mv, I_ 45 [.sl 9] .mv, I_ 46 [.sl 10] .mv, I_ 47 [.tv 45, .tv 46] (.ia 1), I_ 48 [.tv 47] (.ld .one), I_ 49 [.tv 44, .tv 48] (.ia 2), I_
  50 [.tv 49] (.fa 0), I_ 51 [.tv 50] (.ld .one), I_ 52 [.sl 1] .mv, I_ 53 [.sl 9] .mv, I_ 54 [.tv 53, .cv (.int .i64 0)] (.ia 1), I_ 55 [.tv 54] (.ld .one), I_ 56 [.tv 52, .tv 55] (.ia 2), I_ 57 [.tv 56] (.fa 0), I_ 58 [.tv 57]
  (.ld .one), I_ 59 [.tv 51, .tv 58] (.bin .neq)]) (.cond (.sl 59) (.seq (.reg false [I_ 6 [.cv (.int .i64 24)] .mv]) .ret) .skip))) (.reg false [I_ 42 [.tk 10] .mv, I_ 43 [.tv 42, .cv (.int .i64 1)] (.bin .add), I_ 10 [.tk 43]
  .mv])))
noncomputable def xrc67_2 : RC :=
  .loop (some [o_,i_,i_,i_,o_,o_,o_,i_,i_,i_,o_,i_,o_,o_,o_,o_,o_,o_,o_,o_,o_,o_,o_,o_,o_,o_,o_,o_,o_,o_,o_,o_,o_,o_,o_,o_,o_,o_,o_,o_,o_,o_,o_,o_,o_,o_,o_,o_,o_,o_,o_,o_,o_,o_,o_,o_,o_,o_,o_,o_,o_,o_,o_,o_,o_,o_,o_,o_,o_,o_,o_,o_,o_,o_,o_,o_,o_,o_,o_,o_]) (.seq (.seq (.reg false [I_ 60 [.sl 11] .mv, I_ 61 [.sl 9] .mv, I_ 62 [.tk 61] .lenS, I_ 63 [.tv 60, .tv 62] (.bin
  .lss)]) (.cond (.sl 63) .skip (.exit 4))) (.seq (.block 5 (.seq (.reg false [I_ 66 [.sl 7] .mv, I_ 67 [.sl 9] .mv, I_ 68 [.sl 11] .mv, I_ 69 [.tv 67, .tv 68] (.ia 1), I_ 70 [.tv 69] (.ld .one), I_ 71 [.cv (.func 53 [] []), .sl
  66, .sl 70] (.call 3)]) (.cond (.sl 71) (.seq (.reg false [I_ 6 [.cv (.int .i64 16)] .mv]) .ret) .skip))) (.reg false [I_ 64 [.tk 11] .mv, I_ 65 [.tv 64, .cv (.int .i64 1)] (.bin .add), I_ 11 [.tk 65] .mv])))
noncomputable def xrc67_3 : RC :=
  .loop (some [o_,i_,i_,i_,o_,o_,o_,i_,i_,o_,o_,o_,o_,o_,o_,o_,o_,o_,o_,o_,o_,o_,o_,o_,o_,o_,o_,o_,o_,o_,o_,o_,o_,o_,o_,o_,o_,o_,o_,o_,o_,o_,o_,o_,o_,o_,o_,o_,o_,o_,o_,o_,o_,o_,o_,o_,o_,o_,o_,o_,o_,o_,o_,o_,o_,o_,o_,o_,o_,o_,o_,o_,o_,o_,o_,o_,o_,o_,o_,o_]) (.seq (.seq (.reg false [I_ 12 [.sl 8] .mv, I_ 13 [.sl 2] .mv, I_ 14 [.tk 13] .lenS, I_ 15 [.tv 12, .tv 14]
  (.bin .lss)]) (.cond (.sl 15) .skip (.exit 0))) (.seq (.block 1 (.seq (.reg false [I_ 18 [.sl 2] .mv, I_ 19 [.sl 8] .mv, I_ 20 [.tv 18, .tv 19] (.ia 1), I_ 21 [.tv 20] (.ld .one), I_ 9 [.tk 21] .mv]) (.seq (.seq (.reg false [I_
  22 [.sl 9] .mv, I_ 23 [.tk 22] .lenS, I_ 24 [.tv 23, .cv (.int .i64 0)] (.bin .eql), I_ 25 [.tk 24] .mv, ⟨some 26, [.sl 9], some (25, false), none, .mv⟩, ⟨some 27, [.sl 1], some (25, false), none, .mv⟩, ⟨some 28, [.tk 27], some
  (25, false), none, .lenS⟩, ⟨some 29, [.cv (.func 62 [] []), .sl 26, .sl 28], some (25, false), none, .call 3⟩, ⟨some 30, [.tv 29], some (25, false), none, .un .not⟩, I_ 31 [.tv 25, .cv (.bool true), .tv 30] .pick]) (.cond (.sl
  31) (.seq (.reg false [I_ 6 [.cv (.int .i64 2)] .mv]) .ret) .skip)) (.seq (.seq (.reg false [I_ 32 [.sl 9] .mv, I_ 33 [.tk 32] .lenS, I_ 34 [.sl 3] (.ld (.str 4)), I_ 35 [.cv (.func 51 [] []), .sl 34] (.call 3), I_ 36 [.tk 35]
  .lenS, I_ 37 [.tv 33, .tv 36] (.bin .gtr)]) (.cond (.sl 37) (.seq (.reg false [I_ 6 [.cv (.int .i64 10)] .mv]) .ret) .skip)) (.seq (.seq (.reg false [I_ 10 [.cv (.int .i64 0)] .mv]) (.block 2 xrc67_1)) (.seq (.seq (.reg false
  [I_ 11 [.cv (.int .i64 0)] .mv]) (.block 4 xrc67_2)) (.reg false [I_ 72 [.tk 7] .mv, I_ 73 [.tk 9] .mv, I_ 74 [.tk 72, .tk 73] (.app 1 8), I_ 7 [.tk 74] .mv]))))))) (.reg false [I_ 16 [.tk 8] .mv, I_ 17 [.tv 16, .cv (.int .i64
  1)] (.bin .add), I_ 8 [.tk 17] .mv])))
noncomputable def xrc67 : RC :=
  .seq (.reg false [I_ 3 [.tk 0] .box, I_ 6 [.cv (.int .i64 0)] .mv]) (.seq (.reg false [I_ 7 [.cv (.lst [] 0 .full)] (.nil 1)]) (.seq (.seq (.reg false [I_ 8 [.cv (.int .i64 0)] .mv]) (.block 0 xrc67_3)) (.seq (.seq (.reg false
  [I_ 75 [.tk 7] .mv, I_ 76 [.tk 75] .lenS, I_ 77 [.tk 1] .mv, I_ 78 [.tk 77] .lenS, I_ 79 [.tv 76, .tv 78] (.bin .lss)]) (.cond (.sl 79) (.seq (.reg false [I_ 6 [.cv (.int .i64 14)] .mv]) .ret) .skip)) (.seq (.reg false [I_ 6
  [.cv (.int .i64 0)] .mv]) .ret))))
theorem lxx67 : linkF Tryz.prog ann67 67 = some (xrc67, 80, [.tmp 6]) := by kernel_rfl
def x67_l2 (panels : (List (Int × Int))) (turns : (List (List Int))) (s2 : Int) (kl2_0 : Unit → Option Int) : Nat → Int → Option Int
  | 0, _ => none
  | m + 1, s3 =>
    if (decide (s3 < ((ix turns s2).length : Int))) = true then
      gd (0 ≤ s3 ∧ s3 < ((ix turns s2).length : Int)) <|
      gd (0 ≤ (ix (ix turns s2) s3) ∧ (ix (ix turns s2) s3) < (panels.length : Int)) <|
      gd (0 ≤ (0 : Int) ∧ (0 : Int) < ((ix turns s2).length : Int)) <|
      gd (0 ≤ (ix (ix turns s2) (0 : Int)) ∧ (ix (ix turns s2) (0 : Int)) < (panels.length : Int)) <|
      if (decide ((ix panels (ix (ix turns s2) s3)).1 ≠ (ix panels (ix (ix turns s2) (0 : Int))).1)) = true then
        some (24 : Int)
      else
        x67_l2 panels turns s2 kl2_0 m (w (s3 + (1 : Int)))
    else
      kl2_0 ()
def x67_l3 (turns : (List (List Int))) (s1 : (List Int)) (s2 : Int) (kl3_0 : Unit → Option Int) : Nat → Int → Option Int
  | 0, _ => none
  | m + 1, s4 =>
    if (decide (s4 < ((ix turns s2).length : Int))) = true then
      gd (0 ≤ s4 ∧ s4 < ((ix turns s2).length : Int)) <|
      (x53 s1 (ix (ix turns s2) s4)).bind fun r3 =>
      if r3 = true then
        some (16 : Int)
      else
        x67_l3 turns s1 s2 kl3_0 m (w (s4 + (1 : Int)))
    else
      kl3_0 ()
def x67_l1 (b : (Int × (List Int) × Int × Int)) (panels : (List (Int × Int))) (turns : (List (List Int))) (kl1_0 : (List Int) → Option Int) : Nat → (List Int) → Int → Option Int
  | 0, _, _ => none
  | m + 1, s1, s2 =>
    if (decide (s2 < (turns.length : Int))) = true then
      gd (0 ≤ s2 ∧ s2 < (turns.length : Int)) <|
      if (decide (((ix turns s2).length : Int) = (0 : Int))) = true then
        some (2 : Int)
      else
        (x62 (ix turns s2) (panels.length : Int)).bind fun r1 =>
        if r1 = true then
          (x51 b).bind fun r2 =>
          if (decide ((r2.length : Int) < ((ix turns s2).length : Int))) = true then
            some (10 : Int)
          else
            x67_l2 panels turns s2 (fun _ =>
                x67_l3 turns s1 s2 (fun _ =>
                    gd ((s1.length + (ix turns s2).length) * 8 ≤ 140737488355328) <|
                    x67_l1 b panels turns kl1_0 m (s1 ++ (ix turns s2)) (w (s2 + (1 : Int)))) FU (0 : Int)) FU (0 : Int)
        else
          some (2 : Int)
    else
      kl1_0 s1
/-- crossband/crossbandref08.TurnsError -/
def x67 (b : (Int × (List Int) × Int × Int)) (panels : (List (Int × Int))) (turns : (List (List Int))) : Option Int :=
  x67_l1 b panels turns (fun z1 =>
      if (decide ((z1.length : Int) < (panels.length : Int))) = true then
        some (14 : Int)
      else
        some (0 : Int)) FU ([] : List Int) (0 : Int)
theorem x67_l2_ok {panels : (List (Int × Int))} {turns : (List (List Int))} {s2 : Int} {kl2_0 : Unit → Option Int} {s3 : Int} {b : (Int × (List Int) × Int × Int)} {s1 : (List Int)} {v : Int} {Q : Ex → List AV → List AObj → Prop}   (hR : ∀ T H, RetW [.tmp 6] (I v) .ret T H → Q .ret T H) (hkl2_0 : ∀ (u0 : AV) (u6 : AV) (u10 : AV) (u11 : AV) (u12 : AV) (u13 : AV) (u14 : AV) (u15 : AV) (u16 : AV) (u17 : AV) (u18 : AV) (u19 : AV) (u20 : AV) (u21 : AV) (u22 : AV) (u23 : AV) (u24 : AV) (u25 : AV) (u26 : AV) (u27 : AV) (u28 : AV) (u29 : AV) (u30 : AV) (u31 : AV) (u32 : AV) (u33 : AV) (u34 : AV) (u35 : AV) (u36 : AV) (u37 : AV) (u38 : AV) (u39 : AV) (u40 : AV) (u41 : AV) (u42 : AV) (u43 : AV) (u44 : AV) (u45 : AV) (u46 : AV) (u47 : AV) (u48 : AV) (u49 : AV) (u50 : AV) (u51 : AV) (u52 : AV) (u53 : AV) (u54 : AV) (u55 : AV) (u56 : AV) (u57 : AV) (u58 : AV) (u59 : AV) (u60 : AV) (u61 : AV) (u62 : AV) (u63 : AV) (u64 : AV) (u65 : AV) (u66 : AV) (u67 : AV) (u68 : AV) (u69 : AV) (u70 : AV) (u71 : AV) (u72 : AV) (u73 : AV) (u74 : AV) (u75 : AV) (u76 : AV) (u77 : AV) (u78 : AV) (u79 : AV), kl2_0 () = some v → Q (.exit 2) [u0, (.lst (panels.flatMap pr) panels.length .shared), (.lst (turns.map L1) turns.length .shared), (.ptr 0 0), J, J, u6, (.lst (s1.map I) s1.length (.uniq 1)), (I s2), (.lst ((ix turns s2).map I) (ix turns s2).length .shared), u10, u11, u12, u13, u14, u15, u16, u17, u18, u19, u20, u21, u22, u23, u24, u25, u26, u27, u28, u29, u30, u31, u32, u33, u34, u35, u36, u37, u38, u39, u40, u41, u42, u43, u44, u45, u46, u47, u48, u49, u50, u51, u52, u53, u54, u55, u56, u57, u58, u59, u60, u61, u62, u63, u64, u65, u66, u67, u68, u69, u70, u71, u72, u73, u74, u75, u76, u77, u78, u79] [AObj.cells [(I b.1), (.lst (b.2.1.map I) b.2.1.length .shared), (I b.2.2.1), (I b.2.2.2)]]) {T : List AV} (hT : zipKeep [o_,i_,i_,i_,o_,o_,o_,i_,i_,i_,i_,o_,o_,o_,o_,o_,o_,o_,o_,o_,o_,o_,o_,o_,o_,o_,o_,o_,o_,o_,o_,o_,o_,o_,o_,o_,o_,o_,o_,o_,o_,o_,o_,o_,o_,o_,o_,o_,o_,o_,o_,o_,o_,o_,o_,o_,o_,o_,o_,o_,o_,o_,o_,o_,o_,o_,o_,o_,o_,o_,o_,o_,o_,o_,o_,o_,o_,o_,o_,o_] T = slots 80 [(1, (.lst (panels.flatMap pr) panels.length .shared)), (2, (.lst (turns.map L1) turns.length .shared)), (3, (.ptr 0 0)), (7, (.lst (s1.map I) s1.length (.uniq 1))), (8, (I s2)), (9, (.lst ((ix turns s2).map I) (ix turns s2).length .shared)), (10, (I s3))]) (h : x67_l2 panels turns s2 kl2_0 FU s3 = some v) :
    wpR Tryz.prog ann67 67 0 none xrc67_1 T [AObj.cells [(I b.1), (.lst (b.2.1.map I) b.2.1.length .shared), (I b.2.2.1), (I b.2.2.2)]] Q := by
  unfold xrc67_1
  skip
  refine wp_loop hT ?_
  refine .intro (fun m T H => ∃ (s3 : Int), T = slots 80 [(1, (.lst (panels.flatMap pr) panels.length .shared)), (2, (.lst (turns.map L1) turns.length .shared)), (3, (.ptr 0 0)), (7, (.lst (s1.map I) s1.length (.uniq 1))), (8, (I s2)), (9, (.lst ((ix turns s2).map I) (ix turns s2).length .shared)), (10, (I s3))] ∧ H = [AObj.cells [(I b.1), (.lst (b.2.1.map I) b.2.1.length .shared), (I b.2.2.1), (I b.2.2.2)]] ∧ x67_l2 panels turns s2 kl2_0 m s3 = some v) FU ⟨s3, rfl, rfl, h⟩ ?_
  clear h hT
  rintro m T H ⟨s3, rfl, rfl, h⟩
  cases m
  · exact none_ne h
  rename_i m
  rw [x67_l2.eq_2] at h
  conv => whnf
  rcases bt (decide (s3 < ((ix turns s2).length : Int))) with hb7 | hb7
  · rw [hb7]
    conv => whnf
    replace h := it_t hb7 h
    obtain ⟨hb8, h⟩ := gd_some h
    refine ⟨hb8, ?_⟩
    rw [drop1 I (ix turns s2) s3 hb8]
    conv => whnf
    obtain ⟨hb9, h⟩ := gd_some h
    refine ⟨hb9, ?_⟩
    rw [dropS pr 2 pr_len panels (ix (ix turns s2) s3) hb9]
    conv => whnf
    obtain ⟨hb10, h⟩ := gd_some h
    refine ⟨hb10, ?_⟩
    rw [drop1 I (ix turns s2) (0 : Int) hb10]
    conv => whnf
    obtain ⟨hb11, h⟩ := gd_some h
    refine ⟨hb11, ?_⟩
    rw [dropS pr 2 pr_len panels (ix (ix turns s2) (0 : Int)) hb11]
    conv => whnf
    rcases bt (decide ((ix panels (ix (ix turns s2) s3)).1 ≠ (ix panels (ix (ix turns s2) (0 : Int))).1)) with hb12 | hb12
    · rw [hb12]
      conv => whnf
      replace h := it_t hb12 h
      obtain rfl := Option.some.inj h
      exact hR _ _ ⟨.inr rfl, _, rfl, _, frz_pure rfl, rfl⟩
    · rw [hb12]
      conv => whnf
      replace h := it_f hb12 h
      exact ⟨m, Nat.lt_succ_self m, (w (s3 + (1 : Int))), rfl, rfl, h⟩
  · rw [hb7]
    conv => whnf
    replace h := it_f hb7 h
    exact hkl2_0 _ _ _ _ _ _ _ _ _ _ _ _ _ _ _ _ _ _ _ _ _ _ _ _ _ _ _ _ _ _ _ _ _ _ _ _ _ _ _ _ _ _ _ _ _ _ _ _ _ _ _ _ _ _ _ _ _ _ _ _ _ _ _ _ _ _ _ _ _ _ _ _ h
theorem x67_l3_ok {turns : (List (List Int))} {s1 : (List Int)} {s2 : Int} {kl3_0 : Unit → Option Int} {s4 : Int} {b : (Int × (List Int) × Int × Int)} {panels : (List (Int × Int))} {v : Int} {Q : Ex → List AV → List AObj → Prop}   {cp7 : Cap} (hR : ∀ T H, RetW [.tmp 6] (I v) .ret T H → Q .ret T H) (hkl3_0 : ∀ (u0 : AV) (u6 : AV) (u10 : AV) (u11 : AV) (u12 : AV) (u13 : AV) (u14 : AV) (u15 : AV) (u16 : AV) (u17 : AV) (u18 : AV) (u19 : AV) (u20 : AV) (u21 : AV) (u22 : AV) (u23 : AV) (u24 : AV) (u25 : AV) (u26 : AV) (u27 : AV) (u28 : AV) (u29 : AV) (u30 : AV) (u31 : AV) (u32 : AV) (u33 : AV) (u34 : AV) (u35 : AV) (u36 : AV) (u37 : AV) (u38 : AV) (u39 : AV) (u40 : AV) (u41 : AV) (u42 : AV) (u43 : AV) (u44 : AV) (u45 : AV) (u46 : AV) (u47 : AV) (u48 : AV) (u49 : AV) (u50 : AV) (u51 : AV) (u52 : AV) (u53 : AV) (u54 : AV) (u55 : AV) (u56 : AV) (u57 : AV) (u58 : AV) (u59 : AV) (u60 : AV) (u61 : AV) (u62 : AV) (u63 : AV) (u64 : AV) (u65 : AV) (u66 : AV) (u67 : AV) (u68 : AV) (u69 : AV) (u70 : AV) (u71 : AV) (u72 : AV) (u73 : AV) (u74 : AV) (u75 : AV) (u76 : AV) (u77 : AV) (u78 : AV) (u79 : AV), kl3_0 () = some v → Q (.exit 4) [u0, (.lst (panels.flatMap pr) panels.length .shared), (.lst (turns.map L1) turns.length .shared), (.ptr 0 0), J, J, u6, (.lst (s1.map I) s1.length (.uniq 1)), (I s2), (.lst ((ix turns s2).map I) (ix turns s2).length .shared), u10, u11, u12, u13, u14, u15, u16, u17, u18, u19, u20, u21, u22, u23, u24, u25, u26, u27, u28, u29, u30, u31, u32, u33, u34, u35, u36, u37, u38, u39, u40, u41, u42, u43, u44, u45, u46, u47, u48, u49, u50, u51, u52, u53, u54, u55, u56, u57, u58, u59, u60, u61, u62, u63, u64, u65, u66, u67, u68, u69, u70, u71, u72, u73, u74, u75, u76, u77, u78, u79] [AObj.cells [(I b.1), (.lst (b.2.1.map I) b.2.1.length .shared), (I b.2.2.1), (I b.2.2.2)]]) (hkl3_0_1 : ∀ (u0 : AV) (u6 : AV) (u10 : AV) (u11 : AV) (u12 : AV) (u13 : AV) (u14 : AV) (u15 : AV) (u16 : AV) (u17 : AV) (u18 : AV) (u19 : AV) (u20 : AV) (u21 : AV) (u22 : AV) (u23 : AV) (u24 : AV) (u25 : AV) (u26 : AV) (u27 : AV) (u28 : AV) (u29 : AV) (u30 : AV) (u31 : AV) (u32 : AV) (u33 : AV) (u34 : AV) (u35 : AV) (u36 : AV) (u37 : AV) (u38 : AV) (u39 : AV) (u40 : AV) (u41 : AV) (u42 : AV) (u43 : AV) (u44 : AV) (u45 : AV) (u46 : AV) (u47 : AV) (u48 : AV) (u49 : AV) (u50 : AV) (u51 : AV) (u52 : AV) (u53 : AV) (u54 : AV) (u55 : AV) (u56 : AV) (u57 : AV) (u58 : AV) (u59 : AV) (u60 : AV) (u61 : AV) (u62 : AV) (u63 : AV) (u64 : AV) (u65 : AV) (u66 : AV) (u67 : AV) (u68 : AV) (u69 : AV) (u70 : AV) (u71 : AV) (u72 : AV) (u73 : AV) (u74 : AV) (u75 : AV) (u76 : AV) (u77 : AV) (u78 : AV) (u79 : AV), kl3_0 () = some v → Q (.exit 4) [u0, (.lst (panels.flatMap pr) panels.length .shared), (.lst (turns.map L1) turns.length .shared), (.ptr 0 0), J, J, u6, (.lst (s1.map I) s1.length (.own 1)), (I s2), (.lst ((ix turns s2).map I) (ix turns s2).length .shared), u10, u11, u12, u13, u14, u15, u16, u17, u18, u19, u20, u21, u22, u23, u24, u25, u26, u27, u28, u29, u30, u31, u32, u33, u34, u35, u36, u37, u38, u39, u40, u41, u42, u43, u44, u45, u46, u47, u48, u49, u50, u51, u52, u53, u54, u55, u56, u57, u58, u59, u60, u61, u62, u63, u64, u65, u66, u67, u68, u69, u70, u71, u72, u73, u74, u75, u76, u77, u78, u79] [AObj.cells [(I b.1), (.lst (b.2.1.map I) b.2.1.length .shared), (I b.2.2.1), (I b.2.2.2)]]) (hcp7 : (cp7 = (.uniq 1) ∨ cp7 = (.own 1))) {T : List AV} (hT : zipKeep [o_,i_,i_,i_,o_,o_,o_,i_,i_,i_,o_,i_,o_,o_,o_,o_,o_,o_,o_,o_,o_,o_,o_,o_,o_,o_,o_,o_,o_,o_,o_,o_,o_,o_,o_,o_,o_,o_,o_,o_,o_,o_,o_,o_,o_,o_,o_,o_,o_,o_,o_,o_,o_,o_,o_,o_,o_,o_,o_,o_,o_,o_,o_,o_,o_,o_,o_,o_,o_,o_,o_,o_,o_,o_,o_,o_,o_,o_,o_,o_] T = slots 80 [(1, (.lst (panels.flatMap pr) panels.length .shared)), (2, (.lst (turns.map L1) turns.length .shared)), (3, (.ptr 0 0)), (7, (.lst (s1.map I) s1.length cp7)), (8, (I s2)), (9, (.lst ((ix turns s2).map I) (ix turns s2).length .shared)), (11, (I s4))]) (h : x67_l3 turns s1 s2 kl3_0 FU s4 = some v) :
    wpR Tryz.prog ann67 67 0 none xrc67_2 T [AObj.cells [(I b.1), (.lst (b.2.1.map I) b.2.1.length .shared), (I b.2.2.1), (I b.2.2.2)]] Q := by
  unfold xrc67_2
  skip
  refine wp_loop hT ?_
  refine .intro (fun m T H => ∃ (s4 : Int) (cp7 : Cap), (cp7 = (.uniq 1) ∨ cp7 = (.own 1)) ∧ T = slots 80 [(1, (.lst (panels.flatMap pr) panels.length .shared)), (2, (.lst (turns.map L1) turns.length .shared)), (3, (.ptr 0 0)), (7, (.lst (s1.map I) s1.length cp7)), (8, (I s2)), (9, (.lst ((ix turns s2).map I) (ix turns s2).length .shared)), (11, (I s4))] ∧ H = [AObj.cells [(I b.1), (.lst (b.2.1.map I) b.2.1.length .shared), (I b.2.2.1), (I b.2.2.2)]] ∧ x67_l3 turns s1 s2 kl3_0 m s4 = some v) FU ⟨s4, _, hcp7, rfl, rfl, h⟩ ?_
  clear h hT
  rintro m T H ⟨s4, cp7, hcp7, rfl, rfl, h⟩
  cases m
  · exact none_ne h
  rename_i m
  rw [x67_l3.eq_2] at h
  rcases hcp7 with rfl | rfl
  · conv => whnf
    rcases bt (decide (s4 < ((ix turns s2).length : Int))) with hb13 | hb13
    · rw [hb13]
      conv => whnf
      replace h := it_t hb13 h
      obtain ⟨hb14, h⟩ := gd_some h
      refine ⟨hb14, ?_⟩
      rw [drop1 I (ix turns s2) s4 hb14]
      conv => whnf
      obtain ⟨r3, hb15, h⟩ := bd_some h
      refine ⟨(allc (pu_map (fun _ => rfl) _ _ _) (allc rfl rfl)), _, x53_ok hb15, ?_⟩
      conv => whnf
      cases r3
      · conv => whnf
        replace h := it_f rfl h
        exact ⟨m, Nat.lt_succ_self m, (w (s4 + (1 : Int))), _, (.inr rfl), rfl, rfl, h⟩
      · conv => whnf
        replace h := it_t rfl h
        obtain rfl := Option.some.inj h
        exact hR _ _ ⟨.inr rfl, _, rfl, _, frz_pure rfl, rfl⟩
    · rw [hb13]
      conv => whnf
      replace h := it_f hb13 h
      exact hkl3_0 _ _ _ _ _ _ _ _ _ _ _ _ _ _ _ _ _ _ _ _ _ _ _ _ _ _ _ _ _ _ _ _ _ _ _ _ _ _ _ _ _ _ _ _ _ _ _ _ _ _ _ _ _ _ _ _ _ _ _ _ _ _ _ _ _ _ _ _ _ _ _ _ h
  · conv => whnf
    rcases bt (decide (s4 < ((ix turns s2).length : Int))) with hb13 | hb13
    · rw [hb13]
      conv => whnf
      replace h := it_t hb13 h
      obtain ⟨hb14, h⟩ := gd_some h
      refine ⟨hb14, ?_⟩
      rw [drop1 I (ix turns s2) s4 hb14]
      conv => whnf
      obtain ⟨r3, hb15, h⟩ := bd_some h
      refine ⟨(allc (pu_map (fun _ => rfl) _ _ _) (allc rfl rfl)), _, x53_ok hb15, ?_⟩
      conv => whnf
      cases r3
      · conv => whnf
        replace h := it_f rfl h
        exact ⟨m, Nat.lt_succ_self m, (w (s4 + (1 : Int))), _, (.inr rfl), rfl, rfl, h⟩
      · conv => whnf
        replace h := it_t rfl h
        obtain rfl := Option.some.inj h
        exact hR _ _ ⟨.inr rfl, _, rfl, _, frz_pure rfl, rfl⟩
    · rw [hb13]
      conv => whnf
      replace h := it_f hb13 h
      exact hkl3_0_1 _ _ _ _ _ _ _ _ _ _ _ _ _ _ _ _ _ _ _ _ _ _ _ _ _ _ _ _ _ _ _ _ _ _ _ _ _ _ _ _ _ _ _ _ _ _ _ _ _ _ _ _ _ _ _ _ _ _ _ _ _ _ _ _ _ _ _ _ _ _ _ _ h
theorem x67_l2v_ok {panels : (List (Int × Int))} {turns : (List (List Int))} {s2 : Int} {kl2_0 : Unit → Option Int} {s3 : Int} {b : (Int × (List Int) × Int × Int)} {s1 : (List Int)} {v : Int} {Q : Ex → List AV → List AObj → Prop}   (hR : ∀ T H, RetW [.tmp 6] (I v) .ret T H → Q .ret T H) (hkl2_0 : ∀ (u0 : AV) (u6 : AV) (u10 : AV) (u11 : AV) (u12 : AV) (u13 : AV) (u14 : AV) (u15 : AV) (u16 : AV) (u17 : AV) (u18 : AV) (u19 : AV) (u20 : AV) (u21 : AV) (u22 : AV) (u23 : AV) (u24 : AV) (u25 : AV) (u26 : AV) (u27 : AV) (u28 : AV) (u29 : AV) (u30 : AV) (u31 : AV) (u32 : AV) (u33 : AV) (u34 : AV) (u35 : AV) (u36 : AV) (u37 : AV) (u38 : AV) (u39 : AV) (u40 : AV) (u41 : AV) (u42 : AV) (u43 : AV) (u44 : AV) (u45 : AV) (u46 : AV) (u47 : AV) (u48 : AV) (u49 : AV) (u50 : AV) (u51 : AV) (u52 : AV) (u53 : AV) (u54 : AV) (u55 : AV) (u56 : AV) (u57 : AV) (u58 : AV) (u59 : AV) (u60 : AV) (u61 : AV) (u62 : AV) (u63 : AV) (u64 : AV) (u65 : AV) (u66 : AV) (u67 : AV) (u68 : AV) (u69 : AV) (u70 : AV) (u71 : AV) (u72 : AV) (u73 : AV) (u74 : AV) (u75 : AV) (u76 : AV) (u77 : AV) (u78 : AV) (u79 : AV), kl2_0 () = some v → Q (.exit 2) [u0, (.lst (panels.flatMap pr) panels.length .shared), (.lst (turns.map L1) turns.length .shared), (.ptr 0 0), J, J, u6, (.lst (s1.map I) s1.length (.own 1)), (I s2), (.lst ((ix turns s2).map I) (ix turns s2).length .shared), u10, u11, u12, u13, u14, u15, u16, u17, u18, u19, u20, u21, u22, u23, u24, u25, u26, u27, u28, u29, u30, u31, u32, u33, u34, u35, u36, u37, u38, u39, u40, u41, u42, u43, u44, u45, u46, u47, u48, u49, u50, u51, u52, u53, u54, u55, u56, u57, u58, u59, u60, u61, u62, u63, u64, u65, u66, u67, u68, u69, u70, u71, u72, u73, u74, u75, u76, u77, u78, u79] [AObj.cells [(I b.1), (.lst (b.2.1.map I) b.2.1.length .shared), (I b.2.2.1), (I b.2.2.2)]]) {T : List AV} (hT : zipKeep [o_,i_,i_,i_,o_,o_,o_,i_,i_,i_,i_,o_,o_,o_,o_,o_,o_,o_,o_,o_,o_,o_,o_,o_,o_,o_,o_,o_,o_,o_,o_,o_,o_,o_,o_,o_,o_,o_,o_,o_,o_,o_,o_,o_,o_,o_,o_,o_,o_,o_,o_,o_,o_,o_,o_,o_,o_,o_,o_,o_,o_,o_,o_,o_,o_,o_,o_,o_,o_,o_,o_,o_,o_,o_,o_,o_,o_,o_,o_,o_] T = slots 80 [(1, (.lst (panels.flatMap pr) panels.length .shared)), (2, (.lst (turns.map L1) turns.length .shared)), (3, (.ptr 0 0)), (7, (.lst (s1.map I) s1.length (.own 1))), (8, (I s2)), (9, (.lst ((ix turns s2).map I) (ix turns s2).length .shared)), (10, (I s3))]) (h : x67_l2 panels turns s2 kl2_0 FU s3 = some v) :
    wpR Tryz.prog ann67 67 0 none xrc67_1 T [AObj.cells [(I b.1), (.lst (b.2.1.map I) b.2.1.length .shared), (I b.2.2.1), (I b.2.2.2)]] Q := by
  unfold xrc67_1
  skip
  refine wp_loop hT ?_
  refine .intro (fun m T H => ∃ (s3 : Int), T = slots 80 [(1, (.lst (panels.flatMap pr) panels.length .shared)), (2, (.lst (turns.map L1) turns.length .shared)), (3, (.ptr 0 0)), (7, (.lst (s1.map I) s1.length (.own 1))), (8, (I s2)), (9, (.lst ((ix turns s2).map I) (ix turns s2).length .shared)), (10, (I s3))] ∧ H = [AObj.cells [(I b.1), (.lst (b.2.1.map I) b.2.1.length .shared), (I b.2.2.1), (I b.2.2.2)]] ∧ x67_l2 panels turns s2 kl2_0 m s3 = some v) FU ⟨s3, rfl, rfl, h⟩ ?_
  clear h hT
  rintro m T H ⟨s3, rfl, rfl, h⟩
  cases m
  · exact none_ne h
  rename_i m
  rw [x67_l2.eq_2] at h
  conv => whnf
  rcases bt (decide (s3 < ((ix turns s2).length : Int))) with hb7 | hb7
  · rw [hb7]
    conv => whnf
    replace h := it_t hb7 h
    obtain ⟨hb8, h⟩ := gd_some h
    refine ⟨hb8, ?_⟩
    rw [drop1 I (ix turns s2) s3 hb8]
    conv => whnf
    obtain ⟨hb9, h⟩ := gd_some h
    refine ⟨hb9, ?_⟩
    rw [dropS pr 2 pr_len panels (ix (ix turns s2) s3) hb9]
    conv => whnf
    obtain ⟨hb10, h⟩ := gd_some h
    refine ⟨hb10, ?_⟩
    rw [drop1 I (ix turns s2) (0 : Int) hb10]
    conv => whnf
    obtain ⟨hb11, h⟩ := gd_some h
    refine ⟨hb11, ?_⟩
    rw [dropS pr 2 pr_len panels (ix (ix turns s2) (0 : Int)) hb11]
    conv => whnf
    rcases bt (decide ((ix panels (ix (ix turns s2) s3)).1 ≠ (ix panels (ix (ix turns s2) (0 : Int))).1)) with hb12 | hb12
    · rw [hb12]
      conv => whnf
      replace h := it_t hb12 h
      obtain rfl := Option.some.inj h
      exact hR _ _ ⟨.inr rfl, _, rfl, _, frz_pure rfl, rfl⟩
    · rw [hb12]
      conv => whnf
      replace h := it_f hb12 h
      exact ⟨m, Nat.lt_succ_self m, (w (s3 + (1 : Int))), rfl, rfl, h⟩
  · rw [hb7]
    conv => whnf
    replace h := it_f hb7 h
    exact hkl2_0 _ _ _ _ _ _ _ _ _ _ _ _ _ _ _ _ _ _ _ _ _ _ _ _ _ _ _ _ _ _ _ _ _ _ _ _ _ _ _ _ _ _ _ _ _ _ _ _ _ _ _ _ _ _ _ _ _ _ _ _ _ _ _ _ _ _ _ _ _ _ _ _ h
theorem x67_l3v_ok {turns : (List (List Int))} {s1 : (List Int)} {s2 : Int} {kl3_0 : Unit → Option Int} {s4 : Int} {b : (Int × (List Int) × Int × Int)} {panels : (List (Int × Int))} {v : Int} {Q : Ex → List AV → List AObj → Prop}   (hR : ∀ T H, RetW [.tmp 6] (I v) .ret T H → Q .ret T H) (hkl3_0 : ∀ (u0 : AV) (u6 : AV) (u10 : AV) (u11 : AV) (u12 : AV) (u13 : AV) (u14 : AV) (u15 : AV) (u16 : AV) (u17 : AV) (u18 : AV) (u19 : AV) (u20 : AV) (u21 : AV) (u22 : AV) (u23 : AV) (u24 : AV) (u25 : AV) (u26 : AV) (u27 : AV) (u28 : AV) (u29 : AV) (u30 : AV) (u31 : AV) (u32 : AV) (u33 : AV) (u34 : AV) (u35 : AV) (u36 : AV) (u37 : AV) (u38 : AV) (u39 : AV) (u40 : AV) (u41 : AV) (u42 : AV) (u43 : AV) (u44 : AV) (u45 : AV) (u46 : AV) (u47 : AV) (u48 : AV) (u49 : AV) (u50 : AV) (u51 : AV) (u52 : AV) (u53 : AV) (u54 : AV) (u55 : AV) (u56 : AV) (u57 : AV) (u58 : AV) (u59 : AV) (u60 : AV) (u61 : AV) (u62 : AV) (u63 : AV) (u64 : AV) (u65 : AV) (u66 : AV) (u67 : AV) (u68 : AV) (u69 : AV) (u70 : AV) (u71 : AV) (u72 : AV) (u73 : AV) (u74 : AV) (u75 : AV) (u76 : AV) (u77 : AV) (u78 : AV) (u79 : AV), kl3_0 () = some v → Q (.exit 4) [u0, (.lst (panels.flatMap pr) panels.length .shared), (.lst (turns.map L1) turns.length .shared), (.ptr 0 0), J, J, u6, (.lst (s1.map I) s1.length (.own 1)), (I s2), (.lst ((ix turns s2).map I) (ix turns s2).length .shared), u10, u11, u12, u13, u14, u15, u16, u17, u18, u19, u20, u21, u22, u23, u24, u25, u26, u27, u28, u29, u30, u31, u32, u33, u34, u35, u36, u37, u38, u39, u40, u41, u42, u43, u44, u45, u46, u47, u48, u49, u50, u51, u52, u53, u54, u55, u56, u57, u58, u59, u60, u61, u62, u63, u64, u65, u66, u67, u68, u69, u70, u71, u72, u73, u74, u75, u76, u77, u78, u79] [AObj.cells [(I b.1), (.lst (b.2.1.map I) b.2.1.length .shared), (I b.2.2.1), (I b.2.2.2)]]) {T : List AV} (hT : zipKeep [o_,i_,i_,i_,o_,o_,o_,i_,i_,i_,o_,i_,o_,o_,o_,o_,o_,o_,o_,o_,o_,o_,o_,o_,o_,o_,o_,o_,o_,o_,o_,o_,o_,o_,o_,o_,o_,o_,o_,o_,o_,o_,o_,o_,o_,o_,o_,o_,o_,o_,o_,o_,o_,o_,o_,o_,o_,o_,o_,o_,o_,o_,o_,o_,o_,o_,o_,o_,o_,o_,o_,o_,o_,o_,o_,o_,o_,o_,o_,o_] T = slots 80 [(1, (.lst (panels.flatMap pr) panels.length .shared)), (2, (.lst (turns.map L1) turns.length .shared)), (3, (.ptr 0 0)), (7, (.lst (s1.map I) s1.length (.own 1))), (8, (I s2)), (9, (.lst ((ix turns s2).map I) (ix turns s2).length .shared)), (11, (I s4))]) (h : x67_l3 turns s1 s2 kl3_0 FU s4 = some v) :
    wpR Tryz.prog ann67 67 0 none xrc67_2 T [AObj.cells [(I b.1), (.lst (b.2.1.map I) b.2.1.length .shared), (I b.2.2.1), (I b.2.2.2)]] Q := by
  unfold xrc67_2
  skip
  refine wp_loop hT ?_
  refine .intro (fun m T H => ∃ (s4 : Int), T = slots 80 [(1, (.lst (panels.flatMap pr) panels.length .shared)), (2, (.lst (turns.map L1) turns.length .shared)), (3, (.ptr 0 0)), (7, (.lst (s1.map I) s1.length (.own 1))), (8, (I s2)), (9, (.lst ((ix turns s2).map I) (ix turns s2).length .shared)), (11, (I s4))] ∧ H = [AObj.cells [(I b.1), (.lst (b.2.1.map I) b.2.1.length .shared), (I b.2.2.1), (I b.2.2.2)]] ∧ x67_l3 turns s1 s2 kl3_0 m s4 = some v) FU ⟨s4, rfl, rfl, h⟩ ?_
  clear h hT
  rintro m T H ⟨s4, rfl, rfl, h⟩
  cases m
  · exact none_ne h
  rename_i m
  rw [x67_l3.eq_2] at h
  conv => whnf
  rcases bt (decide (s4 < ((ix turns s2).length : Int))) with hb13 | hb13
  · rw [hb13]
    conv => whnf
    replace h := it_t hb13 h
    obtain ⟨hb14, h⟩ := gd_some h
    refine ⟨hb14, ?_⟩
    rw [drop1 I (ix turns s2) s4 hb14]
    conv => whnf
    obtain ⟨r3, hb15, h⟩ := bd_some h
    refine ⟨(allc (pu_map (fun _ => rfl) _ _ _) (allc rfl rfl)), _, x53_ok hb15, ?_⟩
    conv => whnf
    cases r3
    · conv => whnf
      replace h := it_f rfl h
      exact ⟨m, Nat.lt_succ_self m, (w (s4 + (1 : Int))), rfl, rfl, h⟩
    · conv => whnf
      replace h := it_t rfl h
      obtain rfl := Option.some.inj h
      exact hR _ _ ⟨.inr rfl, _, rfl, _, frz_pure rfl, rfl⟩
  · rw [hb13]
    conv => whnf
    replace h := it_f hb13 h
    exact hkl3_0 _ _ _ _ _ _ _ _ _ _ _ _ _ _ _ _ _ _ _ _ _ _ _ _ _ _ _ _ _ _ _ _ _ _ _ _ _ _ _ _ _ _ _ _ _ _ _ _ _ _ _ _ _ _ _ _ _ _ _ _ _ _ _ _ _ _ _ _ _ _ _ _ h
theorem x67_l1_ok {b : (Int × (List Int) × Int × Int)} {panels : (List (Int × Int))} {turns : (List (List Int))} {kl1_0 : (List Int) → Option Int} {s1 : (List Int)} {s2 : Int} {v : Int} {Q : Ex → List AV → List AObj → Prop}   {cp7 : Cap} (hR : ∀ T H, RetW [.tmp 6] (I v) .ret T H → Q .ret T H) (hkl1_0 : ∀ (z1 : (List Int)) (u0 : AV) (u2 : AV) (u3 : AV) (u6 : AV) (u8 : AV) (u9 : AV) (u10 : AV) (u11 : AV) (u12 : AV) (u13 : AV) (u14 : AV) (u15 : AV) (u16 : AV) (u17 : AV) (u18 : AV) (u19 : AV) (u20 : AV) (u21 : AV) (u22 : AV) (u23 : AV) (u24 : AV) (u25 : AV) (u26 : AV) (u27 : AV) (u28 : AV) (u29 : AV) (u30 : AV) (u31 : AV) (u32 : AV) (u33 : AV) (u34 : AV) (u35 : AV) (u36 : AV) (u37 : AV) (u38 : AV) (u39 : AV) (u40 : AV) (u41 : AV) (u42 : AV) (u43 : AV) (u44 : AV) (u45 : AV) (u46 : AV) (u47 : AV) (u48 : AV) (u49 : AV) (u50 : AV) (u51 : AV) (u52 : AV) (u53 : AV) (u54 : AV) (u55 : AV) (u56 : AV) (u57 : AV) (u58 : AV) (u59 : AV) (u60 : AV) (u61 : AV) (u62 : AV) (u63 : AV) (u64 : AV) (u65 : AV) (u66 : AV) (u67 : AV) (u68 : AV) (u69 : AV) (u70 : AV) (u71 : AV) (u72 : AV) (u73 : AV) (u74 : AV) (u75 : AV) (u76 : AV) (u77 : AV) (u78 : AV) (u79 : AV) (o1 : AObj), kl1_0 z1 = some v → Q (.exit 0) [u0, (.lst (panels.flatMap pr) panels.length .shared), u2, u3, J, J, u6, (.lst (z1.map I) z1.length (.uniq 1)), u8, u9, u10, u11, u12, u13, u14, u15, u16, u17, u18, u19, u20, u21, u22, u23, u24, u25, u26, u27, u28, u29, u30, u31, u32, u33, u34, u35, u36, u37, u38, u39, u40, u41, u42, u43, u44, u45, u46, u47, u48, u49, u50, u51, u52, u53, u54, u55, u56, u57, u58, u59, u60, u61, u62, u63, u64, u65, u66, u67, u68, u69, u70, u71, u72, u73, u74, u75, u76, u77, u78, u79] [o1]) (hkl1_0_1 : ∀ (z1 : (List Int)) (u0 : AV) (u2 : AV) (u3 : AV) (u6 : AV) (u8 : AV) (u9 : AV) (u10 : AV) (u11 : AV) (u12 : AV) (u13 : AV) (u14 : AV) (u15 : AV) (u16 : AV) (u17 : AV) (u18 : AV) (u19 : AV) (u20 : AV) (u21 : AV) (u22 : AV) (u23 : AV) (u24 : AV) (u25 : AV) (u26 : AV) (u27 : AV) (u28 : AV) (u29 : AV) (u30 : AV) (u31 : AV) (u32 : AV) (u33 : AV) (u34 : AV) (u35 : AV) (u36 : AV) (u37 : AV) (u38 : AV) (u39 : AV) (u40 : AV) (u41 : AV) (u42 : AV) (u43 : AV) (u44 : AV) (u45 : AV) (u46 : AV) (u47 : AV) (u48 : AV) (u49 : AV) (u50 : AV) (u51 : AV) (u52 : AV) (u53 : AV) (u54 : AV) (u55 : AV) (u56 : AV) (u57 : AV) (u58 : AV) (u59 : AV) (u60 : AV) (u61 : AV) (u62 : AV) (u63 : AV) (u64 : AV) (u65 : AV) (u66 : AV) (u67 : AV) (u68 : AV) (u69 : AV) (u70 : AV) (u71 : AV) (u72 : AV) (u73 : AV) (u74 : AV) (u75 : AV) (u76 : AV) (u77 : AV) (u78 : AV) (u79 : AV) (o1 : AObj), kl1_0 z1 = some v → Q (.exit 0) [u0, (.lst (panels.flatMap pr) panels.length .shared), u2, u3, J, J, u6, (.lst (z1.map I) z1.length (.own 1)), u8, u9, u10, u11, u12, u13, u14, u15, u16, u17, u18, u19, u20, u21, u22, u23, u24, u25, u26, u27, u28, u29, u30, u31, u32, u33, u34, u35, u36, u37, u38, u39, u40, u41, u42, u43, u44, u45, u46, u47, u48, u49, u50, u51, u52, u53, u54, u55, u56, u57, u58, u59, u60, u61, u62, u63, u64, u65, u66, u67, u68, u69, u70, u71, u72, u73, u74, u75, u76, u77, u78, u79] [o1]) (hcp7 : (cp7 = (.uniq 1) ∨ cp7 = (.own 1))) {T : List AV} (hT : zipKeep [o_,i_,i_,i_,o_,o_,o_,i_,i_,o_,o_,o_,o_,o_,o_,o_,o_,o_,o_,o_,o_,o_,o_,o_,o_,o_,o_,o_,o_,o_,o_,o_,o_,o_,o_,o_,o_,o_,o_,o_,o_,o_,o_,o_,o_,o_,o_,o_,o_,o_,o_,o_,o_,o_,o_,o_,o_,o_,o_,o_,o_,o_,o_,o_,o_,o_,o_,o_,o_,o_,o_,o_,o_,o_,o_,o_,o_,o_,o_,o_] T = slots 80 [(1, (.lst (panels.flatMap pr) panels.length .shared)), (2, (.lst (turns.map L1) turns.length .shared)), (3, (.ptr 0 0)), (7, (.lst (s1.map I) s1.length cp7)), (8, (I s2))]) (h : x67_l1 b panels turns kl1_0 FU s1 s2 = some v) :
    wpR Tryz.prog ann67 67 0 none xrc67_3 T [AObj.cells [(I b.1), (.lst (b.2.1.map I) b.2.1.length .shared), (I b.2.2.1), (I b.2.2.2)]] Q := by
  unfold xrc67_3
  obtain ⟨c_1, g_1⟩ : ∃ c, xrc67_1 = c := ⟨_, rfl⟩
  rw [g_1]
  obtain ⟨c_2, g_2⟩ : ∃ c, xrc67_2 = c := ⟨_, rfl⟩
  rw [g_2]
  refine wp_loop hT ?_
  refine .intro (fun m T H => ∃ (s1 : (List Int)) (s2 : Int) (cp7 : Cap), (cp7 = (.uniq 1) ∨ cp7 = (.own 1)) ∧ T = slots 80 [(1, (.lst (panels.flatMap pr) panels.length .shared)), (2, (.lst (turns.map L1) turns.length .shared)), (3, (.ptr 0 0)), (7, (.lst (s1.map I) s1.length cp7)), (8, (I s2))] ∧ H = [AObj.cells [(I b.1), (.lst (b.2.1.map I) b.2.1.length .shared), (I b.2.2.1), (I b.2.2.2)]] ∧ x67_l1 b panels turns kl1_0 m s1 s2 = some v) FU ⟨s1, s2, _, hcp7, rfl, rfl, h⟩ ?_
  clear h hT
  rintro m T H ⟨s1, s2, cp7, hcp7, rfl, rfl, h⟩
  cases m
  · exact none_ne h
  rename_i m
  rw [x67_l1.eq_2] at h
  rcases hcp7 with rfl | rfl
  · conv => whnf
    rcases bt (decide (s2 < (turns.length : Int))) with hb1 | hb1
    · rw [hb1]
      conv => whnf
      replace h := it_t hb1 h
      obtain ⟨hb2, h⟩ := gd_some h
      refine ⟨hb2, ?_⟩
      rw [drop1 L1 turns s2 hb2]
      conv => whnf
      rcases bt (decide (((ix turns s2).length : Int) = (0 : Int))) with hb3 | hb3
      · rw [hb3]
        conv => whnf
        replace h := it_t hb3 h
        obtain rfl := Option.some.inj h
        exact hR _ _ ⟨.inr rfl, _, rfl, _, frz_pure rfl, rfl⟩
      · rw [hb3]
        conv => whnf
        replace h := it_f hb3 h
        obtain ⟨r1, hb4, h⟩ := bd_some h
        refine ⟨(allc (pu_map (fun _ => rfl) _ _ _) (allc rfl rfl)), _, x62_ok hb4, ?_⟩
        conv => whnf
        cases r1
        · conv => whnf
          replace h := it_f rfl h
          obtain rfl := Option.some.inj h
          exact hR _ _ ⟨.inr rfl, _, rfl, _, frz_pure rfl, rfl⟩
        · conv => whnf
          replace h := it_t rfl h
          obtain ⟨r2, hb5, h⟩ := bd_some h
          refine ⟨(allc (pu_agg (allc rfl (allc (pu_map (fun _ => rfl) _ _ _) (allc rfl (allc rfl rfl))))) rfl), _, x51_ok hb5, ?_⟩
          conv => whnf
          rcases bt (decide ((r2.length : Int) < ((ix turns s2).length : Int))) with hb6 | hb6
          · rw [hb6]
            conv => whnf
            replace h := it_t hb6 h
            obtain rfl := Option.some.inj h
            exact hR _ _ ⟨.inr rfl, _, rfl, _, frz_pure rfl, rfl⟩
          · rw [hb6]
            conv => whnf
            replace h := it_f hb6 h
            subst g_1
            refine x67_l2_ok ?_ ?_ (by exact rfl) h
            · exact fun T H hh => hR T H hh
            · intro u0 u6 u10 u11 u12 u13 u14 u15 u16 u17 u18 u19 u20 u21 u22 u23 u24 u25 u26 u27 u28 u29 u30 u31 u32 u33 u34 u35 u36 u37 u38 u39 u40 u41 u42 u43 u44 u45 u46 u47 u48 u49 u50 u51 u52 u53 u54 u55 u56 u57 u58 u59 u60 u61 u62 u63 u64 u65 u66 u67 u68 u69 u70 u71 u72 u73 u74 u75 u76 u77 u78 u79 h
              conv => whnf
              subst g_2
              refine x67_l3_ok ?_ ?_ ?_ (.inl rfl) (by exact rfl) h
              · exact fun T H hh => hR T H hh
              · intro u0 u6 u10 u11 u12 u13 u14 u15 u16 u17 u18 u19 u20 u21 u22 u23 u24 u25 u26 u27 u28 u29 u30 u31 u32 u33 u34 u35 u36 u37 u38 u39 u40 u41 u42 u43 u44 u45 u46 u47 u48 u49 u50 u51 u52 u53 u54 u55 u56 u57 u58 u59 u60 u61 u62 u63 u64 u65 u66 u67 u68 u69 u70 u71 u72 u73 u74 u75 u76 u77 u78 u79 h
                conv => whnf
                obtain ⟨hb16, h⟩ := gd_some h
                refine ⟨by first | rfl | simp, by have := hb16; omega, rfl, hb16, ?_⟩
                erw [apnd I s1 (ix turns s2)]
                conv => whnf
                exact ⟨m, Nat.lt_succ_self m, (s1 ++ (ix turns s2)), (w (s2 + (1 : Int))), _, (.inl rfl), rfl, rfl, h⟩
              · intro u0 u6 u10 u11 u12 u13 u14 u15 u16 u17 u18 u19 u20 u21 u22 u23 u24 u25 u26 u27 u28 u29 u30 u31 u32 u33 u34 u35 u36 u37 u38 u39 u40 u41 u42 u43 u44 u45 u46 u47 u48 u49 u50 u51 u52 u53 u54 u55 u56 u57 u58 u59 u60 u61 u62 u63 u64 u65 u66 u67 u68 u69 u70 u71 u72 u73 u74 u75 u76 u77 u78 u79 h
                conv => whnf
                obtain ⟨hb17, h⟩ := gd_some h
                refine ⟨by first | rfl | simp, by have := hb17; omega, rfl, hb17, ?_⟩
                erw [apnd I s1 (ix turns s2)]
                conv => whnf
                exact ⟨m, Nat.lt_succ_self m, (s1 ++ (ix turns s2)), (w (s2 + (1 : Int))), _, (.inr rfl), rfl, rfl, h⟩
    · rw [hb1]
      conv => whnf
      replace h := it_f hb1 h
      exact hkl1_0 _ _ _ _ _ _ _ _ _ _ _ _ _ _ _ _ _ _ _ _ _ _ _ _ _ _ _ _ _ _ _ _ _ _ _ _ _ _ _ _ _ _ _ _ _ _ _ _ _ _ _ _ _ _ _ _ _ _ _ _ _ _ _ _ _ _ _ _ _ _ _ _ _ _ _ _ _ _ h
  · conv => whnf
    rcases bt (decide (s2 < (turns.length : Int))) with hb1 | hb1
    · rw [hb1]
      conv => whnf
      replace h := it_t hb1 h
      obtain ⟨hb2, h⟩ := gd_some h
      refine ⟨hb2, ?_⟩
      rw [drop1 L1 turns s2 hb2]
      conv => whnf
      rcases bt (decide (((ix turns s2).length : Int) = (0 : Int))) with hb3 | hb3
      · rw [hb3]
        conv => whnf
        replace h := it_t hb3 h
        obtain rfl := Option.some.inj h
        exact hR _ _ ⟨.inr rfl, _, rfl, _, frz_pure rfl, rfl⟩
      · rw [hb3]
        conv => whnf
        replace h := it_f hb3 h
        obtain ⟨r1, hb4, h⟩ := bd_some h
        refine ⟨(allc (pu_map (fun _ => rfl) _ _ _) (allc rfl rfl)), _, x62_ok hb4, ?_⟩
        conv => whnf
        cases r1
        · conv => whnf
          replace h := it_f rfl h
          obtain rfl := Option.some.inj h
          exact hR _ _ ⟨.inr rfl, _, rfl, _, frz_pure rfl, rfl⟩
        · conv => whnf
          replace h := it_t rfl h
          obtain ⟨r2, hb5, h⟩ := bd_some h
          refine ⟨(allc (pu_agg (allc rfl (allc (pu_map (fun _ => rfl) _ _ _) (allc rfl (allc rfl rfl))))) rfl), _, x51_ok hb5, ?_⟩
          conv => whnf
          rcases bt (decide ((r2.length : Int) < ((ix turns s2).length : Int))) with hb6 | hb6
          · rw [hb6]
            conv => whnf
            replace h := it_t hb6 h
            obtain rfl := Option.some.inj h
            exact hR _ _ ⟨.inr rfl, _, rfl, _, frz_pure rfl, rfl⟩
          · rw [hb6]
            conv => whnf
            replace h := it_f hb6 h
            subst g_1
            refine x67_l2v_ok ?_ ?_ (by exact rfl) h
            · exact fun T H hh => hR T H hh
            · intro u0 u6 u10 u11 u12 u13 u14 u15 u16 u17 u18 u19 u20 u21 u22 u23 u24 u25 u26 u27 u28 u29 u30 u31 u32 u33 u34 u35 u36 u37 u38 u39 u40 u41 u42 u43 u44 u45 u46 u47 u48 u49 u50 u51 u52 u53 u54 u55 u56 u57 u58 u59 u60 u61 u62 u63 u64 u65 u66 u67 u68 u69 u70 u71 u72 u73 u74 u75 u76 u77 u78 u79 h
              conv => whnf
              subst g_2
              refine x67_l3v_ok ?_ ?_ (by exact rfl) h
              · exact fun T H hh => hR T H hh
              · intro u0 u6 u10 u11 u12 u13 u14 u15 u16 u17 u18 u19 u20 u21 u22 u23 u24 u25 u26 u27 u28 u29 u30 u31 u32 u33 u34 u35 u36 u37 u38 u39 u40 u41 u42 u43 u44 u45 u46 u47 u48 u49 u50 u51 u52 u53 u54 u55 u56 u57 u58 u59 u60 u61 u62 u63 u64 u65 u66 u67 u68 u69 u70 u71 u72 u73 u74 u75 u76 u77 u78 u79 h
                conv => whnf
                obtain ⟨hb16, h⟩ := gd_some h
                refine ⟨by first | rfl | simp, by have := hb16; omega, rfl, hb16, ?_⟩
                erw [apnd I s1 (ix turns s2)]
                conv => whnf
                exact ⟨m, Nat.lt_succ_self m, (s1 ++ (ix turns s2)), (w (s2 + (1 : Int))), _, (.inr rfl), rfl, rfl, h⟩
    · rw [hb1]
      conv => whnf
      replace h := it_f hb1 h
      exact hkl1_0_1 _ _ _ _ _ _ _ _ _ _ _ _ _ _ _ _ _ _ _ _ _ _ _ _ _ _ _ _ _ _ _ _ _ _ _ _ _ _ _ _ _ _ _ _ _ _ _ _ _ _ _ _ _ _ _ _ _ _ _ _ _ _ _ _ _ _ _ _ _ _ _ _ _ _ _ _ _ _ h
theorem x67_ok {b : (Int × (List Int) × Int × Int)} {panels : (List (Int × Int))} {turns : (List (List Int))} {v : Int} (h : x67 b panels turns = some v) : PO 67 [(.agg [(I b.1), (.lst (b.2.1.map I) b.2.1.length .shared), (I b.2.2.1), (I b.2.2.2)]), (.lst (panels.flatMap pr) panels.length .shared), (.lst (turns.map L1) turns.length .shared)] (I v) := by
  refine fn_pureW hmix lxx67 rfl rfl fun Q hQ => ?_
  have hR : ∀ T H, RetW [.tmp 6] (I v) .ret T H → Q .ret T H := fun T H hh => hQ _ T H hh
  unfold x67 at h
  unfold xrc67
  obtain ⟨c_3, g_3⟩ : ∃ c, xrc67_3 = c := ⟨_, rfl⟩
  rw [g_3]
  conv => whnf
  subst g_3
  refine x67_l1_ok ?_ ?_ ?_ (.inl rfl) (by exact rfl) h
  · exact fun T H hh => hR T H hh
  · intro z1 u0 u2 u3 u6 u8 u9 u10 u11 u12 u13 u14 u15 u16 u17 u18 u19 u20 u21 u22 u23 u24 u25 u26 u27 u28 u29 u30 u31 u32 u33 u34 u35 u36 u37 u38 u39 u40 u41 u42 u43 u44 u45 u46 u47 u48 u49 u50 u51 u52 u53 u54 u55 u56 u57 u58 u59 u60 u61 u62 u63 u64 u65 u66 u67 u68 u69 u70 u71 u72 u73 u74 u75 u76 u77 u78 u79 o1 h
    conv => whnf
    rcases bt (decide ((z1.length : Int) < (panels.length : Int))) with hb17 | hb17
    · rw [hb17]
      conv => whnf
      replace h := it_t hb17 h
      obtain rfl := Option.some.inj h
      exact hR _ _ ⟨.inr rfl, _, rfl, _, frz_pure rfl, rfl⟩
    · rw [hb17]
      conv => whnf
      replace h := it_f hb17 h
      obtain rfl := Option.some.inj h
      exact hR _ _ ⟨.inr rfl, _, rfl, _, frz_pure rfl, rfl⟩
  · intro z1 u0 u2 u3 u6 u8 u9 u10 u11 u12 u13 u14 u15 u16 u17 u18 u19 u20 u21 u22 u23 u24 u25 u26 u27 u28 u29 u30 u31 u32 u33 u34 u35 u36 u37 u38 u39 u40 u41 u42 u43 u44 u45 u46 u47 u48 u49 u50 u51 u52 u53 u54 u55 u56 u57 u58 u59 u60 u61 u62 u63 u64 u65 u66 u67 u68 u69 u70 u71 u72 u73 u74 u75 u76 u77 u78 u79 o1 h
    conv => whnf
    rcases bt (decide ((z1.length : Int) < (panels.length : Int))) with hb18 | hb18
    · rw [hb18]
      conv => whnf
      replace h := it_t hb18 h
      obtain rfl := Option.some.inj h
      exact hR _ _ ⟨.inr rfl, _, rfl, _, frz_pure rfl, rfl⟩
    · rw [hb18]
      conv => whnf
      replace h := it_f hb18 h
      obtain rfl := Option.some.inj h
      exact hR _ _ ⟨.inr rfl, _, rfl, _, frz_pure rfl, rfl⟩
end Go.Proofs.YtbnbjjgagikobaaGreat.Ab
