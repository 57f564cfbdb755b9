/-
  Layers whose strips all have the same width.
-/
import Derived.Test.YtlcebaejlnpdeaaJa6
import Derived.Test.YtlcebaejlnpdeaaJa4
import Derived.Test.YtlcebaejlnpdeaaProg
import Derived.KernelRfl
import Derived.Test.YtlcebaejlnpdeaaJa5
import Derived.Test.YtlcebaejlnpdeaaJa3
set_option linter.unusedSimpArgs false
set_option linter.unusedVariables false
set_option linter.unusedSectionVars false
namespace Go.Proofs.Ytlcebaejlnpdeaa.Ab
open Go
def same (n : Nat) (c : Int) : List Int := List.replicate n c
/-- The multiples of c, from the first on. -/
def mults (n : Nat) (c : Int) : List Int := (List.range n).map fun (i : Nat) => ((i : Int) + 1) * c
theorem mults_len (n : Nat) (c : Int) : (mults n c).length = n := by simp [mults]
theorem mults_get (n : Nat) (c : Int) (i : Nat) (h : i < (mults n c).length) : (mults n c)[i] = ((i : Int) + 1) * c := by simp [mults]
theorem mults_rise (n : Nat) {c : Int} (hc : 1 ≤ c) : (mults n c).Pairwise (· < ·) := by
  unfold mults
  rw [List.pairwise_map]
  refine List.Pairwise.imp ?_ (List.pairwise_lt_range (n := n))
  intro a b h
  exact Int.mul_lt_mul_of_pos_right (by omega) (by omega)
theorem sum_same (c : Int) : ∀ n : Nat, sumI (same n c) = n * c
  | 0 => by simp [same, sumI]
  | n + 1 => by
    have := sum_same c n
    rw [show same (n + 1) c = c :: same n c from rfl, sumI_cons, this, Int.natCast_add, Int.add_mul]; omega
theorem seams_same {n : Nat} {c : Int} {o : List Int} (ho : isOrd o (same n c).length = true) : seamsOf (same n c) o = mults (n - 1) c := by
  obtain ⟨h1, h2, _⟩ := isOrd_iff.1 ho
  have hl : (same n c).length = n := by simp [same]
  rw [hl] at h1 h2
  have hw : wsOf (same n c) o = same n c := by
    apply List.ext_getElem
    · simp [wsOf, same, h1]
    · intro k k1 k2
      have hk : k < o.length := by simpa [wsOf] using k1
      have := h2 _ (List.getElem_mem hk)
      simp only [wsOf, List.getElem_map, same, List.getElem_replicate]
      rw [List.getD_eq_getElem?_getD, List.getElem?_replicate, if_pos (by omega)]; rfl
  apply List.ext_getElem
  · rw [seamsOf_len, mults_len, h1]
  · intro k k1 k2
    rw [mults_len] at k2
    rw [seamsOf_get, hw, mults_get, show (same n c).take (k + 1) = same (k + 1) c by simp only [same, List.take_replicate]; congr 1; omega, sum_same]
    rw [Int.natCast_add]; rfl
theorem wl_same {n : Nat} {c : Int} (h1 : 1 ≤ n) (h5 : n ≤ 5) (hc : 1 ≤ c) : Wl (same n c) := ⟨by simpa [same] using h1, by simpa [same] using h5, fun x hx => by have := List.eq_of_mem_replicate hx; omega⟩
theorem rsums_same {n : Nat} {c : Int} (h1 : 1 ≤ n) (h5 : n ≤ 5) (hc : 1 ≤ c) : rsums (same n c) = mults (n - 1) c := by
  have hw := wl_same h1 h5 hc
  have hN := (first_perm hw.n1 hw.n5).1
  have ho := List.getElem_mem hN
  refine rise_eq (rsums_rise _) (mults_rise _ hc) fun x => ?_
  rw [rsums_mem hw]
  refine ⟨fun ⟨o, ho, hx⟩ => by rw [seams_same (perms_ord ho)] at hx; exact hx, fun hx => ⟨_, ho, by rw [seams_same (perms_ord ho)]; exact hx⟩⟩
theorem rsure_same {n : Nat} {c : Int} (h1 : 1 ≤ n) (h5 : n ≤ 5) (hc : 1 ≤ c) : rsure (same n c) = mults (n - 1) c := by
  have hw := wl_same h1 h5 hc
  have hN := (first_perm hw.n1 hw.n5).1
  have ho := List.getElem_mem hN
  refine rise_eq (rsure_rise _) (mults_rise _ hc) fun x => ?_
  rw [rsure_mem hw]
  refine ⟨fun h => by have := h _ ho; rw [seams_same (perms_ord ho)] at this; exact this, fun hx o ho => by rw [seams_same (perms_ord ho)]; exact hx⟩
/-- How many of the first so many multiples are multiples of another number. -/
def both (b c : Int) : Nat → Nat
  | 0 => 0
  | k + 1 => both b c k + (if (((k : Int) + 1) * c).tmod b = 0 then 1 else 0)
theorem both_le (b c : Int) : ∀ k, both b c k ≤ k
  | 0 => Nat.le_refl _
  | k + 1 => by have := both_le b c k; simp only [both]; split <;> omega
theorem common_both {n m : Nat} {a b : Int} (ha : 1 ≤ a) (hb : 1 ≤ b) (e : (n : Int) * a = m * b) (h1 : 1 ≤ n) : common (mults (n - 1) a) (mults (m - 1) b) = both b a (n - 1) := by
  have key : ∀ k : Nat, k + 1 ≤ n → ((mults k a).filter fun x => has (mults (m - 1) b) x).length = both b a k := by
    intro k
    induction k with
    | zero => intro _; rfl
    | succ k ih =>
      intro hk
      have ih := ih (by omega)
      have es : mults (k + 1) a = mults k a ++ [((k : Int) + 1) * a] := by simp [mults, List.range_succ]
      rw [es, List.filter_append, List.length_append, ih]
      simp only [both]
      congr 1
      have hpos : 0 < ((k : Int) + 1) * a := Int.mul_pos (by omega) (by omega)
      have hlt : ((k : Int) + 1) * a < n * a := Int.mul_lt_mul_of_pos_right (by omega) (by omega)
      have hiff : has (mults (m - 1) b) (((k : Int) + 1) * a) = true ↔ (((k : Int) + 1) * a).tmod b = 0 := by
        rw [has_iff]
        constructor
        · intro hx
          simp only [mults, List.mem_map, List.mem_range] at hx
          obtain ⟨i, _, hi⟩ := hx
          rw [← hi]; exact Int.mul_tmod_left _ _
        · intro hx
          have hd : b ∣ ((k : Int) + 1) * a := Int.dvd_of_tmod_eq_zero hx
          obtain ⟨q, hq⟩ := hd
          have hq' : ((k : Int) + 1) * a = q * b := by rw [hq, Int.mul_comm]
          rw [hq'] at hpos hlt
          rw [e] at hlt
          have q0 : 0 < q := by
            rcases Int.lt_or_le 0 q with h | h
            · exact h
            · have := Int.mul_le_mul_of_nonneg_right h (show (0 : Int) ≤ b by omega); rw [Int.zero_mul] at this; omega
          have q1 : q < m := by
            rcases Int.lt_or_le q m with h | h
            · exact h
            · have := Int.mul_le_mul_of_nonneg_right h (show (0 : Int) ≤ b by omega); omega
          rw [hq']
          simp only [mults, List.mem_map, List.mem_range]
          exact ⟨(q - 1).toNat, by omega, by rw [show (((q - 1).toNat : Nat) : Int) + 1 = q by omega]⟩
      by_cases hx : (((k : Int) + 1) * a).tmod b = 0
      · rw [if_pos hx, List.filter_cons_of_pos (hiff.2 hx)]; rfl
      · rw [if_neg hx, List.filter_cons_of_neg (fun h => hx (hiff.1 h))]; rfl
  exact key (n - 1) (by omega)
/-- Two layers of as many strips, of as many times the same width. -/
def pairP (n m : Nat) (w : Int) : List (List Int) := [same n (m * w), same m (n * w)]
theorem pairP_val {n m : Nat} {w : Int} (n1 : 1 ≤ n) (n5 : n ≤ 5) (m1 : 1 ≤ m) (m5 : m ≤ 5) (w1 : 1 ≤ w) (w20 : w ≤ 20) : Val (pairP n m w) := by
  have hb : ∀ k : Nat, 1 ≤ k → k ≤ 5 → 1 ≤ (k : Int) * w ∧ (k : Int) * w ≤ 100 := fun k h1 h5 => by
    have a := Int.mul_le_mul (show (1 : Int) ≤ k by omega) w1 (by omega) (by omega)
    have b := Int.mul_le_mul (show (k : Int) ≤ 5 by omega) w20 (by omega) (by omega)
    omega
  have hn := hb n n1 n5
  have hm := hb m m1 m5
  have hmem : ∀ l ∈ pairP n m w, l = same n (m * w) ∨ l = same m (n * w) := fun l hl => by simpa [pairP] using hl
  refine ⟨by simp [pairP], by simp [pairP], fun l hl => ?_, fun l hl => ?_, fun l hl x hx => ?_, fun l hl => ?_⟩
  · rcases hmem l hl with rfl | rfl <;> simp [same] <;> omega
  · rcases hmem l hl with rfl | rfl <;> simp [same] <;> omega
  · rcases hmem l hl with rfl | rfl <;> (have := List.eq_of_mem_replicate hx; omega)
  · have e : (n : Int) * (m * w) = m * (n * w) := by rw [← Int.mul_assoc, ← Int.mul_assoc, Int.mul_comm (n : Int) m]
    rcases hmem l hl with rfl | rfl
    · rfl
    · show sumI (same m (n * w)) = sumI (same n (m * w))
      rw [sum_same, sum_same, e]
theorem pairP_seams {n m : Nat} {w : Int} {o : List (List Int)} (ho : Ords (pairP n m w) o) : seamsBy (pairP n m w) o = [mults (n - 1) (m * w), mults (m - 1) (n * w)] := by
  have hl : o.length = 2 := ho.len
  match o, hl with
  | [x, y], _ =>
    have h0 : isOrd x (same n (m * w)).length = true := ho.ord 0 (by simp) (by simp [pairP])
    have h1 : isOrd y (same m (n * w)).length = true := ho.ord 1 (by simp) (by simp [pairP])
    simp only [pairP, seamsBy, List.zipWith_cons_cons, seams_same h0, seams_same h1]; rfl
theorem pairP_meet {n m : Nat} {w : Int} {o : List (List Int)} (n1 : 1 ≤ n) (n5 : n ≤ 5) (m1 : 1 ≤ m) (m5 : m ≤ 5) (w1 : 1 ≤ w) (w20 : w ≤ 20) (ho : Ords (pairP n m w) o) : meetN (seamsBy (pairP n m w) o) = both (n * w) (m * w) (n - 1) := by
  rw [pairP_seams ho]
  show common (mults (n - 1) (m * w)) (mults (m - 1) (n * w)) + 0 = _
  have hn := Int.mul_le_mul (show (1 : Int) ≤ n by omega) w1 (by omega) (by omega)
  have hm := Int.mul_le_mul (show (1 : Int) ≤ m by omega) w1 (by omega) (by omega)
  rw [common_both (by omega) (by omega) (by rw [← Int.mul_assoc, ← Int.mul_assoc, Int.mul_comm (n : Int) m]) n1]; rfl
theorem pairP_few {n m : Nat} {w : Int} (n1 : 1 ≤ n) (n5 : n ≤ 5) (m1 : 1 ≤ m) (m5 : m ≤ 5) (w1 : 1 ≤ w) (w20 : w ≤ 20) : fewestOf (pairP n m w) = (both (n * w) (m * w) (n - 1) : Int) := by
  obtain ⟨ho, he⟩ := few_best (pairP_val n1 n5 m1 m5 w1 w20)
  rw [he, pairP_meet n1 n5 m1 m5 w1 w20 ho]
end Go.Proofs.Ytlcebaejlnpdeaa.Ab

/-
  Contracts: SeamSums.
-/
namespace Go.Proofs.Ytlcebaejlnpdeaa.Ab
open Go
set_option maxRecDepth 20000
set_option maxHeartbeats 4000000
/-- What the program's Sums and Sure tell. -/
def sumsV (p : List (List Int)) (x : Int) : List Int := if layErr p x = 0 then rsums (p.getD x.toNat []) else []
def sureV (p : List (List Int)) (x : Int) : List Int := if layErr p x = 0 then rsure (p.getD x.toNat []) else []
theorem getD_mem {p : List (List Int)} {x : Int} (h : layErr p x = 0) : Val p ∧ p.getD x.toNat [] ∈ p := by
  obtain ⟨hv, k, rfl, hk⟩ := layErr_val h
  exact ⟨hv, by rw [show p.getD (k : Int).toNat [] = p[k] by simp [hk]]; exact List.getElem_mem hk⟩
theorem pSums2_ok (p : List (List Int)) (x : Int) (h1 : p.length ≤ 140737488355328) (h2 : ∀ l ∈ p, l.length ≤ 140737488355328) :
    PO 40 [P1 p, I x] (.tuple [.lst ((sumsV p x).map I) (sumsV p x).length (if layErr p x = 0 then .full else .shared), I (layErr p x)]) := by
  have := pSums_ok p x h1 h2
  unfold sumsV
  by_cases h : layErr p x = 0
  · obtain ⟨hv, hm⟩ := getD_mem h
    rw [if_pos h, psums_eq (hv.wl hm)] at this
    rw [if_pos h, if_pos h, h]; exact this
  · rw [if_neg h] at this
    rw [if_neg h, if_neg h]; exact this
theorem pSure2_ok (p : List (List Int)) (x : Int) (h1 : p.length ≤ 140737488355328) (h2 : ∀ l ∈ p, l.length ≤ 140737488355328) :
    PO 42 [P1 p, I x] (.tuple [L1 (sureV p x), I (layErr p x)]) := by
  have := pSure_ok p x h1 h2
  unfold sureV
  by_cases h : layErr p x = 0
  · obtain ⟨hv, hm⟩ := getD_mem h
    rw [if_pos h] at this
    rw [if_pos h, ← sure_eq (hv.wl hm)]; exact this
  · rw [if_neg h] at this
    rw [if_neg h]; exact this
end Go.Proofs.Ytlcebaejlnpdeaa.Ab

/-
  Contracts: SeamMade.
-/
namespace Go.Proofs.Ytlcebaejlnpdeaa.Ab
open Go
set_option maxRecDepth 20000
set_option maxHeartbeats 4000000
end Go.Proofs.Ytlcebaejlnpdeaa.Ab

/- MADE BY PROGRAM (rc.py): functions, looked up. -/
namespace Go.Proofs.Ytlcebaejlnpdeaa.Ab
open Go
end Go.Proofs.Ytlcebaejlnpdeaa.Ab

/- MADE BY PROGRAM (rc.py): functions, looked up. -/
namespace Go.Proofs.Ytlcebaejlnpdeaa.Ab
open Go
/-- As the table has it, but for both layers, which are frozen for the calls. -/
def ann16b : FAnn := { ops := [[], [{}, { takes := [true] }, { takes := [true] }], [{ mode := 3 }, { takes := [true] }], [{ takes := [true] }, { takes := [true] }, { takes := [true] }, { takes := [false, true] }, { takes := [true] }, { takes := [true] }, { takes := [true] }, { takes := [false, true] }, { takes := [true] }, { takes := [true] }], [{ takes := [true] }, { takes := [true] }, { takes := [true] }, { takes := [false, true] }, { takes := [true] }], [{}, { takes := [false, true], mode := 1 }, {}, { takes := [false, true], mode := 1 }, { takes := [true] }, { takes := [true] }], [], [{}, {}, { takes := [true, true] }], [{ takes := [true] }, { takes := [true] }, { takes := [true] }], [{ takes := [true], mode := 1 }, {}, {}, {}, { takes := [true, true] }, { takes := [true, true] }, { takes := [true, true] }], [], [{}, {}, { takes := [true, true] }], [{ takes := [true] }, { takes := [true] }, { takes := [true] }], [{ takes := [true], mode := 1 }, {}, {}, {}, { takes := [true, true] }, { takes := [true, true] }, { takes := [true, true] }], [{ takes := [true], mode := 2 }, { takes := [true], mode := 2 }, { takes := [true, true] }, { mode := 3 }, {}, { takes := [false, true] }], [{}, { mode := 3 }, { takes := [true] }, {}, { takes := [true] }, { takes := [true] }, { takes := [true] }], [{}, { mode := 3 }, { takes := [true] }, {}, { takes := [true] }, { takes := [true] }, { takes := [true] }], [{}, { mode := 3 }, { takes := [true] }, {}, { takes := [true] }, { takes := [true] }, { takes := [true] }], [{}, {}, { takes := [true] }, { mode := 3 }, { mode := 3 }, { takes := [true] }, {}, {}, { takes := [true] }, { takes := [true] }], [{ takes := [true] }, { takes := [true] }, { takes := [true] }, { takes := [true] }, { takes := [true] }, { takes := [true, false, true] }, { takes := [true] }, { takes := [true] }, { takes := [true] }, { takes := [true, false, true] }, { takes := [true] }, { takes := [true] }, { takes := [true] }, { takes := [true, false, true] }, { takes := [true] }, {}, { takes := [true] }, {}, { takes := [true] }, { takes := [true, true] }, { takes := [true, false, true] }, { takes := [true] }, {}, { takes := [true] }, {}, { takes := [true] }, { takes := [true, true] }, { takes := [true, false, true] }, { takes := [true] }, {}, { takes := [true] }, { takes := [true, true] }, { takes := [true, false, true] }], [], [], [], [{}, {}, { takes := [true, true] }], [{ takes := [true] }, { takes := [true] }, { takes := [true] }], [{}, {}, { takes := [true] }, { takes := [true, true] }, { takes := [true] }, {}, {}, { takes := [true] }, { takes := [true] }, { takes := [true, true] }, { takes := [true, true] }], [], [{}, {}, { takes := [true] }, { takes := [true, true] }, { takes := [true] }, {}, { takes := [true] }, { takes := [true] }, { takes := [true, true] }, { takes := [true] }], [{ takes := [true] }, { takes := [true] }, { takes := [true] }], [], [{}, {}, { takes := [true, true] }], [{ takes := [true] }, { takes := [true] }, { takes := [true] }], [{}, {}, { takes := [true] }, { takes := [true, true] }, { takes := [true] }, {}, {}, { takes := [true] }, { takes := [true] }, { takes := [true, true] }, { takes := [true, true] }], [], [{ takes := [true] }, { takes := [true] }, { takes := [true, true] }, { takes := [true] }, { mode := 3 }, { takes := [true, true] }, { takes := [true] }]], keepL := [(0, [o_,o_,o_,i_,o_,o_,o_,o_,o_,i_,i_,i_,i_,i_,i_,o_,o_,o_,o_,o_,o_,o_,o_,o_,o_,o_,o_,o_,o_,o_,o_,o_,o_,o_,o_,o_,o_,o_,o_,o_,o_,o_,o_,o_,o_,o_,o_,o_,o_,o_,o_,o_,o_,o_,o_,o_,o_,o_,o_,o_,o_,o_,o_,o_,o_,o_,o_,o_,o_,o_,o_,o_,o_,o_,o_,o_,o_,o_,o_,o_,o_,o_,o_,o_,o_,o_,o_,o_,o_,o_,o_,o_,o_,o_,o_,o_,o_,o_,o_,o_,o_,o_,o_,o_,o_,o_,o_,o_,o_,o_,o_,o_,o_,o_,o_,o_,o_,o_,o_,o_,o_,o_,o_,o_,o_,o_,o_,o_,o_,o_,o_,o_,o_,o_,o_,o_,o_,o_,o_,o_,o_,o_,o_,o_,o_,o_,o_,o_,o_,o_,o_,o_,o_,o_,o_,o_,o_,o_,o_,o_,o_,o_,o_,o_,o_,o_,o_,o_,o_,o_,o_,o_,o_,o_,o_,o_,o_,o_,o_,o_]), (2, [o_,o_,o_,i_,o_,o_,o_,o_,o_,i_,i_,i_,i_,i_,o_,i_,o_,o_,o_,o_,o_,o_,o_,o_,o_,o_,o_,o_,o_,o_,o_,o_,o_,o_,o_,o_,o_,o_,o_,o_,o_,o_,o_,o_,o_,o_,o_,o_,o_,o_,o_,o_,o_,o_,o_,o_,o_,o_,o_,o_,o_,o_,o_,o_,o_,o_,o_,o_,o_,o_,o_,o_,o_,o_,o_,o_,o_,o_,o_,o_,o_,o_,o_,o_,o_,o_,o_,o_,o_,o_,o_,o_,o_,o_,o_,o_,o_,o_,o_,o_,o_,o_,o_,o_,o_,o_,o_,o_,o_,o_,o_,o_,o_,o_,o_,o_,o_,o_,o_,o_,o_,o_,o_,o_,o_,o_,o_,o_,o_,o_,o_,o_,o_,o_,o_,o_,o_,o_,o_,o_,o_,o_,o_,o_,o_,o_,o_,o_,o_,o_,o_,o_,o_,o_,o_,o_,o_,o_,o_,o_,o_,o_,o_,o_,o_,o_,o_,o_,o_,o_,o_,o_,o_,o_,o_,o_,o_,o_,o_,o_]), (4, [o_,o_,o_,o_,o_,o_,o_,o_,o_,i_,i_,o_,i_,i_,o_,o_,o_,i_,o_,i_,o_,i_,o_,o_,o_,i_,i_,o_,o_,o_,o_,o_,o_,o_,o_,o_,o_,o_,o_,o_,o_,o_,o_,o_,o_,o_,o_,o_,o_,o_,o_,o_,o_,o_,o_,o_,o_,o_,o_,o_,o_,o_,o_,o_,o_,o_,o_,o_,o_,o_,o_,o_,o_,o_,o_,o_,o_,o_,o_,o_,o_,o_,o_,o_,o_,o_,o_,o_,o_,o_,o_,o_,o_,o_,o_,o_,o_,o_,o_,o_,o_,o_,o_,o_,o_,o_,o_,o_,o_,o_,o_,o_,o_,o_,o_,o_,o_,o_,o_,o_,o_,o_,o_,o_,o_,o_,o_,o_,o_,o_,o_,o_,o_,o_,o_,o_,o_,o_,o_,o_,o_,o_,o_,o_,o_,o_,o_,o_,o_,o_,o_,o_,o_,o_,o_,o_,o_,o_,o_,o_,o_,o_,o_,o_,o_,o_,o_,o_,o_,o_,o_,o_,o_,o_,o_,o_,o_,o_,o_,o_]), (6, [o_,o_,o_,o_,o_,o_,o_,o_,o_,o_,i_,o_,o_,i_,o_,o_,o_,o_,o_,i_,o_,i_,o_,o_,o_,i_,o_,i_,o_,o_,o_,o_,o_,o_,o_,o_,o_,o_,o_,o_,o_,o_,o_,o_,o_,o_,o_,o_,o_,o_,o_,o_,o_,o_,o_,o_,o_,o_,o_,o_,o_,o_,o_,o_,o_,o_,o_,o_,o_,o_,o_,o_,o_,o_,o_,o_,o_,o_,o_,o_,o_,o_,o_,o_,o_,o_,o_,o_,o_,o_,o_,o_,o_,o_,o_,o_,o_,o_,o_,o_,o_,o_,o_,o_,o_,o_,o_,o_,o_,o_,o_,o_,o_,o_,o_,o_,o_,o_,o_,o_,o_,o_,o_,o_,o_,o_,o_,o_,o_,o_,o_,o_,o_,o_,o_,o_,o_,o_,o_,o_,o_,o_,o_,o_,o_,o_,o_,o_,o_,o_,o_,o_,o_,o_,o_,o_,o_,o_,o_,o_,o_,o_,o_,o_,o_,o_,o_,o_,o_,o_,o_,o_,o_,o_,o_,o_,o_,o_,o_,o_])] }
noncomputable def rc16b_1 : RC :=
  .block 1 (.reg false [⟨some 53, [.tk 12], none, some 12, .thaw⟩, I_ 54 [.sl 14] .mv, I_ 55 [.sl 10] .mv, I_ 56 [.sl 11] .mv, I_ 57 [.tv 55, .tv 56] (.bin .mul), I_ 58 [.tv 53, .tv 54] (.ia 1), ⟨none, [.tk 58, .tk 57], none, none,
  .st 1⟩])
noncomputable def rc16b_2 : RC :=
  .seq (.seq (.reg false [I_ 48 [.sl 14] .mv, I_ 49 [.sl 9] .mv, I_ 50 [.tv 48, .tv 49] (.bin .lss)]) (.cond (.sl 50) .skip (.exit 0))) (.seq rc16b_1 (.reg false [I_ 51 [.tk 14] .mv, I_ 52 [.tv 51, .cv (.int .i64 1)] (.bin .add), I_
  14 [.tk 52] .mv]))
noncomputable def rc16b_3 : RC :=
  .block 3 (.reg false [⟨some 64, [.tk 13], none, some 13, .thaw⟩, I_ 65 [.sl 15] .mv, I_ 66 [.sl 9] .mv, I_ 67 [.sl 11] .mv, I_ 68 [.tv 66, .tv 67] (.bin .mul), I_ 69 [.tv 64, .tv 65] (.ia 1), ⟨none, [.tk 69, .tk 68], none, none,
  .st 1⟩])
noncomputable def rc16b_4 : RC :=
  .seq (.seq (.reg false [I_ 59 [.sl 15] .mv, I_ 60 [.sl 10] .mv, I_ 61 [.tv 59, .tv 60] (.bin .lss)]) (.cond (.sl 61) .skip (.exit 2))) (.seq rc16b_3 (.reg false [I_ 62 [.tk 15] .mv, I_ 63 [.tv 62, .cv (.int .i64 1)] (.bin .add),
  I_ 15 [.tk 63] .mv]))
noncomputable def rc16b_5 : RC :=
  .seq (.reg true [I_ 146 [.sl 17] .mv, I_ 147 [.sl 26] .mv, I_ 148 [.tv 147, .cv (.int .i64 1)] (.bin .sub), I_ 149 [.tv 146, .tv 148] (.ia 1), I_ 150 [.tv 149] (.ld .one), I_ 151 [.sl 13] .mv, I_ 152 [.tv 151, .cv (.int .i64 0)]
  (.ia 1), I_ 153 [.tv 152] (.ld .one), I_ 154 [.tv 150, .tv 153] (.bin .rem), I_ 155 [.tv 154, .cv (.int .i64 0)] (.bin .eql)]) (.cond (.sl 155) (.reg false [I_ 156 [.tk 25] .mv, I_ 157 [.tv 156, .cv (.int .i64 1)] (.bin .add),
  I_ 25 [.tk 157] .mv]) .skip)
noncomputable def rc16b_6 : RC :=
  .block 5 (.seq (.seq (.reg true [I_ 135 [.sl 17] .mv, I_ 136 [.sl 26] .mv, I_ 137 [.tv 136, .cv (.int .i64 1)] (.bin .sub), I_ 138 [.tv 135, .tv 137] (.ia 1), I_ 139 [.tv 138] (.ld .one), I_ 140 [.sl 26] .mv, I_ 141 [.sl 12] .mv,
  I_ 142 [.tv 141, .cv (.int .i64 0)] (.ia 1), I_ 143 [.tv 142] (.ld .one), I_ 144 [.tv 140, .tv 143] (.bin .mul), I_ 145 [.tv 139, .tv 144] (.bin .neq)]) (.cond (.sl 145) (.seq (.reg false [I_ 8 [.cv (.bool false)] .mv]) .ret)
  .skip)) rc16b_5)
noncomputable def rc16b_7 : RC :=
  .seq (.seq (.reg false [I_ 130 [.sl 26] .mv, I_ 131 [.sl 9] .mv, I_ 132 [.tv 130, .tv 131] (.bin .lss)]) (.cond (.sl 132) .skip (.exit 4))) (.seq rc16b_6 (.reg false [I_ 133 [.tk 26] .mv, I_ 134 [.tv 133, .cv (.int .i64 1)] (.bin
  .add), I_ 26 [.tk 134] .mv]))
noncomputable def rc16b_8 : RC :=
  .block 7 (.seq (.reg true [I_ 163 [.sl 19] .mv, I_ 164 [.sl 27] .mv, I_ 165 [.tv 164, .cv (.int .i64 1)] (.bin .sub), I_ 166 [.tv 163, .tv 165] (.ia 1), I_ 167 [.tv 166] (.ld .one), I_ 168 [.sl 27] .mv, I_ 169 [.sl 13] .mv, I_
  170 [.tv 169, .cv (.int .i64 0)] (.ia 1), I_ 171 [.tv 170] (.ld .one), I_ 172 [.tv 168, .tv 171] (.bin .mul), I_ 173 [.tv 167, .tv 172] (.bin .neq)]) (.cond (.sl 173) (.seq (.reg false [I_ 8 [.cv (.bool false)] .mv]) .ret)
  .skip))
noncomputable def rc16b_9 : RC :=
  .seq (.seq (.reg false [I_ 158 [.sl 27] .mv, I_ 159 [.sl 10] .mv, I_ 160 [.tv 158, .tv 159] (.bin .lss)]) (.cond (.sl 160) .skip (.exit 6))) (.seq rc16b_8 (.reg false [I_ 161 [.tk 27] .mv, I_ 162 [.tv 161, .cv (.int .i64 1)] (.bin
  .add), I_ 27 [.tk 162] .mv]))
noncomputable def rc16b_10 : RC :=
  .seq (.reg false [I_ 174 [.tk 21] .mv, I_ 175 [.tk 25] .mv, I_ 176 [.tv 174, .tv 175] (.bin .eql), I_ 177 [.tk 176] .mv, ⟨some 178, [.cv (.func 20 [] [])], some (177, true), none, .call 3⟩, I_ 179 [.tv 177, .tv 178, .cv (.bool
  false)] .pick, I_ 8 [.tk 179] .mv]) .ret
noncomputable def rc16b_11 : RC :=
  .seq (.seq (.reg false [I_ 97 [.tk 18] .mv, I_ 98 [.tv 97, .cv (.int .i64 0)] (.bin .neq), I_ 99 [.tk 98] .mv, ⟨some 100, [.tk 20], some (99, false), none, .mv⟩, ⟨some 101, [.tv 100, .cv (.int .i64 0)], some (99, false), none,
  .bin .neq⟩, I_ 102 [.tv 99, .cv (.bool true), .tv 101] .pick, I_ 103 [.tk 102] .mv, ⟨some 104, [.tk 22], some (103, false), none, .mv⟩, ⟨some 105, [.tv 104, .cv (.int .i64 0)], some (103, false), none, .bin .neq⟩, I_ 106 [.tv
  103, .cv (.bool true), .tv 105] .pick, I_ 107 [.tk 106] .mv, ⟨some 108, [.tk 24], some (107, false), none, .mv⟩, ⟨some 109, [.tv 108, .cv (.int .i64 0)], some (107, false), none, .bin .neq⟩, I_ 110 [.tv 107, .cv (.bool true),
  .tv 109] .pick, I_ 111 [.tk 110] .mv, ⟨some 112, [.sl 17], some (111, false), none, .mv⟩, ⟨some 113, [.tk 112], some (111, false), none, .lenS⟩, ⟨some 114, [.sl 9], some (111, false), none, .mv⟩, ⟨some 115, [.tv 114, .cv (.int
  .i64 1)], some (111, false), none, .bin .sub⟩, ⟨some 116, [.tv 113, .tv 115], some (111, false), none, .bin .neq⟩, I_ 117 [.tv 111, .cv (.bool true), .tv 116] .pick, I_ 118 [.tk 117] .mv, ⟨some 119, [.sl 19], some (118, false),
  none, .mv⟩, ⟨some 120, [.tk 119], some (118, false), none, .lenS⟩, ⟨some 121, [.sl 10], some (118, false), none, .mv⟩, ⟨some 122, [.tv 121, .cv (.int .i64 1)], some (118, false), none, .bin .sub⟩, ⟨some 123, [.tv 120, .tv 122],
  some (118, false), none, .bin .neq⟩, I_ 124 [.tv 118, .cv (.bool true), .tv 123] .pick, I_ 125 [.tk 124] .mv, ⟨some 126, [.sl 21], some (125, false), none, .mv⟩, ⟨some 127, [.tk 23], some (125, false), none, .mv⟩, ⟨some 128,
  [.tv 126, .tv 127], some (125, false), none, .bin .neq⟩, I_ 129 [.tv 125, .cv (.bool true), .tv 128] .pick]) (.cond (.sl 129) (.seq (.reg false [I_ 8 [.cv (.bool false)] .mv]) .ret) .skip)) (.seq (.reg false [I_ 25 [.cv (.int
  .i64 0)] .mv]) (.seq (.seq (.reg false [I_ 26 [.cv (.int .i64 1)] .mv]) (.block 4 (.loop (some [o_,o_,o_,o_,o_,o_,o_,o_,o_,i_,i_,o_,i_,i_,o_,o_,o_,i_,o_,i_,o_,i_,o_,o_,o_,i_,i_,o_,o_,o_,o_,o_,o_,o_,o_,o_,o_,o_,o_,o_,o_,o_,o_,o_,o_,o_,o_,o_,o_,o_,o_,o_,o_,o_,o_,o_,o_,o_,o_,o_,o_,o_,o_,o_,o_,o_,o_,o_,o_,o_,o_,o_,o_,o_,o_,o_,o_,o_,o_,o_,o_,o_,o_,o_,o_,o_,o_,o_,o_,o_,o_,o_,o_,o_,o_,o_,o_,o_,o_,o_,o_,o_,o_,o_,o_,o_,o_,o_,o_,o_,o_,o_,o_,o_,o_,o_,o_,o_,o_,o_,o_,o_,o_,o_,o_,o_,o_,o_,o_,o_,o_,o_,o_,o_,o_,o_,o_,o_,o_,o_,o_,o_,o_,o_,o_,o_,o_,o_,o_,o_,o_,o_,o_,o_,o_,o_,o_,o_,o_,o_,o_,o_,o_,o_,o_,o_,o_,o_,o_,o_,o_,o_,o_,o_,o_,o_,o_,o_,o_,o_])
  rc16b_7))) (.seq (.seq (.reg false [I_ 27 [.cv (.int .i64 1)] .mv]) (.block 6 (.loop (some [o_,o_,o_,o_,o_,o_,o_,o_,o_,o_,i_,o_,o_,i_,o_,o_,o_,o_,o_,i_,o_,i_,o_,o_,o_,i_,o_,i_,o_,o_,o_,o_,o_,o_,o_,o_,o_,o_,o_,o_,o_,o_,o_,o_,o_,o_,o_,o_,o_,o_,o_,o_,o_,o_,o_,o_,o_,o_,o_,o_,o_,o_,o_,o_,o_,o_,o_,o_,o_,o_,o_,o_,o_,o_,o_,o_,o_,o_,o_,o_,o_,o_,o_,o_,o_,o_,o_,o_,o_,o_,o_,o_,o_,o_,o_,o_,o_,o_,o_,o_,o_,o_,o_,o_,o_,o_,o_,o_,o_,o_,o_,o_,o_,o_,o_,o_,o_,o_,o_,o_,o_,o_,o_,o_,o_,o_,o_,o_,o_,o_,o_,o_,o_,o_,o_,o_,o_,o_,o_,o_,o_,o_,o_,o_,o_,o_,o_,o_,o_,o_,o_,o_,o_,o_,o_,o_,o_,o_,o_,o_,o_,o_,o_,o_,o_,o_,o_,o_,o_,o_,o_,o_,o_,o_,o_,o_,o_,o_,o_,o_]) rc16b_9)))
  rc16b_10)))
noncomputable def rc16b_12 : RC :=
  .seq (.reg true [I_ 90 [.sl 16] (.ld (.str 1)), I_ 91 [.sl 16] (.ld (.str 1)), I_ 92 [.tk 3] .mv, I_ 93 [.cv (.func 50 [] []), .sl 91, .sl 92] (.call 3), I_ 94 [.cv (.func 21 [] []), .sl 90, .sl 93] (.call 3), I_ 89 [.tk 94] .mv,
  I_ 95 [.sl 89] (.ext 0), I_ 96 [.sl 89] (.ext 1), I_ 23 [.tk 95] .mv, I_ 24 [.tk 96] .mv]) rc16b_11
noncomputable def rc16b_13 : RC :=
  .seq (.reg false [I_ 85 [.sl 16] (.ld (.str 1)), I_ 86 [.cv (.func 37 [] []), .sl 85, .cv (.int .i64 0)] (.call 3), I_ 84 [.tk 86] .mv, I_ 87 [.sl 84] (.ext 0), I_ 88 [.tv 84] (.ext 1), I_ 21 [.tk 87] .mv, I_ 22 [.tk 88] .mv])
  rc16b_12
noncomputable def rc16b_14 : RC :=
  .seq (.reg false [I_ 80 [.sl 16] (.ld (.str 1)), I_ 81 [.cv (.func 40 [] []), .sl 80, .cv (.int .i64 1)] (.call 3), I_ 79 [.tk 81] .mv, I_ 82 [.sl 79] (.ext 0), I_ 83 [.tv 79] (.ext 1), I_ 19 [.tk 82] .mv, I_ 20 [.tk 83] .mv])
  rc16b_13
noncomputable def rc16b_15 : RC :=
  .seq (.reg false [I_ 75 [.sl 16] (.ld (.str 1)), I_ 76 [.cv (.func 42 [] []), .sl 75, .cv (.int .i64 0)] (.call 3), I_ 74 [.tk 76] .mv, I_ 77 [.sl 74] (.ext 0), I_ 78 [.tv 74] (.ext 1), I_ 17 [.tk 77] .mv, I_ 18 [.tk 78] .mv])
  rc16b_14
noncomputable def rc16b_16 : RC :=
  .seq (.reg false [⟨some 70, [.tk 12], none, some 12, .other (Oper.mk (some 70) (Op.move (Operand.tmp 12)) 37 "outright.go:306" (Array.mk []) none) 2⟩, ⟨some 71, [.tk 13], none, some 13, .other (Oper.mk (some 71) (Op.move
  (Operand.tmp 13)) 37 "outright.go:306" (Array.mk []) none) 2⟩, I_ 72 [.tv 70, .tv 71] (.buildS 2 1 [.lst [] 0 .full] [0, 1]), I_ 73 [.cv (.func 56 [] []), .sl 72] (.call 3), I_ 16 [] (.alloc [.lst [] 0 .full]), ⟨none, [.sl 16,
  .tk 73], none, none, .st 1⟩]) rc16b_15
noncomputable def rc16b_17 : RC :=
  .seq (.reg true [I_ 44 [.sl 9] .mv, I_ 45 [.sl 44, .tv 44] (.mkO [.int .i64 0] 1 8), I_ 46 [.sl 10] .mv, I_ 47 [.sl 46, .tv 46] (.mkO [.int .i64 0] 1 8), I_ 12 [.tk 45] .mv, I_ 13 [.tk 47] .mv]) (.seq (.seq (.reg false [I_ 14
  [.cv (.int .i64 0)] .mv]) (.block 0 (.loop (some [o_,o_,o_,i_,o_,o_,o_,o_,o_,i_,i_,i_,i_,i_,i_,o_,o_,o_,o_,o_,o_,o_,o_,o_,o_,o_,o_,o_,o_,o_,o_,o_,o_,o_,o_,o_,o_,o_,o_,o_,o_,o_,o_,o_,o_,o_,o_,o_,o_,o_,o_,o_,o_,o_,o_,o_,o_,o_,o_,o_,o_,o_,o_,o_,o_,o_,o_,o_,o_,o_,o_,o_,o_,o_,o_,o_,o_,o_,o_,o_,o_,o_,o_,o_,o_,o_,o_,o_,o_,o_,o_,o_,o_,o_,o_,o_,o_,o_,o_,o_,o_,o_,o_,o_,o_,o_,o_,o_,o_,o_,o_,o_,o_,o_,o_,o_,o_,o_,o_,o_,o_,o_,o_,o_,o_,o_,o_,o_,o_,o_,o_,o_,o_,o_,o_,o_,o_,o_,o_,o_,o_,o_,o_,o_,o_,o_,o_,o_,o_,o_,o_,o_,o_,o_,o_,o_,o_,o_,o_,o_,o_,o_,o_,o_,o_,o_,o_,o_,o_,o_,o_,o_,o_,o_,o_,o_,o_,o_,o_,o_]) rc16b_2))) (.seq (.seq (.reg false [I_ 15
  [.cv (.int .i64 0)] .mv]) (.block 2 (.loop (some [o_,o_,o_,i_,o_,o_,o_,o_,o_,i_,i_,i_,i_,i_,o_,i_,o_,o_,o_,o_,o_,o_,o_,o_,o_,o_,o_,o_,o_,o_,o_,o_,o_,o_,o_,o_,o_,o_,o_,o_,o_,o_,o_,o_,o_,o_,o_,o_,o_,o_,o_,o_,o_,o_,o_,o_,o_,o_,o_,o_,o_,o_,o_,o_,o_,o_,o_,o_,o_,o_,o_,o_,o_,o_,o_,o_,o_,o_,o_,o_,o_,o_,o_,o_,o_,o_,o_,o_,o_,o_,o_,o_,o_,o_,o_,o_,o_,o_,o_,o_,o_,o_,o_,o_,o_,o_,o_,o_,o_,o_,o_,o_,o_,o_,o_,o_,o_,o_,o_,o_,o_,o_,o_,o_,o_,o_,o_,o_,o_,o_,o_,o_,o_,o_,o_,o_,o_,o_,o_,o_,o_,o_,o_,o_,o_,o_,o_,o_,o_,o_,o_,o_,o_,o_,o_,o_,o_,o_,o_,o_,o_,o_,o_,o_,o_,o_,o_,o_,o_,o_,o_,o_,o_,o_,o_,o_,o_,o_,o_,o_]) rc16b_4))) rc16b_16))
noncomputable def rc16b_18 : RC :=
  .seq (.reg false [I_ 40 [.tk 2] .mv, I_ 41 [.tv 40] (.conv .i64), I_ 42 [.tv 41, .cv (.int .i64 20)] (.bin .rem), I_ 43 [.cv (.int .i64 1), .tv 42] (.bin .add), I_ 11 [.tk 43] .mv]) rc16b_17
noncomputable def rc16b_19 : RC :=
  .seq (.reg false [I_ 32 [.tk 0] .mv, I_ 33 [.tv 32] (.conv .i64), I_ 34 [.tv 33, .cv (.int .i64 5)] (.bin .rem), I_ 35 [.cv (.int .i64 1), .tv 34] (.bin .add), I_ 36 [.tk 1] .mv, I_ 37 [.tv 36] (.conv .i64), I_ 38 [.tv 37, .cv
  (.int .i64 5)] (.bin .rem), I_ 39 [.cv (.int .i64 1), .tv 38] (.bin .add), I_ 9 [.tk 35] .mv, I_ 10 [.tk 39] .mv]) rc16b_18
noncomputable def rc16b_20 : RC :=
  .seq (.seq (.reg false [I_ 28 [.sl 3] .mv, I_ 29 [.tk 28] .lenS, I_ 30 [.tv 29, .cv (.int .i64 30)] (.bin .gtr)]) (.cond (.sl 30) (.seq (.reg false [I_ 31 [.cv (.func 20 [] [])] (.call 3), I_ 8 [.tk 31] .mv]) .ret) .skip)) rc16b_19
noncomputable def rc16b : RC :=
  .seq (.reg false [I_ 8 [.cv (.bool false)] .mv]) rc16b_20
theorem lk16b : linkF Go.Proofs.Try.prog ann16b 16 = some (rc16b, 180, [.tmp 8]) := by kernel_rfl
end Go.Proofs.Ytlcebaejlnpdeaa.Ab

/-
  Contracts: SeamAlike.
-/
namespace Go.Proofs.Ytlcebaejlnpdeaa.Ab
open Go
set_option maxRecDepth 20000
set_option maxHeartbeats 4000000
theorem ppanel_ok (p : List (List Int)) : PO 56 [L2 p] (P1 p) := by
  refine fn_pure hmix lk56 rfl (puP p _ _) ?_
  unfold rc56
  conv => whnf
  exact ret_pure (.inr rfl) (puP p _ _) rfl
section
variable {n m : Nat} {w : Int}
omit n m in
theorem mul_bd {k : Nat} (h1 : 1 ≤ k) (h5 : k ≤ 5) (w1 : 1 ≤ w) (w20 : w ≤ 20) : 1 ≤ (k : Int) * w ∧ (k : Int) * w ≤ 100 := by
  have a := Int.mul_le_mul (show (1 : Int) ≤ k by omega) w1 (by omega) (by omega)
  have b := Int.mul_le_mul (show (k : Int) ≤ 5 by omega) w20 (by omega) (by omega)
  omega
theorem alike_end (hw : WK) (n1 : 1 ≤ n) (n5 : n ≤ 5) (m1 : 1 ≤ m) (m5 : m ≤ 5) (w1 : 1 ≤ w) (w20 : w ≤ 20) (y : List Int) (y1 y2 x1 x2 x3 x4 x5 x6 x7 x8 x9 : AV) (T : List AV) (H : List AObj)
    (hT : T = slots 180 [(9, I n), (10, I m), (11, I w), (12, L1 (same n (m * w))), (13, L1 (same m (n * w))), (15, y1), (16, .ptr 2 0), (17, L1 (mults (n - 1) (m * w))), (18, I 0), (19, L1 (mults (m - 1) (n * w))), (20, I 0), (21, I (both (n * w) (m * w) (n - 1))), (22, I 0), (23, I (both (n * w) (m * w) (n - 1))), (24, I 0), (61, y2), (72, x1), (75, x2), (80, x3), (85, x4), (89, x5), (90, x6), (91, x7), (92, x8), (93, x9)])
    (Q : Ex → List AV → List AObj → Prop) (hQ : ∀ e T1 H1, Ret [.tmp 8] (B true) e T1 H1 → Q e T1 H1) :
    wpR Go.Proofs.Try.prog ann16b 16 0 none rc16b_11 T H Q := by
  subst hT
  unfold rc16b_11
  have l1 := mults_len (n - 1) (m * w)
  have l2 := mults_len (m - 1) (n * w)
  conv => whnf
  rw [decide_eq_false (show ¬ (((mults (n - 1) (m * w)).length : Int) ≠ IntKind.i64.wrap ((n : Int) - 1)) by rw [wrapI _ (by omega) (by omega)]; omega)]
  conv => whnf
  rw [decide_eq_false (show ¬ (((mults (m - 1) (n * w)).length : Int) ≠ IntKind.i64.wrap ((m : Int) - 1)) by rw [wrapI _ (by omega) (by omega)]; omega)]
  conv => whnf
  rw [decide_eq_false (show ¬ ((both (n * w) (m * w) (n - 1) : Int) ≠ (both (n * w) (m * w) (n - 1) : Int)) from fun h => h rfl)]
  obtain ⟨c7, g7⟩ : ∃ c, rc16b_7 = c := ⟨_, rfl⟩
  obtain ⟨c9, g9⟩ : ∃ c, rc16b_9 = c := ⟨_, rfl⟩
  obtain ⟨c10, g10⟩ : ∃ c, rc16b_10 = c := ⟨_, rfl⟩
  rw [g7, g9, g10]
  conv => whnf
  have bn : 1 ≤ (n : Int) * w ∧ (n : Int) * w ≤ 100 := mul_bd n1 n5 w1 w20
  have bm : 1 ≤ (m : Int) * w ∧ (m : Int) * w ≤ 100 := mul_bd m1 m5 w1 w20
  have sn : (same n (m * w)).length = n := by simp [same]
  have sm : (same m (n * w)).length = m := by simp [same]
  have gn : ∀ (h : 0 < (same n (m * w)).length), (same n (m * w))[0] = m * w := fun h => by simp [same]
  have gm : ∀ (h : 0 < (same m (n * w)).length), (same m (n * w))[0] = n * w := fun h => by simp [same]
  refine .intro (CI (fun k => slots 180 [(9, I n), (10, I m), (12, L1 (same n (m * w))), (13, L1 (same m (n * w))), (17, L1 (mults (n - 1) (m * w))), (19, L1 (mults (m - 1) (n * w))), (21, I (both (n * w) (m * w) (n - 1))), (25, I (both (n * w) (m * w) k)), (26, I (k + 1 : Nat))]) (n - 1) H) (n - 1) (ci0 rfl) ?_
  rintro q T H ⟨k, hk, rfl, rfl, rfl⟩
  subst g7
  unfold rc16b_7
  obtain ⟨c6, g6⟩ : ∃ c, rc16b_6 = c := ⟨_, rfl⟩
  rw [g6]
  conv => whnf
  refine dcase (fun h => ?_) (fun h => ?_)
  · have hkn : k < n - 1 := by omega
    subst g6
    unfold rc16b_6
    obtain ⟨c5, g5⟩ : ∃ c, rc16b_5 = c := ⟨_, rfl⟩
    rw [g5]
    conv => whnf
    have ek : IntKind.i64.wrap (((k + 1 : Nat) : Int) - 1) = (k : Int) := by rw [wrapI _ (by omega) (by omega)]; omega
    rw [ek]
    refine ⟨by omega, ?_⟩
    conv => whnf
    refine nthM _ _ _ ((show k < (mults (n - 1) (m * w)).length by omega)) ?_
    conv => whnf
    refine ⟨by omega, ?_⟩
    conv => whnf
    refine nthM I (same n (m * w)) 0 (by omega) ?_
    conv => whnf
    have bk : 1 ≤ ((k : Int) + 1) * (m * w) ∧ ((k : Int) + 1) * (m * w) ≤ 1000 := by
      have a := Int.mul_le_mul (show (1 : Int) ≤ (k : Int) + 1 by omega) bm.1 (by omega) (by omega)
      have b := Int.mul_le_mul (show (k : Int) + 1 ≤ 5 by omega) bm.2 (by omega) (by omega)
      omega
    rw [gn, mults_get, show ((k + 1 : Nat) : Int) = (k : Int) + 1 from rfl, wrapI (((k : Int) + 1) * (m * w)) (by omega) (by omega), decide_eq_false (show ¬ (((k : Int) + 1) * (m * w) ≠ ((k : Int) + 1) * (m * w)) from fun h => h rfl)]
    conv => whnf
    subst g5
    unfold rc16b_5
    conv => whnf
    rw [show IntKind.i64.wrap ((k : Int) + 1 - 1) = (k : Int) from ek]
    refine ⟨by omega, ?_⟩
    conv => whnf
    refine nthM _ _ _ ((show k < (mults (n - 1) (m * w)).length by omega)) ?_
    conv => whnf
    refine ⟨by omega, ?_⟩
    conv => whnf
    refine nthM I (same m (n * w)) 0 (by omega) ?_
    conv => whnf
    rw [gm, mults_get]
    refine ⟨by omega, ?_⟩
    conv => whnf
    have hbl := both_le (n * w) (m * w) k
    refine dcase (fun h2 => ?_) (fun h2 => ?_)
    · conv => whnf
      refine ciN hkn ?_
      rw [show both (n * w) (m * w) (k + 1) = both (n * w) (m * w) k + 1 by simp only [both]; rw [if_pos h2], ← wrapS _ (by omega), ← wrapS (k + 1) (by omega)]
      rfl
    · conv => whnf
      refine ciN hkn ?_
      rw [show both (n * w) (m * w) (k + 1) = both (n * w) (m * w) k by simp only [both]; rw [if_neg h2, Nat.add_zero], ← wrapS (k + 1) (by omega)]
      rfl
  · obtain rfl : k = n - 1 := by omega
    conv => whnf
    refine .intro (CI (fun k => slots 180 [(10, I m), (13, L1 (same m (n * w))), (19, L1 (mults (m - 1) (n * w))), (21, I (both (n * w) (m * w) (n - 1))), (25, I (both (n * w) (m * w) (n - 1))), (27, I (k + 1 : Nat))]) (m - 1) H) (m - 1) (ci0 rfl) ?_
    rintro q T H ⟨k, hk, rfl, rfl, rfl⟩
    subst g9
    unfold rc16b_9
    obtain ⟨c8, g8⟩ : ∃ c, rc16b_8 = c := ⟨_, rfl⟩
    rw [g8]
    conv => whnf
    refine dcase (fun h => ?_) (fun h => ?_)
    · have hkn : k < m - 1 := by omega
      subst g8
      unfold rc16b_8
      conv => whnf
      have ek : IntKind.i64.wrap (((k + 1 : Nat) : Int) - 1) = (k : Int) := by rw [wrapI _ (by omega) (by omega)]; omega
      rw [ek]
      refine ⟨by omega, ?_⟩
      conv => whnf
      refine nthM _ _ _ ((show k < (mults (m - 1) (n * w)).length by omega)) ?_
      conv => whnf
      refine ⟨by omega, ?_⟩
      conv => whnf
      refine nthM I (same m (n * w)) 0 (by omega) ?_
      conv => whnf
      have bk : 1 ≤ ((k : Int) + 1) * (n * w) ∧ ((k : Int) + 1) * (n * w) ≤ 1000 := by
        have a := Int.mul_le_mul (show (1 : Int) ≤ (k : Int) + 1 by omega) bn.1 (by omega) (by omega)
        have b := Int.mul_le_mul (show (k : Int) + 1 ≤ 5 by omega) bn.2 (by omega) (by omega)
        omega
      rw [gm, mults_get, show ((k + 1 : Nat) : Int) = (k : Int) + 1 from rfl, wrapI (((k : Int) + 1) * (n * w)) (by omega) (by omega), decide_eq_false (show ¬ (((k : Int) + 1) * (n * w) ≠ ((k : Int) + 1) * (n * w)) from fun h => h rfl)]
      conv => whnf
      exact ciN hkn (by rw [← wrapS (k + 1) (by omega)]; rfl)
    · obtain rfl : k = m - 1 := by omega
      conv => whnf
      subst g10
      unfold rc16b_10
      conv => whnf
      rw [decide_eq_true (show (both (n * w) (m * w) (n - 1) : Int) = (both (n * w) (m * w) (n - 1) : Int) from rfl)]
      conv => whnf
      refine ⟨by first | rfl | simp only [List.all_cons, List.all_nil, pu0, pub, pu1, pu2, pu1', pu2', pun, puf, puP, puP', puQ, puQ', Bool.and_true, Bool.and_self], _, hw, ?_⟩
      conv => whnf
      exact hQ _ _ _ (ret_pure (.inr rfl) rfl rfl)
theorem alike_mid (hw : WK) (n1 : 1 ≤ n) (n5 : n ≤ 5) (m1 : 1 ≤ m) (m5 : m ≤ 5) (w1 : 1 ≤ w) (w20 : w ≤ 20) (y : List Int) (hy : Fy y) (h30 : y.length ≤ 30) (x1 x2 : AV) (T : List AV)
    (hT : T = slots 180 [(3, Y1 y), (9, I n), (10, I m), (11, I w), (12, .ref 0 0 n none 1), (13, .ref 1 0 m none 1), (15, x1), (61, x2)])
    (Q : Ex → List AV → List AObj → Prop) (hQ : ∀ e T1 H1, Ret [.tmp 8] (B true) e T1 H1 → Q e T1 H1) :
    wpR Go.Proofs.Try.prog ann16b 16 0 none rc16b_16 T [.cells ((same n (m * w)).map I), .cells ((same m (n * w)).map I)] Q := by
  subst hT
  unfold rc16b_16
  obtain ⟨c15, g15⟩ : ∃ c, rc16b_15 = c := ⟨_, rfl⟩
  rw [g15]
  conv => whnf
  have sn : (same n (m * w)).length = n := by simp [same]
  have sm : (same m (n * w)).length = m := by simp [same]
  have row : ∀ (A : List Int) (k id : Nat) (H : List AObj), A.length = k → H[id]? = some (.cells (A.map I)) → rowOf H (.ref id 0 k none 1) = some (A.map I) := fun A k id H hA hH => by
    simp only [rowOf, hH, Nat.zero_add, Nat.mul_one, List.length_map, hA, Nat.le_refl, if_true, List.drop_zero]
    rw [List.take_of_length_le (by simp [hA]), List.map_map]; rfl
  refine ⟨.lst ((same n (m * w)).map I) n .shared, [.dead, .cells ((same m (n * w)).map I)], fun C => ?_, ?_⟩
  · show (if 0 ≤ 0 then (rowOf _ (.ref 0 0 n none 1)).bind _ else none) = _
    rw [if_pos (Nat.le_refl 0)]
    exact congrArg (Option.bind · _) (row _ _ _ _ sn rfl)
  conv => whnf
  refine ⟨.lst ((same m (n * w)).map I) m .shared, [.dead, .dead], fun C => ?_, ?_⟩
  · show (if 0 ≤ 1 then (rowOf _ (.ref 1 0 m none 1)).bind _ else none) = _
    rw [if_pos (Nat.zero_le 1)]
    exact congrArg (Option.bind · _) (row _ _ _ _ sm rfl)
  have hv := pairP_val n1 n5 m1 m5 w1 w20
  have hlen := hv.fit
  have e1 : AV.lst ((same n (m * w)).map I) n .shared = L1 (same n (m * w)) := by rw [L1, sn]
  have e2 : AV.lst ((same m (n * w)).map I) m .shared = L1 (same m (n * w)) := by rw [L1, sm]
  rw [e1, e2]
  conv => whnf
  have hle : ∀ j : Nat, j < 2 → layErr (pairP n m w) (j : Int) = 0 := fun j hj => by
    unfold layErr
    rw [if_neg (by simp [hv.check]), if_neg (by simp [outOf, pairP]; omega)]
  refine ⟨by show [L2 (pairP n m w)].all (pureD 8) = true; rw [List.all_cons, List.all_nil, Bool.and_true]; exact pu2 _ _ _, _, ppanel_ok (pairP n m w), ?_⟩
  conv => whnf
  subst g15
  unfold rc16b_15
  obtain ⟨c14, g14⟩ : ∃ c, rc16b_14 = c := ⟨_, rfl⟩
  rw [g14]
  conv => whnf
  have bn := mul_bd (w := w) n1 n5 w1 w20
  have bm := mul_bd (w := w) m1 m5 w1 w20
  have k1 := pSure2_ok (pairP n m w) 0 hlen.1 hlen.2
  have s1 : sureV (pairP n m w) 0 = mults (n - 1) (m * w) := by
    unfold sureV; rw [if_pos (show layErr (pairP n m w) 0 = 0 from hle 0 (by omega))]; exact rsure_same n1 n5 bm.1
  rw [s1, show layErr (pairP n m w) 0 = 0 from hle 0 (by omega)] at k1
  refine ⟨by first | rfl | simp only [List.all_cons, List.all_nil, pu0, pub, pu1, pu2, pu1', pu2', pun, puf, puP, puP', puQ, puQ', Bool.and_true, Bool.and_self], _, k1, ?_⟩
  conv => whnf
  subst g14
  unfold rc16b_14
  obtain ⟨c13, g13⟩ : ∃ c, rc16b_13 = c := ⟨_, rfl⟩
  rw [g13]
  conv => whnf
  have k2 := pSums2_ok (pairP n m w) 1 hlen.1 hlen.2
  have s2 : sumsV (pairP n m w) 1 = mults (m - 1) (n * w) := by
    unfold sumsV; rw [if_pos (show layErr (pairP n m w) 1 = 0 from hle 1 (by omega))]; exact rsums_same m1 m5 bn.1
  rw [s2, show layErr (pairP n m w) 1 = 0 from hle 1 (by omega), if_pos rfl] at k2
  refine ⟨by first | rfl | simp only [List.all_cons, List.all_nil, pu0, pub, pu1, pu2, pu1', pu2', pun, puf, puP, puP', puQ, puQ', Bool.and_true, Bool.and_self], _, k2, ?_⟩
  conv => whnf
  subst g13
  unfold rc16b_13
  obtain ⟨c12, g12⟩ : ∃ c, rc16b_12 = c := ⟨_, rfl⟩
  rw [g12]
  conv => whnf
  have k3 := ppair_ok (pairP n m w) 0 hlen.1 hlen.2
  obtain ⟨p1, p2⟩ := pair_good hv 0 (show 0 + 2 ≤ (pairP n m w).length by simp [pairP])
  rw [show pairErr (pairP n m w) 0 = 0 from p1, show pairV (pairP n m w) 0 = fewestOf (pairP n m w) from p2, pairP_few n1 n5 m1 m5 w1 w20] at k3
  refine ⟨by first | rfl | simp only [List.all_cons, List.all_nil, pu0, pub, pu1, pu2, pu1', pu2', pun, puf, puP, puP', puQ, puQ', Bool.and_true, Bool.and_self], _, k3, ?_⟩
  conv => whnf
  subst g12
  unfold rc16b_12
  obtain ⟨c11, g11⟩ : ∃ c, rc16b_11 = c := ⟨_, rfl⟩
  rw [g11]
  conv => whnf
  have ho := chosen_ords (pairP n m w) y
  obtain ⟨q1, q2⟩ := ho.fit hv
  have he := ho.err hv
  refine ⟨by simp only [List.all_cons, List.all_nil, Bool.and_true, puP, Bool.true_and]; exact pure_Y1 y, _, chosen_ok (pairP n m w) y hv hy h30, acc0, ?_⟩
  conv => whnf
  have k4 := pmeet_ok (pairP n m w) (chosen (pairP n m w) y) q1
  rw [show meetOf (pairP n m w) (chosen (pairP n m w) y) = (both (n * w) (m * w) (n - 1) : Int) by rw [← pairP_meet n1 n5 m1 m5 w1 w20 ho]; exact if_pos he, he] at k4
  refine ⟨by simp only [List.all_cons, List.all_nil, Bool.and_true, puP, pu2, Bool.and_self], _, k4, accN rfl, ?_⟩
  conv => whnf
  subst g11
  exact alike_end hw n1 n5 m1 m5 w1 w20 y _ _ _ _ _ _ _ _ _ _ _ _ _ rfl Q hQ
end
/-- So many strips have their width. -/
def fillA (n i : Nat) (c : Int) : List Int := List.replicate i c ++ List.replicate (n - i) 0
theorem fillA_len {n i : Nat} (c : Int) (h : i ≤ n) : (fillA n i c).length = n := by simp [fillA]; omega
theorem fillA_set {n i : Nat} (c : Int) (h : i < n) : ((fillA n i c).map I).set i (I c) = (fillA n (i + 1) c).map I := by
  rw [← List.map_set]
  congr 1
  unfold fillA
  rw [show n - i = (n - (i + 1)) + 1 by omega, List.replicate_succ, List.set_append_right _ _ (by simp), List.length_replicate, Nat.sub_self, List.set_cons_zero, List.replicate_succ' (n := i), List.append_assoc]; rfl
theorem fillA_all (n : Nat) (c : Int) : fillA n n c = same n c := by simp [fillA, same]
theorem fillA_none (n : Nat) (c : Int) : repl n [I 0] = (fillA n 0 c).map I := by
  have : ∀ k, repl k [I 0] = List.replicate k (I 0) := fun k => by
    induction k with
    | zero => rfl
    | succ k ih => rw [repl, ih]; rfl
  simp [fillA, this]
theorem u8_mod (a : Int) (k : Nat) (h : 0 ≤ a ∧ a ≤ 255) (hk : 1 ≤ k) (hk2 : k ≤ 100) : ∃ n : Nat, IntKind.i64.wrap (1 + (IntKind.i64.wrap a).tmod (k : Int)) = (n : Int) ∧ 1 ≤ n ∧ n ≤ k := by
  rw [wrapI a (by omega) (by omega)]
  have h1 := Int.tmod_nonneg (k : Int) h.1
  have h2 := Int.tmod_lt_of_pos a (show (0 : Int) < k by omega)
  exact ⟨(1 + a.tmod k).toNat, by rw [wrapI _ (by omega) (by omega)]; omega, by omega, by omega⟩
theorem seamAlike_ok (hw : WK) (a b c : Int) (y : List Int) (ha : 0 ≤ a ∧ a ≤ 255) (hb : 0 ≤ b ∧ b ≤ 255) (hc : 0 ≤ c ∧ c ≤ 255) (hy : Fy y) : PO 16 [.int .u8 a, .int .u8 b, .int .u8 c, Y1 y] (B true) := by
  refine fn_pureQ hmix lk16b rfl rfl fun Q hQ => ?_
  unfold rc16b
  obtain ⟨c19, g19⟩ : ∃ c, rc16b_19 = c := ⟨_, rfl⟩
  unfold rc16b_20
  rw [g19]
  conv => whnf
  refine dcase (fun h => ?_) (fun h => ?_)
  · conv => whnf
    refine ⟨by first | rfl | simp only [List.all_cons, List.all_nil, pu0, pub, pu1, pu2, pu1', pu2', pun, puf, puP, puP', puQ, puQ', Bool.and_true, Bool.and_self], _, hw, ?_⟩
    conv => whnf
    exact hQ _ _ _ (ret_pure (.inr rfl) rfl rfl)
  subst g19
  unfold rc16b_19 rc16b_18
  obtain ⟨c17, g17⟩ : ∃ c, rc16b_17 = c := ⟨_, rfl⟩
  rw [g17]
  conv => whnf
  obtain ⟨n, en, n1, n5⟩ := u8_mod a 5 ha (by omega) (by omega)
  obtain ⟨m, em, m1, m5⟩ := u8_mod b 5 hb (by omega) (by omega)
  obtain ⟨w, ew, w1, w20⟩ := u8_mod c 20 hc (by omega) (by omega)
  refine ⟨by decide, ?_⟩
  conv => whnf
  refine ⟨by decide, ?_⟩
  rw [show IntKind.i64.wrap (1 + (IntKind.i64.wrap a).tmod 5) = n from en]
  conv => whnf
  refine ⟨by decide, ?_⟩
  rw [show IntKind.i64.wrap (1 + (IntKind.i64.wrap b).tmod 5) = m from em]
  conv => whnf
  rw [show IntKind.i64.wrap (1 + (IntKind.i64.wrap c).tmod 20) = w from ew]
  clear en em ew ha hb hc
  subst g17
  unfold rc16b_17
  obtain ⟨c2, g2⟩ : ∃ c, rc16b_2 = c := ⟨_, rfl⟩
  obtain ⟨c4, g4⟩ : ∃ c, rc16b_4 = c := ⟨_, rfl⟩
  obtain ⟨c16, g16⟩ : ∃ c, rc16b_16 = c := ⟨_, rfl⟩
  rw [g2, g4, g16]
  conv => whnf
  refine ⟨rfl, by omega, by omega, ?_⟩
  conv => whnf
  refine ⟨rfl, by omega, by omega, ?_⟩
  conv => whnf
  have tn : ((n : Nat) : Int).toNat = n := by omega
  have tm : ((m : Nat) : Int).toNat = m := by omega
  have wn := mul_bd (w := w) n1 n5 (by omega) (by omega)
  have wm := mul_bd (w := w) m1 m5 (by omega) (by omega)
  refine .intro (fun q T H => ∃ i, i ≤ n ∧ q = n - i ∧ ((i = 0 ∧ T = slots 180 [(3, Y1 y), (9, I n), (10, I m), (11, I w), (12, .lst (repl n [I 0]) n (.uniq 1)), (13, .lst (repl m [I 0]) m (.uniq 1)), (14, I (0 : Nat))] ∧ H = []) ∨
    (1 ≤ i ∧ T = slots 180 [(3, Y1 y), (9, I n), (10, I m), (11, I w), (12, .ref 0 0 n none 1), (13, .lst (repl m [I 0]) m (.uniq 1)), (14, I i)] ∧ H = [.cells ((fillA n i (m * w)).map I)]))) n ⟨0, by omega, rfl, .inl ⟨rfl, by rw [tn, tm]; rfl, rfl⟩⟩ ?_
  rintro q T H ⟨i, hi, rfl, ⟨rfl, rfl, rfl⟩ | ⟨h1, rfl, rfl⟩⟩
  · subst g2
    unfold rc16b_2
    obtain ⟨c1, g1⟩ : ∃ c, rc16b_1 = c := ⟨_, rfl⟩
    rw [g1]
    conv => whnf
    rw [decide_eq_true (show ((0 : Nat) : Int) < n by omega)]
    conv => whnf
    subst g1
    unfold rc16b_1
    conv => whnf
    refine .inl ⟨by omega, ?_⟩
    conv => whnf
    refine ⟨by omega, ?_⟩
    conv => whnf
    rw [fillA_none n (m * w)]
    refine updK_of (by rw [List.length_map, fillA_len _ (by omega)]; omega) ?_
    rw [show 0 + ((0 : Nat) : Int).toNat * 1 = 0 from rfl, wrapI ((m : Int) * w) (by omega) (by omega), fillA_set _ (by omega)]
    conv => whnf
    exact ⟨n - 1, by omega, 1, by omega, rfl, .inr ⟨by omega, rfl, rfl⟩⟩
  · subst g2
    unfold rc16b_2
    obtain ⟨c1, g1⟩ : ∃ c, rc16b_1 = c := ⟨_, rfl⟩
    rw [g1]
    conv => whnf
    refine dcase (fun h2 => ?_) (fun h2 => ?_)
    · conv => whnf
      subst g1
      unfold rc16b_1
      conv => whnf
      refine ⟨by omega, ?_⟩
      conv => whnf
      refine updK_of (by rw [List.length_map, fillA_len _ (by omega)]; omega) ?_
      rw [show 0 + ((i : Nat) : Int).toNat * 1 = i by omega, wrapI ((m : Int) * w) (by omega) (by omega), fillA_set _ (by omega)]
      conv => whnf
      exact ⟨n - (i + 1), by omega, i + 1, by omega, rfl, .inr ⟨by omega, by rw [← wrapS i (by omega)]; rfl, rfl⟩⟩
    obtain rfl : i = n := by omega
    conv => whnf
    clear g1 c1
    refine .intro (fun q T H => ∃ k, k ≤ m ∧ q = m - k ∧ ((k = 0 ∧ T = slots 180 [(3, Y1 y), (9, I i), (10, I m), (11, I w), (12, .ref 0 0 i none 1), (13, .lst (repl m [I 0]) m (.uniq 1)), (15, I (0 : Nat))] ∧ H = [.cells ((fillA i i (m * w)).map I)]) ∨
      (1 ≤ k ∧ T = slots 180 [(3, Y1 y), (9, I i), (10, I m), (11, I w), (12, .ref 0 0 i none 1), (13, .ref 1 0 m none 1), (15, I k)] ∧ H = [.cells ((fillA i i (m * w)).map I), .cells ((fillA m k (i * w)).map I)]))) m ⟨0, by omega, rfl, .inl ⟨rfl, rfl, rfl⟩⟩ ?_
    rintro q T H ⟨k, hk, rfl, ⟨rfl, rfl, rfl⟩ | ⟨h3, rfl, rfl⟩⟩
    · subst g4
      unfold rc16b_4
      obtain ⟨c3, g3⟩ : ∃ c, rc16b_3 = c := ⟨_, rfl⟩
      rw [g3]
      conv => whnf
      rw [decide_eq_true (show ((0 : Nat) : Int) < m by omega)]
      conv => whnf
      subst g3
      unfold rc16b_3
      conv => whnf
      refine .inl ⟨by omega, ?_⟩
      conv => whnf
      refine ⟨by omega, ?_⟩
      conv => whnf
      rw [fillA_none m (i * w)]
      refine updK_of (by rw [List.length_map, fillA_len _ (by omega)]; omega) ?_
      rw [show 0 + ((0 : Nat) : Int).toNat * 1 = 0 from rfl, wrapI ((i : Int) * w) (by omega) (by omega), fillA_set _ (by omega)]
      conv => whnf
      exact ⟨m - 1, by omega, 1, by omega, rfl, .inr ⟨by omega, rfl, rfl⟩⟩
    · subst g4
      unfold rc16b_4
      obtain ⟨c3, g3⟩ : ∃ c, rc16b_3 = c := ⟨_, rfl⟩
      rw [g3]
      conv => whnf
      refine dcase (fun h4 => ?_) (fun h4 => ?_)
      · conv => whnf
        subst g3
        unfold rc16b_3
        conv => whnf
        refine ⟨by omega, ?_⟩
        conv => whnf
        refine updK_of (by rw [List.length_map, fillA_len _ (by omega)]; omega) ?_
        rw [show 0 + ((k : Nat) : Int).toNat * 1 = k by omega, wrapI ((i : Int) * w) (by omega) (by omega), fillA_set _ (by omega)]
        conv => whnf
        exact ⟨m - (k + 1), by omega, k + 1, by omega, rfl, .inr ⟨by omega, by rw [← wrapS k (by omega)]; rfl, rfl⟩⟩
      obtain rfl : k = m := by omega
      conv => whnf
      subst g16
      rw [fillA_all, fillA_all]
      exact alike_mid hw n1 n5 m1 m5 (by omega) (by omega) y hy (by omega) _ _ _ rfl Q hQ
end Go.Proofs.Ytlcebaejlnpdeaa.Ab

/-
  Closed calls of the layer: those of the map of meetings.
-/
namespace Go.Proofs.Ytlcebaejlnpdeaa.Ab
open Go
theorem meets_pure (rows : List (List Int)) (j i : Nat) (k v : AV) (h : (meets rows)[j]? = some (i, k, v)) : pureD 8 k = true ∧ pureD 8 v = true := by
  have := List.mem_of_getElem? h
  unfold meets at this
  obtain ⟨q, _, e⟩ := List.mem_map.1 this
  simp only [entOf, Prod.mk.injEq] at e
  obtain ⟨_, rfl, rfl⟩ := e
  exact ⟨rfl, rfl⟩
def meetE (rows : List (List Int)) : Ent := .map 63 [L2 rows] (meets rows) (places rows 0).length
theorem meetE_ok (rows : List (List Int)) (hl : rows.length ≤ 1000) (hr : ∀ r ∈ rows, r.length ≤ 1000) (hn : (places rows 0).Nodup) : entOk Go.Proofs.Try.prog (meetE rows) := fun H =>
  sem_map (by simp only [List.all_cons, List.all_nil, Bool.and_true]; exact pure_L2 5 rows) (meets_pure rows) (meetings_ok rows hl hr hn) H
def meetL : List Ent := [meetE [[2, 5], [5]], meetE [[2, 7], [5]], meetE [[5], [5], [4]], meetE [[5], [5]], meetE [[5], [4]]]
theorem meetL_ok : ∀ e ∈ meetL, entOk Go.Proofs.Try.prog e := by
  intro e he
  simp only [meetL, List.mem_cons, List.not_mem_nil, or_false] at he
  rcases he with rfl | rfl | rfl | rfl | rfl
  · exact meetE_ok _ (by decide) (by decide) (by decide)
  · exact meetE_ok _ (by decide) (by decide) (by decide)
  · exact meetE_ok _ (by decide) (by decide) (by decide)
  · exact meetE_ok _ (by decide) (by decide) (by decide)
  · exact meetE_ok _ (by decide) (by decide) (by decide)
end Go.Proofs.Ytlcebaejlnpdeaa.Ab

/- MADE BY PROGRAM (closed.py): closed calls. -/
namespace Go.Proofs.Ytlcebaejlnpdeaa.Ab
open Go
def e0 : Ent := .pure 21 [.agg [.lst [.lst [.int .i64 2, .int .i64 3, .int .i64 5] 3 .shared, .lst [.int .i64 5, .int .i64 5] 2 .shared] 2 .shared], .lst [.lst [.int .i64 0, .int .i64 1, .int .i64 2] 3 .shared, .lst [.int .i64 0, .int .i64 1] 2 .shared] 2 .shared] (.tuple [.int .i64 1, .int .i64 0])
theorem e0_ok : entOk Go.Proofs.Try.prog e0 := runC_ok meetL_ok (by kernel_rfl)
def e1 : Ent := .pure 21 [.agg [.lst [.lst [.int .i64 2, .int .i64 3, .int .i64 5] 3 .shared, .lst [.int .i64 5, .int .i64 5] 2 .shared] 2 .shared], .lst [.lst [.int .i64 0, .int .i64 2, .int .i64 1] 3 .shared, .lst [.int .i64 1, .int .i64 0] 2 .shared] 2 .shared] (.tuple [.int .i64 0, .int .i64 0])
theorem e1_ok : entOk Go.Proofs.Try.prog e1 := runC_ok meetL_ok (by kernel_rfl)
def e2 : Ent := .pure 21 [.agg [.lst [.lst [.int .i64 2, .int .i64 3, .int .i64 5] 3 .shared, .lst [.int .i64 5, .int .i64 5] 2 .shared] 2 .shared], .lst [.lst [.int .i64 0, .int .i64 1, .int .i64 2] 3 .shared] 1 .shared] (.tuple [.int .i64 0, .int .i64 15])
theorem e2_ok : entOk Go.Proofs.Try.prog e2 := runC_ok meetL_ok (by kernel_rfl)
def e3 : Ent := .pure 21 [.agg [.lst [.lst [.int .i64 2, .int .i64 3, .int .i64 5] 3 .shared, .lst [.int .i64 5, .int .i64 5] 2 .shared] 2 .shared], .lst [.lst [.int .i64 0, .int .i64 1, .int .i64 1] 3 .shared, .lst [.int .i64 0, .int .i64 1] 2 .shared] 2 .shared] (.tuple [.int .i64 0, .int .i64 16])
theorem e3_ok : entOk Go.Proofs.Try.prog e3 := runC_ok meetL_ok (by kernel_rfl)
def e4 : Ent := .pure 23 [.agg [.lst [.lst [.int .i64 2, .int .i64 3, .int .i64 5] 3 .shared, .lst [.int .i64 5, .int .i64 5] 2 .shared] 2 .shared], .lst [.lst [.int .i64 0, .int .i64 1, .int .i64 2] 3 .shared, .lst [.int .i64 0, .int .i64 1] 2 .shared] 2 .shared] (.tuple [.lst [.lst [.int .i64 2, .int .i64 5] 2 .shared, .lst [.int .i64 5] 1 .shared] 2 .shared, .int .i64 0])
theorem e4_ok : entOk Go.Proofs.Try.prog e4 := runC_ok meetL_ok (by kernel_rfl)
def e6 : Ent := .pure 28 [.agg [.lst [.lst [.int .i64 2, .int .i64 3, .int .i64 5] 3 .shared, .lst [.int .i64 5, .int .i64 5] 2 .shared] 2 .shared], .lst [.lst [.int .i64 0, .int .i64 1, .int .i64 2] 3 .shared, .lst [.int .i64 0, .int .i64 1] 2 .shared] 2 .shared] (.tuple [.lst [.int .i64 5] 1 .shared, .int .i64 0])
theorem e6_ok : entOk Go.Proofs.Try.prog e6 := runC_ok meetL_ok (by kernel_rfl)
def e7 : Ent := .pure 30 [.agg [.lst [.lst [.int .i64 2, .int .i64 3, .int .i64 5] 3 .shared, .lst [.int .i64 5, .int .i64 5] 2 .shared] 2 .shared], .lst [.lst [.int .i64 0, .int .i64 2, .int .i64 1] 3 .shared, .lst [.int .i64 0, .int .i64 1] 2 .shared] 2 .shared] (.tuple [.int .i64 2, .int .i64 0])
theorem e7_ok : entOk Go.Proofs.Try.prog e7 := runC_ok meetL_ok (by kernel_rfl)
def e8 : Ent := .pure 33 [.agg [.lst [.lst [.int .i64 5, .int .i64 5] 2 .shared, .lst [.int .i64 5, .int .i64 5] 2 .shared, .lst [.int .i64 4, .int .i64 6] 2 .shared] 3 .shared]] (.tuple [.int .i64 1, .int .i64 0])
theorem e8_ok : entOk Go.Proofs.Try.prog e8 := runC_ok meetL_ok (by kernel_rfl)
def e9 : Ent := .pure 35 [.agg [.lst [.lst [.int .i64 2, .int .i64 3, .int .i64 5] 3 .shared, .lst [.int .i64 5, .int .i64 5] 2 .shared] 2 .shared]] (.tuple [.lst [.lst [.int .i64 0, .int .i64 2, .int .i64 1] 3 .shared, .lst [.int .i64 0, .int .i64 1] 2 .shared] 2 .shared, .int .i64 0])
theorem e9_ok : entOk Go.Proofs.Try.prog e9 := runC_ok meetL_ok (by kernel_rfl)
end Go.Proofs.Ytlcebaejlnpdeaa.Ab

/- MADE BY PROGRAM (closed.py): closed calls. -/
namespace Go.Proofs.Ytlcebaejlnpdeaa.Ab
open Go
def e10 : Ent := .pure 37 [.agg [.lst [.lst [.int .i64 5, .int .i64 5] 2 .shared, .lst [.int .i64 5, .int .i64 5] 2 .shared, .lst [.int .i64 4, .int .i64 6] 2 .shared] 3 .shared], .int .i64 0] (.tuple [.int .i64 1, .int .i64 0])
theorem e10_ok : entOk Go.Proofs.Try.prog e10 := runC_ok meetL_ok (by kernel_rfl)
def e11 : Ent := .pure 37 [.agg [.lst [.lst [.int .i64 5, .int .i64 5] 2 .shared, .lst [.int .i64 5, .int .i64 5] 2 .shared, .lst [.int .i64 4, .int .i64 6] 2 .shared] 3 .shared], .int .i64 2] (.tuple [.int .i64 0, .int .i64 2])
theorem e11_ok : entOk Go.Proofs.Try.prog e11 := runC_ok meetL_ok (by kernel_rfl)
def e12 : Ent := .pure 40 [.agg [.lst [.lst [.int .i64 2, .int .i64 3, .int .i64 5] 3 .shared, .lst [.int .i64 5, .int .i64 5] 2 .shared] 2 .shared], .int .i64 0] (.tuple [.lst [.int .i64 2, .int .i64 3, .int .i64 5, .int .i64 7, .int .i64 8] 5 .full, .int .i64 0])
theorem e12_ok : entOk Go.Proofs.Try.prog e12 := runC_ok meetL_ok (by kernel_rfl)
def e13 : Ent := .pure 42 [.agg [.lst [.lst [.int .i64 2, .int .i64 3, .int .i64 5] 3 .shared, .lst [.int .i64 5, .int .i64 5] 2 .shared] 2 .shared], .int .i64 1] (.tuple [.lst [.int .i64 5] 1 .shared, .int .i64 0])
theorem e13_ok : entOk Go.Proofs.Try.prog e13 := runC_ok meetL_ok (by kernel_rfl)
def e14 : Ent := .pure 42 [.agg [.lst [.lst [.int .i64 2, .int .i64 3, .int .i64 5] 3 .shared, .lst [.int .i64 5, .int .i64 5] 2 .shared] 2 .shared], .int .i64 2] (.tuple [.lst [] 0 .shared, .int .i64 2])
theorem e14_ok : entOk Go.Proofs.Try.prog e14 := runC_ok meetL_ok (by kernel_rfl)
end Go.Proofs.Ytlcebaejlnpdeaa.Ab

/- MADE BY PROGRAM (closed.py): closed calls. -/
namespace Go.Proofs.Ytlcebaejlnpdeaa.Ab
open Go
def e15 : Ent := .pure 44 [.agg [.lst [.lst [.int .i64 2, .int .i64 3, .int .i64 5] 3 .shared, .lst [.int .i64 5, .int .i64 5] 2 .shared] 2 .shared]] (.tuple [.int .i64 2, .int .i64 0])
theorem e15_ok : entOk Go.Proofs.Try.prog e15 := runC_ok meetL_ok (by kernel_rfl)
def e16 : Ent := .pure 46 [.agg [.lst [.lst [.int .i64 2, .int .i64 3, .int .i64 5] 3 .shared, .lst [.int .i64 5, .int .i64 5] 2 .shared] 2 .shared], .int .i64 2] (.tuple [.lst [.lst [.int .i64 0, .int .i64 2, .int .i64 1] 3 .shared, .lst [.int .i64 0, .int .i64 1] 2 .shared] 2 .shared, .int .i64 0])
theorem e16_ok : entOk Go.Proofs.Try.prog e16 := runC_ok meetL_ok (by kernel_rfl)
def e17 : Ent := .pure 46 [.agg [.lst [.lst [.int .i64 2, .int .i64 3, .int .i64 5] 3 .shared, .lst [.int .i64 5, .int .i64 5] 2 .shared] 2 .shared], .int .i64 3] (.tuple [.lst [] 0 .shared, .int .i64 21])
theorem e17_ok : entOk Go.Proofs.Try.prog e17 := runC_ok meetL_ok (by kernel_rfl)
def e18 : Ent := .pure 46 [.agg [.lst [.lst [.int .i64 2, .int .i64 3, .int .i64 5] 3 .shared, .lst [.int .i64 5, .int .i64 5] 2 .shared] 2 .shared], .int .i64 (-1)] (.tuple [.lst [] 0 .shared, .int .i64 3])
theorem e18_ok : entOk Go.Proofs.Try.prog e18 := runC_ok meetL_ok (by kernel_rfl)
end Go.Proofs.Ytlcebaejlnpdeaa.Ab

/-
  Works: a closed call.
-/
namespace Go.Proofs.Ytlcebaejlnpdeaa.Ab
open Go
def worksL : List Ent := [e0, e1, e2, e3, e4, e6, e7, e8, e9, e10, e11, e12, e13, e14, e15, e16, e17, e18]
theorem worksL_ok : ∀ e ∈ worksL, entOk Go.Proofs.Try.prog e := by
  simp only [worksL, List.forall_mem_cons]
  exact ⟨e0_ok, e1_ok, e2_ok, e3_ok, e4_ok, e6_ok, e7_ok, e8_ok, e9_ok, e10_ok, e11_ok, e12_ok, e13_ok, e14_ok, e15_ok, e16_ok, e17_ok, e18_ok, by simp⟩
theorem works_ok : PO 20 [] (B true) := runC_ok worksL_ok (by kernel_rfl)
end Go.Proofs.Ytlcebaejlnpdeaa.Ab
