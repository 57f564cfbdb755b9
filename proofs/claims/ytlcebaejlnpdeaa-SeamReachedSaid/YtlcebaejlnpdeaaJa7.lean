/-
  Contracts: SeamReached.
-/
import Derived.Test.YtlcebaejlnpdeaaJa6
import Derived.Test.YtlcebaejlnpdeaaJa5
import Derived.Test.YtlcebaejlnpdeaaJa3
import Derived.KernelRfl
set_option linter.unusedSimpArgs false
set_option linter.unusedVariables false
set_option linter.unusedSectionVars false
namespace Go.Proofs.Ytlcebaejlnpdeaa.Ab
open Go
set_option maxRecDepth 20000
set_option maxHeartbeats 4000000
/-- The bits of a byte, of the first five strips. -/
def bitOn (b : Int) (k : Nat) : Bool := decide (b.toNat / 2 ^ k % 2 = 1)
def firsts (b : Int) (n : Nat) : List Int := ((List.range n).filter fun k => bitOn b k).map Int.ofNat
def rests (b : Int) (n : Nat) : List Int := ((List.range n).filter fun k => !bitOn b k).map Int.ofNat
theorem firsts_succ (b : Int) (k : Nat) : firsts b (k + 1) = if bitOn b k = true then firsts b k ++ [(k : Int)] else firsts b k := by
  unfold firsts
  rw [List.range_succ, List.filter_append, List.map_append]
  cases h : bitOn b k <;> simp [h]
theorem rests_succ (b : Int) (k : Nat) : rests b (k + 1) = if bitOn b k = true then rests b k else rests b k ++ [(k : Int)] := by
  unfold rests
  rw [List.range_succ, List.filter_append, List.map_append]
  cases h : bitOn b k <;> simp [h]
theorem firsts_len (b : Int) (k : Nat) : (firsts b k).length ≤ k := by
  simp only [firsts, List.length_map]; exact Nat.le_trans (List.length_filter_le _ _) (by simp)
theorem rests_len (b : Int) (k : Nat) : (rests b k).length ≤ k := by
  simp only [rests, List.length_map]; exact Nat.le_trans (List.length_filter_le _ _) (by simp)
theorem ws_bound {w : List Int} (h : ∀ x ∈ w, 1 ≤ x ∧ x ≤ 100) : ∀ l : List Int, 0 ≤ sumI (wsOf w l) ∧ sumI (wsOf w l) ≤ 100 * l.length
  | [] => by simp [wsOf, sumI]
  | x :: l => by
    have ih := ws_bound h l
    have : 0 ≤ w.getD x.toNat 0 ∧ w.getD x.toNat 0 ≤ 100 := by
      by_cases hx : x.toNat < w.length
      · have := h _ (List.getElem_mem hx)
        rw [show w.getD x.toNat 0 = w[x.toNat] by simp [hx]]; omega
      · rw [List.getD_eq_getElem?_getD, List.getElem?_eq_none (by omega)]; simp
    show 0 ≤ sumI (w.getD x.toNat 0 :: wsOf w l) ∧ sumI (w.getD x.toNat 0 :: wsOf w l) ≤ _
    rw [sumI_cons]; simp only [List.length_cons]; omega
theorem bit8 : ∀ (b : Fin 256) (k : Fin 5), (decide (IntKind.u8.wrap (((BitVec.ofInt IntKind.u8.bits (((b.1 : Nat) : Int).fdiv (2 ^ (Nat.min (((k.1 : Nat) : Int)).toNat IntKind.u8.bits))) &&& BitVec.ofInt IntKind.u8.bits 1).toNat : Nat) : Int) = 1)) = bitOn ((b.1 : Nat) : Int) k.1 := by decide +kernel
theorem chosen_sem (p : List (List Int)) (hv : Val p) : Sem Go.Proofs.Try.prog (.fn 50) [P1 p, .lst [] 0 .full] [.cells [L2 p]] 1 (U2 (chosen p [])) [.cells [L2 p], .dead] := by
  have h4 := hv.n4
  refine fn_semQ hmix lk50 rfl ⟨by simp, fun j h1 h2 => by match j, h1 with | 0, _ => rfl⟩ fun Q hQ => ?_
  unfold rc50
  conv => whnf
  refine .intro (fun m T H => ∃ i t out, i ≤ p.length ∧ m = p.length - i ∧ t ≤ 5 * i ∧ out.length = i ∧ out ++ chosenGo [] (p.drop i) t = chosen p [] ∧ T = slots 74 [(1, .lst [] 0 .full), (2, .ptr 1 0), (5, U2 out), (6, I t), (7, I i)] ∧ H = [.cells [L2 p], .cells [L2 p]]) p.length ⟨0, 0, [], Nat.zero_le _, rfl, Nat.zero_le _, rfl, rfl, rfl, rfl⟩ ?_
  rintro m T H ⟨i, t, out, hi, rfl, ht, ho, hc, rfl, rfl⟩
  conv => whnf
  refine dcase (fun h => ?_) (fun h => ?_)
  · have hlt : i < p.length := by omega
    have hl5 := hv.s5 _ (List.getElem_mem hlt)
    conv => whnf
    refine .intro (CI (fun k => slots 74 [(1, .lst [] 0 .full), (2, .ptr 1 0), (5, U2 out), (6, I t), (7, I i), (8, U1 (nums k)), (9, U1 []), (10, I k)]) p[i].length [.cells [L2 p], .cells [L2 p]]) p[i].length (ci0 rfl) ?_
    rintro m T H ⟨k, hk, rfl, rfl, rfl⟩
    conv => whnf
    refine ⟨by omega, ?_⟩
    conv => whnf
    refine nthM _ _ _ (hlt) ?_
    conv => whnf
    refine dcase (fun h1 => ?_) (fun h1 => ?_)
    · have hnl := nums_len k
      conv => whnf
      refine ⟨rfl, by decide, rfl, by omega, ?_⟩
      conv => whnf
      exact ciN (by omega) (by rw [nums_succ, ← U1_snoc, ← wrapS k (by omega)] <;> rfl)
    · obtain rfl : k = p[i].length := by omega
      conv => whnf
      refine .intro (fun m T H => ∃ left order t', m = left.length ∧ left.length + order.length = p[i].length ∧ t' ≤ t + order.length ∧ order ++ (pickGo [] left.length left t').1 = (pickGo [] p[i].length (nums p[i].length) t).1 ∧ (pickGo [] left.length left t').2 = (pickGo [] p[i].length (nums p[i].length) t).2 ∧
        T = slots 74 [(1, .lst [] 0 .full), (2, .ptr 1 0), (5, U2 out), (6, I t'), (7, I i), (8, U1 left), (9, U1 order)] ∧ H = [.cells [L2 p], .cells [L2 p]]) p[i].length ⟨nums p[i].length, [], t, (nums_len _).symm, by rw [nums_len]; rfl, Nat.le_refl _, by rw [nums_len]; rfl, by rw [nums_len], rfl, rfl⟩ ?_
      rintro m T H ⟨left, order, t', rfl, hlo, ht', hp1, hp2, rfl, rfl⟩
      conv => whnf
      refine dcase (fun h2 => ?_) (fun h2 => ?_)
      · conv => whnf
        · have hy0 : ([] : List Int) = [] := rfl
          have hn : 0 < left.length := by omega
          have hnn : pickN [] left.length t' = 0 := if_pos hy0
          have es : stepN [] t' = t' := if_pos hy0
          conv => whnf
          refine ⟨by omega, ?_⟩
          conv => whnf
          refine nthM I left 0 hn ?_
          conv => whnf
          refine ⟨rfl, by decide, rfl, by omega, ?_⟩
          conv => whnf
          refine ⟨by omega, ?_⟩
          rw [show AV.lst ((left.map I).take ((0 : Int).toNat * 1)) (0 : Int).toNat .shared = L1 (left.take 0) from takeI left 0 (Nat.zero_le _)]
          conv => whnf
          refine ⟨by simp, by rw [List.length_take]; omega, ?_⟩
          conv => whnf
          refine ⟨by simp, ?_⟩
          conv => whnf
          refine ⟨by rw [List.length_take]; omega, ?_⟩
          conv => whnf
          rw [show IntKind.i64.wrap (0 + 1) = (1 : Int) by rw [IntKind.wrap_i64]; rfl]
          refine ⟨by omega, ?_⟩
          rw [show AV.lst (((left.map I).drop ((1 : Int).toNat * 1)).take ((left.length - (1 : Int).toNat) * 1)) (left.length - (1 : Int).toNat) .shared = L1 (left.drop 1) from dropI left 1]
          conv => whnf
          refine ⟨by simp, by rw [List.length_drop]; omega, ?_⟩
          conv => whnf
          refine ⟨by simp, ?_⟩
          conv => whnf
          refine ⟨by simp; omega, ?_⟩
          conv => whnf
          have hl : (left.eraseIdx 0).length = left.length - 1 := List.length_eraseIdx_of_lt hn
          have hs := stepN_le [] t'
          rw [pickGo_step hn hnn] at hp1 hp2
          refine ⟨(left.eraseIdx 0).length, by omega, left.eraseIdx 0, order ++ [left[0]], stepN [] t', rfl, by simp; omega, by simp; omega, by rw [← hp1, List.append_assoc]; rfl, hp2, ?_, rfl⟩
          rw [← eraseU, ← U1_snoc, es]; rfl
      · have h0 : left.length = 0 := by omega
        rw [h0, pickGo, List.append_nil] at hp1
        rw [h0, pickGo] at hp2
        have hd : p.drop i = p[i] :: p.drop (i + 1) := List.drop_eq_getElem_cons hlt
        rw [hd, chosenGo, ← hp1, ← hp2] at hc
        conv => whnf
        refine ⟨rfl, by decide, rfl, by omega, ?_⟩
        conv => whnf
        refine ⟨p.length - (i + 1), by omega, i + 1, t', out ++ [order], by omega, rfl, by omega, by simp; omega, by rw [← hc, List.append_assoc]; rfl, ?_, rfl⟩
        rw [← U2_snoc, ← wrapS i (by omega)]; rfl
  · obtain rfl : i = p.length := by omega
    rw [List.drop_length, chosenGo, List.append_nil] at hc
    conv => whnf
    refine hQ _ _ _ ⟨.inr rfl, fgt_snoc [.cells [L2 p]] _, by rw [← hc]; rfl⟩
/-- A call of mode 2 that hands out a list. -/
theorem call2u {P : Program} {k : FuncId} {args : List AV} {H H' : List AObj} {lo : Nat} {l : List (List Int)} (h : Sem P (.fn k) args H H.length (U2 l) H') : CallS P 2 lo (.fn k) args H (U2 l) H := by
  refine ⟨_, oneC_sound h, ?_⟩
  have e1 : freshIn H.length (U2 l) = none := by simp [U2, freshIn, freshOf]
  have e2 : frz H' H.length H'.length 0 8 (U2 l) = some (U2 l) := frz_pure (pu2 _ _ _)
  simp only [callTo, oneC_self, Option.bind_some, e1, e2, Option.map_some]
theorem fr_ord (b : Int) {n : Nat} (h1 : 1 ≤ n) (h5 : n ≤ 5) : isOrd (firsts b n ++ rests b n) n = true := by
  obtain ⟨hN, hf⟩ := first_perm h1 h5
  have hp : (firsts b n ++ rests b n).Perm ((List.range n).map Int.ofNat) := by
    unfold firsts rests
    rw [← List.map_append]
    exact (List.filter_append_perm _ _).map _
  exact ord_perm hp (hf ▸ perms_ord (List.getElem_mem hN))
theorem ords_set {p o : List (List Int)} (ho : Ords p o) (i : Nat) (q : List Int) (hi : i < p.length) (hq : isOrd q p[i].length = true) : Ords p (o.set i q) := by
  refine ⟨by simpa using ho.len, fun j h1 h2 => ?_⟩
  by_cases e : i = j
  · subst e; rw [List.getElem_set_self]; exact hq
  · rw [List.getElem_set_ne e]; exact ho.ord j (by simpa using h1) h2
theorem fr_seam (w : List Int) (b : Int) (n : Nat) (hf : firsts b n ≠ []) (hr : rests b n ≠ []) : sumI (wsOf w (firsts b n)) ∈ seamsOf w (firsts b n ++ rests b n) := by
  have h1 := List.length_pos_iff.2 hf
  have h2 := List.length_pos_iff.2 hr
  have hl : (firsts b n).length - 1 < (seamsOf w (firsts b n ++ rests b n)).length := by rw [seamsOf_len, List.length_append]; omega
  have := seamsOf_get w (firsts b n ++ rests b n) ((firsts b n).length - 1) hl
  rw [show (firsts b n).length - 1 + 1 = (firsts b n).length by omega] at this
  have e : (wsOf w (firsts b n ++ rests b n)).take (firsts b n).length = wsOf w (firsts b n) := by
    rw [wsOf, List.map_append, List.take_left' (by simp)]; rfl
  rw [e] at this
  rw [← this]
  exact List.getElem_mem hl
theorem seamReached_ok (hw : WK) (p : List (List Int)) (a b : Int) (hp : Fl2 p) (ha : 0 ≤ a ∧ a ≤ 255) (hb : 0 ≤ b ∧ b ≤ 255) : PO 10 [P1 p, .int .u8 a, .int .u8 b] (B true) := by
  refine fn_pureQ hmix lk10b rfl rfl fun Q hQ => ?_
  unfold rc10b
  conv => whnf
  refine ⟨by first | rfl | simp only [List.all_cons, List.all_nil, pu0, pub, pu1, pu2, pu1', pu2', pun, puf, puP, puP', puQ, puQ', Bool.and_true, Bool.and_self], _, fine_ok p hp, ?_⟩
  conv => whnf
  cases hf : fineB p with
  | false =>
    conv => whnf
    refine ⟨by first | rfl | simp only [List.all_cons, List.all_nil, pu0, pub, pu1, pu2, pu1', pu2', pun, puf, puP, puP', puQ, puQ', Bool.and_true, Bool.and_self], _, hw, ?_⟩
    conv => whnf
    exact hQ _ _ _ (ret_pure (.inr rfl) rfl rfl)
  | true =>
    have hv := fineB_val hf
    have h4 := hv.n4
    have h2 := hv.n2
    have hlen := hv.fit
    conv => whnf
    refine ⟨by omega, ?_⟩
    conv => whnf
    obtain ⟨i, hi, hil⟩ : ∃ i : Nat, (IntKind.i64.wrap a).tmod (p.length : Int) = (i : Int) ∧ i < p.length := by
      rw [wrapI a (by omega) (by omega)]
      refine ⟨(a.tmod p.length).toNat, ?_, ?_⟩
      · rw [Int.toNat_of_nonneg (Int.tmod_nonneg _ ha.1)]
      · have := Int.tmod_lt_of_pos a (show (0 : Int) < p.length by omega)
        have := Int.tmod_nonneg (p.length : Int) ha.1
        omega
    rw [hi]
    have hm := List.getElem_mem hil
    have hwl := hv.wl hm
    have hs := hv.sm hm
    obtain ⟨w, hwd⟩ : ∃ w, w = p[i] := ⟨_, rfl⟩
    rw [← hwd] at hwl hs
    obtain ⟨n, rfl⟩ : ∃ n : Nat, b = n := ⟨b.toNat, by omega⟩
    have hn1 := hwl.n1
    have hn5 := hwl.n5
    have hw100 : ∀ x ∈ w, 1 ≤ x ∧ x ≤ 100 := fun x hx => hv.w _ hm x (hwd ▸ hx)
    obtain ⟨c11, g11⟩ : ∃ c, rc10b_11 = c := ⟨_, rfl⟩
    rw [g11]
    refine .intro (CI (fun k => slots 125 [(2, .int .u8 (n : Nat)), (3, .ptr 0 0), (7, I i), (8, U1 (firsts n k)), (9, U1 (rests n k)), (10, I (sumI (wsOf w (firsts n k)))), (11, I k)]) w.length [.cells [L2 p]]) w.length (ci0 rfl) ?_
    rintro m T H ⟨k, hk, rfl, rfl, rfl⟩
    conv => whnf
    refine ⟨by omega, ?_⟩
    conv => whnf
    refine nthM _ _ _ hil ?_
    rw [← hwd]
    conv => whnf
    refine dcase (fun h3 => ?_) (fun h3 => ?_)
    · have hkl : k < w.length := by omega
      conv => whnf
      refine ⟨by omega, ?_⟩
      conv => whnf
      rw [show decide (IntKind.u8.wrap (((BitVec.ofInt IntKind.u8.bits (((n : Nat) : Int).fdiv (2 ^ (((k : Nat) : Int).toNat.min IntKind.u8.bits))) &&& BitVec.ofInt IntKind.u8.bits 1).toNat : Nat) : Int) = 1) = bitOn ((n : Nat) : Int) k from bit8 ⟨n, by omega⟩ ⟨k, by omega⟩]
      have f1 := firsts_len (n : Int) k
      have r1 := rests_len (n : Int) k
      have e1 := firsts_succ (n : Int) k
      have e2 := rests_succ (n : Int) k
      have b1 := ws_bound hw100 (firsts (n : Int) k)
      cases hbit : bitOn (n : Int) k with
      | true =>
        rw [hbit, if_pos rfl] at e1
        rw [hbit, if_pos rfl] at e2
        conv => whnf
        refine ⟨rfl, by decide, rfl, by omega, ?_⟩
        conv => whnf
        refine ⟨by omega, ?_⟩
        conv => whnf
        refine nthM _ _ _ hil ?_
        rw [← hwd]
        conv => whnf
        refine ⟨by omega, ?_⟩
        conv => whnf
        refine nthM _ _ _ (hkl) ?_
        conv => whnf
        have := hw100 _ (List.getElem_mem hkl)
        refine ciN hkl ?_
        have e3 : sumI (wsOf w (firsts (n : Int) k ++ [(k : Int)])) = sumI (wsOf w (firsts (n : Int) k)) + w[k] := by
          rw [wsOf, List.map_append, sumI_append]
          simp [wsOf, sumI, hkl]
        rw [e1, e2, e3, ← U1_snoc, ← wrapS k (by omega), wrapI (sumI (wsOf w (firsts (n : Int) k)) + w[k]) (by omega) (by omega)]
        rfl
      | false =>
        rw [hbit, if_neg (by decide)] at e1
        rw [hbit, if_neg (by decide)] at e2
        conv => whnf
        refine ⟨rfl, by decide, rfl, by omega, ?_⟩
        conv => whnf
        refine ciN hkl ?_
        rw [e1, e2, ← U1_snoc, ← wrapS k (by omega)]
        rfl
    · obtain rfl : k = w.length := by omega
      conv => whnf
      refine ⟨_, _, call2u (chosen_sem p hv), ?_⟩
      conv => whnf
      subst g11
      unfold rc10b_11
      obtain ⟨c10, g10⟩ : ∃ c, rc10b_10 = c := ⟨_, rfl⟩
      rw [g10]
      conv => whnf
      have ho := chosen_ords p []
      have hol := ho.len
      have hcl : (chosen p []).length ≠ 0 := by omega
      refine .inl ⟨hcl, ?_⟩
      conv => whnf
      have f1 := firsts_len (n : Int) w.length
      have r1 := rests_len (n : Int) w.length
      refine ⟨by simp, by omega, ?_⟩
      conv => whnf
      refine ⟨by simp, ?_⟩
      conv => whnf
      refine ⟨by omega, ?_⟩
      conv => whnf
      refine ⟨by simp, by omega, ?_⟩
      conv => whnf
      refine ⟨by simp, ?_⟩
      conv => whnf
      refine ⟨by omega, ?_⟩
      conv => whnf
      refine ⟨by omega, ?_⟩
      conv => whnf
      refine updK_of (by simp; omega) ?_
      conv => whnf
      subst g10
      unfold rc10b_10
      obtain ⟨c9, g9⟩ : ∃ c, rc10b_9 = c := ⟨_, rfl⟩
      rw [g9]
      conv => whnf
      obtain ⟨fr, hfr⟩ : ∃ x, x = firsts (n : Int) w.length ++ rests (n : Int) w.length := ⟨_, rfl⟩
      have hrow : rowOf ([AObj.cells [L2 p], AObj.cells (((chosen p []).map L1).set (0 + ((i : Nat) : Int).toNat * 1) (AV.lst (repl 0 [AV.int IntKind.i64 0] ++ (firsts (n : Int) w.length).map I ++ (rests (n : Int) w.length).map I) (0 + (firsts (n : Int) w.length).length + (rests (n : Int) w.length).length) (.own 1)))]) (.ref 1 0 (chosen p []).length none 1) = some (((chosen p []).set i fr).map L1) := by
        simp only [rowOf, List.getElem?_cons_succ, List.getElem?_cons_zero, Nat.zero_add, Nat.mul_one, List.length_set, List.length_map, Nat.le_refl, if_true, List.drop_zero]
        rw [List.take_of_length_le (by simp), List.map_set, List.map_map, List.map_set, hfr]
        have e1 : (AV.view ∘ L1) = L1 := rfl
        rw [e1]
        simp [L1, AV.view, repl]
      refine ⟨.lst (((chosen p []).set i fr).map L1) (chosen p []).length .shared, [.cells [L2 p], .dead], fun C => ?_, ?_⟩
      · show (if 0 ≤ 1 then (rowOf _ (.ref 1 0 (chosen p []).length none 1)).bind _ else none) = _
        rw [if_pos (by omega)]
        exact congrArg (Option.bind · _) hrow
      conv => whnf
      have hfo : isOrd fr w.length = true := hfr ▸ fr_ord (n : Int) hn1 hn5
      have hON : Ords p ((chosen p []).set i fr) := ords_set ho i fr hil (hwd ▸ hfo)
      have hONi : ((chosen p []).set i fr)[i]? = some fr := by rw [List.getElem?_set_self (by omega)]
      have hONl : ((chosen p []).set i fr).length = (chosen p []).length := by simp
      rw [← hONl]
      generalize (chosen p []).set i fr = o at hON hONi
      obtain ⟨q1, q2⟩ := hON.fit hv
      have he := hON.err hv
      have hol2 := hON.len
      refine ⟨by simp only [List.all_cons, List.all_nil, Bool.and_true, puP, pu2, Bool.and_self], _, pSeams_ok p o q1, ?_⟩
      have e7 : seamsE p o = seamsBy p o := if_pos he
      obtain ⟨S, hSd⟩ : ∃ S, S = seamsBy p o := ⟨_, rfl⟩
      rw [e7, he, ← hSd]
      have hS : S.length = p.length := by rw [hSd]; simp [seamsBy]; omega
      have hSi : S[i]'(by omega) = seamsOf w fr := by
        subst hSd
        have : o[i]'(by omega) = fr := by rw [List.getElem?_eq_getElem (by omega)] at hONi; exact Option.some.inj hONi
        simp [seamsBy, this, ← hwd]
      clear hSd
      conv => whnf
      subst g9
      unfold rc10b_9
      obtain ⟨c8, g8⟩ : ∃ c, rc10b_8 = c := ⟨_, rfl⟩
      rw [g8]
      conv => whnf
      have hle : layErr p (i : Int) = 0 := by
        unfold layErr
        rw [if_neg (by simp [hv.check]), if_neg (by simp [outOf]; omega)]
      have hg : p.getD (i : Int).toNat [] = w := by rw [hwd]; simp [hil]
      have hs1 : sumsV p (i : Int) = rsums w := by unfold sumsV; rw [if_pos hle, hg]
      have c1 := pSums2_ok p (i : Int) hlen.1 hlen.2
      rw [hs1, hle, if_pos rfl] at c1
      refine ⟨by first | rfl | simp only [List.all_cons, List.all_nil, pu0, pub, pu1, pu2, pu1', pu2', pun, puf, puP, puP', puQ, puQ', Bool.and_true, Bool.and_self], _, c1, ?_⟩
      conv => whnf
      subst g8
      unfold rc10b_8
      obtain ⟨c7, g7⟩ : ∃ c, rc10b_7 = c := ⟨_, rfl⟩
      rw [g7]
      conv => whnf
      rw [decide_eq_false (show ¬ ((S.length : Int) ≠ (p.length : Int)) by omega)]
      conv => whnf
      subst g7
      unfold rc10b_7
      obtain ⟨c5, g5⟩ : ∃ c, rc10b_5 = c := ⟨_, rfl⟩
      obtain ⟨c6, g6⟩ : ∃ c, rc10b_6 = c := ⟨_, rfl⟩
      rw [g5, g6]
      conv => whnf
      have l1 := rsums_len hwl
      have hfl : fr.length = (firsts (n : Int) w.length).length + (rests (n : Int) w.length).length := by rw [hfr, List.length_append]
      have hfl2 : fr.length = w.length := (isOrd_iff.1 hfo).1
      have hsum : sumI w = sumI (wsOf w (firsts (n : Int) w.length)) + sumI (wsOf w (rests (n : Int) w.length)) := by
        rw [← ws_sum hfo, hfr, ← sumI_append]; simp [wsOf]
      have hout : (firsts (n : Int) w.length).length = 0 ∨ (rests (n : Int) w.length).length = 0 → has (rsums w) (sumI (wsOf w (firsts (n : Int) w.length))) = false := fun hz => by
        cases hh : has (rsums w) (sumI (wsOf w (firsts (n : Int) w.length))) with
        | false => rfl
        | true =>
          have := rsums_in hwl (has_iff.1 hh)
          rcases hz with hz | hz
          · rw [List.length_eq_zero_iff.1 hz] at this
            simp [wsOf, sumI] at this
          · rw [List.length_eq_zero_iff.1 hz] at hsum
            simp only [wsOf, List.map_nil, sumI_nil] at hsum
            simp only [wsOf] at this
            omega
      by_cases hz1 : ((firsts (n : Int) w.length).length : Int) = 0
      · rw [decide_eq_true hz1]
        conv => whnf
        subst g5
        unfold rc10b_5
        conv => whnf
        refine ⟨by first | rfl | simp only [List.all_cons, List.all_nil, pu0, pub, pu1, pu2, pu1', pu2', pun, puf, puP, puP', puQ, puQ', Bool.and_true, Bool.and_self], _, hasLong_ok (rsums w) (sumI (wsOf w (firsts (n : Int) w.length))) (by omega), ?_⟩
        conv => whnf
        rw [hout (.inl (by omega))]
        conv => whnf
        refine ⟨by first | rfl | simp only [List.all_cons, List.all_nil, pu0, pub, pu1, pu2, pu1', pu2', pun, puf, puP, puP', puQ, puQ', Bool.and_true, Bool.and_self], _, hw, ?_⟩
        conv => whnf
        exact hQ _ _ _ (ret_pure (.inr rfl) rfl rfl)
      rw [decide_eq_false hz1]
      conv => whnf
      by_cases hz2 : ((rests (n : Int) w.length).length : Int) = 0
      · rw [decide_eq_true hz2]
        conv => whnf
        subst g5
        unfold rc10b_5
        conv => whnf
        refine ⟨by first | rfl | simp only [List.all_cons, List.all_nil, pu0, pub, pu1, pu2, pu1', pu2', pun, puf, puP, puP', puQ, puQ', Bool.and_true, Bool.and_self], _, hasLong_ok (rsums w) (sumI (wsOf w (firsts (n : Int) w.length))) (by omega), ?_⟩
        conv => whnf
        rw [hout (.inr (by omega))]
        conv => whnf
        refine ⟨by first | rfl | simp only [List.all_cons, List.all_nil, pu0, pub, pu1, pu2, pu1', pu2', pun, puf, puP, puP', puQ, puQ', Bool.and_true, Bool.and_self], _, hw, ?_⟩
        conv => whnf
        exact hQ _ _ _ (ret_pure (.inr rfl) rfl rfl)
      rw [decide_eq_false hz2]
      have hin : sumI (wsOf w (firsts (n : Int) w.length)) ∈ seamsOf w fr := by
        rw [hfr]; exact fr_seam w (n : Int) w.length (fun e => by rw [e] at hz1; exact hz1 rfl) (fun e => by rw [e] at hz2; exact hz2 rfl)
      conv => whnf
      subst g6
      unfold rc10b_6
      conv => whnf
      refine ⟨by omega, ?_⟩
      conv => whnf
      refine nthM _ _ _ ((show i < S.length by omega)) ?_
      conv => whnf
      rw [hSi]
      refine ⟨by first | rfl | simp only [List.all_cons, List.all_nil, pu0, pub, pu1, pu2, pu1', pu2', pun, puf, puP, puP', puQ, puQ', Bool.and_true, Bool.and_self], _, hasLong_ok (seamsOf w fr) (sumI (wsOf w (firsts (n : Int) w.length))) (by rw [seamsOf_len]; omega), ?_⟩
      conv => whnf
      rw [has_iff.2 hin]
      conv => whnf
      refine ⟨by first | rfl | simp only [List.all_cons, List.all_nil, pu0, pub, pu1, pu2, pu1', pu2', pun, puf, puP, puP', puQ, puQ', Bool.and_true, Bool.and_self], _, hasLong_ok (rsums w) (sumI (wsOf w (firsts (n : Int) w.length))) (by omega), ?_⟩
      conv => whnf
      rw [has_iff.2 ((rsums_mem hwl _).2 ⟨fr, perms_of hfo, hin⟩)]
      conv => whnf
      refine ⟨by first | rfl | simp only [List.all_cons, List.all_nil, pu0, pub, pu1, pu2, pu1', pu2', pun, puf, puP, puP', puQ, puQ', Bool.and_true, Bool.and_self], _, hw, ?_⟩
      conv => whnf
      exact hQ _ _ _ (ret_pure (.inr rfl) rfl rfl)
end Go.Proofs.Ytlcebaejlnpdeaa.Ab

/-
  Closed calls of the layer: those of the map of meetings.
-/
namespace Go.Proofs.Ytlcebaejlnpdeaa.Ab
open Go
theorem meets_pure (rows : List (List Int)) (j i : Nat) (k v : AV) (h : (meets rows)[j]? = some (i, k, v)) : pureD 8 k = true ∧ pureD 8 v = true := by
  have := List.mem_of_getElem? h
  unfold meets at this
  obtain ⟨q, _, e⟩ := List.mem_map.1 this
  simp only [entOf, Prod.mk.injEq] at e
  obtain ⟨_, rfl, rfl⟩ := e
  exact ⟨rfl, rfl⟩
def meetE (rows : List (List Int)) : Ent := .map 63 [L2 rows] (meets rows) (places rows 0).length
theorem meetE_ok (rows : List (List Int)) (hl : rows.length ≤ 1000) (hr : ∀ r ∈ rows, r.length ≤ 1000) (hn : (places rows 0).Nodup) : entOk Go.Proofs.Try.prog (meetE rows) := fun H =>
  sem_map (by simp only [List.all_cons, List.all_nil, Bool.and_true]; exact pure_L2 5 rows) (meets_pure rows) (meetings_ok rows hl hr hn) H
def meetL : List Ent := [meetE [[2, 5], [5]], meetE [[2, 7], [5]], meetE [[5], [5], [4]], meetE [[5], [5]], meetE [[5], [4]]]
theorem meetL_ok : ∀ e ∈ meetL, entOk Go.Proofs.Try.prog e := by
  intro e he
  simp only [meetL, List.mem_cons, List.not_mem_nil, or_false] at he
  rcases he with rfl | rfl | rfl | rfl | rfl
  · exact meetE_ok _ (by decide) (by decide) (by decide)
  · exact meetE_ok _ (by decide) (by decide) (by decide)
  · exact meetE_ok _ (by decide) (by decide) (by decide)
  · exact meetE_ok _ (by decide) (by decide) (by decide)
  · exact meetE_ok _ (by decide) (by decide) (by decide)
end Go.Proofs.Ytlcebaejlnpdeaa.Ab

/- MADE BY PROGRAM (closed.py): closed calls. -/
namespace Go.Proofs.Ytlcebaejlnpdeaa.Ab
open Go
def e0 : Ent := .pure 21 [.agg [.lst [.lst [.int .i64 2, .int .i64 3, .int .i64 5] 3 .shared, .lst [.int .i64 5, .int .i64 5] 2 .shared] 2 .shared], .lst [.lst [.int .i64 0, .int .i64 1, .int .i64 2] 3 .shared, .lst [.int .i64 0, .int .i64 1] 2 .shared] 2 .shared] (.tuple [.int .i64 1, .int .i64 0])
theorem e0_ok : entOk Go.Proofs.Try.prog e0 := runC_ok meetL_ok (by kernel_rfl)
def e1 : Ent := .pure 21 [.agg [.lst [.lst [.int .i64 2, .int .i64 3, .int .i64 5] 3 .shared, .lst [.int .i64 5, .int .i64 5] 2 .shared] 2 .shared], .lst [.lst [.int .i64 0, .int .i64 2, .int .i64 1] 3 .shared, .lst [.int .i64 1, .int .i64 0] 2 .shared] 2 .shared] (.tuple [.int .i64 0, .int .i64 0])
theorem e1_ok : entOk Go.Proofs.Try.prog e1 := runC_ok meetL_ok (by kernel_rfl)
def e2 : Ent := .pure 21 [.agg [.lst [.lst [.int .i64 2, .int .i64 3, .int .i64 5] 3 .shared, .lst [.int .i64 5, .int .i64 5] 2 .shared] 2 .shared], .lst [.lst [.int .i64 0, .int .i64 1, .int .i64 2] 3 .shared] 1 .shared] (.tuple [.int .i64 0, .int .i64 15])
theorem e2_ok : entOk Go.Proofs.Try.prog e2 := runC_ok meetL_ok (by kernel_rfl)
def e3 : Ent := .pure 21 [.agg [.lst [.lst [.int .i64 2, .int .i64 3, .int .i64 5] 3 .shared, .lst [.int .i64 5, .int .i64 5] 2 .shared] 2 .shared], .lst [.lst [.int .i64 0, .int .i64 1, .int .i64 1] 3 .shared, .lst [.int .i64 0, .int .i64 1] 2 .shared] 2 .shared] (.tuple [.int .i64 0, .int .i64 16])
theorem e3_ok : entOk Go.Proofs.Try.prog e3 := runC_ok meetL_ok (by kernel_rfl)
def e4 : Ent := .pure 23 [.agg [.lst [.lst [.int .i64 2, .int .i64 3, .int .i64 5] 3 .shared, .lst [.int .i64 5, .int .i64 5] 2 .shared] 2 .shared], .lst [.lst [.int .i64 0, .int .i64 1, .int .i64 2] 3 .shared, .lst [.int .i64 0, .int .i64 1] 2 .shared] 2 .shared] (.tuple [.lst [.lst [.int .i64 2, .int .i64 5] 2 .shared, .lst [.int .i64 5] 1 .shared] 2 .shared, .int .i64 0])
theorem e4_ok : entOk Go.Proofs.Try.prog e4 := runC_ok meetL_ok (by kernel_rfl)
def e6 : Ent := .pure 28 [.agg [.lst [.lst [.int .i64 2, .int .i64 3, .int .i64 5] 3 .shared, .lst [.int .i64 5, .int .i64 5] 2 .shared] 2 .shared], .lst [.lst [.int .i64 0, .int .i64 1, .int .i64 2] 3 .shared, .lst [.int .i64 0, .int .i64 1] 2 .shared] 2 .shared] (.tuple [.lst [.int .i64 5] 1 .shared, .int .i64 0])
theorem e6_ok : entOk Go.Proofs.Try.prog e6 := runC_ok meetL_ok (by kernel_rfl)
def e7 : Ent := .pure 30 [.agg [.lst [.lst [.int .i64 2, .int .i64 3, .int .i64 5] 3 .shared, .lst [.int .i64 5, .int .i64 5] 2 .shared] 2 .shared], .lst [.lst [.int .i64 0, .int .i64 2, .int .i64 1] 3 .shared, .lst [.int .i64 0, .int .i64 1] 2 .shared] 2 .shared] (.tuple [.int .i64 2, .int .i64 0])
theorem e7_ok : entOk Go.Proofs.Try.prog e7 := runC_ok meetL_ok (by kernel_rfl)
def e8 : Ent := .pure 33 [.agg [.lst [.lst [.int .i64 5, .int .i64 5] 2 .shared, .lst [.int .i64 5, .int .i64 5] 2 .shared, .lst [.int .i64 4, .int .i64 6] 2 .shared] 3 .shared]] (.tuple [.int .i64 1, .int .i64 0])
theorem e8_ok : entOk Go.Proofs.Try.prog e8 := runC_ok meetL_ok (by kernel_rfl)
def e9 : Ent := .pure 35 [.agg [.lst [.lst [.int .i64 2, .int .i64 3, .int .i64 5] 3 .shared, .lst [.int .i64 5, .int .i64 5] 2 .shared] 2 .shared]] (.tuple [.lst [.lst [.int .i64 0, .int .i64 2, .int .i64 1] 3 .shared, .lst [.int .i64 0, .int .i64 1] 2 .shared] 2 .shared, .int .i64 0])
theorem e9_ok : entOk Go.Proofs.Try.prog e9 := runC_ok meetL_ok (by kernel_rfl)
end Go.Proofs.Ytlcebaejlnpdeaa.Ab

/- MADE BY PROGRAM (closed.py): closed calls. -/
namespace Go.Proofs.Ytlcebaejlnpdeaa.Ab
open Go
def e10 : Ent := .pure 37 [.agg [.lst [.lst [.int .i64 5, .int .i64 5] 2 .shared, .lst [.int .i64 5, .int .i64 5] 2 .shared, .lst [.int .i64 4, .int .i64 6] 2 .shared] 3 .shared], .int .i64 0] (.tuple [.int .i64 1, .int .i64 0])
theorem e10_ok : entOk Go.Proofs.Try.prog e10 := runC_ok meetL_ok (by kernel_rfl)
def e11 : Ent := .pure 37 [.agg [.lst [.lst [.int .i64 5, .int .i64 5] 2 .shared, .lst [.int .i64 5, .int .i64 5] 2 .shared, .lst [.int .i64 4, .int .i64 6] 2 .shared] 3 .shared], .int .i64 2] (.tuple [.int .i64 0, .int .i64 2])
theorem e11_ok : entOk Go.Proofs.Try.prog e11 := runC_ok meetL_ok (by kernel_rfl)
def e12 : Ent := .pure 40 [.agg [.lst [.lst [.int .i64 2, .int .i64 3, .int .i64 5] 3 .shared, .lst [.int .i64 5, .int .i64 5] 2 .shared] 2 .shared], .int .i64 0] (.tuple [.lst [.int .i64 2, .int .i64 3, .int .i64 5, .int .i64 7, .int .i64 8] 5 .full, .int .i64 0])
theorem e12_ok : entOk Go.Proofs.Try.prog e12 := runC_ok meetL_ok (by kernel_rfl)
def e13 : Ent := .pure 42 [.agg [.lst [.lst [.int .i64 2, .int .i64 3, .int .i64 5] 3 .shared, .lst [.int .i64 5, .int .i64 5] 2 .shared] 2 .shared], .int .i64 1] (.tuple [.lst [.int .i64 5] 1 .shared, .int .i64 0])
theorem e13_ok : entOk Go.Proofs.Try.prog e13 := runC_ok meetL_ok (by kernel_rfl)
def e14 : Ent := .pure 42 [.agg [.lst [.lst [.int .i64 2, .int .i64 3, .int .i64 5] 3 .shared, .lst [.int .i64 5, .int .i64 5] 2 .shared] 2 .shared], .int .i64 2] (.tuple [.lst [] 0 .shared, .int .i64 2])
theorem e14_ok : entOk Go.Proofs.Try.prog e14 := runC_ok meetL_ok (by kernel_rfl)
end Go.Proofs.Ytlcebaejlnpdeaa.Ab

/- MADE BY PROGRAM (closed.py): closed calls. -/
namespace Go.Proofs.Ytlcebaejlnpdeaa.Ab
open Go
def e15 : Ent := .pure 44 [.agg [.lst [.lst [.int .i64 2, .int .i64 3, .int .i64 5] 3 .shared, .lst [.int .i64 5, .int .i64 5] 2 .shared] 2 .shared]] (.tuple [.int .i64 2, .int .i64 0])
theorem e15_ok : entOk Go.Proofs.Try.prog e15 := runC_ok meetL_ok (by kernel_rfl)
def e16 : Ent := .pure 46 [.agg [.lst [.lst [.int .i64 2, .int .i64 3, .int .i64 5] 3 .shared, .lst [.int .i64 5, .int .i64 5] 2 .shared] 2 .shared], .int .i64 2] (.tuple [.lst [.lst [.int .i64 0, .int .i64 2, .int .i64 1] 3 .shared, .lst [.int .i64 0, .int .i64 1] 2 .shared] 2 .shared, .int .i64 0])
theorem e16_ok : entOk Go.Proofs.Try.prog e16 := runC_ok meetL_ok (by kernel_rfl)
def e17 : Ent := .pure 46 [.agg [.lst [.lst [.int .i64 2, .int .i64 3, .int .i64 5] 3 .shared, .lst [.int .i64 5, .int .i64 5] 2 .shared] 2 .shared], .int .i64 3] (.tuple [.lst [] 0 .shared, .int .i64 21])
theorem e17_ok : entOk Go.Proofs.Try.prog e17 := runC_ok meetL_ok (by kernel_rfl)
def e18 : Ent := .pure 46 [.agg [.lst [.lst [.int .i64 2, .int .i64 3, .int .i64 5] 3 .shared, .lst [.int .i64 5, .int .i64 5] 2 .shared] 2 .shared], .int .i64 (-1)] (.tuple [.lst [] 0 .shared, .int .i64 3])
theorem e18_ok : entOk Go.Proofs.Try.prog e18 := runC_ok meetL_ok (by kernel_rfl)
end Go.Proofs.Ytlcebaejlnpdeaa.Ab

/-
  Works: a closed call.
-/
namespace Go.Proofs.Ytlcebaejlnpdeaa.Ab
open Go
def worksL : List Ent := [e0, e1, e2, e3, e4, e6, e7, e8, e9, e10, e11, e12, e13, e14, e15, e16, e17, e18]
theorem worksL_ok : ∀ e ∈ worksL, entOk Go.Proofs.Try.prog e := by
  simp only [worksL, List.forall_mem_cons]
  exact ⟨e0_ok, e1_ok, e2_ok, e3_ok, e4_ok, e6_ok, e7_ok, e8_ok, e9_ok, e10_ok, e11_ok, e12_ok, e13_ok, e14_ok, e15_ok, e16_ok, e17_ok, e18_ok, by simp⟩
theorem works_ok : PO 20 [] (B true) := runC_ok worksL_ok (by kernel_rfl)
end Go.Proofs.Ytlcebaejlnpdeaa.Ab
