/-
  Contracts: slices' nextPowerOfTwo, xorshift.Next, breakPatternsOrdered.
-/
import Derived.Test.YtlcebaejlnpdeaaJa5
import Derived.Laws.BitsLemmas
import Derived.Test.YtlcebaejlnpdeaaJa4
import Derived.Test.YtlcebaejlnpdeaaProg
import Derived.KernelRfl
import Derived.Test.YtlcebaejlnpdeaaJa3
set_option linter.unusedSimpArgs false
set_option linter.unusedVariables false
set_option linter.unusedSectionVars false
namespace Go.Proofs.Ytlcebaejlnpdeaa.Ab
open Go
set_option maxRecDepth 20000
set_option maxHeartbeats 4000000
theorem wrapU (n : Int) : IntKind.u64.wrap n = n % 18446744073709551616 := by simp [IntKind.wrap, IntKind.bits, IntKind.signed]
theorem lens_all : ((List.range 32).all fun n => match runC [] 115 [.int .u64 (n : Nat)] with | some v => avEq 3 v (I (Sort.bitsLen n)) | none => false) = true := by kernel_rfl
theorem bitsLen_ok (n : Nat) (h : n < 32) : PO 115 [.int .u64 n] (I (Sort.bitsLen n)) := by
  have := List.all_eq_true.1 lens_all n (List.mem_range.2 h)
  split at this
  · rename_i v hv
    rw [avEq_ok _ _ _ this] at hv
    exact runC_ok (l := []) (by simp) hv
  · cases this
theorem bitsLen_le (n : Nat) (h : n < 32) : Sort.bitsLen n ≤ 5 := by
  have : ∀ n : Fin 32, Sort.bitsLen n.1 ≤ 5 := by decide
  exact this ⟨n, h⟩
theorem pow2_ok (n : Nat) (h : n < 32) : PO 128 [I n] (.int .u64 ((1 <<< Sort.bitsLen n : Nat) : Int)) := by
  refine fn_pure hmix lk128 rfl rfl ?_
  unfold rc128
  conv => whnf
  rw [show IntKind.u64.wrap (n : Int) = (n : Int) by rw [wrapU]; omega]
  refine ⟨by first | rfl | simp only [List.all_cons, List.all_nil, pu0, pub, pu1, pu2, pu1', pu2', pun, puf, puP, puP', puQ, puQ', Bool.and_true, Bool.and_self], _, bitsLen_ok n h, ?_⟩
  conv => whnf
  have hb := bitsLen_le n h
  have e : IntKind.u64.wrap (1 * 2 ^ ((Sort.bitsLen n : Nat) : Int).toNat.min IntKind.u64.bits) = ((1 <<< Sort.bitsLen n : Nat) : Int) := by
    generalize Sort.bitsLen n = m at hb
    have : ∀ m : Fin 6, IntKind.u64.wrap (1 * 2 ^ ((m.1 : Nat) : Int).toNat.min IntKind.u64.bits) = ((1 <<< m.1 : Nat) : Int) := by decide
    exact this ⟨m, by omega⟩
  rw [e]
  refine ⟨by omega, ?_⟩
  conv => whnf
  exact ret_pure (.inr rfl) rfl rfl
theorem u64_xor (a b : UInt64) : IntKind.u64.wrap (((BitVec.ofInt IntKind.u64.bits (a.toNat : Int) ^^^ BitVec.ofInt IntKind.u64.bits (b.toNat : Int)).toNat : Nat) : Int) = ((a ^^^ b).toNat : Int) := by
  have h1 : BitVec.ofInt IntKind.u64.bits (a.toNat : Int) = a.toBitVec := by
    apply BitVec.eq_of_toNat_eq; simp [IntKind.bits]
  have h2 : BitVec.ofInt IntKind.u64.bits (b.toNat : Int) = b.toBitVec := by
    apply BitVec.eq_of_toNat_eq; simp [IntKind.bits]
  rw [h1, h2, wrapU]
  have := (a ^^^ b).toNat_lt
  show ((a ^^^ b).toNat : Int) % 18446744073709551616 = _
  omega
theorem two64 : ((2 ^ 64 : Nat) : Int) = 18446744073709551616 := by decide
theorem u64_shl (a k : UInt64) (m : Nat) (hk : k.toNat = m) (h : m < 64) : IntKind.u64.wrap ((a.toNat : Int) * 2 ^ m) = ((a <<< k).toNat : Int) := by
  subst hk
  rw [wrapU, UInt64.toNat_shiftLeft, Nat.mod_eq_of_lt h, Nat.shiftLeft_eq, Int.natCast_emod, two64, Int.natCast_mul, Int.natCast_pow]
  congr 1
theorem u64_shr (a k : UInt64) (m : Nat) (hk : k.toNat = m) (h : m < 64) : ((a.toNat : Int).fdiv (2 ^ m)) = ((a >>> k).toNat : Int) := by
  subst hk
  rw [UInt64.toNat_shiftRight, Nat.mod_eq_of_lt h, Nat.shiftRight_eq_div_pow]
  rw [Int.fdiv_eq_ediv_of_nonneg _ (Int.pow_nonneg (by decide)), Int.natCast_ediv, Int.natCast_pow]
  congr 1
/-- A region, for any rest. -/
theorem regG {P : Program} {lo : Nat} {d : Bool} {l : List RI} {acc : PAcc} {T : List AV} {H : List AObj} {K : List AV → List AObj → Prop} {G : (List AV → List AObj → Prop) → Prop} (e : ∀ K, G K → regK P lo d l acc T H K) (h : G K) : regK P lo d l acc T H K := e K h
/-- A contract; what is to hold at the end is a word alone (the kernel is spared it). -/
theorem fn_semQ {P : Program} (hmix : P.follows .mixedOrders = true) {k : Nat} {A : FAnn} {rc : RC} {n : Nat} {ts : List RV} (hl : linkF P A k = some (rc, n, ts)) {lo : Nat} {args T : List AV} {H H' : List AObj} (hT : args ++ List.replicate (n - args.length) .junk = T) {v : AV} (hlow : Low lo H H')
    (h : ∀ Q : Ex → List AV → List AObj → Prop, (∀ e T1 H1, (e = .normal ∨ e = .ret) ∧ Fgt H1 H' ∧ (readR H1 T1 ts).map packResults = some v → Q e T1 H1) → wpR P A k lo none rc T H Q) : Sem P (.fn k) args H lo v H' :=
  fn_sem hmix hl hT hlow (h _ fun _ _ _ h => h)
theorem fn_pureQ {P : Program} (hmix : P.follows .mixedOrders = true) {k : Nat} {A : FAnn} {rc : RC} {n : Nat} {ts : List RV} (hl : linkF P A k = some (rc, n, ts)) {args T : List AV} (hT : args ++ List.replicate (n - args.length) .junk = T) {v : AV} (hp : pureD 8 v = true)
    (h : ∀ Q : Ex → List AV → List AObj → Prop, (∀ e T1 H1, Ret ts v e T1 H1 → Q e T1 H1) → wpR P A k 0 none rc T [] Q) : PureOk P k args v :=
  fn_pure hmix hl hT hp (h _ fun _ _ _ h => h)
section
variable {H : List AObj} {lo : Nat}
theorem next_sem (r : UInt64) (sid : Nat) (hs : lo ≤ sid) (hS : H[sid]? = some (.cells [.int .u64 (r.toNat : Nat)])) :
    Sem Go.Proofs.Try.prog (.fn 129) [.ptr sid 0] H lo (.int .u64 ((Sort.xorNext r).toNat : Nat)) (H.set sid (.cells [.int .u64 ((Sort.xorNext r).toNat : Nat)])) := by
  have hid := (List.getElem?_eq_some_iff.1 hS).1
  refine fn_sem hmix lk129 rfl ⟨by simp, fun j h1 h2 => by rw [List.getElem?_set_ne (by omega)]⟩ ?_
  unfold rc129
  conv => whnf
  have hbl : Nat.ble lo sid = true := Nat.ble_eq_true_of_le hs
  have gs : ∀ c : AObj, (H.set sid c)[sid]? = some c := fun c => by rw [List.getElem?_set_self hid]
  have gss : ∀ c e : AObj, ((H.set sid c).set sid e)[sid]? = some e := fun c e => by rw [List.set_set, gs]
  obtain ⟨r1, h1⟩ : ∃ r1, r1 = r ^^^ (r <<< 13) := ⟨_, rfl⟩
  obtain ⟨r2, h2⟩ : ∃ r2, r2 = r1 ^^^ (r1 >>> 7) := ⟨_, rfl⟩
  obtain ⟨r3, h3⟩ : ∃ r3, r3 = r2 ^^^ (r2 <<< 17) := ⟨_, rfl⟩
  have e3 : Sort.xorNext r = r3 := by subst h3 h2 h1; rfl
  rw [e3]
  refine nthK_of (hS) ?_
  conv => whnf
  refine nthK_of (hS) ?_
  conv => whnf
  refine ⟨by decide, ?_⟩
  rw [show IntKind.u64.wrap ((r.toNat : Int) * 2 ^ ((13 : Int).toNat.min IntKind.u64.bits)) = ((r <<< 13).toNat : Int) from u64_shl r 13 13 rfl (by decide)]
  show regK Go.Proofs.Try.prog lo true [I_ 10 [.tv 5, .tv 9] (.bin .xor), I_ 11 [.sl 3] .nilc, ⟨none, [.tk 11, .tk 10], none, none, .st 1⟩] _ _ _ _
  refine regG (G := ?G1) (fun K h => ?e1) ?h1
  case e1 =>
    conv => whnf
    rw [u64_xor, ← h1, hbl]
    conv => whnf
    exact h
  refine nthK_of (hS) ?_
  conv => whnf
  refine nthK_of (gs _) ?_
  conv => whnf
  refine nthK_of (gs _) ?_
  conv => whnf
  refine ⟨by decide, ?_⟩
  rw [show ((r1.toNat : Int).fdiv (2 ^ ((7 : Int).toNat.min IntKind.u64.bits))) = ((r1 >>> 7).toNat : Int) from u64_shr r1 7 7 rfl (by decide)]
  show regK Go.Proofs.Try.prog lo true [I_ 19 [.tv 14, .tv 18] (.bin .xor), I_ 20 [.sl 12] .nilc, ⟨none, [.tk 20, .tk 19], none, none, .st 1⟩] _ _ _ _
  refine regG (G := ?G2) (fun K h => ?e2) ?h2
  case e2 =>
    conv => whnf
    rw [u64_xor, ← h2, hbl]
    conv => whnf
    exact h
  refine nthK_of (gs _) ?_
  conv => whnf
  refine nthK_of (gss _ _) ?_
  conv => whnf
  refine nthK_of (gss _ _) ?_
  conv => whnf
  refine ⟨by decide, ?_⟩
  rw [show IntKind.u64.wrap ((r2.toNat : Int) * 2 ^ ((17 : Int).toNat.min IntKind.u64.bits)) = ((r2 <<< 17).toNat : Int) from u64_shl r2 17 17 rfl (by decide)]
  show regK Go.Proofs.Try.prog lo true [I_ 28 [.tv 23, .tv 27] (.bin .xor), I_ 29 [.sl 21] .nilc, ⟨none, [.tk 29, .tk 28], none, none, .st 1⟩] _ _ _ _
  refine regG (G := ?G3) (fun K h => ?e3) ?h3
  case e3 =>
    conv => whnf
    rw [u64_xor, ← h3, hbl]
    conv => whnf
    exact h
  refine nthK_of (gss _ _) ?_
  conv => whnf
  refine nthK_of (by rw [List.set_set, List.set_set, gs]) ?_
  conv => whnf
  refine ⟨.inr rfl, ?_, rfl⟩
  simp only [List.set_set]
  exact ⟨by simp, fun j o hj => .inr hj⟩
theorem and_bound (x : Nat) (L : Nat) (h8 : 8 ≤ L) (h : L < 32) : (x &&& ((1 <<< Sort.bitsLen L) - 1)) < 2 * L ∧ 1 ≤ 1 <<< Sort.bitsLen L ∧ 1 <<< Sort.bitsLen L ≤ 64 := by
  have key : ∀ n : Fin 32, (8 ≤ n.1 → (1 <<< Sort.bitsLen n.1) - 1 < 2 * n.1) ∧ 1 ≤ 1 <<< Sort.bitsLen n.1 ∧ 1 <<< Sort.bitsLen n.1 ≤ 64 := by decide
  have h1 := key ⟨L, h⟩
  have h2 : (x &&& ((1 <<< Sort.bitsLen L) - 1)) ≤ (1 <<< Sort.bitsLen L) - 1 := Nat.and_le_right
  exact ⟨Nat.lt_of_le_of_lt h2 (h1.1 h8), h1.2⟩
theorem u64_and (x : UInt64) (m : Nat) (h : m < 18446744073709551616) : IntKind.u64.wrap (((BitVec.ofInt IntKind.u64.bits (x.toNat : Int) &&& BitVec.ofInt IntKind.u64.bits (m : Int)).toNat : Nat) : Int) = ((x.toNat &&& m : Nat) : Int) := by
  have h1 : BitVec.ofInt IntKind.u64.bits (x.toNat : Int) = BitVec.ofNat 64 x.toNat := by
    apply BitVec.eq_of_toNat_eq; simp [IntKind.bits]
  have h2 : BitVec.ofInt IntKind.u64.bits (m : Int) = BitVec.ofNat 64 m := by
    apply BitVec.eq_of_toNat_eq; simp [IntKind.bits]
  rw [h1, h2, wrapU]
  have e : (BitVec.ofNat 64 x.toNat &&& BitVec.ofNat 64 m).toNat = x.toNat &&& m := by
    rw [BitVec.toNat_and, BitVec.toNat_ofNat, BitVec.toNat_ofNat, Nat.mod_eq_of_lt (by have := x.toNat_lt; omega), Nat.mod_eq_of_lt (by omega)]
  show ((BitVec.ofNat 64 x.toNat &&& BitVec.ofNat 64 m).toNat : Int) % 18446744073709551616 = _
  rw [e]
  have : x.toNat &&& m ≤ m := Nat.and_le_right
  omega
theorem setLast {α : Type} (X : List α) (y z : α) (n : Nat) (h : X.length = n) : (X ++ [y]).set n z = X ++ [z] := by subst h; simp
theorem getLast0 {α : Type} (X : List α) (y : α) (n : Nat) (h : X.length = n) : (X ++ [y])[n]? = some y := by subst h; simp
theorem setInit {α : Type} (X : List α) (y z : α) (n : Nat) (h : n < X.length) : (X ++ [y]).set n z = X.set n z ++ [y] := List.set_append_left _ _ h
noncomputable def brk (a L M idx : Nat) (d : Array Int) : Nat → UInt64 × Array Int
  | 0 => (UInt64.ofNat L, d)
  | k + 1 => Sort.breakStep a L M (brk a L M idx d k) (idx + k)
theorem brk_size (a L M idx : Nat) (d : Array Int) : ∀ k, (brk a L M idx d k).2.size = d.size
  | 0 => rfl
  | k + 1 => by
    simp only [brk, Sort.breakStep]
    rw [swp_size]; exact brk_size a L M idx d k
theorem idx3 {idx a L k : Nat} (h : idx = a + L / 4 * 2 - 1) (hL : 8 ≤ L) (hk : k ≤ 3) (hc : ¬ ((idx + k : Nat) : Int) ≤ ((a + L / 4 * 2 + 1 : Nat) : Int)) : k = 3 := by omega
theorem idx2 {idx a L k : Nat} (h : idx = a + L / 4 * 2 - 1) (hL : 8 ≤ L) (hc : ((idx + k : Nat) : Int) ≤ ((a + L / 4 * 2 + 1 : Nat) : Int)) : k < 3 := by omega
theorem break_sem (id : Nat) (hlo : lo ≤ id) (d : Array Int) (a b : Nat) (hd : d.size ≤ 1000) (ha : a ≤ b) (hb : b ≤ d.size) (h32 : b - a < 32) (hH : H[id]? = some (Cd d)) :
    Sem Go.Proofs.Try.prog (.fn 118) [Da id d.size, I a, I b] H lo (.tuple []) (H.set id (Cd (Sort.breakPatterns d a b)) ++ if 8 ≤ b - a then [.dead] else []) := by
  have hid := (List.getElem?_eq_some_iff.1 hH).1
  refine fn_semQ hmix lk118 rfl ⟨by simp, fun j h1 h2 => by rw [List.getElem?_append_left (by simp; omega), List.getElem?_set_ne (by omega)]⟩ fun Q hQ => ?_
  unfold rc118
  obtain ⟨c6, g6⟩ : ∃ c, rc118_6 = c := ⟨_, rfl⟩
  rw [g6]
  conv => whnf
  have hbl : Nat.ble lo id = true := Nat.ble_eq_true_of_le hlo
  rw [show IntKind.i64.wrap ((b : Int) - (a : Int)) = ((b - a : Nat) : Int) by rw [wrapI _ (by omega) (by omega)]; omega]
  by_cases h8 : (8 : Int) ≤ ((b - a : Nat) : Int)
  · rw [decide_eq_true h8]
    conv => whnf
    subst g6
    unfold rc118_6
    obtain ⟨c5, g5⟩ : ∃ c, rc118_5 = c := ⟨_, rfl⟩
    rw [g5]
    conv => whnf
    rw [show IntKind.u64.wrap (((b - a : Nat) : Nat) : Int) = ((b - a : Nat) : Int) by rw [wrapU]; omega]
    rw [show Nat.ble lo H.length = true from Nat.ble_eq_true_of_le (by omega)]
    conv => whnf
    refine nthK_of (getLast0 _ _ _ rfl) ?_
    conv => whnf
    rw [setLast _ _ _ _ rfl]
    refine ⟨by first | rfl | simp only [List.all_cons, List.all_nil, pu0, pub, pu1, pu2, pu1', pu2', pun, puf, puP, puP', puQ, puQ', Bool.and_true, Bool.and_self], _, pow2_ok (b - a) h32, ?_⟩
    conv => whnf
    obtain ⟨L, hL⟩ : ∃ L, L = b - a := ⟨_, rfl⟩
    obtain ⟨M, hM⟩ : ∃ M, M = 1 <<< Sort.bitsLen (b - a) := ⟨_, rfl⟩
    have hand := fun x => and_bound x (b - a) (by omega) h32
    rw [← hM] at hand ⊢
    rw [← hL] at hand hQ ⊢
    rw [if_pos (by omega)] at hQ
    have hM1 := (hand 0).2
    have wi : IntKind.i64.wrap (IntKind.i64.wrap ((a : Int) + IntKind.i64.wrap (IntKind.i64.wrap ((L : Int).tdiv 4) * 2)) - 1) = ((a + L / 4 * 2 - 1 : Nat) : Int) := by
      rw [show (L : Int).tdiv 4 = ((L / 4 : Nat) : Int) from rfl, wrapI ((L / 4 : Nat) : Int) (by omega) (by omega), wrapI (((L / 4 : Nat) : Int) * 2) (by omega) (by omega), wrapI ((a : Int) + _) (by omega) (by omega), wrapI _ (by omega) (by omega)]; omega
    have wj : IntKind.i64.wrap (IntKind.i64.wrap ((a : Int) + IntKind.i64.wrap (IntKind.i64.wrap ((L : Int).tdiv 4) * 2)) + 1) = ((a + L / 4 * 2 + 1 : Nat) : Int) := by
      rw [show (L : Int).tdiv 4 = ((L / 4 : Nat) : Int) from rfl, wrapI ((L / 4 : Nat) : Int) (by omega) (by omega), wrapI (((L / 4 : Nat) : Int) * 2) (by omega) (by omega), wrapI ((a : Int) + _) (by omega) (by omega), wrapI _ (by omega) (by omega)]; omega
    conv => whnf
    conv => whnf
    subst g5
    unfold rc118_5
    obtain ⟨c4, g4⟩ : ∃ c, rc118_4 = c := ⟨_, rfl⟩
    rw [g4]
    conv => whnf
    refine ⟨by decide, ?_⟩
    conv => whnf
    rw [wi]
    obtain ⟨idx, hidx⟩ : ∃ i, i = a + L / 4 * 2 - 1 := ⟨_, rfl⟩
    have he : Sort.breakPatterns d a b = (brk a L M idx d 3).2 := by
      rw [Sort.breakPatterns, ← hL, if_pos (by omega), hidx, hM, hL]; rfl
    rw [he] at hQ
    refine .intro (fun m T H' => ∃ k, k ≤ 3 ∧ m = 3 - k ∧ T = slots 65 [(0, Da id d.size), (1, I a), (6, I L), (7, .ptr H.length 0), (8, .int .u64 M), (9, I (idx + k : Nat))] ∧ H' = H.set id (Cd (brk a L M idx d k).2) ++ [.cells [.int .u64 ((brk a L M idx d k).1.toNat : Nat)]]) 3 ⟨0, by omega, rfl, ?_, ?_⟩ ?_
    · rw [← hidx]; rfl
    · obtain ⟨h1, h2⟩ := List.getElem?_eq_some_iff.1 hH
      have e : (UInt64.ofNat L).toNat = L := by simp; omega
      show H ++ [AObj.cells [.int .u64 ((L : Nat) : Int)]] = H.set id (Cd d) ++ [AObj.cells [.int .u64 (((UInt64.ofNat L).toNat : Nat) : Int)]]
      rw [e, ← h2, List.set_getElem_self]
    rintro m T H' ⟨k, hk, rfl, rfl, rfl⟩
    have hsz := brk_size a L M idx d k
    obtain ⟨r, hr⟩ : ∃ r, r = (brk a L M idx d k).1 := ⟨_, rfl⟩
    obtain ⟨dk, hdk⟩ : ∃ r, r = (brk a L M idx d k).2 := ⟨_, rfl⟩
    have hb1 : brk a L M idx d (k + 1) = Sort.breakStep a L M (r, dk) (idx + k) := by rw [hr, hdk]; rfl
    rw [← hr, ← hdk]
    rw [← hdk] at hsz
    have ls : ∀ c : AObj, (H.set id c).length = H.length := fun c => by simp
    subst g4
    unfold rc118_4
    obtain ⟨c3, g3⟩ : ∃ c, rc118_3 = c := ⟨_, rfl⟩
    rw [g3]
    conv => whnf
    refine ⟨by decide, ?_⟩
    conv => whnf
    rw [wj]
    by_cases hc : ((idx + k : Nat) : Int) ≤ ((a + L / 4 * 2 + 1 : Nat) : Int)
    · rw [decide_eq_true hc]
      conv => whnf
      subst g3
      unfold rc118_3
      obtain ⟨c1, g1⟩ : ∃ c, rc118_1 = c := ⟨_, rfl⟩
      rw [g1]
      obtain ⟨c2, g2⟩ : ∃ c, rc118_2 = c := ⟨_, rfl⟩
      rw [g2]
      conv => whnf
      refine ⟨_, _, call1 (next_sem r H.length (by omega) (getLast0 _ _ _ (ls _))), ?_⟩
      rw [setLast _ _ _ _ (ls _)]
      conv => whnf
      obtain ⟨r', hr'⟩ : ∃ x, x = Sort.xorNext r := ⟨_, rfl⟩
      rw [← hr']
      rw [show IntKind.u64.wrap ((M : Int) - 1) = ((M - 1 : Nat) : Int) by rw [wrapU]; omega, u64_and r' (M - 1) (by omega)]
      obtain ⟨o, ho⟩ : ∃ x, x = r'.toNat &&& (M - 1) := ⟨_, rfl⟩
      have hob := (hand r'.toNat).1
      rw [← ho] at hob ⊢
      rw [wrapI (o : Int) (by omega) (by omega)]
      obtain ⟨o', ho'⟩ : ∃ x, x = if o ≥ L then o - L else o := ⟨_, rfl⟩
      have hst : brk a L M idx d (k + 1) = (r', Sort.swp dk (idx + k) (a + o')) := by
        rw [hb1, Sort.breakStep]; simp only [← hr', ← ho, ← ho']
      have hoL : o' < L := by rw [ho']; split <;> omega
      have gs : ∀ c : AObj, (H.set id c ++ [AObj.cells [AV.int IntKind.u64 r'.toNat]])[id]? = some c := fun c => by rw [List.getElem?_append_left (by simp; omega), List.getElem?_set_self hid]
      have gss : ∀ c e : AObj, ((H.set id c ++ [AObj.cells [AV.int IntKind.u64 r'.toNat]]).set id e)[id]? = some e := fun c e => by rw [List.getElem?_set_self (by simp; omega)]
      have wio : IntKind.i64.wrap ((a : Int) + (o' : Int)) = ((a + o' : Nat) : Int) := by rw [wrapI _ (by omega) (by omega)]; omega
      have hk3 := idx2 hidx (by omega) hc
      by_cases hge : (L : Int) ≤ (o : Int)
      all_goals first
        | (rw [decide_eq_true hge]
           conv => whnf
           subst g1
           unfold rc118_1
           conv => whnf
           rw [show IntKind.i64.wrap ((o : Int) - (L : Int)) = (o' : Int) by rw [wrapI _ (by omega) (by omega), ho', if_pos (by omega)]; omega])
        | (rw [decide_eq_false hge]
           conv => whnf
           rw [show (o : Int) = (o' : Int) by rw [ho', if_neg (by omega)]])
      all_goals subst g2
      all_goals unfold rc118_2
      all_goals conv => whnf
      all_goals rw [wio]
      all_goals (
        skip
        refine ⟨by omega, ?_⟩
        conv => whnf
        refine nthK_of (by first | exact gs _ | exact gss _ _ | assumption) ?_
        conv => whnf
        refine rdK (a + o') (by omega) (by omega) ?_
        conv => whnf
        refine ⟨by omega, ?_⟩
        conv => whnf
        refine nthK_of (by first | exact gs _ | exact gss _ _ | assumption) ?_
        conv => whnf
        refine rdK (idx + k) (by omega) (by omega) ?_
        conv => whnf
        refine ⟨by omega, ?_⟩
        conv => whnf
        rw [hbl]
        conv => whnf
        refine nthK_of (by first | exact gs _ | exact gss _ _ | assumption) ?_
        conv => whnf
        refine wrK (idx + k) (by omega) (by first | omega | (simp only [Array.size_setIfInBounds]; omega)) ?_
        conv => whnf
        refine ⟨by omega, ?_⟩
        conv => whnf
        rw [hbl]
        conv => whnf
        refine nthK_of (by first | exact gs _ | exact gss _ _ | assumption) ?_
        conv => whnf
        refine wrK (a + o') (by omega) (by first | omega | (simp only [Array.size_setIfInBounds]; omega)) ?_
        conv => whnf
        refine ⟨3 - (k + 1), by omega, k + 1, by omega, rfl, ?_, ?_⟩
        · rw [wrapS (idx + k) (by omega)]; rfl
        · rw [hst]
          rw [setInit _ _ _ _ (by simp; omega), setInit _ _ _ _ (by simp; omega), List.set_set, List.set_set]
          rfl
      )
    · rw [decide_eq_false hc]
      have hk3 : k = 3 := idx3 hidx (by omega) hk hc
      conv => whnf
      refine hQ _ _ _ ⟨.inl rfl, ?_, rfl⟩
      rw [hdk, hk3]
      exact fgt_snoc _ _
  · rw [decide_eq_false h8]
    conv => whnf
    rw [if_neg (by omega), Sort.breakPatterns, if_neg (by omega)] at hQ
    refine hQ _ _ _ ⟨.inl rfl, ?_, rfl⟩
    obtain ⟨h1, h2⟩ := List.getElem?_eq_some_iff.1 hH
    rw [← h2, List.set_getElem_self, List.append_nil]
    exact ⟨rfl, fun j o hj => .inr hj⟩
end
end Go.Proofs.Ytlcebaejlnpdeaa.Ab

/- MADE BY PROGRAM (rc.py): functions, looked up. -/
namespace Go.Proofs.Ytlcebaejlnpdeaa.Ab
open Go
noncomputable def rc123_1 : RC :=
  .seq (.seq (.reg true [I_ 29 [.sl 9] .mv, I_ 30 [.sl 10] .mv, I_ 31 [.tv 29, .tv 30] (.bin .leq), I_ 32 [.tk 31] .mv, ⟨some 33, [.sl 0], some (32, true), none, .mv⟩, ⟨some 34, [.sl 1], some (32, true), none, .mv⟩, ⟨some 35, [.tv
  33, .tv 34], some (32, true), none, .ia 1⟩, ⟨some 36, [.tv 35], some (32, true), none, .ld .one⟩, ⟨some 37, [.sl 0], some (32, true), none, .mv⟩, ⟨some 38, [.sl 9], some (32, true), none, .mv⟩, ⟨some 39, [.tv 37, .tv 38], some
  (32, true), none, .ia 1⟩, ⟨some 40, [.tv 39], some (32, true), none, .ld .one⟩, ⟨some 41, [.cv (.func 122 [] []), .sl 36, .sl 40], some (32, true), none, .call 3⟩, ⟨some 42, [.tv 41], some (32, true), none, .un .not⟩, I_ 43
  [.sl 32, .tv 42, .cv (.bool false)] .pick]) (.cond (.sl 43) .skip (.exit 2))) (.block 3 (.reg false [I_ 44 [.tk 9] .mv, I_ 45 [.tv 44, .cv (.int .i64 1)] (.bin .add), I_ 9 [.tk 45] .mv]))
noncomputable def rc123_2 : RC :=
  .block 2 (.loop (some [true, true, false, false, false, false, false, false, false, true, true, false, false, false, false, false, false, false, false, false, false, false, false, false, false, false, false, false, false, false,
  false, false, false, false, false, false, false, false, false, false, false, false, false, false, false, false, false, false, false, false, false, false, false, false, false, false, false, false, false, false, false, false,
  false, false, false, false, false, false, false, false, false, false, false, false, false, false, false, false, false, false, false, false, false, false]) rc123_1)
noncomputable def rc123_3 : RC :=
  .seq (.seq (.reg true [I_ 46 [.sl 9] .mv, I_ 47 [.sl 10] .mv, I_ 48 [.tv 46, .tv 47] (.bin .leq), I_ 49 [.tk 48] .mv, ⟨some 50, [.sl 0], some (49, true), none, .mv⟩, ⟨some 51, [.sl 1], some (49, true), none, .mv⟩, ⟨some 52, [.tv
  50, .tv 51], some (49, true), none, .ia 1⟩, ⟨some 53, [.tv 52], some (49, true), none, .ld .one⟩, ⟨some 54, [.sl 0], some (49, true), none, .mv⟩, ⟨some 55, [.sl 10], some (49, true), none, .mv⟩, ⟨some 56, [.tv 54, .tv 55], some
  (49, true), none, .ia 1⟩, ⟨some 57, [.tv 56], some (49, true), none, .ld .one⟩, ⟨some 58, [.cv (.func 122 [] []), .sl 53, .sl 57], some (49, true), none, .call 3⟩, I_ 59 [.sl 49, .tv 58, .cv (.bool false)] .pick]) (.cond (.sl
  59) .skip (.exit 4))) (.block 5 (.reg false [I_ 60 [.tk 10] .mv, I_ 61 [.tv 60, .cv (.int .i64 1)] (.bin .sub), I_ 10 [.tk 61] .mv]))
noncomputable def rc123_4 : RC :=
  .block 4 (.loop (some [true, true, false, false, false, false, false, false, false, true, true, false, false, false, false, false, false, false, false, false, false, false, false, false, false, false, false, false, false, false,
  false, false, false, false, false, false, false, false, false, false, false, false, false, false, false, false, false, false, false, false, false, false, false, false, false, false, false, false, false, false, false, false,
  false, false, false, false, false, false, false, false, false, false, false, false, false, false, false, false, false, false, false, false, false, false]) rc123_3)
noncomputable def rc123_5 : RC :=
  .seq (.reg false [I_ 79 [.tk 9] .mv, I_ 80 [.tv 79, .cv (.int .i64 1)] (.bin .add), I_ 9 [.tk 80] .mv]) (.reg false [I_ 81 [.tk 10] .mv, I_ 82 [.tv 81, .cv (.int .i64 1)] (.bin .sub), I_ 10 [.tk 82] .mv])
noncomputable def rc123_6 : RC :=
  .seq (.reg true [I_ 65 [.sl 0] .mv, I_ 66 [.sl 9] .mv, I_ 67 [.sl 0] .mv, I_ 68 [.sl 10] .mv, I_ 69 [.sl 0] .mv, I_ 70 [.sl 10] .mv, I_ 71 [.tv 69, .tv 70] (.ia 1), I_ 72 [.tv 71] (.ld .one), I_ 73 [.sl 0] .mv, I_ 74 [.sl 9] .mv,
  I_ 75 [.tv 73, .tv 74] (.ia 1), I_ 76 [.tv 75] (.ld .one), I_ 77 [.tv 65, .tv 66] (.ia 1), ⟨none, [.tk 77, .tk 72], none, none, .st 1⟩, I_ 78 [.tv 67, .tv 68] (.ia 1), ⟨none, [.tk 78, .tk 76], none, none, .st 1⟩]) rc123_5
noncomputable def rc123_7 : RC :=
  .block 0 (.loop (some [true, true, false, false, false, false, false, false, false, true, true, false, false, false, false, false, false, false, false, false, false, false, false, false, false, false, false, false, false, false,
  false, false, false, false, false, false, false, false, false, false, false, false, false, false, false, false, false, false, false, false, false, false, false, false, false, false, false, false, false, false, false, false,
  false, false, false, false, false, false, false, false, false, false, false, false, false, false, false, false, false, false, false, false, false, false]) (.block 1 (.seq rc123_2 (.seq rc123_4 (.seq (.seq (.reg false [I_ 62
  [.sl 9] .mv, I_ 63 [.sl 10] .mv, I_ 64 [.tv 62, .tv 63] (.bin .gtr)]) (.cond (.sl 64) (.exit 0) .skip)) rc123_6)))))
noncomputable def rc123_8 : RC :=
  .seq (.reg false [I_ 25 [.sl 1] .mv, I_ 26 [.tv 25, .cv (.int .i64 1)] (.bin .add), I_ 27 [.tk 2] .mv, I_ 28 [.tv 27, .cv (.int .i64 1)] (.bin .sub), I_ 9 [.tk 26] .mv, I_ 10 [.tk 28] .mv]) (.seq rc123_7 (.seq (.reg false [I_ 83
  [.tk 9] .mv, I_ 8 [.tk 83] .mv]) .ret))
noncomputable def rc123_9 : RC :=
  .seq (.reg true [I_ 11 [.sl 0] .mv, I_ 12 [.sl 1] .mv, I_ 13 [.sl 0] .mv, I_ 14 [.sl 3] .mv, I_ 15 [.sl 0] .mv, I_ 16 [.sl 3] .mv, I_ 17 [.tv 15, .tv 16] (.ia 1), I_ 18 [.tv 17] (.ld .one), I_ 19 [.sl 0] .mv, I_ 20 [.sl 1] .mv,
  I_ 21 [.tv 19, .tv 20] (.ia 1), I_ 22 [.tv 21] (.ld .one), I_ 23 [.tv 11, .tv 12] (.ia 1), ⟨none, [.tk 23, .tk 18], none, none, .st 1⟩, I_ 24 [.tv 13, .tv 14] (.ia 1), ⟨none, [.tk 24, .tk 22], none, none, .st 1⟩]) rc123_8
noncomputable def rc123 : RC :=
  .seq (.reg false [I_ 8 [.cv (.int .i64 0)] .mv]) rc123_9
theorem lk123 : linkF Go.Proofs.Try.prog ann123 123 = some (rc123, 84, [.tmp 8]) := by kernel_rfl
noncomputable def rc124_1 : RC :=
  .seq (.seq (.reg true [I_ 30 [.sl 10] .mv, I_ 31 [.sl 11] .mv, I_ 32 [.tv 30, .tv 31] (.bin .leq), I_ 33 [.tk 32] .mv, ⟨some 34, [.sl 0], some (33, true), none, .mv⟩, ⟨some 35, [.sl 10], some (33, true), none, .mv⟩, ⟨some 36,
  [.tv 34, .tv 35], some (33, true), none, .ia 1⟩, ⟨some 37, [.tv 36], some (33, true), none, .ld .one⟩, ⟨some 38, [.sl 0], some (33, true), none, .mv⟩, ⟨some 39, [.sl 1], some (33, true), none, .mv⟩, ⟨some 40, [.tv 38, .tv 39],
  some (33, true), none, .ia 1⟩, ⟨some 41, [.tv 40], some (33, true), none, .ld .one⟩, ⟨some 42, [.cv (.func 122 [] []), .sl 37, .sl 41], some (33, true), none, .call 3⟩, I_ 43 [.sl 33, .tv 42, .cv (.bool false)] .pick]) (.cond
  (.sl 43) .skip (.exit 0))) (.block 1 (.reg false [I_ 44 [.tk 10] .mv, I_ 45 [.tv 44, .cv (.int .i64 1)] (.bin .add), I_ 10 [.tk 45] .mv]))
noncomputable def rc124_2 : RC :=
  .block 0 (.loop (some [true, true, false, false, false, false, false, false, false, false, true, true, false, false, false, false, false, false, false, false, false, false, false, false, false, false, false, false, false, false,
  false, false, false, false, false, false, false, false, false, false, false, false, false, false, false, false, false, false, false, false, false, false, false, false, false, false, false, false, false, false, false, false,
  false, false, false, false, false, false, false, false, false, false, false, false, false, false, false, false, false, false, false, false, false, false, false, false, false, false, false, false, false, false, false, false,
  false, false, false, false, false, false, false, false, false, false, false, false, false, false, false, false, false, false, false, false, false, false, false, false, false, false, false, false, false, false, false, false,
  false, false, false, false, false, false, false, false, false, false, false, false, false, false, false, false, false, false, false, false, false, false, false, false, false, false, false, false, false, false, false, false,
  false, false, false, false, false, false, false, false, false, false]) rc124_1)
noncomputable def rc124_3 : RC :=
  .seq (.seq (.reg true [I_ 46 [.sl 10] .mv, I_ 47 [.sl 11] .mv, I_ 48 [.tv 46, .tv 47] (.bin .leq), I_ 49 [.tk 48] .mv, ⟨some 50, [.sl 0], some (49, true), none, .mv⟩, ⟨some 51, [.sl 11], some (49, true), none, .mv⟩, ⟨some 52,
  [.tv 50, .tv 51], some (49, true), none, .ia 1⟩, ⟨some 53, [.tv 52], some (49, true), none, .ld .one⟩, ⟨some 54, [.sl 0], some (49, true), none, .mv⟩, ⟨some 55, [.sl 1], some (49, true), none, .mv⟩, ⟨some 56, [.tv 54, .tv 55],
  some (49, true), none, .ia 1⟩, ⟨some 57, [.tv 56], some (49, true), none, .ld .one⟩, ⟨some 58, [.cv (.func 122 [] []), .sl 53, .sl 57], some (49, true), none, .call 3⟩, ⟨some 59, [.tv 58], some (49, true), none, .un .not⟩, I_
  60 [.sl 49, .tv 59, .cv (.bool false)] .pick]) (.cond (.sl 60) .skip (.exit 2))) (.block 3 (.reg false [I_ 61 [.tk 11] .mv, I_ 62 [.tv 61, .cv (.int .i64 1)] (.bin .sub), I_ 11 [.tk 62] .mv]))
noncomputable def rc124_4 : RC :=
  .block 2 (.loop (some [true, true, false, false, false, false, false, false, false, false, true, true, false, false, false, false, false, false, false, false, false, false, false, false, false, false, false, false, false, false,
  false, false, false, false, false, false, false, false, false, false, false, false, false, false, false, false, false, false, false, false, false, false, false, false, false, false, false, false, false, false, false, false,
  false, false, false, false, false, false, false, false, false, false, false, false, false, false, false, false, false, false, false, false, false, false, false, false, false, false, false, false, false, false, false, false,
  false, false, false, false, false, false, false, false, false, false, false, false, false, false, false, false, false, false, false, false, false, false, false, false, false, false, false, false, false, false, false, false,
  false, false, false, false, false, false, false, false, false, false, false, false, false, false, false, false, false, false, false, false, false, false, false, false, false, false, false, false, false, false, false, false,
  false, false, false, false, false, false, false, false, false, false]) rc124_3)
noncomputable def rc124_5 : RC :=
  .seq (.reg true [I_ 66 [.sl 0] .mv, I_ 67 [.sl 11] .mv, I_ 68 [.sl 0] .mv, I_ 69 [.sl 1] .mv, I_ 70 [.sl 0] .mv, I_ 71 [.sl 1] .mv, I_ 72 [.tv 70, .tv 71] (.ia 1), I_ 73 [.tv 72] (.ld .one), I_ 74 [.sl 0] .mv, I_ 75 [.sl 11] .mv,
  I_ 76 [.tv 74, .tv 75] (.ia 1), I_ 77 [.tv 76] (.ld .one), I_ 78 [.tv 66, .tv 67] (.ia 1), ⟨none, [.tk 78, .tk 73], none, none, .st 1⟩, I_ 79 [.tv 68, .tv 69] (.ia 1), ⟨none, [.tk 79, .tk 77], none, none, .st 1⟩]) (.seq (.reg
  false [I_ 80 [.tk 11] .mv, I_ 8 [.tk 80] .mv, I_ 9 [.cv (.bool true)] .mv]) .ret)
noncomputable def rc124_6 : RC :=
  .seq (.seq (.reg true [I_ 99 [.sl 10] .mv, I_ 100 [.sl 11] .mv, I_ 101 [.tv 99, .tv 100] (.bin .leq), I_ 102 [.tk 101] .mv, ⟨some 103, [.sl 0], some (102, true), none, .mv⟩, ⟨some 104, [.sl 10], some (102, true), none, .mv⟩,
  ⟨some 105, [.tv 103, .tv 104], some (102, true), none, .ia 1⟩, ⟨some 106, [.tv 105], some (102, true), none, .ld .one⟩, ⟨some 107, [.sl 0], some (102, true), none, .mv⟩, ⟨some 108, [.sl 1], some (102, true), none, .mv⟩, ⟨some
  109, [.tv 107, .tv 108], some (102, true), none, .ia 1⟩, ⟨some 110, [.tv 109], some (102, true), none, .ld .one⟩, ⟨some 111, [.cv (.func 122 [] []), .sl 106, .sl 110], some (102, true), none, .call 3⟩, I_ 112 [.sl 102, .tv 111,
  .cv (.bool false)] .pick]) (.cond (.sl 112) .skip (.exit 6))) (.block 7 (.reg false [I_ 113 [.tk 10] .mv, I_ 114 [.tv 113, .cv (.int .i64 1)] (.bin .add), I_ 10 [.tk 114] .mv]))
noncomputable def rc124_7 : RC :=
  .block 6 (.loop (some [true, true, false, false, false, false, false, false, false, false, true, true, false, false, false, false, false, false, false, false, false, false, false, false, false, false, false, false, false, false,
  false, false, false, false, false, false, false, false, false, false, false, false, false, false, false, false, false, false, false, false, false, false, false, false, false, false, false, false, false, false, false, false,
  false, false, false, false, false, false, false, false, false, false, false, false, false, false, false, false, false, false, false, false, false, false, false, false, false, false, false, false, false, false, false, false,
  false, false, false, false, false, false, false, false, false, false, false, false, false, false, false, false, false, false, false, false, false, false, false, false, false, false, false, false, false, false, false, false,
  false, false, false, false, false, false, false, false, false, false, false, false, false, false, false, false, false, false, false, false, false, false, false, false, false, false, false, false, false, false, false, false,
  false, false, false, false, false, false, false, false, false, false]) rc124_6)
noncomputable def rc124_8 : RC :=
  .seq (.seq (.reg true [I_ 115 [.sl 10] .mv, I_ 116 [.sl 11] .mv, I_ 117 [.tv 115, .tv 116] (.bin .leq), I_ 118 [.tk 117] .mv, ⟨some 119, [.sl 0], some (118, true), none, .mv⟩, ⟨some 120, [.sl 11], some (118, true), none, .mv⟩,
  ⟨some 121, [.tv 119, .tv 120], some (118, true), none, .ia 1⟩, ⟨some 122, [.tv 121], some (118, true), none, .ld .one⟩, ⟨some 123, [.sl 0], some (118, true), none, .mv⟩, ⟨some 124, [.sl 1], some (118, true), none, .mv⟩, ⟨some
  125, [.tv 123, .tv 124], some (118, true), none, .ia 1⟩, ⟨some 126, [.tv 125], some (118, true), none, .ld .one⟩, ⟨some 127, [.cv (.func 122 [] []), .sl 122, .sl 126], some (118, true), none, .call 3⟩, ⟨some 128, [.tv 127],
  some (118, true), none, .un .not⟩, I_ 129 [.sl 118, .tv 128, .cv (.bool false)] .pick]) (.cond (.sl 129) .skip (.exit 8))) (.block 9 (.reg false [I_ 130 [.tk 11] .mv, I_ 131 [.tv 130, .cv (.int .i64 1)] (.bin .sub), I_ 11 [.tk
  131] .mv]))
noncomputable def rc124_9 : RC :=
  .block 8 (.loop (some [true, true, false, false, false, false, false, false, false, false, true, true, false, false, false, false, false, false, false, false, false, false, false, false, false, false, false, false, false, false,
  false, false, false, false, false, false, false, false, false, false, false, false, false, false, false, false, false, false, false, false, false, false, false, false, false, false, false, false, false, false, false, false,
  false, false, false, false, false, false, false, false, false, false, false, false, false, false, false, false, false, false, false, false, false, false, false, false, false, false, false, false, false, false, false, false,
  false, false, false, false, false, false, false, false, false, false, false, false, false, false, false, false, false, false, false, false, false, false, false, false, false, false, false, false, false, false, false, false,
  false, false, false, false, false, false, false, false, false, false, false, false, false, false, false, false, false, false, false, false, false, false, false, false, false, false, false, false, false, false, false, false,
  false, false, false, false, false, false, false, false, false, false]) rc124_8)
noncomputable def rc124_10 : RC :=
  .seq (.reg false [I_ 149 [.tk 10] .mv, I_ 150 [.tv 149, .cv (.int .i64 1)] (.bin .add), I_ 10 [.tk 150] .mv]) (.reg false [I_ 151 [.tk 11] .mv, I_ 152 [.tv 151, .cv (.int .i64 1)] (.bin .sub), I_ 11 [.tk 152] .mv])
noncomputable def rc124_11 : RC :=
  .seq (.reg true [I_ 135 [.sl 0] .mv, I_ 136 [.sl 10] .mv, I_ 137 [.sl 0] .mv, I_ 138 [.sl 11] .mv, I_ 139 [.sl 0] .mv, I_ 140 [.sl 11] .mv, I_ 141 [.tv 139, .tv 140] (.ia 1), I_ 142 [.tv 141] (.ld .one), I_ 143 [.sl 0] .mv, I_
  144 [.sl 10] .mv, I_ 145 [.tv 143, .tv 144] (.ia 1), I_ 146 [.tv 145] (.ld .one), I_ 147 [.tv 135, .tv 136] (.ia 1), ⟨none, [.tk 147, .tk 142], none, none, .st 1⟩, I_ 148 [.tv 137, .tv 138] (.ia 1), ⟨none, [.tk 148, .tk 146],
  none, none, .st 1⟩]) rc124_10
noncomputable def rc124_12 : RC :=
  .block 4 (.loop (some [true, true, false, false, false, false, false, false, false, false, true, true, false, false, false, false, false, false, false, false, false, false, false, false, false, false, false, false, false, false,
  false, false, false, false, false, false, false, false, false, false, false, false, false, false, false, false, false, false, false, false, false, false, false, false, false, false, false, false, false, false, false, false,
  false, false, false, false, false, false, false, false, false, false, false, false, false, false, false, false, false, false, false, false, false, false, false, false, false, false, false, false, false, false, false, false,
  false, false, false, false, false, false, false, false, false, false, false, false, false, false, false, false, false, false, false, false, false, false, false, false, false, false, false, false, false, false, false, false,
  false, false, false, false, false, false, false, false, false, false, false, false, false, false, false, false, false, false, false, false, false, false, false, false, false, false, false, false, false, false, false, false,
  false, false, false, false, false, false, false, false, false, false]) (.block 5 (.seq rc124_7 (.seq rc124_9 (.seq (.seq (.reg false [I_ 132 [.sl 10] .mv, I_ 133 [.sl 11] .mv, I_ 134 [.tv 132, .tv 133] (.bin .gtr)]) (.cond (.sl
  134) (.exit 4) .skip)) rc124_11)))))
noncomputable def rc124_13 : RC :=
  .seq (.reg true [I_ 153 [.sl 0] .mv, I_ 154 [.sl 11] .mv, I_ 155 [.sl 0] .mv, I_ 156 [.sl 1] .mv, I_ 157 [.sl 0] .mv, I_ 158 [.sl 1] .mv, I_ 159 [.tv 157, .tv 158] (.ia 1), I_ 160 [.tv 159] (.ld .one), I_ 161 [.sl 0] .mv, I_ 162
  [.sl 11] .mv, I_ 163 [.tv 161, .tv 162] (.ia 1), I_ 164 [.tv 163] (.ld .one), I_ 165 [.tv 153, .tv 154] (.ia 1), ⟨none, [.tk 165, .tk 160], none, none, .st 1⟩, I_ 166 [.tv 155, .tv 156] (.ia 1), ⟨none, [.tk 166, .tk 164], none,
  none, .st 1⟩]) (.seq (.reg false [I_ 167 [.tk 11] .mv, I_ 8 [.tk 167] .mv, I_ 9 [.cv (.bool false)] .mv]) .ret)
noncomputable def rc124_14 : RC :=
  .seq (.reg false [I_ 95 [.tk 10] .mv, I_ 96 [.tv 95, .cv (.int .i64 1)] (.bin .add), I_ 10 [.tk 96] .mv]) (.seq (.reg false [I_ 97 [.tk 11] .mv, I_ 98 [.tv 97, .cv (.int .i64 1)] (.bin .sub), I_ 11 [.tk 98] .mv]) (.seq rc124_12
  rc124_13))
noncomputable def rc124_15 : RC :=
  .seq (.reg true [I_ 81 [.sl 0] .mv, I_ 82 [.sl 10] .mv, I_ 83 [.sl 0] .mv, I_ 84 [.sl 11] .mv, I_ 85 [.sl 0] .mv, I_ 86 [.sl 11] .mv, I_ 87 [.tv 85, .tv 86] (.ia 1), I_ 88 [.tv 87] (.ld .one), I_ 89 [.sl 0] .mv, I_ 90 [.sl 10]
  .mv, I_ 91 [.tv 89, .tv 90] (.ia 1), I_ 92 [.tv 91] (.ld .one), I_ 93 [.tv 81, .tv 82] (.ia 1), ⟨none, [.tk 93, .tk 88], none, none, .st 1⟩, I_ 94 [.tv 83, .tv 84] (.ia 1), ⟨none, [.tk 94, .tk 92], none, none, .st 1⟩]) rc124_14
noncomputable def rc124_16 : RC :=
  .seq (.reg false [I_ 26 [.sl 1] .mv, I_ 27 [.tv 26, .cv (.int .i64 1)] (.bin .add), I_ 28 [.tk 2] .mv, I_ 29 [.tv 28, .cv (.int .i64 1)] (.bin .sub), I_ 10 [.tk 27] .mv, I_ 11 [.tk 29] .mv]) (.seq rc124_2 (.seq rc124_4 (.seq
  (.seq (.reg false [I_ 63 [.sl 10] .mv, I_ 64 [.sl 11] .mv, I_ 65 [.tv 63, .tv 64] (.bin .gtr)]) (.cond (.sl 65) rc124_5 .skip)) rc124_15)))
noncomputable def rc124_17 : RC :=
  .seq (.reg true [I_ 12 [.sl 0] .mv, I_ 13 [.sl 1] .mv, I_ 14 [.sl 0] .mv, I_ 15 [.sl 3] .mv, I_ 16 [.sl 0] .mv, I_ 17 [.sl 3] .mv, I_ 18 [.tv 16, .tv 17] (.ia 1), I_ 19 [.tv 18] (.ld .one), I_ 20 [.sl 0] .mv, I_ 21 [.sl 1] .mv,
  I_ 22 [.tv 20, .tv 21] (.ia 1), I_ 23 [.tv 22] (.ld .one), I_ 24 [.tv 12, .tv 13] (.ia 1), ⟨none, [.tk 24, .tk 19], none, none, .st 1⟩, I_ 25 [.tv 14, .tv 15] (.ia 1), ⟨none, [.tk 25, .tk 23], none, none, .st 1⟩]) rc124_16
noncomputable def rc124 : RC :=
  .seq (.reg false [I_ 8 [.cv (.int .i64 0)] .mv, I_ 9 [.cv (.bool false)] .mv]) rc124_17
theorem lk124 : linkF Go.Proofs.Try.prog ann124 124 = some (rc124, 168, [.tmp 8, .tmp 9]) := by kernel_rfl
noncomputable def rc114_1 : RC :=
  .seq (.reg false [I_ 24 [.tk 0] .mv, I_ 25 [.tk 1] .mv, I_ 26 [.tk 2] .mv, I_ 27 [.cv (.func 116 [] []), .tk 24, .tk 25, .tk 26] (.call 1)]) .ret
noncomputable def rc114_2 : RC :=
  .seq (.reg false [I_ 30 [.tk 0] .mv, I_ 31 [.tk 1] .mv, I_ 32 [.tk 2] .mv, I_ 33 [.cv (.func 117 [] []), .tk 30, .tk 31, .tk 32] (.call 1)]) .ret
noncomputable def rc114_3 : RC :=
  .seq (.reg false [I_ 36 [.sl 0] .mv, I_ 37 [.sl 1] .mv, I_ 38 [.sl 2] .mv, I_ 39 [.cv (.func 118 [] []), .tk 36, .tk 37, .tk 38] (.call 1)]) (.reg false [I_ 40 [.tk 3] .mv, I_ 41 [.tv 40, .cv (.int .i64 1)] (.bin .sub), I_ 3 [.tk
  41] .mv])
noncomputable def rc114_4 : RC :=
  .seq (.reg false [I_ 55 [.sl 2] .mv, I_ 56 [.tv 55, .cv (.int .i64 1)] (.bin .sub), I_ 57 [.tk 11] .mv, I_ 58 [.sl 1] .mv, I_ 59 [.tv 57, .tv 58] (.bin .sub), I_ 60 [.tv 56, .tv 59] (.bin .sub), I_ 11 [.tk 60] .mv]) (.reg false
  [I_ 12 [.cv (.int .i64 1)] .mv])
noncomputable def rc114_5 : RC :=
  .seq (.reg false [I_ 51 [.sl 0] .mv, I_ 52 [.sl 1] .mv, I_ 53 [.sl 2] .mv, I_ 54 [.cv (.func 120 [] []), .tk 51, .tk 52, .tk 53] (.call 1)]) rc114_4
noncomputable def rc114_6 : RC :=
  .seq (.reg false [I_ 69 [.sl 0] .mv, I_ 70 [.sl 1] .mv, I_ 71 [.sl 2] .mv, I_ 72 [.cv (.func 121 [] []), .tk 69, .tk 70, .tk 71] (.call 1)]) (.cond (.sl 72) .ret .skip)
noncomputable def rc114_7 : RC :=
  .seq (.reg false [I_ 88 [.sl 0] .mv, I_ 89 [.tk 1] .mv, I_ 90 [.sl 2] .mv, I_ 91 [.tk 11] .mv, I_ 92 [.cv (.func 123 [] []), .tk 88, .tk 89, .tk 90, .tk 91] (.call 1), I_ 13 [.tk 92] .mv]) (.seq (.reg false [I_ 93 [.tk 13] .mv,
  I_ 1 [.tk 93] .mv]) (.exit 1))
noncomputable def rc114_8 : RC :=
  .seq (.reg false [I_ 117 [.sl 0] .mv, I_ 118 [.tk 1] .mv, I_ 119 [.sl 14] .mv, I_ 120 [.sl 3] .mv, I_ 121 [.cv (.func 114 [] []), .tk 117, .tk 118, .tk 119, .tk 120] (.call 1)]) (.reg false [I_ 122 [.tk 14] .mv, I_ 123 [.tv 122,
  .cv (.int .i64 1)] (.bin .add), I_ 1 [.tk 123] .mv])
noncomputable def rc114_9 : RC :=
  .seq (.reg false [I_ 114 [.tk 16] .mv, I_ 115 [.tk 18] .mv, I_ 116 [.tv 114, .tv 115] (.bin .geq), I_ 8 [.tk 116] .mv]) rc114_8
noncomputable def rc114_10 : RC :=
  .seq (.reg false [I_ 127 [.sl 0] .mv, I_ 128 [.sl 14] .mv, I_ 129 [.tv 128, .cv (.int .i64 1)] (.bin .add), I_ 130 [.tk 2] .mv, I_ 131 [.sl 3] .mv, I_ 132 [.cv (.func 114 [] []), .tk 127, .tk 129, .tk 130, .tk 131] (.call 1)])
  (.reg false [I_ 133 [.tk 14] .mv, I_ 2 [.tk 133] .mv])
noncomputable def rc114_11 : RC :=
  .seq (.reg false [I_ 124 [.tk 17] .mv, I_ 125 [.tk 18] .mv, I_ 126 [.tv 124, .tv 125] (.bin .geq), I_ 8 [.tk 126] .mv]) rc114_10
noncomputable def rc114_12 : RC :=
  .seq (.reg false [I_ 109 [.tk 10] .mv, I_ 110 [.tv 109, .cv (.int .i64 8)] (.bin .quo), I_ 18 [.tk 110] .mv]) (.seq (.reg false [I_ 111 [.sl 16] .mv, I_ 112 [.sl 17] .mv, I_ 113 [.tv 111, .tv 112] (.bin .lss)]) (.cond (.sl 113)
  rc114_9 rc114_11))
noncomputable def rc114_13 : RC :=
  .seq (.reg false [I_ 103 [.sl 14] .mv, I_ 104 [.sl 1] .mv, I_ 105 [.tv 103, .tv 104] (.bin .sub), I_ 106 [.sl 2] .mv, I_ 107 [.sl 14] .mv, I_ 108 [.tv 106, .tv 107] (.bin .sub), I_ 16 [.tk 105] .mv, I_ 17 [.tk 108] .mv]) rc114_12
noncomputable def rc114_14 : RC :=
  .seq (.reg false [I_ 95 [.sl 0] .mv, I_ 96 [.sl 1] .mv, I_ 97 [.sl 2] .mv, I_ 98 [.tk 11] .mv, I_ 99 [.cv (.func 124 [] []), .tk 95, .tk 96, .tk 97, .tk 98] (.call 1), I_ 94 [.tk 99] .mv, I_ 100 [.sl 94] (.ext 0), I_ 101 [.tv 94]
  (.ext 1), I_ 14 [.tk 100] .mv, I_ 15 [.tk 101] .mv]) (.seq (.reg false [I_ 102 [.tk 15] .mv, I_ 9 [.tk 102] .mv]) rc114_13)
noncomputable def rc114_15 : RC :=
  .seq (.seq (.reg true [I_ 73 [.sl 1] .mv, I_ 74 [.tv 73, .cv (.int .i64 0)] (.bin .gtr), I_ 75 [.tk 74] .mv, ⟨some 76, [.sl 0], some (75, true), none, .mv⟩, ⟨some 77, [.sl 1], some (75, true), none, .mv⟩, ⟨some 78, [.tv 77, .cv
  (.int .i64 1)], some (75, true), none, .bin .sub⟩, ⟨some 79, [.tv 76, .tv 78], some (75, true), none, .ia 1⟩, ⟨some 80, [.tv 79], some (75, true), none, .ld .one⟩, ⟨some 81, [.sl 0], some (75, true), none, .mv⟩, ⟨some 82, [.sl
  11], some (75, true), none, .mv⟩, ⟨some 83, [.tv 81, .tv 82], some (75, true), none, .ia 1⟩, ⟨some 84, [.tv 83], some (75, true), none, .ld .one⟩, ⟨some 85, [.cv (.func 122 [] []), .sl 80, .sl 84], some (75, true), none, .call
  3⟩, ⟨some 86, [.tv 85], some (75, true), none, .un .not⟩, I_ 87 [.sl 75, .tv 86, .cv (.bool false)] .pick]) (.cond (.sl 87) rc114_7 .skip)) rc114_14
noncomputable def rc114_16 : RC :=
  .seq (.seq (.reg false [I_ 61 [.sl 8] .mv, I_ 62 [.tk 61] .mv, ⟨some 63, [.sl 9], some (62, true), none, .mv⟩, I_ 64 [.tv 62, .tv 63, .cv (.bool false)] .pick, I_ 65 [.tk 64] .mv, ⟨some 66, [.tk 12], some (65, true), none, .mv⟩,
  ⟨some 67, [.tv 66, .cv (.int .i64 1)], some (65, true), none, .bin .eql⟩, I_ 68 [.tv 65, .tv 67, .cv (.bool false)] .pick]) (.cond (.sl 68) rc114_6 .skip)) rc114_15
noncomputable def rc114_17 : RC :=
  .seq (.reg false [I_ 43 [.sl 0] .mv, I_ 44 [.sl 1] .mv, I_ 45 [.sl 2] .mv, I_ 46 [.cv (.func 119 [] []), .tk 43, .tk 44, .tk 45] (.call 1), I_ 42 [.tk 46] .mv, I_ 47 [.sl 42] (.ext 0), I_ 48 [.tv 42] (.ext 1), I_ 11 [.tk 47] .mv,
  I_ 12 [.tk 48] .mv]) (.seq (.seq (.reg false [I_ 49 [.sl 12] .mv, I_ 50 [.tv 49, .cv (.int .i64 2)] (.bin .eql)]) (.cond (.sl 50) rc114_5 .skip)) rc114_16)
noncomputable def rc114_18 : RC :=
  .seq (.seq (.reg false [I_ 28 [.sl 3] .mv, I_ 29 [.tv 28, .cv (.int .i64 0)] (.bin .eql)]) (.cond (.sl 29) rc114_2 .skip)) (.seq (.seq (.reg false [I_ 34 [.sl 8] .mv, I_ 35 [.tv 34] (.un .not)]) (.cond (.sl 35) rc114_3 .skip))
  rc114_17)
noncomputable def rc114_19 : RC :=
  .block 1 (.seq (.reg false [I_ 19 [.sl 2] .mv, I_ 20 [.sl 1] .mv, I_ 21 [.tv 19, .tv 20] (.bin .sub), I_ 10 [.tk 21] .mv]) (.seq (.seq (.reg false [I_ 22 [.sl 10] .mv, I_ 23 [.tv 22, .cv (.int .i64 12)] (.bin .leq)]) (.cond (.sl
  23) rc114_1 .skip)) rc114_18))
noncomputable def rc114 : RC :=
  .seq (.reg false [I_ 8 [.cv (.bool true)] .mv]) (.seq (.reg false [I_ 9 [.cv (.bool true)] .mv]) (.block 0 (.loop (some [true, true, true, true, false, false, false, false, true, true, false, false, false, false, false, false,
  false, false, false, false, false, false, false, false, false, false, false, false, false, false, false, false, false, false, false, false, false, false, false, false, false, false, false, false, false, false, false, false,
  false, false, false, false, false, false, false, false, false, false, false, false, false, false, false, false, false, false, false, false, false, false, false, false, false, false, false, false, false, false, false, false,
  false, false, false, false, false, false, false, false, false, false, false, false, false, false, false, false, false, false, false, false, false, false, false, false, false, false, false, false, false, false, false, false,
  false, false, false, false, false, false, false, false, false, false, false, false, false, false, false, false, false, false, false, false, false, false]) rc114_19)))
theorem lk114 : linkF Go.Proofs.Try.prog ann114 114 = some (rc114, 134, []) := by kernel_rfl
end Go.Proofs.Ytlcebaejlnpdeaa.Ab

/-
  Contracts: the scanning loops of slices' partitionEqualOrdered and partitionOrdered.
-/
namespace Go.Proofs.Ytlcebaejlnpdeaa.Ab
open Go
set_option maxRecDepth 20000
set_option maxHeartbeats 4000000
theorem scanDown_eq (P : Int → Bool) (d : Array Int) (i q : Nat) (h : 1 ≤ i) : Sort.scanDown P d i q = if i ≤ q && P d[q]! then Sort.scanDown P d i (q - 1) else q := by
  cases q with
  | zero => rw [Sort.scanDown, if_neg (by simp; omega)]
  | succ q => rw [Sort.scanDown]; rfl
theorem scanUp_eq (P : Int → Bool) (d : Array Int) (j q : Nat) : Sort.scanUp P d j q = if q ≤ j && P d[q]! then Sort.scanUp P d j (q + 1) else q := by
  rw [Sort.scanUp]
section
variable {H : List AObj} {id lo : Nat} (hid : id < H.length)
include hid
theorem scan123a (d : Array Int) (a i j : Nat) (hd : d.size ≤ 1000) (ha : a < d.size) (hj : j < d.size) (hi1 : 1 ≤ i) (hij : i ≤ j + 1) (Q : Ex → List AV → List AObj → Prop) 
    (k : ∀ q (y0 y1 y2 y3 : AV), i ≤ q → q ≤ j + 1 → Sort.scanUp (fun x => !Sort.ltInt d[a]! x) d j i = q → Q .normal (slots 84 [(0, Da id d.size), (1, I a), (9, I (q : Nat)), (10, I (j : Nat)), (32, y0), (36, y1), (40, y2), (43, y3)]) (H.set id (Cd d))) :
    wpR Go.Proofs.Try.prog ann123 123 lo none rc123_2 (slots 84 [(0, Da id d.size), (1, I a), (9, I (i : Nat)), (10, I (j : Nat))]) (H.set id (Cd d)) Q := by
  have gs : ∀ c : AObj, (H.set id c)[id]? = some c := fun c => by rw [List.getElem?_set_self hid]
  unfold rc123_2
  conv => whnf
  refine .intro (fun m T H' => ∃ q, i ≤ q ∧ q ≤ j + 1 ∧ m = j + 1 - q ∧ Sort.scanUp (fun x => !Sort.ltInt d[a]! x) d j q = Sort.scanUp (fun x => !Sort.ltInt d[a]! x) d j i ∧ T = slots 84 [(0, Da id d.size), (1, I a), (9, I (q : Nat)), (10, I (j : Nat))] ∧ H' = H.set id (Cd d)) (j + 1 - i) ⟨i, by omega, by omega, rfl, rfl, rfl, rfl⟩ ?_
  rintro m T H' ⟨q, hq1, hq2, hm, hqe, rfl, rfl⟩
  unfold rc123_1
  conv => whnf
  by_cases h : ((q : Nat) : Int) ≤ ((j : Nat) : Int)
  · rw [decide_eq_true h]
    conv => whnf
    refine ⟨by omega, ?_⟩
    conv => whnf
    refine nthK_of (by first | exact gs _ | exact gss _ _ | assumption) ?_
    conv => whnf
    refine rdK (a) (by omega) (by omega) ?_
    conv => whnf
    refine ⟨by omega, ?_⟩
    conv => whnf
    refine nthK_of (by first | exact gs _ | exact gss _ _ | assumption) ?_
    conv => whnf
    refine rdK (q) (by omega) (by omega) ?_
    conv => whnf
    refine ⟨by first | rfl | simp only [List.all_cons, List.all_nil, pu0, pub, pu1, pu2, pu1', pu2', pun, puf, puP, puP', puQ, puQ', Bool.and_true, Bool.and_self], _, less_ok d[a]! d[q]!, acc0, ?_⟩
    conv => whnf
    by_cases h5 : d[a]! < d[q]!
    · rw [decide_eq_true h5]
      conv => whnf
      have e : Sort.scanUp (fun x => !Sort.ltInt d[a]! x) d j i = q := by
        rw [← hqe, scanUp_eq, if_neg (by simp only [Sort.ltInt, Bool.and_eq_true, decide_eq_true_eq, Bool.not_eq_true', decide_eq_false_iff_not]; exact fun hh => hh.2 h5)]
      exact k q _ _ _ _  (by omega) (by omega) e
    · rw [decide_eq_false h5]
      conv => whnf
      exact ⟨j + 1 - (q + 1), by omega, q + 1, by omega, by omega, rfl, by rw [← hqe, scanUp_eq _ _ _ q, if_pos (by simp only [Sort.ltInt, Bool.and_eq_true, decide_eq_true_eq, Bool.not_eq_true', decide_eq_false_iff_not]; exact ⟨by omega, h5⟩)], by rw [← wrapS q (by omega)]; rfl, rfl⟩
  · rw [decide_eq_false h]
    conv => whnf
    have e : Sort.scanUp (fun x => !Sort.ltInt d[a]! x) d j i = q := by
      rw [← hqe, scanUp_eq, if_neg (by simp only [Sort.ltInt, Bool.and_eq_true, decide_eq_true_eq, Bool.not_eq_true', decide_eq_false_iff_not]; exact fun hh => h (by omega))]
    exact k q _ _ _ _  (by omega) (by omega) e
theorem scan123b (d : Array Int) (a i j : Nat) (hd : d.size ≤ 1000) (ha : a < d.size) (hj : j < d.size) (hi1 : 1 ≤ i) (hij : i ≤ j + 1) (Q : Ex → List AV → List AObj → Prop) (x0 x1 x2 x3 : AV)
    (k : ∀ q (y0 y1 y2 y3 : AV), q ≤ j → i ≤ q + 1 → Sort.scanDown (fun x => Sort.ltInt d[a]! x) d i j = q → Q .normal (slots 84 [(0, Da id d.size), (1, I a), (9, I (i : Nat)), (10, I (q : Nat)), (49, y0), (53, y1), (57, y2), (59, y3)]) (H.set id (Cd d))) :
    wpR Go.Proofs.Try.prog ann123 123 lo none rc123_4 (slots 84 [(0, Da id d.size), (1, I a), (9, I (i : Nat)), (10, I (j : Nat)), (32, x0), (36, x1), (40, x2), (43, x3)]) (H.set id (Cd d)) Q := by
  have gs : ∀ c : AObj, (H.set id c)[id]? = some c := fun c => by rw [List.getElem?_set_self hid]
  unfold rc123_4
  conv => whnf
  refine .intro (fun m T H' => ∃ q, q ≤ j ∧ i ≤ q + 1 ∧ m = q ∧ Sort.scanDown (fun x => Sort.ltInt d[a]! x) d i q = Sort.scanDown (fun x => Sort.ltInt d[a]! x) d i j ∧ T = slots 84 [(0, Da id d.size), (1, I a), (9, I (i : Nat)), (10, I (q : Nat))] ∧ H' = H.set id (Cd d)) (j) ⟨j, by omega, by omega, rfl, rfl, rfl, rfl⟩ ?_
  rintro m T H' ⟨q, hq1, hq2, hm, hqe, rfl, rfl⟩
  unfold rc123_3
  conv => whnf
  by_cases h : ((i : Nat) : Int) ≤ ((q : Nat) : Int)
  · rw [decide_eq_true h]
    conv => whnf
    refine ⟨by omega, ?_⟩
    conv => whnf
    refine nthK_of (by first | exact gs _ | exact gss _ _ | assumption) ?_
    conv => whnf
    refine rdK (a) (by omega) (by omega) ?_
    conv => whnf
    refine ⟨by omega, ?_⟩
    conv => whnf
    refine nthK_of (by first | exact gs _ | exact gss _ _ | assumption) ?_
    conv => whnf
    refine rdK (q) (by omega) (by omega) ?_
    conv => whnf
    refine ⟨by first | rfl | simp only [List.all_cons, List.all_nil, pu0, pub, pu1, pu2, pu1', pu2', pun, puf, puP, puP', puQ, puQ', Bool.and_true, Bool.and_self], _, less_ok d[a]! d[q]!, acc0, ?_⟩
    conv => whnf
    by_cases h5 : d[a]! < d[q]!
    · rw [decide_eq_true h5]
      conv => whnf
      exact ⟨(q - 1), by omega, q - 1, by omega, by omega, rfl, by rw [← hqe, scanDown_eq _ _ _ q hi1, if_pos (by simp only [Sort.ltInt, Bool.and_eq_true, decide_eq_true_eq]; exact ⟨by omega, h5⟩)], by rw [show ((q - 1 : Nat) : Int) = IntKind.i64.wrap ((q : Int) - 1) by rw [wrapI _ (by omega) (by omega)]; omega]; rfl, rfl⟩
    · rw [decide_eq_false h5]
      conv => whnf
      have e : Sort.scanDown (fun x => Sort.ltInt d[a]! x) d i j = q := by
        rw [← hqe, scanDown_eq _ _ _ _ hi1, if_neg (by simp only [Sort.ltInt, Bool.and_eq_true, decide_eq_true_eq]; exact fun hh => h5 hh.2)]
      exact k q _ _ _ _  (by omega) (by omega) e
  · rw [decide_eq_false h]
    conv => whnf
    have e : Sort.scanDown (fun x => Sort.ltInt d[a]! x) d i j = q := by
      rw [← hqe, scanDown_eq _ _ _ _ hi1, if_neg (by simp only [Sort.ltInt, Bool.and_eq_true, decide_eq_true_eq]; exact fun hh => h (by omega))]
    exact k q _ _ _ _  (by omega) (by omega) e
theorem scan124a (d : Array Int) (a i j : Nat) (hd : d.size ≤ 1000) (ha : a < d.size) (hj : j < d.size) (hi1 : 1 ≤ i) (hij : i ≤ j + 1) (Q : Ex → List AV → List AObj → Prop) (x0 x1 x2 : AV)
    (k : ∀ q (y0 y1 y2 y3 : AV), i ≤ q → q ≤ j + 1 → Sort.scanUp (fun x => Sort.ltInt x d[a]!) d j i = q → Q .normal (slots 168 [(0, Da id d.size), (1, I a), (10, I (q : Nat)), (11, I (j : Nat)), (33, y0), (37, y1), (41, y2), (43, y3)]) (H.set id (Cd d))) :
    wpR Go.Proofs.Try.prog ann124 124 lo none rc124_2 (slots 168 [(0, Da id d.size), (1, I a), (3, x0), (8, x1), (9, x2), (10, I (i : Nat)), (11, I (j : Nat))]) (H.set id (Cd d)) Q := by
  have gs : ∀ c : AObj, (H.set id c)[id]? = some c := fun c => by rw [List.getElem?_set_self hid]
  unfold rc124_2
  conv => whnf
  refine .intro (fun m T H' => ∃ q, i ≤ q ∧ q ≤ j + 1 ∧ m = j + 1 - q ∧ Sort.scanUp (fun x => Sort.ltInt x d[a]!) d j q = Sort.scanUp (fun x => Sort.ltInt x d[a]!) d j i ∧ T = slots 168 [(0, Da id d.size), (1, I a), (10, I (q : Nat)), (11, I (j : Nat))] ∧ H' = H.set id (Cd d)) (j + 1 - i) ⟨i, by omega, by omega, rfl, rfl, rfl, rfl⟩ ?_
  rintro m T H' ⟨q, hq1, hq2, hm, hqe, rfl, rfl⟩
  unfold rc124_1
  conv => whnf
  by_cases h : ((q : Nat) : Int) ≤ ((j : Nat) : Int)
  · rw [decide_eq_true h]
    conv => whnf
    refine ⟨by omega, ?_⟩
    conv => whnf
    refine nthK_of (by first | exact gs _ | exact gss _ _ | assumption) ?_
    conv => whnf
    refine rdK (q) (by omega) (by omega) ?_
    conv => whnf
    refine ⟨by omega, ?_⟩
    conv => whnf
    refine nthK_of (by first | exact gs _ | exact gss _ _ | assumption) ?_
    conv => whnf
    refine rdK (a) (by omega) (by omega) ?_
    conv => whnf
    refine ⟨by first | rfl | simp only [List.all_cons, List.all_nil, pu0, pub, pu1, pu2, pu1', pu2', pun, puf, puP, puP', puQ, puQ', Bool.and_true, Bool.and_self], _, less_ok d[q]! d[a]!, acc0, ?_⟩
    conv => whnf
    by_cases h5 : d[q]! < d[a]!
    · rw [decide_eq_true h5]
      conv => whnf
      exact ⟨j + 1 - (q + 1), by omega, q + 1, by omega, by omega, rfl, by rw [← hqe, scanUp_eq _ _ _ q, if_pos (by simp only [Sort.ltInt, Bool.and_eq_true, decide_eq_true_eq]; exact ⟨by omega, h5⟩)], by rw [← wrapS q (by omega)]; rfl, rfl⟩
    · rw [decide_eq_false h5]
      conv => whnf
      have e : Sort.scanUp (fun x => Sort.ltInt x d[a]!) d j i = q := by
        rw [← hqe, scanUp_eq, if_neg (by simp only [Sort.ltInt, Bool.and_eq_true, decide_eq_true_eq]; exact fun hh => h5 hh.2)]
      exact k q _ _ _ _  (by omega) (by omega) e
  · rw [decide_eq_false h]
    conv => whnf
    have e : Sort.scanUp (fun x => Sort.ltInt x d[a]!) d j i = q := by
      rw [← hqe, scanUp_eq, if_neg (by simp only [Sort.ltInt, Bool.and_eq_true, decide_eq_true_eq]; exact fun hh => h (by omega))]
    exact k q _ _ _ _  (by omega) (by omega) e
theorem scan124b (d : Array Int) (a i j : Nat) (hd : d.size ≤ 1000) (ha : a < d.size) (hj : j < d.size) (hi1 : 1 ≤ i) (hij : i ≤ j + 1) (Q : Ex → List AV → List AObj → Prop) (x0 x1 x2 x3 : AV)
    (k : ∀ q (y0 y1 y2 y3 : AV), q ≤ j → i ≤ q + 1 → Sort.scanDown (fun x => !Sort.ltInt x d[a]!) d i j = q → Q .normal (slots 168 [(0, Da id d.size), (1, I a), (10, I (i : Nat)), (11, I (q : Nat)), (49, y0), (53, y1), (57, y2), (60, y3)]) (H.set id (Cd d))) :
    wpR Go.Proofs.Try.prog ann124 124 lo none rc124_4 (slots 168 [(0, Da id d.size), (1, I a), (10, I (i : Nat)), (11, I (j : Nat)), (33, x0), (37, x1), (41, x2), (43, x3)]) (H.set id (Cd d)) Q := by
  have gs : ∀ c : AObj, (H.set id c)[id]? = some c := fun c => by rw [List.getElem?_set_self hid]
  unfold rc124_4
  conv => whnf
  refine .intro (fun m T H' => ∃ q, q ≤ j ∧ i ≤ q + 1 ∧ m = q ∧ Sort.scanDown (fun x => !Sort.ltInt x d[a]!) d i q = Sort.scanDown (fun x => !Sort.ltInt x d[a]!) d i j ∧ T = slots 168 [(0, Da id d.size), (1, I a), (10, I (i : Nat)), (11, I (q : Nat))] ∧ H' = H.set id (Cd d)) (j) ⟨j, by omega, by omega, rfl, rfl, rfl, rfl⟩ ?_
  rintro m T H' ⟨q, hq1, hq2, hm, hqe, rfl, rfl⟩
  unfold rc124_3
  conv => whnf
  by_cases h : ((i : Nat) : Int) ≤ ((q : Nat) : Int)
  · rw [decide_eq_true h]
    conv => whnf
    refine ⟨by omega, ?_⟩
    conv => whnf
    refine nthK_of (by first | exact gs _ | exact gss _ _ | assumption) ?_
    conv => whnf
    refine rdK (q) (by omega) (by omega) ?_
    conv => whnf
    refine ⟨by omega, ?_⟩
    conv => whnf
    refine nthK_of (by first | exact gs _ | exact gss _ _ | assumption) ?_
    conv => whnf
    refine rdK (a) (by omega) (by omega) ?_
    conv => whnf
    refine ⟨by first | rfl | simp only [List.all_cons, List.all_nil, pu0, pub, pu1, pu2, pu1', pu2', pun, puf, puP, puP', puQ, puQ', Bool.and_true, Bool.and_self], _, less_ok d[q]! d[a]!, acc0, ?_⟩
    conv => whnf
    by_cases h5 : d[q]! < d[a]!
    · rw [decide_eq_true h5]
      conv => whnf
      have e : Sort.scanDown (fun x => !Sort.ltInt x d[a]!) d i j = q := by
        rw [← hqe, scanDown_eq _ _ _ _ hi1, if_neg (by simp only [Sort.ltInt, Bool.and_eq_true, decide_eq_true_eq, Bool.not_eq_true', decide_eq_false_iff_not]; exact fun hh => hh.2 h5)]
      exact k q _ _ _ _  (by omega) (by omega) e
    · rw [decide_eq_false h5]
      conv => whnf
      exact ⟨(q - 1), by omega, q - 1, by omega, by omega, rfl, by rw [← hqe, scanDown_eq _ _ _ q hi1, if_pos (by simp only [Sort.ltInt, Bool.and_eq_true, decide_eq_true_eq, Bool.not_eq_true', decide_eq_false_iff_not]; exact ⟨by omega, h5⟩)], by rw [show ((q - 1 : Nat) : Int) = IntKind.i64.wrap ((q : Int) - 1) by rw [wrapI _ (by omega) (by omega)]; omega]; rfl, rfl⟩
  · rw [decide_eq_false h]
    conv => whnf
    have e : Sort.scanDown (fun x => !Sort.ltInt x d[a]!) d i j = q := by
      rw [← hqe, scanDown_eq _ _ _ _ hi1, if_neg (by simp only [Sort.ltInt, Bool.and_eq_true, decide_eq_true_eq, Bool.not_eq_true', decide_eq_false_iff_not]; exact fun hh => h (by omega))]
    exact k q _ _ _ _  (by omega) (by omega) e
theorem scan124c (d : Array Int) (a i j : Nat) (hd : d.size ≤ 1000) (ha : a < d.size) (hj : j < d.size) (hi1 : 1 ≤ i) (hij : i ≤ j + 1) (Q : Ex → List AV → List AObj → Prop) 
    (k : ∀ q (y0 y1 y2 y3 : AV), i ≤ q → q ≤ j + 1 → Sort.scanUp (fun x => Sort.ltInt x d[a]!) d j i = q → Q .normal (slots 168 [(0, Da id d.size), (1, I a), (10, I (q : Nat)), (11, I (j : Nat)), (102, y0), (106, y1), (110, y2), (112, y3)]) (H.set id (Cd d))) :
    wpR Go.Proofs.Try.prog ann124 124 lo none rc124_7 (slots 168 [(0, Da id d.size), (1, I a), (10, I (i : Nat)), (11, I (j : Nat))]) (H.set id (Cd d)) Q := by
  have gs : ∀ c : AObj, (H.set id c)[id]? = some c := fun c => by rw [List.getElem?_set_self hid]
  unfold rc124_7
  conv => whnf
  refine .intro (fun m T H' => ∃ q, i ≤ q ∧ q ≤ j + 1 ∧ m = j + 1 - q ∧ Sort.scanUp (fun x => Sort.ltInt x d[a]!) d j q = Sort.scanUp (fun x => Sort.ltInt x d[a]!) d j i ∧ T = slots 168 [(0, Da id d.size), (1, I a), (10, I (q : Nat)), (11, I (j : Nat))] ∧ H' = H.set id (Cd d)) (j + 1 - i) ⟨i, by omega, by omega, rfl, rfl, rfl, rfl⟩ ?_
  rintro m T H' ⟨q, hq1, hq2, hm, hqe, rfl, rfl⟩
  unfold rc124_6
  conv => whnf
  by_cases h : ((q : Nat) : Int) ≤ ((j : Nat) : Int)
  · rw [decide_eq_true h]
    conv => whnf
    refine ⟨by omega, ?_⟩
    conv => whnf
    refine nthK_of (by first | exact gs _ | exact gss _ _ | assumption) ?_
    conv => whnf
    refine rdK (q) (by omega) (by omega) ?_
    conv => whnf
    refine ⟨by omega, ?_⟩
    conv => whnf
    refine nthK_of (by first | exact gs _ | exact gss _ _ | assumption) ?_
    conv => whnf
    refine rdK (a) (by omega) (by omega) ?_
    conv => whnf
    refine ⟨by first | rfl | simp only [List.all_cons, List.all_nil, pu0, pub, pu1, pu2, pu1', pu2', pun, puf, puP, puP', puQ, puQ', Bool.and_true, Bool.and_self], _, less_ok d[q]! d[a]!, acc0, ?_⟩
    conv => whnf
    by_cases h5 : d[q]! < d[a]!
    · rw [decide_eq_true h5]
      conv => whnf
      exact ⟨j + 1 - (q + 1), by omega, q + 1, by omega, by omega, rfl, by rw [← hqe, scanUp_eq _ _ _ q, if_pos (by simp only [Sort.ltInt, Bool.and_eq_true, decide_eq_true_eq]; exact ⟨by omega, h5⟩)], by rw [← wrapS q (by omega)]; rfl, rfl⟩
    · rw [decide_eq_false h5]
      conv => whnf
      have e : Sort.scanUp (fun x => Sort.ltInt x d[a]!) d j i = q := by
        rw [← hqe, scanUp_eq, if_neg (by simp only [Sort.ltInt, Bool.and_eq_true, decide_eq_true_eq]; exact fun hh => h5 hh.2)]
      exact k q _ _ _ _  (by omega) (by omega) e
  · rw [decide_eq_false h]
    conv => whnf
    have e : Sort.scanUp (fun x => Sort.ltInt x d[a]!) d j i = q := by
      rw [← hqe, scanUp_eq, if_neg (by simp only [Sort.ltInt, Bool.and_eq_true, decide_eq_true_eq]; exact fun hh => h (by omega))]
    exact k q _ _ _ _  (by omega) (by omega) e
theorem scan124d (d : Array Int) (a i j : Nat) (hd : d.size ≤ 1000) (ha : a < d.size) (hj : j < d.size) (hi1 : 1 ≤ i) (hij : i ≤ j + 1) (Q : Ex → List AV → List AObj → Prop) (x0 x1 x2 x3 : AV)
    (k : ∀ q (y0 y1 y2 y3 : AV), q ≤ j → i ≤ q + 1 → Sort.scanDown (fun x => !Sort.ltInt x d[a]!) d i j = q → Q .normal (slots 168 [(0, Da id d.size), (1, I a), (10, I (i : Nat)), (11, I (q : Nat)), (118, y0), (122, y1), (126, y2), (129, y3)]) (H.set id (Cd d))) :
    wpR Go.Proofs.Try.prog ann124 124 lo none rc124_9 (slots 168 [(0, Da id d.size), (1, I a), (10, I (i : Nat)), (11, I (j : Nat)), (102, x0), (106, x1), (110, x2), (112, x3)]) (H.set id (Cd d)) Q := by
  have gs : ∀ c : AObj, (H.set id c)[id]? = some c := fun c => by rw [List.getElem?_set_self hid]
  unfold rc124_9
  conv => whnf
  refine .intro (fun m T H' => ∃ q, q ≤ j ∧ i ≤ q + 1 ∧ m = q ∧ Sort.scanDown (fun x => !Sort.ltInt x d[a]!) d i q = Sort.scanDown (fun x => !Sort.ltInt x d[a]!) d i j ∧ T = slots 168 [(0, Da id d.size), (1, I a), (10, I (i : Nat)), (11, I (q : Nat))] ∧ H' = H.set id (Cd d)) (j) ⟨j, by omega, by omega, rfl, rfl, rfl, rfl⟩ ?_
  rintro m T H' ⟨q, hq1, hq2, hm, hqe, rfl, rfl⟩
  unfold rc124_8
  conv => whnf
  by_cases h : ((i : Nat) : Int) ≤ ((q : Nat) : Int)
  · rw [decide_eq_true h]
    conv => whnf
    refine ⟨by omega, ?_⟩
    conv => whnf
    refine nthK_of (by first | exact gs _ | exact gss _ _ | assumption) ?_
    conv => whnf
    refine rdK (q) (by omega) (by omega) ?_
    conv => whnf
    refine ⟨by omega, ?_⟩
    conv => whnf
    refine nthK_of (by first | exact gs _ | exact gss _ _ | assumption) ?_
    conv => whnf
    refine rdK (a) (by omega) (by omega) ?_
    conv => whnf
    refine ⟨by first | rfl | simp only [List.all_cons, List.all_nil, pu0, pub, pu1, pu2, pu1', pu2', pun, puf, puP, puP', puQ, puQ', Bool.and_true, Bool.and_self], _, less_ok d[q]! d[a]!, acc0, ?_⟩
    conv => whnf
    by_cases h5 : d[q]! < d[a]!
    · rw [decide_eq_true h5]
      conv => whnf
      have e : Sort.scanDown (fun x => !Sort.ltInt x d[a]!) d i j = q := by
        rw [← hqe, scanDown_eq _ _ _ _ hi1, if_neg (by simp only [Sort.ltInt, Bool.and_eq_true, decide_eq_true_eq, Bool.not_eq_true', decide_eq_false_iff_not]; exact fun hh => hh.2 h5)]
      exact k q _ _ _ _  (by omega) (by omega) e
    · rw [decide_eq_false h5]
      conv => whnf
      exact ⟨(q - 1), by omega, q - 1, by omega, by omega, rfl, by rw [← hqe, scanDown_eq _ _ _ q hi1, if_pos (by simp only [Sort.ltInt, Bool.and_eq_true, decide_eq_true_eq, Bool.not_eq_true', decide_eq_false_iff_not]; exact ⟨by omega, h5⟩)], by rw [show ((q - 1 : Nat) : Int) = IntKind.i64.wrap ((q : Int) - 1) by rw [wrapI _ (by omega) (by omega)]; omega]; rfl, rfl⟩
  · rw [decide_eq_false h]
    conv => whnf
    have e : Sort.scanDown (fun x => !Sort.ltInt x d[a]!) d i j = q := by
      rw [← hqe, scanDown_eq _ _ _ _ hi1, if_neg (by simp only [Sort.ltInt, Bool.and_eq_true, decide_eq_true_eq, Bool.not_eq_true', decide_eq_false_iff_not]; exact fun hh => h (by omega))]
    exact k q _ _ _ _  (by omega) (by omega) e
end
end Go.Proofs.Ytlcebaejlnpdeaa.Ab

/-
  Contracts: slices' partitionEqualOrdered, partitionOrdered.
-/
namespace Go.Proofs.Ytlcebaejlnpdeaa.Ab
open Go
set_option maxRecDepth 20000
set_option maxHeartbeats 4000000
theorem partEq_step (a i j i2 j2 : Nat) (d : Array Int) (h1 : Sort.scanUp (fun x => !Sort.ltInt d[a]! x) d j i = i2) (h2 : Sort.scanDown (fun x => Sort.ltInt d[a]! x) d i2 j = j2) (hi : i ≤ i2) (hj : j2 ≤ j) :
    Sort.partEqLoop Sort.ltInt a i j d = if i2 > j2 then (i2, d) else Sort.partEqLoop Sort.ltInt a (i2 + 1) (j2 - 1) (Sort.swp d i2 j2) := by
  rw [Sort.partEqLoop.eq_1]
  simp only [h1, h2]
  split
  · rfl
  · rw [dif_pos (by omega)]
theorem part_step (a i j i2 j2 : Nat) (d : Array Int) (h1 : Sort.scanUp (fun x => Sort.ltInt x d[a]!) d j i = i2) (h2 : Sort.scanDown (fun x => !Sort.ltInt x d[a]!) d i2 j = j2) (hi : i ≤ i2) (hj : j2 ≤ j) :
    Sort.partLoop Sort.ltInt a i j d = if i2 > j2 then (j2, d) else Sort.partLoop Sort.ltInt a (i2 + 1) (j2 - 1) (Sort.swp d i2 j2) := by
  rw [Sort.partLoop.eq_1]
  simp only [h1, h2]
  split
  · rfl
  · rw [dif_pos (by omega)]
theorem cd_pair (d : Array Int) (i j : Nat) : AObj.cells (((d.setIfInBounds i d[j]!).setIfInBounds j d[i]!).toList.map I) = Cd (Sort.swp d i j) := rfl
section
variable {H : List AObj} {id lo : Nat} (hlo : lo ≤ id)
include hlo
theorem partEq_sem (d : Array Int) (a b p : Nat) (hd : d.size ≤ 1000) (hab : a < b) (hb : b ≤ d.size) (hp : p < d.size) (hH : H[id]? = some (Cd d)) :
    Sem Go.Proofs.Try.prog (.fn 123) [Da id d.size, I a, I b, I p] H lo (I (Sort.partitionEqual Sort.ltInt d a b p).1) (H.set id (Cd (Sort.partitionEqual Sort.ltInt d a b p).2)) := by
  have hid := (List.getElem?_eq_some_iff.1 hH).1
  have hbl : Nat.ble lo id = true := Nat.ble_eq_true_of_le hlo
  have gs : ∀ c : AObj, (H.set id c)[id]? = some c := fun c => by rw [List.getElem?_set_self hid]
  have gss : ∀ c e : AObj, ((H.set id c).set id e)[id]? = some e := fun c e => by rw [List.set_set, gs]
  refine fn_semQ hmix lk123 rfl ⟨by simp, fun j h1 h2 => by rw [List.getElem?_set_ne (by omega)]⟩ fun Q hQ => ?_
  unfold rc123 rc123_9
  obtain ⟨c8, g8⟩ : ∃ c, rc123_8 = c := ⟨_, rfl⟩
  rw [g8]
  conv => whnf
  refine ⟨by omega, ?_⟩
  conv => whnf
  refine nthK_of (by first | exact gs _ | exact gss _ _ | assumption) ?_
  conv => whnf
  refine rdK (p) (by omega) (by omega) ?_
  conv => whnf
  refine ⟨by omega, ?_⟩
  conv => whnf
  refine nthK_of (by first | exact gs _ | exact gss _ _ | assumption) ?_
  conv => whnf
  refine rdK (a) (by omega) (by omega) ?_
  conv => whnf
  refine ⟨by omega, ?_⟩
  conv => whnf
  rw [hbl]
  conv => whnf
  refine nthK_of (by first | exact gs _ | exact gss _ _ | assumption) ?_
  conv => whnf
  refine wrK (a) (by omega) (by first | omega | (simp only [Array.size_setIfInBounds]; omega)) ?_
  conv => whnf
  refine ⟨by omega, ?_⟩
  conv => whnf
  rw [hbl]
  conv => whnf
  refine nthK_of (by first | exact gs _ | exact gss _ _ | assumption) ?_
  conv => whnf
  refine wrK (p) (by omega) (by first | omega | (simp only [Array.size_setIfInBounds]; omega)) ?_
  conv => whnf
  subst g8
  unfold rc123_8
  obtain ⟨c7, g7⟩ : ∃ c, rc123_7 = c := ⟨_, rfl⟩
  rw [g7, List.set_set, cd_pair]
  conv => whnf
  rw [wrapS a (by omega), show IntKind.i64.wrap ((b : Int) - 1) = ((b - 1 : Nat) : Int) by rw [wrapI _ (by omega) (by omega)]; omega]
  subst g7
  unfold rc123_7
  obtain ⟨c2, g2⟩ : ∃ c, rc123_2 = c := ⟨_, rfl⟩
  obtain ⟨c4, g4⟩ : ∃ c, rc123_4 = c := ⟨_, rfl⟩
  obtain ⟨c6, g6⟩ : ∃ c, rc123_6 = c := ⟨_, rfl⟩
  rw [g2, g4, g6]
  conv => whnf
  refine .intro (fun m T H' => ∃ i j d', a + 1 ≤ i ∧ i ≤ j + 1 ∧ j + 1 ≤ b ∧ m = j + 1 - i ∧ d'.size = d.size ∧ Sort.partEqLoop Sort.ltInt a i j d' = Sort.partitionEqual Sort.ltInt d a b p ∧ T = slots 84 [(0, Da id d.size), (1, I a), (9, I (i : Nat)), (10, I (j : Nat))] ∧ H' = H.set id (Cd d')) (b - (a + 1)) ⟨a + 1, b - 1, Sort.swp d a p, by omega, by omega, by omega, by omega, swp_size _ _ _, rfl, rfl, rfl⟩ ?_
  rintro m T H' ⟨i, j, d', h1, h2, h3, hm, hds, he, rfl, rfl⟩
  conv => whnf
  subst g2
  rw [← hds]
  refine scan123a hid d' a i j (by omega) (by omega) (by omega) (by omega) h2 _ fun i2 y0 y1 y2 y3 k1 k2 k3 => ?_
  conv => whnf
  subst g4
  refine scan123b hid d' a i2 j (by omega) (by omega) (by omega) (by omega) (by omega) _ _ _ _ _ fun j2 z0 z1 z2 z3 l1 l2 l3 => ?_
  conv => whnf
  rw [partEq_step a i j i2 j2 d' k3 l3 (by omega) (by omega)] at he
  by_cases h : (j2 : Int) < (i2 : Int)
  · rw [decide_eq_true h]
    rw [if_pos (by omega)] at he
    conv => whnf
    refine hQ _ _ _ ⟨.inr rfl, ?_, by rw [← he]; rfl⟩
    rw [← he]
    exact ⟨by simp, fun j o hj => .inr hj⟩
  · rw [decide_eq_false h]
    rw [if_neg (by omega)] at he
    conv => whnf
    have hne : i2 ≠ j2 := fun e => by
      have a1 := (Sort.scanUp_spec (fun x => !Sort.ltInt d'[a]! x) d' j _ i rfl).2.2.2 (by rw [k3]; omega)
      have a2 := (Sort.scanDown_spec (fun x => Sort.ltInt d'[a]! x) d' i2 j).2.2.2 (by rw [l3]; omega) (by rw [l3]; omega)
      rw [k3] at a1
      rw [l3, ← e] at a2
      simp only [Bool.not_eq_false'] at a1 a2
      rw [a1] at a2; cases a2
    subst g6
    unfold rc123_6
    obtain ⟨c5, g5⟩ : ∃ c, rc123_5 = c := ⟨_, rfl⟩
    rw [g5]
    conv => whnf
    refine ⟨by omega, ?_⟩
    conv => whnf
    refine nthK_of (by first | exact gs _ | exact gss _ _ | assumption) ?_
    conv => whnf
    refine rdK (j2) (by omega) (by omega) ?_
    conv => whnf
    refine ⟨by omega, ?_⟩
    conv => whnf
    refine nthK_of (by first | exact gs _ | exact gss _ _ | assumption) ?_
    conv => whnf
    refine rdK (i2) (by omega) (by omega) ?_
    conv => whnf
    refine ⟨by omega, ?_⟩
    conv => whnf
    rw [hbl]
    conv => whnf
    refine nthK_of (by first | exact gs _ | exact gss _ _ | assumption) ?_
    conv => whnf
    refine wrK (i2) (by omega) (by first | omega | (simp only [Array.size_setIfInBounds]; omega)) ?_
    conv => whnf
    refine ⟨by omega, ?_⟩
    conv => whnf
    rw [hbl]
    conv => whnf
    refine nthK_of (by first | exact gs _ | exact gss _ _ | assumption) ?_
    conv => whnf
    refine wrK (j2) (by omega) (by first | omega | (simp only [Array.size_setIfInBounds]; omega)) ?_
    conv => whnf
    subst g5
    unfold rc123_5
    rw [List.set_set, List.set_set, cd_pair]
    conv => whnf
    refine ⟨j2 - 1 + 1 - (i2 + 1), by omega, i2 + 1, j2 - 1, Sort.swp d' i2 j2, by omega, by omega, by omega, rfl, by rw [swp_size], he, ?_, rfl⟩
    rw [← wrapS i2 (by omega), show ((j2 - 1 : Nat) : Int) = IntKind.i64.wrap ((j2 : Int) - 1) by rw [wrapI _ (by omega) (by omega)]; omega]; rfl
theorem part_sem (d : Array Int) (a b p : Nat) (hd : d.size ≤ 1000) (hab : a < b) (hb : b ≤ d.size) (hp : p < d.size) (hH : H[id]? = some (Cd d)) :
    Sem Go.Proofs.Try.prog (.fn 124) [Da id d.size, I a, I b, I p] H lo (.tuple [I (Sort.partition Sort.ltInt d a b p).1, B (Sort.partition Sort.ltInt d a b p).2.1]) (H.set id (Cd (Sort.partition Sort.ltInt d a b p).2.2)) := by
  have hid := (List.getElem?_eq_some_iff.1 hH).1
  have hbl : Nat.ble lo id = true := Nat.ble_eq_true_of_le hlo
  have gs : ∀ c : AObj, (H.set id c)[id]? = some c := fun c => by rw [List.getElem?_set_self hid]
  have gss : ∀ c e : AObj, ((H.set id c).set id e)[id]? = some e := fun c e => by rw [List.set_set, gs]
  refine fn_semQ hmix lk124 rfl ⟨by simp, fun j h1 h2 => by rw [List.getElem?_set_ne (by omega)]⟩ fun Q hQ => ?_
  obtain ⟨d1, hd1⟩ : ∃ x, x = Sort.swp d a p := ⟨_, rfl⟩
  have hs1 : d1.size = d.size := by rw [hd1]; exact swp_size _ _ _
  unfold rc124 rc124_17
  obtain ⟨c16, g16⟩ : ∃ c, rc124_16 = c := ⟨_, rfl⟩
  rw [g16]
  conv => whnf
  refine ⟨by omega, ?_⟩
  conv => whnf
  refine nthK_of (by first | exact gs _ | exact gss _ _ | assumption) ?_
  conv => whnf
  refine rdK (p) (by omega) (by omega) ?_
  conv => whnf
  refine ⟨by omega, ?_⟩
  conv => whnf
  refine nthK_of (by first | exact gs _ | exact gss _ _ | assumption) ?_
  conv => whnf
  refine rdK (a) (by omega) (by omega) ?_
  conv => whnf
  refine ⟨by omega, ?_⟩
  conv => whnf
  rw [hbl]
  conv => whnf
  refine nthK_of (by first | exact gs _ | exact gss _ _ | assumption) ?_
  conv => whnf
  refine wrK (a) (by omega) (by first | omega | (simp only [Array.size_setIfInBounds]; omega)) ?_
  conv => whnf
  refine ⟨by omega, ?_⟩
  conv => whnf
  rw [hbl]
  conv => whnf
  refine nthK_of (by first | exact gs _ | exact gss _ _ | assumption) ?_
  conv => whnf
  refine wrK (p) (by omega) (by first | omega | (simp only [Array.size_setIfInBounds]; omega)) ?_
  conv => whnf
  subst g16
  unfold rc124_16
  obtain ⟨c2, g2⟩ : ∃ c, rc124_2 = c := ⟨_, rfl⟩
  obtain ⟨c4, g4⟩ : ∃ c, rc124_4 = c := ⟨_, rfl⟩
  obtain ⟨c5, g5⟩ : ∃ c, rc124_5 = c := ⟨_, rfl⟩
  obtain ⟨c15, g15⟩ : ∃ c, rc124_15 = c := ⟨_, rfl⟩
  rw [g2, g4, g5, g15, List.set_set, cd_pair, ← hd1]
  conv => whnf
  rw [wrapS a (by omega), show IntKind.i64.wrap ((b : Int) - 1) = ((b - 1 : Nat) : Int) by rw [wrapI _ (by omega) (by omega)]; omega, ← hs1]
  subst g2
  refine scan124a hid d1 a (a + 1) (b - 1) (by omega) (by omega) (by omega) (by omega) (by omega) _ _ _ _ fun i2 y0 y1 y2 y3 k1 k2 k3 => ?_
  conv => whnf
  subst g4
  refine scan124b hid d1 a i2 (b - 1) (by omega) (by omega) (by omega) (by omega) (by omega) _ _ _ _ _ fun j2 z0 z1 z2 z3 l1 l2 l3 => ?_
  conv => whnf
  have hP : Sort.partition Sort.ltInt d a b p = if i2 > j2 then (j2, true, Sort.swp d1 j2 a) else ((Sort.partLoop Sort.ltInt a (i2 + 1) (j2 - 1) (Sort.swp d1 i2 j2)).1, false, Sort.swp (Sort.partLoop Sort.ltInt a (i2 + 1) (j2 - 1) (Sort.swp d1 i2 j2)).2 (Sort.partLoop Sort.ltInt a (i2 + 1) (j2 - 1) (Sort.swp d1 i2 j2)).1 a) := by
    rw [Sort.partition]
    simp only [← hd1, k3, l3]
  rw [hP] at hQ
  clear hP
  by_cases h : (j2 : Int) < (i2 : Int)
  · rw [decide_eq_true h]
    rw [if_pos (by omega)] at hQ
    conv => whnf
    subst g5
    unfold rc124_5
    conv => whnf
    refine ⟨by omega, ?_⟩
    conv => whnf
    refine nthK_of (by first | exact gs _ | exact gss _ _ | assumption) ?_
    conv => whnf
    refine rdK (a) (by omega) (by omega) ?_
    conv => whnf
    refine ⟨by omega, ?_⟩
    conv => whnf
    refine nthK_of (by first | exact gs _ | exact gss _ _ | assumption) ?_
    conv => whnf
    refine rdK (j2) (by omega) (by omega) ?_
    conv => whnf
    refine ⟨by omega, ?_⟩
    conv => whnf
    rw [hbl]
    conv => whnf
    refine nthK_of (by first | exact gs _ | exact gss _ _ | assumption) ?_
    conv => whnf
    refine wrK (j2) (by omega) (by first | omega | (simp only [Array.size_setIfInBounds]; omega)) ?_
    conv => whnf
    refine ⟨by omega, ?_⟩
    conv => whnf
    rw [hbl]
    conv => whnf
    refine nthK_of (by first | exact gs _ | exact gss _ _ | assumption) ?_
    conv => whnf
    refine wrK (a) (by omega) (by first | omega | (simp only [Array.size_setIfInBounds]; omega)) ?_
    conv => whnf
    rw [List.set_set, List.set_set, cd_pair]
    exact hQ _ _ _ ⟨.inr rfl, ⟨by simp, fun j o hj => .inr hj⟩, rfl⟩
  · rw [decide_eq_false h]
    rw [if_neg (by omega)] at hQ
    conv => whnf
    have hne : i2 ≠ j2 := fun e => by
      have a1 := (Sort.scanUp_spec (fun x => Sort.ltInt x d1[a]!) d1 (b - 1) _ (a + 1) rfl).2.2.2 (by rw [k3]; omega)
      have a2 := (Sort.scanDown_spec (fun x => !Sort.ltInt x d1[a]!) d1 i2 (b - 1)).2.2.2 (by rw [l3]; omega) (by rw [l3]; omega)
      rw [k3] at a1
      rw [l3, ← e] at a2
      simp only [Bool.not_eq_false'] at a1 a2
      rw [a1] at a2; cases a2
    subst g15
    unfold rc124_15
    obtain ⟨c14, g14⟩ : ∃ c, rc124_14 = c := ⟨_, rfl⟩
    rw [g14]
    conv => whnf
    refine ⟨by omega, ?_⟩
    conv => whnf
    refine nthK_of (by first | exact gs _ | exact gss _ _ | assumption) ?_
    conv => whnf
    refine rdK (j2) (by omega) (by omega) ?_
    conv => whnf
    refine ⟨by omega, ?_⟩
    conv => whnf
    refine nthK_of (by first | exact gs _ | exact gss _ _ | assumption) ?_
    conv => whnf
    refine rdK (i2) (by omega) (by omega) ?_
    conv => whnf
    refine ⟨by omega, ?_⟩
    conv => whnf
    rw [hbl]
    conv => whnf
    refine nthK_of (by first | exact gs _ | exact gss _ _ | assumption) ?_
    conv => whnf
    refine wrK (i2) (by omega) (by first | omega | (simp only [Array.size_setIfInBounds]; omega)) ?_
    conv => whnf
    refine ⟨by omega, ?_⟩
    conv => whnf
    rw [hbl]
    conv => whnf
    refine nthK_of (by first | exact gs _ | exact gss _ _ | assumption) ?_
    conv => whnf
    refine wrK (j2) (by omega) (by first | omega | (simp only [Array.size_setIfInBounds]; omega)) ?_
    conv => whnf
    subst g14
    unfold rc124_14
    obtain ⟨c12, g12⟩ : ∃ c, rc124_12 = c := ⟨_, rfl⟩
    obtain ⟨c13, g13⟩ : ∃ c, rc124_13 = c := ⟨_, rfl⟩
    rw [g12, g13, List.set_set, List.set_set, cd_pair]
    conv => whnf
    rw [wrapS i2 (by omega), show IntKind.i64.wrap ((j2 : Int) - 1) = ((j2 - 1 : Nat) : Int) by rw [wrapI _ (by omega) (by omega)]; omega]
    subst g12
    unfold rc124_12
    obtain ⟨c7, g7⟩ : ∃ c, rc124_7 = c := ⟨_, rfl⟩
    obtain ⟨c9, g9⟩ : ∃ c, rc124_9 = c := ⟨_, rfl⟩
    obtain ⟨c11, g11⟩ : ∃ c, rc124_11 = c := ⟨_, rfl⟩
    rw [g7, g9, g11]
    conv => whnf
    generalize hR : Sort.partLoop Sort.ltInt a (i2 + 1) (j2 - 1) (Sort.swp d1 i2 j2) = R at hQ
    refine .intro (fun m T H' => ∃ i j d', a + 1 ≤ i ∧ i ≤ j + 1 ∧ j + 1 ≤ b ∧ m = j + 1 - i ∧ d'.size = d1.size ∧ Sort.partLoop Sort.ltInt a i j d' = R ∧ T = slots 168 [(0, Da id d'.size), (1, I a), (10, I (i : Nat)), (11, I (j : Nat))] ∧ H' = H.set id (Cd d')) (j2 - 1 + 1 - (i2 + 1)) ⟨i2 + 1, j2 - 1, Sort.swp d1 i2 j2, by omega, by omega, by omega, by omega, swp_size _ _ _, hR, by rw [swp_size]; rfl, rfl⟩ ?_
    rintro m T H' ⟨i, j, d', h1, h2, h3, hm, hds, he, rfl, rfl⟩
    conv => whnf
    subst g7
    refine scan124c hid d' a i j (by omega) (by omega) (by omega) (by omega) h2 _ fun i3 y0 y1 y2 y3 k4 k5 k6 => ?_
    conv => whnf
    subst g9
    refine scan124d hid d' a i3 j (by omega) (by omega) (by omega) (by omega) (by omega) _ _ _ _ _ fun j3 z0 z1 z2 z3 l4 l5 l6 => ?_
    conv => whnf
    rw [part_step a i j i3 j3 d' k6 l6 (by omega) (by omega)] at he
    by_cases h : (j3 : Int) < (i3 : Int)
    · rw [decide_eq_true h]
      rw [if_pos (by omega)] at he
      conv => whnf
      subst g13
      unfold rc124_13
      conv => whnf
      subst he
      refine ⟨by omega, ?_⟩
      conv => whnf
      refine nthK_of (by first | exact gs _ | exact gss _ _ | assumption) ?_
      conv => whnf
      refine rdK (a) (by omega) (by omega) ?_
      conv => whnf
      refine ⟨by omega, ?_⟩
      conv => whnf
      refine nthK_of (by first | exact gs _ | exact gss _ _ | assumption) ?_
      conv => whnf
      refine rdK (j3) (by omega) (by omega) ?_
      conv => whnf
      refine ⟨by omega, ?_⟩
      conv => whnf
      rw [hbl]
      conv => whnf
      refine nthK_of (by first | exact gs _ | exact gss _ _ | assumption) ?_
      conv => whnf
      refine wrK (j3) (by omega) (by first | omega | (simp only [Array.size_setIfInBounds]; omega)) ?_
      conv => whnf
      refine ⟨by omega, ?_⟩
      conv => whnf
      rw [hbl]
      conv => whnf
      refine nthK_of (by first | exact gs _ | exact gss _ _ | assumption) ?_
      conv => whnf
      refine wrK (a) (by omega) (by first | omega | (simp only [Array.size_setIfInBounds]; omega)) ?_
      conv => whnf
      rw [List.set_set, List.set_set, cd_pair]
      exact hQ _ _ _ ⟨.inr rfl, ⟨by simp, fun j o hj => .inr hj⟩, rfl⟩
    · rw [decide_eq_false h]
      rw [if_neg (by omega)] at he
      conv => whnf
      have hne : i3 ≠ j3 := fun e => by
        have a1 := (Sort.scanUp_spec (fun x => Sort.ltInt x d'[a]!) d' j _ i rfl).2.2.2 (by rw [k6]; omega)
        have a2 := (Sort.scanDown_spec (fun x => !Sort.ltInt x d'[a]!) d' i3 j).2.2.2 (by rw [l6]; omega) (by rw [l6]; omega)
        rw [k6] at a1
        rw [l6, ← e] at a2
        simp only [Bool.not_eq_false'] at a1 a2
        rw [a1] at a2; cases a2
      subst g11
      unfold rc124_11
      obtain ⟨c10, g10⟩ : ∃ c, rc124_10 = c := ⟨_, rfl⟩
      rw [g10]
      conv => whnf
      refine ⟨by omega, ?_⟩
      conv => whnf
      refine nthK_of (by first | exact gs _ | exact gss _ _ | assumption) ?_
      conv => whnf
      refine rdK (j3) (by omega) (by omega) ?_
      conv => whnf
      refine ⟨by omega, ?_⟩
      conv => whnf
      refine nthK_of (by first | exact gs _ | exact gss _ _ | assumption) ?_
      conv => whnf
      refine rdK (i3) (by omega) (by omega) ?_
      conv => whnf
      refine ⟨by omega, ?_⟩
      conv => whnf
      rw [hbl]
      conv => whnf
      refine nthK_of (by first | exact gs _ | exact gss _ _ | assumption) ?_
      conv => whnf
      refine wrK (i3) (by omega) (by first | omega | (simp only [Array.size_setIfInBounds]; omega)) ?_
      conv => whnf
      refine ⟨by omega, ?_⟩
      conv => whnf
      rw [hbl]
      conv => whnf
      refine nthK_of (by first | exact gs _ | exact gss _ _ | assumption) ?_
      conv => whnf
      refine wrK (j3) (by omega) (by first | omega | (simp only [Array.size_setIfInBounds]; omega)) ?_
      conv => whnf
      subst g10
      unfold rc124_10
      rw [List.set_set, List.set_set, cd_pair]
      conv => whnf
      refine ⟨j3 - 1 + 1 - (i3 + 1), by omega, i3 + 1, j3 - 1, Sort.swp d' i3 j3, by omega, by omega, by omega, rfl, by rw [swp_size]; exact hds, he, ?_, rfl⟩
      rw [← wrapS i3 (by omega), show ((j3 - 1 : Nat) : Int) = IntKind.i64.wrap ((j3 : Int) - 1) by rw [wrapI _ (by omega) (by omega)]; omega, swp_size]; rfl
end
end Go.Proofs.Ytlcebaejlnpdeaa.Ab

/-
  Contracts: slices' pdqsortOrdered and Sort, of fewer than 32.
-/
namespace Go.Proofs.Ytlcebaejlnpdeaa.Ab
open Go
set_option maxRecDepth 20000
set_option maxHeartbeats 4000000
theorem partEq_range (a b : Nat) : ∀ (n i j : Nat) (d : Array Int), j + 1 - i ≤ n → a < i → i ≤ b → j < b → a < (Sort.partEqLoop Sort.ltInt a i j d).1 ∧ (Sort.partEqLoop Sort.ltInt a i j d).1 ≤ b ∧ (Sort.partEqLoop Sort.ltInt a i j d).2.size = d.size := by
  intro n
  induction n with
  | zero =>
    intro i j d hn hi hb hj
    have s1 := Sort.scanUp_spec (fun x => !Sort.ltInt d[a]! x) d j _ i rfl
    have s2 := Sort.scanDown_spec (fun x => Sort.ltInt d[a]! x) d (Sort.scanUp (fun x => !Sort.ltInt d[a]! x) d j i) j
    rw [partEq_step a i j _ _ d rfl rfl s1.1 s2.1]
    have e : Sort.scanUp (fun x => !Sort.ltInt d[a]! x) d j i = i := by rw [scanUp_eq, if_neg (by simp; omega)]
    rw [e] at s2 ⊢
    rw [if_pos (by omega)]
    exact ⟨hi, hb, rfl⟩
  | succ n ih =>
    intro i j d hn hi hb hj
    have s1 := Sort.scanUp_spec (fun x => !Sort.ltInt d[a]! x) d j _ i rfl
    have s2 := Sort.scanDown_spec (fun x => Sort.ltInt d[a]! x) d (Sort.scanUp (fun x => !Sort.ltInt d[a]! x) d j i) j
    rw [partEq_step a i j _ _ d rfl rfl s1.1 s2.1]
    obtain ⟨i2, h2⟩ : ∃ x, x = Sort.scanUp (fun x => !Sort.ltInt d[a]! x) d j i := ⟨_, rfl⟩
    rw [← h2] at s1 s2 ⊢
    obtain ⟨j2, h3⟩ : ∃ x, x = Sort.scanDown (fun x => Sort.ltInt d[a]! x) d i2 j := ⟨_, rfl⟩
    rw [← h3] at s2 ⊢
    have hib : i2 ≤ b := by
      by_cases h : i ≤ j + 1
      · have := s1.2.1 h; omega
      · have e : Sort.scanUp (fun x => !Sort.ltInt d[a]! x) d j i = i := by rw [scanUp_eq, if_neg (by simp; omega)]
        omega
    split
    · exact ⟨by have := s1.1; show a < i2; omega, hib, rfl⟩
    · have := ih (i2 + 1) (j2 - 1) (Sort.swp d i2 j2) (by have := s1.1; have := s2.1; omega) (by have := s1.1; omega) (by have := s2.1; omega) (by have := s2.1; omega)
      rw [swp_size] at this; exact this
theorem partitionEqual_range (d : Array Int) (a b p : Nat) (hab : a < b) : a < (Sort.partitionEqual Sort.ltInt d a b p).1 ∧ (Sort.partitionEqual Sort.ltInt d a b p).1 ≤ b ∧ (Sort.partitionEqual Sort.ltInt d a b p).2.size = d.size := by
  have := partEq_range a b _ (a + 1) (b - 1) (Sort.swp d a p) (Nat.le_refl _) (by omega) (by omega) (by omega)
  rw [swp_size] at this; exact this
/-- How many variables pdqsort leaves behind. -/
def pdqN (d : Array Int) (a b limit : Nat) (wasBalanced wasPartitioned : Bool) : Nat :=
  if b - a ≤ 12 then 0 else
  if limit = 0 then 0 else
  let n1 := if !wasBalanced then 2 else 1
  let d1 := if !wasBalanced then Sort.breakPatterns d a b else d
  let limit := if !wasBalanced then limit - 1 else limit
  let c := Sort.choosePivot Sort.ltInt d1 a b
  let d2 := if c.2 = .decreasing then Sort.reverseRange d1 a b else d1
  let pivot := if c.2 = .decreasing then (b - 1) - (c.1 - a) else c.1
  let hint := if c.2 = .decreasing then Sort.Hint.increasing else c.2
  let pi := if wasBalanced && wasPartitioned && hint = .increasing then Sort.partialInsertionSort Sort.ltInt d2 a b else (d2, false)
  if pi.2 then n1 else
  let d3 := pi.1
  if a > 0 && !Sort.ltInt d3[a - 1]! d3[pivot]! then
    match Sort.partitionEqual Sort.ltInt d3 a b pivot with
    | (mid, d4) => if _h : a < mid ∧ mid ≤ b then n1 + pdqN d4 mid b limit wasBalanced wasPartitioned else 0
  else
    match Sort.partition Sort.ltInt d3 a b pivot with
    | (mid, alreadyPartitioned, d4) =>
      if _h : a ≤ mid ∧ mid < b then
        if mid - a < b - mid then
          n1 + pdqN d4 a mid limit true true + pdqN (Sort.pdq Sort.ltInt d4 a mid limit true true) (mid + 1) b limit (decide (mid - a ≥ (b - a) / 8)) alreadyPartitioned
        else
          n1 + pdqN d4 (mid + 1) b limit true true + pdqN (Sort.pdq Sort.ltInt d4 (mid + 1) b limit true true) a mid limit (decide (b - mid ≥ (b - a) / 8)) alreadyPartitioned
      else 0
termination_by b - a
decreasing_by all_goals omega
/-- The dead. -/
abbrev Dd (n : Nat) : List AObj := List.replicate n .dead
theorem dd_add (X : List AObj) (m n : Nat) : X ++ Dd m ++ Dd n = X ++ Dd (m + n) := by rw [List.append_assoc, List.replicate_append_replicate]
theorem dd_one (X : List AObj) (m : Nat) : X ++ Dd m ++ [.dead] = X ++ Dd (m + 1) := dd_add X m 1
theorem dd_set (X : List AObj) (x y : AObj) (m id : Nat) (h : id < X.length) : (X.set id x ++ Dd m).set id y = X.set id y ++ Dd m := by
  rw [List.set_append_left _ _ (by simpa using h), List.set_set]
theorem dd_get (X : List AObj) (x : AObj) (m id : Nat) (h : id < X.length) : (X.set id x ++ Dd m)[id]? = some x := by
  rw [List.getElem?_append_left (by simpa using h), List.getElem?_set_self h]
theorem partial_same (d : Array Int) (a b : Nat) (h50 : b - a < 50) : (Sort.partialInsertionSort Sort.ltInt d a b).1 = d := by
  rw [Sort.partialInsertionSort, Sort.partialIns]
  by_cases h : Sort.scanSorted Sort.ltInt d b (a + 1) = b
  · simp [h]
  · simp [h, h50]
/-- One round. -/
theorem pdq_round {d : Array Int} {a b limit : Nat} {wb wp : Bool} (h12 : ¬ b - a ≤ 12) (hl : ¬ limit = 0) (h50 : b - a < 50) {d1 d2 : Array Int} {l1 n1 pivot : Nat} {c : Nat × Sort.Hint} {hint : Sort.Hint} {fin : Bool}
    (e1 : d1 = if !wb then Sort.breakPatterns d a b else d) (e2 : l1 = if !wb then limit - 1 else limit) (en : n1 = if !wb then 2 else 1) (ec : c = Sort.choosePivot Sort.ltInt d1 a b) (ed : d2 = if c.2 = .decreasing then Sort.reverseRange d1 a b else d1)
    (ep : pivot = if c.2 = .decreasing then (b - 1) - (c.1 - a) else c.1) (eh : hint = if c.2 = .decreasing then Sort.Hint.increasing else c.2) (ef : fin = (wb && wp && decide (hint = .increasing) && (Sort.partialInsertionSort Sort.ltInt d2 a b).2)) :
    Sort.pdq Sort.ltInt d a b limit wb wp = (if fin then d2 else
      if a > 0 && !Sort.ltInt d2[a - 1]! d2[pivot]! then Sort.pdq Sort.ltInt (Sort.partitionEqual Sort.ltInt d2 a b pivot).2 (Sort.partitionEqual Sort.ltInt d2 a b pivot).1 b l1 wb wp
      else if a ≤ (Sort.partition Sort.ltInt d2 a b pivot).1 ∧ (Sort.partition Sort.ltInt d2 a b pivot).1 < b then
        if (Sort.partition Sort.ltInt d2 a b pivot).1 - a < b - (Sort.partition Sort.ltInt d2 a b pivot).1 then
          Sort.pdq Sort.ltInt (Sort.pdq Sort.ltInt (Sort.partition Sort.ltInt d2 a b pivot).2.2 a (Sort.partition Sort.ltInt d2 a b pivot).1 l1 true true) ((Sort.partition Sort.ltInt d2 a b pivot).1 + 1) b l1 (decide ((Sort.partition Sort.ltInt d2 a b pivot).1 - a ≥ (b - a) / 8)) (Sort.partition Sort.ltInt d2 a b pivot).2.1
        else
          Sort.pdq Sort.ltInt (Sort.pdq Sort.ltInt (Sort.partition Sort.ltInt d2 a b pivot).2.2 ((Sort.partition Sort.ltInt d2 a b pivot).1 + 1) b l1 true true) a (Sort.partition Sort.ltInt d2 a b pivot).1 l1 (decide (b - (Sort.partition Sort.ltInt d2 a b pivot).1 ≥ (b - a) / 8)) (Sort.partition Sort.ltInt d2 a b pivot).2.1
      else (Sort.partition Sort.ltInt d2 a b pivot).2.2) ∧
    pdqN d a b limit wb wp = (if fin then n1 else
      if a > 0 && !Sort.ltInt d2[a - 1]! d2[pivot]! then n1 + pdqN (Sort.partitionEqual Sort.ltInt d2 a b pivot).2 (Sort.partitionEqual Sort.ltInt d2 a b pivot).1 b l1 wb wp
      else if a ≤ (Sort.partition Sort.ltInt d2 a b pivot).1 ∧ (Sort.partition Sort.ltInt d2 a b pivot).1 < b then
        if (Sort.partition Sort.ltInt d2 a b pivot).1 - a < b - (Sort.partition Sort.ltInt d2 a b pivot).1 then
          n1 + pdqN (Sort.partition Sort.ltInt d2 a b pivot).2.2 a (Sort.partition Sort.ltInt d2 a b pivot).1 l1 true true + pdqN (Sort.pdq Sort.ltInt (Sort.partition Sort.ltInt d2 a b pivot).2.2 a (Sort.partition Sort.ltInt d2 a b pivot).1 l1 true true) ((Sort.partition Sort.ltInt d2 a b pivot).1 + 1) b l1 (decide ((Sort.partition Sort.ltInt d2 a b pivot).1 - a ≥ (b - a) / 8)) (Sort.partition Sort.ltInt d2 a b pivot).2.1
        else
          n1 + pdqN (Sort.partition Sort.ltInt d2 a b pivot).2.2 ((Sort.partition Sort.ltInt d2 a b pivot).1 + 1) b l1 true true + pdqN (Sort.pdq Sort.ltInt (Sort.partition Sort.ltInt d2 a b pivot).2.2 ((Sort.partition Sort.ltInt d2 a b pivot).1 + 1) b l1 true true) a (Sort.partition Sort.ltInt d2 a b pivot).1 l1 (decide (b - (Sort.partition Sort.ltInt d2 a b pivot).1 ≥ (b - a) / 8)) (Sort.partition Sort.ltInt d2 a b pivot).2.1
      else 0) := by
  have hr := partitionEqual_range d2 a b pivot (by omega)
  have hpi : (if wb && wp && decide (hint = .increasing) then Sort.partialInsertionSort Sort.ltInt d2 a b else (d2, false)) = (d2, fin) := by
    rw [ef]
    split
    · rename_i h
      rw [h, Bool.true_and, ← partial_same d2 a b h50]
      simp only [partial_same d2 a b h50]
      exact Prod.ext (partial_same d2 a b h50) rfl
    · rename_i h
      rw [show (wb && wp && decide (hint = .increasing)) = false by simpa using h]; rfl
  constructor
  · rw [Sort.pdq]
    simp only [if_neg h12, if_neg hl, ← e1, ← e2, ← ec, ← ed, ← ep, ← eh, hpi, dif_pos (And.intro hr.1 hr.2.1), dite_eq_ite]
  · rw [pdqN]
    simp only [if_neg h12, if_neg hl, ← e1, ← e2, ← en, ← ec, ← ed, ← ep, ← eh, hpi, dif_pos (And.intro hr.1 hr.2.1), dite_eq_ite]
theorem rev_size (d : Array Int) (a b : Nat) (h : a ≤ b) (hb : b ≤ d.size) : (Sort.reverseRange d a b).size = d.size := (Sort.reverseRange_holds d a b h hb).1
theorem brk_psize (d : Array Int) (a b : Nat) (h : a ≤ b) (hb : b ≤ d.size) : (Sort.breakPatterns d a b).size = d.size := (Sort.breakPatterns_holds d a b h hb).1
theorem hint_two (h : Sort.Hint) : (hintI h = 2) ↔ h = .decreasing := by cases h <;> simp [hintI]
theorem hint_one (h : Sort.Hint) : (hintI h = 1) ↔ h = .increasing := by cases h <;> simp [hintI]
theorem pdq_size : ∀ (n : Nat) (d : Array Int) (a b limit : Nat) (wb wp : Bool), b - a ≤ n → a ≤ b → b ≤ d.size → b - a < 50 → (Sort.pdq Sort.ltInt d a b limit wb wp).size = d.size := by
  intro n
  induction n using Nat.strongRecOn with
  | _ n IH =>
  intro d a b limit wb wp hn ha hb h50
  by_cases h12 : b - a ≤ 12
  · rw [Sort.pdq, if_pos h12]; exact (Sort.insertionSort_holds (lt := Sort.ltInt) Sort.swo_ltInt d a b ha hb).1.1
  by_cases hl : limit = 0
  · rw [Sort.pdq, if_neg h12, if_pos hl]; exact (Sort.heapSort_holds (lt := Sort.ltInt) Sort.swo_ltInt d a b ha hb).1.1
  obtain ⟨d1, e1⟩ : ∃ x, x = if !wb then Sort.breakPatterns d a b else d := ⟨_, rfl⟩
  obtain ⟨l1, e2⟩ : ∃ x, x = if !wb then limit - 1 else limit := ⟨_, rfl⟩
  obtain ⟨n1, en⟩ : ∃ x, x = if !wb then 2 else 1 := ⟨_, rfl⟩
  obtain ⟨ch, ec⟩ : ∃ x, x = Sort.choosePivot Sort.ltInt d1 a b := ⟨_, rfl⟩
  obtain ⟨d2, ed⟩ : ∃ x, x = if ch.2 = .decreasing then Sort.reverseRange d1 a b else d1 := ⟨_, rfl⟩
  obtain ⟨pivot, ep⟩ : ∃ x, x = if ch.2 = .decreasing then (b - 1) - (ch.1 - a) else ch.1 := ⟨_, rfl⟩
  obtain ⟨hint, eh⟩ : ∃ x, x = if ch.2 = .decreasing then Sort.Hint.increasing else ch.2 := ⟨_, rfl⟩
  obtain ⟨fin, ef⟩ : ∃ x, x = (wb && wp && decide (hint = .increasing) && (Sort.partialInsertionSort Sort.ltInt d2 a b).2) := ⟨_, rfl⟩
  obtain ⟨q1, q2⟩ := pdq_round (wb := wb) (wp := wp) h12 hl h50 e1 e2 en ec ed ep eh ef
  rw [q1]
  have s1 : d1.size = d.size := by
    rw [e1]; split
    · exact brk_psize _ _ _ ha hb
    · rfl
  have s2 : d2.size = d.size := by
    rw [ed]; split
    · rw [rev_size _ _ _ ha (by omega)]; exact s1
    · exact s1
  have hcr := Sort.choosePivot_holds Sort.ltInt d1 a b (by omega)
  rw [← ec] at hcr
  have hp : a ≤ pivot ∧ pivot < b := by rw [ep]; split <;> omega
  have hpr := Sort.partition_holds (lt := Sort.ltInt) Sort.swo_ltInt d2 a b pivot hp.1 hp.2 (by omega)
  have hq := partitionEqual_range d2 a b pivot (by omega)
  have s4 := hpr.2.2.1.1
  split
  · exact s2
  · split
    · rw [IH _ (by omega) _ _ _ _ _ _ (Nat.le_refl _) (by omega) (by omega) (by omega)]; omega
    · rw [if_pos ⟨hpr.1, hpr.2.1⟩]
      split
      · have := IH (Sort.partition Sort.ltInt d2 a b pivot).1 |> fun _ => IH ((Sort.partition Sort.ltInt d2 a b pivot).1 - a) (by omega) (Sort.partition Sort.ltInt d2 a b pivot).2.2 a (Sort.partition Sort.ltInt d2 a b pivot).1 l1 true true (Nat.le_refl _) hpr.1 (by omega) (by omega)
        rw [IH _ (by omega) _ _ _ _ _ _ (Nat.le_refl _) (by omega) (by omega) (by omega)]; omega
      · have := IH (b - ((Sort.partition Sort.ltInt d2 a b pivot).1 + 1)) (by omega) (Sort.partition Sort.ltInt d2 a b pivot).2.2 ((Sort.partition Sort.ltInt d2 a b pivot).1 + 1) b l1 true true (Nat.le_refl _) (by omega) (by omega) (by omega)
        rw [IH ((Sort.partition Sort.ltInt d2 a b pivot).1 - a) (by omega) _ _ _ _ _ _ (Nat.le_refl _) (by omega) (by omega) (by omega)]; omega
def keep114 : List Bool := [true, true, true, true, false, false, false, false, true, true, false, false, false, false, false, false, false, false, false, false, false, false, false, false, false, false, false, false, false, false, false, false, false, false, false, false, false, false, false, false, false, false, false, false, false, false, false, false, false, false, false, false, false, false, false, false, false, false, false, false, false, false, false, false, false, false, false, false, false, false, false, false, false, false, false, false, false, false, false, false, false, false, false, false, false, false, false, false, false, false, false, false, false, false, false, false, false, false, false, false, false, false, false, false, false, false, false, false, false, false, false, false, false, false, false, false, false, false, false, false, false, false, false, false, false, false, false, false, false, false, false, false, false, false]
theorem pdq_tail3 {n : Nat} {H : List AObj} {id lo : Nat} {d d2 R : Array Int} {a b l1 n0 N M pivot : Nat} {wb wp : Bool} (hlo : lo ≤ id)
    (IH : ∀ m, m < n → ∀ (H : List AObj) (id lo : Nat) (d : Array Int) (a b limit : Nat), b - a ≤ m → lo ≤ id → d.size < 32 → a ≤ b → b ≤ d.size → limit ≤ 100 → H[id]? = some (Cd d) →
      Sem Go.Proofs.Try.prog (.fn 114) [Da id d.size, I a, I b, I limit] H lo (.tuple []) (H.set id (Cd (Sort.pdq Sort.ltInt d a b limit true true)) ++ Dd (pdqN d a b limit true true)))
    (hid : id < H.length) (hd : d.size < 32) (hn : b - a ≤ n) (hb : b ≤ d.size) (h12 : 12 < b - a) (hl1 : l1 ≤ 100) (s2 : d2.size = d.size) (hp1 : a ≤ pivot) (hp2 : pivot < b)
    (hR : (if a ≤ (Sort.partition Sort.ltInt d2 a b pivot).1 ∧ (Sort.partition Sort.ltInt d2 a b pivot).1 < b then
        if (Sort.partition Sort.ltInt d2 a b pivot).1 - a < b - (Sort.partition Sort.ltInt d2 a b pivot).1 then
          Sort.pdq Sort.ltInt (Sort.pdq Sort.ltInt (Sort.partition Sort.ltInt d2 a b pivot).2.2 a (Sort.partition Sort.ltInt d2 a b pivot).1 l1 true true) ((Sort.partition Sort.ltInt d2 a b pivot).1 + 1) b l1 (decide ((Sort.partition Sort.ltInt d2 a b pivot).1 - a ≥ (b - a) / 8)) (Sort.partition Sort.ltInt d2 a b pivot).2.1
        else
          Sort.pdq Sort.ltInt (Sort.pdq Sort.ltInt (Sort.partition Sort.ltInt d2 a b pivot).2.2 ((Sort.partition Sort.ltInt d2 a b pivot).1 + 1) b l1 true true) a (Sort.partition Sort.ltInt d2 a b pivot).1 l1 (decide (b - (Sort.partition Sort.ltInt d2 a b pivot).1 ≥ (b - a) / 8)) (Sort.partition Sort.ltInt d2 a b pivot).2.1
      else (Sort.partition Sort.ltInt d2 a b pivot).2.2) = R)
    (hM : N + (if a ≤ (Sort.partition Sort.ltInt d2 a b pivot).1 ∧ (Sort.partition Sort.ltInt d2 a b pivot).1 < b then
        if (Sort.partition Sort.ltInt d2 a b pivot).1 - a < b - (Sort.partition Sort.ltInt d2 a b pivot).1 then
          n0 + pdqN (Sort.partition Sort.ltInt d2 a b pivot).2.2 a (Sort.partition Sort.ltInt d2 a b pivot).1 l1 true true + pdqN (Sort.pdq Sort.ltInt (Sort.partition Sort.ltInt d2 a b pivot).2.2 a (Sort.partition Sort.ltInt d2 a b pivot).1 l1 true true) ((Sort.partition Sort.ltInt d2 a b pivot).1 + 1) b l1 (decide ((Sort.partition Sort.ltInt d2 a b pivot).1 - a ≥ (b - a) / 8)) (Sort.partition Sort.ltInt d2 a b pivot).2.1
        else
          n0 + pdqN (Sort.partition Sort.ltInt d2 a b pivot).2.2 ((Sort.partition Sort.ltInt d2 a b pivot).1 + 1) b l1 true true + pdqN (Sort.pdq Sort.ltInt (Sort.partition Sort.ltInt d2 a b pivot).2.2 ((Sort.partition Sort.ltInt d2 a b pivot).1 + 1) b l1 true true) a (Sort.partition Sort.ltInt d2 a b pivot).1 l1 (decide (b - (Sort.partition Sort.ltInt d2 a b pivot).1 ≥ (b - a) / 8)) (Sort.partition Sort.ltInt d2 a b pivot).2.1
      else 0) = M)
    (Q : Ex → List AV → List AObj → Prop) (x0 x1 x2 x3 x4 x5 y0 y1 y2 z0 z1 z2 z3 : AV)
    (kfin : ∀ T', Q .ret T' (H.set id (Cd R) ++ Dd M))
    (kgo : ∀ e T' a2 b2 wb2 wp2 d5 N5, (e = .normal ∨ e = .exit 1) → b2 - a2 < b - a → a2 ≤ b2 → b2 ≤ d.size → d5.size = d.size → Sort.pdq Sort.ltInt d5 a2 b2 l1 wb2 wp2 = R → N5 + pdqN d5 a2 b2 l1 wb2 wp2 = M →
      zipKeep keep114 T' = slots 134 [(0, Da id d.size), (1, I (a2 : Nat)), (2, I (b2 : Nat)), (3, I (l1 : Nat)), (8, B wb2), (9, B wp2)] → Q e T' (H.set id (Cd d5) ++ Dd N5)) :
    wpR Go.Proofs.Try.prog ann114 114 lo none rc114_14 (slots 134 [(0, Da id d.size), (1, I a), (2, I b), (3, I l1), (8, B wb), (9, B wp), (10, I (b - a : Nat)), (11, I pivot), (12, y0), (23, x0), (29, x1), (35, x2), (39, x3), (50, x4), (54, x5), (68, y1), (72, y2), (75, z0), (80, z1), (84, z2), (87, z3)]) (H.set id (Cd d2) ++ Dd (N + n0)) Q := by
  have hH2 := dd_get H (Cd d2) (N + n0) id hid
  have hpr := Sort.partition_holds (lt := Sort.ltInt) Sort.swo_ltInt d2 a b pivot hp1 hp2 (by omega)
  obtain ⟨mid, hmid⟩ : ∃ x, x = (Sort.partition Sort.ltInt d2 a b pivot).1 := ⟨_, rfl⟩
  obtain ⟨ap, hap⟩ : ∃ x, x = (Sort.partition Sort.ltInt d2 a b pivot).2.1 := ⟨_, rfl⟩
  obtain ⟨d4, hd4⟩ : ∃ x, x = (Sort.partition Sort.ltInt d2 a b pivot).2.2 := ⟨_, rfl⟩
  rw [← hmid, ← hap, ← hd4] at hR
  rw [← hmid, ← hap, ← hd4] at hM
  rw [← hmid, ← hd4] at hpr
  have s4 : d4.size = d.size := hpr.2.2.1.1.trans s2
  rw [if_pos ⟨hpr.1, hpr.2.1⟩] at hR
  rw [if_pos ⟨hpr.1, hpr.2.1⟩] at hM
  have hm1 := hpr.1
  have hm2 := hpr.2.1
  clear hpr
  unfold rc114_14
  obtain ⟨c13, g13⟩ : ∃ c, rc114_13 = c := ⟨_, rfl⟩
  rw [g13]
  conv => whnf
  rw [← s2]
  refine ⟨_, _, call1 (part_sem hlo d2 a b pivot (by omega) (by omega) (by omega) (by omega) hH2), ?_⟩
  rw [← hmid, ← hap, ← hd4, dd_set _ _ _ _ _ hid]
  conv => whnf
  subst g13
  unfold rc114_13
  obtain ⟨c12, g12⟩ : ∃ c, rc114_12 = c := ⟨_, rfl⟩
  rw [g12]
  conv => whnf
  rw [show IntKind.i64.wrap ((mid : Int) - (a : Int)) = ((mid - a : Nat) : Int) by rw [wrapI _ (by omega) (by omega)]; omega, show IntKind.i64.wrap ((b : Int) - (mid : Int)) = ((b - mid : Nat) : Int) by rw [wrapI _ (by omega) (by omega)]; omega]
  subst g12
  unfold rc114_12
  obtain ⟨c9, g9⟩ : ∃ c, rc114_9 = c := ⟨_, rfl⟩
  obtain ⟨c11, g11⟩ : ∃ c, rc114_11 = c := ⟨_, rfl⟩
  rw [g9, g11]
  conv => whnf
  refine ⟨by decide, ?_⟩
  conv => whnf
  rw [show IntKind.i64.wrap (((b - a : Nat) : Int).tdiv 8) = (((b - a) / 8 : Nat) : Int) by rw [show ((b - a : Nat) : Int).tdiv 8 = (((b - a) / 8 : Nat) : Int) from rfl, wrapI _ (by omega) (by omega)]]
  by_cases h : ((mid - a : Nat) : Int) < ((b - mid : Nat) : Int)
  · rw [decide_eq_true h]
    rw [if_pos (by omega)] at hR
    rw [if_pos (by omega)] at hM
    conv => whnf
    subst g9
    unfold rc114_9
    obtain ⟨c8, g8⟩ : ∃ c, rc114_8 = c := ⟨_, rfl⟩
    rw [g8]
    conv => whnf
    subst g8
    unfold rc114_8
    conv => whnf
    rw [s2, ← s4]
    refine ⟨_, _, call1 (IH (mid - a) (by omega) _ id lo d4 a mid l1 (Nat.le_refl _) hlo (by omega) hm1 (by omega) hl1 (dd_get H (Cd d4) (N + n0) id hid)), ?_⟩
    rw [dd_set _ _ _ _ _ hid, dd_add]
    conv => whnf
    rw [wrapS mid (by omega)]
    have e8 : decide (((b - a) / 8 : Nat) ≤ ((mid - a : Nat) : Int)) = decide (mid - a ≥ (b - a) / 8) := by
      rw [decide_eq_decide]; omega
    have sz : (Sort.pdq Sort.ltInt d4 a mid l1 true true).size = d.size := (pdq_size _ d4 a mid l1 true true (Nat.le_refl _) hm1 (by omega) (by omega)).trans s4
    refine kgo .normal _ (mid + 1) b _ ap (Sort.pdq Sort.ltInt d4 a mid l1 true true) _ (.inl rfl) (by omega) (by omega) hb sz hR (by rw [← hM]; omega) ?_
    rw [← e8, ← s4]; rfl
  · rw [decide_eq_false h]
    rw [if_neg (by omega)] at hR
    rw [if_neg (by omega)] at hM
    conv => whnf
    subst g11
    unfold rc114_11
    obtain ⟨c10, g10⟩ : ∃ c, rc114_10 = c := ⟨_, rfl⟩
    rw [g10]
    conv => whnf
    subst g10
    unfold rc114_10
    conv => whnf
    rw [s2, ← s4, wrapS mid (by omega)]
    refine ⟨_, _, call1 (IH (b - (mid + 1)) (by omega) _ id lo d4 (mid + 1) b l1 (Nat.le_refl _) hlo (by omega) (by omega) (by omega) hl1 (dd_get H (Cd d4) (N + n0) id hid)), ?_⟩
    rw [dd_set _ _ _ _ _ hid, dd_add]
    conv => whnf
    have e8 : decide (((b - a) / 8 : Nat) ≤ ((b - mid : Nat) : Int)) = decide (b - mid ≥ (b - a) / 8) := by
      rw [decide_eq_decide]; omega
    have sz : (Sort.pdq Sort.ltInt d4 (mid + 1) b l1 true true).size = d.size := (pdq_size _ d4 (mid + 1) b l1 true true (Nat.le_refl _) (by omega) (by omega) (by omega)).trans s4
    refine kgo .normal _ a mid _ ap (Sort.pdq Sort.ltInt d4 (mid + 1) b l1 true true) _ (.inl rfl) (by omega) hm1 (by omega) sz hR (by rw [← hM]; omega) ?_
    rw [← e8, ← s4]; rfl
theorem pdq_tail2 {n : Nat} {H : List AObj} {id lo : Nat} {d d2 R : Array Int} {a b l1 n0 N M pivot : Nat} {wb wp : Bool} (hlo : lo ≤ id)
    (IH : ∀ m, m < n → ∀ (H : List AObj) (id lo : Nat) (d : Array Int) (a b limit : Nat), b - a ≤ m → lo ≤ id → d.size < 32 → a ≤ b → b ≤ d.size → limit ≤ 100 → H[id]? = some (Cd d) →
      Sem Go.Proofs.Try.prog (.fn 114) [Da id d.size, I a, I b, I limit] H lo (.tuple []) (H.set id (Cd (Sort.pdq Sort.ltInt d a b limit true true)) ++ Dd (pdqN d a b limit true true)))
    (hid : id < H.length) (hd : d.size < 32) (hn : b - a ≤ n) (hb : b ≤ d.size) (h12 : 12 < b - a) (hl1 : l1 ≤ 100) (s2 : d2.size = d.size) (hp1 : a ≤ pivot) (hp2 : pivot < b)
    (hR : (if a > 0 && !Sort.ltInt d2[a - 1]! d2[pivot]! then Sort.pdq Sort.ltInt (Sort.partitionEqual Sort.ltInt d2 a b pivot).2 (Sort.partitionEqual Sort.ltInt d2 a b pivot).1 b l1 wb wp
      else if a ≤ (Sort.partition Sort.ltInt d2 a b pivot).1 ∧ (Sort.partition Sort.ltInt d2 a b pivot).1 < b then
        if (Sort.partition Sort.ltInt d2 a b pivot).1 - a < b - (Sort.partition Sort.ltInt d2 a b pivot).1 then
          Sort.pdq Sort.ltInt (Sort.pdq Sort.ltInt (Sort.partition Sort.ltInt d2 a b pivot).2.2 a (Sort.partition Sort.ltInt d2 a b pivot).1 l1 true true) ((Sort.partition Sort.ltInt d2 a b pivot).1 + 1) b l1 (decide ((Sort.partition Sort.ltInt d2 a b pivot).1 - a ≥ (b - a) / 8)) (Sort.partition Sort.ltInt d2 a b pivot).2.1
        else
          Sort.pdq Sort.ltInt (Sort.pdq Sort.ltInt (Sort.partition Sort.ltInt d2 a b pivot).2.2 ((Sort.partition Sort.ltInt d2 a b pivot).1 + 1) b l1 true true) a (Sort.partition Sort.ltInt d2 a b pivot).1 l1 (decide (b - (Sort.partition Sort.ltInt d2 a b pivot).1 ≥ (b - a) / 8)) (Sort.partition Sort.ltInt d2 a b pivot).2.1
      else (Sort.partition Sort.ltInt d2 a b pivot).2.2) = R)
    (hM : N + (if a > 0 && !Sort.ltInt d2[a - 1]! d2[pivot]! then n0 + pdqN (Sort.partitionEqual Sort.ltInt d2 a b pivot).2 (Sort.partitionEqual Sort.ltInt d2 a b pivot).1 b l1 wb wp
      else if a ≤ (Sort.partition Sort.ltInt d2 a b pivot).1 ∧ (Sort.partition Sort.ltInt d2 a b pivot).1 < b then
        if (Sort.partition Sort.ltInt d2 a b pivot).1 - a < b - (Sort.partition Sort.ltInt d2 a b pivot).1 then
          n0 + pdqN (Sort.partition Sort.ltInt d2 a b pivot).2.2 a (Sort.partition Sort.ltInt d2 a b pivot).1 l1 true true + pdqN (Sort.pdq Sort.ltInt (Sort.partition Sort.ltInt d2 a b pivot).2.2 a (Sort.partition Sort.ltInt d2 a b pivot).1 l1 true true) ((Sort.partition Sort.ltInt d2 a b pivot).1 + 1) b l1 (decide ((Sort.partition Sort.ltInt d2 a b pivot).1 - a ≥ (b - a) / 8)) (Sort.partition Sort.ltInt d2 a b pivot).2.1
        else
          n0 + pdqN (Sort.partition Sort.ltInt d2 a b pivot).2.2 ((Sort.partition Sort.ltInt d2 a b pivot).1 + 1) b l1 true true + pdqN (Sort.pdq Sort.ltInt (Sort.partition Sort.ltInt d2 a b pivot).2.2 ((Sort.partition Sort.ltInt d2 a b pivot).1 + 1) b l1 true true) a (Sort.partition Sort.ltInt d2 a b pivot).1 l1 (decide (b - (Sort.partition Sort.ltInt d2 a b pivot).1 ≥ (b - a) / 8)) (Sort.partition Sort.ltInt d2 a b pivot).2.1
      else 0) = M)
    (Q : Ex → List AV → List AObj → Prop) (x0 x1 x2 x3 x4 x5 y0 y1 y2 : AV)
    (kfin : ∀ T', Q .ret T' (H.set id (Cd R) ++ Dd M))
    (kgo : ∀ e T' a2 b2 wb2 wp2 d5 N5, (e = .normal ∨ e = .exit 1) → b2 - a2 < b - a → a2 ≤ b2 → b2 ≤ d.size → d5.size = d.size → Sort.pdq Sort.ltInt d5 a2 b2 l1 wb2 wp2 = R → N5 + pdqN d5 a2 b2 l1 wb2 wp2 = M →
      zipKeep keep114 T' = slots 134 [(0, Da id d.size), (1, I (a2 : Nat)), (2, I (b2 : Nat)), (3, I (l1 : Nat)), (8, B wb2), (9, B wp2)] → Q e T' (H.set id (Cd d5) ++ Dd N5)) :
    wpR Go.Proofs.Try.prog ann114 114 lo none rc114_15 (slots 134 [(0, Da id d.size), (1, I a), (2, I b), (3, I l1), (8, B wb), (9, B wp), (10, I (b - a : Nat)), (11, I pivot), (12, y0), (23, x0), (29, x1), (35, x2), (39, x3), (50, x4), (54, x5), (68, y1), (72, y2)]) (H.set id (Cd d2) ++ Dd (N + n0)) Q := by
  have hH2 := dd_get H (Cd d2) (N + n0) id hid
  unfold rc114_15
  obtain ⟨c7, g7⟩ : ∃ c, rc114_7 = c := ⟨_, rfl⟩
  obtain ⟨c14, g14⟩ : ∃ c, rc114_14 = c := ⟨_, rfl⟩
  rw [g7, g14]
  conv => whnf
  by_cases h0 : (0 : Int) < (a : Int)
  · rw [decide_eq_true h0]
    conv => whnf
    rw [show IntKind.i64.wrap ((a : Int) - 1) = ((a - 1 : Nat) : Int) by rw [wrapI _ (by omega) (by omega)]; omega]
    rw [← s2]
    refine ⟨by omega, ?_⟩
    conv => whnf
    refine nthK_of (by first | exact gs _ | exact gss _ _ | assumption) ?_
    conv => whnf
    refine rdK (a - 1) (by omega) (by omega) ?_
    conv => whnf
    refine ⟨by omega, ?_⟩
    conv => whnf
    refine nthK_of (by first | exact gs _ | exact gss _ _ | assumption) ?_
    conv => whnf
    refine rdK (pivot) (by omega) (by omega) ?_
    conv => whnf
    refine ⟨by first | rfl | simp only [List.all_cons, List.all_nil, pu0, pub, pu1, pu2, pu1', pu2', pun, puf, puP, puP', puQ, puQ', Bool.and_true, Bool.and_self], _, less_ok d2[a - 1]! d2[pivot]!, acc0, ?_⟩
    conv => whnf
    by_cases h5 : d2[a - 1]! < d2[pivot]!
    · rw [decide_eq_true h5]
      conv => whnf
      rw [if_neg (by simp [Sort.ltInt, h5])] at hR
      rw [if_neg (by simp [Sort.ltInt, h5])] at hM
      subst g14
      rw [s2]
      exact pdq_tail3 hlo IH hid hd hn hb h12 hl1 s2 hp1 hp2 hR hM Q _ _ _ _ _ _ _ _ _ _ _ _ _ kfin kgo
    · rw [decide_eq_false h5]
      conv => whnf
      have hq := partitionEqual_range d2 a b pivot (by omega)
      rw [if_pos (by simp [Sort.ltInt]; omega)] at hR
      rw [if_pos (by simp [Sort.ltInt]; omega)] at hM
      subst g7
      unfold rc114_7
      conv => whnf
      refine ⟨_, _, call1 (partEq_sem hlo d2 a b pivot (by omega) (by omega) (by omega) (by omega) hH2), ?_⟩
      rw [dd_set _ _ _ _ _ hid]
      conv => whnf
      refine kgo (.exit 1) _ _ b wb wp _ _ (.inr rfl) (by omega) hq.2.1 hb (hq.2.2.trans s2) hR (by rw [← hM]; omega) ?_
      rw [s2]; rfl
  · rw [decide_eq_false h0]
    conv => whnf
    rw [if_neg (by simp; omega)] at hR
    rw [if_neg (by simp; omega)] at hM
    subst g14
    exact pdq_tail3 hlo IH hid hd hn hb h12 hl1 s2 hp1 hp2 hR hM Q _ _ _ _ _ _ _ _ _ _ _ _ _ kfin kgo
theorem pdq_tail1 {n : Nat} {H : List AObj} {id lo : Nat} {d d2 R : Array Int} {a b l1 n0 N M pivot : Nat} {wb wp fin : Bool} {hint : Sort.Hint} (hlo : lo ≤ id)
    (IH : ∀ m, m < n → ∀ (H : List AObj) (id lo : Nat) (d : Array Int) (a b limit : Nat), b - a ≤ m → lo ≤ id → d.size < 32 → a ≤ b → b ≤ d.size → limit ≤ 100 → H[id]? = some (Cd d) →
      Sem Go.Proofs.Try.prog (.fn 114) [Da id d.size, I a, I b, I limit] H lo (.tuple []) (H.set id (Cd (Sort.pdq Sort.ltInt d a b limit true true)) ++ Dd (pdqN d a b limit true true)))
    (hid : id < H.length) (hd : d.size < 32) (hn : b - a ≤ n) (hb : b ≤ d.size) (h12 : 12 < b - a) (hl1 : l1 ≤ 100) (s2 : d2.size = d.size) (hp1 : a ≤ pivot) (hp2 : pivot < b)
    (ef : fin = (wb && wp && decide (hint = .increasing) && (Sort.partialInsertionSort Sort.ltInt d2 a b).2))
    (hR : (if fin then d2 else
      if a > 0 && !Sort.ltInt d2[a - 1]! d2[pivot]! then Sort.pdq Sort.ltInt (Sort.partitionEqual Sort.ltInt d2 a b pivot).2 (Sort.partitionEqual Sort.ltInt d2 a b pivot).1 b l1 wb wp
      else if a ≤ (Sort.partition Sort.ltInt d2 a b pivot).1 ∧ (Sort.partition Sort.ltInt d2 a b pivot).1 < b then
        if (Sort.partition Sort.ltInt d2 a b pivot).1 - a < b - (Sort.partition Sort.ltInt d2 a b pivot).1 then
          Sort.pdq Sort.ltInt (Sort.pdq Sort.ltInt (Sort.partition Sort.ltInt d2 a b pivot).2.2 a (Sort.partition Sort.ltInt d2 a b pivot).1 l1 true true) ((Sort.partition Sort.ltInt d2 a b pivot).1 + 1) b l1 (decide ((Sort.partition Sort.ltInt d2 a b pivot).1 - a ≥ (b - a) / 8)) (Sort.partition Sort.ltInt d2 a b pivot).2.1
        else
          Sort.pdq Sort.ltInt (Sort.pdq Sort.ltInt (Sort.partition Sort.ltInt d2 a b pivot).2.2 ((Sort.partition Sort.ltInt d2 a b pivot).1 + 1) b l1 true true) a (Sort.partition Sort.ltInt d2 a b pivot).1 l1 (decide (b - (Sort.partition Sort.ltInt d2 a b pivot).1 ≥ (b - a) / 8)) (Sort.partition Sort.ltInt d2 a b pivot).2.1
      else (Sort.partition Sort.ltInt d2 a b pivot).2.2) = R)
    (hM : N + (if fin then n0 else
      if a > 0 && !Sort.ltInt d2[a - 1]! d2[pivot]! then n0 + pdqN (Sort.partitionEqual Sort.ltInt d2 a b pivot).2 (Sort.partitionEqual Sort.ltInt d2 a b pivot).1 b l1 wb wp
      else if a ≤ (Sort.partition Sort.ltInt d2 a b pivot).1 ∧ (Sort.partition Sort.ltInt d2 a b pivot).1 < b then
        if (Sort.partition Sort.ltInt d2 a b pivot).1 - a < b - (Sort.partition Sort.ltInt d2 a b pivot).1 then
          n0 + pdqN (Sort.partition Sort.ltInt d2 a b pivot).2.2 a (Sort.partition Sort.ltInt d2 a b pivot).1 l1 true true + pdqN (Sort.pdq Sort.ltInt (Sort.partition Sort.ltInt d2 a b pivot).2.2 a (Sort.partition Sort.ltInt d2 a b pivot).1 l1 true true) ((Sort.partition Sort.ltInt d2 a b pivot).1 + 1) b l1 (decide ((Sort.partition Sort.ltInt d2 a b pivot).1 - a ≥ (b - a) / 8)) (Sort.partition Sort.ltInt d2 a b pivot).2.1
        else
          n0 + pdqN (Sort.partition Sort.ltInt d2 a b pivot).2.2 ((Sort.partition Sort.ltInt d2 a b pivot).1 + 1) b l1 true true + pdqN (Sort.pdq Sort.ltInt (Sort.partition Sort.ltInt d2 a b pivot).2.2 ((Sort.partition Sort.ltInt d2 a b pivot).1 + 1) b l1 true true) a (Sort.partition Sort.ltInt d2 a b pivot).1 l1 (decide (b - (Sort.partition Sort.ltInt d2 a b pivot).1 ≥ (b - a) / 8)) (Sort.partition Sort.ltInt d2 a b pivot).2.1
      else 0) = M)
    (Q : Ex → List AV → List AObj → Prop) (x0 x1 x2 x3 x4 x5 : AV)
    (kfin : ∀ T', Q .ret T' (H.set id (Cd R) ++ Dd M))
    (kgo : ∀ e T' a2 b2 wb2 wp2 d5 N5, (e = .normal ∨ e = .exit 1) → b2 - a2 < b - a → a2 ≤ b2 → b2 ≤ d.size → d5.size = d.size → Sort.pdq Sort.ltInt d5 a2 b2 l1 wb2 wp2 = R → N5 + pdqN d5 a2 b2 l1 wb2 wp2 = M →
      zipKeep keep114 T' = slots 134 [(0, Da id d.size), (1, I (a2 : Nat)), (2, I (b2 : Nat)), (3, I (l1 : Nat)), (8, B wb2), (9, B wp2)] → Q e T' (H.set id (Cd d5) ++ Dd N5)) :
    wpR Go.Proofs.Try.prog ann114 114 lo none rc114_16 (slots 134 [(0, Da id d.size), (1, I a), (2, I b), (3, I l1), (8, B wb), (9, B wp), (10, I (b - a : Nat)), (11, I pivot), (12, I (hintI hint)), (23, x0), (29, x1), (35, x2), (39, x3), (50, x4), (54, x5)]) (H.set id (Cd d2) ++ Dd (N + n0)) Q := by
  have hH2 := dd_get H (Cd d2) (N + n0) id hid
  unfold rc114_16
  obtain ⟨c6, g6⟩ : ∃ c, rc114_6 = c := ⟨_, rfl⟩
  obtain ⟨c15, g15⟩ : ∃ c, rc114_15 = c := ⟨_, rfl⟩
  rw [g6, g15]
  cases wb with
  | false =>
    have hf : fin = false := by rw [ef]; rfl
    subst hf
    conv => whnf
    subst g15
    exact pdq_tail2 hlo IH hid hd hn hb h12 hl1 s2 hp1 hp2 hR hM Q _ _ _ _ _ _ _ _ _ kfin kgo
  | true =>
  cases wp with
  | false =>
    have hf : fin = false := by rw [ef]; rfl
    subst hf
    conv => whnf
    subst g15
    exact pdq_tail2 hlo IH hid hd hn hb h12 hl1 s2 hp1 hp2 hR hM Q _ _ _ _ _ _ _ _ _ kfin kgo
  | true =>
  conv => whnf
  by_cases hi : hint = .increasing
  · rw [decide_eq_true ((hint_one hint).2 hi)]
    conv => whnf
    subst g6
    unfold rc114_6
    conv => whnf
    obtain ⟨p1, p2⟩ := partial_sem (lo := lo) d2 a b (by omega) (by omega) (by omega) (by omega) hH2
    rw [← s2]
    refine ⟨_, _, call1 p1, ?_⟩
    conv => whnf
    have hf : fin = (Sort.partialInsertionSort Sort.ltInt d2 a b).2 := by rw [ef, hi]; rfl
    rw [← hf]
    cases fin with
    | true =>
      conv => whnf
      rw [if_pos rfl] at hR
      rw [if_pos rfl] at hM
      rw [hR, hM]
      exact kfin _
    | false =>
      conv => whnf
      subst g15
      rw [s2]
      exact pdq_tail2 hlo IH hid hd hn hb h12 hl1 s2 hp1 hp2 hR hM Q _ _ _ _ _ _ _ _ _ kfin kgo
  · rw [decide_eq_false fun h => hi ((hint_one hint).1 h)]
    have hf : fin = false := by rw [ef, decide_eq_false hi]; rfl
    subst hf
    conv => whnf
    subst g15
    exact pdq_tail2 hlo IH hid hd hn hb h12 hl1 s2 hp1 hp2 hR hM Q _ _ _ _ _ _ _ _ _ kfin kgo
theorem pdq_tail {n : Nat} {H : List AObj} {id lo : Nat} {d d1 d2 R : Array Int} {a b l1 n0 N M pivot : Nat} {wb wp fin : Bool} {ch : Nat × Sort.Hint} {hint : Sort.Hint} (hlo : lo ≤ id)
    (IH : ∀ m, m < n → ∀ (H : List AObj) (id lo : Nat) (d : Array Int) (a b limit : Nat), b - a ≤ m → lo ≤ id → d.size < 32 → a ≤ b → b ≤ d.size → limit ≤ 100 → H[id]? = some (Cd d) →
      Sem Go.Proofs.Try.prog (.fn 114) [Da id d.size, I a, I b, I limit] H lo (.tuple []) (H.set id (Cd (Sort.pdq Sort.ltInt d a b limit true true)) ++ Dd (pdqN d a b limit true true)))
    (hid : id < H.length) (hd : d.size < 32) (hn : b - a ≤ n) (hb : b ≤ d.size) (h12 : 12 < b - a) (hl1 : l1 ≤ 100) (hn0 : 0 < n0) (s1 : d1.size = d.size)
    (ec : ch = Sort.choosePivot Sort.ltInt d1 a b) (ed : d2 = if ch.2 = .decreasing then Sort.reverseRange d1 a b else d1)
    (ep : pivot = if ch.2 = .decreasing then (b - 1) - (ch.1 - a) else ch.1) (eh : hint = if ch.2 = .decreasing then Sort.Hint.increasing else ch.2) (ef : fin = (wb && wp && decide (hint = .increasing) && (Sort.partialInsertionSort Sort.ltInt d2 a b).2))
    (hR : (if fin then d2 else
      if a > 0 && !Sort.ltInt d2[a - 1]! d2[pivot]! then Sort.pdq Sort.ltInt (Sort.partitionEqual Sort.ltInt d2 a b pivot).2 (Sort.partitionEqual Sort.ltInt d2 a b pivot).1 b l1 wb wp
      else if a ≤ (Sort.partition Sort.ltInt d2 a b pivot).1 ∧ (Sort.partition Sort.ltInt d2 a b pivot).1 < b then
        if (Sort.partition Sort.ltInt d2 a b pivot).1 - a < b - (Sort.partition Sort.ltInt d2 a b pivot).1 then
          Sort.pdq Sort.ltInt (Sort.pdq Sort.ltInt (Sort.partition Sort.ltInt d2 a b pivot).2.2 a (Sort.partition Sort.ltInt d2 a b pivot).1 l1 true true) ((Sort.partition Sort.ltInt d2 a b pivot).1 + 1) b l1 (decide ((Sort.partition Sort.ltInt d2 a b pivot).1 - a ≥ (b - a) / 8)) (Sort.partition Sort.ltInt d2 a b pivot).2.1
        else
          Sort.pdq Sort.ltInt (Sort.pdq Sort.ltInt (Sort.partition Sort.ltInt d2 a b pivot).2.2 ((Sort.partition Sort.ltInt d2 a b pivot).1 + 1) b l1 true true) a (Sort.partition Sort.ltInt d2 a b pivot).1 l1 (decide (b - (Sort.partition Sort.ltInt d2 a b pivot).1 ≥ (b - a) / 8)) (Sort.partition Sort.ltInt d2 a b pivot).2.1
      else (Sort.partition Sort.ltInt d2 a b pivot).2.2) = R)
    (hM : N + (if fin then n0 else
      if a > 0 && !Sort.ltInt d2[a - 1]! d2[pivot]! then n0 + pdqN (Sort.partitionEqual Sort.ltInt d2 a b pivot).2 (Sort.partitionEqual Sort.ltInt d2 a b pivot).1 b l1 wb wp
      else if a ≤ (Sort.partition Sort.ltInt d2 a b pivot).1 ∧ (Sort.partition Sort.ltInt d2 a b pivot).1 < b then
        if (Sort.partition Sort.ltInt d2 a b pivot).1 - a < b - (Sort.partition Sort.ltInt d2 a b pivot).1 then
          n0 + pdqN (Sort.partition Sort.ltInt d2 a b pivot).2.2 a (Sort.partition Sort.ltInt d2 a b pivot).1 l1 true true + pdqN (Sort.pdq Sort.ltInt (Sort.partition Sort.ltInt d2 a b pivot).2.2 a (Sort.partition Sort.ltInt d2 a b pivot).1 l1 true true) ((Sort.partition Sort.ltInt d2 a b pivot).1 + 1) b l1 (decide ((Sort.partition Sort.ltInt d2 a b pivot).1 - a ≥ (b - a) / 8)) (Sort.partition Sort.ltInt d2 a b pivot).2.1
        else
          n0 + pdqN (Sort.partition Sort.ltInt d2 a b pivot).2.2 ((Sort.partition Sort.ltInt d2 a b pivot).1 + 1) b l1 true true + pdqN (Sort.pdq Sort.ltInt (Sort.partition Sort.ltInt d2 a b pivot).2.2 ((Sort.partition Sort.ltInt d2 a b pivot).1 + 1) b l1 true true) a (Sort.partition Sort.ltInt d2 a b pivot).1 l1 (decide (b - (Sort.partition Sort.ltInt d2 a b pivot).1 ≥ (b - a) / 8)) (Sort.partition Sort.ltInt d2 a b pivot).2.1
      else 0) = M)
    (Q : Ex → List AV → List AObj → Prop) (x0 x1 x2 x3 : AV)
    (kfin : ∀ T', Q .ret T' (H.set id (Cd R) ++ Dd M))
    (kgo : ∀ e T' a2 b2 wb2 wp2 d5 N5, (e = .normal ∨ e = .exit 1) → b2 - a2 < b - a → a2 ≤ b2 → b2 ≤ d.size → d5.size = d.size → Sort.pdq Sort.ltInt d5 a2 b2 l1 wb2 wp2 = R → N5 + pdqN d5 a2 b2 l1 wb2 wp2 = M →
      zipKeep keep114 T' = slots 134 [(0, Da id d.size), (1, I (a2 : Nat)), (2, I (b2 : Nat)), (3, I (l1 : Nat)), (8, B wb2), (9, B wp2)] → Q e T' (H.set id (Cd d5) ++ Dd N5)) :
    wpR Go.Proofs.Try.prog ann114 114 lo none rc114_17 (slots 134 [(0, Da id d.size), (1, I a), (2, I b), (3, I l1), (8, B wb), (9, B wp), (10, I (b - a : Nat)), (23, x0), (29, x1), (35, x2), (39, x3)]) (H.set id (Cd d1) ++ Dd (N + n0 - 1)) Q := by
  have hcr := Sort.choosePivot_holds Sort.ltInt d1 a b (by omega)
  rw [← ec] at hcr
  have hH1 := dd_get H (Cd d1) (N + n0 - 1) id hid
  unfold rc114_17
  obtain ⟨c5, g5⟩ : ∃ c, rc114_5 = c := ⟨_, rfl⟩
  obtain ⟨c16, g16⟩ : ∃ c, rc114_16 = c := ⟨_, rfl⟩
  rw [g5, g16]
  conv => whnf
  rw [← s1]
  refine ⟨_, _, call1 (pivot_sem d1 a b hlo (by omega) (by omega) (by omega) (by omega) (by simp; omega) hH1), ?_⟩
  rw [← ec, dd_one]
  conv => whnf
  by_cases hd2 : ch.2 = .decreasing
  · rw [decide_eq_true ((hint_two ch.2).2 hd2)]
    conv => whnf
    rw [if_pos hd2] at ed
    rw [if_pos hd2] at ep
    rw [if_pos hd2] at eh
    have s2 : d2.size = d.size := by rw [ed, rev_size _ _ _ (by omega) (by omega)]; exact s1
    subst g5
    unfold rc114_5
    obtain ⟨c4, g4⟩ : ∃ c, rc114_4 = c := ⟨_, rfl⟩
    rw [g4]
    conv => whnf
    refine ⟨_, _, call1 (revRange_sem hlo d1 a b (by omega) (by omega) (by omega) (dd_get H (Cd d1) _ id hid)), ?_⟩
    rw [dd_set _ _ _ _ _ hid, ← ed]
    conv => whnf
    subst g4
    unfold rc114_4
    conv => whnf
    rw [show IntKind.i64.wrap (IntKind.i64.wrap ((b : Int) - 1) - IntKind.i64.wrap ((ch.1 : Int) - (a : Int))) = (pivot : Int) by rw [wrapI ((b : Int) - 1) (by omega) (by omega), wrapI ((ch.1 : Int) - (a : Int)) (by omega) (by omega), wrapI _ (by omega) (by omega), ep]; omega]
    subst g16
    rw [s1, show N + n0 - 1 + 1 = N + n0 by omega]
    rw [show (AV.int .i64 1) = I (hintI hint) by rw [eh]; rfl]
    exact pdq_tail1 hlo IH hid hd hn hb h12 hl1 s2 (by omega) (by omega) ef hR hM Q _ _ _ _ _ _ kfin kgo
  · rw [decide_eq_false fun h => hd2 ((hint_two ch.2).1 h)]
    conv => whnf
    rw [if_neg hd2] at ed
    rw [if_neg hd2] at ep
    rw [if_neg hd2] at eh
    subst ed ep eh
    subst g16
    rw [s1, show N + n0 - 1 + 1 = N + n0 by omega]
    exact pdq_tail1 hlo IH hid hd hn hb h12 hl1 s1 hcr.1 hcr.2 ef hR hM Q _ _ _ _ _ _ kfin kgo
theorem pdq_sem : ∀ (n : Nat) (H : List AObj) (id lo : Nat) (d : Array Int) (a b limit : Nat), b - a ≤ n → lo ≤ id → d.size < 32 → a ≤ b → b ≤ d.size → limit ≤ 100 → H[id]? = some (Cd d) →
    Sem Go.Proofs.Try.prog (.fn 114) [Da id d.size, I a, I b, I limit] H lo (.tuple []) (H.set id (Cd (Sort.pdq Sort.ltInt d a b limit true true)) ++ Dd (pdqN d a b limit true true)) := by
  intro n
  induction n using Nat.strongRecOn with
  | _ n IH =>
  intro H id lo d a b limit hn hlo hd ha hb hlim hH
  have hid := (List.getElem?_eq_some_iff.1 hH).1
  refine fn_semQ hmix lk114 rfl ⟨by simp, fun j h1 h2 => by rw [List.getElem?_append_left (by simp; omega), List.getElem?_set_ne (by omega)]⟩ fun Q hQ => ?_
  unfold rc114
  obtain ⟨c19, g19⟩ : ∃ c, rc114_19 = c := ⟨_, rfl⟩
  rw [g19]
  conv => whnf
  have hB : B true = .bool true := rfl
  generalize hR : Sort.pdq Sort.ltInt d a b limit true true = R at hQ
  generalize hM : pdqN d a b limit true true = M at hQ
  refine .intro (fun m T H' => ∃ a' b' l' wb wp d' N, m = b' - a' ∧ m ≤ n ∧ a' ≤ b' ∧ b' ≤ d.size ∧ l' ≤ 100 ∧ d'.size = d.size ∧ Sort.pdq Sort.ltInt d' a' b' l' wb wp = R ∧ N + pdqN d' a' b' l' wb wp = M ∧ T = slots 134 [(0, Da id d.size), (1, I a'), (2, I b'), (3, I l'), (8, B wb), (9, B wp)] ∧ H' = H.set id (Cd d') ++ Dd N) (b - a) ⟨a, b, limit, true, true, d, 0, rfl, hn, ha, hb, hlim, rfl, hR, by rw [Nat.zero_add]; exact hM, rfl, ?_⟩ ?_
  · obtain ⟨h1, h2⟩ := List.getElem?_eq_some_iff.1 hH
    rw [← h2, List.set_getElem_self]; simp
  clear hR hM
  rintro m T H' ⟨a', b', l', wb, wp, d', N, hm, hmn, ha', hb', hl', hds, hR, hM, rfl, rfl⟩
  subst g19
  unfold rc114_19
  obtain ⟨c1, g1⟩ : ∃ c, rc114_1 = c := ⟨_, rfl⟩
  obtain ⟨c18, g18⟩ : ∃ c, rc114_18 = c := ⟨_, rfl⟩
  rw [g1, g18]
  conv => whnf
  rw [show IntKind.i64.wrap ((b' : Int) - (a' : Int)) = ((b' - a' : Nat) : Int) by rw [wrapI _ (by omega) (by omega)]; omega]
  have hH' := dd_get H (Cd d') N id hid
  by_cases h12 : ((b' - a' : Nat) : Int) ≤ 12
  · rw [decide_eq_true h12]
    conv => whnf
    subst g1
    unfold rc114_1
    conv => whnf
    rw [← hds]
    refine ⟨_, _, call1 (insertion_sem hlo d' a' b' (by omega) ha' (by omega) hH'), ?_⟩
    conv => whnf
    rw [dd_set _ _ _ _ _ hid]
    rw [Sort.pdq, if_pos (by omega)] at hR
    rw [pdqN, if_pos (by omega)] at hM
    refine hQ _ _ _ ⟨.inr rfl, ?_, rfl⟩
    rw [← hR, ← hM]
    exact ⟨rfl, fun j o hj => .inr hj⟩
  rw [decide_eq_false h12]
  conv => whnf
  subst g18
  unfold rc114_18
  obtain ⟨c2, g2⟩ : ∃ c, rc114_2 = c := ⟨_, rfl⟩
  obtain ⟨c3, g3⟩ : ∃ c, rc114_3 = c := ⟨_, rfl⟩
  obtain ⟨c17, g17⟩ : ∃ c, rc114_17 = c := ⟨_, rfl⟩
  rw [g2, g3, g17]
  conv => whnf
  by_cases h0 : ((l' : Nat) : Int) = 0
  · rw [decide_eq_true h0]
    conv => whnf
    subst g2
    unfold rc114_2
    conv => whnf
    rw [← hds]
    refine ⟨_, _, call1 (heap_sem hlo d' a' b' (by omega) ha' (by omega) hH'), ?_⟩
    conv => whnf
    rw [dd_set _ _ _ _ _ hid]
    rw [Sort.pdq, if_neg (by omega), if_pos (by omega)] at hR
    rw [pdqN, if_neg (by omega), if_pos (by omega)] at hM
    refine hQ _ _ _ ⟨.inr rfl, ?_, rfl⟩
    rw [← hR, ← hM]
    exact ⟨rfl, fun j o hj => .inr hj⟩
  rw [decide_eq_false h0]
  conv => whnf
  obtain ⟨d1, e1⟩ : ∃ x, x = if !wb then Sort.breakPatterns d' a' b' else d' := ⟨_, rfl⟩
  obtain ⟨l1, e2⟩ : ∃ x, x = if !wb then l' - 1 else l' := ⟨_, rfl⟩
  obtain ⟨n1, en⟩ : ∃ x, x = if !wb then 2 else 1 := ⟨_, rfl⟩
  obtain ⟨ch, ec⟩ : ∃ x, x = Sort.choosePivot Sort.ltInt d1 a' b' := ⟨_, rfl⟩
  obtain ⟨d2, ed⟩ : ∃ x, x = if ch.2 = .decreasing then Sort.reverseRange d1 a' b' else d1 := ⟨_, rfl⟩
  obtain ⟨pivot, ep⟩ : ∃ x, x = if ch.2 = .decreasing then (b' - 1) - (ch.1 - a') else ch.1 := ⟨_, rfl⟩
  obtain ⟨hint, eh⟩ : ∃ x, x = if ch.2 = .decreasing then Sort.Hint.increasing else ch.2 := ⟨_, rfl⟩
  obtain ⟨fin, ef⟩ : ∃ x, x = (wb && wp && decide (hint = .increasing) && (Sort.partialInsertionSort Sort.ltInt d2 a' b').2) := ⟨_, rfl⟩
  obtain ⟨q1, q2⟩ := pdq_round (wb := wb) (wp := wp) (show ¬ b' - a' ≤ 12 by omega) (show ¬ l' = 0 by omega) (by omega) e1 e2 en ec ed ep eh ef
  rw [q1] at hR
  rw [q2] at hM
  clear q1 q2
  have s1 : d1.size = d.size := by
    rw [e1]; split
    · rw [brk_psize _ _ _ ha' (by omega)]; exact hds
    · exact hds
  have hl1 : l1 ≤ 100 := by rw [e2]; split <;> omega
  have hcr := Sort.choosePivot_holds Sort.ltInt d1 a' b' (by omega)
  rw [← ec] at hcr
  -- the patterns are broken, or not
  have fin_ : ∀ T', Q .ret T' (H.set id (Cd R) ++ Dd M) := fun T' => hQ _ _ _ ⟨.inr rfl, ⟨rfl, fun j o hj => .inr hj⟩, rfl⟩
  cases wb with
  | true =>
    have hd1 : d1 = d' := by rw [e1]; rfl
    have hl : l1 = l' := by rw [e2]; rfl
    have hn1 : n1 = 1 := by rw [en]; rfl
    rw [← hl, ← hd1]
    conv => whnf
    subst g17
    refine pdq_tail (N := N) (n0 := 1) hlo IH hid hd (by omega) hb' (by omega) hl1 (by omega) s1 ec ed ep eh ef hR (by rw [hn1] at hM; exact hM) _ _ _ _ _ fin_ fun e T' a2 b2 wb2 wp2 d5 N5 he k1 k2 k3 k4 k5 k6 hz => ?_
    rcases he with rfl | rfl
    all_goals (
      conv => whnf
      rw [keepK_eq]
      refine ⟨b2 - a2, by omega, a2, b2, l1, wb2, wp2, d5, N5, rfl, by omega, k2, k3, hl1, k4, k5, k6, hz, rfl⟩
    )
  | false =>
    have hd1 : d1 = Sort.breakPatterns d' a' b' := by rw [e1]; rfl
    have hl : l1 = l' - 1 := by rw [e2]; rfl
    have hn1 : n1 = 2 := by rw [en]; rfl
    conv => whnf
    subst g3
    unfold rc114_3
    conv => whnf
    rw [← hds]
    refine ⟨_, _, call1 (break_sem id hlo d' a' b' (by omega) ha' (by omega) (by omega) hH'), ?_⟩
    rw [if_pos (by omega), dd_set _ _ _ _ _ hid, dd_one, ← hd1]
    conv => whnf
    rw [show IntKind.i64.wrap ((l' : Int) - 1) = (l1 : Int) by rw [wrapI _ (by omega) (by omega), hl]; omega, hds]
    subst g17
    refine pdq_tail (N := N) (n0 := 2) hlo IH hid hd (by omega) hb' (by omega) hl1 (by omega) s1 ec ed ep eh ef hR (by rw [hn1] at hM; exact hM) _ _ _ _ _ fin_ fun e T' a2 b2 wb2 wp2 d5 N5 he k1 k2 k3 k4 k5 k6 hz => ?_
    rcases he with rfl | rfl
    all_goals (
      conv => whnf
      rw [keepK_eq]
      refine ⟨b2 - a2, by omega, a2, b2, l1, wb2, wp2, d5, N5, rfl, by omega, k2, k3, hl1, k4, k5, k6, hz, rfl⟩
    )
end Go.Proofs.Ytlcebaejlnpdeaa.Ab

/-
  Contracts: slices' Sort, of fewer than 32.
-/
namespace Go.Proofs.Ytlcebaejlnpdeaa.Ab
open Go
set_option maxRecDepth 20000
set_option maxHeartbeats 4000000
section
variable {H : List AObj} {id lo : Nat}
theorem sort_sem (hlo : lo ≤ id) (d : Array Int) (hd : d.size < 32) (hH : H[id]? = some (Cd d)) :
    Sem Go.Proofs.Try.prog (.fn 104) [Da id d.size] H lo (.tuple []) (H.set id (Cd (Sort.sort Sort.ltInt d)) ++ Dd (pdqN d 0 d.size (Sort.bitsLen d.size) true true)) := by
  have hid := (List.getElem?_eq_some_iff.1 hH).1
  refine fn_semQ hmix lk104 rfl ⟨by simp, fun j h1 h2 => by rw [List.getElem?_append_left (by simp; omega), List.getElem?_set_ne (by omega)]⟩ fun Q hQ => ?_
  unfold rc104
  conv => whnf
  rw [show IntKind.u64.wrap (d.size : Int) = (d.size : Int) by rw [wrapU]; omega]
  refine ⟨by first | rfl | simp only [List.all_cons, List.all_nil, pu0, pub, pu1, pu2, pu1', pu2', pun, puf, puP, puP', puQ, puQ', Bool.and_true, Bool.and_self], _, bitsLen_ok d.size hd, ?_⟩
  conv => whnf
  have := bitsLen_le d.size hd
  refine ⟨_, _, call1 (pdq_sem _ H id lo d 0 d.size (Sort.bitsLen d.size) (Nat.le_refl _) hlo hd (Nat.zero_le _) (Nat.le_refl _) (by omega) hH), ?_⟩
  conv => whnf
  exact hQ _ _ _ ⟨.inl rfl, ⟨rfl, fun j o hj => .inr hj⟩, rfl⟩
theorem ins0_sem (c : Cap) : Sem Go.Proofs.Try.prog (.fn 116) [.lst [] 0 c, I 0, I 0] H lo (.tuple []) H := by
  refine fn_semQ hmix lk116 rfl ⟨Nat.le_refl _, fun j h1 h2 => rfl⟩ fun Q hQ => ?_
  unfold rc116
  conv => whnf
  refine .intro (fun m T H' => T = slots 49 [(0, .lst [] 0 c), (1, I 0), (2, I 0), (6, I 1)] ∧ H = H') 0 ⟨rfl, rfl⟩ ?_
  rintro m T H' ⟨rfl, rfl⟩
  conv => whnf
  exact hQ _ _ _ ⟨.inl rfl, ⟨rfl, fun j o hj => .inr hj⟩, rfl⟩
theorem pdq0_sem (c : Cap) : Sem Go.Proofs.Try.prog (.fn 114) [.lst [] 0 c, I 0, I 0, I 0] H lo (.tuple []) H := by
  refine fn_semQ hmix lk114 rfl ⟨Nat.le_refl _, fun j h1 h2 => rfl⟩ fun Q hQ => ?_
  unfold rc114
  obtain ⟨c19, g19⟩ : ∃ c, rc114_19 = c := ⟨_, rfl⟩
  rw [g19]
  conv => whnf
  refine .intro (fun m T H' => T = slots 134 [(0, .lst [] 0 c), (1, I 0), (2, I 0), (3, I 0), (8, B true), (9, B true)] ∧ H = H') 0 ⟨rfl, rfl⟩ ?_
  rintro m T H' ⟨rfl, rfl⟩
  subst g19
  unfold rc114_19
  obtain ⟨c1, g1⟩ : ∃ c, rc114_1 = c := ⟨_, rfl⟩
  obtain ⟨c18, g18⟩ : ∃ c, rc114_18 = c := ⟨_, rfl⟩
  rw [g1, g18]
  conv => whnf
  subst g1
  unfold rc114_1
  conv => whnf
  cases c
  all_goals (
    conv => whnf
    refine ⟨_, _, call1 (ins0_sem _), ?_⟩
    conv => whnf
    exact hQ _ _ _ ⟨.inr rfl, ⟨rfl, fun j o hj => .inr hj⟩, rfl⟩
  )
theorem sort0_sem (c : Cap) : Sem Go.Proofs.Try.prog (.fn 104) [.lst [] 0 c] H lo (.tuple []) H := by
  refine fn_semQ hmix lk104 rfl ⟨Nat.le_refl _, fun j h1 h2 => rfl⟩ fun Q hQ => ?_
  unfold rc104
  conv => whnf
  cases c
  all_goals (
    conv => whnf
    refine ⟨by rfl, _, bitsLen_ok 0 (by decide), ?_⟩
    conv => whnf
    refine ⟨_, _, call1 (pdq0_sem _), ?_⟩
    conv => whnf
    exact hQ _ _ _ ⟨.inl rfl, ⟨rfl, fun j o hj => .inr hj⟩, rfl⟩
  )
end
end Go.Proofs.Ytlcebaejlnpdeaa.Ab

/- MADE BY PROGRAM (rc.py): functions, looked up. -/
namespace Go.Proofs.Ytlcebaejlnpdeaa.Ab
open Go
noncomputable def rc105s_1 : RC :=
  .seq (.reg false [I_ 45 [.sl 0] .mv, I_ 46 [.sl 3] .mv, I_ 47 [.sl 4] .mv, I_ 48 [.sl 5] .mv, I_ 49 [.tv 47, .tv 48] (.ia 1), I_ 50 [.tv 49] (.ld .one), I_ 51 [.tv 45, .tv 46] (.ia 1), ⟨none, [.tk 51, .tk 50], none, none, .st
  1⟩]) (.reg false [I_ 52 [.tk 3] .mv, I_ 53 [.tv 52, .cv (.int .i64 1)] (.bin .add), I_ 3 [.tk 53] .mv])
noncomputable def rc105s_2 : RC :=
  .block 3 (.seq (.reg true [I_ 35 [.sl 4] .mv, I_ 36 [.sl 5] .mv, I_ 37 [.tv 35, .tv 36] (.ia 1), I_ 38 [.tv 37] (.ld .one), I_ 39 [.sl 4] .mv, I_ 40 [.sl 5] .mv, I_ 41 [.tv 40, .cv (.int .i64 1)] (.bin .sub), I_ 42 [.tv 39, .tv
  41] (.ia 1), I_ 43 [.tv 42] (.ld .one), I_ 44 [.tv 38, .tv 43] (.bin .neq)]) (.cond (.sl 44) rc105s_1 .skip))
noncomputable def rc105s_3 : RC :=
  .seq (.seq (.reg false [I_ 29 [.sl 5] .mv, I_ 30 [.sl 4] .mv, I_ 31 [.tk 30] .lenS, I_ 32 [.tv 29, .tv 31] (.bin .lss)]) (.cond (.sl 32) .skip (.exit 2))) (.seq rc105s_2 (.reg false [I_ 33 [.tk 5] .mv, I_ 34 [.tv 33, .cv (.int
  .i64 1)] (.bin .add), I_ 5 [.tk 34] .mv]))
noncomputable def rc105s_4 : RC :=
  .seq (.reg false [I_ 57 [.tk 0] .mv, I_ 58 [.tk 3] .mv, I_ 59 [.tk 57, .tk 58] (.slS 1 false true false), I_ 2 [.tk 59] .mv]) .ret
noncomputable def rc105s_5 : RC :=
  .seq (.reg false [I_ 54 [.sl 0] .mv, I_ 55 [.sl 3] .mv, I_ 56 [.tk 54, .tk 55] (.slS 1 true false false), ⟨none, [.tk 56], none, none, .other (Oper.mk none (Op.call (Call.mk (Callee.builtin Builtin.clear) (Array.mk [Operand.tmp
  56]) (Array.mk [37]))) 0 "slices.go:385" (Array.mk [Edge.mk 2 Ground.data]) none) 0⟩]) rc105s_4
noncomputable def rc105s_6 : RC :=
  .seq (.reg false [I_ 26 [.sl 0] .mv, I_ 27 [.sl 3] .mv, I_ 28 [.tk 26, .tk 27] (.slS 1 true false false), I_ 4 [.tk 28] .mv]) (.seq (.seq (.reg false [I_ 5 [.cv (.int .i64 1)] .mv]) (.block 2 (.loop (some [true, false, false,
  true, true, true, false, false, false, false, false, false, false, false, false, false, false, false, false, false, false, false, false, false, false, false, false, false, false, false, false, false, false, false, false, false,
  false, false, false, false, false, false, false, false, false, false, false, false, false, false, false, false, false, false, false, false, false, false, false, false, false]) rc105s_3))) rc105s_5)
noncomputable def rc105s_7 : RC :=
  .block 1 (.seq (.reg true [I_ 16 [.sl 0] .mv, I_ 17 [.sl 3] .mv, I_ 18 [.tv 16, .tv 17] (.ia 1), I_ 19 [.tv 18] (.ld .one), I_ 20 [.sl 0] .mv, I_ 21 [.sl 3] .mv, I_ 22 [.tv 21, .cv (.int .i64 1)] (.bin .sub), I_ 23 [.tv 20, .tv
  22] (.ia 1), I_ 24 [.tv 23] (.ld .one), I_ 25 [.tv 19, .tv 24] (.bin .eql)]) (.cond (.sl 25) rc105s_6 .skip))
noncomputable def rc105s_8 : RC :=
  .seq (.seq (.reg false [I_ 10 [.sl 3] .mv, I_ 11 [.sl 0] .mv, I_ 12 [.tk 11] .lenS, I_ 13 [.tv 10, .tv 12] (.bin .lss)]) (.cond (.sl 13) .skip (.exit 0))) (.seq rc105s_7 (.reg false [I_ 14 [.tk 3] .mv, I_ 15 [.tv 14, .cv (.int
  .i64 1)] (.bin .add), I_ 3 [.tk 15] .mv]))
noncomputable def rc105s_9 : RC :=
  .seq (.seq (.reg false [I_ 6 [.sl 0] .mv, I_ 7 [.tk 6] .lenS, I_ 8 [.tv 7, .cv (.int .i64 2)] (.bin .lss)]) (.cond (.sl 8) (.seq (.reg false [I_ 9 [.tk 0] .mv, I_ 2 [.tk 9] .mv]) .ret) .skip)) (.seq (.seq (.reg false [I_ 3 [.cv
  (.int .i64 1)] .mv]) (.block 0 (.loop (some [true, false, false, true, false, false, false, false, false, false, false, false, false, false, false, false, false, false, false, false, false, false, false, false, false, false,
  false, false, false, false, false, false, false, false, false, false, false, false, false, false, false, false, false, false, false, false, false, false, false, false, false, false, false, false, false, false, false, false,
  false, false, false]) rc105s_8))) (.seq (.reg false [I_ 60 [.tk 0] .mv, I_ 2 [.tk 60] .mv]) .ret))
noncomputable def rc105s : RC :=
  .seq (.reg false [I_ 2 [.cv (.lst [] 0 .full)] (.nil 1)]) rc105s_9
theorem lk105s : linkF Go.Proofs.Try.prog ann105 105 = some (rc105s, 61, [.tmp 2]) := by kernel_rfl
noncomputable def rc88s_1 : RC :=
  .seq (.reg false [I_ 30 [.sl 0] .mv, I_ 31 [.sl 5] .mv, I_ 32 [.tk 7] .mv, I_ 33 [.tv 30, .tv 31] (.ia 1), ⟨none, [.tk 33, .tk 32], none, none, .st 1⟩]) (.reg false [I_ 34 [.tk 5] .mv, I_ 35 [.tv 34, .cv (.int .i64 1)] (.bin
  .add), I_ 5 [.tk 35] .mv])
noncomputable def rc88s_2 : RC :=
  .seq (.reg false [I_ 26 [.sl 1] .mv, I_ 27 [.sl 7] .mv, I_ 28 [.sl 26, .sl 27] (.call 6), I_ 29 [.tv 28] (.un .not)]) (.cond (.sl 29) rc88s_1 .skip)
noncomputable def rc88s_3 : RC :=
  .block 1 (.seq (.reg false [I_ 22 [.sl 0] .mv, I_ 23 [.sl 6] .mv, I_ 24 [.tv 22, .tv 23] (.ia 1), I_ 25 [.tv 24] (.ld .one), I_ 7 [.tk 25] .mv]) rc88s_2)
noncomputable def rc88s_4 : RC :=
  .seq (.seq (.reg false [I_ 16 [.sl 6] .mv, I_ 17 [.sl 0] .mv, I_ 18 [.tk 17] .lenS, I_ 19 [.tv 16, .tv 18] (.bin .lss)]) (.cond (.sl 19) .skip (.exit 0))) (.seq rc88s_3 (.reg false [I_ 20 [.tk 6] .mv, I_ 21 [.tv 20, .cv (.int .i64
  1)] (.bin .add), I_ 6 [.tk 21] .mv]))
noncomputable def rc88s_5 : RC :=
  .seq (.reg false [I_ 39 [.tk 0] .mv, I_ 40 [.tk 5] .mv, I_ 41 [.tk 39, .tk 40] (.slS 1 false true false), I_ 4 [.tk 41] .mv]) .ret
noncomputable def rc88s_6 : RC :=
  .seq (.reg false [I_ 36 [.sl 0] .mv, I_ 37 [.sl 5] .mv, I_ 38 [.tk 36, .tk 37] (.slS 1 true false false), ⟨none, [.tk 38], none, none, .other (Oper.mk none (Op.call (Call.mk (Callee.builtin Builtin.clear) (Array.mk [Operand.tmp
  38]) (Array.mk [37]))) 0 "slices.go:253" (Array.mk [Edge.mk 2 Ground.data]) none) 0⟩]) rc88s_5
noncomputable def rc88s_7 : RC :=
  .seq (.seq (.reg false [I_ 11 [.sl 5] .mv, I_ 12 [.tv 11, .cv (.int .i64 (-1))] (.bin .eql)]) (.cond (.sl 12) (.seq (.reg false [I_ 13 [.tk 0] .mv, I_ 4 [.tk 13] .mv]) .ret) .skip)) (.seq (.seq (.reg false [I_ 14 [.sl 5] .mv, I_
  15 [.tv 14, .cv (.int .i64 1)] (.bin .add), I_ 6 [.tk 15] .mv]) (.block 0 (.loop (some [true, true, false, false, false, true, true, false, false, false, false, false, false, false, false, false, false, false, false, false,
  false, false, false, false, false, false, false, false, false, false, false, false, false, false, false, false, false, false, false, false, false, false]) rc88s_4))) rc88s_6)
noncomputable def rc88s_8 : RC :=
  .seq (.reg false [I_ 8 [.sl 0] .mv, I_ 9 [.sl 1] .mv, I_ 10 [.cv (.func 110 [] []), .sl 8, .sl 9] (.call 6), I_ 5 [.tk 10] .mv]) rc88s_7
noncomputable def rc88s : RC :=
  .seq (.reg false [I_ 4 [.cv (.lst [] 0 .full)] (.nil 1)]) rc88s_8
theorem lk88s : linkF Go.Proofs.Try.prog ann88 88 = some (rc88s, 42, [.tmp 4]) := by kernel_rfl
noncomputable def rc83s_1 : RC :=
  .reg false [I_ 34 [.tk 8] .mv, I_ 35 [.tk 10] .mv, I_ 36 [.sl 7] .mv, I_ 37 [.tk 9] .mv, I_ 38 [.tv 36, .tv 37] (.bin .shr), I_ 39 [.tv 38, .cv (.int .i64 1)] (.bin .and), I_ 40 [.tv 35, .tv 39] (.bin .mul), I_ 41 [.tv 34, .tv
  40] (.bin .add), I_ 8 [.tk 41] .mv]
noncomputable def rc83s_2 : RC :=
  .block 3 (.seq (.reg false [I_ 31 [.sl 29] .mv, I_ 32 [.sl 27, .sl 29] (.ia 1), I_ 33 [.tv 32] (.ld .one), I_ 9 [.tk 31] .mv, I_ 10 [.tk 33] .mv]) rc83s_1)
noncomputable def rc83s_3 : RC :=
  .reg false [I_ 43 [.tk 5] .mv, I_ 44 [.tk 8] .mv, I_ 45 [.tv 44] (.buildS 1 1 [.int .i64 0] [0]), I_ 46 [.tk 43, .tk 45] (.app 1 8), I_ 5 [.tk 46] .mv]
noncomputable def rc83s_4 : RC :=
  .seq (.seq (.reg false [I_ 27 [.sl 6] .mv, I_ 28 [.sl 27] .lenS, I_ 29 [.cv (.int .i64 0)] .mv]) (.block 2 (.loop (some [false, false, false, false, false, true, true, true, true, false, false, false, false, false, false, false,
  false, false, false, false, false, false, false, false, false, false, false, true, true, true, false, false, false, false, false, false, false, false, false, false, false, false, false, false, false, false, false, false, false,
  false, false]) (.seq (.reg false [I_ 30 [.sl 29, .sl 28] (.bin .lss)]) (.seq (.cond (.sl 30) .skip (.exit 2)) (.seq rc83s_2 (.reg false [I_ 42 [.tv 29, .cv (.int .i64 1)] (.bin .add), I_ 29 [.tk 42] .mv]))))))) rc83s_3
noncomputable def rc83s_5 : RC :=
  .block 1 (.seq (.reg false [I_ 8 [.cv (.int .i64 0)] .mv]) rc83s_4)
noncomputable def rc83s_6 : RC :=
  .seq (.seq (.reg false [I_ 19 [.sl 7] .mv, I_ 20 [.sl 6] .mv, I_ 21 [.tk 20] .lenS, I_ 22 [.cv (.int .i64 1), .tv 21] (.bin .shl), I_ 23 [.tv 22, .cv (.int .i64 1)] (.bin .sub), I_ 24 [.tv 19, .tv 23] (.bin .lss)]) (.cond (.sl
  24) .skip (.exit 0))) (.seq rc83s_5 (.reg false [I_ 25 [.tk 7] .mv, I_ 26 [.tv 25, .cv (.int .i64 1)] (.bin .add), I_ 7 [.tk 26] .mv]))
noncomputable def rc83s_7 : RC :=
  .seq (.reg false [⟨some 47, [.tk 5], none, some 5, .thaw⟩, I_ 48 [.cv (.func 104 [] []), .tk 47] (.call 1)]) (.seq (.reg false [I_ 49 [.tk 5] .mv, I_ 50 [.cv (.func 105 [] []), .tk 49] (.call 1), I_ 4 [.tk 50] .mv]) .ret)
noncomputable def rc83s_8 : RC :=
  .seq (.reg false [I_ 11 [.tk 0] .mv, I_ 12 [.tv 11] .nilc, I_ 13 [.tv 12] (.fa 0), I_ 14 [.tv 13] (.fa 0), I_ 15 [.tv 14] (.ld .one), I_ 16 [.tk 1] .mv, I_ 17 [.tv 15, .tv 16] (.ia 1), I_ 18 [.tv 17] (.ld .one), I_ 6 [.tk 18]
  .mv]) (.seq (.seq (.reg false [I_ 7 [.cv (.int .i64 1)] .mv]) (.block 0 (.loop (some [false, false, false, false, false, true, true, true, false, false, false, false, false, false, false, false, false, false, false, false,
  false, false, false, false, false, false, false, false, false, false, false, false, false, false, false, false, false, false, false, false, false, false, false, false, false, false, false, false, false, false, false]) rc83s_6)))
  rc83s_7)
noncomputable def rc83s : RC :=
  .seq (.reg false [I_ 4 [.cv (.lst [] 0 .full)] (.nil 1)]) (.seq (.reg false [I_ 5 [.cv (.lst [] 0 .full)] (.nil 1)]) rc83s_8)
theorem lk83s : linkF Go.Proofs.Try.prog ann83 83 = some (rc83s, 51, [.tmp 4]) := by kernel_rfl
end Go.Proofs.Ytlcebaejlnpdeaa.Ab

/-
  Contracts: slices' Compact.
-/
namespace Go.Proofs.Ytlcebaejlnpdeaa.Ab
open Go
set_option maxRecDepth 20000
set_option maxHeartbeats 4000000
/-- What is to hold behind some code is a word alone (the kernel is spared it). -/
theorem wpG {P : Program} {A : FAnn} {fn : FuncId} {lo : Nat} {rl : Option Nat} {c : RC} {T : List AV} {H : List AObj} {K : Ex → List AV → List AObj → Prop} (h : ∀ K' : Ex → List AV → List AObj → Prop, (∀ e T H, K e T H → K' e T H) → wpR P A fn lo rl c T H K') : wpR P A fn lo rl c T H K := h K fun _ _ _ h => h
/-- Of equal ones side by side the first. -/
def cmpA (l : List Int) : Nat → List Int
  | 0 => []
  | k + 1 => if 0 < k ∧ l.getD k 0 = l.getD (k - 1) 0 then cmpA l k else cmpA l k ++ [l.getD k 0]
theorem cmpA_le (l : List Int) : ∀ k, (cmpA l k).length ≤ k
  | 0 => Nat.le_refl _
  | k + 1 => by
    have := cmpA_le l k
    simp only [cmpA]; split
    · omega
    · simp; omega
theorem clear1 (lo id off len : Nat) (H : List AObj) (l : List AV) (hlo : lo ≤ id) (hH : H[id]? = some (.cells l)) (h : off + len = l.length) :
    opClear Go.Proofs.Try.prog lo #[37] H [.ref id off len none 1] = some (.tuple [], H.set id (.cells (l.take off ++ List.replicate len (I 0)))) := by
  have e1 : ((#[37] : Array TypeId)[0]?).bind Go.Proofs.Try.prog.underlying = some (.slice 2) := by kernel_rfl
  have e2 : szOf Go.Proofs.Try.prog 2 = some 1 := by kernel_rfl
  have e3 : zeroCells Go.Proofs.Try.prog 2 = some [.int .i64 0] := by kernel_rfl
  have e4 : setCells off (repl len [AV.int .i64 0]) l = l.take off ++ List.replicate len (I 0) := by
    apply List.ext_getElem?
    intro j
    rw [setCells_get _ _ _ _ (by rw [repl_len]; simp; omega), repl_len, repl1]
    by_cases hj : j < off
    · rw [if_neg (by omega), List.getElem?_append_left (by simp; omega), List.getElem?_take_of_lt hj]
    · rw [List.getElem?_append_right (by simp; omega)]
      simp only [List.length_take, List.length_singleton, Nat.mul_one]
      by_cases hj2 : j < off + len
      · rw [if_pos ⟨by omega, hj2⟩, List.getElem?_replicate, List.getElem?_replicate, if_pos (by omega), if_pos (by omega)]
      · rw [if_neg (by omega), List.getElem?_eq_none (by omega), List.getElem?_replicate, if_neg (by omega)]
  unfold opClear
  simp only [e1, e2, e3, mutObj, hH, Option.map_some, if_pos hlo]
  rw [if_pos ⟨trivial, rfl, by decide⟩, if_pos (by omega), e4]
  rfl
theorem atC (l : List Int) (k x : Nat) (h : (cmpA l k).length ≤ x) (hx : x < l.length) : ((cmpA l k ++ l.drop (cmpA l k).length).map I)[x]? = some (I (l.getD x 0)) := by
  rw [List.getElem?_map, List.getElem?_append_right h, List.getElem?_drop, show (cmpA l k).length + (x - (cmpA l k).length) = x by omega, List.getElem?_eq_getElem hx]
  simp [hx]
theorem setC (l : List Int) (A : List Int) (v : Int) (h : A.length < l.length) : ((A ++ l.drop A.length).map I).set A.length (I v) = ((A ++ [v]) ++ l.drop (A ++ [v]).length).map I := by
  rw [List.map_append, List.set_append_right _ _ (by simp), List.length_map, Nat.sub_self, List.drop_eq_getElem_cons h, List.map_cons, List.set_cons_zero]
  simp
theorem listAt (l : List Int) (x : Nat) (hx : x < l.length) : (l.map I)[x]? = some (I (l.getD x 0)) := by simp [hx]
section
variable {H : List AObj} {id lo : Nat}
theorem compact_sem (hlo : lo ≤ id) (l : List Int) (h0 : 0 < l.length) (hl : l.length ≤ 1000) (hH : H[id]? = some (.cells (l.map I))) :
    Sem Go.Proofs.Try.prog (.fn 105) [.ref id 0 l.length none 1] H lo (.ref id 0 (cmpA l l.length).length none 1) (H.set id (.cells ((cmpA l l.length ++ List.replicate (l.length - (cmpA l l.length).length) 0).map I))) := by
  have hid := (List.getElem?_eq_some_iff.1 hH).1
  have hbl : Nat.ble lo id = true := Nat.ble_eq_true_of_le hlo
  have gs : ∀ c : AObj, (H.set id c)[id]? = some c := fun c => by rw [List.getElem?_set_self hid]
  have gss : ∀ c e : AObj, ((H.set id c).set id e)[id]? = some e := fun c e => by rw [List.set_set, gs]
  have same : H.set id (.cells (l.map I)) = H := by
    obtain ⟨h1, h2⟩ := List.getElem?_eq_some_iff.1 hH
    rw [← h2, List.set_getElem_self]
  refine fn_semQ hmix lk105s rfl ⟨by simp, fun j h1 h2 => by rw [List.getElem?_set_ne (by omega)]⟩ fun Q hQ => ?_
  unfold rc105s rc105s_9
  obtain ⟨c8, g8⟩ : ∃ c, rc105s_8 = c := ⟨_, rfl⟩
  rw [g8]
  conv => whnf
  have fin : ∀ T, getT T 2 = .ref id 0 l.length none 1 → cmpA l l.length = l → Q .ret T H := fun T hT e => hQ _ _ _ ⟨.inr rfl, by rw [e, Nat.sub_self, List.replicate_zero, List.append_nil, same]; exact ⟨rfl, fun j o hj => .inr hj⟩, by rw [e]; simp only [readR, hT, Option.map_some, packResults]⟩
  by_cases h2 : ((l.length : Nat) : Int) < 2
  · rw [decide_eq_true h2]
    conv => whnf
    have : l.length = 1 := by omega
    refine fin _ rfl ?_
    match l, this with
    | [x], _ => rfl
  rw [decide_eq_false h2]
  conv => whnf
  refine .intro (fun m T H' => ∃ k, 1 ≤ k ∧ k ≤ l.length ∧ m = l.length - k ∧ cmpA l k = l.take k ∧ T = slots 61 [(0, .ref id 0 l.length none 1), (3, I (k : Nat))] ∧ H = H') (l.length - 1) ⟨1, by omega, by omega, rfl, ?_, rfl, rfl⟩ ?_
  · match l, h0 with
    | x :: r, _ => rfl
  rintro m T H' ⟨k, hk1, hk2, rfl, he, rfl, rfl⟩
  subst g8
  unfold rc105s_8 rc105s_7
  obtain ⟨c6, g6⟩ : ∃ c, rc105s_6 = c := ⟨_, rfl⟩
  rw [g6]
  conv => whnf
  by_cases hk : (k : Int) < (l.length : Int)
  · rw [decide_eq_true hk]
    conv => whnf
    refine ⟨by omega, ?_⟩
    conv => whnf
    refine nthK_of hH ?_
    conv => whnf
    refine nthK_of (x := I (l.getD k 0)) (by rw [show 0 + (k : Int).toNat * 1 = k by simp]; exact listAt l k (by omega)) ?_
    conv => whnf
    rw [show IntKind.i64.wrap ((k : Int) - 1) = ((k - 1 : Nat) : Int) by rw [wrapI _ (by omega) (by omega)]; omega]
    refine ⟨by omega, ?_⟩
    conv => whnf
    refine nthK_of hH ?_
    conv => whnf
    refine nthK_of (x := I (l.getD (k - 1) 0)) (by rw [show 0 + (((k - 1 : Nat)) : Int).toNat * 1 = k - 1 by simp]; exact listAt l (k - 1) (by omega)) ?_
    conv => whnf
    by_cases hd : l.getD k 0 = l.getD (k - 1) 0
    · rw [decide_eq_true hd]
      conv => whnf
      have he1 : cmpA l (k + 1) = l.take k := by simp only [cmpA]; rw [if_pos ⟨by omega, hd⟩, he]
      subst g6
      unfold rc105s_6
      obtain ⟨c3, g3⟩ : ∃ c, rc105s_3 = c := ⟨_, rfl⟩
      obtain ⟨c5, g5⟩ : ∃ c, rc105s_5 = c := ⟨_, rfl⟩
      rw [g3, g5]
      conv => whnf
      refine ⟨rfl, by omega, fun _ => ?_, fun h => by omega⟩
      conv => whnf
      refine .intro (fun m T H' => ∃ q, 1 ≤ q ∧ k + q ≤ l.length ∧ m = l.length - q ∧ (cmpA l (k + q)).length + 1 ≤ k + q ∧ T = slots 61 [(0, .ref id 0 l.length none 1), (3, I (cmpA l (k + q)).length), (4, .ref id (0 + (k : Int).toNat * 1) (l.length - (k : Int).toNat) none 1), (5, I (q : Nat))] ∧ H' = H.set id (.cells ((cmpA l (k + q) ++ l.drop (cmpA l (k + q)).length).map I))) (l.length - 1) ⟨1, Nat.le_refl _, by omega, rfl, by rw [he1]; simp; omega, ?_, ?_⟩ ?_
      · rw [he1, List.length_take, Nat.min_eq_left (by omega)]; rfl
      · rw [he1, List.length_take, Nat.min_eq_left (by omega), List.take_append_drop]; exact same.symm
      rintro m T H' ⟨q, hq1, hq2, rfl, hw, rfl, rfl⟩
      subst g3
      unfold rc105s_3 rc105s_2
      obtain ⟨c1, g1⟩ : ∃ c, rc105s_1 = c := ⟨_, rfl⟩
      rw [g1]
      conv => whnf
      by_cases hq : (q : Int) < ((l.length - k : Nat) : Int)
      · rw [show decide ((q : Int) < ((l.length - (k : Int).toNat : Nat) : Int)) = true from decide_eq_true hq]
        conv => whnf
        refine ⟨by simp; omega, ?_⟩
        conv => whnf
        refine nthK_of (gs _) ?_
        conv => whnf
        refine nthK_of (x := I (l.getD (k + q) 0)) (by rw [show 0 + (k : Int).toNat * 1 + (q : Int).toNat * 1 = k + q by simp]; exact atC l (k + q) (k + q) (by omega) (by omega)) ?_
        conv => whnf
        rw [show IntKind.i64.wrap ((q : Int) - 1) = ((q - 1 : Nat) : Int) by rw [wrapI _ (by omega) (by omega)]; omega]
        refine ⟨by simp; omega, ?_⟩
        conv => whnf
        refine nthK_of (gs _) ?_
        conv => whnf
        refine nthK_of (x := I (l.getD (k + q - 1) 0)) (by rw [show 0 + (k : Int).toNat * 1 + (((q - 1 : Nat)) : Int).toNat * 1 = k + q - 1 by simp; omega]; exact atC l (k + q) (k + q - 1) (by omega) (by omega)) ?_
        conv => whnf
        by_cases hx : l.getD (k + q) 0 = l.getD (k + q - 1) 0
        · rw [decide_eq_false (not_not_intro hx)]
          conv => whnf
          have e : cmpA l (k + (q + 1)) = cmpA l (k + q) := by rw [← Nat.add_assoc]; simp only [cmpA]; rw [if_pos ⟨by omega, hx⟩]
          refine ⟨l.length - (q + 1), by omega, q + 1, by omega, by omega, rfl, by rw [e]; omega, ?_, by rw [e]⟩
          rw [e, ← wrapS q (by omega)]; rfl
        · rw [decide_eq_true hx]
          conv => whnf
          have e : cmpA l (k + (q + 1)) = cmpA l (k + q) ++ [l.getD (k + q) 0] := by rw [← Nat.add_assoc]; simp only [cmpA]; rw [if_neg fun h => hx h.2]
          subst g1
          refine wpG fun K1 hK1 => ?_
          unfold rc105s_1
          conv => whnf
          refine ⟨by simp; omega, ?_⟩
          conv => whnf
          refine nthK_of (gs _) ?_
          conv => whnf
          refine nthK_of (x := I (l.getD (k + q) 0)) (by rw [show 0 + (k : Int).toNat * 1 + (q : Int).toNat * 1 = k + q by simp]; exact atC l (k + q) (k + q) (by omega) (by omega)) ?_
          conv => whnf
          refine ⟨by omega, ?_⟩
          conv => whnf
          rw [hbl]
          conv => whnf
          refine nthK_of (gs _) ?_
          conv => whnf
          refine updK_of (by simp; omega) ?_
          conv => whnf
          refine hK1 _ _ _ ?_
          conv => whnf
          refine ⟨l.length - (q + 1), by omega, q + 1, by omega, by omega, rfl, by rw [e, List.length_append, List.length_singleton]; omega, ?_, ?_⟩
          · rw [e, List.length_append, List.length_singleton, ← wrapS q (by omega), ← wrapS (cmpA l (k + q)).length (by omega)]; rfl
          · rw [List.set_set, e, show 0 + ((cmpA l (k + q)).length : Int).toNat * 1 = (cmpA l (k + q)).length by simp, setC l (cmpA l (k + q)) _ (by omega)]
      · rw [show decide ((q : Int) < ((l.length - (k : Int).toNat : Nat) : Int)) = false from decide_eq_false hq]
        conv => whnf
        obtain rfl : q = l.length - k := by omega
        rw [show k + (l.length - k) = l.length by omega] at hw ⊢
        subst g5
        unfold rc105s_5 rc105s_4
        conv => whnf
        refine ⟨rfl, by omega, fun _ => ?_, fun h => by omega⟩
        conv => whnf
        refine ⟨_, _, fun C => (clear1 lo id _ _ _ _ hlo (gs _) (by simp)), ?_⟩
        conv => whnf
        refine ⟨rfl, by omega, ?_⟩
        conv => whnf
        refine hQ _ _ _ ⟨.inr rfl, ?_, rfl⟩
        rw [List.set_set]
        have e : (List.take (0 + ((cmpA l l.length).length : Int).toNat * 1) ((cmpA l l.length ++ l.drop (cmpA l l.length).length).map I) ++ List.replicate (l.length - ((cmpA l l.length).length : Int).toNat) (I 0)) = (cmpA l l.length ++ List.replicate (l.length - (cmpA l l.length).length) 0).map I := by
          simp
        rw [← e]
        exact ⟨rfl, fun j o hj => .inr hj⟩
    · rw [decide_eq_false hd]
      conv => whnf
      refine ⟨l.length - (k + 1), by omega, k + 1, by omega, by omega, rfl, ?_, by rw [← wrapS k (by omega)]; rfl, rfl⟩
      simp only [cmpA]
      rw [if_neg fun h => hd h.2, he, List.take_succ_eq_append_getElem (by omega)]
      simp [show k < l.length by omega]
  · rw [decide_eq_false hk]
    conv => whnf
    obtain rfl : k = l.length := by omega
    exact fin _ rfl (by rw [he, List.take_length])
end
end Go.Proofs.Ytlcebaejlnpdeaa.Ab

/-
  Contracts: the sums of a layer.
-/
namespace Go.Proofs.Ytlcebaejlnpdeaa.Ab
open Go
set_option maxRecDepth 20000
set_option maxHeartbeats 4000000
/-- The sum of strips that bits tell, of the first so many. -/
def bsumT (w : List Int) (b : Nat) : Nat → Int
  | 0 => 0
  | i + 1 => bsumT w b i + w.getD i 0 * ((b / 2 ^ i % 2 : Nat) : Int)
/-- The sums of some strips, but not of all. -/
def subs (w : List Int) : List Int := (List.range (2 ^ w.length - 2)).map fun r => bsumT w (r + 1) w.length
/-- .. sorted, each once. -/
def psums (w : List Int) : List Int := cmpA (Sort.sort Sort.ltInt (subs w).toArray).toList (subs w).length
theorem bit_val : ∀ (b : Fin 32) (i : Fin 5), IntKind.i64.wrap (((BitVec.ofInt IntKind.i64.bits (((b.1 : Nat) : Int).fdiv (2 ^ (Nat.min (((i.1 : Nat) : Int)).toNat IntKind.i64.bits))) &&& BitVec.ofInt IntKind.i64.bits 1).toNat : Nat) : Int) = ((b.1 / 2 ^ i.1 % 2 : Nat) : Int) := by decide +kernel
theorem pow_val : ∀ (n : Fin 6), IntKind.i64.wrap (IntKind.i64.wrap (1 * 2 ^ (Nat.min (((n.1 : Nat) : Int)).toNat IntKind.i64.bits)) - 1) = ((2 ^ n.1 - 1 : Nat) : Int) ∧ 2 ^ n.1 ≤ 32 := by decide +kernel
theorem bsumT_bound {w : List Int} (hs : ∀ x ∈ w, 1 ≤ x ∧ x ≤ 100) (b : Nat) : ∀ i, 0 ≤ bsumT w b i ∧ bsumT w b i ≤ 100 * i
  | 0 => by simp [bsumT]
  | i + 1 => by
    have ih := bsumT_bound hs b i
    have h1 : 0 ≤ w.getD i 0 ∧ w.getD i 0 ≤ 100 := by
      by_cases h : i < w.length
      · have := hs _ (List.getElem_mem h)
        simp [h]; omega
      · simp [h]
    simp only [bsumT]
    have : b / 2 ^ i % 2 = 0 ∨ b / 2 ^ i % 2 = 1 := by omega
    rcases this with e | e <;> rw [e] <;> omega
section
variable {H : List AObj} {id lo : Nat}
theorem compact0_sem : Sem Go.Proofs.Try.prog (.fn 105) [.lst [] 0 .shared] H lo (.lst [] 0 .shared) H := by
  refine fn_semQ hmix lk105s rfl ⟨Nat.le_refl _, fun j h1 h2 => rfl⟩ fun Q hQ => ?_
  unfold rc105s rc105s_9
  obtain ⟨c8, g8⟩ : ∃ c, rc105s_8 = c := ⟨_, rfl⟩
  rw [g8]
  conv => whnf
  exact hQ _ _ _ ⟨.inr rfl, ⟨rfl, fun j o hj => .inr hj⟩, rfl⟩
/-- How many variables the sorting leaves behind. -/
def dN (w : List Int) : Nat := pdqN (subs w).toArray 0 (subs w).toArray.size (Sort.bitsLen (subs w).toArray.size) true true
theorem sums_walk (hlo : lo ≤ H.length) (p : List (List Int)) (k : Nat) (hk : k < p.length) (hv : Val p) (Q : Ex → List AV → List AObj → Prop)
    (h1 : ∀ T, p[k].length = 1 → getT T 4 = .lst [] 0 .shared → Q .ret T H)
    (h2 : ∀ T, 2 ≤ p[k].length → getT T 4 = .ref H.length 0 (psums p[k]).length none 1 → Q .ret T (H ++ .cells ((psums p[k] ++ List.replicate ((subs p[k]).length - (psums p[k]).length) 0).map I) :: Dd (dN p[k]))) :
    wpR Go.Proofs.Try.prog ann83 83 lo none rc83s (slots 51 [(0, Bn p), (1, I k)]) H Q := by
  have h5 := hv.s5 _ (List.getElem_mem hk)
  have hp1 := hv.s1 _ (List.getElem_mem hk)
  unfold rc83s rc83s_8
  obtain ⟨c6, g6⟩ : ∃ c, rc83s_6 = c := ⟨_, rfl⟩
  obtain ⟨c7, g7⟩ : ∃ c, rc83s_7 = c := ⟨_, rfl⟩
  rw [g6, g7]
  conv => whnf
  refine ⟨by omega, ?_⟩
  conv => whnf
  refine nthM _ _ _ (hk) ?_
  conv => whnf
  have hw := hv.w _ (List.getElem_mem hk)
  obtain ⟨w, hw0⟩ : ∃ w, w = p[k] := ⟨_, rfl⟩
  rw [← hw0] at h5 hp1 hw h1 h2 ⊢
  have hpv := pow_val ⟨w.length, by omega⟩
  have hp32 : 2 ^ w.length ≤ 32 := hpv.2
  have hsl : (subs w).length = 2 ^ w.length - 2 := by simp [subs]
  refine .intro (fun m T H' => ∃ r, r ≤ 2 ^ w.length - 2 ∧ m = 2 ^ w.length - 2 - r ∧ T = slots 51 [(5, U1 ((subs w).take r)), (6, L1 w), (7, I (r + 1 : Nat))] ∧ H = H') (2 ^ w.length - 2) ⟨0, by omega, rfl, rfl, rfl⟩ ?_
  rintro m T H' ⟨r, hr, rfl, rfl, rfl⟩
  have h2p : 2 ≤ 2 ^ w.length := by
    have := Nat.pow_le_pow_right (show 0 < 2 by decide) hp1
    simpa using this
  subst g6
  unfold rc83s_6
  obtain ⟨c5, g5⟩ : ∃ c, rc83s_5 = c := ⟨_, rfl⟩
  rw [g5]
  conv => whnf
  refine ⟨by omega, ?_⟩
  conv => whnf
  rw [show IntKind.i64.wrap (IntKind.i64.wrap (1 * 2 ^ (((w.length : Nat) : Int).toNat.min IntKind.i64.bits)) - 1) = ((2 ^ w.length - 1 : Nat) : Int) from hpv.1]
  by_cases hb : ((r + 1 : Nat) : Int) < ((2 ^ w.length - 1 : Nat) : Int)
  · rw [decide_eq_true hb]
    conv => whnf
    subst g5
    refine wpG fun K1 hK1 => ?_
    unfold rc83s_5 rc83s_4
    obtain ⟨c2, g2⟩ : ∃ c, rc83s_2 = c := ⟨_, rfl⟩
    obtain ⟨c3, g3⟩ : ∃ c, rc83s_3 = c := ⟨_, rfl⟩
    rw [g2, g3]
    conv => whnf
    refine .intro (fun m T H' => ∃ i, i ≤ w.length ∧ m = w.length - i ∧ T = slots 51 [(5, U1 ((subs w).take r)), (6, L1 w), (7, I (r + 1 : Nat)), (8, I (bsumT w (r + 1) i)), (27, L1 w), (28, I w.length), (29, I (i : Nat))] ∧ H = H') w.length ⟨0, by omega, rfl, rfl, rfl⟩ ?_
    rintro m T H' ⟨i, hi, rfl, rfl, rfl⟩
    conv => whnf
    by_cases hlt : (i : Int) < (w.length : Int)
    · rw [decide_eq_true hlt]
      conv => whnf
      subst g2
      refine wpG fun K2 hK2 => ?_
      unfold rc83s_2 rc83s_1
      conv => whnf
      refine ⟨by omega, ?_⟩
      conv => whnf
      refine nthM _ _ _ ((show i < w.length by omega)) ?_
      conv => whnf
      refine ⟨by omega, ?_⟩
      conv => whnf
      rw [show IntKind.i64.wrap (((BitVec.ofInt IntKind.i64.bits (((r + 1 : Nat) : Int).fdiv (2 ^ (((i : Nat) : Int).toNat.min IntKind.i64.bits))) &&& BitVec.ofInt IntKind.i64.bits 1).toNat : Nat) : Int) = (((r + 1) / 2 ^ i % 2 : Nat) : Int) from bit_val ⟨r + 1, by omega⟩ ⟨i, by omega⟩]
      refine hK2 _ _ _ ?_
      conv => whnf
      have b1 := bsumT_bound hw (r + 1) i
      have b2 := bsumT_bound hw (r + 1) (i + 1)
      have hx := hw _ (List.getElem_mem (show i < w.length by omega))
      have e : bsumT w (r + 1) (i + 1) = bsumT w (r + 1) i + w[i]'(by omega) * (((r + 1) / 2 ^ i % 2 : Nat) : Int) := by
        simp [bsumT, show i < w.length by omega]
      refine ⟨w.length - (i + 1), by omega, i + 1, by omega, rfl, ?_, rfl⟩
      have m1 : IntKind.i64.wrap (w[i]'(by omega) * (((r + 1) / 2 ^ i % 2 : Nat) : Int)) = w[i]'(by omega) * (((r + 1) / 2 ^ i % 2 : Nat) : Int) := by
        have : (r + 1) / 2 ^ i % 2 = 0 ∨ (r + 1) / 2 ^ i % 2 = 1 := by omega
        rcases this with e | e <;> rw [e] <;> exact wrapI _ (by omega) (by omega)
      rw [m1, ← e, wrapI (bsumT w (r + 1) (i + 1)) (by omega) (by omega), ← wrapS i (by omega)]
      rfl
    · rw [decide_eq_false hlt]
      obtain rfl : i = w.length := by omega
      conv => whnf
      subst g3
      refine wpG fun K2 hK2 => ?_
      unfold rc83s_3
      conv => whnf
      have htl : ((subs w).take r).length = r := by rw [List.length_take, hsl]; omega
      refine ⟨rfl, by decide, rfl, by omega, ?_⟩
      conv => whnf
      refine hK2 _ _ _ ?_
      conv => whnf
      refine hK1 _ _ _ ?_
      conv => whnf
      refine ⟨2 ^ w.length - 2 - (r + 1), by omega, r + 1, by omega, rfl, ?_, rfl⟩
      have e : (subs w).take (r + 1) = (subs w).take r ++ [bsumT w (r + 1) w.length] := by
        rw [List.take_succ_eq_append_getElem (by omega)]; simp [subs]
      rw [e, ← U1_snoc, ← wrapS (r + 1) (by omega)]
      rfl
  · rw [decide_eq_false hb]
    obtain rfl : r = 2 ^ w.length - 2 := by omega
    rw [← hsl, List.take_length]
    conv => whnf
    subst g7
    unfold rc83s_7
    conv => whnf
    by_cases h0 : (subs w).length = 0
    · have h1l : w.length = 1 := by
        by_cases h : 2 ≤ w.length
        · have : 2 ^ 2 ≤ 2 ^ w.length := Nat.pow_le_pow_right (show 0 < 2 by decide) h
          simp only [Nat.reducePow] at this
          omega
        · omega
      refine .inr ⟨h0, ?_⟩
      have e0 : subs w = [] := List.length_eq_zero_iff.1 h0
      rw [e0]
      conv => whnf
      refine ⟨_, _, call1 (sort0_sem _), ?_⟩
      conv => whnf
      refine ⟨_, _, call1 compact0_sem, ?_⟩
      conv => whnf
      exact h1 _ h1l rfl
    · have h2l : 2 ≤ w.length := by
        by_cases h : 2 ≤ w.length
        · exact h
        · have : w.length = 1 := by omega
          rw [this] at hsl; exact absurd hsl h0
      refine .inl ⟨h0, ?_⟩
      conv => whnf
      have hg : (H ++ [AObj.cells ((subs w).map I)])[H.length]? = some (Cd (subs w).toArray) := getLast0 _ _ _ rfl
      have hss := sort_sem hlo (subs w).toArray (by simp; omega) hg
      have e1 : Da H.length (subs w).toArray.size = .ref H.length 0 (subs w).length none 1 := by simp [Da]
      rw [e1] at hss
      refine ⟨_, _, call1 hss, ?_⟩
      rw [setLast _ _ _ _ rfl]
      conv => whnf
      have hps := (Sort.sort_sorts (lt := Sort.ltInt) Sort.swo_ltInt (subs w).toArray).1.1
      obtain ⟨S, hS⟩ : ∃ x, x = (Sort.sort Sort.ltInt (subs w).toArray).toList := ⟨_, rfl⟩
      have hSl : S.length = (subs w).length := by rw [hS, Array.length_toList, hps]; simp
      have hcs := compact_sem (H := H ++ [Cd (Sort.sort Sort.ltInt (subs w).toArray)] ++ Dd (pdqN (subs w).toArray 0 (subs w).toArray.size (Sort.bitsLen (subs w).toArray.size) true true)) (id := H.length) (lo := lo) hlo S (by omega) (by omega) (by rw [List.append_assoc, List.getElem?_append_right (Nat.le_refl _), Nat.sub_self, hS]; rfl)
      rw [hSl] at hcs
      refine ⟨_, _, call1 hcs, ?_⟩
      conv => whnf
      have e2 : cmpA S (subs w).length = psums w := by rw [hS]; rfl
      rw [e2]
      have hE : ∀ (x y : AObj) (M : Nat), (H ++ [x] ++ Dd M).set H.length y = H ++ y :: Dd M := fun x y M => by simp
      rw [hE]
      exact h2 _ h2l rfl
theorem psums_le (w : List Int) : (psums w).length ≤ (subs w).length := cmpA_le _ _
theorem psums_one (w : List Int) (h : w.length = 1) : psums w = [] := by
  have : (subs w).length = 0 := by simp [subs, h]
  unfold psums; rw [this]; rfl
theorem row_int {H : List AObj} {id : Nat} (l r : List Int) (h : H[id]? = some (.cells ((l ++ r).map I))) : rowOf H (.ref id 0 l.length none 1) = some (l.map I) := by
  simp only [rowOf, h, Nat.zero_add, Nat.mul_one, List.length_map, List.length_append, Nat.le_add_right, if_true, List.drop_zero]
  rw [List.map_append, List.take_left' (by simp), List.map_map]
  rfl
theorem frz_row {H : List AObj} {id d : Nat} (l r : List Int) (h : H[id]? = some (.cells ((l ++ r).map I))) : frz H 0 H.length 0 (d + 2) (.ref id 0 l.length none 1) = some (L1 l) := by
  have h1 := (List.getElem?_eq_some_iff.1 h).1
  have h2 : mapO (frz H 0 H.length 0 (d + 1)) (l.map I) = some (l.map I) := mapO_id fun u hu => frz_pure (by obtain ⟨x, _, rfl⟩ := List.mem_map.1 hu; rfl)
  show (if id < 0 then some (AV.ref id 0 l.length none 1) else if id = H.length then some (.ref 0 0 l.length none 1) else match rowOf H (.ref id 0 l.length none 1) with
      | some row => (mapO (frz H 0 H.length 0 (d + 1)) row).map fun cs => AV.lst cs l.length (frzCap none l.length)
      | none => none) = some (L1 l)
  rw [if_neg (by omega), if_neg (by omega), row_int l r h]
  simp only [h2, Option.map_some]
  rfl
/-- A call over no objects. -/
theorem sums_ok (p : List (List Int)) (k : Nat) (hk : k < p.length) (hv : Val p) : PO 83 [Bn p, I k] (L1 (psums p[k])) := by
  refine fn_pureQ hmix lk83s rfl (pu1' _) fun Q hQ => ?_
  refine sums_walk (Nat.zero_le _) p k hk hv Q (fun T h hT => ?_) (fun T h hT => ?_)
  · rw [psums_one _ h] at hQ
    exact hQ _ _ _ (ret_pure (.inr rfl) (pu1' _) (by simp only [readR, hT, Option.map_some, packResults]; rfl))
  · exact hQ _ _ _ ⟨.inr rfl, [.ref 0 0 (psums p[k]).length none 1], by simp only [readR, hT, Option.map_some]; rfl, L1 (psums p[k]), frz_row (id := 0) (psums p[k]) _ rfl, .inl rfl⟩
end
end Go.Proofs.Ytlcebaejlnpdeaa.Ab

/-
  Plain words of layer 5: the program's orders: joints, layer by layer.
-/
namespace Go.Proofs.Ytlcebaejlnpdeaa.Ab
/-- A joint: orders from a layer on, that layer's seams, meetings, the distance. -/
structure Jt where
  o : List (List Int)
  s : List Int
  m : Int
  d : Int
/-- What bounds joints. -/
structure Jb (n : Nat) (x : Jt) : Prop where
  o : x.o.length = n
  s : x.s.length ≤ 4
  m0 : 0 ≤ x.m
  m1 : x.m ≤ 4 * n
end Go.Proofs.Ytlcebaejlnpdeaa.Ab

/-
  Contracts: joints; the best of them; lists of lists joined.
-/
namespace Go.Proofs.Ytlcebaejlnpdeaa.Ab
open Go
set_option maxRecDepth 20000
set_option maxHeartbeats 4000000
/-- Its four cells: whether its lists are known to be full. -/
def jcw (co cs : Cap) (x : Jt) : List AV := [.lst (x.o.map L1) x.o.length co, .lst (x.s.map I) x.s.length cs, I x.m, I x.d]
def LJ (co cs : Cap) (l : List Jt) (c : Cap) : AV := .lst (l.flatMap (jcw co cs)) l.length c
section
variable (co cs : Cap)
end
end Go.Proofs.Ytlcebaejlnpdeaa.Ab

/- MADE BY PROGRAM (rcy.py): rounds, looked up. -/
namespace Go.Proofs.Ytlcebaejlnpdeaa.Ab
open Go
noncomputable def rcY42A : RC :=
  .reg false [I_ 9 [.tk 27] .mv]
theorem lkY42A : linkC Go.Proofs.Try.prog ann42 (rngA Go.Proofs.Try.prog 42 0) 0 = some rcY42A := by kernel_rfl
noncomputable def rcY42B : RC :=
  .block 1 (.seq (.reg false [I_ 28 [.tv 6] (.ld .one), I_ 29 [.tv 3] (.ld .one), I_ 30 [.tk 9] .mv, I_ 31 [.cv (.func 87 [] []), .sl 28, .sl 29, .sl 30] (.call 3), I_ 10 [] (.alloc [.lst [] 0 .full]), ⟨none, [.sl 10, .tk 31],
  none, none, .st 1⟩]) (.reg false [I_ 32 [.sl 8] (.ld .one), I_ 33 [.tv 10] (.mkF 89 0 1), I_ 34 [.cv (.func 88 [] []), .tk 32, .tk 33] (.call 1), ⟨none, [.tk 8, .tk 34], none, none, .st 1⟩]))
theorem lkY42B : linkC Go.Proofs.Try.prog ann42 (rngB Go.Proofs.Try.prog 42 0) 0 = some rcY42B := by kernel_rfl
end Go.Proofs.Ytlcebaejlnpdeaa.Ab

/-
  Contracts: the program's orders.
-/
namespace Go.Proofs.Ytlcebaejlnpdeaa.Ab
open Go
set_option maxRecDepth 20000
set_option maxHeartbeats 4000000
theorem puF (p : List (List Int)) (k : Int) : pureD 8 (.func 107 [] [.lptr [Bn p], .lptr [I k]]) = true := by
  have h : pureD 6 (Bn p) = true := by
    show [L2 p].all (pureD 5) = true
    rw [List.all_cons, List.all_nil, pure_L2 2 p]; rfl
  show (([] : List AV).all (pureD 7) && [AV.lptr [Bn p], AV.lptr [I k]].all (pureD 7)) = true
  show (true && (([Bn p] : List AV).all (pureD 6) && (true && true))) = true
  rw [List.all_cons, h]; rfl
theorem all_ok86 (p : List (List Int)) (k : Int) : PO 86 [Bn p, I k] (.func 107 [] [.lptr [Bn p], .lptr [I k]]) := by
  refine fn_pure hmix lk86 rfl (puF p k) ?_
  unfold rc86
  conv => whnf
  have hb : pureD 6 (Bn p) = true := by
    show [L2 p].all (pureD 5) = true
    rw [List.all_cons, List.all_nil, pure_L2 2 p]; rfl
  have e1 := frz_ptr (H := [.cells [Bn p], .cells [I k]]) (id := 0) (d := 6) rfl (by show [Bn p].all (pureD 6) = true; rw [List.all_cons, hb]; rfl)
  have e2 := frz_ptr (H := [.cells [Bn p], .cells [I k]]) (id := 1) (d := 6) rfl rfl
  refine ⟨.inr rfl, _, rfl, .func 107 [] [.lptr [Bn p], .lptr [I k]], ?_, .inl rfl⟩
  show (match mapO (frz [.cells [Bn p], .cells [I k]] 0 2 0 7) [], mapO (frz [.cells [Bn p], .cells [I k]] 0 2 0 7) [.ptr 0 0, .ptr 1 0] with | some a, some b => some (AV.func 107 a b) | _, _ => none) = _
  simp only [mapO]
  rw [show frz [.cells [Bn p], .cells [I k]] 0 2 0 7 (.ptr 0 0) = _ from e1, show frz [.cells [Bn p], .cells [I k]] 0 2 0 7 (.ptr 1 0) = _ from e2]
  rfl
theorem fgt_tail (X J : List AObj) : Fgt (X ++ J) (X ++ List.replicate J.length .dead) := by
  refine ⟨by simp, fun j o hj => ?_⟩
  by_cases h : j < X.length
  · rw [List.getElem?_append_left h] at hj ⊢; exact .inr hj
  · rw [List.getElem?_append_right (by omega)] at hj
    exact .inl (List.eq_of_mem_replicate (List.mem_of_getElem? hj))
section
variable (p : List (List Int)) (t : Nat) (ht : t < p.length) (hv : Val p) (Bh : List Jt) (nB : Nat) (hB : ∀ x ∈ Bh, Jb nB x) (hn : nB ≤ 3) (hB0 : 0 < Bh.length) (hB1 : Bh.length ≤ 3125)
variable (c c1 : Cap) (hc : c = .own 4 ∨ c = .shared) (hc1 : c1 = .full ∨ c1 = .shared) (X0 : List AObj) (ii inn : Nat) (fv bv xv yv : AV)
variable (g0 : X0[0]? = some (.cells [Bn p])) (g1 : X0[1]? = some (.cells [LJ c1 c1 Bh c])) (g2 : X0[2]? = some (.cells [.func 100 [] []])) (gi : X0[ii]? = some (.cells [I t]))
variable (hinn : inn < X0.length) (n0 : inn ≠ 0) (n1 : inn ≠ 1) (n2 : inn ≠ 2) (ni : inn ≠ ii)
include ht hv hB hn hB0 hB1 hc hc1 g0 g1 g2 gi hinn n0 n1 n2 ni
end
end Go.Proofs.Ytlcebaejlnpdeaa.Ab

/-
  Contracts: the program's orders, all layers.
-/
namespace Go.Proofs.Ytlcebaejlnpdeaa.Ab
open Go
set_option maxRecDepth 20000
set_option maxHeartbeats 4000000
end Go.Proofs.Ytlcebaejlnpdeaa.Ab

/-
  Plain law of layer 5: the program's orders are the first ones that have the fewest meetings.
-/
namespace Go.Proofs.Ytlcebaejlnpdeaa.Ab
abbrev Lens (p : List (List Int)) : Prop := (∀ l ∈ p, 1 ≤ l.length ∧ l.length ≤ 5) ∧ p.length ≤ 4
theorem Lens.tail {a : List Int} {r : List (List Int)} (h : Lens (a :: r)) : Lens r := ⟨fun l hl => h.1 l (by simp [hl]), by have := h.2; simp at this; omega⟩
end Go.Proofs.Ytlcebaejlnpdeaa.Ab

/-
  Contracts: SeamPanels, SeamThroughs.
-/
namespace Go.Proofs.Ytlcebaejlnpdeaa.Ab
open Go
set_option maxRecDepth 20000
/-- Works is true. -/
abbrev WK : Prop := PO 20 [] (B true)
end Go.Proofs.Ytlcebaejlnpdeaa.Ab

/-
  Contracts: the program's Pair; SeamFewests.
-/
namespace Go.Proofs.Ytlcebaejlnpdeaa.Ab
open Go
set_option maxRecDepth 20000
set_option maxHeartbeats 4000000
theorem Val.ne {p : List (List Int)} (hv : Val p) : p ≠ [] := fun h => by have := hv.n2; rw [h] at this; simp at this
end Go.Proofs.Ytlcebaejlnpdeaa.Ab

/-
  Contracts: the program's Sums.
-/
namespace Go.Proofs.Ytlcebaejlnpdeaa.Ab
open Go
set_option maxRecDepth 20000
set_option maxHeartbeats 4000000
def F1 (l : List Int) : AV := .lst (l.map I) l.length .full
theorem copy1 (lo id : Nat) (H : List AObj) (l : List Int) (hlo : lo ≤ id) (hH : H[id]? = some (.cells (repl l.length [I 0]))) :
    opCopy Go.Proofs.Try.prog lo #[37, 37] H [.ref id 0 l.length (some l.length) 1, L1 l] = some (I l.length, H.set id (.cells (l.map I))) := by
  have e1 : ((#[37, 37] : Array TypeId)[0]?).bind Go.Proofs.Try.prog.underlying = some (.slice 2) := by kernel_rfl
  have e2 : szOf Go.Proofs.Try.prog 2 = some 1 := by kernel_rfl
  have e4 : setCells 0 (l.map I) (repl l.length [I 0]) = l.map I := by
    apply List.ext_getElem?
    intro j
    have hl : (repl l.length [I 0]).length = l.length := by rw [repl_len]; simp
    rw [setCells_get _ _ _ _ (by rw [hl]; simp)]
    by_cases hj : j < l.length
    · rw [if_pos ⟨by omega, by simpa using hj⟩]; simp
    · rw [if_neg (by simp; omega), List.getElem?_eq_none (by rw [hl]; omega), List.getElem?_eq_none (by simpa using hj)]
  unfold opCopy
  simp only [e1, e2, L1, lenOf, rowOf, mutObj, hH, if_pos hlo]
  rw [if_pos ⟨trivial, by simp⟩, if_pos (by rw [repl_len]; simp), Nat.min_self, Nat.mul_one, List.take_of_length_le (by simp), e4]
  rfl
/-- What Sums, and Sure, tell of a layer; the error. -/
def layErr (p : List (List Int)) (x : Int) : Int := if checkP p ≠ 0 then checkP p else if outOf 0 ((p.length : Int) - 1) x = true then 2 else 0
theorem puL1 (l : List Int) (e : Int) : pureD 8 (.tuple [L1 l, I e]) = true := by
  show [L1 l, I e].all (pureD 7) = true
  rw [List.all_cons, List.all_cons, List.all_nil]
  have : pureD 7 (L1 l) = true := pure_ints 5 l
  rw [this]; rfl
theorem puF1 (l : List Int) (e : Int) : pureD 8 (.tuple [F1 l, I e]) = true := by
  show [F1 l, I e].all (pureD 7) = true
  rw [List.all_cons, List.all_cons, List.all_nil]
  have : pureD 7 (F1 l) = true := pure_ints 5 l
  rw [this]; rfl
theorem pSums_ok (p : List (List Int)) (x : Int) (h1 : p.length ≤ 140737488355328) (h2 : ∀ l ∈ p, l.length ≤ 140737488355328) :
    PO 40 [P1 p, I x] (if layErr p x = 0 then .tuple [F1 (psums (p.getD x.toNat [])), I 0] else .tuple [L1 [], I (layErr p x)]) := by
  by_cases hc : checkP p = 0
  · have hv := checkP_val hc
    cases ha : outOf 0 ((p.length : Int) - 1) x with
    | true =>
      have e : layErr p x = 2 := by unfold layErr; rw [if_neg (by simp [hc]), if_pos ha]
      rw [e, if_neg (by decide)]
      refine fn_pureQ hmix lk40 rfl rfl fun Q hQ => ?_
      unfold rc40
      conv => whnf
      refine ⟨by show (pureD 8 (P1 p) && (pureD 8 (L1 [x]) && true)) = true; rw [puP', pu1']; rfl, _, open_arg [x] h1 h2 (by simp) hc (by simpa using ha), ?_⟩
      conv => whnf
      exact hQ _ _ _ (ret_pure (.inr rfl) rfl rfl)
    | false =>
      have hx := outOf_false.1 ha
      obtain ⟨k, rfl⟩ : ∃ k : Nat, x = k := ⟨x.toNat, by omega⟩
      have hk : k < p.length := by omega
      have e : layErr p (k : Int) = 0 := by unfold layErr; rw [if_neg (by simp [hc]), if_neg (by simp [ha])]
      rw [e, if_pos rfl, show p.getD (k : Int).toNat [] = p[k] by simp [hk]]
      refine fn_pureQ hmix lk40 rfl (puF1 _ _) fun Q hQ => ?_
      unfold rc40
      conv => whnf
      refine ⟨by show (pureD 8 (P1 p) && (pureD 8 (L1 [(k : Int)]) && true)) = true; rw [puP', pu1']; rfl, _, open_good [(k : Int)] h1 h2 (by simp) hc (by simpa using ha), ?_⟩
      conv => whnf
      refine ⟨by simp only [List.all_cons, List.all_nil, puQ, Bool.and_true]; rfl, _, sums_ok p k hk hv, ?_⟩
      conv => whnf
      have hb : (psums p[k]).length ≤ 30 := by
        refine Nat.le_trans (psums_le _) ?_
        have h5 := hv.s5 _ (List.getElem_mem hk)
        have : 2 ^ p[k].length ≤ 32 := (pow_val ⟨p[k].length, by omega⟩).2
        simp only [subs, List.length_map, List.length_range]
        omega
      generalize psums p[k] = l at hb hQ
      refine ⟨by omega, by omega, by simp; omega, ?_⟩
      conv => whnf
      refine ⟨_, _, fun C => copy1 0 _ _ l (Nat.zero_le _) rfl, ?_⟩
      conv => whnf
      refine hQ _ _ _ ⟨.inr rfl, [.ref 1 0 l.length (some l.length) 1, I 0], rfl, .tuple [F1 l, I 0], ?_, .inl rfl⟩
      have hf := frz_ref (H := [.cells [L2 p], .cells (l.map I)]) (id := 1) (n := l.length) (d := 6) (l := l.map I) rfl (by simp) (by rw [List.map_map]; exact pure_ints 5 l)
      rw [List.map_map] at hf
      show ((mapO (frz [.cells [L2 p], .cells (l.map I)] 0 2 0 7) [.ref 1 0 l.length (some l.length) 1, I 0]).map AV.tuple) = _
      have e1 : mapO (frz [AObj.cells [L2 p], .cells (l.map I)] 0 2 0 7) [.ref 1 0 l.length (some l.length) 1, I 0] = some [F1 l, I 0] := by
        unfold mapO
        rw [show frz [AObj.cells [L2 p], .cells (l.map I)] 0 2 0 7 (.ref 1 0 l.length (some l.length) 1) = some (F1 l) from hf]
        rfl
      rw [e1]; rfl
  · have e : layErr p x = checkP p := if_pos hc
    rw [e, if_neg hc]
    refine fn_pureQ hmix lk40 rfl (puL1 _ _) fun Q hQ => ?_
    unfold rc40
    conv => whnf
    refine ⟨by show (pureD 8 (P1 p) && (pureD 8 (L1 [x]) && true)) = true; rw [puP', pu1']; rfl, _, open_bad [x] h1 h2 (by simp) hc, ?_⟩
    conv => whnf
    refine dcase (fun h => ?_) (fun h => absurd hc h)
    conv => whnf
    exact hQ _ _ _ (ret_pure (.inr rfl) (puL1 _ _) rfl)
end Go.Proofs.Ytlcebaejlnpdeaa.Ab

/-
  Contracts: the definitions' Sums and Sure.
-/
namespace Go.Proofs.Ytlcebaejlnpdeaa.Ab
open Go
set_option maxRecDepth 20000
set_option maxHeartbeats 4000000
/-- In how many orders a number is a seam. -/
def cnt (w : List Int) (a : Int) : Nat := ((seamA w).filter fun r => has r a).length
def cntL (w : List Int) (m : Int) (r : Nat) : List Int := ((List.range r).map fun i => ((i + 1 : Nat) : Int)).filter fun a => decide (m ≤ (cnt w a : Int))
/-- What the definitions say. -/
def rsums (w : List Int) : List Int := cntL w 1 (sumI w - 1).toNat
def rsure (w : List Int) : List Int := cntL w (perms w.length).length (sumI w - 1).toNat
theorem layErr_val {p : List (List Int)} {x : Int} (h : layErr p x = 0) : Val p ∧ ∃ k : Nat, x = k ∧ k < p.length := by
  unfold layErr at h
  by_cases hc : checkP p = 0
  · refine ⟨checkP_val hc, ?_⟩
    rw [if_neg (by simp [hc])] at h
    by_cases ho : outOf 0 ((p.length : Int) - 1) x = true
    · rw [if_pos ho] at h; cases h
    · have := outOf_false.1 (by simpa using ho)
      exact ⟨x.toNat, by omega, by omega⟩
  · rw [if_pos hc] at h; exact absurd h hc
end Go.Proofs.Ytlcebaejlnpdeaa.Ab

/-
  Contracts: slices' DeleteFunc, with Sure's closure.
-/
namespace Go.Proofs.Ytlcebaejlnpdeaa.Ab
open Go
set_option maxRecDepth 20000
set_option maxHeartbeats 4000000
theorem clear2 (lo id off len : Nat) (H : List AObj) (l : List AV) (hlo : lo ≤ id) (hH : H[id]? = some (.cells l)) (h : off + len ≤ l.length) :
    opClear Go.Proofs.Try.prog lo #[37] H [.ref id off len none 1] = some (.tuple [], H.set id (.cells (l.take off ++ List.replicate len (I 0) ++ l.drop (off + len)))) := by
  have e1 : ((#[37] : Array TypeId)[0]?).bind Go.Proofs.Try.prog.underlying = some (.slice 2) := by kernel_rfl
  have e2 : szOf Go.Proofs.Try.prog 2 = some 1 := by kernel_rfl
  have e3 : zeroCells Go.Proofs.Try.prog 2 = some [.int .i64 0] := by kernel_rfl
  have e4 : setCells off (repl len [AV.int .i64 0]) l = l.take off ++ List.replicate len (I 0) ++ l.drop (off + len) := by
    apply List.ext_getElem?
    intro j
    rw [setCells_get _ _ _ _ (by rw [repl_len]; simp; omega), repl_len, repl1]
    simp only [List.length_singleton, Nat.mul_one]
    by_cases hj : j < off
    · rw [if_neg (by omega), List.append_assoc, List.getElem?_append_left (by simp; omega), List.getElem?_take_of_lt hj]
    · by_cases hj2 : j < off + len
      · rw [if_pos ⟨by omega, hj2⟩, List.getElem?_append_left (by simp; omega), List.getElem?_append_right (by simp; omega), List.getElem?_replicate, List.getElem?_replicate, List.length_take, if_pos (by omega), if_pos (by omega)]
      · rw [if_neg (by omega), List.getElem?_append_right (by simp; omega), List.getElem?_drop]
        congr 1
        simp; omega
  unfold opClear
  simp only [e1, e2, e3, mutObj, hH, Option.map_some, if_pos hlo]
  rw [if_pos ⟨trivial, rfl, by decide⟩, if_pos (by omega), e4]
  rfl
theorem sure1_ok (s : List Int) (x : Int) (hs : s.length ≤ 140737488355328) : PO 89 [I x, .lptr [L1 s]] (B (!(has s x))) := by
  refine fn_pureQ hmix lk89 rfl rfl fun Q hQ => ?_
  unfold rc89
  conv => whnf
  refine ⟨by first | rfl | simp only [List.all_cons, List.all_nil, pu0, pub, pu1, pu2, pu1', pu2', pun, puf, puP, puP', puQ, puQ', Bool.and_true, Bool.and_self], _, contains_ok s x hs, ?_⟩
  conv => whnf
  exact hQ _ _ _ (ret_pure (.inr rfl) rfl rfl)
theorem idx_cases (p : Int → Bool) : ∀ (l : List Int) (i : Nat), (idxOf p l i = -1 ∧ ∀ x ∈ l, p x = false) ∨ ∃ k, ∃ (h : k < l.length), idxOf p l i = ((i + k : Nat) : Int) ∧ p l[k] = true ∧ ∀ x ∈ l.take k, p x = false
  | [], i => .inl ⟨rfl, by simp⟩
  | x :: l, i => by
    by_cases hx : p x = true
    · exact .inr ⟨0, by simp, by simp [idxOf, hx], hx, by simp⟩
    · rcases idx_cases p l (i + 1) with ⟨h1, h2⟩ | ⟨k, h, h1, h2, h3⟩
      · exact .inl ⟨by rw [idxOf, if_neg hx]; exact h1, fun y hy => (List.mem_cons.1 hy).elim (fun e => by rw [e]; simpa using hx) (h2 y)⟩
      · refine .inr ⟨k + 1, by simp; omega, by rw [idxOf, if_neg hx, h1]; omega, by simpa using h2, ?_⟩
        intro y hy
        rw [List.take_succ_cons] at hy
        rcases List.mem_cons.1 hy with rfl | hy
        · simpa using hx
        · exact h3 y hy
theorem atD (A cur rest : List Int) (x : Nat) (h : A.length ≤ x) (hx : x < cur.length) : ((A ++ cur.drop A.length ++ rest).map I)[x]? = some (I (cur.getD x 0)) := by
  rw [List.getElem?_map, List.getElem?_append_left (by simp; omega), List.getElem?_append_right h, List.getElem?_drop, show A.length + (x - A.length) = x by omega, List.getElem?_eq_getElem hx]
  simp [hx]
theorem setD (cur rest A : List Int) (v : Int) (h : A.length < cur.length) : ((A ++ cur.drop A.length ++ rest).map I).set A.length (I v) = ((A ++ [v]) ++ cur.drop (A ++ [v]).length ++ rest).map I := by
  rw [List.append_assoc, List.map_append, List.set_append_right _ _ (by simp), List.length_map, Nat.sub_self, List.drop_eq_getElem_cons h, List.cons_append, List.map_cons, List.set_cons_zero]
  simp
theorem shz_row {X : List AObj} {id : Nat} (l r : List Int) (h : X[id]? = some (.cells ((l ++ r).map I))) : shz X (.ref id 0 l.length none 1) = L1 l := by
  simp only [shz, shz0, row_int l r h]
  rfl
section
variable {H : List AObj} {id lo sid : Nat}
theorem shz_cl (s : List Int) (hS : H[sid]? = some (.cells [O1 s])) : shz H (.func 89 [] [.ptr sid 0]) = .func 89 [] [.lptr [L1 s]] := by
  simp only [shz, List.map_nil, List.map_cons, shz0, hS]
  rfl
theorem puCl (s : List Int) : pureD 8 (.func 89 [] [.lptr [L1 s]]) = true := by
  show (([] : List AV).all (pureD 7) && [AV.lptr [L1 s]].all (pureD 7)) = true
  simp only [List.all_nil, List.all_cons, Bool.and_true, Bool.true_and]
  show [L1 s].all (pureD 6) = true
  simp only [List.all_nil, List.all_cons, Bool.and_true]
  exact pure_ints 4 s
theorem boxS (s : List Int) : Boxes [.lptr [L1 s]] := ⟨by
  simp only [List.all_nil, List.all_cons, Bool.and_true]
  show [L1 s].all (pureD 6) = true
  simp only [List.all_nil, List.all_cons, Bool.and_true]
  exact pure_ints 4 s, by simp⟩
theorem del_sem (hlo : lo ≤ id) (cur rest s : List Int) (hne : sid ≠ id) (hc : cur.length ≤ 1000) (hs : s.length ≤ 1000) (hH : H[id]? = some (.cells ((cur ++ rest).map I))) (hS : H[sid]? = some (.cells [O1 s])) :
    Sem Go.Proofs.Try.prog (.fn 88) [.ref id 0 cur.length none 1, .func 89 [] [.ptr sid 0]] H lo (.ref id 0 (cur.filter (has s)).length none 1) (H.set id (.cells ((cur.filter (has s) ++ List.replicate (cur.length - (cur.filter (has s)).length) 0 ++ rest).map I))) := by
  have hid := (List.getElem?_eq_some_iff.1 hH).1
  have hbl : Nat.ble lo id = true := Nat.ble_eq_true_of_le hlo
  have gs : ∀ c : AObj, (H.set id c)[id]? = some c := fun c => by rw [List.getElem?_set_self hid]
  have hS2 : ∀ c : AObj, (H.set id c)[sid]? = some (.cells [O1 s]) := fun c => by rw [List.getElem?_set_ne (fun e => hne e.symm)]; exact hS
  have same : H.set id (.cells ((cur ++ rest).map I)) = H := by
    obtain ⟨h1, h2⟩ := List.getElem?_eq_some_iff.1 hH
    rw [← h2, List.set_getElem_self]
  refine fn_semQ hmix lk88s rfl ⟨by simp, fun j h1 h2 => by rw [List.getElem?_set_ne (by omega)]⟩ fun Q hQ => ?_
  unfold rc88s rc88s_8
  obtain ⟨c7, g7⟩ : ∃ c, rc88s_7 = c := ⟨_, rfl⟩
  rw [g7]
  conv => whnf
  refine ⟨_, _, call6 (bs := [L1 cur, .func 89 [] [.lptr [L1 s]]]) ?_ ?_ (indexFunc_ok cur (by omega) (fun x => !(has s x)) 89 _ (boxS s) fun x _ => sure1_ok s x (by omega)) rfl, ?_⟩
  · simp only [List.map_cons, List.map_nil, shz_row cur rest hH, shz_cl s hS]; rfl
  · simp only [List.map_cons, List.map_nil, shz_row cur rest hH, shz_cl s hS, List.all_cons, List.all_nil, puCl, Bool.and_true]; exact pure_L1 6 cur
  conv => whnf
  subst g7
  unfold rc88s_7
  obtain ⟨c4, g4⟩ : ∃ c, rc88s_4 = c := ⟨_, rfl⟩
  obtain ⟨c6, g6⟩ : ∃ c, rc88s_6 = c := ⟨_, rfl⟩
  rw [g4, g6]
  conv => whnf
  rcases idx_cases (fun x => !(has s x)) cur 0 with ⟨q1, q2⟩ | ⟨i, hi, q1, q2, q3⟩
  · rw [q1, decide_eq_true rfl]
    conv => whnf
    have e : cur.filter (has s) = cur := List.filter_eq_self.2 fun x hx => by have := q2 x hx; simpa using this
    rw [e, Nat.sub_self, List.replicate_zero, List.append_nil, same] at hQ
    exact hQ _ _ _ ⟨.inr rfl, ⟨rfl, fun j o hj => .inr hj⟩, rfl⟩
  · rw [q1, Nat.zero_add, decide_eq_false (by omega)]
    conv => whnf
    have q2 : has s cur[i] = false := by simpa using q2
    have e0 : (cur.take i).filter (has s) = cur.take i := List.filter_eq_self.2 fun x hx => by have := q3 x hx; simpa using this
    have e1 : (cur.take (i + 1)).filter (has s) = cur.take i := by
      rw [List.take_succ_eq_append_getElem hi, List.filter_append, e0]; simp [q2]
    have cl : ∀ c : AObj, shz (H.set id c) (.func 89 [] [.ptr sid 0]) = .func 89 [] [.lptr [L1 s]] := fun c => shz_cl s (hS2 c)
    rw [wrapS i (by omega)]
    refine .intro (fun m T H' => ∃ j, i + 1 ≤ j ∧ j ≤ cur.length ∧ m = cur.length - j ∧ ((cur.take j).filter (has s)).length + 1 ≤ j ∧ T = slots 42 [(0, .ref id 0 cur.length none 1), (1, .func 89 [] [.ptr sid 0]), (5, I ((cur.take j).filter (has s)).length), (6, I (j : Nat))] ∧ H' = H.set id (.cells (((cur.take j).filter (has s) ++ cur.drop ((cur.take j).filter (has s)).length ++ rest).map I))) (cur.length - (i + 1)) ⟨i + 1, Nat.le_refl _, by omega, rfl, by rw [e1]; simp; omega, ?_, ?_⟩ ?_
    · rw [e1, List.length_take, Nat.min_eq_left (by omega)]; rfl
    · rw [e1, List.length_take, Nat.min_eq_left (by omega), List.take_append_drop]; exact same.symm
    rintro m T H' ⟨j, hj1, hj2, rfl, hw, rfl, rfl⟩
    subst g4
    unfold rc88s_4 rc88s_3
    obtain ⟨c2, g2⟩ : ∃ c, rc88s_2 = c := ⟨_, rfl⟩
    rw [g2]
    conv => whnf
    by_cases hlt : (j : Int) < (cur.length : Int)
    · rw [decide_eq_true hlt]
      have hlt' : j < cur.length := by omega
      conv => whnf
      refine ⟨by omega, ?_⟩
      conv => whnf
      refine nthK_of (gs _) ?_
      conv => whnf
      refine nthK_of (x := I (cur.getD j 0)) (by rw [show 0 + (j : Int).toNat * 1 = j by simp]; exact atD _ cur rest j (by omega) hlt') ?_
      conv => whnf
      subst g2
      refine wpG fun K2 hK2 => ?_
      unfold rc88s_2
      obtain ⟨c1, g1⟩ : ∃ c, rc88s_1 = c := ⟨_, rfl⟩
      rw [g1]
      conv => whnf
      refine ⟨_, _, call6 (bs := [I (cur.getD j 0), .lptr [L1 s]]) ?_ ?_ (sure1_ok s (cur.getD j 0) (by omega)) rfl, ?_⟩
      · simp only [List.map_cons, List.map_nil]
        rw [show shz (H.set id (.cells (((cur.take j).filter (has s) ++ cur.drop ((cur.take j).filter (has s)).length ++ rest).map I))) (.ptr sid 0) = .lptr [L1 s] by simp only [shz, shz0, hS2]; rfl]
        rfl
      · simp only [List.map_cons, List.map_nil]
        rw [show shz (H.set id (.cells (((cur.take j).filter (has s) ++ cur.drop ((cur.take j).filter (has s)).length ++ rest).map I))) (.ptr sid 0) = .lptr [L1 s] by simp only [shz, shz0, hS2]; rfl]
        show ([I (cur.getD j 0), .lptr [L1 s]].all (pureD 8)) = true
        have := (boxS s).all8
        simp only [List.all_cons, List.all_nil, Bool.and_true] at this ⊢
        rw [this]; rfl
      conv => whnf
      have eg : cur.getD j 0 = cur[j] := by simp [hlt']
      have e2 : (cur.take (j + 1)).filter (has s) = (cur.take j).filter (has s) ++ if has s (cur.getD j 0) = true then [cur.getD j 0] else [] := by
        rw [List.take_succ_eq_append_getElem hlt', List.filter_append, eg]
        simp only [List.filter_cons, List.filter_nil]
      cases hb : has s (cur.getD j 0) with
      | true =>
        rw [hb, if_pos rfl] at e2
        conv => whnf
        subst g1
        unfold rc88s_1
        conv => whnf
        refine ⟨by omega, ?_⟩
        conv => whnf
        rw [hbl]
        conv => whnf
        refine nthK_of (gs _) ?_
        conv => whnf
        refine updK_of (by simp; omega) ?_
        conv => whnf
        refine hK2 _ _ _ ?_
        conv => whnf
        refine ⟨cur.length - (j + 1), by omega, j + 1, by omega, by omega, rfl, by rw [e2, List.length_append, List.length_singleton]; omega, ?_, ?_⟩
        · rw [e2, List.length_append, List.length_singleton, ← wrapS j (by omega), ← wrapS ((cur.take j).filter (has s)).length (by omega)]; rfl
        · rw [List.set_set, e2, show 0 + (((cur.take j).filter (has s)).length : Int).toNat * 1 = ((cur.take j).filter (has s)).length by simp, setD cur rest ((cur.take j).filter (has s)) _ (by omega)]
      | false =>
        rw [hb, if_neg (by decide), List.append_nil] at e2
        conv => whnf
        refine hK2 _ _ _ ?_
        conv => whnf
        refine ⟨cur.length - (j + 1), by omega, j + 1, by omega, by omega, rfl, by rw [e2]; omega, ?_, by rw [e2]⟩
        rw [e2, ← wrapS j (by omega)]; rfl
    · rw [decide_eq_false hlt]
      obtain rfl : j = cur.length := by omega
      rw [List.take_length] at hw ⊢
      conv => whnf
      subst g6
      unfold rc88s_6
      obtain ⟨c5, g5⟩ : ∃ c, rc88s_5 = c := ⟨_, rfl⟩
      rw [g5]
      conv => whnf
      refine ⟨rfl, by omega, fun _ => ?_, fun h => by omega⟩
      conv => whnf
      refine ⟨_, _, fun C => (clear2 lo id _ _ _ _ hlo (gs _) (by simp <;> omega)), ?_⟩
      conv => whnf
      subst g5
      unfold rc88s_5
      conv => whnf
      refine ⟨rfl, by omega, ?_⟩
      conv => whnf
      refine hQ _ _ _ ⟨.inr rfl, ?_, rfl⟩
      rw [List.set_set]
      generalize cur.filter (has s) = A at hw hQ ⊢
      have e : (List.take (0 + (A.length : Int).toNat * 1) ((A ++ cur.drop A.length ++ rest).map I) ++ List.replicate (cur.length - (A.length : Int).toNat) (I 0) ++ List.drop (0 + (A.length : Int).toNat * 1 + (cur.length - (A.length : Int).toNat)) ((A ++ cur.drop A.length ++ rest).map I)) = (A ++ List.replicate (cur.length - A.length) 0 ++ rest).map I := by
        rw [show 0 + (A.length : Int).toNat * 1 = A.length by simp, show (A.length : Int).toNat = A.length by simp]
        rw [← List.map_take, ← List.map_drop, List.append_assoc A, List.take_left' rfl, show A.length + (cur.length - A.length) = cur.length by omega, ← List.append_assoc, List.drop_left' (by simp; omega)]
        simp
      rw [e]
      exact ⟨rfl, fun j o hj => .inr hj⟩
end
end Go.Proofs.Ytlcebaejlnpdeaa.Ab

/-
  Plain words of layer 5: the greatest distance: joints, layer by layer.
-/
namespace Go.Proofs.Ytlcebaejlnpdeaa.Ab
structure Jf (W : Int) (n : Nat) (x : Jt) : Prop where
  o : x.o.length = n
  s : Pos x.s
  d0 : 0 ≤ x.d
  d1 : x.d ≤ W
end Go.Proofs.Ytlcebaejlnpdeaa.Ab

/-
  Contracts: the greatest distance: rounds.
-/
namespace Go.Proofs.Ytlcebaejlnpdeaa.Ab
open Go
set_option maxRecDepth 20000
set_option maxHeartbeats 4000000
section
variable (p : List (List Int)) (t : Nat) (ht : t < p.length) (hv : Val p) (Wd : Int) (Bh : List Jt) (nB : Nat) (hB : ∀ x ∈ Bh, Jf Wd nB x) (hn : nB ≤ 3) (hB0 : 0 < Bh.length) (hB1 : Bh.length ≤ 3125)
variable (c c1 : Cap) (hc : c = .own 4 ∨ c = .shared) (hc1 : c1 = .full ∨ c1 = .shared) (X0 : List AObj) (ii inn : Nat) (TT : List AV)
variable (g0 : X0[0]? = some (.cells [Bn p])) (g2 : X0[2]? = some (.cells [I Wd])) (g3 : X0[3]? = some (.cells [LJ c1 c1 Bh c])) (g4 : X0[4]? = some (.cells [.func 111 [] []])) (gi : X0[ii]? = some (.cells [I t]))
variable (hinn : inn < X0.length) (n0 : inn ≠ 0) (n2 : inn ≠ 2) (n3 : inn ≠ 3) (n4 : inn ≠ 4) (ni : inn ≠ ii)
include ht hv hB hn hB0 hB1 hc hc1 g0 g2 g3 g4 gi hinn n0 n2 n3 n4 ni
end
end Go.Proofs.Ytlcebaejlnpdeaa.Ab

/-
  Contracts: the greatest distance, all layers; Far, Apart.
-/
namespace Go.Proofs.Ytlcebaejlnpdeaa.Ab
open Go
set_option maxRecDepth 20000
set_option maxHeartbeats 4000000
end Go.Proofs.Ytlcebaejlnpdeaa.Ab

/-
  Contracts: the program's Sure.
-/
namespace Go.Proofs.Ytlcebaejlnpdeaa.Ab
open Go
set_option maxRecDepth 20000
set_option maxHeartbeats 4000000
/-- A call of mode 2 that hands out a row of numbers. -/
theorem call2r {P : Program} {k : FuncId} {args : List AV} {H D : List AObj} {lo : Nat} (l r : List Int) (h : Sem P (.fn k) args H H.length (.ref H.length 0 l.length none 1) (H ++ .cells ((l ++ r).map I) :: D)) : CallS P 2 lo (.fn k) args H (.ref H.length 0 l.length none 1) (H ++ [.cells ((l ++ r).map I)]) := by
  refine ⟨_, oneC_sound h, ?_⟩
  have e1 : freshIn H.length (.ref H.length 0 l.length none 1) = some H.length := by simp [freshIn, freshOf]
  have e2 : (H ++ AObj.cells ((l ++ r).map I) :: D)[H.length]? = some (.cells ((l ++ r).map I)) := by simp
  have e3 : frz (H ++ AObj.cells ((l ++ r).map I) :: D) H.length H.length H.length 8 (.ref H.length 0 l.length none 1) = some (.ref H.length 0 l.length none 1) := by simp [frz]
  have e4 : mapO (frz (H ++ AObj.cells ((l ++ r).map I) :: D) H.length H.length H.length 8) ((l ++ r).map I) = some ((l ++ r).map I) := mapO_id fun u hu => by obtain ⟨x, _, rfl⟩ := List.mem_map.1 hu; rfl
  simp only [callTo, oneC_self, Option.bind_some, e1, e2, e3, e4, Nat.le_refl, if_true]
theorem call2n {P : Program} {k : FuncId} {args : List AV} {H H' : List AObj} {lo : Nat} (h : Sem P (.fn k) args H H.length (.lst [] 0 .shared) H') : CallS P 2 lo (.fn k) args H (.lst [] 0 .shared) H := by
  refine ⟨_, oneC_sound h, ?_⟩
  have e1 : freshIn H.length (.lst [] 0 .shared) = none := by simp [freshIn, freshOf]
  simp only [callTo, oneC_self, Option.bind_some, e1]
  rfl
section
variable {H : List AObj} {id lo sid : Nat}
theorem sums_sem2 (p : List (List Int)) (k : Nat) (hk : k < p.length) (hv : Val p) (h2 : 2 ≤ p[k].length) (lo : Nat) :
    CallS Go.Proofs.Try.prog 2 lo (.fn 83) [Bn p, I k] H (.ref H.length 0 (psums p[k]).length none 1) (H ++ [.cells ((psums p[k] ++ List.replicate ((subs p[k]).length - (psums p[k]).length) 0).map I)]) := by
  refine call2r _ _ (D := Dd (dN p[k])) (fn_semQ hmix lk83s rfl ⟨by simp, fun j h1 h2 => by rw [List.getElem?_append_left (by omega)]⟩ fun Q hQ => ?_)
  exact sums_walk (Nat.le_refl _) p k hk hv Q (fun T h hT => by omega) (fun T h hT => hQ _ _ _ ⟨.inr rfl, ⟨rfl, fun j o hj => .inr hj⟩, by simp only [readR, hT, Option.map_some, packResults]⟩)
theorem sums_sem1 (p : List (List Int)) (k : Nat) (hk : k < p.length) (hv : Val p) (h2 : p[k].length = 1) (lo : Nat) :
    CallS Go.Proofs.Try.prog 2 lo (.fn 83) [Bn p, I k] H (.lst [] 0 .shared) H := by
  refine call2n (H' := H) (fn_semQ hmix lk83s rfl ⟨Nat.le_refl _, fun j h1 h2 => rfl⟩ fun Q hQ => ?_)
  exact sums_walk (Nat.le_refl _) p k hk hv Q (fun T h hT => hQ _ _ _ ⟨.inr rfl, ⟨rfl, fun j o hj => .inr hj⟩, by simp only [readR, hT, Option.map_some, packResults]⟩) (fun T h hT => by omega)
theorem del0_sem (s : List Int) (hs : s.length ≤ 1000) (hS : H[sid]? = some (.cells [O1 s])) :
    Sem Go.Proofs.Try.prog (.fn 88) [.lst [] 0 .shared, .func 89 [] [.ptr sid 0]] H lo (.lst [] 0 .shared) H := by
  refine fn_semQ hmix lk88s rfl ⟨Nat.le_refl _, fun j h1 h2 => rfl⟩ fun Q hQ => ?_
  unfold rc88s rc88s_8
  obtain ⟨c7, g7⟩ : ∃ c, rc88s_7 = c := ⟨_, rfl⟩
  rw [g7]
  conv => whnf
  refine ⟨_, _, call6 (bs := [L1 [], .func 89 [] [.lptr [L1 s]]]) ?_ ?_ (indexFunc_ok [] (by simp) (fun x => !(has s x)) 89 _ (boxS s) fun x _ => sure1_ok s x (by omega)) rfl, ?_⟩
  · simp only [List.map_cons, List.map_nil, shz_cl s hS]; rfl
  · simp only [List.map_cons, List.map_nil, shz_cl s hS, List.all_cons, List.all_nil, puCl, Bool.and_true]; rfl
  conv => whnf
  subst g7
  unfold rc88s_7
  conv => whnf
  exact hQ _ _ _ ⟨.inr rfl, ⟨rfl, fun j o hj => .inr hj⟩, rfl⟩
end
/-- What is left of sums, order by order, and what lies behind. -/
def leftS (w : List Int) : Nat → List Int × List Int
  | 0 => (psums w, List.replicate ((subs w).length - (psums w).length) 0)
  | r + 1 => (((leftS w r).1.filter (has (seamsOf w ((perms w.length).getD r [])))), List.replicate ((leftS w r).1.length - ((leftS w r).1.filter (has (seamsOf w ((perms w.length).getD r [])))).length) 0 ++ (leftS w r).2)
theorem leftS_len (w : List Int) : ∀ r, (leftS w r).1.length ≤ (psums w).length
  | 0 => Nat.le_refl _
  | r + 1 => Nat.le_trans (List.length_filter_le _ _) (leftS_len w r)
theorem leftS_fold (w : List Int) : ∀ r, r ≤ (perms w.length).length → (leftS w r).1 = ((perms w.length).take r).foldl (fun cur o => cur.filter (has (seamsOf w o))) (psums w)
  | 0, _ => rfl
  | r + 1, h => by
    rw [foldl_take _ _ _ r (by omega), ← leftS_fold w r (by omega)]
    simp only [leftS]
    rw [show (perms w.length).getD r [] = (perms w.length)[r] by simp [show r < (perms w.length).length by omega]]
theorem frz_pair {H : List AObj} {id : Nat} (l r : List Int) (e : Int) (h : H[id]? = some (.cells ((l ++ r).map I))) : frz H 0 H.length 0 8 (.tuple [.ref id 0 l.length none 1, I e]) = some (.tuple [L1 l, I e]) := by
  show ((mapO (frz H 0 H.length 0 7) [.ref id 0 l.length none 1, I e]).map AV.tuple) = _
  have e1 : mapO (frz H 0 H.length 0 7) [.ref id 0 l.length none 1, I e] = some [L1 l, I e] := by
    unfold mapO
    rw [frz_row (d := 5) l r h]
    rfl
  rw [e1]; rfl
noncomputable abbrev lp42 (T : List AV) (st : LoopState) : AObj := .loop st none 42 T [27] (rngA Go.Proofs.Try.prog 42 0) (rngB Go.Proofs.Try.prog 42 0) ann42
noncomputable def XA (p : List (List Int)) (k : Nat) (w : List Int) (r : Nat) : List AObj := [.cells [L2 p], .cells [I k], .cells [Bn p], .cells (((leftS w r).1 ++ (leftS w r).2).map I), .cells [.ref 3 0 (leftS w r).1.length none 1]]
noncomputable abbrev T42 (x4 x5 x7 o x12 x14 x19 x21 x22 x24 x25 x26 : AV) : List AV := slots 36 [(3, .ptr 1 0), (4, x4), (5, x5), (6, .ptr 2 0), (7, x7), (8, o), (12, x12), (14, x14), (19, x19), (21, x21), (22, x22), (24, x24), (25, x25), (26, x26)]
theorem roundA (p : List (List Int)) (k : Nat) (hk : k < p.length) (hv : Val p) (r : Nat) (hr : r < (perms p[k].length).length) (Y : List AObj) (x4 x5 x7 x12 x14 x19 x21 x22 x24 x25 x26 : AV) (TT : List AV) (hT : TT = T42 x4 x5 x7 (.ptr 4 0) x12 x14 x19 x21 x22 x24 x25 x26) :
    Sem Go.Proofs.Try.prog (.yield 5) [U1 (perms p[k].length)[r]] (XA p k p[k] r ++ lp42 TT .ready :: Y) 0 (.bool true) (XA p k p[k] (r + 1) ++ lp42 TT .ready :: (Y ++ List.replicate 1 .dead)) := by
  have h5 := hv.s5 _ (List.getElem_mem hk)
  have h1 := hv.s1 _ (List.getElem_mem hk)
  have hI : InL p[k] (perms p[k].length)[r] := perm_inL (hv.sm (List.getElem_mem hk)) (List.getElem_mem hr) h5
  have hlr := (perms_mem (List.getElem_mem hr)).1
  refine sem_round hmix (l := 5) (T := TT) lkY42A lkY42B rfl rfl ⟨by simp [XA], fun _ h => by omega⟩ ?_
  generalize hl : (perms p[k].length)[r] = l at *
  obtain ⟨LR, hLR⟩ : ∃ x, x = lp42 TT .ready := ⟨_, rfl⟩
  obtain ⟨LB, hLB⟩ : ∃ x, x = lp42 TT .busy := ⟨_, rfl⟩
  rw [← hLR]
  rw [show AObj.loop .busy none 42 TT [27] (rngA Go.Proofs.Try.prog 42 0) (rngB Go.Proofs.Try.prog 42 0) ann42 = LB from hLB.symm, show AObj.loop .ready none 42 TT [27] (rngA Go.Proofs.Try.prog 42 0) (rngB Go.Proofs.Try.prog 42 0) ann42 = LR from hLR.symm]
  rw [hT]
  unfold rcY42A
  conv => whnf
  refine ⟨rfl, rfl, ?_⟩
  rw [show (XA p k p[k] r ++ LR :: Y).set 5 LB = XA p k p[k] r ++ LB :: Y from rfl]
  refine wpG fun K1 hK1 => ?_
  unfold rcY42B
  conv => whnf
  refine ⟨by simp only [List.all_cons, List.all_nil, puQ, pu1, Bool.and_true]; rfl, _, pseams_ok p k hk l hI (by omega), ?_⟩
  conv => whnf
  refine nthK_of (getLast0 _ _ _ rfl) ?_
  conv => whnf
  rw [setLast _ _ _ _ rfl]
  have hsl : (seamsOf p[k] l).length ≤ 1000 := by rw [seamsOf, seamsGo_length]; simp; omega
  have hpl : (psums p[k]).length ≤ 1000 := by
    refine Nat.le_trans (psums_le _) ?_
    have : 2 ^ p[k].length ≤ 32 := (pow_val ⟨p[k].length, by omega⟩).2
    simp only [subs, List.length_map, List.length_range]
    omega
  have hcl := leftS_len p[k] r
  have hgl : (perms p[k].length).getD r [] = l := by rw [← hl]; simp [hr]
  have hstep : leftS p[k] (r + 1) = (((leftS p[k] r).1.filter (has (seamsOf p[k] l))), List.replicate ((leftS p[k] r).1.length - ((leftS p[k] r).1.filter (has (seamsOf p[k] l))).length) 0 ++ (leftS p[k] r).2) := by
    simp only [leftS, hgl]
  refine ⟨_, _, call1 (del_sem (id := 3) (sid := (XA p k p[k] r ++ LB :: Y).length) (Nat.zero_le _) (leftS p[k] r).1 (leftS p[k] r).2 (seamsOf p[k] l) (by simp [XA]) (by omega) hsl rfl (getLast0 _ _ _ rfl)), ?_⟩
  conv => whnf
  refine hK1 _ _ _ ?_
  conv => whnf
  refine ⟨rfl, rfl, ?_⟩
  have hX : XA p k p[k] (r + 1) = [.cells [L2 p], .cells [I k], .cells [Bn p], .cells (((leftS p[k] r).1.filter (has (seamsOf p[k] l)) ++ List.replicate ((leftS p[k] r).1.length - ((leftS p[k] r).1.filter (has (seamsOf p[k] l))).length) 0 ++ (leftS p[k] r).2).map I), .cells [.ref 3 0 ((leftS p[k] r).1.filter (has (seamsOf p[k] l))).length none 1]] := by
    unfold XA; rw [hstep]; simp only [List.append_assoc]
  rw [hX]
  exact fgt_tail ([.cells [L2 p], .cells [I k], .cells [Bn p], .cells (((leftS p[k] r).1.filter (has (seamsOf p[k] l)) ++ List.replicate ((leftS p[k] r).1.length - ((leftS p[k] r).1.filter (has (seamsOf p[k] l))).length) 0 ++ (leftS p[k] r).2).map I), .cells [.ref 3 0 ((leftS p[k] r).1.filter (has (seamsOf p[k] l))).length none 1]] ++ LR :: Y) [.cells [O1 (seamsOf p[k] l)]]
noncomputable def XB (p : List (List Int)) (k : Nat) (_ : Nat) : List AObj := [.cells [L2 p], .cells [I k], .cells [Bn p], .cells [.lst [] 0 .shared]]
theorem roundB (p : List (List Int)) (k : Nat) (hk : k < p.length) (hv : Val p) (r : Nat) (hr : r < (perms p[k].length).length) (Y : List AObj) (x4 x5 x7 x12 x14 x19 x21 x22 x24 x25 x26 : AV) (TT : List AV) (hT : TT = T42 x4 x5 x7 (.ptr 3 0) x12 x14 x19 x21 x22 x24 x25 x26) :
    Sem Go.Proofs.Try.prog (.yield 4) [U1 (perms p[k].length)[r]] (XB p k r ++ lp42 TT .ready :: Y) 0 (.bool true) (XB p k (r + 1) ++ lp42 TT .ready :: (Y ++ List.replicate 1 .dead)) := by
  have h5 := hv.s5 _ (List.getElem_mem hk)
  have h1 := hv.s1 _ (List.getElem_mem hk)
  have hI : InL p[k] (perms p[k].length)[r] := perm_inL (hv.sm (List.getElem_mem hk)) (List.getElem_mem hr) h5
  have hlr := (perms_mem (List.getElem_mem hr)).1
  refine sem_round hmix (l := 4) (T := TT) lkY42A lkY42B rfl rfl ⟨by simp [XB], fun _ h => by omega⟩ ?_
  generalize hl : (perms p[k].length)[r] = l at *
  obtain ⟨LR, hLR⟩ : ∃ x, x = lp42 TT .ready := ⟨_, rfl⟩
  obtain ⟨LB, hLB⟩ : ∃ x, x = lp42 TT .busy := ⟨_, rfl⟩
  rw [← hLR]
  rw [show AObj.loop .busy none 42 TT [27] (rngA Go.Proofs.Try.prog 42 0) (rngB Go.Proofs.Try.prog 42 0) ann42 = LB from hLB.symm, show AObj.loop .ready none 42 TT [27] (rngA Go.Proofs.Try.prog 42 0) (rngB Go.Proofs.Try.prog 42 0) ann42 = LR from hLR.symm]
  rw [hT]
  unfold rcY42A
  conv => whnf
  refine ⟨rfl, rfl, ?_⟩
  rw [show (XB p k r ++ LR :: Y).set 4 LB = XB p k r ++ LB :: Y from rfl]
  refine wpG fun K1 hK1 => ?_
  unfold rcY42B
  conv => whnf
  refine ⟨by simp only [List.all_cons, List.all_nil, puQ, pu1, Bool.and_true]; rfl, _, pseams_ok p k hk l hI (by omega), ?_⟩
  conv => whnf
  refine nthK_of (getLast0 _ _ _ rfl) ?_
  conv => whnf
  rw [setLast _ _ _ _ rfl]
  have hsl : (seamsOf p[k] l).length ≤ 1000 := by rw [seamsOf, seamsGo_length]; simp; omega
  refine ⟨_, _, call1 (del0_sem (sid := (XB p k r ++ LB :: Y).length) (seamsOf p[k] l) hsl (getLast0 _ _ _ rfl)), ?_⟩
  conv => whnf
  refine hK1 _ _ _ ?_
  conv => whnf
  refine ⟨rfl, rfl, ?_⟩
  exact fgt_tail (XB p k (r + 1) ++ LR :: Y) [.cells [O1 (seamsOf p[k] l)]]
theorem pSure_ok (p : List (List Int)) (x : Int) (h1 : p.length ≤ 140737488355328) (h2 : ∀ l ∈ p, l.length ≤ 140737488355328) :
    PO 42 [P1 p, I x] (.tuple [L1 (if layErr p x = 0 then (perms (p.getD x.toNat []).length).foldl (fun cur o => cur.filter (has (seamsOf (p.getD x.toNat []) o))) (psums (p.getD x.toNat [])) else []), I (layErr p x)]) := by
  refine fn_pureQ hmix lk42 rfl (puL1 _ _) fun Q hQ => ?_
  unfold rc42
  conv => whnf
  by_cases hc : checkP p = 0
  · have hv := checkP_val hc
    cases ha : outOf 0 ((p.length : Int) - 1) x with
    | true =>
      have e : layErr p x = 2 := by unfold layErr; rw [if_neg (by simp [hc]), if_pos ha]
      rw [e, if_neg (by decide)] at hQ
      refine ⟨by show (pureD 8 (P1 p) && (pureD 8 (L1 [x]) && true)) = true; rw [puP', pu1']; rfl, _, open_arg [x] h1 h2 (by simp) hc (by simpa using ha), ?_⟩
      conv => whnf
      exact hQ _ _ _ (ret_pure (.inr rfl) rfl rfl)
    | false =>
      have hx := outOf_false.1 ha
      obtain ⟨k, rfl⟩ : ∃ k : Nat, x = k := ⟨x.toNat, by omega⟩
      have hk : k < p.length := by omega
      have e : layErr p (k : Int) = 0 := by unfold layErr; rw [if_neg (by simp [hc]), if_neg (by simp [ha])]
      rw [e, if_pos rfl, show p.getD (k : Int).toNat [] = p[k] by simp [hk]] at hQ
      refine ⟨by show (pureD 8 (P1 p) && (pureD 8 (L1 [(k : Int)]) && true)) = true; rw [puP', pu1']; rfl, _, open_good [(k : Int)] h1 h2 (by simp) hc (by simpa using ha), ?_⟩
      conv => whnf
      change ∃ v H', CallS Go.Proofs.Try.prog 2 0 (.fn 83) [Bn p, I k] [.cells [L2 p], .cells [I k], .cells [Bn p]] v H' ∧ _
      by_cases hn : p[k].length = 1
      · refine ⟨_, _, sums_sem1 p k hk hv hn 0, ?_⟩
        conv => whnf
        refine ⟨by first | rfl | simp only [List.all_cons, List.all_nil, pu0, pub, pu1, pu2, pu1', pu2', pun, puf, puP, puP', puQ, puQ', Bool.and_true, Bool.and_self], _, all_ok86 p k, ?_⟩
        conv => whnf
        have hsem := all1_sem p k hk (by omega) (hv.s5 _ (List.getElem_mem hk)) (by have := hv.n4; omega) (XB p k) (fun _ => 1) 4 0 (lp42 (T42 (.lst [] 0 .shared) (I 0) (I 0) (.ptr 3 0) (P1 p) (.lst [I k] 1 .shared) (B (decide ((0 : Int) ≠ 0))) (Bn p) (I k) (Bn p) (I k) (.func 107 [] [.lptr [Bn p], .lptr [I k]])) .ready) (fun r => rfl) (Nat.zero_le _) (fun _ _ _ h => by omega)
          (fun r hr Y => roundB p k hk hv r hr Y _ _ _ _ _ _ _ _ _ _ _ _ rfl)
        refine ⟨rfl, .tuple [], _, .ready, none, 42, _, [27], rngA Go.Proofs.Try.prog 42 0, rngB Go.Proofs.Try.prog 42 0, ann42, hsem, rfl, by simp, ?_⟩
        conv => whnf
        have hnil : ∀ L : List (List Int), L.foldl (fun cur o => cur.filter (has (seamsOf p[k] o))) [] = [] := by
          intro L
          induction L with
          | nil => rfl
          | cons a L ih => rw [List.foldl_cons]; exact ih
        rw [psums_one _ hn, hnil] at hQ
        exact hQ _ _ _ (ret_pure (.inr rfl) (puL1 _ _) rfl)
      · have hn2 : 2 ≤ p[k].length := by have := hv.s1 _ (List.getElem_mem hk); omega
        refine ⟨_, _, sums_sem2 p k hk hv hn2 0, ?_⟩
        conv => whnf
        refine ⟨by first | rfl | simp only [List.all_cons, List.all_nil, pu0, pub, pu1, pu2, pu1', pu2', pun, puf, puP, puP', puQ, puQ', Bool.and_true, Bool.and_self], _, all_ok86 p k, ?_⟩
        conv => whnf
        have hsem := all1_sem p k hk (by omega) (hv.s5 _ (List.getElem_mem hk)) (by have := hv.n4; omega) (XA p k p[k]) (fun _ => 1) 5 0 (lp42 (T42 (.lst [] 0 .shared) (I 0) (I 0) (.ptr 4 0) (P1 p) (.lst [I k] 1 .shared) (B (decide ((0 : Int) ≠ 0))) (Bn p) (I k) (Bn p) (I k) (.func 107 [] [.lptr [Bn p], .lptr [I k]])) .ready) (fun r => rfl) (Nat.zero_le _) (fun _ _ _ h => by omega)
          (fun r hr Y => roundA p k hk hv r hr Y _ _ _ _ _ _ _ _ _ _ _ _ rfl)
        refine ⟨rfl, .tuple [], _, .ready, none, 42, _, [27], rngA Go.Proofs.Try.prog 42 0, rngB Go.Proofs.Try.prog 42 0, ann42, hsem, rfl, by simp, ?_⟩
        conv => whnf
        have hN := leftS_fold p[k] (perms p[k].length).length (Nat.le_refl _)
        rw [List.take_length] at hN
        rw [← hN] at hQ
        exact hQ _ _ _ ⟨.inr rfl, [.ref 3 0 (leftS p[k] (perms p[k].length).length).1.length none 1, I 0], rfl, _, frz_pair (leftS p[k] (perms p[k].length).length).1 (leftS p[k] (perms p[k].length).length).2 0 rfl, .inl rfl⟩
  · have e : layErr p x = checkP p := if_pos hc
    rw [e, if_neg hc] at hQ
    refine ⟨by show (pureD 8 (P1 p) && (pureD 8 (L1 [x]) && true)) = true; rw [puP', pu1']; rfl, _, open_bad [x] h1 h2 (by simp) hc, ?_⟩
    conv => whnf
    refine dcase (fun h => ?_) (fun h => absurd hc h)
    conv => whnf
    exact hQ _ _ _ (ret_pure (.inr rfl) (puL1 _ _) rfl)
end Go.Proofs.Ytlcebaejlnpdeaa.Ab

/-
  Plain law of layer 5: the program's greatest distance is the definitions'; its orders have it.
-/
namespace Go.Proofs.Ytlcebaejlnpdeaa.Ab
/-- What joints of a first part say. -/
structure Jd (W : Int) (q : List (List Int)) (x : Jt) : Prop where
  ord : Ords q x.o
  d : x.d = distGo (seamsBy q x.o) W
  last : q = [] ∨ ∃ l, seamsBy q x.o = l ++ [x.s]
end Go.Proofs.Ytlcebaejlnpdeaa.Ab

/-
  Plain law of layer 5: no orders have fewer meetings, none a greater distance; with a layer less, or more.
-/
namespace Go.Proofs.Ytlcebaejlnpdeaa.Ab
end Go.Proofs.Ytlcebaejlnpdeaa.Ab
