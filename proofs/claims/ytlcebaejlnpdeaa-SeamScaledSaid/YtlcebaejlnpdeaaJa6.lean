/-
  A table of closed calls.
-/
import Derived.Test.YtlcebaejlnpdeaaJa5
import Derived.Test.YtlcebaejlnpdeaaJa4
import Derived.Test.YtlcebaejlnpdeaaJa3
import Derived.KernelRfl
set_option linter.unusedSimpArgs false
set_option linter.unusedVariables false
set_option linter.unusedSectionVars false
namespace Go.Proofs.Ytlcebaejlnpdeaa.Ab
open Go
def capEq : Cap → Cap → Bool
  | .shared, .shared => true
  | .full, .full => true
  | .own a, .own b => Nat.beq a b
  | .uniq a, .uniq b => Nat.beq a b
  | _, _ => false
theorem capEq_ok : ∀ {a b : Cap}, capEq a b = true → a = b := by
  intro a b h
  cases a <;> cases b <;> simp only [capEq, Bool.false_eq_true] at h <;> first | rfl | (rw [Nat.eq_of_beq_eq_true h])
def lEq (f : AV → AV → Bool) : List AV → List AV → Bool
  | [], [] => true
  | a :: l, b :: r => match f a b with
    | true => lEq f l r
    | false => false
  | _, _ => false
theorem lEq_ok {f : AV → AV → Bool} (hf : ∀ a b, f a b = true → a = b) : ∀ {a b : List AV}, lEq f a b = true → a = b
  | [], [], _ => rfl
  | [], _ :: _, h => by simp [lEq] at h
  | _ :: _, [], h => by simp [lEq] at h
  | a :: l, b :: r, h => by
    simp only [lEq] at h
    split at h
    · rename_i hab; rw [hf a b hab, lEq_ok hf h]
    · cases h
/-- Equality of closed values. -/
def avEq : Nat → AV → AV → Bool
  | 0, _, _ => false
  | d + 1, a, b => match a, b with
    | .bool x, .bool y => match x, y with | true, true => true | false, false => true | _, _ => false
    | .int k x, .int q y => match decide (k = q), decide (x = y) with | true, true => true | _, _ => false
    | .nilp, .nilp => true
    | .lptr x, .lptr y => lEq (avEq d) x y
    | .lst x n c, .lst y m e => match lEq (avEq d) x y, Nat.beq n m, capEq c e with | true, true, true => true | _, _, _ => false
    | .func f x y, .func g z w => match Nat.beq f g, lEq (avEq d) x z, lEq (avEq d) y w with | true, true, true => true | _, _, _ => false
    | .agg x, .agg y => lEq (avEq d) x y
    | .tuple x, .tuple y => lEq (avEq d) x y
    | _, _ => false
theorem avEq_ok : ∀ (d : Nat) (a b : AV), avEq d a b = true → a = b
  | 0, _, _, h => by simp [avEq] at h
  | d + 1, a, b, h => by
    have ih := avEq_ok d
    unfold avEq at h
    split at h
    · split at h <;> first | rfl | cases h
    · rename_i k x q y
      split at h
      · rename_i h1 h2; rw [of_decide_eq_true h1, of_decide_eq_true h2]
      · cases h
    · rfl
    · rw [lEq_ok ih h]
    · split at h
      · rename_i h1 h2 h3; rw [lEq_ok ih h1, Nat.eq_of_beq_eq_true h2, capEq_ok h3]
      · cases h
    · split at h
      · rename_i h1 h2 h3; rw [Nat.eq_of_beq_eq_true h1, lEq_ok ih h2, lEq_ok ih h3]
      · cases h
    · rw [lEq_ok ih h]
    · rw [lEq_ok ih h]
    · cases h
/-- An entry: a pure call, or a call that hands out a map. -/
inductive Ent where
  | pure (k : Nat) (args : List AV) (v : AV)
  | map (k : Nat) (args : List AV) (es : List (Nat × AV × AV)) (clock : Nat)
def entOk (P : Program) : Ent → Prop
  | .pure k args v => PureOk P k args v
  | .map k args es clock => ∀ H, Sem P (.fn k) args H H.length (.map H.length) (H ++ [.map es clock])
def look (k : Nat) (args : List AV) (H : List AObj) (lo : Nat) : List Ent → Option (AV × List AObj)
  | [] => none
  | .pure q bs v :: r => match Nat.beq k q with
    | true => match lEq (avEq 20) args bs with
      | true => match H with
        | [] => some (v, [])
        | _ => look k args H lo r
      | false => look k args H lo r
    | false => look k args H lo r
  | .map q bs es clock :: r => match Nat.beq k q with
    | true => match lEq (avEq 20) args bs with
      | true => match Nat.beq lo H.length with
        | true => some (.map H.length, H ++ [.map es clock])
        | false => look k args H lo r
      | false => look k args H lo r
    | false => look k args H lo r
def tabOf (l : List Ent) : CallFn := fun tgt args H lo => match tgt with
  | .fn k => look k args H lo l
  | _ => none
theorem Sem.lo0 {P : Program} {tgt : Tgt} {args : List AV} {r : AV} {H' : List AObj} (h : Sem P tgt args [] 0 r H') (lo : Nat) : Sem P tgt args [] lo r H' :=
  ⟨⟨h.1.1, fun _ _ h => by simp at h⟩, h.2⟩
theorem look_ok {P : Program} {k : Nat} {args : List AV} {H : List AObj} {lo : Nat} {r : AV} {H' : List AObj} : ∀ {l : List Ent}, (∀ e ∈ l, entOk P e) → look k args H lo l = some (r, H') → Sem P (.fn k) args H lo r H'
  | [], _, h => by simp [look] at h
  | .pure q bs v :: l, hl, h => by
    have hrec := look_ok (k := k) (args := args) (H := H) (lo := lo) (r := r) (H' := H') fun e he => hl e (List.mem_cons_of_mem _ he)
    unfold look at h
    split at h
    · rename_i h1
      split at h
      · rename_i h2
        split at h
        · cases h
          have := hl (.pure q bs r) List.mem_cons_self
          rw [Nat.eq_of_beq_eq_true h1, lEq_ok (avEq_ok 20) h2]
          exact this.1.lo0 lo
        · exact hrec h
      · exact hrec h
    · exact hrec h
  | .map q bs es clock :: l, hl, h => by
    have hrec := look_ok (k := k) (args := args) (H := H) (lo := lo) (r := r) (H' := H') fun e he => hl e (List.mem_cons_of_mem _ he)
    unfold look at h
    split at h
    · rename_i h1
      split at h
      · rename_i h2
        split at h
        · rename_i h3
          cases h
          have := hl (.map q bs es clock) List.mem_cons_self
          rw [Nat.eq_of_beq_eq_true h1, lEq_ok (avEq_ok 20) h2, Nat.eq_of_beq_eq_true h3]
          exact this H
        · exact hrec h
      · exact hrec h
    · exact hrec h
theorem tab_sound {P : Program} {l : List Ent} (hl : ∀ e ∈ l, entOk P e) : CSound P (tabOf l) := csound_of fun tgt args H lo r H' h => by
  cases tgt with
  | fn k => exact look_ok hl h
  | yield i => simp [tabOf] at h
/-- Every function's annotations fit. -/
def okFrom (A : FuncId → FAnn) : Nat → List Func → Bool
  | _, [] => true
  | k, f :: r => match f.body with
    | some c => match codeOk (A k) c, f.name == "runtime.NumGoroutine" with
      | true, false => okFrom A (k + 1) r
      | _, _ => false
    | none => okFrom A (k + 1) r
theorem okFrom_ok {A : FuncId → FAnn} : ∀ {l : List Func} {k : Nat}, okFrom A k l = true → ∀ (i : Nat) (f : Func) (c : Code), l[i]? = some f → f.body = some c → codeOk (A (k + i)) c = true ∧ f.name ≠ "runtime.NumGoroutine"
  | [], _, _, i, f, c, h, _ => by simp at h
  | g :: r, k, h, i, f, c, hf, hc => by
    unfold okFrom at h
    cases i with
    | zero =>
      simp at hf; subst hf
      rw [hc] at h
      simp only at h
      split at h
      · rename_i h1 h2; exact ⟨h1, by simpa using h2⟩
      · cases h
    | succ i =>
      have hr : okFrom A (k + 1) r = true := by
        split at h
        · split at h
          · exact h
          · cases h
        · exact h
      have := okFrom_ok hr i f c (by simpa using hf) hc
      rw [show k + (i + 1) = k + 1 + i by omega]; exact this
theorem okAll {P : Program} {A : FuncId → FAnn} (h : okFrom A 0 P.funcs.toList = true) (k : Nat) (f : Func) (c : Code) (hf : P.funcs[k]? = some f) (hc : f.body = some c) : codeOk (A k) c = true ∧ f.name ≠ "runtime.NumGoroutine" := by
  have := okFrom_ok h k f c (by simpa using hf) hc
  rwa [Nat.zero_add] at this
theorem ann_ok : okFrom ann 0 Go.Proofs.Try.prog.funcs.toList = true := by kernel_rfl
/-- A closed call, over no objects. -/
noncomputable def runC (l : List Ent) (k : Nat) (args : List AV) : Option AV := match callF Go.Proofs.Try.prog ann (tabOf l) 300 (.fn k) args [] 0 with
  | some (r, H2) => match frz H2 0 H2.length 0 8 r with
    | some v => match pureD 8 v.settle with
      | true => some v.settle
      | false => none
    | none => none
  | none => none
theorem runC_ok {l : List Ent} (hl : ∀ e ∈ l, entOk Go.Proofs.Try.prog e) {k : Nat} {args : List AV} {v : AV} (h : runC l k args = some v) : PureOk Go.Proofs.Try.prog k args v := by
  unfold runC at h
  split at h
  · rename_i r H2 hc
    split at h
    · rename_i u hf
      split at h
      · rename_i hp
        cases h
        have hs := (callF_sound hmix ann (tab_sound hl) (okAll ann_ok) 300).sem hc
        refine ⟨⟨Low.refl _ _, hs.2.1, fun B ω κ S w xs hH hn hv => CallsIn.mono (hs.2.2 B ω κ S w xs hH hn hv) fun e w' he => ?_⟩, hp⟩
        cases e with
        | returned x =>
          have hpost := post_frz hH (fun id hid => by simp at hid) hf he
          show Post B ω κ S w [] u.settle x w'
          cases u with
          | lst cells len cp =>
            cases cp with
            | uniq z => exact hpost.settle
            | _ => exact hpost
          | _ => exact hpost
        | panicked c => exact he.elim
        | outgrown => exact he.elim
      · cases h
    · cases h
  · cases h
end Go.Proofs.Ytlcebaejlnpdeaa.Ab

/-
  Plain words of layer 5: the program's orders: joints, layer by layer.
-/
namespace Go.Proofs.Ytlcebaejlnpdeaa.Ab
/-- A joint: orders from a layer on, that layer's seams, meetings, the distance. -/
structure Jt where
  o : List (List Int)
  s : List Int
  m : Int
  d : Int
def bestJ (better : Jt → Jt → Bool) (l : List Jt) (x : Jt) : Jt := l.foldl (fun o y => if better y o = true then y else o) x
def bestL (better : Jt → Jt → Bool) (l : List Jt) : Jt := match l with
  | [] => ⟨[], [], 0, 0⟩
  | x :: t => bestJ better t x
def fw (x y : Jt) : Bool := decide (x.m < y.m)
def fr (x y : Jt) : Bool := decide (y.d < x.d)
def tryJ (s : List Int) (j : Jt) : Jt := ⟨j.o, [], j.m + common s j.s, 0⟩
/-- One layer more in front. -/
def jointOf (layer : List Int) (behind : List Jt) (o : List Int) : Jt :=
  ⟨o :: (bestL fw (behind.map (tryJ (seamsOf layer o)))).o, seamsOf layer o, (bestL fw (behind.map (tryJ (seamsOf layer o)))).m, 0⟩
def nextJ (layer : List Int) (behind : List Jt) : List Jt := (perms layer.length).map (jointOf layer behind)
def joints : List (List Int) → List Jt
  | [] => [⟨[], [], 0, 0⟩]
  | a :: r => nextJ a (joints r)
def progOrders (p : List (List Int)) : List (List Int) := (bestL fw (joints p)).o
theorem nextJ_len (a : List Int) (b : List Jt) : (nextJ a b).length = (perms a.length).length := by simp [nextJ]
/-- What bounds joints. -/
structure Jb (n : Nat) (x : Jt) : Prop where
  o : x.o.length = n
  s : x.s.length ≤ 4
  m0 : 0 ≤ x.m
  m1 : x.m ≤ 4 * n
theorem bestJ_mem (better : Jt → Jt → Bool) : ∀ (l : List Jt) (x : Jt), bestJ better l x ∈ x :: l
  | [], x => by simp [bestJ]
  | y :: l, x => by
    have := bestJ_mem better l (if better y x = true then y else x)
    have e : bestJ better (y :: l) x = bestJ better l (if better y x = true then y else x) := rfl
    rw [e]
    split at this
    · rename_i h; rw [if_pos h]; simp only [List.mem_cons] at this ⊢; rcases this with h | h <;> simp [h]
    · rename_i h; rw [if_neg h]; simp only [List.mem_cons] at this ⊢; rcases this with h | h <;> simp [h]
theorem bestL_mem (better : Jt → Jt → Bool) (l : List Jt) (h : 0 < l.length) : bestL better l ∈ l := by
  cases l with
  | nil => simp at h
  | cons x l => exact bestJ_mem better l x
theorem jointOf_b {n : Nat} {a : List Int} {b : List Jt} (hb : ∀ x ∈ b, Jb n x) (h0 : 0 < b.length) {o : List Int} (ho : o.length ≤ 5) : Jb (n + 1) (jointOf a b o) := by
  have hs : (seamsOf a o).length ≤ 4 := by simp [seamsOf, seamsGo_length]; omega
  have hm := bestL_mem fw (b.map (tryJ (seamsOf a o))) (by simpa using h0)
  obtain ⟨j, hj, e⟩ := List.mem_map.1 hm
  have := hb j hj
  have hc := common_le (seamsOf a o) j.s
  refine ⟨?_, hs, ?_, ?_⟩
  · simp only [jointOf, List.length_cons, ← e, tryJ]; rw [this.o]
  · simp only [jointOf, ← e, tryJ]; have := this.m0; omega
  · simp only [jointOf, ← e, tryJ]; have := this.m1; omega
theorem joints_b : ∀ (p : List (List Int)), (∀ l ∈ p, 1 ≤ l.length ∧ l.length ≤ 5) → 0 < (joints p).length ∧ (joints p).length ≤ 3125 ∧ ∀ x ∈ joints p, Jb p.length x
  | [], _ => ⟨by simp [joints], by simp [joints], by simp [joints]; exact ⟨rfl, by simp, by simp, by simp⟩⟩
  | a :: r, h => by
    obtain ⟨h1, h2, h3⟩ := joints_b r fun l hl => h l (by simp [hl])
    have ha := h a (by simp)
    refine ⟨by simp only [joints, nextJ_len]; exact perms_pos ha.1 ha.2, by simp only [joints, nextJ_len]; exact perms_len ha.2, fun x hx => ?_⟩
    simp only [joints, nextJ, List.mem_map] at hx
    obtain ⟨o, ho, rfl⟩ := hx
    exact jointOf_b h3 h1 (by rw [(perms_mem ho).1]; exact ha.2)
end Go.Proofs.Ytlcebaejlnpdeaa.Ab

/-
  Contracts: joints; the best of them; lists of lists joined.
-/
namespace Go.Proofs.Ytlcebaejlnpdeaa.Ab
open Go
set_option maxRecDepth 20000
set_option maxHeartbeats 4000000
/-- Its four cells: whether its lists are known to be full. -/
def jcw (co cs : Cap) (x : Jt) : List AV := [.lst (x.o.map L1) x.o.length co, .lst (x.s.map I) x.s.length cs, I x.m, I x.d]
abbrev jc (x : Jt) : List AV := jcw .shared .shared x
def LJ (co cs : Cap) (l : List Jt) (c : Cap) : AV := .lst (l.flatMap (jcw co cs)) l.length c
section
variable (co cs : Cap)
theorem dropJ : ∀ (l : List Jt) (i : Nat) (h : i < l.length), (l.flatMap (jcw co cs)).drop (i * 4) = jcw co cs l[i] ++ (l.drop (i + 1)).flatMap (jcw co cs)
  | x :: l, 0, h => by simp [List.flatMap_cons]
  | x :: l, i + 1, h => by
    have e : (i + 1) * 4 = (jcw co cs x).length + i * 4 := by rw [show (jcw co cs x).length = 4 from rfl]; omega
    rw [List.flatMap_cons, e, ← List.drop_drop, List.drop_left]
    simpa using dropJ l i (by simpa using h)
theorem flenJ (l : List Jt) : (l.flatMap (jcw co cs)).length = l.length * 4 := by
  induction l with
  | nil => rfl
  | cons x l ih => rw [List.flatMap_cons, List.length_append, ih, show (jcw co cs x).length = 4 from rfl, List.length_cons]; omega
theorem dropJ1 (l : List Jt) : AV.lst (((l.flatMap (jcw co cs)).drop ((1 : Int).toNat * 4)).take ((l.length - (1 : Int).toNat) * 4)) (l.length - (1 : Int).toNat) .shared = LJ co cs (l.drop 1) .shared := by
  have e : (l.flatMap (jcw co cs)).drop 4 = (l.drop 1).flatMap (jcw co cs) := by
    cases l with
    | nil => rfl
    | cons x l => simp [List.flatMap_cons, jcw]
  show AV.lst (((l.flatMap (jcw co cs)).drop 4).take ((l.length - 1) * 4)) (l.length - 1) .shared = _
  rw [e, List.take_of_length_le (by rw [flenJ]; simp), LJ, List.length_drop]
theorem pureJL (l : List Jt) : (l.flatMap (jcw co cs)).all (pureD 7) = true := by
  rw [List.all_eq_true]; intro u hu
  obtain ⟨x, _, hx⟩ := List.mem_flatMap.1 hu
  simp only [jcw, List.mem_cons, List.not_mem_nil, or_false] at hx
  rcases hx with rfl | rfl | rfl | rfl
  · exact pure_lists 4 _
  · exact pure_ints 5 _
  · rfl
  · rfl
theorem puLJ (l : List Jt) (n : Nat) (c : Cap) : pureD 8 (.lst (l.flatMap (jcw co cs)) n c) = true := pureJL co cs l
theorem pureJ (x : Jt) : pureD 8 (.agg (jcw co cs x)) = true := by
  have := pureJL co cs [x]
  rw [List.flatMap_cons, List.flatMap_nil, List.append_nil] at this
  exact this
end
theorem setc_get (Y : List AObj) (c d : AObj) : ((Y.append [c]).set Y.length d)[Y.length]? = some d := by
  show ((Y ++ [c]).set Y.length d)[Y.length]? = some d
  rw [set_concat, get_concat]
/-- Which lists are full. -/
def Caps (co cs : Cap) : Prop := (co = .full ∧ cs = .full) ∨ (co = .shared ∧ cs = .full) ∨ (co = .shared ∧ cs = .shared)
theorem best_ok (better : Jt → Jt → Bool) (f : FuncId) {co cs : Cap} (hc : Caps co cs) (x : Jt) (l : List Jt) (hl : l.length ≤ 1000000) (hf : ∀ a b : Jt, PO f [.agg (jc a), .agg (jc b)] (B (better a b))) :
    PO 101 [LJ co cs (x :: l) .shared, .func f [] []] (.agg (jcw co cs (bestJ better l x))) := by
  rcases hc with ⟨rfl, rfl⟩ | ⟨rfl, rfl⟩ | ⟨rfl, rfl⟩
  · refine fn_pure hmix lk101 rfl (pureJ _ _ _) ?_
    unfold rc101
    conv => whnf
    refine ⟨by first | (simp; done) | (simp; omega), ?_⟩
    rw [show ((x :: l).flatMap (jcw .full .full)).drop ((0 : Int).toNat * 4) = jcw .full .full x ++ l.flatMap (jcw .full .full) from rfl]
    conv => whnf
    refine ⟨by first | (simp; done) | (simp; omega), ?_⟩
    rw [dropJ1, List.drop_one, List.tail_cons]
    conv => whnf
    refine .intro (fun m T H => ∃ i Y, i ≤ l.length ∧ m = l.length - i ∧ T = slots 25 [(1, .func f [] []), (4, .ptr 0 0), (5, .ptr 1 0), (12, LJ .full .full l .shared), (13, I l.length), (14, I i)] ∧ H = .cells [nilF, nilF, I 0, I 0] :: .cells (jcw .full .full (bestJ better (l.take i) x)) :: Y) l.length ⟨0, [], by omega, by omega, rfl, rfl⟩ ?_
    rintro m T H ⟨i, Y, hi, rfl, rfl, rfl⟩
    conv => whnf
    refine dcase (fun h => ?_) (fun h => ?_)
    · have hlt : i < l.length := by omega
      have hb : bestJ better (l.take (i + 1)) x = if better l[i] (bestJ better (l.take i) x) = true then l[i] else bestJ better (l.take i) x := foldl_take _ _ l i hlt
      generalize bestJ better (l.take i) x = cur at hb ⊢
      conv => whnf
      refine ⟨by omega, ?_⟩
      conv => whnf
      rw [Int.toNat_natCast, dropJ .full .full l i hlt]
      conv => whnf
      refine nthK_of (get_concat _ _) ?_
      conv => whnf
      refine nthK_of (x := .cells (jcw .full .full l[i])) (setc_get _ _ _) ?_
      conv => whnf
      refine ⟨_, _, call6 (bs := [.agg (jc l[i]), .agg (jc cur)]) rfl (by show (pureD 8 (.agg (jc l[i])) && (pureD 8 (.agg (jc cur)) && true)) = true; rw [pureJ .shared .shared, pureJ .shared .shared]; rfl) (hf _ _) rfl, ?_⟩
      conv => whnf
      cases hbt : better l[i] cur with
      | true =>
        conv => whnf
        refine nthK_of (x := .cells (jcw .full .full l[i])) (setc_get _ _ _) ?_
        conv => whnf
        refine ⟨l.length - (i + 1), by omega, i + 1, Y ++ [.cells (jcw .full .full l[i])], by omega, rfl, by rw [← wrapS i (by omega)] <;> rfl, ?_⟩
        rw [hb, if_pos hbt]
        rw [set_concat]; rfl
      | false =>
        conv => whnf
        refine ⟨l.length - (i + 1), by omega, i + 1, Y ++ [.cells (jcw .full .full l[i])], by omega, rfl, by rw [← wrapS i (by omega)] <;> rfl, ?_⟩
        rw [hb, if_neg (by simp [hbt])]
        rw [set_concat]; rfl
    · obtain rfl : i = l.length := by omega
      rw [List.take_length]
      conv => whnf
      exact ret_pure (.inr rfl) (pureJ _ _ _) rfl
  · refine fn_pure hmix lk101 rfl (pureJ _ _ _) ?_
    unfold rc101
    conv => whnf
    refine ⟨by first | (simp; done) | (simp; omega), ?_⟩
    rw [show ((x :: l).flatMap (jcw .shared .full)).drop ((0 : Int).toNat * 4) = jcw .shared .full x ++ l.flatMap (jcw .shared .full) from rfl]
    conv => whnf
    refine ⟨by first | (simp; done) | (simp; omega), ?_⟩
    rw [dropJ1, List.drop_one, List.tail_cons]
    conv => whnf
    refine .intro (fun m T H => ∃ i Y, i ≤ l.length ∧ m = l.length - i ∧ T = slots 25 [(1, .func f [] []), (4, .ptr 0 0), (5, .ptr 1 0), (12, LJ .shared .full l .shared), (13, I l.length), (14, I i)] ∧ H = .cells [nilF, nilF, I 0, I 0] :: .cells (jcw .shared .full (bestJ better (l.take i) x)) :: Y) l.length ⟨0, [], by omega, by omega, rfl, rfl⟩ ?_
    rintro m T H ⟨i, Y, hi, rfl, rfl, rfl⟩
    conv => whnf
    refine dcase (fun h => ?_) (fun h => ?_)
    · have hlt : i < l.length := by omega
      have hb : bestJ better (l.take (i + 1)) x = if better l[i] (bestJ better (l.take i) x) = true then l[i] else bestJ better (l.take i) x := foldl_take _ _ l i hlt
      generalize bestJ better (l.take i) x = cur at hb ⊢
      conv => whnf
      refine ⟨by omega, ?_⟩
      conv => whnf
      rw [Int.toNat_natCast, dropJ .shared .full l i hlt]
      conv => whnf
      refine nthK_of (get_concat _ _) ?_
      conv => whnf
      refine nthK_of (x := .cells (jcw .shared .full l[i])) (setc_get _ _ _) ?_
      conv => whnf
      refine ⟨_, _, call6 (bs := [.agg (jc l[i]), .agg (jc cur)]) rfl (by show (pureD 8 (.agg (jc l[i])) && (pureD 8 (.agg (jc cur)) && true)) = true; rw [pureJ .shared .shared, pureJ .shared .shared]; rfl) (hf _ _) rfl, ?_⟩
      conv => whnf
      cases hbt : better l[i] cur with
      | true =>
        conv => whnf
        refine nthK_of (x := .cells (jcw .shared .full l[i])) (setc_get _ _ _) ?_
        conv => whnf
        refine ⟨l.length - (i + 1), by omega, i + 1, Y ++ [.cells (jcw .shared .full l[i])], by omega, rfl, by rw [← wrapS i (by omega)] <;> rfl, ?_⟩
        rw [hb, if_pos hbt]
        rw [set_concat]; rfl
      | false =>
        conv => whnf
        refine ⟨l.length - (i + 1), by omega, i + 1, Y ++ [.cells (jcw .shared .full l[i])], by omega, rfl, by rw [← wrapS i (by omega)] <;> rfl, ?_⟩
        rw [hb, if_neg (by simp [hbt])]
        rw [set_concat]; rfl
    · obtain rfl : i = l.length := by omega
      rw [List.take_length]
      conv => whnf
      exact ret_pure (.inr rfl) (pureJ _ _ _) rfl
  · refine fn_pure hmix lk101 rfl (pureJ _ _ _) ?_
    unfold rc101
    conv => whnf
    refine ⟨by first | (simp; done) | (simp; omega), ?_⟩
    rw [show ((x :: l).flatMap (jcw .shared .shared)).drop ((0 : Int).toNat * 4) = jcw .shared .shared x ++ l.flatMap (jcw .shared .shared) from rfl]
    conv => whnf
    refine ⟨by first | (simp; done) | (simp; omega), ?_⟩
    rw [dropJ1, List.drop_one, List.tail_cons]
    conv => whnf
    refine .intro (fun m T H => ∃ i Y, i ≤ l.length ∧ m = l.length - i ∧ T = slots 25 [(1, .func f [] []), (4, .ptr 0 0), (5, .ptr 1 0), (12, LJ .shared .shared l .shared), (13, I l.length), (14, I i)] ∧ H = .cells [nilF, nilF, I 0, I 0] :: .cells (jcw .shared .shared (bestJ better (l.take i) x)) :: Y) l.length ⟨0, [], by omega, by omega, rfl, rfl⟩ ?_
    rintro m T H ⟨i, Y, hi, rfl, rfl, rfl⟩
    conv => whnf
    refine dcase (fun h => ?_) (fun h => ?_)
    · have hlt : i < l.length := by omega
      have hb : bestJ better (l.take (i + 1)) x = if better l[i] (bestJ better (l.take i) x) = true then l[i] else bestJ better (l.take i) x := foldl_take _ _ l i hlt
      generalize bestJ better (l.take i) x = cur at hb ⊢
      conv => whnf
      refine ⟨by omega, ?_⟩
      conv => whnf
      rw [Int.toNat_natCast, dropJ .shared .shared l i hlt]
      conv => whnf
      refine nthK_of (get_concat _ _) ?_
      conv => whnf
      refine nthK_of (x := .cells (jcw .shared .shared l[i])) (setc_get _ _ _) ?_
      conv => whnf
      refine ⟨_, _, call6 (bs := [.agg (jc l[i]), .agg (jc cur)]) rfl (by show (pureD 8 (.agg (jc l[i])) && (pureD 8 (.agg (jc cur)) && true)) = true; rw [pureJ .shared .shared, pureJ .shared .shared]; rfl) (hf _ _) rfl, ?_⟩
      conv => whnf
      cases hbt : better l[i] cur with
      | true =>
        conv => whnf
        refine nthK_of (x := .cells (jcw .shared .shared l[i])) (setc_get _ _ _) ?_
        conv => whnf
        refine ⟨l.length - (i + 1), by omega, i + 1, Y ++ [.cells (jcw .shared .shared l[i])], by omega, rfl, by rw [← wrapS i (by omega)] <;> rfl, ?_⟩
        rw [hb, if_pos hbt]
        rw [set_concat]; rfl
      | false =>
        conv => whnf
        refine ⟨l.length - (i + 1), by omega, i + 1, Y ++ [.cells (jcw .shared .shared l[i])], by omega, rfl, by rw [← wrapS i (by omega)] <;> rfl, ?_⟩
        rw [hb, if_neg (by simp [hbt])]
        rw [set_concat]; rfl
    · obtain rfl : i = l.length := by omega
      rw [List.take_length]
      conv => whnf
      exact ret_pure (.inr rfl) (pureJ _ _ _) rfl
theorem fewer_ok (a b : Jt) : PO 100 [.agg (jc a), .agg (jc b)] (B (fw a b)) := by
  refine fn_pure hmix lk100 rfl rfl ?_
  unfold rc100
  conv => whnf
  exact ret_pure (.inr rfl) rfl rfl
theorem farther_ok (a b : Jt) : PO 111 [.agg (jc a), .agg (jc b)] (B (fr a b)) := by
  refine fn_pure hmix lk111 rfl rfl ?_
  unfold rc111
  conv => whnf
  exact ret_pure (.inr rfl) rfl rfl
/-! ### slices.Concat -/
theorem sem_pure {P : Program} {k : FuncId} {args : List AV} {v : AV} (ha : args.all (pureD 8) = true) (h : PureOk P k args v) (H : List AObj) : Sem P (.fn k) args H H.length v H := by
  obtain ⟨⟨_, h1, h2⟩, hp⟩ := h
  exact ⟨Low.refl _ _, h1, fun B ω κ S w vs hH hn hv => CallsIn.mono (h2 B _ [] S w vs (hrel_pure hH) (fun b i h => by obtain ⟨_, _, h⟩ := argsOnly_some h; cases h) (hv.pure ha)) fun e w' he => by
    cases e with
    | returned v => exact post_pure hH (frz_pure (n := 0) hp) he
    | panicked c => exact he.elim
    | outgrown => exact he.elim⟩
/-- A call of mode 0. -/
theorem call0 {P : Program} {k : FuncId} {args : List AV} {v : AV} (ha : args.all (pureD 8) = true) (h : PureOk P k args v) (H : List AObj) (lo : Nat) : CallS P 0 lo (.fn k) args H v H :=
  ⟨_, oneC_sound (sem_pure ha h H), by simp only [callTo, oneC_self, Option.bind_some, frz_pure h.2, Option.map_some]⟩
theorem noEnt : ∀ e ∈ ([] : List Ent), entOk Go.Proofs.Try.prog e := by simp
theorem grow1 : PO 113 [nilF, I 1] (.lst [] 0 (.own 1)) := runC_ok noEnt (by kernel_rfl)
theorem grow2 : PO 113 [nilF, I 2] (.lst [] 0 (.own 1)) := runC_ok noEnt (by kernel_rfl)
theorem grow3 : PO 113 [nilF, I 3] (.lst [] 0 (.own 1)) := runC_ok noEnt (by kernel_rfl)
theorem grow4 : PO 113 [nilF, I 4] (.lst [] 0 (.own 1)) := runC_ok noEnt (by kernel_rfl)
theorem growN (n : Nat) (h1 : 1 ≤ n) (h4 : n ≤ 4) : PO 113 [nilF, I n] (.lst [] 0 (.own 1)) := by
  obtain rfl | rfl | rfl | rfl : n = 1 ∨ n = 2 ∨ n = 3 ∨ n = 4 := by omega
  · exact grow1
  · exact grow2
  · exact grow3
  · exact grow4
def pre2 (a b : List (List Int)) : Nat → List (List Int)
  | 0 => []
  | 1 => a
  | _ => a ++ b
theorem concat_ok (a b : List (List Int)) (ha : a.length = 1) (hb : b.length ≤ 3) : PO 102 [.lst [L2 a, L2 b] 2 .shared] (O2 (a ++ b)) := by
  refine fn_pure hmix lk102 rfl (pu2 _ _ _) ?_
  unfold rc102
  conv => whnf
  refine .intro (CI (fun i => slots 36 [(0, .lst [L2 a, L2 b] 2 .shared), (3, I ((pre2 a b i).length : Nat)), (9, .lst [L2 a, L2 b] 2 .shared), (10, I 2), (11, I i)]) 2 []) 2 (ci0 rfl) ?_
  rintro m T H ⟨i, hi, rfl, rfl, rfl⟩
  conv => whnf
  refine dcase (fun h => ?_) (fun h => ?_)
  · obtain rfl | rfl : i = 0 ∨ i = 1 := by omega
    · conv => whnf
      refine ⟨by omega, ?_⟩
      conv => whnf
      rw [wrapI _ (by first | (simp [pre2]; done) | (simp [pre2]; omega)) (by simp [pre2]; omega), decide_eq_false (by first | (simp [pre2]; done) | (simp [pre2]; omega))]
      conv => whnf
      exact ciN (by omega) (by rw [show ((pre2 a b (0 + 1)).length : Int) = ((pre2 a b 0).length : Int) + a.length by simp [pre2]] <;> rfl)
    · conv => whnf
      refine ⟨by omega, ?_⟩
      conv => whnf
      rw [wrapI _ (by first | (simp [pre2]; done) | (simp [pre2]; omega)) (by simp [pre2]; omega), decide_eq_false (by first | (simp [pre2]; done) | (simp [pre2]; omega))]
      conv => whnf
      exact ciN (by omega) (by rw [show ((pre2 a b (1 + 1)).length : Int) = ((pre2 a b 1).length : Int) + b.length by simp [pre2]] <;> rfl)
  · obtain rfl : i = 2 := by omega
    conv => whnf
    refine ⟨_, _, call0 (by rfl) (growN (pre2 a b 2).length (by first | (simp [pre2]; done) | (simp [pre2]; omega)) (by simp [pre2]; omega)) _ _, ?_⟩
    conv => whnf
    refine .intro (CI (fun i => slots 36 [(6, O2 (pre2 a b i)), (25, .lst [L2 a, L2 b] 2 .shared), (26, I 2), (27, I i)]) 2 []) 2 (ci0 rfl) ?_
    rintro m T H ⟨i, hi, rfl, rfl, rfl⟩
    conv => whnf
    refine dcase (fun h => ?_) (fun h => ?_)
    · obtain rfl | rfl : i = 0 ∨ i = 1 := by omega
      · conv => whnf
        refine ⟨by omega, ?_⟩
        conv => whnf
        refine ⟨by simp, by omega, ?_⟩
        conv => whnf
        refine ⟨by simp, ?_⟩
        conv => whnf
        refine ⟨by simp [pre2]; omega, ?_⟩
        conv => whnf
        exact ciN (by omega) (by rw [show O2 (pre2 a b (0 + 1)) = .lst ((pre2 a b 0).map L1 ++ a.map L1) ((pre2 a b 0).length + a.length) (.own 1) by simp [O2, pre2]] <;> rfl)
      · conv => whnf
        refine ⟨by omega, ?_⟩
        conv => whnf
        refine ⟨by simp, by omega, ?_⟩
        conv => whnf
        refine ⟨by simp, ?_⟩
        conv => whnf
        refine ⟨by simp [pre2]; omega, ?_⟩
        conv => whnf
        exact ciN (by omega) (by rw [show O2 (pre2 a b (1 + 1)) = .lst ((pre2 a b 1).map L1 ++ b.map L1) ((pre2 a b 1).length + b.length) (.own 1) by simp [O2, pre2]] <;> rfl)
    · obtain rfl : i = 2 := by omega
      conv => whnf
      exact ret_own (.inr rfl) (pu2 _ _ _) (.inl rfl)
end Go.Proofs.Ytlcebaejlnpdeaa.Ab

/- MADE BY PROGRAM (rcy.py): rounds, looked up. -/
namespace Go.Proofs.Ytlcebaejlnpdeaa.Ab
open Go
noncomputable def rcY77A : RC :=
  .reg false [I_ 7 [.tk 32] .mv]
theorem lkY77A : linkC Go.Proofs.Try.prog ann77 (rngA Go.Proofs.Try.prog 77 0) 0 = some rcY77A := by kernel_rfl
noncomputable def rcY91A : RC :=
  .reg false [I_ 8 [.tk 37] .mv]
theorem lkY91A : linkC Go.Proofs.Try.prog ann91 (rngA Go.Proofs.Try.prog 91 0) 0 = some rcY91A := by kernel_rfl
noncomputable def rcY77B : RC :=
  .block 3 (.seq (.reg false [I_ 33 [.tv 1] (.ld .one), I_ 34 [.tv 5] (.ld .one), I_ 35 [.sl 7] .mv, I_ 36 [.cv (.func 87 [] []), .sl 33, .sl 34, .sl 35] (.call 3), I_ 8 [.tk 36] .mv]) (.seq (.reg false [I_ 9 [.cv (.lst [] 0
  .full)] (.nil 4)]) (.seq (.seq (.reg false [I_ 37 [.tv 3] (.ld .one), I_ 38 [.sl 37] .lenS, I_ 39 [.cv (.int .i64 0)] .mv]) (.block 4 (.loop (some [false, false, false, false, true, false, true, true, true, true, false, false,
  false, false, false, false, false, false, false, false, false, false, false, false, false, false, false, false, false, false, false, false, false, false, false, false, false, true, true, true, false, false, false, false, false,
  false, false, false, false, false, false, false, false, false, false, false, false, false, false, false, false, false, false, false, false, false, false, false, false, false, false, false, false, false, false, false, false,
  false, false, false, false, false, false, false, false, false, false, false]) (.seq (.reg false [I_ 40 [.sl 39, .sl 38] (.bin .lss)]) (.seq (.cond (.sl 40) .skip (.exit 4)) (.seq (.block 5 (.seq (.reg false [I_ 41 [.sl 37, .sl
  39] (.ia 4), I_ 42 [.tv 41] (.ld (.str 4)), I_ 11 [] (.alloc [.lst [] 0 .full, .lst [] 0 .full, .int .i64 0, .int .i64 0]), ⟨none, [.sl 11, .tk 42], none, none, .st 4⟩]) (.seq (.reg false [I_ 43 [.sl 11] (.fa 2), I_ 44 [.tv 43]
  (.ld .one), I_ 12 [.tk 44] .mv]) (.seq (.seq (.reg false [I_ 45 [.sl 8] .mv, I_ 46 [.sl 45] .lenS, I_ 47 [.cv (.int .i64 0)] .mv]) (.block 6 (.loop (some [false, false, false, false, true, false, true, true, true, true, false,
  true, true, false, false, false, false, false, false, false, false, false, false, false, false, false, false, false, false, false, false, false, false, false, false, false, false, true, true, true, false, false, false, false,
  false, true, true, true, false, false, false, false, false, false, false, false, false, false, false, false, false, false, false, false, false, false, false, false, false, false, false, false, false, false, false, false, false,
  false, false, false, false, false, false, false, false, false, false, false]) (.seq (.reg false [I_ 48 [.sl 47, .sl 46] (.bin .lss)]) (.seq (.cond (.sl 48) .skip (.exit 6)) (.seq (.block 7 (.seq (.reg false [I_ 49 [.sl 45, .sl
  47] (.ia 1), I_ 50 [.tv 49] (.ld .one), I_ 14 [.tk 50] .mv]) (.seq (.reg false [I_ 51 [.sl 11] (.fa 1), I_ 52 [.tv 51] (.ld .one), I_ 53 [.tk 14] .mv, I_ 54 [.cv (.func 72 [] []), .sl 52, .sl 53] (.call 3)]) (.cond (.sl 54)
  (.reg false [I_ 55 [.tk 12] .mv, I_ 56 [.tv 55, .cv (.int .i64 1)] (.bin .add), I_ 12 [.tk 56] .mv]) .skip)))) (.reg false [I_ 57 [.tv 47, .cv (.int .i64 1)] (.bin .add), I_ 47 [.tk 57] .mv]))))))) (.reg false [I_ 58 [.tk 9]
  .mv, I_ 59 [.tv 11] (.fa 0), I_ 60 [.tv 59] (.ld .one), I_ 61 [.tk 12] .mv, I_ 62 [.tv 60, .tv 61] (.build [.lst [] 0 .full, .lst [] 0 .full, .int .i64 0, .int .i64 0] [(0, 1), (2, 1)]), I_ 63 [.tv 62] (.buildS 1 4 [.lst [] 0
  .full, .lst [] 0 .full, .int .i64 0, .int .i64 0] [0]), I_ 64 [.tk 58, .tk 63] (.app 4 64), I_ 9 [.tk 64] .mv]))))) (.reg false [I_ 65 [.tv 39, .cv (.int .i64 1)] (.bin .add), I_ 39 [.tk 65] .mv]))))))) (.seq (.reg false [I_ 66
  [.tk 9] .mv, I_ 67 [.tv 4] (.ld .one), I_ 68 [.cv (.func 101 [] []), .sl 66, .sl 67] (.call 3), I_ 15 [] (.alloc [.lst [] 0 .full, .lst [] 0 .full, .int .i64 0, .int .i64 0]), ⟨none, [.sl 15, .tk 68], none, none, .st 4⟩]) (.reg
  true [I_ 69 [.sl 6] .take, I_ 70 [.tk 7] .mv, I_ 71 [.tv 70] (.buildS 1 1 [.lst [] 0 .full] [0]), I_ 72 [.sl 15] (.fa 0), I_ 73 [.tv 72] (.ld .one), I_ 74 [.tv 71, .tv 73] (.buildS 2 1 [.lst [] 0 .full] [0, 1]), I_ 75 [.cv
  (.func 102 [] []), .sl 74] (.call 3), I_ 76 [.tk 8] .mv, I_ 77 [.sl 15] (.fa 2), I_ 78 [.tv 77] (.ld .one), I_ 79 [.tv 75, .tv 76, .tv 78] (.build [.lst [] 0 .full, .lst [] 0 .full, .int .i64 0, .int .i64 0] [(0, 1), (1, 1),
  (2, 1)]), I_ 80 [.tv 79] (.buildS 1 4 [.lst [] 0 .full, .lst [] 0 .full, .int .i64 0, .int .i64 0] [0]), I_ 81 [.tk 69, .tk 80] (.app 4 64), ⟨none, [.sl 6, .tk 81], none, none, .st 1⟩])))))
theorem lkY77B : linkC Go.Proofs.Try.prog ann77 (rngB Go.Proofs.Try.prog 77 0) 0 = some rcY77B := by kernel_rfl
noncomputable def rcY91B : RC :=
  .block 3 (.seq (.reg false [I_ 38 [.tv 1] (.ld .one), I_ 39 [.tv 6] (.ld .one), I_ 40 [.sl 8] .mv, I_ 41 [.cv (.func 87 [] []), .sl 38, .sl 39, .sl 40] (.call 3), I_ 9 [.tk 41] .mv]) (.seq (.reg false [I_ 10 [.cv (.lst [] 0
  .full)] (.nil 4)]) (.seq (.seq (.reg false [I_ 42 [.tv 4] (.ld .one), I_ 43 [.sl 42] .lenS, I_ 44 [.cv (.int .i64 0)] .mv]) (.block 4 (.loop (some [false, false, false, true, false, true, false, true, true, true, true, false,
  false, false, false, false, false, false, false, false, false, false, false, false, false, false, false, false, false, false, false, false, false, false, false, false, false, false, false, false, false, false, true, true, true,
  false, false, false, false, false, false, false, false, false, false, false, false, false, false, false, false, false, false, false, false, false, false, false, false, false, false, false, false, false, false, false, false,
  false, false, false, false, false, false, false, false, false, false, false, false, false]) (.seq (.reg false [I_ 45 [.sl 44, .sl 43] (.bin .lss)]) (.seq (.cond (.sl 45) .skip (.exit 4)) (.seq (.block 5 (.seq (.reg false [I_ 46
  [.sl 42, .sl 44] (.ia 4), I_ 47 [.tv 46] (.ld (.str 4)), I_ 12 [] (.alloc [.lst [] 0 .full, .lst [] 0 .full, .int .i64 0, .int .i64 0]), ⟨none, [.sl 12, .tk 47], none, none, .st 4⟩]) (.reg true [I_ 48 [.tk 10] .mv, I_ 49 [.sl
  12] (.fa 0), I_ 50 [.tv 49] (.ld .one), I_ 51 [.sl 12] (.fa 3), I_ 52 [.tv 51] (.ld .one), I_ 53 [.sl 12] (.fa 1), I_ 54 [.tv 53] (.ld .one), I_ 55 [.sl 9] .mv, I_ 56 [.sl 3] (.ld .one), I_ 57 [.cv (.func 73 [] []), .sl 54, .sl
  55, .sl 56] (.call 3), I_ 58 [.tk 52, .tk 57] .min, I_ 59 [.tv 50, .tv 58] (.build [.lst [] 0 .full, .lst [] 0 .full, .int .i64 0, .int .i64 0] [(0, 1), (3, 1)]), I_ 60 [.tv 59] (.buildS 1 4 [.lst [] 0 .full, .lst [] 0 .full,
  .int .i64 0, .int .i64 0] [0]), I_ 61 [.tk 48, .tk 60] (.app 4 64), I_ 10 [.tk 61] .mv]))) (.reg false [I_ 62 [.tv 44, .cv (.int .i64 1)] (.bin .add), I_ 44 [.tk 62] .mv]))))))) (.seq (.reg false [I_ 63 [.tk 10] .mv, I_ 64 [.tv
  5] (.ld .one), I_ 65 [.cv (.func 101 [] []), .sl 63, .sl 64] (.call 3), I_ 13 [] (.alloc [.lst [] 0 .full, .lst [] 0 .full, .int .i64 0, .int .i64 0]), ⟨none, [.sl 13, .tk 65], none, none, .st 4⟩]) (.reg true [I_ 66 [.sl 7]
  .take, I_ 67 [.sl 13] (.fa 0), I_ 68 [.tv 67] (.ld .one), I_ 69 [.sl 13] (.fa 0), I_ 70 [.tv 69] (.ld .one), I_ 71 [.tk 70] .lenS, I_ 72 [.sl 13] (.fa 0), I_ 73 [.tv 72] (.ld .one), I_ 74 [.tk 73] .lenS, I_ 75 [.tk 68, .tk 71,
  .tk 74] (.slS 1 false true true), I_ 76 [.tk 8] .mv, I_ 77 [.tv 76] (.buildS 1 1 [.lst [] 0 .full] [0]), I_ 78 [.tk 75, .tk 77] (.app 1 24), I_ 79 [.tk 9] .mv, I_ 80 [.sl 13] (.fa 3), I_ 81 [.tv 80] (.ld .one), I_ 82 [.tv 78,
  .tv 79, .tv 81] (.build [.lst [] 0 .full, .lst [] 0 .full, .int .i64 0, .int .i64 0] [(0, 1), (1, 1), (3, 1)]), I_ 83 [.tv 82] (.buildS 1 4 [.lst [] 0 .full, .lst [] 0 .full, .int .i64 0, .int .i64 0] [0]), I_ 84 [.tk 66, .tk
  83] (.app 4 64), ⟨none, [.sl 7, .tk 84], none, none, .st 1⟩])))))
theorem lkY91B : linkC Go.Proofs.Try.prog ann91 (rngB Go.Proofs.Try.prog 91 0) 0 = some rcY91B := by kernel_rfl
end Go.Proofs.Ytlcebaejlnpdeaa.Ab

/-
  Contracts: the program's orders.
-/
namespace Go.Proofs.Ytlcebaejlnpdeaa.Ab
open Go
set_option maxRecDepth 20000
set_option maxHeartbeats 4000000
theorem puF (p : List (List Int)) (k : Int) : pureD 8 (.func 107 [] [.lptr [Bn p], .lptr [I k]]) = true := by
  have h : pureD 6 (Bn p) = true := by
    show [L2 p].all (pureD 5) = true
    rw [List.all_cons, List.all_nil, pure_L2 2 p]; rfl
  show (([] : List AV).all (pureD 7) && [AV.lptr [Bn p], AV.lptr [I k]].all (pureD 7)) = true
  show (true && (([Bn p] : List AV).all (pureD 6) && (true && true))) = true
  rw [List.all_cons, h]; rfl
theorem all_ok86 (p : List (List Int)) (k : Int) : PO 86 [Bn p, I k] (.func 107 [] [.lptr [Bn p], .lptr [I k]]) := by
  refine fn_pure hmix lk86 rfl (puF p k) ?_
  unfold rc86
  conv => whnf
  have hb : pureD 6 (Bn p) = true := by
    show [L2 p].all (pureD 5) = true
    rw [List.all_cons, List.all_nil, pure_L2 2 p]; rfl
  have e1 := frz_ptr (H := [.cells [Bn p], .cells [I k]]) (id := 0) (d := 6) rfl (by show [Bn p].all (pureD 6) = true; rw [List.all_cons, hb]; rfl)
  have e2 := frz_ptr (H := [.cells [Bn p], .cells [I k]]) (id := 1) (d := 6) rfl rfl
  refine ⟨.inr rfl, _, rfl, .func 107 [] [.lptr [Bn p], .lptr [I k]], ?_, .inl rfl⟩
  show (match mapO (frz [.cells [Bn p], .cells [I k]] 0 2 0 7) [], mapO (frz [.cells [Bn p], .cells [I k]] 0 2 0 7) [.ptr 0 0, .ptr 1 0] with | some a, some b => some (AV.func 107 a b) | _, _ => none) = _
  simp only [mapO]
  rw [show frz [.cells [Bn p], .cells [I k]] 0 2 0 7 (.ptr 0 0) = _ from e1, show frz [.cells [Bn p], .cells [I k]] 0 2 0 7 (.ptr 1 0) = _ from e2]
  rfl
theorem at3 (a b c d : AObj) (Y Z : List AObj) : (a :: b :: c :: (Y ++ d :: Z))[3 + Y.length]? = some d := by
  rw [show 3 + Y.length = Y.length + 1 + 1 + 1 by omega]
  simp
theorem ga {X Z : List AObj} {j : Nat} {o : AObj} (h : X[j]? = some o) : (X ++ Z)[j]? = some o := by
  rw [List.getElem?_append_left (List.getElem?_eq_some_iff.1 h).1]; exact h
theorem LJ_snoc (co cs : Cap) (l : List Jt) (x : Jt) (c : Cap) : LJ co cs (l ++ [x]) c = .lst (l.flatMap (jcw co cs) ++ jcw co cs x) (l.length + 1) c := by
  simp [LJ, List.flatMap_append]
theorem get_set_ne {X : List AObj} {i j : Nat} {c o : AObj} (h : X[j]? = some o) (hne : i ≠ j) : (X.set i c)[j]? = some o := by rw [List.getElem?_set_ne hne]; exact h
theorem puC (a b : List (List Int)) : pureD 8 (.lst [L2 a, L2 b] 2 .shared) = true := by
  show [L2 a, L2 b].all (pureD 7) = true
  rw [List.all_cons, List.all_cons, List.all_nil, pure_L2 4 a, pure_L2 4 b]; rfl
theorem fgt_tail (X J : List AObj) : Fgt (X ++ J) (X ++ List.replicate J.length .dead) := by
  refine ⟨by simp, fun j o hj => ?_⟩
  by_cases h : j < X.length
  · rw [List.getElem?_append_left h] at hj ⊢; exact .inr hj
  · rw [List.getElem?_append_right (by omega)] at hj
    exact .inl (List.eq_of_mem_replicate (List.mem_of_getElem? hj))
theorem sset' (X Y : List AObj) (c d : AObj) : (X ++ c :: Y).set X.length d = X ++ d :: Y := by simp
theorem sset (X Y : List AObj) (c d : AObj) : (X ++ c :: Y).set X.length d = X ++ d :: Y := by simp
def nextk (l : List Jt) (r : Nat) : AV := if r = 0 then nilF else LJ .shared .shared (l.take r) (.own 4)
noncomputable abbrev lp77 (T : List AV) (st : LoopState) : AObj := .loop st none 77 T [32] (rngA Go.Proofs.Try.prog 77 0) (rngB Go.Proofs.Try.prog 77 0) ann77
section
variable (p : List (List Int)) (t : Nat) (ht : t < p.length) (hv : Val p) (Bh : List Jt) (nB : Nat) (hB : ∀ x ∈ Bh, Jb nB x) (hn : nB ≤ 3) (hB0 : 0 < Bh.length) (hB1 : Bh.length ≤ 3125)
variable (c c1 : Cap) (hc : c = .own 4 ∨ c = .shared) (hc1 : c1 = .full ∨ c1 = .shared) (X0 : List AObj) (ii inn : Nat) (fv bv xv yv : AV)
variable (g0 : X0[0]? = some (.cells [Bn p])) (g1 : X0[1]? = some (.cells [LJ c1 c1 Bh c])) (g2 : X0[2]? = some (.cells [.func 100 [] []])) (gi : X0[ii]? = some (.cells [I t]))
variable (hinn : inn < X0.length) (n0 : inn ≠ 0) (n1 : inn ≠ 1) (n2 : inn ≠ 2) (ni : inn ≠ ii)
include ht hv hB hn hB0 hB1 hc hc1 g0 g1 g2 gi hinn n0 n1 n2 ni
theorem round77 (r : Nat) (hr : r < (perms p[t].length).length) (Y : List AObj) (T : List AV) (hT : T = slots 88 [(1, .ptr 0 0), (3, .ptr 1 0), (4, .ptr 2 0), (5, .ptr ii 0), (6, .ptr inn 0), (26, bv), (29, xv), (30, yv), (31, fv)]) :
    Sem Go.Proofs.Try.prog (.yield X0.length) [U1 (perms p[t].length)[r]] (X0.set inn (.cells [nextk (nextJ p[t] Bh) r]) ++ lp77 T .ready :: Y) 0 (.bool true)
      (X0.set inn (.cells [nextk (nextJ p[t] Bh) (r + 1)]) ++ lp77 T .ready :: (Y ++ List.replicate (Bh.length + 1) .dead)) := by
  have h5 := hv.s5 _ (List.getElem_mem ht)
  have h1 := hv.s1 _ (List.getElem_mem ht)
  have hI : InL p[t] (perms p[t].length)[r] := perm_inL (hv.sm (List.getElem_mem ht)) (List.getElem_mem hr) h5
  have hlr := (perms_mem (List.getElem_mem hr)).1
  have hnr : (nextJ p[t] Bh)[r]? = some (jointOf p[t] Bh (perms p[t].length)[r]) := by simp [nextJ, hr]
  have hsl : ∀ d : AObj, (X0.set inn d).length = X0.length := fun d => by simp
  have hset : ∀ (d e : AObj) (Z : List AObj), (X0.set inn d ++ e :: Z)[X0.length]? = some e := fun d e Z => by
    rw [List.getElem?_append_right (by simp), hsl, Nat.sub_self]; rfl
  refine sem_round hmix (l := X0.length) (T := T) lkY77A lkY77B (hset _ _ _) rfl ⟨by simp, fun _ h => by omega⟩ ?_
  subst hT
  generalize hl : (perms p[t].length)[r] = l at *
  unfold rcY77A
  conv => whnf
  refine ⟨rfl, hset _ _ _, ?_⟩
  have hss : ∀ (d e f : AObj) (Z : List AObj), (X0.set inn d ++ e :: Z).set X0.length f = X0.set inn d ++ f :: Z := fun d e f Z => by
    have := sset (X0.set inn d) Z e f
    rwa [hsl] at this
  rw [hss]
  unfold rcY77B
  conv => whnf
  obtain ⟨W, hW⟩ : ∃ W, W = X0.set inn (.cells [nextk (nextJ p[t] Bh) r]) ++ lp77 (slots 88 [(1, .ptr 0 0), (3, .ptr 1 0), (4, .ptr 2 0), (5, .ptr ii 0), (6, .ptr inn 0), (26, bv), (29, xv), (30, yv), (31, fv)]) .busy :: Y := ⟨_, rfl⟩
  have hWs : ∀ (J : List AObj) (d : AObj), (W ++ J).set inn d = X0.set inn d ++ lp77 (slots 88 [(1, .ptr 0 0), (3, .ptr 1 0), (4, .ptr 2 0), (5, .ptr ii 0), (6, .ptr inn 0), (26, bv), (29, xv), (30, yv), (31, fv)]) .busy :: (Y ++ J) := fun J d => by
    rw [hW, List.append_assoc, List.set_append_left _ _ (by simp; exact hinn), List.set_set]; rfl
  have gw : ∀ (j : Nat) (o : AObj), j ≠ inn → X0[j]? = some o → W[j]? = some o := fun j o hj ho => by
    rw [hW]
    exact ga (by rw [List.getElem?_set_ne (fun e => hj e.symm)]; exact ho)
  have w0 := gw 0 _ (Ne.symm n0) g0
  have w1 := gw 1 _ (Ne.symm n1) g1
  have w2 := gw 2 _ (Ne.symm n2) g2
  have wi := gw ii _ (Ne.symm ni) gi
  have wn : W[inn]? = some (.cells [nextk (nextJ p[t] Bh) r]) := by
    rw [hW]; exact ga (by rw [List.getElem?_set_self hinn])
  have hfin : ∀ (J : List AObj) (cx : AObj), J.length = Bh.length + 1 → cx = .cells [nextk (nextJ p[t] Bh) (r + 1)] → ((W ++ J).set inn cx)[X0.length]? = some (lp77 (slots 88 [(1, .ptr 0 0), (3, .ptr 1 0), (4, .ptr 2 0), (5, .ptr ii 0), (6, .ptr inn 0), (26, bv), (29, xv), (30, yv), (31, fv)]) .busy) ∧
      Fgt (((W ++ J).set inn cx).set X0.length (lp77 (slots 88 [(1, .ptr 0 0), (3, .ptr 1 0), (4, .ptr 2 0), (5, .ptr ii 0), (6, .ptr inn 0), (26, bv), (29, xv), (30, yv), (31, fv)]) .ready))
        (X0.set inn (.cells [nextk (nextJ p[t] Bh) (r + 1)]) ++ lp77 (slots 88 [(1, .ptr 0 0), (3, .ptr 1 0), (4, .ptr 2 0), (5, .ptr ii 0), (6, .ptr inn 0), (26, bv), (29, xv), (30, yv), (31, fv)]) .ready :: (Y ++ List.replicate (Bh.length + 1) .dead)) := fun J cx hJ hcx => by
    subst hcx
    rw [hWs]
    refine ⟨hset _ _ _, ?_⟩
    rw [hss, ← hJ, ← List.cons_append, ← List.append_assoc, ← List.cons_append, ← List.append_assoc]
    exact fgt_tail _ _
  rw [← hW]
  clear hWs hset hss gw hW g0 g1 g2 gi
  have hsq : (seamsOf p[t] l).length ≤ 4 := by simp [seamsOf, seamsGo_length]; omega
  have hpl1 := perms_len h5
  refine nthK_of w0 ?_
  conv => whnf
  refine nthK_of wi ?_
  conv => whnf
  refine ⟨?_, _, pseams_ok p t ht l hI (by omega), ?_⟩
  · simp only [List.all_cons, List.all_nil, pu1, pu0, puBn, puQ, Bool.and_true]
  conv => whnf
  refine nthK_of w1 ?_
  have hwl : inn < W.length := (List.getElem?_eq_some_iff.1 wn).1
  have hnk : (nextk (nextJ p[t] Bh) r = nilF ∧ ∀ bt : Jt, jointOf p[t] Bh l = ⟨l :: bt.o, seamsOf p[t] l, bt.m, 0⟩ → AObj.cells [.lst ([] ++ jc ⟨l :: bt.o, seamsOf p[t] l, bt.m, 0⟩) (0 + 1) (.own 4)] = .cells [nextk (nextJ p[t] Bh) (r + 1)]) ∨
      (nextk (nextJ p[t] Bh) r = LJ .shared .shared ((nextJ p[t] Bh).take r) (.own 4) ∧ ∀ bt : Jt, jointOf p[t] Bh l = ⟨l :: bt.o, seamsOf p[t] l, bt.m, 0⟩ → AObj.cells [.lst (((nextJ p[t] Bh).take r).flatMap jc ++ jc ⟨l :: bt.o, seamsOf p[t] l, bt.m, 0⟩) (((nextJ p[t] Bh).take r).length + 1) (.own 4)] = .cells [nextk (nextJ p[t] Bh) (r + 1)]) := by
    obtain ⟨q1, q2⟩ := List.getElem?_eq_some_iff.1 hnr
    have e : (nextJ p[t] Bh).take (r + 1) = (nextJ p[t] Bh).take r ++ [jointOf p[t] Bh l] := by rw [List.take_succ_eq_append_getElem q1, q2]
    by_cases h0 : r = 0
    · subst h0
      refine .inl ⟨rfl, fun bt hb => ?_⟩
      rw [nextk, if_neg (by omega), e, hb]; rfl
    · refine .inr ⟨by rw [nextk, if_neg h0], fun bt hb => ?_⟩
      rw [nextk, if_neg (by omega), e, LJ_snoc, hb]
  have hnl : ((nextJ p[t] Bh).take r).length ≤ 3125 := by
    have := List.length_take_le' r (nextJ p[t] Bh); rw [nextJ_len] at this; omega
  generalize nextk (nextJ p[t] Bh) r = nk at wn hnk
  generalize (nextJ p[t] Bh).take r = nxr at hnk hnl
  rcases hc with rfl | rfl
  all_goals
    rcases hc1 with rfl | rfl
  · conv => whnf
    refine .intro (fun m T H => ∃ j Yj, j ≤ Bh.length ∧ m = Bh.length - j ∧ Yj.length = j ∧ T = slots 88 [(4, .ptr 2 0), (6, .ptr inn 0), (7, O1 l), (8, O1 (seamsOf p[t] l)), (9, LJ .full .full ((Bh.take j).map (tryJ (seamsOf p[t] l))) (.uniq 4)), (37, LJ .full .full Bh .shared), (38, I Bh.length), (39, I j)] ∧ H = W ++ Yj) Bh.length ⟨0, [], by omega, by omega, rfl, rfl, by rw [List.append_nil]⟩ ?_
    rintro m T H ⟨j, Yj, hj, rfl, hYj, rfl, rfl⟩
    conv => whnf
    refine dcase (fun h => ?_) (fun h => ?_)
    · have hlt : j < Bh.length := by omega
      have hjb := hB _ (List.getElem_mem hlt)
      have hjm0 := hjb.m0
      have hjm1 := hjb.m1
      have hjs := hjb.s
      conv => whnf
      refine ⟨by omega, ?_⟩
      conv => whnf
      rw [Int.toNat_natCast, dropJ .full .full Bh j hlt]
      conv => whnf
      refine nthK_of (get_concat _ _) ?_
      conv => whnf
      rw [set_concat]
      refine nthK_of (get_concat _ _) ?_
      conv => whnf
      refine .intro (CI (fun k => slots 88 [(4, .ptr 2 0), (6, .ptr inn 0), (7, O1 l), (8, O1 (seamsOf p[t] l)), (9, LJ .full .full ((Bh.take j).map (tryJ (seamsOf p[t] l))) (.uniq 4)), (11, .ptr (W ++ Yj).length 0), (12, I (Bh[j].m + common ((seamsOf p[t] l).take k) Bh[j].s)), (37, LJ .full .full Bh .shared), (38, I Bh.length), (39, I j), (45, L1 (seamsOf p[t] l)), (46, I (seamsOf p[t] l).length), (47, I k)]) (seamsOf p[t] l).length (W ++ Yj ++ [.cells (jcw .full .full Bh[j])])) (seamsOf p[t] l).length (ci0 ?_) ?_
      · rw [List.take_zero, show common [] Bh[j].s = 0 from rfl, show Bh[j].m + ((0 : Nat) : Int) = Bh[j].m by omega]; rfl
      rintro m T H ⟨k, hk, rfl, rfl, rfl⟩
      conv => whnf
      refine dcase (fun h => ?_) (fun h => ?_)
      · have hkt : k < (seamsOf p[t] l).length := by omega
        have hs : common ((seamsOf p[t] l).take (k + 1)) Bh[j].s = common ((seamsOf p[t] l).take k) Bh[j].s + (if has Bh[j].s (seamsOf p[t] l)[k] then 1 else 0) := by
          unfold common
          rw [List.take_succ_eq_append_getElem hkt, List.filter_append, List.length_append]
          by_cases h : has Bh[j].s (seamsOf p[t] l)[k] = true <;> simp [List.filter_cons, h]
        have hc := common_le ((seamsOf p[t] l).take k) Bh[j].s
        have hk' : ((seamsOf p[t] l).take k).length ≤ k := List.length_take_le _ _
        conv => whnf
        refine ⟨by omega, ?_⟩
        conv => whnf
        refine nthM _ _ _ (hkt) ?_
        conv => whnf
        refine nthK_of (get_concat _ _) ?_
        conv => whnf
        refine ⟨by first | rfl | simp only [List.all_cons, List.all_nil, pu0, pub, pu1, pu2, pu1', pu2', pun, puf, puP, puP', puQ, puQ', Bool.and_true, Bool.and_self], _, contains_ok Bh[j].s (seamsOf p[t] l)[k] (by omega), ?_⟩
        conv => whnf
        cases hh : has Bh[j].s (seamsOf p[t] l)[k] with
        | true =>
          conv => whnf
          exact ciN hkt (by rw [hs, if_pos hh, ← wrapS k (by omega), show Bh[j].m + ((common ((seamsOf p[t] l).take k) Bh[j].s + 1 : Nat) : Int) = IntKind.i64.wrap (Bh[j].m + (common ((seamsOf p[t] l).take k) Bh[j].s : Nat) + 1) by rw [wrapI _ (by omega) (by omega)]; omega] <;> rfl)
        | false =>
          conv => whnf
          exact ciN hkt (by rw [hs, if_neg (by simp [hh]), Nat.add_zero, ← wrapS k (by omega)] <;> rfl)
      · obtain rfl : k = (seamsOf p[t] l).length := by omega
        rw [List.take_length]
        conv => whnf
        refine nthK_of (get_concat _ _) ?_
        conv => whnf
        have hll : ((Bh.take j).map (tryJ (seamsOf p[t] l))).length ≤ j := by simp; omega
        refine ⟨rfl, by decide, rfl, by omega, ?_⟩
        conv => whnf
        exact ⟨Bh.length - (j + 1), by omega, j + 1, Yj ++ [.cells (jcw .full .full Bh[j])], by omega, rfl, by simp [hYj], by rw [List.take_succ_eq_append_getElem hlt, List.map_append, List.map_singleton, LJ_snoc, ← wrapS j (by omega)] <;> rfl, by rw [List.append_assoc]⟩
    · obtain rfl : j = Bh.length := by omega
      rw [List.take_length]
      conv => whnf
      refine nthK_of (ga w2) ?_
      conv => whnf
      have hbm := bestL_mem fw (Bh.map (tryJ (seamsOf p[t] l))) (by simpa using hB0)
      have hbo : (bestL fw (Bh.map (tryJ (seamsOf p[t] l)))).o.length ≤ 3 := by
        obtain ⟨b0, hb0, e0⟩ := List.mem_map.1 hbm
        rw [← e0]; show b0.o.length ≤ 3
        rw [(hB b0 hb0).o]; exact hn
      have hjo : jointOf p[t] Bh l = ⟨l :: (bestL fw (Bh.map (tryJ (seamsOf p[t] l)))).o, seamsOf p[t] l, (bestL fw (Bh.map (tryJ (seamsOf p[t] l)))).m, 0⟩ := rfl
      have htl : (Bh.map (tryJ (seamsOf p[t] l))).length = Bh.length := by simp
      generalize Bh.map (tryJ (seamsOf p[t] l)) = tr at hbm hbo hjo htl ⊢
      obtain ⟨x0, t0, rfl⟩ : ∃ x0 t0, tr = x0 :: t0 := by
        cases tr with
        | nil => simp at hbm
        | cons x0 t0 => exact ⟨x0, t0, rfl⟩
      have hbe : bestL fw (x0 :: t0) = bestJ fw t0 x0 := rfl
      rw [hbe] at hbo hjo
      refine ⟨by simp only [List.all_cons, List.all_nil, puLJ, puf, Bool.and_true, Bool.and_self], _, best_ok fw 100 (.inl ⟨rfl, rfl⟩) x0 t0 (by simp at htl; omega) fewer_ok, ?_⟩
      generalize bestJ fw t0 x0 = bt at hbo hjo ⊢
      conv => whnf
      refine nthK_of (get_concat _ _) ?_
      conv => whnf
      rw [set_concat]
      refine nthK_of (ga (ga wn)) ?_
      rcases hnk with ⟨rfl, hnk⟩ | ⟨rfl, hnk⟩
      · conv => whnf
        refine nthK_of (get_concat _ _) ?_
        conv => whnf
        refine ⟨by show (pureD 8 (.lst [L2 [l], L2 bt.o] 2 .shared) && true) = true; rw [puC]; rfl, _, concat_ok [l] bt.o rfl hbo, acc0, ?_⟩
        conv => whnf
        refine nthK_of (get_concat _ _) ?_
        conv => whnf
        refine ⟨rfl, by omega, by omega, by omega, rfl, ?_⟩
        conv => whnf
        refine nthK_of (ga (ga wn)) ?_
        conv => whnf
        rw [List.append_assoc]
        exact ⟨rfl, hfin _ _ (by simp [hYj]) (hnk bt hjo)⟩
      · conv => whnf
        refine nthK_of (get_set_ne (get_concat _ _) (by simp; omega)) ?_
        conv => whnf
        refine ⟨by show (pureD 8 (.lst [L2 [l], L2 bt.o] 2 .shared) && true) = true; rw [puC]; rfl, _, concat_ok [l] bt.o rfl hbo, acc0, ?_⟩
        conv => whnf
        refine nthK_of (get_set_ne (get_concat _ _) (by simp; omega)) ?_
        conv => whnf
        refine ⟨rfl, by decide, rfl, by omega, ?_⟩
        conv => whnf
        refine nthK_of (by rw [List.getElem?_set_self (by simp; omega)]) ?_
        conv => whnf
        rw [List.set_set, List.append_assoc]
        exact ⟨rfl, hfin _ _ (by simp [hYj]) (hnk bt hjo)⟩
  · conv => whnf
    refine .intro (fun m T H => ∃ j Yj, j ≤ Bh.length ∧ m = Bh.length - j ∧ Yj.length = j ∧ T = slots 88 [(4, .ptr 2 0), (6, .ptr inn 0), (7, O1 l), (8, O1 (seamsOf p[t] l)), (9, LJ .shared .full ((Bh.take j).map (tryJ (seamsOf p[t] l))) (.uniq 4)), (37, LJ .shared .shared Bh .shared), (38, I Bh.length), (39, I j)] ∧ H = W ++ Yj) Bh.length ⟨0, [], by omega, by omega, rfl, rfl, by rw [List.append_nil]⟩ ?_
    rintro m T H ⟨j, Yj, hj, rfl, hYj, rfl, rfl⟩
    conv => whnf
    refine dcase (fun h => ?_) (fun h => ?_)
    · have hlt : j < Bh.length := by omega
      have hjb := hB _ (List.getElem_mem hlt)
      have hjm0 := hjb.m0
      have hjm1 := hjb.m1
      have hjs := hjb.s
      conv => whnf
      refine ⟨by omega, ?_⟩
      conv => whnf
      rw [Int.toNat_natCast, dropJ .shared .shared Bh j hlt]
      conv => whnf
      refine nthK_of (get_concat _ _) ?_
      conv => whnf
      rw [set_concat]
      refine nthK_of (get_concat _ _) ?_
      conv => whnf
      refine .intro (CI (fun k => slots 88 [(4, .ptr 2 0), (6, .ptr inn 0), (7, O1 l), (8, O1 (seamsOf p[t] l)), (9, LJ .shared .full ((Bh.take j).map (tryJ (seamsOf p[t] l))) (.uniq 4)), (11, .ptr (W ++ Yj).length 0), (12, I (Bh[j].m + common ((seamsOf p[t] l).take k) Bh[j].s)), (37, LJ .shared .shared Bh .shared), (38, I Bh.length), (39, I j), (45, L1 (seamsOf p[t] l)), (46, I (seamsOf p[t] l).length), (47, I k)]) (seamsOf p[t] l).length (W ++ Yj ++ [.cells (jcw .shared .shared Bh[j])])) (seamsOf p[t] l).length (ci0 ?_) ?_
      · rw [List.take_zero, show common [] Bh[j].s = 0 from rfl, show Bh[j].m + ((0 : Nat) : Int) = Bh[j].m by omega]; rfl
      rintro m T H ⟨k, hk, rfl, rfl, rfl⟩
      conv => whnf
      refine dcase (fun h => ?_) (fun h => ?_)
      · have hkt : k < (seamsOf p[t] l).length := by omega
        have hs : common ((seamsOf p[t] l).take (k + 1)) Bh[j].s = common ((seamsOf p[t] l).take k) Bh[j].s + (if has Bh[j].s (seamsOf p[t] l)[k] then 1 else 0) := by
          unfold common
          rw [List.take_succ_eq_append_getElem hkt, List.filter_append, List.length_append]
          by_cases h : has Bh[j].s (seamsOf p[t] l)[k] = true <;> simp [List.filter_cons, h]
        have hc := common_le ((seamsOf p[t] l).take k) Bh[j].s
        have hk' : ((seamsOf p[t] l).take k).length ≤ k := List.length_take_le _ _
        conv => whnf
        refine ⟨by omega, ?_⟩
        conv => whnf
        refine nthM _ _ _ (hkt) ?_
        conv => whnf
        refine nthK_of (get_concat _ _) ?_
        conv => whnf
        refine ⟨by first | rfl | simp only [List.all_cons, List.all_nil, pu0, pub, pu1, pu2, pu1', pu2', pun, puf, puP, puP', puQ, puQ', Bool.and_true, Bool.and_self], _, contains_ok Bh[j].s (seamsOf p[t] l)[k] (by omega), ?_⟩
        conv => whnf
        cases hh : has Bh[j].s (seamsOf p[t] l)[k] with
        | true =>
          conv => whnf
          exact ciN hkt (by rw [hs, if_pos hh, ← wrapS k (by omega), show Bh[j].m + ((common ((seamsOf p[t] l).take k) Bh[j].s + 1 : Nat) : Int) = IntKind.i64.wrap (Bh[j].m + (common ((seamsOf p[t] l).take k) Bh[j].s : Nat) + 1) by rw [wrapI _ (by omega) (by omega)]; omega] <;> rfl)
        | false =>
          conv => whnf
          exact ciN hkt (by rw [hs, if_neg (by simp [hh]), Nat.add_zero, ← wrapS k (by omega)] <;> rfl)
      · obtain rfl : k = (seamsOf p[t] l).length := by omega
        rw [List.take_length]
        conv => whnf
        refine nthK_of (get_concat _ _) ?_
        conv => whnf
        have hll : ((Bh.take j).map (tryJ (seamsOf p[t] l))).length ≤ j := by simp; omega
        refine ⟨rfl, by decide, rfl, by omega, ?_⟩
        conv => whnf
        exact ⟨Bh.length - (j + 1), by omega, j + 1, Yj ++ [.cells (jcw .shared .shared Bh[j])], by omega, rfl, by simp [hYj], by rw [List.take_succ_eq_append_getElem hlt, List.map_append, List.map_singleton, LJ_snoc, ← wrapS j (by omega)] <;> rfl, by rw [List.append_assoc]⟩
    · obtain rfl : j = Bh.length := by omega
      rw [List.take_length]
      conv => whnf
      refine nthK_of (ga w2) ?_
      conv => whnf
      have hbm := bestL_mem fw (Bh.map (tryJ (seamsOf p[t] l))) (by simpa using hB0)
      have hbo : (bestL fw (Bh.map (tryJ (seamsOf p[t] l)))).o.length ≤ 3 := by
        obtain ⟨b0, hb0, e0⟩ := List.mem_map.1 hbm
        rw [← e0]; show b0.o.length ≤ 3
        rw [(hB b0 hb0).o]; exact hn
      have hjo : jointOf p[t] Bh l = ⟨l :: (bestL fw (Bh.map (tryJ (seamsOf p[t] l)))).o, seamsOf p[t] l, (bestL fw (Bh.map (tryJ (seamsOf p[t] l)))).m, 0⟩ := rfl
      have htl : (Bh.map (tryJ (seamsOf p[t] l))).length = Bh.length := by simp
      generalize Bh.map (tryJ (seamsOf p[t] l)) = tr at hbm hbo hjo htl ⊢
      obtain ⟨x0, t0, rfl⟩ : ∃ x0 t0, tr = x0 :: t0 := by
        cases tr with
        | nil => simp at hbm
        | cons x0 t0 => exact ⟨x0, t0, rfl⟩
      have hbe : bestL fw (x0 :: t0) = bestJ fw t0 x0 := rfl
      rw [hbe] at hbo hjo
      refine ⟨by simp only [List.all_cons, List.all_nil, puLJ, puf, Bool.and_true, Bool.and_self], _, best_ok fw 100 (.inr (.inl ⟨rfl, rfl⟩)) x0 t0 (by simp at htl; omega) fewer_ok, ?_⟩
      generalize bestJ fw t0 x0 = bt at hbo hjo ⊢
      conv => whnf
      refine nthK_of (get_concat _ _) ?_
      conv => whnf
      rw [set_concat]
      refine nthK_of (ga (ga wn)) ?_
      rcases hnk with ⟨rfl, hnk⟩ | ⟨rfl, hnk⟩
      · conv => whnf
        refine nthK_of (get_concat _ _) ?_
        conv => whnf
        refine ⟨by show (pureD 8 (.lst [L2 [l], L2 bt.o] 2 .shared) && true) = true; rw [puC]; rfl, _, concat_ok [l] bt.o rfl hbo, acc0, ?_⟩
        conv => whnf
        refine nthK_of (get_concat _ _) ?_
        conv => whnf
        refine ⟨rfl, by omega, by omega, by omega, rfl, ?_⟩
        conv => whnf
        refine nthK_of (ga (ga wn)) ?_
        conv => whnf
        rw [List.append_assoc]
        exact ⟨rfl, hfin _ _ (by simp [hYj]) (hnk bt hjo)⟩
      · conv => whnf
        refine nthK_of (get_set_ne (get_concat _ _) (by simp; omega)) ?_
        conv => whnf
        refine ⟨by show (pureD 8 (.lst [L2 [l], L2 bt.o] 2 .shared) && true) = true; rw [puC]; rfl, _, concat_ok [l] bt.o rfl hbo, acc0, ?_⟩
        conv => whnf
        refine nthK_of (get_set_ne (get_concat _ _) (by simp; omega)) ?_
        conv => whnf
        refine ⟨rfl, by decide, rfl, by omega, ?_⟩
        conv => whnf
        refine nthK_of (by rw [List.getElem?_set_self (by simp; omega)]) ?_
        conv => whnf
        rw [List.set_set, List.append_assoc]
        exact ⟨rfl, hfin _ _ (by simp [hYj]) (hnk bt hjo)⟩
  · conv => whnf
    refine .intro (fun m T H => ∃ j Yj, j ≤ Bh.length ∧ m = Bh.length - j ∧ Yj.length = j ∧ T = slots 88 [(4, .ptr 2 0), (6, .ptr inn 0), (7, O1 l), (8, O1 (seamsOf p[t] l)), (9, LJ .full .full ((Bh.take j).map (tryJ (seamsOf p[t] l))) (.uniq 4)), (37, LJ .full .full Bh .shared), (38, I Bh.length), (39, I j)] ∧ H = W ++ Yj) Bh.length ⟨0, [], by omega, by omega, rfl, rfl, by rw [List.append_nil]⟩ ?_
    rintro m T H ⟨j, Yj, hj, rfl, hYj, rfl, rfl⟩
    conv => whnf
    refine dcase (fun h => ?_) (fun h => ?_)
    · have hlt : j < Bh.length := by omega
      have hjb := hB _ (List.getElem_mem hlt)
      have hjm0 := hjb.m0
      have hjm1 := hjb.m1
      have hjs := hjb.s
      conv => whnf
      refine ⟨by omega, ?_⟩
      conv => whnf
      rw [Int.toNat_natCast, dropJ .full .full Bh j hlt]
      conv => whnf
      refine nthK_of (get_concat _ _) ?_
      conv => whnf
      rw [set_concat]
      refine nthK_of (get_concat _ _) ?_
      conv => whnf
      refine .intro (CI (fun k => slots 88 [(4, .ptr 2 0), (6, .ptr inn 0), (7, O1 l), (8, O1 (seamsOf p[t] l)), (9, LJ .full .full ((Bh.take j).map (tryJ (seamsOf p[t] l))) (.uniq 4)), (11, .ptr (W ++ Yj).length 0), (12, I (Bh[j].m + common ((seamsOf p[t] l).take k) Bh[j].s)), (37, LJ .full .full Bh .shared), (38, I Bh.length), (39, I j), (45, L1 (seamsOf p[t] l)), (46, I (seamsOf p[t] l).length), (47, I k)]) (seamsOf p[t] l).length (W ++ Yj ++ [.cells (jcw .full .full Bh[j])])) (seamsOf p[t] l).length (ci0 ?_) ?_
      · rw [List.take_zero, show common [] Bh[j].s = 0 from rfl, show Bh[j].m + ((0 : Nat) : Int) = Bh[j].m by omega]; rfl
      rintro m T H ⟨k, hk, rfl, rfl, rfl⟩
      conv => whnf
      refine dcase (fun h => ?_) (fun h => ?_)
      · have hkt : k < (seamsOf p[t] l).length := by omega
        have hs : common ((seamsOf p[t] l).take (k + 1)) Bh[j].s = common ((seamsOf p[t] l).take k) Bh[j].s + (if has Bh[j].s (seamsOf p[t] l)[k] then 1 else 0) := by
          unfold common
          rw [List.take_succ_eq_append_getElem hkt, List.filter_append, List.length_append]
          by_cases h : has Bh[j].s (seamsOf p[t] l)[k] = true <;> simp [List.filter_cons, h]
        have hc := common_le ((seamsOf p[t] l).take k) Bh[j].s
        have hk' : ((seamsOf p[t] l).take k).length ≤ k := List.length_take_le _ _
        conv => whnf
        refine ⟨by omega, ?_⟩
        conv => whnf
        refine nthM _ _ _ (hkt) ?_
        conv => whnf
        refine nthK_of (get_concat _ _) ?_
        conv => whnf
        refine ⟨by first | rfl | simp only [List.all_cons, List.all_nil, pu0, pub, pu1, pu2, pu1', pu2', pun, puf, puP, puP', puQ, puQ', Bool.and_true, Bool.and_self], _, contains_ok Bh[j].s (seamsOf p[t] l)[k] (by omega), ?_⟩
        conv => whnf
        cases hh : has Bh[j].s (seamsOf p[t] l)[k] with
        | true =>
          conv => whnf
          exact ciN hkt (by rw [hs, if_pos hh, ← wrapS k (by omega), show Bh[j].m + ((common ((seamsOf p[t] l).take k) Bh[j].s + 1 : Nat) : Int) = IntKind.i64.wrap (Bh[j].m + (common ((seamsOf p[t] l).take k) Bh[j].s : Nat) + 1) by rw [wrapI _ (by omega) (by omega)]; omega] <;> rfl)
        | false =>
          conv => whnf
          exact ciN hkt (by rw [hs, if_neg (by simp [hh]), Nat.add_zero, ← wrapS k (by omega)] <;> rfl)
      · obtain rfl : k = (seamsOf p[t] l).length := by omega
        rw [List.take_length]
        conv => whnf
        refine nthK_of (get_concat _ _) ?_
        conv => whnf
        have hll : ((Bh.take j).map (tryJ (seamsOf p[t] l))).length ≤ j := by simp; omega
        refine ⟨rfl, by decide, rfl, by omega, ?_⟩
        conv => whnf
        exact ⟨Bh.length - (j + 1), by omega, j + 1, Yj ++ [.cells (jcw .full .full Bh[j])], by omega, rfl, by simp [hYj], by rw [List.take_succ_eq_append_getElem hlt, List.map_append, List.map_singleton, LJ_snoc, ← wrapS j (by omega)] <;> rfl, by rw [List.append_assoc]⟩
    · obtain rfl : j = Bh.length := by omega
      rw [List.take_length]
      conv => whnf
      refine nthK_of (ga w2) ?_
      conv => whnf
      have hbm := bestL_mem fw (Bh.map (tryJ (seamsOf p[t] l))) (by simpa using hB0)
      have hbo : (bestL fw (Bh.map (tryJ (seamsOf p[t] l)))).o.length ≤ 3 := by
        obtain ⟨b0, hb0, e0⟩ := List.mem_map.1 hbm
        rw [← e0]; show b0.o.length ≤ 3
        rw [(hB b0 hb0).o]; exact hn
      have hjo : jointOf p[t] Bh l = ⟨l :: (bestL fw (Bh.map (tryJ (seamsOf p[t] l)))).o, seamsOf p[t] l, (bestL fw (Bh.map (tryJ (seamsOf p[t] l)))).m, 0⟩ := rfl
      have htl : (Bh.map (tryJ (seamsOf p[t] l))).length = Bh.length := by simp
      generalize Bh.map (tryJ (seamsOf p[t] l)) = tr at hbm hbo hjo htl ⊢
      obtain ⟨x0, t0, rfl⟩ : ∃ x0 t0, tr = x0 :: t0 := by
        cases tr with
        | nil => simp at hbm
        | cons x0 t0 => exact ⟨x0, t0, rfl⟩
      have hbe : bestL fw (x0 :: t0) = bestJ fw t0 x0 := rfl
      rw [hbe] at hbo hjo
      refine ⟨by simp only [List.all_cons, List.all_nil, puLJ, puf, Bool.and_true, Bool.and_self], _, best_ok fw 100 (.inl ⟨rfl, rfl⟩) x0 t0 (by simp at htl; omega) fewer_ok, ?_⟩
      generalize bestJ fw t0 x0 = bt at hbo hjo ⊢
      conv => whnf
      refine nthK_of (get_concat _ _) ?_
      conv => whnf
      rw [set_concat]
      refine nthK_of (ga (ga wn)) ?_
      rcases hnk with ⟨rfl, hnk⟩ | ⟨rfl, hnk⟩
      · conv => whnf
        refine nthK_of (get_concat _ _) ?_
        conv => whnf
        refine ⟨by show (pureD 8 (.lst [L2 [l], L2 bt.o] 2 .shared) && true) = true; rw [puC]; rfl, _, concat_ok [l] bt.o rfl hbo, acc0, ?_⟩
        conv => whnf
        refine nthK_of (get_concat _ _) ?_
        conv => whnf
        refine ⟨rfl, by omega, by omega, by omega, rfl, ?_⟩
        conv => whnf
        refine nthK_of (ga (ga wn)) ?_
        conv => whnf
        rw [List.append_assoc]
        exact ⟨rfl, hfin _ _ (by simp [hYj]) (hnk bt hjo)⟩
      · conv => whnf
        refine nthK_of (get_set_ne (get_concat _ _) (by simp; omega)) ?_
        conv => whnf
        refine ⟨by show (pureD 8 (.lst [L2 [l], L2 bt.o] 2 .shared) && true) = true; rw [puC]; rfl, _, concat_ok [l] bt.o rfl hbo, acc0, ?_⟩
        conv => whnf
        refine nthK_of (get_set_ne (get_concat _ _) (by simp; omega)) ?_
        conv => whnf
        refine ⟨rfl, by decide, rfl, by omega, ?_⟩
        conv => whnf
        refine nthK_of (by rw [List.getElem?_set_self (by simp; omega)]) ?_
        conv => whnf
        rw [List.set_set, List.append_assoc]
        exact ⟨rfl, hfin _ _ (by simp [hYj]) (hnk bt hjo)⟩
  · conv => whnf
    refine .intro (fun m T H => ∃ j Yj, j ≤ Bh.length ∧ m = Bh.length - j ∧ Yj.length = j ∧ T = slots 88 [(4, .ptr 2 0), (6, .ptr inn 0), (7, O1 l), (8, O1 (seamsOf p[t] l)), (9, LJ .shared .full ((Bh.take j).map (tryJ (seamsOf p[t] l))) (.uniq 4)), (37, LJ .shared .shared Bh .shared), (38, I Bh.length), (39, I j)] ∧ H = W ++ Yj) Bh.length ⟨0, [], by omega, by omega, rfl, rfl, by rw [List.append_nil]⟩ ?_
    rintro m T H ⟨j, Yj, hj, rfl, hYj, rfl, rfl⟩
    conv => whnf
    refine dcase (fun h => ?_) (fun h => ?_)
    · have hlt : j < Bh.length := by omega
      have hjb := hB _ (List.getElem_mem hlt)
      have hjm0 := hjb.m0
      have hjm1 := hjb.m1
      have hjs := hjb.s
      conv => whnf
      refine ⟨by omega, ?_⟩
      conv => whnf
      rw [Int.toNat_natCast, dropJ .shared .shared Bh j hlt]
      conv => whnf
      refine nthK_of (get_concat _ _) ?_
      conv => whnf
      rw [set_concat]
      refine nthK_of (get_concat _ _) ?_
      conv => whnf
      refine .intro (CI (fun k => slots 88 [(4, .ptr 2 0), (6, .ptr inn 0), (7, O1 l), (8, O1 (seamsOf p[t] l)), (9, LJ .shared .full ((Bh.take j).map (tryJ (seamsOf p[t] l))) (.uniq 4)), (11, .ptr (W ++ Yj).length 0), (12, I (Bh[j].m + common ((seamsOf p[t] l).take k) Bh[j].s)), (37, LJ .shared .shared Bh .shared), (38, I Bh.length), (39, I j), (45, L1 (seamsOf p[t] l)), (46, I (seamsOf p[t] l).length), (47, I k)]) (seamsOf p[t] l).length (W ++ Yj ++ [.cells (jcw .shared .shared Bh[j])])) (seamsOf p[t] l).length (ci0 ?_) ?_
      · rw [List.take_zero, show common [] Bh[j].s = 0 from rfl, show Bh[j].m + ((0 : Nat) : Int) = Bh[j].m by omega]; rfl
      rintro m T H ⟨k, hk, rfl, rfl, rfl⟩
      conv => whnf
      refine dcase (fun h => ?_) (fun h => ?_)
      · have hkt : k < (seamsOf p[t] l).length := by omega
        have hs : common ((seamsOf p[t] l).take (k + 1)) Bh[j].s = common ((seamsOf p[t] l).take k) Bh[j].s + (if has Bh[j].s (seamsOf p[t] l)[k] then 1 else 0) := by
          unfold common
          rw [List.take_succ_eq_append_getElem hkt, List.filter_append, List.length_append]
          by_cases h : has Bh[j].s (seamsOf p[t] l)[k] = true <;> simp [List.filter_cons, h]
        have hc := common_le ((seamsOf p[t] l).take k) Bh[j].s
        have hk' : ((seamsOf p[t] l).take k).length ≤ k := List.length_take_le _ _
        conv => whnf
        refine ⟨by omega, ?_⟩
        conv => whnf
        refine nthM _ _ _ (hkt) ?_
        conv => whnf
        refine nthK_of (get_concat _ _) ?_
        conv => whnf
        refine ⟨by first | rfl | simp only [List.all_cons, List.all_nil, pu0, pub, pu1, pu2, pu1', pu2', pun, puf, puP, puP', puQ, puQ', Bool.and_true, Bool.and_self], _, contains_ok Bh[j].s (seamsOf p[t] l)[k] (by omega), ?_⟩
        conv => whnf
        cases hh : has Bh[j].s (seamsOf p[t] l)[k] with
        | true =>
          conv => whnf
          exact ciN hkt (by rw [hs, if_pos hh, ← wrapS k (by omega), show Bh[j].m + ((common ((seamsOf p[t] l).take k) Bh[j].s + 1 : Nat) : Int) = IntKind.i64.wrap (Bh[j].m + (common ((seamsOf p[t] l).take k) Bh[j].s : Nat) + 1) by rw [wrapI _ (by omega) (by omega)]; omega] <;> rfl)
        | false =>
          conv => whnf
          exact ciN hkt (by rw [hs, if_neg (by simp [hh]), Nat.add_zero, ← wrapS k (by omega)] <;> rfl)
      · obtain rfl : k = (seamsOf p[t] l).length := by omega
        rw [List.take_length]
        conv => whnf
        refine nthK_of (get_concat _ _) ?_
        conv => whnf
        have hll : ((Bh.take j).map (tryJ (seamsOf p[t] l))).length ≤ j := by simp; omega
        refine ⟨rfl, by decide, rfl, by omega, ?_⟩
        conv => whnf
        exact ⟨Bh.length - (j + 1), by omega, j + 1, Yj ++ [.cells (jcw .shared .shared Bh[j])], by omega, rfl, by simp [hYj], by rw [List.take_succ_eq_append_getElem hlt, List.map_append, List.map_singleton, LJ_snoc, ← wrapS j (by omega)] <;> rfl, by rw [List.append_assoc]⟩
    · obtain rfl : j = Bh.length := by omega
      rw [List.take_length]
      conv => whnf
      refine nthK_of (ga w2) ?_
      conv => whnf
      have hbm := bestL_mem fw (Bh.map (tryJ (seamsOf p[t] l))) (by simpa using hB0)
      have hbo : (bestL fw (Bh.map (tryJ (seamsOf p[t] l)))).o.length ≤ 3 := by
        obtain ⟨b0, hb0, e0⟩ := List.mem_map.1 hbm
        rw [← e0]; show b0.o.length ≤ 3
        rw [(hB b0 hb0).o]; exact hn
      have hjo : jointOf p[t] Bh l = ⟨l :: (bestL fw (Bh.map (tryJ (seamsOf p[t] l)))).o, seamsOf p[t] l, (bestL fw (Bh.map (tryJ (seamsOf p[t] l)))).m, 0⟩ := rfl
      have htl : (Bh.map (tryJ (seamsOf p[t] l))).length = Bh.length := by simp
      generalize Bh.map (tryJ (seamsOf p[t] l)) = tr at hbm hbo hjo htl ⊢
      obtain ⟨x0, t0, rfl⟩ : ∃ x0 t0, tr = x0 :: t0 := by
        cases tr with
        | nil => simp at hbm
        | cons x0 t0 => exact ⟨x0, t0, rfl⟩
      have hbe : bestL fw (x0 :: t0) = bestJ fw t0 x0 := rfl
      rw [hbe] at hbo hjo
      refine ⟨by simp only [List.all_cons, List.all_nil, puLJ, puf, Bool.and_true, Bool.and_self], _, best_ok fw 100 (.inr (.inl ⟨rfl, rfl⟩)) x0 t0 (by simp at htl; omega) fewer_ok, ?_⟩
      generalize bestJ fw t0 x0 = bt at hbo hjo ⊢
      conv => whnf
      refine nthK_of (get_concat _ _) ?_
      conv => whnf
      rw [set_concat]
      refine nthK_of (ga (ga wn)) ?_
      rcases hnk with ⟨rfl, hnk⟩ | ⟨rfl, hnk⟩
      · conv => whnf
        refine nthK_of (get_concat _ _) ?_
        conv => whnf
        refine ⟨by show (pureD 8 (.lst [L2 [l], L2 bt.o] 2 .shared) && true) = true; rw [puC]; rfl, _, concat_ok [l] bt.o rfl hbo, acc0, ?_⟩
        conv => whnf
        refine nthK_of (get_concat _ _) ?_
        conv => whnf
        refine ⟨rfl, by omega, by omega, by omega, rfl, ?_⟩
        conv => whnf
        refine nthK_of (ga (ga wn)) ?_
        conv => whnf
        rw [List.append_assoc]
        exact ⟨rfl, hfin _ _ (by simp [hYj]) (hnk bt hjo)⟩
      · conv => whnf
        refine nthK_of (get_set_ne (get_concat _ _) (by simp; omega)) ?_
        conv => whnf
        refine ⟨by show (pureD 8 (.lst [L2 [l], L2 bt.o] 2 .shared) && true) = true; rw [puC]; rfl, _, concat_ok [l] bt.o rfl hbo, acc0, ?_⟩
        conv => whnf
        refine nthK_of (get_set_ne (get_concat _ _) (by simp; omega)) ?_
        conv => whnf
        refine ⟨rfl, by decide, rfl, by omega, ?_⟩
        conv => whnf
        refine nthK_of (by rw [List.getElem?_set_self (by simp; omega)]) ?_
        conv => whnf
        rw [List.set_set, List.append_assoc]
        exact ⟨rfl, hfin _ _ (by simp [hYj]) (hnk bt hjo)⟩
end
end Go.Proofs.Ytlcebaejlnpdeaa.Ab

/-
  Contracts: the program's orders, all layers.
-/
namespace Go.Proofs.Ytlcebaejlnpdeaa.Ab
open Go
set_option maxRecDepth 20000
set_option maxHeartbeats 4000000
theorem porders_ok (p : List (List Int)) (hv : Val p) : PO 77 [Bn p] (L2 (progOrders p)) := by
  have h2 := hv.n2
  have h4 := hv.n4
  refine fn_pure hmix lk77 rfl (pu2' _) ?_
  unfold rc77
  conv => whnf
  rw [show IntKind.i64.wrap ((p.length : Int) - 1) = (p.length : Int) - 1 by rw [wrapI _ (by omega) (by omega)]]
  refine .intro (fun m T H => ∃ t Y c c1, t ≤ p.length ∧ m = t ∧ (c = .own 4 ∨ c = .shared) ∧ (c1 = .full ∨ c1 = .shared) ∧ T = slots 88 [(1, .ptr 0 0), (3, .ptr 1 0), (4, .ptr 2 0), (5, .ptr (3 + Y.length) 0)] ∧
    H = .cells [Bn p] :: .cells [LJ c1 c1 (joints (p.drop t)) c] :: .cells [.func 100 [] []] :: (Y ++ [.cells [I ((t : Int) - 1)]])) p.length ⟨p.length, [], .own 4, .full, Nat.le_refl _, rfl, .inl rfl, .inl rfl, rfl, by rw [List.drop_length]; rfl⟩ ?_
  rintro t T H ⟨_, Y, c, c1, ht, rfl, hc, hc1, rfl, rfl⟩
  conv => whnf
  refine nthK_of (at3 _ _ _ _ Y []) ?_
  conv => whnf
  refine dcase (fun h => ?_) (fun h => ?_)
  · obtain ⟨t, rfl⟩ : ∃ t', t = t' + 1 := ⟨t - 1, by omega⟩
    rw [show (((t + 1 : Nat) : Int) - 1) = (t : Int) by omega]
    conv => whnf
    refine nthK_of (ga (Z := [_]) (at3 _ _ _ _ Y [])) ?_
    conv => whnf
    refine ⟨by first | rfl | simp only [List.all_cons, List.all_nil, pu0, pub, pu1, pu2, pu1', pu2', pun, puf, puP, puP', puQ, puQ', Bool.and_true, Bool.and_self], _, all_ok86 p t, ?_⟩
    conv => whnf
    have ht' : t < p.length := by omega
    have hd := drop_cons p t ht'
    obtain ⟨q1, q2, q3⟩ := joints_b (p.drop (t + 1)) fun l hl => ⟨hv.s1 l (List.mem_of_mem_drop hl), hv.s5 l (List.mem_of_mem_drop hl)⟩
    have hj : joints (p.drop t) = nextJ p[t] (joints (p.drop (t + 1))) := by rw [hd]; rfl
    have hnB : (p.drop (t + 1)).length ≤ 3 := by simp; omega
    generalize joints (p.drop (t + 1)) = Bh at q1 q2 q3 hj ⊢
    generalize hX : (AObj.cells [Bn p] :: AObj.cells [LJ c1 c1 Bh c] :: AObj.cells [AV.func 100 [] []] :: (Y ++ [AObj.cells [I t]]) ++ [AObj.cells [AV.lst [] 0 Cap.full]]) = X0
    generalize hin : (AObj.cells [Bn p] :: AObj.cells [LJ c1 c1 Bh c] :: AObj.cells [AV.func 100 [] []] :: (Y ++ [AObj.cells [I t]])).length = inn
    have hinn : inn = 4 + Y.length := by rw [← hin]; simp; omega
    have hXl : X0.length = 5 + Y.length := by rw [← hX]; simp; omega
    have g0 : X0[0]? = some (.cells [Bn p]) := by rw [← hX]; rfl
    have g1 : X0[1]? = some (.cells [LJ c1 c1 Bh c]) := by rw [← hX]; rfl
    have g2 : X0[2]? = some (.cells [.func 100 [] []]) := by rw [← hX]; rfl
    have gi : X0[3 + Y.length]? = some (.cells [I t]) := by rw [← hX]; exact ga (at3 _ _ _ _ Y [])
    have hA0 : ∀ cx : AObj, X0.set inn cx = .cells [Bn p] :: .cells [LJ c1 c1 Bh c] :: .cells [.func 100 [] []] :: (Y ++ [.cells [I t], cx]) := fun cx => by
      rw [← hX, ← hin, sset']; simp
    have h5 := hv.s5 _ (List.getElem_mem ht')
    have h1 := hv.s1 _ (List.getElem_mem ht')
    have hN := perms_pos h1 h5
    have hsem := all1_sem p t ht' h1 h5 (by omega) (fun r => X0.set inn (.cells [nextk (nextJ p[t] Bh) r])) (fun _ => Bh.length + 1) X0.length 0
      (lp77 (slots 88 [(1, .ptr 0 0), (3, .ptr 1 0), (4, .ptr 2 0), (5, .ptr (3 + Y.length) 0), (6, .ptr inn 0), (26, .bool (decide (0 ≤ (t : Int)))), (29, Bn p), (30, I t), (31, .func 107 [] [.lptr [Bn p], .lptr [I t]])]) .ready) (fun r => by simp) (Nat.zero_le _) (fun _ _ _ h => by omega)
      (fun r hr Y' => round77 p t ht' hv Bh _ q3 hnB q1 q2 c c1 hc hc1 X0 (3 + Y.length) inn _ _ _ _ g0 g1 g2 gi (by omega) (by omega) (by omega) (by omega) (by omega) r hr Y' _ rfl)
    have hX00 : X0.set inn (.cells [nextk (nextJ p[t] Bh) 0]) = X0 := by rw [hA0, ← hX]; simp [nextk]
    rw [hX00] at hsem
    have hlN : nextk (nextJ p[t] Bh) (perms p[t].length).length = LJ .shared .shared (nextJ p[t] Bh) (.own 4) := by
      rw [nextk, if_neg (by omega), List.take_of_length_le (by rw [nextJ_len] <;> omega)]
    rw [hlN] at hsem
    generalize List.replicate (1 + sumM (fun _ => Bh.length + 1) (perms p[t].length).length) AObj.dead = D at hsem
    refine ⟨rfl, .tuple [], _, .ready, none, 77, slots 88 [(1, .ptr 0 0), (3, .ptr 1 0), (4, .ptr 2 0), (5, .ptr (3 + Y.length) 0), (6, .ptr inn 0), (26, .bool (decide (0 ≤ (t : Int)))), (29, Bn p), (30, I t), (31, .func 107 [] [.lptr [Bn p], .lptr [I t]])], [32], rngA Go.Proofs.Try.prog 77 0, rngB Go.Proofs.Try.prog 77 0, ann77, hsem, ?_, by simp, ?_⟩
    · rw [List.getElem?_append_right (by simp), List.length_set, Nat.sub_self]; rfl
    have hZ : ∀ e : AObj, (X0.set inn (.cells [LJ .shared .shared (nextJ p[t] Bh) (.own 4)]) ++ e :: D).set X0.length .dead = .cells [Bn p] :: .cells [LJ c1 c1 Bh c] :: .cells [.func 100 [] []] :: (Y ++ .cells [I t] :: .cells [LJ .shared .shared (nextJ p[t] Bh) (.own 4)] :: .dead :: D) := fun e => by
      have := sset (X0.set inn (.cells [LJ .shared .shared (nextJ p[t] Bh) (.own 4)])) D e .dead
      rw [List.length_set] at this
      rw [this, hA0]; simp
    rw [hZ]
    obtain ⟨Y2, hY2⟩ : ∃ Y2, Y2 = Y ++ .cells [I t] :: .cells [LJ .shared .shared (nextJ p[t] Bh) (.own 4)] :: .dead :: D := ⟨_, rfl⟩
    have zn : (AObj.cells [Bn p] :: .cells [LJ c1 c1 Bh c] :: .cells [.func 100 [] []] :: Y2)[inn]? = some (.cells [LJ .shared .shared (nextJ p[t] Bh) (.own 4)]) := by
      rw [hY2, hinn, show 4 + Y.length = (Y.length + 1) + 1 + 1 + 1 by omega]
      simp
    have zi : (AObj.cells [Bn p] :: .cells [LJ c1 c1 Bh c] :: .cells [.func 100 [] []] :: Y2)[3 + Y.length]? = some (.cells [I t]) := by
      rw [hY2]; exact at3 _ _ _ _ _ _
    rw [← hY2]
    conv => whnf
    refine nthK_of zn ?_
    conv => whnf
    refine nthK_of (get_set_ne zi (by omega)) ?_
    conv => whnf
    refine nthK_of (get_concat _ _) ?_
    conv => whnf
    refine nthK_of (setc_get _ _ _) ?_
    conv => whnf
    refine nthK_of (setc_get _ _ _) ?_
    conv => whnf
    refine ⟨t, by omega, t, Y2, .shared, .shared, by omega, rfl, .inr rfl, .inr rfl, ?_, ?_⟩
    · rw [show 3 + Y2.length = Y2.length + 1 + 1 + 1 by omega]; rfl
    · rw [hj, set_concat, set_concat, wrapI _ (by omega) (by omega)]; rfl
  · obtain rfl : t = 0 := by omega
    rw [List.drop_zero]
    obtain ⟨q1, q2, q3⟩ := joints_b p fun l hl => ⟨hv.s1 l hl, hv.s5 l hl⟩
    unfold progOrders
    generalize joints p = jl at q1 q2 ⊢
    obtain ⟨x0, t0, rfl⟩ : ∃ x0 t0, jl = x0 :: t0 := by
      cases jl with
      | nil => simp at q1
      | cons x0 t0 => exact ⟨x0, t0, rfl⟩
    rcases hc with rfl | rfl
    all_goals
      rcases hc1 with rfl | rfl
    · conv => whnf
      refine ⟨by simp only [List.all_cons, List.all_nil, puLJ, puf, Bool.and_true, Bool.and_self], _, best_ok fw 100 (.inl ⟨rfl, rfl⟩) x0 t0 (by simp at q2; omega) fewer_ok, ?_⟩
      conv => whnf
      exact ret_pure (.inr rfl) (pu2' _) rfl
    · conv => whnf
      refine ⟨by simp only [List.all_cons, List.all_nil, puLJ, puf, Bool.and_true, Bool.and_self], _, best_ok fw 100 (.inr (.inr ⟨rfl, rfl⟩)) x0 t0 (by simp at q2; omega) fewer_ok, ?_⟩
      conv => whnf
      exact ret_pure (.inr rfl) (pu2' _) rfl
    · conv => whnf
      refine ⟨by simp only [List.all_cons, List.all_nil, puLJ, puf, Bool.and_true, Bool.and_self], _, best_ok fw 100 (.inl ⟨rfl, rfl⟩) x0 t0 (by simp at q2; omega) fewer_ok, ?_⟩
      conv => whnf
      exact ret_pure (.inr rfl) (pu2' _) rfl
    · conv => whnf
      refine ⟨by simp only [List.all_cons, List.all_nil, puLJ, puf, Bool.and_true, Bool.and_self], _, best_ok fw 100 (.inr (.inr ⟨rfl, rfl⟩)) x0 t0 (by simp at q2; omega) fewer_ok, ?_⟩
      conv => whnf
      exact ret_pure (.inr rfl) (pu2' _) rfl
/-! ### by, Fewest, Orders, Pair -/
theorem by_ok (p o : List (List Int)) (hv : Val p) (h : Ords p o) : PO 76 [Bn p, L2 o] (O2 (seamsBy p o)) := by
  have hl := h.len
  have h4 := hv.n4
  refine fn_pure hmix lk76 rfl (pu2 _ _ _) ?_
  unfold rc76
  conv => whnf
  refine .intro (CI (fun i => slots 24 [(0, Bn p), (5, U2 (seamsBy (p.take i) (o.take i))), (8, L2 o), (9, I o.length), (10, I i)]) o.length []) o.length (ci0 rfl) ?_
  rintro m T H ⟨i, hi, rfl, rfl, rfl⟩
  conv => whnf
  refine dcase (fun h2 => ?_) (fun h2 => ?_)
  · have hlt : i < o.length := by omega
    have hlt2 : i < p.length := by omega
    have hI := h.inL hv i hlt hlt2
    have hs1 := hv.s1 _ (List.getElem_mem hlt2)
    have hon := (isOrd_iff.1 (h.ord i hlt hlt2)).1
    conv => whnf
    refine ⟨by omega, ?_⟩
    conv => whnf
    refine nthM _ _ _ (hlt) ?_
    conv => whnf
    refine ⟨?_, _, pseams_ok p i hlt2 o[i] hI (by omega), ?_⟩
    · simp only [List.all_cons, List.all_nil, pu1, pu0, puBn, puQ, Bool.and_true]
    conv => whnf
    have hll : (seamsBy (p.take i) (o.take i)).length ≤ i := by simp [seamsBy]; omega
    refine ⟨rfl, by decide, rfl, by omega, ?_⟩
    conv => whnf
    exact ciN hlt (by rw [seamsBy_take i hlt hlt2, ← U2_snoc, ← wrapS i (by omega)] <;> rfl)
  · obtain rfl : i = o.length := by omega
    conv => whnf
    exact ret_own (.inr rfl) (pu2 _ _ _) (.inr (by rw [List.take_length, hl, List.take_length]; rfl))
theorem jointOf_head (a : List Int) (b : List Jt) (o : List Int) : (jointOf a b o).o = o :: (bestL fw (b.map (tryJ (seamsOf a o)))).o := rfl
/-- What joints' orders are. -/
theorem joints_ords : ∀ (p : List (List Int)), (∀ l ∈ p, 1 ≤ l.length ∧ l.length ≤ 5) → ∀ x ∈ joints p, Ords p x.o
  | [], _, x, hx => by
    simp [joints] at hx; subst hx
    exact ⟨rfl, fun i h => by simp at h⟩
  | a :: r, h, x, hx => by
    have hr : ∀ l ∈ r, 1 ≤ l.length ∧ l.length ≤ 5 := fun l hl => h l (by simp [hl])
    obtain ⟨q1, _, _⟩ := joints_b r hr
    have ih := joints_ords r hr
    simp only [joints, nextJ, List.mem_map] at hx
    obtain ⟨o, ho, rfl⟩ := hx
    have hm := bestL_mem fw ((joints r).map (tryJ (seamsOf a o))) (by simpa using q1)
    obtain ⟨j, hj, e⟩ := List.mem_map.1 hm
    have hjo := ih j hj
    have e2 : (bestL fw ((joints r).map (tryJ (seamsOf a o)))).o = j.o := by rw [← e]; rfl
    refine ⟨by rw [jointOf_head, e2, List.length_cons, List.length_cons, hjo.len], fun i h1 h2 => ?_⟩
    simp only [jointOf_head, e2] at h1 ⊢
    cases i with
    | zero => exact perms_ord ho
    | succ i => exact hjo.ord i (by simpa using h1) (by simpa using h2)
theorem progOrders_ords {p : List (List Int)} (hv : Val p) : Ords p (progOrders p) := by
  have h : ∀ l ∈ p, 1 ≤ l.length ∧ l.length ≤ 5 := fun l hl => ⟨hv.s1 l hl, hv.s5 l hl⟩
  exact joints_ords p h _ (bestL_mem fw _ (joints_b p h).1)
def pfewE (p : List (List Int)) : Int := if checkP p = 0 then (meetN (seamsBy p (progOrders p)) : Int) else 0
theorem pfewest_ok (p : List (List Int)) (h1 : p.length ≤ 140737488355328) (h2 : ∀ l ∈ p, l.length ≤ 140737488355328) : PO 33 [P1 p] (.tuple [I (pfewE p), I (checkP p)]) := by
  by_cases hc : checkP p = 0
  · have hv := checkP_val hc
    have ho := progOrders_ords hv
    have h4 := hv.n4
    have hl := seamsBy_length ho
    have hq := seamsBy_pos hv ho
    have hi := seamsBy_inc hv ho
    rw [show pfewE p = (meetN (seamsBy p (progOrders p)) : Int) from if_pos hc, hc]
    refine fn_pure hmix lk33 rfl rfl ?_
    unfold rc33
    conv => whnf
    refine ⟨by first | rfl | simp only [List.all_cons, List.all_nil, pu0, pub, pu1, pu2, pu1', pu2', pun, puf, puP, puP', puQ, puQ', Bool.and_true, Bool.and_self], _, open_good [] h1 h2 (by simp) hc rfl, ?_⟩
    conv => whnf
    refine ⟨by simp only [List.all_cons, List.all_nil, puQ, puBn, Bool.and_true], _, porders_ok p hv, ?_⟩
    conv => whnf
    refine ⟨by simp only [List.all_cons, List.all_nil, puQ, puBn, pu2, pu2', Bool.and_true], _, by_ok p _ hv ho, ?_⟩
    conv => whnf
    generalize seamsBy p (progOrders p) = l at hl hq hi
    refine ⟨_, _, meet_call l (by omega) (fun r hr => by have := (hq r hr).2; omega) (places_nodup l 0 fun r hr => inc_nodup (hi r hr)) _ _, ?_⟩
    conv => whnf
    refine ⟨_, _, rfl, ?_⟩
    conv => whnf
    exact ret_pure (.inr rfl) rfl (by rw [← meets_length]; rfl)
  · rw [show pfewE p = 0 from if_neg hc]
    refine fn_pure hmix lk33 rfl rfl ?_
    unfold rc33
    conv => whnf
    refine ⟨by first | rfl | simp only [List.all_cons, List.all_nil, pu0, pub, pu1, pu2, pu1', pu2', pun, puf, puP, puP', puQ, puQ', Bool.and_true, Bool.and_self], _, open_bad [] h1 h2 (by simp) hc, ?_⟩
    conv => whnf
    refine dcase (fun h => ?_) (fun h => absurd hc h)
    conv => whnf
    exact ret_pure (.inr rfl) rfl rfl
def pordE (p : List (List Int)) : List (List Int) := if checkP p = 0 then progOrders p else []
theorem pOrders_ok (p : List (List Int)) (h1 : p.length ≤ 140737488355328) (h2 : ∀ l ∈ p, l.length ≤ 140737488355328) : PO 35 [P1 p] (.tuple [L2 (pordE p), I (checkP p)]) := by
  by_cases hc : checkP p = 0
  · have hv := checkP_val hc
    rw [show pordE p = progOrders p from if_pos hc, hc]
    refine fn_pure hmix lk35 rfl (puT _ _) ?_
    unfold rc35
    conv => whnf
    refine ⟨by first | rfl | simp only [List.all_cons, List.all_nil, pu0, pub, pu1, pu2, pu1', pu2', pun, puf, puP, puP', puQ, puQ', Bool.and_true, Bool.and_self], _, open_good [] h1 h2 (by simp) hc rfl, ?_⟩
    conv => whnf
    refine ⟨by simp only [List.all_cons, List.all_nil, puQ, puBn, Bool.and_true], _, porders_ok p hv, ?_⟩
    conv => whnf
    exact ret_pure (.inr rfl) (puT _ _) rfl
  · rw [show pordE p = [] from if_neg hc]
    refine fn_pure hmix lk35 rfl (puT _ _) ?_
    unfold rc35
    conv => whnf
    refine ⟨by first | rfl | simp only [List.all_cons, List.all_nil, pu0, pub, pu1, pu2, pu1', pu2', pun, puf, puP, puP', puQ, puQ', Bool.and_true, Bool.and_self], _, open_bad [] h1 h2 (by simp) hc, ?_⟩
    conv => whnf
    refine dcase (fun h => ?_) (fun h => absurd hc h)
    conv => whnf
    exact ret_pure (.inr rfl) (puT _ _) rfl
end Go.Proofs.Ytlcebaejlnpdeaa.Ab

/-
  Plain law of layer 5: the program's orders are the first ones that have the fewest meetings.
-/
namespace Go.Proofs.Ytlcebaejlnpdeaa.Ab
theorem common_nil (s : List Int) : common s [] = 0 := by
  unfold common; rw [List.length_eq_zero_iff, List.filter_eq_nil_iff]; simp [has]
theorem bestJ_m : ∀ (t : List Jt) (x : Jt), (bestJ fw t x).m = t.foldl (fun m y => min m y.m) x.m
  | [], x => rfl
  | y :: t, x => by
    have e : bestJ fw (y :: t) x = bestJ fw t (if fw y x = true then y else x) := rfl
    rw [e, bestJ_m t, List.foldl_cons]
    congr 1
    unfold fw
    by_cases h : y.m < x.m
    · rw [if_pos (decide_eq_true h)]; omega
    · rw [if_neg (by simpa using h)]; omega
theorem bestJ_le (t : List Jt) (x : Jt) : (bestJ fw t x).m ≤ x.m ∧ ∀ y ∈ t, (bestJ fw t x).m ≤ y.m := by
  rw [bestJ_m]
  have key : ∀ (t : List Jt) (a : Int), t.foldl (fun m y => min m y.m) a ≤ a ∧ ∀ y ∈ t, t.foldl (fun m y => min m y.m) a ≤ y.m := by
    intro t
    induction t with
    | nil => intro a; simp
    | cons z t ih =>
      intro a
      obtain ⟨h1, h2⟩ := ih (min a z.m)
      rw [List.foldl_cons]
      refine ⟨by omega, fun y hy => ?_⟩
      rcases List.mem_cons.1 hy with rfl | hy
      · omega
      · exact h2 y hy
  exact key t x.m
/-- Joints' seams and meetings are the table's. -/
theorem joints_s (a : List Int) (r : List (List Int)) : (joints (a :: r)).map (·.s) = seamA a := by
  simp only [joints, nextJ, seamA, List.map_map]; rfl
theorem minJ_best (s : List Int) (l : List Jt) (h : 0 < l.length) (hb : ∀ x ∈ l, x.m + common s x.s ≤ 100) : minJ s (l.map fun j => (j.s, j.m)) = (bestL fw (l.map (tryJ s))).m := by
  cases l with
  | nil => simp at h
  | cons x t =>
    have e : bestL fw ((x :: t).map (tryJ s)) = bestJ fw (t.map (tryJ s)) (tryJ s x) := rfl
    rw [e, bestJ_m, minJ, List.map_cons, List.foldl_cons]
    have h0 := hb x (by simp)
    have e2 : min (100 : Int) ((common s x.s : Int) + x.m) = (tryJ s x).m := by show _ = x.m + (common s x.s : Int); omega
    show (t.map fun j => (j.s, j.m)).foldl (fun m x => min m ((common s x.1 : Int) + x.2)) (min 100 ((common s x.s : Int) + x.m)) = _
    rw [e2, List.foldl_map, List.foldl_map]
    congr 1
    funext m y
    show min m ((common s y.s : Int) + y.m) = min m (y.m + (common s y.s : Int))
    rw [Int.add_comm]
theorem zip_map (l : List Jt) : List.zip (l.map (·.s)) (l.map (·.m)) = l.map fun j => (j.s, j.m) := by
  induction l with
  | nil => rfl
  | cons x l ih => simp only [List.map_cons, List.zip_cons_cons, ih]
abbrev Lens (p : List (List Int)) : Prop := (∀ l ∈ p, 1 ≤ l.length ∧ l.length ≤ 5) ∧ p.length ≤ 4
theorem Lens.tail {a : List Int} {r : List (List Int)} (h : Lens (a :: r)) : Lens r := ⟨fun l hl => h.1 l (by simp [hl]), by have := h.2; simp at this; omega⟩
theorem joints_m : ∀ (p : List (List Int)), Lens p → p ≠ [] → (joints p).map (·.m) = costs p
  | [], _, h => absurd rfl h
  | [a], _, _ => by
    simp only [joints, nextJ, costs, List.map_map]
    refine List.map_congr_left fun o _ => ?_
    show (bestL fw [tryJ (seamsOf a o) ⟨[], [], 0, 0⟩]).m = 0
    show (0 : Int) + (common (seamsOf a o) [] : Int) = 0
    rw [common_nil]; rfl
  | a :: b :: r, h, _ => by
    have hr := Lens.tail h
    have ih := joints_m (b :: r) hr (by simp)
    obtain ⟨q1, q2, q3⟩ := joints_b (b :: r) hr.1
    have e : joints (a :: b :: r) = nextJ a (joints (b :: r)) := rfl
    rw [e, costs, ← ih, ← joints_s b r, zip_map]
    simp only [nextJ, seamA, List.map_map]
    refine List.map_congr_left fun o ho => ?_
    show (bestL fw ((joints (b :: r)).map (tryJ (seamsOf a o)))).m = minJ (seamsOf a o) ((joints (b :: r)).map fun j => (j.s, j.m))
    refine (minJ_best _ _ q1 fun x hx => ?_).symm
    have hx1 := (q3 x hx).m1
    have hc := common_le (seamsOf a o) x.s
    have ho1 := (perms_mem ho).1
    have hs : (seamsOf a o).length ≤ 4 := by
      have := (h.1 a (by simp)).2
      simp [seamsOf, seamsGo_length]; omega
    have := hr.2
    omega
theorem fewest_best {p : List (List Int)} (h : Lens p) (hp : p ≠ []) : fewestOf p = (bestL fw (joints p)).m := by
  have e := joints_m p h hp
  have q := (joints_b p h.1).1
  unfold fewestOf leastOf
  rw [← e]
  generalize joints p = l at q
  cases l with
  | nil => simp at q
  | cons x t =>
    show (List.map (·.m) (x :: t)).foldl min x.m = (bestJ fw t x).m
    rw [bestJ_m, List.foldl_map, List.foldl_cons, Int.min_self]
theorem meetN_cons (s : List Int) (rows : List (List Int)) : meetN (s :: rows) = common s (rows.headD []) + meetN rows := by
  cases rows with
  | nil => simp [meetN, common_nil]
  | cons r rows => rfl
theorem joints_meet : ∀ (p : List (List Int)), (∀ l ∈ p, 1 ≤ l.length ∧ l.length ≤ 5) → ∀ x ∈ joints p, x.m = (meetN (seamsBy p x.o) : Int) ∧ x.s = (seamsBy p x.o).headD []
  | [], _, x, hx => by
    simp [joints] at hx; subst hx; exact ⟨rfl, rfl⟩
  | a :: r, h, x, hx => by
    have hr : ∀ l ∈ r, 1 ≤ l.length ∧ l.length ≤ 5 := fun l hl => h l (by simp [hl])
    obtain ⟨q1, _, _⟩ := joints_b r hr
    have ih := joints_meet r hr
    simp only [joints, nextJ, List.mem_map] at hx
    obtain ⟨o, ho, rfl⟩ := hx
    have hm := bestL_mem fw ((joints r).map (tryJ (seamsOf a o))) (by simpa using q1)
    obtain ⟨j, hj, e⟩ := List.mem_map.1 hm
    obtain ⟨i1, i2⟩ := ih j hj
    have e1 : (jointOf a (joints r) o).o = o :: j.o := by show o :: (bestL fw _).o = _; rw [← e]; rfl
    have e2 : (jointOf a (joints r) o).m = j.m + (common (seamsOf a o) j.s : Int) := by show (bestL fw _).m = _; rw [← e]; rfl
    have e3 : seamsBy (a :: r) (o :: j.o) = seamsOf a o :: seamsBy r j.o := rfl
    rw [e1, e2, e3, meetN_cons, i1, ← i2]
    refine ⟨by omega, rfl⟩
theorem fewest_eq {p : List (List Int)} (h : Lens p) (hp : p ≠ []) : fewestOf p = (meetN (seamsBy p (progOrders p)) : Int) := by
  rw [fewest_best h hp]
  exact (joints_meet p h.1 _ (bestL_mem fw _ (joints_b p h.1).1)).1
end Go.Proofs.Ytlcebaejlnpdeaa.Ab

/-
  Plain words of layer 5: the greatest distance: joints, layer by layer.
-/
namespace Go.Proofs.Ytlcebaejlnpdeaa.Ab
def tryF (W : Int) (s : List Int) (j : Jt) : Jt := ⟨j.o, [], 0, min j.d (betw j.s s W)⟩
def jointF (W : Int) (layer : List Int) (before : List Jt) (o : List Int) : Jt :=
  ⟨(bestL fr (before.map (tryF W (seamsOf layer o)))).o ++ [o], seamsOf layer o, 0, (bestL fr (before.map (tryF W (seamsOf layer o)))).d⟩
def nextF (W : Int) (layer : List Int) (before : List Jt) : List Jt := (perms layer.length).map (jointF W layer before)
def beforeF (W : Int) (p : List (List Int)) : List Jt := p.foldl (fun b a => nextF W a b) [⟨[], [], 0, W⟩]
def farB (p : List (List Int)) : Jt := bestL fr (beforeF (sumI (p.headD [])) p)
theorem nextF_len (W : Int) (a : List Int) (b : List Jt) : (nextF W a b).length = (perms a.length).length := by simp [nextF]
theorem beforeF_snoc (W : Int) (p : List (List Int)) (a : List Int) : beforeF W (p ++ [a]) = nextF W a (beforeF W p) := by
  simp [beforeF, List.foldl_append]
structure Jf (W : Int) (n : Nat) (x : Jt) : Prop where
  o : x.o.length = n
  s : Pos x.s
  d0 : 0 ≤ x.d
  d1 : x.d ≤ W
end Go.Proofs.Ytlcebaejlnpdeaa.Ab

/-
  Contracts: the greatest distance: rounds.
-/
namespace Go.Proofs.Ytlcebaejlnpdeaa.Ab
open Go
set_option maxRecDepth 20000
set_option maxHeartbeats 4000000
noncomputable abbrev lp91 (T : List AV) (st : LoopState) : AObj := .loop st none 91 T [37] (rngA Go.Proofs.Try.prog 91 0) (rngB Go.Proofs.Try.prog 91 0) ann91
theorem takeFull (l : List (List Int)) : AV.lst ((l.map L1).take ((l.length : Int).toNat * 1)) (l.length : Int).toNat .full = .lst (l.map L1) l.length .full := by
  simp [← List.map_take]
theorem L2_sn (l : List (List Int)) (x : List Int) : AV.lst (l.map L1 ++ AV.lst (x.map I) x.length .shared :: List.append [] (repl 0 [AV.lst [] 0 .full])) (l.length + 1) .shared = L2 (l ++ [x]) := by
  simp [L2, L1, repl]
section
variable (p : List (List Int)) (t : Nat) (ht : t < p.length) (hv : Val p) (Wd : Int) (Bh : List Jt) (nB : Nat) (hB : ∀ x ∈ Bh, Jf Wd nB x) (hn : nB ≤ 3) (hB0 : 0 < Bh.length) (hB1 : Bh.length ≤ 3125)
variable (c c1 : Cap) (hc : c = .own 4 ∨ c = .shared) (hc1 : c1 = .full ∨ c1 = .shared) (X0 : List AObj) (ii inn : Nat) (TT : List AV)
variable (g0 : X0[0]? = some (.cells [Bn p])) (g2 : X0[2]? = some (.cells [I Wd])) (g3 : X0[3]? = some (.cells [LJ c1 c1 Bh c])) (g4 : X0[4]? = some (.cells [.func 111 [] []])) (gi : X0[ii]? = some (.cells [I t]))
variable (hinn : inn < X0.length) (n0 : inn ≠ 0) (n2 : inn ≠ 2) (n3 : inn ≠ 3) (n4 : inn ≠ 4) (ni : inn ≠ ii)
include ht hv hB hn hB0 hB1 hc hc1 g0 g2 g3 g4 gi hinn n0 n2 n3 n4 ni
theorem round91 (r : Nat) (hr : r < (perms p[t].length).length) (Y : List AObj) (x30 x31 x32 x34 x35 x36 : AV) (hT : TT = slots 90 [(1, .ptr 0 0), (2, .ptr 1 0), (3, .ptr 2 0), (4, .ptr 3 0), (5, .ptr 4 0), (6, .ptr ii 0), (7, .ptr inn 0), (30, x30), (31, x31), (32, x32), (34, x34), (35, x35), (36, x36)]) :
    Sem Go.Proofs.Try.prog (.yield X0.length) [U1 (perms p[t].length)[r]] (X0.set inn (.cells [nextk (nextF Wd p[t] Bh) r]) ++ lp91 TT .ready :: Y) 0 (.bool true)
      (X0.set inn (.cells [nextk (nextF Wd p[t] Bh) (r + 1)]) ++ lp91 TT .ready :: (Y ++ List.replicate (Bh.length + 1) .dead)) := by
  have h5 := hv.s5 _ (List.getElem_mem ht)
  have h1 := hv.s1 _ (List.getElem_mem ht)
  have hI : InL p[t] (perms p[t].length)[r] := perm_inL (hv.sm (List.getElem_mem ht)) (List.getElem_mem hr) h5
  have hlr := (perms_mem (List.getElem_mem hr)).1
  have hnr : (nextF Wd p[t] Bh)[r]? = some (jointF Wd p[t] Bh (perms p[t].length)[r]) := by simp [nextF, hr]
  have hsl : ∀ d : AObj, (X0.set inn d).length = X0.length := fun d => by simp
  have hset : ∀ (d e : AObj) (Z : List AObj), (X0.set inn d ++ e :: Z)[X0.length]? = some e := fun d e Z => by
    rw [List.getElem?_append_right (by simp), hsl, Nat.sub_self]; rfl
  have hss : ∀ (d e f : AObj) (Z : List AObj), (X0.set inn d ++ e :: Z).set X0.length f = X0.set inn d ++ f :: Z := fun d e f Z => by
    have := sset (X0.set inn d) Z e f
    rwa [hsl] at this
  refine sem_round hmix (l := X0.length) (T := TT) lkY91A lkY91B (hset _ _ _) rfl ⟨by simp, fun _ h => by omega⟩ ?_
  generalize hl : (perms p[t].length)[r] = l at *
  obtain ⟨LR, hLR⟩ : ∃ x, x = lp91 TT .ready := ⟨_, rfl⟩
  obtain ⟨LB, hLB⟩ : ∃ x, x = lp91 TT .busy := ⟨_, rfl⟩
  rw [← hLR]
  rw [show AObj.loop .busy none 91 TT [37] (rngA Go.Proofs.Try.prog 91 0) (rngB Go.Proofs.Try.prog 91 0) ann91 = LB from hLB.symm, show AObj.loop .ready none 91 TT [37] (rngA Go.Proofs.Try.prog 91 0) (rngB Go.Proofs.Try.prog 91 0) ann91 = LR from hLR.symm]
  rw [hT]
  unfold rcY91A
  conv => whnf
  refine ⟨rfl, hset _ _ _, ?_⟩
  rw [hss]
  unfold rcY91B
  conv => whnf
  obtain ⟨W, hW⟩ : ∃ W, W = X0.set inn (.cells [nextk (nextF Wd p[t] Bh) r]) ++ LB :: Y := ⟨_, rfl⟩
  have hWs : ∀ (J : List AObj) (d : AObj), (W ++ J).set inn d = X0.set inn d ++ LB :: (Y ++ J) := fun J d => by
    rw [hW, List.append_assoc, List.set_append_left _ _ (by simp; exact hinn), List.set_set]; rfl
  have gw : ∀ (j : Nat) (o : AObj), j ≠ inn → X0[j]? = some o → W[j]? = some o := fun j o hj ho => by
    rw [hW]
    exact ga (by rw [List.getElem?_set_ne (fun e => hj e.symm)]; exact ho)
  have w0 := gw 0 _ (Ne.symm n0) g0
  have w2 := gw 2 _ (Ne.symm n2) g2
  have w3 := gw 3 _ (Ne.symm n3) g3
  have w4 := gw 4 _ (Ne.symm n4) g4
  have wi := gw ii _ (Ne.symm ni) gi
  have wn : W[inn]? = some (.cells [nextk (nextF Wd p[t] Bh) r]) := by
    rw [hW]; exact ga (by rw [List.getElem?_set_self hinn])
  have hfin : ∀ (J : List AObj) (cx : AObj), J.length = Bh.length + 1 → cx = .cells [nextk (nextF Wd p[t] Bh) (r + 1)] → ((W ++ J).set inn cx)[X0.length]? = some LB ∧
      Fgt (((W ++ J).set inn cx).set X0.length LR) (X0.set inn (.cells [nextk (nextF Wd p[t] Bh) (r + 1)]) ++ LR :: (Y ++ List.replicate (Bh.length + 1) .dead)) := fun J cx hJ hcx => by
    subst hcx
    rw [hWs]
    refine ⟨hset _ _ _, ?_⟩
    rw [hss, ← hJ, ← List.cons_append, ← List.append_assoc, ← List.cons_append, ← List.append_assoc]
    exact fgt_tail _ _
  rw [← hW]
  clear hWs hset hss gw hW g0 g2 g3 g4 gi
  have hsq := seamsOf_pos hI
  have hpl1 := perms_len h5
  refine nthK_of w0 ?_
  conv => whnf
  refine nthK_of wi ?_
  conv => whnf
  refine ⟨?_, _, pseams_ok p t ht l hI (by omega), ?_⟩
  · simp only [List.all_cons, List.all_nil, pu1, pu0, puBn, puQ, Bool.and_true]
  conv => whnf
  refine nthK_of w3 ?_
  have hwl : inn < W.length := (List.getElem?_eq_some_iff.1 wn).1
  have hnk : (nextk (nextF Wd p[t] Bh) r = nilF ∧ ∀ bt : Jt, jointF Wd p[t] Bh l = ⟨bt.o ++ [l], seamsOf p[t] l, 0, bt.d⟩ → AObj.cells [.lst ([] ++ jc ⟨bt.o ++ [l], seamsOf p[t] l, 0, bt.d⟩) (0 + 1) (.own 4)] = .cells [nextk (nextF Wd p[t] Bh) (r + 1)]) ∨
      (nextk (nextF Wd p[t] Bh) r = LJ .shared .shared ((nextF Wd p[t] Bh).take r) (.own 4) ∧ ∀ bt : Jt, jointF Wd p[t] Bh l = ⟨bt.o ++ [l], seamsOf p[t] l, 0, bt.d⟩ → AObj.cells [.lst (((nextF Wd p[t] Bh).take r).flatMap jc ++ jc ⟨bt.o ++ [l], seamsOf p[t] l, 0, bt.d⟩) (((nextF Wd p[t] Bh).take r).length + 1) (.own 4)] = .cells [nextk (nextF Wd p[t] Bh) (r + 1)]) := by
    obtain ⟨q1, q2⟩ := List.getElem?_eq_some_iff.1 hnr
    have e : (nextF Wd p[t] Bh).take (r + 1) = (nextF Wd p[t] Bh).take r ++ [jointF Wd p[t] Bh l] := by rw [List.take_succ_eq_append_getElem q1, q2]
    by_cases h0 : r = 0
    · subst h0
      refine .inl ⟨rfl, fun bt hb => ?_⟩
      rw [nextk, if_neg (by omega), e, hb]; rfl
    · refine .inr ⟨by rw [nextk, if_neg h0], fun bt hb => ?_⟩
      rw [nextk, if_neg (by omega), e, LJ_snoc, hb]
  have hnl : ((nextF Wd p[t] Bh).take r).length ≤ 3125 := by
    have := List.length_take_le' r (nextF Wd p[t] Bh); rw [nextF_len] at this; omega
  generalize nextk (nextF Wd p[t] Bh) r = nk at wn hnk
  generalize (nextF Wd p[t] Bh).take r = nxr at hnk hnl
  rcases hc with rfl | rfl
  all_goals
    rcases hc1 with rfl | rfl
  · conv => whnf
    refine .intro (fun m T H => ∃ j Yj, j ≤ Bh.length ∧ m = Bh.length - j ∧ Yj.length = j ∧ T = slots 90 [(3, .ptr 2 0), (5, .ptr 4 0), (7, .ptr inn 0), (8, O1 l), (9, O1 (seamsOf p[t] l)), (10, LJ .full .full ((Bh.take j).map (tryF Wd (seamsOf p[t] l))) (.uniq 4)), (42, LJ .full .full Bh .shared), (43, I Bh.length), (44, I j)] ∧ H = W ++ Yj) Bh.length ⟨0, [], by omega, by omega, rfl, rfl, by rw [List.append_nil]⟩ ?_
    rintro m T H ⟨j, Yj, hj, rfl, hYj, rfl, rfl⟩
    conv => whnf
    refine dcase (fun h => ?_) (fun h => ?_)
    · have hlt : j < Bh.length := by omega
      have hjb := hB _ (List.getElem_mem hlt)
      conv => whnf
      refine ⟨by omega, ?_⟩
      conv => whnf
      rw [Int.toNat_natCast, dropJ .full .full Bh j hlt]
      conv => whnf
      refine nthK_of (get_concat _ _) ?_
      conv => whnf
      rw [set_concat]
      refine nthK_of (get_concat _ _) ?_
      conv => whnf
      refine nthK_of (get_concat _ _) ?_
      conv => whnf
      refine nthK_of (get_concat _ _) ?_
      conv => whnf
      refine nthK_of (ga (ga w2)) ?_
      conv => whnf
      refine ⟨by first | rfl | simp only [List.all_cons, List.all_nil, pu0, pub, pu1, pu2, pu1', pu2', pun, puf, puP, puP', puQ, puQ', Bool.and_true, Bool.and_self], _, apart_ok Bh[j].s (seamsOf p[t] l) Wd hjb.s hsq, acc0, ?_⟩
      conv => whnf
      have hll : ((Bh.take j).map (tryF Wd (seamsOf p[t] l))).length ≤ j := by simp; omega
      refine ⟨rfl, by decide, rfl, by omega, ?_⟩
      conv => whnf
      exact ⟨Bh.length - (j + 1), by omega, j + 1, Yj ++ [.cells (jcw .full .full Bh[j])], by omega, rfl, by simp [hYj], by rw [List.take_succ_eq_append_getElem hlt, List.map_append, List.map_singleton, LJ_snoc, ← wrapS j (by omega)] <;> rfl, by rw [List.append_assoc]; rfl⟩
    · obtain rfl : j = Bh.length := by omega
      rw [List.take_length]
      conv => whnf
      refine nthK_of (ga w4) ?_
      conv => whnf
      have hbm := bestL_mem fr (Bh.map (tryF Wd (seamsOf p[t] l))) (by simpa using hB0)
      have hbo : (bestL fr (Bh.map (tryF Wd (seamsOf p[t] l)))).o.length ≤ 3 := by
        obtain ⟨b0, hb0, e0⟩ := List.mem_map.1 hbm
        rw [← e0]; show b0.o.length ≤ 3
        rw [(hB b0 hb0).o]; exact hn
      have hjo : jointF Wd p[t] Bh l = ⟨(bestL fr (Bh.map (tryF Wd (seamsOf p[t] l)))).o ++ [l], seamsOf p[t] l, 0, (bestL fr (Bh.map (tryF Wd (seamsOf p[t] l)))).d⟩ := rfl
      have htl : (Bh.map (tryF Wd (seamsOf p[t] l))).length = Bh.length := by simp
      generalize Bh.map (tryF Wd (seamsOf p[t] l)) = tr at hbm hbo hjo htl ⊢
      obtain ⟨x0, t0, rfl⟩ : ∃ x0 t0, tr = x0 :: t0 := by
        cases tr with
        | nil => simp at hbm
        | cons x0 t0 => exact ⟨x0, t0, rfl⟩
      have hbe : bestL fr (x0 :: t0) = bestJ fr t0 x0 := rfl
      rw [hbe] at hbo hjo
      refine ⟨by simp only [List.all_cons, List.all_nil, puLJ, puf, Bool.and_true, Bool.and_self], _, best_ok fr 111 (.inl ⟨rfl, rfl⟩) x0 t0 (by simp at htl; omega) farther_ok, ?_⟩
      generalize bestJ fr t0 x0 = bt at hbo hjo ⊢
      conv => whnf
      refine nthK_of (get_concat _ _) ?_
      conv => whnf
      rw [set_concat]
      refine nthK_of (ga (ga wn)) ?_
      rcases hnk with ⟨rfl, hnk⟩ | ⟨rfl, hnk⟩
      · conv => whnf
        refine nthK_of (get_concat _ _) ?_
        conv => whnf
        refine nthK_of (get_concat _ _) ?_
        conv => whnf
        refine nthK_of (get_concat _ _) ?_
        conv => whnf
        refine ⟨⟨rfl, by omega, by omega⟩, ?_⟩
        rw [takeFull]
        conv => whnf
        refine ⟨rfl, by omega, by omega, by omega, by simp, ?_⟩
        conv => whnf
        refine nthK_of (get_concat _ _) ?_
        conv => whnf
        refine ⟨rfl, by omega, by omega, by omega, rfl, ?_⟩
        conv => whnf
        refine nthK_of (ga (ga wn)) ?_
        conv => whnf
        rw [List.append_assoc, L2_sn]
        exact ⟨rfl, hfin _ _ (by simp [hYj]) (hnk bt hjo)⟩
      · conv => whnf
        refine nthK_of (get_set_ne (get_concat _ _) (by simp; omega)) ?_
        conv => whnf
        refine nthK_of (get_set_ne (get_concat _ _) (by simp; omega)) ?_
        conv => whnf
        refine nthK_of (get_set_ne (get_concat _ _) (by simp; omega)) ?_
        conv => whnf
        refine ⟨⟨rfl, by omega, by omega⟩, ?_⟩
        rw [takeFull]
        conv => whnf
        refine ⟨rfl, by omega, by omega, by omega, by simp, ?_⟩
        conv => whnf
        refine nthK_of (get_set_ne (get_concat _ _) (by simp; omega)) ?_
        conv => whnf
        refine ⟨rfl, by decide, rfl, by omega, ?_⟩
        conv => whnf
        refine nthK_of (by rw [List.getElem?_set_self (by simp; omega)]) ?_
        conv => whnf
        rw [List.set_set, List.append_assoc, L2_sn]
        exact ⟨rfl, hfin _ _ (by simp [hYj]) (hnk bt hjo)⟩
  · conv => whnf
    refine .intro (fun m T H => ∃ j Yj, j ≤ Bh.length ∧ m = Bh.length - j ∧ Yj.length = j ∧ T = slots 90 [(3, .ptr 2 0), (5, .ptr 4 0), (7, .ptr inn 0), (8, O1 l), (9, O1 (seamsOf p[t] l)), (10, LJ .shared .full ((Bh.take j).map (tryF Wd (seamsOf p[t] l))) (.uniq 4)), (42, LJ .shared .shared Bh .shared), (43, I Bh.length), (44, I j)] ∧ H = W ++ Yj) Bh.length ⟨0, [], by omega, by omega, rfl, rfl, by rw [List.append_nil]⟩ ?_
    rintro m T H ⟨j, Yj, hj, rfl, hYj, rfl, rfl⟩
    conv => whnf
    refine dcase (fun h => ?_) (fun h => ?_)
    · have hlt : j < Bh.length := by omega
      have hjb := hB _ (List.getElem_mem hlt)
      conv => whnf
      refine ⟨by omega, ?_⟩
      conv => whnf
      rw [Int.toNat_natCast, dropJ .shared .shared Bh j hlt]
      conv => whnf
      refine nthK_of (get_concat _ _) ?_
      conv => whnf
      rw [set_concat]
      refine nthK_of (get_concat _ _) ?_
      conv => whnf
      refine nthK_of (get_concat _ _) ?_
      conv => whnf
      refine nthK_of (get_concat _ _) ?_
      conv => whnf
      refine nthK_of (ga (ga w2)) ?_
      conv => whnf
      refine ⟨by first | rfl | simp only [List.all_cons, List.all_nil, pu0, pub, pu1, pu2, pu1', pu2', pun, puf, puP, puP', puQ, puQ', Bool.and_true, Bool.and_self], _, apart_ok Bh[j].s (seamsOf p[t] l) Wd hjb.s hsq, acc0, ?_⟩
      conv => whnf
      have hll : ((Bh.take j).map (tryF Wd (seamsOf p[t] l))).length ≤ j := by simp; omega
      refine ⟨rfl, by decide, rfl, by omega, ?_⟩
      conv => whnf
      exact ⟨Bh.length - (j + 1), by omega, j + 1, Yj ++ [.cells (jcw .shared .shared Bh[j])], by omega, rfl, by simp [hYj], by rw [List.take_succ_eq_append_getElem hlt, List.map_append, List.map_singleton, LJ_snoc, ← wrapS j (by omega)] <;> rfl, by rw [List.append_assoc]; rfl⟩
    · obtain rfl : j = Bh.length := by omega
      rw [List.take_length]
      conv => whnf
      refine nthK_of (ga w4) ?_
      conv => whnf
      have hbm := bestL_mem fr (Bh.map (tryF Wd (seamsOf p[t] l))) (by simpa using hB0)
      have hbo : (bestL fr (Bh.map (tryF Wd (seamsOf p[t] l)))).o.length ≤ 3 := by
        obtain ⟨b0, hb0, e0⟩ := List.mem_map.1 hbm
        rw [← e0]; show b0.o.length ≤ 3
        rw [(hB b0 hb0).o]; exact hn
      have hjo : jointF Wd p[t] Bh l = ⟨(bestL fr (Bh.map (tryF Wd (seamsOf p[t] l)))).o ++ [l], seamsOf p[t] l, 0, (bestL fr (Bh.map (tryF Wd (seamsOf p[t] l)))).d⟩ := rfl
      have htl : (Bh.map (tryF Wd (seamsOf p[t] l))).length = Bh.length := by simp
      generalize Bh.map (tryF Wd (seamsOf p[t] l)) = tr at hbm hbo hjo htl ⊢
      obtain ⟨x0, t0, rfl⟩ : ∃ x0 t0, tr = x0 :: t0 := by
        cases tr with
        | nil => simp at hbm
        | cons x0 t0 => exact ⟨x0, t0, rfl⟩
      have hbe : bestL fr (x0 :: t0) = bestJ fr t0 x0 := rfl
      rw [hbe] at hbo hjo
      refine ⟨by simp only [List.all_cons, List.all_nil, puLJ, puf, Bool.and_true, Bool.and_self], _, best_ok fr 111 (.inr (.inl ⟨rfl, rfl⟩)) x0 t0 (by simp at htl; omega) farther_ok, ?_⟩
      generalize bestJ fr t0 x0 = bt at hbo hjo ⊢
      conv => whnf
      refine nthK_of (get_concat _ _) ?_
      conv => whnf
      rw [set_concat]
      refine nthK_of (ga (ga wn)) ?_
      rcases hnk with ⟨rfl, hnk⟩ | ⟨rfl, hnk⟩
      · conv => whnf
        refine nthK_of (get_concat _ _) ?_
        conv => whnf
        refine nthK_of (get_concat _ _) ?_
        conv => whnf
        refine nthK_of (get_concat _ _) ?_
        conv => whnf
        refine ⟨⟨rfl, by omega, by omega⟩, ?_⟩
        rw [takeFull]
        conv => whnf
        refine ⟨rfl, by omega, by omega, by omega, by simp, ?_⟩
        conv => whnf
        refine nthK_of (get_concat _ _) ?_
        conv => whnf
        refine ⟨rfl, by omega, by omega, by omega, rfl, ?_⟩
        conv => whnf
        refine nthK_of (ga (ga wn)) ?_
        conv => whnf
        rw [List.append_assoc, L2_sn]
        exact ⟨rfl, hfin _ _ (by simp [hYj]) (hnk bt hjo)⟩
      · conv => whnf
        refine nthK_of (get_set_ne (get_concat _ _) (by simp; omega)) ?_
        conv => whnf
        refine nthK_of (get_set_ne (get_concat _ _) (by simp; omega)) ?_
        conv => whnf
        refine nthK_of (get_set_ne (get_concat _ _) (by simp; omega)) ?_
        conv => whnf
        refine ⟨⟨rfl, by omega, by omega⟩, ?_⟩
        rw [takeFull]
        conv => whnf
        refine ⟨rfl, by omega, by omega, by omega, by simp, ?_⟩
        conv => whnf
        refine nthK_of (get_set_ne (get_concat _ _) (by simp; omega)) ?_
        conv => whnf
        refine ⟨rfl, by decide, rfl, by omega, ?_⟩
        conv => whnf
        refine nthK_of (by rw [List.getElem?_set_self (by simp; omega)]) ?_
        conv => whnf
        rw [List.set_set, List.append_assoc, L2_sn]
        exact ⟨rfl, hfin _ _ (by simp [hYj]) (hnk bt hjo)⟩
  · conv => whnf
    refine .intro (fun m T H => ∃ j Yj, j ≤ Bh.length ∧ m = Bh.length - j ∧ Yj.length = j ∧ T = slots 90 [(3, .ptr 2 0), (5, .ptr 4 0), (7, .ptr inn 0), (8, O1 l), (9, O1 (seamsOf p[t] l)), (10, LJ .full .full ((Bh.take j).map (tryF Wd (seamsOf p[t] l))) (.uniq 4)), (42, LJ .full .full Bh .shared), (43, I Bh.length), (44, I j)] ∧ H = W ++ Yj) Bh.length ⟨0, [], by omega, by omega, rfl, rfl, by rw [List.append_nil]⟩ ?_
    rintro m T H ⟨j, Yj, hj, rfl, hYj, rfl, rfl⟩
    conv => whnf
    refine dcase (fun h => ?_) (fun h => ?_)
    · have hlt : j < Bh.length := by omega
      have hjb := hB _ (List.getElem_mem hlt)
      conv => whnf
      refine ⟨by omega, ?_⟩
      conv => whnf
      rw [Int.toNat_natCast, dropJ .full .full Bh j hlt]
      conv => whnf
      refine nthK_of (get_concat _ _) ?_
      conv => whnf
      rw [set_concat]
      refine nthK_of (get_concat _ _) ?_
      conv => whnf
      refine nthK_of (get_concat _ _) ?_
      conv => whnf
      refine nthK_of (get_concat _ _) ?_
      conv => whnf
      refine nthK_of (ga (ga w2)) ?_
      conv => whnf
      refine ⟨by first | rfl | simp only [List.all_cons, List.all_nil, pu0, pub, pu1, pu2, pu1', pu2', pun, puf, puP, puP', puQ, puQ', Bool.and_true, Bool.and_self], _, apart_ok Bh[j].s (seamsOf p[t] l) Wd hjb.s hsq, acc0, ?_⟩
      conv => whnf
      have hll : ((Bh.take j).map (tryF Wd (seamsOf p[t] l))).length ≤ j := by simp; omega
      refine ⟨rfl, by decide, rfl, by omega, ?_⟩
      conv => whnf
      exact ⟨Bh.length - (j + 1), by omega, j + 1, Yj ++ [.cells (jcw .full .full Bh[j])], by omega, rfl, by simp [hYj], by rw [List.take_succ_eq_append_getElem hlt, List.map_append, List.map_singleton, LJ_snoc, ← wrapS j (by omega)] <;> rfl, by rw [List.append_assoc]; rfl⟩
    · obtain rfl : j = Bh.length := by omega
      rw [List.take_length]
      conv => whnf
      refine nthK_of (ga w4) ?_
      conv => whnf
      have hbm := bestL_mem fr (Bh.map (tryF Wd (seamsOf p[t] l))) (by simpa using hB0)
      have hbo : (bestL fr (Bh.map (tryF Wd (seamsOf p[t] l)))).o.length ≤ 3 := by
        obtain ⟨b0, hb0, e0⟩ := List.mem_map.1 hbm
        rw [← e0]; show b0.o.length ≤ 3
        rw [(hB b0 hb0).o]; exact hn
      have hjo : jointF Wd p[t] Bh l = ⟨(bestL fr (Bh.map (tryF Wd (seamsOf p[t] l)))).o ++ [l], seamsOf p[t] l, 0, (bestL fr (Bh.map (tryF Wd (seamsOf p[t] l)))).d⟩ := rfl
      have htl : (Bh.map (tryF Wd (seamsOf p[t] l))).length = Bh.length := by simp
      generalize Bh.map (tryF Wd (seamsOf p[t] l)) = tr at hbm hbo hjo htl ⊢
      obtain ⟨x0, t0, rfl⟩ : ∃ x0 t0, tr = x0 :: t0 := by
        cases tr with
        | nil => simp at hbm
        | cons x0 t0 => exact ⟨x0, t0, rfl⟩
      have hbe : bestL fr (x0 :: t0) = bestJ fr t0 x0 := rfl
      rw [hbe] at hbo hjo
      refine ⟨by simp only [List.all_cons, List.all_nil, puLJ, puf, Bool.and_true, Bool.and_self], _, best_ok fr 111 (.inl ⟨rfl, rfl⟩) x0 t0 (by simp at htl; omega) farther_ok, ?_⟩
      generalize bestJ fr t0 x0 = bt at hbo hjo ⊢
      conv => whnf
      refine nthK_of (get_concat _ _) ?_
      conv => whnf
      rw [set_concat]
      refine nthK_of (ga (ga wn)) ?_
      rcases hnk with ⟨rfl, hnk⟩ | ⟨rfl, hnk⟩
      · conv => whnf
        refine nthK_of (get_concat _ _) ?_
        conv => whnf
        refine nthK_of (get_concat _ _) ?_
        conv => whnf
        refine nthK_of (get_concat _ _) ?_
        conv => whnf
        refine ⟨⟨rfl, by omega, by omega⟩, ?_⟩
        rw [takeFull]
        conv => whnf
        refine ⟨rfl, by omega, by omega, by omega, by simp, ?_⟩
        conv => whnf
        refine nthK_of (get_concat _ _) ?_
        conv => whnf
        refine ⟨rfl, by omega, by omega, by omega, rfl, ?_⟩
        conv => whnf
        refine nthK_of (ga (ga wn)) ?_
        conv => whnf
        rw [List.append_assoc, L2_sn]
        exact ⟨rfl, hfin _ _ (by simp [hYj]) (hnk bt hjo)⟩
      · conv => whnf
        refine nthK_of (get_set_ne (get_concat _ _) (by simp; omega)) ?_
        conv => whnf
        refine nthK_of (get_set_ne (get_concat _ _) (by simp; omega)) ?_
        conv => whnf
        refine nthK_of (get_set_ne (get_concat _ _) (by simp; omega)) ?_
        conv => whnf
        refine ⟨⟨rfl, by omega, by omega⟩, ?_⟩
        rw [takeFull]
        conv => whnf
        refine ⟨rfl, by omega, by omega, by omega, by simp, ?_⟩
        conv => whnf
        refine nthK_of (get_set_ne (get_concat _ _) (by simp; omega)) ?_
        conv => whnf
        refine ⟨rfl, by decide, rfl, by omega, ?_⟩
        conv => whnf
        refine nthK_of (by rw [List.getElem?_set_self (by simp; omega)]) ?_
        conv => whnf
        rw [List.set_set, List.append_assoc, L2_sn]
        exact ⟨rfl, hfin _ _ (by simp [hYj]) (hnk bt hjo)⟩
  · conv => whnf
    refine .intro (fun m T H => ∃ j Yj, j ≤ Bh.length ∧ m = Bh.length - j ∧ Yj.length = j ∧ T = slots 90 [(3, .ptr 2 0), (5, .ptr 4 0), (7, .ptr inn 0), (8, O1 l), (9, O1 (seamsOf p[t] l)), (10, LJ .shared .full ((Bh.take j).map (tryF Wd (seamsOf p[t] l))) (.uniq 4)), (42, LJ .shared .shared Bh .shared), (43, I Bh.length), (44, I j)] ∧ H = W ++ Yj) Bh.length ⟨0, [], by omega, by omega, rfl, rfl, by rw [List.append_nil]⟩ ?_
    rintro m T H ⟨j, Yj, hj, rfl, hYj, rfl, rfl⟩
    conv => whnf
    refine dcase (fun h => ?_) (fun h => ?_)
    · have hlt : j < Bh.length := by omega
      have hjb := hB _ (List.getElem_mem hlt)
      conv => whnf
      refine ⟨by omega, ?_⟩
      conv => whnf
      rw [Int.toNat_natCast, dropJ .shared .shared Bh j hlt]
      conv => whnf
      refine nthK_of (get_concat _ _) ?_
      conv => whnf
      rw [set_concat]
      refine nthK_of (get_concat _ _) ?_
      conv => whnf
      refine nthK_of (get_concat _ _) ?_
      conv => whnf
      refine nthK_of (get_concat _ _) ?_
      conv => whnf
      refine nthK_of (ga (ga w2)) ?_
      conv => whnf
      refine ⟨by first | rfl | simp only [List.all_cons, List.all_nil, pu0, pub, pu1, pu2, pu1', pu2', pun, puf, puP, puP', puQ, puQ', Bool.and_true, Bool.and_self], _, apart_ok Bh[j].s (seamsOf p[t] l) Wd hjb.s hsq, acc0, ?_⟩
      conv => whnf
      have hll : ((Bh.take j).map (tryF Wd (seamsOf p[t] l))).length ≤ j := by simp; omega
      refine ⟨rfl, by decide, rfl, by omega, ?_⟩
      conv => whnf
      exact ⟨Bh.length - (j + 1), by omega, j + 1, Yj ++ [.cells (jcw .shared .shared Bh[j])], by omega, rfl, by simp [hYj], by rw [List.take_succ_eq_append_getElem hlt, List.map_append, List.map_singleton, LJ_snoc, ← wrapS j (by omega)] <;> rfl, by rw [List.append_assoc]; rfl⟩
    · obtain rfl : j = Bh.length := by omega
      rw [List.take_length]
      conv => whnf
      refine nthK_of (ga w4) ?_
      conv => whnf
      have hbm := bestL_mem fr (Bh.map (tryF Wd (seamsOf p[t] l))) (by simpa using hB0)
      have hbo : (bestL fr (Bh.map (tryF Wd (seamsOf p[t] l)))).o.length ≤ 3 := by
        obtain ⟨b0, hb0, e0⟩ := List.mem_map.1 hbm
        rw [← e0]; show b0.o.length ≤ 3
        rw [(hB b0 hb0).o]; exact hn
      have hjo : jointF Wd p[t] Bh l = ⟨(bestL fr (Bh.map (tryF Wd (seamsOf p[t] l)))).o ++ [l], seamsOf p[t] l, 0, (bestL fr (Bh.map (tryF Wd (seamsOf p[t] l)))).d⟩ := rfl
      have htl : (Bh.map (tryF Wd (seamsOf p[t] l))).length = Bh.length := by simp
      generalize Bh.map (tryF Wd (seamsOf p[t] l)) = tr at hbm hbo hjo htl ⊢
      obtain ⟨x0, t0, rfl⟩ : ∃ x0 t0, tr = x0 :: t0 := by
        cases tr with
        | nil => simp at hbm
        | cons x0 t0 => exact ⟨x0, t0, rfl⟩
      have hbe : bestL fr (x0 :: t0) = bestJ fr t0 x0 := rfl
      rw [hbe] at hbo hjo
      refine ⟨by simp only [List.all_cons, List.all_nil, puLJ, puf, Bool.and_true, Bool.and_self], _, best_ok fr 111 (.inr (.inl ⟨rfl, rfl⟩)) x0 t0 (by simp at htl; omega) farther_ok, ?_⟩
      generalize bestJ fr t0 x0 = bt at hbo hjo ⊢
      conv => whnf
      refine nthK_of (get_concat _ _) ?_
      conv => whnf
      rw [set_concat]
      refine nthK_of (ga (ga wn)) ?_
      rcases hnk with ⟨rfl, hnk⟩ | ⟨rfl, hnk⟩
      · conv => whnf
        refine nthK_of (get_concat _ _) ?_
        conv => whnf
        refine nthK_of (get_concat _ _) ?_
        conv => whnf
        refine nthK_of (get_concat _ _) ?_
        conv => whnf
        refine ⟨⟨rfl, by omega, by omega⟩, ?_⟩
        rw [takeFull]
        conv => whnf
        refine ⟨rfl, by omega, by omega, by omega, by simp, ?_⟩
        conv => whnf
        refine nthK_of (get_concat _ _) ?_
        conv => whnf
        refine ⟨rfl, by omega, by omega, by omega, rfl, ?_⟩
        conv => whnf
        refine nthK_of (ga (ga wn)) ?_
        conv => whnf
        rw [List.append_assoc, L2_sn]
        exact ⟨rfl, hfin _ _ (by simp [hYj]) (hnk bt hjo)⟩
      · conv => whnf
        refine nthK_of (get_set_ne (get_concat _ _) (by simp; omega)) ?_
        conv => whnf
        refine nthK_of (get_set_ne (get_concat _ _) (by simp; omega)) ?_
        conv => whnf
        refine nthK_of (get_set_ne (get_concat _ _) (by simp; omega)) ?_
        conv => whnf
        refine ⟨⟨rfl, by omega, by omega⟩, ?_⟩
        rw [takeFull]
        conv => whnf
        refine ⟨rfl, by omega, by omega, by omega, by simp, ?_⟩
        conv => whnf
        refine nthK_of (get_set_ne (get_concat _ _) (by simp; omega)) ?_
        conv => whnf
        refine ⟨rfl, by decide, rfl, by omega, ?_⟩
        conv => whnf
        refine nthK_of (by rw [List.getElem?_set_self (by simp; omega)]) ?_
        conv => whnf
        rw [List.set_set, List.append_assoc, L2_sn]
        exact ⟨rfl, hfin _ _ (by simp [hYj]) (hnk bt hjo)⟩
end
end Go.Proofs.Ytlcebaejlnpdeaa.Ab

/-
  Contracts: the greatest distance, all layers; Far, Apart.
-/
namespace Go.Proofs.Ytlcebaejlnpdeaa.Ab
open Go
set_option maxRecDepth 20000
set_option maxHeartbeats 4000000
theorem nextF_b {W : Int} {n : Nat} {a : List Int} {b : List Jt} (hW : 0 ≤ W) (hs : Sm a) (h5 : a.length ≤ 5) (hb : ∀ x ∈ b, Jf W n x) (h0 : 0 < b.length) : ∀ x ∈ nextF W a b, Jf W (n + 1) x := by
  intro x hx
  obtain ⟨o, ho, rfl⟩ := List.mem_map.1 hx
  have hI := perm_inL hs ho h5
  have hp := seamsOf_pos hI
  have hm := bestL_mem fr (b.map (tryF W (seamsOf a o))) (by simpa using h0)
  obtain ⟨j, hj, e⟩ := List.mem_map.1 hm
  have hjb := hb j hj
  have hbt := betw_bound j.s (seamsOf a o) W (fun x hx => (hjb.s.v x hx).1) (fun x hx => (hp.v x hx).1) hW
  have e1 : (jointF W a b o).o = j.o ++ [o] := by show (bestL fr _).o ++ [o] = _; rw [← e]; rfl
  have e2 : (jointF W a b o).d = min j.d (betw j.s (seamsOf a o) W) := by show (bestL fr _).d = _; rw [← e]; rfl
  refine ⟨by rw [e1]; simp [hjb.o], hp, ?_, ?_⟩
  · rw [e2]; have := hjb.d0; omega
  · rw [e2]; have := hjb.d1; omega
theorem beforeF_b {W : Int} (hW : 0 ≤ W) : ∀ (n : Nat) (p : List (List Int)), p.length = n → (∀ l ∈ p, Sm l ∧ 1 ≤ l.length ∧ l.length ≤ 5) → 0 < (beforeF W p).length ∧ (beforeF W p).length ≤ 3125 ∧ ∀ x ∈ beforeF W p, Jf W n x
  | 0, p, hp, _ => by
    obtain rfl := List.length_eq_zero_iff.1 hp
    refine ⟨by simp [beforeF], by simp [beforeF], fun x hx => ?_⟩
    simp [beforeF] at hx; subst hx
    exact ⟨rfl, ⟨by simp, by simp⟩, hW, Int.le_refl _⟩
  | n + 1, p, hp, h => by
    have hne : p ≠ [] := fun e => by rw [e] at hp; simp at hp
    obtain ⟨q, a, rfl⟩ : ∃ q a, p = q ++ [a] := ⟨p.dropLast, p.getLast hne, (List.dropLast_concat_getLast hne).symm⟩
    obtain ⟨i1, i2, i3⟩ := beforeF_b hW n q (by simpa using hp) fun l hl => h l (by simp [hl])
    obtain ⟨a1, a2, a3⟩ := h a (by simp)
    rw [beforeF_snoc]
    exact ⟨by rw [nextF_len]; exact perms_pos a2 a3, by rw [nextF_len]; exact perms_len a3, nextF_b hW a1 a3 i3 i1⟩
theorem take_snoc (p : List (List Int)) (t : Nat) (h : t < p.length) : p.take (t + 1) = p.take t ++ [p[t]] := List.take_succ_eq_append_getElem h
theorem at5 (a b c d e f : AObj) (Y Z : List AObj) : (a :: b :: c :: d :: e :: (Y ++ f :: Z))[5 + Y.length]? = some f := by
  rw [show 5 + Y.length = Y.length + 1 + 1 + 1 + 1 + 1 by omega]
  simp
def zJ : AObj := .cells [nilF, nilF, I 0, I 0]
theorem pfar_ok (p : List (List Int)) (hv : Val p) : PO 91 [Bn p] (.agg (jc (farB p))) := by
  have h2 := hv.n2
  have h4 := hv.n4
  have h0 : 0 < p.length := by omega
  have hs0 := hv.sm (List.getElem_mem h0)
  have hsW := hs0.sum
  have hall : ∀ l ∈ p, Sm l ∧ 1 ≤ l.length ∧ l.length ≤ 5 := fun l hl => ⟨hv.sm hl, hv.s1 l hl, hv.s5 l hl⟩
  unfold farB
  rw [headD0 _ h0]
  refine fn_pure hmix lk91 rfl (pureJ _ _ _) ?_
  unfold rc91
  conv => whnf
  refine ⟨by omega, ?_⟩
  conv => whnf
  refine nthM _ _ _ (h0) ?_
  conv => whnf
  refine ⟨by first | rfl | simp only [List.all_cons, List.all_nil, pu0, pub, pu1, pu2, pu1', pu2', pun, puf, puP, puP', puQ, puQ', Bool.and_true, Bool.and_self], _, sum_ok p[0] hs0, ?_⟩
  conv => whnf
  generalize sumI p[0] = Wd at hsW ⊢
  refine .intro (fun m T H => ∃ t Y c c1, t ≤ p.length ∧ m = p.length - t ∧ (c = .own 4 ∨ c = .shared) ∧ (c1 = .full ∨ c1 = .shared) ∧ T = slots 90 [(1, .ptr 0 0), (2, .ptr 1 0), (3, .ptr 2 0), (4, .ptr 3 0), (5, .ptr 4 0), (30, I p.length), (31, I t)] ∧
    H = .cells [Bn p] :: zJ :: .cells [I Wd] :: .cells [LJ c1 c1 (beforeF Wd (p.take t)) c] :: .cells [.func 111 [] []] :: Y) p.length ⟨0, [], .own 4, .full, by omega, by omega, .inl rfl, .inl rfl, rfl, rfl⟩ ?_
  rintro m T H ⟨t, Y, c, c1, ht, rfl, hc, hc1, rfl, rfl⟩
  conv => whnf
  refine dcase (fun h => ?_) (fun h => ?_)
  · have ht' : t < p.length := by omega
    have hj : beforeF Wd (p.take (t + 1)) = nextF Wd p[t] (beforeF Wd (p.take t)) := by rw [take_snoc p t ht', beforeF_snoc]
    obtain ⟨q1, q2, q3⟩ := beforeF_b hsW.1 t (p.take t) (by simp; omega) fun l hl => hall l (List.mem_of_mem_take hl)
    generalize beforeF Wd (p.take t) = Bh at q1 q2 q3 hj ⊢
    conv => whnf
    refine nthK_of (get_concat _ _) ?_
    conv => whnf
    refine nthK_of (ga (Z := [_]) (setc_get _ _ _)) ?_
    conv => whnf
    refine ⟨by first | rfl | simp only [List.all_cons, List.all_nil, pu0, pub, pu1, pu2, pu1', pu2', pun, puf, puP, puP', puQ, puQ', Bool.and_true, Bool.and_self], _, all_ok86 p t, ?_⟩
    conv => whnf
    rw [set_concat]
    have hnB : (p.take t).length ≤ 3 := by simp; omega
    have h5 := hv.s5 _ (List.getElem_mem ht')
    have h1 := hv.s1 _ (List.getElem_mem ht')
    have hN := perms_pos h1 h5
    generalize hX : (AObj.cells [Bn p] :: zJ :: AObj.cells [I Wd] :: AObj.cells [LJ c1 c1 Bh c] :: AObj.cells [AV.func 111 [] []] :: Y ++ [AObj.cells [AV.int .i64 t]] ++ [AObj.cells [AV.lst [] 0 Cap.full]]) = X0
    generalize hin : (AObj.cells [Bn p] :: zJ :: AObj.cells [I Wd] :: AObj.cells [LJ c1 c1 Bh c] :: AObj.cells [AV.func 111 [] []] :: Y ++ [AObj.cells [AV.int .i64 t]]).length = inn
    generalize hii : (AObj.cells [Bn p] :: zJ :: AObj.cells [I Wd] :: AObj.cells [LJ c1 c1 Bh c] :: AObj.cells [AV.func 111 [] []] :: Y).length = ii
    have hinn : inn = 6 + Y.length := by rw [← hin]; simp; omega
    have hii' : ii = 5 + Y.length := by rw [← hii]; simp; omega
    have hXl : X0.length = 7 + Y.length := by rw [← hX]; simp; omega
    have hX' : X0 = .cells [Bn p] :: zJ :: .cells [I Wd] :: .cells [LJ c1 c1 Bh c] :: .cells [.func 111 [] []] :: (Y ++ .cells [I t] :: [.cells [nilF]]) := by rw [← hX]; simp
    have g0 : X0[0]? = some (.cells [Bn p]) := by rw [hX']; rfl
    have g2 : X0[2]? = some (.cells [I Wd]) := by rw [hX']; rfl
    have g3 : X0[3]? = some (.cells [LJ c1 c1 Bh c]) := by rw [hX']; rfl
    have g4 : X0[4]? = some (.cells [.func 111 [] []]) := by rw [hX']; rfl
    have gi : X0[ii]? = some (.cells [I t]) := by rw [hX', hii']; exact at5 _ _ _ _ _ _ _ _
    have hA0 : ∀ cx : AObj, X0.set inn cx = .cells [Bn p] :: zJ :: .cells [I Wd] :: .cells [LJ c1 c1 Bh c] :: .cells [.func 111 [] []] :: (Y ++ [.cells [I t], cx]) := fun cx => by
      rw [← hX, ← hin, sset']; simp
    have hsem := all1_sem p t ht' h1 h5 (by omega) (fun r => X0.set inn (.cells [nextk (nextF Wd p[t] Bh) r])) (fun _ => Bh.length + 1) X0.length 0
      (lp91 (slots 90 [(1, .ptr 0 0), (2, .ptr 1 0), (3, .ptr 2 0), (4, .ptr 3 0), (5, .ptr 4 0), (6, .ptr ii 0), (7, .ptr inn 0), (30, I p.length), (31, I t), (32, .bool (decide ((t : Int) < p.length))), (34, Bn p), (35, I t), (36, .func 107 [] [.lptr [Bn p], .lptr [I t]])]) .ready) (fun r => by simp) (Nat.zero_le _) (fun _ _ _ h => by omega)
      (fun r hr Y' => round91 p t ht' hv Wd Bh _ q3 (by omega) q1 q2 c c1 hc hc1 X0 ii inn _ g0 g2 g3 g4 gi (by omega) (by omega) (by omega) (by omega) (by omega) (by omega) r hr Y' _ _ _ _ _ _ rfl)
    have hX00 : X0.set inn (.cells [nextk (nextF Wd p[t] Bh) 0]) = X0 := by rw [hA0, hX']; simp [nextk]
    rw [hX00] at hsem
    have hlN : nextk (nextF Wd p[t] Bh) (perms p[t].length).length = LJ .shared .shared (nextF Wd p[t] Bh) (.own 4) := by
      rw [nextk, if_neg (by omega), List.take_of_length_le (by rw [nextF_len] <;> omega)]
    rw [hlN] at hsem
    generalize List.replicate (1 + sumM (fun _ => Bh.length + 1) (perms p[t].length).length) AObj.dead = D at hsem
    refine ⟨rfl, .tuple [], _, .ready, none, 91, slots 90 [(1, .ptr 0 0), (2, .ptr 1 0), (3, .ptr 2 0), (4, .ptr 3 0), (5, .ptr 4 0), (6, .ptr ii 0), (7, .ptr inn 0), (30, I p.length), (31, I t), (32, .bool (decide ((t : Int) < p.length))), (34, Bn p), (35, I t), (36, .func 107 [] [.lptr [Bn p], .lptr [I t]])], [37], rngA Go.Proofs.Try.prog 91 0, rngB Go.Proofs.Try.prog 91 0, ann91, hsem, ?_, by simp, ?_⟩
    · rw [List.getElem?_append_right (by simp), List.length_set, Nat.sub_self]; rfl
    have hZ : ∀ e : AObj, (X0.set inn (.cells [LJ .shared .shared (nextF Wd p[t] Bh) (.own 4)]) ++ e :: D).set X0.length .dead = .cells [Bn p] :: zJ :: .cells [I Wd] :: .cells [LJ c1 c1 Bh c] :: .cells [.func 111 [] []] :: (Y ++ .cells [I t] :: .cells [LJ .shared .shared (nextF Wd p[t] Bh) (.own 4)] :: .dead :: D) := fun e => by
      have := sset (X0.set inn (.cells [LJ .shared .shared (nextF Wd p[t] Bh) (.own 4)])) D e .dead
      rw [List.length_set] at this
      rw [this, hA0]; simp
    rw [hZ]
    obtain ⟨Y2, hY2⟩ : ∃ Y2, Y2 = Y ++ .cells [I t] :: .cells [LJ .shared .shared (nextF Wd p[t] Bh) (.own 4)] :: .dead :: D := ⟨_, rfl⟩
    have zn : (AObj.cells [Bn p] :: zJ :: .cells [I Wd] :: .cells [LJ c1 c1 Bh c] :: .cells [.func 111 [] []] :: Y2)[inn]? = some (.cells [LJ .shared .shared (nextF Wd p[t] Bh) (.own 4)]) := by
      rw [hY2, hinn, show 6 + Y.length = (Y.length + 1) + 1 + 1 + 1 + 1 + 1 by omega]
      simp
    rw [← hY2]
    conv => whnf
    refine nthK_of zn ?_
    conv => whnf
    refine ⟨p.length - (t + 1), by omega, t + 1, Y2, .shared, .shared, by omega, rfl, .inr rfl, .inr rfl, by rw [← wrapS t (by omega)] <;> rfl, ?_⟩
    rw [hj]; rfl
  · obtain rfl : t = p.length := by omega
    rw [List.take_length]
    obtain ⟨q1, q2, q3⟩ := beforeF_b hsW.1 p.length p rfl hall
    generalize beforeF Wd p = jl at q1 q2 ⊢
    obtain ⟨x0, t0, rfl⟩ : ∃ x0 t0, jl = x0 :: t0 := by
      cases jl with
      | nil => simp at q1
      | cons x0 t0 => exact ⟨x0, t0, rfl⟩
    rcases hc with rfl | rfl
    all_goals
      rcases hc1 with rfl | rfl
    · conv => whnf
      refine ⟨by simp only [List.all_cons, List.all_nil, puLJ, puf, Bool.and_true, Bool.and_self], _, best_ok fr 111 (.inl ⟨rfl, rfl⟩) x0 t0 (by simp at q2; omega) farther_ok, ?_⟩
      conv => whnf
      exact ret_pure (.inr rfl) (pureJ _ _ _) rfl
    · conv => whnf
      refine ⟨by simp only [List.all_cons, List.all_nil, puLJ, puf, Bool.and_true, Bool.and_self], _, best_ok fr 111 (.inr (.inr ⟨rfl, rfl⟩)) x0 t0 (by simp at q2; omega) farther_ok, ?_⟩
      conv => whnf
      exact ret_pure (.inr rfl) (pureJ _ _ _) rfl
    · conv => whnf
      refine ⟨by simp only [List.all_cons, List.all_nil, puLJ, puf, Bool.and_true, Bool.and_self], _, best_ok fr 111 (.inl ⟨rfl, rfl⟩) x0 t0 (by simp at q2; omega) farther_ok, ?_⟩
      conv => whnf
      exact ret_pure (.inr rfl) (pureJ _ _ _) rfl
    · conv => whnf
      refine ⟨by simp only [List.all_cons, List.all_nil, puLJ, puf, Bool.and_true, Bool.and_self], _, best_ok fr 111 (.inr (.inr ⟨rfl, rfl⟩)) x0 t0 (by simp at q2; omega) farther_ok, ?_⟩
      conv => whnf
      exact ret_pure (.inr rfl) (pureJ _ _ _) rfl
end Go.Proofs.Ytlcebaejlnpdeaa.Ab

/-
  Contracts: Far, Apart, and the definitions' Far.
-/
namespace Go.Proofs.Ytlcebaejlnpdeaa.Ab
open Go
set_option maxRecDepth 20000
set_option maxHeartbeats 4000000
def farE (p : List (List Int)) : Int := if checkP p = 0 then (farB p).d else 0
theorem pFar_ok (p : List (List Int)) (h1 : p.length ≤ 140737488355328) (h2 : ∀ l ∈ p, l.length ≤ 140737488355328) : PO 44 [P1 p] (.tuple [I (farE p), I (checkP p)]) := by
  by_cases hc : checkP p = 0
  · have hv := checkP_val hc
    rw [show farE p = (farB p).d from if_pos hc, hc]
    refine fn_pure hmix lk44 rfl rfl ?_
    unfold rc44
    conv => whnf
    refine ⟨by first | rfl | simp only [List.all_cons, List.all_nil, pu0, pub, pu1, pu2, pu1', pu2', pun, puf, puP, puP', puQ, puQ', Bool.and_true, Bool.and_self], _, open_good [] h1 h2 (by simp) hc rfl, ?_⟩
    conv => whnf
    refine ⟨by simp only [List.all_cons, List.all_nil, puQ, puBn, Bool.and_true], _, pfar_ok p hv, ?_⟩
    conv => whnf
    exact ret_pure (.inr rfl) rfl rfl
  · rw [show farE p = 0 from if_neg hc]
    refine fn_pure hmix lk44 rfl rfl ?_
    unfold rc44
    conv => whnf
    refine ⟨by first | rfl | simp only [List.all_cons, List.all_nil, pu0, pub, pu1, pu2, pu1', pu2', pun, puf, puP, puP', puQ, puQ', Bool.and_true, Bool.and_self], _, open_bad [] h1 h2 (by simp) hc, ?_⟩
    conv => whnf
    refine dcase (fun h => ?_) (fun h => absurd hc h)
    conv => whnf
    exact ret_pure (.inr rfl) rfl rfl
def apErr (p : List (List Int)) (x : Int) : Int := if checkP p ≠ 0 then checkP p else if x < 0 then 3 else if (farB p).d < x then 21 else 0
def apO (p : List (List Int)) (x : Int) : List (List Int) := if apErr p x = 0 then (farB p).o else []
theorem pApart_ok (p : List (List Int)) (x : Int) (h1 : p.length ≤ 140737488355328) (h2 : ∀ l ∈ p, l.length ≤ 140737488355328) : PO 46 [P1 p, I x] (.tuple [L2 (apO p x), I (apErr p x)]) := by
  by_cases hc : checkP p = 0
  · have hv := checkP_val hc
    refine fn_pure hmix lk46 rfl (puT _ _) ?_
    unfold rc46
    conv => whnf
    refine ⟨by first | rfl | simp only [List.all_cons, List.all_nil, pu0, pub, pu1, pu2, pu1', pu2', pun, puf, puP, puP', puQ, puQ', Bool.and_true, Bool.and_self], _, open_good [] h1 h2 (by simp) hc rfl, ?_⟩
    conv => whnf
    refine dcase (fun h => ?_) (fun h => ?_)
    · have e : apErr p x = 3 := by rw [apErr, if_neg (by simp [hc]), if_pos h]
      rw [apO, e]
      conv => whnf
      exact ret_pure (.inr rfl) (puT _ _) rfl
    · conv => whnf
      refine ⟨by simp only [List.all_cons, List.all_nil, puQ, puBn, Bool.and_true], _, pfar_ok p hv, ?_⟩
      conv => whnf
      refine dcase (fun h3 => ?_) (fun h3 => ?_)
      · have e : apErr p x = 21 := by rw [apErr, if_neg (by simp [hc]), if_neg h, if_pos h3]
        rw [apO, e]
        conv => whnf
        exact ret_pure (.inr rfl) (puT _ _) rfl
      · have e : apErr p x = 0 := by rw [apErr, if_neg (by simp [hc]), if_neg h, if_neg h3]
        rw [apO, e]
        conv => whnf
        exact ret_pure (.inr rfl) (puT _ _) rfl
  · have e : apErr p x = checkP p := if_pos hc
    rw [apO, e, if_neg hc]
    refine fn_pure hmix lk46 rfl (puT _ _) ?_
    unfold rc46
    conv => whnf
    refine ⟨by first | rfl | simp only [List.all_cons, List.all_nil, pu0, pub, pu1, pu2, pu1', pu2', pun, puf, puP, puP', puQ, puQ', Bool.and_true, Bool.and_self], _, open_bad [] h1 h2 (by simp) hc, ?_⟩
    conv => whnf
    refine dcase (fun h => ?_) (fun h => absurd hc h)
    conv => whnf
    exact ret_pure (.inr rfl) (puT _ _) rfl
end Go.Proofs.Ytlcebaejlnpdeaa.Ab

/-
  Plain law of layer 5: the program's greatest distance is the definitions'; its orders have it.
-/
namespace Go.Proofs.Ytlcebaejlnpdeaa.Ab
theorem betwX_min (x : Int) : ∀ (b : List Int) (m W : Int), b.foldl (fun m y => min m (max (x - y) (y - x))) (min m W) = min m (b.foldl (fun m y => min m (max (x - y) (y - x))) W)
  | [], m, W => rfl
  | y :: b, m, W => by
    rw [List.foldl_cons, List.foldl_cons, ← betwX_min x b m]
    congr 1; omega
theorem betw_min : ∀ (a b : List Int) (m W : Int), betw a b (min m W) = min m (betw a b W)
  | [], b, m, W => rfl
  | x :: a, b, m, W => by
    have e : ∀ v, betw (x :: a) b v = betw a b (b.foldl (fun m y => min m (max (x - y) (y - x))) v) := fun v => rfl
    rw [e, e, betwX_min, betw_min a b]
theorem betw_le (a b : List Int) (m W : Int) (h : m ≤ W) : betw a b m = min m (betw a b W) := by
  rw [← betw_min, Int.min_eq_left h]
theorem bestF_d : ∀ (t : List Jt) (x : Jt), (bestJ fr t x).d = t.foldl (fun m y => max m y.d) x.d
  | [], x => rfl
  | y :: t, x => by
    have e : bestJ fr (y :: t) x = bestJ fr t (if fr y x = true then y else x) := rfl
    rw [e, bestF_d t, List.foldl_cons]
    congr 1
    unfold fr
    by_cases h : x.d < y.d
    · rw [if_pos (decide_eq_true h)]; omega
    · rw [if_neg (by simpa using h)]; omega
/-- What joints of a first part say. -/
structure Jd (W : Int) (q : List (List Int)) (x : Jt) : Prop where
  ord : Ords q x.o
  d : x.d = distGo (seamsBy q x.o) W
  last : q = [] ∨ ∃ l, seamsBy q x.o = l ++ [x.s]
theorem seamsBy_snoc (q : List (List Int)) (a : List Int) (os : List (List Int)) (o : List Int) (h : os.length = q.length) : seamsBy (q ++ [a]) (os ++ [o]) = seamsBy q os ++ [seamsOf a o] := by
  unfold seamsBy
  rw [List.zipWith_append h.symm]; rfl
theorem ords_snoc {q os : List (List Int)} {a o : List Int} (h : Ords q os) (ho : isOrd o a.length = true) : Ords (q ++ [a]) (os ++ [o]) := by
  have hl := h.len
  refine ⟨by simp [hl], fun i h1 h2 => ?_⟩
  by_cases hi : i < os.length
  · rw [List.getElem_append_left hi, List.getElem_append_left (by omega)]; exact h.ord i hi (by omega)
  · have : i = os.length := by simp at h1; omega
    subst this
    rw [List.getElem_append_right (by omega), List.getElem_append_right (by omega)]
    simpa [hl] using ho
theorem beforeF_d {W : Int} : ∀ (n : Nat) (q : List (List Int)), q.length = n → (∀ l ∈ q, 1 ≤ l.length ∧ l.length ≤ 5) → (0 < (beforeF W q).length) ∧ ∀ x ∈ beforeF W q, x.d ≤ W ∧ Jd W q x
  | 0, q, hq, _ => by
    obtain rfl := List.length_eq_zero_iff.1 hq
    refine ⟨by simp [beforeF], fun x hx => ?_⟩
    simp [beforeF] at hx; subst hx
    exact ⟨Int.le_refl _, ⟨rfl, fun i h => by simp at h⟩, rfl, .inl rfl⟩
  | n + 1, q, hq, h => by
    have hne : q ≠ [] := fun e => by rw [e] at hq; simp at hq
    obtain ⟨r, a, rfl⟩ : ∃ r a, q = r ++ [a] := ⟨q.dropLast, q.getLast hne, (List.dropLast_concat_getLast hne).symm⟩
    obtain ⟨i0, i1⟩ := beforeF_d (W := W) n r (by simpa using hq) fun l hl => h l (by simp [hl])
    have ha := h a (by simp)
    rw [beforeF_snoc]
    refine ⟨by rw [nextF_len]; exact perms_pos ha.1 ha.2, fun x hx => ?_⟩
    obtain ⟨o, ho, rfl⟩ := List.mem_map.1 hx
    have hm := bestL_mem fr ((beforeF W r).map (tryF W (seamsOf a o))) (by simpa using i0)
    obtain ⟨j, hj, e⟩ := List.mem_map.1 hm
    obtain ⟨k1, k2⟩ := i1 j hj
    have e1 : (jointF W a (beforeF W r) o).o = j.o ++ [o] := by show (bestL fr _).o ++ [o] = _; rw [← e]; rfl
    have e2 : (jointF W a (beforeF W r) o).d = min j.d (betw j.s (seamsOf a o) W) := by show (bestL fr _).d = _; rw [← e]; rfl
    have e3 : (jointF W a (beforeF W r) o).s = seamsOf a o := rfl
    have e4 := seamsBy_snoc r a j.o o k2.ord.len
    refine ⟨by rw [e2]; omega, ?_, ?_, ?_⟩
    · rw [e1]; exact ords_snoc k2.ord (perms_ord ho)
    · rw [e1, e2, e4, ← betw_le j.s (seamsOf a o) j.d W k1]
      rcases k2.last with rfl | ⟨l, hl⟩
      · simp [beforeF] at hj; subst hj; rfl
      · have hd := k2.d
        rw [hl] at hd ⊢
        rw [List.append_assoc, show [j.s] ++ [seamsOf a o] = [j.s, seamsOf a o] from rfl, distGo_snoc, ← hd]
    · rw [e1, e3, e4]; exact .inr ⟨_, rfl⟩
theorem farB_jd (p : List (List Int)) (h : ∀ l ∈ p, 1 ≤ l.length ∧ l.length ≤ 5) : Jd (sumI (p.headD [])) p (farB p) := by
  obtain ⟨h0, h1⟩ := beforeF_d (W := sumI (p.headD [])) p.length p rfl h
  exact (h1 _ (bestL_mem fr _ h0)).2
def distOf' (p o : List (List Int)) : Int := distGo (seamsBy p o) (sumI (p.headD []))
theorem farB_dist {p : List (List Int)} (hv : Val p) : Ords p (farB p).o ∧ distOf' p (farB p).o = (farB p).d := by
  have h := farB_jd p fun l hl => ⟨hv.s1 l hl, hv.s5 l hl⟩
  exact ⟨h.ord, h.d.symm⟩
end Go.Proofs.Ytlcebaejlnpdeaa.Ab

/-
  Contracts: SeamPanels, SeamThroughs.
-/
namespace Go.Proofs.Ytlcebaejlnpdeaa.Ab
open Go
set_option maxRecDepth 20000
/-- Works is true. -/
abbrev WK : Prop := PO 20 [] (B true)
end Go.Proofs.Ytlcebaejlnpdeaa.Ab

/-
  Contracts: the definitions' Far, ApartError; SeamFars.
-/
namespace Go.Proofs.Ytlcebaejlnpdeaa.Ab
open Go
set_option maxRecDepth 20000
set_option maxHeartbeats 4000000
end Go.Proofs.Ytlcebaejlnpdeaa.Ab

/-
  Contracts: the program's Pair; SeamFewests.
-/
namespace Go.Proofs.Ytlcebaejlnpdeaa.Ab
open Go
set_option maxRecDepth 20000
set_option maxHeartbeats 4000000
theorem Val.lens {p : List (List Int)} (hv : Val p) : Lens p := ⟨fun l hl => ⟨hv.s1 l hl, hv.s5 l hl⟩, hv.n4⟩
theorem Val.ne {p : List (List Int)} (hv : Val p) : p ≠ [] := fun h => by have := hv.n2; rw [h] at this; simp at this
theorem few_same (p : List (List Int)) : pfewE p = fewE p := by
  unfold pfewE fewE
  by_cases h : checkP p = 0
  · have hv := checkP_val h
    rw [if_pos h, if_pos h, fewest_eq hv.lens hv.ne]
  · rw [if_neg h, if_neg h]
end Go.Proofs.Ytlcebaejlnpdeaa.Ab

/-
  Contracts: fine, fewest, far.
-/
namespace Go.Proofs.Ytlcebaejlnpdeaa.Ab
open Go
set_option maxRecDepth 20000
set_option maxHeartbeats 4000000
def fineB (p : List (List Int)) : Bool := !(big p) && decide (checkP p = 0)
theorem fine_ok (p : List (List Int)) (hp : Fl2 p) : PO 48 [P1 p] (B (fineB p)) := by
  have hp1 := hp.n
  refine fn_pure hmix lk48 rfl rfl ?_
  unfold rc48
  conv => whnf
  refine ⟨by first | rfl | simp only [List.all_cons, List.all_nil, pu0, pub, pu1, pu2, pu1', pu2', pun, puf, puP, puP', puQ, puQ', Bool.and_true, Bool.and_self], _, great_ok p hp1, ?_⟩
  conv => whnf
  cases h1 : big p with
  | true =>
    conv => whnf
    exact ret_pure (.inr rfl) rfl (by rw [fineB, h1]; rfl)
  | false =>
    obtain ⟨a1, a2⟩ := big_false.1 h1
    conv => whnf
    refine ⟨by first | rfl | simp only [List.all_cons, List.all_nil, pu0, pub, pu1, pu2, pu1', pu2', pun, puf, puP, puP', puQ, puQ', Bool.and_true, Bool.and_self], _, rcheck_ok p (by omega) fun l hl => by have := a2 l hl; omega, ?_⟩
    conv => whnf
    exact ret_pure (.inr rfl) rfl (by rw [fineB, h1]; rfl)
theorem fineB_val {p : List (List Int)} (h : fineB p = true) : Val p := by
  simp only [fineB, Bool.and_eq_true, decide_eq_true_eq] at h
  exact checkP_val h.2
theorem Val.big {p : List (List Int)} (hv : Val p) : Ab.big p = false :=
  big_false.2 ⟨by have := hv.n4; omega, fun l hl => by have := hv.s5 l hl; omega⟩
theorem Val.fit {p : List (List Int)} (hv : Val p) : p.length ≤ 140737488355328 ∧ ∀ l ∈ p, l.length ≤ 140737488355328 :=
  ⟨by have := hv.n4; omega, fun l hl => by have := hv.s5 l hl; omega⟩
theorem Ords.fit {p o : List (List Int)} (hv : Val p) (ho : Ords p o) : Fit p o ∧ Ab.big o = false := by
  have h4 := hv.n4
  have hl := ho.len
  have hr : ∀ r ∈ o, r.length ≤ 5 := fun r hr => by
    obtain ⟨i, hi, rfl⟩ := List.mem_iff_getElem.1 hr
    have h2 : i < p.length := by omega
    rw [(isOrd_iff.1 (ho.ord i hi h2)).1]
    exact hv.s5 _ (List.getElem_mem h2)
  exact ⟨⟨hv.fit.1, hv.fit.2, by omega, fun l hl => by have := hr l hl; omega⟩, big_false.2 ⟨by omega, fun l hl => by have := hr l hl; omega⟩⟩
theorem Ords.err {p o : List (List Int)} (hv : Val p) (ho : Ords p o) : ordErr p o = 0 := ordErr_zero.2 ⟨hv, ho⟩
theorem fewest49_ok (p : List (List Int)) (hv : Val p) : PO 49 [P1 p] (.tuple [I (fewestOf p), B true]) := by
  obtain ⟨f1, f2⟩ := hv.fit
  have ho := progOrders_ords hv
  obtain ⟨q1, q2⟩ := ho.fit hv
  have he := ho.err hv
  have hm : meetOf p (progOrders p) = fewestOf p := by rw [meetOf, if_pos he, fewest_eq hv.lens hv.ne]
  have e1 : pfewE p = fewestOf p := by rw [few_same, fewE, if_pos hv.check]
  have e2 : pordE p = progOrders p := if_pos hv.check
  refine fn_pure hmix lk49 rfl rfl ?_
  unfold rc49
  conv => whnf
  refine ⟨by first | rfl | simp only [List.all_cons, List.all_nil, pu0, pub, pu1, pu2, pu1', pu2', pun, puf, puP, puP', puQ, puQ', Bool.and_true, Bool.and_self], _, pfewest_ok p f1 f2, ?_⟩
  conv => whnf
  refine ⟨by first | rfl | simp only [List.all_cons, List.all_nil, pu0, pub, pu1, pu2, pu1', pu2', pun, puf, puP, puP', puQ, puQ', Bool.and_true, Bool.and_self], _, pOrders_ok p f1 f2, ?_⟩
  conv => whnf
  rw [hv.check, e1, e2]
  conv => whnf
  refine ⟨by first | rfl | simp only [List.all_cons, List.all_nil, pu0, pub, pu1, pu2, pu1', pu2', pun, puf, puP, puP', puQ, puQ', Bool.and_true, Bool.and_self], _, wide_ok (progOrders p) (by have := q1.o1; omega), ?_⟩
  conv => whnf
  rw [q2]
  conv => whnf
  refine ⟨by first | rfl | simp only [List.all_cons, List.all_nil, pu0, pub, pu1, pu2, pu1', pu2', pun, puf, puP, puP', puQ, puQ', Bool.and_true, Bool.and_self], _, pmeet_ok p (progOrders p) q1, ?_⟩
  conv => whnf
  refine ⟨by first | rfl | simp only [List.all_cons, List.all_nil, pu0, pub, pu1, pu2, pu1', pu2', pun, puf, puP, puP', puQ, puQ', Bool.and_true, Bool.and_self], _, rmeet_ok p (progOrders p) q1, ?_⟩
  conv => whnf
  rw [he, hm]
  conv => whnf
  rw [deqr]
  conv => whnf
  rw [deqr]
  conv => whnf
  exact ret_pure (.inr rfl) rfl rfl
theorem farB_d {p : List (List Int)} (hv : Val p) : 0 ≤ (farB p).d ∧ (farB p).d ≤ sumI (p.headD []) := by
  have h0 : 0 < p.length := by have := hv.n2; omega
  have hs : 0 ≤ sumI (p.headD []) := by rw [headD0 _ h0]; exact (hv.sm (List.getElem_mem h0)).sum.1
  obtain ⟨q1, _, q3⟩ := beforeF_b hs p.length p rfl fun l hl => ⟨hv.sm hl, hv.s1 l hl, hv.s5 l hl⟩
  have := q3 _ (bestL_mem fr _ q1)
  exact ⟨this.d0, this.d1⟩
theorem far54_ok (p : List (List Int)) (hv : Val p) : PO 54 [P1 p] (.tuple [I (farB p).d, B true]) := by
  obtain ⟨f1, f2⟩ := hv.fit
  have h0 : 0 < p.length := by have := hv.n2; omega
  obtain ⟨d0, d1⟩ := farB_d hv
  obtain ⟨ho, hd⟩ := farB_dist hv
  obtain ⟨q1, q2⟩ := ho.fit hv
  have he := ho.err hv
  have hdo : distOf p (farB p).o = (farB p).d := by rw [distOf, if_pos he]; exact hd
  have hs := (hv.sm (List.getElem_mem h0)).sum
  rw [headD0 _ h0] at d1
  have e1 : farE p = (farB p).d := if_pos hv.check
  have e2 : apErr p (farB p).d = 0 := by rw [apErr, if_neg (by simp [hv.check]), if_neg (by omega), if_neg (by omega)]
  have e3 : apErr p ((farB p).d + 1) = 21 := by rw [apErr, if_neg (by simp [hv.check]), if_neg (by omega), if_pos (by omega)]
  have e4 : apO p (farB p).d = (farB p).o := if_pos e2
  refine fn_pure hmix lk54 rfl rfl ?_
  unfold rc54
  conv => whnf
  refine ⟨by first | rfl | simp only [List.all_cons, List.all_nil, pu0, pub, pu1, pu2, pu1', pu2', pun, puf, puP, puP', puQ, puQ', Bool.and_true, Bool.and_self], _, pFar_ok p f1 f2, ?_⟩
  conv => whnf
  rw [hv.check, e1]
  conv => whnf
  rw [decide_eq_false (show ¬ (farB p).d < 0 by omega)]
  conv => whnf
  refine ⟨by omega, ?_⟩
  conv => whnf
  refine nthM _ _ _ (h0) ?_
  conv => whnf
  refine ⟨by first | rfl | simp only [List.all_cons, List.all_nil, pu0, pub, pu1, pu2, pu1', pu2', pun, puf, puP, puP', puQ, puQ', Bool.and_true, Bool.and_self], _, rsum_ok p[0] (hv.sm (List.getElem_mem h0)), ?_⟩
  conv => whnf
  rw [decide_eq_false (show ¬ sumI p[0] < (farB p).d by omega)]
  conv => whnf
  refine ⟨by first | rfl | simp only [List.all_cons, List.all_nil, pu0, pub, pu1, pu2, pu1', pu2', pun, puf, puP, puP', puQ, puQ', Bool.and_true, Bool.and_self], _, pApart_ok p (farB p).d f1 f2, ?_⟩
  conv => whnf
  rw [wrapI _ (by omega) (by omega)]
  refine ⟨by first | rfl | simp only [List.all_cons, List.all_nil, pu0, pub, pu1, pu2, pu1', pu2', pun, puf, puP, puP', puQ, puQ', Bool.and_true, Bool.and_self], _, pApart_ok p ((farB p).d + 1) f1 f2, ?_⟩
  conv => whnf
  rw [e2, e3, e4]
  conv => whnf
  refine ⟨by first | rfl | simp only [List.all_cons, List.all_nil, pu0, pub, pu1, pu2, pu1', pu2', pun, puf, puP, puP', puQ, puQ', Bool.and_true, Bool.and_self], _, wide_ok (farB p).o (by have := q1.o1; omega), ?_⟩
  conv => whnf
  rw [q2]
  conv => whnf
  refine ⟨by first | rfl | simp only [List.all_cons, List.all_nil, pu0, pub, pu1, pu2, pu1', pu2', pun, puf, puP, puP', puQ, puQ', Bool.and_true, Bool.and_self], _, pdist_ok p (farB p).o q1, ?_⟩
  conv => whnf
  refine ⟨by first | rfl | simp only [List.all_cons, List.all_nil, pu0, pub, pu1, pu2, pu1', pu2', pun, puf, puP, puP', puQ, puQ', Bool.and_true, Bool.and_self], _, rdist_ok p (farB p).o q1, ?_⟩
  conv => whnf
  rw [he, hdo]
  conv => whnf
  rw [deqr]
  conv => whnf
  rw [deqr]
  conv => whnf
  exact ret_pure (.inr rfl) rfl rfl
end Go.Proofs.Ytlcebaejlnpdeaa.Ab

/-
  Plain law of layer 5: no orders have fewer meetings, none a greater distance; with a layer less, or more.
-/
namespace Go.Proofs.Ytlcebaejlnpdeaa.Ab
theorem jointOf_head' (a : List Int) (b : List Jt) (o : List Int) : (jointOf a b o).o = o :: (bestL fw (b.map (tryJ (seamsOf a o)))).o := rfl
theorem joints_ords1 : ∀ (p : List (List Int)), (∀ l ∈ p, 1 ≤ l.length ∧ l.length ≤ 5) → ∀ x ∈ joints p, Ords p x.o
  | [], _, x, hx => by
    simp [joints] at hx; subst hx
    exact ⟨rfl, fun i h => by simp at h⟩
  | a :: r, h, x, hx => by
    have hr : ∀ l ∈ r, 1 ≤ l.length ∧ l.length ≤ 5 := fun l hl => h l (by simp [hl])
    obtain ⟨q1, _, _⟩ := joints_b r hr
    have ih := joints_ords1 r hr
    simp only [joints, nextJ, List.mem_map] at hx
    obtain ⟨o, ho, rfl⟩ := hx
    have hm := bestL_mem fw ((joints r).map (tryJ (seamsOf a o))) (by simpa using q1)
    obtain ⟨j, hj, e⟩ := List.mem_map.1 hm
    have hjo := ih j hj
    have e2 : (bestL fw ((joints r).map (tryJ (seamsOf a o)))).o = j.o := by rw [← e]; rfl
    refine ⟨by rw [jointOf_head', e2, List.length_cons, List.length_cons, hjo.len], fun i h1 h2 => ?_⟩
    simp only [jointOf_head', e2] at h1 ⊢
    cases i with
    | zero => exact perms_ord ho
    | succ i => exact hjo.ord i (by simpa using h1) (by simpa using h2)
theorem joints_ords' (p : List (List Int)) (h : ∀ l ∈ p, 1 ≤ l.length ∧ l.length ≤ 5) : Ords p (progOrders p) := joints_ords1 p h _ (bestL_mem fw _ (joints_b p h).1)
theorem bestL_le (l : List Jt) : ∀ y ∈ l, (bestL fw l).m ≤ y.m := by
  intro y hy
  cases l with
  | nil => simp at hy
  | cons x t =>
    have h := bestJ_le t x
    rcases List.mem_cons.1 hy with rfl | hy
    · exact h.1
    · exact h.2 y hy
theorem bestF_ge (l : List Jt) : ∀ y ∈ l, y.d ≤ (bestL fr l).d := by
  intro y hy
  cases l with
  | nil => simp at hy
  | cons x t =>
    show y.d ≤ (bestJ fr t x).d
    rw [bestF_d]
    have key : ∀ (t : List Jt) (a : Int), a ≤ t.foldl (fun m y => max m y.d) a ∧ ∀ y ∈ t, y.d ≤ t.foldl (fun m y => max m y.d) a := by
      intro t
      induction t with
      | nil => intro a; simp
      | cons z t ih =>
        intro a
        obtain ⟨h1, h2⟩ := ih (max a z.d)
        rw [List.foldl_cons]
        refine ⟨by omega, fun y hy => ?_⟩
        rcases List.mem_cons.1 hy with rfl | hy
        · omega
        · exact h2 y hy
    rcases List.mem_cons.1 hy with rfl | hy
    · exact (key t _).1
    · exact (key t _).2 y hy
theorem ords_cons {a : List Int} {r os : List (List Int)} (h : Ords (a :: r) os) : ∃ o os', os = o :: os' ∧ isOrd o a.length = true ∧ Ords r os' := by
  have hl := h.len
  cases os with
  | nil => simp at hl
  | cons o os' =>
    exact ⟨o, os', rfl, h.ord 0 (by simp) (by simp), by simpa using hl, fun i h1 h2 => h.ord (i + 1) (by simpa using h1) (by simpa using h2)⟩
theorem joint_le : ∀ (r : List (List Int)) (a : List Int) (o : List Int) (os : List (List Int)), Ords r os → (jointOf a (joints r) o).m ≤ (meetN (seamsBy (a :: r) (o :: os)) : Int)
  | [], a, o, os, _ => by
    show (bestL fw [tryJ (seamsOf a o) ⟨[], [], 0, 0⟩]).m ≤ _
    show (0 : Int) + (common (seamsOf a o) [] : Int) ≤ _
    rw [common_nil]; omega
  | b :: r, a, o, os, h => by
    obtain ⟨o', os', rfl, h1, h2⟩ := ords_cons h
    have ih := joint_le r b o' os' h2
    have hm : jointOf b (joints r) o' ∈ joints (b :: r) := List.mem_map.2 ⟨o', perms_of h1, rfl⟩
    have hb := bestL_le ((joints (b :: r)).map (tryJ (seamsOf a o))) _ (List.mem_map.2 ⟨_, hm, rfl⟩)
    have e : (tryJ (seamsOf a o) (jointOf b (joints r) o')).m = (jointOf b (joints r) o').m + (common (seamsOf a o) (seamsOf b o') : Int) := rfl
    rw [e] at hb
    have e2 : meetN (seamsBy (a :: b :: r) (o :: o' :: os')) = common (seamsOf a o) (seamsOf b o') + meetN (seamsBy (b :: r) (o' :: os')) := rfl
    have e3 : (jointOf a (joints (b :: r)) o).m = (bestL fw ((joints (b :: r)).map (tryJ (seamsOf a o)))).m := rfl
    rw [e2, e3]; omega
/-- No orders have fewer meetings. -/
theorem fewest_min {p o : List (List Int)} (hp : Lens p) (hn : p ≠ []) (ho : Ords p o) : fewestOf p ≤ (meetN (seamsBy p o) : Int) := by
  rw [fewest_best hp hn]
  cases p with
  | nil => exact absurd rfl hn
  | cons a r =>
    obtain ⟨o1, os, rfl, h1, h2⟩ := ords_cons ho
    have hm : jointOf a (joints r) o1 ∈ joints (a :: r) := List.mem_map.2 ⟨o1, perms_of h1, rfl⟩
    have := bestL_le (joints (a :: r)) _ hm
    have := joint_le r a o1 os h2
    omega
theorem ords_last {q : List (List Int)} {a : List Int} {os : List (List Int)} (h : Ords (q ++ [a]) os) : ∃ os' o, os = os' ++ [o] ∧ Ords q os' ∧ isOrd o a.length = true := by
  have hl := h.len
  have hne : os ≠ [] := fun e => by rw [e] at hl; simp at hl
  obtain ⟨os', o, rfl⟩ : ∃ os' o, os = os' ++ [o] := ⟨os.dropLast, os.getLast hne, (List.dropLast_concat_getLast hne).symm⟩
  have hl' : os'.length = q.length := by simpa using hl
  refine ⟨os', o, rfl, ⟨hl', fun i h1 h2 => ?_⟩, ?_⟩
  · have := h.ord i (by simp; omega) (by simp; omega)
    rwa [List.getElem_append_left h1, List.getElem_append_left h2] at this
  · have := h.ord os'.length (by simp) (by simp; omega)
    rw [List.getElem_append_right (by omega), List.getElem_append_right (by omega)] at this
    simpa [hl'] using this
theorem before_ge {W : Int} (hW : 0 ≤ W) : ∀ (n : Nat) (q : List (List Int)), q.length = n + 1 → (∀ l ∈ q, 1 ≤ l.length ∧ l.length ≤ 5) → ∀ os, Ords q os → ∃ x ∈ beforeF W q, distGo (seamsBy q os) W ≤ x.d ∧ ∃ l, seamsBy q os = l ++ [x.s]
  | n, q, hq, h, os, ho => by
    have hne : q ≠ [] := fun e => by rw [e] at hq; simp at hq
    obtain ⟨r, a, rfl⟩ : ∃ r a, q = r ++ [a] := ⟨q.dropLast, q.getLast hne, (List.dropLast_concat_getLast hne).symm⟩
    obtain ⟨os', o, rfl, h1, h2⟩ := ords_last ho
    have hx : jointF W a (beforeF W r) o ∈ beforeF W (r ++ [a]) := by
      rw [beforeF_snoc]; exact List.mem_map.2 ⟨o, perms_of h2, rfl⟩
    have e4 := seamsBy_snoc r a os' o h1.len
    refine ⟨_, hx, ?_, seamsBy r os', by rw [e4]; rfl⟩
    have hd : (jointF W a (beforeF W r) o).d = (bestL fr ((beforeF W r).map (tryF W (seamsOf a o)))).d := rfl
    rw [hd, e4]
    cases n with
    | zero =>
      have hr : r = [] := List.length_eq_zero_iff.1 (by simpa using hq)
      subst hr
      have : os' = [] := List.length_eq_zero_iff.1 (by simpa using h1.len)
      subst this
      show W ≤ (bestL fr [tryF W (seamsOf a o) ⟨[], [], 0, W⟩]).d
      show W ≤ min W (betw [] (seamsOf a o) W)
      show W ≤ min W W
      omega
    | succ n =>
      obtain ⟨x, hx1, hx2, l, hl⟩ := before_ge hW n r (by simpa using hq) (fun l hl => h l (by simp [hl])) os' h1
      have hb := bestF_ge ((beforeF W r).map (tryF W (seamsOf a o))) _ (List.mem_map.2 ⟨x, hx1, rfl⟩)
      have e : (tryF W (seamsOf a o) x).d = min x.d (betw x.s (seamsOf a o) W) := rfl
      rw [e] at hb
      have hxW := ((beforeF_d (W := W) r.length r rfl fun l hl => h l (by simp [hl])).2 x hx1).1
      rw [hl] at hx2 ⊢
      rw [List.append_assoc, show [x.s] ++ [seamsOf a o] = [x.s, seamsOf a o] from rfl, distGo_snoc, betw_le x.s (seamsOf a o) _ W (by omega)]
      omega
/-- No orders have a greater distance. -/
theorem far_max {p o : List (List Int)} (hv : Val p) (ho : Ords p o) : distGo (seamsBy p o) (sumI (p.headD [])) ≤ (farB p).d := by
  have h2 := hv.n2
  have hs : 0 ≤ sumI (p.headD []) := by
    have h0 : 0 < p.length := by omega
    rw [show p.headD [] = p[0] by cases p <;> simp_all]
    exact (hv.sm (List.getElem_mem h0)).sum.1
  obtain ⟨x, hx, hd, _⟩ := before_ge hs (p.length - 1) p (by omega) (fun l hl => ⟨hv.s1 l hl, hv.s5 l hl⟩) o ho
  have := bestF_ge _ x hx
  unfold farB; omega
theorem seamsBy_nonneg {p o : List (List Int)} (hp : ∀ l ∈ p, Sm l) : ∀ r ∈ seamsBy p o, ∀ x ∈ r, 0 ≤ x := by
  intro r hr x hx
  obtain ⟨i, hi, rfl⟩ := List.mem_iff_getElem.1 hr
  simp only [seamsBy, List.getElem_zipWith] at hx
  have hi2 : i < p.length := by simp [seamsBy] at hi; omega
  exact (seamsGo_bound (hp _ (List.getElem_mem hi2)) _ 0 (by omega) x hx).1
end Go.Proofs.Ytlcebaejlnpdeaa.Ab

/-
  SeamFewer.
-/
namespace Go.Proofs.Ytlcebaejlnpdeaa.Ab
open Go
set_option maxRecDepth 20000
set_option maxHeartbeats 4000000
theorem Val.again {q : List (List Int)} {a : List Int} (hv : Val (q ++ [a])) (h : (q ++ [a]).length ≤ 3) : Val (q ++ [a] ++ [a]) := by
  have hh : (q ++ [a] ++ [a]).headD [] = (q ++ [a]).headD [] := by cases q <;> rfl
  have hm : ∀ l ∈ q ++ [a] ++ [a], l ∈ q ++ [a] := fun l hl => by simp at hl ⊢; rcases hl with h | h | h <;> simp [h]
  have h2 := hv.n2
  refine ⟨by simp at h2 ⊢, by simp at h ⊢; omega, fun l hl => hv.s1 l (hm l hl), fun l hl => hv.s5 l (hm l hl), fun l hl => hv.w l (hm l hl), fun l hl => by rw [hh]; exact hv.eq l (hm l hl)⟩
end Go.Proofs.Ytlcebaejlnpdeaa.Ab

/-
  Plain words: orders that are chosen by numbers; the other way round; times as great.
-/
namespace Go.Proofs.Ytlcebaejlnpdeaa.Ab
/-! ### Orders by numbers -/
def nums (n : Nat) : List Int := (List.range n).map fun (x : Nat) => (x : Int)
theorem nums_succ (n : Nat) : nums (n + 1) = nums n ++ [(n : Int)] := by simp [nums, List.range_succ]
theorem nums_len (n : Nat) : (nums n).length = n := by simp [nums]
theorem nums_ord (n : Nat) : isOrd (nums n) n = true := by
  rw [isOrd_iff]
  refine ⟨nums_len n, fun x hx => ?_, ?_⟩
  · simp [nums] at hx; obtain ⟨k, hk, rfl⟩ := hx; omega
  · rw [nums, List.nodup_iff_pairwise_ne, List.pairwise_map]
    exact List.Pairwise.imp (fun h e => by omega) List.pairwise_lt_range
/-- Which one is next, behind so many; and how many are read then. -/
def pickN (y : List Int) (n t : Nat) : Nat := if y = [] then 0 else (y.getD (t % y.length) 0).toNat % n
def stepN (y : List Int) (t : Nat) : Nat := if y = [] then t else t + 1
def pickGo (y : List Int) : Nat → List Int → Nat → List Int × Nat
  | 0, _, t => ([], t)
  | f + 1, left, t => (left.getD (pickN y left.length t) 0 :: (pickGo y f (left.eraseIdx (pickN y left.length t)) (stepN y t)).1, (pickGo y f (left.eraseIdx (pickN y left.length t)) (stepN y t)).2)
def chosenGo (y : List Int) : List (List Int) → Nat → List (List Int)
  | [], _ => []
  | l :: r, t => (pickGo y l.length (nums l.length) t).1 :: chosenGo y r (pickGo y l.length (nums l.length) t).2
def chosen (p : List (List Int)) (y : List Int) : List (List Int) := chosenGo y p 0
theorem pickN_lt (y : List Int) {n : Nat} (t : Nat) (h : 0 < n) : pickN y n t < n := by
  unfold pickN; split
  · exact h
  · exact Nat.mod_lt _ h
theorem pick_perm (y : List Int) : ∀ (f : Nat) (left : List Int) (t : Nat), left.length = f → (pickGo y f left t).1.Perm left
  | 0, left, t, h => by rw [List.length_eq_zero_iff.1 h]; exact .refl _
  | f + 1, left, t, h => by
    have hn := pickN_lt y (n := left.length) t (by omega)
    have ih := pick_perm y f (left.eraseIdx (pickN y left.length t)) (stepN y t) (by rw [List.length_eraseIdx_of_lt hn]; omega)
    have e : left.getD (pickN y left.length t) 0 = left[pickN y left.length t] := by simp [List.getD_eq_getElem?_getD, hn]
    show (left.getD _ 0 :: _).Perm left
    rw [e]
    have e2 : left = left.take (pickN y left.length t) ++ left[pickN y left.length t] :: left.drop (pickN y left.length t + 1) := by rw [← List.drop_eq_getElem_cons hn, List.take_append_drop]
    have e3 := List.eraseIdx_eq_take_drop_succ left (pickN y left.length t)
    refine (List.Perm.cons _ ih).trans ?_
    rw [e3]
    exact List.perm_middle.symm.trans (.of_eq e2.symm)
theorem ord_perm {a b : List Int} {n : Nat} (h : a.Perm b) (hb : isOrd b n = true) : isOrd a n = true := by
  obtain ⟨h1, h2, h3⟩ := isOrd_iff.1 hb
  exact isOrd_iff.2 ⟨by rw [h.length_eq, h1], fun x hx => h2 x (h.mem_iff.1 hx), h.nodup_iff.2 h3⟩
theorem chosenGo_ords (y : List Int) : ∀ (p : List (List Int)) (t : Nat), Ords p (chosenGo y p t)
  | [], t => ⟨rfl, fun i h => by simp [chosenGo] at h⟩
  | l :: r, t => by
    have ih := chosenGo_ords y r (pickGo y l.length (nums l.length) t).2
    refine ⟨by simp [chosenGo, ih.len], fun i h h' => ?_⟩
    cases i with
    | zero => exact ord_perm (pick_perm y l.length (nums l.length) t (nums_len _)) (nums_ord _)
    | succ i => exact ih.ord i (by simpa [chosenGo] using h) (by simpa using h')
theorem chosen_ords (p : List (List Int)) (y : List Int) : Ords p (chosen p y) := chosenGo_ords y p 0
end Go.Proofs.Ytlcebaejlnpdeaa.Ab

/-
  Chosen: orders by numbers, as a contract.
-/
namespace Go.Proofs.Ytlcebaejlnpdeaa.Ab
open Go
set_option maxRecDepth 20000
set_option maxHeartbeats 4000000
theorem pure_Y1 (l : List Int) : pureD 8 (Y1 l) = true := by
  show (l.map (AV.int .u8)).all (pureD 7) = true
  rw [List.all_map, List.all_eq_true]; intro x _; rfl
theorem pickN_val {y : List Int} (hy : Fy y) (n t : Nat) (h : t % y.length < y.length) : (IntKind.i64.wrap (y[t % y.length]'h)).tmod n = ((pickN y n t : Nat) : Int) := by
  have hb := hy.v _ (List.getElem_mem h)
  have hne : y ≠ [] := fun e => by rw [e] at h; simp at h
  obtain ⟨b, e⟩ : ∃ b : Nat, y[t % y.length]'h = (b : Int) := ⟨(y[t % y.length]'h).toNat, by omega⟩
  rw [wrapI _ (by omega) (by omega), pickN, if_neg hne]
  have e2 : y.getD (t % y.length) 0 = y[t % y.length]'h := by rw [List.getD_eq_getElem?_getD, List.getElem?_eq_getElem h]; rfl
  rw [e2, e]
  rfl
theorem stepN_val {y : List Int} (t : Nat) (h : 0 < y.length) (ht : t ≤ 1000) : IntKind.i64.wrap ((t : Int) + 1) = ((stepN y t : Nat) : Int) := by
  have hne : y ≠ [] := fun e => by rw [e] at h; simp at h
  rw [wrapS t (by omega), stepN, if_neg hne]
theorem dropI (l : List Int) (i : Nat) : AV.lst (((l.map I).drop (((i : Nat) : Int).toNat * 1)).take ((l.length - ((i : Nat) : Int).toNat) * 1)) (l.length - ((i : Nat) : Int).toNat) .shared = L1 (l.drop i) := by
  have e : ((l.map I).drop i).take (l.length - i) = (l.drop i).map I := by rw [← List.map_drop, List.take_of_length_le (by simp)]
  show AV.lst (((l.map I).drop (i * 1)).take ((l.length - i) * 1)) (l.length - i) .shared = _
  rw [Nat.mul_one, Nat.mul_one, e, L1, List.length_drop]
theorem eraseU (left : List Int) (n : Nat) : AV.lst (repl 0 [AV.int .i64 0] ++ (left.take n).map I ++ (left.drop (n + 1)).map I) (0 + (left.take n).length + (left.drop (n + 1)).length) (.uniq 1) = U1 (left.eraseIdx n) := by
  rw [List.eraseIdx_eq_take_drop_succ]; simp [U1, repl]
theorem pickGo_step {y left : List Int} {t n : Nat} (hn : n < left.length) (e : pickN y left.length t = n) : pickGo y left.length left t = (left[n] :: (pickGo y (left.eraseIdx n).length (left.eraseIdx n) (stepN y t)).1, (pickGo y (left.eraseIdx n).length (left.eraseIdx n) (stepN y t)).2) := by
  have hl : (left.eraseIdx n).length = left.length - 1 := List.length_eraseIdx_of_lt hn
  obtain ⟨f, hf⟩ : ∃ f, left.length = f + 1 := ⟨left.length - 1, by omega⟩
  have hg : left.getD n 0 = left[n] := by simp [List.getD_eq_getElem?_getD, hn]
  conv => lhs; rw [hf, pickGo, e, hg]
  rw [hl, hf]; rfl
theorem stepN_le (y : List Int) (t : Nat) : stepN y t ≤ t + 1 := by unfold stepN; split <;> omega
theorem chosen_ok (p : List (List Int)) (y : List Int) (hv : Val p) (hy : Fy y) (h30 : y.length ≤ 30) : PO 50 [P1 p, Y1 y] (O2 (chosen p y)) := by
  have h4 := hv.n4
  refine fn_pure hmix lk50 rfl (pu2 _ _ _) ?_
  unfold rc50
  conv => whnf
  refine .intro (fun m T H => ∃ i t out, i ≤ p.length ∧ m = p.length - i ∧ t ≤ 5 * i ∧ out.length = i ∧ out ++ chosenGo y (p.drop i) t = chosen p y ∧ T = slots 74 [(1, Y1 y), (2, .ptr 0 0), (5, U2 out), (6, I t), (7, I i)] ∧ H = [.cells [L2 p]]) p.length ⟨0, 0, [], Nat.zero_le _, rfl, Nat.zero_le _, rfl, rfl, rfl, rfl⟩ ?_
  rintro m T H ⟨i, t, out, hi, rfl, ht, ho, hc, rfl, rfl⟩
  conv => whnf
  refine dcase (fun h => ?_) (fun h => ?_)
  · have hlt : i < p.length := by omega
    have hl5 := hv.s5 _ (List.getElem_mem hlt)
    conv => whnf
    refine .intro (CI (fun k => slots 74 [(1, Y1 y), (2, .ptr 0 0), (5, U2 out), (6, I t), (7, I i), (8, U1 (nums k)), (9, U1 []), (10, I k)]) p[i].length [.cells [L2 p]]) p[i].length (ci0 rfl) ?_
    rintro m T H ⟨k, hk, rfl, rfl, rfl⟩
    conv => whnf
    refine ⟨by omega, ?_⟩
    conv => whnf
    refine nthM _ _ _ (hlt) ?_
    conv => whnf
    refine dcase (fun h1 => ?_) (fun h1 => ?_)
    · have hnl := nums_len k
      conv => whnf
      refine ⟨rfl, by decide, rfl, by omega, ?_⟩
      conv => whnf
      exact ciN (by omega) (by rw [nums_succ, ← U1_snoc, ← wrapS k (by omega)] <;> rfl)
    · obtain rfl : k = p[i].length := by omega
      conv => whnf
      refine .intro (fun m T H => ∃ left order t', m = left.length ∧ left.length + order.length = p[i].length ∧ t' ≤ t + order.length ∧ order ++ (pickGo y left.length left t').1 = (pickGo y p[i].length (nums p[i].length) t).1 ∧ (pickGo y left.length left t').2 = (pickGo y p[i].length (nums p[i].length) t).2 ∧
        T = slots 74 [(1, Y1 y), (2, .ptr 0 0), (5, U2 out), (6, I t'), (7, I i), (8, U1 left), (9, U1 order)] ∧ H = [.cells [L2 p]]) p[i].length ⟨nums p[i].length, [], t, (nums_len _).symm, by rw [nums_len]; rfl, Nat.le_refl _, by rw [nums_len]; rfl, by rw [nums_len], rfl, rfl⟩ ?_
      rintro m T H ⟨left, order, t', rfl, hlo, ht', hp1, hp2, rfl, rfl⟩
      conv => whnf
      refine dcase (fun h2 => ?_) (fun h2 => ?_)
      · conv => whnf
        refine dcase (fun h3 => ?_) (fun h3 => ?_)
        · conv => whnf
          have hyl : 0 < y.length := by omega
          refine ⟨by omega, ?_⟩
          conv => whnf
          rw [show (t' : Int).tmod y.length = ((t' % y.length : Nat) : Int) from rfl]
          have hm := Nat.mod_lt t' hyl
          refine ⟨by omega, ?_⟩
          conv => whnf
          refine nthM _ _ _ hm ?_
          conv => whnf
          refine ⟨by omega, ?_⟩
          conv => whnf
          have en := pickN_val hy left.length t' hm
          have es := stepN_val t' hyl (by omega)
          have hn := pickN_lt y (n := left.length) t' (by omega)
          rw [en, es]
          generalize hnn : pickN y left.length t' = n at *
          refine ⟨by omega, ?_⟩
          conv => whnf
          refine nthM _ _ _ hn ?_
          conv => whnf
          refine ⟨rfl, by decide, rfl, by omega, ?_⟩
          conv => whnf
          refine ⟨by omega, ?_⟩
          rw [takeI left n (by omega)]
          conv => whnf
          refine ⟨by simp, by rw [List.length_take]; omega, ?_⟩
          conv => whnf
          refine ⟨by simp, ?_⟩
          conv => whnf
          refine ⟨by rw [List.length_take]; omega, ?_⟩
          conv => whnf
          rw [wrapS n (by omega)]
          refine ⟨by omega, ?_⟩
          rw [dropI left (n + 1)]
          conv => whnf
          refine ⟨by simp, by rw [List.length_drop]; omega, ?_⟩
          conv => whnf
          refine ⟨by simp, ?_⟩
          conv => whnf
          refine ⟨by simp; omega, ?_⟩
          conv => whnf
          have hl : (left.eraseIdx n).length = left.length - 1 := List.length_eraseIdx_of_lt hn
          have hs := stepN_le y t'
          rw [pickGo_step hn hnn] at hp1 hp2
          refine ⟨(left.eraseIdx n).length, by omega, left.eraseIdx n, order ++ [left[n]], stepN y t', rfl, by simp; omega, by simp; omega, by rw [← hp1, List.append_assoc]; rfl, hp2, ?_, rfl⟩
          rw [← eraseU, ← U1_snoc]; rfl
        · have hy0 : y = [] := List.length_eq_zero_iff.1 (by omega)
          have hn : 0 < left.length := by omega
          have hnn : pickN y left.length t' = 0 := if_pos hy0
          have es : stepN y t' = t' := if_pos hy0
          conv => whnf
          refine ⟨by omega, ?_⟩
          conv => whnf
          refine nthM I left 0 hn ?_
          conv => whnf
          refine ⟨rfl, by decide, rfl, by omega, ?_⟩
          conv => whnf
          refine ⟨by omega, ?_⟩
          rw [show AV.lst ((left.map I).take ((0 : Int).toNat * 1)) (0 : Int).toNat .shared = L1 (left.take 0) from takeI left 0 (Nat.zero_le _)]
          conv => whnf
          refine ⟨by simp, by rw [List.length_take]; omega, ?_⟩
          conv => whnf
          refine ⟨by simp, ?_⟩
          conv => whnf
          refine ⟨by rw [List.length_take]; omega, ?_⟩
          conv => whnf
          rw [show IntKind.i64.wrap (0 + 1) = (1 : Int) by rw [IntKind.wrap_i64]; rfl]
          refine ⟨by omega, ?_⟩
          rw [show AV.lst (((left.map I).drop ((1 : Int).toNat * 1)).take ((left.length - (1 : Int).toNat) * 1)) (left.length - (1 : Int).toNat) .shared = L1 (left.drop 1) from dropI left 1]
          conv => whnf
          refine ⟨by simp, by rw [List.length_drop]; omega, ?_⟩
          conv => whnf
          refine ⟨by simp, ?_⟩
          conv => whnf
          refine ⟨by simp; omega, ?_⟩
          conv => whnf
          have hl : (left.eraseIdx 0).length = left.length - 1 := List.length_eraseIdx_of_lt hn
          have hs := stepN_le y t'
          rw [pickGo_step hn hnn] at hp1 hp2
          refine ⟨(left.eraseIdx 0).length, by omega, left.eraseIdx 0, order ++ [left[0]], stepN y t', rfl, by simp; omega, by simp; omega, by rw [← hp1, List.append_assoc]; rfl, hp2, ?_, rfl⟩
          rw [← eraseU, ← U1_snoc, es]; rfl
      · have h0 : left.length = 0 := by omega
        rw [h0, pickGo, List.append_nil] at hp1
        rw [h0, pickGo] at hp2
        have hd : p.drop i = p[i] :: p.drop (i + 1) := List.drop_eq_getElem_cons hlt
        rw [hd, chosenGo, ← hp1, ← hp2] at hc
        conv => whnf
        refine ⟨rfl, by decide, rfl, by omega, ?_⟩
        conv => whnf
        refine ⟨p.length - (i + 1), by omega, i + 1, t', out ++ [order], by omega, rfl, by omega, by simp; omega, by rw [← hc, List.append_assoc]; rfl, ?_, rfl⟩
        rw [← U2_snoc, ← wrapS i (by omega)]; rfl
  · obtain rfl : i = p.length := by omega
    rw [List.drop_length, chosenGo, List.append_nil] at hc
    conv => whnf
    exact ret_own (.inr rfl) (pu2 _ _ _) (.inr (by rw [← hc]; rfl))
end Go.Proofs.Ytlcebaejlnpdeaa.Ab

/-
  Plain law of layer 5: the other way round; meetings and the distance.
-/
namespace Go.Proofs.Ytlcebaejlnpdeaa.Ab
theorem few_best {p : List (List Int)} (hv : Val p) : Ords p (progOrders p) ∧ fewestOf p = (meetN (seamsBy p (progOrders p)) : Int) :=
  ⟨joints_ords' _ fun l hl => ⟨hv.s1 l hl, hv.s5 l hl⟩, fewest_eq ⟨fun l hl => ⟨hv.s1 l hl, hv.s5 l hl⟩, hv.n4⟩ fun e => by have := hv.n2; simp [e] at this⟩
theorem few_le {p o : List (List Int)} (hv : Val p) (ho : Ords p o) : fewestOf p ≤ (meetN (seamsBy p o) : Int) :=
  fewest_min ⟨fun l hl => ⟨hv.s1 l hl, hv.s5 l hl⟩, hv.n4⟩ (fun e => by have := hv.n2; simp [e] at this) ho
theorem head_mem {p : List (List Int)} (hv : Val p) : p.headD [] ∈ p := by
  have := hv.n2
  cases p with
  | nil => simp at this
  | cons a r => simp
/-! ### Meetings, and the distance -/
theorem sum_pos {p : List (List Int)} (hv : Val p) : 1 ≤ sumI (p.headD []) := by
  have h := head_mem hv
  have h1 := hv.s1 _ h
  have h2 := hv.w _ h
  cases hp : p.headD [] with
  | nil => rw [hp] at h1; simp at h1
  | cons x r =>
    rw [hp] at h2
    have := Sm.bound (l := r) fun y hy => by have := h2 y (by simp [hy]); omega
    have := h2 x (by simp)
    rw [sumI_cons]; omega
end Go.Proofs.Ytlcebaejlnpdeaa.Ab

/-
  SeamUpside.
-/
namespace Go.Proofs.Ytlcebaejlnpdeaa.Ab
open Go
set_option maxRecDepth 20000
set_option maxHeartbeats 4000000
theorem Val.two {p : List (List Int)} (hv : Val p) (i : Nat) (h : i + 2 ≤ p.length) : Val ((p.drop i).take 2) := by
  have hm : ∀ l ∈ (p.drop i).take 2, l ∈ p := fun l hl => List.mem_of_mem_drop (List.mem_of_mem_take hl)
  have hl2 : ((p.drop i).take 2).length = 2 := by simp; omega
  have hh : ((p.drop i).take 2).headD [] ∈ p := by
    cases hq : (p.drop i).take 2 with
    | nil => rw [hq] at hl2; simp at hl2
    | cons a r => exact hm a (by rw [hq]; simp)
  exact ⟨by omega, by omega, fun l hl => hv.s1 l (hm l hl), fun l hl => hv.s5 l (hm l hl), fun l hl => hv.w l (hm l hl), fun l hl => by rw [hv.eq l (hm l hl), hv.eq _ hh]⟩
end Go.Proofs.Ytlcebaejlnpdeaa.Ab

/-
  SeamFar.
-/
namespace Go.Proofs.Ytlcebaejlnpdeaa.Ab
open Go
set_option maxRecDepth 20000
set_option maxHeartbeats 4000000
end Go.Proofs.Ytlcebaejlnpdeaa.Ab

/-
  Plain law of layer 5: all widths times as great; orders that are turned round.
-/
namespace Go.Proofs.Ytlcebaejlnpdeaa.Ab
/-! ### Times as great -/
def times (t : Int) (l : List Int) : List Int := l.map fun x => t * x
theorem times_len (t : Int) (l : List Int) : (times t l).length = l.length := by simp [times]
theorem times_getD (t : Int) (l : List Int) (i : Nat) : (times t l).getD i 0 = t * l.getD i 0 := by
  simp only [times, List.getD_eq_getElem?_getD, List.getElem?_map]
  cases l[i]? <;> simp
theorem times_sum (t : Int) : ∀ l : List Int, sumI (times t l) = t * sumI l
  | [] => by simp [times, sumI]
  | x :: l => by
    have := times_sum t l
    rw [show times t (x :: l) = t * x :: times t l from rfl, sumI_cons, sumI_cons, this, Int.mul_add]
theorem times_go (t : Int) (layer : List Int) : ∀ (l : List Int) (a : Int), seamsGo (times t layer) (t * a) l = times t (seamsGo layer a l)
  | [], a => rfl
  | i :: l, a => by
    have := times_go t layer l (a + layer.getD i.toNat 0)
    rw [Int.mul_add] at this
    simp only [seamsGo, times_getD, this]
    simp [times, Int.mul_add]
theorem times_seams (t : Int) (l o : List Int) : seamsOf (times t l) o = times t (seamsOf l o) := by
  have := times_go t l o.dropLast 0
  rwa [Int.mul_zero] at this
theorem times_by (t : Int) (p o : List (List Int)) : seamsBy (p.map (times t)) o = (seamsBy p o).map (times t) := by
  unfold seamsBy
  rw [List.zipWith_map_left, List.map_zipWith]
  congr 1; funext a b; exact times_seams t a b
theorem mul_inj {t a b : Int} (ht : 0 < t) : t * a = t * b ↔ a = b :=
  ⟨fun h => Int.eq_of_mul_eq_mul_left (by omega) h, fun h => by rw [h]⟩
theorem has_times {t : Int} (ht : 0 < t) (b : List Int) (x : Int) : has (times t b) (t * x) = has b x := by
  rw [Bool.eq_iff_iff, has_iff, has_iff]
  simp only [times, List.mem_map]
  exact ⟨fun ⟨y, hy, e⟩ => by rw [← (mul_inj ht).1 e]; exact hy, fun h => ⟨x, h, rfl⟩⟩
theorem common_times {t : Int} (ht : 0 < t) (a b : List Int) : common (times t a) (times t b) = common a b := by
  unfold common
  rw [show times t a = a.map fun x => t * x from rfl, List.filter_map, List.length_map]
  congr 1
  apply List.filter_congr
  intro x _
  exact has_times ht b x
theorem meet_times {t : Int} (ht : 0 < t) : ∀ l : List (List Int), meetN (l.map (times t)) = meetN l
  | [] => rfl
  | [x] => rfl
  | a :: b :: r => by
    have := meet_times ht (b :: r)
    simp only [List.map_cons, meetN, common_times ht] at this ⊢; omega
theorem mul_min {t : Int} (ht : 0 < t) (a b : Int) : min (t * a) (t * b) = t * min a b := by
  rcases Int.le_total a b with h | h
  · have := Int.mul_le_mul_of_nonneg_left h (show (0 : Int) ≤ t by omega)
    rw [Int.min_eq_left h, Int.min_eq_left this]
  · have := Int.mul_le_mul_of_nonneg_left h (show (0 : Int) ≤ t by omega)
    rw [Int.min_eq_right h, Int.min_eq_right this]
theorem mul_max {t : Int} (ht : 0 < t) (a b : Int) : max (t * a) (t * b) = t * max a b := by
  rcases Int.le_total a b with h | h
  · have := Int.mul_le_mul_of_nonneg_left h (show (0 : Int) ≤ t by omega)
    rw [Int.max_eq_right h, Int.max_eq_right this]
  · have := Int.mul_le_mul_of_nonneg_left h (show (0 : Int) ≤ t by omega)
    rw [Int.max_eq_left h, Int.max_eq_left this]
theorem in_times {t : Int} (ht : 0 < t) (x : Int) : ∀ (b : List Int) (m : Int), (times t b).foldl (fun m y => min m (max (t * x - y) (y - t * x))) (t * m) = t * b.foldl (fun m y => min m (max (x - y) (y - x))) m
  | [], m => rfl
  | y :: b, m => by
    have e : min (t * m) (max (t * x - t * y) (t * y - t * x)) = t * min m (max (x - y) (y - x)) := by
      rw [← Int.mul_sub, ← Int.mul_sub, mul_max ht, mul_min ht]
    rw [show times t (y :: b) = t * y :: times t b from rfl, List.foldl_cons, List.foldl_cons, e, in_times ht x b]
theorem betw_times {t : Int} (ht : 0 < t) : ∀ (a b : List Int) (m : Int), betw (times t a) (times t b) (t * m) = t * betw a b m
  | [], b, m => rfl
  | x :: a, b, m => by
    have e : betw (x :: a) b m = betw a b (b.foldl (fun m y => min m (max (x - y) (y - x))) m) := rfl
    have e2 : betw (times t (x :: a)) (times t b) (t * m) = betw (times t a) (times t b) ((times t b).foldl (fun m y => min m (max (t * x - y) (y - t * x))) (t * m)) := rfl
    rw [e, e2, in_times ht, betw_times ht a b]
theorem dist_times {t : Int} (ht : 0 < t) : ∀ (l : List (List Int)) (m : Int), distGo (l.map (times t)) (t * m) = t * distGo l m
  | [], m => rfl
  | [x], m => rfl
  | a :: b :: r, m => by
    have := dist_times ht (b :: r) (betw a b m)
    simp only [List.map_cons, distGo, betw_times ht] at this ⊢; exact this
theorem ords_times {t : Int} {p o : List (List Int)} : Ords (p.map (times t)) o ↔ Ords p o := by
  constructor
  · intro h
    have hl := h.len
    rw [List.length_map] at hl
    refine ⟨hl, fun i h1 h2 => ?_⟩
    have := h.ord i h1 (by simpa using h2)
    rwa [List.getElem_map, times_len] at this
  · intro h
    refine ⟨by simpa using h.len, fun i h1 h2 => ?_⟩
    have := h.ord i h1 (by simpa using h2)
    rwa [List.getElem_map, times_len]
theorem head_times (t : Int) (p : List (List Int)) : sumI ((p.map (times t)).headD []) = t * sumI (p.headD []) := by
  cases p with
  | nil => simp [sumI]
  | cons a r => exact times_sum t a
theorem few_times {t : Int} (ht : 0 < t) {p : List (List Int)} (hv : Val p) (hx : Val (p.map (times t))) : fewestOf (p.map (times t)) = fewestOf p := by
  obtain ⟨h1, h2⟩ := few_best hv
  obtain ⟨h3, h4⟩ := few_best hx
  have h5 := few_le hx (ords_times.2 h1)
  have h6 := few_le hv (ords_times.1 h3)
  rw [times_by, meet_times ht] at h4 h5
  omega
theorem far_times {t : Int} (ht : 0 < t) {p : List (List Int)} (hv : Val p) (hx : Val (p.map (times t))) : (farB (p.map (times t))).d = t * (farB p).d := by
  obtain ⟨h1, h2⟩ := farB_dist hv
  obtain ⟨h3, h4⟩ := farB_dist hx
  have h5 := far_max hx (ords_times.2 h1)
  have h6 := far_max hv (ords_times.1 h3)
  unfold distOf' at h2 h4
  rw [times_by, head_times, dist_times ht] at h4 h5
  rw [h2] at h5
  have h7 := Int.mul_le_mul_of_nonneg_left h6 (show (0 : Int) ≤ t by omega)
  omega
end Go.Proofs.Ytlcebaejlnpdeaa.Ab

/-
  SeamScaled.
-/
namespace Go.Proofs.Ytlcebaejlnpdeaa.Ab
open Go
set_option maxRecDepth 20000
set_option maxHeartbeats 4000000
def cellT (t : Int) (p : List (List Int)) : Nat → AV
  | 0 => .lst [] 0 .full
  | k + 1 => O2 ((p.take (k + 1)).map (times t))
theorem times_fl {p : List (List Int)} (hv : Val p) {t : Int} (ht : 0 ≤ t ∧ t ≤ 4) : Fl2 (p.map (times t)) := by
  have h4 := hv.n4
  refine ⟨by simp; omega, fun r hr => ?_⟩
  obtain ⟨l, hl, rfl⟩ := List.mem_map.1 hr
  have h5 := hv.s5 l hl
  refine ⟨by rw [times_len]; omega, fun x hx => ?_⟩
  obtain ⟨y, hy, rfl⟩ := List.mem_map.1 hx
  have := hv.w l hl y hy
  have h1 : 0 ≤ t * y := Int.mul_nonneg ht.1 (by omega)
  have h2 : t * y ≤ 4 * y := Int.mul_le_mul_of_nonneg_right ht.2 (by omega)
  exact ⟨by omega, by omega⟩
theorem seamScaled_ok (hw : WK) (p : List (List Int)) (y : List Int) (b : Int) (hp : Fl2 p) (hy : Fy y) (hb : 0 ≤ b ∧ b ≤ 255) : PO 14 [P1 p, Y1 y, .int .u8 b] (B true) := by
  refine fn_pure hmix lk14 rfl rfl ?_
  unfold rc14
  conv => whnf
  refine ⟨by first | rfl | simp only [List.all_cons, List.all_nil, pu0, pub, pu1, pu2, pu1', pu2', pun, puf, puP, puP', puQ, puQ', Bool.and_true, Bool.and_self], _, fine_ok p hp, ?_⟩
  conv => whnf
  cases hf : fineB p with
  | false =>
    conv => whnf
    refine ⟨by first | rfl | simp only [List.all_cons, List.all_nil, pu0, pub, pu1, pu2, pu1', pu2', pun, puf, puP, puP', puQ, puQ', Bool.and_true, Bool.and_self], _, hw, ?_⟩
    conv => whnf
    exact ret_pure (.inr rfl) rfl rfl
  | true =>
    have hv := fineB_val hf
    have h4 := hv.n4
    have h2 := hv.n2
    conv => whnf
    refine dcase (fun h => ?_) (fun h => ?_)
    · conv => whnf
      refine ⟨by first | rfl | simp only [List.all_cons, List.all_nil, pu0, pub, pu1, pu2, pu1', pu2', pun, puf, puP, puP', puQ, puQ', Bool.and_true, Bool.and_self], _, hw, ?_⟩
      conv => whnf
      exact ret_pure (.inr rfl) rfl rfl
    · obtain ⟨c, rfl⟩ : ∃ c : Nat, b = (c : Int) := ⟨b.toNat, by omega⟩
      conv => whnf
      refine ⟨by decide, ?_⟩
      conv => whnf
      obtain ⟨t, et, t2, t4⟩ : ∃ t : Int, IntKind.i64.wrap (2 + IntKind.i64.wrap ((c : Int).tmod 3)) = t ∧ 2 ≤ t ∧ t ≤ 4 := by
        have e : (c : Int).tmod 3 = ((c % 3 : Nat) : Int) := rfl
        have := Nat.mod_lt c (show 0 < 3 by omega)
        exact ⟨2 + ((c % 3 : Nat) : Int), by rw [e, wrapI ((c % 3 : Nat) : Int) (by omega) (by omega), wrapI _ (by omega) (by omega)], by omega, by omega⟩
      rw [et]
      refine .intro (fun m T H => ∃ k : Nat, k ≤ p.length ∧ m = p.length - k ∧ T = slots 197 [(1, Y1 y), (3, .ptr 0 0), (7, I t), (8, .ptr 1 0), (9, I k)] ∧ H = [.cells [L2 p], .cells [cellT t p k]]) p.length ⟨0, Nat.zero_le _, rfl, rfl, rfl⟩ ?_
      rintro m T H ⟨k, hk, rfl, rfl, rfl⟩
      conv => whnf
      refine dcase (fun h1 => ?_) (fun h1 => ?_)
      · have hlt : k < p.length := by omega
        have hl5 := hv.s5 _ (List.getElem_mem hlt)
        conv => whnf
        refine .intro (CI (fun q => slots 197 [(1, Y1 y), (3, .ptr 0 0), (7, I t), (8, .ptr 1 0), (9, I k), (10, U1 (times t (p[k].take q))), (11, I q)]) p[k].length [.cells [L2 p], .cells [cellT t p k]]) p[k].length (ci0 rfl) ?_
        rintro m T H ⟨q, hq, rfl, rfl, rfl⟩
        conv => whnf
        refine ⟨by omega, ?_⟩
        conv => whnf
        refine nthM _ _ _ (hlt) ?_
        conv => whnf
        refine dcase (fun h3 => ?_) (fun h3 => ?_)
        · have hlt2 : q < p[k].length := by omega
          have hx := hv.w _ (List.getElem_mem hlt) _ (List.getElem_mem hlt2)
          have hb1 : 0 ≤ t * p[k][q] := Int.mul_nonneg (by omega) (by omega)
          have hb2 : t * p[k][q] ≤ 4 * p[k][q] := Int.mul_le_mul_of_nonneg_right t4 (by omega)
          have hql : (times t (p[k].take q)).length = q := by rw [times_len, List.length_take]; omega
          conv => whnf
          refine ⟨by omega, ?_⟩
          conv => whnf
          refine nthM _ _ _ (hlt) ?_
          conv => whnf
          refine ⟨by omega, ?_⟩
          conv => whnf
          refine nthM _ _ _ (hlt2) ?_
          conv => whnf
          refine ⟨rfl, by decide, rfl, by omega, ?_⟩
          conv => whnf
          rw [wrapI (t * p[k][q]) (by omega) (by omega)]
          refine ciN hlt2 ?_
          rw [show times t (p[k].take (q + 1)) = times t (p[k].take q) ++ [t * p[k][q]] by rw [List.take_succ_eq_append_getElem hlt2]; exact List.map_append, ← U1_snoc, ← wrapS q (by omega)]
          rfl
        · obtain rfl : q = p[k].length := by omega
          rw [List.take_length]
          cases k with
          | zero =>
            conv => whnf
            refine ⟨rfl, by decide, ?_⟩
            conv => whnf
            refine ⟨by decide, by decide, rfl, ?_⟩
            conv => whnf
            refine ⟨p.length - 1, by omega, 1, by omega, rfl, ?_, ?_⟩
            · rw [← wrapS 0 (by omega)]; rfl
            · rw [show cellT t p 1 = AV.lst [L1 (times t p[0])] 1 (.own 1) by rw [show cellT t p 1 = O2 ((p.take (0 + 1)).map (times t)) from rfl, List.take_succ_eq_append_getElem hlt]; rfl]
              rfl
          | succ k =>
            have htl : ((p.take (k + 1)).map (times t)).length = k + 1 := by simp; omega
            conv => whnf
            refine ⟨rfl, by decide, rfl, by omega, ?_⟩
            conv => whnf
            refine ⟨p.length - (k + 1 + 1), by omega, k + 1 + 1, by omega, rfl, ?_, ?_⟩
            · rw [← wrapS (k + 1) (by omega)]; rfl
            · rw [show cellT t p (k + 1 + 1) = AV.lst (List.map L1 ((p.take (k + 1)).map (times t)) ++ [L1 (times t p[k + 1])]) (((p.take (k + 1)).map (times t)).length + 1) (.own 1) by rw [show cellT t p (k + 1 + 1) = O2 ((p.take (k + 1 + 1)).map (times t)) from rfl, List.take_succ_eq_append_getElem hlt, List.map_append, O2, List.map_append, List.length_append]; rfl]
              rfl
      · obtain rfl : k = p.length := by omega
        rw [show cellT t p p.length = O2 (p.map (times t)) by
          obtain ⟨j, hj⟩ : ∃ j, p.length = j + 1 := ⟨p.length - 1, by omega⟩
          rw [hj, cellT, List.take_of_length_le (by omega)]]
        have tp : 0 < t := by omega
        conv => whnf
        refine ⟨by first | rfl | simp only [List.all_cons, List.all_nil, pu0, pub, pu1, pu2, pu1', pu2', pun, puf, puP, puP', puQ, puQ', Bool.and_true, Bool.and_self], _, fine_ok (p.map (times t)) (times_fl hv ⟨by omega, t4⟩), ?_⟩
        conv => whnf
        cases hg : fineB (p.map (times t)) with
        | false =>
          conv => whnf
          refine ⟨by first | rfl | simp only [List.all_cons, List.all_nil, pu0, pub, pu1, pu2, pu1', pu2', pun, puf, puP, puP', puQ, puQ', Bool.and_true, Bool.and_self], _, hw, ?_⟩
          conv => whnf
          exact ret_pure (.inr rfl) rfl rfl
        | true =>
          have hx := fineB_val hg
          have ho := chosen_ords p y
          have hox : Ords (p.map (times t)) (chosen p y) := ords_times.2 ho
          obtain ⟨q1, q2⟩ := ho.fit hv
          obtain ⟨r1, r2⟩ := hox.fit hx
          have he := ho.err hv
          have hex := hox.err hx
          have hd : distOf p (chosen p y) = distGo (seamsBy p (chosen p y)) (sumI (p.headD [])) := if_pos he
          have hm : meetOf p (chosen p y) = meetN (seamsBy p (chosen p y)) := if_pos he
          have hdx : distOf (p.map (times t)) (chosen p y) = t * distGo (seamsBy p (chosen p y)) (sumI (p.headD [])) := by
            rw [distOf, if_pos hex, times_by, head_times, dist_times tp]
          have hmx : meetOf (p.map (times t)) (chosen p y) = meetN (seamsBy p (chosen p y)) := by
            rw [meetOf, if_pos hex, times_by, meet_times tp]
          obtain ⟨k0, k1⟩ := distGo_bound (seamsBy p (chosen p y)) (sumI (p.headD [])) (seamsBy_nonneg fun l hl => hv.sm hl) (by have := sum_pos hv; omega)
          have h0 : 0 < p.length := by omega
          have hh : p.headD [] = p[0] := headD0 _ h0
          have hs := hv.sm (List.getElem_mem h0)
          have hsb := hs.sum
          obtain ⟨d0, d1⟩ := farB_d hv
          conv => whnf
          refine ⟨by simp only [List.all_cons, List.all_nil, Bool.and_true, puP, Bool.true_and]; exact pure_Y1 y, _, chosen_ok p y hv hy (by omega), ?_⟩
          conv => whnf
          refine ⟨by first | rfl | simp only [List.all_cons, List.all_nil, pu0, pub, pu1, pu2, pu1', pu2', pun, puf, puP, puP', puQ, puQ', Bool.and_true, Bool.and_self], _, pmeet_ok p (chosen p y) q1, ?_⟩
          conv => whnf
          refine ⟨by first | rfl | simp only [List.all_cons, List.all_nil, pu0, pub, pu1, pu2, pu1', pu2', pun, puf, puP, puP', puQ, puQ', Bool.and_true, Bool.and_self], _, pmeet_ok (p.map (times t)) (chosen p y) r1, ?_⟩
          conv => whnf
          refine ⟨by first | rfl | simp only [List.all_cons, List.all_nil, pu0, pub, pu1, pu2, pu1', pu2', pun, puf, puP, puP', puQ, puQ', Bool.and_true, Bool.and_self], _, pdist_ok p (chosen p y) q1, ?_⟩
          conv => whnf
          refine ⟨by first | rfl | simp only [List.all_cons, List.all_nil, pu0, pub, pu1, pu2, pu1', pu2', pun, puf, puP, puP', puQ, puQ', Bool.and_true, Bool.and_self], _, pdist_ok (p.map (times t)) (chosen p y) r1, ?_⟩
          conv => whnf
          refine ⟨by first | rfl | simp only [List.all_cons, List.all_nil, pu0, pub, pu1, pu2, pu1', pu2', pun, puf, puP, puP', puQ, puQ', Bool.and_true, Bool.and_self], _, fewest49_ok p hv, ?_⟩
          conv => whnf
          refine ⟨by first | rfl | simp only [List.all_cons, List.all_nil, pu0, pub, pu1, pu2, pu1', pu2', pun, puf, puP, puP', puQ, puQ', Bool.and_true, Bool.and_self], _, fewest49_ok _ hx, ?_⟩
          conv => whnf
          refine ⟨by first | rfl | simp only [List.all_cons, List.all_nil, pu0, pub, pu1, pu2, pu1', pu2', pun, puf, puP, puP', puQ, puQ', Bool.and_true, Bool.and_self], _, far54_ok p hv, ?_⟩
          conv => whnf
          refine ⟨by first | rfl | simp only [List.all_cons, List.all_nil, pu0, pub, pu1, pu2, pu1', pu2', pun, puf, puP, puP', puQ, puQ', Bool.and_true, Bool.and_self], _, far54_ok _ hx, ?_⟩
          conv => whnf
          refine ⟨by omega, ?_⟩
          conv => whnf
          refine nthM _ _ _ (h0) ?_
          conv => whnf
          refine ⟨by first | rfl | simp only [List.all_cons, List.all_nil, pu0, pub, pu1, pu2, pu1', pu2', pun, puf, puP, puP', puQ, puQ', Bool.and_true, Bool.and_self], _, rsum_ok p[0] hs, ?_⟩
          conv => whnf
          rw [he, hex, hd, hm, hdx, hmx, few_times tp hv hx, far_times tp hv hx]
          conv => whnf
          rw [hh] at k0 k1 d1
          have m0 : 0 ≤ t * distGo (seamsBy p (chosen p y)) (sumI p[0]) := Int.mul_nonneg (by omega) k0
          have m1 : t * distGo (seamsBy p (chosen p y)) (sumI p[0]) ≤ 4 * distGo (seamsBy p (chosen p y)) (sumI p[0]) := Int.mul_le_mul_of_nonneg_right t4 k0
          have m2 : 0 ≤ t * (farB p).d := Int.mul_nonneg (by omega) d0
          have m3 : t * (farB p).d ≤ 4 * (farB p).d := Int.mul_le_mul_of_nonneg_right t4 d0
          rw [hh, deqr]
          conv => whnf
          rw [decide_eq_true k0]
          conv => whnf
          rw [decide_eq_true k1]
          conv => whnf
          rw [wrapI _ (by omega) (by omega), deqr]
          conv => whnf
          rw [deqr]
          conv => whnf
          rw [wrapI _ (by omega) (by omega), deqr]
          conv => whnf
          refine ⟨by first | rfl | simp only [List.all_cons, List.all_nil, pu0, pub, pu1, pu2, pu1', pu2', pun, puf, puP, puP', puQ, puQ', Bool.and_true, Bool.and_self], _, hw, ?_⟩
          conv => whnf
          exact ret_pure (.inr rfl) rfl rfl
end Go.Proofs.Ytlcebaejlnpdeaa.Ab

/-
  Closed calls of the layer: those of the map of meetings.
-/
namespace Go.Proofs.Ytlcebaejlnpdeaa.Ab
open Go
theorem meets_pure (rows : List (List Int)) (j i : Nat) (k v : AV) (h : (meets rows)[j]? = some (i, k, v)) : pureD 8 k = true ∧ pureD 8 v = true := by
  have := List.mem_of_getElem? h
  unfold meets at this
  obtain ⟨q, _, e⟩ := List.mem_map.1 this
  simp only [entOf, Prod.mk.injEq] at e
  obtain ⟨_, rfl, rfl⟩ := e
  exact ⟨rfl, rfl⟩
def meetE (rows : List (List Int)) : Ent := .map 63 [L2 rows] (meets rows) (places rows 0).length
theorem meetE_ok (rows : List (List Int)) (hl : rows.length ≤ 1000) (hr : ∀ r ∈ rows, r.length ≤ 1000) (hn : (places rows 0).Nodup) : entOk Go.Proofs.Try.prog (meetE rows) := fun H =>
  sem_map (by simp only [List.all_cons, List.all_nil, Bool.and_true]; exact pure_L2 5 rows) (meets_pure rows) (meetings_ok rows hl hr hn) H
def meetL : List Ent := [meetE [[2, 5], [5]], meetE [[2, 7], [5]], meetE [[5], [5], [4]], meetE [[5], [5]], meetE [[5], [4]]]
theorem meetL_ok : ∀ e ∈ meetL, entOk Go.Proofs.Try.prog e := by
  intro e he
  simp only [meetL, List.mem_cons, List.not_mem_nil, or_false] at he
  rcases he with rfl | rfl | rfl | rfl | rfl
  · exact meetE_ok _ (by decide) (by decide) (by decide)
  · exact meetE_ok _ (by decide) (by decide) (by decide)
  · exact meetE_ok _ (by decide) (by decide) (by decide)
  · exact meetE_ok _ (by decide) (by decide) (by decide)
  · exact meetE_ok _ (by decide) (by decide) (by decide)
end Go.Proofs.Ytlcebaejlnpdeaa.Ab

/- MADE BY PROGRAM (closed.py): closed calls. -/
namespace Go.Proofs.Ytlcebaejlnpdeaa.Ab
open Go
def e0 : Ent := .pure 21 [.agg [.lst [.lst [.int .i64 2, .int .i64 3, .int .i64 5] 3 .shared, .lst [.int .i64 5, .int .i64 5] 2 .shared] 2 .shared], .lst [.lst [.int .i64 0, .int .i64 1, .int .i64 2] 3 .shared, .lst [.int .i64 0, .int .i64 1] 2 .shared] 2 .shared] (.tuple [.int .i64 1, .int .i64 0])
theorem e0_ok : entOk Go.Proofs.Try.prog e0 := runC_ok meetL_ok (by kernel_rfl)
def e1 : Ent := .pure 21 [.agg [.lst [.lst [.int .i64 2, .int .i64 3, .int .i64 5] 3 .shared, .lst [.int .i64 5, .int .i64 5] 2 .shared] 2 .shared], .lst [.lst [.int .i64 0, .int .i64 2, .int .i64 1] 3 .shared, .lst [.int .i64 1, .int .i64 0] 2 .shared] 2 .shared] (.tuple [.int .i64 0, .int .i64 0])
theorem e1_ok : entOk Go.Proofs.Try.prog e1 := runC_ok meetL_ok (by kernel_rfl)
def e2 : Ent := .pure 21 [.agg [.lst [.lst [.int .i64 2, .int .i64 3, .int .i64 5] 3 .shared, .lst [.int .i64 5, .int .i64 5] 2 .shared] 2 .shared], .lst [.lst [.int .i64 0, .int .i64 1, .int .i64 2] 3 .shared] 1 .shared] (.tuple [.int .i64 0, .int .i64 15])
theorem e2_ok : entOk Go.Proofs.Try.prog e2 := runC_ok meetL_ok (by kernel_rfl)
def e3 : Ent := .pure 21 [.agg [.lst [.lst [.int .i64 2, .int .i64 3, .int .i64 5] 3 .shared, .lst [.int .i64 5, .int .i64 5] 2 .shared] 2 .shared], .lst [.lst [.int .i64 0, .int .i64 1, .int .i64 1] 3 .shared, .lst [.int .i64 0, .int .i64 1] 2 .shared] 2 .shared] (.tuple [.int .i64 0, .int .i64 16])
theorem e3_ok : entOk Go.Proofs.Try.prog e3 := runC_ok meetL_ok (by kernel_rfl)
def e4 : Ent := .pure 23 [.agg [.lst [.lst [.int .i64 2, .int .i64 3, .int .i64 5] 3 .shared, .lst [.int .i64 5, .int .i64 5] 2 .shared] 2 .shared], .lst [.lst [.int .i64 0, .int .i64 1, .int .i64 2] 3 .shared, .lst [.int .i64 0, .int .i64 1] 2 .shared] 2 .shared] (.tuple [.lst [.lst [.int .i64 2, .int .i64 5] 2 .shared, .lst [.int .i64 5] 1 .shared] 2 .shared, .int .i64 0])
theorem e4_ok : entOk Go.Proofs.Try.prog e4 := runC_ok meetL_ok (by kernel_rfl)
def e6 : Ent := .pure 28 [.agg [.lst [.lst [.int .i64 2, .int .i64 3, .int .i64 5] 3 .shared, .lst [.int .i64 5, .int .i64 5] 2 .shared] 2 .shared], .lst [.lst [.int .i64 0, .int .i64 1, .int .i64 2] 3 .shared, .lst [.int .i64 0, .int .i64 1] 2 .shared] 2 .shared] (.tuple [.lst [.int .i64 5] 1 .shared, .int .i64 0])
theorem e6_ok : entOk Go.Proofs.Try.prog e6 := runC_ok meetL_ok (by kernel_rfl)
def e7 : Ent := .pure 30 [.agg [.lst [.lst [.int .i64 2, .int .i64 3, .int .i64 5] 3 .shared, .lst [.int .i64 5, .int .i64 5] 2 .shared] 2 .shared], .lst [.lst [.int .i64 0, .int .i64 2, .int .i64 1] 3 .shared, .lst [.int .i64 0, .int .i64 1] 2 .shared] 2 .shared] (.tuple [.int .i64 2, .int .i64 0])
theorem e7_ok : entOk Go.Proofs.Try.prog e7 := runC_ok meetL_ok (by kernel_rfl)
def e8 : Ent := .pure 33 [.agg [.lst [.lst [.int .i64 5, .int .i64 5] 2 .shared, .lst [.int .i64 5, .int .i64 5] 2 .shared, .lst [.int .i64 4, .int .i64 6] 2 .shared] 3 .shared]] (.tuple [.int .i64 1, .int .i64 0])
theorem e8_ok : entOk Go.Proofs.Try.prog e8 := runC_ok meetL_ok (by kernel_rfl)
def e9 : Ent := .pure 35 [.agg [.lst [.lst [.int .i64 2, .int .i64 3, .int .i64 5] 3 .shared, .lst [.int .i64 5, .int .i64 5] 2 .shared] 2 .shared]] (.tuple [.lst [.lst [.int .i64 0, .int .i64 2, .int .i64 1] 3 .shared, .lst [.int .i64 0, .int .i64 1] 2 .shared] 2 .shared, .int .i64 0])
theorem e9_ok : entOk Go.Proofs.Try.prog e9 := runC_ok meetL_ok (by kernel_rfl)
end Go.Proofs.Ytlcebaejlnpdeaa.Ab

/- MADE BY PROGRAM (closed.py): closed calls. -/
namespace Go.Proofs.Ytlcebaejlnpdeaa.Ab
open Go
def e10 : Ent := .pure 37 [.agg [.lst [.lst [.int .i64 5, .int .i64 5] 2 .shared, .lst [.int .i64 5, .int .i64 5] 2 .shared, .lst [.int .i64 4, .int .i64 6] 2 .shared] 3 .shared], .int .i64 0] (.tuple [.int .i64 1, .int .i64 0])
theorem e10_ok : entOk Go.Proofs.Try.prog e10 := runC_ok meetL_ok (by kernel_rfl)
def e11 : Ent := .pure 37 [.agg [.lst [.lst [.int .i64 5, .int .i64 5] 2 .shared, .lst [.int .i64 5, .int .i64 5] 2 .shared, .lst [.int .i64 4, .int .i64 6] 2 .shared] 3 .shared], .int .i64 2] (.tuple [.int .i64 0, .int .i64 2])
theorem e11_ok : entOk Go.Proofs.Try.prog e11 := runC_ok meetL_ok (by kernel_rfl)
def e12 : Ent := .pure 40 [.agg [.lst [.lst [.int .i64 2, .int .i64 3, .int .i64 5] 3 .shared, .lst [.int .i64 5, .int .i64 5] 2 .shared] 2 .shared], .int .i64 0] (.tuple [.lst [.int .i64 2, .int .i64 3, .int .i64 5, .int .i64 7, .int .i64 8] 5 .full, .int .i64 0])
theorem e12_ok : entOk Go.Proofs.Try.prog e12 := runC_ok meetL_ok (by kernel_rfl)
def e13 : Ent := .pure 42 [.agg [.lst [.lst [.int .i64 2, .int .i64 3, .int .i64 5] 3 .shared, .lst [.int .i64 5, .int .i64 5] 2 .shared] 2 .shared], .int .i64 1] (.tuple [.lst [.int .i64 5] 1 .shared, .int .i64 0])
theorem e13_ok : entOk Go.Proofs.Try.prog e13 := runC_ok meetL_ok (by kernel_rfl)
def e14 : Ent := .pure 42 [.agg [.lst [.lst [.int .i64 2, .int .i64 3, .int .i64 5] 3 .shared, .lst [.int .i64 5, .int .i64 5] 2 .shared] 2 .shared], .int .i64 2] (.tuple [.lst [] 0 .shared, .int .i64 2])
theorem e14_ok : entOk Go.Proofs.Try.prog e14 := runC_ok meetL_ok (by kernel_rfl)
end Go.Proofs.Ytlcebaejlnpdeaa.Ab

/- MADE BY PROGRAM (closed.py): closed calls. -/
namespace Go.Proofs.Ytlcebaejlnpdeaa.Ab
open Go
def e15 : Ent := .pure 44 [.agg [.lst [.lst [.int .i64 2, .int .i64 3, .int .i64 5] 3 .shared, .lst [.int .i64 5, .int .i64 5] 2 .shared] 2 .shared]] (.tuple [.int .i64 2, .int .i64 0])
theorem e15_ok : entOk Go.Proofs.Try.prog e15 := runC_ok meetL_ok (by kernel_rfl)
def e16 : Ent := .pure 46 [.agg [.lst [.lst [.int .i64 2, .int .i64 3, .int .i64 5] 3 .shared, .lst [.int .i64 5, .int .i64 5] 2 .shared] 2 .shared], .int .i64 2] (.tuple [.lst [.lst [.int .i64 0, .int .i64 2, .int .i64 1] 3 .shared, .lst [.int .i64 0, .int .i64 1] 2 .shared] 2 .shared, .int .i64 0])
theorem e16_ok : entOk Go.Proofs.Try.prog e16 := runC_ok meetL_ok (by kernel_rfl)
def e17 : Ent := .pure 46 [.agg [.lst [.lst [.int .i64 2, .int .i64 3, .int .i64 5] 3 .shared, .lst [.int .i64 5, .int .i64 5] 2 .shared] 2 .shared], .int .i64 3] (.tuple [.lst [] 0 .shared, .int .i64 21])
theorem e17_ok : entOk Go.Proofs.Try.prog e17 := runC_ok meetL_ok (by kernel_rfl)
def e18 : Ent := .pure 46 [.agg [.lst [.lst [.int .i64 2, .int .i64 3, .int .i64 5] 3 .shared, .lst [.int .i64 5, .int .i64 5] 2 .shared] 2 .shared], .int .i64 (-1)] (.tuple [.lst [] 0 .shared, .int .i64 3])
theorem e18_ok : entOk Go.Proofs.Try.prog e18 := runC_ok meetL_ok (by kernel_rfl)
end Go.Proofs.Ytlcebaejlnpdeaa.Ab

/-
  Works: a closed call.
-/
namespace Go.Proofs.Ytlcebaejlnpdeaa.Ab
open Go
def worksL : List Ent := [e0, e1, e2, e3, e4, e6, e7, e8, e9, e10, e11, e12, e13, e14, e15, e16, e17, e18]
theorem worksL_ok : ∀ e ∈ worksL, entOk Go.Proofs.Try.prog e := by
  simp only [worksL, List.forall_mem_cons]
  exact ⟨e0_ok, e1_ok, e2_ok, e3_ok, e4_ok, e6_ok, e7_ok, e8_ok, e9_ok, e10_ok, e11_ok, e12_ok, e13_ok, e14_ok, e15_ok, e16_ok, e17_ok, e18_ok, by simp⟩
theorem works_ok : PO 20 [] (B true) := runC_ok worksL_ok (by kernel_rfl)
end Go.Proofs.Ytlcebaejlnpdeaa.Ab
