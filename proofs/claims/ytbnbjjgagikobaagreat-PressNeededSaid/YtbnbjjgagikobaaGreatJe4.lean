
import Derived.Test.YtbnbjjgagikobaaGreatJe3
set_option linter.unusedSimpArgs false
set_option linter.unusedVariables false
set_option linter.unusedSectionVars false
/-
  Code whose operations are looked up beforehand: weakest preconditions by reduction.
-/
namespace Go.Proofs.YtbnbjjgagikobaaGreat.Ab
open Go
noncomputable section
def CallS (P : Program) (mode lo : Nat) (tgt : Tgt) (args : List AV) (H : List AObj) (v : AV) (H' : List AObj) : Prop := ∃ C, CSound P C ∧ callTo C lo mode tgt args H = some (v, H')
def catK : List AV → List AV → (List AV → Prop) → Prop
  | [], l, K => K l
  | h :: t, l, K => catK t l fun r => K (h :: r)
theorem catK_eq : ∀ (a b : List AV) (K : List AV → Prop), catK a b K = K (a ++ b)
  | [], b, K => rfl
  | h :: t, b, K => by rw [catK, catK_eq t b]; rfl
def dimK (v : AV) (K : AV → Prop) : Prop := match v with
  | .lst c n .full => K (.lst c n .shared)
  | .agg cs => K (.agg (cs.map AV.dim0))
  | .tuple cs => K (.tuple (cs.map AV.dim0))
  | v => K v
theorem dimK_eq (v : AV) (K : AV → Prop) : dimK v K = K v.dim := by
  cases v with
  | lst c n k => cases k <;> rfl
  | _ => rfl
def dimsK : List AV → (List AV → Prop) → Prop
  | [], K => K []
  | h :: t, K => dimK h fun h' => dimsK t fun t' => K (h' :: t')
theorem dimsK_eq : ∀ (l : List AV) (K : List AV → Prop), dimsK l K = K (l.map AV.dim)
  | [], K => rfl
  | h :: t, K => by rw [dimsK, dimK_eq, dimsK_eq t]; rfl
def callK (P : Program) (lo : Nat) (draw : Bool) (mode : Nat) (acc : PAcc) (vs : List AV) (H : List AObj) (K : PAcc → AV → List AObj → Prop) : Prop := match vs with
  | f :: args => match f with
    | .func k first cap => catK args cap fun r => catK first r fun as => match mode with
      | 3 => as.all (pureD 8) = true ∧ dimsK as fun as' => ∃ v, PureOk P k as' v ∧ (match draw with
        | true => (∀ p ∈ acc, p.1 = k → p.2.1 = as' → p.2.2 = v) ∧ K ((k, as', v) :: acc) v.dim H
        | false => K acc v.dim H)
      | 6 => match draw with
        | true => (as.map (shz H)).all (pureD 8) = true ∧ ∃ as', (as.map (shz H)).map AV.dim = as' ∧ ∃ v, scal v = true ∧ PureOk P k as' v ∧ (∀ p ∈ acc, p.1 = k → p.2.1 = as' → p.2.2 = v) ∧ K ((k, as', v) :: acc) v.dim H
        | false => ∃ v H', CallS P 6 lo (.fn k) as H v H' ∧ K acc v H'
      | mode => match draw with
        | true => False
        | false => ∃ v H', CallS P mode lo (.fn k) as H v H' ∧ K acc v H'
    | .yield l => match draw with
      | true => False
      | false => ∃ v H', CallS P mode lo (.yield l) args H v H' ∧ K acc v H'
    | _ => False
  | [] => False
def rkA (P : Program) (lo : Nat) (draw : Bool) (k : RK) (acc : PAcc) (vs : List AV) (H : List AObj) (K : PAcc → AV → List AObj → Prop) : Prop := match k with
  | .call mode => callK P lo draw mode acc vs H K
  | k => rk P lo k vs H (K acc)
def ipK (ip : Option Nat) (T : List AV) (v : AV) (K : List AV → Prop) : Prop := match ip with
  | none => K T
  | some t => viewK v fun v => setK T t v K
def grdK (g : Option (Nat × Bool)) (T : List AV) (skip run : Prop) : Prop := match g with
  | none => run
  | some (t, want) => getK T t fun v => match v with
    | .bool b => (match want with
      | true => (match b with | true => run | false => skip)
      | false => (match b with | true => skip | false => run))
    | .tuple [] => skip
    | _ => False
def wpI (P : Program) (lo : Nat) (draw : Bool) (ri : RI) (acc : PAcc) (T : List AV) (H : List AObj) (K : PAcc → List AV → List AObj → Prop) : Prop :=
  grdK ri.guard T (putK T ri.dst (.tuple []) fun T' => K acc T' H) (rsK ri.srcs T fun vs T1 => rkA P lo draw ri.k acc vs H fun acc' v H' => hdK v fun v => ipK ri.ip T1 v fun T2 => putK T2 ri.dst v fun T3 => K acc' T3 H')
def regK (P : Program) (lo : Nat) (draw : Bool) : List RI → PAcc → List AV → List AObj → (List AV → List AObj → Prop) → Prop
  | [], _, T, H, K => K T H
  | ri :: r, acc, T, H, K => wpI P lo draw ri acc T H fun acc' T' H' => match draw with
    | true => regK P lo draw r acc' T' H' K
    | false => regK P lo draw r [] T' H' K
def nxtK (it : Nat) (dst : Option Nat) (T : List AV) (H : List AObj) (K : List AV → List AObj → Prop) : Prop := getK T it fun v => match v with
  | .ptr r 0 => ∃ m since seen clock es, H[r]? = some (.iter m since seen clock) ∧ H[m]? = some (.map es clock) ∧ since ≤ clock ∧ (∀ e ∈ es, e.1 < since) ∧
      ((∀ e ∈ es, e.1 ∈ seen) → putK T dst (.tuple [.bool false]) fun T' => K T' H) ∧
      ∀ e ∈ es, e.1 ∉ seen → putK T dst (.tuple [.bool true, e.2.1, e.2.2]) fun T' => K T' (H.set r (.iter m since (seen ++ [e.1]) clock))
  | _ => False
/-- A loop, by what holds at its head, and a number that goes down. -/
inductive LoopI (f : List AV → List AObj → (Ex → List AV → List AObj → Prop) → Prop) (T : List AV) (H : List AObj) (Q : Ex → List AV → List AObj → Prop) : Prop where
  | intro (I : Nat → List AV → List AObj → Prop) (m : Nat) (h0 : I m T H) (step : ∀ m T H, I m T H → f T H fun e T' H' => match e with
    | .normal => ∃ m', m' < m ∧ I m' T' H'
    | e => Q e T' H')
def keepO (k : Option (List Bool)) (T : List AV) (K : List AV → Prop) : Prop := match k with
  | some k => keepK k T K
  | none => K T
theorem keepO_eq (k : Option (List Bool)) (T : List AV) (K : List AV → Prop) : keepO k T K = K (match k with | some k => zipKeep k T | none => T) := by
  cases k with
  | none => rfl
  | some k => exact keepK_eq k T K
def nfK : List AV → (List AV → Prop) → Prop
  | [], K => K []
  | h :: t, K => nfK t fun t' => K (h :: t')
theorem nfK_eq : ∀ (T : List AV) (K : List AV → Prop), nfK T K = K T
  | [], K => rfl
  | h :: t, K => by rw [nfK, nfK_eq t]
def rngK (P : Program) (A : FAnn) (fn : FuncId) (lo : Nat) (rl : Option Nat) (f : AV) (ps : List Nat) (as bd : Code) (T : List AV) (H : List AObj) (Q : Ex → List AV → List AObj → Prop) : Prop := match f with
  | .func k first cap => inLoop H rl = true ∧ ∃ r H' st pend fn' T' ps' as' bd' an', Sem P (.fn k) (first ++ [.yield H.length] ++ cap) (H ++ [.loop .ready none fn (T.map AV.view) ps as bd A]) lo r H' ∧
      H'[H.length]? = some (.loop st pend fn' T' ps' as' bd' an') ∧ st ≠ .busy ∧ (match pend with
        | none => Q .normal (T.map AV.settle) (H'.set H.length .dead)
        | some .ret => Q .ret (T.map AV.settle) (H'.set H.length .dead)
        | some (.exit id) => Q (.exit id) (T.map AV.settle) (H'.set H.length .dead)
        | _ => False)
  | _ => False
def wpR (P : Program) (A : FAnn) (fn : FuncId) (lo : Nat) (rl : Option Nat) : RC → List AV → List AObj → (Ex → List AV → List AObj → Prop) → Prop
  | .skip, T, H, Q => Q .normal T H
  | .reg draw l, T, H, Q => regK P lo draw l [] T H (Q .normal)
  | .seq a b, T, H, Q => wpR P A fn lo rl a T H fun e T' H' => match e with
    | .normal => wpR P A fn lo rl b T' H' Q
    | e => Q e T' H'
  | .cond c a b, T, H, Q => match c with
    | .sl t => getK T t fun v => (match v with
      | .bool x => (match x with | true => wpR P A fn lo rl a T H Q | false => wpR P A fn lo rl b T H Q)
      | _ => False)
    | .cv v => (match v with
      | .bool x => (match x with | true => wpR P A fn lo rl a T H Q | false => wpR P A fn lo rl b T H Q)
      | _ => False)
    | _ => False
  | .block id c, T, H, Q => wpR P A fn lo rl c T H fun e T' H' => match e with
    | .exit id' => (match Nat.beq id' id with | true => Q .normal T' H' | false => Q (.exit id') T' H')
    | e => Q e T' H'
  | .loop keep c, T, H, Q => keepO keep T fun T => LoopI (fun T H Q => nfK T fun T => wpR P A fn lo rl c T H fun e T' H' => match e with
      | .normal => keepO keep T' fun T' => Q .normal T' H'
      | e => Q e T' H') T H Q
  | .exit id, T, H, Q => Q (.exit id) T H
  | .ret, T, H, Q => Q .ret T H
  | .rng f ps as bd, T, H, Q => match f with
    | .sl t => getK T t fun v => rngK P A fn lo rl v ps as bd T H Q
    | .cv v => rngK P A fn lo rl v ps as bd T H Q
    | _ => False
  | .nxt it dst l, T, H, Q => nxtK it dst T H fun T' H' => regK P lo false l [] T' H' (Q .normal)
/-! ### Looking up -/
def ipOf (o : Oper) (mode : Nat) : Option Nat := match mode with
  | 0 => none
  | _ => match o.op with
    | .move (.tmp t) | .assign (.tmp t) => some t
    | _ => none
def resI (P : Program) (ops : Array Oper) (o : Oper) (an : OpAnn) : Option RI := match o.guard with
  | none => some ⟨o.dst, resS (isLinear o) an.takes (opsOf o), none, ipOf o an.mode, resK P o an.mode⟩
  | some (j, want) => match (ops[j]?).bind (·.dst) with
    | some d => some ⟨o.dst, resS (isLinear o) an.takes (opsOf o), some (d, want), ipOf o an.mode, resK P o an.mode⟩
    | none => none
def linkOps (P : Program) (ops : Array Oper) : List Oper → List OpAnn → Option (List RI)
  | [], _ => some []
  | o :: r, as => match resI P ops o (as.headD {}), linkOps P ops r as.tail with
    | some ri, some l => some (ri :: l)
    | _, _ => none
def linkReg (P : Program) (ops : Array Oper) (draw : Bool) (as : List OpAnn) : Option RC := match draw, ops.toList with
  | false, o :: rest => (match o.op, o.guard with
    | .next (.tmp it) false, none => (linkOps P ops rest as.tail).map (.nxt it o.dst)
    | _, _ => (linkOps P ops (o :: rest) as).map (.reg false))
  | d, l => (linkOps P ops l as).map (.reg d)
def resC (x : Operand) : RS := match x with
  | .tmp t => .sl t
  | x => .cv (ev [] x)
def linkC (P : Program) (A : FAnn) : Code → Nat → Option RC
  | .skip, _ => some .skip
  | .region id ops draw, _ => match A.keepR with
    | [] => linkReg P ops draw (A.ops.getD id [])
    | _ => none
  | .seq a b, bid => match linkC P A a bid, linkC P A b bid with
    | some x, some y => some (.seq x y)
    | _, _ => none
  | .cond c a b, bid => match linkC P A a bid, linkC P A b bid with
    | some x, some y => some (.cond (resC c) x y)
    | _, _ => none
  | .block id c, _ => (linkC P A c id).map (.block id)
  | .loop c, bid => (linkC P A c bid).map (.loop (findKeep bid A.keepL))
  | .exit id, _ => some (.exit id)
  | .ret, _ => some .ret
  | .scope c, bid => linkC P A c bid
  | .label _, _ => some .skip
  | .rangeFunc f ps as bd, _ => some (.rng (resC f) ps.toList as bd)
  | _, _ => none
end
section
variable {P : Program}
theorem ipK_eq (o : Oper) (mode : Nat) (T : List AV) (v : AV) (K : List AV → Prop) : ipK (ipOf o mode) T v K = K (inPlace o mode T v) := by
  unfold ipOf inPlace
  cases mode with
  | zero => rfl
  | succ m =>
    simp only
    cases o.op <;> try rfl
    case move x => cases x <;> first | rfl | (simp only [ipK, viewK_eq, setK_eq])
    case assign x => cases x <;> first | rfl | (simp only [ipK, viewK_eq, setK_eq])
/-- What an operation comes to, looked up. -/
theorem wpI_eq {lo : Nat} {draw : Bool} {ops : Array Oper} {o : Oper} {an : OpAnn} {ri : RI} (hr : resI P ops o an = some ri) {acc : PAcc} {T : List AV} {H : List AObj} {K : PAcc → List AV → List AObj → Prop}
    (h : wpI P lo draw ri acc T H K) :
    (wantedA ops o T = some false ∧ K acc (put T o.dst (.tuple [])) H) ∨
    (wantedA ops o T = some true ∧ rkA P lo draw (resK P o an.mode) acc (linVals (isLinear o) (rd T an.takes (opsOf o)).1) H fun acc' v H' => K acc' (put (inPlace o an.mode (rd T an.takes (opsOf o)).2 v) o.dst v) H') := by
  unfold resI at hr
  split at hr
  · rename_i hg
    cases hr
    simp only [wpI, grdK, rsK_eq, hdK_eq, ipK_eq, putK_eq] at h
    exact .inr ⟨by simp [wantedA, hg], h⟩
  · rename_i j want hg
    split at hr
    · rename_i d hd
      cases hr
      simp only [wpI, grdK, rsK_eq, hdK_eq, ipK_eq, putK_eq, getK_eq] at h
      have hw : ∀ b, getT T d = .bool b → wantedA ops o T = some (b == want) := fun b hb => by simp [wantedA, hg, hd, hb]
      split at h
      · rename_i b hb
        have hw := hw b hb
        cases want <;> cases b <;> simp only at h
        · exact .inr ⟨hw, h⟩
        · exact .inl ⟨hw, h⟩
        · exact .inl ⟨hw, h⟩
        · exact .inr ⟨hw, h⟩
      · rename_i hb
        exact .inl ⟨by simp [wantedA, hg, hd, hb], h⟩
      · exact h.elim
    · cases hr
theorem stepA_true {C : CallFn} {lo : Nat} {ops : Array Oper} {o : Oper} {an : OpAnn} {T : List AV} {H : List AObj} {v : AV} {H' : List AObj} (hw : wantedA ops o T = some true)
    (h : opAll P C lo o an.mode (linVals (isLinear o) (rd T an.takes (opsOf o)).1) H = some (v, H')) : stepA P C lo ops o an ⟨T, H⟩ = some ⟨put (inPlace o an.mode (rd T an.takes (opsOf o)).2 v) o.dst v, H'⟩ := by
  simp only [stepA, hw, Ab.execOp]
  unfold linVals at h
  cases hl : isLinear o <;> rw [hl] at h <;> simp only at h ⊢ <;> rw [h] <;> rfl
theorem stepA_false {C : CallFn} {lo : Nat} {ops : Array Oper} {o : Oper} {an : OpAnn} {T : List AV} {H : List AObj} (hw : wantedA ops o T = some false) : stepA P C lo ops o an ⟨T, H⟩ = some ⟨put T o.dst (.tuple []), H⟩ := by
  simp only [stepA, hw]
theorem resK_call {o : Oper} {mode mode' : Nat} (h : resK P o mode = .call mode') : mode' = mode ∧ ∃ c f, o.op = .call c ∧ c.callee = .value f := by
  cases hop : o.op
  case call c =>
    simp only [resK, hop] at h
    cases hc : c.callee with
    | value f => simp only [hc] at h; cases h; exact ⟨rfl, c, f, rfl, hc⟩
    | invoke x n => simp only [hc] at h; cases h
    | builtin b =>
      simp only [hc] at h
      repeat' (first | contradiction | split at h)
  all_goals simp only [resK, hop] at h
  all_goals (try unfold resMv at h)
  all_goals (repeat' (first | contradiction | split at h))
theorem rkA_cases {lo : Nat} {draw : Bool} {k : RK} {acc : PAcc} {vs : List AV} {H : List AObj} {K : PAcc → AV → List AObj → Prop} (h : rkA P lo draw k acc vs H K) :
    (∃ mode, k = .call mode ∧ callK P lo draw mode acc vs H K) ∨ rk P lo k vs H (K acc) := by
  unfold rkA at h
  split at h
  · exact .inl ⟨_, rfl, h⟩
  · exact .inr h
theorem opCall_fn {C : CallFn} {lo mode : Nat} {k : FuncId} {first cap args : List AV} {H : List AObj} : opCall C lo mode H (.func k first cap :: args) = callTo C lo mode (.fn k) (first ++ args ++ cap) H := rfl
theorem pure_call {C : CallFn} {acc : PAcc} (hag : Agr C acc) {lo : Nat} {k : FuncId} {as : List AV} {v : AV} (hp : as.all (pureD 8) = true) (hm : (k, as.map AV.dim, v) ∈ acc) (H : List AObj) :
    callTo C lo 3 (.fn k) as H = some (v.dim, H) := by
  obtain ⟨r, H2, h1, h2⟩ := hag _ hm
  simp only [callTo, hp, h1, Option.bind_some, h2, Option.map_some]
theorem pure_call6 {C : CallFn} {acc : PAcc} (hag : Agr C acc) {lo : Nat} {k : FuncId} {as : List AV} {v : AV} (H : List AObj) (hp : (as.map (shz H)).all (pureD 8) = true) (hs : scal v = true) (hm : (k, (as.map (shz H)).map AV.dim, v) ∈ acc) :
    callTo C lo 6 (.fn k) as H = some (v.dim, H) := by
  obtain ⟨r, H2, h1, h2⟩ := hag _ hm
  simp only [callTo, hp, h1, Option.bind_some, h2, hs]
theorem wpI_D {lo : Nat} {ops : Array Oper} {o : Oper} {an : OpAnn} {ri : RI} (hr : resI P ops o an = some ri) {acc : PAcc} (hacc : PAccOk P acc) {T : List AV} {H : List AObj} {K : PAcc → List AV → List AObj → Prop}
    (h : wpI P lo true ri acc T H K) : ∃ acc' T' H', PAccOk P acc' ∧ (∀ p ∈ acc, p ∈ acc') ∧ (∀ C, Agr C acc' → stepA P C lo ops o an ⟨T, H⟩ = some ⟨T', H'⟩) ∧ K acc' T' H' := by
  rcases wpI_eq hr h with ⟨hw, hk⟩ | ⟨hw, hk⟩
  · exact ⟨acc, _, _, hacc, fun _ h => h, fun C _ => stepA_false hw, hk⟩
  · rcases rkA_cases hk with ⟨mode, hm, hk⟩ | hk
    · obtain ⟨rfl, c, f, hop, hc⟩ := resK_call hm
      generalize hvs : linVals (isLinear o) (rd T an.takes (opsOf o)).1 = vs at hk
      have ho : ∀ C, opAll P C lo o an.mode vs H = opCall C lo an.mode H vs := fun C => by simp only [opAll, hop, hc]
      unfold callK at hk
      split at hk
      · split at hk
        · rename_i args _ k first cap
          rw [catK_eq, catK_eq] at hk
          split at hk
          · rename_i hmode
            obtain ⟨hp, hk⟩ := hk
            rw [dimsK_eq] at hk
            obtain ⟨v, hpo, hcons, hk⟩ := hk
            refine ⟨_, _, _, ⟨fun p hp => ?_, fun p hp q hq h1 h2 => ?_⟩, fun p hp => List.mem_cons_of_mem _ hp, fun C hag => stepA_true hw ?_, hk⟩
            · rcases List.mem_cons.1 hp with rfl | hp
              · exact hpo
              · exact hacc.1 p hp
            · rcases List.mem_cons.1 hp with rfl | hp <;> rcases List.mem_cons.1 hq with rfl | hq
              · rfl
              · exact (hcons q hq h1.symm h2.symm).symm
              · exact hcons p hp h1 h2
              · exact hacc.2 p hp q hq h1 h2
            · rw [hvs, ho C, hmode, opCall_fn, List.append_assoc]
              exact pure_call hag hp (List.mem_cons_self) H
          · rename_i hmode
            obtain ⟨hp, as', rfl, v, hs, hpo, hcons, hk⟩ := hk
            refine ⟨_, _, _, ⟨fun p hp => ?_, fun p hp q hq h1 h2 => ?_⟩, fun p hp => List.mem_cons_of_mem _ hp, fun C hag => stepA_true hw ?_, hk⟩
            · rcases List.mem_cons.1 hp with rfl | hp
              · exact hpo
              · exact hacc.1 p hp
            · rcases List.mem_cons.1 hp with rfl | hp <;> rcases List.mem_cons.1 hq with rfl | hq
              · rfl
              · exact (hcons q hq h1.symm h2.symm).symm
              · exact hcons p hp h1 h2
              · exact hacc.2 p hp q hq h1 h2
            · rw [hvs, ho C, hmode, opCall_fn, List.append_assoc]
              exact pure_call6 hag H hp hs (List.mem_cons_self)
          · exact hk.elim
        · exact hk.elim
        · exact hk.elim
      · exact hk.elim
    · obtain ⟨v, H', h1, h2⟩ := resK_ok hk
      exact ⟨acc, _, _, hacc, fun _ h => h, fun C _ => stepA_true hw (h1 C), h2⟩
theorem wpI_N {lo : Nat} {ops : Array Oper} {o : Oper} {an : OpAnn} {ri : RI} (hr : resI P ops o an = some ri) {acc : PAcc} {T : List AV} {H : List AObj} {K : PAcc → List AV → List AObj → Prop}
    (h : wpI P lo false ri acc T H K) : StepN P lo ops o an ⟨T, H⟩ fun s' => K acc s'.T s'.H := by
  rcases wpI_eq hr h with ⟨hw, hk⟩ | ⟨hw, hk⟩
  · exact .inl ⟨_, _, csound_none, stepA_false hw, hk⟩
  · rcases rkA_cases hk with ⟨mode, hm, hk⟩ | hk
    · obtain ⟨rfl, c, f, hop, hc⟩ := resK_call hm
      generalize hvs : linVals (isLinear o) (rd T an.takes (opsOf o)).1 = vs at hk
      have ho : ∀ C, opAll P C lo o an.mode vs H = opCall C lo an.mode H vs := fun C => by simp only [opAll, hop, hc]
      unfold callK at hk
      split at hk
      · split at hk
        · rename_i args _ k first cap
          rw [catK_eq, catK_eq] at hk
          split at hk
          · rename_i hmode
            obtain ⟨hp, hk⟩ := hk
            rw [dimsK_eq] at hk
            obtain ⟨v, hpo, hk⟩ := hk
            obtain ⟨C, hC, hag⟩ := acc_table (acc := [(k, (first ++ (args ++ cap)).map AV.dim, v)]) (P := P) ⟨fun p hp => by simp only [List.mem_singleton] at hp; subst hp; exact hpo, fun p hp q hq _ _ => by
              simp only [List.mem_singleton] at hp hq; subst hp; subst hq; rfl⟩
            refine .inl ⟨C, _, hC, stepA_true hw (v := v.dim) (H' := H) ?_, hk⟩
            rw [hvs, ho C, hmode, opCall_fn, List.append_assoc]
            exact pure_call hag hp (List.mem_cons_self) H
          · rename_i hmode
            obtain ⟨v, H', ⟨C, hC, hcall⟩, hk⟩ := hk
            refine .inl ⟨C, _, hC, stepA_true hw (v := v) (H' := H') ?_, hk⟩
            rw [hvs, ho C, hmode, opCall_fn, List.append_assoc]; exact hcall
          · obtain ⟨v, H', ⟨C, hC, hcall⟩, hk⟩ := hk
            refine .inl ⟨C, _, hC, stepA_true hw (v := v) (H' := H') ?_, hk⟩
            rw [hvs, ho C, opCall_fn, List.append_assoc]; exact hcall
        · obtain ⟨v, H', ⟨C, hC, hcall⟩, hk⟩ := hk
          refine .inl ⟨C, _, hC, stepA_true hw (v := v) (H' := H') ?_, hk⟩
          rw [hvs, ho C]; exact hcall
        · exact hk.elim
      · exact hk.elim
    · obtain ⟨v, H', h1, h2⟩ := resK_ok hk
      exact .inl ⟨_, _, csound_none, stepA_true hw (h1 _), h2⟩
end
end Go.Proofs.YtbnbjjgagikobaaGreat.Ab

/-
  What is looked up says what the code does.
-/
namespace Go.Proofs.YtbnbjjgagikobaaGreat.Ab
open Go
section
variable {P : Program}
theorem StepN.mono {lo : Nat} {ops : Array Oper} {o : Oper} {an : OpAnn} {s : St} {K K' : St → Prop} (h : StepN P lo ops o an s K) (hk : ∀ s, K s → K' s) : StepN P lo ops o an s K' := by
  rcases h with ⟨C, s', h1, h2, h3⟩ | ⟨it, r, m, since, seen, es, clock, a1, a2, a3, a4, a5, a6, a7, a8, a9⟩
  · exact .inl ⟨C, s', h1, h2, hk _ h3⟩
  · exact .inr ⟨it, r, m, since, seen, es, clock, a1, a2, a3, a4, a5, a6, a7, fun h => hk _ (a8 h), fun e h1 h2 => hk _ (a9 e h1 h2)⟩
theorem runN_mono {lo : Nat} {ops : Array Oper} {K K' : St → Prop} (hk : ∀ s, K s → K' s) : ∀ {l : List Oper} {as : List OpAnn} {s : St}, runN P lo ops l as s K → runN P lo ops l as s K'
  | [], _, s, h => hk s h
  | _ :: _, _, _, h => StepN.mono h fun _ h' => runN_mono hk h'
theorem loopW_mono {f g : St → (Ex → St → Prop) → Prop} (hfg : ∀ s Q Q', (∀ e s, Q e s → Q' e s) → f s Q → g s Q') {Q Q' : Ex → St → Prop} (hq : ∀ e s, Q e s → Q' e s) : ∀ {n : Nat} {s : St}, LoopW f n s Q → LoopW g n s Q'
  | 0, s, h => h
  | n + 1, s, h => hfg s _ _ (fun e s' h' => by
    cases e with
    | normal => exact loopW_mono hfg hq h'
    | ret => exact hq _ _ h'
    | exit id => exact hq _ _ h') h
theorem wpA_mono {A : FAnn} {fn : FuncId} {lo : Nat} {rl : Option Nat} : ∀ {c : Code} {bid : Nat} {s : St} {Q Q' : Ex → St → Prop}, (∀ e s, Q e s → Q' e s) → wpA P A fn lo rl c bid s Q → wpA P A fn lo rl c bid s Q' := by
  intro c
  induction c with
  | skip => intro bid s Q Q' hq h; exact hq _ _ h
  | label l => intro bid s Q Q' hq h; exact hq _ _ h
  | ret => intro bid s Q Q' hq h; exact hq _ _ h
  | exit id => intro bid s Q Q' hq h; exact hq _ _ h
  | goto l => intro bid s Q Q' hq h; exact h
  | refuse y => intro bid s Q Q' hq h; exact h
  | region id ops draw =>
    intro bid s Q Q' hq h
    cases draw with
    | true => obtain ⟨acc, s', h1, h2, h3⟩ := h; exact ⟨acc, s', h1, h2, hq _ _ h3⟩
    | false => exact runN_mono (fun s h => hq _ _ h) h
  | seq a b iha ihb =>
    intro bid s Q Q' hq h
    refine iha (fun e s' h' => ?_) h
    cases e with
    | normal => exact ihb hq h'
    | ret => exact hq _ _ h'
    | exit id => exact hq _ _ h'
  | cond c a b iha ihb =>
    intro bid s Q Q' hq h
    obtain ⟨t, ht, h⟩ := h
    refine ⟨t, ht, ?_⟩
    cases t with
    | true => exact iha hq h
    | false => exact ihb hq h
  | block id c ih =>
    intro bid s Q Q' hq h
    refine ih (fun e s' h' => ?_) h
    cases e with
    | normal => exact hq _ _ h'
    | ret => exact hq _ _ h'
    | exit id' =>
      simp only at h' ⊢
      by_cases hid : id' = id
      · simp only [hid, if_true] at h' ⊢; exact hq _ _ h'
      · simp only [hid, if_false] at h' ⊢; exact hq _ _ h'
  | loop c ih =>
    intro bid s Q Q' hq h
    obtain ⟨n, h⟩ := h
    refine ⟨n, ?_⟩
    refine loopW_mono ?_ hq h
    intro s Q Q' hq h
    exact ih hq h
  | scope c ih => intro bid s Q Q' hq h; exact ih hq h
  | rangeFunc f ps as bd _ _ =>
    intro bid s Q Q' hq h
    obtain ⟨C, e, s', h1, h2, h3⟩ := h
    exact ⟨C, e, s', h1, h2, hq _ _ h3⟩
theorem regK_N {lo : Nat} {ops : Array Oper} : ∀ {l : List Oper} {as : List OpAnn} {rl : List RI} {acc : PAcc} {T : List AV} {H : List AObj} {K : List AV → List AObj → Prop}, linkOps P ops l as = some rl → regK P lo false rl acc T H K →
    runN P lo ops l as ⟨T, H⟩ fun s' => K s'.T s'.H
  | [], as, rl, acc, T, H, K, hl, h => by simp only [linkOps, Option.some.injEq] at hl; subst hl; exact h
  | o :: r, as, rl, acc, T, H, K, hl, h => by
    simp only [linkOps] at hl
    split at hl
    · rename_i ri l' h1 h2
      simp only [Option.some.injEq] at hl; subst hl
      exact StepN.mono (wpI_N h1 h) fun s' h' => regK_N h2 h'
    · cases hl
theorem execOps_cons {C : CallFn} {lo : Nat} {ops : Array Oper} {o : Oper} {r : List Oper} {as : List OpAnn} {s : St} : execOps P C lo ops (o :: r) as s = (stepA P C lo ops o (as.headD {}) s).bind (execOps P C lo ops r as.tail) := by
  rw [execOps]; unfold stepA
  cases hw : wantedA ops o s.T with
  | none => rfl
  | some b => cases b <;> rfl
theorem regK_D {lo : Nat} {ops : Array Oper} : ∀ {l : List Oper} {as : List OpAnn} {rl : List RI} {acc : PAcc} {T : List AV} {H : List AObj} {K : List AV → List AObj → Prop}, linkOps P ops l as = some rl → PAccOk P acc → regK P lo true rl acc T H K →
    ∃ acc' T' H', PAccOk P acc' ∧ (∀ p ∈ acc, p ∈ acc') ∧ (∀ C, Agr C acc' → execOps P C lo ops l as ⟨T, H⟩ = some ⟨T', H'⟩) ∧ K T' H'
  | [], as, rl, acc, T, H, K, hl, ha, h => by simp only [linkOps, Option.some.injEq] at hl; subst hl; exact ⟨acc, T, H, ha, fun _ h => h, fun _ _ => rfl, h⟩
  | o :: r, as, rl, acc, T, H, K, hl, ha, h => by
    simp only [linkOps] at hl
    split at hl
    · rename_i ri l' h1 h2
      simp only [Option.some.injEq] at hl; subst hl
      obtain ⟨acc1, T1, H1, a1, a2, a3, a4⟩ := wpI_D h1 ha h
      obtain ⟨acc2, T2, H2, b1, b2, b3, b4⟩ := regK_D h2 a1 a4
      refine ⟨acc2, T2, H2, b1, fun p hp => b2 p (a2 p hp), fun C hag => ?_, b4⟩
      rw [execOps_cons, a3 C (fun p hp => hag p (b2 p hp)), Option.bind_some]
      exact b3 C hag
    · cases hl
theorem linkReg_ok {A : FAnn} {fn : FuncId} {lo : Nat} {rl : Option Nat} {id : Nat} {ops : Array Oper} {draw : Bool} {bid : Nat} {rc : RC} (hA : A.keepR = []) (hl : linkReg P ops draw (A.ops.getD id []) = some rc)
    {T : List AV} {H : List AObj} {Q : Ex → List AV → List AObj → Prop} (h : wpR P A fn lo rl rc T H Q) : wpA P A fn lo rl (.region id ops draw) bid ⟨T, H⟩ fun e s => Q e s.T s.H := by
  have hk : keepSt A.keepR id ⟨T, H⟩ = ⟨T, H⟩ := by rw [hA]; rfl
  have gen : ∀ {d : Bool} {l : List Oper}, ops.toList = l → draw = d → (linkOps P ops l (A.ops.getD id [])).map (.reg d) = some rc → wpA P A fn lo rl (.region id ops draw) bid ⟨T, H⟩ fun e s => Q e s.T s.H := fun {d l} hops hd hl2 => by
    clear hl
    simp only [Option.map_eq_some_iff] at hl2
    obtain ⟨rl', hl2, rfl⟩ := hl2
    subst hd
    cases draw with
    | true =>
      obtain ⟨acc', T', H', a1, _, a3, a4⟩ := regK_D hl2 ⟨fun p hp => by simp at hp, fun p hp => by simp at hp⟩ h
      exact ⟨acc', ⟨T', H'⟩, a1, fun C _ hag => by rw [hk, hops]; exact a3 C hag, a4⟩
    | false =>
      show runN P lo ops ops.toList _ (keepSt A.keepR id ⟨T, H⟩) _
      rw [hk, hops]; exact regK_N hl2 h
  unfold linkReg at hl
  split at hl
  · rename_i o rest hops
    split at hl
    · rename_i it hop hg
      simp only [Option.map_eq_some_iff] at hl
      obtain ⟨rl', hl, rfl⟩ := hl
      show runN P lo ops ops.toList _ (keepSt A.keepR id ⟨T, H⟩) _
      rw [hk, hops]
      refine .inr ?_
      simp only [wpR, nxtK, getK_eq] at h
      split at h
      · rename_i r hr
        obtain ⟨m, since, seen, clock, es, a1, a2, a3, a4, a5, a6⟩ := h
        simp only [putK_eq] at a5 a6
        exact ⟨.tmp it, r, m, since, seen, es, clock, hop, hg, hr, a1, a2, a3, a4, fun h => regK_N hl (a5 h), fun e h1 h2 => regK_N hl (a6 e h1 h2)⟩
      · exact h.elim
    · exact gen hops rfl hl
  · exact gen rfl rfl hl
theorem LoopW.more {f : St → (Ex → St → Prop) → Prop} {Q : Ex → St → Prop} (hf : ∀ s Q Q', (∀ e s, Q e s → Q' e s) → f s Q → f s Q') : ∀ {n : Nat} {s : St}, LoopW f n s Q → LoopW f (n + 1) s Q
  | 0, s, h => h.elim
  | n + 1, s, h => hf _ _ _ (fun e s' h' => by
      cases e with
      | normal => exact LoopW.more hf h'
      | ret => exact h'
      | exit id => exact h') h
theorem loopW_inv {f : St → (Ex → St → Prop) → Prop} {Q : Ex → St → Prop} (I : Nat → St → Prop) (step : ∀ m s, I m s → f s fun e s' => match e with | .normal => ∃ m', m' < m ∧ I m' s' | e => Q e s')
    (hf : ∀ s Q Q', (∀ e s, Q e s → Q' e s) → f s Q → f s Q') : ∀ (m : Nat) (s : St), I m s → LoopW f (m + 1) s Q := by
  intro m
  induction m using Nat.strongRecOn with
  | _ m ih =>
    intro s h
    refine hf _ _ _ (fun e s' h' => ?_) (step m s h)
    cases e with
    | normal =>
      obtain ⟨m', hm, h'⟩ := h'
      have : ∀ k, LoopW f (m' + 1 + k) s' Q := fun k => by
        induction k with
        | zero => exact ih m' hm s' h'
        | succ k ihk => exact LoopW.more hf ihk
      have e : m = m' + 1 + (m - (m' + 1)) := by omega
      rw [e]; exact this _
    | ret => exact h'
    | exit id => exact h'
theorem link_ok {A : FAnn} {fn : FuncId} {lo : Nat} {rl : Option Nat} : ∀ {c : Code} {bid : Nat} {rc : RC} {T : List AV} {H : List AObj} {Q : Ex → List AV → List AObj → Prop}, linkC P A c bid = some rc → wpR P A fn lo rl rc T H Q →
    wpA P A fn lo rl c bid ⟨T, H⟩ fun e s => Q e s.T s.H := by
  intro c
  induction c with
  | skip => intro bid rc T H Q hl h; simp only [linkC, Option.some.injEq] at hl; subst hl; exact h
  | label l => intro bid rc T H Q hl h; simp only [linkC, Option.some.injEq] at hl; subst hl; exact h
  | ret => intro bid rc T H Q hl h; simp only [linkC, Option.some.injEq] at hl; subst hl; exact h
  | exit id => intro bid rc T H Q hl h; simp only [linkC, Option.some.injEq] at hl; subst hl; exact h
  | goto l => intro bid rc T H Q hl h; simp [linkC] at hl
  | refuse y => intro bid rc T H Q hl h; simp [linkC] at hl
  | region id ops draw =>
    intro bid rc T H Q hl h
    simp only [linkC] at hl
    split at hl
    · rename_i hA
      exact linkReg_ok hA hl h
    · cases hl
  | seq a b iha ihb =>
    intro bid rc T H Q hl h
    simp only [linkC] at hl
    split at hl
    · rename_i x y hx hy
      simp only [Option.some.injEq] at hl; subst hl
      show wpA P A fn lo rl a bid ⟨T, H⟩ _
      refine wpA_mono (fun e s h' => ?_) (iha hx h)
      cases e with
      | normal => exact ihb hy h'
      | ret => exact h'
      | exit id => exact h'
    · cases hl
  | cond c a b iha ihb =>
    intro bid rc T H Q hl h
    simp only [linkC] at hl
    split at hl
    · rename_i x y hx hy
      simp only [Option.some.injEq] at hl; subst hl
      have key : ∀ v, ev T c = v → (match v with
          | .bool t => (match t with | true => wpR P A fn lo rl x T H Q | false => wpR P A fn lo rl y T H Q)
          | _ => False) → wpA P A fn lo rl (.cond c a b) bid ⟨T, H⟩ fun e s => Q e s.T s.H := fun v hv h => by
        cases v with
        | bool t =>
          refine ⟨t, hv, ?_⟩
          cases t with
          | true => exact iha hx h
          | false => exact ihb hy h
        | _ => exact h.elim
      cases c with
      | tmp t => simp only [resC, wpR, getK_eq] at h; exact key _ rfl h
      | const v => exact key (ev [] (.const v)) rfl h
      | func f => exact key (ev [] (.func f)) rfl h
      | global g => exact key (ev [] (.global g)) rfl h
    · cases hl
  | block id c ih =>
    intro bid rc T H Q hl h
    simp only [linkC, Option.map_eq_some_iff] at hl
    obtain ⟨x, hx, rfl⟩ := hl
    show wpA P A fn lo rl c id ⟨T, H⟩ _
    refine wpA_mono (fun e s h' => ?_) (ih hx h)
    cases e with
    | normal => exact h'
    | ret => exact h'
    | exit id' =>
      simp only at h' ⊢
      by_cases hid : id' = id
      · subst hid
        simp only [if_true]
        rw [Nat.beq_refl] at h'; exact h'
      · simp only [hid, if_false]
        have : Nat.beq id' id = false := by
          cases hb : Nat.beq id' id with
          | false => rfl
          | true => exact absurd (Nat.eq_of_beq_eq_true hb) hid
        rw [this] at h'; exact h'
  | loop c ih =>
    intro bid rc T H Q hl h
    simp only [linkC, Option.map_eq_some_iff] at hl
    obtain ⟨x, hx, rfl⟩ := hl
    simp only [wpR, keepO_eq, nfK_eq] at h
    obtain ⟨I, m, hm, hstep⟩ := h
    have hks : ∀ s : St, keepSt A.keepL bid s = ⟨match findKeep bid A.keepL with | some k => zipKeep k s.T | none => s.T, s.H⟩ := fun s => by
      unfold keepSt; cases findKeep bid A.keepL <;> rfl
    refine ⟨m + 1, loopW_inv (f := fun s' => wpA P A fn lo rl c bid (keepSt A.keepL bid s')) (fun m s => I m (keepSt A.keepL bid s).T s.H) ?_ (fun s Q Q' hq h => wpA_mono hq h) m ⟨T, H⟩ (by rw [hks]; exact hm)⟩
    intro m s hI
    rw [hks] at hI
    have h := ih hx (hstep m _ s.H hI)
    show wpA P A fn lo rl c bid (keepSt A.keepL bid s) _
    rw [hks]
    refine wpA_mono (fun e s' h' => ?_) h
    cases e with
    | normal => simp only at h' ⊢; rw [hks]; exact h'
    | ret => exact h'
    | exit id => exact h'
  | scope c ih => intro bid rc T H Q hl h; exact ih hl h
  | rangeFunc f ps as bd _ _ =>
    intro bid rc T H Q hl h
    simp only [linkC, Option.some.injEq] at hl; subst hl
    have key : ∀ v, ev T f = v → rngK P A fn lo rl v ps.toList as bd T H Q → wpA P A fn lo rl (.rangeFunc f ps as bd) bid ⟨T, H⟩ fun e s => Q e s.T s.H := fun v hv h => by
      unfold rngK at h
      split at h
      · rename_i k first cap
        obtain ⟨hin, r, H', st, pend, fn', T', ps', as', bd', an', hs, hl, hst, hq⟩ := h
        have fin : ∀ (e : Ex) (H2 : List AObj), exec P A (oneC (.fn k) (first ++ [.yield H.length] ++ cap) (H ++ [.loop .ready none fn (T.map AV.view) ps.toList as bd A]) lo r H') fn lo 0 rl (.rangeFunc f ps as bd) bid ⟨T, H⟩ = some (e, ⟨T.map AV.settle, H2⟩) → Q e (T.map AV.settle) H2 →
            wpA P A fn lo rl (.rangeFunc f ps as bd) bid ⟨T, H⟩ fun e s => Q e s.T s.H := fun e H2 he hq => ⟨_, e, _, oneC_sound hs, he, hq⟩
        have hex : ∀ (e : Ex), (match pend with | none => some Ex.normal | some .ret => some .ret | some (.exit id) => some (.exit id) | _ => none) = some e →
            exec P A (oneC (.fn k) (first ++ [.yield H.length] ++ cap) (H ++ [.loop .ready none fn (T.map AV.view) ps.toList as bd A]) lo r H') fn lo 0 rl (.rangeFunc f ps as bd) bid ⟨T, H⟩ = some (e, ⟨T.map AV.settle, H'.set H.length .dead⟩) := fun e he => by
          simp only [exec, hv, hin, oneC_self, hl, hst, if_false]
          split at he <;> simp_all
        split at hq
        · exact fin _ _ (hex .normal rfl) hq
        · exact fin _ _ (hex .ret rfl) hq
        · exact fin _ _ (hex (.exit _) rfl) hq
        · exact hq.elim
      · exact h.elim
    cases f with
    | tmp t => simp only [resC, wpR, getK_eq] at h; exact key _ rfl h
    | const v => exact key (ev [] (.const v)) rfl h
    | func g => exact key (ev [] (.func g)) rfl h
    | global g => exact key (ev [] (.global g)) rfl h
end
end Go.Proofs.YtbnbjjgagikobaaGreat.Ab

/-
  Walks: the words that they use.
-/
namespace Go.Proofs.YtbnbjjgagikobaaGreat.Ab
open Go
/-- Where a result lies: in a slot; in a variable. -/
inductive RV where
  | tmp (t : Nat) | cell (a : Nat) (g : Ag)
/-- What a variable holds, by how it lies. -/
def ldA (g : Ag) (cs : List AV) (off : Nat) : Option AV := match g with
  | .one => (cs[off]?).map AV.view
  | .str s => if off + s ≤ cs.length then some (.agg (((cs.drop off).take s).map AV.view)) else none
  | .arr s => if off + s ≤ cs.length then some (.agg (((cs.drop off).take s).map AV.view)) else none
theorem ldA_eq {P : Program} {t : TypeId} {g : Ag} (h : agOf P t = some g) (cs : List AV) (off : Nat) : ldPart P t cs off = ldA g cs off := by
  rcases agOf_cases h with ⟨rfl, h1, d, h2⟩ | ⟨s, h2, h1⟩
  · simp [ldPart, ldA, h1, h2]
  · rcases h2 with ⟨rfl, h2⟩ | ⟨rfl, h2⟩ <;> simp [ldPart, ldA, h1, h2]
def atA (H : List AObj) (g : Ag) : AV → Option AV
  | .ptr id off => match H[id]? with
    | some (.cells l) => ldA g l off
    | some (.grow l _ _) => ldA g l off
    | _ => none
  | .lptr cells => ldA g cells 0
  | _ => none
theorem atA_eq {P : Program} {t : TypeId} {g : Ag} (h : agOf P t = some g) (H : List AObj) (a : AV) : aLoad P H t a = atA H g a := by
  cases a <;> simp only [aLoad, atA, ldA_eq h] <;> rfl
noncomputable def readR (H : List AObj) (T : List AV) : List RV → Option (List AV)
  | [] => some []
  | .tmp t :: r => (readR H T r).map (getT T t :: ·)
  | .cell a g :: r => match atA H g (getT T a), readR H T r with
    | some v, some vs => some (v :: vs)
    | _, _ => none
def resVs (P : Program) : List ResultVar → Option (List RV)
  | [] => some []
  | .tmp t :: r => (resVs P r).map (.tmp t :: ·)
  | .cell a t :: r => match agOf P t, resVs P r with
    | some g, some l => some (.cell a g :: l)
    | _, _ => none
theorem readR_eq {P : Program} (H : List AObj) (T : List AV) : ∀ {rs : List ResultVar} {l : List RV}, resVs P rs = some l → readResults P H T rs = readR H T l
  | [], l, h => by simp [resVs] at h; subst h; rfl
  | .tmp t :: r, l, h => by
    simp only [resVs, Option.map_eq_some_iff] at h
    obtain ⟨l, h, rfl⟩ := h
    simp only [readResults, readR, readR_eq H T h]
  | .cell a t :: r, l, h => by
    simp only [resVs] at h
    split at h
    · rename_i g l' h1 h2
      simp only [Option.some.injEq] at h; subst h
      simp only [readResults, readR, readR_eq H T h2, atA_eq h1]
      rfl
    · cases h
/-- The results lie there. -/
inductive Ret (rs : List RV) (v : AV) (e : Ex) (T : List AV) (H : List AObj) : Prop where
  | mk (he : e = .normal ∨ e = .ret) (vs : List AV) (hr : readR H T rs = some vs) (r : AV) (hf : frz H 0 H.length 0 8 (packResults vs) = some r) (hv : r = v ∨ r.settle = v)
theorem ret_pure {rs : List RV} {v : AV} {e : Ex} {T : List AV} {H : List AObj} (he : e = .normal ∨ e = .ret) (hp : pureD 8 v = true) (h : (readR H T rs).map packResults = some v) : Ret rs v e T H := by
  simp only [Option.map_eq_some_iff] at h
  obtain ⟨vs, h1, h2⟩ := h
  exact ⟨he, vs, h1, v, by rw [h2]; exact frz_pure hp, .inl rfl⟩
/-- A function, looked up: its code, its slots, its results' slots. -/
noncomputable def linkF (P : Program) (A : FAnn) (k : Nat) : Option (RC × Nat × List RV) := match P.funcs[k]? with
  | some f => match f.body with
    | some c => match codeOk A c, f.name == "runtime.NumGoroutine", linkC P A c 0, resVs P f.results.toList with
      | true, false, some rc, some ts => some (rc, f.ntmps, ts)
      | _, _, _, _ => none
    | none => none
  | none => none
/-- A function's contract, over no objects. -/
theorem fn_pure {P : Program} (hmix : P.follows .mixedOrders = true) {k : Nat} {A : FAnn} {rc : RC} {n : Nat} {ts : List RV} (hl : linkF P A k = some (rc, n, ts)) {args T : List AV} (hT : args ++ List.replicate (n - args.length) .junk = T) {v : AV} (hp : pureD 8 v = true)
    (h : wpR P A k 0 none rc T [] (Ret ts v)) : PureOk P k args v := by
  unfold linkF at hl
  split at hl
  · rename_i f hf
    split at hl
    · rename_i c hb
      split at hl
      · rename_i rc' ts' h1 h2 h3 h4
        simp only [Option.some.injEq, Prod.mk.injEq] at hl
        obtain ⟨rfl, rfl, rfl⟩ := hl
        subst hT
        have hq : ∀ e s, Ret ts' v e (St.T s) (St.H s) → (e = .normal ∨ e = .ret) ∧ ∃ vs r, readResults P s.H s.T f.results.toList = some vs ∧ frz s.H 0 s.H.length 0 8 (packResults vs) = some r ∧ (r = v ∨ r.settle = v) := fun e s ⟨g1, vs, g0, r, g2, g3⟩ => by
          exact ⟨g1, vs, r, by rw [readR_eq _ _ h4, g0], g2, g3⟩
        exact pure_fn0 hmix hf hb (by simpa using h2) h1 hp (wpA_mono hq (link_ok h3 h))
      · cases hl
    · cases hl
  · cases hl
/-- Slots: those that are named; the others are dead. -/
def slotsFrom : Nat → Nat → List (Nat × AV) → List AV
  | 0, _, _ => []
  | n + 1, i, [] => .junk :: slotsFrom n (i + 1) []
  | n + 1, i, (j, v) :: r => match Nat.beq i j with
    | true => v :: slotsFrom n (i + 1) r
    | false => .junk :: slotsFrom n (i + 1) ((j, v) :: r)
abbrev slots (n : Nat) (l : List (Nat × AV)) : List AV := slotsFrom n 0 l
/-- An operation without a guard. -/
abbrev I_ (d : Nat) (s : List RS) (k : RK) : RI := ⟨some d, s, none, none, k⟩
noncomputable section
/-- The ranges over functions of some code. -/
def rngs : Code → List (Code × Code)
  | .rangeFunc _ _ a b => (a, b) :: (rngs a ++ rngs b)
  | .seq a b => rngs a ++ rngs b
  | .cond _ a b => rngs a ++ rngs b
  | .block _ c => rngs c
  | .loop c => rngs c
  | .scope c => rngs c
  | _ => []
def bodyOf (P : Program) (k : Nat) : Code := match P.funcs[k]? with
  | some f => match f.body with
    | some c => c
    | none => .skip
  | none => .skip
def rngA (P : Program) (k i : Nat) : Code := match (rngs (bodyOf P k))[i]? with
  | some x => x.1
  | none => .skip
def rngB (P : Program) (k i : Nat) : Code := match (rngs (bodyOf P k))[i]? with
  | some x => x.2
  | none => .skip
end
end Go.Proofs.YtbnbjjgagikobaaGreat.Ab

/-
  A call over no objects that hands out a map: over any objects.
-/
namespace Go.Proofs.YtbnbjjgagikobaaGreat.Ab
open Go
section
variable {P : Program} {B : Nat} {κ : List Nat} {w : World} {H : List AObj} {ω : Nat → Option Lab} {S : Nat → Nat → Prop}
end
end Go.Proofs.YtbnbjjgagikobaaGreat.Ab

/-
  Rounds of a range over a function: what a call of yield comes to, by the code of a round.
-/
namespace Go.Proofs.YtbnbjjgagikobaaGreat.Ab
open Go
section
variable {P : Program} {B N : Nat} {κ : List Nat} {w : World} {H : List AObj} {ω : Nat → Option Lab} {S : Nat → Nat → Prop}
theorem wpA_round (hmix : P.follows .mixedOrders = true) {l lo : Nat} {fn : FuncId} {T T' : List AV} {ps : List Nat} {as bd : Code} {an : FAnn} {args : List AV} {H' : List AObj}
    (hl : H[l]? = some (.loop .ready none fn T ps as bd an)) (hset : setParams ps args T = some T') (hlow : Low lo H H')
    (h : wpA P an fn lo (some l) as 0 ⟨T', H⟩ fun e s1 => e = .normal ∧ s1.H[l]? = some (.loop .ready none fn T ps as bd an) ∧
      wpA P an fn lo (some l) bd 0 ⟨s1.T, s1.H.set l (.loop .busy none fn T ps as bd an)⟩ fun e s2 => e = .normal ∧ s2.H[l]? = some (.loop .busy none fn T ps as bd an) ∧ Fgt (s2.H.set l (.loop .ready none fn T ps as bd an)) H') :
    Sem P (.yield l) args H lo (.bool true) H' := by
  refine ⟨hlow, fun B ω κ S w xs b hH _ hv hb => ?_⟩
  obtain ⟨c1, c2, b', L, a1, a2, a3, a4, a5, a6, a7, a8, a9, a10, a11⟩ := hH.obj l _ hl
  rw [hb] at a1; cases a1
  have hst := setParams_get ps args T T' xs L.tmps.toList hset hv.len (by simpa using a7.symm)
  obtain ⟨g1, g2, g3, g4⟩ := hst
  refine ⟨L, a3, by rw [← hv.len, ← g1, ← a9]; simp, ?_⟩
  refine roundIn_of_wpIn trivial ?_
  have htm : (roundTmps L xs).toList = (ps.zip xs).foldl (fun (l : List Value) (p : Nat × Value) => l.set p.1 p.2) L.tmps.toList := by rw [roundTmps_toList, a9]
  obtain ⟨ev0, hH0⟩ := toPars_rel ps hH
  have hA : ARel B w.heap.size (toPars ps ω) κ S w ⟨T', H⟩ { tmps := roundTmps L xs, defers := [] } := by
    refine ⟨?_, hH0, Nat.le_refl _, fun d hd => by simp at hd, List.Pairwise.nil⟩
    simp only [htm]
    have key : ∀ (i : Nat) (u : AV) (x : Value), T'[i]? = some u → ((ps.zip xs).foldl (fun (l : List Value) (p : Nat × Value) => l.set p.1 p.2) L.tmps.toList)[i]? = some x →
        Rel κ S w u x ∧ OwnAt (toPars ps ω) κ S w (.slot i) u x := fun i u x hu hx => by
      rcases g4 i u x hu hx with ⟨k1, k2⟩ | ⟨j, k1, k2, k3⟩
      · obtain ⟨p1, p2⟩ := a8 i u x k1 (by simpa using k2)
        exact ⟨p2, OwnAt.of_plain p1⟩
      · exact ⟨hv.rel j u x k2 k3, (hv.own j u x k2 k3).mono (Ext.refl κ) (fun _ _ h => ⟨h, rfl⟩) fun b hb => ⟨by simp [toPars, hb, k1], rfl, fun _ h => h⟩⟩
    exact ⟨by rw [g2, g3, ← a7]; simp, fun i u x hu hx => (key i u x hu hx).1, fun i u x hu hx => (key i u x hu hx).2⟩
  rw [a10, a11]
  refine wpA_sim hmix as 0 _ _ h c1 _ _ B w.heap.size κ w (toPars ps ω) S _ (.inr ⟨l, b, rfl, hb, rfl⟩) (fun l a w hg => hg) hA fun e1 s1 hk a1 w1 hs => ?_
  obtain ⟨rfl, hl1, h2⟩ := hk
  obtain ⟨ω1, κ1, S1, k1, k2, hA1⟩ := hs
  have hb1 : κ1[l]? = some b := k1 _ _ hb
  obtain ⟨_, _, b', L1, d1, d2, d3, d4, d5, _⟩ := hA1.H.obj l _ hl1
  rw [hb1] at d1; cases d1
  obtain ⟨ev2, hA2⟩ := hA1.loop hl1 hb1 d3 .busy none
  have hbr : (Instr.beginRound b).run P w1 = .ok () (w1.putObj b (.loop { L1 with state := .busy, pending := none })) := by
    rw [run_beginRound d3 d4]
    have : ({ L1 with state := .busy, pending := none } : Loop) = { L1 with state := .busy } := by rw [← d5]
    rw [this]
  refine ⟨_, hbr, ?_⟩
  refine wpIn_mono (Q := fun e' a' w' => (∀ t, e' ≠ Exit.goto t) ∧ roundPost P b (FnPost B ω κ S w H' (.bool true)) e' a' w') ?_ (fun e a w h => h.2)
  refine wpA_sim hmix bd 0 _ _ h2 c2 _ _ B w.heap.size κ1 _ ω1 S1 _ (.inr ⟨l, b, rfl, hb1, rfl⟩) (fun l a w hg => hg.1 l rfl) hA2 fun e2 s2 hk a2 w2 hs => ?_
  obtain ⟨rfl, hl2, hfg⟩ := hk
  obtain ⟨ω2, κ2, S2, k3, k4, hA3⟩ := hs
  have hb2 : κ2[l]? = some b := k3 _ _ hb1
  obtain ⟨_, _, b', L2, f1, f2, f3, f4, f5, _⟩ := hA3.H.obj l _ hl2
  rw [hb2] at f1; cases f1
  have evA : Ev ω S w ω2 S2 w2 := ((ev0.trans k2).trans ev2).trans k4
  refine ⟨fun t ht => (by cases ht), ?_⟩
  refine ⟨_, _, run_endRound none f3, ?_⟩
  obtain ⟨ev5, hA5⟩ := hA3.loop hl2 hb2 f3 .ready none
  exact Post.fgt hfg ⟨ω2, κ2, S2, k1.trans k3, evA.trans ev5, hA5.H, .bool _, OwnAt.of_plain rfl⟩
/-- .. by looked-up code. -/
theorem sem_round (hmix : P.follows .mixedOrders = true) {l lo : Nat} {fn : FuncId} {T T' : List AV} {ps : List Nat} {as bd : Code} {an : FAnn} {args : List AV} {H' : List AObj} {ra rb : RC}
    (ha : linkC P an as 0 = some ra) (hb : linkC P an bd 0 = some rb)
    (hl : H[l]? = some (.loop .ready none fn T ps as bd an)) (hset : setParams ps args T = some T') (hlow : Low lo H H')
    (h : wpR P an fn lo (some l) ra T' H fun e T1 H1 => e = .normal ∧ H1[l]? = some (.loop .ready none fn T ps as bd an) ∧
      wpR P an fn lo (some l) rb T1 (H1.set l (.loop .busy none fn T ps as bd an)) fun e T2 H2 => e = .normal ∧ H2[l]? = some (.loop .busy none fn T ps as bd an) ∧ Fgt (H2.set l (.loop .ready none fn T ps as bd an)) H') :
    Sem P (.yield l) args H lo (.bool true) H' :=
  wpA_round hmix hl hset hlow (wpA_mono (fun e s hq => ⟨hq.1, hq.2.1, link_ok hb hq.2.2⟩) (link_ok ha h))
end
end Go.Proofs.YtbnbjjgagikobaaGreat.Ab
