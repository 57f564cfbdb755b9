/-
  From a contract to a row: what an input reads as, as the interpreter's values; what a pure call leaves behind.
-/
import Derived.Test.YtlcebaejlnpdeaaJa4
import Derived.ProofKit
import Derived.Deep.Slices
import Derived.ChangeStays
import Derived.Below
import Derived.WalkKit
import Derived.KernelRfl
import Derived.Test.YtlcebaejlnpdeaaJa3
set_option linter.unusedSimpArgs false
set_option linter.unusedVariables false
set_option linter.unusedSectionVars false
namespace Go.Proofs.Ytlcebaejlnpdeaa.Ab
open Go Go.ChangeShapes Go.WideShapes Go.ChangeAt Go.RowKit
/-- What memory holds. -/
def S0 (w : World) : Nat → Nat → Prop := fun b o => ∃ v, w.cell? ⟨b, o, none⟩ = some v
theorem hrel0 (w : World) : HRel w.heap.size (fun _ => none) [] (S0 w) w [] :=
  ⟨rfl, fun _ _ h => by simp at h, fun _ _ h => h, fun _ _ h => by simp at h, Nat.le_refl _⟩
/-- A pure call that returns true: nothing of old has turned. -/
theorem top_calls {P : Program} {k : FuncId} {args : List AV} {vs : List Value} {W : World} {b : Bool} (h : PureOk P k args (.bool b)) (hv : VRel (fun i => .arg i) (fun _ => none) [] (S0 W) W args vs) :
    Calls P k vs.toArray W fun e W' => e = .returned (.bool b) ∧ Below W.heap.size W W' := by
  have h1 := h.1.2.2 W.heap.size (fun _ => none) [] (S0 W) W vs (hrel0 W) (fun _ _ h => by simp at h) hv
  refine (callsIn_wide.1 h1).mono fun e W' he => ?_
  cases e with
  | returned v =>
    obtain ⟨ω', κ', S', _, ev, _, hr, _⟩ := he
    cases hr
    exact ⟨rfl, ev.os, ev.tape, ev.output, ev.size, fun b hb => ev.keep b hb rfl⟩
  | panicked c => exact he.elim
  | outgrown => exact he.elim
section
variable {H : Type} {enc : TypeId × Value → H} {P : Program} {w : World}
theorem again_all {W W' : World} (K : Kids P (· < P.types.size)) (hsz : ∀ t e, t < P.types.size → P.underlying t = some (.slice e) → 0 < P.cellsOf e) (hB : Below W.heap.size W W') {sp : Nat → Bool} :
    ∀ {ts : List TypeId} {vs : List Value} {ds : List (DataW H)} {p : List MemPlace}, (∀ t ∈ ts, t < P.types.size) → DataW.TrodAll enc P W 0 (fun _ => true) true ts vs ds p → (∀ x ∈ p, sp x.block = true) → (∀ x ∈ p, x.block < W.heap.size) → DataW.TrodAll enc P W' 0 sp true ts vs ds p
  | [], _, _, _, _, hA, _, _ => by obtain ⟨rfl, rfl, rfl⟩ := trodAll_nil hA; exact trodAll_mk0
  | t :: ts, _, _, _, hT, hA, hsp, hlt => by
    obtain ⟨v, vs, d, ds, a, b, rfl, rfl, rfl, ⟨n, hn⟩, h2⟩ := trodAll_cons hA
    refine ⟨a, b, ⟨n, ?_⟩, again_all K hsz hB (fun t ht => hT t (List.mem_cons_of_mem _ ht)) h2 (fun x hx => hsp x (List.mem_append_right _ hx)) (fun x hx => hlt x (List.mem_append_right _ hx)), rfl⟩
    exact DataW.trod_stays K (fun {t e} ht he => hsz t e ht he) (fun h => by cases h) (hT t List.mem_cons_self) hn (fun x hx => hB.same (hlt x (List.mem_append_left _ hx))) fun x hx => hsp x (List.mem_append_left _ hx)
/-- The row's end: nothing has turned, and true is returned. -/
theorem post_true {f : Func} {s : ChangeSpec} {again : Bool} {W W' : World} {args : Array Value} {t : TypeId} {ds gs : List (DataW H)} {before : List MemPlace}
    (hl : laidOutB P = true) (hm : mapsRowed P = true) (hz : ((List.range P.types.size).all fun t => match P.underlying t with | some (.slice e) => decide (0 < P.cellsOf e) | _ => true) = true)
    (ht : f.resultTypes = #[t]) (hbt : P.underlying t = some .bool) (hps : f.params.toList.all (fun t => decide (t < P.types.size)) = true) (hvars : s.vars = [])
    (hW : DataW.Whole enc P f.params.toList s.vars false W args.toList ds gs before) (hB : Below W.heap.size W W')
    (hs : s.fn H (ds ++ gs) = { results := [.lit (.bool true)], args := ds }) : s.post enc P f false true false again W args (.bool true) W' := by
  have hlt := hW.lt
  have hW2 := hW
  obtain ⟨p, q, hA, hV, rfl, hfz, hnd⟩ := hW2
  rw [hvars] at hV
  obtain ⟨rfl, rfl⟩ := trodVars_none hV
  rw [List.append_nil] at *
  have K : Kids P (· < P.types.size) := kids_rows hl hm
  have hsz := slices_full_of P hz
  have hT : ∀ t ∈ f.params.toList, t < P.types.size := fun t h => by
    have := List.all_eq_true.1 hps t h; simpa using this
  have again : ∀ sp : Nat → Bool, (∀ x ∈ p, sp x.block = true) → DataW.TrodAll enc P W' 0 sp true f.params.toList args.toList ds p := fun sp hsp =>
    again_all K hsz hB hT hA hsp hlt
  have hres : ∀ (b : Nat) (sp : Nat → Bool) (hd : Bool), DataW.TrodAll enc P W' b sp hd f.resultTypes.toList ((Value.bool true).resultList f.resultTypes.size) (s.fn H ds).results [] := fun b sp hd => by
    rw [hs, ht]
    exact trodAll_mk1 (shut_bool hbt true)
  have hargs : ∀ sp : Nat → Bool, (∀ x ∈ p, sp x.block = true) → DataW.TrodAll enc P W' 0 sp true f.params.toList args.toList (s.fn H ds).args p := fun sp hsp => by
    rw [hs]; exact again sp hsp
  have hv : ∀ sp : Nat → Bool, DataW.TrodVars enc P W' sp s.vars (s.fn H ds).vars [] := fun sp => by
    rw [hs, hvars]; rfl
  have hold : ∀ x ∈ p, (fun b => decide (b < W.heap.size)) x.block = true := fun x hx => by simpa using hlt x hx
  refine ⟨ds, [], p, [], p, [], hW, by rw [List.append_nil]; exact hres _ _ _, by rw [List.append_nil]; exact hargs _ hold, by rw [List.append_nil]; exact hv _, hB.frame _, fun _ => ?_⟩
  refine ⟨fun j u r hu hr => ?_, (s.fn H ds).results ++ (s.fn H ds).args, [], p, ⟨p, [], ?_, ?_, by simp, ?_, fun h => by cases h⟩, fun x hx _ => hx⟩
  · rw [ht] at hu hr
    cases j with
    | zero => simp [Value.resultList] at hu hr; subst hu; subst hr; exact okWide_bool_mk hbt true
    | succ j => simp at hu
  · have := trodAll_append (hargs (fun _ => true) fun _ _ => rfl) (hres 0 (fun _ => true) true)
    simpa using this
  · rw [hvars]; rfl
  · intro b o hb
    have := hlt _ hb
    rw [hB.frozen (p := ⟨b, o, none⟩) this]
    exact hfz b o hb
/-! ### What arguments read as -/
theorem map_of {α : Type} {f : α → AV} {R : α → Prop} : ∀ {l : List AV}, (∀ u ∈ l, ∃ x, u = f x ∧ R x) → ∃ zs : List α, l = zs.map f ∧ ∀ x ∈ zs, R x
  | [], _ => ⟨[], rfl, by simp⟩
  | u :: l, h => by
    obtain ⟨x, rfl, hx⟩ := h u (by simp)
    obtain ⟨zs, rfl, hz⟩ := map_of (l := l) fun y hy => h y (by simp [hy])
    exact ⟨x :: zs, rfl, by simpa using ⟨hx, hz⟩⟩
/-- A cell that reads as a type is so related. -/
abbrev Cel (enc : TypeId × Value → H) (P : Program) (w : World) (e : TypeId) (Q : AV → Prop) : Prop :=
  ∀ n v y, DataW.trod enc P w 0 (fun _ => true) true n e [v] = some y → ∃ u, u.plain = true ∧ v.oneCell' = true ∧ Rel [] (S0 w) w u v ∧ Q u
theorem cel_int {e : TypeId} {k : IntKind} (ht : P.underlying e = some (.int k)) : Cel enc P w e fun u => ∃ x, u = .int k x ∧ (Lit.int k x).wf = true := by
  intro n v y h
  obtain ⟨x, hx, _, hw⟩ := DataW.trod_int ht h
  injection hx with hx _
  subst hx
  exact ⟨.int k x, rfl, rfl, .int k x, x, rfl, hw⟩
instance : Inhabited AV := ⟨.junk⟩
theorem cel_list {t e : TypeId} (ht : P.underlying t = some (.slice e)) (ce : P.cellsOf e = 1) {Q : AV → Prop} (he : Cel enc P w e Q) :
    Cel enc P w t fun u => ∃ l : List AV, u = .lst l l.length .shared ∧ l.length ≤ maxLen ∧ ∀ u ∈ l, Q u := by
  intro fuel v x h
  rcases Deep.open_slice1 ht ce h with ⟨hv, _⟩ | ⟨a, len, cap, m, n, V, D, Pl, hv, _, hl, hm, hmm, _, hx⟩
  · injection hv with hv _; subst hv
    exact ⟨_, rfl, rfl, .lnil _ _, [], rfl, Nat.zero_le _, by simp⟩
  · injection hv with hv _; subst hv
    have hmm : m = cap := hmm
    have hx : ∀ i, i < cap → w.cell? (a.add i) = some (V i) ∧ DataW.trod enc P w 0 (fun _ => true) true n e [V i] = some (D i, Pl i) := fun i hi => hx i (by omega)
    by_cases hc : cap = 0
    · subst hc; obtain rfl : len = 0 := by omega
      exact ⟨_, rfl, rfl, .lnil _ _, [], rfl, Nat.zero_le _, by simp⟩
    · obtain ⟨b, o, sp⟩ := a
      have h0 := (hx 0 (by omega)).1
      have hs : sp = none := by simpa [Addr.add] using World.cell?_spot h0
      subst hs
      obtain ⟨U, hU⟩ := Deep.choose_lt (α := AV) (n := len) (p := fun i u => u.plain = true ∧ (V i).oneCell' = true ∧ Rel [] (S0 w) w u (V i) ∧ Q u) fun i hi => he n (V i) _ (hx i (by omega)).2
      refine ⟨.lst ((List.range len).map U) len .shared, rfl, rfl, .lst _ _ _ b o cap V (by simp) hl (by simp) (fun j u hj => ?_) (fun j u hj => ?_), (List.range len).map U, by simp, by simp; omega, fun u hu => ?_⟩
      · have hjl : j < len := by have := (List.getElem?_eq_some_iff.1 hj).1; simpa using this
        simp [hjl] at hj; subst hj
        have hcell : w.cell? ⟨b, o + j, none⟩ = some (V j) := by have := (hx j (by omega)).1; rwa [add_lit] at this
        exact ⟨⟨_, hcell⟩, hcell, (hU j hjl).1, (hU j hjl).2.1⟩
      · have hjl : j < len := by have := (List.getElem?_eq_some_iff.1 hj).1; simpa using this
        simp [hjl] at hj; subst hj
        exact (hU j hjl).2.2.1
      · obtain ⟨j, hj, rfl⟩ := List.mem_map.1 hu
        exact (hU j (List.mem_range.1 hj)).2.2.2
/-- What fits into 64 bits. -/
def Fi (x : Int) : Prop := -9223372036854775808 ≤ x ∧ x ≤ 9223372036854775807
theorem wf_i64 {x : Int} (h : (Lit.int .i64 x).wf = true) : Fi x := by
  have h1 : IntKind.i64.min = -9223372036854775808 := rfl
  have h2 : IntKind.i64.max = 9223372036854775807 := rfl
  simp only [Lit.wf, Bool.and_eq_true, decide_eq_true_eq] at h
  exact ⟨by omega, by omega⟩
theorem wf_u8 {x : Int} (h : (Lit.int .u8 x).wf = true) : 0 ≤ x ∧ x ≤ 255 := by
  have h1 : IntKind.u8.min = 0 := rfl
  have h2 : IntKind.u8.max = 255 := rfl
  simp only [Lit.wf, Bool.and_eq_true, decide_eq_true_eq] at h
  exact ⟨by omega, by omega⟩
/-- Lists that fit in memory. -/
structure Fl (l : List Int) : Prop where
  n : l.length ≤ 9223372036854775807
  v : ∀ x ∈ l, Fi x
structure Fl2 (l : List (List Int)) : Prop where
  n : l.length ≤ 9223372036854775807
  v : ∀ r ∈ l, Fl r
theorem maxLen_le {n : Nat} (h : n ≤ maxLen) : n ≤ 9223372036854775807 := by unfold maxLen at h; omega
theorem cel_L1 {t e : TypeId} (ht : P.underlying t = some (.slice e)) (ce : P.cellsOf e = 1) (he : P.underlying e = some (.int .i64)) : Cel enc P w t fun u => ∃ l, u = L1 l ∧ Fl l := by
  intro n v y h
  obtain ⟨u, a1, a2, a3, l, rfl, a4, a5⟩ := cel_list ht ce (cel_int he) n v y h
  obtain ⟨zs, rfl, a6⟩ := map_of a5
  exact ⟨_, a1, a2, a3, zs, by simp [L1], by simpa using maxLen_le a4, fun x hx => wf_i64 (a6 x hx)⟩
theorem cel_L2 {t t1 e : TypeId} (ht : P.underlying t = some (.slice t1)) (ce1 : P.cellsOf t1 = 1) (ht1 : P.underlying t1 = some (.slice e)) (ce : P.cellsOf e = 1) (he : P.underlying e = some (.int .i64)) : Cel enc P w t fun u => ∃ l, u = L2 l ∧ Fl2 l := by
  intro n v y h
  obtain ⟨u, a1, a2, a3, l, rfl, a4, a5⟩ := cel_list ht ce1 (cel_L1 ht1 ce he) n v y h
  obtain ⟨zs, rfl, a6⟩ := map_of a5
  exact ⟨_, a1, a2, a3, zs, by simp [L2], by simpa using maxLen_le a4, a6⟩
/-- Bytes. -/
def Y1 (l : List Int) : AV := .lst (l.map (.int .u8)) l.length .shared
structure Fy (l : List Int) : Prop where
  n : l.length ≤ 9223372036854775807
  v : ∀ x ∈ l, 0 ≤ x ∧ x ≤ 255
theorem cel_Y1 {t e : TypeId} (ht : P.underlying t = some (.slice e)) (ce : P.cellsOf e = 1) (he : P.underlying e = some (.int .u8)) : Cel enc P w t fun u => ∃ l, u = Y1 l ∧ Fy l := by
  intro n v y h
  obtain ⟨u, a1, a2, a3, l, rfl, a4, a5⟩ := cel_list ht ce (cel_int he) n v y h
  obtain ⟨zs, rfl, a6⟩ := map_of a5
  exact ⟨_, a1, a2, a3, zs, by simp [Y1], by simpa using maxLen_le a4, fun x hx => wf_u8 (a6 x hx)⟩
/-- An argument. -/
abbrev Arg (enc : TypeId × Value → H) (P : Program) (w : World) (base : Nat) (t : TypeId) (Q : AV → Prop) : Prop :=
  ∀ v d p, Value.okWide P w .any base t v → DataW.Trod enc P w 0 (fun _ => true) true t v d p → ∃ u, u.plain = true ∧ Rel [] (S0 w) w u v ∧ Q u
theorem arg_slice {base : Nat} {t e : TypeId} (ht : P.underlying t = some (.slice e)) {Q : AV → Prop} (hc : Cel enc P w t Q) : Arg enc P w base t Q := by
  intro v d p hv ⟨n, hd⟩
  obtain ⟨a, len, cap, rfl⟩ := okWide_slice ht hv
  obtain ⟨u, a1, _, a3, a4⟩ := hc n _ _ hd
  exact ⟨u, a1, a3, a4⟩
/-- A struct of one field of one cell. -/
theorem arg_struct1 {base : Nat} {t : TypeId} {f0 : Field} (ht : P.underlying t = some (.struct #[f0])) (h0 : f0.offset = 0) (hc1 : P.cellsOf t = 1) (hc0 : P.cellsOf f0.type = 1) {Q : AV → Prop} (hc : Cel enc P w f0.type Q) :
    Arg enc P w base t fun u => ∃ x, u = .agg [x] ∧ Q x := by
  intro v d p hv ⟨n, hd⟩
  unfold Value.okWide at hv
  rw [ht] at hv
  obtain ⟨cs, rfl, hsz, _⟩ := hv
  obtain ⟨y0, m, _, _, h1⟩ := trod_struct1 ht hd
  rw [hc1] at hsz
  obtain ⟨c, rfl⟩ : ∃ c, cs = #[c] := by
    obtain ⟨l⟩ := cs
    match l, hsz with
    | [c], _ => exact ⟨c, rfl⟩
  rw [h0, hc0] at h1
  obtain ⟨u, a1, a2, a3, a4⟩ := hc m c _ h1
  refine ⟨.agg [u], rfl, .agg [u] #[c] rfl (by simpa using a1) (by simpa using a2) fun j x y hx hy => ?_, u, rfl, a4⟩
  cases j with
  | zero => simp at hx hy; subst hx; subst hy; exact a3
  | succ j => simp at hx
theorem vrel_of {us : List AV} {vs : List Value} (h : us.length = vs.length) (hr : ∀ (i : Nat) (u : AV) (v : Value), us[i]? = some u → vs[i]? = some v → u.plain = true ∧ Rel [] (S0 w) w u v) : VRel (fun i => .arg i) (fun _ => none) [] (S0 w) w us vs :=
  ⟨h, fun i u v hu hv => (hr i u v hu hv).2, fun i u v hu hv => OwnAt.of_plain (hr i u v hu hv).1⟩
theorem vrel_two {u0 u1 : AV} {v0 v1 : Value} (p0 : u0.plain = true) (r0 : Rel [] (S0 w) w u0 v0) (p1 : u1.plain = true) (r1 : Rel [] (S0 w) w u1 v1) : VRel (fun i => .arg i) (fun _ => none) [] (S0 w) w [u0, u1] [v0, v1] :=
  vrel_of rfl fun i u v hu hv => by
    match i with
    | 0 => simp at hu hv; subst hu; subst hv; exact ⟨p0, r0⟩
    | 1 => simp at hu hv; subst hu; subst hv; exact ⟨p1, r1⟩
    | i + 2 => simp at hu
end
end Go.Proofs.Ytlcebaejlnpdeaa.Ab

/-
  Plain words of layer 5: panels, orders, seams.
-/
namespace Go.Proofs.Ytlcebaejlnpdeaa.Ab
def sumI (l : List Int) : Int := l.foldl (fun n x => n + x) 0
theorem foldl_add (l : List Int) : ∀ a : Int, l.foldl (fun n x => n + x) a = a + l.foldl (fun n x => n + x) 0 := by
  induction l with
  | nil => intro a; simp
  | cons x l ih => intro a; simp only [List.foldl_cons]; rw [ih (a + x), ih (0 + x)]; omega
theorem sumI_cons (x : Int) (l : List Int) : sumI (x :: l) = x + sumI l := by
  unfold sumI; rw [List.foldl_cons, foldl_add]; omega
theorem sumI_nil : sumI [] = 0 := rfl
theorem sumI_append (a b : List Int) : sumI (a ++ b) = sumI a + sumI b := by
  unfold sumI; rw [List.foldl_append, foldl_add b]
/-- A list of small numbers. -/
structure Sm (l : List Int) : Prop where
  len : l.length ≤ 1000000
  val : ∀ x ∈ l, 0 ≤ x ∧ x ≤ 1000000
theorem Sm.bound : ∀ {l : List Int}, (∀ x ∈ l, 0 ≤ x ∧ x ≤ 1000000) → 0 ≤ sumI l ∧ sumI l ≤ 1000000 * l.length
  | [], _ => by simp [sumI]
  | x :: l, h => by
    have ih := Sm.bound (l := l) fun y hy => h y (by simp [hy])
    have hx := h x (by simp)
    rw [sumI_cons, List.length_cons]; omega
theorem Sm.take {l : List Int} (h : Sm l) (i : Nat) : 0 ≤ sumI (l.take i) ∧ sumI (l.take i) ≤ 1000000000000 := by
  have h1 := Sm.bound (l := l.take i) fun x hx => h.val x (List.mem_of_mem_take hx)
  have h2 : (l.take i).length ≤ l.length := List.length_take_le' i l
  have := h.len
  omega
theorem Sm.sum {l : List Int} (h : Sm l) : 0 ≤ sumI l ∧ sumI l ≤ 1000000000000 := by
  have := h.take l.length
  rwa [List.take_length] at this
theorem sum_snoc (l : List Int) (i : Nat) (h : i < l.length) : sumI (l.take (i + 1)) = sumI (l.take i) + l[i] := by
  rw [List.take_succ_eq_append_getElem h, sumI_append, sumI_cons, sumI_nil]; omega
def outOf (lo hi x : Int) : Bool := decide (x < lo) || decide (hi < x)
/-- Is it valid? -/
def checkP (p : List (List Int)) : Int :=
  if outOf 2 4 p.length || p.any (fun l => outOf 1 5 l.length) then 6
  else if p.any (fun l => l.any (outOf 1 100)) then 3
  else if p.any (fun l => decide (sumI l ≠ sumI (p.headD []))) then 15 else 0
structure Val (p : List (List Int)) : Prop where
  n2 : 2 ≤ p.length
  n4 : p.length ≤ 4
  s1 : ∀ l ∈ p, 1 ≤ l.length
  s5 : ∀ l ∈ p, l.length ≤ 5
  w : ∀ l ∈ p, ∀ x ∈ l, 1 ≤ x ∧ x ≤ 100
  eq : ∀ l ∈ p, sumI l = sumI (p.headD [])
theorem any_false {α : Type} {p : α → Bool} {l : List α} : l.any p = false ↔ ∀ x ∈ l, p x = false := by
  rw [List.any_eq_false]; simp
theorem outOf_false {lo hi x : Int} : outOf lo hi x = false ↔ lo ≤ x ∧ x ≤ hi := by
  simp only [outOf, Bool.or_eq_false_iff, decide_eq_false_iff_not]; omega
theorem checkP_val {p : List (List Int)} (h : checkP p = 0) : Val p := by
  unfold checkP at h
  split at h
  · cases h
  · rename_i h1
    split at h
    · cases h
    · rename_i h2
      split at h
      · cases h
      · rename_i h3
        simp only [Bool.not_eq_true, Bool.or_eq_false_iff, outOf_false, any_false] at h1 h2 h3
        exact ⟨by omega, by omega, fun l hl => by have := (h1.2 l hl).1; omega, fun l hl => by have := (h1.2 l hl).2; omega, fun l hl x hx => h2 l hl x hx, fun l hl => by simpa using h3 l hl⟩
theorem Val.check {p : List (List Int)} (h : Val p) : checkP p = 0 := by
  unfold checkP
  rw [if_neg, if_neg, if_neg]
  · simp only [Bool.not_eq_true, any_false]; intro l hl; simpa using h.eq l hl
  · simp only [Bool.not_eq_true, any_false, outOf_false]; exact fun l hl x hx => h.w l hl x hx
  · have := h.n2; have := h.n4
    simp only [Bool.not_eq_true, Bool.or_eq_false_iff, any_false, outOf_false]
    exact ⟨by omega, fun l hl => by have := h.s1 l hl; have := h.s5 l hl; omega⟩
theorem Val.sm {p : List (List Int)} (h : Val p) {l : List Int} (hl : l ∈ p) : Sm l :=
  ⟨by have := h.s5 l hl; omega, fun x hx => by have := h.w l hl x hx; omega⟩
def has (l : List Int) (n : Int) : Bool := decide (n ∈ l)
theorem has_cons (x : Int) (l : List Int) (n : Int) : has (x :: l) n = (decide (n = x) || has l n) := by
  simp [has, List.mem_cons, Bool.decide_or]
theorem has_iff {l : List Int} {n : Int} : has l n = true ↔ n ∈ l := by simp [has]
theorem any_has (l : List Int) (x : Int) : (l.any fun y => decide (x = y)) = has l x := by
  rw [Bool.eq_iff_iff, List.any_eq_true, has_iff]; simp
/-- How many numbers two lists have in common. -/
def common (a b : List Int) : Nat := (a.filter fun x => has b x).length
/-- Is the rest an order of so many, behind those? -/
def ordGo (n : Nat) : List Int → List Int → Bool
  | _, [] => true
  | b, x :: r => !(outOf 0 ((n : Int) - 1) x || has b x) && ordGo n (b ++ [x]) r
def isOrd (l : List Int) (n : Nat) : Bool := decide (l.length = n) && ordGo n [] l
def atGo (layer : List Int) (a : Int) (l : List Int) : Int := l.foldl (fun a i => a + layer.getD i.toNat 0) a
def seamsGo (layer : List Int) : Int → List Int → List Int
  | _, [] => []
  | a, i :: r => (a + layer.getD i.toNat 0) :: seamsGo layer (a + layer.getD i.toNat 0) r
def seamsOf (layer order : List Int) : List Int := seamsGo layer 0 order.dropLast
theorem seamsGo_snoc (layer : List Int) : ∀ (l : List Int) (a x : Int), seamsGo layer a (l ++ [x]) = seamsGo layer a l ++ [atGo layer a (l ++ [x])]
  | [], a, x => rfl
  | i :: l, a, x => by
    show (a + layer.getD i.toNat 0) :: seamsGo layer (a + layer.getD i.toNat 0) (l ++ [x]) = _
    rw [seamsGo_snoc layer l]; rfl
theorem atGo_snoc (layer : List Int) (l : List Int) (a x : Int) : atGo layer a (l ++ [x]) = atGo layer a l + layer.getD x.toNat 0 := by
  unfold atGo; rw [List.foldl_append]; rfl
theorem seamsGo_length (layer : List Int) : ∀ (l : List Int) (a : Int), (seamsGo layer a l).length = l.length
  | [], a => rfl
  | i :: l, a => by simp [seamsGo, seamsGo_length layer l]
/-- The seams of all layers. -/
def seamsBy (p orders : List (List Int)) : List (List Int) := List.zipWith seamsOf p orders
def ordErr (p orders : List (List Int)) : Int :=
  if checkP p ≠ 0 then checkP p
  else if orders.length ≠ p.length then 15
  else if (List.zip orders p).any (fun x => !isOrd x.1 x.2.length) then 16 else 0
/-- The least difference of numbers of two lists, at most another one. -/
def betw (a b : List Int) (m : Int) : Int := a.foldl (fun m x => b.foldl (fun m y => min m (max (x - y) (y - x))) m) m
end Go.Proofs.Ytlcebaejlnpdeaa.Ab

/-
  Contracts: small functions of layer 5.
-/
namespace Go.Proofs.Ytlcebaejlnpdeaa.Ab
open Go
theorem within1_ok (lo hi x : Int) : PO 97 [I x, .lptr [I lo], .lptr [I hi]] (B (outOf lo hi x)) := by
  refine fn_pure hmix lk97 rfl rfl ?_
  unfold rc97
  conv => whnf
  cases h : decide (x < lo) with
  | true =>
    conv => whnf
    exact ret_pure (.inr rfl) rfl (by unfold outOf; rw [h]; rfl)
  | false =>
    conv => whnf
    exact ret_pure (.inr rfl) rfl (by unfold outOf; rw [h]; rfl)
theorem within_ok (lo hi : Int) (l : List Int) (hl : l.length ≤ 140737488355328) : PO 67 [I lo, I hi, L1 l] (B (!(l.any (outOf lo hi)))) := by
  refine fn_pure hmix lk67 rfl rfl ?_
  unfold rc67
  conv => whnf
  refine ⟨_, _, call6 (bs := [L1 l, .func 97 [] [.lptr [I lo], .lptr [I hi]]]) rfl ?_ (containsFunc_ok l hl _ 97 [.lptr [I lo], .lptr [I hi]] ⟨rfl, by simp⟩ fun x _ => within1_ok lo hi x) rfl, ?_⟩
  · simp only [List.map_cons, List.map_nil, List.all_cons, List.all_nil, Bool.and_true, Bool.and_eq_true]
    exact ⟨pure_L1 6 l, rfl⟩
  conv => whnf
  exact ret_pure (.inr rfl) rfl rfl
theorem within0_ok (lo hi x : Int) : PO 67 [I lo, I hi, L1 [x]] (B (!(outOf lo hi x))) := by
  have := within_ok lo hi [x] (by simp)
  simpa using this
theorem size_ok (l : List Int) : PO 66 [L1 l] (B (outOf 1 5 l.length)) := by
  refine fn_pure hmix lk66 rfl rfl ?_
  unfold rc66
  conv => whnf
  refine ⟨rfl, _, within0_ok 1 5 l.length, ?_⟩
  conv => whnf
  exact ret_pure (.inr rfl) rfl (by simp only [Bool.not_not]; rfl)
theorem stray_ok (l : List Int) (hl : l.length ≤ 140737488355328) : PO 68 [L1 l] (B (l.any (outOf 1 100))) := by
  refine fn_pure hmix lk68 rfl rfl ?_
  unfold rc68
  conv => whnf
  refine ⟨by first | rfl | simp only [List.all_cons, List.all_nil, pu0, pub, pu1, pu2, pu1', pu2', pun, puf, puP, puP', puQ, puQ', Bool.and_true, Bool.and_self], _, within_ok 1 100 l hl, ?_⟩
  conv => whnf
  exact ret_pure (.inr rfl) rfl (by simp only [Bool.not_not]; rfl)
theorem sum_ok (l : List Int) (hl : Sm l) : PO 71 [L1 l] (I (sumI l)) := by
  refine fn_pure hmix lk71 rfl rfl ?_
  unfold rc71
  conv => whnf
  refine .intro (CI (fun i => slots 17 [(3, I (sumI (l.take i))), (6, L1 l), (7, I l.length), (8, I i)]) l.length []) l.length (ci0 rfl) ?_
  rintro m T H ⟨i, hi, rfl, rfl, rfl⟩
  have := hl.len
  conv => whnf
  refine dcase (fun h => ?_) (fun h => ?_)
  · have hlt : i < l.length := by omega
    conv => whnf
    refine ⟨by omega, ?_⟩
    conv => whnf
    refine nthM _ _ _ (hlt) ?_
    conv => whnf
    have := hl.take i
    have := hl.val _ (List.getElem_mem hlt)
    exact ciN hlt (by rw [sum_snoc l i hlt, wrapI _ (by omega) (by omega), ← wrapS i (by omega)] <;> rfl)
  · obtain rfl : i = l.length := by omega
    conv => whnf
    exact ret_pure (.inr rfl) rfl (by rw [List.take_length]; rfl)
theorem rsum_ok (l : List Int) (hl : Sm l) : PO 53 [L1 l] (I (sumI l)) := by
  refine fn_pure hmix lk53 rfl rfl ?_
  unfold rc53
  conv => whnf
  refine .intro (CI (fun i => slots 18 [(0, L1 l), (3, I (sumI (l.take i))), (4, I i)]) l.length []) l.length (ci0 rfl) ?_
  rintro m T H ⟨i, hi, rfl, rfl, rfl⟩
  have := hl.len
  conv => whnf
  refine dcase (fun h => ?_) (fun h => ?_)
  · have hlt : i < l.length := by omega
    conv => whnf
    refine ⟨by omega, ?_⟩
    conv => whnf
    refine nthM _ _ _ (hlt) ?_
    conv => whnf
    have := hl.take i
    have := hl.val _ (List.getElem_mem hlt)
    exact ciN hlt (by rw [sum_snoc l i hlt, wrapI _ (by omega) (by omega), ← wrapS i (by omega)] <;> rfl)
  · obtain rfl : i = l.length := by omega
    conv => whnf
    exact ret_pure (.inr rfl) rfl (by rw [List.take_length]; rfl)
theorem equal1_ok (p : List (List Int)) (l l0 : List Int) (h0 : p[0]? = some l0) (hl : Sm l) (hl0 : Sm l0) : PO 70 [L1 l, .lptr [L2 p]] (B (decide (sumI l ≠ sumI l0))) := by
  refine fn_pure hmix lk70 rfl rfl ?_
  unfold rc70
  conv => whnf
  refine ⟨by first | rfl | simp only [List.all_cons, List.all_nil, pu0, pub, pu1, pu2, pu1', pu2', pun, puf, puP, puP', puQ, puQ', Bool.and_true, Bool.and_self], _, sum_ok l hl, acc0, ?_⟩
  conv => whnf
  have hlt := (List.getElem?_eq_some_iff.1 h0).1
  have he := (List.getElem?_eq_some_iff.1 h0).2
  refine ⟨by omega, ?_⟩
  conv => whnf
  refine nthM _ _ _ (hlt) ?_
  conv => whnf
  refine ⟨by first | rfl | simp only [List.all_cons, List.all_nil, pu0, pub, pu1, pu2, pu1', pu2', pun, puf, puP, puP', puQ, puQ', Bool.and_true, Bool.and_self], _, sum_ok p[0] (he ▸ hl0), acc1 fun _ h => ?_, ?_⟩
  · simp only [List.cons.injEq, and_true] at h
    rw [L1_inj (a := l) (b := p[0]) h]
  conv => whnf
  exact ret_pure (.inr rfl) rfl (by rw [he]; rfl)
/-! ### great, wide -/
def most (p : List (List Int)) : Int := p.foldl (fun n l => max n (l.length : Int)) p.length
theorem most_bound : ∀ (p : List (List Int)) (a : Int), p.foldl (fun n l => max n (l.length : Int)) a ≤ 8 ↔ a ≤ 8 ∧ ∀ l ∈ p, l.length ≤ 8
  | [], a => by simp
  | x :: p, a => by
    rw [List.foldl_cons, most_bound p]
    simp only [List.forall_mem_cons]
    constructor
    · rintro ⟨h1, h2⟩; exact ⟨by omega, by omega, h2⟩
    · rintro ⟨h1, h2, h3⟩; exact ⟨by omega, h3⟩
/-- Are there too many? -/
def big (p : List (List Int)) : Bool := decide (8 < most p)
theorem big_false {p : List (List Int)} : big p = false ↔ p.length ≤ 8 ∧ ∀ l ∈ p, l.length ≤ 8 := by
  rw [big, most, decide_eq_false_iff_not, Int.not_lt, most_bound]
  exact and_congr_left' (by omega)
section
variable (p : List (List Int)) (hp : p.length ≤ 9223372036854775807)
include hp
theorem great_ok : PO 18 [P1 p] (B (big p)) := by
  refine fn_pure hmix lk18 rfl rfl ?_
  unfold rc18
  conv => whnf
  refine .intro (CI (fun i => slots 25 [(1, .ptr 0 0), (3, I ((p.take i).foldl (fun n l => max n (l.length : Int)) p.length)), (4, I i)]) p.length [.cells [L2 p]]) p.length (ci0 rfl) ?_
  rintro m T H ⟨i, hi, rfl, rfl, rfl⟩
  conv => whnf
  refine dcase (fun h => ?_) (fun h => ?_)
  · have hlt : i < p.length := by omega
    conv => whnf
    refine ⟨by omega, ?_⟩
    conv => whnf
    refine nthM _ _ _ (hlt) ?_
    conv => whnf
    exact ciN hlt (by rw [foldl_take _ _ p i hlt, ← wrapS i (by omega)] <;> rfl)
  · obtain rfl : i = p.length := by omega
    conv => whnf
    exact ret_pure (.inr rfl) rfl (by rw [List.take_length]; rfl)
end
/-! ### CheckPanel -/
theorem boxL2 (p : List (List Int)) : Boxes [.lptr [L2 p]] := ⟨by rw [List.all_cons, List.all_nil, Bool.and_true]; exact pureD_le (d := 4) (by show [L2 p].all (pureD 3) = true; rw [List.all_cons, List.all_nil, Bool.and_true]; exact pure_L2 0 p) (by omega), by simp⟩
theorem sm_of {p : List (List Int)} (h1 : p.any (fun l => outOf 1 5 l.length) = false) (h2 : p.any (fun l => l.any (outOf 1 100)) = false) {l : List Int} (hl : l ∈ p) : Sm l := by
  simp only [any_false, outOf_false] at h1 h2
  exact ⟨by have := h1 l hl; omega, fun x hx => by have := h2 l hl x hx; omega⟩
theorem checkPanel_ok (p : List (List Int)) (hp : p.length ≤ 140737488355328) (hq : ∀ l ∈ p, l.length ≤ 140737488355328) : PO 25 [P1 p] (I (checkP p)) := by
  refine fn_pure hmix lk25 rfl rfl ?_
  unfold rc25
  conv => whnf
  refine ⟨by first | rfl | simp only [List.all_cons, List.all_nil, pu0, pub, pu1, pu2, pu1', pu2', pun, puf, puP, puP', puQ, puQ', Bool.and_true, Bool.and_self], _, within0_ok 2 4 p.length, ?_⟩
  conv => whnf
  have fin : ∀ {x : Int}, checkP p = x → ∀ {T : List AV} {H : List AObj}, getT T 2 = I x → Ret [.tmp 2] (I (checkP p)) .ret T H := fun hx => by
    intro T H hT
    exact ret_pure (.inr rfl) rfl (by rw [hx]; simp only [readR, hT]; rfl)
  cases h1 : outOf 2 4 p.length with
  | true =>
    conv => whnf
    exact fin (by unfold checkP; rw [h1]; rfl) rfl
  | false =>
    conv => whnf
    refine ⟨by first | rfl | simp only [List.all_cons, List.all_nil, pu0, pub, pu1, pu2, pu1', pu2', pun, puf, puP, puP', puQ, puQ', Bool.and_true, Bool.and_self], _, containsFuncL_ok p hp _ 66 [] Boxes.nil fun x _ => size_ok x, ?_⟩
    conv => whnf
    cases h2 : p.any (fun l => outOf 1 5 l.length) with
    | true =>
      conv => whnf
      exact fin (by unfold checkP; rw [h1, h2]; rfl) rfl
    | false =>
      conv => whnf
      refine ⟨by first | rfl | simp only [List.all_cons, List.all_nil, pu0, pub, pu1, pu2, pu1', pu2', pun, puf, puP, puP', puQ, puQ', Bool.and_true, Bool.and_self], _, containsFuncL_ok p hp _ 68 [] Boxes.nil fun x hx => stray_ok x (hq x hx), ?_⟩
      conv => whnf
      cases h3 : p.any (fun l => l.any (outOf 1 100)) with
      | true =>
        conv => whnf
        exact fin (by unfold checkP; rw [h1, h2, h3]; rfl) rfl
      | false =>
        conv => whnf
        obtain ⟨l0, hl0⟩ : ∃ l0, p[0]? = some l0 := ⟨p[0]'(by simp only [outOf_false] at h1; omega), by simp⟩
        refine ⟨_, _, call6 (bs := [L2 p, .func 70 [] [.lptr [L2 p]]]) rfl ?_ (containsFuncL_ok p hp _ 70 [.lptr [L2 p]] (boxL2 p) fun x hx => equal1_ok p x l0 hl0 (sm_of h2 h3 hx) (sm_of h2 h3 (List.mem_of_getElem? hl0))) rfl, ?_⟩
        · rw [List.all_eq_true]; intro u hu; simp only [List.map_cons, List.map_nil, List.mem_cons, List.not_mem_nil, or_false] at hu; rcases hu with rfl | rfl; exact pu2' p; exact Boxes.pfn (boxL2 p) _
        conv => whnf
        have hd : p.headD [] = l0 := by cases p <;> simp_all
        cases h4 : p.any (fun l => decide (sumI l ≠ sumI l0)) with
        | true =>
          conv => whnf
          exact fin (by unfold checkP; rw [h1, h2, h3, hd, h4]; rfl) rfl
        | false =>
          conv => whnf
          exact fin (by unfold checkP; rw [h1, h2, h3, hd, h4]; rfl) rfl
end Go.Proofs.Ytlcebaejlnpdeaa.Ab

/-
  Contracts: the definitions' functions on panels, orders, seams.
-/
namespace Go.Proofs.Ytlcebaejlnpdeaa.Ab
open Go
set_option maxRecDepth 20000 in
theorem rcheck_ok (p : List (List Int)) (hp : p.length ≤ 140737488355328) (hq : ∀ l ∈ p, l.length ≤ 140737488355328) : PO 26 [P1 p] (I (checkP p)) := by
  refine fn_pure hmix lk26 rfl rfl ?_
  unfold rc26
  conv => whnf
  cases h1 : decide ((p.length : Int) < 2) with
  | true =>
    conv => whnf
    exact ret_pure (.inr rfl) rfl (by rw [show checkP p = 6 by unfold checkP outOf; rw [h1]; rfl]; rfl)
  | false =>
    conv => whnf
    cases h2 : decide (4 < (p.length : Int)) with
    | true =>
      conv => whnf
      exact ret_pure (.inr rfl) rfl (by rw [show checkP p = 6 by unfold checkP outOf; rw [h1, h2]; rfl]; rfl)
    | false =>
      conv => whnf
      have h12 : outOf 2 4 p.length = false := by unfold outOf; rw [h1, h2]; rfl
      refine .intro (CP (fun i => (p.any fun l => outOf 1 5 l.length) = ((p.drop i).any fun l => outOf 1 5 l.length)) (fun i => slots 96 [(1, .ptr 0 0), (3, I i)]) p.length [.cells [L2 p]]) (p.length - 0) (cp0 0 (Nat.zero_le _) rfl rfl) ?_
      rintro m T H ⟨i, hi, rfl, he, rfl, rfl⟩
      conv => whnf
      refine dcase (fun h => ?_) (fun h => ?_)
      · have hlt : i < p.length := by omega
        rw [any_drop _ p i hlt] at he
        conv => whnf
        refine ⟨by omega, ?_⟩
        conv => whnf
        refine nthM _ _ _ (hlt) ?_
        conv => whnf
        cases h3 : decide ((p[i].length : Int) < 1) with
        | true =>
          conv => whnf
          exact ret_pure (.inr rfl) rfl (by rw [show checkP p = 6 by unfold checkP; rw [h12, he]; unfold outOf; rw [h3]; rfl]; rfl)
        | false =>
          conv => whnf
          refine ⟨by omega, ?_⟩
          conv => whnf
          refine nthM _ _ _ (hlt) ?_
          conv => whnf
          cases h4 : decide (5 < (p[i].length : Int)) with
          | true =>
            conv => whnf
            exact ret_pure (.inr rfl) rfl (by rw [show checkP p = 6 by unfold checkP; rw [h12, he]; unfold outOf; rw [h3, h4]; rfl]; rfl)
          | false =>
            conv => whnf
            exact cpN hlt (by rw [he]; unfold outOf; rw [h3, h4]; rfl) (by rw [← wrapS i (by omega)] <;> rfl)
      · obtain rfl : i = p.length := by omega
        rw [List.drop_length] at he
        conv => whnf
        refine .intro (CP (fun i => (p.any fun l => l.any (outOf 1 100)) = ((p.drop i).any fun l => l.any (outOf 1 100))) (fun i => slots 96 [(1, .ptr 0 0), (4, I i)]) p.length [.cells [L2 p]]) (p.length - 0) (cp0 0 (Nat.zero_le _) rfl rfl) ?_
        rintro m T H ⟨i, hi, rfl, hf, rfl, rfl⟩
        conv => whnf
        refine dcase (fun h => ?_) (fun h => ?_)
        · have hlt : i < p.length := by omega
          rw [any_drop _ p i hlt] at hf
          conv => whnf
          have hl := hq _ (List.getElem_mem hlt)
          refine .intro (CP (fun k => p[i].any (outOf 1 100) = (p[i].drop k).any (outOf 1 100)) (fun k => slots 96 [(1, .ptr 0 0), (4, I i), (5, I k)]) p[i].length [.cells [L2 p]]) (p[i].length - 0) (cp0 0 (Nat.zero_le _) rfl rfl) ?_
          rintro m T H ⟨k, hk, rfl, hg, rfl, rfl⟩
          conv => whnf
          refine ⟨by omega, ?_⟩
          conv => whnf
          refine nthM _ _ _ (hlt) ?_
          conv => whnf
          refine dcase (fun h => ?_) (fun h => ?_)
          · have hkt : k < p[i].length := by omega
            rw [any_drop _ p[i] k hkt] at hg
            conv => whnf
            refine ⟨by omega, ?_⟩
            conv => whnf
            refine nthM _ _ _ (hlt) ?_
            conv => whnf
            refine ⟨by omega, ?_⟩
            conv => whnf
            refine nthM _ _ _ (hkt) ?_
            conv => whnf
            cases h3 : decide (p[i][k] < 1) with
            | true =>
              conv => whnf
              exact ret_pure (.inr rfl) rfl (by rw [show checkP p = 3 by unfold checkP; rw [h12, he, hf, hg]; unfold outOf; rw [h3]; rfl]; rfl)
            | false =>
              conv => whnf
              refine ⟨by omega, ?_⟩
              conv => whnf
              refine nthM _ _ _ (hlt) ?_
              conv => whnf
              refine ⟨by omega, ?_⟩
              conv => whnf
              refine nthM _ _ _ (hkt) ?_
              conv => whnf
              cases h4 : decide (100 < p[i][k]) with
              | true =>
                conv => whnf
                exact ret_pure (.inr rfl) rfl (by rw [show checkP p = 3 by unfold checkP; rw [h12, he, hf, hg]; unfold outOf; rw [h3, h4]; rfl]; rfl)
              | false =>
                conv => whnf
                exact cpN hkt (by rw [hg]; unfold outOf; rw [h3, h4]; rfl) (by rw [← wrapS k (by omega)] <;> rfl)
          · obtain rfl : k = p[i].length := by omega
            rw [List.drop_length] at hg
            conv => whnf
            exact cpN hlt (by rw [hf, hg]; rfl) (by rw [← wrapS i (by omega)] <;> rfl)
        · obtain rfl : i = p.length := by omega
          rw [List.drop_length] at hf
          conv => whnf
          have hlen : 2 ≤ p.length := by simp only [outOf_false] at h12; omega
          have h0 : 0 < p.length := by omega
          have hd : p.headD [] = p[0] := by cases p <;> simp_all
          have he' : (p.any fun l => outOf 1 5 l.length) = false := he
          have hf' : (p.any fun l => l.any (outOf 1 100)) = false := hf
          have hdec : (p.any fun l => decide (sumI l ≠ sumI p[0])) = ((p.drop 1).any fun l => decide (sumI l ≠ sumI p[0])) := by
            have := any_drop (fun l => decide (sumI l ≠ sumI p[0])) p 0 h0
            simpa using this
          refine .intro (CP (fun i => (p.any fun l => decide (sumI l ≠ sumI p[0])) = ((p.drop i).any fun l => decide (sumI l ≠ sumI p[0]))) (fun i => slots 96 [(1, .ptr 0 0), (6, I i)]) p.length [.cells [L2 p]]) (p.length - 1) (cp0 1 (by omega) hdec rfl) ?_
          rintro m T H ⟨i, hi, rfl, hg, rfl, rfl⟩
          conv => whnf
          refine dcase (fun h => ?_) (fun h => ?_)
          · have hlt : i < p.length := by omega
            rw [any_drop _ p i hlt] at hg
            conv => whnf
            refine ⟨by omega, ?_⟩
            conv => whnf
            refine nthM _ _ _ (hlt) ?_
            conv => whnf
            refine ⟨by first | rfl | simp only [List.all_cons, List.all_nil, pu0, pub, pu1, pu2, pu1', pu2', pun, puf, puP, puP', puQ, puQ', Bool.and_true, Bool.and_self], _, rsum_ok p[i] (sm_of he' hf' (List.getElem_mem hlt)), acc0, ?_⟩
            conv => whnf
            refine ⟨by omega, ?_⟩
            conv => whnf
            refine nthM _ _ _ (h0) ?_
            conv => whnf
            refine ⟨by first | rfl | simp only [List.all_cons, List.all_nil, pu0, pub, pu1, pu2, pu1', pu2', pun, puf, puP, puP', puQ, puQ', Bool.and_true, Bool.and_self], _, rsum_ok p[0] (sm_of he' hf' (List.getElem_mem h0)), acc1 fun _ h => ?_, ?_⟩
            · simp only [List.cons.injEq, and_true] at h
              rw [L1_inj (a := p[i]) (b := p[0]) h]
            conv => whnf
            cases h3 : decide (sumI p[i] ≠ sumI p[0]) with
            | true =>
              conv => whnf
              exact ret_pure (.inr rfl) rfl (by rw [show checkP p = 15 by unfold checkP; rw [h12, he', hf', hd, hg, h3]; rfl]; rfl)
            | false =>
              conv => whnf
              exact cpN hlt (by rw [hg, h3]; rfl) (by rw [← wrapS i (by omega)] <;> rfl)
          · obtain rfl : i = p.length := by omega
            rw [List.drop_length] at hg
            conv => whnf
            exact ret_pure (.inr rfl) rfl (by rw [show checkP p = 0 by unfold checkP; rw [h12, he', hf', hd, hg]; rfl]; rfl)
end Go.Proofs.Ytlcebaejlnpdeaa.Ab

/-
  Contracts: numbers in lists; equal lists; orders; seams.
-/
namespace Go.Proofs.Ytlcebaejlnpdeaa.Ab
open Go
theorem index_ok (l : List Int) (x : Int) (hl : l.length ≤ 140737488355328) : PO 99 [L1 l, I x] (I (idxOf (fun y => decide (x = y)) l 0)) := by
  refine fn_pure hmix lk99 rfl rfl ?_
  unfold rc99
  conv => whnf
  refine .intro (CP (fun i => idxOf (fun y => decide (x = y)) l 0 = idxOf (fun y => decide (x = y)) (l.drop i) i) (fun i => slots 19 [(0, L1 l), (1, I x), (7, I l.length), (8, I i)]) l.length []) (l.length - 0) (cp0 0 (Nat.zero_le _) rfl rfl) ?_
  rintro m T H ⟨i, hi, rfl, he, rfl, rfl⟩
  conv => whnf
  refine dcase (fun h => ?_) (fun h => ?_)
  · have hlt : i < l.length := by omega
    rw [idxOf_drop _ l i hlt] at he
    conv => whnf
    refine ⟨by omega, ?_⟩
    conv => whnf
    refine nthM _ _ _ (hlt) ?_
    conv => whnf
    cases hp : decide (x = l[i]) with
    | true =>
      conv => whnf
      rw [hp, if_pos rfl] at he
      exact ret_pure (.inr rfl) rfl (by rw [he]; rfl)
    | false =>
      conv => whnf
      rw [hp, if_neg (by simp)] at he
      exact cpN hlt he (by rw [← wrapS i (by omega)] <;> rfl)
  · obtain rfl : i = l.length := by omega
    rw [List.drop_length] at he
    conv => whnf
    exact ret_pure (.inr rfl) rfl (by rw [he]; rfl)
theorem contains_ok (l : List Int) (x : Int) (hl : l.length ≤ 140737488355328) : PO 72 [L1 l, I x] (B (has l x)) := by
  refine fn_pure hmix lk72 rfl rfl ?_
  unfold rc72
  conv => whnf
  refine ⟨by first | rfl | simp only [List.all_cons, List.all_nil, pu0, pub, pu1, pu2, pu1', pu2', pun, puf, puP, puP', puQ, puQ', Bool.and_true, Bool.and_self], _, index_ok l x hl, ?_⟩
  conv => whnf
  exact ret_pure (.inr rfl) rfl (by rw [← any_has l x, ← idxOf_any _ l 0]; rfl)
end Go.Proofs.Ytlcebaejlnpdeaa.Ab

/-
  Plain words of layer 5: orders, seams, meetings: what holds of them.
-/
namespace Go.Proofs.Ytlcebaejlnpdeaa.Ab
theorem has_append (a b : List Int) (x : Int) : has (a ++ b) x = (has a x || has b x) := by
  simp [has, Bool.decide_or]
theorem ordGo_iff (n : Nat) : ∀ (l b : List Int), ordGo n b l = true ↔ (∀ x ∈ l, 0 ≤ x ∧ x < n ∧ x ∉ b) ∧ l.Nodup
  | [], b => by simp [ordGo]
  | x :: l, b => by
    simp only [ordGo, Bool.and_eq_true, ordGo_iff n l, Bool.not_eq_true', Bool.or_eq_false_iff, outOf_false, List.mem_append, List.nodup_cons, List.mem_cons, List.not_mem_nil, or_false]
    have hf : has b x = false ↔ x ∉ b := by simp [has]
    rw [hf]
    constructor
    · rintro ⟨⟨h1, h2⟩, h3, h4⟩
      refine ⟨?_, ?_, h4⟩
      · rintro y (rfl | hy)
        · exact ⟨h1.1, by omega, h2⟩
        · obtain ⟨k1, k2, k3⟩ := h3 y hy
          exact ⟨k1, k2, fun hb => k3 (.inl hb)⟩
      · exact fun hx => (h3 x hx).2.2 (.inr rfl)
    · rintro ⟨h1, h2, h3⟩
      obtain ⟨k1, k2, k3⟩ := h1 x (.inl rfl)
      refine ⟨⟨⟨k1, by omega⟩, k3⟩, fun y hy => ?_, h3⟩
      obtain ⟨m1, m2, m3⟩ := h1 y (.inr hy)
      exact ⟨m1, m2, fun h => h.elim m3 fun e => h2 (e ▸ hy)⟩
theorem isOrd_iff {l : List Int} {n : Nat} : isOrd l n = true ↔ l.length = n ∧ (∀ x ∈ l, 0 ≤ x ∧ x < n) ∧ l.Nodup := by
  simp only [isOrd, Bool.and_eq_true, decide_eq_true_eq, ordGo_iff]
  constructor
  · rintro ⟨h1, h2, h3⟩; exact ⟨h1, fun x hx => ⟨(h2 x hx).1, (h2 x hx).2.1⟩, h3⟩
  · rintro ⟨h1, h2, h3⟩; exact ⟨h1, fun x hx => ⟨(h2 x hx).1, (h2 x hx).2, by simp⟩, h3⟩
/-- Orders of all layers. -/
structure Ords (p o : List (List Int)) : Prop where
  len : o.length = p.length
  ord : ∀ (i : Nat) (h : i < o.length) (h' : i < p.length), isOrd o[i] p[i].length = true
theorem ordErr_zero {p o : List (List Int)} : ordErr p o = 0 ↔ Val p ∧ Ords p o := by
  unfold ordErr
  constructor
  · intro h
    split at h
    · rename_i h1; exact absurd h h1
    · rename_i h1
      split at h
      · cases h
      · rename_i h2
        split at h
        · cases h
        · rename_i h3
          have hl : o.length = p.length := Classical.not_not.1 h2
          refine ⟨checkP_val (Classical.not_not.1 h1), hl, fun i hi hi' => ?_⟩
          simp only [Bool.not_eq_true, any_false] at h3
          have := h3 (o[i], p[i]) (List.mem_iff_getElem.2 ⟨i, by simp; omega, by simp⟩)
          simpa using this
  · rintro ⟨h1, h2⟩
    rw [if_neg (by simp [h1.check]), if_neg (by simp [h2.len]), if_neg]
    simp only [Bool.not_eq_true, any_false]
    intro x hx
    obtain ⟨i, hi, rfl⟩ := List.mem_iff_getElem.1 hx
    simp only [List.length_zip] at hi
    simpa using h2.ord i (by omega) (by omega)
theorem getD_bound {layer : List Int} (h : Sm layer) (i : Nat) : 0 ≤ layer.getD i 0 ∧ layer.getD i 0 ≤ 1000000 := by
  rw [List.getD_eq_getElem?_getD]
  cases hi : layer[i]? with
  | none => simp
  | some x => exact h.val x (List.mem_of_getElem? hi)
theorem atGo_bound {layer : List Int} (h : Sm layer) : ∀ (l : List Int) (a : Int), a ≤ atGo layer a l ∧ atGo layer a l ≤ a + 1000000 * l.length
  | [], a => by simp [atGo]
  | i :: l, a => by
    have h1 := getD_bound h i.toNat
    have h2 := atGo_bound h l (a + layer.getD i.toNat 0)
    have e : atGo layer a (i :: l) = atGo layer (a + layer.getD i.toNat 0) l := rfl
    rw [e, List.length_cons]; omega
theorem dropLast_take (l : List Int) : l.dropLast = l.take (l.length - 1) := List.dropLast_eq_take
/-- All meetings of rows, row by row. -/
def meetN : List (List Int) → Nat
  | a :: b :: r => common a b + meetN (b :: r)
  | _ => 0
theorem take_two {α : Type} (l : List α) (i : Nat) (h : i + 1 < l.length) : l.take (i + 2) = l.take i ++ [l[i]] ++ [l[i + 1]] := by
  rw [List.take_succ_eq_append_getElem h, List.take_succ_eq_append_getElem (by omega)]
/-- The least difference of neighbours' seams, at most another number. -/
def distGo : List (List Int) → Int → Int
  | a :: b :: r, m => distGo (b :: r) (betw a b m)
  | _, m => m
theorem distGo_snoc : ∀ (l : List (List Int)) (a b : List Int) (m : Int), distGo (l ++ [a, b]) m = betw a b (distGo (l ++ [a]) m)
  | [], a, b, m => by simp [distGo]
  | [x], a, b, m => by simp [distGo]
  | x :: y :: l, a, b, m => by
    have := distGo_snoc (y :: l) a b
    simp only [List.cons_append, distGo] at this ⊢; exact this _
theorem distGo_take (l : List (List Int)) (i : Nat) (h : i + 1 < l.length) (m : Int) : distGo (l.take (i + 2)) m = betw l[i] l[i + 1] (distGo (l.take (i + 1)) m) := by
  rw [take_two l i h, List.append_assoc, show [l[i]] ++ [l[i + 1]] = [l[i], l[i + 1]] from rfl, distGo_snoc, ← List.take_succ_eq_append_getElem]
theorem betw_in (x : Int) (hx : 0 ≤ x) : ∀ (b : List Int) (m : Int), (∀ y ∈ b, 0 ≤ y) → 0 ≤ m → 0 ≤ b.foldl (fun m y => min m (max (x - y) (y - x))) m ∧ b.foldl (fun m y => min m (max (x - y) (y - x))) m ≤ m
  | [], m, _, h => by simpa using h
  | y :: b, m, hb, h => by
    have hy := hb y (by simp)
    have := betw_in x hx b (min m (max (x - y) (y - x))) (fun z hz => hb z (by simp [hz])) (by omega)
    rw [List.foldl_cons]; omega
theorem betw_bound : ∀ (a b : List Int) (m : Int), (∀ x ∈ a, 0 ≤ x) → (∀ y ∈ b, 0 ≤ y) → 0 ≤ m → 0 ≤ betw a b m ∧ betw a b m ≤ m
  | [], b, m, _, _, h => by simpa [betw] using h
  | x :: a, b, m, ha, hb, h => by
    have h1 := betw_in x (ha x (by simp)) b m hb h
    have h2 := betw_bound a b (b.foldl (fun m y => min m (max (x - y) (y - x))) m) (fun z hz => ha z (by simp [hz])) hb h1.1
    have e : betw (x :: a) b m = betw a b (b.foldl (fun m y => min m (max (x - y) (y - x))) m) := rfl
    rw [e]; omega
theorem distGo_bound : ∀ (l : List (List Int)) (m : Int), (∀ r ∈ l, ∀ x ∈ r, 0 ≤ x) → 0 ≤ m → 0 ≤ distGo l m ∧ distGo l m ≤ m
  | [], m, _, h => by simpa [distGo] using h
  | [x], m, _, h => by simpa [distGo] using h
  | x :: y :: l, m, hl, h => by
    have h1 := betw_bound x y m (hl x (by simp)) (hl y (by simp)) h
    have h2 := distGo_bound (y :: l) (betw x y m) (fun r hr => hl r (by simp [hr])) h1.1
    simp only [distGo]; omega
/-- The seams of a layer are small numbers. -/
theorem seamsGo_bound {layer : List Int} (h : Sm layer) : ∀ (l : List Int) (a : Int), 0 ≤ a → ∀ x ∈ seamsGo layer a l, 0 ≤ x ∧ x ≤ a + 1000000 * l.length
  | [], a, _, x, hx => by simp [seamsGo] at hx
  | i :: l, a, ha, x, hx => by
    have h1 := getD_bound h i.toNat
    simp only [seamsGo, List.mem_cons] at hx
    rw [List.length_cons]
    rcases hx with rfl | hx
    · omega
    · have := seamsGo_bound h l (a + layer.getD i.toNat 0) (by omega) x hx
      omega
structure Pos (l : List Int) : Prop where
  n : l.length ≤ 1000000
  v : ∀ x ∈ l, 0 ≤ x ∧ x ≤ 1000000000000
end Go.Proofs.Ytlcebaejlnpdeaa.Ab

/-
  Contracts: the definitions' orders and seams.
-/
namespace Go.Proofs.Ytlcebaejlnpdeaa.Ab
open Go
/-- Lists that grow. -/
def U1 (l : List Int) : AV := .lst (l.map I) l.length (.uniq 1)
def U2 (l : List (List Int)) : AV := .lst (l.map L1) l.length (.uniq 1)
theorem U1_snoc (l : List Int) (x : Int) : AV.lst (l.map I ++ [I x]) (l.length + 1) (.uniq 1) = U1 (l ++ [x]) := by simp [U1]
theorem U2_snoc (l : List (List Int)) (x : List Int) : AV.lst (l.map L1 ++ [L1 x]) (l.length + 1) (.uniq 1) = U2 (l ++ [x]) := by simp [U2]
theorem takeI (l : List Int) (i : Nat) (h : i ≤ l.length) : AV.lst ((l.map I).take ((i : Int).toNat * 1)) (i : Int).toNat .shared = L1 (l.take i) := by
  simp [L1, List.map_take, Nat.min_eq_left h]
/-- Panels and orders that are laid in memory. -/
structure Fit (p o : List (List Int)) : Prop where
  p1 : p.length ≤ 140737488355328
  p2 : ∀ l ∈ p, l.length ≤ 140737488355328
  o1 : o.length ≤ 140737488355328
  o2 : ∀ l ∈ o, l.length ≤ 140737488355328
/-- An order of a layer: its numbers name strips. -/
structure InL (layer order : List Int) : Prop where
  sm : Sm layer
  n : order.length ≤ 1000
  r : ∀ x ∈ order, 0 ≤ x ∧ x < layer.length
theorem getD_of {l : List Int} {x : Int} (h0 : 0 ≤ x) (h1 : x < l.length) : ∃ h : x.toNat < l.length, l.getD x.toNat 0 = l[x.toNat] := by
  have h : x.toNat < l.length := by omega
  exact ⟨h, by simp [List.getD_eq_getElem?_getD, h]⟩
theorem nthX {l : List Int} {x : Int} (h0 : 0 ≤ x) (h1 : x < l.length) {K : AV → Prop} (k : K (I (l.getD x.toNat 0))) : nthK ((l.map I).drop (x.toNat * 1)) 0 K := by
  obtain ⟨h, e⟩ := getD_of h0 h1
  rw [e] at k
  exact nthM I l x.toNat h k
theorem seams_take {layer order : List Int} (i : Nat) (h : i < order.length) : seamsGo layer 0 (order.take (i + 1)) = seamsGo layer 0 (order.take i) ++ [atGo layer 0 (order.take i) + layer.getD order[i].toNat 0] ∧ atGo layer 0 (order.take (i + 1)) = atGo layer 0 (order.take i) + layer.getD order[i].toNat 0 := by
  rw [List.take_succ_eq_append_getElem h, seamsGo_snoc, atGo_snoc]; exact ⟨rfl, rfl⟩
theorem Ords.inL {p o : List (List Int)} (hv : Val p) (h : Ords p o) (i : Nat) (h1 : i < o.length) (h2 : i < p.length) : InL p[i] o[i] := by
  obtain ⟨k1, k2, k3⟩ := isOrd_iff.1 (h.ord i h1 h2)
  exact ⟨hv.sm (List.getElem_mem h2), by have := hv.s5 _ (List.getElem_mem h2); omega, fun x hx => k2 x hx⟩
theorem seamsBy_take {p o : List (List Int)} (i : Nat) (h1 : i < o.length) (h2 : i < p.length) : seamsBy (p.take (i + 1)) (o.take (i + 1)) = seamsBy (p.take i) (o.take i) ++ [seamsOf p[i] o[i]] := by
  unfold seamsBy
  rw [List.take_succ_eq_append_getElem h1, List.take_succ_eq_append_getElem h2, List.zipWith_append (by simp; omega)]; rfl
end Go.Proofs.Ytlcebaejlnpdeaa.Ab

/-
  Contracts: the definitions' CheckOrders, Seams, Through, Distance.
-/
namespace Go.Proofs.Ytlcebaejlnpdeaa.Ab
open Go
/-! ### Between, apart -/
def betwIn (x : Int) (b : List Int) (m : Int) : Int := b.foldl (fun m y => min m (max (x - y) (y - x))) m
theorem betw_take (a b : List Int) (m : Int) (i : Nat) (h : i < a.length) : betw (a.take (i + 1)) b m = betwIn a[i] b (betw (a.take i) b m) := foldl_take _ _ a i h
theorem betwIn_take (x : Int) (b : List Int) (m : Int) (k : Nat) (h : k < b.length) : betwIn x (b.take (k + 1)) m = min (betwIn x (b.take k) m) (max (x - b[k]) (b[k] - x)) := foldl_take _ _ b k h
set_option maxRecDepth 20000 in
theorem apart_ok (a b : List Int) (m : Int) (ha : Pos a) (hb : Pos b) : PO 73 [L1 a, L1 b, I m] (I (betw a b m)) := by
  have := ha.n
  have := hb.n
  refine fn_pure hmix lk73 rfl rfl ?_
  unfold rc73
  conv => whnf
  refine .intro (CI (fun i => slots 37 [(1, L1 b), (7, I (betw (a.take i) b m)), (13, L1 a), (14, I a.length), (15, I i)]) a.length []) a.length (ci0 rfl) ?_
  rintro M T H ⟨i, hi, rfl, rfl, rfl⟩
  conv => whnf
  refine dcase (fun h2 => ?_) (fun h2 => ?_)
  · have hlt : i < a.length := by omega
    have va := ha.v _ (List.getElem_mem hlt)
    conv => whnf
    refine ⟨by omega, ?_⟩
    conv => whnf
    refine nthM _ _ _ (hlt) ?_
    conv => whnf
    refine .intro (CI (fun k => slots 37 [(1, L1 b), (7, I (betwIn a[i] (b.take k) (betw (a.take i) b m))), (9, I a[i]), (13, L1 a), (14, I a.length), (15, I i), (19, L1 b), (20, I b.length), (21, I k)]) b.length []) b.length (ci0 rfl) ?_
    rintro M T H ⟨k, hk, rfl, rfl, rfl⟩
    conv => whnf
    refine dcase (fun h3 => ?_) (fun h3 => ?_)
    · have hkt : k < b.length := by omega
      have vb := hb.v _ (List.getElem_mem hkt)
      conv => whnf
      refine ⟨by omega, ?_⟩
      conv => whnf
      refine nthM _ _ _ (hkt) ?_
      conv => whnf
      exact ciN hkt (by rw [betwIn_take _ _ _ _ hkt, wrapI (a[i] - b[k]) (by omega) (by omega), wrapI (b[k] - a[i]) (by omega) (by omega), ← wrapS k (by omega)] <;> rfl)
    · obtain rfl : k = b.length := by omega
      conv => whnf
      exact ciN hlt (by rw [betw_take _ _ _ _ hlt, List.take_length, ← wrapS i (by omega)] <;> rfl)
  · obtain rfl : i = a.length := by omega
    conv => whnf
    exact ret_pure (.inr rfl) rfl (by rw [List.take_length]; rfl)
/-! ### Rows of seams -/
theorem puT (l : List (List Int)) (e : Int) : pureD 8 (.tuple [L2 l, I e]) = true := by
  show [L2 l, I e].all (pureD 7) = true
  rw [List.all_cons, List.all_cons, List.all_nil, pure_L2 4 l]; rfl
theorem puT1 (l : List Int) (e : Int) : pureD 8 (.tuple [L1 l, I e]) = true := by
  show [L1 l, I e].all (pureD 7) = true
  rw [List.all_cons, List.all_cons, List.all_nil, pure_L1 5 l]; rfl
theorem seamsBy_length {p o : List (List Int)} (h : Ords p o) : (seamsBy p o).length = p.length := by
  have := h.len
  simp [seamsBy]; omega
theorem seamsBy_get {p o : List (List Int)} (i : Nat) (h : i < (seamsBy p o).length) (h1 : i < p.length) (h2 : i < o.length) : (seamsBy p o)[i] = seamsOf p[i] o[i] := by
  simp [seamsBy]
theorem seamsOf_length (l o : List Int) : (seamsOf l o).length = o.length - 1 := by
  simp [seamsOf, seamsGo_length]
theorem seamsOf_pos {layer order : List Int} (h : InL layer order) : Pos (seamsOf layer order) := by
  have hn := h.n
  refine ⟨by rw [seamsOf_length]; omega, fun x hx => ?_⟩
  have := seamsGo_bound h.sm order.dropLast 0 (by omega) x hx
  have h2 : order.dropLast.length ≤ 1000 := by simp; omega
  omega
theorem seamsBy_pos {p o : List (List Int)} (hv : Val p) (h : Ords p o) : ∀ r ∈ seamsBy p o, Pos r ∧ r.length ≤ 4 := by
  intro r hr
  obtain ⟨i, hi, rfl⟩ := List.mem_iff_getElem.1 hr
  have hl := seamsBy_length h
  have h1 : i < p.length := by omega
  have h2 : i < o.length := by have := h.len; omega
  rw [seamsBy_get i hi h1 h2]
  refine ⟨seamsOf_pos (h.inL hv i h2 h1), ?_⟩
  rw [seamsOf_length, (isOrd_iff.1 (h.ord i h2 h1)).1]
  have := hv.s5 _ (List.getElem_mem h1); omega
/-- What CheckOrders, Seams, Through and Distance return. -/
def meetOf (p o : List (List Int)) : Int := if ordErr p o = 0 then meetN (seamsBy p o) else 0
def seamsE (p o : List (List Int)) : List (List Int) := if ordErr p o = 0 then seamsBy p o else []
def thru (l : List (List Int)) : List Int := (l.headD []).filter fun x => l.all fun r => has r x
def thruOf (p o : List (List Int)) : List Int := if ordErr p o = 0 then thru (seamsBy p o) else []
def distOf (p o : List (List Int)) : Int := if ordErr p o = 0 then distGo (seamsBy p o) (sumI (p.headD [])) else 0
end Go.Proofs.Ytlcebaejlnpdeaa.Ab

/-
  Contracts: the definitions' Through, Distance; the program's bench, its orders and seams.
-/
namespace Go.Proofs.Ytlcebaejlnpdeaa.Ab
open Go
set_option maxRecDepth 20000
theorem filter_take {α : Type} (q : α → Bool) (l : List α) (i : Nat) (h : i < l.length) : (l.take (i + 1)).filter q = (l.take i).filter q ++ (if q l[i] then [l[i]] else []) := by
  rw [List.take_succ_eq_append_getElem h, List.filter_append]
  by_cases hq : q l[i] = true <;> simp [List.filter_cons, hq]
/-! ### The bench -/
/-- A bench: its panel, as it is. -/
def Bn (p : List (List Int)) : AV := .lptr [L2 p]
theorem puB (p : List (List Int)) (e : Int) : pureD 8 (.tuple [Bn p, I e]) = true := by
  show [Bn p, I e].all (pureD 7) = true
  rw [List.all_cons, List.all_cons, List.all_nil]
  have : pureD 7 (Bn p) = true := by
    show [L2 p].all (pureD 6) = true
    rw [List.all_cons, List.all_nil, pure_L2 3 p]; rfl
  rw [this]; rfl
/-- What open comes to. -/
def opened (p : List (List Int)) (is : List Int) : AV := if checkP p ≠ 0 then .tuple [.nilp, I (checkP p)] else if is.any (outOf 0 ((p.length : Int) - 1)) = true then .tuple [.nilp, I 2] else .tuple [Bn p, I 0]
theorem opened_pure (p : List (List Int)) (is : List Int) : pureD 8 (opened p is) = true := by
  unfold opened
  split
  · rfl
  · split
    · rfl
    · exact puB p 0
theorem open_ok (p : List (List Int)) (is : List Int) (h1 : p.length ≤ 140737488355328) (h2 : ∀ l ∈ p, l.length ≤ 140737488355328) (hi : is.length ≤ 1000) : PO 75 [P1 p, L1 is] (opened p is) := by
  refine fn_pure hmix lk75 rfl (opened_pure _ _) ?_
  unfold rc75
  conv => whnf
  refine ⟨by first | rfl | simp only [List.all_cons, List.all_nil, pu0, pub, pu1, pu2, pu1', pu2', pun, puf, puP, puP', puQ, puQ', Bool.and_true, Bool.and_self], _, checkPanel_ok p h1 h2, ?_⟩
  conv => whnf
  refine dcase (fun h => ?_) (fun h => ?_)
  · conv => whnf
    exact ret_pure (.inr rfl) (opened_pure _ _) (by rw [show opened p is = .tuple [.nilp, I (checkP p)] from if_pos h]; rfl)
  · have e : opened p is = if is.any (outOf 0 ((p.length : Int) - 1)) = true then .tuple [.nilp, I 2] else .tuple [Bn p, I 0] := if_neg h
    rw [e]
    conv => whnf
    refine .intro (CP (fun i => is.any (outOf 0 ((p.length : Int) - 1)) = (is.drop i).any (outOf 0 ((p.length : Int) - 1))) (fun i => slots 32 [(2, .ptr 0 0), (14, L1 is), (15, I is.length), (16, I i)]) is.length [.cells [L2 p]]) (is.length - 0) (cp0 0 (Nat.zero_le _) rfl rfl) ?_
    rintro M T H ⟨i, hi, rfl, he, rfl, rfl⟩
    conv => whnf
    refine dcase (fun h3 => ?_) (fun h3 => ?_)
    · have hlt : i < is.length := by omega
      rw [any_drop _ _ i hlt] at he
      conv => whnf
      refine ⟨by omega, ?_⟩
      conv => whnf
      refine nthM _ _ _ (hlt) ?_
      conv => whnf
      rw [wrapI ((p.length : Int) - 1) (by omega) (by omega)]
      refine ⟨by first | rfl | simp only [List.all_cons, List.all_nil, pu0, pub, pu1, pu2, pu1', pu2', pun, puf, puP, puP', puQ, puQ', Bool.and_true, Bool.and_self], _, within0_ok 0 ((p.length : Int) - 1) is[i], ?_⟩
      conv => whnf
      cases hx : outOf 0 ((p.length : Int) - 1) is[i] with
      | true =>
        conv => whnf
        rw [if_pos (by rw [he, hx]; rfl)]
        exact ret_pure (.inr rfl) rfl rfl
      | false =>
        conv => whnf
        exact cpN hlt (by rw [he, hx]; rfl) (by rw [← wrapS i (by omega)] <;> rfl)
    · obtain rfl : i = is.length := by omega
      rw [List.drop_length] at he
      conv => whnf
      rw [if_neg (by rw [he]; simp)]
      refine ⟨.inr rfl, _, rfl, .tuple [Bn p, I 0], ?_, .inl rfl⟩
      have e2 := frz_ptr (H := [.cells [L2 p], .cells [L2 p]]) (id := 1) (d := 6) rfl (by show [L2 p].all (pureD 6) = true; rw [List.all_cons, List.all_nil, pure_L2 3 p]; rfl)
      show (mapO (frz [.cells [L2 p], .cells [L2 p]] 0 2 0 7) [.ptr 1 0, I 0]).map AV.tuple = _
      simp only [mapO]
      rw [show frz [AObj.cells [L2 p], .cells [L2 p]] 0 2 0 7 (.ptr 1 0) = _ from e2]
      rfl
end Go.Proofs.Ytlcebaejlnpdeaa.Ab

/-
  Contracts: the program's orders, seams.
-/
namespace Go.Proofs.Ytlcebaejlnpdeaa.Ab
open Go
set_option maxRecDepth 20000
theorem open_bad {p : List (List Int)} (is : List Int) (h1 : p.length ≤ 140737488355328) (h2 : ∀ l ∈ p, l.length ≤ 140737488355328) (hi : is.length ≤ 1000) (h : checkP p ≠ 0) : PO 75 [P1 p, L1 is] (.tuple [.nilp, I (checkP p)]) := by
  have := open_ok p is h1 h2 hi
  rwa [show opened p is = .tuple [.nilp, I (checkP p)] from if_pos h] at this
theorem open_good {p : List (List Int)} (is : List Int) (h1 : p.length ≤ 140737488355328) (h2 : ∀ l ∈ p, l.length ≤ 140737488355328) (hi : is.length ≤ 1000) (h : checkP p = 0) (ha : is.any (outOf 0 ((p.length : Int) - 1)) = false) : PO 75 [P1 p, L1 is] (.tuple [Bn p, I 0]) := by
  have := open_ok p is h1 h2 hi
  rwa [show opened p is = .tuple [Bn p, I 0] by unfold opened; rw [if_neg (by simp [h]), if_neg (by simp [ha])]] at this
/-! ### isOrder -/
def b2 (b : Bool) : Int := match b with | true => 1 | false => 0
def mkA (s : List Int) : List AV := [I (b2 (has s 0)), I (b2 (has s 1)), I (b2 (has s 2)), I (b2 (has s 3)), I (b2 (has s 4))]
theorem mkA_get (s : List Int) (x : Int) (h0 : 0 ≤ x) (h5 : x < 5) : (mkA s)[x.toNat]? = some (I (b2 (has s x))) := by
  obtain rfl | rfl | rfl | rfl | rfl : x = 0 ∨ x = 1 ∨ x = 2 ∨ x = 3 ∨ x = 4 := by omega
  all_goals rfl
theorem mkA_set (s : List Int) (x : Int) (h0 : 0 ≤ x) (h5 : x < 5) : (mkA s).set x.toNat (I 1) = mkA (s ++ [x]) := by
  obtain rfl | rfl | rfl | rfl | rfl : x = 0 ∨ x = 1 ∨ x = 2 ∨ x = 3 ∨ x = 4 := by omega
  all_goals simp [mkA, has_append, has_cons, b2, has]
theorem puBn (p : List (List Int)) : pureD 8 (Bn p) = true := by
  show [L2 p].all (pureD 7) = true
  rw [List.all_cons, List.all_nil, pure_L2 4 p]; rfl
/-- Are there none? -/
def none5 (s : List Int) : Bool := (b2 (has s 0) == 0) && ((b2 (has s 1) == 0) && ((b2 (has s 2) == 0) && ((b2 (has s 3) == 0) && ((b2 (has s 4) == 0) && true))))
theorem none5_of {s : List Int} {x : Int} (hx : x ∈ s) (h0 : 0 ≤ x) (h5 : x < 5) : none5 s = false := by
  have h : has s x = true := has_iff.2 hx
  obtain rfl | rfl | rfl | rfl | rfl : x = 0 ∨ x = 1 ∨ x = 2 ∨ x = 3 ∨ x = 4 := by omega
  all_goals simp [none5, h, b2]
theorem pisOrder_ok (p : List (List Int)) (k : Nat) (hk : k < p.length) (l : List Int) (h1 : p.length ≤ 1000) (hn : 1 ≤ p[k].length ∧ p[k].length ≤ 5) (hl : l.length ≤ 140737488355328) : PO 93 [Bn p, I k, L1 l] (B (isOrd l p[k].length)) := by
  refine fn_pure hmix lk93 rfl rfl ?_
  unfold rc93
  conv => whnf
  refine ⟨.ref 0 0 5 (some 5) 1, [.cells [I 0, I 0, I 0, I 0, I 0]], fun C => by kernel_rfl, ?_⟩
  conv => whnf
  refine ⟨.tuple [], [.cells [I 0, I 0, I 0, I 0, I 0]], fun C => by kernel_rfl, ?_⟩
  conv => whnf
  generalize hnn : p[k].length = n at hn
  refine .intro (fun m T H => ∃ i, i ≤ l.length ∧ m = l.length - i ∧ (ordGo n [] l = ordGo n (l.take i) (l.drop i) ∧ ∀ x ∈ l.take i, 0 ≤ x ∧ x < n) ∧ T = slots 57 [(0, Bn p), (1, I k), (2, L1 l), (7, .ptr 0 0), (11, L1 l), (12, I l.length), (13, I i)] ∧ H = [.cells (mkA (l.take i))]) l.length ⟨0, by omega, by omega, ⟨rfl, by simp⟩, rfl, rfl⟩ ?_
  rintro m T H ⟨i, hi, rfl, ⟨he, hr⟩, rfl, rfl⟩
  conv => whnf
  refine dcase (fun h3 => ?_) (fun h3 => ?_)
  · have hlt : i < l.length := by omega
    rw [List.drop_eq_getElem_cons hlt, ordGo, ← List.take_succ_eq_append_getElem hlt] at he
    conv => whnf
    refine ⟨by omega, ?_⟩
    conv => whnf
    refine nthM _ _ _ (hlt) ?_
    conv => whnf
    refine ⟨by omega, ?_⟩
    conv => whnf
    refine nthM _ _ _ (hk) ?_
    conv => whnf
    rw [wrapI _ (by omega) (by omega)]
    refine ⟨by first | rfl | simp only [List.all_cons, List.all_nil, pu0, pub, pu1, pu2, pu1', pu2', pun, puf, puP, puP', puQ, puQ', Bool.and_true, Bool.and_self], _, within0_ok 0 ((p[k].length : Int) - 1) l[i], ?_⟩
    conv => whnf
    rw [hnn]
    cases h4 : outOf 0 ((n : Int) - 1) l[i] with
    | true =>
      conv => whnf
      exact ret_pure (.inr rfl) rfl (by rw [show isOrd l n = false by rw [isOrd, he, h4]; simp]; rfl)
    | false =>
      rw [h4] at he
      obtain ⟨v0, v1⟩ := outOf_false.1 h4
      conv => whnf
      refine ⟨by omega, ?_⟩
      conv => whnf
      refine nthK_of (x := I (b2 (has (l.take i) l[i]))) (by rw [show 0 + l[i].toNat * 1 = l[i].toNat by omega]; exact mkA_get _ _ v0 (by omega)) ?_
      conv => whnf
      cases h5 : has (l.take i) l[i] with
      | true =>
        conv => whnf
        exact ret_pure (.inr rfl) rfl (by rw [show isOrd l n = false by rw [isOrd, he, h5]; simp]; rfl)
      | false =>
        rw [h5] at he
        conv => whnf
        refine ⟨by omega, ?_⟩
        conv => whnf
        refine updK_of (by simp [mkA]; omega) ?_
        conv => whnf
        refine ⟨l.length - (i + 1), by omega, i + 1, by omega, rfl, ⟨by rw [he]; rfl, fun x hx => ?_⟩, by rw [← wrapS i (by omega)] <;> rfl, ?_⟩
        · rw [List.take_succ_eq_append_getElem hlt, List.mem_append, List.mem_singleton] at hx
          rcases hx with hx | rfl
          · exact hr x hx
          · omega
        · rw [List.take_succ_eq_append_getElem hlt, ← mkA_set _ _ v0 (by omega)]
          simp
  · obtain rfl : i = l.length := by omega
    rw [List.drop_length, ordGo] at he
    rw [List.take_length] at hr ⊢
    conv => whnf
    refine ⟨by simp [mkA], ?_⟩
    conv => whnf
    refine ⟨.bool (!(none5 l)), [.cells (mkA l)], fun C => by kernel_rfl, ?_⟩
    conv => whnf
    have hs : isOrd l n = decide (l.length = n) := by rw [isOrd, he, Bool.and_true]
    cases h6 : none5 l with
    | true =>
      have hl0 : l = [] := by
        cases l with
        | nil => rfl
        | cons x l =>
          have := hr x (by simp)
          rw [none5_of (s := x :: l) (x := x) (by simp) this.1 (by omega)] at h6; cases h6
      conv => whnf
      exact ret_pure (.inr rfl) rfl (by rw [hs, show decide (l.length = n) = false from decide_eq_false (by rw [hl0]; simp; omega)]; rfl)
    | false =>
      conv => whnf
      refine ⟨by omega, ?_⟩
      conv => whnf
      refine nthM _ _ _ (hk) ?_
      conv => whnf
      exact ret_pure (.inr rfl) rfl (by rw [hnn, hs, show decide (l.length = n) = decide ((l.length : Int) = n) by rw [Bool.eq_iff_iff]; simp only [decide_eq_true_eq]; omega]; rfl)
/-! ### seams, joined -/
theorem pseams_ok (p : List (List Int)) (k : Nat) (hk : k < p.length) (o : List Int) (hI : InL p[k] o) (h1 : 1 ≤ o.length) : PO 87 [Bn p, I k, L1 o] (O1 (seamsOf p[k] o)) := by
  have hn := hI.n
  refine fn_pure hmix lk87 rfl (pu1 _ _ _) ?_
  unfold rc87
  conv => whnf
  rw [show IntKind.i64.wrap ((o.length : Int) - 1) = ((o.length - 1 : Nat) : Int) by rw [wrapI _ (by omega) (by omega)]; omega]
  refine ⟨by omega, ?_⟩
  rw [takeI o (o.length - 1) (by omega), ← dropLast_take]
  have hd : o.dropLast.length = o.length - 1 := by simp
  have hi : ∀ x ∈ o.dropLast, x ∈ o := fun x hx => List.dropLast_subset o hx
  unfold seamsOf
  generalize o.dropLast = l at hd hi
  conv => whnf
  refine .intro (CI (fun i => slots 40 [(0, Bn p), (1, I k), (7, U1 (seamsGo p[k] 0 (l.take i))), (8, I (atGo p[k] 0 (l.take i))), (15, L1 l), (16, I l.length), (17, I i)]) l.length []) l.length (ci0 rfl) ?_
  rintro m T H ⟨i, hii, rfl, rfl, rfl⟩
  conv => whnf
  refine dcase (fun h => ?_) (fun h => ?_)
  · have hlt : i < l.length := by omega
    obtain ⟨s1, s2⟩ := seams_take (layer := p[k]) i hlt
    have hb := atGo_bound hI.sm (l.take i) 0
    have hlen : (l.take i).length ≤ i := List.length_take_le _ _
    have hr := hI.r _ (hi _ (List.getElem_mem hlt))
    have hg := getD_bound hI.sm l[i].toNat
    have hll := seamsGo_length p[k] (l.take i) 0
    conv => whnf
    refine ⟨by omega, ?_⟩
    conv => whnf
    refine nthM _ _ _ (hlt) ?_
    conv => whnf
    refine ⟨by omega, ?_⟩
    conv => whnf
    refine nthM _ _ _ (hk) ?_
    conv => whnf
    refine ⟨hr, ?_⟩
    conv => whnf
    refine nthX hr.1 hr.2 ?_
    conv => whnf
    refine ⟨rfl, by decide, rfl, by omega, ?_⟩
    conv => whnf
    exact ciN hlt (by rw [s1, s2, wrapI _ (by omega) (by omega), ← U1_snoc, ← wrapS i (by omega)] <;> rfl)
  · obtain rfl : i = l.length := by omega
    conv => whnf
    exact ret_own (.inr rfl) (pu1 _ _ _) (.inr (by rw [List.take_length]; rfl))
theorem joined_ok (p o : List (List Int)) (hf : Fit p o) : PO 62 [P1 p, L2 o] (.tuple [L2 (seamsE p o), I (ordErr p o)]) := by
  have hp1 := hf.p1
  have ho1 := hf.o1
  by_cases hc : checkP p = 0
  · have hv := checkP_val hc
    have h2 := hv.n2
    have h4 := hv.n4
    refine fn_pure hmix lk62 rfl (puT _ _) ?_
    unfold rc62
    conv => whnf
    refine ⟨by first | rfl | simp only [List.all_cons, List.all_nil, pu0, pub, pu1, pu2, pu1', pu2', pun, puf, puP, puP', puQ, puQ', Bool.and_true, Bool.and_self], _, open_good [] hf.p1 hf.p2 (by simp) hc rfl, ?_⟩
    conv => whnf
    refine dcase (fun h => ?_) (fun h => ?_)
    · have e : ordErr p o = 15 := by unfold ordErr; rw [if_neg (by simp [hc]), if_pos (by omega)]
      conv => whnf
      exact ret_pure (.inr rfl) (puT _ _) (by rw [show seamsE p o = [] from if_neg (by rw [e]; decide), e]; rfl)
    · have hl : o.length = p.length := by omega
      have hz : (List.zip o p).length = o.length := by simp; omega
      conv => whnf
      refine .intro (CP (fun i => (List.zip o p).any (fun x => !isOrd x.1 x.2.length) = ((List.zip o p).drop i).any (fun x => !isOrd x.1 x.2.length)) (fun i => slots 51 [(6, Bn p), (8, .func 93 [Bn p] []), (9, U2 (seamsBy (p.take i) (o.take i))), (30, L2 o), (31, I o.length), (32, I i)]) o.length [.cells [L2 p]]) (o.length - 0) (cp0 0 (Nat.zero_le _) rfl rfl) ?_
      rintro m T H ⟨i, hi, rfl, he, rfl, rfl⟩
      conv => whnf
      refine dcase (fun h3 => ?_) (fun h3 => ?_)
      · have hlt : i < o.length := by omega
        have hlt2 : i < p.length := by omega
        rw [any_drop _ _ i (by omega), List.getElem_zip] at he
        have s1 := hv.s1 _ (List.getElem_mem hlt2)
        have s5 := hv.s5 _ (List.getElem_mem hlt2)
        conv => whnf
        refine ⟨by omega, ?_⟩
        conv => whnf
        refine nthM _ _ _ (hlt) ?_
        conv => whnf
        refine ⟨?_, _, pisOrder_ok p i hlt2 o[i] (by omega) ⟨s1, s5⟩ (hf.o2 _ (List.getElem_mem hlt)), ?_⟩
        · simp only [List.all_cons, List.all_nil, pu1, pu0, puBn, puQ, Bool.and_true]
        conv => whnf
        cases h5 : isOrd o[i] p[i].length with
        | false =>
          have e : ordErr p o = 16 := by unfold ordErr; rw [if_neg (by simp [hc]), if_neg (by omega), he]; simp only [h5]; rfl
          conv => whnf
          exact ret_pure (.inr rfl) (puT _ _) (by rw [show seamsE p o = [] from if_neg (by rw [e]; decide), e]; rfl)
        | true =>
          obtain ⟨k1, k2, k3⟩ := isOrd_iff.1 h5
          have hin : InL p[i] o[i] := ⟨hv.sm (List.getElem_mem hlt2), by omega, k2⟩
          conv => whnf
          refine ⟨?_, _, pseams_ok p i hlt2 o[i] hin (by omega), ?_⟩
          · simp only [List.all_cons, List.all_nil, pu1, pu0, puBn, puQ, Bool.and_true]
          conv => whnf
          have hll : (seamsBy (p.take i) (o.take i)).length ≤ i := by simp [seamsBy]; omega
          refine ⟨rfl, by decide, rfl, by omega, ?_⟩
          conv => whnf
          exact cpN hlt (by rw [he]; simp only [h5]; rfl) (by rw [seamsBy_take i hlt hlt2, ← U2_snoc, ← wrapS i (by omega)] <;> rfl)
      · obtain rfl : i = o.length := by omega
        rw [← hz, List.drop_length] at he
        have e : ordErr p o = 0 := by unfold ordErr; rw [if_neg (by simp [hc]), if_neg (by omega), he]; rfl
        conv => whnf
        exact ret_pure (.inr rfl) (puT _ _) (by rw [show seamsE p o = seamsBy p o from if_pos e, e, List.take_length, hl, List.take_length]; rfl)
  · have e : ordErr p o = checkP p := by unfold ordErr; rw [if_pos hc]
    refine fn_pure hmix lk62 rfl (puT _ _) ?_
    unfold rc62
    conv => whnf
    refine ⟨by first | rfl | simp only [List.all_cons, List.all_nil, pu0, pub, pu1, pu2, pu1', pu2', pun, puf, puP, puP', puQ, puQ', Bool.and_true, Bool.and_self], _, open_bad [] hf.p1 hf.p2 (by simp) hc, ?_⟩
    conv => whnf
    refine dcase (fun h => ?_) (fun h => absurd hc h)
    conv => whnf
    exact ret_pure (.inr rfl) (puT _ _) (by rw [show seamsE p o = [] from if_neg (by rw [e]; exact hc), e]; rfl)
theorem pSeams_ok (p o : List (List Int)) (hf : Fit p o) : PO 23 [P1 p, L2 o] (.tuple [L2 (seamsE p o), I (ordErr p o)]) := by
  refine fn_pure hmix lk23 rfl (puT _ _) ?_
  unfold rc23
  conv => whnf
  refine ⟨by first | rfl | simp only [List.all_cons, List.all_nil, pu0, pub, pu1, pu2, pu1', pu2', pun, puf, puP, puP', puQ, puQ', Bool.and_true, Bool.and_self], _, joined_ok p o hf, ?_⟩
  conv => whnf
  exact ret_pure (.inr rfl) (puT _ _) rfl
end Go.Proofs.Ytlcebaejlnpdeaa.Ab

/-
  Contract: seam.meetings: the map of the places that are kept.
-/
namespace Go.Proofs.Ytlcebaejlnpdeaa.Ab
open Go
section
variable {P : Program}
/-- A function's contract. -/
theorem fn_sem (hmix : P.follows .mixedOrders = true) {k : Nat} {A : FAnn} {rc : RC} {n : Nat} {ts : List RV} (hl : linkF P A k = some (rc, n, ts)) {lo : Nat} {args T : List AV} {H H' : List AObj} (hT : args ++ List.replicate (n - args.length) .junk = T) {v : AV} (hlow : Low lo H H')
    (h : wpR P A k lo none rc T H fun e T1 H1 => (e = .normal ∨ e = .ret) ∧ Fgt H1 H' ∧ (readR H1 T1 ts).map packResults = some v) : Sem P (.fn k) args H lo v H' := by
  unfold linkF at hl
  split at hl
  · rename_i f hf
    split at hl
    · rename_i c hb
      split at hl
      · rename_i rc' ts' h1 h2 h3 h4
        simp only [Option.some.injEq, Prod.mk.injEq] at hl
        obtain ⟨rfl, rfl, rfl⟩ := hl
        subst hT
        refine sem_fn hmix hf hb (by simpa using h2) h1 hlow (wpA_mono (fun e s hq => ?_) (link_ok h3 h))
        obtain ⟨g1, g2, g3⟩ := hq
        simp only [Option.map_eq_some_iff] at g3
        obtain ⟨vs, g3, g4⟩ := g3
        exact ⟨g1, g2, vs, by rw [readR_eq _ _ h4, g3], g4⟩
      · cases hl
    · cases hl
  · cases hl
end
/-! ### seam.meetings -/
/-- A place: a layer, and a number. -/
def pk (p : Nat × Int) : AV := .agg [I p.1, I p.2]
def ents : List (Nat × Int) → Nat → List (Nat × AV × AV)
  | [], _ => []
  | p :: l, b => (b, pk p, I 1) :: ents l (b + 1)
theorem ents_append : ∀ (a c : List (Nat × Int)) (b : Nat), ents (a ++ c) b = ents a b ++ ents c (b + a.length)
  | [], c, b => by simp [ents]
  | p :: a, c, b => by simp only [List.cons_append, ents, ents_append a c (b + 1), List.length_cons]; rw [Nat.add_right_comm]; rfl
theorem eqKey_pk (p q : Nat × Int) : eqKey (pk p) (pk q) = some (decide (p = q)) := by
  obtain ⟨a, b⟩ := p
  obtain ⟨c, d⟩ := q
  have h1 : ((a : Int) == (c : Int)) = decide (a = c) := by rw [Bool.eq_iff_iff, beq_iff_eq, decide_eq_true_iff]; omega
  have h2 : (b == d) = decide (b = d) := by rw [Bool.eq_iff_iff]; simp
  simp [eqKey, pk, eqInts, h1, h2, Prod.ext_iff, Bool.decide_and]
theorem findK_new (p : Nat × Int) : ∀ (l : List (Nat × Int)) (b n : Nat), p ∉ l → findK (pk p) (ents l b) n = some none
  | [], b, n, _ => rfl
  | q :: l, b, n, h => by
    have hq : decide (p = q) = false := by simp; rintro rfl; exact h (by simp)
    simp only [ents, findK, eqKey_pk, hq]
    exact findK_new p l (b + 1) (n + 1) fun hm => h (by simp [hm])
/-- The places of rows, layer by layer. -/
def places : List (List Int) → Nat → List (Nat × Int)
  | [], _ => []
  | r :: rows, i => r.map (fun x => (i, x)) ++ places rows (i + 1)
theorem places_append : ∀ (a c : List (List Int)) (i : Nat), places (a ++ c) i = places a i ++ places c (i + a.length)
  | [], c, i => by simp [places]
  | r :: a, c, i => by simp only [List.cons_append, places, places_append a c (i + 1), List.length_cons, List.append_assoc]; rw [Nat.add_right_comm]; rfl
theorem places_take (rows : List (List Int)) (i : Nat) (h : i < rows.length) : places (rows.take (i + 1)) 0 = places (rows.take i) 0 ++ rows[i].map fun x => (i, x) := by
  rw [List.take_succ_eq_append_getElem h, places_append]
  simp [places, List.length_take, Nat.min_eq_left (Nat.le_of_lt h)]
/-- The places, numbered. -/
def num : List (Nat × Int) → Nat → List (Nat × Nat × Int)
  | [], _ => []
  | p :: l, b => (b, p) :: num l (b + 1)
def entOf (q : Nat × Nat × Int) : Nat × AV × AV := (q.1, pk q.2, I 1)
theorem ents_num : ∀ (l : List (Nat × Int)) (b : Nat), ents l b = (num l b).map entOf
  | [], b => rfl
  | p :: l, b => by simp only [ents, num, List.map_cons, entOf, ents_num l (b + 1)]
theorem num_lt : ∀ (l : List (Nat × Int)) (b : Nat), ∀ q ∈ num l b, b ≤ q.1 ∧ q.1 < b + l.length ∧ q.2 ∈ l
  | [], b, q, h => by simp [num] at h
  | p :: l, b, q, h => by
    simp only [num, List.mem_cons] at h
    rcases h with rfl | h
    · simp
    · have := num_lt l (b + 1) q h
      simp only [List.length_cons, List.mem_cons]
      exact ⟨by omega, by omega, .inr this.2.2⟩
/-- Numbers tell places apart. -/
theorem num_inj : ∀ (l : List (Nat × Int)) (b : Nat), ∀ q ∈ num l b, ∀ q' ∈ num l b, q.1 = q'.1 → q = q'
  | [], b, q, h, _, _, _ => by simp [num] at h
  | p :: l, b, q, h, q', h', e => by
    simp only [num, List.mem_cons] at h h'
    rcases h with rfl | h <;> rcases h' with rfl | h'
    · rfl
    · have := num_lt l (b + 1) q' h'; simp only at e; omega
    · have := num_lt l (b + 1) q h; simp only at e; omega
    · exact num_inj l (b + 1) q h q' h' e
/-- Places tell numbers apart. -/
theorem num_inj2 : ∀ (l : List (Nat × Int)) (b : Nat), l.Nodup → ∀ q ∈ num l b, ∀ q' ∈ num l b, q.2 = q'.2 → q = q'
  | [], b, _, q, h, _, _, _ => by simp [num] at h
  | p :: l, b, hn, q, h, q', h', e => by
    simp only [num, List.mem_cons] at h h'
    have hn' := List.nodup_cons.1 hn
    rcases h with rfl | h <;> rcases h' with rfl | h'
    · rfl
    · have := num_lt l (b + 1) q' h'; simp only at e; exact absurd (e ▸ this.2.2) hn'.1
    · have := num_lt l (b + 1) q h; simp only at e; exact absurd (e.symm ▸ this.2.2) hn'.1
    · exact num_inj2 l (b + 1) hn'.2 q h q' h' e
theorem num_pair : ∀ (l : List (Nat × Int)) (b : Nat), (num l b).Nodup
  | [], b => List.nodup_nil
  | p :: l, b => List.nodup_cons.2 ⟨fun h => by have := num_lt l (b + 1) _ h; simp only at this; omega, num_pair l (b + 1)⟩
/-- Where a key lies among entries, and what is left without it. -/
theorem findK_at (q : Nat × Nat × Int) : ∀ (l : List (Nat × Nat × Int)) (n : Nat), q ∈ l → (∀ q' ∈ l, q.2 = q'.2 → q = q') → l.Nodup → ∃ i, findK (pk q.2) (l.map entOf) n = some (some (n + i)) ∧ (l.map entOf).eraseIdx i = (l.filter fun q' => !decide (q' = q)).map entOf
  | [], n, h, _, _ => by simp at h
  | q' :: l, n, h, hd, hn => by
    have hn' := List.nodup_cons.1 hn
    cases hp : decide (q.2 = q'.2) with
    | true =>
      have e : q = q' := hd q' (by simp) (of_decide_eq_true hp)
      subst e
      refine ⟨0, ?_, ?_⟩
      · simp [List.map_cons, findK, entOf, eqKey_pk]
      · simp only [List.map_cons, List.eraseIdx_cons_zero, List.filter_cons, decide_true, Bool.not_true, Bool.false_eq_true, if_false]
        congr 1
        symm; apply List.filter_eq_self.2
        intro a ha; simp; rintro rfl; exact hn'.1 ha
    | false =>
      have ne : q ≠ q' := fun e => by subst e; simp at hp
      have hm : q ∈ l := by simpa [ne] using h
      obtain ⟨i, h1, h2⟩ := findK_at q l (n + 1) hm (fun a ha => hd a (by simp [ha])) hn'.2
      refine ⟨i + 1, ?_, ?_⟩
      · simp only [List.map_cons, findK, entOf, eqKey_pk, hp]
        rw [show n + (i + 1) = n + 1 + i by omega]; exact h1
      · have : decide (q' = q) = false := by simp; exact fun e => ne e.symm
        simp only [List.map_cons, List.eraseIdx_cons_succ, List.filter_cons, this, Bool.not_false, if_true, h2]
/-- Which places are kept: seams of the next layer, too. -/
def kept (rows : List (List Int)) (p : Nat × Int) : Bool := match rows[p.1 + 1]? with
  | some r => has r p.2
  | none => false
/-- What is left when these have been looked at. -/
def left (rows : List (List Int)) (seen : List Nat) : List (Nat × Nat × Int) := (num (places rows 0) 0).filter fun q => !seen.contains q.1 || kept rows q.2
/-- The map of all places that are kept. -/
def meets (rows : List (List Int)) : List (Nat × AV × AV) := ((num (places rows 0) 0).filter fun q => kept rows q.2).map entOf
theorem num_length : ∀ (l : List (Nat × Int)) (b : Nat), (num l b).length = l.length
  | [], b => rfl
  | p :: l, b => by simp only [num, List.length_cons, num_length l (b + 1)]
theorem drop_one {l : List (Nat × Nat × Int)} (hn : l.Nodup) (hi : ∀ q ∈ l, ∀ q' ∈ l, q.1 = q'.1 → q = q') {q : Nat × Nat × Int} {seen : List Nat} (hq : q ∈ l) (hs : q.1 ∉ seen) :
    (l.filter fun q => !seen.contains q.1).length = (l.filter fun q' => !(seen ++ [q.1]).contains q'.1).length + 1 := by
  have e : (l.filter fun q' => !(seen ++ [q.1]).contains q'.1) = (l.filter fun q => !seen.contains q.1).filter fun q' => q' != q := by
    rw [List.filter_filter]
    apply List.filter_congr
    intro q' hq'
    have : (q'.1 == q.1) = (q' == q) := by
      rw [Bool.eq_iff_iff, beq_iff_eq, beq_iff_eq]; exact ⟨fun e => hi _ hq' _ hq e, fun e => by rw [e]⟩
    simp only [List.contains_eq_mem, List.mem_append, List.mem_singleton, bne, this.symm]
    by_cases h1 : q'.1 ∈ seen <;> by_cases h2 : q'.1 = q.1 <;> simp [h1, h2]
  have hm : q ∈ l.filter fun q => !seen.contains q.1 := List.mem_filter.2 ⟨hq, by simpa using hs⟩
  rw [e, ← List.Nodup.erase_eq_filter (hn.filter _), List.length_erase_of_mem hm]
  have := List.length_pos_of_mem hm
  omega
theorem find_num {q : Nat × Nat × Int} : ∀ {l : List (Nat × Nat × Int)}, q ∈ l → (∀ q' ∈ l, q.1 = q'.1 → q = q') → (l.map entOf).find? (fun e => e.1 == q.1) = some (entOf q)
  | [], h, _ => by simp at h
  | q' :: l, h, hi => by
    by_cases e : q = q'
    · subst e; simp [List.find?, entOf]
    · have h1 : ((entOf q').1 == q.1) = false := by
        simp only [entOf, beq_eq_false_iff_ne]; exact fun h => e (hi q' (by simp) h.symm)
      rw [List.map_cons, List.find?_cons, h1]
      exact find_num (by simpa [e] using h) fun a ha => hi a (by simp [ha])
theorem set_concat (X : List AObj) (c c' : AObj) : (X ++ [c]).set X.length c' = X ++ [c'] := by simp
theorem get_concat (X : List AObj) (c : AObj) : (X ++ [c])[X.length]? = some c := by simp
theorem places_lt : ∀ (rows : List (List Int)) (i : Nat), ∀ p ∈ places rows i, i ≤ p.1 ∧ p.1 < i + rows.length
  | [], i, p, h => by simp [places] at h
  | r :: rows, i, p, h => by
    simp only [places, List.mem_append, List.mem_map] at h
    rcases h with ⟨x, _, rfl⟩ | h
    · simp
    · have := places_lt rows (i + 1) p h
      simp only [List.length_cons]; omega
theorem left_keep {rows : List (List Int)} {seen : List Nat} {q : Nat × Nat × Int} (hq : q ∈ num (places rows 0) 0) (hk : kept rows q.2 = true) : left rows (seen ++ [q.1]) = left rows seen := by
  refine List.filter_congr fun a ha => ?_
  by_cases e : a.1 = q.1
  · have := num_inj _ _ a ha q hq e; subst this; simp [hk]
  · simp [e]
theorem left_drop {rows : List (List Int)} {seen : List Nat} {q : Nat × Nat × Int} (hq : q ∈ num (places rows 0) 0) (hk : kept rows q.2 = false) : left rows (seen ++ [q.1]) = (left rows seen).filter fun q' => !decide (q' = q) := by
  unfold left
  rw [List.filter_filter]
  refine List.filter_congr fun a ha => ?_
  by_cases e : a.1 = q.1
  · have := num_inj _ _ a ha q hq e; subst this; simp [hk]
  · have : a ≠ q := fun h => e (by rw [h])
    simp [e, this]
set_option maxRecDepth 20000 in
theorem meetings_ok (rows : List (List Int)) (hl : rows.length ≤ 1000) (hr : ∀ r ∈ rows, r.length ≤ 1000) (hn : (places rows 0).Nodup) :
    Sem Go.Proofs.Try.prog (.fn 63) [L2 rows] [] 0 (.map 0) (.map (meets rows) (places rows 0).length :: List.replicate ((places rows 0).length + 1) .dead) := by
  refine fn_sem hmix lk63 rfl ⟨Nat.zero_le _, fun id h => by omega⟩ ?_
  unfold rc63
  conv => whnf
  refine .intro (fun m T H => ∃ i, i ≤ rows.length ∧ m = rows.length - i ∧ T = slots 56 [(0, L2 rows), (3, .map 0), (10, L2 rows), (11, I rows.length), (12, I i)] ∧
    H = [.map (ents (places (rows.take i) 0) 0) (places (rows.take i) 0).length]) rows.length ⟨0, by omega, by omega, rfl, rfl⟩ ?_
  rintro m T H ⟨i, hi, rfl, rfl, rfl⟩
  conv => whnf
  split
  · rename_i hlt
    have hlt : i < rows.length := by simpa using hlt
    conv => whnf
    refine ⟨by omega, ?_⟩
    conv => whnf
    refine nthM _ _ _ hlt ?_
    conv => whnf
    have hrl : rows[i].length ≤ 1000 := hr _ (List.getElem_mem hlt)
    refine .intro (fun m T H => ∃ j, j ≤ rows[i].length ∧ m = rows[i].length - j ∧ T = slots 56 [(0, L2 rows), (3, .map 0), (4, I i), (10, L2 rows), (11, I rows.length), (12, I i), (17, L1 rows[i]), (18, I rows[i].length), (19, I j)] ∧
      H = [.map (ents (places (rows.take i) 0 ++ (rows[i].take j).map fun x => (i, x)) 0) (places (rows.take i) 0 ++ (rows[i].take j).map fun x => (i, x)).length]) rows[i].length ⟨0, by omega, by omega, rfl, by simp⟩ ?_
    rintro m T H ⟨j, hj, rfl, rfl, rfl⟩
    conv => whnf
    split
    · rename_i hlt2
      have hlt2 : j < rows[i].length := by simpa using hlt2
      conv => whnf
      refine ⟨by omega, ?_⟩
      conv => whnf
      refine nthM _ _ _ hlt2 ?_
      conv => whnf
      refine ⟨rfl, _, _, rfl, none, findK_new (i, rows[i][j]) _ 0 0 ?_, ?_⟩
      · have e := places_take rows i hlt
        have hn2 : (places (rows.take (i + 1)) 0).Nodup := by
          have := hn
          rw [← List.take_append_drop (i + 1) rows, places_append] at this
          exact (List.nodup_append.1 this).1
        rw [e] at hn2
        have e2 : rows[i].map (fun x => (i, x)) = (rows[i].take j).map (fun x => (i, x)) ++ (i, rows[i][j]) :: (rows[i].drop (j + 1)).map fun x => (i, x) := by
          rw [← List.map_cons (f := fun x => (i, x)), ← List.map_append, ← List.drop_eq_getElem_cons hlt2, List.take_append_drop]
        rw [e2, ← List.append_assoc] at hn2
        have h3 := (List.nodup_append.1 hn2).2.2
        exact fun hm => h3 _ hm _ (by simp) rfl
      conv => whnf
      refine ⟨rows[i].length - (j + 1), by omega, j + 1, by omega, rfl, by rw [← wrapS j (by omega)]; rfl, ?_⟩
      have e2 : (rows[i].take (j + 1)).map (fun x => (i, x)) = (rows[i].take j).map (fun x => (i, x)) ++ [(i, rows[i][j])] := by
        rw [List.take_succ_eq_append_getElem hlt2, List.map_append]; rfl
      rw [e2, ← List.append_assoc, ents_append (_ ++ _), List.length_append (bs := [_]), Nat.zero_add]
      rfl
    · rename_i hge2
      have hge2 : ¬ j < rows[i].length := by simpa using hge2
      obtain rfl : j = rows[i].length := by omega
      conv => whnf
      refine ⟨rows.length - (i + 1), by omega, i + 1, by omega, rfl, by rw [← wrapS i (by omega)]; rfl, ?_⟩
      rw [places_take rows i hlt, List.take_length]
  · rename_i hge
    have hge : ¬ i < rows.length := by simpa using hge
    obtain rfl : i = rows.length := by omega
    rw [List.take_length]
    conv => whnf
    refine ⟨_, _, rfl, ?_⟩
    conv => whnf
    have fT : ∀ {l : List (Nat × Nat × Int)}, l.filter (fun _ => true) = l := List.filter_eq_self.2 fun _ _ => rfl
    refine .intro (fun m T H => ∃ seen G, m = ((num (places rows 0) 0).filter fun q => !seen.contains q.1).length ∧ m + G.length = (places rows 0).length ∧ T = slots 56 [(0, L2 rows), (3, .map 0), (30, .ptr 1 0)] ∧
      H = .map ((left rows seen).map entOf) (places rows 0).length :: .iter 0 (places rows 0).length seen (places rows 0).length :: G) _ ⟨[], [], rfl, by rw [show (fun q : Nat × Nat × Int => !([] : List Nat).contains q.1) = fun _ => true from rfl, fT, num_length]; rfl, rfl, ?_⟩ ?_
    · simp only [left, List.contains_nil, Bool.not_false, Bool.true_or, fT, ents_num]; rfl
    rintro m T H ⟨seen, G, rfl, hG, rfl, rfl⟩
    conv => whnf
    refine ⟨0, _, seen, _, _, rfl, rfl, Nat.le_refl _, ?_, ?_, ?_⟩
    · intro e he
      obtain ⟨q, hq, rfl⟩ := List.mem_map.1 he
      have := num_lt _ _ q (List.mem_filter.1 hq).1
      simp only [entOf]; omega
    · intro hall
      conv => whnf
      refine ⟨.inr rfl, ?_, rfl⟩
      have hs : ∀ q ∈ num (places rows 0) 0, q.1 ∈ seen := fun q hq => by
        refine Classical.byContradiction fun hc => hc ?_
        exact hall (entOf q) (List.mem_map.2 ⟨q, List.mem_filter.2 ⟨hq, by simp [hc]⟩, rfl⟩)
      have e0 : ((num (places rows 0) 0).filter fun q => !seen.contains q.1) = [] := by
        rw [List.filter_eq_nil_iff]; intro q hq; simpa using hs q hq
      rw [e0, List.length_nil, Nat.zero_add] at hG
      have e1 : left rows seen = (num (places rows 0) 0).filter fun q => kept rows q.2 := List.filter_congr fun q hq => by simp [hs q hq]
      rw [e1]
      refine ⟨by simp [hG], fun id o ho => ?_⟩
      cases id with
      | zero => exact .inr (by simpa [meets] using ho)
      | succ id => exact .inl (List.eq_of_mem_replicate (List.mem_of_getElem? (by simpa using ho)))
    · intro e he hns
      obtain ⟨q, hq, rfl⟩ := List.mem_map.1 he
      conv => whnf
      have hq' := (List.mem_filter.1 hq).1
      refine ⟨0, _, _, _, q.1, _, entOf q, rfl, by simp [entOf], rfl, find_num hq fun a ha e => num_inj _ _ q hq' a (List.mem_filter.1 ha).1 e, ?_⟩
      generalize hX : ((AObj.map ((left rows seen).map entOf) (places rows 0).length :: AObj.iter 0 (places rows 0).length seen (places rows 0).length :: G).set 1 (AObj.iter 0 (places rows 0).length (seen ++ [(entOf q).1]) (places rows 0).length)) = X
      conv => whnf
      refine nthK_of (get_concat X _) ?_
      conv => whnf
      rw [set_concat]
      refine nthK_of (get_concat X _) ?_
      conv => whnf
      have hlt : q.2.1 < rows.length := by have := places_lt rows 0 _ (num_lt _ _ q hq').2.2; omega
      have hm1 := drop_one (num_pair (places rows 0) 0) (num_inj (places rows 0) 0) hq' (seen := seen) hns
      rw [wrapS _ (by omega)]
      cases hd : decide (((q.2.1 + 1 : Nat) : Int) = rows.length) with
      | true =>
        have hd := of_decide_eq_true hd
        have hk : kept rows q.2 = false := by
          unfold kept; rw [List.getElem?_eq_none (by omega)]
        conv => whnf
        refine nthK_of (get_concat X _) ?_
        conv => whnf
        obtain ⟨k, hk1, hk2⟩ := findK_at q (left rows seen) 0 hq (fun a ha e => num_inj2 _ _ hn q hq' a (List.mem_filter.1 ha).1 e) ((num_pair _ _).filter _)
        rw [Nat.zero_add] at hk1
        refine ⟨rfl, _, _, (by subst hX; rfl : (X ++ [AObj.cells [(I q.2.1).settle, (I q.2.2).settle]])[0]? = some (.map ((left rows seen).map entOf) (places rows 0).length)), some k, hk1, ?_⟩
        conv => whnf
        exact ⟨_, by rw [hm1]; exact Nat.lt_succ_self _, seen ++ [q.1], G ++ [.cells [I q.2.1, I q.2.2]], rfl, by rw [List.length_append, List.length_singleton]; omega, rfl, by rw [hk2, ← left_drop hq' hk]; subst hX; rfl⟩
      | false =>
        have hd := of_decide_eq_false hd
        have hi : q.2.1 + 1 < rows.length := by omega
        conv => whnf
        refine nthK_of (get_concat X _) ?_
        conv => whnf
        rw [wrapS _ (by omega)]
        conv => whnf
        refine ⟨⟨by omega, by omega⟩, ?_⟩
        conv => whnf
        refine nthM _ _ _ hi ?_
        conv => whnf
        refine nthK_of (get_concat X _) ?_
        conv => whnf
        refine ⟨?_, _, contains_ok rows[q.2.1 + 1] q.2.2 (by have := hr _ (List.getElem_mem hi); omega), fun p hp => by simp at hp, ?_⟩
        · simp only [List.all_cons, List.all_nil, Bool.and_true, Bool.and_eq_true]; exact ⟨pure_L1 6 _, rfl⟩
        have hkept : kept rows q.2 = has rows[q.2.1 + 1] q.2.2 := by
          unfold kept; rw [List.getElem?_eq_getElem hi]
        rw [← hkept]
        conv => whnf
        cases hk : kept rows q.2 with
        | false =>
          conv => whnf
          refine nthK_of (get_concat X _) ?_
          conv => whnf
          obtain ⟨k, hk1, hk2⟩ := findK_at q (left rows seen) 0 hq (fun a ha e => num_inj2 _ _ hn q hq' a (List.mem_filter.1 ha).1 e) ((num_pair _ _).filter _)
          rw [Nat.zero_add] at hk1
          refine ⟨rfl, _, _, (by subst hX; rfl : (X ++ [AObj.cells [(I q.2.1).settle, (I q.2.2).settle]])[0]? = some (.map ((left rows seen).map entOf) (places rows 0).length)), some k, hk1, ?_⟩
          conv => whnf
          exact ⟨_, by rw [hm1]; exact Nat.lt_succ_self _, seen ++ [q.1], G ++ [.cells [I q.2.1, I q.2.2]], rfl, by rw [List.length_append, List.length_singleton]; omega, rfl, by rw [hk2, ← left_drop hq' hk]; subst hX; rfl⟩
        | true =>
          conv => whnf
          exact ⟨_, by rw [hm1]; exact Nat.lt_succ_self _, seen ++ [q.1], G ++ [.cells [I q.2.1, I q.2.2]], rfl, by rw [List.length_append, List.length_singleton]; omega, rfl, by rw [left_keep hq' hk]; subst hX; rfl⟩
end Go.Proofs.Ytlcebaejlnpdeaa.Ab

/-
  Contracts: CheckOrders, Through, Distance.
-/
namespace Go.Proofs.Ytlcebaejlnpdeaa.Ab
open Go
set_option maxRecDepth 20000
theorem num_filter (k : Nat × Int → Bool) : ∀ (l : List (Nat × Int)) (b : Nat), ((num l b).filter fun q => k q.2).length = (l.filter k).length
  | [], b => rfl
  | p :: l, b => by
    simp only [num, List.filter_cons]
    by_cases h : k p = true <;> simp [h, num_filter k l]
theorem kept_map (all : List (List Int)) (i : Nat) (r : List Int) (next : List Int) (h : all[i + 1]? = some next) : ((r.map fun x => (i, x)).filter (kept all)).length = common r next := by
  unfold common
  induction r with
  | nil => rfl
  | cons x r ih =>
    simp only [List.map_cons, List.filter_cons]
    have e : kept all (i, x) = has next x := by unfold kept; rw [h]
    rw [e]
    by_cases hx : has next x = true <;> simp [hx, ih]
theorem kept_last (all : List (List Int)) (i : Nat) (r : List Int) (h : all[i + 1]? = none) : ((r.map fun x => (i, x)).filter (kept all)).length = 0 := by
  rw [List.length_eq_zero_iff, List.filter_eq_nil_iff]
  intro p hp
  obtain ⟨x, _, rfl⟩ := List.mem_map.1 hp
  simp [kept, h]
theorem places_meet (all : List (List Int)) : ∀ (l : List (List Int)) (i : Nat), all.drop i = l → ((places l i).filter (kept all)).length = meetN l
  | [], i, _ => rfl
  | r :: l, i, h => by
    have hd : all.drop (i + 1) = l := by rw [← List.drop_drop, h]; rfl
    have ih := places_meet all l (i + 1) hd
    simp only [places, List.filter_append, List.length_append, ih]
    have hn : all[i + 1]? = l[0]? := by rw [← hd, List.getElem?_drop] <;> rfl
    cases l with
    | nil => rw [kept_last all i r (by simpa using hn)] <;> rfl
    | cons s l => rw [kept_map all i r s (by simpa using hn)] <;> rfl
theorem meets_length (rows : List (List Int)) : (meets rows).length = meetN rows := by
  unfold meets
  rw [List.length_map, num_filter (kept rows), places_meet rows rows 0 rfl]
theorem seamsGo_inc {layer : List Int} (hw : ∀ x ∈ layer, 1 ≤ x) : ∀ (l : List Int) (a : Int), (∀ x ∈ l, 0 ≤ x ∧ x < layer.length) → (∀ x ∈ seamsGo layer a l, a < x) ∧ (seamsGo layer a l).Pairwise (· < ·)
  | [], a, _ => by simp [seamsGo]
  | i :: l, a, h => by
    obtain ⟨h0, e⟩ := getD_of (h i (by simp)).1 (h i (by simp)).2
    have h1 : 1 ≤ layer.getD i.toNat 0 := by rw [e]; exact hw _ (List.getElem_mem h0)
    obtain ⟨k1, k2⟩ := seamsGo_inc hw l (a + layer.getD i.toNat 0) fun x hx => h x (by simp [hx])
    simp only [seamsGo, List.mem_cons, List.pairwise_cons]
    refine ⟨?_, k1, k2⟩
    rintro x (rfl | hx)
    · omega
    · have := k1 x hx; omega
theorem places_nodup : ∀ (l : List (List Int)) (i : Nat), (∀ r ∈ l, r.Nodup) → (places l i).Nodup
  | [], i, _ => by simp [places]
  | r :: l, i, h => by
    simp only [places]
    refine List.nodup_append.2 ⟨?_, places_nodup l (i + 1) fun s hs => h s (by simp [hs]), ?_⟩
    · exact List.pairwise_map.2 ((h r (by simp)).imp fun hab e => hab (by simpa using e))
    · intro a ha b hb e
      obtain ⟨x, _, rfl⟩ := List.mem_map.1 ha
      have := places_lt l (i + 1) b hb
      rw [← e] at this; simp only at this; omega
theorem seamsBy_inc {p o : List (List Int)} (hv : Val p) (ho : Ords p o) : ∀ r ∈ seamsBy p o, r.Pairwise (· < ·) := by
  intro r hr
  obtain ⟨i, hi, rfl⟩ := List.mem_iff_getElem.1 hr
  have hl := seamsBy_length ho
  have h1 : i < p.length := by omega
  have h2 : i < o.length := by have := ho.len; omega
  rw [seamsBy_get i hi h1 h2]
  exact (seamsGo_inc (fun x hx => (hv.w _ (List.getElem_mem h1) x hx).1) _ 0 fun x hx => (ho.inL hv i h2 h1).r x (List.dropLast_subset _ hx)).2
theorem inc_nodup {l : List Int} (h : l.Pairwise (· < ·)) : l.Nodup := h.imp fun hab e => by omega
/-- The call that makes the map of meetings. -/
theorem meet_call (rows : List (List Int)) (hl : rows.length ≤ 1000) (hr : ∀ r ∈ rows, r.length ≤ 1000) (hn : (places rows 0).Nodup) (H : List AObj) (lo : Nat) :
    CallS Go.Proofs.Try.prog 2 lo (.fn 63) [L2 rows] H (.map H.length) (H ++ [.map (meets rows) (places rows 0).length]) :=
  call2m (by simp only [List.all_cons, List.all_nil, Bool.and_true]; exact pure_L2 5 rows) (fun j i k v h => by
    have := List.mem_of_getElem? h
    unfold meets at this
    obtain ⟨q, _, e⟩ := List.mem_map.1 this
    simp only [entOf, Prod.mk.injEq] at e
    obtain ⟨_, rfl, rfl⟩ := e
    exact ⟨rfl, rfl⟩) (meetings_ok rows hl hr hn) H lo
theorem pmeet_ok (p o : List (List Int)) (hf : Fit p o) : PO 21 [P1 p, L2 o] (.tuple [I (meetOf p o), I (ordErr p o)]) := by
  refine fn_pure hmix lk21 rfl rfl ?_
  unfold rc21
  conv => whnf
  refine ⟨by first | rfl | simp only [List.all_cons, List.all_nil, pu0, pub, pu1, pu2, pu1', pu2', pun, puf, puP, puP', puQ, puQ', Bool.and_true, Bool.and_self], _, joined_ok p o hf, ?_⟩
  conv => whnf
  refine dcase (fun h => ?_) (fun h => ?_)
  · conv => whnf
    exact ret_pure (.inr rfl) rfl (by rw [show meetOf p o = 0 from if_neg h]; rfl)
  · have h := Classical.not_not.1 h
    obtain ⟨hv, ho⟩ := ordErr_zero.1 h
    have hl := seamsBy_length ho
    have hq := seamsBy_pos hv ho
    have hi := seamsBy_inc hv ho
    have h4 := hv.n4
    rw [show meetOf p o = meetN (seamsBy p o) from if_pos h, h, show seamsE p o = seamsBy p o from if_pos h]
    generalize seamsBy p o = l at hl hq hi
    conv => whnf
    refine ⟨_, _, meet_call l (by omega) (fun r hr => by have := (hq r hr).2; omega) (places_nodup l 0 fun r hr => inc_nodup (hi r hr)) _ _, ?_⟩
    conv => whnf
    refine ⟨_, _, rfl, ?_⟩
    conv => whnf
    exact ret_pure (.inr rfl) rfl (by rw [← meets_length]; rfl)
theorem takeF (l : List Int) (c : Cap) : AV.lst ((l.map I).take ((l.length : Int).toNat * 1)) (l.length : Int).toNat c = .lst (l.map I) l.length c := by
  simp [← List.map_take]
theorem dropL (l : List (List Int)) : AV.lst (((l.map L1).drop ((1 : Int).toNat * 1)).take ((l.length - (1 : Int).toNat) * 1)) (l.length - (1 : Int).toNat) .shared = L2 (l.drop 1) := by
  have e : ((l.map L1).drop 1).take (l.length - 1) = (l.drop 1).map L1 := by rw [← List.map_drop, List.take_of_length_le (by simp)]
  show AV.lst (((l.map L1).drop 1).take ((l.length - 1) * 1)) (l.length - 1) .shared = _
  rw [Nat.mul_one, e, L2, List.length_drop]
theorem pthrough_ok (p o : List (List Int)) (hf : Fit p o) : PO 28 [P1 p, L2 o] (.tuple [L1 (thruOf p o), I (ordErr p o)]) := by
  refine fn_pure hmix lk28 rfl (puT1 _ _) ?_
  unfold rc28
  conv => whnf
  refine ⟨by first | rfl | simp only [List.all_cons, List.all_nil, pu0, pub, pu1, pu2, pu1', pu2', pun, puf, puP, puP', puQ, puQ', Bool.and_true, Bool.and_self], _, joined_ok p o hf, ?_⟩
  conv => whnf
  refine dcase (fun h => ?_) (fun h => ?_)
  · conv => whnf
    exact ret_pure (.inr rfl) (puT1 _ _) (by rw [show thruOf p o = [] from if_neg h]; rfl)
  · have h := Classical.not_not.1 h
    obtain ⟨hv, ho⟩ := ordErr_zero.1 h
    have hl := seamsBy_length ho
    have hq := seamsBy_pos hv ho
    have h2 := hv.n2
    have h4 := hv.n4
    rw [show thruOf p o = thru (seamsBy p o) from if_pos h, h, show seamsE p o = seamsBy p o from if_pos h]
    generalize seamsBy p o = l at hl hq
    have h0 : 0 < l.length := by omega
    have hd : l.headD [] = l[0] := headD0 _ h0
    have l0 := (hq _ (List.getElem_mem h0)).2
    have hall : ∀ x ∈ l[0], (l.all fun r => has r x) = ((l.drop 1).all fun r => has r x) := fun x hx => by
      have := all_drop (fun r => has r x) l 0 h0
      rw [List.drop_zero, has_iff.2 hx, Bool.true_and] at this; exact this
    have ht : thru l = l[0].filter fun x => (l.drop 1).all fun r => has r x := by
      unfold thru; rw [hd]; exact List.filter_congr fun x hx => hall x hx
    rw [ht]
    conv => whnf
    refine ⟨by omega, ?_⟩
    conv => whnf
    refine nthM _ _ _ (h0) ?_
    conv => whnf
    refine .intro (fun m T H => ∃ i c, i ≤ l[0].length ∧ m = l[0].length - i ∧ (c = .uniq 1 ∨ c = .own 1) ∧ T = slots 53 [(6, L2 l), (8, .lst (((l[0].take i).filter fun x => (l.drop 1).all fun r => has r x).map I) ((l[0].take i).filter fun x => (l.drop 1).all fun r => has r x).length c), (24, L1 l[0]), (25, I l[0].length), (26, I i)] ∧ H = [.cells [L2 p]]) l[0].length ⟨0, .uniq 1, by omega, by omega, .inl rfl, rfl, rfl⟩ ?_
    rintro m T H ⟨i, c, hi, rfl, hc, rfl, rfl⟩
    conv => whnf
    refine dcase (fun h3 => ?_) (fun h3 => ?_)
    · have hlt : i < l[0].length := by omega
      have e := filter_take (fun x => (l.drop 1).all fun r => has r x) l[0] i hlt
      conv => whnf
      refine ⟨by omega, ?_⟩
      conv => whnf
      refine nthM _ _ _ (hlt) ?_
      conv => whnf
      refine ⟨by omega, ?_⟩
      conv => whnf
      rw [dropL]
      conv => whnf
      generalize hA : (l[0].take i).filter (fun x => (l.drop 1).all fun r => has r x) = A at e ⊢
      have hAn : A.length ≤ i := by rw [← hA]; exact Nat.le_trans (List.length_filter_le _ _) (List.length_take_le _ _)
      refine .intro (CP (fun j => ((l.drop 1).all fun r => has r l[0][i]) = (((l.drop 1).drop j).all fun r => has r l[0][i])) (fun j => slots 53 [(6, L2 l), (8, .lst (A.map I) A.length c), (10, I l[0][i]), (24, L1 l[0]), (25, I l[0].length), (26, I i), (31, L2 (l.drop 1)), (32, I (l.drop 1).length), (33, I j)]) (l.drop 1).length [.cells [L2 p]]) ((l.drop 1).length - 0) (cp0 0 (Nat.zero_le _) rfl (by rw [List.length_drop] <;> rfl)) ?_
      rintro m T H ⟨j, hj, rfl, he, rfl, rfl⟩
      conv => whnf
      refine dcase (fun h5 => ?_) (fun h5 => ?_)
      · have hjt : j < (l.drop 1).length := by omega
        rw [all_drop _ _ j hjt] at he
        conv => whnf
        refine ⟨by omega, ?_⟩
        conv => whnf
        refine nthM _ _ _ (hjt) ?_
        conv => whnf
        refine ⟨by first | rfl | simp only [List.all_cons, List.all_nil, pu0, pub, pu1, pu2, pu1', pu2', pun, puf, puP, puP', puQ, puQ', Bool.and_true, Bool.and_self], _, contains_ok (l.drop 1)[j] l[0][i] (by have := (hq _ (List.mem_of_mem_drop (List.getElem_mem hjt))).2; omega), ?_⟩
        conv => whnf
        cases h6 : has (l.drop 1)[j] l[0][i] with
        | true =>
          conv => whnf
          exact cpN hjt (by rw [he, h6]; rfl) (by rw [← wrapS j (by simp at hjt; omega)] <;> rfl)
        | false =>
          rw [h6, Bool.false_and] at he
          conv => whnf
          exact ⟨l[0].length - (i + 1), by omega, i + 1, c, by omega, rfl, hc, by rw [e, if_neg (by rw [he]; simp), List.append_nil, ← wrapS i (by omega)] <;> rfl, rfl⟩
      · obtain rfl : j = (l.drop 1).length := by omega
        rw [List.drop_length] at he
        have he : ((l.drop 1).all fun r => has r l[0][i]) = true := he
        rcases hc with rfl | rfl
        · conv => whnf
          refine ⟨⟨rfl, by omega, by omega⟩, ?_⟩
          rw [takeF]
          conv => whnf
          refine ⟨rfl, by decide, by decide, by omega, by simp, ?_⟩
          conv => whnf
          exact ⟨l[0].length - (i + 1), by omega, i + 1, .uniq 1, by omega, rfl, .inl rfl, by rw [e, if_pos he, List.map_append, List.length_append, ← wrapS i (by omega)] <;> rfl, rfl⟩
        · conv => whnf
          refine ⟨⟨rfl, by omega, by omega⟩, ?_⟩
          rw [takeF]
          conv => whnf
          refine ⟨rfl, by decide, by decide, by omega, by simp, ?_⟩
          conv => whnf
          exact ⟨l[0].length - (i + 1), by omega, i + 1, .uniq 1, by omega, rfl, .inl rfl, by rw [e, if_pos he, List.map_append, List.length_append, ← wrapS i (by omega)] <;> rfl, rfl⟩
    · obtain rfl : i = l[0].length := by omega
      rw [List.take_length]
      rcases hc with rfl | rfl
      · conv => whnf
        exact ret_pure (.inr rfl) (puT1 _ _) rfl
      · conv => whnf
        exact ret_pure (.inr rfl) (puT1 _ _) rfl
theorem pdist_ok (p o : List (List Int)) (hf : Fit p o) : PO 30 [P1 p, L2 o] (.tuple [I (distOf p o), I (ordErr p o)]) := by
  refine fn_pure hmix lk30 rfl rfl ?_
  unfold rc30
  conv => whnf
  refine ⟨by first | rfl | simp only [List.all_cons, List.all_nil, pu0, pub, pu1, pu2, pu1', pu2', pun, puf, puP, puP', puQ, puQ', Bool.and_true, Bool.and_self], _, joined_ok p o hf, ?_⟩
  conv => whnf
  refine dcase (fun h => ?_) (fun h => ?_)
  · conv => whnf
    exact ret_pure (.inr rfl) rfl (by rw [show distOf p o = 0 from if_neg h]; rfl)
  · have h := Classical.not_not.1 h
    obtain ⟨hv, ho⟩ := ordErr_zero.1 h
    have hl := seamsBy_length ho
    have hq := seamsBy_pos hv ho
    have h2 := hv.n2
    have h4 := hv.n4
    have h0 : 0 < p.length := by omega
    have hd : p.headD [] = p[0] := headD0 _ h0
    have hs := (hv.sm (List.getElem_mem h0)).sum
    rw [show distOf p o = distGo (seamsBy p o) (sumI (p.headD [])) from if_pos h, h, hd, show seamsE p o = seamsBy p o from if_pos h]
    generalize seamsBy p o = l at hl hq
    conv => whnf
    refine ⟨by omega, ?_⟩
    conv => whnf
    refine nthM _ _ _ (h0) ?_
    conv => whnf
    refine ⟨by first | rfl | simp only [List.all_cons, List.all_nil, pu0, pub, pu1, pu2, pu1', pu2', pun, puf, puP, puP', puQ, puQ', Bool.and_true, Bool.and_self], _, sum_ok p[0] (hv.sm (List.getElem_mem h0)), ?_⟩
    conv => whnf
    refine ⟨by omega, ?_⟩
    conv => whnf
    refine .intro (CI (fun i => slots 45 [(6, L2 l), (8, I (distGo (l.take (i + 1)) (sumI p[0]))), (26, I (l.length - 1 : Nat)), (27, I i)]) (l.length - 1) [.cells [L2 p]]) (l.length - 1) (ci0 ?_) ?_
    · rw [show distGo (l.take (0 + 1)) (sumI p[0]) = sumI p[0] by cases l <;> simp [distGo]] <;> rfl
    rintro M T H ⟨i, hi, rfl, rfl, rfl⟩
    conv => whnf
    refine dcase (fun h3 => ?_) (fun h3 => ?_)
    · have hlt : i + 1 < l.length := by omega
      have hlt' : i < l.length := by omega
      have e := distGo_take l i hlt (sumI p[0])
      have hb := betw_bound l[i] l[i + 1] (distGo (l.take (i + 1)) (sumI p[0])) (fun x hx => ((hq _ (List.getElem_mem hlt')).1.v x hx).1) (fun x hx => ((hq _ (List.getElem_mem hlt)).1.v x hx).1) (distGo_bound _ _ (fun r hr x hx => ((hq r (List.mem_of_mem_take hr)).1.v x hx).1) hs.1).1
      conv => whnf
      refine ⟨by omega, ?_⟩
      conv => whnf
      refine nthM _ _ _ (hlt') ?_
      conv => whnf
      rw [wrapS i (by omega)]
      refine ⟨by omega, ?_⟩
      conv => whnf
      refine nthM _ _ _ (hlt) ?_
      conv => whnf
      refine ⟨by first | rfl | simp only [List.all_cons, List.all_nil, pu0, pub, pu1, pu2, pu1', pu2', pun, puf, puP, puP', puQ, puQ', Bool.and_true, Bool.and_self], _, apart_ok l[i] l[i + 1] (distGo (l.take (i + 1)) (sumI p[0])) (hq _ (List.getElem_mem hlt')).1 (hq _ (List.getElem_mem hlt)).1, acc0, ?_⟩
      conv => whnf
      exact ciN (by omega) (by rw [e, Int.min_eq_right hb.2, ← wrapS i (by omega)] <;> rfl)
    · obtain rfl : i = (l.length - 1) := by omega
      conv => whnf
      exact ret_pure (.inr rfl) rfl (by rw [show l.length - 1 + 1 = l.length by omega, List.take_length]; rfl)
end Go.Proofs.Ytlcebaejlnpdeaa.Ab

/-
  Plain words of layer 5: all orders.
-/
namespace Go.Proofs.Ytlcebaejlnpdeaa.Ab
/-- Orders of so many that begin so; how many are left. -/
def grow (n : Nat) : Nat → List Int → List (List Int)
  | 0, b => [b]
  | f + 1, b => (List.range n).flatMap fun (i : Nat) => if has b i = true then [] else grow n f (b ++ [(i : Int)])
def perms (n : Nat) : List (List Int) := grow n n []
/-- The last place whose number is not below a number. -/
def last (l : List Int) (x : Int) : Nat → Nat
  | 0 => 0
  | k + 1 => if l.getD (k + 1) 0 < x then last l x k else k + 1
def swap (l : List Int) (i k : Nat) : List Int := (l.set i (l.getD k 0)).set k (l.getD i 0)
end Go.Proofs.Ytlcebaejlnpdeaa.Ab

/-
  Plain words of layer 5: the fewest meetings, as the definitions reckon them.
-/
namespace Go.Proofs.Ytlcebaejlnpdeaa.Ab
end Go.Proofs.Ytlcebaejlnpdeaa.Ab

/-
  Contracts: all orders, all seams.
-/
namespace Go.Proofs.Ytlcebaejlnpdeaa.Ab
open Go
set_option maxRecDepth 20000
end Go.Proofs.Ytlcebaejlnpdeaa.Ab

/-
  Contracts: the definitions' fewest meetings.
-/
namespace Go.Proofs.Ytlcebaejlnpdeaa.Ab
open Go
set_option maxRecDepth 20000
set_option maxHeartbeats 4000000
end Go.Proofs.Ytlcebaejlnpdeaa.Ab

/-
  Contracts: the definitions' Fewest, Orders, Pair.
-/
namespace Go.Proofs.Ytlcebaejlnpdeaa.Ab
open Go
set_option maxRecDepth 20000
set_option maxHeartbeats 4000000
theorem Val.sub {p : List (List Int)} (hv : Val p) (k : Nat) (h : k + 2 ≤ p.length) : Val ((p.drop k).take 2) := by
  have hm : ∀ l ∈ (p.drop k).take 2, l ∈ p := fun l hl => List.mem_of_mem_drop (List.mem_of_mem_take hl)
  have hl : ((p.drop k).take 2).length = 2 := by simp; omega
  refine ⟨by omega, by omega, fun l h => hv.s1 l (hm l h), fun l h => hv.s5 l (hm l h), fun l h => hv.w l (hm l h), fun l h => ?_⟩
  rw [hv.eq l (hm l h)]
  have e := headD0 (l := (p.drop k).take 2) [] (by omega)
  rw [e]
  exact (hv.eq _ (hm _ (List.getElem_mem _))).symm
end Go.Proofs.Ytlcebaejlnpdeaa.Ab

/-
  Plain words of layer 5: a list whose end is turned round, step by step.
-/
namespace Go.Proofs.Ytlcebaejlnpdeaa.Ab
end Go.Proofs.Ytlcebaejlnpdeaa.Ab

/-
  Contracts: slices.Clone, slices.Reverse; all orders of a layer, one behind another.
-/
namespace Go.Proofs.Ytlcebaejlnpdeaa.Ab
open Go
set_option maxRecDepth 20000
set_option maxHeartbeats 4000000
section
variable (p : List (List Int)) (k : Nat) (hk : k < p.length) (h1 : 1 ≤ p[k].length) (h5 : p[k].length ≤ 5) (hp : p.length ≤ 1000)
variable (A : Nat → List AObj) (M : Nat → Nat) (id lo : Nat) (L : AObj) (hA : ∀ r, (A r).length = id) (hlo : lo ≤ id)
variable (hlow : ∀ r, r ≤ (perms p[k].length).length → ∀ j, j < lo → (A r)[j]? = (A 0)[j]?)
variable (hy : ∀ (r : Nat) (h : r < (perms p[k].length).length) (Y : List AObj), Sem Go.Proofs.Try.prog (.yield id) [U1 (perms p[k].length)[r]] (A r ++ L :: Y) lo (.bool true) (A (r + 1) ++ L :: (Y ++ List.replicate (M r) .dead)))
include hk h1 h5 hp hA hlo hlow hy
end
end Go.Proofs.Ytlcebaejlnpdeaa.Ab

/-
  A table of closed calls.
-/
namespace Go.Proofs.Ytlcebaejlnpdeaa.Ab
open Go
def capEq : Cap → Cap → Bool
  | .shared, .shared => true
  | .full, .full => true
  | .own a, .own b => Nat.beq a b
  | .uniq a, .uniq b => Nat.beq a b
  | _, _ => false
theorem capEq_ok : ∀ {a b : Cap}, capEq a b = true → a = b := by
  intro a b h
  cases a <;> cases b <;> simp only [capEq, Bool.false_eq_true] at h <;> first | rfl | (rw [Nat.eq_of_beq_eq_true h])
def lEq (f : AV → AV → Bool) : List AV → List AV → Bool
  | [], [] => true
  | a :: l, b :: r => match f a b with
    | true => lEq f l r
    | false => false
  | _, _ => false
theorem lEq_ok {f : AV → AV → Bool} (hf : ∀ a b, f a b = true → a = b) : ∀ {a b : List AV}, lEq f a b = true → a = b
  | [], [], _ => rfl
  | [], _ :: _, h => by simp [lEq] at h
  | _ :: _, [], h => by simp [lEq] at h
  | a :: l, b :: r, h => by
    simp only [lEq] at h
    split at h
    · rename_i hab; rw [hf a b hab, lEq_ok hf h]
    · cases h
/-- Equality of closed values. -/
def avEq : Nat → AV → AV → Bool
  | 0, _, _ => false
  | d + 1, a, b => match a, b with
    | .bool x, .bool y => match x, y with | true, true => true | false, false => true | _, _ => false
    | .int k x, .int q y => match decide (k = q), decide (x = y) with | true, true => true | _, _ => false
    | .nilp, .nilp => true
    | .lptr x, .lptr y => lEq (avEq d) x y
    | .lst x n c, .lst y m e => match lEq (avEq d) x y, Nat.beq n m, capEq c e with | true, true, true => true | _, _, _ => false
    | .func f x y, .func g z w => match Nat.beq f g, lEq (avEq d) x z, lEq (avEq d) y w with | true, true, true => true | _, _, _ => false
    | .agg x, .agg y => lEq (avEq d) x y
    | .tuple x, .tuple y => lEq (avEq d) x y
    | _, _ => false
theorem avEq_ok : ∀ (d : Nat) (a b : AV), avEq d a b = true → a = b
  | 0, _, _, h => by simp [avEq] at h
  | d + 1, a, b, h => by
    have ih := avEq_ok d
    unfold avEq at h
    split at h
    · split at h <;> first | rfl | cases h
    · rename_i k x q y
      split at h
      · rename_i h1 h2; rw [of_decide_eq_true h1, of_decide_eq_true h2]
      · cases h
    · rfl
    · rw [lEq_ok ih h]
    · split at h
      · rename_i h1 h2 h3; rw [lEq_ok ih h1, Nat.eq_of_beq_eq_true h2, capEq_ok h3]
      · cases h
    · split at h
      · rename_i h1 h2 h3; rw [Nat.eq_of_beq_eq_true h1, lEq_ok ih h2, lEq_ok ih h3]
      · cases h
    · rw [lEq_ok ih h]
    · rw [lEq_ok ih h]
    · cases h
/-- An entry: a pure call, or a call that hands out a map. -/
inductive Ent where
  | pure (k : Nat) (args : List AV) (v : AV)
  | map (k : Nat) (args : List AV) (es : List (Nat × AV × AV)) (clock : Nat)
def entOk (P : Program) : Ent → Prop
  | .pure k args v => PureOk P k args v
  | .map k args es clock => ∀ H, Sem P (.fn k) args H H.length (.map H.length) (H ++ [.map es clock])
def look (k : Nat) (args : List AV) (H : List AObj) (lo : Nat) : List Ent → Option (AV × List AObj)
  | [] => none
  | .pure q bs v :: r => match Nat.beq k q with
    | true => match lEq (avEq 20) args bs with
      | true => match H with
        | [] => some (v, [])
        | _ => look k args H lo r
      | false => look k args H lo r
    | false => look k args H lo r
  | .map q bs es clock :: r => match Nat.beq k q with
    | true => match lEq (avEq 20) args bs with
      | true => match Nat.beq lo H.length with
        | true => some (.map H.length, H ++ [.map es clock])
        | false => look k args H lo r
      | false => look k args H lo r
    | false => look k args H lo r
def tabOf (l : List Ent) : CallFn := fun tgt args H lo => match tgt with
  | .fn k => look k args H lo l
  | _ => none
theorem Sem.lo0 {P : Program} {tgt : Tgt} {args : List AV} {r : AV} {H' : List AObj} (h : Sem P tgt args [] 0 r H') (lo : Nat) : Sem P tgt args [] lo r H' :=
  ⟨⟨h.1.1, fun _ _ h => by simp at h⟩, h.2⟩
theorem look_ok {P : Program} {k : Nat} {args : List AV} {H : List AObj} {lo : Nat} {r : AV} {H' : List AObj} : ∀ {l : List Ent}, (∀ e ∈ l, entOk P e) → look k args H lo l = some (r, H') → Sem P (.fn k) args H lo r H'
  | [], _, h => by simp [look] at h
  | .pure q bs v :: l, hl, h => by
    have hrec := look_ok (k := k) (args := args) (H := H) (lo := lo) (r := r) (H' := H') fun e he => hl e (List.mem_cons_of_mem _ he)
    unfold look at h
    split at h
    · rename_i h1
      split at h
      · rename_i h2
        split at h
        · cases h
          have := hl (.pure q bs r) List.mem_cons_self
          rw [Nat.eq_of_beq_eq_true h1, lEq_ok (avEq_ok 20) h2]
          exact this.1.lo0 lo
        · exact hrec h
      · exact hrec h
    · exact hrec h
  | .map q bs es clock :: l, hl, h => by
    have hrec := look_ok (k := k) (args := args) (H := H) (lo := lo) (r := r) (H' := H') fun e he => hl e (List.mem_cons_of_mem _ he)
    unfold look at h
    split at h
    · rename_i h1
      split at h
      · rename_i h2
        split at h
        · rename_i h3
          cases h
          have := hl (.map q bs es clock) List.mem_cons_self
          rw [Nat.eq_of_beq_eq_true h1, lEq_ok (avEq_ok 20) h2, Nat.eq_of_beq_eq_true h3]
          exact this H
        · exact hrec h
      · exact hrec h
    · exact hrec h
theorem tab_sound {P : Program} {l : List Ent} (hl : ∀ e ∈ l, entOk P e) : CSound P (tabOf l) := csound_of fun tgt args H lo r H' h => by
  cases tgt with
  | fn k => exact look_ok hl h
  | yield i => simp [tabOf] at h
/-- Every function's annotations fit. -/
def okFrom (A : FuncId → FAnn) : Nat → List Func → Bool
  | _, [] => true
  | k, f :: r => match f.body with
    | some c => match codeOk (A k) c, f.name == "runtime.NumGoroutine" with
      | true, false => okFrom A (k + 1) r
      | _, _ => false
    | none => okFrom A (k + 1) r
theorem okFrom_ok {A : FuncId → FAnn} : ∀ {l : List Func} {k : Nat}, okFrom A k l = true → ∀ (i : Nat) (f : Func) (c : Code), l[i]? = some f → f.body = some c → codeOk (A (k + i)) c = true ∧ f.name ≠ "runtime.NumGoroutine"
  | [], _, _, i, f, c, h, _ => by simp at h
  | g :: r, k, h, i, f, c, hf, hc => by
    unfold okFrom at h
    cases i with
    | zero =>
      simp at hf; subst hf
      rw [hc] at h
      simp only at h
      split at h
      · rename_i h1 h2; exact ⟨h1, by simpa using h2⟩
      · cases h
    | succ i =>
      have hr : okFrom A (k + 1) r = true := by
        split at h
        · split at h
          · exact h
          · cases h
        · exact h
      have := okFrom_ok hr i f c (by simpa using hf) hc
      rw [show k + (i + 1) = k + 1 + i by omega]; exact this
theorem okAll {P : Program} {A : FuncId → FAnn} (h : okFrom A 0 P.funcs.toList = true) (k : Nat) (f : Func) (c : Code) (hf : P.funcs[k]? = some f) (hc : f.body = some c) : codeOk (A k) c = true ∧ f.name ≠ "runtime.NumGoroutine" := by
  have := okFrom_ok h k f c (by simpa using hf) hc
  rwa [Nat.zero_add] at this
theorem ann_ok : okFrom ann 0 Go.Proofs.Try.prog.funcs.toList = true := by kernel_rfl
/-- A closed call, over no objects. -/
noncomputable def runC (l : List Ent) (k : Nat) (args : List AV) : Option AV := match callF Go.Proofs.Try.prog ann (tabOf l) 300 (.fn k) args [] 0 with
  | some (r, H2) => match frz H2 0 H2.length 0 8 r with
    | some v => match pureD 8 v.settle with
      | true => some v.settle
      | false => none
    | none => none
  | none => none
theorem runC_ok {l : List Ent} (hl : ∀ e ∈ l, entOk Go.Proofs.Try.prog e) {k : Nat} {args : List AV} {v : AV} (h : runC l k args = some v) : PureOk Go.Proofs.Try.prog k args v := by
  unfold runC at h
  split at h
  · rename_i r H2 hc
    split at h
    · rename_i u hf
      split at h
      · rename_i hp
        cases h
        have hs := (callF_sound hmix ann (tab_sound hl) (okAll ann_ok) 300).sem hc
        refine ⟨⟨Low.refl _ _, hs.2.1, fun B ω κ S w xs hH hn hv => CallsIn.mono (hs.2.2 B ω κ S w xs hH hn hv) fun e w' he => ?_⟩, hp⟩
        cases e with
        | returned x =>
          have hpost := post_frz hH (fun id hid => by simp at hid) hf he
          show Post B ω κ S w [] u.settle x w'
          cases u with
          | lst cells len cp =>
            cases cp with
            | uniq z => exact hpost.settle
            | _ => exact hpost
          | _ => exact hpost
        | panicked c => exact he.elim
        | outgrown => exact he.elim
      · cases h
    · cases h
  · cases h
end Go.Proofs.Ytlcebaejlnpdeaa.Ab

/-
  Plain words of layer 5: the program's orders: joints, layer by layer.
-/
namespace Go.Proofs.Ytlcebaejlnpdeaa.Ab
/-- A joint: orders from a layer on, that layer's seams, meetings, the distance. -/
structure Jt where
  o : List (List Int)
  s : List Int
  m : Int
  d : Int
/-- What bounds joints. -/
structure Jb (n : Nat) (x : Jt) : Prop where
  o : x.o.length = n
  s : x.s.length ≤ 4
  m0 : 0 ≤ x.m
  m1 : x.m ≤ 4 * n
end Go.Proofs.Ytlcebaejlnpdeaa.Ab

/-
  Contracts: joints; the best of them; lists of lists joined.
-/
namespace Go.Proofs.Ytlcebaejlnpdeaa.Ab
open Go
set_option maxRecDepth 20000
set_option maxHeartbeats 4000000
/-- Its four cells: whether its lists are known to be full. -/
def jcw (co cs : Cap) (x : Jt) : List AV := [.lst (x.o.map L1) x.o.length co, .lst (x.s.map I) x.s.length cs, I x.m, I x.d]
def LJ (co cs : Cap) (l : List Jt) (c : Cap) : AV := .lst (l.flatMap (jcw co cs)) l.length c
section
variable (co cs : Cap)
end
end Go.Proofs.Ytlcebaejlnpdeaa.Ab

/- MADE BY PROGRAM (rcy.py): rounds, looked up. -/
namespace Go.Proofs.Ytlcebaejlnpdeaa.Ab
open Go
end Go.Proofs.Ytlcebaejlnpdeaa.Ab

/-
  Contracts: the program's orders.
-/
namespace Go.Proofs.Ytlcebaejlnpdeaa.Ab
open Go
set_option maxRecDepth 20000
set_option maxHeartbeats 4000000
section
variable (p : List (List Int)) (t : Nat) (ht : t < p.length) (hv : Val p) (Bh : List Jt) (nB : Nat) (hB : ∀ x ∈ Bh, Jb nB x) (hn : nB ≤ 3) (hB0 : 0 < Bh.length) (hB1 : Bh.length ≤ 3125)
variable (c c1 : Cap) (hc : c = .own 4 ∨ c = .shared) (hc1 : c1 = .full ∨ c1 = .shared) (X0 : List AObj) (ii inn : Nat) (fv bv xv yv : AV)
variable (g0 : X0[0]? = some (.cells [Bn p])) (g1 : X0[1]? = some (.cells [LJ c1 c1 Bh c])) (g2 : X0[2]? = some (.cells [.func 100 [] []])) (gi : X0[ii]? = some (.cells [I t]))
variable (hinn : inn < X0.length) (n0 : inn ≠ 0) (n1 : inn ≠ 1) (n2 : inn ≠ 2) (ni : inn ≠ ii)
include ht hv hB hn hB0 hB1 hc hc1 g0 g1 g2 gi hinn n0 n1 n2 ni
end
end Go.Proofs.Ytlcebaejlnpdeaa.Ab

/-
  Contracts: the program's orders, all layers.
-/
namespace Go.Proofs.Ytlcebaejlnpdeaa.Ab
open Go
set_option maxRecDepth 20000
set_option maxHeartbeats 4000000
end Go.Proofs.Ytlcebaejlnpdeaa.Ab

/-
  Plain law of layer 5: the program's orders are the first ones that have the fewest meetings.
-/
namespace Go.Proofs.Ytlcebaejlnpdeaa.Ab
abbrev Lens (p : List (List Int)) : Prop := (∀ l ∈ p, 1 ≤ l.length ∧ l.length ≤ 5) ∧ p.length ≤ 4
theorem Lens.tail {a : List Int} {r : List (List Int)} (h : Lens (a :: r)) : Lens r := ⟨fun l hl => h.1 l (by simp [hl]), by have := h.2; simp at this; omega⟩
end Go.Proofs.Ytlcebaejlnpdeaa.Ab

/-
  Plain words of layer 5: the greatest distance: joints, layer by layer.
-/
namespace Go.Proofs.Ytlcebaejlnpdeaa.Ab
structure Jf (W : Int) (n : Nat) (x : Jt) : Prop where
  o : x.o.length = n
  s : Pos x.s
  d0 : 0 ≤ x.d
  d1 : x.d ≤ W
end Go.Proofs.Ytlcebaejlnpdeaa.Ab

/-
  Contracts: the greatest distance: rounds.
-/
namespace Go.Proofs.Ytlcebaejlnpdeaa.Ab
open Go
set_option maxRecDepth 20000
set_option maxHeartbeats 4000000
section
variable (p : List (List Int)) (t : Nat) (ht : t < p.length) (hv : Val p) (Wd : Int) (Bh : List Jt) (nB : Nat) (hB : ∀ x ∈ Bh, Jf Wd nB x) (hn : nB ≤ 3) (hB0 : 0 < Bh.length) (hB1 : Bh.length ≤ 3125)
variable (c c1 : Cap) (hc : c = .own 4 ∨ c = .shared) (hc1 : c1 = .full ∨ c1 = .shared) (X0 : List AObj) (ii inn : Nat) (TT : List AV)
variable (g0 : X0[0]? = some (.cells [Bn p])) (g2 : X0[2]? = some (.cells [I Wd])) (g3 : X0[3]? = some (.cells [LJ c1 c1 Bh c])) (g4 : X0[4]? = some (.cells [.func 111 [] []])) (gi : X0[ii]? = some (.cells [I t]))
variable (hinn : inn < X0.length) (n0 : inn ≠ 0) (n2 : inn ≠ 2) (n3 : inn ≠ 3) (n4 : inn ≠ 4) (ni : inn ≠ ii)
include ht hv hB hn hB0 hB1 hc hc1 g0 g2 g3 g4 gi hinn n0 n2 n3 n4 ni
end
end Go.Proofs.Ytlcebaejlnpdeaa.Ab

/-
  Contracts: the greatest distance, all layers; Far, Apart.
-/
namespace Go.Proofs.Ytlcebaejlnpdeaa.Ab
open Go
set_option maxRecDepth 20000
set_option maxHeartbeats 4000000
end Go.Proofs.Ytlcebaejlnpdeaa.Ab

/-
  Contracts: Far, Apart, and the definitions' Far.
-/
namespace Go.Proofs.Ytlcebaejlnpdeaa.Ab
open Go
set_option maxRecDepth 20000
set_option maxHeartbeats 4000000
end Go.Proofs.Ytlcebaejlnpdeaa.Ab

/-
  Plain law of layer 5: the program's greatest distance is the definitions'; its orders have it.
-/
namespace Go.Proofs.Ytlcebaejlnpdeaa.Ab
/-- What joints of a first part say. -/
structure Jd (W : Int) (q : List (List Int)) (x : Jt) : Prop where
  ord : Ords q x.o
  d : x.d = distGo (seamsBy q x.o) W
  last : q = [] ∨ ∃ l, seamsBy q x.o = l ++ [x.s]
end Go.Proofs.Ytlcebaejlnpdeaa.Ab

/-
  Contracts: SeamPanels, SeamThroughs.
-/
namespace Go.Proofs.Ytlcebaejlnpdeaa.Ab
open Go
set_option maxRecDepth 20000
/-- Works is true. -/
abbrev WK : Prop := PO 20 [] (B true)
end Go.Proofs.Ytlcebaejlnpdeaa.Ab

/-
  Contracts: the definitions' Far, ApartError; SeamFars.
-/
namespace Go.Proofs.Ytlcebaejlnpdeaa.Ab
open Go
set_option maxRecDepth 20000
set_option maxHeartbeats 4000000
end Go.Proofs.Ytlcebaejlnpdeaa.Ab

/-
  Contracts: the program's Pair; SeamFewests.
-/
namespace Go.Proofs.Ytlcebaejlnpdeaa.Ab
open Go
set_option maxRecDepth 20000
set_option maxHeartbeats 4000000
theorem Val.ne {p : List (List Int)} (hv : Val p) : p ≠ [] := fun h => by have := hv.n2; rw [h] at this; simp at this
end Go.Proofs.Ytlcebaejlnpdeaa.Ab

/-
  Contracts: fine, fewest, far.
-/
namespace Go.Proofs.Ytlcebaejlnpdeaa.Ab
open Go
set_option maxRecDepth 20000
set_option maxHeartbeats 4000000
def fineB (p : List (List Int)) : Bool := !(big p) && decide (checkP p = 0)
theorem fine_ok (p : List (List Int)) (hp : Fl2 p) : PO 48 [P1 p] (B (fineB p)) := by
  have hp1 := hp.n
  refine fn_pure hmix lk48 rfl rfl ?_
  unfold rc48
  conv => whnf
  refine ⟨by first | rfl | simp only [List.all_cons, List.all_nil, pu0, pub, pu1, pu2, pu1', pu2', pun, puf, puP, puP', puQ, puQ', Bool.and_true, Bool.and_self], _, great_ok p hp1, ?_⟩
  conv => whnf
  cases h1 : big p with
  | true =>
    conv => whnf
    exact ret_pure (.inr rfl) rfl (by rw [fineB, h1]; rfl)
  | false =>
    obtain ⟨a1, a2⟩ := big_false.1 h1
    conv => whnf
    refine ⟨by first | rfl | simp only [List.all_cons, List.all_nil, pu0, pub, pu1, pu2, pu1', pu2', pun, puf, puP, puP', puQ, puQ', Bool.and_true, Bool.and_self], _, rcheck_ok p (by omega) fun l hl => by have := a2 l hl; omega, ?_⟩
    conv => whnf
    exact ret_pure (.inr rfl) rfl (by rw [fineB, h1]; rfl)
theorem fineB_val {p : List (List Int)} (h : fineB p = true) : Val p := by
  simp only [fineB, Bool.and_eq_true, decide_eq_true_eq] at h
  exact checkP_val h.2
theorem Val.big {p : List (List Int)} (hv : Val p) : Ab.big p = false :=
  big_false.2 ⟨by have := hv.n4; omega, fun l hl => by have := hv.s5 l hl; omega⟩
theorem Val.fit {p : List (List Int)} (hv : Val p) : p.length ≤ 140737488355328 ∧ ∀ l ∈ p, l.length ≤ 140737488355328 :=
  ⟨by have := hv.n4; omega, fun l hl => by have := hv.s5 l hl; omega⟩
theorem Ords.fit {p o : List (List Int)} (hv : Val p) (ho : Ords p o) : Fit p o ∧ Ab.big o = false := by
  have h4 := hv.n4
  have hl := ho.len
  have hr : ∀ r ∈ o, r.length ≤ 5 := fun r hr => by
    obtain ⟨i, hi, rfl⟩ := List.mem_iff_getElem.1 hr
    have h2 : i < p.length := by omega
    rw [(isOrd_iff.1 (ho.ord i hi h2)).1]
    exact hv.s5 _ (List.getElem_mem h2)
  exact ⟨⟨hv.fit.1, hv.fit.2, by omega, fun l hl => by have := hr l hl; omega⟩, big_false.2 ⟨by omega, fun l hl => by have := hr l hl; omega⟩⟩
theorem Ords.err {p o : List (List Int)} (hv : Val p) (ho : Ords p o) : ordErr p o = 0 := ordErr_zero.2 ⟨hv, ho⟩
end Go.Proofs.Ytlcebaejlnpdeaa.Ab

/-
  Plain law of layer 5: no orders have fewer meetings, none a greater distance; with a layer less, or more.
-/
namespace Go.Proofs.Ytlcebaejlnpdeaa.Ab
end Go.Proofs.Ytlcebaejlnpdeaa.Ab

/-
  SeamFewer.
-/
namespace Go.Proofs.Ytlcebaejlnpdeaa.Ab
open Go
set_option maxRecDepth 20000
set_option maxHeartbeats 4000000
theorem Val.again {q : List (List Int)} {a : List Int} (hv : Val (q ++ [a])) (h : (q ++ [a]).length ≤ 3) : Val (q ++ [a] ++ [a]) := by
  have hh : (q ++ [a] ++ [a]).headD [] = (q ++ [a]).headD [] := by cases q <;> rfl
  have hm : ∀ l ∈ q ++ [a] ++ [a], l ∈ q ++ [a] := fun l hl => by simp at hl ⊢; rcases hl with h | h | h <;> simp [h]
  have h2 := hv.n2
  refine ⟨by simp at h2 ⊢, by simp at h ⊢; omega, fun l hl => hv.s1 l (hm l hl), fun l hl => hv.s5 l (hm l hl), fun l hl => hv.w l (hm l hl), fun l hl => by rw [hh]; exact hv.eq l (hm l hl)⟩
end Go.Proofs.Ytlcebaejlnpdeaa.Ab

/-
  Plain words: orders that are chosen by numbers; the other way round; times as great.
-/
namespace Go.Proofs.Ytlcebaejlnpdeaa.Ab
/-! ### Orders by numbers -/
def nums (n : Nat) : List Int := (List.range n).map fun (x : Nat) => (x : Int)
theorem nums_succ (n : Nat) : nums (n + 1) = nums n ++ [(n : Int)] := by simp [nums, List.range_succ]
theorem nums_len (n : Nat) : (nums n).length = n := by simp [nums]
theorem nums_ord (n : Nat) : isOrd (nums n) n = true := by
  rw [isOrd_iff]
  refine ⟨nums_len n, fun x hx => ?_, ?_⟩
  · simp [nums] at hx; obtain ⟨k, hk, rfl⟩ := hx; omega
  · rw [nums, List.nodup_iff_pairwise_ne, List.pairwise_map]
    exact List.Pairwise.imp (fun h e => by omega) List.pairwise_lt_range
/-- Which one is next, behind so many; and how many are read then. -/
def pickN (y : List Int) (n t : Nat) : Nat := if y = [] then 0 else (y.getD (t % y.length) 0).toNat % n
def stepN (y : List Int) (t : Nat) : Nat := if y = [] then t else t + 1
def pickGo (y : List Int) : Nat → List Int → Nat → List Int × Nat
  | 0, _, t => ([], t)
  | f + 1, left, t => (left.getD (pickN y left.length t) 0 :: (pickGo y f (left.eraseIdx (pickN y left.length t)) (stepN y t)).1, (pickGo y f (left.eraseIdx (pickN y left.length t)) (stepN y t)).2)
def chosenGo (y : List Int) : List (List Int) → Nat → List (List Int)
  | [], _ => []
  | l :: r, t => (pickGo y l.length (nums l.length) t).1 :: chosenGo y r (pickGo y l.length (nums l.length) t).2
def chosen (p : List (List Int)) (y : List Int) : List (List Int) := chosenGo y p 0
theorem pickN_lt (y : List Int) {n : Nat} (t : Nat) (h : 0 < n) : pickN y n t < n := by
  unfold pickN; split
  · exact h
  · exact Nat.mod_lt _ h
theorem pick_perm (y : List Int) : ∀ (f : Nat) (left : List Int) (t : Nat), left.length = f → (pickGo y f left t).1.Perm left
  | 0, left, t, h => by rw [List.length_eq_zero_iff.1 h]; exact .refl _
  | f + 1, left, t, h => by
    have hn := pickN_lt y (n := left.length) t (by omega)
    have ih := pick_perm y f (left.eraseIdx (pickN y left.length t)) (stepN y t) (by rw [List.length_eraseIdx_of_lt hn]; omega)
    have e : left.getD (pickN y left.length t) 0 = left[pickN y left.length t] := by simp [List.getD_eq_getElem?_getD, hn]
    show (left.getD _ 0 :: _).Perm left
    rw [e]
    have e2 : left = left.take (pickN y left.length t) ++ left[pickN y left.length t] :: left.drop (pickN y left.length t + 1) := by rw [← List.drop_eq_getElem_cons hn, List.take_append_drop]
    have e3 := List.eraseIdx_eq_take_drop_succ left (pickN y left.length t)
    refine (List.Perm.cons _ ih).trans ?_
    rw [e3]
    exact List.perm_middle.symm.trans (.of_eq e2.symm)
theorem ord_perm {a b : List Int} {n : Nat} (h : a.Perm b) (hb : isOrd b n = true) : isOrd a n = true := by
  obtain ⟨h1, h2, h3⟩ := isOrd_iff.1 hb
  exact isOrd_iff.2 ⟨by rw [h.length_eq, h1], fun x hx => h2 x (h.mem_iff.1 hx), h.nodup_iff.2 h3⟩
theorem chosenGo_ords (y : List Int) : ∀ (p : List (List Int)) (t : Nat), Ords p (chosenGo y p t)
  | [], t => ⟨rfl, fun i h => by simp [chosenGo] at h⟩
  | l :: r, t => by
    have ih := chosenGo_ords y r (pickGo y l.length (nums l.length) t).2
    refine ⟨by simp [chosenGo, ih.len], fun i h h' => ?_⟩
    cases i with
    | zero => exact ord_perm (pick_perm y l.length (nums l.length) t (nums_len _)) (nums_ord _)
    | succ i => exact ih.ord i (by simpa [chosenGo] using h) (by simpa using h')
theorem chosen_ords (p : List (List Int)) (y : List Int) : Ords p (chosen p y) := chosenGo_ords y p 0
end Go.Proofs.Ytlcebaejlnpdeaa.Ab

/-
  Chosen: orders by numbers, as a contract.
-/
namespace Go.Proofs.Ytlcebaejlnpdeaa.Ab
open Go
set_option maxRecDepth 20000
set_option maxHeartbeats 4000000
theorem pure_Y1 (l : List Int) : pureD 8 (Y1 l) = true := by
  show (l.map (AV.int .u8)).all (pureD 7) = true
  rw [List.all_map, List.all_eq_true]; intro x _; rfl
theorem pickN_val {y : List Int} (hy : Fy y) (n t : Nat) (h : t % y.length < y.length) : (IntKind.i64.wrap (y[t % y.length]'h)).tmod n = ((pickN y n t : Nat) : Int) := by
  have hb := hy.v _ (List.getElem_mem h)
  have hne : y ≠ [] := fun e => by rw [e] at h; simp at h
  obtain ⟨b, e⟩ : ∃ b : Nat, y[t % y.length]'h = (b : Int) := ⟨(y[t % y.length]'h).toNat, by omega⟩
  rw [wrapI _ (by omega) (by omega), pickN, if_neg hne]
  have e2 : y.getD (t % y.length) 0 = y[t % y.length]'h := by rw [List.getD_eq_getElem?_getD, List.getElem?_eq_getElem h]; rfl
  rw [e2, e]
  rfl
theorem stepN_val {y : List Int} (t : Nat) (h : 0 < y.length) (ht : t ≤ 1000) : IntKind.i64.wrap ((t : Int) + 1) = ((stepN y t : Nat) : Int) := by
  have hne : y ≠ [] := fun e => by rw [e] at h; simp at h
  rw [wrapS t (by omega), stepN, if_neg hne]
theorem dropI (l : List Int) (i : Nat) : AV.lst (((l.map I).drop (((i : Nat) : Int).toNat * 1)).take ((l.length - ((i : Nat) : Int).toNat) * 1)) (l.length - ((i : Nat) : Int).toNat) .shared = L1 (l.drop i) := by
  have e : ((l.map I).drop i).take (l.length - i) = (l.drop i).map I := by rw [← List.map_drop, List.take_of_length_le (by simp)]
  show AV.lst (((l.map I).drop (i * 1)).take ((l.length - i) * 1)) (l.length - i) .shared = _
  rw [Nat.mul_one, Nat.mul_one, e, L1, List.length_drop]
theorem eraseU (left : List Int) (n : Nat) : AV.lst (repl 0 [AV.int .i64 0] ++ (left.take n).map I ++ (left.drop (n + 1)).map I) (0 + (left.take n).length + (left.drop (n + 1)).length) (.uniq 1) = U1 (left.eraseIdx n) := by
  rw [List.eraseIdx_eq_take_drop_succ]; simp [U1, repl]
theorem pickGo_step {y left : List Int} {t n : Nat} (hn : n < left.length) (e : pickN y left.length t = n) : pickGo y left.length left t = (left[n] :: (pickGo y (left.eraseIdx n).length (left.eraseIdx n) (stepN y t)).1, (pickGo y (left.eraseIdx n).length (left.eraseIdx n) (stepN y t)).2) := by
  have hl : (left.eraseIdx n).length = left.length - 1 := List.length_eraseIdx_of_lt hn
  obtain ⟨f, hf⟩ : ∃ f, left.length = f + 1 := ⟨left.length - 1, by omega⟩
  have hg : left.getD n 0 = left[n] := by simp [List.getD_eq_getElem?_getD, hn]
  conv => lhs; rw [hf, pickGo, e, hg]
  rw [hl, hf]; rfl
theorem stepN_le (y : List Int) (t : Nat) : stepN y t ≤ t + 1 := by unfold stepN; split <;> omega
theorem chosen_ok (p : List (List Int)) (y : List Int) (hv : Val p) (hy : Fy y) (h30 : y.length ≤ 30) : PO 50 [P1 p, Y1 y] (O2 (chosen p y)) := by
  have h4 := hv.n4
  refine fn_pure hmix lk50 rfl (pu2 _ _ _) ?_
  unfold rc50
  conv => whnf
  refine .intro (fun m T H => ∃ i t out, i ≤ p.length ∧ m = p.length - i ∧ t ≤ 5 * i ∧ out.length = i ∧ out ++ chosenGo y (p.drop i) t = chosen p y ∧ T = slots 74 [(1, Y1 y), (2, .ptr 0 0), (5, U2 out), (6, I t), (7, I i)] ∧ H = [.cells [L2 p]]) p.length ⟨0, 0, [], Nat.zero_le _, rfl, Nat.zero_le _, rfl, rfl, rfl, rfl⟩ ?_
  rintro m T H ⟨i, t, out, hi, rfl, ht, ho, hc, rfl, rfl⟩
  conv => whnf
  refine dcase (fun h => ?_) (fun h => ?_)
  · have hlt : i < p.length := by omega
    have hl5 := hv.s5 _ (List.getElem_mem hlt)
    conv => whnf
    refine .intro (CI (fun k => slots 74 [(1, Y1 y), (2, .ptr 0 0), (5, U2 out), (6, I t), (7, I i), (8, U1 (nums k)), (9, U1 []), (10, I k)]) p[i].length [.cells [L2 p]]) p[i].length (ci0 rfl) ?_
    rintro m T H ⟨k, hk, rfl, rfl, rfl⟩
    conv => whnf
    refine ⟨by omega, ?_⟩
    conv => whnf
    refine nthM _ _ _ (hlt) ?_
    conv => whnf
    refine dcase (fun h1 => ?_) (fun h1 => ?_)
    · have hnl := nums_len k
      conv => whnf
      refine ⟨rfl, by decide, rfl, by omega, ?_⟩
      conv => whnf
      exact ciN (by omega) (by rw [nums_succ, ← U1_snoc, ← wrapS k (by omega)] <;> rfl)
    · obtain rfl : k = p[i].length := by omega
      conv => whnf
      refine .intro (fun m T H => ∃ left order t', m = left.length ∧ left.length + order.length = p[i].length ∧ t' ≤ t + order.length ∧ order ++ (pickGo y left.length left t').1 = (pickGo y p[i].length (nums p[i].length) t).1 ∧ (pickGo y left.length left t').2 = (pickGo y p[i].length (nums p[i].length) t).2 ∧
        T = slots 74 [(1, Y1 y), (2, .ptr 0 0), (5, U2 out), (6, I t'), (7, I i), (8, U1 left), (9, U1 order)] ∧ H = [.cells [L2 p]]) p[i].length ⟨nums p[i].length, [], t, (nums_len _).symm, by rw [nums_len]; rfl, Nat.le_refl _, by rw [nums_len]; rfl, by rw [nums_len], rfl, rfl⟩ ?_
      rintro m T H ⟨left, order, t', rfl, hlo, ht', hp1, hp2, rfl, rfl⟩
      conv => whnf
      refine dcase (fun h2 => ?_) (fun h2 => ?_)
      · conv => whnf
        refine dcase (fun h3 => ?_) (fun h3 => ?_)
        · conv => whnf
          have hyl : 0 < y.length := by omega
          refine ⟨by omega, ?_⟩
          conv => whnf
          rw [show (t' : Int).tmod y.length = ((t' % y.length : Nat) : Int) from rfl]
          have hm := Nat.mod_lt t' hyl
          refine ⟨by omega, ?_⟩
          conv => whnf
          refine nthM _ _ _ hm ?_
          conv => whnf
          refine ⟨by omega, ?_⟩
          conv => whnf
          have en := pickN_val hy left.length t' hm
          have es := stepN_val t' hyl (by omega)
          have hn := pickN_lt y (n := left.length) t' (by omega)
          rw [en, es]
          generalize hnn : pickN y left.length t' = n at *
          refine ⟨by omega, ?_⟩
          conv => whnf
          refine nthM _ _ _ hn ?_
          conv => whnf
          refine ⟨rfl, by decide, rfl, by omega, ?_⟩
          conv => whnf
          refine ⟨by omega, ?_⟩
          rw [takeI left n (by omega)]
          conv => whnf
          refine ⟨by simp, by rw [List.length_take]; omega, ?_⟩
          conv => whnf
          refine ⟨by simp, ?_⟩
          conv => whnf
          refine ⟨by rw [List.length_take]; omega, ?_⟩
          conv => whnf
          rw [wrapS n (by omega)]
          refine ⟨by omega, ?_⟩
          rw [dropI left (n + 1)]
          conv => whnf
          refine ⟨by simp, by rw [List.length_drop]; omega, ?_⟩
          conv => whnf
          refine ⟨by simp, ?_⟩
          conv => whnf
          refine ⟨by simp; omega, ?_⟩
          conv => whnf
          have hl : (left.eraseIdx n).length = left.length - 1 := List.length_eraseIdx_of_lt hn
          have hs := stepN_le y t'
          rw [pickGo_step hn hnn] at hp1 hp2
          refine ⟨(left.eraseIdx n).length, by omega, left.eraseIdx n, order ++ [left[n]], stepN y t', rfl, by simp; omega, by simp; omega, by rw [← hp1, List.append_assoc]; rfl, hp2, ?_, rfl⟩
          rw [← eraseU, ← U1_snoc]; rfl
        · have hy0 : y = [] := List.length_eq_zero_iff.1 (by omega)
          have hn : 0 < left.length := by omega
          have hnn : pickN y left.length t' = 0 := if_pos hy0
          have es : stepN y t' = t' := if_pos hy0
          conv => whnf
          refine ⟨by omega, ?_⟩
          conv => whnf
          refine nthM I left 0 hn ?_
          conv => whnf
          refine ⟨rfl, by decide, rfl, by omega, ?_⟩
          conv => whnf
          refine ⟨by omega, ?_⟩
          rw [show AV.lst ((left.map I).take ((0 : Int).toNat * 1)) (0 : Int).toNat .shared = L1 (left.take 0) from takeI left 0 (Nat.zero_le _)]
          conv => whnf
          refine ⟨by simp, by rw [List.length_take]; omega, ?_⟩
          conv => whnf
          refine ⟨by simp, ?_⟩
          conv => whnf
          refine ⟨by rw [List.length_take]; omega, ?_⟩
          conv => whnf
          rw [show IntKind.i64.wrap (0 + 1) = (1 : Int) by rw [IntKind.wrap_i64]; rfl]
          refine ⟨by omega, ?_⟩
          rw [show AV.lst (((left.map I).drop ((1 : Int).toNat * 1)).take ((left.length - (1 : Int).toNat) * 1)) (left.length - (1 : Int).toNat) .shared = L1 (left.drop 1) from dropI left 1]
          conv => whnf
          refine ⟨by simp, by rw [List.length_drop]; omega, ?_⟩
          conv => whnf
          refine ⟨by simp, ?_⟩
          conv => whnf
          refine ⟨by simp; omega, ?_⟩
          conv => whnf
          have hl : (left.eraseIdx 0).length = left.length - 1 := List.length_eraseIdx_of_lt hn
          have hs := stepN_le y t'
          rw [pickGo_step hn hnn] at hp1 hp2
          refine ⟨(left.eraseIdx 0).length, by omega, left.eraseIdx 0, order ++ [left[0]], stepN y t', rfl, by simp; omega, by simp; omega, by rw [← hp1, List.append_assoc]; rfl, hp2, ?_, rfl⟩
          rw [← eraseU, ← U1_snoc, es]; rfl
      · have h0 : left.length = 0 := by omega
        rw [h0, pickGo, List.append_nil] at hp1
        rw [h0, pickGo] at hp2
        have hd : p.drop i = p[i] :: p.drop (i + 1) := List.drop_eq_getElem_cons hlt
        rw [hd, chosenGo, ← hp1, ← hp2] at hc
        conv => whnf
        refine ⟨rfl, by decide, rfl, by omega, ?_⟩
        conv => whnf
        refine ⟨p.length - (i + 1), by omega, i + 1, t', out ++ [order], by omega, rfl, by omega, by simp; omega, by rw [← hc, List.append_assoc]; rfl, ?_, rfl⟩
        rw [← U2_snoc, ← wrapS i (by omega)]; rfl
  · obtain rfl : i = p.length := by omega
    rw [List.drop_length, chosenGo, List.append_nil] at hc
    conv => whnf
    exact ret_own (.inr rfl) (pu2 _ _ _) (.inr (by rw [← hc]; rfl))
end Go.Proofs.Ytlcebaejlnpdeaa.Ab

/-
  Plain law of layer 5: the other way round; meetings and the distance.
-/
namespace Go.Proofs.Ytlcebaejlnpdeaa.Ab
/-! ### Pairs of neighbours -/
def adj (R : List Int → List Int → Prop) : List (List Int) → Prop
  | a :: b :: r => R a b ∧ adj R (b :: r)
  | _ => True
/-- Numbers of two lists are that far apart. -/
def apartBy (v : Int) (a b : List Int) : Prop := ∀ x ∈ a, ∀ y ∈ b, v ≤ max (x - y) (y - x)
theorem le_in (v x : Int) : ∀ (b : List Int) (m : Int), v ≤ b.foldl (fun m y => min m (max (x - y) (y - x))) m ↔ v ≤ m ∧ ∀ y ∈ b, v ≤ max (x - y) (y - x)
  | [], m => by simp
  | y :: b, m => by
    rw [List.foldl_cons, le_in v x b]
    simp only [List.mem_cons, forall_eq_or_imp]
    constructor
    · rintro ⟨h1, h2⟩; exact ⟨by omega, by omega, h2⟩
    · rintro ⟨h1, h2, h3⟩; exact ⟨by omega, h3⟩
theorem le_betw (v : Int) : ∀ (a b : List Int) (m : Int), v ≤ betw a b m ↔ v ≤ m ∧ apartBy v a b
  | [], b, m => by simp [betw, apartBy]
  | x :: a, b, m => by
    have e : betw (x :: a) b m = betw a b (b.foldl (fun m y => min m (max (x - y) (y - x))) m) := rfl
    rw [e, le_betw v a b, le_in]
    simp only [apartBy, List.mem_cons, forall_eq_or_imp, and_assoc]
theorem le_dist (v : Int) : ∀ (l : List (List Int)) (m : Int), v ≤ distGo l m ↔ v ≤ m ∧ adj (apartBy v) l
  | [], m => by simp [distGo, adj]
  | [x], m => by simp [distGo, adj]
  | a :: b :: r, m => by
    rw [distGo, le_dist v (b :: r), le_betw, adj, and_assoc]
theorem eq_of_le {a b : Int} (h : ∀ v, v ≤ a ↔ v ≤ b) : a = b := by
  have h1 := (h a).1 (Int.le_refl a); have h2 := (h b).2 (Int.le_refl b); omega
/-! ### Seams rise -/
theorem seamsGo_rise (layer : List Int) : ∀ (l : List Int) (a : Int), (∀ i ∈ l, 1 ≤ layer.getD i.toNat 0) → (seamsGo layer a l).Pairwise (· < ·) ∧ ∀ x ∈ seamsGo layer a l, a < x
  | [], a, _ => by simp [seamsGo]
  | i :: l, a, h => by
    have h1 := h i (by simp)
    obtain ⟨h2, h3⟩ := seamsGo_rise layer l (a + layer.getD i.toNat 0) fun j hj => h j (by simp [hj])
    simp only [seamsGo, List.pairwise_cons, List.mem_cons, forall_eq_or_imp]
    exact ⟨⟨h3, h2⟩, by omega, fun x hx => by have := h3 x hx; omega⟩
theorem getD_wide {layer : List Int} (hw : ∀ x ∈ layer, 1 ≤ x) {i : Int} (h0 : 0 ≤ i) (h1 : i < layer.length) : 1 ≤ layer.getD i.toNat 0 := by
  have h : i.toNat < layer.length := by omega
  rw [List.getD_eq_getElem?_getD, List.getElem?_eq_getElem h]
  exact hw _ (List.getElem_mem h)
theorem seamsOf_rise {layer o : List Int} (hw : ∀ x ∈ layer, 1 ≤ x) (ho : isOrd o layer.length = true) : (seamsOf layer o).Pairwise (· < ·) ∧ ∀ x ∈ seamsOf layer o, 0 < x := by
  obtain ⟨_, h2, _⟩ := isOrd_iff.1 ho
  exact seamsGo_rise layer o.dropLast 0 fun i hi => by
    obtain ⟨k0, k1⟩ := h2 i (List.dropLast_subset _ hi)
    exact getD_wide hw k0 k1
theorem seams_mem {p o : List (List Int)} (ho : Ords p o) : ∀ r ∈ seamsBy p o, ∃ l ∈ p, ∃ q, isOrd q l.length = true ∧ r = seamsOf l q := by
  intro r hr
  obtain ⟨i, hi, rfl⟩ := List.mem_iff_getElem.1 hr
  have hl := ho.len
  have hi' : i < o.length ∧ i < p.length := by simp [seamsBy] at hi; omega
  exact ⟨p[i]'hi'.2, List.getElem_mem _, o[i]'hi'.1, ho.ord i hi'.1 hi'.2, by simp [seamsBy]⟩
end Go.Proofs.Ytlcebaejlnpdeaa.Ab

/-
  SeamUpside.
-/
namespace Go.Proofs.Ytlcebaejlnpdeaa.Ab
open Go
set_option maxRecDepth 20000
set_option maxHeartbeats 4000000
theorem Val.two {p : List (List Int)} (hv : Val p) (i : Nat) (h : i + 2 ≤ p.length) : Val ((p.drop i).take 2) := by
  have hm : ∀ l ∈ (p.drop i).take 2, l ∈ p := fun l hl => List.mem_of_mem_drop (List.mem_of_mem_take hl)
  have hl2 : ((p.drop i).take 2).length = 2 := by simp; omega
  have hh : ((p.drop i).take 2).headD [] ∈ p := by
    cases hq : (p.drop i).take 2 with
    | nil => rw [hq] at hl2; simp at hl2
    | cons a r => exact hm a (by rw [hq]; simp)
  exact ⟨by omega, by omega, fun l hl => hv.s1 l (hm l hl), fun l hl => hv.s5 l (hm l hl), fun l hl => hv.w l (hm l hl), fun l hl => by rw [hv.eq l (hm l hl), hv.eq _ hh]⟩
end Go.Proofs.Ytlcebaejlnpdeaa.Ab

/-
  SeamFar.
-/
namespace Go.Proofs.Ytlcebaejlnpdeaa.Ab
open Go
set_option maxRecDepth 20000
set_option maxHeartbeats 4000000
end Go.Proofs.Ytlcebaejlnpdeaa.Ab

/-
  Plain law of layer 5: all widths times as great; orders that are turned round.
-/
namespace Go.Proofs.Ytlcebaejlnpdeaa.Ab
/-! ### Orders turned round -/
theorem sum_rev1 : ∀ l : List Int, sumI l.reverse = sumI l
  | [] => rfl
  | x :: l => by rw [List.reverse_cons, sumI_append, sum_rev1 l, sumI_cons, sumI_cons, sumI_nil]; omega
theorem sum_perm {a b : List Int} (h : a.Perm b) : sumI a = sumI b := by
  induction h with
  | nil => rfl
  | cons x _ ih => rw [sumI_cons, sumI_cons, ih]
  | swap x y l => rw [sumI_cons, sumI_cons, sumI_cons, sumI_cons]; omega
  | trans _ _ h1 h2 => rw [h1, h2]
def wsOf (l o : List Int) : List Int := o.map fun i => l.getD i.toNat 0
theorem wsOf_len (l o : List Int) : (wsOf l o).length = o.length := by simp [wsOf]
theorem ord_nums {o : List Int} {n : Nat} (h : isOrd o n = true) : o.Perm (nums n) := by
  obtain ⟨h1, h2, h3⟩ := isOrd_iff.1 h
  obtain ⟨_, _, k3⟩ := isOrd_iff.1 (nums_ord n)
  have hsub : ∀ x ∈ o, x ∈ nums n := fun x hx => by
    have := h2 x hx
    simp only [nums, List.mem_map, List.mem_range]
    exact ⟨x.toNat, by omega, by omega⟩
  rw [List.perm_ext_iff_of_nodup h3 k3]
  refine fun x => ⟨hsub x, fun hx => Classical.byContradiction fun hn => ?_⟩
  have := List.Nodup.length_le_of_subset (l₁ := x :: o) (l₂ := nums n) (List.nodup_cons.2 ⟨hn, h3⟩) fun z hz => by
    rcases List.mem_cons.1 hz with rfl | hz
    · exact hx
    · exact hsub z hz
  rw [nums_len, List.length_cons] at this
  omega
theorem ws_nums (l : List Int) : wsOf l (nums l.length) = l := by
  apply List.ext_getElem
  · simp [wsOf, nums]
  · intro k h1 h2
    simp [wsOf, nums, h2]
theorem ws_sum {l o : List Int} (h : isOrd o l.length = true) : sumI (wsOf l o) = sumI l := by
  rw [show sumI (wsOf l o) = sumI (wsOf l (nums l.length)) from sum_perm ((ord_nums h).map _), ws_nums]
theorem seamsGo_get (layer : List Int) : ∀ (o : List Int) (a : Int) (k : Nat) (h : k < (seamsGo layer a o).length), (seamsGo layer a o)[k] = a + sumI ((wsOf layer o).take (k + 1))
  | [], a, k, h => by simp [seamsGo] at h
  | i :: o, a, k, h => by
    cases k with
    | zero => simp [seamsGo, wsOf, sumI_cons, sumI_nil]
    | succ k =>
      have := seamsGo_get layer o (a + layer.getD i.toNat 0) k (by simpa [seamsGo] using h)
      simp only [seamsGo, List.getElem_cons_succ, this]
      rw [show wsOf layer (i :: o) = layer.getD i.toNat 0 :: wsOf layer o from rfl, List.take_succ_cons, sumI_cons]; omega
theorem seamsOf_len (l o : List Int) : (seamsOf l o).length = o.length - 1 := by simp [seamsOf, seamsGo_length]
theorem seamsOf_get (l o : List Int) (k : Nat) (h : k < (seamsOf l o).length) : (seamsOf l o)[k] = sumI ((wsOf l o).take (k + 1)) := by
  have hl := seamsOf_len l o
  have := seamsGo_get l o.dropLast 0 k h
  have e : (wsOf l o.dropLast).take (k + 1) = (wsOf l o).take (k + 1) := by
    rw [dropLast_take, wsOf, wsOf, List.map_take, List.take_take, Nat.min_eq_left (by omega)]
  rw [e] at this
  rw [show (seamsOf l o)[k] = (seamsGo l 0 o.dropLast)[k]'h from rfl, this]; omega
def turnL (W : Int) (s : List Int) : List Int := (s.map fun x => W - x).reverse
theorem turn_seams {l o : List Int} (h : isOrd o l.length = true) : seamsOf l o.reverse = turnL (sumI l) (seamsOf l o) := by
  have e : wsOf l o.reverse = (wsOf l o).reverse := by simp [wsOf]
  apply List.ext_getElem
  · simp [turnL, seamsOf_len]
  · intro k h1 h2
    have h3 := seamsOf_len l o.reverse
    have h4 := seamsOf_len l o
    rw [List.length_reverse] at h3
    rw [seamsOf_get, e, List.take_reverse, sum_rev1, wsOf_len]
    simp only [turnL, List.getElem_reverse, List.getElem_map, List.length_map]
    rw [seamsOf_get]
    have h5 := ws_sum h
    rw [← List.take_append_drop (o.length - (k + 1)) (wsOf l o), sumI_append] at h5
    rw [show (seamsOf l o).length - 1 - k + 1 = o.length - (k + 1) by omega]
    omega
theorem isOrd_rev {o : List Int} {n : Nat} (h : isOrd o n = true) : isOrd o.reverse n = true := ord_perm (List.reverse_perm o) h
theorem turn_ords {p o : List (List Int)} (h : Ords p o) : Ords p (o.map List.reverse) := by
  refine ⟨by simpa using h.len, fun i h1 h2 => ?_⟩
  rw [List.getElem_map]
  exact isOrd_rev (h.ord i (by simpa using h1) h2)
theorem turn_by {p o : List (List Int)} (hv : Val p) (h : Ords p o) : seamsBy p (o.map List.reverse) = (seamsBy p o).map (turnL (sumI (p.headD []))) := by
  apply List.ext_getElem
  · simp [seamsBy]
  · intro k h1 h2
    simp only [seamsBy, List.length_zipWith, List.length_map] at h1
    simp only [seamsBy, List.getElem_zipWith, List.getElem_map]
    rw [turn_seams (h.ord k (by omega) (by omega)), hv.eq _ (List.getElem_mem _)]
theorem mem_turn (W : Int) (s : List Int) (x : Int) : W - x ∈ turnL W s ↔ x ∈ s := by
  simp only [turnL, List.mem_reverse, List.mem_map]
  exact ⟨fun ⟨y, hy, e⟩ => by rw [show x = y by omega]; exact hy, fun h => ⟨x, h, rfl⟩⟩
theorem has_turn (W : Int) (s : List Int) (x : Int) : has (turnL W s) (W - x) = has s x := by
  rw [Bool.eq_iff_iff, has_iff, has_iff, mem_turn]
theorem common_turn (W : Int) (a b : List Int) : common (turnL W a) (turnL W b) = common a b := by
  unfold common
  rw [show turnL W a = (a.map fun x => W - x).reverse from rfl, List.filter_reverse, List.length_reverse, List.filter_map, List.length_map]
  congr 1
  apply List.filter_congr
  intro x _
  exact has_turn W b x
theorem meet_turn (W : Int) : ∀ l : List (List Int), meetN (l.map (turnL W)) = meetN l
  | [] => rfl
  | [x] => rfl
  | a :: b :: r => by
    have := meet_turn W (b :: r)
    simp only [List.map_cons, meetN, common_turn] at this ⊢; omega
theorem apart_turn (v W : Int) (a b : List Int) : apartBy v (turnL W a) (turnL W b) ↔ apartBy v a b := by
  constructor
  · intro h x hx y hy
    have := h (W - x) ((mem_turn W a x).2 hx) (W - y) ((mem_turn W b y).2 hy)
    omega
  · intro h x hx y hy
    have h1 := (mem_turn W a (W - x)).1 (by rw [show W - (W - x) = x by omega]; exact hx)
    have h2 := (mem_turn W b (W - y)).1 (by rw [show W - (W - y) = y by omega]; exact hy)
    have := h _ h1 _ h2
    omega
theorem adj_turn (v W : Int) : ∀ l : List (List Int), adj (apartBy v) (l.map (turnL W)) ↔ adj (apartBy v) l
  | [] => Iff.rfl
  | [x] => Iff.rfl
  | a :: b :: r => by
    have := adj_turn v W (b :: r)
    simp only [List.map_cons, adj, apart_turn] at this ⊢; rw [this]
theorem dist_turn (W : Int) (l : List (List Int)) (m : Int) : distGo (l.map (turnL W)) m = distGo l m :=
  eq_of_le fun v => by rw [le_dist, le_dist, adj_turn]
/-- Seams lie between both ends. -/
theorem seamsOf_in {l o : List Int} (hw : ∀ x ∈ l, 1 ≤ x) (ho : isOrd o l.length = true) : ∀ x ∈ seamsOf l o, 1 ≤ x ∧ x < sumI l := by
  intro x hx
  have h1 := (seamsOf_rise hw ho).2 x hx
  have h2 := (seamsOf_rise hw (isOrd_rev ho)).2 (sumI l - x) (by rw [turn_seams ho, mem_turn]; exact hx)
  omega
theorem seams_in {p o : List (List Int)} (hv : Val p) (h : Ords p o) : ∀ r ∈ seamsBy p o, ∀ x ∈ r, 1 ≤ x ∧ x < sumI (p.headD []) := by
  intro r hr x hx
  obtain ⟨l, hl, q, hq, rfl⟩ := seams_mem h r hr
  rw [← hv.eq l hl]
  exact seamsOf_in (fun y hy => (hv.w l hl y hy).1) hq x hx
end Go.Proofs.Ytlcebaejlnpdeaa.Ab

/-
  SeamScaled.
-/
namespace Go.Proofs.Ytlcebaejlnpdeaa.Ab
open Go
set_option maxRecDepth 20000
set_option maxHeartbeats 4000000
end Go.Proofs.Ytlcebaejlnpdeaa.Ab
