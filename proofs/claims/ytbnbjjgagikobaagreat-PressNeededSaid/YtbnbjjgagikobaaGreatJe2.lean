
import Derived.Test.YtbnbjjgagikobaaGreatJe1
import Derived.RangeFuncRecord
import Derived.MapKept
import Derived.RangeFuncLeaves
import Derived.RangeFuncCalls
import Derived.RangeFuncNested
import Derived.TacticsIn
set_option linter.unusedSimpArgs false
set_option linter.unusedVariables false
set_option linter.unusedSectionVars false
/-
  The other built-in functions; what is built.
-/
namespace Go.Proofs.YtbnbjjgagikobaaGreat.Ab
open Go
section
variable {P : Program} {B : Nat} {κ : List Nat} {w : World} {H : List AObj} {ω : Nat → Option Lab} {S : Nat → Nat → Prop}
theorem isSliceT_some {ts : Array TypeId} (h : isSliceT P ts[0]? = true) : ∃ t e, ts[0]? = some t ∧ P.underlying t = some (.slice e) := by
  unfold isSliceT at h
  split at h
  · rename_i e he
    simp only [Option.bind_eq_some_iff] at he
    obtain ⟨t, h1, h2⟩ := he
    exact ⟨t, e, h1, h2⟩
  · simp at h
theorem sim_len (hH : HRel B ω κ S w H) {ts : Array TypeId} (ty : TypeId) {u r : AV} {H' : List AObj} {v : Value} (h : opLen P ts H [u] = some (r, H')) (hr : Rel κ S w u v) :
    ∃ y, (Builtin.len_ ts ty #[v]).run P w = .ok y w ∧ Post B ω κ S w H' r y w := by
  simp only [opLen] at h
  split at h
  · split at h
    · rename_i hs
      obtain ⟨t, e, ht, he⟩ := isSliceT_some hs
      simp only [Option.some.injEq, Prod.mk.injEq] at h
      obtain ⟨rfl, rfl⟩ := h
      have hv : ∃ a c, v = .slice a _ c := lenOf_eq (n := _) rfl hr
      obtain ⟨a, c, rfl⟩ := hv
      exact ⟨_, by simp [Builtin.len_, ht, run_underlying he, goInt], Post.same hH (.int _ _) rfl⟩
    · simp at h
  · split at h
    · rename_i hs
      obtain ⟨t, e, ht, he⟩ := isSliceT_some hs
      simp only [Option.some.injEq, Prod.mk.injEq] at h
      obtain ⟨rfl, rfl⟩ := h
      have hv : ∃ a c, v = .slice a _ c := lenOf_eq (n := _) rfl hr
      obtain ⟨a, c, rfl⟩ := hv
      exact ⟨_, by simp [Builtin.len_, ht, run_underlying he, goInt], Post.same hH (.int _ _) rfl⟩
    · simp at h
  · split at h
    · rename_i _ _ ht hid
      simp only [Option.bind_eq_some_iff] at ht
      obtain ⟨t, ht, he⟩ := ht
      simp only [Option.some.injEq, Prod.mk.injEq] at h
      obtain ⟨rfl, rfl⟩ := h
      obtain ⟨b, ents, a1, a2, a3, a4, a5, a6⟩ := hH.obj _ _ hid
      cases hr with
      | map _ b' k =>
        rw [a1] at k; cases k
        exact ⟨_, by simp [Builtin.len_, ht, run_underlying he, goInt, getObj, Sem.run, a3, a4], Post.same hH (.int _ _) rfl⟩
    · simp at h
  · split at h
    · rename_i n e he
      simp only [Option.bind_eq_some_iff] at he
      obtain ⟨t, ht, he⟩ := he
      simp only [Option.some.injEq, Prod.mk.injEq] at h
      obtain ⟨rfl, rfl⟩ := h
      exact ⟨_, by simp [Builtin.len_, ht, run_underlying he, goInt], Post.same hH (.int _ _) rfl⟩
    · simp at h
theorem sim_cap (hH : HRel B ω κ S w H) {ts : Array TypeId} (ty : TypeId) {u r : AV} {H' : List AObj} {v : Value} (h : opCap P ts H [u] = some (r, H')) (hr : Rel κ S w u v) :
    ∃ y, (Builtin.cap_ ts ty #[v]).run P w = .ok y w ∧ Post B ω κ S w H' r y w := by
  unfold opCap at h
  split at h
  · rename_i cs n heq
    simp only [List.cons.injEq, and_true] at heq
    subst heq
    split at h
    · rename_i hs
      obtain ⟨t, e, ht, he⟩ := isSliceT_some hs
      simp only [Option.some.injEq, Prod.mk.injEq] at h
      obtain ⟨rfl, rfl⟩ := h
      have hv : ∃ a, v = .slice a n n := by
        cases hr with
        | lnil => exact ⟨_, rfl⟩
        | lst _ _ _ b o cap f hc => exact ⟨_, by rw [hc rfl]⟩
      obtain ⟨a, rfl⟩ := hv
      exact ⟨_, by simp [Builtin.cap_, ht, run_underlying he, goInt], Post.same hH (.int _ _) rfl⟩
    · simp at h
  · rename_i id off len n sz heq
    simp only [List.cons.injEq, and_true] at heq
    subst heq
    split at h
    · rename_i hs
      obtain ⟨t, e, ht, he⟩ := isSliceT_some hs
      simp only [Option.some.injEq, Prod.mk.injEq] at h
      obtain ⟨rfl, rfl⟩ := h
      have hv : ∃ a, v = .slice a len n := by
        cases hr with
        | ref _ _ _ _ _ b cap _ hc => exact ⟨_, by rw [hc n rfl]⟩
      obtain ⟨a, rfl⟩ := hv
      exact ⟨_, by simp [Builtin.cap_, ht, run_underlying he, goInt], Post.same hH (.int _ _) rfl⟩
    · simp at h
  · simp at h
theorem run_minAcc {k : IntKind} : ∀ (us : List AV) (a n : Int) (vs : List Value) (lab : Nat → Lab), minAcc us a = some n → VRel lab ω κ S w us vs → (vs.foldlM Builtin.min2 (.int k a)).run P w = .ok (.int k n) w
  | [], a, n, vs, lab, h, hv => by
    cases vs with
    | cons => exact absurd hv.len (by simp)
    | nil => simp only [minAcc, Option.some.injEq] at h; subst h; rfl
  | u :: us, a, n, vs, lab, h, hv => by
    obtain ⟨v1, t1, rfl, r1, _, hv2⟩ := hv.uncons
    unfold minAcc at h
    split at h
    · rename_i heq; simp at heq
    · rename_i k' b r _ heq
      simp only [List.cons.injEq] at heq
      obtain ⟨rfl, rfl⟩ := heq
      have e1 := r1.int_inv
      subst e1
      simp only [List.foldlM_cons, Builtin.min2, pure_bind]
      exact run_minAcc _ _ _ _ _ h hv2
    · cases h
theorem run_maxAcc {k : IntKind} : ∀ (us : List AV) (a n : Int) (vs : List Value) (lab : Nat → Lab), maxAcc us a = some n → VRel lab ω κ S w us vs → (vs.foldlM Builtin.max2 (.int k a)).run P w = .ok (.int k n) w
  | [], a, n, vs, lab, h, hv => by
    cases vs with
    | cons => exact absurd hv.len (by simp)
    | nil => simp only [maxAcc, Option.some.injEq] at h; subst h; rfl
  | u :: us, a, n, vs, lab, h, hv => by
    obtain ⟨v1, t1, rfl, r1, _, hv2⟩ := hv.uncons
    unfold maxAcc at h
    split at h
    · rename_i heq; simp at heq
    · rename_i k' b r _ heq
      simp only [List.cons.injEq] at heq
      obtain ⟨rfl, rfl⟩ := heq
      have e1 := r1.int_inv
      subst e1
      simp only [List.foldlM_cons, Builtin.max2, pure_bind]
      exact run_maxAcc _ _ _ _ _ h hv2
    · cases h
theorem sim_min {us : List AV} {r : AV} (ts : Array TypeId) (ty : TypeId) {lab : Nat → Lab} {vs : List Value} (h : minInt us = some r) (hv : VRel lab ω κ S w us vs) :
    ∃ y, (Builtin.min_ ts ty vs.toArray).run P w = .ok y w ∧ Rel κ S w r y ∧ r.plain = true := by
  unfold minInt at h
  split at h
  · simp only [Option.map_eq_some_iff] at h
    obtain ⟨n, h, rfl⟩ := h
    obtain ⟨v1, t1, rfl, r1, _, hv2⟩ := hv.uncons
    have e1 := r1.int_inv
    subst e1
    exact ⟨_, by simp only [Builtin.min_]; exact run_minAcc _ _ _ _ _ h hv2, .int _ _, rfl⟩
  · simp at h
theorem sim_max {us : List AV} {r : AV} (ts : Array TypeId) (ty : TypeId) {lab : Nat → Lab} {vs : List Value} (h : maxInt us = some r) (hv : VRel lab ω κ S w us vs) :
    ∃ y, (Builtin.max_ ts ty vs.toArray).run P w = .ok y w ∧ Rel κ S w r y ∧ r.plain = true := by
  unfold maxInt at h
  split at h
  · simp only [Option.map_eq_some_iff] at h
    obtain ⟨n, h, rfl⟩ := h
    obtain ⟨v1, t1, rfl, r1, _, hv2⟩ := hv.uncons
    have e1 := r1.int_inv
    subst e1
    exact ⟨_, by simp only [Builtin.max_]; exact run_maxAcc _ _ _ _ _ h hv2, .int _ _, rfl⟩
  · simp at h
/-- Plain cells are written into an object. -/
theorem write_plain (hH : HRel B ω κ S w H) {lo id off len sz n : Nat} {H' : List AObj} {cs : List AV} {vs : List Value} (hcr : CRel κ S w cs vs) (hcl : cs.length = n) (hn : n ≤ len * sz)
    (h : mutObj lo H id (fun l => if off + len * sz ≤ l.length then some (setCells off cs l) else none) = some H') {b : Nat} (hb : κ[id]? = some b) :
    ∃ w', (storeCells ⟨b, off, none⟩ vs).run P w = .ok () w' ∧ ∃ ω', Ev ω S w ω' S w' ∧ HRel B ω' κ S w' H' := by
  unfold mutObj at h
  split at h
  · split at h
    · rename_i ll hid
      simp only [Option.map_eq_some_iff] at h
      obtain ⟨l', hl', rfl⟩ := h
      split at hl'
      · rename_i hc
        cases hl'
        obtain ⟨b', cur, e, a1, a2, a3, a4, a5, a6⟩ := hH.obj id _ hid
        rw [hb] at a1; cases a1
        have hvl : vs.length = n := hcr.len ▸ hcl
        have hone : ∀ u ∈ vs, u.oneCell' = true := fun u hu => by
          obtain ⟨j, hj⟩ := List.mem_iff_getElem?.1 hu
          have hlt := (List.getElem?_eq_some_iff.1 hj).1
          exact (hcr.rel j _ u (List.getElem?_eq_getElem (hcr.len ▸ hlt)) hj).2.1
        have hst := run_storeCells_at P b off e vs 0 cur w a3 (by omega) hone
        simp only [Nat.add_zero] at hst
        obtain ⟨ω', ev, hH'⟩ := obj_write (cur' := (cur.toList.take off ++ vs ++ cur.toList.drop (off + vs.length)).toArray) (l' := setCells off cs ll) hH hid hb a2 a3 a5 .res (by simp) (by simp)
          (by simp [setCells_len]; omega) 0 (fun j u' v' hu hv => by
            rw [setCells_get _ _ _ _ (by omega)] at hu
            have hv : (cur.toList.take off ++ vs ++ cur.toList.drop (off + vs.length))[j]? = some v' := by simpa using hv
            rw [seg_get cur.toList vs off j (by have hcl' : cur.toList.length = cur.size := Array.length_toList; omega)] at hv
            rw [hcr.len] at hu
            split at hu
            · rename_i hj
              rw [if_pos hj] at hv
              obtain ⟨c1, c2, c3⟩ := hcr.rel _ u' v' hu hv
              exact ⟨AV.plain_noUniq c1, c2, c3, .inl c1⟩
            · rename_i hj
              rw [if_neg hj] at hv
              obtain ⟨d1, d0, d2, d3⟩ := a6 j u' v' hu (by simpa using hv)
              exact ⟨d1, d0, d2, .inr (.inl d3)⟩)
        exact ⟨_, hst, ω', ev, hH'⟩
      · simp at hl'
    · simp at h
  · simp at h
theorem sim_copy (hH : HRel B ω κ S w H) {lo : Nat} {ts : Array TypeId} (ty : TypeId) {u x r : AV} {H' : List AObj} {v vx : Value} {l1 : Lab} (m1 : ∀ id, l1 ≠ .obj id) (m2 : ∀ id j, l1 ≠ .cell id j)
    (h : opCopy P lo ts H [u, x] = some (r, H')) (hr : Rel κ S w u v) (hrx : Rel κ S w x vx) (hox : OwnAt ω κ S w l1 x vx) :
    ∃ y w', (Builtin.copy_ ts ty #[v, vx]).run P w = .ok y w' ∧ Post B ω κ S w H' r y w' := by
  obtain ⟨S1, k1, k2, hH1, hrx1⟩ := look_one hH m1 m2 hrx hox
  have ev0 : Ev ω S w ω S1 w := Ev.settle k1 fun b o h => (k2 b o h).imp (fun h => h) fun h => ⟨_, h⟩
  unfold opCopy at h
  split at h
  · rename_i id off len cap sz x' heq
    simp only [List.cons.injEq, and_true] at heq
    obtain ⟨rfl, rfl⟩ := heq
    split at h
    · rename_i e he
      simp only [Option.bind_eq_some_iff] at he
      obtain ⟨t, ht, he⟩ := he
      split at h
      · rename_i s m row hs hm hrow
        split at h
        · rename_i hc
          obtain ⟨rfl, hrl⟩ := hc
          simp only [Option.map_eq_some_iff] at h
          obtain ⟨H2, hw, h⟩ := h
          simp only [Prod.mk.injEq] at h
          obtain ⟨rfl, rfl⟩ := h
          have hmv : lenOf x.view = some m := by
            cases x <;> try exact hm
            · rename_i c; cases c <;> exact hm
            · simp [lenOf] at hm
          have hrv : rowOf H x.view = some row := by
            cases x <;> try exact hrow
            · rename_i c; cases c <;> exact hrow
            · simp [rowOf] at hrow
          have hpl := AV.plain_noUniq (AV.view_plain x)
          cases hr with
          | ref _ _ _ _ _ b cap' hb hcc hle =>
            obtain ⟨a, c, hvx⟩ := lenOf_eq hmv hrx1
            have hrows : ∃ vs, CRel κ S1 w row vs ∧ ∀ n, n ≤ m → (Builtin.firstCells s n vx).run P w = .ok (vs.take (n * s)).toArray w := by
              rcases row_look hH1 hrv hrx1 hpl with ⟨h0, n, c', hv⟩ | ⟨b2, o2, n, c', vs, hv, hco, hcell⟩
              · refine ⟨[], ⟨by simp [h0], by simp [h0]⟩, fun n' hn => ?_⟩
                have hm0 : m = 0 := by rw [hv] at hvx; cases hvx; rfl
                rw [hv]
                obtain rfl : n' = 0 := by omega
                cases n <;> simp [Builtin.firstCells, loadCells, loadCellsFrom]
              · refine ⟨vs, hco, fun n' hn => ?_⟩
                rw [hv] at hvx ⊢
                cases hvx
                have hvl : vs.length = m * s := hco.len ▸ hrl
                have hle' : n' * s ≤ m * s := Nat.mul_le_mul_right _ hn
                exact run_firstCells_some (P := P) w s n' ⟨b2, o2, none⟩ m c (vs.take (n' * s)) (by simp; omega) (fun j y hy => by
                  rw [List.getElem?_take] at hy
                  split at hy
                  · rw [add_lit]; exact hcell j y hy
                  · simp at hy)
            obtain ⟨vs, hco, hfirst⟩ := hrows
            have hmin : min m len * s ≤ m * s := Nat.mul_le_mul_right _ (Nat.min_le_left _ _)
            have hct : CRel κ S1 w (row.take (min m len * s)) (vs.take (min m len * s)) := ⟨by simp [hco.len], fun j u' v' hu' hv' => by
              rw [List.getElem?_take] at hu' hv'
              split at hu'
              · rename_i hj; rw [if_pos hj] at hv'; exact hco.rel j u' v' hu' hv'
              · simp at hu'⟩
            obtain ⟨w', hst, ω', ev, hH'⟩ := write_plain (P := P) (n := min m len * s) hH1 hct (by simp; omega) (Nat.mul_le_mul_right _ (Nat.min_le_right _ _)) hw hb
            refine ⟨.int .i64 (min m len : Nat), w', ?_, ω', κ, S1, Ext.refl κ, ev0.trans ev, hH', .int _ _, OwnAt.of_plain rfl⟩
            subst hvx
            have hf := hfirst (min m len) (Nat.min_le_left _ _)
            simp only [Builtin.copy_, ht, List.getElem?_toArray, List.getElem?_cons_zero, List.getElem?_cons_succ, Sem.run_bind, run_underlying he, Result.andThen_ok, Builtin.lenOf, Sem.run_pure, run_sizeOf hs]
            rw [show Nat.min m len = min m len from rfl, hf]
            simp [hst, goInt]
        · simp at h
      · simp at h
    · simp at h
  · simp at h
theorem sim_clear (hH : HRel B ω κ S w H) {lo : Nat} {ts : Array TypeId} (ty : TypeId) {u r : AV} {H' : List AObj} {v : Value} (h : opClear P lo ts H [u] = some (r, H')) (hr : Rel κ S w u v) :
    ∃ y w', (Builtin.clear_ ts ty #[v]).run P w = .ok y w' ∧ Post B ω κ S w H' r y w' := by
  have done : ∀ {H2 : List AObj}, HRel B ω κ S w H2 → Post B ω κ S w H2 (.tuple []) (.tuple #[]) w := fun hH2 => Post.same hH2 (.tuple [] #[] rfl (by simp) (by simp)) rfl
  unfold opClear at h
  split at h
  · rename_i id off len cap sz heq
    simp only [List.cons.injEq, and_true] at heq
    subst heq
    split at h
    · rename_i e he
      simp only [Option.bind_eq_some_iff] at he
      obtain ⟨t, ht, he⟩ := he
      split at h
      · rename_i s z hs hz
        split at h
        · rename_i hc
          obtain ⟨rfl, hzl, hsz⟩ := hc
          simp only [Option.map_eq_some_iff, Prod.mk.injEq] at h
          obtain ⟨H2, hw, rfl, rfl⟩ := h
          obtain ⟨i, zv, hi, hzv, hcz⟩ := zeroCells_rel (κ := κ) (S := S) (w := w) hz
          have hzr := zeros_rel hcz (by omega) len
          cases hr with
          | ref _ _ _ _ _ b cap' hb hcc hle =>
            obtain ⟨w', hst, ω', ev, hH'⟩ := write_plain (P := P) (n := len * s) hH hzr (by rw [repl_len, hzl]) (Nat.le_refl _) hw hb
            have hzl' : z.length = zv.cells.size := by simpa using hcz.len
            have heq : (Builtin.zeroCells zv.cells len).toList = ((Array.range (len * z.length)).map (fun i => zv.cells[i % zv.cells.size]!)).toList := by
              simp [Builtin.zeroCells, hzl']
            rw [← heq] at hst
            cases len with
            | zero =>
              have hw' : w' = w := by
                have h0 : (Builtin.zeroCells zv.cells 0).toList = [] := by simp [Builtin.zeroCells]
                rw [h0] at hst
                simp [storeCells] at hst; exact hst.symm
              subst hw'
              refine ⟨.tuple #[], w', by simp [Builtin.clear_, ht, run_underlying he], ω', κ, S, Ext.refl κ, ev, hH', .tuple [] #[] rfl (by simp) (by simp), OwnAt.of_plain rfl⟩
            | succ n =>
              refine ⟨.tuple #[], w', ?_, ω', κ, S, Ext.refl κ, ev, hH', .tuple [] #[] rfl (by simp) (by simp), OwnAt.of_plain rfl⟩
              simp [Builtin.clear_, ht, run_underlying he, run_zeroValue hi hzv, hst]
        · simp at h
      · simp at h
    · simp at h
  · rename_i c heq
    simp only [List.cons.injEq, and_true] at heq
    subst heq
    split at h
    · rename_i hs
      obtain ⟨t, e, ht, he⟩ := isSliceT_some hs
      simp only [Option.some.injEq, Prod.mk.injEq] at h
      obtain ⟨rfl, rfl⟩ := h
      have hv : ∃ a c, v = .slice a 0 c := lenOf_eq (n := 0) rfl hr
      obtain ⟨a, c, rfl⟩ := hv
      refine ⟨.tuple #[], w, ?_, done hH⟩
      cases a <;> simp [Builtin.clear_, ht, run_underlying he]
    · simp at h
  · simp at h
/-! ### Structs, arrays and slices that are built out of parts -/
theorem foldl_set_get (off : Nat) : ∀ (xs : List Value) (k : Nat) (cells : Array Value) (j : Nat), off + k + xs.length ≤ cells.size →
    ((xs.zipIdx k).foldl (fun cs (x : Value × Nat) => cs.setIfInBounds (off + x.2) x.1) cells)[j]? = if off + k ≤ j ∧ j < off + k + xs.length then xs[j - (off + k)]? else cells[j]?
  | [], k, cells, j, _ => by simp; omega
  | x :: xs, k, cells, j, h => by
    simp only [List.length_cons] at h
    simp only [List.zipIdx_cons, List.foldl_cons]
    rw [foldl_set_get off xs (k + 1) _ j (by simp; omega)]
    by_cases h1 : j = off + k
    · subst h1
      rw [if_neg (by omega), if_pos (by simp)]
      simp [show off + k < cells.size by omega]
    · by_cases h2 : off + (k + 1) ≤ j ∧ j < off + (k + 1) + xs.length
      · rw [if_pos h2, if_pos (by simp; omega)]
        obtain ⟨m, rfl⟩ : ∃ m, j = off + (k + 1) + m := ⟨j - (off + (k + 1)), by omega⟩
        rw [show off + (k + 1) + m - (off + (k + 1)) = m by omega, show off + (k + 1) + m - (off + k) = m + 1 by omega]; simp
      · rw [if_neg h2, if_neg (by simp; omega), Array.getElem?_setIfInBounds_ne (by omega)]
theorem plain_cells {u : AV} {v : Value} {vc : List AV} (hc : u.cells = some vc) (hr : Rel κ S w u v) (hp : u.plain = true) : CRel κ S w vc v.cells.toList := by
  have single : vc = [u] → v.cells = #[v] → v.oneCell' = true → CRel κ S w vc v.cells.toList := by
    intro h1 h2 h3
    subst h1
    rw [h2]
    refine ⟨rfl, fun j u' v' hu hv => ?_⟩
    cases j with
    | zero => simp at hu hv; subst hu hv; exact ⟨hp, h3, hr⟩
    | succ j => simp at hu
  cases hr with
  | agg as vs h p one r =>
    simp [AV.cells] at hc
    subst hc
    exact ⟨by simpa [Value.cells] using h.symm, fun j u' v' hu hv => ⟨p u' (List.mem_of_getElem? hu), one v' (List.mem_of_getElem? hv), r j u' v' hu (by simpa [Value.cells] using hv)⟩⟩
  | junk v => simp [AV.cells] at hc
  | tuple as vs h p r => simp [AV.cells] at hc
  | raw => simp [AV.cells] at hc
  | _ => simp [AV.cells] at hc; exact single hc.symm rfl rfl
theorem fill_sim {place : Nat → Option (Nat × Nat)} : ∀ (parts : List (Nat × AV)) (parts' : List (Nat × Value)) (cs cs' : List AV) (vs : Array Value),
    parts.map (·.1) = parts'.map (·.1) → (∀ (j : Nat) (x : Nat × AV) (y : Nat × Value), parts[j]? = some x → parts'[j]? = some y → x.2.plain = true ∧ Rel κ S w x.2 y.2) →
    aFill place cs parts = some cs' → CRel κ S w cs vs.toList → ∃ vs', Instr.fill place vs parts' = some vs' ∧ CRel κ S w cs' vs'.toList
  | [], parts', cs, cs', vs, hi, _, h, hc => by
    cases parts' with
    | nil => simp [aFill] at h; subst h; exact ⟨vs, rfl, hc⟩
    | cons => simp at hi
  | (i, u) :: parts, parts', cs, cs', vs, hi, hrel, h, hc => by
    cases parts' with
    | nil => simp at hi
    | cons y parts' =>
      obtain ⟨i', v⟩ := y
      simp only [List.map_cons, List.cons.injEq] at hi
      obtain ⟨rfl, hi⟩ := hi
      obtain ⟨hp, hr⟩ := hrel 0 (i, u) (i, v) rfl rfl
      simp only [aFill] at h
      split at h
      · rename_i off size hpl
        split at h
        · rename_i vc hvc
          split at h
          · rename_i hcond
            obtain ⟨hsz, hle⟩ := hcond
            have hcr := plain_cells hvc hr hp
            have hvl : v.cells.size = size := by have := hcr.len; simp at this; omega
            have hcl : vs.size = cs.length := by have := hc.len; simp at this; omega
            have hC : CRel κ S w (setCells off vc cs) (v.cells.zipIdx.foldl (fun cs (x : Value × Nat) => cs.setIfInBounds (off + x.2) x.1) vs).toList := by
              refine ⟨?_, fun j u' v' hu hv => ?_⟩
              · rw [setCells_len]
                have hfl : ∀ (l : List (Value × Nat)) (a : Array Value), (l.foldl (fun cs (x : Value × Nat) => cs.setIfInBounds (off + x.2) x.1) a).size = a.size := by
                  intro l; induction l with
                  | nil => intro a; rfl
                  | cons x l ih => intro a; simp [ih]
                have := hfl v.cells.zipIdx.toList vs
                simp only [Array.length_toList]
                rw [← hcl, ← this, ← Array.foldl_toList]
              · rw [setCells_get _ _ _ _ (by omega)] at hu
                have hg := foldl_set_get off v.cells.toList 0 vs j (by simp; omega)
                have hv2 : (v.cells.zipIdx.foldl (fun cs (x : Value × Nat) => cs.setIfInBounds (off + x.2) x.1) vs)[j]? = some v' := by simpa using hv
                rw [← Array.foldl_toList, Array.toList_zipIdx] at hv2
                rw [hg] at hv2
                simp only [Nat.add_zero, Array.length_toList, hvl] at hv2
                rw [hsz] at hu
                split at hu
                · rename_i hj
                  rw [if_pos hj] at hv2
                  exact hcr.rel _ u' v' hu hv2
                · rename_i hj
                  rw [if_neg hj] at hv2
                  exact hc.rel j u' v' hu (by simpa using hv2)
            obtain ⟨vs', h1, h2⟩ := fill_sim parts parts' (setCells off vc cs) cs' _ hi (fun j x y hx hy => hrel (j + 1) x y (by simpa using hx) (by simpa using hy)) h hC
            exact ⟨vs', by simp only [Instr.fill, hpl]; rw [if_neg (by simp; omega)]; exact h1, h2⟩
          · simp at h
        · simp at h
      · simp at h
end
end Go.Proofs.YtbnbjjgagikobaaGreat.Ab

/-
  All operations without a call.
-/
namespace Go.Proofs.YtbnbjjgagikobaaGreat.Ab
open Go
section
variable {P : Program} {B : Nat} {κ : List Nat} {w : World} {H : List AObj} {ω : Nat → Option Lab} {S : Nat → Nat → Prop}
theorem run_mapM_list {α β : Type} (g : α → Sem β) (h : α → β) : ∀ (l : List α), (∀ x ∈ l, ∀ w, (g x).run P w = .ok (h x) w) → ∀ w, (l.mapM g).run P w = .ok (l.map h) w
  | [], _, w => by simp
  | x :: l, hx, w => by
    rw [List.mapM_cons]
    simp [hx x (by simp), run_mapM_list g h l (fun y hy => hx y (by simp [hy]))]
theorem sim_build {t : TypeId} {parts : List (Nat × AV)} {parts' : Array (Nat × Value)} {r : AV} (h : aBuild P t parts = some r) (hi : parts.map (·.1) = parts'.toList.map (·.1))
    (hrel : ∀ (j : Nat) (x : Nat × AV) (y : Nat × Value), parts[j]? = some x → parts'.toList[j]? = some y → x.2.plain = true ∧ Rel κ S w x.2 y.2) :
    ∃ v, (Instr.build t parts').run P w = .ok v w ∧ Rel κ S w r v ∧ r.plain = true := by
  have fin : ∀ {cs' : List AV} {vs' : Array Value}, CRel κ S w cs' vs'.toList → Rel κ S w (.agg cs') (.agg vs') := fun {cs' vs'} h =>
    .agg _ _ (by simpa using h.len.symm) (fun u hu => by
      obtain ⟨j, hj⟩ := List.mem_iff_getElem?.1 hu
      have hlt := (List.getElem?_eq_some_iff.1 hj).1
      exact (h.rel j u _ hj (List.getElem?_eq_getElem (h.len ▸ hlt))).1) (fun v hv => by
      obtain ⟨j, hj⟩ := List.mem_iff_getElem?.1 hv
      have hlt := (List.getElem?_eq_some_iff.1 hj).1
      exact (h.rel j _ v (List.getElem?_eq_getElem (h.len ▸ hlt)) hj).2.1) (fun j u v hu hv => (h.rel j u v hu (by simpa using hv)).2.2)
  unfold aBuild at h
  split at h
  · rename_i z fs hz hd
    obtain ⟨i, zv, hi', hzv, hcz⟩ := zeroCells_rel (κ := κ) (S := S) (w := w) hz
    split at h
    · rename_i hall
      simp only [Option.map_eq_some_iff] at h
      obtain ⟨cs', hf, rfl⟩ := h
      obtain ⟨vs', h1, h2⟩ := fill_sim parts parts'.toList z cs' zv.cells hi hrel hf hcz
      have hall' : ∀ f ∈ fs.toList, ∃ s, szOf P f.type = some s := fun f hf => by
        have := List.all_eq_true.1 hall f hf; exact Option.isSome_iff_exists.1 this
      have hm := run_mapM_list (P := P) (fun f : Field => Prod.mk f.offset <$> sizeOf f.type) (fun f : Field => (f.offset, (szOf P f.type).getD 0)) fs.toList (fun f hf w => by
        obtain ⟨s, hs⟩ := hall' f hf; simp [run_sizeOf hs, hs]) w
      have hpl : (fun (i : Nat) => (fs.map (fun f : Field => (f.offset, (szOf P f.type).getD 0)))[i]?) = (fun (i : Nat) => (fs[i]?).bind fun f : Field => (szOf P f.type).map fun s => (f.offset, s)) := by
        funext i
        rw [Array.getElem?_map]
        cases hfi : fs[i]? with
        | none => rfl
        | some f =>
          obtain ⟨s, hs⟩ := hall' f (by simpa using Array.mem_of_getElem? hfi)
          simp [hs]
      refine ⟨.agg vs', ?_, fin h2, rfl⟩
      rw [← hpl] at h1
      simp only [Array.getElem?_map] at h1
      simp [Instr.build, run_zeroValue hi' hzv, run_underlying hd, Array.mapM_eq_mapM_toList, hm, h1]
    · simp at h
  · rename_i z n e hz hd
    obtain ⟨i, zv, hi', hzv, hcz⟩ := zeroCells_rel (κ := κ) (S := S) (w := w) hz
    simp only [Option.bind_eq_some_iff, Option.map_eq_some_iff] at h
    obtain ⟨s, hs, cs', hf, rfl⟩ := h
    obtain ⟨vs', h1, h2⟩ := fill_sim parts parts'.toList z cs' zv.cells hi hrel hf hcz
    refine ⟨.agg vs', ?_, fin h2, rfl⟩
    simp [Instr.build, run_zeroValue hi' hzv, run_underlying hd, run_sizeOf hs, h1]
  · simp at h
theorem sim_buildSlice (hH : HRel B ω κ S w H) {t : TypeId} {len : Nat} {parts : List (Nat × AV)} {parts' : Array (Nat × Value)} {cs : List AV} {s : Nat} (h : aBuildCells P t len parts = some (cs, s))
    (hi : parts.map (·.1) = parts'.toList.map (·.1))
    (hrel : ∀ (j : Nat) (x : Nat × AV) (y : Nat × Value), parts[j]? = some x → parts'.toList[j]? = some y → x.2.plain = true ∧ Rel κ S w x.2 y.2) :
    ∃ b w', (Instr.buildSlice t len parts').run P w = .ok (.slice (some ⟨b, 0, none⟩) len len) w' ∧ Post B ω κ S w H (.lst cs len (.uniq s)) (.slice (some ⟨b, 0, none⟩) len len) w' := by
  unfold aBuildCells at h
  split at h
  · rename_i e hd
    split at h
    · rename_i s' z hs hz
      split at h
      · rename_i hc
        obtain ⟨h1, h2, h3⟩ := hc
        simp only [Option.map_eq_some_iff, Prod.mk.injEq] at h
        obtain ⟨cs', hf, rfl, rfl⟩ := h
        obtain ⟨i, zv, hi', hzv, hcz⟩ := zeroCells_rel (κ := κ) (S := S) (w := w) hz
        have hzr := zeros_rel hcz (by omega) len
        have hzl' : z.length = zv.cells.size := by simpa using hcz.len
        obtain ⟨vs', q1, q2⟩ := fill_sim parts parts'.toList (repl len z) cs' ((Array.range (len * z.length)).map (fun i => zv.cells[i % zv.cells.size]!)) hi hrel hf hzr
        have hfl : ∀ (place : Nat → Option (Nat × Nat)) (parts : List (Nat × AV)) (a b : List AV), aFill place a parts = some b → b.length = a.length := by
          intro place parts
          induction parts with
          | nil => intro a b h; simp [aFill] at h; rw [h]
          | cons x parts ih =>
            intro a b h
            obtain ⟨i, u⟩ := x
            simp only [aFill] at h
            split at h
            · split at h
              · split at h
                · rw [ih _ _ h, setCells_len]
                · simp at h
              · simp at h
            · simp at h
        have hcl : cs'.length = len * s' := by rw [hfl _ _ _ _ hf, repl_len, h2]
        have hnr := new_row hH q2 [] e len len s' h1 hcl (Nat.le_refl _) (by
          have : len ≤ len * s' := Nat.le_mul_of_pos_right _ h1
          simp only [maxLen]; omega) (by rw [← q2.len, hcl]; simp)
        refine ⟨_, _, ?_, hnr⟩
        simp only [List.append_nil, Array.toArray_toList]
        rw [h2] at q1
        have hbig : ¬ (16777216 < len * s') := by omega
        by_cases h0 : len * s' = 0
        · obtain rfl : len = 0 := by
            rcases Nat.mul_eq_zero.1 h0 with h | h
            · exact h
            · omega
          have q1' : Instr.fill (fun i => some (i * s', s')) #[] parts'.toList = some vs' := by simpa [show Array.range 0 = #[] from rfl] using q1
          simp [Instr.buildSlice, run_underlying hd, run_sizeOf hs, show Array.range 0 = #[] from rfl, q1', newRow, newObj, Sem.run, World.alloc_eq]
        · simp [Instr.buildSlice, run_underlying hd, run_sizeOf hs, h0, hbig, run_zeroValue hi' hzv, q1, newRow, newObj, Sem.run, World.alloc_eq]
      · simp at h
    · simp at h
  · simp at h
end
end Go.Proofs.YtbnbjjgagikobaaGreat.Ab

/-
  Every operation that is no call of a function.
-/
namespace Go.Proofs.YtbnbjjgagikobaaGreat.Ab
open Go
section
variable {P : Program} {B : Nat} {κ : List Nat} {w : World} {H : List AObj} {ω : Nat → Option Lab} {S : Nat → Nat → Prop}
/-- The operation ends with a value, or with none. -/
def OpVal (P : Program) (ρ : Operand → Value) (o : Oper) (w : World) (R : Value → World → Prop) : Prop :=
  (∃ v w', (Go.execOp ρ o).run P w = .ok (.value v) w' ∧ R v w') ∨ (∃ w', (Go.execOp ρ o).run P w = .ok .skip w' ∧ R undef w')
theorem OpVal.makes {ρ : Operand → Value} {o : Oper} {r : AV} (hH : HRel B ω κ S w H) (h : Makes P o ρ κ S w r) (hp : r.plain = true) : OpVal P ρ o w (Post B ω κ S w H r) := by
  obtain ⟨v, h1, h2⟩ := h
  exact .inl ⟨v, w, h1, Post.same hH h2 hp⟩
theorem VRel.one {lab : Nat → Lab} {us : List AV} {ρ : Operand → Value} {x : Operand} (h : VRel lab ω κ S w us ([x].map ρ)) : ∃ u, us = [u] ∧ Rel κ S w u (ρ x) ∧ OwnAt ω κ S w (lab 0) u (ρ x) := by
  match us, h with
  | [u], h => exact ⟨u, rfl, h.rel 0 u _ rfl rfl, h.own 0 u _ rfl rfl⟩
  | [], h => exact absurd h.len (by simp)
  | _ :: _ :: _, h => exact absurd h.len (by simp)
theorem VRel.two {lab : Nat → Lab} {us : List AV} {ρ : Operand → Value} {x y : Operand} (h : VRel lab ω κ S w us ([x, y].map ρ)) :
    ∃ u v, us = [u, v] ∧ Rel κ S w u (ρ x) ∧ OwnAt ω κ S w (lab 0) u (ρ x) ∧ Rel κ S w v (ρ y) ∧ OwnAt ω κ S w (lab 1) v (ρ y) := by
  match us, h with
  | [u, v], h => exact ⟨u, v, rfl, h.rel 0 u _ rfl rfl, h.own 0 u _ rfl rfl, h.rel 1 v _ rfl rfl, h.own 1 v _ rfl rfl⟩
  | [], h => exact absurd h.len (by simp)
  | [_], h => exact absurd h.len (by simp)
  | _ :: _ :: _ :: _, h => exact absurd h.len (by simp)
theorem aArith_plain {op : BinOp} {k : IntKind} {a b : Int} {r : AV} (h : aArith op k a b = some r) : r.plain = true := by
  cases op <;> simp [aArith] at h <;> first | (subst h; rfl) | (obtain ⟨_, rfl⟩ := h; rfl)
theorem aBin_plain {op : BinOp} {t : TypeId} {x y r : AV} (h : aBin P op t x y = some r) : r.plain = true := by
  unfold aBin at h
  split at h
  · split at h
    · unfold aShift at h; split at h <;> simp at h; subst h; rfl
    · unfold aShift at h; split at h <;> simp at h; subst h; rfl
    · split at h
      · exact aArith_plain h
      · simp at h
  · split at h <;> simp at h <;> subst h <;> rfl
  · split at h
    · split at h
      · split at h
        · split at h
          · simp only [Option.map_eq_some_iff] at h; obtain ⟨_, _, rfl⟩ := h; rfl
          · simp only [Option.map_eq_some_iff] at h; obtain ⟨_, _, rfl⟩ := h; rfl
          · simp at h
        · simp at h
      · simp at h
    · split at h
      · split at h
        · simp only [Option.map_eq_some_iff] at h; obtain ⟨_, _, rfl⟩ := h; rfl
        · simp only [Option.map_eq_some_iff] at h; obtain ⟨_, _, rfl⟩ := h; rfl
        · simp at h
      · simp at h
    · simp at h
  · simp at h
theorem aIndexAddr_plain {t : TypeId} {x y r : AV} (h : aIndexAddr P t x y = some r) : r.plain = true := by
  unfold aIndexAddr at h
  split at h <;> simp only [Option.bind_eq_some_iff, Option.map_eq_some_iff, reduceCtorEq] at h <;> (try (obtain ⟨_, _, _, _, rfl⟩ := h; rfl))
theorem aFieldAddr_plain {t : TypeId} {x r : AV} {f : Nat} (h : aFieldAddr P t x f = some r) : r.plain = true := by
  unfold aFieldAddr at h
  split at h <;> simp only [Option.bind_eq_some_iff, reduceCtorEq] at h <;> (try (obtain ⟨_, _, _, _, h⟩ := h; split at h <;> simp at h; subst h; rfl))
theorem opsOf_of {o : Oper} (h : ∀ c, o.op ≠ .call c) : opsOf o = o.op.operands.toList := by
  unfold opsOf
  split
  · rename_i heq; exact absurd heq (h _)
  · rename_i heq; exact absurd heq (h _)
  · rfl
/-- An operation that touches no memory, its operands looked at. -/
theorem sim_op0 {ρ : Operand → Value} (hρ : ∀ v, ρ (.const v) = v) {o : Oper} {us : List AV} {r : AV} (hH : HRel B ω κ S w H) (h : op0 P o us = some r) (hnl : isLinear o = false)
    (hp : ∀ u ∈ us, u.plain = true) (hv : VRel (fun i => .arg i) ω κ S w us ((opsOf o).map ρ)) : OpVal P ρ o w (Post B ω κ S w H r) := by
  cases hop : o.op <;> simp only [op0, hop, reduceCtorEq] at h <;> rw [opsOf_of (by simp [hop])] at hv <;> (try (simp [isLinear, hop] at hnl; done))
  case pick c a b =>
    replace hv : VRel (fun i => .arg i) ω κ S w us ([c, a, b].map ρ) := by simpa [hop, Op.operands] using hv
    unfold opPick at h
    split at h
    · rename_i x u1 u2
      have r1 := hv.rel 0 _ _ rfl rfl
      have r2 := hv.rel 1 _ _ rfl rfl
      have r3 := hv.rel 2 _ _ rfl rfl
      cases x
      · cases h; exact OpVal.makes hH (makes_pick hop r1 r2 r3) (hp u2 (by simp))
      · cases h; exact OpVal.makes hH (makes_pick hop r1 r2 r3) (hp u1 (by simp))
    · simp at h
  case build t parts =>
    have hv : VRel (fun i => .arg i) ω κ S w us ((parts.toList.map (·.2)).map ρ) := by simpa [hop, Op.operands] using hv
    have hlen : us.length = parts.toList.length := by simpa using hv.len
    obtain ⟨v, q1, q2, q3⟩ := sim_build (κ := κ) (S := S) (w := w) (parts' := parts.map fun (x : Nat × Operand) => (x.1, ρ x.2)) h (by simp [zipParts, List.map_fst_zip, hlen]) (fun j x y hx hy => by
      simp only [zipParts, List.getElem?_zip_eq_some] at hx
      obtain ⟨hx1, hx2⟩ := hx
      simp only [Array.toList_map, List.getElem?_map, Option.map_eq_some_iff] at hy
      obtain ⟨p, hp1, rfl⟩ := hy
      exact ⟨hp _ (List.mem_of_getElem? hx2), hv.rel j _ _ hx2 (by simp only [List.getElem?_map, hp1, Option.map_some])⟩)
    exact .inl ⟨v, w, by simp [Go.execOp, hop, q1], Post.same hH q2 q3⟩
  case buildSlice t len parts =>
    have hv : VRel (fun i => .arg i) ω κ S w us ((parts.toList.map (·.2)).map ρ) := by simpa [hop, Op.operands] using hv
    have hlen : us.length = parts.toList.length := by simpa using hv.len
    simp only [Option.map_eq_some_iff] at h
    obtain ⟨⟨cs, s⟩, h, rfl⟩ := h
    obtain ⟨_, w', q1, q2⟩ := sim_buildSlice (parts' := parts.map fun (x : Nat × Operand) => (x.1, ρ x.2)) hH h (by simp [zipParts, List.map_fst_zip, hlen]) (fun j x y hx hy => by
      simp only [zipParts, List.getElem?_zip_eq_some] at hx
      obtain ⟨hx1, hx2⟩ := hx
      simp only [Array.toList_map, List.getElem?_map, Option.map_eq_some_iff] at hy
      obtain ⟨p, hp1, rfl⟩ := hy
      exact ⟨hp _ (List.mem_of_getElem? hx2), hv.rel j _ _ hx2 (by simp only [List.getElem?_map, hp1, Option.map_some])⟩)
    exact .inl ⟨_, w', by simp [Go.execOp, hop, q1], q2⟩
  case nilCheck x =>
    obtain ⟨u, rfl, r1, _⟩ := VRel.one (x := x) (by simpa [hop, Op.operands] using hv)
    unfold opNil at h
    split at h
    · rename_i id off heq
      simp at heq; subst heq; cases h
      exact OpVal.makes hH (makes_nil hop r1) rfl
    · rename_i cells heq
      simp at heq; subst heq; cases h
      exact OpVal.makes hH (makes_nil2 hop r1) rfl
    · simp at h
  case unOp op t x =>
    obtain ⟨u, rfl, r1, _⟩ := VRel.one (x := x) (by simpa [hop, Op.operands] using hv)
    simp only [op1of] at h
    refine OpVal.makes hH (makes_un hop h r1) ?_
    unfold aUn at h
    split at h <;> (try split at h) <;> simp at h <;> subst h <;> rfl
  case convert s d x =>
    obtain ⟨u, rfl, r1, _⟩ := VRel.one (x := x) (by simpa [hop, Op.operands] using hv)
    simp only [op1of] at h
    refine OpVal.makes hH (makes_conv hop h r1) ?_
    unfold aConv at h
    split at h
    · split at h
      · simp at h; subst h; rfl
      · simp at h
    · simp at h
  case makeFunc fn first captured =>
    refine OpVal.makes hH (makes_func hop h (by simpa [hop, Op.operands] using hv) hp) ?_
    unfold opMakeFunc at h
    split at h
    · split at h <;> simp at h; subst h; rfl
    · simp at h
  case fieldAddr t x f =>
    obtain ⟨u, rfl, r1, _⟩ := VRel.one (x := x) (by simpa [hop, Op.operands] using hv)
    simp only [op1of] at h
    exact OpVal.makes hH (makes_fieldAddr hop h r1) (aFieldAddr_plain h)
  case field t x f =>
    obtain ⟨u, rfl, r1, _⟩ := VRel.one (x := x) (by simpa [hop, Op.operands] using hv)
    simp only [op1of, Option.map_eq_some_iff] at h
    obtain ⟨r', h, rfl⟩ := h
    exact OpVal.makes hH (makes_field hop h r1) (AV.view_plain _)
  case extract x i =>
    obtain ⟨u, rfl, r1, _⟩ := VRel.one (x := x) (by simpa [hop, Op.operands] using hv)
    simp only [op1of, Option.map_eq_some_iff] at h
    obtain ⟨r', h, rfl⟩ := h
    exact OpVal.makes hH (makes_extract hop h r1) (AV.view_plain _)
  case indexAddr t x i =>
    obtain ⟨u, v, rfl, r1, _, r2, _⟩ := VRel.two (x := x) (y := i) (by simpa [hop, Op.operands] using hv)
    simp only [op2of] at h
    exact OpVal.makes hH (makes_indexAddr hop h r1 r2 (AV.plain_noUniq (hp u (by simp)))) (aIndexAddr_plain h)
  case index t x i =>
    obtain ⟨u, v, rfl, r1, _, r2, _⟩ := VRel.two (x := x) (y := i) (by simpa [hop, Op.operands] using hv)
    simp only [op2of, Option.map_eq_some_iff] at h
    obtain ⟨r', h, rfl⟩ := h
    exact OpVal.makes hH (makes_index hop h r1 r2) (AV.view_plain _)
  case binOp op t x y yt =>
    obtain ⟨u, v, rfl, r1, _, r2, _⟩ := VRel.two (x := x) (y := y) (by simpa [hop, Op.operands] using hv)
    split at h
    · rename_i hny
      refine OpVal.makes hH (makes_eqNil hop hny h r1 hρ) ?_
      unfold aEqNil at h
      dsimp only at h
      repeat' split at h
      all_goals first | (simp at h; done) | (simp at h; subst h; rfl)
    · simp only [op2of] at h
      refine OpVal.makes hH ?_ (aBin_plain h)
      cases u <;> cases v <;> (try (simp [aBin] at h; done))
      · exact makes_bin_bool hop h r1 r2
      · exact makes_bin_int hop h r1 r2
      · exact makes_bin_agg hop h r1 r2
theorem rel_full {cells : List AV} {len : Nat} {a : Option Addr} (h : Rel κ S w (.lst cells len .shared) (.slice a len len)) : Rel κ S w (.lst cells len .full) (.slice a len len) := by
  cases h with
  | lnil _ a => exact .lnil _ _
  | lst _ _ _ b o cap f hc hle hu hcell hrel => exact .lst _ _ _ b o len f (fun _ => rfl) hle (fun z h => by cases h) hcell hrel
/-- A row that is written out, and seen to be full at once. -/
theorem sim_buildSliceO {ρ : Operand → Value} (hρ : ∀ v, ρ (.const v) = v) {o : Oper} {us : List AV} {t : TypeId} {len : Nat} {parts : Array (Nat × Operand)} {cs : List AV} {s : Nat} (hH : HRel B ω κ S w H) (hop : o.op = .buildSlice t len parts)
    (h : aBuildCells P t len (zipParts parts.toList us) = some (cs, s)) (hp : ∀ u ∈ us, u.plain = true) (hv : VRel (fun i => .arg i) ω κ S w us ((opsOf o).map ρ)) :
    ∃ v w', (Go.execOp ρ o).run P w = .ok (.value v) w' ∧ Post B ω κ S w H (.lst cs len .full) v w' := by
  rw [opsOf_of (by simp [hop])] at hv
  have hv : VRel (fun i => .arg i) ω κ S w us ((parts.toList.map (·.2)).map ρ) := by simpa [hop, Op.operands] using hv
  have hlen : us.length = parts.toList.length := by simpa using hv.len
  obtain ⟨b, w', q1, ω', κ', S', p1, p2, p3, p4, p5⟩ := sim_buildSlice (parts' := parts.map fun (x : Nat × Operand) => (x.1, ρ x.2)) hH h (by simp [zipParts, List.map_fst_zip, hlen]) (fun j x y hx hy => by
    simp only [zipParts, List.getElem?_zip_eq_some] at hx
    obtain ⟨hx1, hx2⟩ := hx
    simp only [Array.toList_map, List.getElem?_map, Option.map_eq_some_iff] at hy
    obtain ⟨p, hp1, rfl⟩ := hy
    exact ⟨hp _ (List.mem_of_getElem? hx2), hv.rel j _ _ hx2 (by simp only [List.getElem?_map, hp1, Option.map_some])⟩)
  obtain ⟨S1, k1, k2, k3, r1, _, _⟩ := settle_main p3 p4 p5
  exact ⟨_, w', by simp [Go.execOp, hop, q1], ω', κ', S1, p1, p2.trans (Ev.settle k1 fun b o h => (k2 b o h).imp id fun h => ⟨_, h⟩),
    p3.settle k1 (fun b o h => (k2 b o h).imp id fun h => ⟨_, h, by simp, by simp⟩) k3, rel_full r1, OwnAt.of_plain rfl⟩
end
end Go.Proofs.YtbnbjjgagikobaaGreat.Ab

/-
  Maps: made, written, looked up, gone through.
-/
namespace Go.Proofs.YtbnbjjgagikobaaGreat.Ab
open Go
section
variable {P : Program} {B : Nat} {κ : List Nat} {w : World} {H : List AObj} {ω : Nat → Option Lab} {S : Nat → Nat → Prop}
theorem putObj_cell {b b' o : Nat} {x : Obj} (h : b' ≠ b) : (w.putObj b x).cell? ⟨b', o, none⟩ = w.cell? ⟨b', o, none⟩ := by
  unfold World.cell?; simp only [World.putObj_heap_other h]
/-- A map's entries are written. -/
theorem map_write (hH : HRel B ω κ S w H) {id : Nat} {es es' : List (Nat × AV × AV)} {clock clock' : Nat} (hid : H[id]? = some (.map es clock)) {b : Nat} {ents' : Array MapEntry}
    (a1 : κ[id]? = some b) (a2 : ω b = some (.obj id)) (a5 : ∀ o, ¬ S b o) (hl : ents'.size = es'.length)
    (hr : ∀ (j i : Nat) (k v : AV) (x : MapEntry), es'[j]? = some (i, k, v) → ents'[j]? = some x → x.born = i ∧ k.plain = true ∧ Rel κ S w k x.key ∧ v.plain = true ∧ Rel κ S w v x.val) :
    Ev ω S w ω S (w.putObj b (.map ents' clock')) ∧ HRel B ω κ S (w.putObj b (.map ents' clock')) (H.set id (.map es' clock')) := by
  have hSne : ∀ b' o, S b' o → b' ≠ b := fun b' o hs e => a5 o (e ▸ hs)
  have hb := (hH.base b _ a2).2
  have ev : Ev ω S w ω S (w.putObj b (.map ents' clock')) :=
    ⟨rfl, rfl, rfl, by simp, fun b' _ hn => World.putObj_heap_other (fun e => by subst e; rw [a2] at hn; cases hn), fun b' o hs => ⟨hs, putObj_cell (hSne b' o hs)⟩, fun b' o hs => .inl hs, fun b' h => .inl h⟩
  refine ⟨ev, by simpa using hH.klen, fun id' o ho => ?_, fun b' o hs => ?_, fun b' l h => by simpa using hH.base b' l h, by simpa using hH.bsz⟩
  · by_cases hid' : id' = id
    · subst hid'
      rw [List.getElem?_set_self (List.getElem?_eq_some_iff.1 hid).1] at ho
      cases ho
      refine ⟨b, ents', a1, a2, World.putObj_heap_same hb, hl, a5, fun j i k v x hu hx => ?_⟩
      obtain ⟨c1, c2, c3, c4, c5⟩ := hr j i k v x hu hx
      exact ⟨c1, c2, c3.mono (Ext.refl κ) ev.set, c4, c5.mono (Ext.refl κ) ev.set⟩
    · rw [List.getElem?_set_ne (fun e => hid' e.symm)] at ho
      refine (hH.obj id' o ho).frame (Ext.refl κ) ev.set fun b' l0 hb' hl0 => ?_
      have hne : b' ≠ b := fun e => by
        subst e; rw [a2] at hb'; cases hb'
        rcases hl0 with h | ⟨j, h⟩
        · cases h; exact hid' rfl
        · cases h
      exact ⟨hb', World.putObj_heap_other hne, fun o hs => hs⟩
  · obtain ⟨v, hv⟩ := hH.swf b' o hs
    exact ⟨v, (putObj_cell (hSne b' o hs)).trans hv⟩
/-! ### Keys -/
theorem eqInts_true : ∀ {xs ys : List AV}, eqInts xs ys = some true → xs = ys ∧ ∀ u ∈ xs, ∃ k a, u = .int k a
  | [], [], _ => ⟨rfl, by simp⟩
  | x :: xs, y :: ys, h => by
    obtain ⟨k, a, b, e', rfl, rfl, h', he⟩ := eqInts_cons h
    have he := he.symm
    simp only [Bool.and_eq_true, beq_iff_eq] at he
    obtain ⟨rfl, rfl⟩ := he
    obtain ⟨rfl, h2⟩ := eqInts_true h'
    exact ⟨rfl, fun u hu => by
      rcases List.mem_cons.1 hu with rfl | hu
      · exact ⟨_, _, rfl⟩
      · exact h2 u hu⟩
  | [], y :: ys, h => by simp [eqInts] at h
  | x :: xs, [], h => by cases x <;> simp [eqInts] at h
theorem sameBits_ints (n : Nat) : ∀ (l : List Value), (∀ v ∈ l, ∃ k a, v = .int k a) → ((l.zip l).all fun (x : Value × Value) => Instr.sameBits n x.1 x.2) = true
  | [], _ => rfl
  | v :: l, h => by
    obtain ⟨k, a, rfl⟩ := h v (by simp)
    have ih := sameBits_ints n l fun v hv => h v (by simp [hv])
    have h0 : Instr.sameBits n (.int k a) (.int k a) = true := by cases n <;> simp [Instr.sameBits]
    simp only [List.zip_cons_cons, List.all_cons, h0, Bool.true_and]
    exact ih
theorem rel_ints_eq {xs : List AV} {V W : Array Value} (hi : ∀ u ∈ xs, ∃ k a, u = .int k a) (r1 : Rel κ S w (.agg xs) (.agg V)) (r2 : Rel κ S w (.agg xs) (.agg W)) : V = W ∧ ∀ v ∈ V.toList, ∃ k a, v = .int k a := by
  cases r1 with
  | agg _ _ l1 _ _ q1 =>
    cases r2 with
    | agg _ _ l2 _ _ q2 =>
      have key : ∀ j (h : j < xs.length), ∃ k a, V[j]? = some (.int k a) ∧ W[j]? = some (.int k a) := fun j h => by
        obtain ⟨k, a, hk⟩ := hi xs[j] (List.getElem_mem h)
        have hx : xs[j]? = some (.int k a) := by rw [List.getElem?_eq_getElem h, hk]
        have hv := q1 j _ V[j] hx (Array.getElem?_eq_getElem (by omega))
        have hw := q2 j _ W[j] hx (Array.getElem?_eq_getElem (by omega))
        exact ⟨k, a, by rw [Array.getElem?_eq_getElem (by omega), hv.int_inv], by rw [Array.getElem?_eq_getElem (by omega), hw.int_inv]⟩
      refine ⟨Array.ext_getElem? fun j => ?_, fun v hv => ?_⟩
      · rcases Nat.lt_or_ge j xs.length with h | h
        · obtain ⟨k, a, h1, h2⟩ := key j h; rw [h1, h2]
        · rw [Array.getElem?_eq_none (by omega), Array.getElem?_eq_none (by omega)]
      · obtain ⟨j, hj⟩ := List.mem_iff_getElem?.1 hv
        have hlt : j < xs.length := by have := (List.getElem?_eq_some_iff.1 hj).1; simp at this; omega
        obtain ⟨k, a, h1, _⟩ := key j hlt
        rw [Array.getElem?_toList, h1] at hj
        cases hj; exact ⟨k, a, rfl⟩
/-- Keys that are equal lie the same. -/
theorem key_stays {k k' : AV} {x y : Value} (h : eqKey k k' = some true) (r1 : Rel κ S w k x) (r2 : Rel κ S w k' y) : (Instr.keyThatStays y x).run P w = .ok x w := by
  have hb : Instr.sameBits 10000 y x = true := by
    unfold eqKey at h
    split at h
    · split at h
      · rename_i q a q' b hq
        subst hq
        simp at h; subst h
        rw [r1.int_inv, r2.int_inv]; simp [Instr.sameBits]
      · simp at h
    · obtain ⟨rfl, hi⟩ := eqInts_true h
      have e1 : ∃ V, x = .agg V := by cases r1 with | agg as vs => exact ⟨_, rfl⟩
      have e2 : ∃ V, y = .agg V := by cases r2 with | agg as vs => exact ⟨_, rfl⟩
      obtain ⟨V, rfl⟩ := e1
      obtain ⟨W, rfl⟩ := e2
      obtain ⟨rfl, hall⟩ := rel_ints_eq hi r1 r2
      have := sameBits_ints 9999 V.toList hall
      rw [show (10000 : Nat) = 9999 + 1 from rfl, Instr.sameBits]
      simpa using this
    · simp at h
  simp [Instr.keyThatStays, hb]
theorem keyOk_cases {t : TypeId} (h : keyOk P t = true) : (∃ k, P.underlying t = some (.int k)) ∨ ∃ fs, P.underlying t = some (.struct fs) ∧ intFields P fs.toList 0 = true ∧ P.stoodInHeld t = false := by
  unfold keyOk at h
  split at h
  · exact .inl ⟨_, by assumption⟩
  · rename_i fs hfs
    simp at h
    exact .inr ⟨fs, hfs, h.1, h.2⟩
  · simp at h
theorem run_checkKey_loop (em : Bool) (d : Nat) (V : Array Value) : ∀ (fs : List Field) (off : Nat), intFields P fs off = true → off + fs.length ≤ V.size →
    (forIn fs PUnit.unit (fun f (_ : PUnit) => if f.name = "_" then pure (ForInStep.yield PUnit.unit) else (do
        let a ← part f.type V f.offset
        (fun _ => ForInStep.yield PUnit.unit) <$> Instr.checkKey em (d + 1) f.type a : Sem (ForInStep PUnit)))).run P w = .ok PUnit.unit w
  | [], off, _, _ => by simp
  | f :: fs, off, h, hl => by
    obtain ⟨f1, f2, ⟨k0, f3⟩, f4, f5, f6⟩ := intFields_cons h
    simp only [List.length_cons] at hl
    have hV : V[off]? = some V[off] := Array.getElem?_eq_getElem (by omega)
    have q1 : (part f.type V f.offset).run P w = .ok V[off] w := by simp only [part, Sem.run_bind, run_isAgg f3, f5, Result.andThen_ok, f1, hV, if_false, Bool.false_eq_true]; rfl
    have q2 : (Instr.checkKey em (d + 1) f.type V[off]).run P w = .ok () w := by unfold Instr.checkKey; simp [run_underlying f3]
    have ih := run_checkKey_loop em d V fs (off + 1) f6 (by omega)
    simp only [List.forIn_cons, f2, if_false, Sem.run_bind, q1, Result.andThen_ok]
    simpa [q2] using ih
theorem run_checkKey_abs {t : TypeId} {k : AV} {x : Value} (h : keyOk P t = true) (hk : isKey P t k = true) (hr : Rel κ S w k x) (em : Bool) : (Instr.checkKey em 10000 t x).run P w = .ok () w := by
  rcases keyOk_cases h with ⟨q, hq⟩ | ⟨fs, hf, hi, _⟩
  · unfold Instr.checkKey; simp [run_underlying hq]
  · unfold isKey at hk
    simp only [hf] at hk
    split at hk
    · rename_i h'; cases h'
    · rename_i fs' cs h'
      cases h'
      simp at hk
      cases hr with
      | agg _ V hl _ _ _ =>
        rw [show (10000 : Nat) = 9998 + 2 from rfl, Instr.checkKey]
        have := run_checkKey_loop (P := P) (w := w) em 9998 V fs.toList 0 hi (by simp; omega)
        rw [Array.forIn_toList] at this
        simpa [run_underlying hf] using this
    · simp at hk
theorem run_equal_key {t : TypeId} {fs : Array Field} (ht : P.underlying t = some (.struct fs)) (hf : intFields P fs.toList 0 = true) (hsi : P.stoodInHeld t = false) {k k' : AV} {x y : Value} {e : Bool} (hk : isKey P t k = true) (h : eqKey k k' = some e)
    (r1 : Rel κ S w k x) (r2 : Rel κ S w k' y) : (Op.equal t x y).run P w = .ok e w := by
  unfold isKey at hk
  simp only [ht] at hk
  split at hk
  · rename_i h'; cases h'
  · rename_i fs' cs h'
    cases h'
    simp at hk
    cases k' with
    | agg ds =>
      simp only [eqKey] at h
      have e1 : ∃ V, x = .agg V := by cases r1 with | agg as vs => exact ⟨_, rfl⟩
      have e2 : ∃ V, y = .agg V := by cases r2 with | agg as vs => exact ⟨_, rfl⟩
      obtain ⟨V, rfl⟩ := e1
      obtain ⟨W, rfl⟩ := e2
      have hl : ∀ (xs ys : List AV) (e : Bool), eqInts xs ys = some e → ys.length = xs.length := by
        intro xs
        induction xs with
        | nil => intro ys e h; cases ys <;> simp [eqInts] at h; rfl
        | cons x xs ih =>
          intro ys e h
          cases ys with
          | nil => cases x <;> simp [eqInts] at h
          | cons y ys => obtain ⟨_, _, _, e', rfl, rfl, h', _⟩ := eqInts_cons h; simp [ih ys e' h']
      exact run_equalIn_struct 9998 ht hf hsi hk ((hl _ _ _ h).trans hk) h r1 r2
    | _ => simp [eqKey] at h
  · simp at hk
def EntRel (κ : List Nat) (S : Nat → Nat → Prop) (w : World) (es : List (Nat × AV × AV)) (ents : List MapEntry) : Prop :=
  ents.length = es.length ∧ ∀ (j i : Nat) (k v : AV) (x : MapEntry), es[j]? = some (i, k, v) → ents[j]? = some x → x.born = i ∧ k.plain = true ∧ Rel κ S w k x.key ∧ v.plain = true ∧ Rel κ S w v x.val
theorem EntRel.cons {e : Nat × AV × AV} {es : List (Nat × AV × AV)} {ents : List MapEntry} (h : EntRel κ S w (e :: es) ents) : ∃ x r, ents = x :: r ∧ x.born = e.1 ∧ Rel κ S w e.2.1 x.key ∧ Rel κ S w e.2.2 x.val ∧ EntRel κ S w es r := by
  cases ents with
  | nil => simp [EntRel] at h
  | cons x r =>
    obtain ⟨h1, _, h2, _, h3⟩ := h.2 0 e.1 e.2.1 e.2.2 x rfl rfl
    exact ⟨x, r, rfl, h1, h2, h3, by simpa using h.1, fun j i k v y hu hy => h.2 (j + 1) i k v y (by simpa using hu) (by simpa using hy)⟩
/-- What a search finds, and where. -/
def FindRes (k : AV) (es : List (Nat × AV × AV)) (ents : List MapEntry) (i : Nat) : Option Nat → Option (Nat × Value) → Prop
  | none, r => r = none
  | some n, r => ∃ e x, i ≤ n ∧ es[n - i]? = some e ∧ ents[n - i]? = some x ∧ r = some (n, x.val) ∧ eqKey k e.2.1 = some true
theorem FindRes.step {k : AV} {e : Nat × AV × AV} {es : List (Nat × AV × AV)} {x : MapEntry} {ents : List MapEntry} {i : Nat} {r : Option Nat} {res : Option (Nat × Value)} (h : FindRes k es ents (i + 1) r res) : FindRes k (e :: es) (x :: ents) i r res := by
  cases r with
  | none => exact h
  | some n =>
    obtain ⟨e', x', h1, h2, h3, h4, h5⟩ := h
    obtain ⟨m, hm⟩ : ∃ m, n - i = m + 1 := ⟨n - (i + 1), by omega⟩
    have hm' : n - (i + 1) = m := by omega
    rw [hm'] at h2 h3
    exact ⟨e', x', by omega, by rw [hm]; simpa using h2, by rw [hm]; simpa using h3, h4, h5⟩
theorem find_now {q q0 : IntKind} {n : Int} : ∀ (es : List (Nat × AV × AV)) (ents : List MapEntry) (i : Nat) (r : Option Nat), findK (.int q n) es i = some r → EntRel κ S w es ents →
    ∃ res, Instr.findNow (.int q0) (.int q n) ents i = some res ∧ FindRes (.int q n) es ents i r res
  | [], ents, i, r, h, hr => by
    have : ents = [] := List.length_eq_zero_iff.1 (by simpa using hr.1)
    subst this
    simp [findK] at h; subst h
    exact ⟨none, rfl, rfl⟩
  | (b, k', v) :: es, ents, i, r, h, hr => by
    obtain ⟨x, ents', rfl, h1, h2, h3, h4⟩ := hr.cons
    simp only [findK] at h
    split at h
    · rename_i he
      cases h
      cases k' with
      | int q' m =>
        simp only [eqKey] at he
        split at he
        · rename_i hq
          subst hq
          simp at he; subst he
          simp only at h2
          rw [Instr.findNow, h2.int_inv]
          exact ⟨some (i, x.val), by simp [Instr.sameNow], _, x, Nat.le_refl _, by simp; rfl, by simp, rfl, by simp [eqKey]⟩
        · simp at he
      | _ => simp [eqKey] at he
    · rename_i he
      cases k' with
      | int q' m =>
        simp only [eqKey] at he
        split at he
        · rename_i hq
          subst hq
          simp at he
          simp only at h2
          obtain ⟨res, g1, g2⟩ := find_now es ents' (i + 1) r h h4
          rw [Instr.findNow, h2.int_inv]
          have hnm : (n == m) = false := by simpa using he
          exact ⟨res, by simp only [Instr.sameNow, if_true, hnm]; exact g1, g2.step⟩
        · simp at he
      | _ => simp [eqKey] at he
    · simp at h
theorem find_asking {t : TypeId} {fs : Array Field} (ht : P.underlying t = some (.struct fs)) (hf : intFields P fs.toList 0 = true) (hsi : P.stoodInHeld t = false) {k : AV} {x : Value} (hk : isKey P t k = true) (r1 : Rel κ S w k x) :
    ∀ (es : List (Nat × AV × AV)) (ents : List MapEntry) (i : Nat) (r : Option Nat), findK k es i = some r → EntRel κ S w es ents →
    ∃ res, (Instr.findAsking t x ents i).run P w = .ok res w ∧ FindRes k es ents i r res
  | [], ents, i, r, h, hr => by
    have : ents = [] := List.length_eq_zero_iff.1 (by simpa using hr.1)
    subst this
    simp [findK] at h; subst h
    exact ⟨none, rfl, rfl⟩
  | (b, k', v) :: es, ents, i, r, h, hr => by
    obtain ⟨y, ents', rfl, h1, h2, h3, h4⟩ := hr.cons
    simp only [findK] at h
    split at h
    · rename_i he
      cases h
      have q := run_equal_key (P := P) ht hf hsi hk he r1 h2
      exact ⟨some (i, y.val), by simp [Instr.findAsking, q], _, y, Nat.le_refl _, by simp; rfl, by simp, rfl, he⟩
    · rename_i he
      have q := run_equal_key (P := P) ht hf hsi hk he r1 h2
      obtain ⟨res, g1, g2⟩ := find_asking ht hf hsi hk r1 es ents' (i + 1) r h h4
      exact ⟨res, by simp [Instr.findAsking, q, g1], g2.step⟩
    · simp at h
theorem run_findKey_abs {t : TypeId} {k : AV} {x : Value} (h : keyOk P t = true) (hk : isKey P t k = true) (hr : Rel κ S w k x) {es : List (Nat × AV × AV)} {ents : List MapEntry} {r : Option Nat} (hf : findK k es 0 = some r) (he : EntRel κ S w es ents) :
    ∃ res, (Instr.findKey t x ents).run P w = .ok res w ∧ FindRes k es ents 0 r res := by
  rcases keyOk_cases h with ⟨q, hq⟩ | ⟨fs, hs, hi, hst⟩
  · unfold isKey at hk
    simp only [hq] at hk
    split at hk
    · rename_i q1 q2 n h'
      obtain ⟨res, g1, g2⟩ := find_now (q0 := q) es ents 0 r hf he
      rw [hr.int_inv]
      exact ⟨res, by simp [Instr.findKey, run_underlying hq, g1], g2⟩
    · rename_i h'; cases h'
    · simp at hk
  · obtain ⟨res, g1, g2⟩ := find_asking hs hi hst hk hr es ents 0 r hf he
    have hag : ∃ V, x = .agg V := by
      unfold isKey at hk
      simp only [hs] at hk
      split at hk
      · rename_i h'; cases h'
      · cases hr with | agg as vs => exact ⟨_, rfl⟩
      · simp at hk
    obtain ⟨V, rfl⟩ := hag
    cases ents with
    | nil =>
      refine ⟨res, ?_, g2⟩
      simp [Instr.findAsking] at g1; subst g1
      simp [Instr.findKey, run_underlying hs, Instr.findNow]
    | cons y ys =>
      refine ⟨res, ?_, g2⟩
      have : Instr.findNow (.struct fs) (.agg V) (y :: ys) 0 = none := by simp [Instr.findNow, Instr.sameNow]
      simp [Instr.findKey, run_underlying hs, this, g1]
/-! ### The operations -/
theorem heap_new (w : World) (o : Obj) : (w.alloc o).heap[w.heap.size]? = some o := by
  have e : (w.alloc o).heap = w.heap.push o := rfl
  rw [e]; simp
theorem run_getMap {b : Nat} {ents : Array MapEntry} {clock : Nat} (h : w.heap[b]? = some (.map ents clock)) : (getObj b).run P w = .ok (.map ents clock) w := by simp [getObj, Sem.run, h]
theorem run_setMap {b : Nat} {o : Obj} {ents : Array MapEntry} {clock : Nat} (h : w.heap[b]? = some (.map ents clock)) : (setObj b o).run P w = .ok () (w.putObj b o) := by simp [setObj, Sem.run, h, World.putObj]
theorem new_map (hH : HRel B ω κ S w H) : HRel B (lay ω w.heap.size (.obj H.length)) (κ ++ [w.heap.size]) S (w.alloc (.map #[] 0)) (H ++ [.map [] 0]) :=
  (hrel_alloc hH (.map #[] 0) (.obj H.length)).push w.heap.size ⟨w.heap.size, #[], Ext.last hH _, by simp [lay], heap_new w _, rfl, no_settled_new hH, by simp⟩
theorem sim_makeMap (hH : HRel B ω κ S w H) {t : TypeId} {r : Option Operand} {u : AV} {H' : List AObj} (h : opMakeMap P t r H = some (u, H')) :
    ∃ x w', (Instr.makeMap t (none : Option Value)).run P w = .ok x w' ∧ r = none ∧ Post B ω κ S w H' u x w' := by
  unfold opMakeMap at h
  split at h
  · cases h
    exact ⟨_, _, by simp only [Instr.makeMap, Sem.run_bind, Sem.run_pure, run_newObj_alloc, Result.andThen_ok], rfl, _, _, S, Ext.append κ _, ev_alloc hH _ _, new_map hH, .map _ _ (Ext.last hH _), OwnAt.of_plain rfl⟩
  · simp at h
theorem mapTy_some {t kt et : TypeId} (h : mapTy P t = some (kt, et)) : P.underlying t = some (.map kt et) ∧ keyOk P kt = true := by
  unfold mapTy at h
  split at h
  · split at h
    · cases h; exact ⟨by assumption, by assumption⟩
    · cases h
  · cases h
theorem sim_mapUpdate (hH : HRel B ω κ S w H) {lo : Nat} {t : TypeId} {m k v u : AV} {H' : List AObj} {x y z : Value} (h : opMapUpdate P lo t H [m, k, v] = some (u, H'))
    (rm : Rel κ S w m x) (rk : Rel κ S w k y) (pk : k.plain = true) (rv : Rel κ S w v z) (pv : v.plain = true) (c : Value) :
    ∃ w', (Instr.mapUpdate t x y z).run P w = .ok () w' ∧ Post B ω κ S w H' u c w' := by
  unfold opMapUpdate at h
  split at h
  · rename_i id k' v' heq
    cases heq
    split at h
    · rename_i kt et ht
      obtain ⟨ht, hk⟩ := mapTy_some ht
      split at h
      · rename_i hik
        split at h
        · split at h
          · rename_i es clock hid
            obtain ⟨b, ents, a1, a2, a3, a4, a5, a6⟩ := hH.obj _ _ hid
            cases rm with
            | map _ b' kb =>
              rw [a1] at kb; cases kb
              have he : EntRel κ S w es ents.toList := ⟨by simpa using a4, fun j i k v x hu hx => a6 j i k v x hu (by simpa using hx)⟩
              have hck := run_checkKey_abs (P := P) hk hik rk false
              split at h
              · rename_i n hf
                cases h
                obtain ⟨res, g1, e, x, _, g2, g3, rfl, g4⟩ := run_findKey_abs (P := P) hk hik rk hf he
                simp only [Nat.sub_zero, Array.getElem?_toList] at g2 g3
                obtain ⟨eb, ek, ev0⟩ := e
                obtain ⟨c1, c2, c3, c4, c5⟩ := a6 n eb ek ev0 x g2 g3
                have hst := key_stays (P := P) g4 rk c3
                obtain ⟨ev, hH'⟩ := map_write hH hid (es' := es.modify n fun e => (e.1, k, v)) (clock' := clock) (ents' := ents.modify n fun e => { e with key := y, val := z }) a1 a2 a5 (by simp [a4]) fun j i k0 v0 x0 hu hx => by
                  rw [List.getElem?_modify] at hu
                  rw [Array.getElem?_modify] at hx
                  by_cases hj : n = j
                  · subst hj
                    simp only [g2, g3, if_true, Option.map_some, Option.map_eq_map, Option.some.injEq, Prod.mk.injEq] at hu hx
                    obtain ⟨rfl, rfl, rfl⟩ := hu
                    subst hx
                    exact ⟨c1, pk, rk, pv, rv⟩
                  · simp only [hj, if_false, id_map'] at hu hx
                    exact a6 j i k0 v0 x0 (by simpa using hu) (by simpa using hx)
                refine ⟨_, ?_, ω, κ, S, Ext.refl κ, ev, hH', .junk _, OwnAt.of_plain rfl⟩
                simp only [Instr.mapUpdate, Sem.run_bind, run_underlying ht, Result.andThen_ok, run_getMap a3, hck, g1, g3, Option.map_some, Option.getD_some, hst, run_setMap a3]
              · rename_i hf
                cases h
                obtain ⟨res, g1, g2⟩ := run_findKey_abs (P := P) hk hik rk hf he
                simp only [FindRes] at g2
                subst g2
                obtain ⟨ev, hH'⟩ := map_write hH hid (es' := es ++ [(clock, k, v)]) (clock' := clock + 1) (ents' := ents.push { key := y, val := z, born := clock }) a1 a2 a5 (by simp [a4]) fun j i k0 v0 x0 hu hx => by
                  rw [Array.getElem?_push] at hx
                  split at hx
                  · rename_i hj
                    rw [hj, a4, List.getElem?_append_right (Nat.le_refl _)] at hu
                    simp at hu hx
                    obtain ⟨rfl, rfl, rfl⟩ := hu
                    subst hx
                    exact ⟨rfl, pk, rk, pv, rv⟩
                  · rename_i hj
                    have hlt : j < ents.size := (Array.getElem?_eq_some_iff.1 hx).1
                    rw [List.getElem?_append_left (by omega)] at hu
                    exact a6 j i k0 v0 x0 hu hx
                refine ⟨_, ?_, ω, κ, S, Ext.refl κ, ev, hH', .junk _, OwnAt.of_plain rfl⟩
                simp only [Instr.mapUpdate, Sem.run_bind, run_underlying ht, Result.andThen_ok, run_getMap a3, hck, g1, run_setMap a3]
              · cases h
          · cases h
        · cases h
      · cases h
    · cases h
  · cases h
theorem zeroAV_rel {t : TypeId} {u : AV} (h : zeroAV P t = some u) : ∃ v, (zeroValue t).run P w = .ok v w ∧ Rel κ S w u v ∧ u.plain = true := by
  unfold zeroAV at h
  simp only [Option.bind_eq_some_iff] at h
  obtain ⟨v, ⟨i, hi, hv⟩, h⟩ := h
  refine ⟨v, run_zeroValue hi hv, ?_⟩
  split at h
  · rename_i cs
    split at h
    · rename_i hall
      cases h
      refine ⟨.agg _ _ (by simp) (fun u hu => ?_) (fun v hv => by simp only [List.all_eq_true] at hall; exact hall v hv) (fun j u v hu hv => ?_), rfl⟩
      · obtain ⟨x, _, rfl⟩ := List.mem_map.1 hu; exact absVal_plain x
      · rw [List.getElem?_map, Array.getElem?_toList, hv] at hu
        simp at hu; subst hu; exact absVal_rel _ _ _ _
    · cases h
  · cases h; exact ⟨absVal_rel _ _ _ _, absVal_plain _⟩
theorem sim_lookup (hH : HRel B ω κ S w H) {t : TypeId} {ok : Bool} {m k u : AV} {H' : List AObj} {x y : Value} (h : opLookup P t ok H [m, k] = some (u, H'))
    (rm : Rel κ S w m x) (rk : Rel κ S w k y) :
    ∃ v, (Instr.lookup t x y ok).run P w = .ok v w ∧ Post B ω κ S w H' u v w := by
  unfold opLookup at h
  split at h
  · rename_i id k' heq
    cases heq
    split at h
    · rename_i kt et ht
      obtain ⟨ht, hk⟩ := mapTy_some ht
      split at h
      · rename_i es clock hik hid
        obtain ⟨b, ents, a1, a2, a3, a4, a5, a6⟩ := hH.obj _ _ hid
        cases rm with
        | map _ b' kb =>
          rw [a1] at kb; cases kb
          have he : EntRel κ S w es ents.toList := ⟨by simpa using a4, fun j i k v x hu hx => a6 j i k v x hu (by simpa using hx)⟩
          have hck := run_checkKey_abs (P := P) hk hik rk ents.isEmpty
          split at h
          · rename_i r hf
            simp only [Option.map_eq_some_iff, Prod.mk.injEq] at h
            obtain ⟨v, hv, rfl, rfl⟩ := h
            obtain ⟨res, g1, g2⟩ := run_findKey_abs (P := P) hk hik rk hf he
            have fin : ∀ (z : Value) (b : Bool), Rel κ S w v z → v.plain = true →
                Post B ω κ S w H (if ok then .tuple [v, .bool b] else v) (if ok then .tuple #[z, .bool b] else z) w := fun z b hr hp => by
              cases ok with
              | true => exact Post.same hH (.tuple _ _ rfl (fun u hu => by simp only [List.mem_cons, List.not_mem_nil, or_false] at hu; rcases hu with rfl | rfl; exact hp; rfl) fun j u v' hu hv' => by
                  match j with
                  | 0 => simp at hu hv'; subst hu; subst hv'; exact hr
                  | 1 => simp at hu hv'; subst hu; subst hv'; exact .bool _
                  | j + 2 => simp at hu) rfl
              | false => exact Post.same hH hr hp
            cases r with
            | none =>
              simp only [FindRes] at g2
              subst g2
              obtain ⟨z, z1, z2, z3⟩ := zeroAV_rel (κ := κ) (S := S) (w := w) hv
              exact ⟨_, by simp only [Instr.lookup, Sem.run_bind, run_underlying ht, Result.andThen_ok, run_getMap a3, Sem.run_pure, hck, g1, z1], fin z false z2 z3⟩
            | some n =>
              obtain ⟨e, x, _, q2, q3, rfl, q4⟩ := g2
              simp only [Nat.sub_zero, Array.getElem?_toList] at q2 q3
              obtain ⟨eb, ek, ev0⟩ := e
              obtain ⟨c1, c2, c3, c4, c5⟩ := a6 n eb ek ev0 x q2 q3
              simp only [Option.bind_some, q2, Option.some.injEq] at hv
              subst hv
              exact ⟨_, by simp only [Instr.lookup, Sem.run_bind, run_underlying ht, Result.andThen_ok, run_getMap a3, Sem.run_pure, hck, g1], fin x.val true c5 c4⟩
          · cases h
      · cases h
    · cases h
  · cases h
theorem sim_delete (hH : HRel B ω κ S w H) {lo : Nat} {ts : Array TypeId} (ty : TypeId) {m k u : AV} {H' : List AObj} {x y : Value} (h : opDelete P lo ts H [m, k] = some (u, H'))
    (rm : Rel κ S w m x) (rk : Rel κ S w k y) :
    ∃ v w', (Builtin.delete_ ts ty #[x, y]).run P w = .ok v w' ∧ Post B ω κ S w H' u v w' := by
  unfold opDelete at h
  split at h
  · rename_i id k' heq
    cases heq
    split at h
    · rename_i kt et ht
      simp only [Option.bind_eq_some_iff] at ht
      obtain ⟨t, hts, ht⟩ := ht
      obtain ⟨ht, hk⟩ := mapTy_some ht
      split at h
      · rename_i hik
        split at h
        · split at h
          · rename_i es clock hid
            obtain ⟨b, ents, a1, a2, a3, a4, a5, a6⟩ := hH.obj _ _ hid
            cases rm with
            | map _ b' kb =>
              rw [a1] at kb; cases kb
              have he : EntRel κ S w es ents.toList := ⟨by simpa using a4, fun j i k v x hu hx => a6 j i k v x hu (by simpa using hx)⟩
              have hck := run_checkKey_abs (P := P) hk hik rk ents.isEmpty
              have tup : ∀ (w : World), Rel κ S w (.tuple []) (.tuple #[]) := fun w => .tuple _ _ rfl (by simp) (by simp)
              split at h
              · rename_i n hf
                cases h
                obtain ⟨res, g1, e, x, _, g2, g3, rfl, g4⟩ := run_findKey_abs (P := P) hk hik rk hf he
                obtain ⟨ev, hH'⟩ := map_write hH hid (es' := es.eraseIdx n) (clock' := clock) (ents' := ents.eraseIdxIfInBounds n) a1 a2 a5 (by rw [← Array.length_toList, Array.toList_eraseIdxIfInBounds]; simp [List.length_eraseIdx, a4]) fun j i k0 v0 x0 hu hx => by
                  rw [← Array.getElem?_toList, Array.toList_eraseIdxIfInBounds] at hx
                  rw [List.getElem?_eraseIdx] at hu hx
                  by_cases hj : j < n
                  · simp only [hj, if_true] at hu hx
                    exact a6 j i k0 v0 x0 hu (by simpa using hx)
                  · simp only [hj, if_false] at hu hx
                    exact a6 _ i k0 v0 x0 hu (by simpa using hx)
                refine ⟨_, _, ?_, ω, κ, S, Ext.refl κ, ev, hH', tup _, OwnAt.of_plain rfl⟩
                simp only [Builtin.delete_, hts, List.getElem?_toArray, List.getElem?_cons_zero, List.getElem?_cons_succ, Sem.run_bind, run_underlying ht, Result.andThen_ok, run_getMap a3, hck, g1, run_setMap a3, Sem.run_pure]
              · rename_i hf
                cases h
                obtain ⟨res, g1, g2⟩ := run_findKey_abs (P := P) hk hik rk hf he
                simp only [FindRes] at g2
                subst g2
                obtain ⟨ev, hH'⟩ := map_write hH hid (es' := es) (clock' := clock) (ents' := ents) a1 a2 a5 a4 a6
                have hsame : H.set id (.map es clock) = H := List.ext_getElem? fun j => by
                  by_cases hj : id = j
                  · subst hj; rw [List.getElem?_set_self (List.getElem?_eq_some_iff.1 hid).1, hid]
                  · rw [List.getElem?_set_ne hj]
                rw [hsame] at hH'
                refine ⟨_, _, ?_, ω, κ, S, Ext.refl κ, ev, hH', tup _, OwnAt.of_plain rfl⟩
                simp only [Builtin.delete_, hts, List.getElem?_toArray, List.getElem?_cons_zero, List.getElem?_cons_succ, Sem.run_bind, run_underlying ht, Result.andThen_ok, run_getMap a3, hck, g1, run_setMap a3, Sem.run_pure]
              · cases h
          · cases h
        · cases h
      · cases h
    · cases h
  · cases h
theorem sim_range (hH : HRel B ω κ S w H) {t : TypeId} {m u : AV} {H' : List AObj} {x : Value} (h : opRange P t H [m] = some (u, H')) (rm : Rel κ S w m x) :
    ∃ v w', (Instr.range t x).run P w = .ok v w' ∧ Post B ω κ S w H' u v w' := by
  unfold opRange at h
  split at h
  · rename_i id heq
    cases heq
    split at h
    · rename_i kt et es clock ht hid
      cases h
      obtain ⟨b, ents, a1, a2, a3, a4, a5, a6⟩ := hH.obj _ _ hid
      cases rm with
      | map _ b' kb =>
        rw [a1] at kb; cases kb
        refine ⟨.pointer (some ⟨w.heap.size, 0, none⟩), w.alloc (.mapIter (some b) clock #[] clock), by simp only [Instr.range, Sem.run_bind, run_underlying ht, Result.andThen_ok, run_getMap a3, Sem.run_pure, run_newObj_alloc], _, _, S, Ext.append κ _, ev_alloc hH _ (.obj H.length), ?_, .ptr _ _ _ (Ext.last hH _), OwnAt.of_plain rfl⟩
        exact (hrel_alloc hH _ (.obj H.length)).push w.heap.size ⟨w.heap.size, b, Ext.last hH _, by simp [lay], Ext.append κ _ _ _ a1, heap_new w _, no_settled_new hH⟩
    · cases h
  · cases h
theorem find_ent {κ : List Nat} {S : Nat → Nat → Prop} {w : World} (stamp : Nat) : ∀ (es : List (Nat × AV × AV)) (ents : List MapEntry) (e : Nat × AV × AV), EntRel κ S w es ents → es.find? (fun e => e.1 == stamp) = some e →
    ∃ x, ents.find? (fun x => x.born == stamp) = some x ∧ Rel κ S w e.2.1 x.key ∧ Rel κ S w e.2.2 x.val ∧ e.2.1.plain = true ∧ e.2.2.plain = true
  | [], ents, e, hr, h => by simp at h
  | e0 :: es, ents, e, hr, h => by
    have h0 := hr
    obtain ⟨x, ents', rfl, h1, h2, h3, h4⟩ := hr.cons
    obtain ⟨_, p1, _, p2, _⟩ := h0.2 0 e0.1 e0.2.1 e0.2.2 x rfl rfl
    rw [List.find?_cons] at h ⊢
    rw [h1]
    split at h
    · rename_i hb
      cases h
      exact ⟨x, by simp, h2, h3, p1, p2⟩
    · rename_i hb
      obtain ⟨x', g⟩ := find_ent stamp es ents' e h4 h
      exact ⟨x', by simp [g.1], g.2⟩
theorem sim_entry (hH : HRel B ω κ S w H) {m u : AV} {H' : List AObj} {x : Value} (h : opEntry H [m] = some (u, H')) (rm : Rel κ S w m x) :
    ∃ v, (Instr.entry x).run P w = .ok v w ∧ Post B ω κ S w H' u v w := by
  unfold opEntry at h
  split at h
  · rename_i r heq
    cases heq
    split at h
    · rename_i m since seen stepped hid
      split at h
      · rename_i stamp es clock hst hmid
        split at h
        · rename_i hc
          subst hc
          split at h
          · rename_i e he
            cases h
            obtain ⟨b, bm, a1, a2, a3, a4, a5⟩ := hH.obj _ _ hid
            obtain ⟨b', ents, c1, c2, c3, c4, c5, c6⟩ := hH.obj _ _ hmid
            rw [a3] at c1; cases c1
            cases rm with
            | ptr _ _ b' kb =>
              rw [a1] at kb; cases kb
              have hr : EntRel κ S w es ents.toList := ⟨by simpa using c4, fun j i k v x hu hx => c6 j i k v x hu (by simpa using hx)⟩
              obtain ⟨y, g1, g2, g3, g4, g5⟩ := find_ent stamp es ents.toList e hr he
              have hb : (seen.toArray).back? = some stamp := by simpa using hst
              have hg : (getObj b).run P w = .ok (.mapIter (some bm) since seen.toArray clock) w := by simp [getObj, Sem.run, a4]
              refine ⟨.tuple #[y.key, y.val], ?_, Post.same hH (.tuple _ _ rfl (by simp [g4, g5]) fun j u v' hu hv' => by
                  match j with
                  | 0 => simp at hu hv'; subst hu; subst hv'; exact g2
                  | 1 => simp at hu hv'; subst hu; subst hv'; exact g3
                  | j + 2 => simp at hu) rfl⟩
              have hf : ents.find? (fun x => x.born == stamp) = some y := by rw [← Array.find?_toList]; exact g1
              simp [Instr.entry, hg, hb, run_getMap c3, hf]
          · cases h
        · cases h
      · cases h
    · cases h
  · cases h
end
end Go.Proofs.YtbnbjjgagikobaaGreat.Ab

/-
  Moves, loads, stores, built-in functions: every operation that calls no function of the program.
-/
namespace Go.Proofs.YtbnbjjgagikobaaGreat.Ab
open Go
section
variable {P : Program} {B : Nat} {κ : List Nat} {w : World} {H : List AObj} {ω : Nat → Option Lab} {S : Nat → Nat → Prop}
/-- An object becomes settled memory, for good. -/
theorem post_freeze (hH : HRel B ω κ S w H) {id off len sz n : Nat} {cap : Option Nat} {row : List AV} {v : Value} (hrow : rowOf H (.ref id off len cap sz) = some row) (hn : lenOf (.ref id off len cap sz) = some n)
    (hr : Rel κ S w (.ref id off len cap sz) v) :
    Post B ω κ S w (H.set id .dead) (.lst row n (frzCap cap n)) v w := by
  classical
  simp [lenOf] at hn; subst hn
  cases hr with
  | ref _ _ _ _ _ b cp hb hc hle =>
    unfold rowOf at hrow
    simp only at hrow
    split at hrow
    · rename_i l hid
      split at hrow
      · rename_i hfit
        simp only [Option.some.injEq] at hrow
        obtain ⟨b', cur, e, a1, a2, a3, a4, a5, a6⟩ := hH.obj id _ hid
        rw [hb] at a1; cases a1
        let S' : Nat → Nat → Prop := fun b' o => S b' o ∨ (b' = b ∧ o < cur.size)
        let ω' : Nat → Option Lab := fun b' => if b' = b then none else ω b'
        have hcell : ∀ o, o < cur.size → w.cell? ⟨b, o, none⟩ = cur[o]? := fun o ho => by
          simp [World.cell?, a3, ho]
        have ev : Ev ω S w ω' S' w := ⟨rfl, rfl, rfl, Nat.le_refl _, fun _ _ _ => rfl, fun _ _ h => ⟨.inl h, rfl⟩, fun b' o h => by
            rcases h with h | ⟨rfl, _⟩
            · exact .inl h
            · exact .inr (.inl (by simp [a2])), fun b' hb' => by
            by_cases hbb : b' = b
            · simp [ω', hbb] at hb'
            · simp only [ω', hbb, if_false] at hb'; exact .inl hb'⟩
        have hH1 : HRel B ω' κ S' w (H.set id .dead) := by
          refine ⟨by simpa using hH.klen, fun id' o ho => ?_, fun b' o h => ?_, fun b' l' hb' => ?_, hH.bsz⟩
          · by_cases hii : id' = id
            · subst hii
              have : o = .dead := by
                have := (List.getElem?_eq_some_iff.1 hid).1
                simp [this] at ho; exact ho.symm
              subst this; trivial
            · rw [List.getElem?_set_ne (Ne.symm hii)] at ho
              refine (hH.obj id' o ho).frame (Ext.refl κ) ev.set (fun b' l' hb' hl => ?_)
              have hne : b' ≠ b := fun e => by
                subst e; rw [a2] at hb'; cases hb'
                rcases hl with h | ⟨j, h⟩
                · cases h; exact hii rfl
                · cases h
              exact ⟨by simp [ω', hne, hb'], rfl, fun o h => h.resolve_right fun h => hne h.1⟩
          · rcases h with h | ⟨rfl, h⟩
            · exact hH.swf _ _ h
            · exact ⟨_, (hcell o h).trans (Array.getElem?_eq_getElem h)⟩
          · by_cases hbb : b' = b
            · simp [ω', hbb] at hb'
            · simp only [ω', hbb, if_false] at hb'; exact hH.base _ _ hb'
        have hlen : row.length = len * sz := by subst hrow; simp; omega
        refine ⟨ω', κ, S', Ext.refl κ, ev, hH1, .lst row len _ b off cp (fun j => cur.getD (off + j) undef) (fun h => ?_) hle (fun z h => ?_) (fun j u hj => ?_) (fun j u hj => ?_), OwnAt.of_plain ?_⟩
        · unfold frzCap at h
          cases cap with
          | none => simp at h
          | some c =>
            simp only at h
            split at h
            · rename_i hcl; rw [hc c rfl, hcl]
            · cases h
        · unfold frzCap at h
          cases cap with
          | none => simp at h
          | some c => simp only at h; split at h <;> cases h
        all_goals (try (
          have hj1 := (List.getElem?_eq_some_iff.1 hj).1
          have hj2 : off + j < l.length := by omega
          have hj3 : off + j < cur.size := by omega
          have hx : l[off + j]? = some l[off + j] := List.getElem?_eq_getElem hj2
          have hv : cur[off + j]? = some cur[off + j] := Array.getElem?_eq_getElem hj3
          have hg : cur.getD (off + j) undef = cur[off + j] := by simp [hj3]
          have hu : u = l[off + j].view := by
            subst hrow
            rw [List.getElem?_map, List.getElem?_take, if_pos (by simp at hj1; omega), List.getElem?_drop, hx] at hj
            simpa using hj.symm
          obtain ⟨c1, c2, c3, c4⟩ := a6 (off + j) _ _ hx hv
          subst hu))
        · exact ⟨.inr ⟨rfl, hj3⟩, by rw [hcell _ hj3, hv, hg], AV.view_plain _, by rw [hg]; exact c2⟩
        · rw [hg]; exact (c3.view c1).mono (Ext.refl κ) ev.set
        · unfold frzCap
          cases cap with
          | none => rfl
          | some c => simp only; split <;> rfl
      · simp at hrow
    · simp at hrow
/-- An owned row is taken out of a cell. -/
theorem sim_take (hH : HRel B ω κ S w H) {t e : TypeId} (ht : P.underlying t = some (.slice e)) {id off n z : Nat} {l c : List AV} (hid : H[id]? = some (.cells l)) (hoff : l[off]? = some (.lst c n (.own z))) {v : Value}
    (hr : Rel κ S w (.ptr id off) v) :
    ∃ x, (Instr.loadAt t v).run P w = .ok x w ∧ Post B ω κ S w (H.set id (.cells (l.set off (.lst c n .shared)))) (.lst c n (.own z)) x w := by
  classical
  have hag : isAggT P t = false := by simp [isAggT, ht]
  obtain ⟨b, cur, e', a1, a2, a3, a4, a5, a6⟩ := hH.obj id _ hid
  cases hr with
  | ptr _ _ b' hb =>
    rw [a1] at hb; cases hb
    have hj : off < l.length := (List.getElem?_eq_some_iff.1 hoff).1
    have hj2 : off < cur.size := by omega
    have hcv : cur[off]? = some cur[off] := Array.getElem?_eq_getElem hj2
    obtain ⟨c1, c2, c3, c4⟩ := a6 off _ _ hoff hcv
    have hcell : w.cell? ⟨b, off, none⟩ = some cur[off] := by rw [cell_of_row w b _ cur e' (0, 0) a3, hcv]
    refine ⟨cur[off], by simp [Instr.loadAt, Instr.sureAddr, loadVar, run_isAgg ht, hag, load, Sem.run, hcell], ?_⟩
    let ω' : Nat → Option Lab := fun b' => if ω b' = some (.cell id off) then some .res else ω b'
    have ev : Ev ω S w ω' S w := ⟨rfl, rfl, rfl, Nat.le_refl _, fun _ _ _ => rfl, fun _ _ h => ⟨h, rfl⟩, fun _ _ h => .inl h, fun b hb => .inl fun h0 => hb (by simp [ω', h0])⟩
    have hk : ∀ b' l', ω b' = some l' → l' ≠ .cell id off → ω' b' = some l' := fun b' l' h1 h2 => by
      have : ¬ ω b' = some (.cell id off) := by rw [h1]; intro e; cases e; exact h2 rfl
      simp [ω', h1, h2]
    refine ⟨ω', κ, S, Ext.refl κ, ev, ⟨by simpa using hH.klen, fun id' o ho => ?_, hH.swf, fun b' l' hb' => ?_, hH.bsz⟩, c3, c4.mono (Ext.refl κ) ev.set fun b' hb' => ⟨by simp [ω', hb'], rfl, fun _ h => h⟩⟩
    · by_cases hii : id' = id
      · subst hii
        rw [List.getElem?_set_self (List.getElem?_eq_some_iff.1 hid).1] at ho
        cases ho
        refine ⟨b, cur, e', a1, hk b _ a2 (by simp), a3, by simpa using a4, a5, fun j u v hu hv => ?_⟩
        by_cases hjo : j = off
        · subst hjo
          rw [List.getElem?_set_self hj] at hu
          cases hu
          obtain ⟨g1, g2, g3, _⟩ := a6 j _ _ hoff hv
          exact ⟨rfl, g2, g3.view g1, OwnAt.of_plain rfl⟩
        · rw [List.getElem?_set_ne (Ne.symm hjo)] at hu
          obtain ⟨d1, d2, d3, d4⟩ := a6 j u v hu hv
          exact ⟨d1, d2, d3, d4.mono (Ext.refl κ) ev.set fun b' hb' => ⟨hk b' _ hb' (by simp [hjo]), rfl, fun _ h => h⟩⟩
      · rw [List.getElem?_set_ne (Ne.symm hii)] at ho
        refine (hH.obj id' o ho).frame (Ext.refl κ) ev.set (fun b' l' hb' hl => ⟨hk b' l' hb' ?_, rfl, fun _ h => h⟩)
        rcases hl with rfl | ⟨j, rfl⟩
        · simp
        · simp [hii]
    · by_cases h : ω b' = some (.cell id off)
      · exact hH.base b' _ h
      · simp only [ω', h, if_false] at hb'; exact hH.base b' l' hb'
/-- A row of its own is taken out of a cell. -/
theorem sim_takeR (hH : HRel B ω κ S w H) {t e : TypeId} (ht : P.underlying t = some (.slice e)) {id off n z : Nat} {l c : List AV} (hid : H[id]? = some (.cells l)) (hoff : l[off]? = some (.raw c n z)) {v : Value}
    (hr : Rel κ S w (.ptr id off) v) :
    ∃ b x, κ[id]? = some b ∧ w.cell? ⟨b, off, none⟩ = some x ∧ x.oneCell' = true ∧ (Instr.loadAt t v).run P w = .ok x w ∧ Post B ω κ S w (H.set id (.cells (l.set off .junk))) (.lst c n (.uniq z)) x w := by
  classical
  have hag : isAggT P t = false := by simp [isAggT, ht]
  obtain ⟨b, cur, e', a1, a2, a3, a4, a5, a6⟩ := hH.obj id _ hid
  cases hr with
  | ptr _ _ b' hb =>
    rw [a1] at hb; cases hb
    have hj : off < l.length := (List.getElem?_eq_some_iff.1 hoff).1
    have hj2 : off < cur.size := by omega
    have hcv : cur[off]? = some cur[off] := Array.getElem?_eq_getElem hj2
    obtain ⟨c1, c2, c3, c4⟩ := a6 off _ _ hoff hcv
    obtain ⟨u3, u4⟩ := raw_uniq c3 c4
    have hcell : w.cell? ⟨b, off, none⟩ = some cur[off] := by rw [cell_of_row w b _ cur e' (0, 0) a3, hcv]
    refine ⟨b, cur[off], a1, hcell, c2, by simp [Instr.loadAt, Instr.sureAddr, loadVar, run_isAgg ht, hag, load, Sem.run, hcell], ?_⟩
    let ω' : Nat → Option Lab := fun b' => if ω b' = some (.cell id off) then some .res else ω b'
    have ev : Ev ω S w ω' S w := ⟨rfl, rfl, rfl, Nat.le_refl _, fun _ _ _ => rfl, fun _ _ h => ⟨h, rfl⟩, fun _ _ h => .inl h, fun b hb => .inl fun h0 => hb (by simp [ω', h0])⟩
    have hk : ∀ b' l', ω b' = some l' → l' ≠ .cell id off → ω' b' = some l' := fun b' l' h1 h2 => by
      have : ¬ ω b' = some (.cell id off) := by rw [h1]; intro e; cases e; exact h2 rfl
      simp [ω', h1, h2]
    refine ⟨ω', κ, S, Ext.refl κ, ev, ⟨by simpa using hH.klen, fun id' o ho => ?_, hH.swf, fun b' l' hb' => ?_, hH.bsz⟩, u3, u4.mono (Ext.refl κ) ev.set fun b' hb' => ⟨by simp [ω', hb'], rfl, fun _ h => h⟩⟩
    · by_cases hii : id' = id
      · subst hii
        rw [List.getElem?_set_self (List.getElem?_eq_some_iff.1 hid).1] at ho
        cases ho
        refine ⟨b, cur, e', a1, hk b _ a2 (by simp), a3, by simpa using a4, a5, fun j u v hu hv => ?_⟩
        by_cases hjo : j = off
        · subst hjo
          rw [List.getElem?_set_self hj] at hu
          cases hu
          obtain ⟨g1, g2, g3, _⟩ := a6 j _ _ hoff hv
          exact ⟨rfl, g2, .junk _, OwnAt.of_plain rfl⟩
        · rw [List.getElem?_set_ne (Ne.symm hjo)] at hu
          obtain ⟨d1, d2, d3, d4⟩ := a6 j u v hu hv
          exact ⟨d1, d2, d3, d4.mono (Ext.refl κ) ev.set fun b' hb' => ⟨hk b' _ hb' (by simp [hjo]), rfl, fun _ h => h⟩⟩
      · rw [List.getElem?_set_ne (Ne.symm hii)] at ho
        refine (hH.obj id' o ho).frame (Ext.refl κ) ev.set (fun b' l' hb' hl => ⟨hk b' l' hb' ?_, rfl, fun _ h => h⟩)
        rcases hl with rfl | ⟨j, rfl⟩
        · simp
        · simp [hii]
    · by_cases h : ω b' = some (.cell id off)
      · exact hH.base b' _ h
      · simp only [ω', h, if_false] at hb'; exact hH.base b' l' hb'
/-- What a cell holds may be said in other words. -/
theorem hrel_cell (hH : HRel B ω κ S w H) {id off b : Nat} {l : List AV} (hid : H[id]? = some (.cells l)) (hb : κ[id]? = some b) {u : AV} {x : Value} (hx : w.cell? ⟨b, off, none⟩ = some x) (h1 : x.oneCell' = true) (hp : u.plain = true) (hr : Rel κ S w u x) :
    HRel B ω κ S w (H.set id (.cells (l.set off u))) := by
  refine ⟨by simpa using hH.klen, fun id' o ho => ?_, hH.swf, hH.base, hH.bsz⟩
  by_cases hii : id' = id
  · subst hii
    rw [List.getElem?_set_self (List.getElem?_eq_some_iff.1 hid).1] at ho
    cases ho
    obtain ⟨b', cur, e', a1, a2, a3, a4, a5, a6⟩ := hH.obj id' _ hid
    rw [hb] at a1; cases a1
    refine ⟨b, cur, e', hb, a2, a3, by simpa using a4, a5, fun j y v hu hv => ?_⟩
    by_cases hjo : off = j
    · subst hjo
      have hlt : off < l.length := by have := (List.getElem?_eq_some_iff.1 hu).1; simpa using this
      rw [List.getElem?_set_self hlt] at hu
      cases hu
      rw [cell_of_row w b _ cur e' (0, 0) a3, hv] at hx
      cases hx
      exact ⟨AV.plain_noUniq hp, h1, hr, OwnAt.of_plain hp⟩
    · rw [List.getElem?_set_ne hjo] at hu
      exact a6 j y v hu hv
  · rw [List.getElem?_set_ne (Ne.symm hii)] at ho
    exact hH.obj id' o ho
/-- A row of its own, in a cell, becomes an object. -/
theorem sim_thawR (hH : HRel B ω κ S w H) {t e : TypeId} (ht : P.underlying t = some (.slice e)) {id off n z : Nat} {l c : List AV} (hn : n ≠ 0) (hid : H[id]? = some (.cells l)) (hoff : l[off]? = some (.raw c n z)) {v : Value}
    (hr : Rel κ S w (.ptr id off) v) :
    ∃ x, (Instr.loadAt t v).run P w = .ok x w ∧ Post B ω κ S w (H.set id (.cells (l.set off (.ref H.length 0 n none z))) ++ [.cells c]) (.ref H.length 0 n none z) x w := by
  obtain ⟨b, x, h1, h2, h3, h4, ω1, κ1, S1, k1, k2, k3, k4, k5⟩ := sim_takeR hH ht hid hoff hr
  refine ⟨x, h4, ?_⟩
  obtain ⟨ω2, κ2, S2, m1, m2, m3, m4, m5⟩ := post_thaw k3 (l := .res) (by simp) (by simp) hn k4 k5
  rw [List.length_set] at m4 m5
  have hlt := (List.getElem?_eq_some_iff.1 hid).1
  have hb2 : κ2[id]? = some b := m1 _ _ (k1 _ _ h1)
  have hid2 : (H.set id (AObj.cells (l.set off .junk)) ++ [AObj.cells c])[id]? = some (AObj.cells (l.set off .junk)) := by
    rw [List.getElem?_append_left (by simpa using hlt), List.getElem?_set_self hlt]
  have hx := hrel_cell m3 hid2 hb2 h2 h3 (u := .ref H.length 0 n none z) rfl m4
  have e : (H.set id (AObj.cells (l.set off .junk)) ++ [AObj.cells c]).set id (AObj.cells ((l.set off .junk).set off (.ref H.length 0 n none z))) = H.set id (AObj.cells (l.set off (.ref H.length 0 n none z))) ++ [AObj.cells c] := by
    rw [List.set_append_left _ _ (by simpa using hlt), List.set_set, List.set_set]
  rw [e] at hx
  exact ⟨ω2, κ2, S2, k1.trans m1, k2.trans m2, hx, m4, m5⟩
theorem isNilSlice_eq {x : Operand} (h : isNilSlice x = true) : x = .const (.slice none 0 0) := by
  unfold isNilSlice at h
  split at h
  · rfl
  · simp at h
theorem n1_arg (i : Nat) : ∀ id, Lab.arg i ≠ .obj id := fun _ => by simp
theorem n2_arg (i : Nat) : ∀ id j, Lab.arg i ≠ .cell id j := fun _ _ => by simp
theorem sim_move (hH : HRel B ω κ S w H) {ρ : Operand → Value} (hρ : ∀ v, ρ (.const v) = v) {lo mode : Nat} {t : TypeId} {x : Operand} {us : List AV} {r : AV} {H' : List AObj}
    (h : opMove P lo mode t x H us = some (r, H')) (hv : VRel (fun i => .arg i) ω κ S w us ([x].map ρ)) : Post B ω κ S w H' r (ρ x) w := by
  obtain ⟨u, rfl, r1, o1⟩ := VRel.one hv
  unfold opMove at h
  simp only at h
  split at h
  · split at h
    · rename_i hn ht
      simp only [Option.map_eq_some_iff, Prod.mk.injEq] at h
      obtain ⟨z, _, rfl, rfl⟩ := h
      rw [isNilSlice_eq hn, hρ]
      exact ⟨ω, κ, S, Ext.refl κ, Ev.refl ω S w, hH, .lnil _ _, trivial⟩
    · cases h; exact post_move hH (n1_arg _) (n2_arg _) r1 o1
  · split at h
    · rename_i cells len z
      split at h
      · cases h; exact post_move hH (n1_arg _) (n2_arg _) r1 o1
      · rename_i h0
        cases h; exact post_thaw hH (n1_arg _) (n2_arg _) h0 r1 o1
    · cases h; exact post_move hH (n1_arg _) (n2_arg _) r1 o1
    · cases h; exact post_move hH (n1_arg _) (n2_arg _) r1 o1
    · simp at h
  · split at h
    · rename_i id off len cap sz
      split at h
      · simp only [Option.bind_eq_some_iff, Option.map_eq_some_iff, Prod.mk.injEq] at h
        obtain ⟨row, hrow, n, hn, rfl, rfl⟩ := h
        exact post_freeze hH hrow hn r1
      · simp at h
    · rename_i id gid n z
      split at h
      · split at h
        · rename_i l g z' hid
          split at h
          · rename_i hl
            cases h
            have hlt := (List.getElem?_eq_some_iff.1 hid).1
            have q := post_freeze (hH.ungrow hid) (row := l.map AV.view) (by simp only [rowOf, List.getElem?_set_self hlt, Nat.zero_add]; rw [if_pos (by omega), List.drop_zero, List.take_of_length_le (by omega)]) rfl (r1.view rfl)
            rw [List.set_set] at q
            exact q
          · simp at h
        · simp at h
      · simp at h
    · cases h
      obtain ⟨S', k1, k2, hH', r2⟩ := look_one hH (n1_arg _) (n2_arg _) r1 o1
      exact Post.after (Ext.refl κ) (Ev.settle k1 fun b o h => (k2 b o h).imp id fun h => ⟨_, h⟩) (Post.same hH' r2 (AV.view_plain _))
theorem sim_load (hH : HRel B ω κ S w H) {lo mode : Nat} {t : TypeId} {u : AV} {r : AV} {H' : List AObj} {v : Value} (h : opLoad P lo mode t H [u] = some (r, H')) (hr : Rel κ S w u v) :
    ∃ x, (Instr.loadAt t v).run P w = .ok x w ∧ Post B ω κ S w H' r x w := by
  unfold opLoad at h
  simp only at h
  split at h
  · simp only [Option.map_eq_some_iff, Prod.mk.injEq] at h
    obtain ⟨r', h, rfl, rfl⟩ := h
    obtain ⟨x, h1, h2, h3⟩ := run_loadAt hH h hr
    exact ⟨x, h1, Post.same hH h2 h3⟩
  · split at h
    · simp only [Option.map_eq_some_iff, Prod.mk.injEq] at h
      obtain ⟨r', h, rfl, rfl⟩ := h
      obtain ⟨x, h1, h2, h3⟩ := run_loadAt (t := t) hH (by simpa only [aLoad] using h) hr
      exact ⟨x, h1, Post.same hH h2 h3⟩
    · simp at h
  · split at h
    · rename_i e id off ht
      split at h
      · split at h
        · rename_i l hid
          split at h
          · rename_i c n z hoff
            cases h
            exact sim_take hH ht hid hoff hr
          · rename_i c n z hoff
            split at h
            · split at h
              · simp at h
              · rename_i hn
                cases h
                exact sim_thawR hH ht hn hid hoff hr
            · cases h
              obtain ⟨_, x, _, _, _, h1, h2⟩ := sim_takeR hH ht hid hoff hr
              exact ⟨x, h1, h2⟩
          · rename_i u' hnl hnr hoff
            cases h
            have : aLoad P H t (.ptr id off) = some u'.view := by simp [aLoad, hid, ldPart, isAggT, ht, hoff]
            obtain ⟨x, h1, h2, h3⟩ := run_loadAt hH this hr
            exact ⟨x, h1, Post.same hH h2 h3⟩
          · simp at h
        · rename_i l g z' hid
          have hlt := (List.getElem?_eq_some_iff.1 hid).1
          split at h
          · rename_i c n z hoff
            cases h
            obtain ⟨b, cur, e', a1, a2, a3, a4, a5, a6, cap, a7, a8, a9, a10⟩ := hH.obj id _ hid
            obtain ⟨x, h1, ω', κ', S', p1, p2, p3, p4⟩ := sim_take (hH.ungrow hid) ht (by rw [List.getElem?_set_self hlt]) hoff hr
            have hg := p3.regrow (g := g) (z := z') (by rw [List.getElem?_set_self (by simpa using hlt)]) (p1 _ _ a1) (p1 _ _ a7) a8 a9 a3 a10
            rw [List.set_set, List.set_set] at hg
            exact ⟨x, h1, ω', κ', S', p1, p2, hg, p4⟩
          · rename_i c n hoff
            cases h
            have : aLoad P H t (.ptr id off) = some (.lst c n .full) := by simp [aLoad, hid, ldPart, isAggT, ht, hoff, AV.view]
            obtain ⟨x, h1, h2, h3⟩ := run_loadAt hH this hr
            exact ⟨x, h1, Post.same hH h2 h3⟩
          · simp at h
        · simp at h
      · simp at h
    · simp at h
theorem sim_builtin (hH : HRel B ω κ S w H) {lo : Nat} {b : Builtin} {ts : Array TypeId} (ty : TypeId) (cs : Array Bool) {us : List AV} {r : AV} {H' : List AObj} {vs : List Value} (h : opBuiltin P lo b ts H us = some (r, H'))
    (hv : VRel (fun i => .arg i) ω κ S w us vs) : ∃ y w', (builtin b ts ty cs vs.toArray).run P w = .ok (.value y) w' ∧ Post B ω κ S w H' r y w' := by
  have one : ∀ {u : AV}, us = [u] → ∃ v, vs = [v] ∧ Rel κ S w u v := fun {u} e => by
    subst e
    match vs, hv with
    | [v], hv => exact ⟨v, rfl, hv.rel 0 u v rfl rfl⟩
    | [], hv => exact absurd hv.len (by simp)
    | _ :: _ :: _, hv => exact absurd hv.len (by simp)
  have two : ∀ {u x : AV}, us = [u, x] → ∃ v y, vs = [v, y] ∧ Rel κ S w u v ∧ OwnAt ω κ S w (.arg 0) u v ∧ Rel κ S w x y ∧ OwnAt ω κ S w (.arg 1) x y := fun {u x} e => by
    subst e
    match vs, hv with
    | [v, y], hv => exact ⟨v, y, rfl, hv.rel 0 u v rfl rfl, hv.own 0 u v rfl rfl, hv.rel 1 x y rfl rfl, hv.own 1 x y rfl rfl⟩
    | [], hv => exact absurd hv.len (by simp)
    | [_], hv => exact absurd hv.len (by simp)
    | _ :: _ :: _ :: _, hv => exact absurd hv.len (by simp)
  unfold opBuiltin at h
  split at h
  · -- append
    unfold opAppend at h
    split at h
    · rename_i s x
      split at h
      · rename_i t xt hts
        have hts : ts = #[t, xt] := by rw [← Array.toArray_toList (xs := ts), hts]
        subst hts
        simp only [Option.map_eq_some_iff, Prod.mk.injEq] at h
        obtain ⟨r', h, rfl, rfl⟩ := h
        obtain ⟨v, y, rfl, r1, o1, r2, o2⟩ := two rfl
        obtain ⟨z, w', h1, h2⟩ := sim_append hH ty (n1_arg _) (n2_arg _) (n1_arg _) (n2_arg _) (by simp) h r1 o1 r2 o2
        exact ⟨z, w', by simp [builtin, h1], h2⟩
      · simp at h
    · simp at h
  · -- len
    match us with
    | [u] =>
      obtain ⟨v, rfl, r1⟩ := one rfl
      obtain ⟨y, h1, h2⟩ := sim_len hH (ts := ts) ty h r1
      exact ⟨y, w, by simp [builtin, h1], h2⟩
    | [] => simp [opLen] at h
    | _ :: _ :: _ => simp [opLen] at h
  · -- cap
    match us with
    | [u] =>
      obtain ⟨v, rfl, r1⟩ := one rfl
      obtain ⟨y, h1, h2⟩ := sim_cap hH (ts := ts) ty h r1
      exact ⟨y, w, by simp [builtin, h1], h2⟩
    | [] => simp [opCap] at h
    | _ :: _ :: _ => simp [opCap] at h
  · -- copy
    match us with
    | [u, x] =>
      obtain ⟨v, y, rfl, r1, o1, r2, o2⟩ := two rfl
      obtain ⟨z, w', h1, h2⟩ := sim_copy hH (ts := ts) ty (n1_arg _) (n2_arg _) h r1 r2 o2
      exact ⟨z, w', by simp [builtin, h1], h2⟩
    | [] => simp [opCopy] at h
    | [_] => simp [opCopy] at h
    | _ :: _ :: _ :: _ => simp [opCopy] at h
  · -- clear
    match us with
    | [u] =>
      obtain ⟨v, rfl, r1⟩ := one rfl
      obtain ⟨y, w', h1, h2⟩ := sim_clear hH (ts := ts) ty h r1
      exact ⟨y, w', by simp [builtin, h1], h2⟩
    | [] => simp [opClear] at h
    | _ :: _ :: _ => simp [opClear] at h
  · -- delete
    match us with
    | [u, x] =>
      obtain ⟨v, y, rfl, r1, _, r2, _⟩ := two rfl
      obtain ⟨z, w', h1, h2⟩ := sim_delete hH (ts := ts) ty h r1 r2
      exact ⟨z, w', by simp [builtin, h1], h2⟩
    | [] => simp [opDelete] at h
    | [_] => simp [opDelete] at h
    | _ :: _ :: _ :: _ => simp [opDelete] at h
  · simp only [Option.map_eq_some_iff, Prod.mk.injEq] at h
    obtain ⟨r', h, rfl, rfl⟩ := h
    obtain ⟨y, h1, h2, h3⟩ := sim_min (P := P) ts ty h hv
    exact ⟨y, w, by simp [builtin, h1], Post.same hH h2 h3⟩
  · simp only [Option.map_eq_some_iff, Prod.mk.injEq] at h
    obtain ⟨r', h, rfl, rfl⟩ := h
    obtain ⟨y, h1, h2, h3⟩ := sim_max (P := P) ts ty h hv
    exact ⟨y, w, by simp [builtin, h1], Post.same hH h2 h3⟩
  · simp at h
end
end Go.Proofs.YtbnbjjgagikobaaGreat.Ab

/-
  All operations but calls of functions, in one theorem.
-/
namespace Go.Proofs.YtbnbjjgagikobaaGreat.Ab
open Go
section
variable {P : Program} {B : Nat} {κ : List Nat} {w : World} {H : List AObj} {ω : Nat → Option Lab} {S : Nat → Nat → Prop}
theorem VRel.tail {lab : Nat → Lab} {us : List AV} {vs : List Value} {u : AV} {v : Value} (h : VRel lab ω κ S w (u :: us) (v :: vs)) : VRel (fun i => lab (i + 1)) ω κ S w us vs :=
  ⟨by simpa using h.len, fun i a b ha hb => h.rel (i + 1) a b (by simpa using ha) (by simpa using hb), fun i a b ha hb => h.own (i + 1) a b (by simpa using ha) (by simpa using hb)⟩
theorem orel {lab : Nat → Lab} {us : List AV} {vs : List Value} (hv : VRel lab ω κ S w us vs) {ρ : Operand → Value} (i : Nat) (l : Option Operand) (hl : ∀ x, l = some x → vs[i]? = some (ρ x)) :
    ORel κ S w (optAt us i l) (l.map ρ) := by
  cases l with
  | none => trivial
  | some x =>
    have h1 := hl x rfl
    have h2 : i < us.length := by rw [hv.len]; exact (List.getElem?_eq_some_iff.1 h1).1
    simp only [optAt, List.getElem?_eq_getElem h2, Option.map_some]
    exact hv.rel i _ _ (List.getElem?_eq_getElem h2) h1
theorem ORel.mono {S' : Nat → Nat → Prop} (hS : ∀ b o, S b o → S' b o) {a : Option AV} {b : Option Value} (h : ORel κ S w a b) : ORel κ S' w a b := by
  cases a <;> cases b <;> first | exact h | exact Rel.mono (Ext.refl κ) (fun b o h => ⟨hS b o h, rfl⟩) h
theorem slice_gen (hH : HRel B ω κ S w H) {ρ : Operand → Value} {t : TypeId} {x : Operand} {l h m : Option Operand} {u : AV} {vs : List AV} {r : AV} {i1 i2 : Nat}
    (ho : aSlice P t u.view (optAt vs 0 l) (optAt vs i1 h) (optAt vs i2 m) = some r) (h1 : i1 = l.toList.length) (h2 : i2 = l.toList.length + h.toList.length)
    (ru : Rel κ S w u (ρ x)) (ou : OwnAt ω κ S w (.arg 0) u (ρ x)) {lab : Nat → Lab} (hv1 : VRel lab ω κ S w vs ((l.toList ++ h.toList ++ m.toList).map ρ)) :
    ∃ v, (Instr.sliceAt t (ρ x) (l.map ρ) (h.map ρ) (m.map ρ)).run P w = .ok v w ∧ Post B ω κ S w H r v w := by
  obtain ⟨S', k1, k2, hH', r1⟩ := look_one hH (n1_arg _) (n2_arg _) ru ou
  obtain ⟨v, q1, q2, q3⟩ := run_slice (κ := κ) (S := S') (w := w) ho (AV.view_plain u) r1
    ((orel (ρ := ρ) hv1 0 l (fun y hy => by subst hy; simp)).mono k1)
    ((orel (ρ := ρ) hv1 i1 h (fun y hy => by subst h1 hy; cases l <;> simp)).mono k1)
    ((orel (ρ := ρ) hv1 i2 m (fun y hy => by subst h2 hy; cases l <;> cases h <;> simp)).mono k1)
  exact ⟨v, q1, Post.after (Ext.refl κ) (Ev.settle k1 fun b o h => (k2 b o h).imp id fun h => ⟨_, h⟩) (Post.same hH' q2 q3)⟩
/-- A slice, its row taken or looked at. -/
theorem sim_slice (hH : HRel B ω κ S w H) {ρ : Operand → Value} {t : TypeId} {x : Operand} {l h m : Option Operand} {us : List AV} {r : AV} (ho : opSlice P t l h m us = some r)
    (hv : VRel (fun i => .arg i) ω κ S w us ((x :: (l.toList ++ h.toList ++ m.toList)).map ρ)) :
    ∃ v, (Instr.sliceAt t (ρ x) (l.map ρ) (h.map ρ) (m.map ρ)).run P w = .ok v w ∧ Post B ω κ S w H r v w := by
  match us, hv with
  | [], hv => exact absurd hv.len (by simp)
  | u :: vs, hv =>
    have ru := hv.rel 0 u _ rfl rfl
    have ou := hv.own 0 u _ rfl rfl
    have hv1 := hv.tail
    unfold opSlice at ho
    dsimp only at ho
    split at ho
    · rename_i cells len z
      split at ho
      · rename_i e hd
        simp only [Option.bind_eq_some_iff, Option.map_eq_some_iff] at ho
        obtain ⟨s, hs, n, hn, rfl⟩ := ho
        have rh := orel (ρ := ρ) hv1 0 h (fun y hy => by subst hy; simp)
        generalize hx : ρ x = vx at ru ou ⊢
        cases ru with
        | lnil c a =>
          obtain ⟨q, q1, q2⟩ := run_bounds_none (P := P) (isS := true) (cap := 0) (lo := none) (lo' := none) hn rfl (by omega) trivial rh
          obtain rfl : n = 0 := by omega
          exact ⟨.slice a 0 0, by cases a <;> simp [Instr.sliceAt, Instr.slice, run_underlying hd, q, run_sizeOf hs, Addr.add], ω, κ, S, Ext.refl κ, Ev.refl ω S w, hH, by simpa using .lnil _ _, by cases a <;> first | trivial | exact .inl ⟨rfl, rfl, by simp⟩⟩
        | lst _ _ c b o cap f hc hle hu hcell hrel => exact absurd rfl (hu _)
        | luniq cells len z b o cap =>
          rcases ou with ⟨rfl, rfl, rfl⟩ | ⟨o1, o2, o3, o4, o5, o6, ⟨cur, ce, o7, o8, o9⟩, o10⟩
          · obtain ⟨q, q1, q2⟩ := run_bounds_none (P := P) (isS := true) (cap := 0) (lo := none) (lo' := none) hn rfl (by omega) trivial rh
            obtain rfl : n = 0 := by omega
            exact ⟨.slice (some ⟨b, o, none⟩) 0 0, by simp [Instr.sliceAt, Instr.slice, run_underlying hd, q, run_sizeOf hs], ω, κ, S, Ext.refl κ, Ev.refl ω S w, hH, .luniq _ _ _ _ _ _, .inl ⟨rfl, rfl, by simp⟩⟩
          · obtain ⟨q, q1, q2⟩ := run_bounds_none (P := P) (isS := true) (cap := cap) (lo := none) (lo' := none) hn rfl (by omega) trivial rh
            simp only at o1 o7 o10 o2
            refine ⟨.slice (some ⟨b, o, none⟩) n cap, by simp [Instr.sliceAt, Instr.slice, run_underlying hd, q, run_sizeOf hs]; intro; simp [Addr.add], ?_⟩
            refine post_move hH (n1_arg 0) (n2_arg 0) (.luniq _ _ _ _ _ _) (.inr ⟨o1, o2, by omega, o4, o5, ?_, ⟨cur, ce, o7, o8, fun j u v hu hv => ?_⟩, o10⟩)
            · rw [List.length_take, o6]; exact Nat.min_eq_left (Nat.mul_le_mul_right _ q2)
            · rw [List.getElem?_take] at hu
              split at hu
              · exact o9 j u v hu hv
              · simp at hu
      · simp at ho
    · exact slice_gen hH ho (by cases l <;> rfl) (by cases l <;> cases h <;> rfl) ru ou hv1
theorem sim_op {ρ : Operand → Value} (hρ : ∀ v, ρ (.const v) = v) {C : CallFn} {lo mode : Nat} {o : Oper} {us : List AV} {r : AV} {H' : List AObj} (hH : HRel B ω κ S w H)
    (h : opAll P C lo o mode us H = some (r, H')) (hnc : ∀ c f, o.op = .call c → c.callee ≠ .value f)
    (hp : isLinear o = false → ∀ u ∈ us, u.plain = true) (hv : VRel (fun i => .arg i) ω κ S w us ((opsOf o).map ρ)) : OpVal P ρ o w (Post B ω κ S w H' r) := by
  have base : (op0 P o us).map (·, H) = some (r, H') → isLinear o = false → OpVal P ρ o w (Post B ω κ S w H' r) := fun h hl => by
    simp only [Option.map_eq_some_iff, Prod.mk.injEq] at h
    obtain ⟨r', h', rfl, rfl⟩ := h
    exact sim_op0 hρ hH h' hl (hp hl) hv
  cases hop : o.op
  case call c =>
    simp only [opAll, hop] at h
    cases hc : c.callee with
    | builtin b =>
      simp only [hc] at h
      have he : opsOf o = c.args.toList := by
        obtain ⟨cal, args, ats⟩ := c
        simp only at hc; subst hc
        simp only [opsOf, hop]
      rw [he] at hv
      obtain ⟨y, w', h1, h2⟩ : ∃ y w', (builtin b c.argTypes o.type (c.args.map fun | .const _ => true | _ => false) (c.args.toList.map ρ).toArray).run P w = .ok (.value y) w' ∧ Post B ω κ S w H' r y w' := by
        cases b
        case append =>
          simp only at h
          split at h
          · exact sim_builtin hH o.type _ h hv
          · match us, h, hv with
            | [u, x], h, hv =>
              obtain ⟨v, tm, e1, r1, o1, hv⟩ := hv.uncons
              obtain ⟨y, tm, e2, r2, o2, hv⟩ := hv.uncons
              cases tm with
              | cons => exact absurd hv.len (by simp)
              | nil =>
              obtain ⟨z, w', h1, h2⟩ := sim_appendO hH o.type (n1_arg _) (n2_arg _) (n1_arg _) (n2_arg _) (by simp) h r1 o1 r2 o2
              rw [e1, e2]
              exact ⟨z, w', by simp [builtin, h1], h2⟩
        all_goals exact sim_builtin hH o.type _ h hv
      refine .inl ⟨y, w', ?_, h2⟩
      simp only [Go.execOp, hop, resolve, hc, Sem.run_bind, Sem.run_pure, Result.andThen_ok, invoke]
      rw [← h1, ← Array.toList_map, Array.toArray_toList]; rfl
    | value f => exact absurd hc (hnc c f hop)
    | invoke x n => simp [hc] at h
  all_goals (have hv' := hv; rw [opsOf_of (by simp [hop])] at hv'; simp only [hop, Op.operands] at hv')
  case move x =>
    simp only [opAll, hop] at h
    exact .inl ⟨ρ x, w, by simp [Go.execOp, hop], sim_move hH hρ h hv'⟩
  case assign x =>
    simp only [opAll, hop] at h
    exact .inl ⟨ρ x, w, by simp [Go.execOp, hop], sim_move hH hρ h hv'⟩
  case load t a =>
    simp only [opAll, hop] at h
    obtain ⟨u, rfl, r1, _⟩ := VRel.one (x := a) (by simpa using hv')
    obtain ⟨x, h1, h2⟩ := sim_load hH h r1
    exact .inl ⟨x, w, by simp [Go.execOp, hop, h1], h2⟩
  case store t a x =>
    simp only [opAll, hop] at h
    obtain ⟨u, v, rfl, r1, o1, r2, o2⟩ := VRel.two (x := a) (y := x) (by simpa using hv')
    unfold opStore at h
    simp only at h
    split at h
    · simp only [Option.map_eq_some_iff, Prod.mk.injEq] at h
      obtain ⟨H1, h, rfl, rfl⟩ := h
      obtain ⟨w', h1, h2⟩ := sim_store hH (n1_arg _) (n2_arg _) h r1 r2 o2 undef
      exact .inr ⟨w', by simp [Go.execOp, hop, h1], h2⟩
    · simp only [Option.map_eq_some_iff, Prod.mk.injEq] at h
      obtain ⟨H1, h, rfl, rfl⟩ := h
      obtain ⟨w', h1, h2⟩ := sim_storeR hH (n1_arg _) (n2_arg _) h r1 r2 o2 undef
      exact .inr ⟨w', by simp [Go.execOp, hop, h1], h2⟩
  case box e x =>
    simp only [opAll, hop] at h
    obtain ⟨u, rfl, r1, o1⟩ := VRel.one (x := x) (by simpa using hv')
    unfold opBox at h
    simp only at h
    split at h
    · simp only [Option.map_eq_some_iff, Prod.mk.injEq] at h
      obtain ⟨vc, h, rfl, rfl⟩ := h
      obtain ⟨y, w', h1, h2⟩ := sim_box (P := P) hH (n1_arg _) (n2_arg _) h r1 o1 e
      exact .inl ⟨y, w', by simp [Go.execOp, hop, h1], h2⟩
    · split at h
      · rename_i vc hvc
        split at h
        · rename_i hp
          cases h
          obtain ⟨y, w', h1, h2⟩ := sim_boxF (P := P) hH hvc hp r1 e
          exact .inl ⟨y, w', by simp [Go.execOp, hop, h1], h2⟩
        · simp at h
      · simp at h
  case alloc t =>
    simp only [opAll, hop] at h
    unfold opAlloc at h
    split at h
    · simp only [Option.map_eq_some_iff, Prod.mk.injEq] at h
      obtain ⟨z, h, rfl, rfl⟩ := h
      obtain ⟨y, w', h1, h2⟩ := sim_alloc hH h (.tuple #[])
      exact .inl ⟨y, w', by simp [Go.execOp, hop, h1], h2⟩
    · split at h
      · rename_i e hz he
        simp only [Option.map_eq_some_iff, Prod.mk.injEq] at h
        obtain ⟨s, _, rfl, rfl⟩ := h
        obtain ⟨y, w', h1, h2⟩ := sim_allocO (s := s) hH hz (.tuple #[])
        exact .inl ⟨y, w', by simp [Go.execOp, hop, h1], h2⟩
      · simp at h
  case buildSlice t len parts =>
    simp only [opAll, hop] at h
    split at h
    · exact base h (by simp [isLinear, hop])
    · simp only [Option.map_eq_some_iff, Prod.mk.injEq] at h
      obtain ⟨⟨cs, s⟩, h, rfl, rfl⟩ := h
      obtain ⟨v, w', q1, q2⟩ := sim_buildSliceO hρ hH hop h (hp (by simp [isLinear, hop])) hv
      exact .inl ⟨v, w', q1, q2⟩
  case makeSlice t a b =>
    simp only [opAll, hop] at h
    obtain ⟨u, v, rfl, r1, _, r2, _⟩ := VRel.two (x := a) (y := b) (by simpa using hv')
    unfold opMakeSlice at h
    split at h
    · rename_i k n k' c heq
      simp at heq
      obtain ⟨rfl, rfl⟩ := heq
      split at h
      · rename_i hc
        have e1 := r1.int_inv
        have e2 := r2.int_inv
        split at h
        · simp only [Option.map_eq_some_iff, Prod.mk.injEq] at h
          obtain ⟨z, h, rfl, rfl⟩ := h
          obtain ⟨y, w', h1, h2⟩ := sim_makeSlice (k := k) (k' := k') hH hc.1 hc.2 h
          exact .inl ⟨y, w', by simp [Go.execOp, hop, e1, e2, h1], h2⟩
        · split at h
          · rename_i hnc
            simp only [Option.map_eq_some_iff, Prod.mk.injEq] at h
            obtain ⟨z, h, rfl, rfl⟩ := h
            obtain ⟨rfl, h0⟩ := hnc
            obtain ⟨y, w', h1, h2⟩ := sim_makeSliceU (k := k) (k' := k') hH h0 h
            exact .inl ⟨y, w', by simp [Go.execOp, hop, e1, e2, h1], h2⟩
          · simp at h
      · simp at h
    · simp at h
  case makeMap t r =>
    simp only [opAll, hop] at h
    obtain ⟨x, w', h1, rfl, h2⟩ := sim_makeMap (P := P) hH h
    exact .inl ⟨x, w', by simp [Go.execOp, hop, h1], h2⟩
  case mapUpdate t m k v =>
    simp only [opAll, hop] at h
    have hp := hp (by simp [isLinear, hop])
    obtain ⟨um, uk, uv, rfl, rm, rk, rv⟩ : ∃ um uk uv, us = [um, uk, uv] ∧ Rel κ S w um (ρ m) ∧ Rel κ S w uk (ρ k) ∧ Rel κ S w uv (ρ v) := by
      match us, hv' with
      | [um, uk, uv], hv' => exact ⟨um, uk, uv, rfl, hv'.rel 0 _ _ rfl rfl, hv'.rel 1 _ _ rfl rfl, hv'.rel 2 _ _ rfl rfl⟩
      | [], hv' => exact absurd hv'.len (by simp)
      | [_], hv' => exact absurd hv'.len (by simp)
      | [_, _], hv' => exact absurd hv'.len (by simp)
      | _ :: _ :: _ :: _ :: _, hv' => exact absurd hv'.len (by simp)
    obtain ⟨w', h1, h2⟩ := sim_mapUpdate hH h rm rk (hp uk (by simp)) rv (hp uv (by simp)) undef
    exact .inr ⟨w', by simp [Go.execOp, hop, h1], h2⟩
  case lookup t m k ok =>
    simp only [opAll, hop] at h
    obtain ⟨um, uk, rfl, rm, _, rk, _⟩ := VRel.two (x := m) (y := k) (by simpa using hv')
    obtain ⟨x, h1, h2⟩ := sim_lookup hH h rm rk
    exact .inl ⟨x, w, by simp [Go.execOp, hop, h1], h2⟩
  case range t m =>
    simp only [opAll, hop] at h
    obtain ⟨um, rfl, rm, _⟩ := VRel.one (x := m) (by simpa using hv')
    obtain ⟨x, w', h1, h2⟩ := sim_range hH h rm
    exact .inl ⟨x, w', by simp [Go.execOp, hop, h1], h2⟩
  case entry m =>
    simp only [opAll, hop] at h
    obtain ⟨um, rfl, rm, _⟩ := VRel.one (x := m) (by simpa using hv')
    obtain ⟨x, h1, h2⟩ := sim_entry (P := P) hH h rm
    exact .inl ⟨x, w, by simp [Go.execOp, hop, h1], h2⟩
  case slice t x l hh m =>
    simp only [opAll, hop, op0, Option.map_eq_some_iff, Prod.mk.injEq] at h
    obtain ⟨r', h, rfl, rfl⟩ := h
    obtain ⟨v, h1, h2⟩ := sim_slice (x := x) hH h (by simpa using hv')
    exact .inl ⟨v, w, by simp [Go.execOp, hop, h1], h2⟩
  all_goals exact base (by simpa only [opAll, hop] using h) (by simp [isLinear, hop])
end
end Go.Proofs.YtbnbjjgagikobaaGreat.Ab

/-
  One operation of an activation: operands are read, the operation runs, its value goes into its slot.
-/
namespace Go.Proofs.YtbnbjjgagikobaaGreat.Ab
open Go
/-- While an operation runs, the slots' rows are nobody's business. -/
def hide (ω : Nat → Option Lab) : Nat → Option Lab := fun b => match ω b with
  | some (.slot _) => none
  | x => x
/-- Behind it: the slots' rows, but the one that was written over; the result's. -/
def back (ω ω2 : Nat → Option Lab) (d : Option Nat) : Nat → Option Lab := fun b => match ω b with
  | some (.slot i) => if d = some i then none else some (.slot i)
  | _ => match ω2 b with
    | some .res => d.map .slot
    | some (.obj id) => some (.obj id)
    | some (.cell id j) => some (.cell id j)
    | _ => none
/-- The marks of the ranges over functions that an activation holds. -/
def Marks (N : Nat) (ω : Nat → Option Lab) (w : World) (ds : List Deferred) : Prop :=
  N ≤ w.heap.size ∧ (∀ d ∈ ds, ∃ r, d.target = .collected r ∧ N ≤ r ∧ ω r = none ∧ w.heap[r]? = some (.deferred (some []))) ∧ ds.Pairwise (fun a b => a.target ≠ b.target)
/-- An activation, as it lies. -/
structure ARel (B N : Nat) (ω : Nat → Option Lab) (κ : List Nat) (S : Nat → Nat → Prop) (w : World) (s : St) (a : Act) : Prop where
  T : VRel .slot ω κ S w s.T a.tmps.toList
  H : HRel B ω κ S w s.H
  M : Marks N ω w a.defers
def Step (B N : Nat) (ω : Nat → Option Lab) (κ : List Nat) (S : Nat → Nat → Prop) (w : World) (s' : St) (a' : Act) (w' : World) : Prop :=
  ∃ ω' κ' S', Ext κ κ' ∧ Ev ω S w ω' S' w' ∧ ARel B N ω' κ' S' w' s' a'
section
variable {P : Program} {B N : Nat} {κ : List Nat} {w : World} {H : List AObj} {ω : Nat → Option Lab} {S : Nat → Nat → Prop}
theorem Marks.ev {ω' : Nat → Option Lab} {S' : Nat → Nat → Prop} {w' : World} {ds : List Deferred} (h : Marks N ω w ds) (ev : Ev ω S w ω' S' w') : Marks N ω' w' ds := ⟨Nat.le_trans h.1 ev.size, fun d hd => by
  obtain ⟨r, h1, h2, h3, h4⟩ := h.2.1 d hd
  have hr : r < w.heap.size := (Array.getElem?_eq_some_iff.1 h4).1
  refine ⟨r, h1, h2, ?_, (ev.keep r hr h3).trans h4⟩
  cases h5 : ω' r with
  | none => rfl
  | some l =>
    rcases ev.own r (by simp [h5]) with h6 | h6
    · exact absurd h3 h6
    · omega, h.2.2⟩
theorem hide_none {b : Nat} (h : ω b = none) : hide ω b = none := by simp [hide, h]
theorem hide_slot {b i : Nat} (h : ω b = some (.slot i)) : hide ω b = none := by simp [hide, h]
theorem hide_other {b : Nat} {l : Lab} (h : ω b = some l) (hl : ∀ i, l ≠ .slot i) : hide ω b = some l := by
  cases l <;> first | (simp only [hide, h]; done) | exact absurd rfl (hl _)
theorem hide_some {b : Nat} {l : Lab} (h : hide ω b = some l) : ω b = some l ∧ ∀ i, l ≠ .slot i := by
  unfold hide at h
  split at h
  · simp at h
  · rename_i hn
    exact ⟨h, fun i e => by subst e; exact hn i h⟩
theorem hide_noslot (b i : Nat) : hide ω b ≠ some (.slot i) := fun h => (hide_some h).2 i rfl
theorem back_slot {ω2 : Nat → Option Lab} {d : Option Nat} {b i : Nat} (h : ω b = some (.slot i)) (hd : d ≠ some i) : back ω ω2 d b = some (.slot i) := by simp [back, h, hd]
theorem hrel_hide (hH : HRel B ω κ S w H) : HRel B (hide ω) κ S w H := by
  refine ⟨hH.klen, fun id o ho => ?_, hH.swf, fun b l hb => hH.base b l (hide_some hb).1, hH.bsz⟩
  refine (hH.obj id o ho).frame (Ext.refl κ) (fun _ _ h => ⟨h, rfl⟩) fun b l hb hl => ⟨hide_other hb ?_, rfl, fun _ h => h⟩
  rcases hl with rfl | ⟨j, rfl⟩ <;> simp
theorem vrel_hide {us : List AV} {vs : List Value} (h : VRel (fun i => .arg i) ω κ S w us vs) : VRel (fun i => .arg i) (hide ω) κ S w us vs :=
  ⟨h.len, h.rel, fun i u v hu hv => (h.own i u v hu hv).mono (Ext.refl κ) (fun _ _ h => ⟨h, rfl⟩) fun b hb => ⟨hide_other hb (by simp), rfl, fun _ h => h⟩⟩
theorem put_tmps (a : Act) (d : Option Tmp) (v : Value) : (a.put d v).tmps.toList = match d with | some d => a.tmps.toList.set d v | none => a.tmps.toList := by
  cases d <;> simp [Act.put]
theorem put_defers (a : Act) (d : Option Tmp) (v : Value) : (a.put d v).defers = a.defers := by
  cases d <;> rfl
theorem op_done_at {T : List AV} {a : Act} {H' : List AObj} {r : AV} {v : Value} {w' : World} (dst : Option Tmp) (hA : ARel B N ω κ S w ⟨T, H⟩ a) {ω2 : Nat → Option Lab} {κ2 : List Nat} {S2 : Nat → Nat → Prop}
    (hκ : Ext κ κ2) (ev2 : Ev (hide ω) S w ω2 S2 w') (hH2 : HRel B ω2 κ2 S2 w' H') (hr : Rel κ2 S2 w' r v) (ho : OwnAt ω2 κ2 S2 w' .res r v) :
    Ev ω S w (back ω ω2 dst) S2 w' ∧ ARel B N (back ω ω2 dst) κ2 S2 w' ⟨put T dst r, H'⟩ (a.put dst v) := by
  have hbs : ∀ b l, ω b = some l → b < w.heap.size := fun b l h => (hA.H.base b l h).2
  have hnot : ∀ b l, ω2 b = some l → ∀ i, ω b ≠ some (.slot i) := fun b l h i hs => by
    rcases ev2.own b (by simp [h]) with h1 | h1
    · exact h1 (hide_slot hs)
    · have := hbs b _ hs; omega
  have hbk : ∀ b l, ω2 b = some l → back ω ω2 dst b = match l with | .res => dst.map .slot | .obj id => some (.obj id) | .cell id j => some (.cell id j) | _ => none := fun b l h => by
    unfold back
    split
    · rename_i i hs; exact absurd hs (hnot b l h i)
    · rw [h]; cases l <;> rfl
  have ev : Ev ω S w (back ω ω2 dst) S2 w' := by
    refine ⟨ev2.os, ev2.tape, ev2.output, ev2.size, fun b hb hn => ev2.keep b hb (hide_none hn), ev2.set, fun b o h => ?_, fun b h => ?_⟩
    · rcases ev2.fresh b o h with h | h | h
      · exact .inl h
      · exact .inr (.inl fun hn => h (hide_none hn))
      · exact .inr (.inr h)
    · unfold back at h
      split at h
      · rename_i hs; exact .inl (by simp [hs])
      · rcases ev2.own b (fun hn => by simp [hn] at h) with h1 | h1
        · exact .inl fun hn => h1 (hide_none hn)
        · exact .inr h1
  refine ⟨ev, ⟨?_, ⟨hH2.klen, fun id o ho => ?_, hH2.swf, fun b l hb => ?_, hH2.bsz⟩, ?_⟩⟩
  · have old : ∀ (i : Nat) (u : AV) (x : Value), dst ≠ some i → T[i]? = some u → a.tmps.toList[i]? = some x → Rel κ2 S2 w' u x ∧ OwnAt (back ω ω2 dst) κ2 S2 w' (.slot i) u x := fun i u x hd hu hx => by
      refine ⟨(hA.T.rel i u x hu hx).mono hκ ev2.set, (hA.T.own i u x hu hx).mono hκ ev2.set fun b hb => ⟨back_slot hb hd, ev2.keep b (hbs b _ hb) (hide_slot hb), fun o h => ?_⟩⟩
      rcases ev2.fresh b o h with h | h | h
      · exact h
      · exact absurd (hide_slot hb) h
      · have := hbs b _ hb; omega
    cases dst with
    | none => exact ⟨hA.T.len, fun i u x hu hx => (old i u x (by simp) hu hx).1, fun i u x hu hx => (old i u x (by simp) hu hx).2⟩
    | some d =>
      have hlen := hA.T.len
      have both : ∀ (i : Nat) (u : AV) (x : Value), (T.set d r)[i]? = some u → (a.tmps.toList.set d v)[i]? = some x → Rel κ2 S2 w' u x ∧ OwnAt (back ω ω2 (some d)) κ2 S2 w' (.slot i) u x := fun i u x hu hx => by
        by_cases hid : d = i
        · subst hid
          have hlt : d < T.length := by have := (List.getElem?_eq_some_iff.1 hu).1; simpa using this
          have hlt2 : d < a.tmps.toList.length := by have := (List.getElem?_eq_some_iff.1 hx).1; simpa using this
          rw [List.getElem?_set_self hlt] at hu
          rw [List.getElem?_set_self hlt2] at hx
          cases hu; cases hx
          exact ⟨hr, ho.mono (Ext.refl _) (fun _ _ h => ⟨h, rfl⟩) fun b hb => ⟨by rw [hbk b _ hb]; rfl, rfl, fun _ h => h⟩⟩
        · rw [List.getElem?_set_ne hid] at hu hx
          exact old i u x (by simpa using hid) hu hx
      refine ⟨by simp [put, setT_eq, Act.put, hlen], ?_, ?_⟩
      · intro i u x hu hx
        simp only [put, setT_eq] at hu
        rw [put_tmps] at hx
        exact (both i u x hu hx).1
      · intro i u x hu hx
        simp only [put, setT_eq] at hu
        rw [put_tmps] at hx
        exact (both i u x hu hx).2
  · refine (hH2.obj id o ho).frame (Ext.refl κ2) (fun _ _ h => ⟨h, rfl⟩) fun b l hb hl => ⟨?_, rfl, fun _ h => h⟩
    rw [hbk b l hb]
    rcases hl with rfl | ⟨j, rfl⟩ <;> rfl
  · unfold back at hb
    split at hb
    · rename_i i hs
      have := hA.H.base b _ hs
      exact ⟨this.1, Nat.lt_of_lt_of_le this.2 ev2.size⟩
    · cases h2 : ω2 b with
      | none => simp [h2] at hb
      | some l' => exact hH2.base b l' h2
  · rw [put_defers]; exact hA.M.ev ev
theorem op_done {T : List AV} {a : Act} {H' : List AObj} {r : AV} {v : Value} {w' : World} (dst : Option Tmp) (hA : ARel B N ω κ S w ⟨T, H⟩ a) (hp : Post B (hide ω) κ S w H' r v w')
    (u : AV) (hu : ∀ ω2 κ2 S2, Rel κ2 S2 w' r v → OwnAt ω2 κ2 S2 w' .res r v → Rel κ2 S2 w' u v) :
    ∃ ω' κ' S', Ext κ κ' ∧ Ev ω S w ω' S' w' ∧ ARel B N ω' κ' S' w' ⟨put T dst r, H'⟩ (a.put dst v) ∧ Rel κ' S' w' u v := by
  obtain ⟨ω2, κ2, S2, hκ, ev2, hH2, hr, ho⟩ := hp
  obtain ⟨h1, h2⟩ := op_done_at dst hA hκ ev2 hH2 hr ho
  exact ⟨_, κ2, S2, hκ, h1, h2, hu ω2 κ2 S2 hr ho⟩
theorem Step.trans {ω1 : Nat → Option Lab} {κ1 : List Nat} {S1 : Nat → Nat → Prop} {w1 : World} (hκ : Ext κ κ1) (ev : Ev ω S w ω1 S1 w1) {s' : St} {a' : Act} {w' : World} (h : Step B N ω1 κ1 S1 w1 s' a' w') :
    Step B N ω κ S w s' a' w' :=
  let ⟨ω', κ', S', k1, k2, k3⟩ := h
  ⟨ω', κ', S', hκ.trans k1, ev.trans k2, k3⟩
/-- A slot may be read as less. -/
theorem VRel.swap {lab : Nat → Lab} {T : List AV} {tm : List Value} (h : VRel lab ω κ S w T tm) (t : Nat) {u : AV} (hu : u.plain = true) (hr : ∀ v, tm[t]? = some v → Rel κ S w u v) : VRel lab ω κ S w (T.set t u) tm := by
  refine ⟨by simpa using h.len, fun i x v hx hv => ?_, fun i x v hx hv => ?_⟩
  · by_cases hi : t = i
    · subst hi
      have hlt : t < T.length := by have := (List.getElem?_eq_some_iff.1 hx).1; simpa using this
      rw [List.getElem?_set_self hlt] at hx; cases hx
      exact hr v hv
    · rw [List.getElem?_set_ne hi] at hx; exact h.rel i x v hx hv
  · by_cases hi : t = i
    · subst hi
      have hlt : t < T.length := by have := (List.getElem?_eq_some_iff.1 hx).1; simpa using this
      rw [List.getElem?_set_self hlt] at hx; cases hx
      exact OwnAt.of_plain hu
    · rw [List.getElem?_set_ne hi] at hx; exact h.own i x v hx hv
end
end Go.Proofs.YtbnbjjgagikobaaGreat.Ab

/-
  Freezing what a call has made.
-/
namespace Go.Proofs.YtbnbjjgagikobaaGreat.Ab
open Go
section
variable {P : Program} {B N : Nat} {κ : List Nat} {w : World} {H : List AObj} {ω : Nat → Option Lab} {S : Nat → Nat → Prop}
/-- A value that was known over fewer objects says no more than that. -/
theorem Rel.narrow {κ2 : List Nat} {S2 : Nat → Nat → Prop} {w2 : World} (hκ : Ext κ κ2) {u : AV} {v v2 : Value} (h : Rel κ S w u v) (h2 : Rel κ2 S2 w2 u v2) : Rel κ S2 w2 u v2 := by
  induction h generalizing v2 with
  | junk v => exact .junk v2
  | bool b => cases h2; exact .bool b
  | int k n => cases h2; exact .int k n
  | str s => cases h2; exact .str s
  | nilp => cases h2; exact .nilp
  | ptr id off b h =>
    cases h2 with
    | ptr _ _ b2 k => rw [hκ _ _ h] at k; cases k; exact .ptr id off b h
  | gref id gid len z b cap h hg hle =>
    cases h2 with
    | gref _ _ _ _ b2 cap2 k kg _ =>
      rw [hκ _ _ h] at k; cases k
      rw [hκ _ _ hg] at kg; cases kg
      exact .gref id gid len z b cap h hg hle
  | lptr cells b o f h hr ih =>
    cases h2 with
    | lptr _ b o f k kr => exact .lptr cells b o f k fun j u hj => ih j u hj (kr j u hj)
  | lnil c a =>
    cases h2 with
    | lnil c a => exact .lnil c a
    | lst _ _ _ b o cap f hc hle hu k kr => exact .lst [] 0 c b o cap f hc hle hu k fun j u hj => by simp at hj
    | luniq _ _ z b o cap => exact .luniq _ _ z b o cap
  | lst cells len c b o cap f hc hle hu h hr ih =>
    cases h2 with
    | lnil c a => exact .lnil c a
    | lst _ _ _ b o cap f hc hle hu k kr => exact .lst cells len c b o cap f hc hle hu k fun j u hj => ih j u hj (kr j u hj)
    | luniq _ _ z b o cap => exact .luniq _ _ z b o cap
  | raw cells len z b o cap =>
    cases h2 with
    | raw _ _ _ b o cap => exact .raw _ _ z b o cap
  | luniq cells len z b o cap =>
    cases h2 with
    | lnil c a => exact .lnil _ _
    | lst _ _ _ b o cap f hc hle hu k kr => exact absurd rfl (hu z)
    | luniq _ _ z b o cap => exact .luniq _ _ z b o cap
  | ref id off len c sz b cap h hc hle =>
    cases h2 with
    | ref _ _ _ _ _ b2 cap2 k kc kle => rw [hκ _ _ h] at k; cases k; exact .ref id off len c sz b cap2 h kc kle
  | func f as bs vs ws h1 h2' p1 p2 r1 r2 i1 i2 =>
    cases h2 with
    | func _ _ _ vs2 ws2 k1 k2 _ _ q1 q2 =>
      refine .func f as bs vs2 ws2 k1 k2 p1 p2 (fun j u v hu hv => ?_) (fun j u v hu hv => ?_)
      · have hj : j < vs.size := by have := (List.getElem?_eq_some_iff.1 hu).1; omega
        exact i1 j u vs[j] hu (Array.getElem?_eq_getElem hj) (q1 j u v hu hv)
      · have hj : j < ws.size := by have := (List.getElem?_eq_some_iff.1 hu).1; omega
        exact i2 j u ws[j] hu (Array.getElem?_eq_getElem hj) (q2 j u v hu hv)
  | yield id b h =>
    cases h2 with
    | yield _ b2 k => rw [hκ _ _ h] at k; cases k; exact .yield id b h
  | map id b h =>
    cases h2 with
    | map _ b2 k => rw [hκ _ _ h] at k; cases k; exact .map id b h
  | agg as vs h p one r ih =>
    cases h2 with
    | agg _ vs2 k _ one2 q =>
      refine .agg as vs2 k p one2 fun j u v hu hv => ?_
      have hj : j < vs.size := by have := (List.getElem?_eq_some_iff.1 hu).1; omega
      exact ih j u vs[j] hu (Array.getElem?_eq_getElem hj) (q j u v hu hv)
  | tuple as vs h p r ih =>
    cases h2 with
    | tuple _ vs2 k _ q =>
      refine .tuple as vs2 k p fun j u v hu hv => ?_
      have hj : j < vs.size := by have := (List.getElem?_eq_some_iff.1 hu).1; omega
      exact ih j u vs[j] hu (Array.getElem?_eq_getElem hj) (q j u v hu hv)
theorem mapO_some {f : AV → Option AV} : ∀ {xs ys : List AV}, mapO f xs = some ys → ys.length = xs.length ∧ ∀ (j : Nat) (y : AV), ys[j]? = some y → ∃ x, xs[j]? = some x ∧ f x = some y
  | [], ys, h => by simp [mapO] at h; subst h; simp
  | x :: xs, ys, h => by
    simp only [mapO] at h
    split at h
    · rename_i y hy
      simp only [Option.map_eq_some_iff] at h
      obtain ⟨ys, h, rfl⟩ := h
      obtain ⟨h1, h2⟩ := mapO_some h
      refine ⟨by simp [h1], fun j z hz => ?_⟩
      cases j with
      | zero => simp at hz; subst hz; exact ⟨x, rfl, hy⟩
      | succ j => simpa using h2 j z (by simpa using hz)
    · simp at h
theorem frz_plain {lo id0 n d : Nat} {u r : AV} (h : frz H lo id0 n d u = some r) : (u.plain = true → r.plain = true) ∧ (u.noUniq = true → r.noUniq = true) := by
  cases d with
  | zero => simp [frz] at h
  | succ d =>
    unfold frz at h
    split at h
    · simp only [Option.map_eq_some_iff] at h
      rename_i c
      obtain ⟨cs, _, rfl⟩ := h
      cases c <;> exact ⟨fun h => h, fun h => h⟩
    · simp only [Option.map_eq_some_iff] at h; obtain ⟨cs, _, rfl⟩ := h; exact ⟨fun h => rfl, fun h => rfl⟩
    · simp only [Option.map_eq_some_iff] at h; obtain ⟨cs, _, rfl⟩ := h; exact ⟨fun h => rfl, fun h => rfl⟩
    · simp only [Option.map_eq_some_iff] at h; obtain ⟨cs, _, rfl⟩ := h; exact ⟨fun h => rfl, fun h => rfl⟩
    · split at h <;> simp at h; subst h; exact ⟨fun h => rfl, fun h => rfl⟩
    · split at h
      · simp at h; subst h; exact ⟨fun h => rfl, fun h => rfl⟩
      · split at h
        · simp at h; subst h; exact ⟨fun h => rfl, fun h => rfl⟩
        · split at h
          · simp only [Option.map_eq_some_iff] at h; obtain ⟨cs, _, rfl⟩ := h; exact ⟨fun h => rfl, fun h => rfl⟩
          · simp at h
    · split at h
      · simp at h; subst h; exact ⟨fun h => rfl, fun h => rfl⟩
      · split at h
        · simp at h; subst h; exact ⟨fun h => rfl, fun h => rfl⟩
        · split at h
          · simp only [Option.map_eq_some_iff] at h; obtain ⟨cs, _, rfl⟩ := h
            rename_i cap _ _ _ _ _ _
            constructor <;> intro _ <;> (unfold frzCap; split <;> (try split) <;> rfl)
          · simp at h
    · split at h <;> simp at h; subst h; exact ⟨fun h => rfl, fun h => rfl⟩
    · split at h
      · simp at h; subst h; exact ⟨fun h => rfl, fun h => rfl⟩
      · split at h <;> simp at h; subst h; exact ⟨fun h => rfl, fun h => rfl⟩
    · simp at h
    · simp at h
    · simp at h; subst h; exact ⟨fun h => h, fun h => h⟩
theorem frzCap_full {cap : Option Nat} {n m : Nat} (hc : ∀ k, cap = some k → m = k) (h : frzCap cap n = .full) : m = n := by
  unfold frzCap at h
  cases cap with
  | none => simp at h
  | some c =>
    simp only at h
    split at h
    · rename_i hcn; rw [hc c rfl, hcn]
    · cases h
theorem frzCap_uniq {cap : Option Nat} {n : Nat} (z : Nat) : frzCap cap n ≠ .uniq z := by
  unfold frzCap
  cases cap with
  | none => simp
  | some c => simp only; split <;> simp
/-- What is frozen: the cells of the objects from lo on, but for object id0. -/
def Fz (ω : Nat → Option Lab) (S : Nat → Nat → Prop) (w : World) (lo id0 : Nat) (b o : Nat) : Prop :=
  S b o ∨ ((∃ id, lo ≤ id ∧ id ≠ id0 ∧ ω b = some (.obj id)) ∧ ∃ v, w.cell? ⟨b, o, none⟩ = some v)
theorem frz_rel (hH : HRel B ω κ S w H) {lo id0 n : Nat} {κ3 : List Nat} (hlo : ∀ (id b : Nat), id < lo → κ[id]? = some b → κ3[id]? = some b) (hn : ∀ b, κ[id0]? = some b → κ3[n]? = some b) :
    ∀ (d : Nat) (u r : AV) (v : Value), frz H lo id0 n d u = some r → Rel κ S w u v → Rel κ3 (Fz ω S w lo id0) w r v := by
  intro d
  induction d with
  | zero => intro u r v h; simp [frz] at h
  | succ d ih =>
    intro u r v h hr
    have list : ∀ {cells cs : List AV} {b o : Nat} {f : Nat → Value}, mapO (frz H lo id0 n d) cells = some cs →
        (∀ (j : Nat) (u : AV), cells[j]? = some u → S b (o + j) ∧ w.cell? ⟨b, o + j, none⟩ = some (f j) ∧ u.plain = true ∧ (f j).oneCell' = true) →
        (∀ (j : Nat) (u : AV), cells[j]? = some u → Rel κ S w u (f j)) →
        (∀ (j : Nat) (u : AV), cs[j]? = some u → Fz ω S w lo id0 b (o + j) ∧ w.cell? ⟨b, o + j, none⟩ = some (f j) ∧ u.plain = true ∧ (f j).oneCell' = true) ∧
        (∀ (j : Nat) (u : AV), cs[j]? = some u → Rel κ3 (Fz ω S w lo id0) w u (f j)) := fun hm hc hrr => by
      obtain ⟨h1, h2⟩ := mapO_some hm
      refine ⟨fun j y hy => ?_, fun j y hy => ?_⟩
      · obtain ⟨x, hx, hf⟩ := h2 j y hy
        obtain ⟨c1, c2, c3, c4⟩ := hc j x hx
        exact ⟨.inl c1, c2, (frz_plain hf).1 c3, c4⟩
      · obtain ⟨x, hx, hf⟩ := h2 j y hy
        exact ih x y _ hf (hrr j x hx)
    have arr : ∀ {as bs : List AV} {vs : Array Value}, mapO (frz H lo id0 n d) as = some bs → vs.size = as.length → (∀ u ∈ as, u.plain = true) →
        (∀ (j : Nat) (u : AV) (v : Value), as[j]? = some u → vs[j]? = some v → Rel κ S w u v) →
        vs.size = bs.length ∧ (∀ u ∈ bs, u.plain = true) ∧ ∀ (j : Nat) (u : AV) (v : Value), bs[j]? = some u → vs[j]? = some v → Rel κ3 (Fz ω S w lo id0) w u v := fun hm hl hp hrr => by
      obtain ⟨h1, h2⟩ := mapO_some hm
      refine ⟨by omega, fun y hy => ?_, fun j y v hy hv => ?_⟩
      · obtain ⟨j, hj⟩ := List.mem_iff_getElem?.1 hy
        obtain ⟨x, hx, hf⟩ := h2 j y hj
        exact (frz_plain hf).1 (hp x (List.mem_of_getElem? hx))
      · obtain ⟨x, hx, hf⟩ := h2 j y hy
        exact ih x y v hf (hrr j x v hx hv)
    cases hr with
    | junk v => simp only [frz, Option.some.injEq] at h; subst h; exact .junk v
    | bool b => simp only [frz, Option.some.injEq] at h; subst h; exact .bool b
    | int k n => simp only [frz, Option.some.injEq] at h; subst h; exact .int k n
    | str s => simp only [frz, Option.some.injEq] at h; subst h; exact .str s
    | nilp => simp only [frz, Option.some.injEq] at h; subst h; exact .nilp
    | raw => simp [frz] at h
    | gref => simp [frz] at h
    | map id b k =>
      simp only [frz] at h
      split at h
      · rename_i hlt
        simp only [Option.some.injEq] at h; subst h; exact .map _ b (hlo id b hlt k)
      · split at h
        · rename_i heq
          subst heq; simp only [Option.some.injEq] at h; subst h; exact .map _ b (hn b k)
        · simp at h
    | yield id b k =>
      simp only [frz] at h
      split at h
      · rename_i hlt
        simp only [Option.some.injEq] at h; subst h; exact .yield _ b (hlo id b hlt k)
      · simp at h
    | lnil c a =>
      simp only [frz, Option.map_eq_some_iff] at h
      obtain ⟨cs, hm, rfl⟩ := h
      simp [mapO] at hm; subst hm; exact .lnil _ _
    | lst cells len c b o cap f hc hle hu k kr =>
      simp only [frz, Option.map_eq_some_iff] at h
      obtain ⟨cs, hm, rfl⟩ := h
      obtain ⟨l1, l2⟩ := list hm k kr
      exact .lst _ _ _ b o cap f hc hle hu l1 l2
    | luniq cells len z b o cap =>
      simp only [frz, Option.map_eq_some_iff] at h
      obtain ⟨cs, hm, rfl⟩ := h
      exact .luniq _ _ z b o cap
    | lptr cells b o f k kr =>
      simp only [frz, Option.map_eq_some_iff] at h
      obtain ⟨cs, hm, rfl⟩ := h
      obtain ⟨l1, l2⟩ := list hm k kr
      exact .lptr _ b o f l1 l2
    | agg as vs k p one q =>
      simp only [frz, Option.map_eq_some_iff] at h
      obtain ⟨cs, hm, rfl⟩ := h
      obtain ⟨a1, a2, a3⟩ := arr hm k p q
      exact .agg _ vs a1 a2 one a3
    | tuple as vs k p q =>
      simp only [frz, Option.map_eq_some_iff] at h
      obtain ⟨cs, hm, rfl⟩ := h
      obtain ⟨a1, a2, a3⟩ := arr hm k p q
      exact .tuple _ vs a1 a2 a3
    | func f as bs vs ws k1 k2 p1 p2 q1 q2 =>
      simp only [frz] at h
      split at h
      · rename_i ha hb
        simp only [Option.some.injEq] at h; subst h
        obtain ⟨a1, a2, a3⟩ := arr ha k1 p1 q1
        obtain ⟨b1, b2, b3⟩ := arr hb k2 p2 q2
        exact .func f _ _ vs ws a1 b1 a2 b2 a3 b3
      · simp at h
    | ptr id off b k =>
      simp only [frz] at h
      split at h
      · rename_i hlt
        simp only [Option.some.injEq] at h; subst h; exact .ptr _ _ b (hlo id b hlt k)
      · rename_i hge
        split at h
        · rename_i heq
          subst heq; simp only [Option.some.injEq] at h; subst h; exact .ptr _ _ b (hn b k)
        · rename_i hne
          split at h
          · rename_i l hid
            simp only [Option.map_eq_some_iff] at h
            obtain ⟨cs, hm, rfl⟩ := h
            obtain ⟨b', cur, e, a1, a2, a3, a4, a5, a6⟩ := hH.obj id _ hid
            rw [k] at a1; cases a1
            obtain ⟨m1, m2⟩ := mapO_some hm
            have hcell : ∀ o, o < cur.size → w.cell? ⟨b, o, none⟩ = cur[o]? := fun o ho => by simp [World.cell?, a3, ho]
            have facts : ∀ (j : Nat) (y : AV), cs[j]? = some y → ∃ x c, off + j < cur.size ∧ cur[off + j]? = some c ∧ c.oneCell' = true ∧ x.plain = true ∧ frz H lo id0 n d x = some y ∧ Rel κ S w x c := fun j y hy => by
              obtain ⟨x, hx, hf⟩ := m2 j y hy
              have hj1 := (List.getElem?_eq_some_iff.1 hx).1
              simp at hj1
              have hj2 : off + j < l.length := by omega
              have hj3 : off + j < cur.size := by omega
              have hl : l[off + j]? = some l[off + j] := List.getElem?_eq_getElem hj2
              have hv : cur[off + j]? = some cur[off + j] := Array.getElem?_eq_getElem hj3
              obtain ⟨c1, c2, c3, c4⟩ := a6 (off + j) _ _ hl hv
              rw [List.getElem?_map, List.getElem?_drop, hl] at hx
              simp at hx; subst hx
              exact ⟨_, _, hj3, hv, c2, AV.view_plain _, hf, c3.view c1⟩
            refine .lptr cs b off (fun j => cur.getD (off + j) undef) (fun j y hy => ?_) (fun j y hy => ?_)
            · obtain ⟨x, c, hj, hcj, h1, hp, hf, hrx⟩ := facts j y hy
              have hg : cur.getD (off + j) undef = c := by rw [Array.getD_eq_getD_getElem?, hcj]; rfl
              rw [hg]
              exact ⟨.inr ⟨⟨id, by omega, hne, a2⟩, c, by rw [hcell _ hj, hcj]⟩, by rw [hcell _ hj, hcj], (frz_plain hf).1 hp, h1⟩
            · obtain ⟨x, c, hj, hcj, h1, hp, hf, hrx⟩ := facts j y hy
              have hg : cur.getD (off + j) undef = c := by rw [Array.getD_eq_getD_getElem?, hcj]; rfl
              simp only [hg]
              exact ih x y c hf hrx
          · simp at h
    | ref id off len cap sz b cp k hc hle =>
      simp only [frz] at h
      split at h
      · rename_i hlt
        simp only [Option.some.injEq] at h; subst h; exact .ref _ _ _ _ _ b cp (hlo id b hlt k) hc hle
      · rename_i hge
        split at h
        · rename_i heq
          subst heq; simp only [Option.some.injEq] at h; subst h; exact .ref _ _ _ _ _ b cp (hn b k) hc hle
        · rename_i hne
          split at h
          · rename_i row hrow
            simp only [Option.map_eq_some_iff] at h
            obtain ⟨cs, hm, rfl⟩ := h
            unfold rowOf at hrow
            simp only at hrow
            split at hrow
            · rename_i l hid
              split at hrow
              · rename_i hfit
                simp only [Option.some.injEq] at hrow
                obtain ⟨b', cur, e, a1, a2, a3, a4, a5, a6⟩ := hH.obj id _ hid
                rw [k] at a1; cases a1
                obtain ⟨m1, m2⟩ := mapO_some hm
                have hcell : ∀ o, o < cur.size → w.cell? ⟨b, o, none⟩ = cur[o]? := fun o ho => by simp [World.cell?, a3, ho]
                have facts : ∀ (j : Nat) (y : AV), cs[j]? = some y → ∃ x c, off + j < cur.size ∧ cur[off + j]? = some c ∧ c.oneCell' = true ∧ x.plain = true ∧ frz H lo id0 n d x = some y ∧ Rel κ S w x c := fun j y hy => by
                  obtain ⟨x, hx, hf⟩ := m2 j y hy
                  subst hrow
                  have hj1 := (List.getElem?_eq_some_iff.1 hx).1
                  simp at hj1
                  have hj2 : off + j < l.length := by omega
                  have hj3 : off + j < cur.size := by omega
                  have hl : l[off + j]? = some l[off + j] := List.getElem?_eq_getElem hj2
                  have hv : cur[off + j]? = some cur[off + j] := Array.getElem?_eq_getElem hj3
                  obtain ⟨c1, c2, c3, c4⟩ := a6 (off + j) _ _ hl hv
                  rw [List.getElem?_map, List.getElem?_take, if_pos (by omega), List.getElem?_drop, hl] at hx
                  simp at hx; subst hx
                  exact ⟨_, _, hj3, hv, c2, AV.view_plain _, hf, c3.view c1⟩
                refine .lst cs len _ b off cp (fun j => cur.getD (off + j) undef) (fun hfull => frzCap_full hc hfull) hle (fun z => frzCap_uniq z) (fun j y hy => ?_) (fun j y hy => ?_)
                · obtain ⟨x, c, hj, hcj, h1, hp, hf, hrx⟩ := facts j y hy
                  have hg : cur.getD (off + j) undef = c := by rw [Array.getD_eq_getD_getElem?, hcj]; rfl
                  rw [hg]
                  exact ⟨.inr ⟨⟨id, by omega, hne, a2⟩, c, by rw [hcell _ hj, hcj]⟩, by rw [hcell _ hj, hcj], (frz_plain hf).1 hp, h1⟩
                · obtain ⟨x, c, hj, hcj, h1, hp, hf, hrx⟩ := facts j y hy
                  have hg : cur.getD (off + j) undef = c := by rw [Array.getD_eq_getD_getElem?, hcj]; rfl
                  simp only [hg]
                  exact ih x y c hf hrx
              · simp at hrow
            · simp at hrow
          · simp at h
end
end Go.Proofs.YtbnbjjgagikobaaGreat.Ab

/-
  A call's result, frozen; or its one new object, moved.
-/
namespace Go.Proofs.YtbnbjjgagikobaaGreat.Ab
open Go
/-- The labels behind a freeze. -/
def lz (ω : Nat → Option Lab) (lo id0 n : Nat) : Nat → Option Lab := fun b => match ω b with
  | some (.obj id) => if id < lo then some (.obj id) else if id = id0 then some (.obj n) else none
  | some (.cell id j) => if id < lo then some (.cell id j) else if id = id0 then some (.cell n j) else none
  | x => x
section
variable {P : Program} {B N : Nat} {κ : List Nat} {w : World} {H : List AObj} {ω : Nat → Option Lab} {S : Nat → Nat → Prop}
theorem ObjRel.narrow {ω2 ω3 : Nat → Option Lab} {κ2 : List Nat} {S2 S3 : Nat → Nat → Prop} {w2 : World} (hκ : Ext κ κ2) {id : Nat} {o : AObj} (h : ObjRel ω κ S w id o) (h2 : ObjRel ω2 κ2 S2 w2 id o)
    (hS : ∀ b o, S2 b o → S3 b o) (hk : ∀ b l, ω2 b = some l → (l = .obj id ∨ ∃ j, l = .cell id j) → ω3 b = some l ∧ ∀ o, S3 b o → S2 b o) : ObjRel ω3 κ S3 w2 id o := by
  cases o with
  | dead => trivial
  | map es clock =>
    obtain ⟨b, ents, a1, a2, a3, a4, a5, a6⟩ := h
    obtain ⟨b2, ents2, c1, c2, c3, c4, c5, c6⟩ := h2
    rw [hκ _ _ a1] at c1; cases c1
    obtain ⟨k1, k2⟩ := hk b _ c2 (.inl rfl)
    refine ⟨b, ents2, a1, k1, c3, c4, fun o ho => c5 o (k2 o ho), fun j i k v x hu hv => ?_⟩
    have hj : j < ents.size := by have := (List.getElem?_eq_some_iff.1 hu).1; omega
    obtain ⟨p1, p2, p3, p4, p5⟩ := a6 j i k v ents[j] hu (Array.getElem?_eq_getElem hj)
    obtain ⟨q1, q2, q3, q4, q5⟩ := c6 j i k v x hu hv
    exact ⟨q1, q2, (p3.narrow hκ q3).mono (Ext.refl κ) (fun b o h => ⟨hS b o h, rfl⟩), q4, (p5.narrow hκ q5).mono (Ext.refl κ) (fun b o h => ⟨hS b o h, rfl⟩)⟩
  | iter m s e t =>
    obtain ⟨b, bm, a1, a2, a3, a4, a5⟩ := h
    obtain ⟨b2, bm2, c1, c2, c3, c4, c5⟩ := h2
    rw [hκ _ _ a1] at c1; cases c1
    rw [hκ _ _ a3] at c3; cases c3
    obtain ⟨k1, k2⟩ := hk b _ c2 (.inl rfl)
    exact ⟨b, bm, a1, k1, a3, c4, fun o ho => c5 o (k2 o ho)⟩
  | cells l =>
    obtain ⟨b, cur, e, a1, a2, a3, a4, a5, a6⟩ := h
    obtain ⟨b2, cur2, e2, c1, c2, c3, c4, c5, c6⟩ := h2
    rw [hκ _ _ a1] at c1; cases c1
    obtain ⟨k1, k2⟩ := hk b _ c2 (.inl rfl)
    refine ⟨b, cur2, e2, a1, k1, c3, c4, fun o ho => c5 o (k2 o ho), fun j u v hu hv => ?_⟩
    have hj : j < cur.size := by have := (List.getElem?_eq_some_iff.1 hu).1; omega
    obtain ⟨p1, p2, p3, p4⟩ := a6 j u cur[j] hu (Array.getElem?_eq_getElem hj)
    obtain ⟨q1, q2, q3, q4⟩ := c6 j u v hu hv
    refine ⟨q1, q2, (p3.narrow hκ q3).mono (Ext.refl κ) (fun b o h => ⟨hS b o h, rfl⟩), ?_⟩
    have hm := fun b hb => hk b (.cell id j) hb (.inr ⟨j, rfl⟩)
    unfold OwnAt at q4 ⊢
    split at q4
    · rcases q4 with q4 | ⟨h1, h2, h3, h4, h5, h6, h7, h8, h9⟩
      · exact .inl q4
      · exact .inr ⟨(hm _ h1).1, h2, h3, h4, h5, h6, h7, h8, fun o ho hs => h9 o ho ((hm _ h1).2 o hs)⟩
    · simp [AV.noUniq] at q1
    · obtain ⟨h1, h0, h4, h5, h6, h7, hs, ⟨cur, e, h8, h9, h10⟩, h11⟩ := q4
      have hs' := hs
      rw [List.all_eq_true] at hs'
      exact ⟨(hm _ h1).1, h0, h4, h5, h6, h7, hs, ⟨cur, e, h8, h9, fun j u v hu hv => ⟨(h10 j u v hu hv).1, scal0_any (hs' u (List.mem_of_getElem? hu)) (h10 j u v hu hv).2⟩⟩, fun o hs => h11 o ((hm _ h1).2 o hs)⟩
    · trivial
  | grow l gid z =>
    obtain ⟨b, cur, e, a1, a2, a3, a4, a5, a6, cap, a7, a8⟩ := h
    obtain ⟨b2, cur2, e2, c1, c2, c3, c4, c5, c6, cap2, c7, c8⟩ := h2
    rw [hκ _ _ a1] at c1; cases c1
    rw [hκ _ _ a7] at c7; cases c7
    obtain ⟨k1, k2⟩ := hk b _ c2 (.inl rfl)
    refine ⟨b, cur2, e2, a1, k1, c3, c4, fun o ho => c5 o (k2 o ho), fun j u v hu hv => ?_, cap, a7, c8⟩
    have hj : j < cur.size := by have := (List.getElem?_eq_some_iff.1 hu).1; omega
    obtain ⟨p1, p2, p3, p4⟩ := a6 j u cur[j] hu (Array.getElem?_eq_getElem hj)
    obtain ⟨q1, q2, q3, q4⟩ := c6 j u v hu hv
    refine ⟨q1, q2, (p3.narrow hκ q3).mono (Ext.refl κ) (fun b o h => ⟨hS b o h, rfl⟩), ?_⟩
    have hm := fun b hb => hk b (.cell id j) hb (.inr ⟨j, rfl⟩)
    unfold OwnAt at q4 ⊢
    split at q4
    · rcases q4 with q4 | ⟨h1, h2, h3, h4, h5, h6, h7, h8, h9⟩
      · exact .inl q4
      · exact .inr ⟨(hm _ h1).1, h2, h3, h4, h5, h6, h7, h8, fun o ho hs => h9 o ho ((hm _ h1).2 o hs)⟩
    · simp [AV.noUniq] at q1
    · obtain ⟨h1, h0, h4, h5, h6, h7, hs, ⟨cur, e, h8, h9, h10⟩, h11⟩ := q4
      have hs' := hs
      rw [List.all_eq_true] at hs'
      exact ⟨(hm _ h1).1, h0, h4, h5, h6, h7, hs, ⟨cur, e, h8, h9, fun j u v hu hv => ⟨(h10 j u v hu hv).1, scal0_any (hs' u (List.mem_of_getElem? hu)) (h10 j u v hu hv).2⟩⟩, fun o hs => h11 o ((hm _ h1).2 o hs)⟩
    · trivial
  | loop st pend fn T params assign body ann =>
    obtain ⟨hx, hy, b, L, a1, a2, a3, a4, a5, a6, a7, a8, a9⟩ := h
    obtain ⟨_, _, b2, L2, c1, c2, c3, c4, c5, c6, c7, c8, c9⟩ := h2
    rw [hκ _ _ a1] at c1; cases c1
    refine ⟨hx, hy, b, L2, a1, (hk b _ c2 (.inl rfl)).1, c3, c4, c5, c6, c7, fun i u v hu hv => ?_, c9⟩
    have hj : i < L.tmps.size := by have := (List.getElem?_eq_some_iff.1 hu).1; omega
    exact ⟨(c8 i u v hu hv).1, (((a8 i u L.tmps[i] hu (Array.getElem?_eq_getElem hj)).2).narrow hκ (c8 i u v hu hv).2).mono (Ext.refl κ) (fun b o h => ⟨hS b o h, rfl⟩)⟩
theorem lz_keep {lo id0 n b : Nat} {l : Lab} (h : ω b = some l) (hl : ∀ id, (l = .obj id ∨ ∃ j, l = .cell id j) → id < lo) : lz ω lo id0 n b = some l := by
  unfold lz
  rw [h]
  cases l with
  | obj id => simp [hl id (.inl rfl)]
  | cell id j => simp [hl id (.inr ⟨j, rfl⟩)]
  | _ => rfl
theorem lz_none {lo id0 n b : Nat} (h : ω b = none) : lz ω lo id0 n b = none := by simp [lz, h]
theorem frz_base {ω2 : Nat → Option Lab} {κ2 : List Nat} {S2 : Nat → Nat → Prop} {w2 : World} {H2 : List AObj} (hH : HRel B ω κ S w H) (hκ : Ext κ κ2) (ev : Ev ω S w ω2 S2 w2) (hH2 : HRel B ω2 κ2 S2 w2 H2)
    (hpre : ∀ id, id < H.length → H2[id]? = H[id]?) (id0 n : Nat) :
    Ev ω S w (lz ω2 H.length id0 n) (Fz ω2 S2 w2 H.length id0) w2 ∧ HRel B (lz ω2 H.length id0 n) κ (Fz ω2 S2 w2 H.length id0) w2 H := by
  have hn : ∀ b, lz ω2 H.length id0 n b ≠ none → ω2 b ≠ none := fun b h h0 => h (lz_none h0)
  refine ⟨⟨ev.os, ev.tape, ev.output, ev.size, ev.keep, fun b o h => ⟨.inl (ev.set b o h).1, (ev.set b o h).2⟩, fun b o h => ?_, fun b h => ev.own b (hn b h)⟩, ⟨hH.klen, fun id o ho => ?_, fun b o h => ?_, fun b l hb => ?_, hH2.bsz⟩⟩
  · rcases h with h | ⟨⟨id, _, _, h⟩, _⟩
    · exact ev.fresh b o h
    · rcases ev.own b (by simp [h]) with h1 | h1
      · exact .inr (.inl h1)
      · exact .inr (.inr h1)
  · have hlt := (List.getElem?_eq_some_iff.1 ho).1
    have ho2 : H2[id]? = some o := by rw [hpre id hlt]; exact ho
    refine (hH.obj id o ho).narrow hκ (hH2.obj id o ho2) (fun b o h => .inl h) fun b l hb hl => ⟨lz_keep hb fun id' hl' => ?_, fun o h => ?_⟩
    · have : id' = id := by
        rcases hl with rfl | ⟨j, rfl⟩ <;> rcases hl' with h | ⟨j', h⟩ <;> cases h <;> rfl
      omega
    · rcases h with h | ⟨⟨id', h1, _, h⟩, _⟩
      · exact h
      · rw [hb] at h
        rcases hl with rfl | ⟨j, rfl⟩
        · cases h; omega
        · cases h
  · rcases h with h | ⟨_, h⟩
    · exact hH2.swf b o h
    · exact h
  · cases h : ω2 b with
    | none => simp [lz, h] at hb
    | some l' => exact hH2.base b l' h
theorem frz_own {κ2 κ3 : List Nat} {w2 : World} {ω2 ω3 : Nat → Option Lab} {S2 S3 : Nat → Nat → Prop} {l l' : Lab} (hω : ∀ b, ω2 b = some l → ω3 b = some l' ∧ ∀ o, S3 b o → S2 b o) {H2 : List AObj} {lo id0 n d : Nat} {u r : AV} {v : Value}
    (hrel : ∀ (d : Nat) (u r : AV) (v : Value), frz H2 lo id0 n d u = some r → Rel κ2 S2 w2 u v → Rel κ3 S3 w2 r v)
    (h : frz H2 lo id0 n d u = some r) (ho : OwnAt ω2 κ2 S2 w2 l u v) : OwnAt ω3 κ3 S3 w2 l' r v := by
  by_cases hp : u.plain = true
  · exact OwnAt.of_plain ((frz_plain h).1 hp)
  · cases d with
    | zero => simp [frz] at h
    | succ d =>
      obtain ⟨cells, len, c, rfl⟩ : ∃ cells len c, u = .lst cells len c := by
        cases u <;> first | exact ⟨_, _, _, rfl⟩ | exact absurd rfl hp | simp [frz] at h
      simp only [frz, Option.map_eq_some_iff] at h
      obtain ⟨cs, hm, rfl⟩ := h
      obtain ⟨m1, m2⟩ := mapO_some hm
      cases c with
      | shared => exact absurd rfl hp
      | full => exact absurd rfl hp
      | own z =>
        cases v with
        | slice aa m cp =>
         cases aa with
         | none => trivial
         | some a =>
          simp only [OwnAt] at ho ⊢
          rcases ho with ⟨h1, h2, h3⟩ | ⟨h1, h2, h3, h4, h5, h6, h7, h8, h9⟩
          · subst h3; simp [mapO] at hm; subst hm; exact .inl ⟨h1, h2, rfl⟩
          · exact .inr ⟨(hω _ h1).1, h2, h3, h4, h5, h6, by omega, h8, fun o ho hs => h9 o (by omega) ((hω _ h1).2 o hs)⟩
        | _ => trivial
      | uniq z =>
        cases v with
        | slice aa m cp =>
         cases aa with
         | none => trivial
         | some a =>
          simp only [OwnAt] at ho ⊢
          rcases ho with ⟨h1, h2, h3⟩ | ⟨h1, h2, h4, h5, h6, h7, ⟨cur, e, h8, h9, h10⟩, h11⟩
          · subst h3; simp [mapO] at hm; subst hm; exact .inl ⟨h1, h2, rfl⟩
          · refine .inr ⟨(hω _ h1).1, h2, h4, h5, h6, by omega, ⟨cur, e, h8, h9, fun j y c hy hc => ?_⟩, fun o hs => h11 o ((hω _ h1).2 o hs)⟩
            obtain ⟨x, hx, hf⟩ := m2 j y hy
            obtain ⟨q1, q2, q3⟩ := h10 j x c hx hc
            exact ⟨(frz_plain hf).1 q1, q2, hrel d x y c hf q3⟩
        | _ => trivial
theorem post_frz (hH : HRel B ω κ S w H) {H2 : List AObj} {r v : AV} {x : Value} {w2 : World} (hpre : ∀ id, id < H.length → H2[id]? = H[id]?) {n d : Nat} (hf : frz H2 H.length H2.length n d r = some v)
    (hp : Post B ω κ S w H2 r x w2) : Post B ω κ S w H v x w2 := by
  obtain ⟨ω2, κ2, S2, hκ, ev, hH2, hr, ho⟩ := hp
  obtain ⟨e3, h3⟩ := frz_base hH hκ ev hH2 hpre H2.length n
  have hrel := fun d u r v => frz_rel (κ3 := κ) (id0 := H2.length) (n := n) hH2 (lo := H.length) (fun id b hlt hb => by
      have hlt' : id < κ.length := by rw [hH.klen]; exact hlt
      have hx := List.getElem?_eq_getElem hlt'
      rw [hκ _ _ hx] at hb; cases hb; exact hx) (fun b hb => by
      have := (List.getElem?_eq_some_iff.1 hb).1; rw [hH2.klen] at this; omega) d u r v
  refine ⟨_, κ, _, Ext.refl κ, e3, h3, hrel d r v x hf hr, frz_own (l := .res) (fun b hb => ⟨lz_keep hb (fun id h => by rcases h with h | ⟨j, h⟩ <;> cases h), fun o h => ?_⟩) hrel hf ho⟩
  rcases h with h | ⟨⟨id, _, _, h⟩, _⟩
  · exact h
  · rw [hb] at h; cases h
theorem post_own1 (hH : HRel B ω κ S w H) {H2 : List AObj} {r v : AV} {x : Value} {w2 : World} (hpre : ∀ id, id < H.length → H2[id]? = H[id]?) {id0 d d' : Nat} {l l' : List AV} (hge : H.length ≤ id0)
    (hid : H2[id0]? = some (.cells l)) (hl : mapO (frz H2 H.length id0 H.length d') l = some l') (hf : frz H2 H.length id0 H.length d r = some v)
    (hp : Post B ω κ S w H2 r x w2) : Post B ω κ S w (H ++ [.cells l']) v x w2 := by
  obtain ⟨ω2, κ2, S2, hκ, ev, hH2, hr, ho⟩ := hp
  obtain ⟨e3, h3⟩ := frz_base hH hκ ev hH2 hpre id0 H.length
  obtain ⟨b0, cur, e, a1, a2, a3, a4, a5, a6⟩ := hH2.obj id0 _ hid
  have hκ3 : Ext κ (κ ++ [b0]) := Ext.append κ [b0]
  have hrel := fun d u r v => frz_rel (κ3 := κ ++ [b0]) (id0 := id0) (n := H.length) hH2 (lo := H.length) (fun id b hlt hb => by
      have hlt' : id < κ.length := by rw [hH.klen]; exact hlt
      have hx := List.getElem?_eq_getElem hlt'
      rw [hκ _ _ hx] at hb; cases hb; exact hκ3 _ _ hx) (fun b hb => by
      rw [a1] at hb; cases hb; exact Ext.last hH b0) d u r v
  obtain ⟨m1, m2⟩ := mapO_some hl
  have hid0 : ∀ id, (Lab.obj id0 ≠ .obj id) ∨ id = id0 := fun id => by
    by_cases h : id = id0
    · exact .inr h
    · exact .inl fun e => h (by cases e; rfl)
  have hlab : ∀ b, ω2 b = some (.obj id0) → lz ω2 H.length id0 H.length b = some (.obj H.length) := fun b hb => by
    simp only [lz, hb]; simp; omega
  have hlab2 : ∀ b j, ω2 b = some (.cell id0 j) → lz ω2 H.length id0 H.length b = some (.cell H.length j) := fun b j hb => by
    simp only [lz, hb]; simp; omega
  have hS : ∀ b l, ω2 b = some l → (∀ id, l ≠ .obj id ∨ id = id0) → ∀ o, Fz ω2 S2 w2 H.length id0 b o → S2 b o := fun b l hb hne o h => by
    rcases h with h | ⟨⟨id, _, hn, h⟩, _⟩
    · exact h
    · rw [hb] at h; cases h
      rcases hne id with h | h
      · exact absurd rfl h
      · exact absurd h hn
  refine ⟨_, κ ++ [b0], _, hκ3, e3, h3.push b0 ⟨b0, cur, e, Ext.last hH b0, hlab b0 a2, a3, by omega, fun o h => a5 o (hS b0 _ a2 hid0 o h), fun j u c hu hc => ?_⟩,
    hrel d r v x hf hr, frz_own (l := .res) (fun b hb => ⟨lz_keep hb (fun id h => by rcases h with h | ⟨j, h⟩ <;> cases h), hS b _ hb (fun id => .inl (by simp))⟩) hrel hf ho⟩
  obtain ⟨y, hy, hfy⟩ := m2 j u hu
  obtain ⟨c1, c2, c3, c4⟩ := a6 j y c hy hc
  exact ⟨(frz_plain hfy).2 c1, c2, hrel d' y u c hfy c3, frz_own (l := .cell id0 j) (fun b hb => ⟨hlab2 b j hb, hS b _ hb (fun id => .inl (by simp))⟩) hrel hfy c4⟩
theorem mapM_some {f : AV → Option AV} : ∀ {xs ys : List (Nat × AV × AV)}, mapM f xs = some ys → ys.length = xs.length ∧ ∀ (j i : Nat) (k v : AV), ys[j]? = some (i, k, v) → ∃ k0 v0, xs[j]? = some (i, k0, v0) ∧ f k0 = some k ∧ f v0 = some v
  | [], ys, h => by simp [mapM] at h; subst h; simp
  | (i0, k0, v0) :: xs, ys, h => by
    simp only [mapM] at h
    split at h
    · rename_i k1 v1 hk hv
      simp only [Option.map_eq_some_iff] at h
      obtain ⟨ys, h, rfl⟩ := h
      obtain ⟨h1, h2⟩ := mapM_some h
      refine ⟨by simp [h1], fun j i k v hj => ?_⟩
      cases j with
      | zero => simp at hj; obtain ⟨rfl, rfl, rfl⟩ := hj; exact ⟨k0, v0, rfl, hk, hv⟩
      | succ j => simpa using h2 j i k v (by simpa using hj)
    · simp at h
/-- A new map, moved. -/
theorem post_own1m (hH : HRel B ω κ S w H) {H2 : List AObj} {r v : AV} {x : Value} {w2 : World} (hpre : ∀ id, id < H.length → H2[id]? = H[id]?) {id0 d d' : Nat} {es es' : List (Nat × AV × AV)} {clock : Nat} (hge : H.length ≤ id0)
    (hid : H2[id0]? = some (.map es clock)) (hl : mapM (frz H2 H.length id0 H.length d') es = some es') (hf : frz H2 H.length id0 H.length d r = some v)
    (hp : Post B ω κ S w H2 r x w2) : Post B ω κ S w (H ++ [.map es' clock]) v x w2 := by
  obtain ⟨ω2, κ2, S2, hκ, ev, hH2, hr, ho⟩ := hp
  obtain ⟨e3, h3⟩ := frz_base hH hκ ev hH2 hpre id0 H.length
  obtain ⟨b0, ents, a1, a2, a3, a4, a5, a6⟩ := hH2.obj id0 _ hid
  have hκ3 : Ext κ (κ ++ [b0]) := Ext.append κ [b0]
  have hrel := fun d u r v => frz_rel (κ3 := κ ++ [b0]) (id0 := id0) (n := H.length) hH2 (lo := H.length) (fun id b hlt hb => by
      have hlt' : id < κ.length := by rw [hH.klen]; exact hlt
      have hx := List.getElem?_eq_getElem hlt'
      rw [hκ _ _ hx] at hb; cases hb; exact hκ3 _ _ hx) (fun b hb => by
      rw [a1] at hb; cases hb; exact Ext.last hH b0) d u r v
  obtain ⟨m1, m2⟩ := mapM_some hl
  have hid0 : ∀ id, (Lab.obj id0 ≠ .obj id) ∨ id = id0 := fun id => by
    by_cases h : id = id0
    · exact .inr h
    · exact .inl fun e => h (by cases e; rfl)
  have hlab : ∀ b, ω2 b = some (.obj id0) → lz ω2 H.length id0 H.length b = some (.obj H.length) := fun b hb => by
    simp only [lz, hb]; simp; omega
  have hS : ∀ b l, ω2 b = some l → (∀ id, l ≠ .obj id ∨ id = id0) → ∀ o, Fz ω2 S2 w2 H.length id0 b o → S2 b o := fun b l hb hne o h => by
    rcases h with h | ⟨⟨id, _, hn, h⟩, _⟩
    · exact h
    · rw [hb] at h; cases h
      rcases hne id with h | h
      · exact absurd rfl h
      · exact absurd h hn
  refine ⟨_, κ ++ [b0], _, hκ3, e3, h3.push b0 ⟨b0, ents, Ext.last hH b0, hlab b0 a2, a3, by omega, fun o h => a5 o (hS b0 _ a2 hid0 o h), fun j i k v c hu hc => ?_⟩,
    hrel d r v x hf hr, frz_own (l := .res) (fun b hb => ⟨lz_keep hb (fun id h => by rcases h with h | ⟨j, h⟩ <;> cases h), hS b _ hb (fun id => .inl (by simp))⟩) hrel hf ho⟩
  obtain ⟨k0, v0, hy, hfk, hfv⟩ := m2 j i k v hu
  obtain ⟨c1, c2, c3, c4, c5⟩ := a6 j i k0 v0 c hy hc
  exact ⟨c1, (frz_plain hfk).1 c2, hrel d' k0 k _ hfk c3, (frz_plain hfv).1 c4, hrel d' v0 v _ hfv c5⟩
/-! ### Calls over no objects -/
theorem dim0_plain {u : AV} (h : u.plain = true) : u.dim0.plain = true := by
  unfold AV.dim0; split
  · rfl
  · exact h
theorem dim_plain {u : AV} (h : u.plain = true) : u.dim.plain = true := by
  unfold AV.dim; split <;> first | rfl | exact h
theorem Rel.dim0 {u : AV} {v : Value} (h : Rel κ S w u v) : Rel κ S w u.dim0 v := by
  unfold AV.dim0; split
  · rename_i c n
    cases h with
    | lnil _ a => exact .lnil _ a
    | lst _ _ _ b o cap f hc hle hu k kr => exact .lst _ _ _ b o cap f (by simp) hle (by simp) k kr
  · exact h
theorem Rel.dim {u : AV} {v : Value} (h : Rel κ S w u v) : Rel κ S w u.dim v := by
  unfold AV.dim; split
  · rename_i c n
    cases h with
    | lnil _ a => exact .lnil _ a
    | lst _ _ _ b o cap f hc hle hu k kr => exact .lst _ _ _ b o cap f (by simp) hle (by simp) k kr
  · cases h with
    | agg as vs l p one r =>
      refine .agg _ vs (by simpa using l) (fun u hu => ?_) one fun j u v hu hv => ?_
      · obtain ⟨x, hx, rfl⟩ := List.mem_map.1 hu; exact dim0_plain (p x hx)
      · rw [List.getElem?_map] at hu
        simp only [Option.map_eq_some_iff] at hu
        obtain ⟨x, hx, rfl⟩ := hu; exact (r j x v hx hv).dim0
  · cases h with
    | tuple as vs l p r =>
      refine .tuple _ vs (by simpa using l) (fun u hu => ?_) fun j u v hu hv => ?_
      · obtain ⟨x, hx, rfl⟩ := List.mem_map.1 hu; exact dim0_plain (p x hx)
      · rw [List.getElem?_map] at hu
        simp only [Option.map_eq_some_iff] at hu
        obtain ⟨x, hx, rfl⟩ := hu; exact (r j x v hx hv).dim0
  · exact h
theorem OwnAt.dim {l : Lab} {u : AV} {v : Value} (h : OwnAt ω κ S w l u v) : OwnAt ω κ S w l u.dim v := by
  by_cases hp : u.plain = true
  · exact OwnAt.of_plain (dim_plain hp)
  · have : u.dim = u := by
      cases u <;> first | exact absurd rfl hp | skip
      · rename_i c n k; cases k <;> first | rfl | exact absurd rfl hp
      · rfl
      · rfl
    rw [this]; exact h
theorem VRel.dim {lab : Nat → Lab} {T : List AV} {tm : List Value} (h : VRel lab ω κ S w T tm) : VRel lab ω κ S w (T.map AV.dim) tm :=
  ⟨by simpa using h.len, fun i u v hu hv => by
    rw [List.getElem?_map] at hu
    simp only [Option.map_eq_some_iff] at hu
    obtain ⟨x, hx, rfl⟩ := hu; exact (h.rel i x v hx hv).dim, fun i u v hu hv => by
    rw [List.getElem?_map] at hu
    simp only [Option.map_eq_some_iff] at hu
    obtain ⟨x, hx, rfl⟩ := hu; exact (h.own i x v hx hv).dim⟩
theorem Post.dim {H' : List AObj} {r : AV} {v : Value} {w' : World} (h : Post B ω κ S w H' r v w') : Post B ω κ S w H' r.dim v w' := by
  obtain ⟨ω2, κ2, S2, a, b, c, d, e⟩ := h
  exact ⟨ω2, κ2, S2, a, b, c, d.dim, e.dim⟩
/-- A value without a way into objects is what it is over any. -/
theorem Rel.pure (κ' : List Nat) {u : AV} {v : Value} (h : Rel κ S w u v) : ∀ {d : Nat}, pureD d u = true → Rel κ' S w u v := by
  have all : ∀ {d : Nat} {l : List AV}, l.all (pureD d) = true → ∀ {j : Nat} {u : AV}, l[j]? = some u → pureD d u = true := fun h j u hu => by
    rw [List.all_eq_true] at h; exact h u (List.mem_of_getElem? hu)
  induction h with
  | junk v => intro d h; cases d <;> simp [pureD] at h
  | bool b => intros; exact .bool b
  | int k n => intros; exact .int k n
  | str s => intros; exact .str s
  | nilp => intros; exact .nilp
  | ptr id off b k => intro d h; cases d <;> simp [pureD] at h
  | lptr cells b o f k kr ih =>
    intro d h
    cases d with
    | zero => simp [pureD] at h
    | succ d => simp only [pureD] at h; exact .lptr cells b o f k fun j u hj => ih j u hj (all h hj)
  | lnil c a => intros; exact .lnil c a
  | lst cells len c b o cap f hc hle hu k kr ih =>
    intro d h
    cases d with
    | zero => simp [pureD] at h
    | succ d => simp only [pureD] at h; exact .lst cells len c b o cap f hc hle hu k fun j u hj => ih j u hj (all h hj)
  | luniq cells len z b o cap => intros; exact .luniq cells len z b o cap
  | raw => intro d h; cases d <;> simp [pureD] at h
  | gref => intro d h; cases d <;> simp [pureD] at h
  | ref id off len c sz b cap k hc hle => intro d h; cases d <;> simp [pureD] at h
  | func f as bs vs ws h1 h2 p1 p2 r1 r2 i1 i2 =>
    intro d h
    cases d with
    | zero => simp [pureD] at h
    | succ d =>
      simp only [pureD, Bool.and_eq_true] at h
      exact .func f as bs vs ws h1 h2 p1 p2 (fun j u v hu hv => i1 j u v hu hv (all h.1 hu)) (fun j u v hu hv => i2 j u v hu hv (all h.2 hu))
  | yield id b k => intro d h; cases d <;> simp [pureD] at h
  | map id b k => intro d h; cases d <;> simp [pureD] at h
  | agg as vs k p one r ih =>
    intro d h
    cases d with
    | zero => simp [pureD] at h
    | succ d => simp only [pureD] at h; exact .agg as vs k p one fun j u v hu hv => ih j u v hu hv (all h hu)
  | tuple as vs k p r ih =>
    intro d h
    cases d with
    | zero => simp [pureD] at h
    | succ d => simp only [pureD] at h; exact .tuple as vs k p fun j u v hu hv => ih j u v hu hv (all h hu)
/-- What of the labels a call over no objects sees. -/
def argsOnly (ω : Nat → Option Lab) : Nat → Option Lab := fun b => match ω b with
  | some (.arg i) => some (.arg i)
  | _ => none
theorem argsOnly_arg {b i : Nat} (h : ω b = some (.arg i)) : argsOnly ω b = some (.arg i) := by simp [argsOnly, h]
theorem argsOnly_some {b : Nat} {l : Lab} (h : argsOnly ω b = some l) : ∃ i, ω b = some (.arg i) ∧ l = .arg i := by
  unfold argsOnly at h
  split at h
  · rename_i i hi; cases h; exact ⟨i, hi, rfl⟩
  · cases h
theorem OwnAt.pure (κ' : List Nat) {i : Nat} {u : AV} {v : Value} {d : Nat} (hp : pureD d u = true) (h : OwnAt ω κ S w (.arg i) u v) : OwnAt (argsOnly ω) κ' S w (.arg i) u v := by
  unfold OwnAt at h ⊢
  split at h
  · rcases h with h | ⟨h1, h⟩
    · exact .inl h
    · exact .inr ⟨argsOnly_arg h1, h⟩
  · rename_i cells len z a n cap
    cases d with
    | zero => simp [pureD] at hp
    | succ d =>
      simp only [pureD] at hp
      rcases h with h | ⟨h1, h2, h3, h4, h5, h6, ⟨cur, e, h7, h8, h9⟩, h10⟩
      · exact .inl h
      · refine .inr ⟨argsOnly_arg h1, h2, h3, h4, h5, h6, ⟨cur, e, h7, h8, fun j u v hu hv => ?_⟩, h10⟩
        obtain ⟨p1, p2, p3⟩ := h9 j u v hu hv
        rw [List.all_eq_true] at hp
        exact ⟨p1, p2, p3.pure κ' (hp u (List.mem_of_getElem? hu))⟩
  · cases d <;> simp [pureD] at hp
  · trivial
theorem VRel.pure {T : List AV} {tm : List Value} (h : VRel (fun i => .arg i) ω κ S w T tm) (hp : T.all (pureD 8) = true) : VRel (fun i => .arg i) (argsOnly ω) [] S w T tm := by
  rw [List.all_eq_true] at hp
  exact ⟨h.len, fun i u v hu hv => (h.rel i u v hu hv).pure [] (hp u (List.mem_of_getElem? hu)), fun i u v hu hv => (h.own i u v hu hv).pure [] (hp u (List.mem_of_getElem? hu))⟩
theorem hrel_pure (hH : HRel B ω κ S w H) : HRel B (argsOnly ω) [] S w [] :=
  ⟨rfl, fun id o h => by simp at h, hH.swf, fun b l hb => by obtain ⟨i, h, _⟩ := argsOnly_some hb; exact hH.base b _ h, hH.bsz⟩
theorem post_pure (hH : HRel B ω κ S w H) {H2 : List AObj} {r v : AV} {x : Value} {w2 : World} {n d : Nat} (hf : frz H2 0 H2.length n d r = some v)
    (hp : Post B (argsOnly ω) [] S w H2 r x w2) : Post B ω κ S w H v x w2 := by
  classical
  obtain ⟨ω2, κ2, S2, hκ, ev, hH2, hr, ho⟩ := hp
  let ω' : Nat → Option Lab := fun b => match ω b with
    | some (.obj id) => some (.obj id)
    | some (.cell id j) => some (.cell id j)
    | _ => match ω2 b with
      | some (.obj _) => none
      | some (.cell _ _) => none
      | l => l
  have hobj : ∀ b l, ω b = some l → ((∃ id, l = .obj id) ∨ ∃ id j, l = .cell id j) → ω' b = some l ∧ ω2 b = none ∧ b < w.heap.size := fun b l hb hl => by
    have hlt := (hH.base b l hb).2
    have h2 : ω2 b = none := by
      cases h : ω2 b with
      | none => rfl
      | some l' =>
        rcases ev.own b (by simp [h]) with h1 | h1
        · exfalso
          apply h1
          rcases hl with ⟨id, rfl⟩ | ⟨id, j, rfl⟩ <;> simp [argsOnly, hb]
        · omega
    refine ⟨?_, h2, hlt⟩
    rcases hl with ⟨id, rfl⟩ | ⟨id, j, rfl⟩ <;> simp [ω', hb]
  have hsome : ∀ b, ω' b ≠ none → ω b ≠ none ∨ ω2 b ≠ none := fun b h => by
    by_cases h1 : ω b = none
    · right
      intro h2
      apply h
      simp [ω', h1, h2]
    · exact .inl h1
  have ha : ∀ b, argsOnly ω b ≠ none → ω b ≠ none := fun b h h0 => h (by simp [argsOnly, h0])
  have hS' : ∀ b o, Fz ω2 S2 w2 0 H2.length b o → S b o ∨ ω b ≠ none ∨ w.heap.size ≤ b := fun b o h => by
    rcases h with h | ⟨⟨id, _, _, h⟩, _⟩
    · rcases ev.fresh b o h with h | h | h
      · exact .inl h
      · exact .inr (.inl (ha b h))
      · exact .inr (.inr h)
    · rcases ev.own b (by simp [h]) with h1 | h1
      · exact .inr (.inl (ha b h1))
      · exact .inr (.inr h1)
  have ev' : Ev ω S w ω' (Fz ω2 S2 w2 0 H2.length) w2 :=
    ⟨ev.os, ev.tape, ev.output, ev.size, fun b hb hn => ev.keep b hb (by simp [argsOnly, hn]), fun b o h => ⟨.inl (ev.set b o h).1, (ev.set b o h).2⟩, hS', fun b h => by
      rcases hsome b h with h | h
      · exact .inl h
      · rcases ev.own b h with h | h
        · exact .inl (ha b h)
        · exact .inr h⟩
  have hrel := fun d u r v => frz_rel (κ3 := κ) (id0 := H2.length) (n := n) hH2 (lo := 0) (fun id b hlt hb => by omega) (fun b hb => by
      have := (List.getElem?_eq_some_iff.1 hb).1; rw [hH2.klen] at this; omega) d u r v
  refine ⟨ω', κ, _, Ext.refl κ, ev', hH.frame ev' (fun b l hb hl => ?_) (fun b o h => ?_) (fun b l hb => ?_), hrel d r v x hf hr, frz_own (l := .res) (fun b hb => ?_) hrel hf ho⟩
  · obtain ⟨h1, h2, h3⟩ := hobj b l hb hl
    have hn : argsOnly ω b = none := by rcases hl with ⟨id, rfl⟩ | ⟨id, j, rfl⟩ <;> simp [argsOnly, hb]
    refine ⟨h1, ev.keep b h3 hn, fun o h => ?_⟩
    rcases h with h | ⟨⟨id, _, _, h⟩, _⟩
    · rcases ev.fresh b o h with h | h | h
      · exact h
      · exact absurd hn h
      · omega
    · rw [h2] at h; cases h
  · rcases h with h | ⟨_, h⟩
    · exact hH2.swf b o h
    · exact h
  · by_cases h : ω b = none
    · have hb' : ω2 b ≠ none := fun h2 => by simp [ω', h, h2] at hb
      cases h2 : ω2 b with
      | none => exact absurd h2 hb'
      | some l' => exact hH2.base b l' h2
    · cases h1 : ω b with
      | none => exact absurd h1 h
      | some l' => obtain ⟨p, q⟩ := hH.base b l' h1; exact ⟨p, Nat.lt_of_lt_of_le q ev.size⟩
  · refine ⟨?_, fun o h => ?_⟩
    · cases h1 : ω b with
      | none => simp [ω', h1, hb]
      | some l =>
        cases l with
        | obj id => have := (hobj b _ h1 (.inl ⟨id, rfl⟩)).2.1; rw [hb] at this; cases this
        | cell id j => have := (hobj b _ h1 (.inr ⟨id, j, rfl⟩)).2.1; rw [hb] at this; cases this
        | _ => simp [ω', h1, hb]
    · rcases h with h | ⟨⟨id, _, _, h⟩, _⟩
      · exact h
      · rw [hb] at h; cases h
/-- All that objects hold, settled for the time of a call. -/
def allS (ω : Nat → Option Lab) (S : Nat → Nat → Prop) (w : World) : Nat → Nat → Prop := fun b o => S b o ∨ ((∃ id, ω b = some (.obj id)) ∧ ∃ v, w.cell? ⟨b, o, none⟩ = some v)
theorem scal0_rel {κ κ' : List Nat} {S S' : Nat → Nat → Prop} {u : AV} {v : Value} (h : scal0 u = true) (hr : Rel κ S w u v) : Rel κ' S' w u v := by
  cases hr <;> simp [scal0] at h
  · exact .bool _
  · exact .int _ _
  · exact .str _
theorem scal_rel {κ' : List Nat} {S' : Nat → Nat → Prop} {u : AV} {v : Value} (h : scal u = true) (hr : Rel κ S w u v) : Rel κ' S' w u v := by
  cases hr with
  | bool b => exact .bool b
  | int k n => exact .int k n
  | str s => exact .str s
  | tuple as vs k p q =>
    simp only [scal, List.all_eq_true] at h
    exact .tuple as vs k p fun j u v hu hv => scal0_rel (h u (List.mem_of_getElem? hu)) (q j u v hu hv)
  | luniq cells len z b o cap => exact .luniq _ _ _ _ _ _
  | lnil c a =>
    exact .lnil _ _
  | lst cells len c b o cap f hc hle hu k kr => cases c <;> simp [scal] at h; exact absurd rfl (hu _)
  | _ => simp [scal] at h
theorem scal_own {ω ω' : Nat → Option Lab} {κ' : List Nat} {S S' : Nat → Nat → Prop} {u : AV} {v : Value} (h : scal u = true) (ho : OwnAt ω κ S w .res u v) (hω : ∀ b, ω b = some .res → ω' b = some .res ∧ ∀ o, S' b o → S b o) : OwnAt ω' κ' S' w .res u v := by
  unfold OwnAt at ho ⊢
  split at ho
  · simp [scal] at h
  · simp only [scal, List.all_eq_true] at h
    rcases ho with ho | ⟨h1, h0, h4, h5, h6, h7, ⟨cur, e, h8, h9, h10⟩, h11⟩
    · exact .inl ho
    · obtain ⟨k1, k2⟩ := hω _ h1
      exact .inr ⟨k1, h0, h4, h5, h6, h7, ⟨cur, e, h8, h9, fun j u v hu hv => ⟨(h10 j u v hu hv).1, (h10 j u v hu hv).2.1, scal0_rel (h u (List.mem_of_getElem? hu)) (h10 j u v hu hv).2.2⟩⟩, fun o hs => h11 o (k2 o hs)⟩
  · simp [scal] at h
  · trivial
theorem shzR_plain {u : AV} (h : u.plain = true) : (shzR H u).plain = true := by
  unfold shzR; split
  · split <;> rfl
  · exact h
theorem shzR_rel (hH : HRel B ω κ S w H) {u : AV} {v : Value} (hr : Rel κ S w u v) : Rel κ (allS ω S w) w (shzR H u) v := by
  have hm : Rel κ (allS ω S w) w u v := hr.mono (Ext.refl κ) fun b o h => ⟨.inl h, rfl⟩
  cases hr <;> try exact hm
  case ref id off len cap sz b cp hb hc hle =>
    unfold shzR
    simp only
    split
    · rename_i row hrow
      unfold rowOf at hrow
      simp only at hrow
      split at hrow
      · rename_i l hid
        split at hrow
        · rename_i hfit
          simp only [Option.some.injEq] at hrow
          obtain ⟨b', cur, e, a1, a2, a3, a4, a5, a6⟩ := hH.obj id _ hid
          rw [hb] at a1; cases a1
          have hcell : ∀ o, o < cur.size → w.cell? ⟨b, o, none⟩ = cur[o]? := fun o ho => by simp [World.cell?, a3, ho]
          have facts : ∀ (j : Nat) (y : AV), row[j]? = some y → ∃ c, off + j < cur.size ∧ cur[off + j]? = some c ∧ c.oneCell' = true ∧ y.plain = true ∧ Rel κ S w y c := fun j y hy => by
            subst hrow
            have hj1 := (List.getElem?_eq_some_iff.1 hy).1
            simp at hj1
            have hj2 : off + j < l.length := by omega
            have hj3 : off + j < cur.size := by omega
            have hl : l[off + j]? = some l[off + j] := List.getElem?_eq_getElem hj2
            have hv : cur[off + j]? = some cur[off + j] := Array.getElem?_eq_getElem hj3
            obtain ⟨c1, c2, c3, c4⟩ := a6 (off + j) _ _ hl hv
            rw [List.getElem?_map, List.getElem?_take, if_pos (by omega), List.getElem?_drop, hl] at hy
            simp at hy; subst hy
            exact ⟨_, hj3, hv, c2, AV.view_plain _, c3.view c1⟩
          refine .lst row len .shared b off cp (fun j => cur.getD (off + j) undef) (by simp) hle (by simp) (fun j y hy => ?_) (fun j y hy => ?_)
          · obtain ⟨c, hj, hcj, h1, hp, hrx⟩ := facts j y hy
            have hg : cur.getD (off + j) undef = c := by rw [Array.getD_eq_getD_getElem?, hcj]; rfl
            rw [hg]
            exact ⟨.inr ⟨⟨id, a2⟩, c, by rw [hcell _ hj, hcj]⟩, by rw [hcell _ hj, hcj], hp, h1⟩
          · obtain ⟨c, hj, hcj, h1, hp, hrx⟩ := facts j y hy
            have hg : cur.getD (off + j) undef = c := by rw [Array.getD_eq_getD_getElem?, hcj]; rfl
            simp only [hg]
            exact hrx.mono (Ext.refl κ) fun b o h => ⟨.inl h, rfl⟩
        · cases hrow
      · cases hrow
    · exact hm
theorem shz0_rel (hH : HRel B ω κ S w H) {u : AV} {v : Value} (hr : Rel κ S w u v) : Rel κ (allS ω S w) w (shz0 H u) v := by
  have hm : Rel κ (allS ω S w) w u v := hr.mono (Ext.refl κ) fun b o h => ⟨.inl h, rfl⟩
  have hR := shzR_rel hH hr
  cases hr <;> first | exact hm | exact hR | skip
  rename_i id off b hb
  unfold shz0
  simp only
  split
  · rename_i l hid
    obtain ⟨b', cur, e, a1, a2, a3, a4, a5, a6⟩ := hH.obj id _ hid
    rw [hb] at a1; cases a1
    have hcell : ∀ o, o < cur.size → w.cell? ⟨b, o, none⟩ = cur[o]? := fun o ho => by simp [World.cell?, a3, ho]
    have facts : ∀ (j : Nat) (y : AV), (((l.drop off).map AV.view).map (shzR H))[j]? = some y → ∃ c, off + j < cur.size ∧ cur[off + j]? = some c ∧ c.oneCell' = true ∧ y.plain = true ∧ Rel κ (allS ω S w) w y c := fun j y hy => by
      have hj1 := (List.getElem?_eq_some_iff.1 hy).1
      simp at hj1
      have hj2 : off + j < l.length := by omega
      have hj3 : off + j < cur.size := by omega
      have hl : l[off + j]? = some l[off + j] := List.getElem?_eq_getElem hj2
      have hv : cur[off + j]? = some cur[off + j] := Array.getElem?_eq_getElem hj3
      obtain ⟨c1, c2, c3, c4⟩ := a6 (off + j) _ _ hl hv
      rw [List.getElem?_map, List.getElem?_map, List.getElem?_drop, hl] at hy
      simp at hy; subst hy
      exact ⟨_, hj3, hv, c2, shzR_plain (AV.view_plain _), shzR_rel hH (c3.view c1)⟩
    refine .lptr _ b off (fun j => cur.getD (off + j) undef) (fun j y hy => ?_) (fun j y hy => ?_)
    · obtain ⟨c, hj, hcj, h1, hp, hrx⟩ := facts j y hy
      have hg : cur.getD (off + j) undef = c := by rw [Array.getD_eq_getD_getElem?, hcj]; rfl
      rw [hg]
      exact ⟨.inr ⟨⟨id, a2⟩, c, by rw [hcell _ hj, hcj]⟩, by rw [hcell _ hj, hcj], hp, h1⟩
    · obtain ⟨c, hj, hcj, h1, hp, hrx⟩ := facts j y hy
      have hg : cur.getD (off + j) undef = c := by rw [Array.getD_eq_getD_getElem?, hcj]; rfl
      simp only [hg]
      exact hrx
  · exact hm
theorem shz0_plain {u : AV} (h : u.plain = true) : (shz0 H u).plain = true := by
  unfold shz0; split
  · split <;> rfl
  · exact shzR_plain rfl
  · exact h
theorem shz_rel (hH : HRel B ω κ S w H) {u : AV} {v : Value} (hr : Rel κ S w u v) : Rel κ (allS ω S w) w (shz H u) v := by
  have hm : Rel κ (allS ω S w) w u v := hr.mono (Ext.refl κ) fun b o h => ⟨.inl h, rfl⟩
  have hr0 := shz0_rel hH hr
  cases hr <;> try exact hm
  · exact hr0
  · exact hr0
  · rename_i f as bs vs ws h1 h2 p1 p2 r1 r2
    refine .func f _ _ vs ws (by simpa using h1) (by simpa using h2) (fun u hu => ?_) (fun u hu => ?_) (fun j u v hu hv => ?_) (fun j u v hu hv => ?_)
    · obtain ⟨x, hx, rfl⟩ := List.mem_map.1 hu; exact shz0_plain (p1 x hx)
    · obtain ⟨x, hx, rfl⟩ := List.mem_map.1 hu; exact shz0_plain (p2 x hx)
    · rw [List.getElem?_map] at hu
      simp only [Option.map_eq_some_iff] at hu
      obtain ⟨x, hx, rfl⟩ := hu; exact shz0_rel hH (r1 j x v hx hv)
    · rw [List.getElem?_map] at hu
      simp only [Option.map_eq_some_iff] at hu
      obtain ⟨x, hx, rfl⟩ := hu; exact shz0_rel hH (r2 j x v hx hv)
theorem shz_own {i : Nat} {u : AV} {v : Value} (h : OwnAt ω κ S w (.arg i) u v) : OwnAt ω κ (allS ω S w) w (.arg i) (shz H u) v := by
  have hS : ∀ b, ω b = some (.arg i) → ∀ o, allS ω S w b o → S b o := fun b hb o h => by
    rcases h with h | ⟨⟨id, h⟩, _⟩
    · exact h
    · rw [hb] at h; cases h
  have hm : OwnAt ω κ (allS ω S w) w (.arg i) u v := h.mono (Ext.refl κ) (fun b o h => ⟨.inl h, rfl⟩) fun b hb => ⟨hb, rfl, hS b hb⟩
  cases u <;> try exact hm
  · rename_i id off
    exact OwnAt.of_plain (show (shz0 H (.ptr id off)).plain = true from shz0_plain rfl)
  · rename_i id off len cap sz
    exact OwnAt.of_plain (show (shz0 H (.ref id off len cap sz)).plain = true from shz0_plain rfl)
theorem vrel_shz (hH : HRel B ω κ S w H) {T : List AV} {tm : List Value} (h : VRel (fun i => .arg i) ω κ S w T tm) : VRel (fun i => .arg i) ω κ (allS ω S w) w (T.map (shz H)) tm :=
  ⟨by simpa using h.len, fun i u v hu hv => by
    rw [List.getElem?_map] at hu
    simp only [Option.map_eq_some_iff] at hu
    obtain ⟨x, hx, rfl⟩ := hu; exact shz_rel hH (h.rel i x v hx hv), fun i u v hu hv => by
    rw [List.getElem?_map] at hu
    simp only [Option.map_eq_some_iff] at hu
    obtain ⟨x, hx, rfl⟩ := hu; exact shz_own (h.own i x v hx hv)⟩
theorem hrel_shz (hH : HRel B ω κ S w H) : HRel B (argsOnly ω) [] (allS ω S w) w [] :=
  ⟨rfl, fun id o h => by simp at h, fun b o h => by
    rcases h with h | ⟨_, h⟩
    · exact hH.swf b o h
    · exact h, fun b l hb => by obtain ⟨i, h, _⟩ := argsOnly_some hb; exact hH.base b _ h, hH.bsz⟩
theorem post_shz (hH : HRel B ω κ S w H) {H2 : List AObj} {r v : AV} {x : Value} {w2 : World} {n d : Nat} (hf : frz H2 0 H2.length n d r = some v)
    (hs : scal v = true) (hp : Post B (argsOnly ω) [] (allS ω S w) w H2 r x w2) : Post B ω κ S w H v x w2 := by
  classical
  obtain ⟨ω2, κ2, S2, hκ, ev, hH2, hr, ho⟩ := hp
  let ω' : Nat → Option Lab := fun b => match ω b with
    | some (.obj id) => some (.obj id)
    | some (.cell id j) => some (.cell id j)
    | _ => match ω2 b with
      | some (.obj _) => none
      | some (.cell _ _) => none
      | l => l
  have hobj : ∀ b l, ω b = some l → ((∃ id, l = .obj id) ∨ ∃ id j, l = .cell id j) → ω' b = some l ∧ ω2 b = none ∧ b < w.heap.size := fun b l hb hl => by
    have hlt := (hH.base b l hb).2
    have h2 : ω2 b = none := by
      cases h : ω2 b with
      | none => rfl
      | some l' =>
        rcases ev.own b (by simp [h]) with h1 | h1
        · exfalso
          apply h1
          rcases hl with ⟨id, rfl⟩ | ⟨id, j, rfl⟩ <;> simp [argsOnly, hb]
        · omega
    refine ⟨?_, h2, hlt⟩
    rcases hl with ⟨id, rfl⟩ | ⟨id, j, rfl⟩ <;> simp [ω', hb]
  have hsome : ∀ b, ω' b ≠ none → ω b ≠ none ∨ ω2 b ≠ none := fun b h => by
    by_cases h1 : ω b = none
    · right
      intro h2
      apply h
      simp [ω', h1, h2]
    · exact .inl h1
  have ha : ∀ b, argsOnly ω b ≠ none → ω b ≠ none := fun b h h0 => h (by simp [argsOnly, h0])
  let S' : Nat → Nat → Prop := fun b o => S b o ∨ (Fz ω2 S2 w2 0 H2.length b o ∧ ∀ id, ω b ≠ some (.obj id))
  have hS' : ∀ b o, S' b o → S b o ∨ ω b ≠ none ∨ w.heap.size ≤ b := fun b o h => by
    rcases h with h | ⟨h | ⟨⟨id, _, _, h⟩, _⟩, hno⟩
    · exact .inl h
    · rcases ev.fresh b o h with (h | ⟨⟨id, h⟩, _⟩) | h | h
      · exact .inl h
      · exact absurd h (hno id)
      · exact .inr (.inl (ha b h))
      · exact .inr (.inr h)
    · rcases ev.own b (by simp [h]) with h1 | h1
      · exact .inr (.inl (ha b h1))
      · exact .inr (.inr h1)
  have ev' : Ev ω S w ω' S' w2 :=
    ⟨ev.os, ev.tape, ev.output, ev.size, fun b hb hn => ev.keep b hb (by simp [argsOnly, hn]), fun b o h => ⟨.inl h, (ev.set b o (.inl h)).2⟩, hS', fun b h => by
      rcases hsome b h with h | h
      · exact .inl h
      · rcases ev.own b h with h | h
        · exact .inl (ha b h)
        · exact .inr h⟩
  have hrel := fun d u r v => frz_rel (κ3 := κ) (id0 := H2.length) (n := n) hH2 (lo := 0) (fun id b hlt hb => by omega) (fun b hb => by
      have := (List.getElem?_eq_some_iff.1 hb).1; rw [hH2.klen] at this; omega) d u r v
  have hrelS := hrel d r v x hf hr
  have hown : OwnAt (fun b => match ω2 b with | some .res => some .res | _ => none) κ (Fz ω2 S2 w2 0 H2.length) w2 .res v x := frz_own (l := .res) (fun b hb => ⟨by simp [hb], fun o h => by
    rcases h with h | ⟨⟨id, _, _, h⟩, _⟩
    · exact h
    · rw [hb] at h; cases h⟩) hrel hf ho
  refine ⟨ω', κ, S', Ext.refl κ, ev', hH.frame ev' (fun b l hb hl => ?_) (fun b o h => ?_) (fun b l hb => ?_), scal_rel hs hrelS, scal_own hs hown fun b hb => ?_⟩
  · obtain ⟨h1, h2, h3⟩ := hobj b l hb hl
    have hn : argsOnly ω b = none := by rcases hl with ⟨id, rfl⟩ | ⟨id, j, rfl⟩ <;> simp [argsOnly, hb]
    refine ⟨h1, ev.keep b h3 hn, fun o h => ?_⟩
    rcases h with h | ⟨h | ⟨⟨id, _, _, h⟩, _⟩, hno⟩
    · exact h
    · rcases ev.fresh b o h with (h | ⟨⟨id, h⟩, _⟩) | h | h
      · exact h
      · exact absurd h (hno id)
      · exact absurd hn h
      · omega
    · rw [h2] at h; cases h
  · rcases h with h | ⟨h | ⟨_, h⟩, _⟩
    · obtain ⟨v, hv⟩ := hH.swf b o h
      exact ⟨v, ((ev.set b o (.inl h)).2).trans hv⟩
    · exact hH2.swf b o h
    · exact h
  · by_cases h : ω b = none
    · have hb' : ω2 b ≠ none := fun h2 => by simp [ω', h, h2] at hb
      cases h2 : ω2 b with
      | none => exact absurd h2 hb'
      | some l' => exact hH2.base b l' h2
    · cases h1 : ω b with
      | none => exact absurd h1 h
      | some l' => obtain ⟨p, q⟩ := hH.base b l' h1; exact ⟨p, Nat.lt_of_lt_of_le q ev.size⟩
  · have hb2 : ω2 b = some .res := by
      split at hb
      · assumption
      · cases hb
    refine ⟨?_, fun o h => ?_⟩
    · cases h1 : ω b with
      | none => simp [ω', h1, hb2]
      | some l =>
        cases l with
        | obj id => have := (hobj b _ h1 (.inl ⟨id, rfl⟩)).2.1; rw [hb2] at this; cases this
        | cell id j => have := (hobj b _ h1 (.inr ⟨id, j, rfl⟩)).2.1; rw [hb2] at this; cases this
        | _ => simp [ω', h1, hb2]
    · rcases h with h | ⟨h, _⟩
      · exact .inl ((ev.set b o (.inl h)).1)
      · exact h
end
end Go.Proofs.YtbnbjjgagikobaaGreat.Ab

/-
  What is asked of a table of calls; a call, its value frozen or not.
-/
namespace Go.Proofs.YtbnbjjgagikobaaGreat.Ab
open Go
/-- Objects below lo are left alone; none goes away. -/
def Low (lo : Nat) (H H' : List AObj) : Prop := H.length ≤ H'.length ∧ ∀ id, id < lo → id < H.length → H'[id]? = H[id]?
theorem Low.refl (lo : Nat) (H : List AObj) : Low lo H H := ⟨Nat.le_refl _, fun _ _ _ => rfl⟩
theorem Low.trans {lo : Nat} {H H1 H2 : List AObj} (h : Low lo H H1) (k : Low lo H1 H2) : Low lo H H2 :=
  ⟨Nat.le_trans h.1 k.1, fun id h1 h2 => (k.2 id h1 (Nat.lt_of_lt_of_le h2 h.1)).trans (h.2 id h1 h2)⟩
theorem Low.append (lo : Nat) (H X : List AObj) : Low lo H (H ++ X) := ⟨by simp, fun id _ h => List.getElem?_append_left h⟩
theorem Low.set {lo id : Nat} (H : List AObj) (x : AObj) (h : lo ≤ id) : Low lo H (H.set id x) := ⟨by simp, fun id' h1 _ => List.getElem?_set_ne (by omega)⟩
def FnPost (B : Nat) (ω : Nat → Option Lab) (κ : List Nat) (S : Nat → Nat → Prop) (w : World) (H' : List AObj) (r : AV) : Ending → World → Prop
  | .returned v, w' => Post B ω κ S w H' r v w'
  | _, _ => False
def NoSlot (ω : Nat → Option Lab) : Prop := ∀ b i, ω b ≠ some (.slot i)
/-- The temporaries of a round. -/
def roundTmps (L : Loop) (vs : List Value) : Array Value := (L.params.zip vs.toArray).foldl (fun tmps (x : Tmp × Value) => tmps.setIfInBounds x.1 x.2) L.tmps
/-- A call to a target keeps its word. -/
def TgtOk (P : Program) (tgt : Tgt) (args : List AV) (H H' : List AObj) (r : AV) : Prop :=
  match tgt with
  | .fn k => (∃ f, P.funcs[k]? = some f ∧ f.body.isSome = true ∧ f.name ≠ "runtime.NumGoroutine") ∧
      ∀ B ω κ S w vs, HRel B ω κ S w H → NoSlot ω → VRel (fun i => .arg i) ω κ S w args vs → CallsIn Fence.wide 0 P k vs.toArray w (FnPost B ω κ S w H' r)
  | .yield l => ∀ B ω κ S w vs b, HRel B ω κ S w H → NoSlot ω → VRel (fun i => .arg i) ω κ S w args vs → κ[l]? = some b →
      ∃ L, w.heap[b]? = some (.loop L) ∧ vs.length = L.params.size ∧ RoundIn Fence.wide 0 P b L.fn (roundTmps L vs) L.assign L.body w (FnPost B ω κ S w H' r)
structure CSound (P : Program) (C : CallFn) : Prop where
  low : ∀ {tgt args H lo r H'}, C tgt args H lo = some (r, H') → Low lo H H'
  ok : ∀ {tgt args H lo r H'}, C tgt args H lo = some (r, H') → TgtOk P tgt args H H' r
section
variable {P : Program} {B N : Nat} {κ : List Nat} {w : World} {H : List AObj} {ω : Nat → Option Lab} {S : Nat → Nat → Prop}
theorem FnPost.mono {H' H1 : List AObj} {r r' : AV} (h : ∀ v w', Post B ω κ S w H' r v w' → Post B ω κ S w H1 r' v w') (e : Ending) (w' : World) (k : FnPost B ω κ S w H' r e w') : FnPost B ω κ S w H1 r' e w' := by
  cases e with
  | returned v => exact h v w' k
  | panicked c => exact k
  | outgrown => exact k
theorem TgtOk.mono {tgt : Tgt} {args : List AV} {H' H1 : List AObj} {r r' : AV} (k : TgtOk P tgt args H H' r)
    (h : ∀ B ω κ S w, HRel B ω κ S w H → ∀ v w', Post B ω κ S w H' r v w' → Post B ω κ S w H1 r' v w') : TgtOk P tgt args H H1 r' := by
  cases tgt with
  | fn f =>
    exact ⟨k.1, fun B ω κ S w vs hH hn hv => CallsIn.mono (k.2 B ω κ S w vs hH hn hv) (FnPost.mono (h B ω κ S w hH))⟩
  | yield l =>
    intro B ω κ S w vs b hH hn hv hb
    obtain ⟨L, h1, h2, h3⟩ := k B ω κ S w vs b hH hn hv hb
    exact ⟨L, h1, h2, RoundIn.mono h3 (FnPost.mono (h B ω κ S w hH))⟩
theorem callTo_ok {C : CallFn} (hC : CSound P C) {lo mode : Nat} {tgt : Tgt} {args : List AV} {v : AV} {H1 : List AObj} (h : callTo C lo mode tgt args H = some (v, H1)) : Low lo H H1 ∧ TgtOk P tgt args H H1 v := by
  have frozen : ∀ {r : AV} {H2 : List AObj}, C tgt args H H.length = some (r, H2) → ((frz H2 H.length H2.length 0 8 r).map fun v => (v, H)) = some (v, H1) → Low lo H H1 ∧ TgtOk P tgt args H H1 v := fun hc hf => by
    simp only [Option.map_eq_some_iff, Prod.mk.injEq] at hf
    obtain ⟨v', hf, rfl, rfl⟩ := hf
    exact ⟨Low.refl _ _, (hC.ok hc).mono fun B ω κ S w hH x w' hp => post_frz hH (fun id hid => (hC.low hc).2 id hid hid) hf hp⟩
  unfold callTo at h
  split at h
  · simp only [Option.bind_eq_some_iff] at h
    obtain ⟨⟨r, H2⟩, hc, hf⟩ := h
    exact frozen hc hf
  · exact ⟨hC.low h, hC.ok h⟩
  · split at h
    · rename_i k hp
      simp only [Option.bind_eq_some_iff] at h
      obtain ⟨⟨r, H2⟩, hc, hf⟩ := h
      simp only [Option.map_eq_some_iff, Prod.mk.injEq] at hf
      obtain ⟨v', hf, rfl, rfl⟩ := hf
      obtain ⟨k1, k2⟩ := hC.ok hc
      exact ⟨Low.refl _ _, k1, fun B ω κ S w vs hH hn hv => CallsIn.mono (k2 B _ [] S w vs (hrel_pure hH) (fun b i h => by obtain ⟨_, _, h⟩ := argsOnly_some h; cases h) (hv.pure hp).dim) fun e w' he => by
          cases e with
          | returned v => exact (post_pure hH hf he).dim
          | panicked c => exact he.elim
          | outgrown => exact he.elim⟩
    · simp at h
  · split at h
    · rename_i k hp
      simp only [Option.bind_eq_some_iff] at h
      obtain ⟨⟨r, H2⟩, hc, v', hf, h⟩ := h
      split at h
      · rename_i hsc
        simp only [Option.some.injEq, Prod.mk.injEq] at h
        obtain ⟨rfl, rfl⟩ := h
        obtain ⟨k1, k2⟩ := hC.ok hc
        exact ⟨Low.refl _ _, k1, fun B ω κ S w vs hH hn hv => CallsIn.mono (k2 B _ [] _ w vs (hrel_shz hH) (fun b i h => by obtain ⟨_, _, h⟩ := argsOnly_some h; cases h) ((vrel_shz hH hv).pure hp).dim) fun e w' he => by
          cases e with
          | returned v => exact (post_shz hH hf hsc he).dim
          | panicked c => exact he.elim
          | outgrown => exact he.elim⟩
      · simp at h
    · simp at h
  · simp only [Option.bind_eq_some_iff] at h
    obtain ⟨⟨r, H2⟩, hc, hf⟩ := h
    simp only [Option.map_eq_some_iff, Prod.mk.injEq] at hf
    obtain ⟨v', hf, rfl, rfl⟩ := hf
    refine ⟨Low.refl _ _, ?_⟩
    have hok := (hC.ok hc).mono (r' := v'.dim) (H1 := H) fun B ω κ S w hH x w' hp => (post_frz hH (fun id hid => (hC.low hc).2 id hid hid) hf hp).dim
    cases tgt with
    | fn k => exact ⟨hok.1, fun B ω κ S w vs hH hn hv => hok.2 B ω κ S w vs hH hn hv.dim⟩
    | yield l => exact fun B ω κ S w vs b hH hn hv hb => hok B ω κ S w vs b hH hn hv.dim hb
  · simp only [Option.bind_eq_some_iff] at h
    obtain ⟨⟨r, H2⟩, hc, hf⟩ := h
    split at hf
    · exact frozen hc hf
    · rename_i id0 hfr
      split at hf
      · rename_i l hid
        split at hf
        · rename_i hge
          split at hf
          · rename_i l' v' hl hv
            simp only [Option.some.injEq, Prod.mk.injEq] at hf
            obtain ⟨rfl, rfl⟩ := hf
            exact ⟨Low.append _ _ _, (hC.ok hc).mono fun B ω κ S w hH x w' hp => post_own1 hH (fun id hid => (hC.low hc).2 id hid hid) hge hid hl hv hp⟩
          · simp at hf
        · simp at hf
      · rename_i es clock hid
        split at hf
        · rename_i hge
          split at hf
          · rename_i l' v' hl hv
            simp only [Option.some.injEq, Prod.mk.injEq] at hf
            obtain ⟨rfl, rfl⟩ := hf
            exact ⟨Low.append _ _ _, (hC.ok hc).mono fun B ω κ S w hH x w' hp => post_own1m hH (fun id hid => (hC.low hc).2 id hid hid) hge hid hl hv hp⟩
          · simp at hf
        · simp at hf
      · simp at hf
end
end Go.Proofs.YtbnbjjgagikobaaGreat.Ab

/-
  An operation of an activation, calls and all, under the fences of the walk.
-/
namespace Go.Proofs.YtbnbjjgagikobaaGreat.Ab
open Go
/-- Arguments under other numbers; no slots, no results. -/
def relab (g : Nat → Option Nat) (ω : Nat → Option Lab) : Nat → Option Lab := fun b => match ω b with
  | some (.arg i) => (g i).map .arg
  | some (.obj id) => some (.obj id)
  | some (.cell id j) => some (.cell id j)
  | _ => none
def linVals (lin : Bool) (vs : List AV) : List AV := match lin with | true => vs | false => vs.map AV.view
def Fen (F : Fence) : Prop := F = Fence.wide ∨ ∃ l, F = Fence.wide.inRound l
section
variable {P : Program} {B N : Nat} {κ : List Nat} {w : World} {H : List AObj} {ω : Nat → Option Lab} {S : Nat → Nat → Prop}
theorem Fen.fn {F : Fence} (h : Fen F) (f : FuncId) : F.fn f := by rcases h with rfl | ⟨l, rfl⟩ <;> trivial
theorem Fen.depth {F : Fence} (h : Fen F) : F.depth = none := by rcases h with rfl | ⟨l, rfl⟩ <;> rfl
theorem Fen.calls {F : Fence} (h : Fen F) {n : Nat} {f : FuncId} {args : Array Value} {w : World} {R : Ending → World → Prop} (k : CallsIn Fence.wide n P f args w R) : CallsIn F n P f args w R := by
  rcases h with rfl | ⟨l, rfl⟩
  · exact k
  · exact CallsIn.inRound l k
theorem Fen.rounds {F : Fence} (h : Fen F) {n l : Nat} {f : FuncId} {tmps : Array Value} {assign body : Code} {w : World} {R : Ending → World → Prop} (k : RoundIn Fence.wide n P l f tmps assign body w R) : RoundIn F n P l f tmps assign body w R := by
  rcases h with rfl | ⟨l, rfl⟩
  · exact k
  · exact k
theorem relab_none {g : Nat → Option Nat} {b : Nat} (h : ω b = none) : relab g ω b = none := by simp [relab, h]
theorem relab_own {g : Nat → Option Nat} {b : Nat} (h : relab g ω b ≠ none) : ω b ≠ none := fun h0 => h (relab_none h0)
theorem relab_ev (g : Nat → Option Nat) (ω : Nat → Option Lab) (S : Nat → Nat → Prop) (w : World) : Ev ω S w (relab g ω) S w :=
  ⟨rfl, rfl, rfl, Nat.le_refl _, fun _ _ _ => rfl, fun _ _ h => ⟨h, rfl⟩, fun _ _ h => .inl h, fun _ h => .inl (relab_own h)⟩
theorem relab_noslot (g : Nat → Option Nat) (ω : Nat → Option Lab) : NoSlot (relab g ω) := fun b i h => by
  unfold relab at h
  split at h <;> simp at h
theorem hrel_relab (hH : HRel B ω κ S w H) (g : Nat → Option Nat) : HRel B (relab g ω) κ S w H := by
  refine ⟨hH.klen, fun id o ho => ?_, hH.swf, fun b l hb => ?_, hH.bsz⟩
  · refine (hH.obj id o ho).frame (Ext.refl κ) (fun _ _ h => ⟨h, rfl⟩) fun b l hb hl => ⟨?_, rfl, fun _ h => h⟩
    rcases hl with rfl | ⟨j, rfl⟩ <;> simp [relab, hb]
  · cases h : ω b with
    | none => simp [relab, h] at hb
    | some l' => exact hH.base b l' h
theorem own_relab {g : Nat → Option Nat} {i j : Nat} (hg : g i = some j) {u : AV} {v : Value} (h : OwnAt ω κ S w (.arg i) u v) : OwnAt (relab g ω) κ S w (.arg j) u v :=
  h.mono (Ext.refl κ) (fun _ _ h => ⟨h, rfl⟩) fun b hb => ⟨by simp [relab, hb, hg], rfl, fun _ h => h⟩
/-- The operands of an operation, read. -/
theorem rd_all {T : List AV} {a : Act} (hA : ARel B N ω κ S w ⟨T, H⟩ a) (ops : List Operand) (ts : List Bool) (lin : Bool) :
    ∃ ω1 S1, Ev ω S w ω1 S1 w ∧ ARel B N ω1 κ S1 w ⟨(rd T ts ops).2, H⟩ a ∧
      VRel (fun i => .arg i) ω1 κ S1 w (linVals lin (rd T ts ops).1) (ops.map a.eval) := by
  obtain ⟨ω1, S1, g, hT, hH, hv⟩ := rd_sim a ops ts T 0 ω S hA.T hA.H
  simp only [Nat.zero_add] at hv
  cases lin with
  | true => exact ⟨ω1, S1, g.ev w, ⟨hT, hH, hA.M.ev (g.ev w)⟩, hv⟩
  | false =>
    obtain ⟨S2, k1, k2, hH2, hv2⟩ := settle_args (rd T ts ops).1 (ops.map a.eval) (fun i => .arg i) S1 (fun i j h => by cases h; rfl) (fun i id => by simp) (fun i id j => by simp) hv hH
    have ev : Ev ω1 S1 w ω1 S2 w := Ev.settle k1 fun b o h => (k2 b o h).imp id fun ⟨i, h⟩ => ⟨_, h⟩
    refine ⟨ω1, S2, (g.ev w).trans ev, ⟨⟨hT.len, fun i u v hu hv => (hT.rel i u v hu hv).mono (Ext.refl κ) (fun b o h => ⟨k1 b o h, rfl⟩), fun i u v hu hv => ?_⟩, hH2, (hA.M.ev (g.ev w)).ev ev⟩, hv2⟩
    refine (hT.own i u v hu hv).mono (Ext.refl κ) (fun b o h => ⟨k1 b o h, rfl⟩) fun b hb => ⟨hb, rfl, fun o h => ?_⟩
    rcases k2 b o h with h | ⟨j, h⟩
    · exact h
    · rw [hb] at h; cases h
theorem execOp_split {C : CallFn} {lo : Nat} {o : Oper} {an : OpAnn} {s s' : St} (h : Ab.execOp P C lo o an s = some s') :
    ∃ r H', opAll P C lo o an.mode (linVals (isLinear o) (rd s.T an.takes (opsOf o)).1) s.H = some (r, H') ∧
      s' = ⟨put (inPlace o an.mode (rd s.T an.takes (opsOf o)).2 r) o.dst r, H'⟩ := by
  unfold Ab.execOp at h
  simp only [Option.map_eq_some_iff] at h
  obtain ⟨⟨r, H'⟩, h, rfl⟩ := h
  exact ⟨r, H', h, rfl⟩
/-- The slot that a thaw or a freeze reads. -/
theorem move_view {C : CallFn} {lo mode : Nat} {o : Oper} {us : List AV} {r : AV} {H' : List AObj} {t : Nat} (hm : mode ≠ 0) (ho : o.op = .move (.tmp t) ∨ o.op = .assign (.tmp t))
    (h : opAll P C lo o mode us H = some (r, H')) {ω : Nat → Option Lab} {κ : List Nat} {S : Nat → Nat → Prop} {w : World} {l : Lab} {v : Value} (hr : Rel κ S w r v) (hw : OwnAt ω κ S w l r v) : Rel κ S w r.view v := by
  by_cases hu : r.noUniq = true
  · exact hr.view hu
  · obtain ⟨cells, len, z, rfl⟩ : ∃ cells len z, r = .lst cells len (.uniq z) := by
      unfold AV.noUniq at hu; split at hu
      · exact ⟨_, _, _, rfl⟩
      · simp at hu
    have h0 : len = 0 := by
      have h' : opMove P lo mode o.type (.tmp t) H us = some (.lst cells len (.uniq z), H') := by rcases ho with ho | ho <;> simpa only [opAll, ho] using h
      unfold opMove at h'
      split at h'
      · split at h'
        · exact absurd rfl hm
        · split at h'
          · split at h'
            · rename_i hz; cases h'; exact hz
            · cases h'
          · cases h'
          · cases h'
          · simp at h'
        · split at h'
          · split at h'
            · simp only [Option.bind_eq_some_iff, Option.map_eq_some_iff, Prod.mk.injEq] at h'
              obtain ⟨row, hrow, n, hn, h1, h2⟩ := h'
              have := congrArg (fun x => match x with | AV.lst _ _ c => c | _ => .shared) h1
              exact absurd this (frzCap_uniq z)
            · simp at h'
          · split at h'
            · split at h'
              · split at h'
                · cases h'
                · cases h'
              · cases h'
            · cases h'
          · simp only [Option.some.injEq, Prod.mk.injEq] at h'
            have := h'.1 ▸ AV.view_plain _
            cases this
      · simp at h'
    subst h0
    have hc : cells = [] := by
      cases hr with
      | lnil c a => rfl
      | lst _ _ _ b o cap f hc hle hu' k kr => exact absurd rfl (hu' z)
      | luniq _ _ z b o cap =>
        rcases hw with ⟨_, _, h⟩ | ⟨_, _, _, _, _, h, _⟩
        · exact h
        · exact List.length_eq_zero_iff.1 (by simpa using h)
    subst hc
    cases hr with
    | lnil c a => exact .lnil _ _
    | lst _ _ _ b o cap f hc hle hu' k kr => exact absurd rfl (hu' z)
    | luniq _ _ z b o cap => exact .lst [] 0 .shared b o cap (fun _ => undef) (by simp) (Nat.zero_le _) (by simp) (by simp) (by simp)
theorem low_mutObj {lo id : Nat} {H H' : List AObj} {f : List AV → Option (List AV)} (h : mutObj lo H id f = some H') : Low lo H H' := by
  unfold mutObj at h
  split at h
  · rename_i hlo
    split at h
    · simp only [Option.map_eq_some_iff] at h; obtain ⟨l', _, rfl⟩ := h; exact Low.set _ _ hlo
    · simp at h
  · simp at h
theorem low_mapUpdate {lo : Nat} {t : TypeId} {us : List AV} {r : AV} {H' : List AObj} (h : opMapUpdate P lo t H us = some (r, H')) : Low lo H H' := by
  unfold opMapUpdate at h
  split at h
  · split at h
    · split at h
      · split at h
        · rename_i hlo
          split at h
          · split at h
            · cases h; exact Low.set _ _ hlo
            · cases h; exact Low.set _ _ hlo
            · cases h
          · cases h
        · cases h
      · cases h
    · cases h
  · cases h
theorem low_delete {lo : Nat} {ts : Array TypeId} {us : List AV} {r : AV} {H' : List AObj} (h : opDelete P lo ts H us = some (r, H')) : Low lo H H' := by
  unfold opDelete at h
  split at h
  · split at h
    · split at h
      · split at h
        · rename_i hlo
          split at h
          · split at h
            · cases h; exact Low.set _ _ hlo
            · cases h; exact Low.refl _ _
            · cases h
          · cases h
        · cases h
      · cases h
    · cases h
  · cases h
theorem same_lookup {t : TypeId} {ok : Bool} {us : List AV} {r : AV} {H' : List AObj} (h : opLookup P t ok H us = some (r, H')) : H' = H := by
  unfold opLookup at h
  split at h
  · split at h
    · split at h
      · split at h
        · simp only [Option.map_eq_some_iff, Prod.mk.injEq] at h; obtain ⟨_, _, _, rfl⟩ := h; rfl
        · cases h
      · cases h
    · cases h
  · cases h
theorem same_entry {us : List AV} {r : AV} {H' : List AObj} (h : opEntry H us = some (r, H')) : H' = H := by
  unfold opEntry at h
  split at h
  · split at h
    · split at h
      · split at h
        · split at h
          · cases h; rfl
          · cases h
        · cases h
      · cases h
    · cases h
  · cases h
theorem low_mutObjG {lo id : Nat} {H H' : List AObj} {f : List AV → Option (List AV)} (h : mutObjG lo H id f = some H') : Low lo H H' := by
  unfold mutObjG at h
  split at h
  · rename_i hlo
    split at h
    · simp only [Option.map_eq_some_iff] at h; obtain ⟨l', _, rfl⟩ := h; exact Low.set _ _ hlo
    · simp only [Option.map_eq_some_iff] at h; obtain ⟨l', _, rfl⟩ := h; exact Low.set _ _ hlo
    · simp at h
  · simp at h
theorem low_appendO {lo : Nat} {ts : Array TypeId} {us : List AV} {r : AV} {H' : List AObj} (h : opAppendO P lo ts H us = some (r, H')) : Low lo H H' := by
  unfold opAppendO at h
  split at h
  · split at h
    · split at h
      · split at h
        · split at h
          · cases h
          · cases h; exact Low.append _ _ _
        · cases h
      · split at h
        · rename_i hlo
          split at h
          · split at h
            · split at h
              · cases h; exact (Low.set _ _ hlo).trans (Low.append _ _ _)
              · cases h
            · cases h
          · cases h
        · cases h
      · cases h
    · cases h
  · cases h
theorem low_range {lo : Nat} {t : TypeId} {us : List AV} {r : AV} {H' : List AObj} (h : opRange P t H us = some (r, H')) : Low lo H H' := by
  unfold opRange at h
  split at h
  · split at h
    · cases h; exact Low.append _ _ _
    · cases h
  · cases h
theorem low_makeMap {lo : Nat} {t : TypeId} {x : Option Operand} {r : AV} {H' : List AObj} (h : opMakeMap P t x H = some (r, H')) : Low lo H H' := by
  unfold opMakeMap at h
  split at h
  · cases h; exact Low.append _ _ _
  · cases h
theorem low_builtin {lo : Nat} {b : Builtin} {ts : Array TypeId} {us : List AV} {r : AV} {H' : List AObj} (h : opBuiltin P lo b ts H us = some (r, H')) : Low lo H H' := by
  have same : ∀ {x : Option AV}, x.map (·, H) = some (r, H') → Low lo H H' := fun h => by
    simp only [Option.map_eq_some_iff, Prod.mk.injEq] at h
    obtain ⟨_, _, _, rfl⟩ := h; exact Low.refl _ _
  unfold opBuiltin at h
  split at h
  · unfold opAppend at h
    split at h
    · split at h
      · exact same h
      · simp at h
    · simp at h
  · unfold opLen at h
    split at h
    · split at h
      · split at h <;> simp at h; obtain ⟨_, rfl⟩ := h; exact Low.refl _ _
      · split at h <;> simp at h; obtain ⟨_, rfl⟩ := h; exact Low.refl _ _
      · split at h <;> simp at h; obtain ⟨_, rfl⟩ := h; exact Low.refl _ _
      · split at h <;> simp at h; obtain ⟨_, rfl⟩ := h; exact Low.refl _ _
    · simp at h
  · unfold opCap at h
    split at h
    · split at h <;> simp at h; obtain ⟨_, rfl⟩ := h; exact Low.refl _ _
    · split at h <;> simp at h; obtain ⟨_, rfl⟩ := h; exact Low.refl _ _
    · simp at h
  · unfold opCopy at h
    split at h
    · split at h
      · split at h
        · split at h
          · simp only [Option.map_eq_some_iff, Prod.mk.injEq] at h
            obtain ⟨H1, h, _, rfl⟩ := h; exact low_mutObj h
          · simp at h
        · simp at h
      · simp at h
    · simp at h
  · unfold opClear at h
    split at h
    · split at h
      · split at h
        · split at h
          · simp only [Option.map_eq_some_iff, Prod.mk.injEq] at h
            obtain ⟨H1, h, _, rfl⟩ := h; exact low_mutObj h
          · simp at h
        · simp at h
      · simp at h
    · split at h <;> simp at h; obtain ⟨_, rfl⟩ := h; exact Low.refl _ _
    · simp at h
  · exact low_delete h
  · exact same h
  · exact same h
  · simp at h
theorem opAll_low {C : CallFn} (hC : CSound P C) {lo mode : Nat} {o : Oper} {us : List AV} {r : AV} {H' : List AObj} (h : opAll P C lo o mode us H = some (r, H')) : Low lo H H' := by
  have same : ∀ {x : Option AV}, x.map (·, H) = some (r, H') → Low lo H H' := fun h => by
    simp only [Option.map_eq_some_iff, Prod.mk.injEq] at h
    obtain ⟨_, _, _, rfl⟩ := h; exact Low.refl _ _
  have hmove : ∀ {t : TypeId} {x : Operand}, opMove P lo mode t x H us = some (r, H') → Low lo H H' := fun h => by
    unfold opMove at h
    split at h
    · split at h
      · split at h
        · simp only [Option.map_eq_some_iff, Prod.mk.injEq] at h
          obtain ⟨_, _, _, rfl⟩ := h; exact Low.refl _ _
        · cases h; exact Low.refl _ _
      · split at h
        · split at h
          · cases h; exact Low.refl _ _
          · cases h; exact Low.append _ _ _
        · cases h; exact Low.refl _ _
        · cases h; exact Low.refl _ _
        · simp at h
      · split at h
        · split at h
          · rename_i hlo
            simp only [Option.bind_eq_some_iff, Option.map_eq_some_iff, Prod.mk.injEq] at h
            obtain ⟨_, _, _, _, _, rfl⟩ := h; exact Low.set _ _ hlo
          · simp at h
        · split at h
          · rename_i hlo
            split at h
            · split at h
              · cases h; exact Low.set _ _ hlo
              · cases h
            · cases h
          · cases h
        · cases h; exact Low.refl _ _
    · simp at h
  unfold opAll at h
  split at h
  · exact hmove h
  · exact hmove h
  · unfold opLoad at h
    split at h
    · split at h
      · exact same h
      · split at h
        · exact same h
        · simp at h
      · split at h
        · split at h
          · rename_i hlo
            split at h
            · split at h
              · cases h; exact Low.set _ _ hlo
              · split at h
                · split at h
                  · simp at h
                  · cases h; exact (Low.set _ _ hlo).trans (Low.append _ _ _)
                · cases h; exact Low.set _ _ hlo
              · cases h; exact Low.refl _ _
              · simp at h
            · split at h
              · cases h; exact Low.set _ _ hlo
              · cases h; exact Low.refl _ _
              · simp at h
            · simp at h
          · simp at h
        · simp at h
    · simp at h
  · unfold opStore at h
    split at h
    · split at h
      · simp only [Option.map_eq_some_iff, Prod.mk.injEq] at h
        obtain ⟨H1, h, _, rfl⟩ := h
        unfold aStore at h
        split at h
        · split at h
          · exact low_mutObjG h
          · simp at h
        · simp at h
      · simp only [Option.map_eq_some_iff, Prod.mk.injEq] at h
        obtain ⟨H1, h, _, rfl⟩ := h
        unfold aStoreR at h
        split at h
        · split at h
          · exact low_mutObj h
          · simp at h
        · simp at h
    · simp at h
  · unfold opBox at h
    split at h
    · split at h
      · simp only [Option.map_eq_some_iff, Prod.mk.injEq] at h
        obtain ⟨_, _, _, rfl⟩ := h; exact Low.append _ _ _
      · split at h
        · split at h
          · cases h; exact Low.refl _ _
          · cases h
        · cases h
    · simp at h
  · unfold opAlloc at h
    split at h
    · simp only [Option.map_eq_some_iff, Prod.mk.injEq] at h
      obtain ⟨_, _, _, rfl⟩ := h; exact Low.append _ _ _
    · split at h
      · simp only [Option.map_eq_some_iff, Prod.mk.injEq] at h
        obtain ⟨_, _, _, rfl⟩ := h; exact Low.append _ _ _
      · cases h
  · split at h
    · exact same h
    · simp only [Option.map_eq_some_iff, Prod.mk.injEq] at h
      obtain ⟨_, _, _, rfl⟩ := h; exact Low.refl _ _
  · unfold opMakeSlice at h
    split at h
    · split at h
      · split at h
        · simp only [Option.map_eq_some_iff, Prod.mk.injEq] at h
          obtain ⟨_, _, _, rfl⟩ := h; exact Low.append _ _ _
        · split at h
          · simp only [Option.map_eq_some_iff, Prod.mk.injEq] at h
            obtain ⟨_, _, _, rfl⟩ := h; exact Low.refl _ _
          · simp at h
      · simp at h
    · simp at h
  · exact low_makeMap h
  · exact low_mapUpdate h
  · rw [same_lookup h]; exact Low.refl _ _
  · exact low_range h
  · rw [same_entry h]; exact Low.refl _ _
  · split at h
    · split at h
      · split at h
        · exact low_builtin h
        · exact low_appendO h
      · exact low_builtin h
    · unfold opCall at h
      split at h
      · unfold doCall at h
        split at h
        · exact (callTo_ok hC h).1
        · exact (callTo_ok hC h).1
        · simp at h
      · simp at h
    · simp at h
  · exact same h
end
end Go.Proofs.YtbnbjjgagikobaaGreat.Ab

/-
  The step of an operation, whatever it is.
-/
namespace Go.Proofs.YtbnbjjgagikobaaGreat.Ab
open Go
section
variable {P : Program} {B N : Nat} {κ : List Nat} {w : World} {H : List AObj} {ω : Nat → Option Lab} {S : Nat → Nat → Prop}
theorem run_callFunc {k : Nat} {f : Func} (hf : P.funcs[k]? = some f) (hb : f.body.isSome = true) (hn : f.name ≠ "runtime.NumGoroutine") (args : Array Value) (w : World) :
    (callFunc k args).run P w = .ok (.enter k args) w := by
  have hb' : f.body ≠ none := fun h => by simp [h] at hb
  simp [callFunc, hf, hb', hn]
/-- A call of a function's value: the arguments, under the callee's numbers. -/
theorem vrel_args {first us cap : List AV} {vs ws xs : List Value} (hf : first.length = vs.length) (p1 : ∀ u ∈ first, u.plain = true) (r1 : ∀ (j : Nat) (u : AV) (v : Value), first[j]? = some u → vs[j]? = some v → Rel κ S w u v)
    (hc : cap.length = ws.length) (p2 : ∀ u ∈ cap, u.plain = true) (r2 : ∀ (j : Nat) (u : AV) (v : Value), cap[j]? = some u → ws[j]? = some v → Rel κ S w u v)
    (hv : VRel (fun i => .arg (i + 1)) ω κ S w us xs) :
    VRel (fun i => .arg i) (relab (fun i => match i with | 0 => none | j + 1 => some (first.length + j)) ω) κ S w (first ++ us ++ cap) (vs ++ xs ++ ws) := by
  have hl := hv.len
  have key : ∀ (i : Nat) (u : AV) (v : Value), (first ++ us ++ cap)[i]? = some u → (vs ++ xs ++ ws)[i]? = some v →
      Rel κ S w u v ∧ OwnAt (relab (fun i => match i with | 0 => none | j + 1 => some (first.length + j)) ω) κ S w (.arg i) u v := fun i u v hu hx => by
    rcases Nat.lt_or_ge i first.length with h1 | h1
    · rw [List.append_assoc, List.getElem?_append_left h1] at hu
      rw [List.append_assoc, List.getElem?_append_left (by omega)] at hx
      exact ⟨r1 i u v hu hx, OwnAt.of_plain (p1 u (List.mem_of_getElem? hu))⟩
    · rw [List.append_assoc, List.getElem?_append_right h1] at hu
      rw [List.append_assoc, List.getElem?_append_right (by omega), ← hf] at hx
      rcases Nat.lt_or_ge (i - first.length) us.length with h2 | h2
      · rw [List.getElem?_append_left h2] at hu
        rw [List.getElem?_append_left (by omega)] at hx
        refine ⟨hv.rel _ u v hu hx, own_relab ?_ (hv.own _ u v hu hx)⟩
        show some (first.length + (i - first.length)) = some i
        congr 1; omega
      · rw [List.getElem?_append_right h2] at hu
        rw [List.getElem?_append_right (by omega), ← hl] at hx
        exact ⟨r2 _ u v hu hx, OwnAt.of_plain (p2 u (List.mem_of_getElem? hu))⟩
  exact ⟨by simp [hf, hc, hl], fun i u v hu hx => (key i u v hu hx).1, fun i u v hu hx => (key i u v hu hx).2⟩
theorem step_sim {F : Fence} (hF : Fen F) {C : CallFn} (hC : CSound P C) {lo : Nat} {o : Oper} {an : OpAnn} {s s' : St} (h : Ab.execOp P C lo o an s = some s') {a : Act} (hA : ARel B N ω κ S w s a)
    {K : Act → World → Prop} {Q : Exit → Act → World → Prop} (hK : ∀ a' w', Step B N ω κ S w s' a' w' → K a' w') : o.wpIn F 0 P a w K Q := by
  obtain ⟨r, H', hop, rfl⟩ := execOp_split h
  obtain ⟨ω1, S1, ev1, hA1, hv⟩ := rd_all (H := s.H) hA (opsOf o) an.takes (isLinear o)
  generalize hus : linVals (isLinear o) (rd s.T an.takes (opsOf o)).1 = us at hop hv
  have hρ : ∀ v, a.eval (.const v) = v := fun _ => rfl
  have hnd : ∀ c, o.op ≠ .defer c := fun c hc => by simp [opAll, hc, op0] at hop
  have hend : ∀ v w', (∀ t, o.op = .move (.tmp t) ∨ o.op = .assign (.tmp t) → v = a.eval (.tmp t)) → Post B (hide ω1) κ S1 w H' r v w' → K (a.put o.dst v) w' := fun v w' hv1 hp => by
    refine hK _ _ (Step.trans (Ext.refl κ) ev1 ?_)
    by_cases hm : an.mode = 0
    · obtain ⟨ω', κ', S', k1, k2, hA', _⟩ := op_done o.dst hA1 hp .junk (fun _ _ _ _ _ => .junk _)
      have hin : inPlace o an.mode (rd s.T an.takes (opsOf o)).2 r = (rd s.T an.takes (opsOf o)).2 := by simp [inPlace, hm]
      rw [hin]
      exact ⟨ω', κ', S', k1, k2, hA'⟩
    · by_cases ht : ∃ t, o.op = .move (.tmp t) ∨ o.op = .assign (.tmp t)
      · obtain ⟨t, ht⟩ := ht
        have hin : inPlace o an.mode (rd s.T an.takes (opsOf o)).2 r = setT (rd s.T an.takes (opsOf o)).2 t r.view := by
          cases hmm : an.mode with
          | zero => exact absurd hmm hm
          | succ m => rcases ht with ht | ht <;> simp [inPlace, ht]
        have hval : ∀ x, a.tmps.toList[t]? = some x → x = a.eval (.tmp t) := fun x hx => by
          have hx' : a.tmps[t]? = some x := by simpa using hx
          simp [Act.eval, hx', Array.getD_eq_getD_getElem?]
        have hpv : v = a.eval (.tmp t) := hv1 t ht
        obtain ⟨ω', κ', S', k1, k2, hA', hrv⟩ := op_done o.dst hA1 hp r.view (fun ω2 κ2 S2 q1 q2 => move_view hm ht hop q1 q2)
        refine ⟨ω', κ', S', k1, k2, ?_, hA'.H, hA'.M⟩
        rw [hin]
        have hT := hA'.T
        simp only at hT
        cases hd : o.dst with
        | none =>
          simp only [hd, put, Act.put, setT_eq] at hT ⊢
          exact hT.swap t (AV.view_plain _) fun x hx => by rw [hval x hx, ← hpv]; exact hrv
        | some d =>
          simp only [hd, put, Act.put, setT_eq] at hT ⊢
          by_cases htd : t = d
          · subst htd
            rw [List.set_set]; exact hT
          · rw [List.set_comm _ _ htd]
            refine hT.swap t (AV.view_plain _) fun x hx => ?_
            rw [Array.toList_setIfInBounds, List.getElem?_set_ne (Ne.symm htd)] at hx
            rw [hval x hx, ← hpv]; exact hrv
      · have hin : inPlace o an.mode (rd s.T an.takes (opsOf o)).2 r = (rd s.T an.takes (opsOf o)).2 := by
          unfold inPlace
          split
          · rfl
          · split
            · rename_i h; exact absurd ⟨_, .inl h⟩ ht
            · rename_i h; exact absurd ⟨_, .inr h⟩ ht
            · rfl
        rw [hin]
        obtain ⟨ω', κ', S', k1, k2, hA', _⟩ := op_done o.dst hA1 hp .junk (fun _ _ _ _ _ => .junk _)
        exact ⟨ω', κ', S', k1, k2, hA'⟩
  refine ⟨fun f _ => hF.fn f, ?_⟩
  rw [Oper.semAt_eq _ _ _ hnd]
  by_cases hcall : ∃ c f, o.op = .call c ∧ c.callee = .value f
  · obtain ⟨c, f, hoc, hcf⟩ := hcall
    have he : opsOf o = f :: c.args.toList := by
      obtain ⟨cal, args, ats⟩ := c
      simp only at hcf; subst hcf
      simp only [opsOf, hoc]
    rw [he] at hv
    simp only [opAll, hoc, hcf] at hop
    have hH0 := hrel_hide hA1.H
    have hv0 := vrel_hide hv
    match us, hop, hv0 with
    | [], hop, _ => simp [opCall] at hop
    | uf :: uargs, hop, hv0 =>
      simp only [opCall] at hop
      have rf := hv0.rel 0 uf (a.eval f) rfl rfl
      have hvt := hv0.tail
      unfold doCall at hop
      split at hop
      · rename_i k first cap
        generalize hfv : a.eval f = vf at rf
        cases rf with
        | func _ _ _ vs ws k1 k2 p1 p2 r1 r2 =>
          obtain ⟨_, ⟨fn, hfn, hbody, hname⟩, hcon⟩ := callTo_ok hC hop
          have hva := vrel_args (ω := hide ω1) (κ := κ) (S := S1) (w := w) (first := first) (cap := cap) (vs := vs.toList) (ws := ws.toList) (by simp [k1]) p1 (fun j u v hu hx => r1 j u v hu (by simpa using hx)) (by simp [k2]) p2 (fun j u v hu hx => r2 j u v hu (by simpa using hx)) hvt
          have hc := hcon B _ κ S1 w _ (hrel_relab hH0 _) (relab_noslot _ _) hva
          have hres : (resolve a.eval c o.type).run P w = .ok { target := .fn (.func k) ws, args := vs ++ c.args.map a.eval } w := by
            simp [resolve, hcf, hfv, Deferred.ofValue]
          have hrun : (Go.execOp a.eval o).run P w = .ok (.enter k (vs ++ c.args.map a.eval ++ ws)) w := by
            simp only [Go.execOp, hoc, Sem.run_bind, hres, Result.andThen_ok, invoke, run_callFunc hfn hbody hname]
          rw [hrun]
          have harr : (vs.toList ++ List.map a.eval c.args.toList ++ ws.toList).toArray = vs ++ c.args.map a.eval ++ ws := by
            apply Array.ext'; simp
          rw [harr] at hc
          refine ⟨fun hdd => (by rw [hF.depth] at hdd; cases hdd), hF.calls (CallsIn.mono hc fun e w' he => ?_)⟩
          cases e with
          | returned v => exact hend v w' (fun t ht => by rcases ht with ht | ht <;> rw [hoc] at ht <;> cases ht) (Post.after (Ext.refl κ) (relab_ev _ _ _ _) he)
          | panicked c => exact he.elim
          | outgrown => exact he.elim
      · rename_i l
        generalize hfv : a.eval f = vf at rf
        cases rf with
        | yield _ b hb =>
          obtain ⟨_, hcon⟩ := callTo_ok hC hop
          have hva := vrel_args (ω := hide ω1) (κ := κ) (S := S1) (w := w) (first := []) (cap := []) (vs := []) (ws := []) rfl (by simp) (by simp) rfl (by simp) (by simp) hvt
          simp only [List.nil_append, List.append_nil] at hva
          obtain ⟨L, h1, h2, h3⟩ := hcon B _ κ S1 w _ b (hrel_relab hH0 _) (relab_noslot _ _) hva hb
          have hres : (resolve a.eval c o.type).run P w = .ok { target := .fn (.yield b) #[], args := c.args.map a.eval } w := by
            simp [resolve, hcf, hfv, Deferred.ofValue]
          have hsz : (c.args.map a.eval).size = L.params.size := by rw [← h2]; simp
          have hrun : (Go.execOp a.eval o).run P w = .ok (.round b L.fn (roundTmps L (List.map a.eval c.args.toList)) L.assign L.body) w := by
            simp only [Go.execOp, hoc, Sem.run_bind, hres, Result.andThen_ok, invoke]
            have : (List.map a.eval c.args.toList).toArray = c.args.map a.eval := by apply Array.ext'; simp
            simp [Instr.yield, run_getLoop h1, hsz, roundTmps, this]
          rw [hrun]
          refine ⟨fun hdd => (by rw [hF.depth] at hdd; cases hdd), hF.rounds (RoundIn.mono h3 fun e w' he => ?_)⟩
          cases e with
          | returned v => exact hend v w' (fun t ht => by rcases ht with ht | ht <;> rw [hoc] at ht <;> cases ht) (Post.after (Ext.refl κ) (relab_ev _ _ _ _) he)
          | panicked c => exact he.elim
          | outgrown => exact he.elim
      · simp at hop
  · have hnc : ∀ c f, o.op = .call c → c.callee ≠ .value f := fun c f h1 h2 => hcall ⟨c, f, h1, h2⟩
    have hp : isLinear o = false → ∀ u ∈ us, u.plain = true := fun hl u hu => by
      rw [hl] at hus; subst hus
      obtain ⟨x, _, rfl⟩ := List.mem_map.1 hu
      exact AV.view_plain x
    rcases sim_op hρ (hrel_hide hA1.H) hop hnc hp (vrel_hide hv) with ⟨v, w', h1, h2⟩ | ⟨w', h1, h2⟩
    · rw [h1]; exact hend v w' (fun t ht => by rcases ht with ht | ht <;> simp [Go.execOp, ht] at h1 <;> exact h1.1.symm) h2
    · rw [h1]; exact hend undef w' (fun t ht => by rcases ht with ht | ht <;> simp [Go.execOp, ht] at h1) h2
end
end Go.Proofs.YtbnbjjgagikobaaGreat.Ab

/-
  Regions in the order of the text.
-/
namespace Go.Proofs.YtbnbjjgagikobaaGreat.Ab
open Go
section
variable {P : Program} {B N : Nat} {κ : List Nat} {w : World} {H : List AObj} {ω : Nat → Option Lab} {S : Nat → Nat → Prop}
theorem ARel.getT {s : St} {a : Act} (hA : ARel B N ω κ S w s a) (t : Nat) : Rel κ S w (getT s.T t) (a.tmps.getD t undef) := by
  rw [getT_eq, List.getD_eq_getElem?_getD]
  cases h : s.T[t]? with
  | none => exact .junk _
  | some u =>
    have hl := hA.T.len
    have hlt : t < s.T.length := (List.getElem?_eq_some_iff.1 h).1
    have hlt2 : t < a.tmps.size := by rw [← Array.length_toList, ← hl]; exact hlt
    have hx : a.tmps.toList[t]? = some (a.tmps.getD t undef) := by simp [Array.getD_eq_getD_getElem?, hlt2]
    exact hA.T.rel t u _ h hx
theorem ARel.ev {s : St} {a : Act} (hA : ARel B N ω κ S w s a) (x : Operand) : Rel κ S w (ev s.T x) (a.eval x) := by
  cases x with
  | tmp t => exact hA.getT t
  | const v => exact absVal_rel κ S w v
  | global g => exact .junk _
  | func f => exact .func f [] [] #[] #[] rfl rfl (by simp) (by simp) (by simp) (by simp)
theorem wantedA_sound {ops : Array Oper} {o : Oper} {s : St} {a : Act} (hA : ARel B N ω κ S w s a) {x : Bool} (h : wantedA ops o s.T = some x) : Region.wanted o (yielded ops a.tmps) = x := by
  unfold wantedA at h
  unfold Region.wanted
  split at h
  · rename_i hg; rw [hg]; simpa using h
  · rename_i j want hg
    rw [hg]
    split at h
    · rename_i d hd
      split at h
      · rename_i b hb
        have hr := hA.getT d
        rw [hb] at hr
        have := hr.bool_inv
        simp only [Option.some.injEq] at h
        subst h
        have hlt : a.tmps[d]? = some (.bool b) := by
          rw [Array.getD_eq_getD_getElem?] at this
          cases h : a.tmps[d]? with
          | none => rw [h] at this; simp [undef] at this
          | some v => rw [h] at this; simpa using this
        simp [yielded, hd, hlt]
      · rename_i hb
        have hr := hA.getT d
        rw [hb] at hr
        simp only [Option.some.injEq] at h
        subst h
        have hn : yielded ops a.tmps j = none := by
          unfold yielded
          rw [hd, Option.bind_some]
          cases h : a.tmps[d]? with
          | none => rfl
          | some v =>
            rw [Array.getD_eq_getD_getElem?, h] at hr
            simp only [Option.getD_some] at hr
            cases hr; rfl
        simp [hn]
      · simp at h
    · simp at h
theorem ARel.skip {T : List AV} {a : Act} (hA : ARel B N ω κ S w ⟨T, H⟩ a) (d : Option Tmp) : ARel B N ω κ S w ⟨put T d (.tuple []), H⟩ (a.put d undef) := by
  cases d with
  | none => exact hA
  | some d =>
    refine ⟨?_, hA.H, hA.M⟩
    have hT := hA.T
    simp only [put, setT_eq, Act.put] at hT ⊢
    have key : ∀ (i : Nat) (u : AV) (x : Value), (T.set d (.tuple []))[i]? = some u → (a.tmps.toList.set d undef)[i]? = some x → Rel κ S w u x ∧ OwnAt ω κ S w (.slot i) u x := fun i u x hu hx => by
      by_cases hid : d = i
      · subst hid
        have hlt : d < T.length := by have := (List.getElem?_eq_some_iff.1 hu).1; simpa using this
        rw [List.getElem?_set_self hlt] at hu
        cases hu
        rw [List.getElem?_set_self (by have := (List.getElem?_eq_some_iff.1 hx).1; simpa using this)] at hx
        cases hx
        exact ⟨.tuple _ _ rfl (by simp) (by simp), OwnAt.of_plain rfl⟩
      · rw [List.getElem?_set_ne hid] at hu hx
        exact ⟨hT.rel i u x hu hx, hT.own i u x hu hx⟩
    refine ⟨by simpa using hT.len, fun i u x hu hx => ?_, fun i u x hu hx => ?_⟩
    · rw [Array.toList_setIfInBounds] at hx; exact (key i u x hu hx).1
    · rw [Array.toList_setIfInBounds] at hx; exact (key i u x hu hx).2
theorem zipKeep_get : ∀ (k : List Bool) (T : List AV) (i : Nat), (zipKeep k T)[i]? = T[i]? ∨ (zipKeep k T)[i]? = (T[i]?).map fun _ => .junk
  | [], T, i => .inl (by simp [zipKeep])
  | b :: bs, [], i => .inl (by simp [zipKeep])
  | b :: bs, v :: vs, i => by
    cases i with
    | zero => cases b <;> simp [zipKeep]
    | succ i => simpa [zipKeep] using zipKeep_get bs vs i
theorem zipKeep_len : ∀ (k : List Bool) (T : List AV), (zipKeep k T).length = T.length
  | [], T => by simp [zipKeep]
  | b :: bs, [] => by simp [zipKeep]
  | b :: bs, v :: vs => by simp [zipKeep, zipKeep_len bs vs]
theorem ARel.keep {s : St} {a : Act} (hA : ARel B N ω κ S w s a) (ks : List (Nat × List Bool)) (id : Nat) : ARel B N ω κ S w (keepSt ks id s) a := by
  unfold keepSt
  split
  · rename_i k _
    refine ⟨⟨by rw [zipKeep_len]; exact hA.T.len, fun i u x hu hx => ?_, fun i u x hu hx => ?_⟩, hA.H, hA.M⟩
    all_goals simp only at hu
    · rcases zipKeep_get k s.T i with h | h
      · rw [h] at hu; exact hA.T.rel i u x hu hx
      · rw [h] at hu
        simp only [Option.map_eq_some_iff] at hu
        obtain ⟨_, _, rfl⟩ := hu; exact .junk _
    · rcases zipKeep_get k s.T i with h | h
      · rw [h] at hu; exact hA.T.own i u x hu hx
      · rw [h] at hu
        simp only [Option.map_eq_some_iff] at hu
        obtain ⟨_, _, rfl⟩ := hu; exact OwnAt.of_plain rfl
  · exact hA
theorem Step.here {s : St} {a : Act} (hA : ARel B N ω κ S w s a) : Step B N ω κ S w s a w := ⟨ω, κ, S, Ext.refl κ, Ev.refl ω S w, hA⟩
theorem list_sim {F : Fence} (hF : Fen F) {C : CallFn} (hC : CSound P C) {lo : Nat} {ops : Array Oper} {s' : St} {Q : Exit → Act → World → Prop} :
    ∀ (rest : List Oper) (as : List OpAnn) (s : St) (a : Act) (w : World) (ω : Nat → Option Lab) (κ : List Nat) (S : Nat → Nat → Prop), execOps P C lo ops rest as s = some s' → ARel B N ω κ S w s a →
      (∀ a' w', Step B N ω κ S w s' a' w' → Q .normal a' w') → wpListIn F 0 P ops Q rest a w
  | [], as, s, a, w, ω, κ, S, h, hA, hQ => by
    simp only [execOps, Option.some.injEq] at h; subst h
    exact hQ a w (Step.here hA)
  | o :: rest, as, s, a, w, ω, κ, S, h, hA, hQ => by
    simp only [execOps] at h
    unfold wpListIn
    split at h
    · rename_i hw
      rw [wantedA_sound hA hw]
      simp only [if_true]
      simp only [Option.bind_eq_some_iff] at h
      obtain ⟨s1, h1, h2⟩ := h
      refine step_sim hF hC h1 hA fun a' w' hs => ?_
      obtain ⟨ω1, κ1, S1, k1, k2, hA1⟩ := hs
      exact list_sim hF hC rest as.tail s1 a' w' ω1 κ1 S1 h2 hA1 fun a'' w'' hs2 => hQ a'' w'' (hs2.trans k1 k2)
    · rename_i hw
      rw [wantedA_sound hA hw]
      simp only [Bool.false_eq_true, if_false]
      exact ⟨fun f _ => hF.fn f, list_sim hF hC rest as.tail _ _ w ω κ S h (hA.skip o.dst) hQ⟩
    · simp at h
end
end Go.Proofs.YtbnbjjgagikobaaGreat.Ab
