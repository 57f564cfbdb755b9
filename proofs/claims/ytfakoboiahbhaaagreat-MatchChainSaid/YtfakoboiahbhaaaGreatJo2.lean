
import Derived.Test.YtfakoboiahbhaaaGreatJo1
import Derived.RangeFuncRecord
import Derived.MapKept
import Derived.RangeFuncLeaves
import Derived.RangeFuncCalls
import Derived.RangeFuncNested
import Derived.TacticsIn
set_option linter.unusedSimpArgs false
set_option linter.unusedVariables false
set_option linter.unusedSectionVars false

namespace Go.Proofs.YtfakoboiahbhaaaGreat.Ab
open Go
section
variable {P:Program} {B:Nat} {κ:List Nat} {w:World} {H:List AObj} {ω:Nat→Option Lab} {S:Nat→Nat→Prop}
def OpVal (P:Program) (ρ:Operand→Value) (o:Oper) (w:World) (R:Value→World→Prop):Prop :=
 (∃ v w',(Go.execOp ρ o).run P w=.ok (.value v) w'∧R v w')∨(∃ w',(Go.execOp ρ o).run P w=.ok .skip w'∧R undef w')
theorem OpVal.makes {ρ:Operand→Value} {o:Oper} {r:AV} (hH:HRel B ω κ S w H) (h:Makes P o ρ κ S w r) (hp:r.plain=true):OpVal P ρ o w (Post B ω κ S w H r):=by
 obtain ⟨v,h1,h2⟩:=h
 exact .inl ⟨v,w,h1,Post.same hH h2 hp⟩
theorem VRel.one {lab:Nat→Lab} {us:List AV} {ρ:Operand→Value} {x:Operand} (h:VRel lab ω κ S w us ([x].map ρ)):∃ u,us=[u]∧Rel κ S w u (ρ x)∧OwnAt ω κ S w (lab 0) u (ρ x):=by
 match us,h with
 | [u],h=>exact ⟨u,rfl,h.rel 0 u _ rfl rfl,h.own 0 u _ rfl rfl⟩
 | [],h=>exact absurd h.len (by simp)
 | _::_::_,h=>exact absurd h.len (by simp)
theorem VRel.two {lab:Nat→Lab} {us:List AV} {ρ:Operand→Value} {x y:Operand} (h:VRel lab ω κ S w us ([x,y].map ρ)) :
  ∃ u v,us=[u,v]∧Rel κ S w u (ρ x)∧OwnAt ω κ S w (lab 0) u (ρ x)∧Rel κ S w v (ρ y)∧OwnAt ω κ S w (lab 1) v (ρ y):=by
 match us,h with
 | [u,v],h=>exact ⟨u,v,rfl,h.rel 0 u _ rfl rfl,h.own 0 u _ rfl rfl,h.rel 1 v _ rfl rfl,h.own 1 v _ rfl rfl⟩
 | [],h=>exact absurd h.len (by simp)
 | [_],h=>exact absurd h.len (by simp)
 | _::_::_::_,h=>exact absurd h.len (by simp)
theorem aArith_plain {op:BinOp} {k:IntKind} {a b:Int} {r:AV} (h:aArith op k a b=some r):r.plain=true:=by
 cases op <;> simp [aArith] at h <;> first | (subst h;rfl) | (obtain ⟨_,rfl⟩:=h;rfl)
theorem aBin_plain {op:BinOp} {t:TypeId} {x y r:AV} (h:aBin P op t x y=some r):r.plain=true:=by
 unfold aBin at h
 split at h
 ·split at h
  ·unfold aShift at h;split at h <;> simp at h;subst h;rfl
  ·unfold aShift at h;split at h <;> simp at h;subst h;rfl
  ·split at h
   ·exact aArith_plain h
   ·simp at h
 ·split at h <;> simp at h <;> subst h <;> rfl
 ·split at h
  ·split at h
   ·split at h
    ·split at h
     ·simp only [Option.map_eq_some_iff] at h;obtain ⟨_,_,rfl⟩:=h;rfl
     ·simp only [Option.map_eq_some_iff] at h;obtain ⟨_,_,rfl⟩:=h;rfl
     ·simp at h
    ·simp at h
   ·simp at h
  ·split at h
   ·split at h
    ·simp only [Option.map_eq_some_iff] at h;obtain ⟨_,_,rfl⟩:=h;rfl
    ·simp only [Option.map_eq_some_iff] at h;obtain ⟨_,_,rfl⟩:=h;rfl
    ·simp at h
   ·simp at h
  ·simp at h
 ·simp at h
theorem aIndexAddr_plain {t:TypeId} {x y r:AV} (h:aIndexAddr P t x y=some r):r.plain=true:=by
 unfold aIndexAddr at h
 split at h <;> simp only [Option.bind_eq_some_iff,Option.map_eq_some_iff,reduceCtorEq] at h <;> (try (obtain ⟨_,_,_,_,rfl⟩:=h;rfl))
theorem aFieldAddr_plain {t:TypeId} {x r:AV} {f:Nat} (h:aFieldAddr P t x f=some r):r.plain=true:=by
 unfold aFieldAddr at h
 split at h <;> simp only [Option.bind_eq_some_iff,reduceCtorEq] at h <;> (try (obtain ⟨_,_,_,_,h⟩:=h;split at h <;> simp at h;subst h;rfl))
theorem opsOf_of {o:Oper} (h:∀ c,o.op≠.call c):opsOf o=o.op.operands.toList:=by
 unfold opsOf
 split
 ·rename_i heq;exact absurd heq (h _)
 ·rename_i heq;exact absurd heq (h _)
 ·rfl
theorem sim_op0 {ρ:Operand→Value} (hρ:∀ v,ρ (.const v)=v) {o:Oper} {us:List AV} {r:AV} (hH:HRel B ω κ S w H) (h:op0 P o us=some r) (hnl:isLinear o=false)
  (hp:∀ u∈us,u.plain=true) (hv:VRel (fun i=>.arg i) ω κ S w us ((opsOf o).map ρ)):OpVal P ρ o w (Post B ω κ S w H r):=by
 cases hop:o.op <;> simp only [op0,hop,reduceCtorEq] at h <;> rw [opsOf_of (by simp [hop])] at hv <;> (try (simp [isLinear,hop] at hnl;done))
 case pick c a b =>
  replace hv:VRel (fun i=>.arg i) ω κ S w us ([c,a,b].map ρ):=by simpa [hop,Op.operands] using hv
  unfold opPick at h
  split at h
  ·rename_i x u1 u2
   have r1:=hv.rel 0 _ _ rfl rfl
   have r2:=hv.rel 1 _ _ rfl rfl
   have r3:=hv.rel 2 _ _ rfl rfl
   cases x
   ·cases h;exact OpVal.makes hH (makes_pick hop r1 r2 r3) (hp u2 (by simp))
   ·cases h;exact OpVal.makes hH (makes_pick hop r1 r2 r3) (hp u1 (by simp))
  ·simp at h
 case build t parts =>
  have hv:VRel (fun i=>.arg i) ω κ S w us ((parts.toList.map (·.2)).map ρ):=by simpa [hop,Op.operands] using hv
  have hlen:us.length=parts.toList.length:=by simpa using hv.len
  obtain ⟨v,q1,q2,q3⟩:=sim_build (κ:=κ) (S:=S) (w:=w) (parts':=parts.map fun (x:Nat×Operand)=>(x.1,ρ x.2)) h (by simp [zipParts,List.map_fst_zip,hlen]) (fun j x y hx hy=>by
   simp only [zipParts,List.getElem?_zip_eq_some] at hx
   obtain ⟨hx1,hx2⟩:=hx
   simp only [Array.toList_map,List.getElem?_map,Option.map_eq_some_iff] at hy
   obtain ⟨p,hp1,rfl⟩:=hy
   exact ⟨hp _ (List.mem_of_getElem? hx2),hv.rel j _ _ hx2 (by simp only [List.getElem?_map,hp1,Option.map_some])⟩)
  exact .inl ⟨v,w,by simp [Go.execOp,hop,q1],Post.same hH q2 q3⟩
 case buildSlice t len parts =>
  have hv:VRel (fun i=>.arg i) ω κ S w us ((parts.toList.map (·.2)).map ρ):=by simpa [hop,Op.operands] using hv
  have hlen:us.length=parts.toList.length:=by simpa using hv.len
  simp only [Option.map_eq_some_iff] at h
  obtain ⟨⟨cs,s⟩,h,rfl⟩:=h
  obtain ⟨_,w',q1,q2⟩:=sim_buildSlice (parts':=parts.map fun (x:Nat×Operand)=>(x.1,ρ x.2)) hH h (by simp [zipParts,List.map_fst_zip,hlen]) (fun j x y hx hy=>by
   simp only [zipParts,List.getElem?_zip_eq_some] at hx
   obtain ⟨hx1,hx2⟩:=hx
   simp only [Array.toList_map,List.getElem?_map,Option.map_eq_some_iff] at hy
   obtain ⟨p,hp1,rfl⟩:=hy
   exact ⟨hp _ (List.mem_of_getElem? hx2),hv.rel j _ _ hx2 (by simp only [List.getElem?_map,hp1,Option.map_some])⟩)
  exact .inl ⟨_,w',by simp [Go.execOp,hop,q1],q2⟩
 case nilCheck x =>
  obtain ⟨u,rfl,r1,_⟩:=VRel.one (x:=x) (by simpa [hop,Op.operands] using hv)
  unfold opNil at h
  split at h
  ·rename_i id off heq
   simp at heq;subst heq;cases h
   exact OpVal.makes hH (makes_nil hop r1) rfl
  ·rename_i cells heq
   simp at heq;subst heq;cases h
   exact OpVal.makes hH (makes_nil2 hop r1) rfl
  ·simp at h
 case unOp op t x =>
  obtain ⟨u,rfl,r1,_⟩:=VRel.one (x:=x) (by simpa [hop,Op.operands] using hv)
  simp only [op1of] at h
  refine OpVal.makes hH (makes_un hop h r1) ?_
  unfold aUn at h
  split at h <;> (try split at h) <;> simp at h <;> subst h <;> rfl
 case convert s d x =>
  obtain ⟨u,rfl,r1,_⟩:=VRel.one (x:=x) (by simpa [hop,Op.operands] using hv)
  simp only [op1of] at h
  refine OpVal.makes hH (makes_conv hop h r1) ?_
  unfold aConv at h
  split at h
  ·split at h
   ·simp at h;subst h;rfl
   ·simp at h
  ·simp at h
 case makeFunc fn first captured =>
  refine OpVal.makes hH (makes_func hop h (by simpa [hop,Op.operands] using hv) hp) ?_
  unfold opMakeFunc at h
  split at h
  ·split at h <;> simp at h;subst h;rfl
  ·simp at h
 case fieldAddr t x f =>
  obtain ⟨u,rfl,r1,_⟩:=VRel.one (x:=x) (by simpa [hop,Op.operands] using hv)
  simp only [op1of] at h
  exact OpVal.makes hH (makes_fieldAddr hop h r1) (aFieldAddr_plain h)
 case field t x f =>
  obtain ⟨u,rfl,r1,_⟩:=VRel.one (x:=x) (by simpa [hop,Op.operands] using hv)
  simp only [op1of,Option.map_eq_some_iff] at h
  obtain ⟨r',h,rfl⟩:=h
  exact OpVal.makes hH (makes_field hop h r1) (AV.view_plain _)
 case extract x i =>
  obtain ⟨u,rfl,r1,_⟩:=VRel.one (x:=x) (by simpa [hop,Op.operands] using hv)
  simp only [op1of,Option.map_eq_some_iff] at h
  obtain ⟨r',h,rfl⟩:=h
  exact OpVal.makes hH (makes_extract hop h r1) (AV.view_plain _)
 case indexAddr t x i =>
  obtain ⟨u,v,rfl,r1,_,r2,_⟩:=VRel.two (x:=x) (y:=i) (by simpa [hop,Op.operands] using hv)
  simp only [op2of] at h
  exact OpVal.makes hH (makes_indexAddr hop h r1 r2 (AV.plain_noUniq (hp u (by simp)))) (aIndexAddr_plain h)
 case index t x i =>
  obtain ⟨u,v,rfl,r1,_,r2,_⟩:=VRel.two (x:=x) (y:=i) (by simpa [hop,Op.operands] using hv)
  simp only [op2of,Option.map_eq_some_iff] at h
  obtain ⟨r',h,rfl⟩:=h
  exact OpVal.makes hH (makes_index hop h r1 r2) (AV.view_plain _)
 case binOp op t x y yt =>
  obtain ⟨u,v,rfl,r1,_,r2,_⟩:=VRel.two (x:=x) (y:=y) (by simpa [hop,Op.operands] using hv)
  split at h
  ·rename_i hny
   refine OpVal.makes hH (makes_eqNil hop hny h r1 hρ) ?_
   unfold aEqNil at h
   dsimp only at h
   repeat' split at h
   all_goals first | (simp at h;done) | (simp at h;subst h;rfl)
  ·simp only [op2of] at h
   refine OpVal.makes hH ?_ (aBin_plain h)
   cases u <;> cases v <;> (try (simp [aBin] at h;done))
   ·exact makes_bin_bool hop h r1 r2
   ·exact makes_bin_int hop h r1 r2
   ·exact makes_bin_agg hop h r1 r2
theorem rel_full {cells:List AV} {len:Nat} {a:Option Addr} (h:Rel κ S w (.lst cells len .shared) (.slice a len len)):Rel κ S w (.lst cells len .full) (.slice a len len):=by
 cases h with
 | lnil _ a=>exact .lnil _ _
 | lst _ _ _ b o cap f hc hle hu hcell hrel=>exact .lst _ _ _ b o len f (fun _=>rfl) hle (fun z h=>by cases h) hcell hrel
theorem sim_buildSliceO {ρ:Operand→Value} (hρ:∀ v,ρ (.const v)=v) {o:Oper} {us:List AV} {t:TypeId} {len:Nat} {parts:Array (Nat×Operand)} {cs:List AV} {s:Nat} (hH:HRel B ω κ S w H) (hop:o.op=.buildSlice t len parts)
  (h:aBuildCells P t len (zipParts parts.toList us)=some (cs,s)) (hp:∀ u∈us,u.plain=true) (hv:VRel (fun i=>.arg i) ω κ S w us ((opsOf o).map ρ)) :
  ∃ v w',(Go.execOp ρ o).run P w=.ok (.value v) w'∧Post B ω κ S w H (.lst cs len .full) v w':=by
 rw [opsOf_of (by simp [hop])] at hv
 have hv:VRel (fun i=>.arg i) ω κ S w us ((parts.toList.map (·.2)).map ρ):=by simpa [hop,Op.operands] using hv
 have hlen:us.length=parts.toList.length:=by simpa using hv.len
 obtain ⟨b,w',q1,ω',κ',S',p1,p2,p3,p4,p5⟩:=sim_buildSlice (parts':=parts.map fun (x:Nat×Operand)=>(x.1,ρ x.2)) hH h (by simp [zipParts,List.map_fst_zip,hlen]) (fun j x y hx hy=>by
  simp only [zipParts,List.getElem?_zip_eq_some] at hx
  obtain ⟨hx1,hx2⟩:=hx
  simp only [Array.toList_map,List.getElem?_map,Option.map_eq_some_iff] at hy
  obtain ⟨p,hp1,rfl⟩:=hy
  exact ⟨hp _ (List.mem_of_getElem? hx2),hv.rel j _ _ hx2 (by simp only [List.getElem?_map,hp1,Option.map_some])⟩)
 obtain ⟨S1,k1,k2,k3,r1,_,_⟩:=settle_main p3 p4 p5
 exact ⟨_,w',by simp [Go.execOp,hop,q1],ω',κ',S1,p1,p2.trans (Ev.settle k1 fun b o h=>(k2 b o h).imp id fun h=>⟨_,h⟩),
  p3.settle k1 (fun b o h=>(k2 b o h).imp id fun h=>⟨_,h,by simp,by simp⟩) k3,rel_full r1,OwnAt.of_plain rfl⟩
end
end Go.Proofs.YtfakoboiahbhaaaGreat.Ab


namespace Go.Proofs.YtfakoboiahbhaaaGreat.Ab
open Go
section
variable {P:Program} {B:Nat} {κ:List Nat} {w:World} {H:List AObj} {ω:Nat→Option Lab} {S:Nat→Nat→Prop}
theorem putObj_cell {b b' o:Nat} {x:Obj} (h:b'≠b):(w.putObj b x).cell? ⟨b',o,none⟩=w.cell? ⟨b',o,none⟩:=by
 unfold World.cell?;simp only [World.putObj_heap_other h]
theorem map_write (hH:HRel B ω κ S w H) {id:Nat} {es es':List (Nat×AV×AV)} {clock clock':Nat} (hid:H[id]?=some (.map es clock)) {b:Nat} {ents':Array MapEntry}
  (a1:κ[id]?=some b) (a2:ω b=some (.obj id)) (a5:∀ o,¬ S b o) (hl:ents'.size=es'.length)
  (hr:∀ (j i:Nat) (k v:AV) (x:MapEntry),es'[j]?=some (i,k,v)→ents'[j]?=some x→x.born=i∧k.plain=true∧Rel κ S w k x.key∧v.plain=true∧Rel κ S w v x.val) :
  Ev ω S w ω S (w.putObj b (.map ents' clock'))∧HRel B ω κ S (w.putObj b (.map ents' clock')) (H.set id (.map es' clock')):=by
 have hSne:∀ b' o,S b' o→b'≠b:=fun b' o hs e=>a5 o (e ▸ hs)
 have hb:=(hH.base b _ a2).2
 have ev:Ev ω S w ω S (w.putObj b (.map ents' clock')) :=
  ⟨rfl,rfl,rfl,by simp,fun b' _ hn=>World.putObj_heap_other (fun e=>by subst e;rw [a2] at hn;cases hn),fun b' o hs=>⟨hs,putObj_cell (hSne b' o hs)⟩,fun b' o hs=>.inl hs,fun b' h=>.inl h⟩
 refine ⟨ev,by simpa using hH.klen,fun id' o ho=>?_,fun b' o hs=>?_,fun b' l h=>by simpa using hH.base b' l h,by simpa using hH.bsz⟩
 ·by_cases hid':id'=id
  ·subst hid'
   rw [List.getElem?_set_self (List.getElem?_eq_some_iff.1 hid).1] at ho
   cases ho
   refine ⟨b,ents',a1,a2,World.putObj_heap_same hb,hl,a5,fun j i k v x hu hx=>?_⟩
   obtain ⟨c1,c2,c3,c4,c5⟩:=hr j i k v x hu hx
   exact ⟨c1,c2,c3.mono (Ext.refl κ) ev.set,c4,c5.mono (Ext.refl κ) ev.set⟩
  ·rw [List.getElem?_set_ne (fun e=>hid' e.symm)] at ho
   refine (hH.obj id' o ho).frame (Ext.refl κ) ev.set fun b' l0 hb' hl0=>?_
   have hne:b'≠b:=fun e=>by
    subst e;rw [a2] at hb';cases hb'
    rcases hl0 with h | ⟨j,h⟩
    ·cases h;exact hid' rfl
    ·cases h
   exact ⟨hb',World.putObj_heap_other hne,fun o hs=>hs⟩
 ·obtain ⟨v,hv⟩:=hH.swf b' o hs
  exact ⟨v,(putObj_cell (hSne b' o hs)).trans hv⟩
theorem eqInts_true:∀ {xs ys:List AV},eqInts xs ys=some true→xs=ys∧∀ u∈xs,∃ k a,u=.int k a
 | [],[],_=>⟨rfl,by simp⟩
 | x::xs,y::ys,h=>by
   obtain ⟨k,a,b,e',rfl,rfl,h',he⟩:=eqInts_cons h
   have he:=he.symm
   simp only [Bool.and_eq_true,beq_iff_eq] at he
   obtain ⟨rfl,rfl⟩:=he
   obtain ⟨rfl,h2⟩:=eqInts_true h'
   exact ⟨rfl,fun u hu=>by
    rcases List.mem_cons.1 hu with rfl | hu
    ·exact ⟨_,_,rfl⟩
    ·exact h2 u hu⟩
 | [],y::ys,h=>by simp [eqInts] at h
 | x::xs,[],h=>by cases x <;> simp [eqInts] at h
theorem sameBits_ints (n:Nat):∀ (l:List Value),(∀ v∈l,∃ k a,v=.int k a)→((l.zip l).all fun (x:Value×Value)=>Instr.sameBits n x.1 x.2)=true
 | [],_=>rfl
 | v::l,h=>by
   obtain ⟨k,a,rfl⟩:=h v (by simp)
   have ih:=sameBits_ints n l fun v hv=>h v (by simp [hv])
   have h0:Instr.sameBits n (.int k a) (.int k a)=true:=by cases n <;> simp [Instr.sameBits]
   simp only [List.zip_cons_cons,List.all_cons,h0,Bool.true_and]
   exact ih
theorem rel_ints_eq {xs:List AV} {V W:Array Value} (hi:∀ u∈xs,∃ k a,u=.int k a) (r1:Rel κ S w (.agg xs) (.agg V)) (r2:Rel κ S w (.agg xs) (.agg W)):V=W∧∀ v∈V.toList,∃ k a,v=.int k a:=by
 cases r1 with
 | agg _ _ l1 _ _ q1 =>
   cases r2 with
   | agg _ _ l2 _ _ q2 =>
     have key:∀ j (h:j<xs.length),∃ k a,V[j]?=some (.int k a)∧W[j]?=some (.int k a):=fun j h=>by
      obtain ⟨k,a,hk⟩:=hi xs[j] (List.getElem_mem h)
      have hx:xs[j]?=some (.int k a):=by rw [List.getElem?_eq_getElem h,hk]
      have hv:=q1 j _ V[j] hx (Array.getElem?_eq_getElem (by omega))
      have hw:=q2 j _ W[j] hx (Array.getElem?_eq_getElem (by omega))
      exact ⟨k,a,by rw [Array.getElem?_eq_getElem (by omega),hv.int_inv],by rw [Array.getElem?_eq_getElem (by omega),hw.int_inv]⟩
     refine ⟨Array.ext_getElem? fun j=>?_,fun v hv=>?_⟩
     ·rcases Nat.lt_or_ge j xs.length with h | h
      ·obtain ⟨k,a,h1,h2⟩:=key j h;rw [h1,h2]
      ·rw [Array.getElem?_eq_none (by omega),Array.getElem?_eq_none (by omega)]
     ·obtain ⟨j,hj⟩:=List.mem_iff_getElem?.1 hv
      have hlt:j<xs.length:=by have:=(List.getElem?_eq_some_iff.1 hj).1;simp at this;omega
      obtain ⟨k,a,h1,_⟩:=key j hlt
      rw [Array.getElem?_toList,h1] at hj
      cases hj;exact ⟨k,a,rfl⟩
theorem key_stays {k k':AV} {x y:Value} (h:eqKey k k'=some true) (r1:Rel κ S w k x) (r2:Rel κ S w k' y):(Instr.keyThatStays y x).run P w=.ok x w:=by
 have hb:Instr.sameBits 10000 y x=true:=by
  unfold eqKey at h
  split at h
  ·split at h
   ·rename_i q a q' b hq
    subst hq
    simp at h;subst h
    rw [r1.int_inv,r2.int_inv];simp [Instr.sameBits]
   ·simp at h
  ·obtain ⟨rfl,hi⟩:=eqInts_true h
   have e1:∃ V,x=.agg V:=by cases r1 with | agg as vs=>exact ⟨_,rfl⟩
   have e2:∃ V,y=.agg V:=by cases r2 with | agg as vs=>exact ⟨_,rfl⟩
   obtain ⟨V,rfl⟩:=e1
   obtain ⟨W,rfl⟩:=e2
   obtain ⟨rfl,hall⟩:=rel_ints_eq hi r1 r2
   have:=sameBits_ints 9999 V.toList hall
   rw [show (10000:Nat)=9999+1 from rfl,Instr.sameBits]
   simpa using this
  ·simp at h
 simp [Instr.keyThatStays,hb]
theorem keyOk_cases {t:TypeId} (h:keyOk P t=true):(∃ k,P.underlying t=some (.int k))∨∃ fs,P.underlying t=some (.struct fs)∧intFields P fs.toList 0=true∧P.stoodInHeld t=false:=by
 unfold keyOk at h
 split at h
 ·exact .inl ⟨_,by assumption⟩
 ·rename_i fs hfs
  simp at h
  exact .inr ⟨fs,hfs,h.1,h.2⟩
 ·simp at h
theorem run_checkKey_loop (em:Bool) (d:Nat) (V:Array Value):∀ (fs:List Field) (off:Nat),intFields P fs off=true→off+fs.length≤V.size →
  (forIn fs PUnit.unit (fun f (_ : PUnit) => if f.name = "_" then pure (ForInStep.yield PUnit.unit) else (do
    let a ←part f.type V f.offset
    (fun _=>ForInStep.yield PUnit.unit) <$> Instr.checkKey em (d+1) f.type a:Sem (ForInStep PUnit)))).run P w=.ok PUnit.unit w
 | [],off,_,_=>by simp
 | f::fs,off,h,hl=>by
   obtain ⟨f1,f2,⟨k0,f3⟩,f4,f5,f6⟩:=intFields_cons h
   simp only [List.length_cons] at hl
   have hV:V[off]?=some V[off]:=Array.getElem?_eq_getElem (by omega)
   have q1:(part f.type V f.offset).run P w=.ok V[off] w:=by simp only [part,Sem.run_bind,run_isAgg f3,f5,Result.andThen_ok,f1,hV,if_false,Bool.false_eq_true];rfl
   have q2:(Instr.checkKey em (d+1) f.type V[off]).run P w=.ok () w:=by unfold Instr.checkKey;simp [run_underlying f3]
   have ih:=run_checkKey_loop em d V fs (off+1) f6 (by omega)
   simp only [List.forIn_cons,f2,if_false,Sem.run_bind,q1,Result.andThen_ok]
   simpa [q2] using ih
theorem run_checkKey_abs {t:TypeId} {k:AV} {x:Value} (h:keyOk P t=true) (hk:isKey P t k=true) (hr:Rel κ S w k x) (em:Bool):(Instr.checkKey em 10000 t x).run P w=.ok () w:=by
 rcases keyOk_cases h with ⟨q,hq⟩ | ⟨fs,hf,hi,_⟩
 ·unfold Instr.checkKey;simp [run_underlying hq]
 ·unfold isKey at hk
  simp only [hf] at hk
  split at hk
  ·rename_i h';cases h'
  ·rename_i fs' cs h'
   cases h'
   simp at hk
   cases hr with
   | agg _ V hl _ _ _ =>
     rw [show (10000:Nat)=9998+2 from rfl,Instr.checkKey]
     have:=run_checkKey_loop (P:=P) (w:=w) em 9998 V fs.toList 0 hi (by simp;omega)
     rw [Array.forIn_toList] at this
     simpa [run_underlying hf] using this
  ·simp at hk
theorem run_equal_key {t:TypeId} {fs:Array Field} (ht:P.underlying t=some (.struct fs)) (hf:intFields P fs.toList 0=true) (hsi:P.stoodInHeld t=false) {k k':AV} {x y:Value} {e:Bool} (hk:isKey P t k=true) (h:eqKey k k'=some e)
  (r1:Rel κ S w k x) (r2:Rel κ S w k' y):(Op.equal t x y).run P w=.ok e w:=by
 unfold isKey at hk
 simp only [ht] at hk
 split at hk
 ·rename_i h';cases h'
 ·rename_i fs' cs h'
  cases h'
  simp at hk
  cases k' with
  | agg ds =>
    simp only [eqKey] at h
    have e1:∃ V,x=.agg V:=by cases r1 with | agg as vs=>exact ⟨_,rfl⟩
    have e2:∃ V,y=.agg V:=by cases r2 with | agg as vs=>exact ⟨_,rfl⟩
    obtain ⟨V,rfl⟩:=e1
    obtain ⟨W,rfl⟩:=e2
    have hl:∀ (xs ys:List AV) (e:Bool),eqInts xs ys=some e→ys.length=xs.length:=by
     intro xs
     induction xs with
     | nil=>intro ys e h;cases ys <;> simp [eqInts] at h;rfl
     | cons x xs ih =>
       intro ys e h
       cases ys with
       | nil=>cases x <;> simp [eqInts] at h
       | cons y ys=>obtain ⟨_,_,_,e',rfl,rfl,h',_⟩:=eqInts_cons h;simp [ih ys e' h']
    exact run_equalIn_struct 9998 ht hf hsi hk ((hl _ _ _ h).trans hk) h r1 r2
  | _=>simp [eqKey] at h
 ·simp at hk
def EntRel (κ:List Nat) (S:Nat→Nat→Prop) (w:World) (es:List (Nat×AV×AV)) (ents:List MapEntry):Prop :=
 ents.length=es.length∧∀ (j i:Nat) (k v:AV) (x:MapEntry),es[j]?=some (i,k,v)→ents[j]?=some x→x.born=i∧k.plain=true∧Rel κ S w k x.key∧v.plain=true∧Rel κ S w v x.val
theorem EntRel.cons {e:Nat×AV×AV} {es:List (Nat×AV×AV)} {ents:List MapEntry} (h:EntRel κ S w (e::es) ents):∃ x r,ents=x::r∧x.born=e.1∧Rel κ S w e.2.1 x.key∧Rel κ S w e.2.2 x.val∧EntRel κ S w es r:=by
 cases ents with
 | nil=>simp [EntRel] at h
 | cons x r =>
   obtain ⟨h1,_,h2,_,h3⟩:=h.2 0 e.1 e.2.1 e.2.2 x rfl rfl
   exact ⟨x,r,rfl,h1,h2,h3,by simpa using h.1,fun j i k v y hu hy=>h.2 (j+1) i k v y (by simpa using hu) (by simpa using hy)⟩
def FindRes (k:AV) (es:List (Nat×AV×AV)) (ents:List MapEntry) (i:Nat):Option Nat→Option (Nat×Value)→Prop
 | none,r=>r=none
 | some n,r=>∃ e x,i≤n∧es[n-i]?=some e∧ents[n-i]?=some x∧r=some (n,x.val)∧eqKey k e.2.1=some true
theorem FindRes.step {k:AV} {e:Nat×AV×AV} {es:List (Nat×AV×AV)} {x:MapEntry} {ents:List MapEntry} {i:Nat} {r:Option Nat} {res:Option (Nat×Value)} (h:FindRes k es ents (i+1) r res):FindRes k (e::es) (x::ents) i r res:=by
 cases r with
 | none=>exact h
 | some n =>
   obtain ⟨e',x',h1,h2,h3,h4,h5⟩:=h
   obtain ⟨m,hm⟩:∃ m,n-i=m+1:=⟨n-(i+1),by omega⟩
   have hm':n-(i+1)=m:=by omega
   rw [hm'] at h2 h3
   exact ⟨e',x',by omega,by rw [hm];simpa using h2,by rw [hm];simpa using h3,h4,h5⟩
theorem find_now {q q0:IntKind} {n:Int}:∀ (es:List (Nat×AV×AV)) (ents:List MapEntry) (i:Nat) (r:Option Nat),findK (.int q n) es i=some r→EntRel κ S w es ents →
  ∃ res,Instr.findNow (.int q0) (.int q n) ents i=some res∧FindRes (.int q n) es ents i r res
 | [],ents,i,r,h,hr=>by
   have:ents=[]:=List.length_eq_zero_iff.1 (by simpa using hr.1)
   subst this
   simp [findK] at h;subst h
   exact ⟨none,rfl,rfl⟩
 | (b,k',v)::es,ents,i,r,h,hr=>by
   obtain ⟨x,ents',rfl,h1,h2,h3,h4⟩:=hr.cons
   simp only [findK] at h
   split at h
   ·rename_i he
    cases h
    cases k' with
    | int q' m =>
      simp only [eqKey] at he
      split at he
      ·rename_i hq
       subst hq
       simp at he;subst he
       simp only at h2
       rw [Instr.findNow,h2.int_inv]
       exact ⟨some (i,x.val),by simp [Instr.sameNow],_,x,Nat.le_refl _,by simp;rfl,by simp,rfl,by simp [eqKey]⟩
      ·simp at he
    | _=>simp [eqKey] at he
   ·rename_i he
    cases k' with
    | int q' m =>
      simp only [eqKey] at he
      split at he
      ·rename_i hq
       subst hq
       simp at he
       simp only at h2
       obtain ⟨res,g1,g2⟩:=find_now es ents' (i+1) r h h4
       rw [Instr.findNow,h2.int_inv]
       have hnm:(n == m)=false:=by simpa using he
       exact ⟨res,by simp only [Instr.sameNow,if_true,hnm];exact g1,g2.step⟩
      ·simp at he
    | _=>simp [eqKey] at he
   ·simp at h
theorem find_asking {t:TypeId} {fs:Array Field} (ht:P.underlying t=some (.struct fs)) (hf:intFields P fs.toList 0=true) (hsi:P.stoodInHeld t=false) {k:AV} {x:Value} (hk:isKey P t k=true) (r1:Rel κ S w k x) :
  ∀ (es:List (Nat×AV×AV)) (ents:List MapEntry) (i:Nat) (r:Option Nat),findK k es i=some r→EntRel κ S w es ents →
  ∃ res,(Instr.findAsking t x ents i).run P w=.ok res w∧FindRes k es ents i r res
 | [],ents,i,r,h,hr=>by
   have:ents=[]:=List.length_eq_zero_iff.1 (by simpa using hr.1)
   subst this
   simp [findK] at h;subst h
   exact ⟨none,rfl,rfl⟩
 | (b,k',v)::es,ents,i,r,h,hr=>by
   obtain ⟨y,ents',rfl,h1,h2,h3,h4⟩:=hr.cons
   simp only [findK] at h
   split at h
   ·rename_i he
    cases h
    have q:=run_equal_key (P:=P) ht hf hsi hk he r1 h2
    exact ⟨some (i,y.val),by simp [Instr.findAsking,q],_,y,Nat.le_refl _,by simp;rfl,by simp,rfl,he⟩
   ·rename_i he
    have q:=run_equal_key (P:=P) ht hf hsi hk he r1 h2
    obtain ⟨res,g1,g2⟩:=find_asking ht hf hsi hk r1 es ents' (i+1) r h h4
    exact ⟨res,by simp [Instr.findAsking,q,g1],g2.step⟩
   ·simp at h
theorem run_findKey_abs {t:TypeId} {k:AV} {x:Value} (h:keyOk P t=true) (hk:isKey P t k=true) (hr:Rel κ S w k x) {es:List (Nat×AV×AV)} {ents:List MapEntry} {r:Option Nat} (hf:findK k es 0=some r) (he:EntRel κ S w es ents) :
  ∃ res,(Instr.findKey t x ents).run P w=.ok res w∧FindRes k es ents 0 r res:=by
 rcases keyOk_cases h with ⟨q,hq⟩ | ⟨fs,hs,hi,hst⟩
 ·unfold isKey at hk
  simp only [hq] at hk
  split at hk
  ·rename_i q1 q2 n h'
   obtain ⟨res,g1,g2⟩:=find_now (q0:=q) es ents 0 r hf he
   rw [hr.int_inv]
   exact ⟨res,by simp [Instr.findKey,run_underlying hq,g1],g2⟩
  ·rename_i h';cases h'
  ·simp at hk
 ·obtain ⟨res,g1,g2⟩:=find_asking hs hi hst hk hr es ents 0 r hf he
  have hag:∃ V,x=.agg V:=by
   unfold isKey at hk
   simp only [hs] at hk
   split at hk
   ·rename_i h';cases h'
   ·cases hr with | agg as vs=>exact ⟨_,rfl⟩
   ·simp at hk
  obtain ⟨V,rfl⟩:=hag
  cases ents with
  | nil =>
    refine ⟨res,?_,g2⟩
    simp [Instr.findAsking] at g1;subst g1
    simp [Instr.findKey,run_underlying hs,Instr.findNow]
  | cons y ys =>
    refine ⟨res,?_,g2⟩
    have:Instr.findNow (.struct fs) (.agg V) (y::ys) 0=none:=by simp [Instr.findNow,Instr.sameNow]
    simp [Instr.findKey,run_underlying hs,this,g1]
theorem heap_new (w:World) (o:Obj):(w.alloc o).heap[w.heap.size]?=some o:=by
 have e:(w.alloc o).heap=w.heap.push o:=rfl
 rw [e];simp
theorem run_getMap {b:Nat} {ents:Array MapEntry} {clock:Nat} (h:w.heap[b]?=some (.map ents clock)):(getObj b).run P w=.ok (.map ents clock) w:=by simp [getObj,Sem.run,h]
theorem run_setMap {b:Nat} {o:Obj} {ents:Array MapEntry} {clock:Nat} (h:w.heap[b]?=some (.map ents clock)):(setObj b o).run P w=.ok () (w.putObj b o):=by simp [setObj,Sem.run,h,World.putObj]
theorem new_map (hH:HRel B ω κ S w H):HRel B (lay ω w.heap.size (.obj H.length)) (κ++[w.heap.size]) S (w.alloc (.map #[] 0)) (H++[.map [] 0]) :=
 (hrel_alloc hH (.map #[] 0) (.obj H.length)).push w.heap.size ⟨w.heap.size,#[],Ext.last hH _,by simp [lay],heap_new w _,rfl,no_settled_new hH,by simp⟩
theorem sim_makeMap (hH:HRel B ω κ S w H) {t:TypeId} {r:Option Operand} {u:AV} {H':List AObj} (h:opMakeMap P t r H=some (u,H')) :
  ∃ x w',(Instr.makeMap t (none:Option Value)).run P w=.ok x w'∧r=none∧Post B ω κ S w H' u x w':=by
 unfold opMakeMap at h
 split at h
 ·cases h
  exact ⟨_,_,by simp only [Instr.makeMap,Sem.run_bind,Sem.run_pure,run_newObj_alloc,Result.andThen_ok],rfl,_,_,S,Ext.append κ _,ev_alloc hH _ _,new_map hH,.map _ _ (Ext.last hH _),OwnAt.of_plain rfl⟩
 ·simp at h
theorem mapTy_some {t kt et:TypeId} (h:mapTy P t=some (kt,et)):P.underlying t=some (.map kt et)∧keyOk P kt=true:=by
 unfold mapTy at h
 split at h
 ·split at h
  ·cases h;exact ⟨by assumption,by assumption⟩
  ·cases h
 ·cases h
theorem sim_mapUpdate (hH:HRel B ω κ S w H) {lo:Nat} {t:TypeId} {m k v u:AV} {H':List AObj} {x y z:Value} (h:opMapUpdate P lo t H [m,k,v]=some (u,H'))
  (rm:Rel κ S w m x) (rk:Rel κ S w k y) (pk:k.plain=true) (rv:Rel κ S w v z) (pv:v.plain=true) (c:Value) :
  ∃ w',(Instr.mapUpdate t x y z).run P w=.ok () w'∧Post B ω κ S w H' u c w':=by
 unfold opMapUpdate at h
 split at h
 ·rename_i id k' v' heq
  cases heq
  split at h
  ·rename_i kt et ht
   obtain ⟨ht,hk⟩:=mapTy_some ht
   split at h
   ·rename_i hik
    split at h
    ·split at h
     ·rename_i es clock hid
      obtain ⟨b,ents,a1,a2,a3,a4,a5,a6⟩:=hH.obj _ _ hid
      cases rm with
      | map _ b' kb =>
        rw [a1] at kb;cases kb
        have he:EntRel κ S w es ents.toList:=⟨by simpa using a4,fun j i k v x hu hx=>a6 j i k v x hu (by simpa using hx)⟩
        have hck:=run_checkKey_abs (P:=P) hk hik rk false
        split at h
        ·rename_i n hf
         cases h
         obtain ⟨res,g1,e,x,_,g2,g3,rfl,g4⟩:=run_findKey_abs (P:=P) hk hik rk hf he
         simp only [Nat.sub_zero,Array.getElem?_toList] at g2 g3
         obtain ⟨eb,ek,ev0⟩:=e
         obtain ⟨c1,c2,c3,c4,c5⟩:=a6 n eb ek ev0 x g2 g3
         have hst:=key_stays (P:=P) g4 rk c3
         obtain ⟨ev,hH'⟩:=map_write hH hid (es':=es.modify n fun e=>(e.1,k,v)) (clock':=clock) (ents':=ents.modify n fun e=>{ e with key:=y,val:=z }) a1 a2 a5 (by simp [a4]) fun j i k0 v0 x0 hu hx=>by
          rw [List.getElem?_modify] at hu
          rw [Array.getElem?_modify] at hx
          by_cases hj:n=j
          ·subst hj
           simp only [g2,g3,if_true,Option.map_some,Option.map_eq_map,Option.some.injEq,Prod.mk.injEq] at hu hx
           obtain ⟨rfl,rfl,rfl⟩:=hu
           subst hx
           exact ⟨c1,pk,rk,pv,rv⟩
          ·simp only [hj,if_false,id_map'] at hu hx
           exact a6 j i k0 v0 x0 (by simpa using hu) (by simpa using hx)
         refine ⟨_,?_,ω,κ,S,Ext.refl κ,ev,hH',.junk _,OwnAt.of_plain rfl⟩
         simp only [Instr.mapUpdate,Sem.run_bind,run_underlying ht,Result.andThen_ok,run_getMap a3,hck,g1,g3,Option.map_some,Option.getD_some,hst,run_setMap a3]
        ·rename_i hf
         cases h
         obtain ⟨res,g1,g2⟩:=run_findKey_abs (P:=P) hk hik rk hf he
         simp only [FindRes] at g2
         subst g2
         obtain ⟨ev,hH'⟩:=map_write hH hid (es':=es++[(clock,k,v)]) (clock':=clock+1) (ents':=ents.push { key:=y,val:=z,born:=clock }) a1 a2 a5 (by simp [a4]) fun j i k0 v0 x0 hu hx=>by
          rw [Array.getElem?_push] at hx
          split at hx
          ·rename_i hj
           rw [hj,a4,List.getElem?_append_right (Nat.le_refl _)] at hu
           simp at hu hx
           obtain ⟨rfl,rfl,rfl⟩:=hu
           subst hx
           exact ⟨rfl,pk,rk,pv,rv⟩
          ·rename_i hj
           have hlt:j<ents.size:=(Array.getElem?_eq_some_iff.1 hx).1
           rw [List.getElem?_append_left (by omega)] at hu
           exact a6 j i k0 v0 x0 hu hx
         refine ⟨_,?_,ω,κ,S,Ext.refl κ,ev,hH',.junk _,OwnAt.of_plain rfl⟩
         simp only [Instr.mapUpdate,Sem.run_bind,run_underlying ht,Result.andThen_ok,run_getMap a3,hck,g1,run_setMap a3]
        ·cases h
     ·cases h
    ·cases h
   ·cases h
  ·cases h
 ·cases h
theorem zeroAV_rel {t:TypeId} {u:AV} (h:zeroAV P t=some u):∃ v,(zeroValue t).run P w=.ok v w∧Rel κ S w u v∧u.plain=true:=by
 unfold zeroAV at h
 simp only [Option.bind_eq_some_iff] at h
 obtain ⟨v,⟨i,hi,hv⟩,h⟩:=h
 refine ⟨v,run_zeroValue hi hv,?_⟩
 split at h
 ·rename_i cs
  split at h
  ·rename_i hall
   cases h
   refine ⟨.agg _ _ (by simp) (fun u hu=>?_) (fun v hv=>by simp only [List.all_eq_true] at hall;exact hall v hv) (fun j u v hu hv=>?_),rfl⟩
   ·obtain ⟨x,_,rfl⟩:=List.mem_map.1 hu;exact absVal_plain x
   ·rw [List.getElem?_map,Array.getElem?_toList,hv] at hu
    simp at hu;subst hu;exact absVal_rel _ _ _ _
  ·cases h
 ·cases h;exact ⟨absVal_rel _ _ _ _,absVal_plain _⟩
theorem sim_lookup (hH:HRel B ω κ S w H) {t:TypeId} {ok:Bool} {m k u:AV} {H':List AObj} {x y:Value} (h:opLookup P t ok H [m,k]=some (u,H'))
  (rm:Rel κ S w m x) (rk:Rel κ S w k y) :
  ∃ v,(Instr.lookup t x y ok).run P w=.ok v w∧Post B ω κ S w H' u v w:=by
 unfold opLookup at h
 split at h
 ·rename_i id k' heq
  cases heq
  split at h
  ·rename_i kt et ht
   obtain ⟨ht,hk⟩:=mapTy_some ht
   split at h
   ·rename_i es clock hik hid
    obtain ⟨b,ents,a1,a2,a3,a4,a5,a6⟩:=hH.obj _ _ hid
    cases rm with
    | map _ b' kb =>
      rw [a1] at kb;cases kb
      have he:EntRel κ S w es ents.toList:=⟨by simpa using a4,fun j i k v x hu hx=>a6 j i k v x hu (by simpa using hx)⟩
      have hck:=run_checkKey_abs (P:=P) hk hik rk ents.isEmpty
      split at h
      ·rename_i r hf
       simp only [Option.map_eq_some_iff,Prod.mk.injEq] at h
       obtain ⟨v,hv,rfl,rfl⟩:=h
       obtain ⟨res,g1,g2⟩:=run_findKey_abs (P:=P) hk hik rk hf he
       have fin:∀ (z:Value) (b:Bool),Rel κ S w v z→v.plain=true →
         Post B ω κ S w H (if ok then .tuple [v,.bool b] else v) (if ok then .tuple #[z,.bool b] else z) w:=fun z b hr hp=>by
        cases ok with
        | true=>exact Post.same hH (.tuple _ _ rfl (fun u hu=>by simp only [List.mem_cons,List.not_mem_nil,or_false] at hu;rcases hu with rfl | rfl;exact hp;rfl) fun j u v' hu hv'=>by
          match j with
          | 0=>simp at hu hv';subst hu;subst hv';exact hr
          | 1=>simp at hu hv';subst hu;subst hv';exact .bool _
          | j+2=>simp at hu) rfl
        | false=>exact Post.same hH hr hp
       cases r with
       | none =>
         simp only [FindRes] at g2
         subst g2
         obtain ⟨z,z1,z2,z3⟩:=zeroAV_rel (κ:=κ) (S:=S) (w:=w) hv
         exact ⟨_,by simp only [Instr.lookup,Sem.run_bind,run_underlying ht,Result.andThen_ok,run_getMap a3,Sem.run_pure,hck,g1,z1],fin z false z2 z3⟩
       | some n =>
         obtain ⟨e,x,_,q2,q3,rfl,q4⟩:=g2
         simp only [Nat.sub_zero,Array.getElem?_toList] at q2 q3
         obtain ⟨eb,ek,ev0⟩:=e
         obtain ⟨c1,c2,c3,c4,c5⟩:=a6 n eb ek ev0 x q2 q3
         simp only [Option.bind_some,q2,Option.some.injEq] at hv
         subst hv
         exact ⟨_,by simp only [Instr.lookup,Sem.run_bind,run_underlying ht,Result.andThen_ok,run_getMap a3,Sem.run_pure,hck,g1],fin x.val true c5 c4⟩
      ·cases h
   ·cases h
  ·cases h
 ·cases h
theorem sim_delete (hH:HRel B ω κ S w H) {lo:Nat} {ts:Array TypeId} (ty:TypeId) {m k u:AV} {H':List AObj} {x y:Value} (h:opDelete P lo ts H [m,k]=some (u,H'))
  (rm:Rel κ S w m x) (rk:Rel κ S w k y) :
  ∃ v w',(Builtin.delete_ ts ty #[x,y]).run P w=.ok v w'∧Post B ω κ S w H' u v w':=by
 unfold opDelete at h
 split at h
 ·rename_i id k' heq
  cases heq
  split at h
  ·rename_i kt et ht
   simp only [Option.bind_eq_some_iff] at ht
   obtain ⟨t,hts,ht⟩:=ht
   obtain ⟨ht,hk⟩:=mapTy_some ht
   split at h
   ·rename_i hik
    split at h
    ·split at h
     ·rename_i es clock hid
      obtain ⟨b,ents,a1,a2,a3,a4,a5,a6⟩:=hH.obj _ _ hid
      cases rm with
      | map _ b' kb =>
        rw [a1] at kb;cases kb
        have he:EntRel κ S w es ents.toList:=⟨by simpa using a4,fun j i k v x hu hx=>a6 j i k v x hu (by simpa using hx)⟩
        have hck:=run_checkKey_abs (P:=P) hk hik rk ents.isEmpty
        have tup:∀ (w:World),Rel κ S w (.tuple []) (.tuple #[]):=fun w=>.tuple _ _ rfl (by simp) (by simp)
        split at h
        ·rename_i n hf
         cases h
         obtain ⟨res,g1,e,x,_,g2,g3,rfl,g4⟩:=run_findKey_abs (P:=P) hk hik rk hf he
         obtain ⟨ev,hH'⟩:=map_write hH hid (es':=es.eraseIdx n) (clock':=clock) (ents':=ents.eraseIdxIfInBounds n) a1 a2 a5 (by rw [←Array.length_toList,Array.toList_eraseIdxIfInBounds];simp [List.length_eraseIdx,a4]) fun j i k0 v0 x0 hu hx=>by
          rw [←Array.getElem?_toList,Array.toList_eraseIdxIfInBounds] at hx
          rw [List.getElem?_eraseIdx] at hu hx
          by_cases hj:j<n
          ·simp only [hj,if_true] at hu hx
           exact a6 j i k0 v0 x0 hu (by simpa using hx)
          ·simp only [hj,if_false] at hu hx
           exact a6 _ i k0 v0 x0 hu (by simpa using hx)
         refine ⟨_,_,?_,ω,κ,S,Ext.refl κ,ev,hH',tup _,OwnAt.of_plain rfl⟩
         simp only [Builtin.delete_,hts,List.getElem?_toArray,List.getElem?_cons_zero,List.getElem?_cons_succ,Sem.run_bind,run_underlying ht,Result.andThen_ok,run_getMap a3,hck,g1,run_setMap a3,Sem.run_pure]
        ·rename_i hf
         cases h
         obtain ⟨res,g1,g2⟩:=run_findKey_abs (P:=P) hk hik rk hf he
         simp only [FindRes] at g2
         subst g2
         obtain ⟨ev,hH'⟩:=map_write hH hid (es':=es) (clock':=clock) (ents':=ents) a1 a2 a5 a4 a6
         have hsame:H.set id (.map es clock)=H:=List.ext_getElem? fun j=>by
          by_cases hj:id=j
          ·subst hj;rw [List.getElem?_set_self (List.getElem?_eq_some_iff.1 hid).1,hid]
          ·rw [List.getElem?_set_ne hj]
         rw [hsame] at hH'
         refine ⟨_,_,?_,ω,κ,S,Ext.refl κ,ev,hH',tup _,OwnAt.of_plain rfl⟩
         simp only [Builtin.delete_,hts,List.getElem?_toArray,List.getElem?_cons_zero,List.getElem?_cons_succ,Sem.run_bind,run_underlying ht,Result.andThen_ok,run_getMap a3,hck,g1,run_setMap a3,Sem.run_pure]
        ·cases h
     ·cases h
    ·cases h
   ·cases h
  ·cases h
 ·cases h
theorem sim_range (hH:HRel B ω κ S w H) {t:TypeId} {m u:AV} {H':List AObj} {x:Value} (h:opRange P t H [m]=some (u,H')) (rm:Rel κ S w m x) :
  ∃ v w',(Instr.range t x).run P w=.ok v w'∧Post B ω κ S w H' u v w':=by
 unfold opRange at h
 split at h
 ·rename_i id heq
  cases heq
  split at h
  ·rename_i kt et es clock ht hid
   cases h
   obtain ⟨b,ents,a1,a2,a3,a4,a5,a6⟩:=hH.obj _ _ hid
   cases rm with
   | map _ b' kb =>
     rw [a1] at kb;cases kb
     refine ⟨.pointer (some ⟨w.heap.size,0,none⟩),w.alloc (.mapIter (some b) clock #[] clock),by simp only [Instr.range,Sem.run_bind,run_underlying ht,Result.andThen_ok,run_getMap a3,Sem.run_pure,run_newObj_alloc],_,_,S,Ext.append κ _,ev_alloc hH _ (.obj H.length),?_,.ptr _ _ _ (Ext.last hH _),OwnAt.of_plain rfl⟩
     exact (hrel_alloc hH _ (.obj H.length)).push w.heap.size ⟨w.heap.size,b,Ext.last hH _,by simp [lay],Ext.append κ _ _ _ a1,heap_new w _,no_settled_new hH⟩
  ·cases h
 ·cases h
theorem find_ent {κ:List Nat} {S:Nat→Nat→Prop} {w:World} (stamp:Nat):∀ (es:List (Nat×AV×AV)) (ents:List MapEntry) (e:Nat×AV×AV),EntRel κ S w es ents→es.find? (fun e=>e.1 == stamp)=some e →
  ∃ x,ents.find? (fun x=>x.born == stamp)=some x∧Rel κ S w e.2.1 x.key∧Rel κ S w e.2.2 x.val∧e.2.1.plain=true∧e.2.2.plain=true
 | [],ents,e,hr,h=>by simp at h
 | e0::es,ents,e,hr,h=>by
   have h0:=hr
   obtain ⟨x,ents',rfl,h1,h2,h3,h4⟩:=hr.cons
   obtain ⟨_,p1,_,p2,_⟩:=h0.2 0 e0.1 e0.2.1 e0.2.2 x rfl rfl
   rw [List.find?_cons] at h ⊢
   rw [h1]
   split at h
   ·rename_i hb
    cases h
    exact ⟨x,by simp,h2,h3,p1,p2⟩
   ·rename_i hb
    obtain ⟨x',g⟩:=find_ent stamp es ents' e h4 h
    exact ⟨x',by simp [g.1],g.2⟩
theorem sim_entry (hH:HRel B ω κ S w H) {m u:AV} {H':List AObj} {x:Value} (h:opEntry H [m]=some (u,H')) (rm:Rel κ S w m x) :
  ∃ v,(Instr.entry x).run P w=.ok v w∧Post B ω κ S w H' u v w:=by
 unfold opEntry at h
 split at h
 ·rename_i r heq
  cases heq
  split at h
  ·rename_i m since seen stepped hid
   split at h
   ·rename_i stamp es clock hst hmid
    split at h
    ·rename_i hc
     subst hc
     split at h
     ·rename_i e he
      cases h
      obtain ⟨b,bm,a1,a2,a3,a4,a5⟩:=hH.obj _ _ hid
      obtain ⟨b',ents,c1,c2,c3,c4,c5,c6⟩:=hH.obj _ _ hmid
      rw [a3] at c1;cases c1
      cases rm with
      | ptr _ _ b' kb =>
        rw [a1] at kb;cases kb
        have hr:EntRel κ S w es ents.toList:=⟨by simpa using c4,fun j i k v x hu hx=>c6 j i k v x hu (by simpa using hx)⟩
        obtain ⟨y,g1,g2,g3,g4,g5⟩:=find_ent stamp es ents.toList e hr he
        have hb:(seen.toArray).back?=some stamp:=by simpa using hst
        have hg:(getObj b).run P w=.ok (.mapIter (some bm) since seen.toArray clock) w:=by simp [getObj,Sem.run,a4]
        refine ⟨.tuple #[y.key,y.val],?_,Post.same hH (.tuple _ _ rfl (by simp [g4,g5]) fun j u v' hu hv'=>by
          match j with
          | 0=>simp at hu hv';subst hu;subst hv';exact g2
          | 1=>simp at hu hv';subst hu;subst hv';exact g3
          | j+2=>simp at hu) rfl⟩
        have hf:ents.find? (fun x=>x.born == stamp)=some y:=by rw [←Array.find?_toList];exact g1
        simp [Instr.entry,hg,hb,run_getMap c3,hf]
     ·cases h
    ·cases h
   ·cases h
  ·cases h
 ·cases h
end
end Go.Proofs.YtfakoboiahbhaaaGreat.Ab


namespace Go.Proofs.YtfakoboiahbhaaaGreat.Ab
open Go
section
variable {P:Program} {B:Nat} {κ:List Nat} {w:World} {H:List AObj} {ω:Nat→Option Lab} {S:Nat→Nat→Prop}
theorem post_freeze (hH:HRel B ω κ S w H) {id off len sz n:Nat} {cap:Option Nat} {row:List AV} {v:Value} (hrow:rowOf H (.ref id off len cap sz)=some row) (hn:lenOf (.ref id off len cap sz)=some n)
  (hr:Rel κ S w (.ref id off len cap sz) v) :
  Post B ω κ S w (H.set id .dead) (.lst row n (frzCap cap n)) v w:=by
 classical
 simp [lenOf] at hn;subst hn
 cases hr with
 | ref _ _ _ _ _ b cp hb hc hle =>
   unfold rowOf at hrow
   simp only at hrow
   split at hrow
   ·rename_i l hid
    split at hrow
    ·rename_i hfit
     simp only [Option.some.injEq] at hrow
     obtain ⟨b',cur,e,a1,a2,a3,a4,a5,a6⟩:=hH.obj id _ hid
     rw [hb] at a1;cases a1
     let S':Nat→Nat→Prop:=fun b' o=>S b' o∨(b'=b∧o<cur.size)
     let ω':Nat→Option Lab:=fun b'=>if b'=b then none else ω b'
     have hcell:∀ o,o<cur.size→w.cell? ⟨b,o,none⟩=cur[o]?:=fun o ho=>by
      simp [World.cell?,a3,ho]
     have ev:Ev ω S w ω' S' w:=⟨rfl,rfl,rfl,Nat.le_refl _,fun _ _ _=>rfl,fun _ _ h=>⟨.inl h,rfl⟩,fun b' o h=>by
       rcases h with h | ⟨rfl,_⟩
       ·exact .inl h
       ·exact .inr (.inl (by simp [a2])),fun b' hb'=>by
       by_cases hbb:b'=b
       ·simp [ω',hbb] at hb'
       ·simp only [ω',hbb,if_false] at hb';exact .inl hb'⟩
     have hH1:HRel B ω' κ S' w (H.set id .dead):=by
      refine ⟨by simpa using hH.klen,fun id' o ho=>?_,fun b' o h=>?_,fun b' l' hb'=>?_,hH.bsz⟩
      ·by_cases hii:id'=id
       ·subst hii
        have:o=.dead:=by
         have:=(List.getElem?_eq_some_iff.1 hid).1
         simp [this] at ho;exact ho.symm
        subst this;trivial
       ·rw [List.getElem?_set_ne (Ne.symm hii)] at ho
        refine (hH.obj id' o ho).frame (Ext.refl κ) ev.set (fun b' l' hb' hl=>?_)
        have hne:b'≠b:=fun e=>by
         subst e;rw [a2] at hb';cases hb'
         rcases hl with h | ⟨j,h⟩
         ·cases h;exact hii rfl
         ·cases h
        exact ⟨by simp [ω',hne,hb'],rfl,fun o h=>h.resolve_right fun h=>hne h.1⟩
      ·rcases h with h | ⟨rfl,h⟩
       ·exact hH.swf _ _ h
       ·exact ⟨_,(hcell o h).trans (Array.getElem?_eq_getElem h)⟩
      ·by_cases hbb:b'=b
       ·simp [ω',hbb] at hb'
       ·simp only [ω',hbb,if_false] at hb';exact hH.base _ _ hb'
     have hlen:row.length=len*sz:=by subst hrow;simp;omega
     refine ⟨ω',κ,S',Ext.refl κ,ev,hH1,.lst row len _ b off cp (fun j=>cur.getD (off+j) undef) (fun h=>?_) hle (fun z h=>?_) (fun j u hj=>?_) (fun j u hj=>?_),OwnAt.of_plain ?_⟩
     ·unfold frzCap at h
      cases cap with
      | none=>simp at h
      | some c =>
        simp only at h
        split at h
        ·rename_i hcl;rw [hc c rfl,hcl]
        ·cases h
     ·unfold frzCap at h
      cases cap with
      | none=>simp at h
      | some c=>simp only at h;split at h <;> cases h
     all_goals (try (
      have hj1:=(List.getElem?_eq_some_iff.1 hj).1
      have hj2:off+j<l.length:=by omega
      have hj3:off+j<cur.size:=by omega
      have hx:l[off+j]?=some l[off+j]:=List.getElem?_eq_getElem hj2
      have hv:cur[off+j]?=some cur[off+j]:=Array.getElem?_eq_getElem hj3
      have hg:cur.getD (off+j) undef=cur[off+j]:=by simp [hj3]
      have hu:u=l[off+j].view:=by
       subst hrow
       rw [List.getElem?_map,List.getElem?_take,if_pos (by simp at hj1;omega),List.getElem?_drop,hx] at hj
       simpa using hj.symm
      obtain ⟨c1,c2,c3,c4⟩:=a6 (off+j) _ _ hx hv
      subst hu))
     ·exact ⟨.inr ⟨rfl,hj3⟩,by rw [hcell _ hj3,hv,hg],AV.view_plain _,by rw [hg];exact c2⟩
     ·rw [hg];exact (c3.view c1).mono (Ext.refl κ) ev.set
     ·unfold frzCap
      cases cap with
      | none=>rfl
      | some c=>simp only;split <;> rfl
    ·simp at hrow
   ·simp at hrow
theorem sim_take (hH:HRel B ω κ S w H) {t e:TypeId} (ht:P.underlying t=some (.slice e)) {id off n z:Nat} {l c:List AV} (hid:H[id]?=some (.cells l)) (hoff:l[off]?=some (.lst c n (.own z))) {v:Value}
  (hr:Rel κ S w (.ptr id off) v) :
  ∃ x,(Instr.loadAt t v).run P w=.ok x w∧Post B ω κ S w (H.set id (.cells (l.set off (.lst c n .shared)))) (.lst c n (.own z)) x w:=by
 classical
 have hag:isAggT P t=false:=by simp [isAggT,ht]
 obtain ⟨b,cur,e',a1,a2,a3,a4,a5,a6⟩:=hH.obj id _ hid
 cases hr with
 | ptr _ _ b' hb =>
   rw [a1] at hb;cases hb
   have hj:off<l.length:=(List.getElem?_eq_some_iff.1 hoff).1
   have hj2:off<cur.size:=by omega
   have hcv:cur[off]?=some cur[off]:=Array.getElem?_eq_getElem hj2
   obtain ⟨c1,c2,c3,c4⟩:=a6 off _ _ hoff hcv
   have hcell:w.cell? ⟨b,off,none⟩=some cur[off]:=by rw [cell_of_row w b _ cur e' (0,0) a3,hcv]
   refine ⟨cur[off],by simp [Instr.loadAt,Instr.sureAddr,loadVar,run_isAgg ht,hag,load,Sem.run,hcell],?_⟩
   let ω':Nat→Option Lab:=fun b'=>if ω b'=some (.cell id off) then some .res else ω b'
   have ev:Ev ω S w ω' S w:=⟨rfl,rfl,rfl,Nat.le_refl _,fun _ _ _=>rfl,fun _ _ h=>⟨h,rfl⟩,fun _ _ h=>.inl h,fun b hb=>.inl fun h0=>hb (by simp [ω',h0])⟩
   have hk:∀ b' l',ω b'=some l'→l'≠.cell id off→ω' b'=some l':=fun b' l' h1 h2=>by
    have:¬ ω b'=some (.cell id off):=by rw [h1];intro e;cases e;exact h2 rfl
    simp [ω',h1,h2]
   refine ⟨ω',κ,S,Ext.refl κ,ev,⟨by simpa using hH.klen,fun id' o ho=>?_,hH.swf,fun b' l' hb'=>?_,hH.bsz⟩,c3,c4.mono (Ext.refl κ) ev.set fun b' hb'=>⟨by simp [ω',hb'],rfl,fun _ h=>h⟩⟩
   ·by_cases hii:id'=id
    ·subst hii
     rw [List.getElem?_set_self (List.getElem?_eq_some_iff.1 hid).1] at ho
     cases ho
     refine ⟨b,cur,e',a1,hk b _ a2 (by simp),a3,by simpa using a4,a5,fun j u v hu hv=>?_⟩
     by_cases hjo:j=off
     ·subst hjo
      rw [List.getElem?_set_self hj] at hu
      cases hu
      obtain ⟨g1,g2,g3,_⟩:=a6 j _ _ hoff hv
      exact ⟨rfl,g2,g3.view g1,OwnAt.of_plain rfl⟩
     ·rw [List.getElem?_set_ne (Ne.symm hjo)] at hu
      obtain ⟨d1,d2,d3,d4⟩:=a6 j u v hu hv
      exact ⟨d1,d2,d3,d4.mono (Ext.refl κ) ev.set fun b' hb'=>⟨hk b' _ hb' (by simp [hjo]),rfl,fun _ h=>h⟩⟩
    ·rw [List.getElem?_set_ne (Ne.symm hii)] at ho
     refine (hH.obj id' o ho).frame (Ext.refl κ) ev.set (fun b' l' hb' hl=>⟨hk b' l' hb' ?_,rfl,fun _ h=>h⟩)
     rcases hl with rfl | ⟨j,rfl⟩
     ·simp
     ·simp [hii]
   ·by_cases h:ω b'=some (.cell id off)
    ·exact hH.base b' _ h
    ·simp only [ω',h,if_false] at hb';exact hH.base b' l' hb'
theorem sim_takeR (hH:HRel B ω κ S w H) {t e:TypeId} (ht:P.underlying t=some (.slice e)) {id off n z:Nat} {l c:List AV} (hid:H[id]?=some (.cells l)) (hoff:l[off]?=some (.raw c n z)) {v:Value}
  (hr:Rel κ S w (.ptr id off) v) :
  ∃ b x,κ[id]?=some b∧w.cell? ⟨b,off,none⟩=some x∧x.oneCell'=true∧(Instr.loadAt t v).run P w=.ok x w∧Post B ω κ S w (H.set id (.cells (l.set off .junk))) (.lst c n (.uniq z)) x w:=by
 classical
 have hag:isAggT P t=false:=by simp [isAggT,ht]
 obtain ⟨b,cur,e',a1,a2,a3,a4,a5,a6⟩:=hH.obj id _ hid
 cases hr with
 | ptr _ _ b' hb =>
   rw [a1] at hb;cases hb
   have hj:off<l.length:=(List.getElem?_eq_some_iff.1 hoff).1
   have hj2:off<cur.size:=by omega
   have hcv:cur[off]?=some cur[off]:=Array.getElem?_eq_getElem hj2
   obtain ⟨c1,c2,c3,c4⟩:=a6 off _ _ hoff hcv
   obtain ⟨u3,u4⟩:=raw_uniq c3 c4
   have hcell:w.cell? ⟨b,off,none⟩=some cur[off]:=by rw [cell_of_row w b _ cur e' (0,0) a3,hcv]
   refine ⟨b,cur[off],a1,hcell,c2,by simp [Instr.loadAt,Instr.sureAddr,loadVar,run_isAgg ht,hag,load,Sem.run,hcell],?_⟩
   let ω':Nat→Option Lab:=fun b'=>if ω b'=some (.cell id off) then some .res else ω b'
   have ev:Ev ω S w ω' S w:=⟨rfl,rfl,rfl,Nat.le_refl _,fun _ _ _=>rfl,fun _ _ h=>⟨h,rfl⟩,fun _ _ h=>.inl h,fun b hb=>.inl fun h0=>hb (by simp [ω',h0])⟩
   have hk:∀ b' l',ω b'=some l'→l'≠.cell id off→ω' b'=some l':=fun b' l' h1 h2=>by
    have:¬ ω b'=some (.cell id off):=by rw [h1];intro e;cases e;exact h2 rfl
    simp [ω',h1,h2]
   refine ⟨ω',κ,S,Ext.refl κ,ev,⟨by simpa using hH.klen,fun id' o ho=>?_,hH.swf,fun b' l' hb'=>?_,hH.bsz⟩,u3,u4.mono (Ext.refl κ) ev.set fun b' hb'=>⟨by simp [ω',hb'],rfl,fun _ h=>h⟩⟩
   ·by_cases hii:id'=id
    ·subst hii
     rw [List.getElem?_set_self (List.getElem?_eq_some_iff.1 hid).1] at ho
     cases ho
     refine ⟨b,cur,e',a1,hk b _ a2 (by simp),a3,by simpa using a4,a5,fun j u v hu hv=>?_⟩
     by_cases hjo:j=off
     ·subst hjo
      rw [List.getElem?_set_self hj] at hu
      cases hu
      obtain ⟨g1,g2,g3,_⟩:=a6 j _ _ hoff hv
      exact ⟨rfl,g2,.junk _,OwnAt.of_plain rfl⟩
     ·rw [List.getElem?_set_ne (Ne.symm hjo)] at hu
      obtain ⟨d1,d2,d3,d4⟩:=a6 j u v hu hv
      exact ⟨d1,d2,d3,d4.mono (Ext.refl κ) ev.set fun b' hb'=>⟨hk b' _ hb' (by simp [hjo]),rfl,fun _ h=>h⟩⟩
    ·rw [List.getElem?_set_ne (Ne.symm hii)] at ho
     refine (hH.obj id' o ho).frame (Ext.refl κ) ev.set (fun b' l' hb' hl=>⟨hk b' l' hb' ?_,rfl,fun _ h=>h⟩)
     rcases hl with rfl | ⟨j,rfl⟩
     ·simp
     ·simp [hii]
   ·by_cases h:ω b'=some (.cell id off)
    ·exact hH.base b' _ h
    ·simp only [ω',h,if_false] at hb';exact hH.base b' l' hb'
theorem hrel_cell (hH:HRel B ω κ S w H) {id off b:Nat} {l:List AV} (hid:H[id]?=some (.cells l)) (hb:κ[id]?=some b) {u:AV} {x:Value} (hx:w.cell? ⟨b,off,none⟩=some x) (h1:x.oneCell'=true) (hp:u.plain=true) (hr:Rel κ S w u x) :
  HRel B ω κ S w (H.set id (.cells (l.set off u))):=by
 refine ⟨by simpa using hH.klen,fun id' o ho=>?_,hH.swf,hH.base,hH.bsz⟩
 by_cases hii:id'=id
 ·subst hii
  rw [List.getElem?_set_self (List.getElem?_eq_some_iff.1 hid).1] at ho
  cases ho
  obtain ⟨b',cur,e',a1,a2,a3,a4,a5,a6⟩:=hH.obj id' _ hid
  rw [hb] at a1;cases a1
  refine ⟨b,cur,e',hb,a2,a3,by simpa using a4,a5,fun j y v hu hv=>?_⟩
  by_cases hjo:off=j
  ·subst hjo
   have hlt:off<l.length:=by have:=(List.getElem?_eq_some_iff.1 hu).1;simpa using this
   rw [List.getElem?_set_self hlt] at hu
   cases hu
   rw [cell_of_row w b _ cur e' (0,0) a3,hv] at hx
   cases hx
   exact ⟨AV.plain_noUniq hp,h1,hr,OwnAt.of_plain hp⟩
  ·rw [List.getElem?_set_ne hjo] at hu
   exact a6 j y v hu hv
 ·rw [List.getElem?_set_ne (Ne.symm hii)] at ho
  exact hH.obj id' o ho
theorem sim_thawR (hH:HRel B ω κ S w H) {t e:TypeId} (ht:P.underlying t=some (.slice e)) {id off n z:Nat} {l c:List AV} (hn:n≠0) (hid:H[id]?=some (.cells l)) (hoff:l[off]?=some (.raw c n z)) {v:Value}
  (hr:Rel κ S w (.ptr id off) v) :
  ∃ x,(Instr.loadAt t v).run P w=.ok x w∧Post B ω κ S w (H.set id (.cells (l.set off (.ref H.length 0 n none z)))++[.cells c]) (.ref H.length 0 n none z) x w:=by
 obtain ⟨b,x,h1,h2,h3,h4,ω1,κ1,S1,k1,k2,k3,k4,k5⟩:=sim_takeR hH ht hid hoff hr
 refine ⟨x,h4,?_⟩
 obtain ⟨ω2,κ2,S2,m1,m2,m3,m4,m5⟩:=post_thaw k3 (l:=.res) (by simp) (by simp) hn k4 k5
 rw [List.length_set] at m4 m5
 have hlt:=(List.getElem?_eq_some_iff.1 hid).1
 have hb2:κ2[id]?=some b:=m1 _ _ (k1 _ _ h1)
 have hid2:(H.set id (AObj.cells (l.set off .junk))++[AObj.cells c])[id]?=some (AObj.cells (l.set off .junk)):=by
  rw [List.getElem?_append_left (by simpa using hlt),List.getElem?_set_self hlt]
 have hx:=hrel_cell m3 hid2 hb2 h2 h3 (u:=.ref H.length 0 n none z) rfl m4
 have e:(H.set id (AObj.cells (l.set off .junk))++[AObj.cells c]).set id (AObj.cells ((l.set off .junk).set off (.ref H.length 0 n none z)))=H.set id (AObj.cells (l.set off (.ref H.length 0 n none z)))++[AObj.cells c]:=by
  rw [List.set_append_left _ _ (by simpa using hlt),List.set_set,List.set_set]
 rw [e] at hx
 exact ⟨ω2,κ2,S2,k1.trans m1,k2.trans m2,hx,m4,m5⟩
theorem isNilSlice_eq {x:Operand} (h:isNilSlice x=true):x=.const (.slice none 0 0):=by
 unfold isNilSlice at h
 split at h
 ·rfl
 ·simp at h
theorem n1_arg (i:Nat):∀ id,Lab.arg i≠.obj id:=fun _=>by simp
theorem n2_arg (i:Nat):∀ id j,Lab.arg i≠.cell id j:=fun _ _=>by simp
theorem post_ungrow (hH:HRel B ω κ S w H) {id gid n z:Nat} {l:List AV} (hid:H[id]?=some (.grow l gid z)) (hn:n*z≤l.length) (hp:(l.take (n*z)).all AV.plain=true) {v:Value} (hr:Rel κ S w (.gref id gid n z) v) :
  Post B ω κ S w (H.set id .dead) (.lst (l.take (n*z)) n (.uniq z)) v w:=by
 classical
 rw [List.all_eq_true] at hp
 obtain ⟨b,cur,e,a1,a2,a3,a4,a5,a6,cap,a7,a8,a9,a10⟩:=hH.obj id _ hid
 cases hr with
 | gref _ _ _ _ b' cap' hb hg hle =>
   rw [a1] at hb;cases hb
   rw [a7] at hg;cases hg
   let ω':Nat→Option Lab:=fun b'=>if ω b'=some (.obj id) then some .res else ω b'
   have ev:Ev ω S w ω' S w:=⟨rfl,rfl,rfl,Nat.le_refl _,fun _ _ _=>rfl,fun _ _ h=>⟨h,rfl⟩,fun _ _ h=>.inl h,fun b hb=>.inl fun h0=>hb (by simp [ω',h0])⟩
   have hk:∀ b' l',ω b'=some l'→l'≠.obj id→ω' b'=some l':=fun b' l' h1 h2=>by
    have:¬ ω b'=some (.obj id):=by rw [h1];intro e;cases e;exact h2 rfl
    simp [ω',h1,h2]
   refine ⟨ω',κ,S,Ext.refl κ,ev,⟨by simpa using hH.klen,fun id' o ho=>?_,hH.swf,fun b' l' hb'=>?_,hH.bsz⟩,.luniq _ _ _ _ _ _,.inr ⟨by simp [ω',a2],rfl,hle,a8,a9,by simp;omega,⟨cur,e,a3,a10,fun j u v hu hv=>?_⟩,a5⟩⟩
   ·by_cases hii:id'=id
    ·subst hii
     rw [List.getElem?_set_self (List.getElem?_eq_some_iff.1 hid).1] at ho
     cases ho;trivial
    ·rw [List.getElem?_set_ne (Ne.symm hii)] at ho
     refine (hH.obj id' o ho).frame (Ext.refl κ) ev.set (fun b' l' hb' hl=>⟨hk b' l' hb' ?_,rfl,fun _ h=>h⟩)
     rcases hl with rfl | ⟨j,rfl⟩
     ·simp [hii]
     ·simp
   ·by_cases h:ω b'=some (.obj id)
    ·exact hH.base b' _ h
    ·simp only [ω',h,if_false] at hb';exact hH.base b' l' hb'
   ·have hu':u∈l.take (n*z):=List.mem_of_getElem? hu
    rw [List.getElem?_take] at hu
    split at hu
    ·obtain ⟨_,c2,c3,_⟩:=a6 j u v hu hv
     exact ⟨hp u hu',c2,c3⟩
    ·simp at hu
theorem sim_move (hH:HRel B ω κ S w H) {ρ:Operand→Value} (hρ:∀ v,ρ (.const v)=v) {lo mode:Nat} {t:TypeId} {x:Operand} {us:List AV} {r:AV} {H':List AObj}
  (h:opMove P lo mode t x H us=some (r,H')) (hv:VRel (fun i=>.arg i) ω κ S w us ([x].map ρ)):Post B ω κ S w H' r (ρ x) w:=by
 obtain ⟨u,rfl,r1,o1⟩:=VRel.one hv
 unfold opMove at h
 simp only at h
 split at h
 ·split at h
  ·rename_i hn ht
   simp only [Option.map_eq_some_iff,Prod.mk.injEq] at h
   obtain ⟨z,_,rfl,rfl⟩:=h
   rw [isNilSlice_eq hn,hρ]
   exact ⟨ω,κ,S,Ext.refl κ,Ev.refl ω S w,hH,.lnil _ _,trivial⟩
  ·cases h;exact post_move hH (n1_arg _) (n2_arg _) r1 o1
 ·split at h
  ·rename_i cells len z
   split at h
   ·cases h;exact post_move hH (n1_arg _) (n2_arg _) r1 o1
   ·rename_i h0
    cases h;exact post_thaw hH (n1_arg _) (n2_arg _) h0 r1 o1
  ·cases h;exact post_move hH (n1_arg _) (n2_arg _) r1 o1
  ·cases h;exact post_move hH (n1_arg _) (n2_arg _) r1 o1
  ·simp at h
 ·split at h
  ·rename_i id gid n z
   split at h
   ·split at h
    ·rename_i l g z' hid
     split at h
     ·rename_i hc
      obtain ⟨rfl,rfl,h1,h2⟩:=hc
      cases h
      exact post_ungrow hH hid h1 h2 r1
     ·simp at h
    ·simp at h
   ·simp at h
  ·cases h;exact post_move hH (n1_arg _) (n2_arg _) r1 o1
 ·split at h
  ·rename_i id off len cap sz
   split at h
   ·simp only [Option.bind_eq_some_iff,Option.map_eq_some_iff,Prod.mk.injEq] at h
    obtain ⟨row,hrow,n,hn,rfl,rfl⟩:=h
    exact post_freeze hH hrow hn r1
   ·simp at h
  ·rename_i id gid n z
   split at h
   ·split at h
    ·rename_i l g z' hid
     split at h
     ·rename_i hl
      cases h
      have hlt:=(List.getElem?_eq_some_iff.1 hid).1
      have q:=post_freeze (hH.ungrow hid) (row:=l.map AV.view) (by simp only [rowOf,List.getElem?_set_self hlt,Nat.zero_add];rw [if_pos (by omega),List.drop_zero,List.take_of_length_le (by omega)]) rfl (r1.view rfl)
      rw [List.set_set] at q
      exact q
     ·simp at h
    ·simp at h
   ·simp at h
  ·cases h
   obtain ⟨S',k1,k2,hH',r2⟩:=look_one hH (n1_arg _) (n2_arg _) r1 o1
   exact Post.after (Ext.refl κ) (Ev.settle k1 fun b o h=>(k2 b o h).imp id fun h=>⟨_,h⟩) (Post.same hH' r2 (AV.view_plain _))
theorem sim_loadG (hH:HRel B ω κ S w H) {t e:TypeId} (ht:P.underlying t=some (.slice e)) {id off i g n z:Nat} {l:List AV} (hid:H[id]?=some (.cells l)) (hoff:l[off]?=some (.gref i g n z)) {v:Value}
  (hr:Rel κ S w (.ptr id off) v):∃ x,(Instr.loadAt t v).run P w=.ok x w∧Post B ω κ S w H (.gref i g n z) x w:=by
 have hag:isAggT P t=false:=by simp [isAggT,ht]
 obtain ⟨b,cur,e',a1,a2,a3,a4,a5,a6⟩:=hH.obj id _ hid
 cases hr with
 | ptr _ _ b' hb =>
   rw [a1] at hb;cases hb
   have hj:off<l.length:=(List.getElem?_eq_some_iff.1 hoff).1
   have hj2:off<cur.size:=by omega
   have hcv:cur[off]?=some cur[off]:=Array.getElem?_eq_getElem hj2
   obtain ⟨c1,c2,c3,c4⟩:=a6 off _ _ hoff hcv
   have hcell:w.cell? ⟨b,off,none⟩=some cur[off]:=by rw [cell_of_row w b _ cur e' (0,0) a3,hcv]
   exact ⟨cur[off],by simp [Instr.loadAt,Instr.sureAddr,loadVar,run_isAgg ht,hag,load,Sem.run,hcell],ω,κ,S,Ext.refl κ,Ev.refl ω S w,hH,c3,trivial⟩
theorem sim_load (hH:HRel B ω κ S w H) {lo mode:Nat} {t:TypeId} {u:AV} {r:AV} {H':List AObj} {v:Value} (h:opLoad P lo mode t H [u]=some (r,H')) (hr:Rel κ S w u v) :
  ∃ x,(Instr.loadAt t v).run P w=.ok x w∧Post B ω κ S w H' r x w:=by
 unfold opLoad at h
 simp only at h
 split at h
 ·simp only [Option.map_eq_some_iff,Prod.mk.injEq] at h
  obtain ⟨r',h,rfl,rfl⟩:=h
  obtain ⟨x,h1,h2,h3⟩:=run_loadAt hH h hr
  exact ⟨x,h1,Post.same hH h2 h3⟩
 ·split at h
  ·simp only [Option.map_eq_some_iff,Prod.mk.injEq] at h
   obtain ⟨r',h,rfl,rfl⟩:=h
   obtain ⟨x,h1,h2,h3⟩:=run_loadAt (t:=t) hH (by simpa only [aLoad] using h) hr
   exact ⟨x,h1,Post.same hH h2 h3⟩
  ·simp at h
 ·split at h
  ·rename_i e id off ht
   split at h
   ·rename_i l hid
    split at h
    ·rename_i i g n z hoff
     cases h
     exact sim_loadG hH ht hid hoff hr
    ·rename_i hoff
     cases h
     have:aLoad P H t (.ptr id off)=some (.lst [] 0 .full):=by simp [aLoad,hid,ldPart,isAggT,ht,hoff,AV.view]
     obtain ⟨x,h1,h2,h3⟩:=run_loadAt hH this hr
     exact ⟨x,h1,Post.same hH h2 h3⟩
    ·simp at h
   ·simp at h
  ·simp at h
 ·split at h
  ·rename_i e id off ht
   split at h
   ·split at h
    ·rename_i l hid
     split at h
     ·rename_i c n z hoff
      cases h
      exact sim_take hH ht hid hoff hr
     ·rename_i c n z hoff
      split at h
      ·split at h
       ·simp at h
       ·rename_i hn
        cases h
        exact sim_thawR hH ht hn hid hoff hr
      ·cases h
       obtain ⟨_,x,_,_,_,h1,h2⟩:=sim_takeR hH ht hid hoff hr
       exact ⟨x,h1,h2⟩
     ·rename_i u' hnl hnr hoff
      cases h
      have:aLoad P H t (.ptr id off)=some u'.view:=by simp [aLoad,hid,ldPart,isAggT,ht,hoff]
      obtain ⟨x,h1,h2,h3⟩:=run_loadAt hH this hr
      exact ⟨x,h1,Post.same hH h2 h3⟩
     ·simp at h
    ·rename_i l g z' hid
     have hlt:=(List.getElem?_eq_some_iff.1 hid).1
     split at h
     ·rename_i c n z hoff
      cases h
      obtain ⟨b,cur,e',a1,a2,a3,a4,a5,a6,cap,a7,a8,a9,a10⟩:=hH.obj id _ hid
      obtain ⟨x,h1,ω',κ',S',p1,p2,p3,p4⟩:=sim_take (hH.ungrow hid) ht (by rw [List.getElem?_set_self hlt]) hoff hr
      have hg:=p3.regrow (g:=g) (z:=z') (by rw [List.getElem?_set_self (by simpa using hlt)]) (p1 _ _ a1) (p1 _ _ a7) a8 a9 a3 a10
      rw [List.set_set,List.set_set] at hg
      exact ⟨x,h1,ω',κ',S',p1,p2,hg,p4⟩
     ·rename_i c n hoff
      cases h
      have:aLoad P H t (.ptr id off)=some (.lst c n .full):=by simp [aLoad,hid,ldPart,isAggT,ht,hoff,AV.view]
      obtain ⟨x,h1,h2,h3⟩:=run_loadAt hH this hr
      exact ⟨x,h1,Post.same hH h2 h3⟩
     ·simp at h
    ·simp at h
   ·simp at h
  ·simp at h
theorem sim_builtin (hH:HRel B ω κ S w H) {lo:Nat} {b:Builtin} {ts:Array TypeId} (ty:TypeId) (cs:Array Bool) {us:List AV} {r:AV} {H':List AObj} {vs:List Value} (h:opBuiltin P lo b ts H us=some (r,H'))
  (hv:VRel (fun i=>.arg i) ω κ S w us vs):∃ y w',(builtin b ts ty cs vs.toArray).run P w=.ok (.value y) w'∧Post B ω κ S w H' r y w':=by
 have one:∀ {u:AV},us=[u]→∃ v,vs=[v]∧Rel κ S w u v:=fun {u} e=>by
  subst e
  match vs,hv with
  | [v],hv=>exact ⟨v,rfl,hv.rel 0 u v rfl rfl⟩
  | [],hv=>exact absurd hv.len (by simp)
  | _::_::_,hv=>exact absurd hv.len (by simp)
 have two:∀ {u x:AV},us=[u,x]→∃ v y,vs=[v,y]∧Rel κ S w u v∧OwnAt ω κ S w (.arg 0) u v∧Rel κ S w x y∧OwnAt ω κ S w (.arg 1) x y:=fun {u x} e=>by
  subst e
  match vs,hv with
  | [v,y],hv=>exact ⟨v,y,rfl,hv.rel 0 u v rfl rfl,hv.own 0 u v rfl rfl,hv.rel 1 x y rfl rfl,hv.own 1 x y rfl rfl⟩
  | [],hv=>exact absurd hv.len (by simp)
  | [_],hv=>exact absurd hv.len (by simp)
  | _::_::_::_,hv=>exact absurd hv.len (by simp)
 unfold opBuiltin at h
 split at h
 ·
  unfold opAppend at h
  split at h
  ·rename_i s x
   split at h
   ·rename_i t xt hts
    have hts:ts=#[t,xt]:=by rw [←Array.toArray_toList (xs:=ts),hts]
    subst hts
    simp only [Option.map_eq_some_iff,Prod.mk.injEq] at h
    obtain ⟨r',h,rfl,rfl⟩:=h
    obtain ⟨v,y,rfl,r1,o1,r2,o2⟩:=two rfl
    obtain ⟨z,w',h1,h2⟩:=sim_append hH ty (n1_arg _) (n2_arg _) (n1_arg _) (n2_arg _) (by simp) h r1 o1 r2 o2
    exact ⟨z,w',by simp [builtin,h1],h2⟩
   ·simp at h
  ·simp at h
 ·
  match us with
  | [u] =>
    obtain ⟨v,rfl,r1⟩:=one rfl
    obtain ⟨y,h1,h2⟩:=sim_len hH (ts:=ts) ty h r1
    exact ⟨y,w,by simp [builtin,h1],h2⟩
  | []=>simp [opLen] at h
  | _::_::_=>simp [opLen] at h
 ·
  match us with
  | [u] =>
    obtain ⟨v,rfl,r1⟩:=one rfl
    obtain ⟨y,h1,h2⟩:=sim_cap hH (ts:=ts) ty h r1
    exact ⟨y,w,by simp [builtin,h1],h2⟩
  | []=>simp [opCap] at h
  | _::_::_=>simp [opCap] at h
 ·
  match us with
  | [u,x] =>
    obtain ⟨v,y,rfl,r1,o1,r2,o2⟩:=two rfl
    obtain ⟨z,w',h1,h2⟩:=sim_copy hH (ts:=ts) ty (n1_arg _) (n2_arg _) h r1 r2 o2
    exact ⟨z,w',by simp [builtin,h1],h2⟩
  | []=>simp [opCopy] at h
  | [_]=>simp [opCopy] at h
  | _::_::_::_=>simp [opCopy] at h
 ·
  match us with
  | [u] =>
    obtain ⟨v,rfl,r1⟩:=one rfl
    obtain ⟨y,w',h1,h2⟩:=sim_clear hH (ts:=ts) ty h r1
    exact ⟨y,w',by simp [builtin,h1],h2⟩
  | []=>simp [opClear] at h
  | _::_::_=>simp [opClear] at h
 ·
  match us with
  | [u,x] =>
    obtain ⟨v,y,rfl,r1,_,r2,_⟩:=two rfl
    obtain ⟨z,w',h1,h2⟩:=sim_delete hH (ts:=ts) ty h r1 r2
    exact ⟨z,w',by simp [builtin,h1],h2⟩
  | []=>simp [opDelete] at h
  | [_]=>simp [opDelete] at h
  | _::_::_::_=>simp [opDelete] at h
 ·simp only [Option.map_eq_some_iff,Prod.mk.injEq] at h
  obtain ⟨r',h,rfl,rfl⟩:=h
  obtain ⟨y,h1,h2,h3⟩:=sim_min (P:=P) ts ty h hv
  exact ⟨y,w,by simp [builtin,h1],Post.same hH h2 h3⟩
 ·simp only [Option.map_eq_some_iff,Prod.mk.injEq] at h
  obtain ⟨r',h,rfl,rfl⟩:=h
  obtain ⟨y,h1,h2,h3⟩:=sim_max (P:=P) ts ty h hv
  exact ⟨y,w,by simp [builtin,h1],Post.same hH h2 h3⟩
 ·simp at h
end
end Go.Proofs.YtfakoboiahbhaaaGreat.Ab


namespace Go.Proofs.YtfakoboiahbhaaaGreat.Ab
open Go
section
variable {P:Program} {B:Nat} {κ:List Nat} {w:World} {H:List AObj} {ω:Nat→Option Lab} {S:Nat→Nat→Prop}
theorem VRel.tail {lab:Nat→Lab} {us:List AV} {vs:List Value} {u:AV} {v:Value} (h:VRel lab ω κ S w (u::us) (v::vs)):VRel (fun i=>lab (i+1)) ω κ S w us vs :=
 ⟨by simpa using h.len,fun i a b ha hb=>h.rel (i+1) a b (by simpa using ha) (by simpa using hb),fun i a b ha hb=>h.own (i+1) a b (by simpa using ha) (by simpa using hb)⟩
theorem orel {lab:Nat→Lab} {us:List AV} {vs:List Value} (hv:VRel lab ω κ S w us vs) {ρ:Operand→Value} (i:Nat) (l:Option Operand) (hl:∀ x,l=some x→vs[i]?=some (ρ x)) :
  ORel κ S w (optAt us i l) (l.map ρ):=by
 cases l with
 | none=>trivial
 | some x =>
   have h1:=hl x rfl
   have h2:i<us.length:=by rw [hv.len];exact (List.getElem?_eq_some_iff.1 h1).1
   simp only [optAt,List.getElem?_eq_getElem h2,Option.map_some]
   exact hv.rel i _ _ (List.getElem?_eq_getElem h2) h1
theorem ORel.mono {S':Nat→Nat→Prop} (hS:∀ b o,S b o→S' b o) {a:Option AV} {b:Option Value} (h:ORel κ S w a b):ORel κ S' w a b:=by
 cases a <;> cases b <;> first | exact h | exact Rel.mono (Ext.refl κ) (fun b o h=>⟨hS b o h,rfl⟩) h
theorem slice_gen (hH:HRel B ω κ S w H) {ρ:Operand→Value} {t:TypeId} {x:Operand} {l h m:Option Operand} {u:AV} {vs:List AV} {r:AV} {i1 i2:Nat}
  (ho:aSlice P t u.view (optAt vs 0 l) (optAt vs i1 h) (optAt vs i2 m)=some r) (h1:i1=l.toList.length) (h2:i2=l.toList.length+h.toList.length)
  (ru:Rel κ S w u (ρ x)) (ou:OwnAt ω κ S w (.arg 0) u (ρ x)) {lab:Nat→Lab} (hv1:VRel lab ω κ S w vs ((l.toList++h.toList++m.toList).map ρ)) :
  ∃ v,(Instr.sliceAt t (ρ x) (l.map ρ) (h.map ρ) (m.map ρ)).run P w=.ok v w∧Post B ω κ S w H r v w:=by
 obtain ⟨S',k1,k2,hH',r1⟩:=look_one hH (n1_arg _) (n2_arg _) ru ou
 obtain ⟨v,q1,q2,q3⟩:=run_slice (κ:=κ) (S:=S') (w:=w) ho (AV.view_plain u) r1
  ((orel (ρ:=ρ) hv1 0 l (fun y hy=>by subst hy;simp)).mono k1)
  ((orel (ρ:=ρ) hv1 i1 h (fun y hy=>by subst h1 hy;cases l <;> simp)).mono k1)
  ((orel (ρ:=ρ) hv1 i2 m (fun y hy=>by subst h2 hy;cases l <;> cases h <;> simp)).mono k1)
 exact ⟨v,q1,Post.after (Ext.refl κ) (Ev.settle k1 fun b o h=>(k2 b o h).imp id fun h=>⟨_,h⟩) (Post.same hH' q2 q3)⟩
theorem sim_slice (hH:HRel B ω κ S w H) {ρ:Operand→Value} {t:TypeId} {x:Operand} {l h m:Option Operand} {us:List AV} {r:AV} (ho:opSlice P t l h m us=some r)
  (hv:VRel (fun i=>.arg i) ω κ S w us ((x::(l.toList++h.toList++m.toList)).map ρ)) :
  ∃ v,(Instr.sliceAt t (ρ x) (l.map ρ) (h.map ρ) (m.map ρ)).run P w=.ok v w∧Post B ω κ S w H r v w:=by
 match us,hv with
 | [],hv=>exact absurd hv.len (by simp)
 | u::vs,hv =>
   have ru:=hv.rel 0 u _ rfl rfl
   have ou:=hv.own 0 u _ rfl rfl
   have hv1:=hv.tail
   unfold opSlice at ho
   dsimp only at ho
   split at ho
   ·rename_i cells len z
    split at ho
    ·rename_i e hd
     simp only [Option.bind_eq_some_iff,Option.map_eq_some_iff] at ho
     obtain ⟨s,hs,n,hn,rfl⟩:=ho
     have rh:=orel (ρ:=ρ) hv1 0 h (fun y hy=>by subst hy;simp)
     generalize hx:ρ x=vx at ru ou ⊢
     cases ru with
     | lnil c a =>
       obtain ⟨q,q1,q2⟩:=run_bounds_none (P:=P) (isS:=true) (cap:=0) (lo:=none) (lo':=none) hn rfl (by omega) trivial rh
       obtain rfl:n=0:=by omega
       exact ⟨.slice a 0 0,by cases a <;> simp [Instr.sliceAt,Instr.slice,run_underlying hd,q,run_sizeOf hs,Addr.add],ω,κ,S,Ext.refl κ,Ev.refl ω S w,hH,by simpa using .lnil _ _,by cases a <;> first | trivial | exact .inl ⟨rfl,rfl,by simp⟩⟩
     | lst _ _ c b o cap f hc hle hu hcell hrel=>exact absurd rfl (hu _)
     | luniq cells len z b o cap =>
       rcases ou with ⟨rfl,rfl,rfl⟩ | ⟨o1,o2,o3,o4,o5,o6,⟨cur,ce,o7,o8,o9⟩,o10⟩
       ·obtain ⟨q,q1,q2⟩:=run_bounds_none (P:=P) (isS:=true) (cap:=0) (lo:=none) (lo':=none) hn rfl (by omega) trivial rh
        obtain rfl:n=0:=by omega
        exact ⟨.slice (some ⟨b,o,none⟩) 0 0,by simp [Instr.sliceAt,Instr.slice,run_underlying hd,q,run_sizeOf hs],ω,κ,S,Ext.refl κ,Ev.refl ω S w,hH,.luniq _ _ _ _ _ _,.inl ⟨rfl,rfl,by simp⟩⟩
       ·obtain ⟨q,q1,q2⟩:=run_bounds_none (P:=P) (isS:=true) (cap:=cap) (lo:=none) (lo':=none) hn rfl (by omega) trivial rh
        simp only at o1 o7 o10 o2
        refine ⟨.slice (some ⟨b,o,none⟩) n cap,by simp [Instr.sliceAt,Instr.slice,run_underlying hd,q,run_sizeOf hs];intro;simp [Addr.add],?_⟩
        refine post_move hH (n1_arg 0) (n2_arg 0) (.luniq _ _ _ _ _ _) (.inr ⟨o1,o2,by omega,o4,o5,?_,⟨cur,ce,o7,o8,fun j u v hu hv=>?_⟩,o10⟩)
        ·rw [List.length_take,o6];exact Nat.min_eq_left (Nat.mul_le_mul_right _ q2)
        ·rw [List.getElem?_take] at hu
         split at hu
         ·exact o9 j u v hu hv
         ·simp at hu
    ·simp at ho
   ·
    rename_i cells len z lo hv0
    split at ho
    ·rename_i e hd
     simp only [Option.bind_eq_some_iff] at ho
     obtain ⟨s,hs,ho⟩:=ho
     split at ho
     ·rename_i hsz
      subst hsz
      simp only [Option.map_eq_some_iff] at ho
      obtain ⟨n,hn,rfl⟩:=ho
      have rl:=orel (ρ:=ρ) hv1 0 (some lo) (fun y hy=>by cases hy;simp)
      generalize hx:ρ x=vx at ru ou ⊢
      cases ru with
      | lnil c a =>
        obtain ⟨q,q1,q2⟩:=run_bounds_none (P:=P) (isS:=true) (cap:=0) (hi:=none) (hi':=none) (len:=0) rfl hn (by omega) rl trivial
        simp only [Option.map_some,Option.map_none] at q
        obtain rfl:n=0:=by omega
        exact ⟨.slice a 0 0,by cases a <;> simp [Instr.sliceAt,Instr.slice,run_underlying hd,q,run_sizeOf hs,Addr.add],ω,κ,S,Ext.refl κ,Ev.refl ω S w,hH,by simpa using .lnil _ _,by cases a <;> first | trivial | exact .inl ⟨rfl,rfl,by simp⟩⟩
      | lst _ _ c b o cap f hc hle hu hcell hrel =>
        obtain ⟨q,q1,q2⟩:=run_bounds_none (P:=P) (isS:=true) (cap:=cap) (hi:=none) (hi':=none) (len:=len) rfl hn hle rl trivial
        simp only [Option.map_some,Option.map_none] at q
        have hdl:∀ k,(cells.drop k).take cells.length=cells.drop k:=fun k=>List.take_of_length_le (by rw [List.length_drop];omega)
        by_cases hml:cap=n
        ·obtain rfl:n=len:=by omega
         rw [hml] at q
         refine ⟨.slice (some ⟨b,o,none⟩) 0 0,by simp [Instr.sliceAt,Instr.slice,run_underlying hd,q,run_sizeOf hs,hml],?_⟩
         rw [Nat.sub_self]
         rcases ou with ⟨h0,hcp,hcl⟩ | ⟨o1,o2,o3,o4,o5,o6,o7,⟨cur,ce,o8,o9⟩,o10⟩
         ·rw [hcl,List.drop_nil]
          exact ⟨ω,κ,S,Ext.refl κ,Ev.refl ω S w,hH,.lst [] 0 _ b o 0 (fun _=>undef) (by simp) (Nat.le_refl _) (by simp) (by simp) (by simp),.inl ⟨rfl,rfl,rfl⟩⟩
         ·rw [List.drop_eq_nil_of_le (by omega)]
          exact ⟨ω,κ,S,Ext.refl κ,Ev.refl ω S w,hH,.lst [] 0 _ b o 0 (fun _=>undef) (by simp) (Nat.le_refl _) (by simp) (by simp) (by simp),.inl ⟨rfl,rfl,rfl⟩⟩
        ·have hsub:=Rel.sub (κ:=κ) (k:=cells.length) (n:=len-n) (cap':=cap-n) (n*s) (.own s) (by simp) (by omega) (by simp) hcell hrel
         rw [hdl] at hsub
         refine ⟨.slice (some ⟨b,o+n*s,none⟩) (len-n) (cap-n),by simp [Instr.sliceAt,Instr.slice,run_underlying hd,q,run_sizeOf hs,hml,add_lit],?_⟩
         rcases ou with ⟨h0,hcp,hcl⟩ | ⟨o1,o2,o3,o4,o5,o6,o7,⟨cur,ce,o8,o9⟩,o10⟩
         ·exfalso;omega
         ·refine post_move hH (n1_arg 0) (n2_arg 0) hsub (.inr ⟨o1,trivial,rfl,by omega,by omega,o6,?_,⟨cur,ce,o8,?_⟩,fun o' ho'=>o10 o' ?_⟩)
          ·rw [List.length_drop,o7,Nat.sub_mul]
          ·have e1:n*s≤cap*s:=Nat.mul_le_mul_right _ (by omega)
           have e2:(cap-n)*s=cap*s-n*s:=Nat.sub_mul _ _ _
           show cur.size=o+n*s+(cap-n)*s
           simp only at o9
           omega
          ·have e1:n*s≤len*s:=Nat.mul_le_mul_right _ q1
           simp only [List.length_drop] at ho' ⊢
           omega
     ·simp at ho
    ·simp at ho
   ·
    rename_i id gid len z
    split at ho
    ·rename_i e hd
     simp only [Option.bind_eq_some_iff,Option.map_eq_some_iff] at ho
     obtain ⟨s,hs,n,hn,rfl⟩:=ho
     have rh:=orel (ρ:=ρ) hv1 0 h (fun y hy=>by subst hy;simp)
     generalize hx:ρ x=vx at ru ou ⊢
     cases ru with
     | gref _ _ _ _ b cap hb hg hle =>
       obtain ⟨q,q1,q2⟩:=run_bounds_none (P:=P) (isS:=true) (cap:=cap) (lo:=none) (lo':=none) hn rfl hle trivial rh
       exact ⟨.slice (some ⟨b,0,none⟩) n cap,by simp [Instr.sliceAt,Instr.slice,run_underlying hd,q,run_sizeOf hs];intro;simp [Addr.add],ω,κ,S,Ext.refl κ,Ev.refl ω S w,hH,.gref _ _ _ _ b cap hb hg (by omega),trivial⟩
    ·simp at ho
   ·exact slice_gen hH ho (by cases l <;> rfl) (by cases l <;> cases h <;> rfl) ru ou hv1
theorem sim_op {ρ:Operand→Value} (hρ:∀ v,ρ (.const v)=v) {C:CallFn} {lo mode:Nat} {o:Oper} {us:List AV} {r:AV} {H':List AObj} (hH:HRel B ω κ S w H)
  (h:opAll P C lo o mode us H=some (r,H')) (hnc:∀ c f,o.op=.call c→c.callee≠.value f)
  (hp:isLinear o=false→∀ u∈us,u.plain=true) (hv:VRel (fun i=>.arg i) ω κ S w us ((opsOf o).map ρ)):OpVal P ρ o w (Post B ω κ S w H' r):=by
 have base:(op0 P o us).map (·,H)=some (r,H')→isLinear o=false→OpVal P ρ o w (Post B ω κ S w H' r):=fun h hl=>by
  simp only [Option.map_eq_some_iff,Prod.mk.injEq] at h
  obtain ⟨r',h',rfl,rfl⟩:=h
  exact sim_op0 hρ hH h' hl (hp hl) hv
 cases hop:o.op
 case call c =>
  simp only [opAll,hop] at h
  cases hc:c.callee with
  | builtin b =>
    simp only [hc] at h
    have he:opsOf o=c.args.toList:=by
     obtain ⟨cal,args,ats⟩:=c
     simp only at hc;subst hc
     simp only [opsOf,hop]
    rw [he] at hv
    obtain ⟨y,w',h1,h2⟩:∃ y w',(builtin b c.argTypes o.type (c.args.map fun | .const _=>true | _=>false) (c.args.toList.map ρ).toArray).run P w=.ok (.value y) w'∧Post B ω κ S w H' r y w':=by
     cases b
     case append =>
      simp only at h
      split at h
      ·exact sim_builtin hH o.type _ h hv
      ·match us,h,hv with
       | [u,x],h,hv =>
         obtain ⟨v,tm,e1,r1,o1,hv⟩:=hv.uncons
         obtain ⟨y,tm,e2,r2,o2,hv⟩:=hv.uncons
         cases tm with
         | cons=>exact absurd hv.len (by simp)
         | nil =>
         obtain ⟨z,w',h1,h2⟩:=sim_appendO hH o.type (n1_arg _) (n2_arg _) (n1_arg _) (n2_arg _) (by simp) h r1 o1 r2 o2
         rw [e1,e2]
         exact ⟨z,w',by simp [builtin,h1],h2⟩
     all_goals exact sim_builtin hH o.type _ h hv
    refine .inl ⟨y,w',?_,h2⟩
    simp only [Go.execOp,hop,resolve,hc,Sem.run_bind,Sem.run_pure,Result.andThen_ok,invoke]
    rw [←h1,←Array.toList_map,Array.toArray_toList];rfl
  | value f=>exact absurd hc (hnc c f hop)
  | invoke x n=>simp [hc] at h
 all_goals (have hv':=hv;rw [opsOf_of (by simp [hop])] at hv';simp only [hop,Op.operands] at hv')
 case move x =>
  simp only [opAll,hop] at h
  exact .inl ⟨ρ x,w,by simp [Go.execOp,hop],sim_move hH hρ h hv'⟩
 case assign x =>
  simp only [opAll,hop] at h
  exact .inl ⟨ρ x,w,by simp [Go.execOp,hop],sim_move hH hρ h hv'⟩
 case load t a =>
  simp only [opAll,hop] at h
  obtain ⟨u,rfl,r1,_⟩:=VRel.one (x:=a) (by simpa using hv')
  obtain ⟨x,h1,h2⟩:=sim_load hH h r1
  exact .inl ⟨x,w,by simp [Go.execOp,hop,h1],h2⟩
 case store t a x =>
  simp only [opAll,hop] at h
  obtain ⟨u,v,rfl,r1,o1,r2,o2⟩:=VRel.two (x:=a) (y:=x) (by simpa using hv')
  unfold opStore at h
  simp only at h
  split at h
  ·simp only [Option.map_eq_some_iff,Prod.mk.injEq] at h
   obtain ⟨H1,h,rfl,rfl⟩:=h
   obtain ⟨w',h1,h2⟩:=sim_store hH (n1_arg _) (n2_arg _) h r1 r2 o2 undef
   exact .inr ⟨w',by simp [Go.execOp,hop,h1],h2⟩
  ·simp only [Option.map_eq_some_iff,Prod.mk.injEq] at h
   obtain ⟨H1,h,rfl,rfl⟩:=h
   obtain ⟨w',h1,h2⟩:=sim_storeR hH (n1_arg _) (n2_arg _) h r1 r2 o2 undef
   exact .inr ⟨w',by simp [Go.execOp,hop,h1],h2⟩
 case box e x =>
  simp only [opAll,hop] at h
  obtain ⟨u,rfl,r1,o1⟩:=VRel.one (x:=x) (by simpa using hv')
  unfold opBox at h
  simp only at h
  split at h
  ·simp only [Option.map_eq_some_iff,Prod.mk.injEq] at h
   obtain ⟨vc,h,rfl,rfl⟩:=h
   obtain ⟨y,w',h1,h2⟩:=sim_box (P:=P) hH (n1_arg _) (n2_arg _) h r1 o1 e
   exact .inl ⟨y,w',by simp [Go.execOp,hop,h1],h2⟩
  ·split at h
   ·rename_i vc hvc
    split at h
    ·rename_i hp
     cases h
     obtain ⟨y,w',h1,h2⟩:=sim_boxF (P:=P) hH hvc hp r1 e
     exact .inl ⟨y,w',by simp [Go.execOp,hop,h1],h2⟩
    ·simp at h
   ·simp at h
 case alloc t =>
  simp only [opAll,hop] at h
  unfold opAlloc at h
  split at h
  ·simp only [Option.map_eq_some_iff,Prod.mk.injEq] at h
   obtain ⟨z,h,rfl,rfl⟩:=h
   obtain ⟨y,w',h1,h2⟩:=sim_alloc hH h (.tuple #[])
   exact .inl ⟨y,w',by simp [Go.execOp,hop,h1],h2⟩
  ·split at h
   ·rename_i e hz he
    simp only [Option.map_eq_some_iff,Prod.mk.injEq] at h
    obtain ⟨s,_,rfl,rfl⟩:=h
    obtain ⟨y,w',h1,h2⟩:=sim_allocO (s:=s) hH hz (.tuple #[])
    exact .inl ⟨y,w',by simp [Go.execOp,hop,h1],h2⟩
   ·simp at h
 case buildSlice t len parts =>
  simp only [opAll,hop] at h
  split at h
  ·exact base h (by simp [isLinear,hop])
  ·simp only [Option.map_eq_some_iff,Prod.mk.injEq] at h
   obtain ⟨⟨cs,s⟩,h,rfl,rfl⟩:=h
   obtain ⟨v,w',q1,q2⟩:=sim_buildSliceO hρ hH hop h (hp (by simp [isLinear,hop])) hv
   exact .inl ⟨v,w',q1,q2⟩
 case makeSlice t a b =>
  simp only [opAll,hop] at h
  obtain ⟨u,v,rfl,r1,_,r2,_⟩:=VRel.two (x:=a) (y:=b) (by simpa using hv')
  unfold opMakeSlice at h
  split at h
  ·rename_i k n k' c heq
   simp at heq
   obtain ⟨rfl,rfl⟩:=heq
   split at h
   ·rename_i hc
    have e1:=r1.int_inv
    have e2:=r2.int_inv
    split at h
    ·simp only [Option.map_eq_some_iff,Prod.mk.injEq] at h
     obtain ⟨z,h,rfl,rfl⟩:=h
     obtain ⟨y,w',h1,h2⟩:=sim_makeSlice (k:=k) (k':=k') hH hc.1 hc.2 h
     exact .inl ⟨y,w',by simp [Go.execOp,hop,e1,e2,h1],h2⟩
    ·split at h
     ·rename_i hnc
      simp only [Option.map_eq_some_iff,Prod.mk.injEq] at h
      obtain ⟨z,h,rfl,rfl⟩:=h
      obtain ⟨rfl,h0⟩:=hnc
      obtain ⟨y,w',h1,h2⟩:=sim_makeSliceU (k:=k) (k':=k') hH h0 h
      exact .inl ⟨y,w',by simp [Go.execOp,hop,e1,e2,h1],h2⟩
     ·simp at h
   ·simp at h
  ·simp at h
 case makeMap t r =>
  simp only [opAll,hop] at h
  obtain ⟨x,w',h1,rfl,h2⟩:=sim_makeMap (P:=P) hH h
  exact .inl ⟨x,w',by simp [Go.execOp,hop,h1],h2⟩
 case mapUpdate t m k v =>
  simp only [opAll,hop] at h
  have hp:=hp (by simp [isLinear,hop])
  obtain ⟨um,uk,uv,rfl,rm,rk,rv⟩:∃ um uk uv,us=[um,uk,uv]∧Rel κ S w um (ρ m)∧Rel κ S w uk (ρ k)∧Rel κ S w uv (ρ v):=by
   match us,hv' with
   | [um,uk,uv],hv'=>exact ⟨um,uk,uv,rfl,hv'.rel 0 _ _ rfl rfl,hv'.rel 1 _ _ rfl rfl,hv'.rel 2 _ _ rfl rfl⟩
   | [],hv'=>exact absurd hv'.len (by simp)
   | [_],hv'=>exact absurd hv'.len (by simp)
   | [_,_],hv'=>exact absurd hv'.len (by simp)
   | _::_::_::_::_,hv'=>exact absurd hv'.len (by simp)
  obtain ⟨w',h1,h2⟩:=sim_mapUpdate hH h rm rk (hp uk (by simp)) rv (hp uv (by simp)) undef
  exact .inr ⟨w',by simp [Go.execOp,hop,h1],h2⟩
 case lookup t m k ok =>
  simp only [opAll,hop] at h
  obtain ⟨um,uk,rfl,rm,_,rk,_⟩:=VRel.two (x:=m) (y:=k) (by simpa using hv')
  obtain ⟨x,h1,h2⟩:=sim_lookup hH h rm rk
  exact .inl ⟨x,w,by simp [Go.execOp,hop,h1],h2⟩
 case range t m =>
  simp only [opAll,hop] at h
  obtain ⟨um,rfl,rm,_⟩:=VRel.one (x:=m) (by simpa using hv')
  obtain ⟨x,w',h1,h2⟩:=sim_range hH h rm
  exact .inl ⟨x,w',by simp [Go.execOp,hop,h1],h2⟩
 case entry m =>
  simp only [opAll,hop] at h
  obtain ⟨um,rfl,rm,_⟩:=VRel.one (x:=m) (by simpa using hv')
  obtain ⟨x,h1,h2⟩:=sim_entry (P:=P) hH h rm
  exact .inl ⟨x,w,by simp [Go.execOp,hop,h1],h2⟩
 case slice t x l hh m =>
  simp only [opAll,hop,op0,Option.map_eq_some_iff,Prod.mk.injEq] at h
  obtain ⟨r',h,rfl,rfl⟩:=h
  obtain ⟨v,h1,h2⟩:=sim_slice (x:=x) hH h (by simpa using hv')
  exact .inl ⟨v,w,by simp [Go.execOp,hop,h1],h2⟩
 all_goals exact base (by simpa only [opAll,hop] using h) (by simp [isLinear,hop])
end
end Go.Proofs.YtfakoboiahbhaaaGreat.Ab


namespace Go.Proofs.YtfakoboiahbhaaaGreat.Ab
open Go
def hide (ω:Nat→Option Lab):Nat→Option Lab:=fun b=>match ω b with
 | some (.slot _)=>none
 | x=>x
def back (ω ω2:Nat→Option Lab) (d:Option Nat):Nat→Option Lab:=fun b=>match ω b with
 | some (.slot i)=>if d=some i then none else some (.slot i)
 | _=>match ω2 b with
   | some .res=>d.map .slot
   | some (.obj id)=>some (.obj id)
   | some (.cell id j)=>some (.cell id j)
   | _=>none
def Marks (N:Nat) (ω:Nat→Option Lab) (w:World) (ds:List Deferred):Prop :=
 N≤w.heap.size∧(∀ d∈ds,∃ r,d.target=.collected r∧N≤r∧ω r=none∧w.heap[r]?=some (.deferred (some [])))∧ds.Pairwise (fun a b=>a.target≠b.target)
structure ARel (B N:Nat) (ω:Nat→Option Lab) (κ:List Nat) (S:Nat→Nat→Prop) (w:World) (s:St) (a:Act):Prop where
 T:VRel .slot ω κ S w s.T a.tmps.toList
 H:HRel B ω κ S w s.H
 M:Marks N ω w a.defers
def Step (B N:Nat) (ω:Nat→Option Lab) (κ:List Nat) (S:Nat→Nat→Prop) (w:World) (s':St) (a':Act) (w':World):Prop :=
 ∃ ω' κ' S',Ext κ κ'∧Ev ω S w ω' S' w'∧ARel B N ω' κ' S' w' s' a'
section
variable {P:Program} {B N:Nat} {κ:List Nat} {w:World} {H:List AObj} {ω:Nat→Option Lab} {S:Nat→Nat→Prop}
theorem Marks.ev {ω':Nat→Option Lab} {S':Nat→Nat→Prop} {w':World} {ds:List Deferred} (h:Marks N ω w ds) (ev:Ev ω S w ω' S' w'):Marks N ω' w' ds:=⟨Nat.le_trans h.1 ev.size,fun d hd=>by
 obtain ⟨r,h1,h2,h3,h4⟩:=h.2.1 d hd
 have hr:r<w.heap.size:=(Array.getElem?_eq_some_iff.1 h4).1
 refine ⟨r,h1,h2,?_,(ev.keep r hr h3).trans h4⟩
 cases h5:ω' r with
 | none=>rfl
 | some l =>
   rcases ev.own r (by simp [h5]) with h6 | h6
   ·exact absurd h3 h6
   ·omega,h.2.2⟩
theorem hide_none {b:Nat} (h:ω b=none):hide ω b=none:=by simp [hide,h]
theorem hide_slot {b i:Nat} (h:ω b=some (.slot i)):hide ω b=none:=by simp [hide,h]
theorem hide_other {b:Nat} {l:Lab} (h:ω b=some l) (hl:∀ i,l≠.slot i):hide ω b=some l:=by
 cases l <;> first | (simp only [hide,h];done) | exact absurd rfl (hl _)
theorem hide_some {b:Nat} {l:Lab} (h:hide ω b=some l):ω b=some l∧∀ i,l≠.slot i:=by
 unfold hide at h
 split at h
 ·simp at h
 ·rename_i hn
  exact ⟨h,fun i e=>by subst e;exact hn i h⟩
theorem hide_noslot (b i:Nat):hide ω b≠some (.slot i):=fun h=>(hide_some h).2 i rfl
theorem back_slot {ω2:Nat→Option Lab} {d:Option Nat} {b i:Nat} (h:ω b=some (.slot i)) (hd:d≠some i):back ω ω2 d b=some (.slot i):=by simp [back,h,hd]
theorem hrel_hide (hH:HRel B ω κ S w H):HRel B (hide ω) κ S w H:=by
 refine ⟨hH.klen,fun id o ho=>?_,hH.swf,fun b l hb=>hH.base b l (hide_some hb).1,hH.bsz⟩
 refine (hH.obj id o ho).frame (Ext.refl κ) (fun _ _ h=>⟨h,rfl⟩) fun b l hb hl=>⟨hide_other hb ?_,rfl,fun _ h=>h⟩
 rcases hl with rfl | ⟨j,rfl⟩ <;> simp
theorem vrel_hide {us:List AV} {vs:List Value} (h:VRel (fun i=>.arg i) ω κ S w us vs):VRel (fun i=>.arg i) (hide ω) κ S w us vs :=
 ⟨h.len,h.rel,fun i u v hu hv=>(h.own i u v hu hv).mono (Ext.refl κ) (fun _ _ h=>⟨h,rfl⟩) fun b hb=>⟨hide_other hb (by simp),rfl,fun _ h=>h⟩⟩
theorem put_tmps (a:Act) (d:Option Tmp) (v:Value):(a.put d v).tmps.toList=match d with | some d=>a.tmps.toList.set d v | none=>a.tmps.toList:=by
 cases d <;> simp [Act.put]
theorem put_defers (a:Act) (d:Option Tmp) (v:Value):(a.put d v).defers=a.defers:=by
 cases d <;> rfl
theorem op_done_at {T:List AV} {a:Act} {H':List AObj} {r:AV} {v:Value} {w':World} (dst:Option Tmp) (hA:ARel B N ω κ S w ⟨T,H⟩ a) {ω2:Nat→Option Lab} {κ2:List Nat} {S2:Nat→Nat→Prop}
  (hκ:Ext κ κ2) (ev2:Ev (hide ω) S w ω2 S2 w') (hH2:HRel B ω2 κ2 S2 w' H') (hr:Rel κ2 S2 w' r v) (ho:OwnAt ω2 κ2 S2 w' .res r v) :
  Ev ω S w (back ω ω2 dst) S2 w'∧ARel B N (back ω ω2 dst) κ2 S2 w' ⟨put T dst r,H'⟩ (a.put dst v):=by
 have hbs:∀ b l,ω b=some l→b<w.heap.size:=fun b l h=>(hA.H.base b l h).2
 have hnot:∀ b l,ω2 b=some l→∀ i,ω b≠some (.slot i):=fun b l h i hs=>by
  rcases ev2.own b (by simp [h]) with h1 | h1
  ·exact h1 (hide_slot hs)
  ·have:=hbs b _ hs;omega
 have hbk:∀ b l,ω2 b=some l→back ω ω2 dst b=match l with | .res=>dst.map .slot | .obj id=>some (.obj id) | .cell id j=>some (.cell id j) | _=>none:=fun b l h=>by
  unfold back
  split
  ·rename_i i hs;exact absurd hs (hnot b l h i)
  ·rw [h];cases l <;> rfl
 have ev:Ev ω S w (back ω ω2 dst) S2 w':=by
  refine ⟨ev2.os,ev2.tape,ev2.output,ev2.size,fun b hb hn=>ev2.keep b hb (hide_none hn),ev2.set,fun b o h=>?_,fun b h=>?_⟩
  ·rcases ev2.fresh b o h with h | h | h
   ·exact .inl h
   ·exact .inr (.inl fun hn=>h (hide_none hn))
   ·exact .inr (.inr h)
  ·unfold back at h
   split at h
   ·rename_i hs;exact .inl (by simp [hs])
   ·rcases ev2.own b (fun hn=>by simp [hn] at h) with h1 | h1
    ·exact .inl fun hn=>h1 (hide_none hn)
    ·exact .inr h1
 refine ⟨ev,⟨?_,⟨hH2.klen,fun id o ho=>?_,hH2.swf,fun b l hb=>?_,hH2.bsz⟩,?_⟩⟩
 ·have old:∀ (i:Nat) (u:AV) (x:Value),dst≠some i→T[i]?=some u→a.tmps.toList[i]?=some x→Rel κ2 S2 w' u x∧OwnAt (back ω ω2 dst) κ2 S2 w' (.slot i) u x:=fun i u x hd hu hx=>by
   refine ⟨(hA.T.rel i u x hu hx).mono hκ ev2.set,(hA.T.own i u x hu hx).mono hκ ev2.set fun b hb=>⟨back_slot hb hd,ev2.keep b (hbs b _ hb) (hide_slot hb),fun o h=>?_⟩⟩
   rcases ev2.fresh b o h with h | h | h
   ·exact h
   ·exact absurd (hide_slot hb) h
   ·have:=hbs b _ hb;omega
  cases dst with
  | none=>exact ⟨hA.T.len,fun i u x hu hx=>(old i u x (by simp) hu hx).1,fun i u x hu hx=>(old i u x (by simp) hu hx).2⟩
  | some d =>
    have hlen:=hA.T.len
    have both:∀ (i:Nat) (u:AV) (x:Value),(T.set d r)[i]?=some u→(a.tmps.toList.set d v)[i]?=some x→Rel κ2 S2 w' u x∧OwnAt (back ω ω2 (some d)) κ2 S2 w' (.slot i) u x:=fun i u x hu hx=>by
     by_cases hid:d=i
     ·subst hid
      have hlt:d<T.length:=by have:=(List.getElem?_eq_some_iff.1 hu).1;simpa using this
      have hlt2:d<a.tmps.toList.length:=by have:=(List.getElem?_eq_some_iff.1 hx).1;simpa using this
      rw [List.getElem?_set_self hlt] at hu
      rw [List.getElem?_set_self hlt2] at hx
      cases hu;cases hx
      exact ⟨hr,ho.mono (Ext.refl _) (fun _ _ h=>⟨h,rfl⟩) fun b hb=>⟨by rw [hbk b _ hb];rfl,rfl,fun _ h=>h⟩⟩
     ·rw [List.getElem?_set_ne hid] at hu hx
      exact old i u x (by simpa using hid) hu hx
    refine ⟨by simp [put,setT_eq,Act.put,hlen],?_,?_⟩
    ·intro i u x hu hx
     simp only [put,setT_eq] at hu
     rw [put_tmps] at hx
     exact (both i u x hu hx).1
    ·intro i u x hu hx
     simp only [put,setT_eq] at hu
     rw [put_tmps] at hx
     exact (both i u x hu hx).2
 ·refine (hH2.obj id o ho).frame (Ext.refl κ2) (fun _ _ h=>⟨h,rfl⟩) fun b l hb hl=>⟨?_,rfl,fun _ h=>h⟩
  rw [hbk b l hb]
  rcases hl with rfl | ⟨j,rfl⟩ <;> rfl
 ·unfold back at hb
  split at hb
  ·rename_i i hs
   have:=hA.H.base b _ hs
   exact ⟨this.1,Nat.lt_of_lt_of_le this.2 ev2.size⟩
  ·cases h2:ω2 b with
   | none=>simp [h2] at hb
   | some l'=>exact hH2.base b l' h2
 ·rw [put_defers];exact hA.M.ev ev
theorem op_done {T:List AV} {a:Act} {H':List AObj} {r:AV} {v:Value} {w':World} (dst:Option Tmp) (hA:ARel B N ω κ S w ⟨T,H⟩ a) (hp:Post B (hide ω) κ S w H' r v w')
  (u:AV) (hu:∀ ω2 κ2 S2,Rel κ2 S2 w' r v→OwnAt ω2 κ2 S2 w' .res r v→Rel κ2 S2 w' u v) :
  ∃ ω' κ' S',Ext κ κ'∧Ev ω S w ω' S' w'∧ARel B N ω' κ' S' w' ⟨put T dst r,H'⟩ (a.put dst v)∧Rel κ' S' w' u v:=by
 obtain ⟨ω2,κ2,S2,hκ,ev2,hH2,hr,ho⟩:=hp
 obtain ⟨h1,h2⟩:=op_done_at dst hA hκ ev2 hH2 hr ho
 exact ⟨_,κ2,S2,hκ,h1,h2,hu ω2 κ2 S2 hr ho⟩
theorem Step.trans {ω1:Nat→Option Lab} {κ1:List Nat} {S1:Nat→Nat→Prop} {w1:World} (hκ:Ext κ κ1) (ev:Ev ω S w ω1 S1 w1) {s':St} {a':Act} {w':World} (h:Step B N ω1 κ1 S1 w1 s' a' w') :
  Step B N ω κ S w s' a' w' :=
 let ⟨ω',κ',S',k1,k2,k3⟩:=h
 ⟨ω',κ',S',hκ.trans k1,ev.trans k2,k3⟩
theorem VRel.swap {lab:Nat→Lab} {T:List AV} {tm:List Value} (h:VRel lab ω κ S w T tm) (t:Nat) {u:AV} (hu:u.plain=true) (hr:∀ v,tm[t]?=some v→Rel κ S w u v):VRel lab ω κ S w (T.set t u) tm:=by
 refine ⟨by simpa using h.len,fun i x v hx hv=>?_,fun i x v hx hv=>?_⟩
 ·by_cases hi:t=i
  ·subst hi
   have hlt:t<T.length:=by have:=(List.getElem?_eq_some_iff.1 hx).1;simpa using this
   rw [List.getElem?_set_self hlt] at hx;cases hx
   exact hr v hv
  ·rw [List.getElem?_set_ne hi] at hx;exact h.rel i x v hx hv
 ·by_cases hi:t=i
  ·subst hi
   have hlt:t<T.length:=by have:=(List.getElem?_eq_some_iff.1 hx).1;simpa using this
   rw [List.getElem?_set_self hlt] at hx;cases hx
   exact OwnAt.of_plain hu
  ·rw [List.getElem?_set_ne hi] at hx;exact h.own i x v hx hv
end
end Go.Proofs.YtfakoboiahbhaaaGreat.Ab


namespace Go.Proofs.YtfakoboiahbhaaaGreat.Ab
open Go
section
variable {P:Program} {B N:Nat} {κ:List Nat} {w:World} {H:List AObj} {ω:Nat→Option Lab} {S:Nat→Nat→Prop}
theorem Rel.narrow {κ2:List Nat} {S2:Nat→Nat→Prop} {w2:World} (hκ:Ext κ κ2) {u:AV} {v v2:Value} (h:Rel κ S w u v) (h2:Rel κ2 S2 w2 u v2):Rel κ S2 w2 u v2:=by
 induction h generalizing v2 with
 | junk v=>exact .junk v2
 | bool b=>cases h2;exact .bool b
 | int k n=>cases h2;exact .int k n
 | str s=>cases h2;exact .str s
 | nilp=>cases h2;exact .nilp
 | ptr id off b h =>
   cases h2 with
   | ptr _ _ b2 k=>rw [hκ _ _ h] at k;cases k;exact .ptr id off b h
 | gref id gid len z b cap h hg hle =>
   cases h2 with
   | gref _ _ _ _ b2 cap2 k kg _ =>
     rw [hκ _ _ h] at k;cases k
     rw [hκ _ _ hg] at kg;cases kg
     exact .gref id gid len z b cap h hg hle
 | lptr cells b o f h hr ih =>
   cases h2 with
   | lptr _ b o f k kr=>exact .lptr cells b o f k fun j u hj=>ih j u hj (kr j u hj)
 | lnil c a =>
   cases h2 with
   | lnil c a=>exact .lnil c a
   | lst _ _ _ b o cap f hc hle hu k kr=>exact .lst [] 0 c b o cap f hc hle hu k fun j u hj=>by simp at hj
   | luniq _ _ z b o cap=>exact .luniq _ _ z b o cap
 | lst cells len c b o cap f hc hle hu h hr ih =>
   cases h2 with
   | lnil c a=>exact .lnil c a
   | lst _ _ _ b o cap f hc hle hu k kr=>exact .lst cells len c b o cap f hc hle hu k fun j u hj=>ih j u hj (kr j u hj)
   | luniq _ _ z b o cap=>exact .luniq _ _ z b o cap
 | raw cells len z b o cap =>
   cases h2 with
   | raw _ _ _ b o cap=>exact .raw _ _ z b o cap
 | luniq cells len z b o cap =>
   cases h2 with
   | lnil c a=>exact .lnil _ _
   | lst _ _ _ b o cap f hc hle hu k kr=>exact absurd rfl (hu z)
   | luniq _ _ z b o cap=>exact .luniq _ _ z b o cap
 | ref id off len c sz b cap h hc hle =>
   cases h2 with
   | ref _ _ _ _ _ b2 cap2 k kc kle=>rw [hκ _ _ h] at k;cases k;exact .ref id off len c sz b cap2 h kc kle
 | func f as bs vs ws h1 h2' p1 p2 r1 r2 i1 i2 =>
   cases h2 with
   | func _ _ _ vs2 ws2 k1 k2 _ _ q1 q2 =>
     refine .func f as bs vs2 ws2 k1 k2 p1 p2 (fun j u v hu hv=>?_) (fun j u v hu hv=>?_)
     ·have hj:j<vs.size:=by have:=(List.getElem?_eq_some_iff.1 hu).1;omega
      exact i1 j u vs[j] hu (Array.getElem?_eq_getElem hj) (q1 j u v hu hv)
     ·have hj:j<ws.size:=by have:=(List.getElem?_eq_some_iff.1 hu).1;omega
      exact i2 j u ws[j] hu (Array.getElem?_eq_getElem hj) (q2 j u v hu hv)
 | yield id b h =>
   cases h2 with
   | yield _ b2 k=>rw [hκ _ _ h] at k;cases k;exact .yield id b h
 | map id b h =>
   cases h2 with
   | map _ b2 k=>rw [hκ _ _ h] at k;cases k;exact .map id b h
 | agg as vs h p one r ih =>
   cases h2 with
   | agg _ vs2 k _ one2 q =>
     refine .agg as vs2 k p one2 fun j u v hu hv=>?_
     have hj:j<vs.size:=by have:=(List.getElem?_eq_some_iff.1 hu).1;omega
     exact ih j u vs[j] hu (Array.getElem?_eq_getElem hj) (q j u v hu hv)
 | tuple as vs h p r ih =>
   cases h2 with
   | tuple _ vs2 k _ q =>
     refine .tuple as vs2 k p fun j u v hu hv=>?_
     have hj:j<vs.size:=by have:=(List.getElem?_eq_some_iff.1 hu).1;omega
     exact ih j u vs[j] hu (Array.getElem?_eq_getElem hj) (q j u v hu hv)
theorem mapO_some {f:AV→Option AV}:∀ {xs ys:List AV},mapO f xs=some ys→ys.length=xs.length∧∀ (j:Nat) (y:AV),ys[j]?=some y→∃ x,xs[j]?=some x∧f x=some y
 | [],ys,h=>by simp [mapO] at h;subst h;simp
 | x::xs,ys,h=>by
   simp only [mapO] at h
   split at h
   ·rename_i y hy
    simp only [Option.map_eq_some_iff] at h
    obtain ⟨ys,h,rfl⟩:=h
    obtain ⟨h1,h2⟩:=mapO_some h
    refine ⟨by simp [h1],fun j z hz=>?_⟩
    cases j with
    | zero=>simp at hz;subst hz;exact ⟨x,rfl,hy⟩
    | succ j=>simpa using h2 j z (by simpa using hz)
   ·simp at h
theorem frz_plain {lo id0 n d:Nat} {u r:AV} (h:frz H lo id0 n d u=some r):(u.plain=true→r.plain=true)∧(u.noUniq=true→r.noUniq=true):=by
 cases d with
 | zero=>simp [frz] at h
 | succ d =>
   unfold frz at h
   split at h
   ·simp only [Option.map_eq_some_iff] at h
    rename_i c
    obtain ⟨cs,_,rfl⟩:=h
    cases c <;> exact ⟨fun h=>h,fun h=>h⟩
   ·simp only [Option.map_eq_some_iff] at h;obtain ⟨cs,_,rfl⟩:=h;exact ⟨fun h=>rfl,fun h=>rfl⟩
   ·simp only [Option.map_eq_some_iff] at h;obtain ⟨cs,_,rfl⟩:=h;exact ⟨fun h=>rfl,fun h=>rfl⟩
   ·simp only [Option.map_eq_some_iff] at h;obtain ⟨cs,_,rfl⟩:=h;exact ⟨fun h=>rfl,fun h=>rfl⟩
   ·split at h <;> simp at h;subst h;exact ⟨fun h=>rfl,fun h=>rfl⟩
   ·split at h
    ·simp at h;subst h;exact ⟨fun h=>rfl,fun h=>rfl⟩
    ·split at h
     ·simp at h;subst h;exact ⟨fun h=>rfl,fun h=>rfl⟩
     ·split at h
      ·simp only [Option.map_eq_some_iff] at h;obtain ⟨cs,_,rfl⟩:=h;exact ⟨fun h=>rfl,fun h=>rfl⟩
      ·simp at h
   ·split at h
    ·simp at h;subst h;exact ⟨fun h=>rfl,fun h=>rfl⟩
    ·split at h
     ·simp at h;subst h;exact ⟨fun h=>rfl,fun h=>rfl⟩
     ·split at h
      ·simp only [Option.map_eq_some_iff] at h;obtain ⟨cs,_,rfl⟩:=h
       rename_i cap _ _ _ _ _ _
       constructor <;> intro _ <;> (unfold frzCap;split <;> (try split) <;> rfl)
      ·simp at h
   ·split at h <;> simp at h;subst h;exact ⟨fun h=>rfl,fun h=>rfl⟩
   ·split at h
    ·simp at h;subst h;exact ⟨fun h=>rfl,fun h=>rfl⟩
    ·split at h <;> simp at h;subst h;exact ⟨fun h=>rfl,fun h=>rfl⟩
   ·simp at h
   ·simp at h
   ·simp at h;subst h;exact ⟨fun h=>h,fun h=>h⟩
theorem frzCap_full {cap:Option Nat} {n m:Nat} (hc:∀ k,cap=some k→m=k) (h:frzCap cap n=.full):m=n:=by
 unfold frzCap at h
 cases cap with
 | none=>simp at h
 | some c =>
   simp only at h
   split at h
   ·rename_i hcn;rw [hc c rfl,hcn]
   ·cases h
theorem frzCap_uniq {cap:Option Nat} {n:Nat} (z:Nat):frzCap cap n≠.uniq z:=by
 unfold frzCap
 cases cap with
 | none=>simp
 | some c=>simp only;split <;> simp
def Fz (ω:Nat→Option Lab) (S:Nat→Nat→Prop) (w:World) (lo id0:Nat) (b o:Nat):Prop :=
 S b o∨((∃ id,lo≤id∧id≠id0∧ω b=some (.obj id))∧∃ v,w.cell? ⟨b,o,none⟩=some v)
theorem frz_rel (hH:HRel B ω κ S w H) {lo id0 n:Nat} {κ3:List Nat} (hlo:∀ (id b:Nat),id<lo→κ[id]?=some b→κ3[id]?=some b) (hn:∀ b,κ[id0]?=some b→κ3[n]?=some b) :
  ∀ (d:Nat) (u r:AV) (v:Value),frz H lo id0 n d u=some r→Rel κ S w u v→Rel κ3 (Fz ω S w lo id0) w r v:=by
 intro d
 induction d with
 | zero=>intro u r v h;simp [frz] at h
 | succ d ih =>
   intro u r v h hr
   have list:∀ {cells cs:List AV} {b o:Nat} {f:Nat→Value},mapO (frz H lo id0 n d) cells=some cs →
     (∀ (j:Nat) (u:AV),cells[j]?=some u→S b (o+j)∧w.cell? ⟨b,o+j,none⟩=some (f j)∧u.plain=true∧(f j).oneCell'=true) →
     (∀ (j:Nat) (u:AV),cells[j]?=some u→Rel κ S w u (f j)) →
     (∀ (j:Nat) (u:AV),cs[j]?=some u→Fz ω S w lo id0 b (o+j)∧w.cell? ⟨b,o+j,none⟩=some (f j)∧u.plain=true∧(f j).oneCell'=true) ∧
     (∀ (j:Nat) (u:AV),cs[j]?=some u→Rel κ3 (Fz ω S w lo id0) w u (f j)):=fun hm hc hrr=>by
    obtain ⟨h1,h2⟩:=mapO_some hm
    refine ⟨fun j y hy=>?_,fun j y hy=>?_⟩
    ·obtain ⟨x,hx,hf⟩:=h2 j y hy
     obtain ⟨c1,c2,c3,c4⟩:=hc j x hx
     exact ⟨.inl c1,c2,(frz_plain hf).1 c3,c4⟩
    ·obtain ⟨x,hx,hf⟩:=h2 j y hy
     exact ih x y _ hf (hrr j x hx)
   have arr:∀ {as bs:List AV} {vs:Array Value},mapO (frz H lo id0 n d) as=some bs→vs.size=as.length→(∀ u∈as,u.plain=true) →
     (∀ (j:Nat) (u:AV) (v:Value),as[j]?=some u→vs[j]?=some v→Rel κ S w u v) →
     vs.size=bs.length∧(∀ u∈bs,u.plain=true)∧∀ (j:Nat) (u:AV) (v:Value),bs[j]?=some u→vs[j]?=some v→Rel κ3 (Fz ω S w lo id0) w u v:=fun hm hl hp hrr=>by
    obtain ⟨h1,h2⟩:=mapO_some hm
    refine ⟨by omega,fun y hy=>?_,fun j y v hy hv=>?_⟩
    ·obtain ⟨j,hj⟩:=List.mem_iff_getElem?.1 hy
     obtain ⟨x,hx,hf⟩:=h2 j y hj
     exact (frz_plain hf).1 (hp x (List.mem_of_getElem? hx))
    ·obtain ⟨x,hx,hf⟩:=h2 j y hy
     exact ih x y v hf (hrr j x v hx hv)
   cases hr with
   | junk v=>simp only [frz,Option.some.injEq] at h;subst h;exact .junk v
   | bool b=>simp only [frz,Option.some.injEq] at h;subst h;exact .bool b
   | int k n=>simp only [frz,Option.some.injEq] at h;subst h;exact .int k n
   | str s=>simp only [frz,Option.some.injEq] at h;subst h;exact .str s
   | nilp=>simp only [frz,Option.some.injEq] at h;subst h;exact .nilp
   | raw=>simp [frz] at h
   | gref=>simp [frz] at h
   | map id b k =>
     simp only [frz] at h
     split at h
     ·rename_i hlt
      simp only [Option.some.injEq] at h;subst h;exact .map _ b (hlo id b hlt k)
     ·split at h
      ·rename_i heq
       subst heq;simp only [Option.some.injEq] at h;subst h;exact .map _ b (hn b k)
      ·simp at h
   | yield id b k =>
     simp only [frz] at h
     split at h
     ·rename_i hlt
      simp only [Option.some.injEq] at h;subst h;exact .yield _ b (hlo id b hlt k)
     ·simp at h
   | lnil c a =>
     simp only [frz,Option.map_eq_some_iff] at h
     obtain ⟨cs,hm,rfl⟩:=h
     simp [mapO] at hm;subst hm;exact .lnil _ _
   | lst cells len c b o cap f hc hle hu k kr =>
     simp only [frz,Option.map_eq_some_iff] at h
     obtain ⟨cs,hm,rfl⟩:=h
     obtain ⟨l1,l2⟩:=list hm k kr
     exact .lst _ _ _ b o cap f hc hle hu l1 l2
   | luniq cells len z b o cap =>
     simp only [frz,Option.map_eq_some_iff] at h
     obtain ⟨cs,hm,rfl⟩:=h
     exact .luniq _ _ z b o cap
   | lptr cells b o f k kr =>
     simp only [frz,Option.map_eq_some_iff] at h
     obtain ⟨cs,hm,rfl⟩:=h
     obtain ⟨l1,l2⟩:=list hm k kr
     exact .lptr _ b o f l1 l2
   | agg as vs k p one q =>
     simp only [frz,Option.map_eq_some_iff] at h
     obtain ⟨cs,hm,rfl⟩:=h
     obtain ⟨a1,a2,a3⟩:=arr hm k p q
     exact .agg _ vs a1 a2 one a3
   | tuple as vs k p q =>
     simp only [frz,Option.map_eq_some_iff] at h
     obtain ⟨cs,hm,rfl⟩:=h
     obtain ⟨a1,a2,a3⟩:=arr hm k p q
     exact .tuple _ vs a1 a2 a3
   | func f as bs vs ws k1 k2 p1 p2 q1 q2 =>
     simp only [frz] at h
     split at h
     ·rename_i ha hb
      simp only [Option.some.injEq] at h;subst h
      obtain ⟨a1,a2,a3⟩:=arr ha k1 p1 q1
      obtain ⟨b1,b2,b3⟩:=arr hb k2 p2 q2
      exact .func f _ _ vs ws a1 b1 a2 b2 a3 b3
     ·simp at h
   | ptr id off b k =>
     simp only [frz] at h
     split at h
     ·rename_i hlt
      simp only [Option.some.injEq] at h;subst h;exact .ptr _ _ b (hlo id b hlt k)
     ·rename_i hge
      split at h
      ·rename_i heq
       subst heq;simp only [Option.some.injEq] at h;subst h;exact .ptr _ _ b (hn b k)
      ·rename_i hne
       split at h
       ·rename_i l hid
        simp only [Option.map_eq_some_iff] at h
        obtain ⟨cs,hm,rfl⟩:=h
        obtain ⟨b',cur,e,a1,a2,a3,a4,a5,a6⟩:=hH.obj id _ hid
        rw [k] at a1;cases a1
        obtain ⟨m1,m2⟩:=mapO_some hm
        have hcell:∀ o,o<cur.size→w.cell? ⟨b,o,none⟩=cur[o]?:=fun o ho=>by simp [World.cell?,a3,ho]
        have facts:∀ (j:Nat) (y:AV),cs[j]?=some y→∃ x c,off+j<cur.size∧cur[off+j]?=some c∧c.oneCell'=true∧x.plain=true∧frz H lo id0 n d x=some y∧Rel κ S w x c:=fun j y hy=>by
         obtain ⟨x,hx,hf⟩:=m2 j y hy
         have hj1:=(List.getElem?_eq_some_iff.1 hx).1
         simp at hj1
         have hj2:off+j<l.length:=by omega
         have hj3:off+j<cur.size:=by omega
         have hl:l[off+j]?=some l[off+j]:=List.getElem?_eq_getElem hj2
         have hv:cur[off+j]?=some cur[off+j]:=Array.getElem?_eq_getElem hj3
         obtain ⟨c1,c2,c3,c4⟩:=a6 (off+j) _ _ hl hv
         rw [List.getElem?_map,List.getElem?_drop,hl] at hx
         simp at hx;subst hx
         exact ⟨_,_,hj3,hv,c2,AV.view_plain _,hf,c3.view c1⟩
        refine .lptr cs b off (fun j=>cur.getD (off+j) undef) (fun j y hy=>?_) (fun j y hy=>?_)
        ·obtain ⟨x,c,hj,hcj,h1,hp,hf,hrx⟩:=facts j y hy
         have hg:cur.getD (off+j) undef=c:=by rw [Array.getD_eq_getD_getElem?,hcj];rfl
         rw [hg]
         exact ⟨.inr ⟨⟨id,by omega,hne,a2⟩,c,by rw [hcell _ hj,hcj]⟩,by rw [hcell _ hj,hcj],(frz_plain hf).1 hp,h1⟩
        ·obtain ⟨x,c,hj,hcj,h1,hp,hf,hrx⟩:=facts j y hy
         have hg:cur.getD (off+j) undef=c:=by rw [Array.getD_eq_getD_getElem?,hcj];rfl
         simp only [hg]
         exact ih x y c hf hrx
       ·simp at h
   | ref id off len cap sz b cp k hc hle =>
     simp only [frz] at h
     split at h
     ·rename_i hlt
      simp only [Option.some.injEq] at h;subst h;exact .ref _ _ _ _ _ b cp (hlo id b hlt k) hc hle
     ·rename_i hge
      split at h
      ·rename_i heq
       subst heq;simp only [Option.some.injEq] at h;subst h;exact .ref _ _ _ _ _ b cp (hn b k) hc hle
      ·rename_i hne
       split at h
       ·rename_i row hrow
        simp only [Option.map_eq_some_iff] at h
        obtain ⟨cs,hm,rfl⟩:=h
        unfold rowOf at hrow
        simp only at hrow
        split at hrow
        ·rename_i l hid
         split at hrow
         ·rename_i hfit
          simp only [Option.some.injEq] at hrow
          obtain ⟨b',cur,e,a1,a2,a3,a4,a5,a6⟩:=hH.obj id _ hid
          rw [k] at a1;cases a1
          obtain ⟨m1,m2⟩:=mapO_some hm
          have hcell:∀ o,o<cur.size→w.cell? ⟨b,o,none⟩=cur[o]?:=fun o ho=>by simp [World.cell?,a3,ho]
          have facts:∀ (j:Nat) (y:AV),cs[j]?=some y→∃ x c,off+j<cur.size∧cur[off+j]?=some c∧c.oneCell'=true∧x.plain=true∧frz H lo id0 n d x=some y∧Rel κ S w x c:=fun j y hy=>by
           obtain ⟨x,hx,hf⟩:=m2 j y hy
           subst hrow
           have hj1:=(List.getElem?_eq_some_iff.1 hx).1
           simp at hj1
           have hj2:off+j<l.length:=by omega
           have hj3:off+j<cur.size:=by omega
           have hl:l[off+j]?=some l[off+j]:=List.getElem?_eq_getElem hj2
           have hv:cur[off+j]?=some cur[off+j]:=Array.getElem?_eq_getElem hj3
           obtain ⟨c1,c2,c3,c4⟩:=a6 (off+j) _ _ hl hv
           rw [List.getElem?_map,List.getElem?_take,if_pos (by omega),List.getElem?_drop,hl] at hx
           simp at hx;subst hx
           exact ⟨_,_,hj3,hv,c2,AV.view_plain _,hf,c3.view c1⟩
          refine .lst cs len _ b off cp (fun j=>cur.getD (off+j) undef) (fun hfull=>frzCap_full hc hfull) hle (fun z=>frzCap_uniq z) (fun j y hy=>?_) (fun j y hy=>?_)
          ·obtain ⟨x,c,hj,hcj,h1,hp,hf,hrx⟩:=facts j y hy
           have hg:cur.getD (off+j) undef=c:=by rw [Array.getD_eq_getD_getElem?,hcj];rfl
           rw [hg]
           exact ⟨.inr ⟨⟨id,by omega,hne,a2⟩,c,by rw [hcell _ hj,hcj]⟩,by rw [hcell _ hj,hcj],(frz_plain hf).1 hp,h1⟩
          ·obtain ⟨x,c,hj,hcj,h1,hp,hf,hrx⟩:=facts j y hy
           have hg:cur.getD (off+j) undef=c:=by rw [Array.getD_eq_getD_getElem?,hcj];rfl
           simp only [hg]
           exact ih x y c hf hrx
         ·simp at hrow
        ·simp at hrow
       ·simp at h
end
end Go.Proofs.YtfakoboiahbhaaaGreat.Ab


namespace Go.Proofs.YtfakoboiahbhaaaGreat.Ab
open Go
def lz (ω:Nat→Option Lab) (lo id0 n:Nat):Nat→Option Lab:=fun b=>match ω b with
 | some (.obj id)=>if id<lo then some (.obj id) else if id=id0 then some (.obj n) else none
 | some (.cell id j)=>if id<lo then some (.cell id j) else if id=id0 then some (.cell n j) else none
 | x=>x
section
variable {P:Program} {B N:Nat} {κ:List Nat} {w:World} {H:List AObj} {ω:Nat→Option Lab} {S:Nat→Nat→Prop}
theorem ObjRel.narrow {ω2 ω3:Nat→Option Lab} {κ2:List Nat} {S2 S3:Nat→Nat→Prop} {w2:World} (hκ:Ext κ κ2) {id:Nat} {o:AObj} (h:ObjRel ω κ S w id o) (h2:ObjRel ω2 κ2 S2 w2 id o)
  (hS:∀ b o,S2 b o→S3 b o) (hk:∀ b l,ω2 b=some l→(l=.obj id∨∃ j,l=.cell id j)→ω3 b=some l∧∀ o,S3 b o→S2 b o):ObjRel ω3 κ S3 w2 id o:=by
 cases o with
 | dead=>trivial
 | map es clock =>
   obtain ⟨b,ents,a1,a2,a3,a4,a5,a6⟩:=h
   obtain ⟨b2,ents2,c1,c2,c3,c4,c5,c6⟩:=h2
   rw [hκ _ _ a1] at c1;cases c1
   obtain ⟨k1,k2⟩:=hk b _ c2 (.inl rfl)
   refine ⟨b,ents2,a1,k1,c3,c4,fun o ho=>c5 o (k2 o ho),fun j i k v x hu hv=>?_⟩
   have hj:j<ents.size:=by have:=(List.getElem?_eq_some_iff.1 hu).1;omega
   obtain ⟨p1,p2,p3,p4,p5⟩:=a6 j i k v ents[j] hu (Array.getElem?_eq_getElem hj)
   obtain ⟨q1,q2,q3,q4,q5⟩:=c6 j i k v x hu hv
   exact ⟨q1,q2,(p3.narrow hκ q3).mono (Ext.refl κ) (fun b o h=>⟨hS b o h,rfl⟩),q4,(p5.narrow hκ q5).mono (Ext.refl κ) (fun b o h=>⟨hS b o h,rfl⟩)⟩
 | iter m s e t =>
   obtain ⟨b,bm,a1,a2,a3,a4,a5⟩:=h
   obtain ⟨b2,bm2,c1,c2,c3,c4,c5⟩:=h2
   rw [hκ _ _ a1] at c1;cases c1
   rw [hκ _ _ a3] at c3;cases c3
   obtain ⟨k1,k2⟩:=hk b _ c2 (.inl rfl)
   exact ⟨b,bm,a1,k1,a3,c4,fun o ho=>c5 o (k2 o ho)⟩
 | cells l =>
   obtain ⟨b,cur,e,a1,a2,a3,a4,a5,a6⟩:=h
   obtain ⟨b2,cur2,e2,c1,c2,c3,c4,c5,c6⟩:=h2
   rw [hκ _ _ a1] at c1;cases c1
   obtain ⟨k1,k2⟩:=hk b _ c2 (.inl rfl)
   refine ⟨b,cur2,e2,a1,k1,c3,c4,fun o ho=>c5 o (k2 o ho),fun j u v hu hv=>?_⟩
   have hj:j<cur.size:=by have:=(List.getElem?_eq_some_iff.1 hu).1;omega
   obtain ⟨p1,p2,p3,p4⟩:=a6 j u cur[j] hu (Array.getElem?_eq_getElem hj)
   obtain ⟨q1,q2,q3,q4⟩:=c6 j u v hu hv
   refine ⟨q1,q2,(p3.narrow hκ q3).mono (Ext.refl κ) (fun b o h=>⟨hS b o h,rfl⟩),?_⟩
   have hm:=fun b hb=>hk b (.cell id j) hb (.inr ⟨j,rfl⟩)
   unfold OwnAt at q4 ⊢
   split at q4
   ·rcases q4 with q4 | ⟨h1,h2,h3,h4,h5,h6,h7,h8,h9⟩
    ·exact .inl q4
    ·exact .inr ⟨(hm _ h1).1,h2,h3,h4,h5,h6,h7,h8,fun o ho hs=>h9 o ho ((hm _ h1).2 o hs)⟩
   ·simp [AV.noUniq] at q1
   ·obtain ⟨h1,h0,h4,h5,h6,h7,hs,⟨cur,e,h8,h9,h10⟩,h11⟩:=q4
    have hs':=hs
    rw [List.all_eq_true] at hs'
    exact ⟨(hm _ h1).1,h0,h4,h5,h6,h7,hs,⟨cur,e,h8,h9,fun j u v hu hv=>⟨(h10 j u v hu hv).1,scal0_any (hs' u (List.mem_of_getElem? hu)) (h10 j u v hu hv).2⟩⟩,fun o hs=>h11 o ((hm _ h1).2 o hs)⟩
   ·trivial
 | grow l gid z =>
   obtain ⟨b,cur,e,a1,a2,a3,a4,a5,a6,cap,a7,a8⟩:=h
   obtain ⟨b2,cur2,e2,c1,c2,c3,c4,c5,c6,cap2,c7,c8⟩:=h2
   rw [hκ _ _ a1] at c1;cases c1
   rw [hκ _ _ a7] at c7;cases c7
   obtain ⟨k1,k2⟩:=hk b _ c2 (.inl rfl)
   refine ⟨b,cur2,e2,a1,k1,c3,c4,fun o ho=>c5 o (k2 o ho),fun j u v hu hv=>?_,cap,a7,c8⟩
   have hj:j<cur.size:=by have:=(List.getElem?_eq_some_iff.1 hu).1;omega
   obtain ⟨p1,p2,p3,p4⟩:=a6 j u cur[j] hu (Array.getElem?_eq_getElem hj)
   obtain ⟨q1,q2,q3,q4⟩:=c6 j u v hu hv
   refine ⟨q1,q2,(p3.narrow hκ q3).mono (Ext.refl κ) (fun b o h=>⟨hS b o h,rfl⟩),?_⟩
   have hm:=fun b hb=>hk b (.cell id j) hb (.inr ⟨j,rfl⟩)
   unfold OwnAt at q4 ⊢
   split at q4
   ·rcases q4 with q4 | ⟨h1,h2,h3,h4,h5,h6,h7,h8,h9⟩
    ·exact .inl q4
    ·exact .inr ⟨(hm _ h1).1,h2,h3,h4,h5,h6,h7,h8,fun o ho hs=>h9 o ho ((hm _ h1).2 o hs)⟩
   ·simp [AV.noUniq] at q1
   ·obtain ⟨h1,h0,h4,h5,h6,h7,hs,⟨cur,e,h8,h9,h10⟩,h11⟩:=q4
    have hs':=hs
    rw [List.all_eq_true] at hs'
    exact ⟨(hm _ h1).1,h0,h4,h5,h6,h7,hs,⟨cur,e,h8,h9,fun j u v hu hv=>⟨(h10 j u v hu hv).1,scal0_any (hs' u (List.mem_of_getElem? hu)) (h10 j u v hu hv).2⟩⟩,fun o hs=>h11 o ((hm _ h1).2 o hs)⟩
   ·trivial
 | loop st pend fn T params assign body ann =>
   obtain ⟨hx,hy,b,L,a1,a2,a3,a4,a5,a6,a7,a8,a9⟩:=h
   obtain ⟨_,_,b2,L2,c1,c2,c3,c4,c5,c6,c7,c8,c9⟩:=h2
   rw [hκ _ _ a1] at c1;cases c1
   refine ⟨hx,hy,b,L2,a1,(hk b _ c2 (.inl rfl)).1,c3,c4,c5,c6,c7,fun i u v hu hv=>?_,c9⟩
   have hj:i<L.tmps.size:=by have:=(List.getElem?_eq_some_iff.1 hu).1;omega
   exact ⟨(c8 i u v hu hv).1,(((a8 i u L.tmps[i] hu (Array.getElem?_eq_getElem hj)).2).narrow hκ (c8 i u v hu hv).2).mono (Ext.refl κ) (fun b o h=>⟨hS b o h,rfl⟩)⟩
theorem lz_keep {lo id0 n b:Nat} {l:Lab} (h:ω b=some l) (hl:∀ id,(l=.obj id∨∃ j,l=.cell id j)→id<lo):lz ω lo id0 n b=some l:=by
 unfold lz
 rw [h]
 cases l with
 | obj id=>simp [hl id (.inl rfl)]
 | cell id j=>simp [hl id (.inr ⟨j,rfl⟩)]
 | _=>rfl
theorem lz_none {lo id0 n b:Nat} (h:ω b=none):lz ω lo id0 n b=none:=by simp [lz,h]
theorem frz_base {ω2:Nat→Option Lab} {κ2:List Nat} {S2:Nat→Nat→Prop} {w2:World} {H2:List AObj} (hH:HRel B ω κ S w H) (hκ:Ext κ κ2) (ev:Ev ω S w ω2 S2 w2) (hH2:HRel B ω2 κ2 S2 w2 H2)
  (hpre:∀ id,id<H.length→H2[id]?=H[id]?) (id0 n:Nat) :
  Ev ω S w (lz ω2 H.length id0 n) (Fz ω2 S2 w2 H.length id0) w2∧HRel B (lz ω2 H.length id0 n) κ (Fz ω2 S2 w2 H.length id0) w2 H:=by
 have hn:∀ b,lz ω2 H.length id0 n b≠none→ω2 b≠none:=fun b h h0=>h (lz_none h0)
 refine ⟨⟨ev.os,ev.tape,ev.output,ev.size,ev.keep,fun b o h=>⟨.inl (ev.set b o h).1,(ev.set b o h).2⟩,fun b o h=>?_,fun b h=>ev.own b (hn b h)⟩,⟨hH.klen,fun id o ho=>?_,fun b o h=>?_,fun b l hb=>?_,hH2.bsz⟩⟩
 ·rcases h with h | ⟨⟨id,_,_,h⟩,_⟩
  ·exact ev.fresh b o h
  ·rcases ev.own b (by simp [h]) with h1 | h1
   ·exact .inr (.inl h1)
   ·exact .inr (.inr h1)
 ·have hlt:=(List.getElem?_eq_some_iff.1 ho).1
  have ho2:H2[id]?=some o:=by rw [hpre id hlt];exact ho
  refine (hH.obj id o ho).narrow hκ (hH2.obj id o ho2) (fun b o h=>.inl h) fun b l hb hl=>⟨lz_keep hb fun id' hl'=>?_,fun o h=>?_⟩
  ·have:id'=id:=by
    rcases hl with rfl | ⟨j,rfl⟩ <;> rcases hl' with h | ⟨j',h⟩ <;> cases h <;> rfl
   omega
  ·rcases h with h | ⟨⟨id',h1,_,h⟩,_⟩
   ·exact h
   ·rw [hb] at h
    rcases hl with rfl | ⟨j,rfl⟩
    ·cases h;omega
    ·cases h
 ·rcases h with h | ⟨_,h⟩
  ·exact hH2.swf b o h
  ·exact h
 ·cases h:ω2 b with
  | none=>simp [lz,h] at hb
  | some l'=>exact hH2.base b l' h
theorem frz_own {κ2 κ3:List Nat} {w2:World} {ω2 ω3:Nat→Option Lab} {S2 S3:Nat→Nat→Prop} {l l':Lab} (hω:∀ b,ω2 b=some l→ω3 b=some l'∧∀ o,S3 b o→S2 b o) {H2:List AObj} {lo id0 n d:Nat} {u r:AV} {v:Value}
  (hrel:∀ (d:Nat) (u r:AV) (v:Value),frz H2 lo id0 n d u=some r→Rel κ2 S2 w2 u v→Rel κ3 S3 w2 r v)
  (h:frz H2 lo id0 n d u=some r) (ho:OwnAt ω2 κ2 S2 w2 l u v):OwnAt ω3 κ3 S3 w2 l' r v:=by
 by_cases hp:u.plain=true
 ·exact OwnAt.of_plain ((frz_plain h).1 hp)
 ·cases d with
  | zero=>simp [frz] at h
  | succ d =>
    obtain ⟨cells,len,c,rfl⟩:∃ cells len c,u=.lst cells len c:=by
     cases u <;> first | exact ⟨_,_,_,rfl⟩ | exact absurd rfl hp | simp [frz] at h
    simp only [frz,Option.map_eq_some_iff] at h
    obtain ⟨cs,hm,rfl⟩:=h
    obtain ⟨m1,m2⟩:=mapO_some hm
    cases c with
    | shared=>exact absurd rfl hp
    | full=>exact absurd rfl hp
    | own z =>
      cases v with
      | slice aa m cp =>
       cases aa with
       | none=>trivial
       | some a =>
        simp only [OwnAt] at ho ⊢
        rcases ho with ⟨h1,h2,h3⟩ | ⟨h1,h2,h3,h4,h5,h6,h7,h8,h9⟩
        ·subst h3;simp [mapO] at hm;subst hm;exact .inl ⟨h1,h2,rfl⟩
        ·exact .inr ⟨(hω _ h1).1,h2,h3,h4,h5,h6,by omega,h8,fun o ho hs=>h9 o (by omega) ((hω _ h1).2 o hs)⟩
      | _=>trivial
    | uniq z =>
      cases v with
      | slice aa m cp =>
       cases aa with
       | none=>trivial
       | some a =>
        simp only [OwnAt] at ho ⊢
        rcases ho with ⟨h1,h2,h3⟩ | ⟨h1,h2,h4,h5,h6,h7,⟨cur,e,h8,h9,h10⟩,h11⟩
        ·subst h3;simp [mapO] at hm;subst hm;exact .inl ⟨h1,h2,rfl⟩
        ·refine .inr ⟨(hω _ h1).1,h2,h4,h5,h6,by omega,⟨cur,e,h8,h9,fun j y c hy hc=>?_⟩,fun o hs=>h11 o ((hω _ h1).2 o hs)⟩
         obtain ⟨x,hx,hf⟩:=m2 j y hy
         obtain ⟨q1,q2,q3⟩:=h10 j x c hx hc
         exact ⟨(frz_plain hf).1 q1,q2,hrel d x y c hf q3⟩
      | _=>trivial
theorem post_frz (hH:HRel B ω κ S w H) {H2:List AObj} {r v:AV} {x:Value} {w2:World} (hpre:∀ id,id<H.length→H2[id]?=H[id]?) {n d:Nat} (hf:frz H2 H.length H2.length n d r=some v)
  (hp:Post B ω κ S w H2 r x w2):Post B ω κ S w H v x w2:=by
 obtain ⟨ω2,κ2,S2,hκ,ev,hH2,hr,ho⟩:=hp
 obtain ⟨e3,h3⟩:=frz_base hH hκ ev hH2 hpre H2.length n
 have hrel:=fun d u r v=>frz_rel (κ3:=κ) (id0:=H2.length) (n:=n) hH2 (lo:=H.length) (fun id b hlt hb=>by
   have hlt':id<κ.length:=by rw [hH.klen];exact hlt
   have hx:=List.getElem?_eq_getElem hlt'
   rw [hκ _ _ hx] at hb;cases hb;exact hx) (fun b hb=>by
   have:=(List.getElem?_eq_some_iff.1 hb).1;rw [hH2.klen] at this;omega) d u r v
 refine ⟨_,κ,_,Ext.refl κ,e3,h3,hrel d r v x hf hr,frz_own (l:=.res) (fun b hb=>⟨lz_keep hb (fun id h=>by rcases h with h | ⟨j,h⟩ <;> cases h),fun o h=>?_⟩) hrel hf ho⟩
 rcases h with h | ⟨⟨id,_,_,h⟩,_⟩
 ·exact h
 ·rw [hb] at h;cases h
theorem post_own1 (hH:HRel B ω κ S w H) {H2:List AObj} {r v:AV} {x:Value} {w2:World} (hpre:∀ id,id<H.length→H2[id]?=H[id]?) {id0 d d':Nat} {l l':List AV} (hge:H.length≤id0)
  (hid:H2[id0]?=some (.cells l)) (hl:mapO (frz H2 H.length id0 H.length d') l=some l') (hf:frz H2 H.length id0 H.length d r=some v)
  (hp:Post B ω κ S w H2 r x w2):Post B ω κ S w (H++[.cells l']) v x w2:=by
 obtain ⟨ω2,κ2,S2,hκ,ev,hH2,hr,ho⟩:=hp
 obtain ⟨e3,h3⟩:=frz_base hH hκ ev hH2 hpre id0 H.length
 obtain ⟨b0,cur,e,a1,a2,a3,a4,a5,a6⟩:=hH2.obj id0 _ hid
 have hκ3:Ext κ (κ++[b0]):=Ext.append κ [b0]
 have hrel:=fun d u r v=>frz_rel (κ3:=κ++[b0]) (id0:=id0) (n:=H.length) hH2 (lo:=H.length) (fun id b hlt hb=>by
   have hlt':id<κ.length:=by rw [hH.klen];exact hlt
   have hx:=List.getElem?_eq_getElem hlt'
   rw [hκ _ _ hx] at hb;cases hb;exact hκ3 _ _ hx) (fun b hb=>by
   rw [a1] at hb;cases hb;exact Ext.last hH b0) d u r v
 obtain ⟨m1,m2⟩:=mapO_some hl
 have hid0:∀ id,(Lab.obj id0≠.obj id)∨id=id0:=fun id=>by
  by_cases h:id=id0
  ·exact .inr h
  ·exact .inl fun e=>h (by cases e;rfl)
 have hlab:∀ b,ω2 b=some (.obj id0)→lz ω2 H.length id0 H.length b=some (.obj H.length):=fun b hb=>by
  simp only [lz,hb];simp;omega
 have hlab2:∀ b j,ω2 b=some (.cell id0 j)→lz ω2 H.length id0 H.length b=some (.cell H.length j):=fun b j hb=>by
  simp only [lz,hb];simp;omega
 have hS:∀ b l,ω2 b=some l→(∀ id,l≠.obj id∨id=id0)→∀ o,Fz ω2 S2 w2 H.length id0 b o→S2 b o:=fun b l hb hne o h=>by
  rcases h with h | ⟨⟨id,_,hn,h⟩,_⟩
  ·exact h
  ·rw [hb] at h;cases h
   rcases hne id with h | h
   ·exact absurd rfl h
   ·exact absurd h hn
 refine ⟨_,κ++[b0],_,hκ3,e3,h3.push b0 ⟨b0,cur,e,Ext.last hH b0,hlab b0 a2,a3,by omega,fun o h=>a5 o (hS b0 _ a2 hid0 o h),fun j u c hu hc=>?_⟩,
  hrel d r v x hf hr,frz_own (l:=.res) (fun b hb=>⟨lz_keep hb (fun id h=>by rcases h with h | ⟨j,h⟩ <;> cases h),hS b _ hb (fun id=>.inl (by simp))⟩) hrel hf ho⟩
 obtain ⟨y,hy,hfy⟩:=m2 j u hu
 obtain ⟨c1,c2,c3,c4⟩:=a6 j y c hy hc
 exact ⟨(frz_plain hfy).2 c1,c2,hrel d' y u c hfy c3,frz_own (l:=.cell id0 j) (fun b hb=>⟨hlab2 b j hb,hS b _ hb (fun id=>.inl (by simp))⟩) hrel hfy c4⟩
theorem mapM_some {f:AV→Option AV}:∀ {xs ys:List (Nat×AV×AV)},mapM f xs=some ys→ys.length=xs.length∧∀ (j i:Nat) (k v:AV),ys[j]?=some (i,k,v)→∃ k0 v0,xs[j]?=some (i,k0,v0)∧f k0=some k∧f v0=some v
 | [],ys,h=>by simp [mapM] at h;subst h;simp
 | (i0,k0,v0)::xs,ys,h=>by
   simp only [mapM] at h
   split at h
   ·rename_i k1 v1 hk hv
    simp only [Option.map_eq_some_iff] at h
    obtain ⟨ys,h,rfl⟩:=h
    obtain ⟨h1,h2⟩:=mapM_some h
    refine ⟨by simp [h1],fun j i k v hj=>?_⟩
    cases j with
    | zero=>simp at hj;obtain ⟨rfl,rfl,rfl⟩:=hj;exact ⟨k0,v0,rfl,hk,hv⟩
    | succ j=>simpa using h2 j i k v (by simpa using hj)
   ·simp at h
theorem post_own1m (hH:HRel B ω κ S w H) {H2:List AObj} {r v:AV} {x:Value} {w2:World} (hpre:∀ id,id<H.length→H2[id]?=H[id]?) {id0 d d':Nat} {es es':List (Nat×AV×AV)} {clock:Nat} (hge:H.length≤id0)
  (hid:H2[id0]?=some (.map es clock)) (hl:mapM (frz H2 H.length id0 H.length d') es=some es') (hf:frz H2 H.length id0 H.length d r=some v)
  (hp:Post B ω κ S w H2 r x w2):Post B ω κ S w (H++[.map es' clock]) v x w2:=by
 obtain ⟨ω2,κ2,S2,hκ,ev,hH2,hr,ho⟩:=hp
 obtain ⟨e3,h3⟩:=frz_base hH hκ ev hH2 hpre id0 H.length
 obtain ⟨b0,ents,a1,a2,a3,a4,a5,a6⟩:=hH2.obj id0 _ hid
 have hκ3:Ext κ (κ++[b0]):=Ext.append κ [b0]
 have hrel:=fun d u r v=>frz_rel (κ3:=κ++[b0]) (id0:=id0) (n:=H.length) hH2 (lo:=H.length) (fun id b hlt hb=>by
   have hlt':id<κ.length:=by rw [hH.klen];exact hlt
   have hx:=List.getElem?_eq_getElem hlt'
   rw [hκ _ _ hx] at hb;cases hb;exact hκ3 _ _ hx) (fun b hb=>by
   rw [a1] at hb;cases hb;exact Ext.last hH b0) d u r v
 obtain ⟨m1,m2⟩:=mapM_some hl
 have hid0:∀ id,(Lab.obj id0≠.obj id)∨id=id0:=fun id=>by
  by_cases h:id=id0
  ·exact .inr h
  ·exact .inl fun e=>h (by cases e;rfl)
 have hlab:∀ b,ω2 b=some (.obj id0)→lz ω2 H.length id0 H.length b=some (.obj H.length):=fun b hb=>by
  simp only [lz,hb];simp;omega
 have hS:∀ b l,ω2 b=some l→(∀ id,l≠.obj id∨id=id0)→∀ o,Fz ω2 S2 w2 H.length id0 b o→S2 b o:=fun b l hb hne o h=>by
  rcases h with h | ⟨⟨id,_,hn,h⟩,_⟩
  ·exact h
  ·rw [hb] at h;cases h
   rcases hne id with h | h
   ·exact absurd rfl h
   ·exact absurd h hn
 refine ⟨_,κ++[b0],_,hκ3,e3,h3.push b0 ⟨b0,ents,Ext.last hH b0,hlab b0 a2,a3,by omega,fun o h=>a5 o (hS b0 _ a2 hid0 o h),fun j i k v c hu hc=>?_⟩,
  hrel d r v x hf hr,frz_own (l:=.res) (fun b hb=>⟨lz_keep hb (fun id h=>by rcases h with h | ⟨j,h⟩ <;> cases h),hS b _ hb (fun id=>.inl (by simp))⟩) hrel hf ho⟩
 obtain ⟨k0,v0,hy,hfk,hfv⟩:=m2 j i k v hu
 obtain ⟨c1,c2,c3,c4,c5⟩:=a6 j i k0 v0 c hy hc
 exact ⟨c1,(frz_plain hfk).1 c2,hrel d' k0 k _ hfk c3,(frz_plain hfv).1 c4,hrel d' v0 v _ hfv c5⟩
theorem dim0_plain {u:AV} (h:u.plain=true):u.dim0.plain=true:=by
 unfold AV.dim0;split
 ·rfl
 ·exact h
theorem dim_plain {u:AV} (h:u.plain=true):u.dim.plain=true:=by
 unfold AV.dim;split <;> first | rfl | exact h
theorem Rel.dim0 {u:AV} {v:Value} (h:Rel κ S w u v):Rel κ S w u.dim0 v:=by
 unfold AV.dim0;split
 ·rename_i c n
  cases h with
  | lnil _ a=>exact .lnil _ a
  | lst _ _ _ b o cap f hc hle hu k kr=>exact .lst _ _ _ b o cap f (by simp) hle (by simp) k kr
 ·exact h
theorem Rel.dim {u:AV} {v:Value} (h:Rel κ S w u v):Rel κ S w u.dim v:=by
 unfold AV.dim;split
 ·rename_i c n
  cases h with
  | lnil _ a=>exact .lnil _ a
  | lst _ _ _ b o cap f hc hle hu k kr=>exact .lst _ _ _ b o cap f (by simp) hle (by simp) k kr
 ·cases h with
  | agg as vs l p one r =>
    refine .agg _ vs (by simpa using l) (fun u hu=>?_) one fun j u v hu hv=>?_
    ·obtain ⟨x,hx,rfl⟩:=List.mem_map.1 hu;exact dim0_plain (p x hx)
    ·rw [List.getElem?_map] at hu
     simp only [Option.map_eq_some_iff] at hu
     obtain ⟨x,hx,rfl⟩:=hu;exact (r j x v hx hv).dim0
 ·cases h with
  | tuple as vs l p r =>
    refine .tuple _ vs (by simpa using l) (fun u hu=>?_) fun j u v hu hv=>?_
    ·obtain ⟨x,hx,rfl⟩:=List.mem_map.1 hu;exact dim0_plain (p x hx)
    ·rw [List.getElem?_map] at hu
     simp only [Option.map_eq_some_iff] at hu
     obtain ⟨x,hx,rfl⟩:=hu;exact (r j x v hx hv).dim0
 ·exact h
theorem OwnAt.dim {l:Lab} {u:AV} {v:Value} (h:OwnAt ω κ S w l u v):OwnAt ω κ S w l u.dim v:=by
 by_cases hp:u.plain=true
 ·exact OwnAt.of_plain (dim_plain hp)
 ·have:u.dim=u:=by
   cases u <;> first | exact absurd rfl hp | skip
   ·rename_i c n k;cases k <;> first | rfl | exact absurd rfl hp
   ·rfl
   ·rfl
  rw [this];exact h
theorem VRel.dim {lab:Nat→Lab} {T:List AV} {tm:List Value} (h:VRel lab ω κ S w T tm):VRel lab ω κ S w (T.map AV.dim) tm :=
 ⟨by simpa using h.len,fun i u v hu hv=>by
  rw [List.getElem?_map] at hu
  simp only [Option.map_eq_some_iff] at hu
  obtain ⟨x,hx,rfl⟩:=hu;exact (h.rel i x v hx hv).dim,fun i u v hu hv=>by
  rw [List.getElem?_map] at hu
  simp only [Option.map_eq_some_iff] at hu
  obtain ⟨x,hx,rfl⟩:=hu;exact (h.own i x v hx hv).dim⟩
theorem Post.dim {H':List AObj} {r:AV} {v:Value} {w':World} (h:Post B ω κ S w H' r v w'):Post B ω κ S w H' r.dim v w':=by
 obtain ⟨ω2,κ2,S2,a,b,c,d,e⟩:=h
 exact ⟨ω2,κ2,S2,a,b,c,d.dim,e.dim⟩
theorem Rel.pure (κ':List Nat) {u:AV} {v:Value} (h:Rel κ S w u v):∀ {d:Nat},pureD d u=true→Rel κ' S w u v:=by
 have all:∀ {d:Nat} {l:List AV},l.all (pureD d)=true→∀ {j:Nat} {u:AV},l[j]?=some u→pureD d u=true:=fun h j u hu=>by
  rw [List.all_eq_true] at h;exact h u (List.mem_of_getElem? hu)
 induction h with
 | junk v=>intro d h;cases d <;> simp [pureD] at h
 | bool b=>intros;exact .bool b
 | int k n=>intros;exact .int k n
 | str s=>intros;exact .str s
 | nilp=>intros;exact .nilp
 | ptr id off b k=>intro d h;cases d <;> simp [pureD] at h
 | lptr cells b o f k kr ih =>
   intro d h
   cases d with
   | zero=>simp [pureD] at h
   | succ d=>simp only [pureD] at h;exact .lptr cells b o f k fun j u hj=>ih j u hj (all h hj)
 | lnil c a=>intros;exact .lnil c a
 | lst cells len c b o cap f hc hle hu k kr ih =>
   intro d h
   cases d with
   | zero=>simp [pureD] at h
   | succ d=>simp only [pureD] at h;exact .lst cells len c b o cap f hc hle hu k fun j u hj=>ih j u hj (all h hj)
 | luniq cells len z b o cap=>intros;exact .luniq cells len z b o cap
 | raw=>intro d h;cases d <;> simp [pureD] at h
 | gref=>intro d h;cases d <;> simp [pureD] at h
 | ref id off len c sz b cap k hc hle=>intro d h;cases d <;> simp [pureD] at h
 | func f as bs vs ws h1 h2 p1 p2 r1 r2 i1 i2 =>
   intro d h
   cases d with
   | zero=>simp [pureD] at h
   | succ d =>
     simp only [pureD,Bool.and_eq_true] at h
     exact .func f as bs vs ws h1 h2 p1 p2 (fun j u v hu hv=>i1 j u v hu hv (all h.1 hu)) (fun j u v hu hv=>i2 j u v hu hv (all h.2 hu))
 | yield id b k=>intro d h;cases d <;> simp [pureD] at h
 | map id b k=>intro d h;cases d <;> simp [pureD] at h
 | agg as vs k p one r ih =>
   intro d h
   cases d with
   | zero=>simp [pureD] at h
   | succ d=>simp only [pureD] at h;exact .agg as vs k p one fun j u v hu hv=>ih j u v hu hv (all h hu)
 | tuple as vs k p r ih =>
   intro d h
   cases d with
   | zero=>simp [pureD] at h
   | succ d=>simp only [pureD] at h;exact .tuple as vs k p fun j u v hu hv=>ih j u v hu hv (all h hu)
def argsOnly (ω:Nat→Option Lab):Nat→Option Lab:=fun b=>match ω b with
 | some (.arg i)=>some (.arg i)
 | _=>none
theorem argsOnly_arg {b i:Nat} (h:ω b=some (.arg i)):argsOnly ω b=some (.arg i):=by simp [argsOnly,h]
theorem argsOnly_some {b:Nat} {l:Lab} (h:argsOnly ω b=some l):∃ i,ω b=some (.arg i)∧l=.arg i:=by
 unfold argsOnly at h
 split at h
 ·rename_i i hi;cases h;exact ⟨i,hi,rfl⟩
 ·cases h
theorem OwnAt.pure (κ':List Nat) {i:Nat} {u:AV} {v:Value} {d:Nat} (hp:pureD d u=true) (h:OwnAt ω κ S w (.arg i) u v):OwnAt (argsOnly ω) κ' S w (.arg i) u v:=by
 unfold OwnAt at h ⊢
 split at h
 ·rcases h with h | ⟨h1,h⟩
  ·exact .inl h
  ·exact .inr ⟨argsOnly_arg h1,h⟩
 ·rename_i cells len z a n cap
  cases d with
  | zero=>simp [pureD] at hp
  | succ d =>
    simp only [pureD] at hp
    rcases h with h | ⟨h1,h2,h3,h4,h5,h6,⟨cur,e,h7,h8,h9⟩,h10⟩
    ·exact .inl h
    ·refine .inr ⟨argsOnly_arg h1,h2,h3,h4,h5,h6,⟨cur,e,h7,h8,fun j u v hu hv=>?_⟩,h10⟩
     obtain ⟨p1,p2,p3⟩:=h9 j u v hu hv
     rw [List.all_eq_true] at hp
     exact ⟨p1,p2,p3.pure κ' (hp u (List.mem_of_getElem? hu))⟩
 ·cases d <;> simp [pureD] at hp
 ·trivial
theorem VRel.pure {T:List AV} {tm:List Value} (h:VRel (fun i=>.arg i) ω κ S w T tm) (hp:T.all (pureD 8)=true):VRel (fun i=>.arg i) (argsOnly ω) [] S w T tm:=by
 rw [List.all_eq_true] at hp
 exact ⟨h.len,fun i u v hu hv=>(h.rel i u v hu hv).pure [] (hp u (List.mem_of_getElem? hu)),fun i u v hu hv=>(h.own i u v hu hv).pure [] (hp u (List.mem_of_getElem? hu))⟩
theorem hrel_pure (hH:HRel B ω κ S w H):HRel B (argsOnly ω) [] S w [] :=
 ⟨rfl,fun id o h=>by simp at h,hH.swf,fun b l hb=>by obtain ⟨i,h,_⟩:=argsOnly_some hb;exact hH.base b _ h,hH.bsz⟩
theorem post_pure (hH:HRel B ω κ S w H) {H2:List AObj} {r v:AV} {x:Value} {w2:World} {n d:Nat} (hf:frz H2 0 H2.length n d r=some v)
  (hp:Post B (argsOnly ω) [] S w H2 r x w2):Post B ω κ S w H v x w2:=by
 classical
 obtain ⟨ω2,κ2,S2,hκ,ev,hH2,hr,ho⟩:=hp
 let ω':Nat→Option Lab:=fun b=>match ω b with
  | some (.obj id)=>some (.obj id)
  | some (.cell id j)=>some (.cell id j)
  | _=>match ω2 b with
    | some (.obj _)=>none
    | some (.cell _ _)=>none
    | l=>l
 have hobj:∀ b l,ω b=some l→((∃ id,l=.obj id)∨∃ id j,l=.cell id j)→ω' b=some l∧ω2 b=none∧b<w.heap.size:=fun b l hb hl=>by
  have hlt:=(hH.base b l hb).2
  have h2:ω2 b=none:=by
   cases h:ω2 b with
   | none=>rfl
   | some l' =>
     rcases ev.own b (by simp [h]) with h1 | h1
     ·exfalso
      apply h1
      rcases hl with ⟨id,rfl⟩ | ⟨id,j,rfl⟩ <;> simp [argsOnly,hb]
     ·omega
  refine ⟨?_,h2,hlt⟩
  rcases hl with ⟨id,rfl⟩ | ⟨id,j,rfl⟩ <;> simp [ω',hb]
 have hsome:∀ b,ω' b≠none→ω b≠none∨ω2 b≠none:=fun b h=>by
  by_cases h1:ω b=none
  ·right
   intro h2
   apply h
   simp [ω',h1,h2]
  ·exact .inl h1
 have ha:∀ b,argsOnly ω b≠none→ω b≠none:=fun b h h0=>h (by simp [argsOnly,h0])
 have hS':∀ b o,Fz ω2 S2 w2 0 H2.length b o→S b o∨ω b≠none∨w.heap.size≤b:=fun b o h=>by
  rcases h with h | ⟨⟨id,_,_,h⟩,_⟩
  ·rcases ev.fresh b o h with h | h | h
   ·exact .inl h
   ·exact .inr (.inl (ha b h))
   ·exact .inr (.inr h)
  ·rcases ev.own b (by simp [h]) with h1 | h1
   ·exact .inr (.inl (ha b h1))
   ·exact .inr (.inr h1)
 have ev':Ev ω S w ω' (Fz ω2 S2 w2 0 H2.length) w2 :=
  ⟨ev.os,ev.tape,ev.output,ev.size,fun b hb hn=>ev.keep b hb (by simp [argsOnly,hn]),fun b o h=>⟨.inl (ev.set b o h).1,(ev.set b o h).2⟩,hS',fun b h=>by
   rcases hsome b h with h | h
   ·exact .inl h
   ·rcases ev.own b h with h | h
    ·exact .inl (ha b h)
    ·exact .inr h⟩
 have hrel:=fun d u r v=>frz_rel (κ3:=κ) (id0:=H2.length) (n:=n) hH2 (lo:=0) (fun id b hlt hb=>by omega) (fun b hb=>by
   have:=(List.getElem?_eq_some_iff.1 hb).1;rw [hH2.klen] at this;omega) d u r v
 refine ⟨ω',κ,_,Ext.refl κ,ev',hH.frame ev' (fun b l hb hl=>?_) (fun b o h=>?_) (fun b l hb=>?_),hrel d r v x hf hr,frz_own (l:=.res) (fun b hb=>?_) hrel hf ho⟩
 ·obtain ⟨h1,h2,h3⟩:=hobj b l hb hl
  have hn:argsOnly ω b=none:=by rcases hl with ⟨id,rfl⟩ | ⟨id,j,rfl⟩ <;> simp [argsOnly,hb]
  refine ⟨h1,ev.keep b h3 hn,fun o h=>?_⟩
  rcases h with h | ⟨⟨id,_,_,h⟩,_⟩
  ·rcases ev.fresh b o h with h | h | h
   ·exact h
   ·exact absurd hn h
   ·omega
  ·rw [h2] at h;cases h
 ·rcases h with h | ⟨_,h⟩
  ·exact hH2.swf b o h
  ·exact h
 ·by_cases h:ω b=none
  ·have hb':ω2 b≠none:=fun h2=>by simp [ω',h,h2] at hb
   cases h2:ω2 b with
   | none=>exact absurd h2 hb'
   | some l'=>exact hH2.base b l' h2
  ·cases h1:ω b with
   | none=>exact absurd h1 h
   | some l'=>obtain ⟨p,q⟩:=hH.base b l' h1;exact ⟨p,Nat.lt_of_lt_of_le q ev.size⟩
 ·refine ⟨?_,fun o h=>?_⟩
  ·cases h1:ω b with
   | none=>simp [ω',h1,hb]
   | some l =>
     cases l with
     | obj id=>have:=(hobj b _ h1 (.inl ⟨id,rfl⟩)).2.1;rw [hb] at this;cases this
     | cell id j=>have:=(hobj b _ h1 (.inr ⟨id,j,rfl⟩)).2.1;rw [hb] at this;cases this
     | _=>simp [ω',h1,hb]
  ·rcases h with h | ⟨⟨id,_,_,h⟩,_⟩
   ·exact h
   ·rw [hb] at h;cases h
def allS (ω:Nat→Option Lab) (S:Nat→Nat→Prop) (w:World):Nat→Nat→Prop:=fun b o=>S b o∨((∃ id,ω b=some (.obj id))∧∃ v,w.cell? ⟨b,o,none⟩=some v)
theorem scal0_rel {κ κ':List Nat} {S S':Nat→Nat→Prop} {u:AV} {v:Value} (h:scal0 u=true) (hr:Rel κ S w u v):Rel κ' S' w u v:=by
 cases hr <;> simp [scal0] at h
 ·exact .bool _
 ·exact .int _ _
 ·exact .str _
theorem scal_rel {κ':List Nat} {S':Nat→Nat→Prop} {u:AV} {v:Value} (h:scal u=true) (hr:Rel κ S w u v):Rel κ' S' w u v:=by
 cases hr with
 | bool b=>exact .bool b
 | int k n=>exact .int k n
 | str s=>exact .str s
 | tuple as vs k p q =>
   simp only [scal,List.all_eq_true] at h
   exact .tuple as vs k p fun j u v hu hv=>scal0_rel (h u (List.mem_of_getElem? hu)) (q j u v hu hv)
 | luniq cells len z b o cap=>exact .luniq _ _ _ _ _ _
 | lnil c a =>
   exact .lnil _ _
 | lst cells len c b o cap f hc hle hu k kr=>cases c <;> simp [scal] at h;exact absurd rfl (hu _)
 | _=>simp [scal] at h
theorem scal_own {ω ω':Nat→Option Lab} {κ':List Nat} {S S':Nat→Nat→Prop} {u:AV} {v:Value} (h:scal u=true) (ho:OwnAt ω κ S w .res u v) (hω:∀ b,ω b=some .res→ω' b=some .res∧∀ o,S' b o→S b o):OwnAt ω' κ' S' w .res u v:=by
 unfold OwnAt at ho ⊢
 split at ho
 ·simp [scal] at h
 ·simp only [scal,List.all_eq_true] at h
  rcases ho with ho | ⟨h1,h0,h4,h5,h6,h7,⟨cur,e,h8,h9,h10⟩,h11⟩
  ·exact .inl ho
  ·obtain ⟨k1,k2⟩:=hω _ h1
   exact .inr ⟨k1,h0,h4,h5,h6,h7,⟨cur,e,h8,h9,fun j u v hu hv=>⟨(h10 j u v hu hv).1,(h10 j u v hu hv).2.1,scal0_rel (h u (List.mem_of_getElem? hu)) (h10 j u v hu hv).2.2⟩⟩,fun o hs=>h11 o (k2 o hs)⟩
 ·simp [scal] at h
 ·trivial
theorem shzR_plain {u:AV} (h:u.plain=true):(shzR H u).plain=true:=by
 unfold shzR;split
 ·split <;> rfl
 ·exact h
theorem shzR_rel (hH:HRel B ω κ S w H) {u:AV} {v:Value} (hr:Rel κ S w u v):Rel κ (allS ω S w) w (shzR H u) v:=by
 have hm:Rel κ (allS ω S w) w u v:=hr.mono (Ext.refl κ) fun b o h=>⟨.inl h,rfl⟩
 cases hr <;> try exact hm
 case ref id off len cap sz b cp hb hc hle =>
  unfold shzR
  simp only
  split
  ·rename_i row hrow
   unfold rowOf at hrow
   simp only at hrow
   split at hrow
   ·rename_i l hid
    split at hrow
    ·rename_i hfit
     simp only [Option.some.injEq] at hrow
     obtain ⟨b',cur,e,a1,a2,a3,a4,a5,a6⟩:=hH.obj id _ hid
     rw [hb] at a1;cases a1
     have hcell:∀ o,o<cur.size→w.cell? ⟨b,o,none⟩=cur[o]?:=fun o ho=>by simp [World.cell?,a3,ho]
     have facts:∀ (j:Nat) (y:AV),row[j]?=some y→∃ c,off+j<cur.size∧cur[off+j]?=some c∧c.oneCell'=true∧y.plain=true∧Rel κ S w y c:=fun j y hy=>by
      subst hrow
      have hj1:=(List.getElem?_eq_some_iff.1 hy).1
      simp at hj1
      have hj2:off+j<l.length:=by omega
      have hj3:off+j<cur.size:=by omega
      have hl:l[off+j]?=some l[off+j]:=List.getElem?_eq_getElem hj2
      have hv:cur[off+j]?=some cur[off+j]:=Array.getElem?_eq_getElem hj3
      obtain ⟨c1,c2,c3,c4⟩:=a6 (off+j) _ _ hl hv
      rw [List.getElem?_map,List.getElem?_take,if_pos (by omega),List.getElem?_drop,hl] at hy
      simp at hy;subst hy
      exact ⟨_,hj3,hv,c2,AV.view_plain _,c3.view c1⟩
     refine .lst row len .shared b off cp (fun j=>cur.getD (off+j) undef) (by simp) hle (by simp) (fun j y hy=>?_) (fun j y hy=>?_)
     ·obtain ⟨c,hj,hcj,h1,hp,hrx⟩:=facts j y hy
      have hg:cur.getD (off+j) undef=c:=by rw [Array.getD_eq_getD_getElem?,hcj];rfl
      rw [hg]
      exact ⟨.inr ⟨⟨id,a2⟩,c,by rw [hcell _ hj,hcj]⟩,by rw [hcell _ hj,hcj],hp,h1⟩
     ·obtain ⟨c,hj,hcj,h1,hp,hrx⟩:=facts j y hy
      have hg:cur.getD (off+j) undef=c:=by rw [Array.getD_eq_getD_getElem?,hcj];rfl
      simp only [hg]
      exact hrx.mono (Ext.refl κ) fun b o h=>⟨.inl h,rfl⟩
    ·cases hrow
   ·cases hrow
  ·exact hm
theorem shz0_rel (hH:HRel B ω κ S w H) {u:AV} {v:Value} (hr:Rel κ S w u v):Rel κ (allS ω S w) w (shz0 H u) v:=by
 have hm:Rel κ (allS ω S w) w u v:=hr.mono (Ext.refl κ) fun b o h=>⟨.inl h,rfl⟩
 have hR:=shzR_rel hH hr
 cases hr <;> first | exact hm | exact hR | skip
 rename_i id off b hb
 unfold shz0
 simp only
 split
 ·rename_i l hid
  obtain ⟨b',cur,e,a1,a2,a3,a4,a5,a6⟩:=hH.obj id _ hid
  rw [hb] at a1;cases a1
  have hcell:∀ o,o<cur.size→w.cell? ⟨b,o,none⟩=cur[o]?:=fun o ho=>by simp [World.cell?,a3,ho]
  have facts:∀ (j:Nat) (y:AV),(((l.drop off).map AV.view).map (shzR H))[j]?=some y→∃ c,off+j<cur.size∧cur[off+j]?=some c∧c.oneCell'=true∧y.plain=true∧Rel κ (allS ω S w) w y c:=fun j y hy=>by
   have hj1:=(List.getElem?_eq_some_iff.1 hy).1
   simp at hj1
   have hj2:off+j<l.length:=by omega
   have hj3:off+j<cur.size:=by omega
   have hl:l[off+j]?=some l[off+j]:=List.getElem?_eq_getElem hj2
   have hv:cur[off+j]?=some cur[off+j]:=Array.getElem?_eq_getElem hj3
   obtain ⟨c1,c2,c3,c4⟩:=a6 (off+j) _ _ hl hv
   rw [List.getElem?_map,List.getElem?_map,List.getElem?_drop,hl] at hy
   simp at hy;subst hy
   exact ⟨_,hj3,hv,c2,shzR_plain (AV.view_plain _),shzR_rel hH (c3.view c1)⟩
  refine .lptr _ b off (fun j=>cur.getD (off+j) undef) (fun j y hy=>?_) (fun j y hy=>?_)
  ·obtain ⟨c,hj,hcj,h1,hp,hrx⟩:=facts j y hy
   have hg:cur.getD (off+j) undef=c:=by rw [Array.getD_eq_getD_getElem?,hcj];rfl
   rw [hg]
   exact ⟨.inr ⟨⟨id,a2⟩,c,by rw [hcell _ hj,hcj]⟩,by rw [hcell _ hj,hcj],hp,h1⟩
  ·obtain ⟨c,hj,hcj,h1,hp,hrx⟩:=facts j y hy
   have hg:cur.getD (off+j) undef=c:=by rw [Array.getD_eq_getD_getElem?,hcj];rfl
   simp only [hg]
   exact hrx
 ·exact hm
theorem shz0_plain {u:AV} (h:u.plain=true):(shz0 H u).plain=true:=by
 unfold shz0;split
 ·split <;> rfl
 ·exact shzR_plain rfl
 ·exact h
theorem shz_rel (hH:HRel B ω κ S w H) {u:AV} {v:Value} (hr:Rel κ S w u v):Rel κ (allS ω S w) w (shz H u) v:=by
 have hm:Rel κ (allS ω S w) w u v:=hr.mono (Ext.refl κ) fun b o h=>⟨.inl h,rfl⟩
 have hr0:=shz0_rel hH hr
 cases hr <;> try exact hm
 ·exact hr0
 ·exact hr0
 ·rename_i f as bs vs ws h1 h2 p1 p2 r1 r2
  refine .func f _ _ vs ws (by simpa using h1) (by simpa using h2) (fun u hu=>?_) (fun u hu=>?_) (fun j u v hu hv=>?_) (fun j u v hu hv=>?_)
  ·obtain ⟨x,hx,rfl⟩:=List.mem_map.1 hu;exact shz0_plain (p1 x hx)
  ·obtain ⟨x,hx,rfl⟩:=List.mem_map.1 hu;exact shz0_plain (p2 x hx)
  ·rw [List.getElem?_map] at hu
   simp only [Option.map_eq_some_iff] at hu
   obtain ⟨x,hx,rfl⟩:=hu;exact shz0_rel hH (r1 j x v hx hv)
  ·rw [List.getElem?_map] at hu
   simp only [Option.map_eq_some_iff] at hu
   obtain ⟨x,hx,rfl⟩:=hu;exact shz0_rel hH (r2 j x v hx hv)
theorem shz_own {i:Nat} {u:AV} {v:Value} (h:OwnAt ω κ S w (.arg i) u v):OwnAt ω κ (allS ω S w) w (.arg i) (shz H u) v:=by
 have hS:∀ b,ω b=some (.arg i)→∀ o,allS ω S w b o→S b o:=fun b hb o h=>by
  rcases h with h | ⟨⟨id,h⟩,_⟩
  ·exact h
  ·rw [hb] at h;cases h
 have hm:OwnAt ω κ (allS ω S w) w (.arg i) u v:=h.mono (Ext.refl κ) (fun b o h=>⟨.inl h,rfl⟩) fun b hb=>⟨hb,rfl,hS b hb⟩
 cases u <;> try exact hm
 ·rename_i id off
  exact OwnAt.of_plain (show (shz0 H (.ptr id off)).plain=true from shz0_plain rfl)
 ·rename_i id off len cap sz
  exact OwnAt.of_plain (show (shz0 H (.ref id off len cap sz)).plain=true from shz0_plain rfl)
theorem vrel_shz (hH:HRel B ω κ S w H) {T:List AV} {tm:List Value} (h:VRel (fun i=>.arg i) ω κ S w T tm):VRel (fun i=>.arg i) ω κ (allS ω S w) w (T.map (shz H)) tm :=
 ⟨by simpa using h.len,fun i u v hu hv=>by
  rw [List.getElem?_map] at hu
  simp only [Option.map_eq_some_iff] at hu
  obtain ⟨x,hx,rfl⟩:=hu;exact shz_rel hH (h.rel i x v hx hv),fun i u v hu hv=>by
  rw [List.getElem?_map] at hu
  simp only [Option.map_eq_some_iff] at hu
  obtain ⟨x,hx,rfl⟩:=hu;exact shz_own (h.own i x v hx hv)⟩
theorem hrel_shz (hH:HRel B ω κ S w H):HRel B (argsOnly ω) [] (allS ω S w) w [] :=
 ⟨rfl,fun id o h=>by simp at h,fun b o h=>by
  rcases h with h | ⟨_,h⟩
  ·exact hH.swf b o h
  ·exact h,fun b l hb=>by obtain ⟨i,h,_⟩:=argsOnly_some hb;exact hH.base b _ h,hH.bsz⟩
theorem post_shz (hH:HRel B ω κ S w H) {H2:List AObj} {r v:AV} {x:Value} {w2:World} {n d:Nat} (hf:frz H2 0 H2.length n d r=some v)
  (hs:scal v=true) (hp:Post B (argsOnly ω) [] (allS ω S w) w H2 r x w2):Post B ω κ S w H v x w2:=by
 classical
 obtain ⟨ω2,κ2,S2,hκ,ev,hH2,hr,ho⟩:=hp
 let ω':Nat→Option Lab:=fun b=>match ω b with
  | some (.obj id)=>some (.obj id)
  | some (.cell id j)=>some (.cell id j)
  | _=>match ω2 b with
    | some (.obj _)=>none
    | some (.cell _ _)=>none
    | l=>l
 have hobj:∀ b l,ω b=some l→((∃ id,l=.obj id)∨∃ id j,l=.cell id j)→ω' b=some l∧ω2 b=none∧b<w.heap.size:=fun b l hb hl=>by
  have hlt:=(hH.base b l hb).2
  have h2:ω2 b=none:=by
   cases h:ω2 b with
   | none=>rfl
   | some l' =>
     rcases ev.own b (by simp [h]) with h1 | h1
     ·exfalso
      apply h1
      rcases hl with ⟨id,rfl⟩ | ⟨id,j,rfl⟩ <;> simp [argsOnly,hb]
     ·omega
  refine ⟨?_,h2,hlt⟩
  rcases hl with ⟨id,rfl⟩ | ⟨id,j,rfl⟩ <;> simp [ω',hb]
 have hsome:∀ b,ω' b≠none→ω b≠none∨ω2 b≠none:=fun b h=>by
  by_cases h1:ω b=none
  ·right
   intro h2
   apply h
   simp [ω',h1,h2]
  ·exact .inl h1
 have ha:∀ b,argsOnly ω b≠none→ω b≠none:=fun b h h0=>h (by simp [argsOnly,h0])
 let S':Nat→Nat→Prop:=fun b o=>S b o∨(Fz ω2 S2 w2 0 H2.length b o∧∀ id,ω b≠some (.obj id))
 have hS':∀ b o,S' b o→S b o∨ω b≠none∨w.heap.size≤b:=fun b o h=>by
  rcases h with h | ⟨h | ⟨⟨id,_,_,h⟩,_⟩,hno⟩
  ·exact .inl h
  ·rcases ev.fresh b o h with (h | ⟨⟨id,h⟩,_⟩) | h | h
   ·exact .inl h
   ·exact absurd h (hno id)
   ·exact .inr (.inl (ha b h))
   ·exact .inr (.inr h)
  ·rcases ev.own b (by simp [h]) with h1 | h1
   ·exact .inr (.inl (ha b h1))
   ·exact .inr (.inr h1)
 have ev':Ev ω S w ω' S' w2 :=
  ⟨ev.os,ev.tape,ev.output,ev.size,fun b hb hn=>ev.keep b hb (by simp [argsOnly,hn]),fun b o h=>⟨.inl h,(ev.set b o (.inl h)).2⟩,hS',fun b h=>by
   rcases hsome b h with h | h
   ·exact .inl h
   ·rcases ev.own b h with h | h
    ·exact .inl (ha b h)
    ·exact .inr h⟩
 have hrel:=fun d u r v=>frz_rel (κ3:=κ) (id0:=H2.length) (n:=n) hH2 (lo:=0) (fun id b hlt hb=>by omega) (fun b hb=>by
   have:=(List.getElem?_eq_some_iff.1 hb).1;rw [hH2.klen] at this;omega) d u r v
 have hrelS:=hrel d r v x hf hr
 have hown:OwnAt (fun b=>match ω2 b with | some .res=>some .res | _=>none) κ (Fz ω2 S2 w2 0 H2.length) w2 .res v x:=frz_own (l:=.res) (fun b hb=>⟨by simp [hb],fun o h=>by
  rcases h with h | ⟨⟨id,_,_,h⟩,_⟩
  ·exact h
  ·rw [hb] at h;cases h⟩) hrel hf ho
 refine ⟨ω',κ,S',Ext.refl κ,ev',hH.frame ev' (fun b l hb hl=>?_) (fun b o h=>?_) (fun b l hb=>?_),scal_rel hs hrelS,scal_own hs hown fun b hb=>?_⟩
 ·obtain ⟨h1,h2,h3⟩:=hobj b l hb hl
  have hn:argsOnly ω b=none:=by rcases hl with ⟨id,rfl⟩ | ⟨id,j,rfl⟩ <;> simp [argsOnly,hb]
  refine ⟨h1,ev.keep b h3 hn,fun o h=>?_⟩
  rcases h with h | ⟨h | ⟨⟨id,_,_,h⟩,_⟩,hno⟩
  ·exact h
  ·rcases ev.fresh b o h with (h | ⟨⟨id,h⟩,_⟩) | h | h
   ·exact h
   ·exact absurd h (hno id)
   ·exact absurd hn h
   ·omega
  ·rw [h2] at h;cases h
 ·rcases h with h | ⟨h | ⟨_,h⟩,_⟩
  ·obtain ⟨v,hv⟩:=hH.swf b o h
   exact ⟨v,((ev.set b o (.inl h)).2).trans hv⟩
  ·exact hH2.swf b o h
  ·exact h
 ·by_cases h:ω b=none
  ·have hb':ω2 b≠none:=fun h2=>by simp [ω',h,h2] at hb
   cases h2:ω2 b with
   | none=>exact absurd h2 hb'
   | some l'=>exact hH2.base b l' h2
  ·cases h1:ω b with
   | none=>exact absurd h1 h
   | some l'=>obtain ⟨p,q⟩:=hH.base b l' h1;exact ⟨p,Nat.lt_of_lt_of_le q ev.size⟩
 ·have hb2:ω2 b=some .res:=by
   split at hb
   ·assumption
   ·cases hb
  refine ⟨?_,fun o h=>?_⟩
  ·cases h1:ω b with
   | none=>simp [ω',h1,hb2]
   | some l =>
     cases l with
     | obj id=>have:=(hobj b _ h1 (.inl ⟨id,rfl⟩)).2.1;rw [hb2] at this;cases this
     | cell id j=>have:=(hobj b _ h1 (.inr ⟨id,j,rfl⟩)).2.1;rw [hb2] at this;cases this
     | _=>simp [ω',h1,hb2]
  ·rcases h with h | ⟨h,_⟩
   ·exact .inl ((ev.set b o (.inl h)).1)
   ·exact h
end
end Go.Proofs.YtfakoboiahbhaaaGreat.Ab


namespace Go.Proofs.YtfakoboiahbhaaaGreat.Ab
open Go
def Low (lo:Nat) (H H':List AObj):Prop:=H.length≤H'.length∧∀ id,id<lo→id<H.length→H'[id]?=H[id]?
theorem Low.refl (lo:Nat) (H:List AObj):Low lo H H:=⟨Nat.le_refl _,fun _ _ _=>rfl⟩
theorem Low.trans {lo:Nat} {H H1 H2:List AObj} (h:Low lo H H1) (k:Low lo H1 H2):Low lo H H2 :=
 ⟨Nat.le_trans h.1 k.1,fun id h1 h2=>(k.2 id h1 (Nat.lt_of_lt_of_le h2 h.1)).trans (h.2 id h1 h2)⟩
theorem Low.append (lo:Nat) (H X:List AObj):Low lo H (H++X):=⟨by simp,fun id _ h=>List.getElem?_append_left h⟩
theorem Low.set {lo id:Nat} (H:List AObj) (x:AObj) (h:lo≤id):Low lo H (H.set id x):=⟨by simp,fun id' h1 _=>List.getElem?_set_ne (by omega)⟩
def FnPost (B:Nat) (ω:Nat→Option Lab) (κ:List Nat) (S:Nat→Nat→Prop) (w:World) (H':List AObj) (r:AV):Ending→World→Prop
 | .returned v,w'=>Post B ω κ S w H' r v w'
 | _,_=>False
def NoSlot (ω:Nat→Option Lab):Prop:=∀ b i,ω b≠some (.slot i)
def roundTmps (L:Loop) (vs:List Value):Array Value:=(L.params.zip vs.toArray).foldl (fun tmps (x:Tmp×Value)=>tmps.setIfInBounds x.1 x.2) L.tmps
def TgtOk (P:Program) (tgt:Tgt) (args:List AV) (H H':List AObj) (r:AV):Prop :=
 match tgt with
 | .fn k => (∃ f, P.funcs[k]? = some f ∧ f.body.isSome = true ∧ f.name ≠ "runtime.NumGoroutine") ∧
   ∀ B ω κ S w vs,HRel B ω κ S w H→NoSlot ω→VRel (fun i=>.arg i) ω κ S w args vs→CallsIn Fence.wide 0 P k vs.toArray w (FnPost B ω κ S w H' r)
 | .yield l=>∀ B ω κ S w vs b,HRel B ω κ S w H→NoSlot ω→VRel (fun i=>.arg i) ω κ S w args vs→κ[l]?=some b →
   ∃ L,w.heap[b]?=some (.loop L)∧vs.length=L.params.size∧RoundIn Fence.wide 0 P b L.fn (roundTmps L vs) L.assign L.body w (FnPost B ω κ S w H' r)
structure CSound (P:Program) (C:CallFn):Prop where
 low:∀ {tgt args H lo r H'},C tgt args H lo=some (r,H')→Low lo H H'
 ok:∀ {tgt args H lo r H'},C tgt args H lo=some (r,H')→TgtOk P tgt args H H' r
section
variable {P:Program} {B N:Nat} {κ:List Nat} {w:World} {H:List AObj} {ω:Nat→Option Lab} {S:Nat→Nat→Prop}
theorem FnPost.mono {H' H1:List AObj} {r r':AV} (h:∀ v w',Post B ω κ S w H' r v w'→Post B ω κ S w H1 r' v w') (e:Ending) (w':World) (k:FnPost B ω κ S w H' r e w'):FnPost B ω κ S w H1 r' e w':=by
 cases e with
 | returned v=>exact h v w' k
 | panicked c=>exact k
 | outgrown=>exact k
theorem TgtOk.mono {tgt:Tgt} {args:List AV} {H' H1:List AObj} {r r':AV} (k:TgtOk P tgt args H H' r)
  (h:∀ B ω κ S w,HRel B ω κ S w H→∀ v w',Post B ω κ S w H' r v w'→Post B ω κ S w H1 r' v w'):TgtOk P tgt args H H1 r':=by
 cases tgt with
 | fn f =>
   exact ⟨k.1,fun B ω κ S w vs hH hn hv=>CallsIn.mono (k.2 B ω κ S w vs hH hn hv) (FnPost.mono (h B ω κ S w hH))⟩
 | yield l =>
   intro B ω κ S w vs b hH hn hv hb
   obtain ⟨L,h1,h2,h3⟩:=k B ω κ S w vs b hH hn hv hb
   exact ⟨L,h1,h2,RoundIn.mono h3 (FnPost.mono (h B ω κ S w hH))⟩
theorem give_up (hH:HRel B ω κ S w H) {id:Nat} {l:List AV} (hid:H[id]?=some (.cells l)) {v:Value} (hr:Rel κ S w (.ptr id 0) v) :
  ∃ ω' S',Ev ω S w ω' S' w∧HRel B ω' κ S' w (H.set id .dead)∧Rel κ S' w (.lptr (l.map AV.view)) v:=by
 classical
 cases hr with
 | ptr _ _ b hb =>
   obtain ⟨b',cur,e,a1,a2,a3,a4,a5,a6⟩:=hH.obj id _ hid
   rw [hb] at a1;cases a1
   let S':Nat→Nat→Prop:=fun b' o=>S b' o∨(b'=b∧o<cur.size)
   let ω':Nat→Option Lab:=fun b'=>if b'=b then none else ω b'
   have hcell:∀ o,o<cur.size→w.cell? ⟨b,o,none⟩=cur[o]?:=fun o ho=>by
    simp [World.cell?,a3,ho]
   have ev:Ev ω S w ω' S' w:=⟨rfl,rfl,rfl,Nat.le_refl _,fun _ _ _=>rfl,fun _ _ h=>⟨.inl h,rfl⟩,fun b' o h=>by
     rcases h with h | ⟨rfl,_⟩
     ·exact .inl h
     ·exact .inr (.inl (by simp [a2])),fun b' hb'=>by
     by_cases hbb:b'=b
     ·simp [ω',hbb] at hb'
     ·simp only [ω',hbb,if_false] at hb';exact .inl hb'⟩
   have hH1:HRel B ω' κ S' w (H.set id .dead):=by
    refine ⟨by simpa using hH.klen,fun id' o ho=>?_,fun b' o h=>?_,fun b' l' hb'=>?_,hH.bsz⟩
    ·by_cases hii:id'=id
     ·subst hii
      have:o=.dead:=by
       have:=(List.getElem?_eq_some_iff.1 hid).1
       simp [this] at ho;exact ho.symm
      subst this;trivial
     ·rw [List.getElem?_set_ne (Ne.symm hii)] at ho
      refine (hH.obj id' o ho).frame (Ext.refl κ) ev.set (fun b' l' hb' hl=>?_)
      have hne:b'≠b:=fun e=>by
       subst e;rw [a2] at hb';cases hb'
       rcases hl with h | ⟨j,h⟩
       ·cases h;exact hii rfl
       ·cases h
      exact ⟨by simp [ω',hne,hb'],rfl,fun o h=>h.resolve_right fun h=>hne h.1⟩
    ·rcases h with h | ⟨rfl,h⟩
     ·exact hH.swf _ _ h
     ·exact ⟨_,(hcell o h).trans (Array.getElem?_eq_getElem h)⟩
    ·by_cases hbb:b'=b
     ·simp [ω',hbb] at hb'
     ·simp only [ω',hbb,if_false] at hb';exact hH.base _ _ hb'
   refine ⟨ω',S',ev,hH1,.lptr _ b 0 (fun j=>cur.getD j undef) (fun j u hj=>?_) (fun j u hj=>?_)⟩
   all_goals
    rw [List.getElem?_map] at hj
    cases hl:l[j]? with
    | none=>rw [hl] at hj;simp at hj
    | some u0 =>
      rw [hl] at hj
      simp only [Option.map_some,Option.some.injEq] at hj
      subst hj
      have hlt:=(List.getElem?_eq_some_iff.1 hl).1
      have hjc:cur[j]?=some cur[j]:=Array.getElem?_eq_getElem (by omega)
      have hg:cur.getD j undef=cur[j]:=by simp [Array.getD_eq_getD_getElem?,hjc]
      obtain ⟨c1,c2,c3,c4⟩:=a6 j u0 _ hl hjc
      first
       | (simp only [hg];exact ⟨.inr ⟨rfl,by omega⟩,by rw [Nat.zero_add,hcell j (by omega),hjc],AV.view_plain _,c2⟩)
       | (simp only [hg];exact (c3.view c1).mono (Ext.refl κ) ev.set)
theorem VRel.one' {lab:Nat→Lab} {u:AV} {vs:List Value} (h:VRel lab ω κ S w [u] vs):∃ v,vs=[v]∧Rel κ S w u v∧OwnAt ω κ S w (lab 0) u v:=by
 cases vs with
 | nil=>have:=h.len;simp at this
 | cons v r=>cases r with
   | nil=>exact ⟨v,rfl,h.rel 0 u v rfl rfl,h.own 0 u v rfl rfl⟩
   | cons x y=>have:=h.len;simp at this
theorem callTo_ok {C:CallFn} (hC:CSound P C) {lo mode:Nat} {tgt:Tgt} {args:List AV} {v:AV} {H1:List AObj} (h:callTo C lo mode tgt args H=some (v,H1)):Low lo H H1∧TgtOk P tgt args H H1 v:=by
 have frozen:∀ {r:AV} {H2:List AObj},C tgt args H H.length=some (r,H2)→((frz H2 H.length H2.length 0 8 r).map fun v=>(v,H))=some (v,H1)→Low lo H H1∧TgtOk P tgt args H H1 v:=fun hc hf=>by
  simp only [Option.map_eq_some_iff,Prod.mk.injEq] at hf
  obtain ⟨v',hf,rfl,rfl⟩:=hf
  exact ⟨Low.refl _ _,(hC.ok hc).mono fun B ω κ S w hH x w' hp=>post_frz hH (fun id hid=>(hC.low hc).2 id hid hid) hf hp⟩
 unfold callTo at h
 split at h
 ·simp only [Option.bind_eq_some_iff] at h
  obtain ⟨⟨r,H2⟩,hc,hf⟩:=h
  exact frozen hc hf
 ·exact ⟨hC.low h,hC.ok h⟩
 ·split at h
  ·rename_i k hp
   simp only [Option.bind_eq_some_iff] at h
   obtain ⟨⟨r,H2⟩,hc,hf⟩:=h
   simp only [Option.map_eq_some_iff,Prod.mk.injEq] at hf
   obtain ⟨v',hf,rfl,rfl⟩:=hf
   obtain ⟨k1,k2⟩:=hC.ok hc
   exact ⟨Low.refl _ _,k1,fun B ω κ S w vs hH hn hv=>CallsIn.mono (k2 B _ [] S w vs (hrel_pure hH) (fun b i h=>by obtain ⟨_,_,h⟩:=argsOnly_some h;cases h) (hv.pure hp).dim) fun e w' he=>by
     cases e with
     | returned v=>exact (post_pure hH hf he).dim
     | panicked c=>exact he.elim
     | outgrown=>exact he.elim⟩
  ·simp at h
 ·split at h
  ·rename_i k hp
   simp only [Option.bind_eq_some_iff] at h
   obtain ⟨⟨r,H2⟩,hc,v',hf,h⟩:=h
   split at h
   ·rename_i hsc
    simp only [Option.some.injEq,Prod.mk.injEq] at h
    obtain ⟨rfl,rfl⟩:=h
    obtain ⟨k1,k2⟩:=hC.ok hc
    exact ⟨Low.refl _ _,k1,fun B ω κ S w vs hH hn hv=>CallsIn.mono (k2 B _ [] _ w vs (hrel_shz hH) (fun b i h=>by obtain ⟨_,_,h⟩:=argsOnly_some h;cases h) ((vrel_shz hH hv).pure hp).dim) fun e w' he=>by
     cases e with
     | returned v=>exact (post_shz hH hf hsc he).dim
     | panicked c=>exact he.elim
     | outgrown=>exact he.elim⟩
   ·simp at h
  ·simp at h
 ·split at h
  ·rename_i k id
   split at h
   ·rename_i hlo
    split at h
    ·rename_i l hid
     split at h
     ·rename_i hp
      simp only [Option.bind_eq_some_iff] at h
      obtain ⟨⟨r,H2⟩,hc,hf⟩:=h
      simp only [Option.map_eq_some_iff,Prod.mk.injEq] at hf
      obtain ⟨v',hf,rfl,rfl⟩:=hf
      obtain ⟨k1,k2⟩:=hC.ok hc
      refine ⟨Low.set _ _ hlo,k1,fun B ω κ S w vs hH hn hv=>?_⟩
      obtain ⟨v0,hv0,r1,_⟩:=VRel.one' hv
      subst hv0
      obtain ⟨ω',S',ev,hH1,r2⟩:=give_up hH hid r1
      have hv2:VRel (fun i=>.arg i) ω' κ S' w [AV.lptr (l.map AV.view)] [v0]:=⟨rfl,fun i u v hu hv=>by
       cases i with
       | zero=>simp at hu hv;subst hu hv;exact r2
       | succ i=>simp at hu,fun i u v hu hv=>by
       cases i with
       | zero=>simp at hu hv;subst hu;exact OwnAt.of_plain rfl
       | succ i=>simp at hu⟩
      have hp2:([AV.lptr (l.map AV.view)]).all (pureD 8)=true:=by simp [hp]
      exact CallsIn.mono (k2 B _ [] S' w _ (hrel_pure hH1) (fun b i h=>by obtain ⟨_,_,h⟩:=argsOnly_some h;cases h) (hv2.pure hp2).dim) fun e w' he=>by
       cases e with
       | returned v=>exact Post.after (Ext.refl κ) ev (post_pure hH1 hf he).dim
       | panicked c=>exact he.elim
       | outgrown=>exact he.elim
     ·simp at h
    ·simp at h
   ·simp at h
  ·simp at h
 ·simp only [Option.bind_eq_some_iff] at h
  obtain ⟨⟨r,H2⟩,hc,hf⟩:=h
  simp only [Option.map_eq_some_iff,Prod.mk.injEq] at hf
  obtain ⟨v',hf,rfl,rfl⟩:=hf
  refine ⟨Low.refl _ _,?_⟩
  have hok:=(hC.ok hc).mono (r':=v'.dim) (H1:=H) fun B ω κ S w hH x w' hp=>(post_frz hH (fun id hid=>(hC.low hc).2 id hid hid) hf hp).dim
  cases tgt with
  | fn k=>exact ⟨hok.1,fun B ω κ S w vs hH hn hv=>hok.2 B ω κ S w vs hH hn hv.dim⟩
  | yield l=>exact fun B ω κ S w vs b hH hn hv hb=>hok B ω κ S w vs b hH hn hv.dim hb
 ·simp only [Option.bind_eq_some_iff] at h
  obtain ⟨⟨r,H2⟩,hc,hf⟩:=h
  split at hf
  ·exact frozen hc hf
  ·rename_i id0 hfr
   split at hf
   ·rename_i l hid
    split at hf
    ·rename_i hge
     split at hf
     ·rename_i l' v' hl hv
      simp only [Option.some.injEq,Prod.mk.injEq] at hf
      obtain ⟨rfl,rfl⟩:=hf
      exact ⟨Low.append _ _ _,(hC.ok hc).mono fun B ω κ S w hH x w' hp=>post_own1 hH (fun id hid=>(hC.low hc).2 id hid hid) hge hid hl hv hp⟩
     ·simp at hf
    ·simp at hf
   ·rename_i es clock hid
    split at hf
    ·rename_i hge
     split at hf
     ·rename_i l' v' hl hv
      simp only [Option.some.injEq,Prod.mk.injEq] at hf
      obtain ⟨rfl,rfl⟩:=hf
      exact ⟨Low.append _ _ _,(hC.ok hc).mono fun B ω κ S w hH x w' hp=>post_own1m hH (fun id hid=>(hC.low hc).2 id hid hid) hge hid hl hv hp⟩
     ·simp at hf
    ·simp at hf
   ·simp at hf
end
end Go.Proofs.YtfakoboiahbhaaaGreat.Ab


namespace Go.Proofs.YtfakoboiahbhaaaGreat.Ab
open Go
def relab (g:Nat→Option Nat) (ω:Nat→Option Lab):Nat→Option Lab:=fun b=>match ω b with
 | some (.arg i)=>(g i).map .arg
 | some (.obj id)=>some (.obj id)
 | some (.cell id j)=>some (.cell id j)
 | _=>none
def linVals (lin:Bool) (vs:List AV):List AV:=match lin with | true=>vs | false=>vs.map AV.view
def Fen (F:Fence):Prop:=F=Fence.wide∨∃ l,F=Fence.wide.inRound l
section
variable {P:Program} {B N:Nat} {κ:List Nat} {w:World} {H:List AObj} {ω:Nat→Option Lab} {S:Nat→Nat→Prop}
theorem Fen.fn {F:Fence} (h:Fen F) (f:FuncId):F.fn f:=by rcases h with rfl | ⟨l,rfl⟩ <;> trivial
theorem Fen.depth {F:Fence} (h:Fen F):F.depth=none:=by rcases h with rfl | ⟨l,rfl⟩ <;> rfl
theorem Fen.calls {F:Fence} (h:Fen F) {n:Nat} {f:FuncId} {args:Array Value} {w:World} {R:Ending→World→Prop} (k:CallsIn Fence.wide n P f args w R):CallsIn F n P f args w R:=by
 rcases h with rfl | ⟨l,rfl⟩
 ·exact k
 ·exact CallsIn.inRound l k
theorem Fen.rounds {F:Fence} (h:Fen F) {n l:Nat} {f:FuncId} {tmps:Array Value} {assign body:Code} {w:World} {R:Ending→World→Prop} (k:RoundIn Fence.wide n P l f tmps assign body w R):RoundIn F n P l f tmps assign body w R:=by
 rcases h with rfl | ⟨l,rfl⟩
 ·exact k
 ·exact k
theorem relab_none {g:Nat→Option Nat} {b:Nat} (h:ω b=none):relab g ω b=none:=by simp [relab,h]
theorem relab_own {g:Nat→Option Nat} {b:Nat} (h:relab g ω b≠none):ω b≠none:=fun h0=>h (relab_none h0)
theorem relab_ev (g:Nat→Option Nat) (ω:Nat→Option Lab) (S:Nat→Nat→Prop) (w:World):Ev ω S w (relab g ω) S w :=
 ⟨rfl,rfl,rfl,Nat.le_refl _,fun _ _ _=>rfl,fun _ _ h=>⟨h,rfl⟩,fun _ _ h=>.inl h,fun _ h=>.inl (relab_own h)⟩
theorem relab_noslot (g:Nat→Option Nat) (ω:Nat→Option Lab):NoSlot (relab g ω):=fun b i h=>by
 unfold relab at h
 split at h <;> simp at h
theorem hrel_relab (hH:HRel B ω κ S w H) (g:Nat→Option Nat):HRel B (relab g ω) κ S w H:=by
 refine ⟨hH.klen,fun id o ho=>?_,hH.swf,fun b l hb=>?_,hH.bsz⟩
 ·refine (hH.obj id o ho).frame (Ext.refl κ) (fun _ _ h=>⟨h,rfl⟩) fun b l hb hl=>⟨?_,rfl,fun _ h=>h⟩
  rcases hl with rfl | ⟨j,rfl⟩ <;> simp [relab,hb]
 ·cases h:ω b with
  | none=>simp [relab,h] at hb
  | some l'=>exact hH.base b l' h
theorem own_relab {g:Nat→Option Nat} {i j:Nat} (hg:g i=some j) {u:AV} {v:Value} (h:OwnAt ω κ S w (.arg i) u v):OwnAt (relab g ω) κ S w (.arg j) u v :=
 h.mono (Ext.refl κ) (fun _ _ h=>⟨h,rfl⟩) fun b hb=>⟨by simp [relab,hb,hg],rfl,fun _ h=>h⟩
theorem rd_all {T:List AV} {a:Act} (hA:ARel B N ω κ S w ⟨T,H⟩ a) (ops:List Operand) (ts:List Bool) (lin:Bool) :
  ∃ ω1 S1,Ev ω S w ω1 S1 w∧ARel B N ω1 κ S1 w ⟨(rd T ts ops).2,H⟩ a ∧
    VRel (fun i=>.arg i) ω1 κ S1 w (linVals lin (rd T ts ops).1) (ops.map a.eval):=by
 obtain ⟨ω1,S1,g,hT,hH,hv⟩:=rd_sim a ops ts T 0 ω S hA.T hA.H
 simp only [Nat.zero_add] at hv
 cases lin with
 | true=>exact ⟨ω1,S1,g.ev w,⟨hT,hH,hA.M.ev (g.ev w)⟩,hv⟩
 | false =>
   obtain ⟨S2,k1,k2,hH2,hv2⟩:=settle_args (rd T ts ops).1 (ops.map a.eval) (fun i=>.arg i) S1 (fun i j h=>by cases h;rfl) (fun i id=>by simp) (fun i id j=>by simp) hv hH
   have ev:Ev ω1 S1 w ω1 S2 w:=Ev.settle k1 fun b o h=>(k2 b o h).imp id fun ⟨i,h⟩=>⟨_,h⟩
   refine ⟨ω1,S2,(g.ev w).trans ev,⟨⟨hT.len,fun i u v hu hv=>(hT.rel i u v hu hv).mono (Ext.refl κ) (fun b o h=>⟨k1 b o h,rfl⟩),fun i u v hu hv=>?_⟩,hH2,(hA.M.ev (g.ev w)).ev ev⟩,hv2⟩
   refine (hT.own i u v hu hv).mono (Ext.refl κ) (fun b o h=>⟨k1 b o h,rfl⟩) fun b hb=>⟨hb,rfl,fun o h=>?_⟩
   rcases k2 b o h with h | ⟨j,h⟩
   ·exact h
   ·rw [hb] at h;cases h
theorem execOp_split {C:CallFn} {lo:Nat} {o:Oper} {an:OpAnn} {s s':St} (h:Ab.execOp P C lo o an s=some s') :
  ∃ r H',opAll P C lo o an.mode (linVals (isLinear o) (rd s.T an.takes (opsOf o)).1) s.H=some (r,H') ∧
    s'=⟨put (inPlace o an.mode (rd s.T an.takes (opsOf o)).2 r) o.dst r,H'⟩:=by
 unfold Ab.execOp at h
 simp only [Option.map_eq_some_iff] at h
 obtain ⟨⟨r,H'⟩,h,rfl⟩:=h
 exact ⟨r,H',h,rfl⟩
theorem move_view {C:CallFn} {lo mode:Nat} {o:Oper} {us:List AV} {r:AV} {H':List AObj} {t:Nat} (hm:mode≠0) (hm4:mode≠4) (ho:o.op=.move (.tmp t)∨o.op=.assign (.tmp t))
  (h:opAll P C lo o mode us H=some (r,H')) {ω:Nat→Option Lab} {κ:List Nat} {S:Nat→Nat→Prop} {w:World} {l:Lab} {v:Value} (hr:Rel κ S w r v) (hw:OwnAt ω κ S w l r v):Rel κ S w r.view v:=by
 by_cases hu:r.noUniq=true
 ·exact hr.view hu
 ·obtain ⟨cells,len,z,rfl⟩:∃ cells len z,r=.lst cells len (.uniq z):=by
   unfold AV.noUniq at hu;split at hu
   ·exact ⟨_,_,_,rfl⟩
   ·simp at hu
  have h0:len=0:=by
   have h':opMove P lo mode o.type (.tmp t) H us=some (.lst cells len (.uniq z),H'):=by rcases ho with ho | ho <;> simpa only [opAll,ho] using h
   unfold opMove at h'
   split at h'
   ·split at h'
    ·exact absurd rfl hm
    ·split at h'
     ·split at h'
      ·rename_i hz;cases h';exact hz
      ·cases h'
     ·cases h'
     ·cases h'
     ·simp at h'
    ·exact absurd rfl hm4
    ·split at h'
     ·split at h'
      ·simp only [Option.bind_eq_some_iff,Option.map_eq_some_iff,Prod.mk.injEq] at h'
       obtain ⟨row,hrow,n,hn,h1,h2⟩:=h'
       have:=congrArg (fun x=>match x with | AV.lst _ _ c=>c | _=>.shared) h1
       exact absurd this (frzCap_uniq z)
      ·simp at h'
     ·split at h'
      ·split at h'
       ·split at h'
        ·cases h'
        ·cases h'
       ·cases h'
      ·cases h'
     ·simp only [Option.some.injEq,Prod.mk.injEq] at h'
      have:=h'.1 ▸ AV.view_plain _
      cases this
   ·simp at h'
  subst h0
  have hc:cells=[]:=by
   cases hr with
   | lnil c a=>rfl
   | lst _ _ _ b o cap f hc hle hu' k kr=>exact absurd rfl (hu' z)
   | luniq _ _ z b o cap =>
     rcases hw with ⟨_,_,h⟩ | ⟨_,_,_,_,_,h,_⟩
     ·exact h
     ·exact List.length_eq_zero_iff.1 (by simpa using h)
  subst hc
  cases hr with
  | lnil c a=>exact .lnil _ _
  | lst _ _ _ b o cap f hc hle hu' k kr=>exact absurd rfl (hu' z)
  | luniq _ _ z b o cap=>exact .lst [] 0 .shared b o cap (fun _=>undef) (by simp) (Nat.zero_le _) (by simp) (by simp) (by simp)
theorem low_mutObj {lo id:Nat} {H H':List AObj} {f:List AV→Option (List AV)} (h:mutObj lo H id f=some H'):Low lo H H':=by
 unfold mutObj at h
 split at h
 ·rename_i hlo
  split at h
  ·simp only [Option.map_eq_some_iff] at h;obtain ⟨l',_,rfl⟩:=h;exact Low.set _ _ hlo
  ·simp at h
 ·simp at h
theorem low_mapUpdate {lo:Nat} {t:TypeId} {us:List AV} {r:AV} {H':List AObj} (h:opMapUpdate P lo t H us=some (r,H')):Low lo H H':=by
 unfold opMapUpdate at h
 split at h
 ·split at h
  ·split at h
   ·split at h
    ·rename_i hlo
     split at h
     ·split at h
      ·cases h;exact Low.set _ _ hlo
      ·cases h;exact Low.set _ _ hlo
      ·cases h
     ·cases h
    ·cases h
   ·cases h
  ·cases h
 ·cases h
theorem low_delete {lo:Nat} {ts:Array TypeId} {us:List AV} {r:AV} {H':List AObj} (h:opDelete P lo ts H us=some (r,H')):Low lo H H':=by
 unfold opDelete at h
 split at h
 ·split at h
  ·split at h
   ·split at h
    ·rename_i hlo
     split at h
     ·split at h
      ·cases h;exact Low.set _ _ hlo
      ·cases h;exact Low.refl _ _
      ·cases h
     ·cases h
    ·cases h
   ·cases h
  ·cases h
 ·cases h
theorem same_lookup {t:TypeId} {ok:Bool} {us:List AV} {r:AV} {H':List AObj} (h:opLookup P t ok H us=some (r,H')):H'=H:=by
 unfold opLookup at h
 split at h
 ·split at h
  ·split at h
   ·split at h
    ·simp only [Option.map_eq_some_iff,Prod.mk.injEq] at h;obtain ⟨_,_,_,rfl⟩:=h;rfl
    ·cases h
   ·cases h
  ·cases h
 ·cases h
theorem same_entry {us:List AV} {r:AV} {H':List AObj} (h:opEntry H us=some (r,H')):H'=H:=by
 unfold opEntry at h
 split at h
 ·split at h
  ·split at h
   ·split at h
    ·split at h
     ·cases h;rfl
     ·cases h
    ·cases h
   ·cases h
  ·cases h
 ·cases h
theorem low_mutObjG {lo id:Nat} {H H':List AObj} {f:List AV→Option (List AV)} (h:mutObjG lo H id f=some H'):Low lo H H':=by
 unfold mutObjG at h
 split at h
 ·rename_i hlo
  split at h
  ·simp only [Option.map_eq_some_iff] at h;obtain ⟨l',_,rfl⟩:=h;exact Low.set _ _ hlo
  ·simp only [Option.map_eq_some_iff] at h;obtain ⟨l',_,rfl⟩:=h;exact Low.set _ _ hlo
  ·simp at h
 ·simp at h
theorem low_appendO0 {lo:Nat} {ts:Array TypeId} {us:List AV} {r:AV} {H':List AObj} (h:opAppendO0 P lo ts H us=some (r,H')):Low lo H H':=by
 unfold opAppendO0 at h
 split at h
 ·split at h
  ·split at h
   ·split at h
    ·split at h
     ·cases h
     ·cases h;exact Low.append _ _ _
    ·cases h
   ·split at h
    ·rename_i hlo
     split at h
     ·split at h
      ·split at h
       ·cases h;exact (Low.set _ _ hlo).trans (Low.append _ _ _)
       ·cases h
      ·cases h
     ·cases h
    ·cases h
   ·cases h
  ·cases h
 ·cases h
theorem low_appendO {lo:Nat} {ts:Array TypeId} {us:List AV} {r:AV} {H':List AObj} (h:opAppendO P lo ts H us=some (r,H')):Low lo H H':=by
 refine Low.trans ?_ (low_appendO0 h)
 unfold shrinkO
 split
 ·split
  ·split
   ·rename_i hc
    simp only [Bool.and_eq_true] at hc
    exact Low.set _ _ (Nat.le_of_ble_eq_true hc.2)
   ·exact Low.refl _ _
  ·exact Low.refl _ _
 ·exact Low.refl _ _
theorem low_range {lo:Nat} {t:TypeId} {us:List AV} {r:AV} {H':List AObj} (h:opRange P t H us=some (r,H')):Low lo H H':=by
 unfold opRange at h
 split at h
 ·split at h
  ·cases h;exact Low.append _ _ _
  ·cases h
 ·cases h
theorem low_makeMap {lo:Nat} {t:TypeId} {x:Option Operand} {r:AV} {H':List AObj} (h:opMakeMap P t x H=some (r,H')):Low lo H H':=by
 unfold opMakeMap at h
 split at h
 ·cases h;exact Low.append _ _ _
 ·cases h
theorem low_builtin {lo:Nat} {b:Builtin} {ts:Array TypeId} {us:List AV} {r:AV} {H':List AObj} (h:opBuiltin P lo b ts H us=some (r,H')):Low lo H H':=by
 have same:∀ {x:Option AV},x.map (·,H)=some (r,H')→Low lo H H':=fun h=>by
  simp only [Option.map_eq_some_iff,Prod.mk.injEq] at h
  obtain ⟨_,_,_,rfl⟩:=h;exact Low.refl _ _
 unfold opBuiltin at h
 split at h
 ·unfold opAppend at h
  split at h
  ·split at h
   ·exact same h
   ·simp at h
  ·simp at h
 ·unfold opLen at h
  split at h
  ·split at h
   ·split at h <;> simp at h;obtain ⟨_,rfl⟩:=h;exact Low.refl _ _
   ·split at h <;> simp at h;obtain ⟨_,rfl⟩:=h;exact Low.refl _ _
   ·split at h <;> simp at h;obtain ⟨_,rfl⟩:=h;exact Low.refl _ _
   ·split at h <;> simp at h;obtain ⟨_,rfl⟩:=h;exact Low.refl _ _
  ·simp at h
 ·unfold opCap at h
  split at h
  ·split at h <;> simp at h;obtain ⟨_,rfl⟩:=h;exact Low.refl _ _
  ·split at h <;> simp at h;obtain ⟨_,rfl⟩:=h;exact Low.refl _ _
  ·simp at h
 ·unfold opCopy at h
  split at h
  ·split at h
   ·split at h
    ·split at h
     ·simp only [Option.map_eq_some_iff,Prod.mk.injEq] at h
      obtain ⟨H1,h,_,rfl⟩:=h;exact low_mutObj h
     ·simp at h
    ·simp at h
   ·simp at h
  ·simp at h
 ·unfold opClear at h
  split at h
  ·split at h
   ·split at h
    ·split at h
     ·simp only [Option.map_eq_some_iff,Prod.mk.injEq] at h
      obtain ⟨H1,h,_,rfl⟩:=h;exact low_mutObjG h
     ·simp at h
    ·simp at h
   ·simp at h
  ·split at h <;> simp at h;obtain ⟨_,rfl⟩:=h;exact Low.refl _ _
  ·simp at h
 ·exact low_delete h
 ·exact same h
 ·exact same h
 ·simp at h
theorem opAll_low {C:CallFn} (hC:CSound P C) {lo mode:Nat} {o:Oper} {us:List AV} {r:AV} {H':List AObj} (h:opAll P C lo o mode us H=some (r,H')):Low lo H H':=by
 have same:∀ {x:Option AV},x.map (·,H)=some (r,H')→Low lo H H':=fun h=>by
  simp only [Option.map_eq_some_iff,Prod.mk.injEq] at h
  obtain ⟨_,_,_,rfl⟩:=h;exact Low.refl _ _
 have hmove:∀ {t:TypeId} {x:Operand},opMove P lo mode t x H us=some (r,H')→Low lo H H':=fun h=>by
  unfold opMove at h
  split at h
  ·split at h
   ·split at h
    ·simp only [Option.map_eq_some_iff,Prod.mk.injEq] at h
     obtain ⟨_,_,_,rfl⟩:=h;exact Low.refl _ _
    ·cases h;exact Low.refl _ _
   ·split at h
    ·split at h
     ·cases h;exact Low.refl _ _
     ·cases h;exact Low.append _ _ _
    ·cases h;exact Low.refl _ _
    ·cases h;exact Low.refl _ _
    ·simp at h
   ·split at h
    ·split at h
     ·rename_i hlo
      split at h
      ·split at h
       ·cases h;exact Low.set _ _ hlo
       ·cases h
      ·cases h
     ·cases h
    ·cases h;exact Low.refl _ _
   ·split at h
    ·split at h
     ·rename_i hlo
      simp only [Option.bind_eq_some_iff,Option.map_eq_some_iff,Prod.mk.injEq] at h
      obtain ⟨_,_,_,_,_,rfl⟩:=h;exact Low.set _ _ hlo
     ·simp at h
    ·split at h
     ·rename_i hlo
      split at h
      ·split at h
       ·cases h;exact Low.set _ _ hlo
       ·cases h
      ·cases h
     ·cases h
    ·cases h;exact Low.refl _ _
  ·simp at h
 unfold opAll at h
 split at h
 ·exact hmove h
 ·exact hmove h
 ·unfold opLoad at h
  split at h
  ·split at h
   ·exact same h
   ·split at h
    ·exact same h
    ·simp at h
   ·split at h
    ·split at h
     ·split at h
      ·cases h;exact Low.refl _ _
      ·cases h;exact Low.refl _ _
      ·simp at h
     ·simp at h
    ·simp at h
   ·split at h
    ·split at h
     ·rename_i hlo
      split at h
      ·split at h
       ·cases h;exact Low.set _ _ hlo
       ·split at h
        ·split at h
         ·simp at h
         ·cases h;exact (Low.set _ _ hlo).trans (Low.append _ _ _)
        ·cases h;exact Low.set _ _ hlo
       ·cases h;exact Low.refl _ _
       ·simp at h
      ·split at h
       ·cases h;exact Low.set _ _ hlo
       ·cases h;exact Low.refl _ _
       ·simp at h
      ·simp at h
     ·simp at h
    ·simp at h
  ·simp at h
 ·unfold opStore at h
  split at h
  ·split at h
   ·simp only [Option.map_eq_some_iff,Prod.mk.injEq] at h
    obtain ⟨H1,h,_,rfl⟩:=h
    unfold aStore at h
    split at h
    ·split at h
     ·exact low_mutObjG h
     ·simp at h
    ·simp at h
   ·simp only [Option.map_eq_some_iff,Prod.mk.injEq] at h
    obtain ⟨H1,h,_,rfl⟩:=h
    unfold aStoreR at h
    split at h
    ·split at h
     ·exact low_mutObj h
     ·simp at h
    ·simp at h
  ·simp at h
 ·unfold opBox at h
  split at h
  ·split at h
   ·simp only [Option.map_eq_some_iff,Prod.mk.injEq] at h
    obtain ⟨_,_,_,rfl⟩:=h;exact Low.append _ _ _
   ·split at h
    ·split at h
     ·cases h;exact Low.refl _ _
     ·cases h
    ·cases h
  ·simp at h
 ·unfold opAlloc at h
  split at h
  ·simp only [Option.map_eq_some_iff,Prod.mk.injEq] at h
   obtain ⟨_,_,_,rfl⟩:=h;exact Low.append _ _ _
  ·split at h
   ·simp only [Option.map_eq_some_iff,Prod.mk.injEq] at h
    obtain ⟨_,_,_,rfl⟩:=h;exact Low.append _ _ _
   ·cases h
 ·split at h
  ·exact same h
  ·simp only [Option.map_eq_some_iff,Prod.mk.injEq] at h
   obtain ⟨_,_,_,rfl⟩:=h;exact Low.refl _ _
 ·unfold opMakeSlice at h
  split at h
  ·split at h
   ·split at h
    ·simp only [Option.map_eq_some_iff,Prod.mk.injEq] at h
     obtain ⟨_,_,_,rfl⟩:=h;exact Low.append _ _ _
    ·split at h
     ·simp only [Option.map_eq_some_iff,Prod.mk.injEq] at h
      obtain ⟨_,_,_,rfl⟩:=h;exact Low.refl _ _
     ·simp at h
   ·simp at h
  ·simp at h
 ·exact low_makeMap h
 ·exact low_mapUpdate h
 ·rw [same_lookup h];exact Low.refl _ _
 ·exact low_range h
 ·rw [same_entry h];exact Low.refl _ _
 ·split at h
  ·split at h
   ·split at h
    ·exact low_builtin h
    ·exact low_appendO h
   ·exact low_builtin h
  ·unfold opCall at h
   split at h
   ·unfold doCall at h
    split at h
    ·exact (callTo_ok hC h).1
    ·exact (callTo_ok hC h).1
    ·simp at h
   ·simp at h
  ·simp at h
 ·exact same h
end
end Go.Proofs.YtfakoboiahbhaaaGreat.Ab


namespace Go.Proofs.YtfakoboiahbhaaaGreat.Ab
open Go
section
variable {P:Program} {B N:Nat} {κ:List Nat} {w:World} {H:List AObj} {ω:Nat→Option Lab} {S:Nat→Nat→Prop}
theorem run_callFunc {k : Nat} {f : Func} (hf : P.funcs[k]? = some f) (hb : f.body.isSome = true) (hn : f.name ≠ "runtime.NumGoroutine") (args : Array Value) (w : World) :
  (callFunc k args).run P w=.ok (.enter k args) w:=by
 have hb':f.body≠none:=fun h=>by simp [h] at hb
 simp [callFunc,hf,hb',hn]
theorem vrel_args {first us cap:List AV} {vs ws xs:List Value} (hf:first.length=vs.length) (p1:∀ u∈first,u.plain=true) (r1:∀ (j:Nat) (u:AV) (v:Value),first[j]?=some u→vs[j]?=some v→Rel κ S w u v)
  (hc:cap.length=ws.length) (p2:∀ u∈cap,u.plain=true) (r2:∀ (j:Nat) (u:AV) (v:Value),cap[j]?=some u→ws[j]?=some v→Rel κ S w u v)
  (hv:VRel (fun i=>.arg (i+1)) ω κ S w us xs) :
  VRel (fun i=>.arg i) (relab (fun i=>match i with | 0=>none | j+1=>some (first.length+j)) ω) κ S w (first++us++cap) (vs++xs++ws):=by
 have hl:=hv.len
 have key:∀ (i:Nat) (u:AV) (v:Value),(first++us++cap)[i]?=some u→(vs++xs++ws)[i]?=some v →
   Rel κ S w u v∧OwnAt (relab (fun i=>match i with | 0=>none | j+1=>some (first.length+j)) ω) κ S w (.arg i) u v:=fun i u v hu hx=>by
  rcases Nat.lt_or_ge i first.length with h1 | h1
  ·rw [List.append_assoc,List.getElem?_append_left h1] at hu
   rw [List.append_assoc,List.getElem?_append_left (by omega)] at hx
   exact ⟨r1 i u v hu hx,OwnAt.of_plain (p1 u (List.mem_of_getElem? hu))⟩
  ·rw [List.append_assoc,List.getElem?_append_right h1] at hu
   rw [List.append_assoc,List.getElem?_append_right (by omega),←hf] at hx
   rcases Nat.lt_or_ge (i-first.length) us.length with h2 | h2
   ·rw [List.getElem?_append_left h2] at hu
    rw [List.getElem?_append_left (by omega)] at hx
    refine ⟨hv.rel _ u v hu hx,own_relab ?_ (hv.own _ u v hu hx)⟩
    show some (first.length+(i-first.length))=some i
    congr 1;omega
   ·rw [List.getElem?_append_right h2] at hu
    rw [List.getElem?_append_right (by omega),←hl] at hx
    exact ⟨r2 _ u v hu hx,OwnAt.of_plain (p2 u (List.mem_of_getElem? hu))⟩
 exact ⟨by simp [hf,hc,hl],fun i u v hu hx=>(key i u v hu hx).1,fun i u v hu hx=>(key i u v hu hx).2⟩
theorem step_sim {F:Fence} (hF:Fen F) {C:CallFn} (hC:CSound P C) {lo:Nat} {o:Oper} {an:OpAnn} {s s':St} (h:Ab.execOp P C lo o an s=some s') {a:Act} (hA:ARel B N ω κ S w s a)
  {K:Act→World→Prop} {Q:Exit→Act→World→Prop} (hK:∀ a' w',Step B N ω κ S w s' a' w'→K a' w'):o.wpIn F 0 P a w K Q:=by
 obtain ⟨r,H',hop,rfl⟩:=execOp_split h
 obtain ⟨ω1,S1,ev1,hA1,hv⟩:=rd_all (H:=s.H) hA (opsOf o) an.takes (isLinear o)
 generalize hus:linVals (isLinear o) (rd s.T an.takes (opsOf o)).1=us at hop hv
 have hρ:∀ v,a.eval (.const v)=v:=fun _=>rfl
 have hnd:∀ c,o.op≠.defer c:=fun c hc=>by simp [opAll,hc,op0] at hop
 have hend:∀ v w',(∀ t,o.op=.move (.tmp t)∨o.op=.assign (.tmp t)→v=a.eval (.tmp t))→Post B (hide ω1) κ S1 w H' r v w'→K (a.put o.dst v) w':=fun v w' hv1 hp=>by
  refine hK _ _ (Step.trans (Ext.refl κ) ev1 ?_)
  by_cases hm:an.mode=0∨an.mode=4
  ·obtain ⟨ω',κ',S',k1,k2,hA',_⟩:=op_done o.dst hA1 hp .junk (fun _ _ _ _ _=>.junk _)
   have hin:inPlace o an.mode (rd s.T an.takes (opsOf o)).2 r=(rd s.T an.takes (opsOf o)).2:=by rcases hm with hm | hm <;> simp [inPlace,hm]
   rw [hin]
   exact ⟨ω',κ',S',k1,k2,hA'⟩
  ·by_cases ht:∃ t,o.op=.move (.tmp t)∨o.op=.assign (.tmp t)
   ·obtain ⟨t,ht⟩:=ht
    have hin:inPlace o an.mode (rd s.T an.takes (opsOf o)).2 r=setT (rd s.T an.takes (opsOf o)).2 t r.view:=by
     unfold inPlace
     split
     ·rename_i hmm;exact absurd (.inl hmm) hm
     ·rename_i hmm;exact absurd (.inr hmm) hm
     ·rcases ht with ht | ht <;> simp [ht]
    have hval:∀ x,a.tmps.toList[t]?=some x→x=a.eval (.tmp t):=fun x hx=>by
     have hx':a.tmps[t]?=some x:=by simpa using hx
     simp [Act.eval,hx',Array.getD_eq_getD_getElem?]
    have hpv:v=a.eval (.tmp t):=hv1 t ht
    obtain ⟨ω',κ',S',k1,k2,hA',hrv⟩:=op_done o.dst hA1 hp r.view (fun ω2 κ2 S2 q1 q2=>move_view (fun e=>hm (.inl e)) (fun e=>hm (.inr e)) ht hop q1 q2)
    refine ⟨ω',κ',S',k1,k2,?_,hA'.H,hA'.M⟩
    rw [hin]
    have hT:=hA'.T
    simp only at hT
    cases hd:o.dst with
    | none =>
      simp only [hd,put,Act.put,setT_eq] at hT ⊢
      exact hT.swap t (AV.view_plain _) fun x hx=>by rw [hval x hx,←hpv];exact hrv
    | some d =>
      simp only [hd,put,Act.put,setT_eq] at hT ⊢
      by_cases htd:t=d
      ·subst htd
       rw [List.set_set];exact hT
      ·rw [List.set_comm _ _ htd]
       refine hT.swap t (AV.view_plain _) fun x hx=>?_
       rw [Array.toList_setIfInBounds,List.getElem?_set_ne (Ne.symm htd)] at hx
       rw [hval x hx,←hpv];exact hrv
   ·have hin:inPlace o an.mode (rd s.T an.takes (opsOf o)).2 r=(rd s.T an.takes (opsOf o)).2:=by
     unfold inPlace
     split
     ·rfl
     ·rfl
     ·split
      ·rename_i h;exact absurd ⟨_,.inl h⟩ ht
      ·rename_i h;exact absurd ⟨_,.inr h⟩ ht
      ·rfl
    rw [hin]
    obtain ⟨ω',κ',S',k1,k2,hA',_⟩:=op_done o.dst hA1 hp .junk (fun _ _ _ _ _=>.junk _)
    exact ⟨ω',κ',S',k1,k2,hA'⟩
 refine ⟨fun f _=>hF.fn f,?_⟩
 rw [Oper.semAt_eq _ _ _ hnd]
 by_cases hcall:∃ c f,o.op=.call c∧c.callee=.value f
 ·obtain ⟨c,f,hoc,hcf⟩:=hcall
  have he:opsOf o=f::c.args.toList:=by
   obtain ⟨cal,args,ats⟩:=c
   simp only at hcf;subst hcf
   simp only [opsOf,hoc]
  rw [he] at hv
  simp only [opAll,hoc,hcf] at hop
  have hH0:=hrel_hide hA1.H
  have hv0:=vrel_hide hv
  match us,hop,hv0 with
  | [],hop,_=>simp [opCall] at hop
  | uf::uargs,hop,hv0 =>
    simp only [opCall] at hop
    have rf:=hv0.rel 0 uf (a.eval f) rfl rfl
    have hvt:=hv0.tail
    unfold doCall at hop
    split at hop
    ·rename_i k first cap
     generalize hfv:a.eval f=vf at rf
     cases rf with
     | func _ _ _ vs ws k1 k2 p1 p2 r1 r2 =>
       obtain ⟨_,⟨fn,hfn,hbody,hname⟩,hcon⟩:=callTo_ok hC hop
       have hva:=vrel_args (ω:=hide ω1) (κ:=κ) (S:=S1) (w:=w) (first:=first) (cap:=cap) (vs:=vs.toList) (ws:=ws.toList) (by simp [k1]) p1 (fun j u v hu hx=>r1 j u v hu (by simpa using hx)) (by simp [k2]) p2 (fun j u v hu hx=>r2 j u v hu (by simpa using hx)) hvt
       have hc:=hcon B _ κ S1 w _ (hrel_relab hH0 _) (relab_noslot _ _) hva
       have hres:(resolve a.eval c o.type).run P w=.ok { target:=.fn (.func k) ws,args:=vs++c.args.map a.eval } w:=by
        simp [resolve,hcf,hfv,Deferred.ofValue]
       have hrun:(Go.execOp a.eval o).run P w=.ok (.enter k (vs++c.args.map a.eval++ws)) w:=by
        simp only [Go.execOp,hoc,Sem.run_bind,hres,Result.andThen_ok,invoke,run_callFunc hfn hbody hname]
       rw [hrun]
       have harr:(vs.toList++List.map a.eval c.args.toList++ws.toList).toArray=vs++c.args.map a.eval++ws:=by
        apply Array.ext';simp
       rw [harr] at hc
       refine ⟨fun hdd=>(by rw [hF.depth] at hdd;cases hdd),hF.calls (CallsIn.mono hc fun e w' he=>?_)⟩
       cases e with
       | returned v=>exact hend v w' (fun t ht=>by rcases ht with ht | ht <;> rw [hoc] at ht <;> cases ht) (Post.after (Ext.refl κ) (relab_ev _ _ _ _) he)
       | panicked c=>exact he.elim
       | outgrown=>exact he.elim
    ·rename_i l
     generalize hfv:a.eval f=vf at rf
     cases rf with
     | yield _ b hb =>
       obtain ⟨_,hcon⟩:=callTo_ok hC hop
       have hva:=vrel_args (ω:=hide ω1) (κ:=κ) (S:=S1) (w:=w) (first:=[]) (cap:=[]) (vs:=[]) (ws:=[]) rfl (by simp) (by simp) rfl (by simp) (by simp) hvt
       simp only [List.nil_append,List.append_nil] at hva
       obtain ⟨L,h1,h2,h3⟩:=hcon B _ κ S1 w _ b (hrel_relab hH0 _) (relab_noslot _ _) hva hb
       have hres:(resolve a.eval c o.type).run P w=.ok { target:=.fn (.yield b) #[],args:=c.args.map a.eval } w:=by
        simp [resolve,hcf,hfv,Deferred.ofValue]
       have hsz:(c.args.map a.eval).size=L.params.size:=by rw [←h2];simp
       have hrun:(Go.execOp a.eval o).run P w=.ok (.round b L.fn (roundTmps L (List.map a.eval c.args.toList)) L.assign L.body) w:=by
        simp only [Go.execOp,hoc,Sem.run_bind,hres,Result.andThen_ok,invoke]
        have:(List.map a.eval c.args.toList).toArray=c.args.map a.eval:=by apply Array.ext';simp
        simp [Instr.yield,run_getLoop h1,hsz,roundTmps,this]
       rw [hrun]
       refine ⟨fun hdd=>(by rw [hF.depth] at hdd;cases hdd),hF.rounds (RoundIn.mono h3 fun e w' he=>?_)⟩
       cases e with
       | returned v=>exact hend v w' (fun t ht=>by rcases ht with ht | ht <;> rw [hoc] at ht <;> cases ht) (Post.after (Ext.refl κ) (relab_ev _ _ _ _) he)
       | panicked c=>exact he.elim
       | outgrown=>exact he.elim
    ·simp at hop
 ·have hnc:∀ c f,o.op=.call c→c.callee≠.value f:=fun c f h1 h2=>hcall ⟨c,f,h1,h2⟩
  have hp:isLinear o=false→∀ u∈us,u.plain=true:=fun hl u hu=>by
   rw [hl] at hus;subst hus
   obtain ⟨x,_,rfl⟩:=List.mem_map.1 hu
   exact AV.view_plain x
  rcases sim_op hρ (hrel_hide hA1.H) hop hnc hp (vrel_hide hv) with ⟨v,w',h1,h2⟩ | ⟨w',h1,h2⟩
  ·rw [h1];exact hend v w' (fun t ht=>by rcases ht with ht | ht <;> simp [Go.execOp,ht] at h1 <;> exact h1.1.symm) h2
  ·rw [h1];exact hend undef w' (fun t ht=>by rcases ht with ht | ht <;> simp [Go.execOp,ht] at h1) h2
end
end Go.Proofs.YtfakoboiahbhaaaGreat.Ab


namespace Go.Proofs.YtfakoboiahbhaaaGreat.Ab
open Go
section
variable {P:Program} {B N:Nat} {κ:List Nat} {w:World} {H:List AObj} {ω:Nat→Option Lab} {S:Nat→Nat→Prop}
theorem ARel.getT {s:St} {a:Act} (hA:ARel B N ω κ S w s a) (t:Nat):Rel κ S w (getT s.T t) (a.tmps.getD t undef):=by
 rw [getT_eq,List.getD_eq_getElem?_getD]
 cases h:s.T[t]? with
 | none=>exact .junk _
 | some u =>
   have hl:=hA.T.len
   have hlt:t<s.T.length:=(List.getElem?_eq_some_iff.1 h).1
   have hlt2:t<a.tmps.size:=by rw [←Array.length_toList,←hl];exact hlt
   have hx:a.tmps.toList[t]?=some (a.tmps.getD t undef):=by simp [Array.getD_eq_getD_getElem?,hlt2]
   exact hA.T.rel t u _ h hx
theorem ARel.ev {s:St} {a:Act} (hA:ARel B N ω κ S w s a) (x:Operand):Rel κ S w (ev s.T x) (a.eval x):=by
 cases x with
 | tmp t=>exact hA.getT t
 | const v=>exact absVal_rel κ S w v
 | global g=>exact .junk _
 | func f=>exact .func f [] [] #[] #[] rfl rfl (by simp) (by simp) (by simp) (by simp)
theorem wantedA_sound {ops:Array Oper} {o:Oper} {s:St} {a:Act} (hA:ARel B N ω κ S w s a) {x:Bool} (h:wantedA ops o s.T=some x):Region.wanted o (yielded ops a.tmps)=x:=by
 unfold wantedA at h
 unfold Region.wanted
 split at h
 ·rename_i hg;rw [hg];simpa using h
 ·rename_i j want hg
  rw [hg]
  split at h
  ·rename_i d hd
   split at h
   ·rename_i b hb
    have hr:=hA.getT d
    rw [hb] at hr
    have:=hr.bool_inv
    simp only [Option.some.injEq] at h
    subst h
    have hlt:a.tmps[d]?=some (.bool b):=by
     rw [Array.getD_eq_getD_getElem?] at this
     cases h:a.tmps[d]? with
     | none=>rw [h] at this;simp [undef] at this
     | some v=>rw [h] at this;simpa using this
    simp [yielded,hd,hlt]
   ·rename_i hb
    have hr:=hA.getT d
    rw [hb] at hr
    simp only [Option.some.injEq] at h
    subst h
    have hn:yielded ops a.tmps j=none:=by
     unfold yielded
     rw [hd,Option.bind_some]
     cases h:a.tmps[d]? with
     | none=>rfl
     | some v =>
       rw [Array.getD_eq_getD_getElem?,h] at hr
       simp only [Option.getD_some] at hr
       cases hr;rfl
    simp [hn]
   ·simp at h
  ·simp at h
theorem ARel.skip {T:List AV} {a:Act} (hA:ARel B N ω κ S w ⟨T,H⟩ a) (d:Option Tmp):ARel B N ω κ S w ⟨put T d (.tuple []),H⟩ (a.put d undef):=by
 cases d with
 | none=>exact hA
 | some d =>
   refine ⟨?_,hA.H,hA.M⟩
   have hT:=hA.T
   simp only [put,setT_eq,Act.put] at hT ⊢
   have key:∀ (i:Nat) (u:AV) (x:Value),(T.set d (.tuple []))[i]?=some u→(a.tmps.toList.set d undef)[i]?=some x→Rel κ S w u x∧OwnAt ω κ S w (.slot i) u x:=fun i u x hu hx=>by
    by_cases hid:d=i
    ·subst hid
     have hlt:d<T.length:=by have:=(List.getElem?_eq_some_iff.1 hu).1;simpa using this
     rw [List.getElem?_set_self hlt] at hu
     cases hu
     rw [List.getElem?_set_self (by have:=(List.getElem?_eq_some_iff.1 hx).1;simpa using this)] at hx
     cases hx
     exact ⟨.tuple _ _ rfl (by simp) (by simp),OwnAt.of_plain rfl⟩
    ·rw [List.getElem?_set_ne hid] at hu hx
     exact ⟨hT.rel i u x hu hx,hT.own i u x hu hx⟩
   refine ⟨by simpa using hT.len,fun i u x hu hx=>?_,fun i u x hu hx=>?_⟩
   ·rw [Array.toList_setIfInBounds] at hx;exact (key i u x hu hx).1
   ·rw [Array.toList_setIfInBounds] at hx;exact (key i u x hu hx).2
theorem zipKeep_get:∀ (k:List Bool) (T:List AV) (i:Nat),(zipKeep k T)[i]?=T[i]?∨(zipKeep k T)[i]?=(T[i]?).map fun _=>.junk
 | [],T,i=>.inl (by simp [zipKeep])
 | b::bs,[],i=>.inl (by simp [zipKeep])
 | b::bs,v::vs,i=>by
   cases i with
   | zero=>cases b <;> simp [zipKeep]
   | succ i=>simpa [zipKeep] using zipKeep_get bs vs i
theorem zipKeep_len:∀ (k:List Bool) (T:List AV),(zipKeep k T).length=T.length
 | [],T=>by simp [zipKeep]
 | b::bs,[]=>by simp [zipKeep]
 | b::bs,v::vs=>by simp [zipKeep,zipKeep_len bs vs]
theorem ARel.keep {s:St} {a:Act} (hA:ARel B N ω κ S w s a) (ks:List (Nat×List Bool)) (id:Nat):ARel B N ω κ S w (keepSt ks id s) a:=by
 unfold keepSt
 split
 ·rename_i k _
  refine ⟨⟨by rw [zipKeep_len];exact hA.T.len,fun i u x hu hx=>?_,fun i u x hu hx=>?_⟩,hA.H,hA.M⟩
  all_goals simp only at hu
  ·rcases zipKeep_get k s.T i with h | h
   ·rw [h] at hu;exact hA.T.rel i u x hu hx
   ·rw [h] at hu
    simp only [Option.map_eq_some_iff] at hu
    obtain ⟨_,_,rfl⟩:=hu;exact .junk _
  ·rcases zipKeep_get k s.T i with h | h
   ·rw [h] at hu;exact hA.T.own i u x hu hx
   ·rw [h] at hu
    simp only [Option.map_eq_some_iff] at hu
    obtain ⟨_,_,rfl⟩:=hu;exact OwnAt.of_plain rfl
 ·exact hA
theorem Step.here {s:St} {a:Act} (hA:ARel B N ω κ S w s a):Step B N ω κ S w s a w:=⟨ω,κ,S,Ext.refl κ,Ev.refl ω S w,hA⟩
theorem list_sim {F:Fence} (hF:Fen F) {C:CallFn} (hC:CSound P C) {lo:Nat} {ops:Array Oper} {s':St} {Q:Exit→Act→World→Prop} :
  ∀ (rest:List Oper) (as:List OpAnn) (s:St) (a:Act) (w:World) (ω:Nat→Option Lab) (κ:List Nat) (S:Nat→Nat→Prop),execOps P C lo ops rest as s=some s'→ARel B N ω κ S w s a →
    (∀ a' w',Step B N ω κ S w s' a' w'→Q .normal a' w')→wpListIn F 0 P ops Q rest a w
 | [],as,s,a,w,ω,κ,S,h,hA,hQ=>by
   simp only [execOps,Option.some.injEq] at h;subst h
   exact hQ a w (Step.here hA)
 | o::rest,as,s,a,w,ω,κ,S,h,hA,hQ=>by
   simp only [execOps] at h
   unfold wpListIn
   split at h
   ·rename_i hw
    rw [wantedA_sound hA hw]
    simp only [if_true]
    simp only [Option.bind_eq_some_iff] at h
    obtain ⟨s1,h1,h2⟩:=h
    refine step_sim hF hC h1 hA fun a' w' hs=>?_
    obtain ⟨ω1,κ1,S1,k1,k2,hA1⟩:=hs
    exact list_sim hF hC rest as.tail s1 a' w' ω1 κ1 S1 h2 hA1 fun a'' w'' hs2=>hQ a'' w'' (hs2.trans k1 k2)
   ·rename_i hw
    rw [wantedA_sound hA hw]
    simp only [Bool.false_eq_true,if_false]
    exact ⟨fun f _=>hF.fn f,list_sim hF hC rest as.tail _ _ w ω κ S h (hA.skip o.dst) hQ⟩
   ·simp at h
end
end Go.Proofs.YtfakoboiahbhaaaGreat.Ab


namespace Go.Proofs.YtfakoboiahbhaaaGreat.Ab
open Go
theorem disj_iff {xs ys:List Nat} (h:disj xs ys=true) (x:Nat) (hx:x∈xs):x ∉ ys:=by
 simp only [disj,List.all_eq_true] at h
 have:=h x hx
 simpa using this
theorem settle_settle (u:AV):u.settle.settle=u.settle:=by
 cases u <;> try rfl
 rename_i c n k;cases k <;> rfl
theorem view_settle (u:AV):u.settle.view=u.view:=by
 cases u <;> try rfl
 rename_i c n k;cases k <;> rfl
theorem settleAt_get (T:List AV) (t j:Nat):(settleAt T t (getT T t))[j]?=if t=j then (T[j]?).map AV.settle else T[j]?:=by
 have hg:getT T t=T.getD t .junk:=getT_eq T t
 by_cases htj:t=j
 ·subst htj
  simp only [if_true]
  cases h:T[t]? with
  | none =>
    have hj:getT T t=.junk:=by rw [hg,List.getD_eq_getElem?_getD,h];rfl
    rw [hj];simp [settleAt,h]
  | some u =>
    have hj:getT T t=u:=by rw [hg,List.getD_eq_getElem?_getD,h];rfl
    have hlt:=(List.getElem?_eq_some_iff.1 h).1
    rw [hj]
    cases u <;> try (simp [settleAt,h,AV.settle];done)
    rename_i c n k
    cases k <;> simp only [settleAt,h,AV.settle,setT_eq,Option.map_some] <;> rw [List.getElem?_set_self hlt]
 ·simp only [htj,if_false]
  unfold settleAt
  split
  ·rw [setT_eq,List.getElem?_set_ne htj]
  ·rfl
theorem setT_get (T:List AV) (t j:Nat) (v:AV):(setT T t v)[j]?=if t=j then (T[j]?).map fun _=>v else T[j]?:=by
 rw [setT_eq]
 by_cases h:t=j
 ·subst h
  simp only [if_true]
  rcases Nat.lt_or_ge t T.length with hl | hl
  ·rw [List.getElem?_set_self hl,List.getElem?_eq_getElem hl];rfl
  ·rw [List.getElem?_eq_none (by simpa using hl),List.getElem?_eq_none hl];rfl
 ·rw [List.getElem?_set_ne h];simp [h]
theorem rd_get:∀ (xs:List Operand) (ts:List Bool) (T:List AV) (j:Nat),
  ((rd T ts xs).2)[j]?=(T[j]?).map fun u=>if j∈takenIn ts xs then .junk else if j∈tmpsOf xs then u.settle else u
 | [],ts,T,j=>by simp [rd,takenIn,tmpsOf]
 | .tmp t::rest,ts,T,j=>by
   have ht:tmpsOf (.tmp t::rest)=t::tmpsOf rest:=by simp [tmpsOf]
   rw [ht]
   cases hh:ts.headD false with
   | true =>
     simp only [rd,hh,takenIn]
     rw [rd_get rest ts.tail,setT_get]
     by_cases htj:t=j
     ·subst htj
      simp only [if_true,List.mem_cons,true_or]
      cases T[t]? with
      | none=>rfl
      | some u=>simp only [Option.map_some,AV.settle];split <;> simp
     ·have htj':¬ j=t:=fun e=>htj e.symm
      simp [htj,htj']
   | false =>
     simp only [rd,hh,takenIn]
     rw [rd_get rest ts.tail,settleAt_get]
     by_cases htj:t=j
     ·subst htj
      simp only [if_true,List.mem_cons,true_or]
      cases T[t]? with
      | none=>rfl
      | some u=>simp only [Option.map_some,settle_settle];split <;> (try split) <;> rfl
     ·have htj':¬ j=t:=fun e=>htj e.symm
      simp [htj,htj']
 | .const v::rest,ts,T,j=>by simpa [rd,takenIn,tmpsOf] using rd_get rest ts.tail T j
 | .func f::rest,ts,T,j=>by simpa [rd,takenIn,tmpsOf] using rd_get rest ts.tail T j
 | .global g::rest,ts,T,j=>by simpa [rd,takenIn,tmpsOf] using rd_get rest ts.tail T j
theorem getT_view {T T':List AV} {t:Nat} (h:(T[t]?).map AV.settle=(T'[t]?).map AV.settle):(getT T t).view=(getT T' t).view:=by
 rw [getT_eq,getT_eq,List.getD_eq_getElem?_getD,List.getD_eq_getElem?_getD]
 cases h1:T[t]? <;> cases h2:T'[t]? <;> rw [h1,h2] at h <;> simp at h <;> simp only [Option.getD_some]
 rw [←view_settle,h,view_settle]
theorem rd_cong:∀ (xs:List Operand) (ts:List Bool) (T T':List AV),(∀ t∈tmpsOf xs,(T[t]?).map AV.settle=(T'[t]?).map AV.settle)→(∀ t∈takenIn ts xs,T[t]?=T'[t]?) →
  (rd T ts xs).1=(rd T' ts xs).1
 | [],ts,T,T',_,_=>by simp [rd]
 | .tmp t::rest,ts,T,T',h1,h2=>by
   have ht:tmpsOf (.tmp t::rest)=t::tmpsOf rest:=by simp [tmpsOf]
   rw [ht] at h1
   cases hh:ts.headD false with
   | true =>
     simp only [takenIn,hh] at h2
     simp only [rd,hh]
     have e:T[t]?=T'[t]?:=h2 t (by simp)
     rw [rd_cong rest ts.tail (setT T t .junk) (setT T' t .junk) (fun u hu=>?_) (fun u hu=>?_)]
     ·congr 1
      rw [getT_eq,getT_eq,List.getD_eq_getElem?_getD,List.getD_eq_getElem?_getD,e]
     ·rw [setT_get,setT_get]
      by_cases htu:t=u
      ·subst htu;simp [e]
      ·simp [htu,h1 u (by simp [hu])]
     ·rw [setT_get,setT_get]
      by_cases htu:t=u
      ·subst htu;simp [e]
      ·simp [htu,h2 u (by simp [hu])]
   | false =>
     simp only [takenIn,hh] at h2
     simp only [rd,hh]
     have e:=h1 t (by simp)
     rw [rd_cong rest ts.tail (settleAt T t (getT T t)) (settleAt T' t (getT T' t)) (fun u hu=>?_) (fun u hu=>?_),getT_view e]
     ·rw [settleAt_get,settleAt_get]
      by_cases htu:t=u
      ·subst htu;simp only [if_true,e]
      ·simp only [htu,if_false];exact h1 u (by simp [hu])
     ·rw [settleAt_get,settleAt_get]
      by_cases htu:t=u
      ·subst htu;simp only [if_true,e]
      ·simp only [htu,if_false];exact h2 u hu
 | .const v::rest,ts,T,T',h1,h2=>by
   simp only [rd];rw [rd_cong rest ts.tail T T' (by simpa [tmpsOf] using h1) (by simpa [takenIn] using h2)];rfl
 | .func f::rest,ts,T,T',h1,h2=>by
   simp only [rd];rw [rd_cong rest ts.tail T T' (by simpa [tmpsOf] using h1) (by simpa [takenIn] using h2)];rfl
 | .global g::rest,ts,T,T',h1,h2=>by
   simp only [rd];rw [rd_cong rest ts.tail T T' (by simpa [tmpsOf] using h1) (by simpa [takenIn] using h2)];rfl
section
variable {P:Program}
theorem cls0 {C:CallFn} {lo mode:Nat} {o:Oper} {us:List AV} {r:AV} {H H':List AObj} (hc:hclass o mode=0) (h:opAll P C lo o mode us H=some (r,H')) :
  H'=H∧∀ H2,opAll P C lo o mode us H2=some (r,H2):=by
 have base:∀ {x:Option AV},x.map (fun y=>(y,H))=some (r,H')→H'=H∧∀ H2:List AObj,x.map (fun y=>(y,H2))=some (r,H2):=fun {x} h=>by
  simp only [Option.map_eq_some_iff,Prod.mk.injEq] at h
  obtain ⟨_,rfl,rfl,rfl⟩:=h;exact ⟨rfl,fun _=>rfl⟩
 have hmove:∀ {t:TypeId} {x:Operand},mode=0→opMove P lo mode t x H us=some (r,H')→H'=H∧∀ H2,opMove P lo mode t x H2 us=some (r,H2):=fun hm h=>by
  subst hm
  unfold opMove at h
  simp only [opMove]
  split at h
  ·simp only at h ⊢
   split at h
   ·simp only [Option.map_eq_some_iff,Prod.mk.injEq] at h
    obtain ⟨z,hz,rfl,rfl⟩:=h;exact ⟨rfl,fun _=>by simp [hz]⟩
   ·cases h;exact ⟨rfl,fun _=>rfl⟩
  ·simp at h
 cases hop:o.op <;> simp only [hclass,hop] at hc <;> simp only [opAll,hop] at h ⊢
 case move x=>exact hmove (by by_cases h:mode=0 <;> simp_all) h
 case assign x=>exact hmove (by by_cases h:mode=0 <;> simp_all) h
 case load t a =>
  have hm:mode=3:=by by_cases h:mode=0 <;> by_cases h2:mode=2 <;> by_cases h3:mode=3 <;> by_cases h5:mode=5 <;> simp_all
  subst hm
  unfold opLoad at h
  simp only [opLoad]
  split at h
  ·simp only at h ⊢
   split at h
   ·exact base h
   ·cases h
  ·cases h
 case makeSlice t a b =>
  have hm:mode≠0:=by intro h;simp [h] at hc
  unfold opMakeSlice at h
  simp only [opMakeSlice]
  split at h
  ·split at h
   ·rename_i hnc
    split at h
    ·exact absurd rfl hm
    ·split at h
     ·rename_i h2
      simp only [Option.map_eq_some_iff,Prod.mk.injEq] at h
      obtain ⟨x,hx,rfl,rfl⟩:=h
      exact ⟨rfl,fun _=>by obtain ⟨e,h0⟩:=h2;subst e;simp [hx,h0]⟩
     ·simp at h
   ·simp at h
  ·simp at h
 case box e x =>
  have hm:mode≠0:=by intro h;simp [h] at hc
  unfold opBox at h
  simp only [opBox]
  split at h
  ·split at h
   ·exact absurd rfl hm
   ·split at h
    ·rename_i hv
     split at h
     ·rename_i hp
      cases h;exact ⟨rfl,fun _=>by simp [hv,hp]⟩
     ·cases h
    ·cases h
  ·cases h
 case buildSlice t len parts =>
  split at h
  ·exact base h
  ·simp only [Option.map_eq_some_iff,Prod.mk.injEq] at h ⊢
   obtain ⟨x,hx,rfl,rfl⟩:=h
   exact ⟨rfl,fun _=>⟨x,hx,rfl,trivial⟩⟩
 case call c =>
  split at hc
  ·split at hc
   ·by_cases hm:mode=0 <;> simp [hm] at hc
   all_goals simp at hc
  ·rename_i f hcf
   simp only [hcf] at h ⊢
   have hm:mode=3:=by
    by_cases h0:mode=0
    ·simp [h0] at hc
    ·by_cases h3:mode=3
     ·exact h3
     ·by_cases h4:mode=4 <;> by_cases h6:mode=6 <;> simp [h0,h3,h4,h6] at hc
   subst hm
   unfold opCall at h
   simp only [opCall]
   split at h
   ·unfold doCall at h
    simp only [doCall]
    have key:∀ {tgt:Tgt} {args:List AV},callTo C lo 3 tgt args H=some (r,H')→H'=H∧∀ H2,callTo C lo 3 tgt args H2=some (r,H2):=fun {tgt args} h=>by
     simp only [callTo] at h ⊢
     split at h
     ·simp only [Option.bind_eq_some_iff] at h
      obtain ⟨x,hx,h⟩:=h
      simp only [Option.map_eq_some_iff,Prod.mk.injEq] at h
      obtain ⟨v,hv,rfl,rfl⟩:=h
      rename_i hp
      exact ⟨rfl,fun H2=>by simp [hx,hv]⟩
     ·simp at h
    split at h
    ·exact key h
    ·exact key h
    ·simp at h
   ·simp at h
  ·simp at hc
 case store=>simp at hc
 case alloc=>simp at hc
 case makeMap=>simp at hc
 case mapUpdate=>simp at hc
 case lookup=>simp at hc
 case range=>simp at hc
 case entry=>simp at hc
 all_goals exact base h
def Sees (H H2:List AObj):Prop:=∀ (id:Nat) (o:AObj),H[id]?=some o→H2[id]?=some o∨(∃ l l',o=.cells l∧H2[id]?=some (.cells l')∧l'.map AV.view=l.map AV.view)∨∃ l l' g z,o=.grow l g z∧H2[id]?=some (.grow l' g z)∧l'.map AV.view=l.map AV.view
theorem Sees.cells {H H2:List AObj} (h:Sees H H2) {id:Nat} {l:List AV} (hid:H[id]?=some (.cells l)):∃ l',H2[id]?=some (.cells l')∧l'.map AV.view=l.map AV.view:=by
 rcases h id _ hid with h | ⟨l0,l',h1,h2,h3⟩ | ⟨_,_,_,_,h1,_⟩
 ·exact ⟨l,h,rfl⟩
 ·cases h1;exact ⟨l',h2,h3⟩
 ·cases h1
theorem Sees.grow {H H2:List AObj} (h:Sees H H2) {id g z:Nat} {l:List AV} (hid:H[id]?=some (.grow l g z)):∃ l',H2[id]?=some (.grow l' g z)∧l'.map AV.view=l.map AV.view:=by
 rcases h id _ hid with h | ⟨_,_,h1,_⟩ | ⟨l0,l',g',z',h1,h2,h3⟩
 ·exact ⟨l,h,rfl⟩
 ·cases h1
 ·cases h1;exact ⟨l',h2,h3⟩
theorem Sees.append (H:List AObj) (X:List AObj):Sees H (H++X):=fun id o h=>.inl (by
 rw [List.getElem?_append_left (List.getElem?_eq_some_iff.1 h).1];exact h)
theorem ldPart_sees {t:TypeId} {l l':List AV} {off:Nat} (h:l'.map AV.view=l.map AV.view):ldPart P t l' off=ldPart P t l off:=by
 have hl:l'.length=l.length:=by have:=congrArg List.length h;simpa using this
 unfold ldPart
 split
 ·have:∀ s,((l'.drop off).take s).map AV.view=((l.drop off).take s).map AV.view:=fun s=>by
   rw [List.map_take,List.map_drop,h,←List.map_drop,←List.map_take]
  simp only [hl,this]
 ·split
  ·have:=congrArg (fun x=>x[off]?) h
   simpa using this
  ·rfl
theorem aLoad_sees {H H2:List AObj} (hs:Sees H H2) {t:TypeId} {a r:AV} (h:aLoad P H t a=some r):aLoad P H2 t a=some r:=by
 unfold aLoad at h ⊢
 split at h
 ·split at h
  ·rename_i l hid
   obtain ⟨l',h1,h2⟩:=hs.cells hid
   rw [h1];simp only;rw [ldPart_sees h2];exact h
  ·rename_i l g z hid
   obtain ⟨l',h1,h2⟩:=hs.grow hid
   rw [h1];simp only;rw [ldPart_sees h2];exact h
  ·simp at h
 ·exact h
 ·simp at h
theorem rowOf_sees {H H2:List AObj} (hs:Sees H H2) {x:AV} {row:List AV} (h:rowOf H x=some row):rowOf H2 x=some row:=by
 unfold rowOf at h ⊢
 split at h
 ·exact h
 ·split at h
  ·rename_i l hid
   obtain ⟨l',h1,h2⟩:=hs.cells hid
   have hl:l'.length=l.length:=by have:=congrArg List.length h2;simpa using this
   rw [h1];simp only [hl]
   have:∀ s off,((l'.drop off).take s).map AV.view=((l.drop off).take s).map AV.view:=fun s off=>by
    rw [List.map_take,List.map_drop,h2,←List.map_drop,←List.map_take]
   simp only [this];exact h
  ·simp at h
 ·simp at h
theorem appended_sees {H H2:List AObj} (hs:Sees H H2) {x:AV} {r:Nat×List AV} (h:appended H x=some r):appended H2 x=some r:=by
 unfold appended at h ⊢
 split at h
 ·rename_i m row hm hr
  rw [hm,rowOf_sees hs hr];exact h
 ·simp at h
theorem aAppend_sees {H H2:List AObj} (hs:Sees H H2) {t xt:TypeId} {s x r:AV} (h:aAppend P H t xt s x=some r):aAppend P H2 t xt s x=some r:=by
 unfold aAppend at h ⊢
 split at h
 ·split at h
  ·rename_i sz bytes z h1 h2 h3
   split at h
   ·rename_i hb
    split at h
    ·rename_i m new ha
     simp only [appended_sees hs ha]
     split at h
     ·rename_i hc
      rw [if_pos hc]
      split at h
      ·exact h
      ·rename_i id off len cap sz'
       split at h
       ·rename_i hc2
        rw [if_pos hc2]
        simp only [Option.bind_eq_some_iff] at h
        obtain ⟨old,ho,h⟩:=h
        simp only [rowOf_sees hs ho,Option.bind_some];exact h
       ·simp at h
      ·simp at h
     ·simp at h
    ·simp at h
   ·exact h
  ·simp at h
 ·simp at h
theorem cls1 {C:CallFn} {lo mode:Nat} {o:Oper} {us:List AV} {r:AV} {H H':List AObj} (hc:hclass o mode=1) (h:opAll P C lo o mode us H=some (r,H')) :
  H'=H∧∀ H2,Sees H H2→opAll P C lo o mode us H2=some (r,H2):=by
 cases hop:o.op <;> simp only [hclass,hop] at hc <;> simp only [opAll,hop] at h ⊢
 case load =>
  have hm:mode=0:=by by_cases h:mode=0 <;> by_cases h2:mode=2 <;> by_cases h3:mode=3 <;> by_cases h5:mode=5 <;> simp_all
  subst hm
  unfold opLoad at h
  simp only [opLoad]
  split at h
  ·simp only [Option.map_eq_some_iff,Prod.mk.injEq] at h ⊢
   obtain ⟨v,hv,rfl,rfl⟩:=h
   exact ⟨rfl,fun H2 hs=>⟨v,aLoad_sees hs hv,rfl,trivial⟩⟩
  ·simp at h
 case call c =>
  split at hc
  ·rename_i b hcb
   simp only [hcb] at h ⊢
   split at hc
   ·have hm:mode=0:=by by_cases h:mode=0 <;> simp_all
    subst hm
    simp only [opBuiltin,opAppend] at h ⊢
    split at h
    ·split at h
     ·simp only [Option.map_eq_some_iff,Prod.mk.injEq] at h ⊢
      obtain ⟨v,hv,rfl,rfl⟩:=h
      exact ⟨rfl,fun H2 hs=>⟨v,aAppend_sees hs hv,rfl,trivial⟩⟩
     ·simp at h
    ·simp at h
   ·simp only [opBuiltin,opLen] at h ⊢
    split at h
    ·split at h
     ·split at h <;> simp at h;obtain ⟨rfl,rfl⟩:=h;exact ⟨rfl,fun _ _=>by simp_all⟩
     ·split at h <;> simp at h;obtain ⟨rfl,rfl⟩:=h;exact ⟨rfl,fun _ _=>by simp_all⟩
     ·split at h
      ·rename_i ht hid
       simp at h;obtain ⟨rfl,rfl⟩:=h
       refine ⟨rfl,fun H2 hs=>?_⟩
       rcases hs _ _ hid with h | ⟨l,l',h,_⟩ | ⟨_,_,_,_,h,_⟩
       ·simp [ht,h]
       ·cases h
       ·cases h
      ·simp at h
     ·split at h
      ·simp at h;obtain ⟨rfl,rfl⟩:=h;exact ⟨rfl,fun _ _=>by simp_all⟩
      ·simp at h
    ·simp at h
   ·simp only [opBuiltin,opCap] at h ⊢
    split at h
    ·split at h <;> simp at h;obtain ⟨rfl,rfl⟩:=h;exact ⟨rfl,fun _ _=>by simp_all⟩
    ·split at h <;> simp at h;obtain ⟨rfl,rfl⟩:=h;exact ⟨rfl,fun _ _=>by simp_all⟩
    ·simp at h
   ·simp only [opBuiltin,Option.map_eq_some_iff,Prod.mk.injEq] at h ⊢
    obtain ⟨v,hv,rfl,rfl⟩:=h;exact ⟨rfl,fun _ _=>⟨v,hv,rfl,trivial⟩⟩
   ·simp only [opBuiltin,Option.map_eq_some_iff,Prod.mk.injEq] at h ⊢
    obtain ⟨v,hv,rfl,rfl⟩:=h;exact ⟨rfl,fun _ _=>⟨v,hv,rfl,trivial⟩⟩
   ·simp at hc
  ·exfalso
   by_cases h0:mode=0
   ·simp [h0] at hc
   ·by_cases h3:mode=3
    ·simp [h3] at hc
    ·by_cases h4:mode=4 <;> by_cases h6:mode=6 <;> simp [h0,h3,h4,h6] at hc
  ·simp at hc
 case move=>by_cases h:mode=0 <;> simp [h] at hc
 case assign=>by_cases h:mode=0 <;> simp [h] at hc
 case makeSlice=>by_cases h:mode=0 <;> simp [h] at hc
 case box=>by_cases h:mode=0 <;> simp [h] at hc
 all_goals simp at hc
theorem cls3 {C:CallFn} {lo mode:Nat} {o:Oper} {us:List AV} {r:AV} {H H':List AObj} (hc:hclass o mode=3) (h:opAll P C lo o mode us H=some (r,H')):H'=H:=by
 have base:∀ {x:Option AV},x.map (fun y=>(y,H))=some (r,H')→H'=H:=fun {x} h=>by
  simp only [Option.map_eq_some_iff,Prod.mk.injEq] at h
  obtain ⟨_,rfl,rfl,rfl⟩:=h;rfl
 cases hop:o.op <;> simp only [hclass,hop] at hc <;> simp only [opAll,hop] at h
 case load=>by_cases h:mode=0 <;> by_cases h2:mode=2 <;> by_cases h3:mode=3 <;> by_cases h5:mode=5 <;> simp [h,h2,h3,h5] at hc
 case call c =>
  split at hc
  ·split at hc
   ·by_cases hm:mode=0 <;> simp [hm] at hc
   all_goals simp at hc
  ·rename_i f hcf
   simp only [hcf] at h
   have hm:mode=0∨mode=4∨mode=6:=by
    by_cases h0:mode=0
    ·exact .inl h0
    ·by_cases h3:mode=3
     ·simp [h3] at hc
     ·by_cases h4:mode=4
      ·exact .inr (.inl h4)
      ·by_cases h6:mode=6
       ·exact .inr (.inr h6)
       ·simp [h0,h3,h4,h6] at hc
   have key:∀ {tgt:Tgt} {args:List AV},callTo C lo mode tgt args H=some (r,H')→H'=H:=fun {tgt args} h=>by
    rcases hm with rfl | rfl | rfl
    ·simp only [callTo,Option.bind_eq_some_iff] at h
     obtain ⟨x,_,h⟩:=h
     exact base h
    ·simp only [callTo,Option.bind_eq_some_iff,Option.map_eq_some_iff,Prod.mk.injEq] at h
     obtain ⟨x,_,v,_,_,h⟩:=h
     exact h.symm
    ·simp only [callTo] at h
     split at h
     ·simp only [Option.bind_eq_some_iff] at h
      obtain ⟨x,_,v,_,h⟩:=h
      split at h
      ·simp only [Option.some.injEq,Prod.mk.injEq] at h;exact h.2.symm
      ·cases h
     ·cases h
   unfold opCall at h
   split at h
   ·unfold doCall at h
    split at h
    ·exact key h
    ·exact key h
    ·simp at h
   ·simp at h
  ·simp at hc
 case move=>by_cases h:mode=0 <;> simp [h] at hc
 case assign=>by_cases h:mode=0 <;> simp [h] at hc
 case makeSlice=>by_cases h:mode=0 <;> simp [h] at hc
 case box=>by_cases h:mode=0 <;> simp [h] at hc
 all_goals simp at hc
theorem view_set {off:Nat} {l:List AV} {u:AV} (hu:l[off]?=some u):(l.set off u.view).map AV.view=l.map AV.view:=by
 rw [List.map_set]
 have hvv:u.view.view=u.view:=AV.view_of_plain (AV.view_plain u)
 rw [hvv]
 apply List.ext_getElem?
 intro j
 by_cases hj:off=j
 ·subst hj
  rw [List.getElem?_set_self (by simpa using (List.getElem?_eq_some_iff.1 hu).1),List.getElem?_map,hu];rfl
 ·rw [List.getElem?_set_ne hj]
theorem sees_setG {H:List AObj} {id off g z:Nat} {l:List AV} {u:AV} (hid:H[id]?=some (.grow l g z)) (hu:l[off]?=some u):Sees H (H.set id (.grow (l.set off u.view) g z))∧Sees (H.set id (.grow (l.set off u.view) g z)) H:=by
 have hv:=view_set hu
 have hlt:=(List.getElem?_eq_some_iff.1 hid).1
 constructor
 ·intro i o h
  by_cases hi:id=i
  ·subst hi
   rw [hid] at h;cases h
   exact .inr (.inr ⟨l,_,g,z,rfl,List.getElem?_set_self hlt,hv⟩)
  ·exact .inl (by rw [List.getElem?_set_ne hi];exact h)
 ·intro i o h
  by_cases hi:id=i
  ·subst hi
   rw [List.getElem?_set_self hlt] at h;cases h
   exact .inr (.inr ⟨_,l,g,z,rfl,hid,hv.symm⟩)
  ·rw [List.getElem?_set_ne hi] at h;exact .inl h
theorem sees_set {H:List AObj} {id off:Nat} {l:List AV} {u:AV} (hid:H[id]?=some (.cells l)) (hu:l[off]?=some u):Sees H (H.set id (.cells (l.set off u.view)))∧Sees (H.set id (.cells (l.set off u.view))) H:=by
 have hv:(l.set off u.view).map AV.view=l.map AV.view:=by
  rw [List.map_set]
  have hvv:u.view.view=u.view:=AV.view_of_plain (AV.view_plain u)
  rw [hvv]
  apply List.ext_getElem?
  intro j
  by_cases hj:off=j
  ·subst hj
   rw [List.getElem?_set_self (by simpa using (List.getElem?_eq_some_iff.1 hu).1),List.getElem?_map,hu];rfl
  ·rw [List.getElem?_set_ne hj]
 have hlt:=(List.getElem?_eq_some_iff.1 hid).1
 constructor
 ·intro i o h
  by_cases hi:id=i
  ·subst hi
   rw [hid] at h;cases h
   exact .inr (.inl ⟨l,_,rfl,List.getElem?_set_self hlt,hv⟩)
  ·exact .inl (by rw [List.getElem?_set_ne hi];exact h)
 ·intro i o h
  by_cases hi:id=i
  ·subst hi
   rw [List.getElem?_set_self hlt] at h;cases h
   exact .inr (.inl ⟨_,l,rfl,hid,hv.symm⟩)
  ·rw [List.getElem?_set_ne hi] at h;exact .inl h
theorem cls5 {C:CallFn} {lo mode:Nat} {o:Oper} {us:List AV} {r:AV} {H H':List AObj} (hc:hclass o mode=5) (h:opAll P C lo o mode us H=some (r,H')):Sees H H'∧Sees H' H:=by
 have refl:Sees H H:=fun id o h=>.inl h
 cases hop:o.op <;> simp only [hclass,hop] at hc <;> simp only [opAll,hop] at h
 case load t a =>
  have hm:mode≠0:=by intro h;simp [h] at hc
  unfold opLoad at h
  split at h
  ·split at h
   ·exact absurd rfl hm
   ·simp at hc
   ·simp at hc
   ·split at h
    ·split at h
     ·split at h
      ·rename_i l hid
       split at h
       ·rename_i c n z hoff
        cases h
        exact sees_set hid hoff
       ·rename_i c n z hoff
        rw [if_neg (by intro h2;simp [h2] at hc)] at h
        cases h
        exact sees_set hid hoff
       ·cases h;exact ⟨refl,refl⟩
       ·simp at h
      ·rename_i l g z hid
       split at h
       ·rename_i c n z' hoff
        cases h
        exact sees_setG hid hoff
       ·cases h;exact ⟨refl,refl⟩
       ·cases h
      ·simp at h
     ·simp at h
    ·simp at h
  ·simp at h
 case call c =>
  split at hc
  ·split at hc
   ·by_cases hm:mode=0 <;> simp [hm] at hc
   all_goals simp at hc
  ·exfalso
   by_cases h0:mode=0
   ·simp [h0] at hc
   ·by_cases h3:mode=3
    ·simp [h3] at hc
    ·by_cases h4:mode=4 <;> by_cases h6:mode=6 <;> simp [h0,h3,h4,h6] at hc
  ·simp at hc
 case move=>by_cases h:mode=0 <;> simp [h] at hc
 case assign=>by_cases h:mode=0 <;> simp [h] at hc
 case makeSlice=>by_cases h:mode=0 <;> simp [h] at hc
 case box=>by_cases h:mode=0 <;> simp [h] at hc
 all_goals simp at hc
theorem cls6 {C:CallFn} {lo mode:Nat} {o:Oper} {us:List AV} {r:AV} {H H':List AObj} (hc:hclass o mode=6) (h:opAll P C lo o mode us H=some (r,H')):Sees H H':=by
 cases hop:o.op <;> simp only [hclass,hop] at hc <;> simp only [opAll,hop] at h
 case load=>by_cases h:mode=0 <;> by_cases h2:mode=2 <;> by_cases h3:mode=3 <;> by_cases h5:mode=5 <;> simp [h,h2,h3,h5] at hc
 case box e x =>
  have hm:mode=0:=by by_cases h:mode=0 <;> simp_all
  subst hm
  unfold opBox at h
  split at h
  ·simp only [Option.map_eq_some_iff,Prod.mk.injEq] at h
   obtain ⟨_,_,_,rfl⟩:=h;exact Sees.append _ _
  ·simp at h
 case alloc t =>
  unfold opAlloc at h
  split at h
  ·simp only [Option.map_eq_some_iff,Prod.mk.injEq] at h
   obtain ⟨_,_,_,rfl⟩:=h;exact Sees.append _ _
  ·split at h
   ·simp only [Option.map_eq_some_iff,Prod.mk.injEq] at h
    obtain ⟨_,_,_,rfl⟩:=h;exact Sees.append _ _
   ·cases h
 case call c =>
  split at hc
  ·split at hc
   ·by_cases hm:mode=0 <;> simp [hm] at hc
   all_goals simp at hc
  ·exfalso
   by_cases h0:mode=0
   ·simp [h0] at hc
   ·by_cases h3:mode=3
    ·simp [h3] at hc
    ·by_cases h4:mode=4 <;> by_cases h6:mode=6 <;> simp [h0,h3,h4,h6] at hc
  ·simp at hc
 case move=>by_cases h:mode=0 <;> simp [h] at hc
 case assign=>by_cases h:mode=0 <;> simp [h] at hc
 case makeSlice=>by_cases h:mode=0 <;> simp [h] at hc
 all_goals simp at hc
noncomputable def stepA (P:Program) (C:CallFn) (lo:Nat) (ops:Array Oper) (o:Oper) (an:OpAnn) (s:St):Option St :=
 match wantedA ops o s.T with
 | some true=>Ab.execOp P C lo o an s
 | some false=>some ⟨put s.T o.dst (.tuple []),s.H⟩
 | none=>none
theorem wanted_cong {ops:Array Oper} {o:Oper} {T T':List AV} (h:∀ t∈gtmp ops o,(T[t]?).map AV.settle=(T'[t]?).map AV.settle):wantedA ops o T=wantedA ops o T':=by
 unfold wantedA
 split
 ·rfl
 ·rename_i j want hg
  split
  ·rename_i d hd
   have hm:=h d (by simp [gtmp,hg,hd])
   have hs:(getT T d).settle=(getT T' d).settle:=by
    rw [getT_eq,getT_eq,List.getD_eq_getElem?_getD,List.getD_eq_getElem?_getD]
    cases h1:T[d]? <;> cases h2:T'[d]? <;> rw [h1,h2] at hm <;> simp at hm <;> simp [hm]
   have key:∀ x:AV,(match x with | .bool b=>some (b == want) | .tuple []=>some false | _=>none)=(match x.settle with | .bool b=>some (b == want) | .tuple []=>some false | _=>none):=fun x=>by
    cases x <;> try rfl
    rename_i c n k;cases k <;> rfl
   exact (key _).trans (Eq.trans (by rw [hs]) (key _).symm)
  ·rfl
theorem put_get (T:List AV) (d:Option Nat) (v:AV) (j:Nat):(put T d v)[j]?=if d=some j then (T[j]?).map fun _=>v else T[j]?:=by
 cases d with
 | none=>simp [put]
 | some d=>simp only [put,setT_get,Option.some.injEq]
def effT (o:Oper) (an:OpAnn) (w:Bool) (r:AV) (j:Nat) (u:AV):AV :=
 if o.dst=some j then r else if w=false then u else if j∈takenIn an.takes (opsOf o) then .junk else if j∈tmpsOf (opsOf o) then u.settle else u
theorem calm_inPlace {o:Oper} {mode:Nat} (h:calm o mode=true) (T:List AV) (v:AV):inPlace o mode T v=T:=by
 unfold inPlace
 split
 ·rfl
 ·rfl
 ·rename_i hm _
  split
  ·rename_i hop;simp [calm,hop] at h;exact absurd h hm
  ·rename_i hop;simp [calm,hop] at h;exact absurd h hm
  ·rfl
theorem stepA_spec {C:CallFn} {lo:Nat} {ops:Array Oper} {o:Oper} {an:OpAnn} {s s':St} (hcalm:calm o an.mode=true) (h:stepA P C lo ops o an s=some s') :
  ∃ w r,wantedA ops o s.T=some w∧(∀ j,s'.T[j]?=(s.T[j]?).map (effT o an w r j)) ∧
    (w=true→opAll P C lo o an.mode (linVals (isLinear o) (rd s.T an.takes (opsOf o)).1) s.H=some (r,s'.H))∧(w=false→r=.tuple []∧s'.H=s.H):=by
 unfold stepA at h
 split at h
 ·rename_i hw
  obtain ⟨r,H',hop,rfl⟩:=execOp_split h
  refine ⟨true,r,hw,fun j=>?_,fun _=>hop,by simp⟩
  rw [calm_inPlace hcalm]
  simp only [put_get,rd_get]
  cases s.T[j]? with
  | none=>split <;> rfl
  | some u=>by_cases hd:o.dst=some j <;> simp [effT,hd]
 ·rename_i hw
  simp only [Option.some.injEq] at h;subst h
  refine ⟨false,.tuple [],hw,fun j=>?_,by simp,fun _=>⟨rfl,rfl⟩⟩
  simp only [put_get]
  cases s.T[j]? with
  | none=>split <;> rfl
  | some u=>by_cases hd:o.dst=some j <;> simp [effT,hd]
 ·simp at h
theorem stepA_of {C:CallFn} {lo:Nat} {ops:Array Oper} {o:Oper} {an:OpAnn} {s:St} (hcalm:calm o an.mode=true) {w:Bool} {r:AV} {H':List AObj} (hw:wantedA ops o s.T=some w)
  (h1:w=true→opAll P C lo o an.mode (linVals (isLinear o) (rd s.T an.takes (opsOf o)).1) s.H=some (r,H')) (h2:w=false→r=.tuple []∧H'=s.H) :
  ∃ T',stepA P C lo ops o an s=some ⟨T',H'⟩∧∀ j,T'[j]?=(s.T[j]?).map (effT o an w r j):=by
 cases w with
 | true =>
   refine ⟨put (inPlace o an.mode (rd s.T an.takes (opsOf o)).2 r) o.dst r,?_,fun j=>?_⟩
   ·have h1:=h1 rfl
    simp only [stepA,hw,Ab.execOp]
    unfold linVals at h1
    cases hl:isLinear o <;> rw [hl] at h1 <;> simp only at h1 ⊢ <;> rw [h1] <;> rfl
   ·rw [calm_inPlace hcalm]
    simp only [put_get,rd_get]
    cases s.T[j]? with
    | none=>split <;> rfl
    | some u=>by_cases hd:o.dst=some j <;> simp [effT,hd]
 | false =>
   obtain ⟨rfl,rfl⟩:=h2 rfl
   refine ⟨put s.T o.dst (.tuple []),by simp only [stepA,hw],fun j=>?_⟩
   simp only [put_get]
   cases s.T[j]? with
   | none=>split <;> rfl
   | some u=>by_cases hd:o.dst=some j <;> simp [effT,hd]
theorem load_map {t:TypeId} {H:List AObj} {id c c':Nat} {es es':List (Nat×AV×AV)} (hid:H[id]?=some (.map es c)) (a:AV):aLoad P (H.set id (.map es' c')) t a=aLoad P H t a:=by
 have hl:=(List.getElem?_eq_some_iff.1 hid).1
 unfold aLoad
 cases a with
 | ptr i off =>
   simp only
   by_cases h:id=i
   ·subst h
    rw [List.getElem?_set_self hl,hid]
   ·rw [List.getElem?_set_ne h]
 | _=>rfl
theorem load_mapUp {C:CallFn} {lo:Nat} {o1 o2:Oper} {m2:Nat} {us vs:List AV} {r1 r2:AV} {H H2:List AObj} (h:ldMap o1 0 o2=true) (h1:opAll P C lo o1 0 us H=some (r1,H)) (h2:opAll P C lo o2 m2 vs H=some (r2,H2)) :
  opAll P C lo o1 0 us H2=some (r1,H2):=by
 unfold ldMap at h
 split at h
 ·rename_i t x t' m k v hop1 hop2
  simp only [opAll,hop1] at h1 ⊢
  simp only [opAll,hop2] at h2
  unfold opLoad at h1 ⊢
  split at h1
  ·rename_i a
   simp only [Option.map_eq_some_iff,Prod.mk.injEq] at h1
   obtain ⟨r,h1,rfl,-⟩:=h1
   have key:∃ id c es c' es',H[id]?=some (.map es c)∧H2=H.set id (.map es' c'):=by
    unfold opMapUpdate at h2
    split at h2
    ·split at h2
     ·split at h2
      ·split at h2
       ·split at h2
        ·rename_i hid
         split at h2
         ·cases h2;exact ⟨_,_,_,_,_,hid,rfl⟩
         ·cases h2;exact ⟨_,_,_,_,_,hid,rfl⟩
         ·simp at h2
        ·simp at h2
       ·simp at h2
      ·simp at h2
     ·simp at h2
    ·simp at h2
   obtain ⟨id,c,es,c',es',hid,rfl⟩:=key
   simp only
   rw [load_map hid,h1];rfl
  ·simp at h1
 ·simp at h
theorem stepA_comm {C:CallFn} {lo:Nat} {ops:Array Oper} {o1 o2:Oper} {a1 a2:OpAnn} (hi:indep ops o1 a1 o2 a2=true) {s s1 s2:St} (h1:stepA P C lo ops o1 a1 s=some s1) (h2:stepA P C lo ops o2 a2 s1=some s2) :
  ∃ s3,stepA P C lo ops o2 a2 s=some s3∧stepA P C lo ops o1 a1 s3=some s2:=by
 simp only [indep,Bool.and_eq_true] at hi
 obtain ⟨⟨⟨⟨⟨⟨⟨d1,d2⟩,d3⟩,d4⟩,d5⟩,c1⟩,c2⟩,hh⟩:=hi
 have e1:∀ t,o1.dst=some t→t ∉ rtmps ops o2:=fun t ht=>disj_iff d1 t (by simp [ht])
 have e2:∀ t,o2.dst=some t→t ∉ rtmps ops o1:=fun t ht=>disj_iff d2 t (by simp [ht])
 have e3:∀ t,o1.dst=some t→o2.dst≠some t:=fun t ht h=>disj_iff d3 t (by simp [ht]) (by simp [h])
 have e4:=disj_iff d4
 have e5:=disj_iff d5
 have tk:∀ (xs:List Operand) (ts:List Bool) (t:Nat),t∈takenIn ts xs→t∈tmpsOf xs:=by
  intro xs
  induction xs with
  | nil=>intro ts t h;simp [takenIn] at h
  | cons x rest ih =>
    intro ts t h
    cases x with
    | tmp u =>
      have ht:tmpsOf (.tmp u::rest)=u::tmpsOf rest:=by simp [tmpsOf]
      rw [ht]
      simp only [takenIn] at h
      split at h
      ·rcases List.mem_cons.1 h with rfl | h
       ·simp
       ·exact List.mem_cons_of_mem _ (ih _ t h)
      ·exact List.mem_cons_of_mem _ (ih _ t h)
    | const v=>simpa [tmpsOf] using ih _ t (by simpa [takenIn] using h)
    | func f=>simpa [tmpsOf] using ih _ t (by simpa [takenIn] using h)
    | global g=>simpa [tmpsOf] using ih _ t (by simpa [takenIn] using h)
 obtain ⟨w1,r1,g1,t1,u1,v1⟩:=stepA_spec c1 h1
 obtain ⟨w2,r2,g2,t2,u2,v2⟩:=stepA_spec c2 h2
 have keep:∀ (o:Oper) (a:OpAnn) (w:Bool) (r:AV) (t:Nat),o.dst≠some t→t ∉ takenIn a.takes (opsOf o)→∀ u,(effT o a w r t u).settle=u.settle:=fun o a w r t hd ht u=>by
  unfold effT
  rw [if_neg hd]
  split
  ·rfl
  ·by_cases h:t∈tmpsOf (opsOf o) <;> simp only [h,if_true,if_false]
   exact settle_settle u
 have stay:∀ (o:Oper) (a:OpAnn) (w:Bool) (r:AV) (t:Nat),o.dst≠some t→t ∉ tmpsOf (opsOf o)→∀ u,effT o a w r t u=u:=fun o a w r t hd ht u=>by
  unfold effT
  rw [if_neg hd]
  split
  ·rfl
  ·have ht':t ∉ takenIn a.takes (opsOf o):=fun h=>ht (tk _ _ t h)
   simp only [ht',if_false]
 have m1:∀ t∈rtmps ops o2,(s1.T[t]?).map AV.settle=(s.T[t]?).map AV.settle:=fun t ht=>by
  rw [t1]
  cases s.T[t]? with
  | none=>rfl
  | some u=>simp only [Option.map_some];rw [keep o1 a1 w1 r1 t (fun h=>e1 t h ht) (fun h=>e4 t h ht)]
 have k1:∀ t∈takenIn a2.takes (opsOf o2),s1.T[t]?=s.T[t]?:=fun t ht=>by
  rw [t1]
  have hn:o1.dst≠some t:=fun h=>e1 t h (by simp [rtmps,tk _ _ t ht])
  have hn2:t ∉ tmpsOf (opsOf o1):=fun h=>e5 t ht (by simp [rtmps,h])
  cases s.T[t]? with
  | none=>rfl
  | some u=>simp only [Option.map_some];rw [stay o1 a1 w1 r1 t hn hn2]
 have gw2:wantedA ops o2 s.T=some w2:=by rw [←g2];exact (wanted_cong fun t ht=>m1 t (by simp [rtmps,ht])).symm
 have hv2:(rd s1.T a2.takes (opsOf o2)).1=(rd s.T a2.takes (opsOf o2)).1:=rd_cong _ _ _ _ (fun t ht=>m1 t (by simp [rtmps,ht])) k1
 have rdr:∀ {o:Oper} {a:OpAnn} {us:List AV} {r:AV} {H H':List AObj},hclass o a.mode=1∨hclass o a.mode=3→opAll P C lo o a.mode us H=some (r,H')→H'=H:=fun hc hop=>by
  rcases hc with hc | hc
  ·exact (cls1 hc hop).1
  ·exact cls3 hc hop
 have hk:hclass o1 a1.mode=0∨hclass o2 a2.mode=0∨((hclass o1 a1.mode=1∨hclass o1 a1.mode=3)∧(hclass o2 a2.mode=1∨hclass o2 a2.mode=3)) ∨
   (hclass o1 a1.mode=1∧hclass o2 a2.mode=5)∨(hclass o1 a1.mode=5∧hclass o2 a2.mode=1)∨(hclass o1 a1.mode=1∧hclass o2 a2.mode=6)∨(a1.mode=0∧ldMap o1 0 o2=true):=by
  rw [Bool.or_eq_true] at hh
  rcases hh with hh | hh
  rotate_left
  ·refine .inr (.inr (.inr (.inr (.inr (.inr ?_)))))
   have h0:a1.mode=0:=by
    unfold ldMap at hh
    split at hh
    ·simpa using hh
    ·simp at hh
   rw [h0] at hh
   exact ⟨h0,hh⟩
  simp only [hok,Bool.or_eq_true,Bool.and_eq_true,beq_iff_eq] at hh
  rcases hh with ((((h | h) | h) | h) | h) | h
  ·exact .inl h
  ·exact .inr (.inl h)
  ·exact .inr (.inr (.inl h))
  ·exact .inr (.inr (.inr (.inl h)))
  ·exact .inr (.inr (.inr (.inr (.inl h))))
  ·exact .inr (.inr (.inr (.inr (.inr (.inl h)))))
 have mem:∃ H3,(w2=true→opAll P C lo o2 a2.mode (linVals (isLinear o2) (rd s.T a2.takes (opsOf o2)).1) s.H=some (r2,H3))∧(w2=false→r2=.tuple []∧H3=s.H) ∧
   (w1=true→∀ vs,opAll P C lo o1 a1.mode vs s.H=some (r1,s1.H)→opAll P C lo o1 a1.mode vs H3=some (r1,s2.H))∧(w1=false→s2.H=H3):=by
  cases w2 with
  | false =>
    obtain ⟨q1,q2⟩:=v2 rfl
    refine ⟨s.H,by simp,fun _=>⟨q1,rfl⟩,fun _ vs h=>by rw [q2];exact h,fun hw=>by rw [q2];exact (v1 hw).2⟩
  | true =>
    have hop2:=u2 rfl
    rw [hv2] at hop2
    cases w1 with
    | false =>
      have q:=(v1 rfl).2
      rw [q] at hop2
      exact ⟨s2.H,fun _=>hop2,by simp,by simp,fun _=>rfl⟩
    | true =>
      have hop1:=u1 rfl
      rcases hk with h | h | ⟨h,h'⟩ | ⟨h,h'⟩ | ⟨h,h'⟩ | ⟨h,h'⟩ | ⟨h,h'⟩
      ·have q:=(cls0 h hop1).1
       rw [q] at hop2
       exact ⟨s2.H,fun _=>hop2,by simp,fun _ vs hh=>(cls0 h hh).2 s2.H,by simp⟩
      ·have q:=(cls0 h hop2).1
       refine ⟨s.H,fun _=>(cls0 h hop2).2 s.H,by simp,fun _ vs hh=>by rw [q];exact hh,by simp⟩
      ·have q1:=rdr h hop1
       have q2:=rdr h' hop2
       rw [q2,q1] at hop2
       exact ⟨s.H,fun _=>hop2,by simp,fun _ vs hh=>by rw [q2];exact hh,by simp⟩
      ·have q1:=(cls1 h hop1).1
       rw [q1] at hop2
       exact ⟨s2.H,fun _=>hop2,by simp,fun _ vs hh=>(cls1 h hh).2 s2.H (cls5 h' hop2).1,by simp⟩
      ·obtain ⟨q2,q3⟩:=cls1 h' hop2
       exact ⟨s.H,fun _=>q3 s.H (cls5 h hop1).2,by simp,fun _ vs hh=>by rw [q2];exact hh,by simp⟩
      ·have q1:=(cls1 h hop1).1
       rw [q1] at hop2
       exact ⟨s2.H,fun _=>hop2,by simp,fun _ vs hh=>(cls1 h hh).2 s2.H (cls6 h' hop2),by simp⟩
      ·have q1:s1.H=s.H:=by
        have hc:hclass o1 a1.mode=1:=by
         unfold ldMap at h'
         split at h'
         ·rename_i hop _;simp only [hclass,hop,h];rfl
         ·simp at h'
        exact (cls1 hc hop1).1
       rw [q1] at hop2
       refine ⟨s2.H,fun _=>hop2,by simp,fun _ vs hh=>?_,by simp⟩
       rw [q1] at hh
       rw [h] at hh ⊢
       exact load_mapUp h' hh hop2
 obtain ⟨H3,b1,b2,b3,b4⟩:=mem
 obtain ⟨T3,hs3,hT3⟩:=stepA_of (C:=C) (lo:=lo) (s:=s) c2 gw2 b1 b2
 have m2:∀ t∈rtmps ops o1,(T3[t]?).map AV.settle=(s.T[t]?).map AV.settle:=fun t ht=>by
  rw [hT3]
  cases s.T[t]? with
  | none=>rfl
  | some u=>simp only [Option.map_some];rw [keep o2 a2 w2 r2 t (fun h=>e2 t h ht) (fun h=>e5 t h ht)]
 have k2:∀ t∈takenIn a1.takes (opsOf o1),T3[t]?=s.T[t]?:=fun t ht=>by
  rw [hT3]
  have hn:o2.dst≠some t:=fun h=>e2 t h (by simp [rtmps,tk _ _ t ht])
  have hn2:t ∉ tmpsOf (opsOf o2):=fun h=>e4 t ht (by simp [rtmps,h])
  cases s.T[t]? with
  | none=>rfl
  | some u=>simp only [Option.map_some];rw [stay o2 a2 w2 r2 t hn hn2]
 have gw1:wantedA ops o1 T3=some w1:=by rw [←g1];exact wanted_cong fun t ht=>m2 t (by simp [rtmps,ht])
 have hv1:(rd T3 a1.takes (opsOf o1)).1=(rd s.T a1.takes (opsOf o1)).1:=rd_cong _ _ _ _ (fun t ht=>m2 t (by simp [rtmps,ht])) k2
 obtain ⟨T4,hs4,hT4⟩:=stepA_of (C:=C) (lo:=lo) (s:=⟨T3,H3⟩) (r:=r1) (H':=s2.H) c1 gw1 (fun hw=>by
  simp only;rw [hv1];exact b3 hw _ (u1 hw)) (fun hw=>⟨(v1 hw).1,b4 hw⟩)
 refine ⟨⟨T3,H3⟩,hs3,?_⟩
 rw [hs4]
 congr 1
 have:T4=s2.T:=by
  apply List.ext_getElem?
  intro j
  rw [hT4,t2]
  simp only [hT3,t1]
  cases s.T[j]? with
  | none=>rfl
  | some u =>
    simp only [Option.map_some,Option.some.injEq]
    unfold effT
    have x3:=e3 j
    have x1:=e1 j
    have x2:=e2 j
    have y1:=e4 j
    have y2:=e5 j
    have z1:=tk (opsOf o1) a1.takes j
    have z2:=tk (opsOf o2) a2.takes j
    simp only [rtmps,List.mem_append,not_or] at x1 x2 y1 y2
    by_cases p1:o1.dst=some j
    ·have q:=(x1 p1).2
     have q':j ∉ takenIn a2.takes (opsOf o2):=fun h=>q (z2 h)
     simp only [p1,if_true,x3 p1,if_false,q,q'];split <;> rfl
    ·by_cases p2:o2.dst=some j
     ·have q:=(x2 p2).2
      have q':j ∉ takenIn a1.takes (opsOf o1):=fun h=>q (z1 h)
      simp only [p1,p2,if_true,if_false,q,q'];split <;> rfl
     ·simp only [p1,p2,if_false]
      by_cases t1':j∈takenIn a1.takes (opsOf o1)
      ·have q:=(y1 t1').2
       have q':j ∉ takenIn a2.takes (opsOf o2):=fun h=>q (z2 h)
       simp only [t1',q,q',if_true,if_false];split <;> split <;> rfl
      ·by_cases t2':j∈takenIn a2.takes (opsOf o2)
       ·have q:=(y2 t2').2
        simp only [t1',t2',q,if_true,if_false];split <;> split <;> rfl
       ·simp only [t1',t2',if_false]
        by_cases s1':j∈tmpsOf (opsOf o1) <;> by_cases s2':j∈tmpsOf (opsOf o2) <;> simp only [s1',s2',if_true,if_false] <;> split <;> split <;> first | rfl | rw [settle_settle]
 rw [this]
end
end Go.Proofs.YtfakoboiahbhaaaGreat.Ab


namespace Go.Proofs.YtfakoboiahbhaaaGreat.Ab
open Go
section
variable {P:Program}
theorem mask_foldl (ms:List Nat) (j:Nat):∀ (l:List Edge) (m0:Nat),(l.foldl (fun m e=>if Region.binds .any e then m ||| (ms.getD e.on 0 ||| 1 <<< e.on) else m) m0).testBit j=true →
  m0.testBit j=true∨∃ e∈l,Region.binds .any e=true∧((ms.getD e.on 0).testBit j=true∨j=e.on)
 | [],m0,h=>.inl h
 | e::l,m0,h=>by
   simp only [List.foldl_cons] at h
   rcases mask_foldl ms j l _ h with h1 | ⟨e',he',hb,h1⟩
   ·by_cases hb:Region.binds .any e=true
    ·simp only [hb,if_true,Nat.testBit_or,Bool.or_eq_true] at h1
     rcases h1 with h1 | h1 | h1
     ·exact .inl h1
     ·exact .inr ⟨e,by simp,hb,.inl h1⟩
     ·refine .inr ⟨e,by simp,hb,.inr ?_⟩
      rw [Nat.one_shiftLeft,Nat.testBit_two_pow] at h1
      simpa using (of_decide_eq_true h1).symm
    ·simp only [hb] at h1
     exact .inl h1
   ·exact .inr ⟨e',by simp [he'],hb,h1⟩
def closedL (ops:Array Oper) (listed:Array Bool):Prop :=
 ∀ k o,ops[k]?=some o→listed.getD k true=true→∀ e∈o.after,Region.binds .any e=true→listed.getD e.on false=true
noncomputable def runI (P:Program) (C:CallFn) (lo:Nat) (ops:Array Oper) (as:List OpAnn):List Nat→St→Option St
 | [],s=>some s
 | i::r,s=>match ops[i]? with
   | none=>runI P C lo ops as r s
   | some o=>(stepA P C lo ops o (as.getD i {}) s).bind (runI P C lo ops as r)
theorem execOps_runI {C:CallFn} {lo:Nat} {ops:Array Oper} {as:List OpAnn}:∀ (l:List Oper) (k:Nat) (s:St),(∀ j,l[j]?=ops[k+j]?)→execOps P C lo ops l (as.drop k) s=runI P C lo ops as (List.range' k l.length) s
 | [],k,s,_=>by simp [execOps,runI]
 | o::l,k,s,h=>by
   have h0:ops[k]?=some o:=by simpa using (h 0).symm
   have ih:=fun s=>execOps_runI (C:=C) (lo:=lo) (as:=as) l (k+1) s (fun j=>by have:=h (j+1);simpa [Nat.add_assoc,Nat.add_comm 1 j] using this)
   have hd:(as.drop k).headD {}=as.getD k {}:=by rw [List.headD_eq_head?_getD,List.head?_drop,List.getD_eq_getElem?_getD]
   have ht:(as.drop k).tail=as.drop (k+1):=by rw [List.tail_drop]
   simp only [execOps,List.length_cons,List.range'_succ,runI,h0,hd,ht]
   unfold stepA
   split
   ·rename_i hw;simp only [hw];congr 1;funext s';exact ih s'
   ·rename_i hw;simp only [hw];exact ih _
   ·rename_i hw;simp only [hw];rfl
def remL (n:Nat) (listed:Array Bool):List Nat:=(List.range n).filter fun i=>!listed.getD i true
theorem remL_set {n i:Nat} {listed:Array Bool}:remL n (listed.setIfInBounds i true)=(remL n listed).erase i:=by
 have hnd:(remL n listed).Nodup:=List.nodup_range.filter _
 rw [hnd.erase_eq_filter]
 simp only [remL,List.filter_filter]
 congr 1
 funext j
 by_cases hij:j=i
 ·subst hij
  rcases Nat.lt_or_ge j listed.size with h | h
  ·simp [Array.getD_eq_getD_getElem?,h]
  ·simp [Array.getD_eq_getD_getElem?,h]
 ·have:(listed.setIfInBounds i true).getD j true=listed.getD j true:=by
   simp only [Array.getD_eq_getD_getElem?]
   rw [Array.getElem?_setIfInBounds_ne (Ne.symm hij)]
  rw [this];simp [hij]
theorem run_front {C:CallFn} {lo:Nat} {ops:Array Oper} {as:List OpAnn} {i:Nat} {oi:Oper} (hi:ops[i]?=some oi) {s':St}:∀ (l:List Nat) (s:St),l.Pairwise (·<·)→i∈l →
  (∀ j∈l,j<i→∀ oj,ops[j]?=some oj→indep ops oj (as.getD j {}) oi (as.getD i {})=true)→runI P C lo ops as l s=some s' →
  ∃ s1,stepA P C lo ops oi (as.getD i {}) s=some s1∧runI P C lo ops as (l.erase i) s1=some s'
 | [],s,_,h,_,_=>by simp at h
 | j::r,s,hp,hm,hind,h=>by
   by_cases hji:j=i
   ·subst hji
    simp only [runI,hi,Option.bind_eq_some_iff] at h
    obtain ⟨s1,h1,h2⟩:=h
    exact ⟨s1,h1,by simpa using h2⟩
   ·have hr:i∈r:=by
     rcases List.mem_cons.1 hm with h | h
     ·exact absurd h.symm hji
     ·exact h
    have hlt:j<i:=(List.pairwise_cons.1 hp).1 i hr
    have he:(j::r).erase i=j::r.erase i:=by
     rw [List.erase_cons];simp [hji]
    rw [he]
    simp only [runI] at h ⊢
    cases hj:ops[j]? with
    | none =>
      simp only [hj] at h
      exact run_front hi r s (List.pairwise_cons.1 hp).2 hr (fun k hk=>hind k (by simp [hk])) h
    | some oj =>
      simp only [hj,Option.bind_eq_some_iff] at h
      obtain ⟨s1,h1,h2⟩:=h
      obtain ⟨s2,k1,k2⟩:=run_front hi r s1 (List.pairwise_cons.1 hp).2 hr (fun k hk=>hind k (by simp [hk])) h2
      obtain ⟨s3,q1,q2⟩:=stepA_comm (hind j (by simp) hlt oj hj) h1 k1
      exact ⟨s3,q1,by dsimp only;rw [q2];exact k2⟩
variable {B N:Nat} {κ:List Nat} {w:World} {ω:Nat→Option Lab} {S:Nat→Nat→Prop}
theorem stepA_sim {F:Fence} (hF:Fen F) {C:CallFn} (hC:CSound P C) {lo:Nat} {ops:Array Oper} {Q:Exit→Act→World→Prop} {i:Nat} {o:Oper} (hi:ops[i]?=some o) {an:OpAnn} {s s':St}
  (h:stepA P C lo ops o an s=some s') {a:Act} (hA:ARel B N ω κ S w s a) {K:Act→World→Prop} (hK:∀ a' w',Step B N ω κ S w s' a' w'→K a' w'):wpOpIn F 0 P ops Q i K a w:=by
 unfold wpOpIn
 simp only [hi]
 unfold stepA at h
 split at h
 ·rename_i hw
  rw [wantedA_sound hA hw]
  simp only [if_true]
  exact step_sim hF hC h hA hK
 ·rename_i hw
  rw [wantedA_sound hA hw]
  simp only [Bool.false_eq_true,if_false]
  simp only [Option.some.injEq] at h;subst h
  exact ⟨fun f _=>hF.fn f,hK _ _ (Step.here (hA.skip o.dst))⟩
 ·simp at h
theorem any_sim {F:Fence} (hF:Fen F) {C:CallFn} (hC:CSound P C) {lo:Nat} {ops:Array Oper} {as:List OpAnn} (hd:drawOk ops as=true) {Q:Exit→Act→World→Prop} {s':St} :
  ∀ (fuel:Nat) (listed:Array Bool) (s:St) (a:Act) (w:World) (ω:Nat→Option Lab) (κ:List Nat) (S:Nat→Nat→Prop),(remL ops.size listed).length≤fuel→closedL ops listed →
    runI P C lo ops as (remL ops.size listed) s=some s'→ARel B N ω κ S w s a→(∀ a' w',Step B N ω κ S w s' a' w'→Q .normal a' w')→wpAnyIn F 0 P .any ops Q fuel listed a w:=by
 have hall:∀ j oj,ops[j]?=some oj→((masks ops.toList []).getD j 0=maskOf (masks ops.toList []) oj)∧(∀ e∈oj.after,Region.binds .any e=true→e.on<j) ∧
   ∀ i oi,i<j→ops[i]?=some oi→((masks ops.toList []).getD j 0).testBit i=true∨indep ops oi (as.getD i {}) oj (as.getD j {})=true:=fun j oj hj=>by
  have hlt:j<ops.size:=(Array.getElem?_eq_some_iff.1 hj).1
  simp only [drawOk,pairsOk,List.all_eq_true,List.mem_range] at hd
  have h:=hd j hlt
  rw [hj] at h
  simp only [Bool.and_eq_true,beq_iff_eq,List.all_eq_true,List.mem_range] at h
  obtain ⟨⟨h1,h2⟩,h3⟩:=h
  refine ⟨h1,fun e he hb=>?_,fun i oi hij hi=>?_⟩
  ·have:=h2 e (by simpa using he)
   simp only [hb,Bool.not_true,Bool.false_or] at this
   simpa [Nat.blt_eq] using this
  ·have:=h3 i hij
   rw [hi] at this
   simpa using this
 have rests:∀ (listed:Array Bool),closedL ops listed→∀ (n k:Nat) ok,k≤n→ops[k]?=some ok→(∀ e∈ok.after,Region.binds .any e=true→listed.getD e.on false=true) →
   ∀ j,((masks ops.toList []).getD k 0).testBit j=true→listed.getD j false=true:=by
  intro listed hcl n
  induction n with
  | zero =>
    intro k ok hk ho hed j hj
    rw [(hall k ok ho).1] at hj
    rcases mask_foldl _ j _ _ hj with h | ⟨e,he,hb,h⟩
    ·simp at h
    ·have:=(hall k ok ho).2.1 e (by simpa using he) hb;omega
  | succ n ih =>
    intro k ok hk ho hed j hj
    rw [(hall k ok ho).1] at hj
    rcases mask_foldl _ j _ _ hj with h | ⟨e,he,hb,h⟩
    ·simp at h
    ·have he':e∈ok.after:=by simpa using he
     have hlt:=(hall k ok ho).2.1 e he' hb
     have hon:=hed e he' hb
     rcases h with h | rfl
     ·have hks:=(Array.getElem?_eq_some_iff.1 ho).1
      have hoe:ops[e.on]?=some ops[e.on]:=Array.getElem?_eq_getElem (by omega)
      have hont:listed.getD e.on true=true:=by
       rcases Nat.lt_or_ge e.on listed.size with h' | h'
       ·simp [Array.getD_eq_getD_getElem?,h'] at hon ⊢;exact hon
       ·simp [Array.getD_eq_getD_getElem?,h'] at hon
      exact ih e.on _ (by omega) hoe (hcl e.on _ hoe hont) j h
     ·exact hon
 intro fuel
 induction fuel with
 | zero =>
   intro listed s a w ω κ S hfuel hcl hrun hA hQ
   have hnil:remL ops.size listed=[]:=List.length_eq_zero_iff.1 (by omega)
   rw [hnil] at hrun
   simp only [runI,Option.some.injEq] at hrun;subst hrun
   refine ⟨?_,hQ a w (Step.here hA)⟩
   rw [List.eq_nil_iff_forall_not_mem]
   intro i hi
   obtain ⟨h1,o,ho,_⟩:=mem_ready.1 hi
   have:i∈remL ops.size listed:=by
    simp only [remL,List.mem_filter,List.mem_range]
    exact ⟨(Array.getElem?_eq_some_iff.1 ho).1,by simp [h1]⟩
   rw [hnil] at this;simp at this
 | succ fuel ih =>
   intro listed s a w ω κ S hfuel hcl hrun hA hQ
   refine ⟨fun hr=>?_,fun i hi=>?_⟩
   ·
    have hnil:remL ops.size listed=[]:=by
     rw [List.eq_nil_iff_forall_not_mem]
     intro i
     induction i using Nat.strongRecOn with
     | _ i ihi =>
       intro hi
       simp only [remL,List.mem_filter,List.mem_range] at hi
       obtain ⟨hlt,hun⟩:=hi
       have ho:ops[i]?=some ops[i]:=Array.getElem?_eq_getElem hlt
       have:i∈Region.ready .any ops listed:=mem_ready.2 ⟨by simpa using hun,_,ho,fun e he hb=>by
        have hlt':=(hall i _ ho).2.1 e he hb
        have hnot:=ihi e.on hlt'
        simp only [remL,List.mem_filter,List.mem_range,not_and] at hnot
        have hl:=hnot (by omega)
        rcases Nat.lt_or_ge e.on listed.size with h' | h'
        ·simp [Array.getD_eq_getD_getElem?,h'] at hl ⊢;exact hl
        ·rcases Nat.lt_or_ge i listed.size with h'' | h''
         ·omega
         ·simp [Array.getD_eq_getD_getElem?,h''] at hun⟩
       rw [hr] at this;simp at this
    rw [hnil] at hrun
    simp only [runI,Option.some.injEq] at hrun;subst hrun
    exact hQ a w (Step.here hA)
   ·obtain ⟨h1,oi,hoi,hed⟩:=mem_ready.1 hi
    have hlt:=(Array.getElem?_eq_some_iff.1 hoi).1
    have hmem:i∈remL ops.size listed:=by
     simp only [remL,List.mem_filter,List.mem_range]
     exact ⟨hlt,by simp [h1]⟩
    have hsort:(remL ops.size listed).Pairwise (·<·):=List.pairwise_lt_range.filter _
    obtain ⟨s1,q1,q2⟩:=run_front hoi (remL ops.size listed) s hsort hmem (fun j hj hji oj hoj=>by
     rcases (hall i oi hoi).2.2 j oj hji hoj with h | h
     ·have:=rests listed hcl i i oi (Nat.le_refl _) hoi hed j h
      simp only [remL,List.mem_filter,List.mem_range] at hj
      have hun:=hj.2
      rcases Nat.lt_or_ge j listed.size with h' | h'
      ·simp [Array.getD_eq_getD_getElem?,h'] at hun this;rw [this] at hun;simp at hun
      ·simp [Array.getD_eq_getD_getElem?,h'] at hun
     ·exact h) hrun
    refine stepA_sim hF hC hoi q1 hA fun a' w' hs=>?_
    obtain ⟨ω1,κ1,S1,k1,k2,hA1⟩:=hs
    refine ih (listed.setIfInBounds i true) s1 a' w' ω1 κ1 S1 ?_ ?_ (by rw [remL_set];exact q2) hA1 fun a'' w'' hs2=>hQ a'' w'' (hs2.trans k1 k2)
    ·rw [remL_set,List.length_erase_of_mem hmem];omega
    ·intro k ok hk hl e he hb
     by_cases hki:k=i
     ·subst hki
      rw [hoi] at hk;cases hk
      exact getD_set_true (hed e he hb)
     ·have:listed.getD k true=true:=by rw [getD_set_ne true (Ne.symm hki)] at hl;exact hl
      exact getD_set_true (hcl k ok hk this e he hb)
theorem region_sim {F:Fence} (hF:Fen F) (hm:P.follows .mixedOrders=true) {C:CallFn} (hC:CSound P C) {lo id:Nat} {ops:Array Oper} {draw:Bool} {as:List OpAnn} (hd:draw=true→drawOk ops as=true) {Q:Exit→Act→World→Prop} {s s':St} {a:Act}
  (h:execOps P C lo ops ops.toList as s=some s') (hA:ARel B N ω κ S w s a) (hQ:∀ a' w',Step B N ω κ S w s' a' w'→Q .normal a' w'):(Code.region id ops draw).wpIn F 0 P Q a w:=by
 cases draw with
 | false=>exact wpIn_region_list (list_sim hF hC ops.toList as s a w ω κ S h hA hQ)
 | true =>
   refine wpIn_region_any hm ?_
   have hw:HRel B ω κ S w.drew s.H:=hrel_drew hA.H
   have ev:=drew_ev ω S w
   have hA':ARel B N ω κ S w.drew s a:=⟨⟨hA.T.len,fun i u v hu hv=>(hA.T.rel i u v hu hv).mono (Ext.refl κ) ev.set,fun i u v hu hv=>(hA.T.own i u v hu hv).mono (Ext.refl κ) ev.set fun b hb=>⟨hb,rfl,fun _ h=>h⟩⟩,hw,hA.M.ev ev⟩
   have hr:=execOps_runI (P:=P) (C:=C) (lo:=lo) (as:=as) (ops:=ops) ops.toList 0 s (by simp)
   rw [List.drop_zero,h] at hr
   have hrem:remL ops.size (Array.replicate ops.size false)=List.range ops.size:=by
    simp only [remL]
    rw [List.filter_eq_self]
    intro i hi
    have hi:=List.mem_range.1 hi
    simp [Array.getD_eq_getD_getElem?,hi]
   refine any_sim hF hC (hd rfl) ops.size (Array.replicate ops.size false) s a w.drew ω κ S (by rw [hrem];simp) ?_ (by rw [hrem,List.range_eq_range',←Array.length_toList];exact hr.symm) hA' fun a' w' hs=>hQ a' w' (hs.trans (Ext.refl κ) ev)
   intro k o ho hl
   have hlt:=(Array.getElem?_eq_some_iff.1 ho).1
   simp [Array.getD_eq_getD_getElem?,hlt] at hl
end
end Go.Proofs.YtfakoboiahbhaaaGreat.Ab


namespace Go.Proofs.YtfakoboiahbhaaaGreat.Ab
open Go
section
variable {P:Program} {C:CallFn}
theorem execOp_low (hC:CSound P C) {lo:Nat} {o:Oper} {an:OpAnn} {s s':St} (h:Ab.execOp P C lo o an s=some s'):Low lo s.H s'.H:=by
 obtain ⟨r,H',hop,rfl⟩:=execOp_split h
 exact opAll_low hC hop
theorem execOps_low (hC:CSound P C) {lo:Nat} {ops:Array Oper}:∀ (l:List Oper) (as:List OpAnn) (s s':St),execOps P C lo ops l as s=some s'→Low lo s.H s'.H
 | [],as,s,s',h=>by simp only [execOps,Option.some.injEq] at h;subst h;exact Low.refl _ _
 | o::l,as,s,s',h=>by
   simp only [execOps] at h
   split at h
   ·simp only [Option.bind_eq_some_iff] at h
    obtain ⟨s1,h1,h2⟩:=h
    exact (execOp_low hC h1).trans (execOps_low hC l _ _ _ h2)
   ·have:=execOps_low hC l _ _ _ h;exact this
   ·simp at h
theorem keepSt_H (ks:List (Nat×List Bool)) (id:Nat) (s:St):(keepSt ks id s).H=s.H:=by
 unfold keepSt;split <;> rfl
theorem loopN_low {lo:Nat} {f:St→Option (Ex×St)} (hf:∀ s e s',f s=some (e,s')→Low lo s.H s'.H):∀ (n:Nat) (s:St) (e:Ex) (s':St),loopN f n s=some (e,s')→Low lo s.H s'.H
 | 0,s,e,s',h=>by simp [loopN] at h
 | n+1,s,e,s',h=>by
   simp only [loopN] at h
   split at h
   ·rename_i s1 h1
    exact (hf _ _ _ h1).trans (loopN_low hf n _ _ _ h)
   ·exact hf _ _ _ h
theorem exec_low (hC:CSound P C) {A:FAnn} {fn:FuncId} {lo d:Nat} {rl:Option Nat}:∀ (c:Code) (bid:Nat) (s:St) (e:Ex) (s':St),exec P A C fn lo d rl c bid s=some (e,s')→Low lo s.H s'.H:=by
 intro c
 induction c with
 | skip=>intro bid s e s' h;simp only [exec,Option.some.injEq,Prod.mk.injEq] at h;obtain ⟨_,rfl⟩:=h;exact Low.refl _ _
 | region id ops draw =>
   intro bid s e s' h
   simp only [exec,Option.map_eq_some_iff,Prod.mk.injEq] at h
   obtain ⟨s1,h,_,rfl⟩:=h
   have:=execOps_low hC _ _ _ _ h
   rwa [keepSt_H] at this
 | seq a b iha ihb =>
   intro bid s e s' h
   simp only [exec] at h
   split at h
   ·rename_i s1 h1
    exact (iha _ _ _ _ h1).trans (ihb _ _ _ _ h)
   ·exact iha _ _ _ _ h
 | cond c a b iha ihb =>
   intro bid s e s' h
   simp only [exec] at h
   split at h
   ·exact iha _ _ _ _ h
   ·exact ihb _ _ _ _ h
   ·simp at h
 | block id c ih =>
   intro bid s e s' h
   simp only [exec] at h
   split at h
   ·rename_i id' s1 h1
    split at h <;> simp only [Option.some.injEq,Prod.mk.injEq] at h <;> obtain ⟨_,rfl⟩:=h <;> exact ih _ _ _ _ h1
   ·exact ih _ _ _ _ h
 | loop c ih =>
   intro bid s e s' h
   simp only [exec] at h
   exact loopN_low (fun s e s' h=>by have:=ih _ _ _ _ h;rwa [keepSt_H] at this) _ _ _ _ h
 | exit id=>intro bid s e s' h;simp only [exec,Option.some.injEq,Prod.mk.injEq] at h;obtain ⟨_,rfl⟩:=h;exact Low.refl _ _
 | ret=>intro bid s e s' h;simp only [exec,Option.some.injEq,Prod.mk.injEq] at h;obtain ⟨_,rfl⟩:=h;exact Low.refl _ _
 | scope c ih=>intro bid s e s' h;simp only [exec] at h;exact ih _ _ _ _ h
 | label l=>intro bid s e s' h;simp only [exec,Option.some.injEq,Prod.mk.injEq] at h;obtain ⟨_,rfl⟩:=h;exact Low.refl _ _
 | goto l=>intro bid s e s' h;simp [exec] at h
 | refuse y=>intro bid s e s' h;simp [exec] at h
 | rangeFunc g ps a b iha ihb =>
   intro bid s e s' h
   simp only [exec] at h
   have key:∀ {H':List AObj} {r:AV} {tgt:Tgt} {args:List AV} {x:AObj},C tgt args (s.H++[x]) lo=some (r,H')→Low lo s.H (H'.set s.H.length .dead):=fun {H' r tgt args x} hc=>by
    have hl:=hC.low hc
    refine ⟨?_,fun id h1 h2=>?_⟩
    ·have:=hl.1;simp at this ⊢;omega
    ·rw [List.getElem?_set_ne (by omega),hl.2 id h1 (by simp;omega),List.getElem?_append_left h2]
   split at h
   ·split at h
    ·rename_i r H' hc
     split at h
     ·split at h
      ·simp at h
      ·split at h
       ·simp only [Option.some.injEq,Prod.mk.injEq] at h;obtain ⟨_,rfl⟩:=h;exact key hc
       ·simp only [Option.some.injEq,Prod.mk.injEq] at h;obtain ⟨_,rfl⟩:=h;exact key hc
       ·simp only [Option.some.injEq,Prod.mk.injEq] at h;obtain ⟨_,rfl⟩:=h;exact key hc
       ·simp at h
     ·simp at h
    ·simp at h
   ·simp at h
end
section
variable {P:Program} {F:Fence} {n:Nat} {b:Frame} {a:Act} {k:List Item} {cs:List Frame} {w:World} {Q:Exit→Act→World→Prop}
theorem stepR_scope {c:Code}:step P (lone (b.atR a (.code (.scope c)::k)) cs w)=.next (lone (b.atR a (.code c::.inScope c::k)) cs w) :=
 step_lone_go (by simp [stepG,stepG.exec,Frame.atR])
theorem stepR_inScope {c:Code}:step P (lone (b.atR a (.inScope c::k)) cs w)=.next (lone (b.atR a k) cs w) :=
 step_lone_go (by simp [stepG,stepG.exec,Frame.atR])
theorem wpIn_scope {c:Code} (h:c.wpIn F n P Q a w) (hg:∀ l a w,¬ Q (.goto l) a w):(Code.scope c).wpIn F n P Q a w:=by
 intro b k cs hro hb hr
 have h0:(lone (b.atR a (.code (.scope c)::k)) cs w).fenced P F:=fenced_calm hb hr rfl
 obtain ⟨e,a₁,w₁,hq,harr⟩:=h b (.inScope c::k) cs hro hb hr
 have hx:∀ id,exitTo id (.inScope c::k)=exitTo id k:=fun id=>by simp [exitTo]
 cases e with
 | normal=>exact ⟨.normal,a₁,w₁,hq,.head h0 stepR_scope (StepsIn.trans harr (.one (fenced_calm hb hr rfl) stepR_inScope))⟩
 | exit id =>
   exact ⟨.exit id,a₁,w₁,hq,fun k' hk=>.head h0 stepR_scope (harr.1 k' (by rw [hx];exact hk)),
    fun hr' hk=>let ⟨k₁,h1,h2⟩:=harr.2 hr' (by rw [hx];exact hk);⟨k₁,h1,.head h0 stepR_scope h2⟩⟩
 | goto l=>exact absurd hq (hg l a₁ w₁)
 | ret=>exact ⟨_,a₁,w₁,hq,.of_steps (.one h0 stepR_scope) harr⟩
 | panic ch=>exact ⟨_,a₁,w₁,hq,.of_steps (.one h0 stepR_scope) harr⟩
 | outgrown=>exact ⟨_,a₁,w₁,hq,.of_steps (.one h0 stepR_scope) harr⟩
end
end Go.Proofs.YtfakoboiahbhaaaGreat.Ab


namespace Go.Proofs.YtfakoboiahbhaaaGreat.Ab
open Go
section
variable {P:Program} {B N:Nat} {κ:List Nat} {w:World} {H:List AObj} {ω:Nat→Option Lab} {S:Nat→Nat→Prop}
theorem settle_both:∀ (T:List AV) (tm:List Value) (lab:Nat→Lab) (S:Nat→Nat→Prop),(∀ i j,lab i=lab j→i=j)→(∀ i id,lab i≠.obj id)→(∀ i id j,lab i≠.cell id j) →
  VRel lab ω κ S w T tm→HRel B ω κ S w H →
  ∃ S':Nat→Nat→Prop,(∀ b o,S b o→S' b o)∧(∀ b o,S' b o→S b o∨∃ i,ω b=some (lab i))∧HRel B ω κ S' w H∧VRel lab ω κ S' w (T.map AV.settle) tm∧VRel lab ω κ S' w (T.map AV.view) tm:=by
 intro T
 induction T with
 | nil=>intro tm lab S _ _ _ hv hH;exact ⟨S,fun _ _ h=>h,fun _ _ h=>.inl h,hH,by simpa using hv,by simpa using hv⟩
 | cons u T ih =>
   intro tm lab S hj n1 n2 hv hH
   obtain ⟨v,tm',rfl,hr,ho,ht⟩:=hv.uncons
   have first:∃ S1:Nat→Nat→Prop,(∀ b o,S b o→S1 b o)∧(∀ b o,S1 b o→S b o∨ω b=some (lab 0))∧HRel B ω κ S1 w H∧Rel κ S1 w u.view v∧Rel κ S1 w u.settle v∧OwnAt ω κ S1 w (lab 0) u.settle v:=by
    by_cases hu:u.noUniq=true
    ·have hs:u.settle=u:=by
      cases u <;> try rfl
      rename_i c n k;cases k <;> first | rfl | simp [AV.noUniq] at hu
     exact ⟨S,fun _ _ h=>h,fun _ _ h=>.inl h,hH,hr.view hu,by rw [hs];exact hr,by rw [hs];exact ho⟩
    ·obtain ⟨cells,len,z,rfl⟩:∃ cells len z,u=.lst cells len (.uniq z):=by
      unfold AV.noUniq at hu;split at hu
      ·exact ⟨_,_,_,rfl⟩
      ·simp at hu
     obtain ⟨S1,k1,k2,k3,r1,r2,r3⟩:=settle_main hH hr ho
     exact ⟨S1,k1,k2,hH.settle k1 (fun b o h=>(k2 b o h).imp id fun h=>⟨_,h,n1 0,n2 0⟩) k3,r1,r2,r3⟩
   obtain ⟨S1,k1,k2,hH1,hr1,hr2,ho2⟩:=first
   have ht1:VRel (fun i=>lab (i+1)) ω κ S1 w T tm':=by
    refine ⟨ht.len,fun i u' v' hu hv=>(ht.rel i u' v' hu hv).mono (Ext.refl κ) fun b o hs=>⟨k1 b o hs,rfl⟩,fun i u' v' hu hv=>?_⟩
    refine (ht.own i u' v' hu hv).mono (Ext.refl κ) (fun b o hs=>⟨k1 b o hs,rfl⟩) fun b hb=>⟨hb,rfl,fun o hs=>?_⟩
    rcases k2 b o hs with h | h
    ·exact h
    ·rw [hb] at h;injection h with h;exact absurd (hj _ _ h) (by omega)
   obtain ⟨S',j1,j2,hH',hv1,hv2⟩:=ih tm' (fun i=>lab (i+1)) S1 (fun i j h=>by have:=hj _ _ h;omega) (fun i=>n1 (i+1)) (fun i=>n2 (i+1)) ht1 hH1
   have hS:∀ b o,S1 b o→S' b o∧w.cell? ⟨b,o,none⟩=w.cell? ⟨b,o,none⟩:=fun b o hs=>⟨j1 b o hs,rfl⟩
   refine ⟨S',fun b o h=>j1 b o (k1 b o h),fun b o h=>?_,hH',?_,?_⟩
   ·rcases j2 b o h with h | ⟨i,h⟩
    ·exact (k2 b o h).imp id fun h=>⟨0,h⟩
    ·exact .inr ⟨i+1,h⟩
   ·refine VRel.cons (hr2.mono (Ext.refl κ) hS) (ho2.mono (Ext.refl κ) hS fun b hb=>⟨hb,rfl,fun o h=>?_⟩) hv1
    rcases j2 b o h with h | ⟨i,h⟩
    ·exact h
    ·rw [hb] at h;injection h with h;exact absurd (hj _ _ h) (by omega)
   ·exact VRel.cons (hr1.mono (Ext.refl κ) hS) (OwnAt.of_plain (AV.view_plain _)) hv2
theorem ev_alloc0 (hH:HRel B ω κ S w H) (o:Obj):Ev ω S w ω S (w.alloc o) :=
 ⟨rfl,rfl,rfl,by simp,fun b hb _=>heap_alloc_old w o b hb,fun b o' hs=>⟨hs,by obtain ⟨v,hv⟩:=hH.swf b o' hs;exact cell_alloc o (lt_of_cell hv)⟩,fun _ _ hs=>.inl hs,fun _ hb=>.inl hb⟩
theorem hrel_alloc0 (hH:HRel B ω κ S w H) (o:Obj):HRel B ω κ S (w.alloc o) H:=by
 have ev:=ev_alloc0 hH o
 refine hH.frame ev (fun b l hb _=>⟨hb,heap_alloc_old w o b (hH.base b l hb).2,fun _ h=>h⟩) (fun b o' hs=>?_) fun b l hb=>?_
 ·obtain ⟨v,hv⟩:=hH.swf b o' hs
  exact ⟨v,((ev.set b o' hs).2).trans hv⟩
 ·have:=hH.base b l hb;exact ⟨this.1,by simp;omega⟩
theorem loop_put (hH:HRel B ω κ S w H) {id b:Nat} {L:Loop} (hω:ω b=some (.obj id)) (hL:w.heap[b]?=some (.loop L)) (L':Loop) :
  Ev ω S w ω S (w.putObj b (.loop L'))∧HRel B ω κ S (w.putObj b (.loop L')) (H.set id .dead)∧(w.putObj b (.loop L')).heap[b]?=some (.loop L'):=by
 have hb:b<w.heap.size:=(Array.getElem?_eq_some_iff.1 hL).1
 have hsz:(w.putObj b (.loop L')).heap.size=w.heap.size:=by simp [World.putObj]
 have hother:∀ b',b'≠b→(w.putObj b (.loop L')).heap[b']?=w.heap[b']?:=fun b' h=>World.putObj_heap_other h
 have hne:∀ b' o,S b' o→b'≠b:=fun b' o hs e=>by
  subst e
  obtain ⟨v,hv⟩:=hH.swf b' o hs
  simp [World.cell?,hL] at hv
 have hcell:∀ b' o,b'≠b→(w.putObj b (.loop L')).cell? ⟨b',o,none⟩=w.cell? ⟨b',o,none⟩:=fun b' o h=>by
  simp only [World.cell?,hother b' h]
 have ev:Ev ω S w ω S (w.putObj b (.loop L')):=by
  refine ⟨rfl,rfl,rfl,by omega,fun b' hb' hn=>hother b' (fun e=>by subst e;rw [hω] at hn;cases hn),fun b' o hs=>⟨hs,hcell b' o (hne b' o hs)⟩,fun _ _ h=>.inl h,fun _ h=>.inl h⟩
 refine ⟨ev,⟨by simpa using hH.klen,fun id' o ho=>?_,fun b' o hs=>?_,fun b' l hb'=>?_,by rw [hsz];exact hH.bsz⟩,World.putObj_heap_same hb⟩
 ·by_cases hii:id'=id
  ·subst hii
   have hlt:id'<H.length:=by have:=(List.getElem?_eq_some_iff.1 ho).1;simpa using this
   rw [List.getElem?_set_self hlt] at ho
   cases ho;trivial
  ·rw [List.getElem?_set_ne (Ne.symm hii)] at ho
   refine (hH.obj id' o ho).frame (Ext.refl κ) ev.set fun b' l hb' hl=>⟨hb',hother b' (fun e=>?_),fun _ h=>h⟩
   subst e
   rw [hω] at hb';cases hb'
   rcases hl with h | ⟨j,h⟩
   ·cases h;exact hii rfl
   ·cases h
 ·obtain ⟨v,hv⟩:=hH.swf b' o hs
  exact ⟨v,(hcell b' o (hne b' o hs)).trans hv⟩
 ·rw [hsz];exact hH.base b' l hb'
theorem loop_state (hH:HRel B ω κ S w H) {id b:Nat} {L:Loop} {st:LoopState} {pend:Option Code} {fn:FuncId} {T:List AV} {ps:List Nat} {as bd:Code} {an:FAnn}
  (hid:H[id]?=some (.loop st pend fn T ps as bd an)) (hb:κ[id]?=some b) (hL:w.heap[b]?=some (.loop L)) (st':LoopState) (pend':Option Code) :
  Ev ω S w ω S (w.putObj b (.loop { L with state:=st',pending:=pend' }))∧HRel B ω κ S (w.putObj b (.loop { L with state:=st',pending:=pend' })) (H.set id (.loop st' pend' fn T ps as bd an)) ∧
   (w.putObj b (.loop { L with state:=st',pending:=pend' })).heap[b]?=some (.loop { L with state:=st',pending:=pend' }):=by
 obtain ⟨x1,x2,b',L0,a1,a2,a3,a4,a5,a6,a7,a8,a9⟩:=hH.obj id _ hid
 rw [hb] at a1;cases a1
 rw [hL] at a3;cases a3
 obtain ⟨ev,hH',hget⟩:=loop_put hH a2 hL { L with state:=st',pending:=pend' }
 refine ⟨ev,⟨by simpa using hH'.klen,fun id' o ho=>?_,hH'.swf,hH'.base,hH'.bsz⟩,hget⟩
 by_cases hii:id'=id
 ·subst hii
  rw [List.getElem?_set_self (List.getElem?_eq_some_iff.1 hid).1] at ho
  cases ho
  exact ⟨x1,x2,b,_,hb,a2,hget,rfl,rfl,trivial,a7,fun i u v hu hv=>⟨(a8 i u v hu hv).1,(a8 i u v hu hv).2.mono (Ext.refl κ) ev.set⟩,a9⟩
 ·refine hH'.obj id' o ?_
  rw [List.getElem?_set_ne (Ne.symm hii)] at ho ⊢
  exact ho
end
end Go.Proofs.YtfakoboiahbhaaaGreat.Ab
