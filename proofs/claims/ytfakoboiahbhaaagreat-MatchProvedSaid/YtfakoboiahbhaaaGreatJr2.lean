
import Derived.Test.YtfakoboiahbhaaaGreatJr1
import Derived.RangeFuncRecord
import Derived.MapKept
import Derived.RangeFuncLeaves
import Derived.RangeFuncCalls
import Derived.RangeFuncNested
import Derived.TacticsIn
set_option linter.unusedSimpArgs false
set_option linter.unusedVariables false
set_option linter.unusedSectionVars false

open Array renaming getD_eq_getD_getElem?→sO,getElem?_eq_getElem→sT,getElem?_eq_none→wm,getElem?_eq_some_iff→tp,getElem?_toList→vp,length_toList→tU,toArray_toList→uR,toList_map→vQ,toList_setIfInBounds→wx
open Bool renaming and_eq_true→sM,false_eq_true→ub,or_eq_true→tX
open List renaming all_eq_true→sS,append_assoc→sD,drop_zero→tb,eq_nil_iff_forall_not_mem→u_,ext_getElem?→ud,getD_eq_getElem?_getD→sV,getElem?_append_left→sR,getElem?_append_right→sZ,getElem?_cons_succ→vN,getElem?_cons_zero→uS,getElem?_drop→tq,getElem?_eq_getElem→sI,getElem?_eq_none→tQ,getElem?_eq_some_iff→ss,getElem?_map→sN,getElem?_set_ne→sG,getElem?_set_self→sE,getElem?_take→th,getElem?_toArray→we,getElem?_zip_eq_some→wk,length_cons→sP,length_drop→uq,length_eq_zero_iff→tt,map_drop→uT,map_fst_zip→wj,map_set→u7,map_take→uI,mem_cons→sH,mem_cons_of_mem→uw,mem_filter→s_,mem_iff_getElem?→tV,mem_map→sJ,mem_of_getElem?→sY,mem_range→sX,pairwise_cons→tD,set_set→td,take_of_length_le→ui
open Nat renaming le_refl→sx,le_trans→sW,lt_of_lt_of_le→vo,lt_or_ge→tg,mul_le_mul_right→tP,sub_zero→wq,zero_add→tc
open Option renaming bind_eq_some_iff→sC,bind_some→sq,getD_some→u6,map_eq_some_iff→sr,map_some→sB
namespace Go.Proofs.YtfakoboiahbhaaaGreat.Ab
open Go
section
variable {P:Program} {B:Nat} {J:List Nat} {w:World} {H:List au} {U:Nat→Option aI} {S:Nat→Nat→Prop}
def eD (P:Program) (aT:Operand→Value) (o:Oper) (w:World) (R:Value→World→Prop):Prop :=
 (∃ v w',(Go.execOp aT o).run P w=.ok (.value v) w'∧R v w')∨(∃ w',(Go.execOp aT o).run P w=.ok .skip w'∧R undef w')
theorem eD.makes {aT:Operand→Value} {o:Oper} {r:I} (ah:aL B U J S w H) (h:e9 P o aT J S w r) (aC:r.plain=true):eD P aT o w (a3 B U J S w H r):=by
 obtain ⟨v,ad,af⟩:=h;exact .inl ⟨v,w,ad,a3.same ah af aC⟩
theorem a'.one {bC:Nat→aI} {us:List I} {aT:Operand→Value} {x:Operand} (h:a' bC U J S w us ([x].map aT)):∃ u,us=[u]∧Rel J S w u (aT x)∧aW U J S w (bC 0) u (aT x):=by
 match us,h with
 | [u],h=>exact ⟨u,rfl,h.rel 0 u _ rfl rfl,h.own 0 u _ rfl rfl⟩
 | [],h=>exact absurd h.len (by simp)
 | _::_::_,h=>exact absurd h.len (by simp)
theorem a'.two {bC:Nat→aI} {us:List I} {aT:Operand→Value} {x y:Operand} (h:a' bC U J S w us ([x,y].map aT)) :
  ∃ u v,us=[u,v]∧Rel J S w u (aT x)∧aW U J S w (bC 0) u (aT x)∧Rel J S w v (aT y)∧aW U J S w (bC 1) v (aT y):=by
 match us,h with
 | [u,v],h=>exact ⟨u,v,rfl,h.rel 0 u _ rfl rfl,h.own 0 u _ rfl rfl,h.rel 1 v _ rfl rfl,h.own 1 v _ rfl rfl⟩
 | [],h=>exact absurd h.len (by simp)
 | [_],h=>exact absurd h.len (by simp)
 | _::_::_::_,h=>exact absurd h.len (by simp)
theorem Br {op:BinOp} {k:IntKind} {a b:Int} {r:I} (h:jx op k a b=some r):r.plain=true:=by
 cases op <;> simp [jx] at h <;> first | (subst h;rfl) | (obtain ⟨_,rfl⟩:=h;rfl)
theorem Bt {op:BinOp} {t:TypeId} {x y r:I} (h:fp P op t x y=some r):r.plain=true:=by
 unfold fp at h;split at h
 ·split at h
  ·unfold hv at h;split at h <;> simp at h;subst h;rfl
  ·unfold hv at h;split at h <;> simp at h;subst h;rfl
  ·split at h
   ·exact Br h
   ·simp at h
 ·split at h <;> simp at h <;> subst h <;> rfl
 ·split at h
  ·split at h
   ·split at h
    ·split at h
     ·simp only [sr] at h;obtain ⟨_,_,rfl⟩:=h;rfl
     ·simp only [sr] at h;obtain ⟨_,_,rfl⟩:=h;rfl
     ·simp at h
    ·simp at h
   ·simp at h
  ·split at h
   ·split at h
    ·simp only [sr] at h;obtain ⟨_,_,rfl⟩:=h;rfl
    ·simp only [sr] at h;obtain ⟨_,_,rfl⟩:=h;rfl
    ·simp at h
   ·simp at h
  ·simp at h
 ·simp at h
theorem Bv {t:TypeId} {x y r:I} (h:h1 P t x y=some r):r.plain=true:=by
 unfold h1 at h;split at h <;> simp only [sC,sr,reduceCtorEq] at h <;> (try (obtain ⟨_,_,_,_,rfl⟩:=h;rfl))
theorem Bu {t:TypeId} {x r:I} {f:Nat} (h:jy P t x f=some r):r.plain=true:=by
 unfold jy at h;split at h <;> simp only [sC,reduceCtorEq] at h <;> (try (obtain ⟨_,_,_,_,h⟩:=h;split at h <;> simp at h;subst h;rfl))
theorem xn {o:Oper} (h:∀ c,o.op≠.call c):opsOf o=o.op.operands.toList:=by
 unfold opsOf;split
 ·rename_i heq;exact absurd heq (h _)
 ·rename_i heq;exact absurd heq (h _)
 ·rfl
theorem Fw {aT:Operand→Value} (eR:∀ v,aT (.const v)=v) {o:Oper} {us:List I} {r:I} (ah:aL B U J S w H) (h:cA P o us=some r) (c2:dS o=false)
  (aC:∀ u∈us,u.plain=true) (ae:a' (fun i=>.arg i) U J S w us ((opsOf o).map aT)):eD P aT o w (a3 B U J S w H r):=by
 cases aD:o.op <;> simp only [cA,aD,reduceCtorEq] at h <;> rw [xn (by simp [aD])] at ae <;> (try (simp [dS,aD] at c2;done))
 case pick c a b =>
  replace ae:a' (fun i=>.arg i) U J S w us ([c,a,b].map aT):=by simpa [aD,Op.operands] using ae
  unfold xm at h;split at h
  ·rename_i x fy gn;have r1:=ae.rel 0 _ _ rfl rfl;have r2:=ae.rel 1 _ _ rfl rfl;have eJ:=ae.rel 2 _ _ rfl rfl;cases x
   ·cases h;exact eD.makes ah (zx aD r1 r2 eJ) (aC gn (by simp))
   ·cases h;exact eD.makes ah (zx aD r1 r2 eJ) (aC fy (by simp))
  ·simp at h
 case build t parts =>
  have ae:a' (fun i=>.arg i) U J S w us ((parts.toList.map (·.2)).map aT):=by simpa [aD,Op.operands] using ae
  have hlen:us.length=parts.toList.length:=by simpa using ae.len
  obtain ⟨v,aV,aX,cB⟩:=Fb (J:=J) (S:=S) (w:=w) (parts':=parts.map fun (x:Nat×Operand)=>(x.1,aT x.2)) h (by simp [fz,wj,hlen]) (fun j x y al a2=>by
   simp only [fz,wk] at al;obtain ⟨y9,iX⟩:=al;simp only [vQ,sN,sr] at a2;obtain ⟨p,jT,rfl⟩:=a2
   exact ⟨aC _ (sY iX),ae.rel j _ _ iX (by simp only [sN,jT,sB])⟩)
  exact .inl ⟨v,w,by simp [Go.execOp,aD,aV],a3.same ah aX cB⟩
 case buildSlice t len parts =>
  have ae:a' (fun i=>.arg i) U J S w us ((parts.toList.map (·.2)).map aT):=by simpa [aD,Op.operands] using ae
  have hlen:us.length=parts.toList.length:=by simpa using ae.len
  simp only [sr] at h;obtain ⟨⟨cs,s⟩,h,rfl⟩:=h
  obtain ⟨_,w',aV,aX⟩:=AX (parts':=parts.map fun (x:Nat×Operand)=>(x.1,aT x.2)) ah h (by simp [fz,wj,hlen]) (fun j x y al a2=>by
   simp only [fz,wk] at al;obtain ⟨y9,iX⟩:=al;simp only [vQ,sN,sr] at a2;obtain ⟨p,jT,rfl⟩:=a2
   exact ⟨aC _ (sY iX),ae.rel j _ _ iX (by simp only [sN,jT,sB])⟩)
  exact .inl ⟨_,w',by simp [Go.execOp,aD,aV],aX⟩
 case nilCheck x =>
  obtain ⟨u,rfl,r1,_⟩:=a'.one (x:=x) (by simpa [aD,Op.operands] using ae);unfold n0 at h;split at h
  ·rename_i id off heq;simp at heq;subst heq;cases h;exact eD.makes ah (DR aD r1) rfl
  ·rename_i cells heq;simp at heq;subst heq;cases h;exact eD.makes ah (DS aD r1) rfl
  ·simp at h
 case unOp op t x =>
  obtain ⟨u,rfl,r1,_⟩:=a'.one (x:=x) (by simpa [aD,Op.operands] using ae);simp only [e4] at h;refine eD.makes ah (DT aD h r1) ?_;unfold km at h;split at h <;> (try split at h) <;> simp at h <;> subst h <;> rfl
 case convert s d x =>
  obtain ⟨u,rfl,r1,_⟩:=a'.one (x:=x) (by simpa [aD,Op.operands] using ae);simp only [e4] at h;refine eD.makes ah (DJ aD h r1) ?_;unfold lA at h;split at h
  ·split at h
   ·simp at h;subst h;rfl
   ·simp at h
  ·simp at h
 case makeFunc fn first captured =>
  refine eD.makes ah (DO aD h (by simpa [aD,Op.operands] using ae) aC) ?_;unfold mJ at h;split at h
  ·split at h <;> simp at h;subst h;rfl
  ·simp at h
 case fieldAddr t x f =>
  obtain ⟨u,rfl,r1,_⟩:=a'.one (x:=x) (by simpa [aD,Op.operands] using ae);simp only [e4] at h;exact eD.makes ah (DN aD h r1) (Bu h)
 case field t x f =>
  obtain ⟨u,rfl,r1,_⟩:=a'.one (x:=x) (by simpa [aD,Op.operands] using ae);simp only [e4,sr] at h;obtain ⟨r',h,rfl⟩:=h;exact eD.makes ah (DM aD h r1) (I.dk _)
 case extract x i =>
  obtain ⟨u,rfl,r1,_⟩:=a'.one (x:=x) (by simpa [aD,Op.operands] using ae);simp only [e4,sr] at h;obtain ⟨r',h,rfl⟩:=h;exact eD.makes ah (DL aD h r1) (I.dk _)
 case indexAddr t x i =>
  obtain ⟨u,v,rfl,r1,_,r2,_⟩:=a'.two (x:=x) (y:=i) (by simpa [aD,Op.operands] using ae);simp only [gg] at h;exact eD.makes ah (DQ aD h r1 r2 (I.gh (aC u (by simp)))) (Bv h)
 case index t x i =>
  obtain ⟨u,v,rfl,r1,_,r2,_⟩:=a'.two (x:=x) (y:=i) (by simpa [aD,Op.operands] using ae);simp only [gg,sr] at h;obtain ⟨r',h,rfl⟩:=h;exact eD.makes ah (DP aD h r1 r2) (I.dk _)
 case binOp op t x y iA =>
  obtain ⟨u,v,rfl,r1,_,r2,_⟩:=a'.two (x:=x) (y:=y) (by simpa [aD,Op.operands] using ae);split at h
  ·rename_i CU;refine eD.makes ah (DK aD CU h r1 eR) ?_;unfold m5 at h;dsimp only at h;repeat' split at h
   all_goals first | (simp at h;done) | (simp at h;subst h;rfl)
  ·simp only [gg] at h;refine eD.makes ah ?_ (Bt h);cases u <;> cases v <;> (try (simp [fp] at h;done))
   ·exact DH aD h r1 r2
   ·exact DI aD h r1 r2
   ·exact DG aD h r1 r2
theorem Em {cells:List I} {len:Nat} {a:Option Addr} (h:Rel J S w (.ay cells len .shared) (.slice a len len)):Rel J S w (.ay cells len .full) (.slice a len len):=by
 cases h with
 | b3 _ a=>exact .b3 _ _
 | ay _ _ _ b o cap f ao hle hu bz b'=>exact .ay _ _ _ b o len f (fun _=>rfl) hle (fun z h=>by cases h) bz b'
theorem Fc {aT:Operand→Value} (eR:∀ v,aT (.const v)=v) {o:Oper} {us:List I} {t:TypeId} {len:Nat} {parts:Array (Nat×Operand)} {cs:List I} {s:Nat} (ah:aL B U J S w H) (aD:o.op=.buildSlice t len parts)
  (h:iG P t len (fz parts.toList us)=some (cs,s)) (aC:∀ u∈us,u.plain=true) (ae:a' (fun i=>.arg i) U J S w us ((opsOf o).map aT)) :
  ∃ v w',(Go.execOp aT o).run P w=.ok (.value v) w'∧a3 B U J S w H (.ay cs len .full) v w':=by
 rw [xn (by simp [aD])] at ae;have ae:a' (fun i=>.arg i) U J S w us ((parts.toList.map (·.2)).map aT):=by simpa [aD,Op.operands] using ae
 have hlen:us.length=parts.toList.length:=by simpa using ae.len
 obtain ⟨b,w',aV,az,b1,S',bT,b6,eI,fR,mK⟩:=AX (parts':=parts.map fun (x:Nat×Operand)=>(x.1,aT x.2)) ah h (by simp [fz,wj,hlen]) (fun j x y al a2=>by
  simp only [fz,wk] at al;obtain ⟨y9,iX⟩:=al;simp only [vQ,sN,sr] at a2;obtain ⟨p,jT,rfl⟩:=a2
  exact ⟨aC _ (sY iX),ae.rel j _ _ iX (by simp only [sN,jT,sB])⟩)
 obtain ⟨a6,aJ,aP,cl,r1,_,_⟩:=ke eI fR mK
 exact ⟨_,w',by simp [Go.execOp,aD,aV],az,b1,a6,bT,b6.trans (bk.settle aJ fun b o h=>(aP b o h).imp id fun h=>⟨_,h⟩),
  eI.settle aJ (fun b o h=>(aP b o h).imp id fun h=>⟨_,h,by simp,by simp⟩) cl,Em r1,aW.b5 rfl⟩
end
end Go.Proofs.YtfakoboiahbhaaaGreat.Ab


namespace Go.Proofs.YtfakoboiahbhaaaGreat.Ab
open Go
section
variable {P:Program} {B:Nat} {J:List Nat} {w:World} {H:List au} {U:Nat→Option aI} {S:Nat→Nat→Prop}
theorem n2 {b ar o:Nat} {x:Obj} (h:ar≠b):(w.putObj b x).cell? ⟨ar,o,none⟩=w.cell? ⟨ar,o,none⟩:=by
 unfold World.cell?;simp only [World.putObj_heap_other h]
theorem nS (ah:aL B U J S w H) {id:Nat} {es es':List (Nat×I×I)} {clock clock':Nat} (aE:H[id]?=some (.map es clock)) {b:Nat} {ents':Array MapEntry}
  (aB:J[id]?=some b) (aH:U b=some (.obj id)) (bf:∀ o,¬ S b o) (ak:ents'.size=es'.length)
  (aj:∀ (j i:Nat) (k v:I) (x:MapEntry),es'[j]?=some (i,k,v)→ents'[j]?=some x→x.born=i∧k.plain=true∧Rel J S w k x.key∧v.plain=true∧Rel J S w v x.val) :
  bk U S w U S (w.putObj b (.map ents' clock'))∧aL B U J S (w.putObj b (.map ents' clock')) (H.set id (.map es' clock')):=by
 have hA:∀ ar o,S ar o→ar≠b:=fun ar o ai e=>bf o (e ▸ ai);have ag:=(ah.base b _ aH).2;have aA:bk U S w U S (w.putObj b (.map ents' clock')) :=
  ⟨rfl,rfl,rfl,by simp,fun ar _ aN=>World.putObj_heap_other (fun e=>by subst e;rw [aH] at aN;cases aN),fun ar o ai=>⟨ai,n2 (hA ar o ai)⟩,fun ar o ai=>.inl ai,fun ar h=>.inl h⟩
 refine ⟨aA,by simpa using ah.cH,fun bB o aq=>?_,fun ar o ai=>?_,fun ar l h=>by simpa using ah.base ar l h,by simpa using ah.c1⟩
 ·by_cases g4:bB=id
  ·subst g4;rw [sE (ss.1 aE).1] at aq;cases aq;refine ⟨b,ents',aB,aH,World.putObj_heap_same ag,ak,bf,fun j i k v x hu al=>?_⟩;obtain ⟨bc,bn,bu,b9,d'⟩:=aj j i k v x hu al;exact ⟨bc,bn,bu.mono (Ext.refl J) aA.set,b9,d'.mono (Ext.refl J) aA.set⟩
  ·rw [sG (fun e=>g4 e.symm)] at aq;refine (ah.obj bB o aq).frame (Ext.refl J) aA.set fun ar cx bt jO=>?_;have bO:ar≠b:=fun e=>by
    subst e;rw [aH] at bt;cases bt;rcases jO with h | ⟨j,h⟩
    ·cases h;exact g4 rfl
    ·cases h
   exact ⟨bt,World.putObj_heap_other bO,fun o ai=>ai⟩
 ·obtain ⟨v,ae⟩:=ah.ch ar o ai;exact ⟨v,(n2 (hA ar o ai)).trans ae⟩
theorem yp:∀ {xs ys:List I},dP xs ys=some true→xs=ys∧∀ u∈xs,∃ k a,u=.int k a
 | [],[],_=>⟨rfl,by simp⟩
 | x::xs,y::ys,h=>by
   obtain ⟨k,a,b,cP,rfl,rfl,aY,he⟩:=nh h;have he:=he.symm;simp only [sM,beq_iff_eq] at he;obtain ⟨rfl,rfl⟩:=he;obtain ⟨rfl,af⟩:=yp aY
   exact ⟨rfl,fun u hu=>by
    rcases sH.1 hu with rfl | hu
    ·exact ⟨_,_,rfl⟩
    ·exact af u hu⟩
 | [],y::ys,h=>by simp [dP] at h
 | x::xs,[],h=>by cases x <;> simp [dP] at h
theorem AO (n:Nat):∀ (l:List Value),(∀ v∈l,∃ k a,v=.int k a)→((l.zip l).all fun (x:Value×Value)=>Instr.sameBits n x.1 x.2)=true
 | [],_=>rfl
 | v::l,h=>by
   obtain ⟨k,a,rfl⟩:=h v (by simp);have bb:=AO n l fun v ae=>h v (by simp [ae]);(have aS:Instr.sameBits n (.int k a) (.int k a)=true:=by cases n <;> simp [Instr.sameBits]);simp only [List.zip_cons_cons,List.all_cons,aS,Bool.true_and];exact bb
theorem En {xs:List I} {V W:Array Value} (hi:∀ u∈xs,∃ k a,u=.int k a) (r1:Rel J S w (.agg xs) (.agg V)) (r2:Rel J S w (.agg xs) (.agg W)):V=W∧∀ v∈V.toList,∃ k a,v=.int k a:=by
 cases r1 with
 | agg _ _ dO _ _ aV =>
   cases r2 with
   | agg _ _ kS _ _ aX =>
     have key:∀ j (h:j<xs.length),∃ k a,V[j]?=some (.int k a)∧W[j]?=some (.int k a):=fun j h=>by
      obtain ⟨k,a,av⟩:=hi xs[j] (List.getElem_mem h);(have al:xs[j]?=some (.int k a):=by rw [sI h,av]);have ae:=aV j _ V[j] al (sT (by omega));have hw:=aX j _ W[j] al (sT (by omega));exact ⟨k,a,by rw [sT (by omega),ae.df],by rw [sT (by omega),hw.df]⟩
     refine ⟨Array.ext_getElem? fun j=>?_,fun v ae=>?_⟩
     ·rcases tg j xs.length with h | h
      ·obtain ⟨k,a,ad,af⟩:=key j h;rw [ad,af]
      ·rw [wm (by omega),wm (by omega)]
     ·obtain ⟨j,aw⟩:=tV.1 ae;(have aU:j<xs.length:=by have:=(ss.1 aw).1;simp at this;omega);obtain ⟨k,a,ad,_⟩:=key j aU;rw [vp,ad] at aw;cases aw;exact ⟨k,a,rfl⟩
theorem Dn {k k':I} {x y:Value} (h:gF k k'=some true) (r1:Rel J S w k x) (r2:Rel J S w k' y):(Instr.keyThatStays y x).run P w=.ok x w:=by
 have ag:Instr.sameBits 10000 y x=true:=by
  unfold gF at h;split at h
  ·split at h
   ·rename_i q a fT b a5;subst a5;simp at h;subst h;rw [r1.df,r2.df];simp [Instr.sameBits]
   ·simp at h
  ·obtain ⟨rfl,hi⟩:=yp h;(have e1:∃ V,x=.agg V:=by cases r1 with | agg as vs=>exact ⟨_,rfl⟩);(have cm:∃ V,y=.agg V:=by cases r2 with | agg as vs=>exact ⟨_,rfl⟩);obtain ⟨V,rfl⟩:=e1;obtain ⟨W,rfl⟩:=cm;obtain ⟨rfl,db⟩:=En hi r1 r2;have:=AO 9999 V.toList db;rw [show (10000:Nat)=9999+1 from rfl,Instr.sameBits];simpa using this
  ·simp at h
 simp [Instr.keyThatStays,ag]
theorem zg {t:TypeId} (h:kR P t=true):(∃ k,P.underlying t=some (.int k))∨∃ bH,P.underlying t=some (.struct bH)∧gJ P bH.toList 0=true∧P.stoodInHeld t=false:=by
 unfold kR at h;split at h
 ·exact .inl ⟨_,by assumption⟩
 ·rename_i bH Cv;simp at h;exact .inr ⟨bH,Cv,h.1,h.2⟩
 ·simp at h
theorem AF (em:Bool) (d:Nat) (V:Array Value):∀ (bH:List Field) (off:Nat),gJ P bH off=true→off+bH.length≤V.size →
  (forIn bH PUnit.unit (fun f (_ : PUnit) => if f.name = "_" then pure (ForInStep.yield PUnit.unit) else (do
    let a ←part f.type V f.offset
    (fun _=>ForInStep.yield PUnit.unit) <$> Instr.checkKey em (d+1) f.type a:Sem (ForInStep PUnit)))).run P w=.ok PUnit.unit w
 | [],off,_,_=>by simp
 | f::bH,off,h,ak=>by
   obtain ⟨f1,f2,⟨dg,f3⟩,f4,f5,f6⟩:=y' h;simp only [sP] at ak;have jH:V[off]?=some V[off]:=sT (by omega);(have aV:(part f.type V f.offset).run P w=.ok V[off] w:=by simp only [part,Sem.run_bind,gP f3,f5,Result.andThen_ok,f1,jH,if_false,ub];rfl);(have aX:(Instr.checkKey em (d+1) f.type V[off]).run P w=.ok () w:=by unfold Instr.checkKey;simp [run_underlying f3]);have bb:=AF em d V bH (off+1) f6 (by omega);simp only [List.forIn_cons,f2,if_false,Sem.run_bind,aV,Result.andThen_ok];simpa [aX] using bb
theorem xN {t:TypeId} {k:I} {x:Value} (h:kR P t=true) (av:isKey P t k=true) (aj:Rel J S w k x) (em:Bool):(Instr.checkKey em 10000 t x).run P w=.ok () w:=by
 rcases zg h with ⟨q,a5⟩ | ⟨bH,aQ,hi,_⟩
 ·unfold Instr.checkKey;simp [run_underlying a5]
 ·unfold isKey at av;simp only [aQ] at av;split at av
  ·rename_i aY;cases aY
  ·rename_i B2 cs aY;cases aY;simp at av;cases aj with
   | agg _ V ak _ _ _ =>
     rw [show (10000:Nat)=9998+2 from rfl,Instr.checkKey];have:=AF (P:=P) (w:=w) em 9998 V bH.toList 0 hi (by simp;omega);rw [Array.forIn_toList] at this;simpa [run_underlying aQ] using this
  ·simp at av
theorem AG {t:TypeId} {bH:Array Field} (ax:P.underlying t=some (.struct bH)) (aQ:gJ P bH.toList 0=true) (ic:P.stoodInHeld t=false) {k k':I} {x y:Value} {e:Bool} (av:isKey P t k=true) (h:gF k k'=some e)
  (r1:Rel J S w k x) (r2:Rel J S w k' y):(Op.equal t x y).run P w=.ok e w:=by
 unfold isKey at av;simp only [ax] at av;split at av
 ·rename_i aY;cases aY
 ·rename_i B2 cs aY;cases aY;simp at av;cases k' with
  | agg ds =>
    simp only [gF] at h;(have e1:∃ V,x=.agg V:=by cases r1 with | agg as vs=>exact ⟨_,rfl⟩);(have cm:∃ V,y=.agg V:=by cases r2 with | agg as vs=>exact ⟨_,rfl⟩);obtain ⟨V,rfl⟩:=e1;obtain ⟨W,rfl⟩:=cm;have ak:∀ (xs ys:List I) (e:Bool),dP xs ys=some e→ys.length=xs.length:=by
     intro xs
     induction xs with
     | nil=>intro ys e h;cases ys <;> simp [dP] at h;rfl
     | cons x xs bb =>
       intro ys e h;cases ys with
       | nil=>cases x <;> simp [dP] at h
       | cons y ys=>obtain ⟨_,_,_,cP,rfl,rfl,aY,_⟩:=nh h;simp [bb ys cP aY]
    exact run_equalIn_struct 9998 ax aQ ic av ((ak _ _ _ h).trans av) h r1 r2
  | _=>simp [gF] at h
 ·simp at av
def gv (J:List Nat) (S:Nat→Nat→Prop) (w:World) (es:List (Nat×I×I)) (bA:List MapEntry):Prop :=
 bA.length=es.length∧∀ (j i:Nat) (k v:I) (x:MapEntry),es[j]?=some (i,k,v)→bA[j]?=some x→x.born=i∧k.plain=true∧Rel J S w k x.key∧v.plain=true∧Rel J S w v x.val
theorem gv.cons {e:Nat×I×I} {es:List (Nat×I×I)} {bA:List MapEntry} (h:gv J S w (e::es) bA):∃ x r,bA=x::r∧x.born=e.1∧Rel J S w e.2.1 x.key∧Rel J S w e.2.2 x.val∧gv J S w es r:=by
 cases bA with
 | nil=>simp [gv] at h
 | cons x r =>
   obtain ⟨ad,_,af,_,aG⟩:=h.2 0 e.1 e.2.1 e.2.2 x rfl rfl;exact ⟨x,r,rfl,ad,af,aG,by simpa using h.1,fun j i k v y hu a2=>h.2 (j+1) i k v y (by simpa using hu) (by simpa using a2)⟩
def hW (k:I) (es:List (Nat×I×I)) (bA:List MapEntry) (i:Nat):Option Nat→Option (Nat×Value)→Prop
 | none,r=>r=none
 | some n,r=>∃ e x,i≤n∧es[n-i]?=some e∧bA[n-i]?=some x∧r=some (n,x.val)∧gF k e.2.1=some true
theorem hW.step {k:I} {e:Nat×I×I} {es:List (Nat×I×I)} {x:MapEntry} {bA:List MapEntry} {i:Nat} {r:Option Nat} {res:Option (Nat×Value)} (h:hW k es bA (i+1) r res):hW k (e::es) (x::bA) i r res:=by
 cases r with
 | none=>exact h
 | some n =>
   obtain ⟨cP,ow,ad,af,aG,a8,bN⟩:=h;obtain ⟨m,hm⟩:∃ m,n-i=m+1:=⟨n-(i+1),by omega⟩;(have nx:n-(i+1)=m:=by omega);rw [nx] at af aG;exact ⟨cP,ow,by omega,by rw [hm];simpa using af,by rw [hm];simpa using aG,a8,bN⟩
theorem yw {q q0:IntKind} {n:Int}:∀ (es:List (Nat×I×I)) (bA:List MapEntry) (i:Nat) (r:Option Nat),fG (.int q n) es i=some r→gv J S w es bA →
  ∃ res,Instr.findNow (.int q0) (.int q n) bA i=some res∧hW (.int q n) es bA i r res
 | [],bA,i,r,h,aj=>by
   have:bA=[]:=tt.1 (by simpa using aj.1)
   subst this;simp [fG] at h;subst h;exact ⟨none,rfl,rfl⟩
 | (b,k',v)::es,bA,i,r,h,aj=>by
   obtain ⟨x,ents',rfl,ad,af,aG,a8⟩:=aj.cons;simp only [fG] at h;split at h
   ·rename_i he;cases h;cases k' with
    | int fT m =>
      simp only [gF] at he;split at he
      ·rename_i a5;subst a5;simp at he;subst he;simp only at af;rw [Instr.findNow,af.df];exact ⟨some (i,x.val),by simp [Instr.sameNow],_,x,sx _,by simp;rfl,by simp,rfl,by simp [gF]⟩
      ·simp at he
    | _=>simp [gF] at he
   ·rename_i he;cases k' with
    | int fT m =>
      simp only [gF] at he;split at he
      ·rename_i a5;subst a5;simp at he;simp only at af;obtain ⟨res,cd,b_⟩:=yw es ents' (i+1) r h a8;rw [Instr.findNow,af.df];(have CT:(n == m)=false:=by simpa using he);exact ⟨res,by simp only [Instr.sameNow,if_true,CT];exact cd,b_.step⟩
      ·simp at he
    | _=>simp [gF] at he
   ·simp at h
theorem yu {t:TypeId} {bH:Array Field} (ax:P.underlying t=some (.struct bH)) (aQ:gJ P bH.toList 0=true) (ic:P.stoodInHeld t=false) {k:I} {x:Value} (av:isKey P t k=true) (r1:Rel J S w k x) :
  ∀ (es:List (Nat×I×I)) (bA:List MapEntry) (i:Nat) (r:Option Nat),fG k es i=some r→gv J S w es bA →
  ∃ res,(Instr.findAsking t x bA i).run P w=.ok res w∧hW k es bA i r res
 | [],bA,i,r,h,aj=>by
   have:bA=[]:=tt.1 (by simpa using aj.1)
   subst this;simp [fG] at h;subst h;exact ⟨none,rfl,rfl⟩
 | (b,k',v)::es,bA,i,r,h,aj=>by
   obtain ⟨y,ents',rfl,ad,af,aG,a8⟩:=aj.cons;simp only [fG] at h;split at h
   ·rename_i he;cases h;have q:=AG (P:=P) ax aQ ic av he r1 af;exact ⟨some (i,y.val),by simp [Instr.findAsking,q],_,y,sx _,by simp;rfl,by simp,rfl,he⟩
   ·rename_i he;have q:=AG (P:=P) ax aQ ic av he r1 af;obtain ⟨res,cd,b_⟩:=yu ax aQ ic av r1 es ents' (i+1) r h a8;exact ⟨res,by simp [Instr.findAsking,q,cd],b_.step⟩
   ·simp at h
theorem mT {t:TypeId} {k:I} {x:Value} (h:kR P t=true) (av:isKey P t k=true) (aj:Rel J S w k x) {es:List (Nat×I×I)} {bA:List MapEntry} {r:Option Nat} (aQ:fG k es 0=some r) (he:gv J S w es bA) :
  ∃ res,(Instr.findKey t x bA).run P w=.ok res w∧hW k es bA 0 r res:=by
 rcases zg h with ⟨q,a5⟩ | ⟨bH,ai,hi,cM⟩
 ·unfold isKey at av;simp only [a5] at av;split at av
  ·rename_i aV aX n aY;obtain ⟨res,cd,b_⟩:=yw (q0:=q) es bA 0 r aQ he;rw [aj.df];exact ⟨res,by simp [Instr.findKey,run_underlying a5,cd],b_⟩
  ·rename_i aY;cases aY
  ·simp at av
 ·obtain ⟨res,cd,b_⟩:=yu ai hi cM av aj es bA 0 r aQ he;have ck:∃ V,x=.agg V:=by
   unfold isKey at av;simp only [ai] at av;split at av
   ·rename_i aY;cases aY
   ·cases aj with | agg as vs=>exact ⟨_,rfl⟩
   ·simp at av
  obtain ⟨V,rfl⟩:=ck;cases bA with
  | nil =>
    refine ⟨res,?_,b_⟩;simp [Instr.findAsking] at cd;subst cd;simp [Instr.findKey,run_underlying ai,Instr.findNow]
  | cons y ys =>
    refine ⟨res,?_,b_⟩
    have:Instr.findNow (.struct bH) (.agg V) (y::ys) 0=none:=by simp [Instr.findNow,Instr.sameNow]
    simp [Instr.findKey,run_underlying ai,this,cd]
theorem yJ (w:World) (o:Obj):(w.alloc o).heap[w.heap.size]?=some o:=by
 have e:(w.alloc o).heap=w.heap.push o:=rfl;rw [e];simp
theorem jg {b:Nat} {bA:Array MapEntry} {clock:Nat} (h:w.heap[b]?=some (.map bA clock)):(getObj b).run P w=.ok (.map bA clock) w:=by simp [getObj,Sem.run,h]
theorem oc {b:Nat} {o:Obj} {bA:Array MapEntry} {clock:Nat} (h:w.heap[b]?=some (.map bA clock)):(setObj b o).run P w=.ok () (w.putObj b o):=by simp [setObj,Sem.run,h,World.putObj]
theorem DY (ah:aL B U J S w H):aL B (lay U w.heap.size (.obj H.length)) (J++[w.heap.size]) S (w.alloc (.map #[] 0)) (H++[.map [] 0]) :=
 (nC ah (.map #[] 0) (.obj H.length)).push w.heap.size ⟨w.heap.size,#[],Ext.last ah _,by simp [lay],yJ w _,rfl,mF ah,by simp⟩
theorem Fo (ah:aL B U J S w H) {t:TypeId} {r:Option Operand} {u:I} {H':List au} (h:k3 P t r H=some (u,H')) :
  ∃ x w',(Instr.makeMap t (none:Option Value)).run P w=.ok x w'∧r=none∧a3 B U J S w H' u x w':=by
 unfold k3 at h;split at h
 ·cases h;exact ⟨_,_,by simp only [Instr.makeMap,Sem.run_bind,Sem.run_pure,run_newObj_alloc,Result.andThen_ok],rfl,_,_,S,Ext.append J _,kr ah _ _,DY ah,.map _ _ (Ext.last ah _),aW.b5 rfl⟩
 ·simp at h
theorem xi {t ef iL:TypeId} (h:jZ P t=some (ef,iL)):P.underlying t=some (.map ef iL)∧kR P ef=true:=by
 unfold jZ at h;split at h
 ·split at h
  ·cases h;exact ⟨by assumption,by assumption⟩
  ·cases h
 ·cases h
theorem Fs (ah:aL B U J S w H) {lo:Nat} {t:TypeId} {m k v u:I} {H':List au} {x y z:Value} (h:je P lo t H [m,k,v]=some (u,H'))
  (e6:Rel J S w m x) (bP:Rel J S w k y) (zP:k.plain=true) (od:Rel J S w v z) (zY:v.plain=true) (c:Value) :
  ∃ w',(Instr.mapUpdate t x y z).run P w=.ok () w'∧a3 B U J S w H' u c w':=by
 unfold je at h;split at h
 ·rename_i id k' bw heq;cases heq;split at h
  ·rename_i ef iL ax;obtain ⟨ax,av⟩:=xi ax;split at h
   ·rename_i hD;split at h
    ·split at h
     ·rename_i es clock aE;obtain ⟨b,bA,aB,aH,aR,bm,bf,bj⟩:=ah.obj _ _ aE;cases e6 with
      | map _ ar e2 =>
        rw [aB] at e2;cases e2;have he:gv J S w es bA.toList:=⟨by simpa using bm,fun j i k v x hu al=>bj j i k v x hu (by simpa using al)⟩;have iP:=xN (P:=P) av hD bP false;split at h
        ·rename_i n aQ;cases h;obtain ⟨res,cd,e,x,_,b_,eb,rfl,hy⟩:=mT (P:=P) av hD bP aQ he;simp only [wq,vp] at b_ eb;obtain ⟨oS,oT,de⟩:=e;obtain ⟨bc,bn,bu,b9,d'⟩:=bj n oS oT de x b_ eb;have cM:=Dn (P:=P) hy bP bu;obtain ⟨aA,cf⟩:=nS ah aE (es':=es.modify n fun e=>(e.1,k,v)) (clock':=clock) (ents':=bA.modify n fun e=>{ e with key:=y,val:=z }) aB aH bf (by simp [bm]) fun j i dg v0 jn hu al=>by
          rw [List.getElem?_modify] at hu;rw [Array.getElem?_modify] at al;by_cases aw:n=j
          ·subst aw;simp only [b_,eb,if_true,sB,Option.map_eq_map,Option.some.injEq,Prod.mk.injEq] at hu al;obtain ⟨rfl,rfl,rfl⟩:=hu;subst al;exact ⟨bc,zP,bP,zY,od⟩
          ·simp only [aw,if_false,id_map'] at hu al;exact bj j i dg v0 jn (by simpa using hu) (by simpa using al)
         refine ⟨_,?_,U,J,S,Ext.refl J,aA,cf,.junk _,aW.b5 rfl⟩;simp only [Instr.mapUpdate,Sem.run_bind,run_underlying ax,Result.andThen_ok,jg aR,iP,cd,eb,sB,u6,cM,oc aR]
        ·rename_i aQ;cases h;obtain ⟨res,cd,b_⟩:=mT (P:=P) av hD bP aQ he;simp only [hW] at b_;subst b_;obtain ⟨aA,cf⟩:=nS ah aE (es':=es++[(clock,k,v)]) (clock':=clock+1) (ents':=bA.push { key:=y,val:=z,born:=clock }) aB aH bf (by simp [bm]) fun j i dg v0 jn hu al=>by
          rw [Array.getElem?_push] at al;split at al
          ·rename_i aw;rw [aw,bm,sZ (sx _)] at hu;simp at hu al;obtain ⟨rfl,rfl,rfl⟩:=hu;subst al;exact ⟨rfl,zP,bP,zY,od⟩
          ·rename_i aw;have aU:j<bA.size:=(tp.1 al).1;rw [sR (by omega)] at hu;exact bj j i dg v0 jn hu al
         refine ⟨_,?_,U,J,S,Ext.refl J,aA,cf,.junk _,aW.b5 rfl⟩;simp only [Instr.mapUpdate,Sem.run_bind,run_underlying ax,Result.andThen_ok,jg aR,iP,cd,oc aR]
        ·cases h
     ·cases h
    ·cases h
   ·cases h
  ·cases h
 ·cases h
theorem F1 {t:TypeId} {u:I} (h:oy P t=some u):∃ v,(zeroValue t).run P w=.ok v w∧Rel J S w u v∧u.plain=true:=by
 unfold oy at h;simp only [sC] at h;obtain ⟨v,⟨i,hi,ae⟩,h⟩:=h;refine ⟨v,ka hi ae,?_⟩;split at h
 ·rename_i cs;split at h
  ·rename_i db;cases h;refine ⟨.agg _ _ (by simp) (fun u hu=>?_) (fun v ae=>by simp only [sS] at db;exact db v ae) (fun j u v hu ae=>?_),rfl⟩
   ·obtain ⟨x,_,rfl⟩:=sJ.1 hu;exact m8 x
   ·rw [sN,vp,ae] at hu;simp at hu;subst hu;exact lC _ _ _ _
  ·cases h
 ·cases h;exact ⟨lC _ _ _ _,m8 _⟩
theorem Fm (ah:aL B U J S w H) {t:TypeId} {ok:Bool} {m k u:I} {H':List au} {x y:Value} (h:im P t ok H [m,k]=some (u,H'))
  (e6:Rel J S w m x) (bP:Rel J S w k y) :
  ∃ v,(Instr.lookup t x y ok).run P w=.ok v w∧a3 B U J S w H' u v w:=by
 unfold im at h;split at h
 ·rename_i id k' heq;cases heq;split at h
  ·rename_i ef iL ax;obtain ⟨ax,av⟩:=xi ax;split at h
   ·rename_i es clock hD aE;obtain ⟨b,bA,aB,aH,aR,bm,bf,bj⟩:=ah.obj _ _ aE;cases e6 with
    | map _ ar e2 =>
      rw [aB] at e2;cases e2;have he:gv J S w es bA.toList:=⟨by simpa using bm,fun j i k v x hu al=>bj j i k v x hu (by simpa using al)⟩;have iP:=xN (P:=P) av hD bP bA.isEmpty;split at h
      ·rename_i r aQ;simp only [sr,Prod.mk.injEq] at h;obtain ⟨v,ae,rfl,rfl⟩:=h;obtain ⟨res,cd,b_⟩:=mT (P:=P) av hD bP aQ he;have fin:∀ (z:Value) (b:Bool),Rel J S w v z→v.plain=true →
         a3 B U J S w H (if ok then .tuple [v,.bool b] else v) (if ok then .tuple #[z,.bool b] else z) w:=fun z b aj aC=>by
        cases ok with
        | true=>exact a3.same ah (.tuple _ _ rfl (fun u hu=>by simp only [sH,List.not_mem_nil,or_false] at hu;rcases hu with rfl | rfl;exact aC;rfl) fun j u bw hu bg=>by
          match j with
          | 0=>simp at hu bg;subst hu;subst bg;exact aj
          | 1=>simp at hu bg;subst hu;subst bg;exact .bool _
          | j+2=>simp at hu) rfl
        | false=>exact a3.same ah aj aC
       cases r with
       | none =>
         simp only [hW] at b_;subst b_;obtain ⟨z,x6,ox,F0⟩:=F1 (J:=J) (S:=S) (w:=w) ae;exact ⟨_,by simp only [Instr.lookup,Sem.run_bind,run_underlying ax,Result.andThen_ok,jg aR,Sem.run_pure,iP,cd,x6],fin z false ox F0⟩
       | some n =>
         obtain ⟨e,x,_,aX,cB,rfl,dU⟩:=b_;simp only [wq,vp] at aX cB;obtain ⟨oS,oT,de⟩:=e;obtain ⟨bc,bn,bu,b9,d'⟩:=bj n oS oT de x aX cB;simp only [sq,aX,Option.some.injEq] at ae;subst ae;exact ⟨_,by simp only [Instr.lookup,Sem.run_bind,run_underlying ax,Result.andThen_ok,jg aR,Sem.run_pure,iP,cd],fin x.val true d' b9⟩
      ·cases h
   ·cases h
  ·cases h
 ·cases h
theorem Fh (ah:aL B U J S w H) {lo:Nat} {ts:Array TypeId} (ty:TypeId) {m k u:I} {H':List au} {x y:Value} (h:hI P lo ts H [m,k]=some (u,H'))
  (e6:Rel J S w m x) (bP:Rel J S w k y) :
  ∃ v w',(Builtin.delete_ ts ty #[x,y]).run P w=.ok v w'∧a3 B U J S w H' u v w':=by
 unfold hI at h;split at h
 ·rename_i id k' heq;cases heq;split at h
  ·rename_i ef iL ax;simp only [sC] at ax;obtain ⟨t,g_,ax⟩:=ax;obtain ⟨ax,av⟩:=xi ax;split at h
   ·rename_i hD;split at h
    ·split at h
     ·rename_i es clock aE;obtain ⟨b,bA,aB,aH,aR,bm,bf,bj⟩:=ah.obj _ _ aE;cases e6 with
      | map _ ar e2 =>
        rw [aB] at e2;cases e2;have he:gv J S w es bA.toList:=⟨by simpa using bm,fun j i k v x hu al=>bj j i k v x hu (by simpa using al)⟩;have iP:=xN (P:=P) av hD bP bA.isEmpty;have Bb:∀ (w:World),Rel J S w (.tuple []) (.tuple #[]):=fun w=>.tuple _ _ rfl (by simp) (by simp);split at h
        ·rename_i n aQ;cases h;obtain ⟨res,cd,e,x,_,b_,eb,rfl,hy⟩:=mT (P:=P) av hD bP aQ he;obtain ⟨aA,cf⟩:=nS ah aE (es':=es.eraseIdx n) (clock':=clock) (ents':=bA.eraseIdxIfInBounds n) aB aH bf (by rw [←tU,Array.toList_eraseIdxIfInBounds];simp [List.length_eraseIdx,bm]) fun j i dg v0 jn hu al=>by
          rw [←vp,Array.toList_eraseIdxIfInBounds] at al;rw [List.getElem?_eraseIdx] at hu al;by_cases aw:j<n
          ·simp only [aw,if_true] at hu al;exact bj j i dg v0 jn hu (by simpa using al)
          ·simp only [aw,if_false] at hu al;exact bj _ i dg v0 jn hu (by simpa using al)
         refine ⟨_,_,?_,U,J,S,Ext.refl J,aA,cf,Bb _,aW.b5 rfl⟩;simp only [Builtin.delete_,g_,we,uS,vN,Sem.run_bind,run_underlying ax,Result.andThen_ok,jg aR,iP,cd,oc aR,Sem.run_pure]
        ·rename_i aQ;cases h;obtain ⟨res,cd,b_⟩:=mT (P:=P) av hD bP aQ he;simp only [hW] at b_;subst b_;obtain ⟨aA,cf⟩:=nS ah aE (es':=es) (clock':=clock) (ents':=bA) aB aH bf bm bj;have Da:H.set id (.map es clock)=H:=ud fun j=>by
          by_cases aw:id=j
          ·subst aw;rw [sE (ss.1 aE).1,aE]
          ·rw [sG aw]
         rw [Da] at cf;refine ⟨_,_,?_,U,J,S,Ext.refl J,aA,cf,Bb _,aW.b5 rfl⟩;simp only [Builtin.delete_,g_,we,uS,vN,Sem.run_bind,run_underlying ax,Result.andThen_ok,jg aR,iP,cd,oc aR,Sem.run_pure]
        ·cases h
     ·cases h
    ·cases h
   ·cases h
  ·cases h
 ·cases h
theorem Fx (ah:aL B U J S w H) {t:TypeId} {m u:I} {H':List au} {x:Value} (h:k4 P t H [m]=some (u,H')) (e6:Rel J S w m x) :
  ∃ v w',(Instr.range t x).run P w=.ok v w'∧a3 B U J S w H' u v w':=by
 unfold k4 at h;split at h
 ·rename_i id heq;cases heq;split at h
  ·rename_i ef iL es clock ax aE;cases h;obtain ⟨b,bA,aB,aH,aR,bm,bf,bj⟩:=ah.obj _ _ aE;cases e6 with
   | map _ ar e2 =>
     rw [aB] at e2;cases e2;refine ⟨.pointer (some ⟨w.heap.size,0,none⟩),w.alloc (.mapIter (some b) clock #[] clock),by simp only [Instr.range,Sem.run_bind,run_underlying ax,Result.andThen_ok,jg aR,Sem.run_pure,run_newObj_alloc],_,_,S,Ext.append J _,kr ah _ (.obj H.length),?_,.ptr _ _ _ (Ext.last ah _),aW.b5 rfl⟩;exact (nC ah _ (.obj H.length)).push w.heap.size ⟨w.heap.size,b,Ext.last ah _,by simp [lay],Ext.append J _ _ _ aB,yJ w _,mF ah⟩
  ·cases h
 ·cases h
theorem yv {J:List Nat} {S:Nat→Nat→Prop} {w:World} (gm:Nat):∀ (es:List (Nat×I×I)) (bA:List MapEntry) (e:Nat×I×I),gv J S w es bA→es.find? (fun e=>e.1 == gm)=some e →
  ∃ x,bA.find? (fun x=>x.born == gm)=some x∧Rel J S w e.2.1 x.key∧Rel J S w e.2.2 x.val∧e.2.1.plain=true∧e.2.2.plain=true
 | [],bA,e,aj,h=>by simp at h
 | fY::es,bA,e,aj,h=>by
   have aS:=aj;obtain ⟨x,ents',rfl,ad,af,aG,a8⟩:=aj.cons;obtain ⟨_,bT,_,b6,_⟩:=aS.2 0 fY.1 fY.2.1 fY.2.2 x rfl rfl;rw [List.find?_cons] at h ⊢;rw [ad];split at h
   ·rename_i ag;cases h;exact ⟨x,by simp,af,aG,bT,b6⟩
   ·rename_i ag;obtain ⟨ow,g⟩:=yv gm es ents' e a8 h;exact ⟨ow,by simp [g.1],g.2⟩
theorem Fi (ah:aL B U J S w H) {m u:I} {H':List au} {x:Value} (h:k2 H [m]=some (u,H')) (e6:Rel J S w m x) :
  ∃ v,(Instr.entry x).run P w=.ok v w∧a3 B U J S w H' u v w:=by
 unfold k2 at h;split at h
 ·rename_i r heq;cases heq;split at h
  ·rename_i m since seen kg aE;split at h
   ·rename_i gm es clock cM CM;split at h
    ·rename_i ao;subst ao;split at h
     ·rename_i e he;cases h;obtain ⟨b,ei,aB,aH,aR,bm,bf⟩:=ah.obj _ _ aE;obtain ⟨ar,bA,bc,bn,bu,b9,d',fW⟩:=ah.obj _ _ CM;rw [aR] at bc;cases bc;cases e6 with
      | ptr _ _ ar e2 =>
        rw [aB] at e2;cases e2;have aj:gv J S w es bA.toList:=⟨by simpa using b9,fun j i k v x hu al=>fW j i k v x hu (by simpa using al)⟩;obtain ⟨y,cd,b_,eb,hy,B4⟩:=yv gm es bA.toList e aj he;(have ag:(seen.toArray).back?=some gm:=by simpa using cM);have aO:(getObj b).run P w=.ok (.mapIter (some ei) since seen.toArray clock) w:=by simp [getObj,Sem.run,bm]
        refine ⟨.tuple #[y.key,y.val],?_,a3.same ah (.tuple _ _ rfl (by simp [hy,B4]) fun j u bw hu bg=>by
          match j with
          | 0=>simp at hu bg;subst hu;subst bg;exact b_
          | 1=>simp at hu bg;subst hu;subst bg;exact eb
          | j+2=>simp at hu) rfl⟩
        (have aQ:bA.find? (fun x=>x.born == gm)=some y:=by rw [←Array.find?_toList];exact cd);simp [Instr.entry,aO,ag,jg bu,aQ]
     ·cases h
    ·cases h
   ·cases h
  ·cases h
 ·cases h
end
end Go.Proofs.YtfakoboiahbhaaaGreat.Ab


namespace Go.Proofs.YtfakoboiahbhaaaGreat.Ab
open Go
section
variable {P:Program} {B:Nat} {J:List Nat} {w:World} {H:List au} {U:Nat→Option aI} {S:Nat→Nat→Prop}
theorem zQ (ah:aL B U J S w H) {id off len sz n:Nat} {cap:Option Nat} {row:List I} {v:Value} (cV:rowOf H (.ref id off len cap sz)=some row) (aN:lenOf (.ref id off len cap sz)=some n)
  (aj:Rel J S w (.ref id off len cap sz) v) :
  a3 B U J S w (H.set id .dead) (.ay row n (g2 cap n)) v w:=by
 classical
 simp [lenOf] at aN;subst aN;cases aj with
 | ref _ _ _ _ _ b gE ag ao hle =>
   unfold rowOf at cV;simp only at cV;split at cV
   ·rename_i l aE;split at cV
    ·rename_i dL;simp only [Option.some.injEq] at cV;obtain ⟨ar,cur,e,aB,aH,aR,bm,bf,bj⟩:=ah.obj id _ aE;rw [ag] at aB;cases aB
     let S':Nat→Nat→Prop:=fun ar o=>S ar o∨(ar=b∧o<cur.size)
     let az:Nat→Option aI:=fun ar=>if ar=b then none else U ar
     have bz:∀ o,o<cur.size→w.cell? ⟨b,o,none⟩=cur[o]?:=fun o aq=>by
      simp [World.cell?,aR,aq]
     have aA:bk U S w az S' w:=⟨rfl,rfl,rfl,sx _,fun _ _ _=>rfl,fun _ _ h=>⟨.inl h,rfl⟩,fun ar o h=>by
       rcases h with h | ⟨rfl,_⟩
       ·exact .inl h
       ·exact .inr (.inl (by simp [aH])),fun ar bt=>by
       by_cases dK:ar=b
       ·simp [az,dK] at bt
       ·simp only [az,dK,if_false] at bt;exact .inl bt⟩
     have bY:aL B az J S' w (H.set id .dead):=by
      refine ⟨by simpa using ah.cH,fun bB o aq=>?_,fun ar o h=>?_,fun ar l' bt=>?_,ah.c1⟩
      ·by_cases cw:bB=id
       ·subst cw
        have:o=.dead:=by
         have:=(ss.1 aE).1;simp [this] at aq;exact aq.symm
        subst this;trivial
       ·rw [sG (Ne.symm cw)] at aq;refine (ah.obj bB o aq).frame (Ext.refl J) aA.set (fun ar l' bt ak=>?_);have bO:ar≠b:=fun e=>by
         subst e;rw [aH] at bt;cases bt;rcases ak with h | ⟨j,h⟩
         ·cases h;exact cw rfl
         ·cases h
        exact ⟨by simp [az,bO,bt],rfl,fun o h=>h.resolve_right fun h=>bO h.1⟩
      ·rcases h with h | ⟨rfl,h⟩
       ·exact ah.ch _ _ h
       ·exact ⟨_,(bz o h).trans (sT h)⟩
      ·by_cases dK:ar=b
       ·simp [az,dK] at bt
       ·simp only [az,dK,if_false] at bt;exact ah.base _ _ bt
     (have hlen:row.length=len*sz:=by subst cV;simp;omega);refine ⟨az,J,S',Ext.refl J,aA,bY,.ay row len _ b off gE (fun j=>cur.getD (off+j) undef) (fun h=>?_) hle (fun z h=>?_) (fun j u aw=>?_) (fun j u aw=>?_),aW.b5 ?_⟩
     ·unfold g2 at h;cases cap with
      | none=>simp at h
      | some c =>
        simp only at h;split at h
        ·rename_i cF;rw [ao c rfl,cF]
        ·cases h
     ·unfold g2 at h;cases cap with
      | none=>simp at h
      | some c=>simp only at h;split at h <;> cases h
     all_goals (try (
      have h7:=(ss.1 aw).1;(have ft:off+j<l.length:=by omega);(have ff:off+j<cur.size:=by omega);have al:l[off+j]?=some l[off+j]:=sI ft;have ae:cur[off+j]?=some cur[off+j]:=sT ff;(have aO:cur.getD (off+j) undef=cur[off+j]:=by simp [ff]);have hu:u=l[off+j].view:=by
       subst cV;rw [sN,th,if_pos (by simp at h7;omega),tq,al] at aw;simpa using aw.symm
      obtain ⟨bc,bn,bu,b9⟩:=bj (off+j) _ _ al ae
      subst hu))
     ·exact ⟨.inr ⟨rfl,ff⟩,by rw [bz _ ff,ae,aO],I.dk _,by rw [aO];exact bn⟩
     ·rw [aO];exact (bu.view bc).mono (Ext.refl J) aA.set
     ·unfold g2;cases cap with
      | none=>rfl
      | some c=>simp only;split <;> rfl
    ·simp at cV
   ·simp at cV
theorem A0 (ah:aL B U J S w H) {t e:TypeId} (ax:P.underlying t=some (.slice e)) {id off n z:Nat} {l c:List I} (aE:H[id]?=some (.cells l)) (cZ:l[off]?=some (.ay c n (.own z))) {v:Value}
  (aj:Rel J S w (.ptr id off) v) :
  ∃ x,(Instr.loadAt t v).run P w=.ok x w∧a3 B U J S w (H.set id (.cells (l.set off (.ay c n .shared)))) (.ay c n (.own z)) x w:=by
 classical
 have ck:dN P t=false:=by simp [dN,ax]
 obtain ⟨b,cur,cP,aB,aH,aR,bm,bf,bj⟩:=ah.obj id _ aE;cases aj with
 | ptr _ _ ar ag =>
   rw [aB] at ag;cases ag;have aw:off<l.length:=(ss.1 cZ).1;(have ft:off<cur.size:=by omega);have iQ:cur[off]?=some cur[off]:=sT ft;obtain ⟨bc,bn,bu,b9⟩:=bj off _ _ cZ iQ;(have bz:w.cell? ⟨b,off,none⟩=some cur[off]:=by rw [cell_of_row w b _ cur cP (0,0) aR,iQ]);refine ⟨cur[off],by simp [Instr.loadAt,Instr.sureAddr,loadVar,gP ax,ck,load,Sem.run,bz],?_⟩
   let az:Nat→Option aI:=fun ar=>if U ar=some (.cell id off) then some .res else U ar
   have aA:bk U S w az S w:=⟨rfl,rfl,rfl,sx _,fun _ _ _=>rfl,fun _ _ h=>⟨h,rfl⟩,fun _ _ h=>.inl h,fun b ag=>.inl fun aS=>ag (by simp [az,aS])⟩;have av:∀ ar l',U ar=some l'→l'≠.cell id off→az ar=some l':=fun ar l' ad af=>by
    have:¬ U ar=some (.cell id off):=by rw [ad];intro e;cases e;exact af rfl
    simp [az,ad,af]
   refine ⟨az,J,S,Ext.refl J,aA,⟨by simpa using ah.cH,fun bB o aq=>?_,ah.ch,fun ar l' bt=>?_,ah.c1⟩,bu,b9.mono (Ext.refl J) aA.set fun ar bt=>⟨by simp [az,bt],rfl,fun _ h=>h⟩⟩
   ·by_cases cw:bB=id
    ·subst cw;rw [sE (ss.1 aE).1] at aq;cases aq;refine ⟨b,cur,cP,aB,av b _ aH (by simp),aR,by simpa using bm,bf,fun j u v hu ae=>?_⟩;by_cases hE:j=off
     ·subst hE;rw [sE aw] at hu;cases hu;obtain ⟨cd,b_,eb,_⟩:=bj j _ _ cZ ae;exact ⟨rfl,b_,eb.view cd,aW.b5 rfl⟩
     ·rw [sG (Ne.symm hE)] at hu;obtain ⟨d1,d2,d3,d4⟩:=bj j u v hu ae;exact ⟨d1,d2,d3,d4.mono (Ext.refl J) aA.set fun ar bt=>⟨av ar _ bt (by simp [hE]),rfl,fun _ h=>h⟩⟩
    ·rw [sG (Ne.symm cw)] at aq;refine (ah.obj bB o aq).frame (Ext.refl J) aA.set (fun ar l' bt ak=>⟨av ar l' bt ?_,rfl,fun _ h=>h⟩);rcases ak with rfl | ⟨j,rfl⟩
     ·simp
     ·simp [cw]
   ·by_cases h:U ar=some (.cell id off)
    ·exact ah.base ar _ h
    ·simp only [az,h,if_false] at bt;exact ah.base ar l' bt
theorem A1 (ah:aL B U J S w H) {t e:TypeId} (ax:P.underlying t=some (.slice e)) {id off n z:Nat} {l c:List I} (aE:H[id]?=some (.cells l)) (cZ:l[off]?=some (.raw c n z)) {v:Value}
  (aj:Rel J S w (.ptr id off) v) :
  ∃ b x,J[id]?=some b∧w.cell? ⟨b,off,none⟩=some x∧x.oneCell'=true∧(Instr.loadAt t v).run P w=.ok x w∧a3 B U J S w (H.set id (.cells (l.set off .junk))) (.ay c n (.uniq z)) x w:=by
 classical
 have ck:dN P t=false:=by simp [dN,ax]
 obtain ⟨b,cur,cP,aB,aH,aR,bm,bf,bj⟩:=ah.obj id _ aE;cases aj with
 | ptr _ _ ar ag =>
   rw [aB] at ag;cases ag;have aw:off<l.length:=(ss.1 cZ).1;(have ft:off<cur.size:=by omega);have iQ:cur[off]?=some cur[off]:=sT ft;obtain ⟨bc,bn,bu,b9⟩:=bj off _ _ cZ iQ;obtain ⟨FK,FL⟩:=Ei bu b9;(have bz:w.cell? ⟨b,off,none⟩=some cur[off]:=by rw [cell_of_row w b _ cur cP (0,0) aR,iQ]);refine ⟨b,cur[off],aB,bz,bn,by simp [Instr.loadAt,Instr.sureAddr,loadVar,gP ax,ck,load,Sem.run,bz],?_⟩
   let az:Nat→Option aI:=fun ar=>if U ar=some (.cell id off) then some .res else U ar
   have aA:bk U S w az S w:=⟨rfl,rfl,rfl,sx _,fun _ _ _=>rfl,fun _ _ h=>⟨h,rfl⟩,fun _ _ h=>.inl h,fun b ag=>.inl fun aS=>ag (by simp [az,aS])⟩;have av:∀ ar l',U ar=some l'→l'≠.cell id off→az ar=some l':=fun ar l' ad af=>by
    have:¬ U ar=some (.cell id off):=by rw [ad];intro e;cases e;exact af rfl
    simp [az,ad,af]
   refine ⟨az,J,S,Ext.refl J,aA,⟨by simpa using ah.cH,fun bB o aq=>?_,ah.ch,fun ar l' bt=>?_,ah.c1⟩,FK,FL.mono (Ext.refl J) aA.set fun ar bt=>⟨by simp [az,bt],rfl,fun _ h=>h⟩⟩
   ·by_cases cw:bB=id
    ·subst cw;rw [sE (ss.1 aE).1] at aq;cases aq;refine ⟨b,cur,cP,aB,av b _ aH (by simp),aR,by simpa using bm,bf,fun j u v hu ae=>?_⟩;by_cases hE:j=off
     ·subst hE;rw [sE aw] at hu;cases hu;obtain ⟨cd,b_,eb,_⟩:=bj j _ _ cZ ae;exact ⟨rfl,b_,.junk _,aW.b5 rfl⟩
     ·rw [sG (Ne.symm hE)] at hu;obtain ⟨d1,d2,d3,d4⟩:=bj j u v hu ae;exact ⟨d1,d2,d3,d4.mono (Ext.refl J) aA.set fun ar bt=>⟨av ar _ bt (by simp [hE]),rfl,fun _ h=>h⟩⟩
    ·rw [sG (Ne.symm cw)] at aq;refine (ah.obj bB o aq).frame (Ext.refl J) aA.set (fun ar l' bt ak=>⟨av ar l' bt ?_,rfl,fun _ h=>h⟩);rcases ak with rfl | ⟨j,rfl⟩
     ·simp
     ·simp [cw]
   ·by_cases h:U ar=some (.cell id off)
    ·exact ah.base ar _ h
    ·simp only [az,h,if_false] at bt;exact ah.base ar l' bt
theorem C4 (ah:aL B U J S w H) {id off b:Nat} {l:List I} (aE:H[id]?=some (.cells l)) (ag:J[id]?=some b) {u:I} {x:Value} (al:w.cell? ⟨b,off,none⟩=some x) (ad:x.oneCell'=true) (aC:u.plain=true) (aj:Rel J S w u x) :
  aL B U J S w (H.set id (.cells (l.set off u))):=by
 refine ⟨by simpa using ah.cH,fun bB o aq=>?_,ah.ch,ah.base,ah.c1⟩;by_cases cw:bB=id
 ·subst cw;rw [sE (ss.1 aE).1] at aq;cases aq;obtain ⟨ar,cur,cP,aB,aH,aR,bm,bf,bj⟩:=ah.obj bB _ aE;rw [ag] at aB;cases aB;refine ⟨b,cur,cP,ag,aH,aR,by simpa using bm,bf,fun j y v hu ae=>?_⟩;by_cases hE:off=j
  ·subst hE;(have aU:off<l.length:=by have:=(ss.1 hu).1;simpa using this);rw [sE aU] at hu;cases hu;rw [cell_of_row w b _ cur cP (0,0) aR,ae] at al;cases al;exact ⟨I.gh aC,ad,aj,aW.b5 aC⟩
  ·rw [sG hE] at hu;exact bj j y v hu ae
 ·rw [sG (Ne.symm cw)] at aq;exact ah.obj bB o aq
theorem FB (ah:aL B U J S w H) {t e:TypeId} (ax:P.underlying t=some (.slice e)) {id off n z:Nat} {l c:List I} (aN:n≠0) (aE:H[id]?=some (.cells l)) (cZ:l[off]?=some (.raw c n z)) {v:Value}
  (aj:Rel J S w (.ptr id off) v) :
  ∃ x,(Instr.loadAt t v).run P w=.ok x w∧a3 B U J S w (H.set id (.cells (l.set off (.ref H.length 0 n none z)))++[.cells c]) (.ref H.length 0 n none z) x w:=by
 obtain ⟨b,x,ad,af,aG,a8,b4,cT,a6,aJ,aP,cl,jW,Dk⟩:=A1 ah ax aE cZ aj;refine ⟨x,a8,?_⟩;obtain ⟨bq,cj,bJ,dh,di,jX,kV,zt⟩:=zT cl (l:=.res) (by simp) (by simp) aN jW Dk;rw [List.length_set] at kV zt;have aU:=(ss.1 aE).1;have fs:cj[id]?=some b:=dh _ _ (aJ _ _ ad);have pt:(H.set id (au.cells (l.set off .junk))++[au.cells c])[id]?=some (au.cells (l.set off .junk)):=by
  rw [sR (by simpa using aU),sE aU]
 have al:=C4 jX pt fs af aG (u:=.ref H.length 0 n none z) rfl kV;have e:(H.set id (au.cells (l.set off .junk))++[au.cells c]).set id (au.cells ((l.set off .junk).set off (.ref H.length 0 n none z)))=H.set id (au.cells (l.set off (.ref H.length 0 n none z)))++[au.cells c]:=by
  rw [List.set_append_left _ _ (by simpa using aU),td,td]
 rw [e] at al;exact ⟨bq,cj,bJ,aJ.trans dh,aP.trans di,al,kV,zt⟩
theorem Dh {x:Operand} (h:iY x=true):x=.const (.slice none 0 0):=by
 unfold iY at h;split at h
 ·rfl
 ·simp at h
theorem eT (i:Nat):∀ id,aI.arg i≠.obj id:=fun _=>by simp
theorem eU (i:Nat):∀ id j,aI.arg i≠.cell id j:=fun _ _=>by simp
theorem Ed (ah:aL B U J S w H) {id gid n z:Nat} {l:List I} (aE:H[id]?=some (.grow l gid z)) (aN:n*z≤l.length) (aC:(l.take (n*z)).all I.plain=true) {v:Value} (aj:Rel J S w (.cn id gid n z) v) :
  a3 B U J S w (H.set id .dead) (.ay (l.take (n*z)) n (.uniq z)) v w:=by
 classical
 rw [sS] at aC;obtain ⟨b,cur,e,aB,aH,aR,bm,bf,bj,cap,c4,dd,dI,fC⟩:=ah.obj id _ aE;cases aj with
 | cn _ _ _ _ ar cap' ag aO hle =>
   rw [aB] at ag;cases ag;rw [c4] at aO;cases aO
   let az:Nat→Option aI:=fun ar=>if U ar=some (.obj id) then some .res else U ar
   have aA:bk U S w az S w:=⟨rfl,rfl,rfl,sx _,fun _ _ _=>rfl,fun _ _ h=>⟨h,rfl⟩,fun _ _ h=>.inl h,fun b ag=>.inl fun aS=>ag (by simp [az,aS])⟩;have av:∀ ar l',U ar=some l'→l'≠.obj id→az ar=some l':=fun ar l' ad af=>by
    have:¬ U ar=some (.obj id):=by rw [ad];intro e;cases e;exact af rfl
    simp [az,ad,af]
   refine ⟨az,J,S,Ext.refl J,aA,⟨by simpa using ah.cH,fun bB o aq=>?_,ah.ch,fun ar l' bt=>?_,ah.c1⟩,.cN _ _ _ _ _ _,.inr ⟨by simp [az,aH],rfl,hle,dd,dI,by simp;omega,⟨cur,e,aR,fC,fun j u v hu ae=>?_⟩,bf⟩⟩
   ·by_cases cw:bB=id
    ·subst cw;rw [sE (ss.1 aE).1] at aq;cases aq;trivial
    ·rw [sG (Ne.symm cw)] at aq;refine (ah.obj bB o aq).frame (Ext.refl J) aA.set (fun ar l' bt ak=>⟨av ar l' bt ?_,rfl,fun _ h=>h⟩);rcases ak with rfl | ⟨j,rfl⟩
     ·simp [cw]
     ·simp
   ·by_cases h:U ar=some (.obj id)
    ·exact ah.base ar _ h
    ·simp only [az,h,if_false] at bt;exact ah.base ar l' bt
   ·have ca:u∈l.take (n*z):=sY hu;rw [th] at hu;split at hu
    ·obtain ⟨_,bn,bu,_⟩:=bj j u v hu ae;exact ⟨aC u ca,bn,bu⟩
    ·simp at hu
theorem AZ (ah:aL B U J S w H) {aT:Operand→Value} (eR:∀ v,aT (.const v)=v) {lo mode:Nat} {t:TypeId} {x:Operand} {us:List I} {r:I} {H':List au}
  (h:eW P lo mode t x H us=some (r,H')) (ae:a' (fun i=>.arg i) U J S w us ([x].map aT)):a3 B U J S w H' r (aT x) w:=by
 obtain ⟨u,rfl,r1,bD⟩:=a'.one ae;unfold eW at h;simp only at h;split at h
 ·split at h
  ·rename_i aN ax;simp only [sr,Prod.mk.injEq] at h;obtain ⟨z,_,rfl,rfl⟩:=h;rw [Dh aN,eR];exact ⟨U,J,S,Ext.refl J,bk.refl U S w,ah,.b3 _ _,trivial⟩
  ·cases h;exact iu ah (eT _) (eU _) r1 bD
 ·split at h
  ·rename_i cells len z;split at h
   ·cases h;exact iu ah (eT _) (eU _) r1 bD
   ·rename_i aS;cases h;exact zT ah (eT _) (eU _) aS r1 bD
  ·cases h;exact iu ah (eT _) (eU _) r1 bD
  ·cases h;exact iu ah (eT _) (eU _) r1 bD
  ·simp at h
 ·split at h
  ·rename_i id gid n z;split at h
   ·split at h
    ·rename_i l g cX aE;split at h
     ·rename_i ao;obtain ⟨rfl,rfl,ad,af⟩:=ao;cases h;exact Ed ah aE ad af r1
     ·simp at h
    ·simp at h
   ·simp at h
  ·cases h;exact iu ah (eT _) (eU _) r1 bD
 ·split at h
  ·rename_i id off len cap sz;split at h
   ·simp only [sC,sr,Prod.mk.injEq] at h;obtain ⟨row,cV,n,aN,rfl,rfl⟩:=h;exact zQ ah cV aN r1
   ·simp at h
  ·rename_i id gid n z;split at h
   ·split at h
    ·rename_i l g cX aE;split at h
     ·rename_i ak;cases h;have aU:=(ss.1 aE).1;have q:=zQ (ah.ot aE) (row:=l.map I.view) (by simp only [rowOf,sE aU,tc];rw [if_pos (by omega),tb,ui (by omega)]) rfl (r1.view rfl);rw [td] at q;exact q
     ·simp at h
    ·simp at h
   ·simp at h
  ·cases h;obtain ⟨S',aJ,aP,cf,r2⟩:=mA ah (eT _) (eU _) r1 bD;exact a3.after (Ext.refl J) (bk.settle aJ fun b o h=>(aP b o h).imp id fun h=>⟨_,h⟩) (a3.same cf r2 (I.dk _))
theorem Fl (ah:aL B U J S w H) {t e:TypeId} (ax:P.underlying t=some (.slice e)) {id off i g n z:Nat} {l:List I} (aE:H[id]?=some (.cells l)) (cZ:l[off]?=some (.cn i g n z)) {v:Value}
  (aj:Rel J S w (.ptr id off) v):∃ x,(Instr.loadAt t v).run P w=.ok x w∧a3 B U J S w H (.cn i g n z) x w:=by
 have ck:dN P t=false:=by simp [dN,ax]
 obtain ⟨b,cur,cP,aB,aH,aR,bm,bf,bj⟩:=ah.obj id _ aE;cases aj with
 | ptr _ _ ar ag =>
   rw [aB] at ag;cases ag;have aw:off<l.length:=(ss.1 cZ).1;(have ft:off<cur.size:=by omega);have iQ:cur[off]?=some cur[off]:=sT ft;obtain ⟨bc,bn,bu,b9⟩:=bj off _ _ cZ iQ;(have bz:w.cell? ⟨b,off,none⟩=some cur[off]:=by rw [cell_of_row w b _ cur cP (0,0) aR,iQ]);exact ⟨cur[off],by simp [Instr.loadAt,Instr.sureAddr,loadVar,gP ax,ck,load,Sem.run,bz],U,J,S,Ext.refl J,bk.refl U S w,ah,bu,trivial⟩
theorem Fk (ah:aL B U J S w H) {lo mode:Nat} {t:TypeId} {u:I} {r:I} {H':List au} {v:Value} (h:dT P lo mode t H [u]=some (r,H')) (aj:Rel J S w u v) :
  ∃ x,(Instr.loadAt t v).run P w=.ok x w∧a3 B U J S w H' r x w:=by
 unfold dT at h;simp only at h;split at h
 ·simp only [sr,Prod.mk.injEq] at h;obtain ⟨r',h,rfl,rfl⟩:=h;obtain ⟨x,ad,af,aG⟩:=lb ah h aj;exact ⟨x,ad,a3.same ah af aG⟩
 ·split at h
  ·simp only [sr,Prod.mk.injEq] at h;obtain ⟨r',h,rfl,rfl⟩:=h;obtain ⟨x,ad,af,aG⟩:=lb (t:=t) ah (by simpa only [dW] using h) aj;exact ⟨x,ad,a3.same ah af aG⟩
  ·simp at h
 ·split at h
  ·rename_i e id off ax;split at h
   ·rename_i l aE;split at h
    ·rename_i i g n z cZ;cases h;exact Fl ah ax aE cZ aj
    ·rename_i cZ;cases h
     have:dW P H t (.ptr id off)=some (.ay [] 0 .full):=by simp [dW,aE,ez,dN,ax,cZ,I.view]
     obtain ⟨x,ad,af,aG⟩:=lb ah this aj;exact ⟨x,ad,a3.same ah af aG⟩
    ·simp at h
   ·simp at h
  ·simp at h
 ·split at h
  ·rename_i e id off ax;split at h
   ·split at h
    ·rename_i l aE;split at h
     ·rename_i c n z cZ;cases h;exact A0 ah ax aE cZ aj
     ·rename_i c n z cZ;split at h
      ·split at h
       ·simp at h
       ·rename_i aN;cases h;exact FB ah ax aN aE cZ aj
      ·cases h;obtain ⟨_,x,_,_,_,ad,af⟩:=A1 ah ax aE cZ aj;exact ⟨x,ad,af⟩
     ·rename_i bI c2 iV cZ;cases h
      have:dW P H t (.ptr id off)=some bI.view:=by simp [dW,aE,ez,dN,ax,cZ]
      obtain ⟨x,ad,af,aG⟩:=lb ah this aj;exact ⟨x,ad,a3.same ah af aG⟩
     ·simp at h
    ·rename_i l g cX aE;have aU:=(ss.1 aE).1;split at h
     ·rename_i c n z cZ;cases h;obtain ⟨b,cur,cP,aB,aH,aR,bm,bf,bj,cap,c4,dd,dI,fC⟩:=ah.obj id _ aE;obtain ⟨x,ad,az,b1,S',bT,b6,eI,fR⟩:=A0 (ah.ot aE) ax (by rw [sE aU]) cZ aj;have aO:=eI.xw (g:=g) (z:=cX) (by rw [sE (by simpa using aU)]) (bT _ _ aB) (bT _ _ c4) dd dI aR fC;rw [td,td] at aO;exact ⟨x,ad,az,b1,S',bT,b6,aO,fR⟩
     ·rename_i c n cZ;cases h
      have:dW P H t (.ptr id off)=some (.ay c n .full):=by simp [dW,aE,ez,dN,ax,cZ,I.view]
      obtain ⟨x,ad,af,aG⟩:=lb ah this aj;exact ⟨x,ad,a3.same ah af aG⟩
     ·simp at h
    ·simp at h
   ·simp at h
  ·simp at h
theorem AY (ah:aL B U J S w H) {lo:Nat} {b:Builtin} {ts:Array TypeId} (ty:TypeId) (cs:Array Bool) {us:List I} {r:I} {H':List au} {vs:List Value} (h:eA P lo b ts H us=some (r,H'))
  (ae:a' (fun i=>.arg i) U J S w us vs):∃ y w',(builtin b ts ty cs vs.toArray).run P w=.ok (.value y) w'∧a3 B U J S w H' r y w':=by
 have one:∀ {u:I},us=[u]→∃ v,vs=[v]∧Rel J S w u v:=fun {u} e=>by
  subst e
  match vs,ae with
  | [v],ae=>exact ⟨v,rfl,ae.rel 0 u v rfl rfl⟩
  | [],ae=>exact absurd ae.len (by simp)
  | _::_::_,ae=>exact absurd ae.len (by simp)
 have two:∀ {u x:I},us=[u,x]→∃ v y,vs=[v,y]∧Rel J S w u v∧aW U J S w (.arg 0) u v∧Rel J S w x y∧aW U J S w (.arg 1) x y:=fun {u x} e=>by
  subst e
  match vs,ae with
  | [v,y],ae=>exact ⟨v,y,rfl,ae.rel 0 u v rfl rfl,ae.own 0 u v rfl rfl,ae.rel 1 x y rfl rfl,ae.own 1 x y rfl rfl⟩
  | [],ae=>exact absurd ae.len (by simp)
  | [_],ae=>exact absurd ae.len (by simp)
  | _::_::_::_,ae=>exact absurd ae.len (by simp)
 unfold eA at h;split at h
 ·
  unfold jc at h;split at h
  ·rename_i s x;split at h
   ·rename_i t dt g_;(have g_:ts=#[t,dt]:=by rw [←uR (xs:=ts),g_]);subst g_;simp only [sr,Prod.mk.injEq] at h;obtain ⟨r',h,rfl,rfl⟩:=h;obtain ⟨v,y,rfl,r1,bD,r2,bS⟩:=two rfl;obtain ⟨z,w',ad,af⟩:=AW ah ty (eT _) (eU _) (eT _) (eU _) (by simp) h r1 bD r2 bS;exact ⟨z,w',by simp [builtin,ad],af⟩
   ·simp at h
  ·simp at h
 ·
  match us with
  | [u] =>
    obtain ⟨v,rfl,r1⟩:=one rfl;obtain ⟨y,ad,af⟩:=Fj ah (ts:=ts) ty h r1;exact ⟨y,w,by simp [builtin,ad],af⟩
  | []=>simp [hj] at h
  | _::_::_=>simp [hj] at h
 ·
  match us with
  | [u] =>
    obtain ⟨v,rfl,r1⟩:=one rfl;obtain ⟨y,ad,af⟩:=Fe ah (ts:=ts) ty h r1;exact ⟨y,w,by simp [builtin,ad],af⟩
  | []=>simp [j2] at h
  | _::_::_=>simp [j2] at h
 ·
  match us with
  | [u,x] =>
    obtain ⟨v,y,rfl,r1,bD,r2,bS⟩:=two rfl;obtain ⟨z,w',ad,af⟩:=Fg ah (ts:=ts) ty (eT _) (eU _) h r1 r2 bS;exact ⟨z,w',by simp [builtin,ad],af⟩
  | []=>simp [j3] at h
  | [_]=>simp [j3] at h
  | _::_::_::_=>simp [j3] at h
 ·
  match us with
  | [u] =>
    obtain ⟨v,rfl,r1⟩:=one rfl;obtain ⟨y,w',ad,af⟩:=Ff ah (ts:=ts) ty h r1;exact ⟨y,w',by simp [builtin,ad],af⟩
  | []=>simp [k1] at h
  | _::_::_=>simp [k1] at h
 ·
  match us with
  | [u,x] =>
    obtain ⟨v,y,rfl,r1,_,r2,_⟩:=two rfl;obtain ⟨z,w',ad,af⟩:=Fh ah (ts:=ts) ty h r1 r2;exact ⟨z,w',by simp [builtin,ad],af⟩
  | []=>simp [hI] at h
  | [_]=>simp [hI] at h
  | _::_::_::_=>simp [hI] at h
 ·simp only [sr,Prod.mk.injEq] at h;obtain ⟨r',h,rfl,rfl⟩:=h;obtain ⟨y,ad,af,aG⟩:=Fu (P:=P) ts ty h ae;exact ⟨y,w,by simp [builtin,ad],a3.same ah af aG⟩
 ·simp only [sr,Prod.mk.injEq] at h;obtain ⟨r',h,rfl,rfl⟩:=h;obtain ⟨y,ad,af,aG⟩:=Ft (P:=P) ts ty h ae;exact ⟨y,w,by simp [builtin,ad],a3.same ah af aG⟩
 ·simp at h
end
end Go.Proofs.YtfakoboiahbhaaaGreat.Ab


namespace Go.Proofs.YtfakoboiahbhaaaGreat.Ab
open Go
section
variable {P:Program} {B:Nat} {J:List Nat} {w:World} {H:List au} {U:Nat→Option aI} {S:Nat→Nat→Prop}
theorem a'.tail {bC:Nat→aI} {us:List I} {vs:List Value} {u:I} {v:Value} (h:a' bC U J S w (u::us) (v::vs)):a' (fun i=>bC (i+1)) U J S w us vs :=
 ⟨by simpa using h.len,fun i a b cg ag=>h.rel (i+1) a b (by simpa using cg) (by simpa using ag),fun i a b cg ag=>h.own (i+1) a b (by simpa using cg) (by simpa using ag)⟩
theorem k5 {bC:Nat→aI} {us:List I} {vs:List Value} (ae:a' bC U J S w us vs) {aT:Operand→Value} (i:Nat) (l:Option Operand) (ak:∀ x,l=some x→vs[i]?=some (aT x)) :
  eM J S w (dr us i l) (l.map aT):=by
 cases l with
 | none=>trivial
 | some x =>
   have ad:=ak x rfl;(have af:i<us.length:=by rw [ae.len];exact (ss.1 ad).1);simp only [dr,sI af,sB];exact ae.rel i _ _ (sI af) ad
theorem eM.mono {S':Nat→Nat→Prop} (cp:∀ b o,S b o→S' b o) {a:Option I} {b:Option Value} (h:eM J S w a b):eM J S' w a b:=by
 cases a <;> cases b <;> first | exact h | exact Rel.mono (Ext.refl J) (fun b o h=>⟨cp b o h,rfl⟩) h
theorem FC (ah:aL B U J S w H) {aT:Operand→Value} {t:TypeId} {x:Operand} {l h m:Option Operand} {u:I} {vs:List I} {r:I} {i1 i2:Nat}
  (aq:eY P t u.view (dr vs 0 l) (dr vs i1 h) (dr vs i2 m)=some r) (ad:i1=l.toList.length) (af:i2=l.toList.length+h.toList.length)
  (iy:Rel J S w u (aT x)) (iq:aW U J S w (.arg 0) u (aT x)) {bC:Nat→aI} (ed:a' bC U J S w vs ((l.toList++h.toList++m.toList).map aT)) :
  ∃ v,(Instr.sliceAt t (aT x) (l.map aT) (h.map aT) (m.map aT)).run P w=.ok v w∧a3 B U J S w H r v w:=by
 obtain ⟨S',aJ,aP,cf,r1⟩:=mA ah (eT _) (eU _) iy iq;obtain ⟨v,aV,aX,cB⟩:=EO (J:=J) (S:=S') (w:=w) aq (I.dk u) r1
  ((k5 (aT:=aT) ed 0 l (fun y a2=>by subst a2;simp)).mono aJ)
  ((k5 (aT:=aT) ed i1 h (fun y a2=>by subst ad a2;cases l <;> simp)).mono aJ)
  ((k5 (aT:=aT) ed i2 m (fun y a2=>by subst af a2;cases l <;> cases h <;> simp)).mono aJ)
 exact ⟨v,aV,a3.after (Ext.refl J) (bk.settle aJ fun b o h=>(aP b o h).imp id fun h=>⟨_,h⟩) (a3.same cf aX cB)⟩
theorem Fy (ah:aL B U J S w H) {aT:Operand→Value} {t:TypeId} {x:Operand} {l h m:Option Operand} {us:List I} {r:I} (aq:ep P t l h m us=some r)
  (ae:a' (fun i=>.arg i) U J S w us ((x::(l.toList++h.toList++m.toList)).map aT)) :
  ∃ v,(Instr.sliceAt t (aT x) (l.map aT) (h.map aT) (m.map aT)).run P w=.ok v w∧a3 B U J S w H r v w:=by
 match us,ae with
 | [],ae=>exact absurd ae.len (by simp)
 | u::vs,ae =>
   have iy:=ae.rel 0 u _ rfl rfl;have iq:=ae.own 0 u _ rfl rfl;have ed:=ae.tail;unfold ep at aq;dsimp only at aq;split at aq
   ·rename_i cells len z;split at aq
    ·rename_i e a1;simp only [sC,sr] at aq;obtain ⟨s,ai,n,aN,rfl⟩:=aq;have mQ:=k5 (aT:=aT) ed 0 h (fun y a2=>by subst a2;simp);generalize al:aT x=cD at iy iq ⊢;cases iy with
     | b3 c a =>
       obtain ⟨q,aV,aX⟩:=hN (P:=P) (isS:=true) (cap:=0) (lo:=none) (lo':=none) aN rfl (by omega) trivial mQ;(obtain rfl:n=0:=by omega);exact ⟨.slice a 0 0,by cases a <;> simp [Instr.sliceAt,Instr.slice,run_underlying a1,q,run_sizeOf ai,Addr.add],U,J,S,Ext.refl J,bk.refl U S w,ah,by simpa using .b3 _ _,by cases a <;> first | trivial | exact .inl ⟨rfl,rfl,by simp⟩⟩
     | ay _ _ c b o cap f ao hle hu bz b'=>exact absurd rfl (hu _)
     | cN cells len z b o cap =>
       rcases iq with ⟨rfl,rfl,rfl⟩ | ⟨bD,bS,kY,ik,hg,gL,⟨cur,ce,j0,hh,nZ⟩,mG⟩
       ·obtain ⟨q,aV,aX⟩:=hN (P:=P) (isS:=true) (cap:=0) (lo:=none) (lo':=none) aN rfl (by omega) trivial mQ;(obtain rfl:n=0:=by omega);exact ⟨.slice (some ⟨b,o,none⟩) 0 0,by simp [Instr.sliceAt,Instr.slice,run_underlying a1,q,run_sizeOf ai],U,J,S,Ext.refl J,bk.refl U S w,ah,.cN _ _ _ _ _ _,.inl ⟨rfl,rfl,by simp⟩⟩
       ·obtain ⟨q,aV,aX⟩:=hN (P:=P) (isS:=true) (cap:=cap) (lo:=none) (lo':=none) aN rfl (by omega) trivial mQ;simp only at bD j0 mG bS;refine ⟨.slice (some ⟨b,o,none⟩) n cap,by simp [Instr.sliceAt,Instr.slice,run_underlying a1,q,run_sizeOf ai];intro;simp [Addr.add],?_⟩;refine iu ah (eT 0) (eU 0) (.cN _ _ _ _ _ _) (.inr ⟨bD,bS,by omega,ik,hg,?_,⟨cur,ce,j0,hh,fun j u v hu ae=>?_⟩,mG⟩)
        ·rw [List.length_take,gL];exact Nat.min_eq_left (tP _ aX)
        ·rw [th] at hu;split at hu
         ·exact nZ j u v hu ae
         ·simp at hu
    ·simp at aq
   ·
    rename_i cells len z lo gb;split at aq
    ·rename_i e a1;simp only [sC] at aq;obtain ⟨s,ai,aq⟩:=aq;split at aq
     ·rename_i bR;subst bR;simp only [sr] at aq;obtain ⟨n,aN,rfl⟩:=aq;have rl:=k5 (aT:=aT) ed 0 (some lo) (fun y a2=>by cases a2;simp);generalize al:aT x=cD at iy iq ⊢;cases iy with
      | b3 c a =>
        obtain ⟨q,aV,aX⟩:=hN (P:=P) (isS:=true) (cap:=0) (hi:=none) (hi':=none) (len:=0) rfl aN (by omega) rl trivial;simp only [sB,Option.map_none] at q;(obtain rfl:n=0:=by omega);exact ⟨.slice a 0 0,by cases a <;> simp [Instr.sliceAt,Instr.slice,run_underlying a1,q,run_sizeOf ai,Addr.add],U,J,S,Ext.refl J,bk.refl U S w,ah,by simpa using .b3 _ _,by cases a <;> first | trivial | exact .inl ⟨rfl,rfl,by simp⟩⟩
      | ay _ _ c b o cap f ao hle hu bz b' =>
        obtain ⟨q,aV,aX⟩:=hN (P:=P) (isS:=true) (cap:=cap) (hi:=none) (hi':=none) (len:=len) rfl aN hle rl trivial;simp only [sB,Option.map_none] at q;have Co:∀ k,(cells.drop k).take cells.length=cells.drop k:=fun k=>ui (by rw [uq];omega);by_cases et:cap=n
        ·(obtain rfl:n=len:=by omega);rw [et] at q;refine ⟨.slice (some ⟨b,o,none⟩) 0 0,by simp [Instr.sliceAt,Instr.slice,run_underlying a1,q,run_sizeOf ai,et],?_⟩;rw [Nat.sub_self];rcases iq with ⟨aS,Cm,cF⟩ | ⟨bD,bS,kY,ik,hg,gL,j0,⟨cur,ce,hh,nZ⟩,mG⟩
         ·rw [cF,List.drop_nil];exact ⟨U,J,S,Ext.refl J,bk.refl U S w,ah,.ay [] 0 _ b o 0 (fun _=>undef) (by simp) (sx _) (by simp) (by simp) (by simp),.inl ⟨rfl,rfl,rfl⟩⟩
         ·rw [List.drop_eq_nil_of_le (by omega)];exact ⟨U,J,S,Ext.refl J,bk.refl U S w,ah,.ay [] 0 _ b o 0 (fun _=>undef) (by simp) (sx _) (by simp) (by simp) (by simp),.inl ⟨rfl,rfl,rfl⟩⟩
        ·have y4:=Rel.sub (J:=J) (k:=cells.length) (n:=len-n) (cap':=cap-n) (n*s) (.own s) (by simp) (by omega) (by simp) bz b';rw [Co] at y4;refine ⟨.slice (some ⟨b,o+n*s,none⟩) (len-n) (cap-n),by simp [Instr.sliceAt,Instr.slice,run_underlying a1,q,run_sizeOf ai,et,add_lit],?_⟩;rcases iq with ⟨aS,Cm,cF⟩ | ⟨bD,bS,kY,ik,hg,gL,j0,⟨cur,ce,hh,nZ⟩,mG⟩
         ·exfalso;omega
         ·refine iu ah (eT 0) (eU 0) y4 (.inr ⟨bD,trivial,rfl,by omega,by omega,gL,?_,⟨cur,ce,hh,?_⟩,fun cO CV=>mG cO ?_⟩)
          ·rw [uq,j0,Nat.sub_mul]
          ·have e1:n*s≤cap*s:=tP _ (by omega);have cm:(cap-n)*s=cap*s-n*s:=Nat.sub_mul _ _ _;show cur.size=o+n*s+(cap-n)*s;simp only at nZ;omega
          ·have e1:n*s≤len*s:=tP _ aV;simp only [uq] at CV ⊢;omega
     ·simp at aq
    ·simp at aq
   ·
    rename_i id gid len z;split at aq
    ·rename_i e a1;simp only [sC,sr] at aq;obtain ⟨s,ai,n,aN,rfl⟩:=aq;have mQ:=k5 (aT:=aT) ed 0 h (fun y a2=>by subst a2;simp);generalize al:aT x=cD at iy iq ⊢;cases iy with
     | cn _ _ _ _ b cap ag aO hle =>
       obtain ⟨q,aV,aX⟩:=hN (P:=P) (isS:=true) (cap:=cap) (lo:=none) (lo':=none) aN rfl hle trivial mQ;exact ⟨.slice (some ⟨b,0,none⟩) n cap,by simp [Instr.sliceAt,Instr.slice,run_underlying a1,q,run_sizeOf ai];intro;simp [Addr.add],U,J,S,Ext.refl J,bk.refl U S w,ah,.cn _ _ _ _ b cap ag aO (by omega),trivial⟩
    ·simp at aq
   ·exact FC ah aq (by cases l <;> rfl) (by cases l <;> cases h <;> rfl) iy iq ed
theorem Fv {aT:Operand→Value} (eR:∀ v,aT (.const v)=v) {C:b8} {lo mode:Nat} {o:Oper} {us:List I} {r:I} {H':List au} (ah:aL B U J S w H)
  (h:a_ P C lo o mode us H=some (r,H')) (iU:∀ c f,o.op=.call c→c.callee≠.value f)
  (aC:dS o=false→∀ u∈us,u.plain=true) (ae:a' (fun i=>.arg i) U J S w us ((opsOf o).map aT)):eD P aT o w (a3 B U J S w H' r):=by
 have base:(cA P o us).map (·,H)=some (r,H')→dS o=false→eD P aT o w (a3 B U J S w H' r):=fun h ak=>by
  simp only [sr,Prod.mk.injEq] at h;obtain ⟨r',aY,rfl,rfl⟩:=h;exact Fw eR ah aY ak (aC ak) ae
 cases aD:o.op
 case call c =>
  simp only [a_,aD] at h;cases ao:c.callee with
  | builtin b =>
    simp only [ao] at h;have he:opsOf o=c.args.toList:=by
     obtain ⟨BM,args,BH⟩:=c;simp only at ao;subst ao;simp only [opsOf,aD]
    rw [he] at ae;obtain ⟨y,w',ad,af⟩:∃ y w',(builtin b c.argTypes o.type (c.args.map fun | .const _=>true | _=>false) (c.args.toList.map aT).toArray).run P w=.ok (.value y) w'∧a3 B U J S w H' r y w':=by
     cases b
     case append =>
      simp only at h;split at h
      ·exact AY ah o.type _ h ae
      ·match us,h,ae with
       | [u,x],h,ae =>
         obtain ⟨v,bh,e1,r1,bD,ae⟩:=ae.gU;obtain ⟨y,bh,cm,r2,bS,ae⟩:=ae.gU;cases bh with
         | cons=>exact absurd ae.len (by simp)
         | nil =>
         obtain ⟨z,w',ad,af⟩:=E9 ah o.type (eT _) (eU _) (eT _) (eU _) (by simp) h r1 bD r2 bS;rw [e1,cm];exact ⟨z,w',by simp [builtin,ad],af⟩
     all_goals exact AY ah o.type _ h ae
    refine .inl ⟨y,w',?_,af⟩;simp only [Go.execOp,aD,resolve,ao,Sem.run_bind,Sem.run_pure,Result.andThen_ok,invoke];rw [←ad,←vQ,uR];rfl
  | value f=>exact absurd ao (iU c f aD)
  | invoke x n=>simp [ao] at h
 all_goals (have bg:=ae;rw [xn (by simp [aD])] at bg;simp only [aD,Op.operands] at bg)
 case move x =>
  simp only [a_,aD] at h;exact .inl ⟨aT x,w,by simp [Go.execOp,aD],AZ ah eR h bg⟩
 case assign x =>
  simp only [a_,aD] at h;exact .inl ⟨aT x,w,by simp [Go.execOp,aD],AZ ah eR h bg⟩
 case load t a =>
  simp only [a_,aD] at h;obtain ⟨u,rfl,r1,_⟩:=a'.one (x:=a) (by simpa using bg);obtain ⟨x,ad,af⟩:=Fk ah h r1;exact .inl ⟨x,w,by simp [Go.execOp,aD,ad],af⟩
 case store t a x =>
  simp only [a_,aD] at h;obtain ⟨u,v,rfl,r1,bD,r2,bS⟩:=a'.two (x:=a) (y:=x) (by simpa using bg);unfold hJ at h;simp only at h;split at h
  ·simp only [sr,Prod.mk.injEq] at h;obtain ⟨H1,h,rfl,rfl⟩:=h;obtain ⟨w',ad,af⟩:=Fz ah (eT _) (eU _) h r1 r2 bS undef;exact .inr ⟨w',by simp [Go.execOp,aD,ad],af⟩
  ·simp only [sr,Prod.mk.injEq] at h;obtain ⟨H1,h,rfl,rfl⟩:=h;obtain ⟨w',ad,af⟩:=FA ah (eT _) (eU _) h r1 r2 bS undef;exact .inr ⟨w',by simp [Go.execOp,aD,ad],af⟩
 case box e x =>
  simp only [a_,aD] at h;obtain ⟨u,rfl,r1,bD⟩:=a'.one (x:=x) (by simpa using bg);unfold gM at h;simp only at h;split at h
  ·simp only [sr,Prod.mk.injEq] at h;obtain ⟨vc,h,rfl,rfl⟩:=h;obtain ⟨y,w',ad,af⟩:=E' (P:=P) ah (eT _) (eU _) h r1 bD e;exact .inl ⟨y,w',by simp [Go.execOp,aD,ad],af⟩
  ·split at h
   ·rename_i vc fN;split at h
    ·rename_i aC;cases h;obtain ⟨y,w',ad,af⟩:=Fa (P:=P) ah fN aC r1 e;exact .inl ⟨y,w',by simp [Go.execOp,aD,ad],af⟩
    ·simp at h
   ·simp at h
 case alloc t =>
  simp only [a_,aD] at h;unfold k0 at h;split at h
  ·simp only [sr,Prod.mk.injEq] at h;obtain ⟨z,h,rfl,rfl⟩:=h;obtain ⟨y,w',ad,af⟩:=E7 ah h (.tuple #[]);exact .inl ⟨y,w',by simp [Go.execOp,aD,ad],af⟩
  ·split at h
   ·rename_i e bp he;simp only [sr,Prod.mk.injEq] at h;obtain ⟨s,_,rfl,rfl⟩:=h;obtain ⟨y,w',ad,af⟩:=E8 (s:=s) ah bp (.tuple #[]);exact .inl ⟨y,w',by simp [Go.execOp,aD,ad],af⟩
   ·simp at h
 case buildSlice t len parts =>
  simp only [a_,aD] at h;split at h
  ·exact base h (by simp [dS,aD])
  ·simp only [sr,Prod.mk.injEq] at h;obtain ⟨⟨cs,s⟩,h,rfl,rfl⟩:=h;obtain ⟨v,w',aV,aX⟩:=Fc eR ah aD h (aC (by simp [dS,aD])) ae;exact .inl ⟨v,w',aV,aX⟩
 case makeSlice t a b =>
  simp only [a_,aD] at h;obtain ⟨u,v,rfl,r1,_,r2,_⟩:=a'.two (x:=a) (y:=b) (by simpa using bg);unfold j4 at h;split at h
  ·rename_i k n k' c heq;simp at heq;obtain ⟨rfl,rfl⟩:=heq;split at h
   ·rename_i ao;have e1:=r1.df;have cm:=r2.df;split at h
    ·simp only [sr,Prod.mk.injEq] at h;obtain ⟨z,h,rfl,rfl⟩:=h;obtain ⟨y,w',ad,af⟩:=Fp (k:=k) (k':=k') ah ao.1 ao.2 h;exact .inl ⟨y,w',by simp [Go.execOp,aD,e1,cm,ad],af⟩
    ·split at h
     ·rename_i iU;simp only [sr,Prod.mk.injEq] at h;obtain ⟨z,h,rfl,rfl⟩:=h;obtain ⟨rfl,aS⟩:=iU;obtain ⟨y,w',ad,af⟩:=Fq (k:=k) (k':=k') ah aS h;exact .inl ⟨y,w',by simp [Go.execOp,aD,e1,cm,ad],af⟩
     ·simp at h
   ·simp at h
  ·simp at h
 case makeMap t r =>
  simp only [a_,aD] at h;obtain ⟨x,w',ad,rfl,af⟩:=Fo (P:=P) ah h;exact .inl ⟨x,w',by simp [Go.execOp,aD,ad],af⟩
 case mapUpdate t m k v =>
  simp only [a_,aD] at h;have aC:=aC (by simp [dS,aD]);obtain ⟨jl,ki,lh,rfl,e6,bP,od⟩:∃ jl ki lh,us=[jl,ki,lh]∧Rel J S w jl (aT m)∧Rel J S w ki (aT k)∧Rel J S w lh (aT v):=by
   match us,bg with
   | [jl,ki,lh],bg=>exact ⟨jl,ki,lh,rfl,bg.rel 0 _ _ rfl rfl,bg.rel 1 _ _ rfl rfl,bg.rel 2 _ _ rfl rfl⟩
   | [],bg=>exact absurd bg.len (by simp)
   | [_],bg=>exact absurd bg.len (by simp)
   | [_,_],bg=>exact absurd bg.len (by simp)
   | _::_::_::_::_,bg=>exact absurd bg.len (by simp)
  obtain ⟨w',ad,af⟩:=Fs ah h e6 bP (aC ki (by simp)) od (aC lh (by simp)) undef;exact .inr ⟨w',by simp [Go.execOp,aD,ad],af⟩
 case lookup t m k ok =>
  simp only [a_,aD] at h;obtain ⟨jl,ki,rfl,e6,_,bP,_⟩:=a'.two (x:=m) (y:=k) (by simpa using bg);obtain ⟨x,ad,af⟩:=Fm ah h e6 bP;exact .inl ⟨x,w,by simp [Go.execOp,aD,ad],af⟩
 case range t m =>
  simp only [a_,aD] at h;obtain ⟨jl,rfl,e6,_⟩:=a'.one (x:=m) (by simpa using bg);obtain ⟨x,w',ad,af⟩:=Fx ah h e6;exact .inl ⟨x,w',by simp [Go.execOp,aD,ad],af⟩
 case entry m =>
  simp only [a_,aD] at h;obtain ⟨jl,rfl,e6,_⟩:=a'.one (x:=m) (by simpa using bg);obtain ⟨x,ad,af⟩:=Fi (P:=P) ah h e6;exact .inl ⟨x,w,by simp [Go.execOp,aD,ad],af⟩
 case slice t x l bK m =>
  simp only [a_,aD,cA,sr,Prod.mk.injEq] at h;obtain ⟨r',h,rfl,rfl⟩:=h;obtain ⟨v,ad,af⟩:=Fy (x:=x) ah h (by simpa using bg);exact .inl ⟨v,w,by simp [Go.execOp,aD,ad],af⟩
 all_goals exact base (by simpa only [a_,aD] using h) (by simp [dS,aD])
end
end Go.Proofs.YtfakoboiahbhaaaGreat.Ab


namespace Go.Proofs.YtfakoboiahbhaaaGreat.Ab
open Go
def dp (U:Nat→Option aI):Nat→Option aI:=fun b=>match U b with
 | some (.slot _)=>none
 | x=>x
def back (U bq:Nat→Option aI) (d:Option Nat):Nat→Option aI:=fun b=>match U b with
 | some (.slot i)=>if d=some i then none else some (.slot i)
 | _=>match bq b with
   | some .res=>d.map .slot
   | some (.obj id)=>some (.obj id)
   | some (.cell id j)=>some (.cell id j)
   | _=>none
def Marks (N:Nat) (U:Nat→Option aI) (w:World) (ds:List Deferred):Prop :=
 N≤w.heap.size∧(∀ d∈ds,∃ r,d.target=.collected r∧N≤r∧U r=none∧w.heap[r]?=some (.deferred (some [])))∧ds.Pairwise (fun a b=>a.target≠b.target)
structure cv (B N:Nat) (U:Nat→Option aI) (J:List Nat) (S:Nat→Nat→Prop) (w:World) (s:a7) (a:Act):Prop where
 T:a' .slot U J S w s.T a.tmps.toList
 H:aL B U J S w s.H
 M:Marks N U w a.defers
def Step (B N:Nat) (U:Nat→Option aI) (J:List Nat) (S:Nat→Nat→Prop) (w:World) (aF:a7) (aM:Act) (w':World):Prop :=
 ∃ az b1 S',Ext J b1∧bk U S w az S' w'∧cv B N az b1 S' w' aF aM
section
variable {P:Program} {B N:Nat} {J:List Nat} {w:World} {H:List au} {U:Nat→Option aI} {S:Nat→Nat→Prop}
theorem Marks.aA {az:Nat→Option aI} {S':Nat→Nat→Prop} {w':World} {ds:List Deferred} (h:Marks N U w ds) (aA:bk U S w az S' w'):Marks N az w' ds:=⟨sW h.1 aA.size,fun d a1=>by
 obtain ⟨r,ad,af,aG,a8⟩:=h.2.1 d a1;have aj:r<w.heap.size:=(tp.1 a8).1;refine ⟨r,ad,af,?_,(aA.cG r aj aG).trans a8⟩;cases bN:az r with
 | none=>rfl
 | some l =>
   rcases aA.own r (by simp [bN]) with bX | bX
   ·exact absurd aG bX
   ·omega,h.2.2⟩
theorem nv {b:Nat} (h:U b=none):dp U b=none:=by simp [dp,h]
theorem pv {b i:Nat} (h:U b=some (.slot i)):dp U b=none:=by simp [dp,h]
theorem yN {b:Nat} {l:aI} (h:U b=some l) (ak:∀ i,l≠.slot i):dp U b=some l:=by
 cases l <;> first | (simp only [dp,h];done) | exact absurd rfl (ak _)
theorem yO {b:Nat} {l:aI} (h:dp U b=some l):U b=some l∧∀ i,l≠.slot i:=by
 unfold dp at h;split at h
 ·simp at h
 ·rename_i aN;exact ⟨h,fun i e=>by subst e;exact aN i h⟩
theorem CC (b i:Nat):dp U b≠some (.slot i):=fun h=>(yO h).2 i rfl
theorem BJ {bq:Nat→Option aI} {d:Option Nat} {b i:Nat} (h:U b=some (.slot i)) (a1:d≠some i):back U bq d b=some (.slot i):=by simp [back,h,a1]
theorem mg (ah:aL B U J S w H):aL B (dp U) J S w H:=by
 refine ⟨ah.cH,fun id o aq=>?_,ah.ch,fun b l ag=>ah.base b l (yO ag).1,ah.c1⟩;refine (ah.obj id o aq).frame (Ext.refl J) (fun _ _ h=>⟨h,rfl⟩) fun b l ag ak=>⟨yN ag ?_,rfl,fun _ h=>h⟩;rcases ak with rfl | ⟨j,rfl⟩ <;> simp
theorem Be {us:List I} {vs:List Value} (h:a' (fun i=>.arg i) U J S w us vs):a' (fun i=>.arg i) (dp U) J S w us vs :=
 ⟨h.len,h.rel,fun i u v hu ae=>(h.own i u v hu ae).mono (Ext.refl J) (fun _ _ h=>⟨h,rfl⟩) fun b ag=>⟨yN ag (by simp),rfl,fun _ h=>h⟩⟩
theorem zX (a:Act) (d:Option Tmp) (v:Value):(a.put d v).tmps.toList=match d with | some d=>a.tmps.toList.set d v | none=>a.tmps.toList:=by
 cases d <;> simp [Act.put]
theorem put_defers (a:Act) (d:Option Tmp) (v:Value):(a.put d v).defers=a.defers:=by
 cases d <;> rfl
theorem zL {T:List I} {a:Act} {H':List au} {r:I} {v:Value} {w':World} (dst:Option Tmp) (aK:cv B N U J S w ⟨T,H⟩ a) {bq:Nat→Option aI} {cj:List Nat} {bJ:Nat→Nat→Prop}
  (bM:Ext J cj) (ea:bk (dp U) S w bq bJ w') (cr:aL B bq cj bJ w' H') (aj:Rel cj bJ w' r v) (aq:aW bq cj bJ w' .res r v) :
  bk U S w (back U bq dst) bJ w'∧cv B N (back U bq dst) cj bJ w' ⟨put T dst r,H'⟩ (a.put dst v):=by
 have pb:∀ b l,U b=some l→b<w.heap.size:=fun b l h=>(aK.H.base b l h).2;have kH:∀ b l,bq b=some l→∀ i,U b≠some (.slot i):=fun b l h i ai=>by
  rcases ea.own b (by simp [h]) with ad | ad
  ·exact ad (pv ai)
  ·have:=pb b _ ai;omega
 have yG:∀ b l,bq b=some l→back U bq dst b=match l with | .res=>dst.map .slot | .obj id=>some (.obj id) | .cell id j=>some (.cell id j) | _=>none:=fun b l h=>by
  unfold back;split
  ·rename_i i ai;exact absurd ai (kH b l h i)
  ·rw [h];cases l <;> rfl
 have aA:bk U S w (back U bq dst) bJ w':=by
  refine ⟨ea.os,ea.tape,ea.output,ea.size,fun b ag aN=>ea.cG b ag (nv aN),ea.set,fun b o h=>?_,fun b h=>?_⟩
  ·rcases ea.fresh b o h with h | h | h
   ·exact .inl h
   ·exact .inr (.inl fun aN=>h (nv aN))
   ·exact .inr (.inr h)
  ·unfold back at h;split at h
   ·rename_i ai;exact .inl (by simp [ai])
   ·rcases ea.own b (fun aN=>by simp [aN] at h) with ad | ad
    ·exact .inl fun aN=>ad (nv aN)
    ·exact .inr ad
 refine ⟨aA,⟨?_,⟨cr.cH,fun id o aq=>?_,cr.ch,fun b l ag=>?_,cr.c1⟩,?_⟩⟩
 ·have fQ:∀ (i:Nat) (u:I) (x:Value),dst≠some i→T[i]?=some u→a.tmps.toList[i]?=some x→Rel cj bJ w' u x∧aW (back U bq dst) cj bJ w' (.slot i) u x:=fun i u x a1 hu al=>by
   refine ⟨(aK.T.rel i u x hu al).mono bM ea.set,(aK.T.own i u x hu al).mono bM ea.set fun b ag=>⟨BJ ag a1,ea.cG b (pb b _ ag) (pv ag),fun o h=>?_⟩⟩;rcases ea.fresh b o h with h | h | h
   ·exact h
   ·exact absurd (pv ag) h
   ·have:=pb b _ ag;omega
  cases dst with
  | none=>exact ⟨aK.T.len,fun i u x hu al=>(fQ i u x (by simp) hu al).1,fun i u x hu al=>(fQ i u x (by simp) hu al).2⟩
  | some d =>
    have hlen:=aK.T.len;have both:∀ (i:Nat) (u:I) (x:Value),(T.set d r)[i]?=some u→(a.tmps.toList.set d v)[i]?=some x→Rel cj bJ w' u x∧aW (back U bq (some d)) cj bJ w' (.slot i) u x:=fun i u x hu al=>by
     by_cases aE:d=i
     ·subst aE;(have aU:d<T.length:=by have:=(ss.1 hu).1;simpa using this);(have l9:d<a.tmps.toList.length:=by have:=(ss.1 al).1;simpa using this);rw [sE aU] at hu;rw [sE l9] at al;cases hu;cases al;exact ⟨aj,aq.mono (Ext.refl _) (fun _ _ h=>⟨h,rfl⟩) fun b ag=>⟨by rw [yG b _ ag];rfl,rfl,fun _ h=>h⟩⟩
     ·rw [sG aE] at hu al;exact fQ i u x (by simpa using aE) hu al
    refine ⟨by simp [put,gS,Act.put,hlen],?_,?_⟩
    ·intro i u x hu al;simp only [put,gS] at hu;rw [zX] at al;exact (both i u x hu al).1
    ·intro i u x hu al;simp only [put,gS] at hu;rw [zX] at al;exact (both i u x hu al).2
 ·refine (cr.obj id o aq).frame (Ext.refl cj) (fun _ _ h=>⟨h,rfl⟩) fun b l ag ak=>⟨?_,rfl,fun _ h=>h⟩;rw [yG b l ag];rcases ak with rfl | ⟨j,rfl⟩ <;> rfl
 ·unfold back at ag;split at ag
  ·rename_i i ai;have:=aK.H.base b _ ai;exact ⟨this.1,vo this.2 ea.size⟩
  ·cases af:bq b with
   | none=>simp [af] at ag
   | some l'=>exact cr.base b l' af
 ·rw [put_defers];exact aK.M.aA aA
theorem n1 {T:List I} {a:Act} {H':List au} {r:I} {v:Value} {w':World} (dst:Option Tmp) (aK:cv B N U J S w ⟨T,H⟩ a) (aC:a3 B (dp U) J S w H' r v w')
  (u:I) (hu:∀ bq cj bJ,Rel cj bJ w' r v→aW bq cj bJ w' .res r v→Rel cj bJ w' u v) :
  ∃ az b1 S',Ext J b1∧bk U S w az S' w'∧cv B N az b1 S' w' ⟨put T dst r,H'⟩ (a.put dst v)∧Rel b1 S' w' u v:=by
 obtain ⟨bq,cj,bJ,bM,ea,cr,aj,aq⟩:=aC;obtain ⟨ad,af⟩:=zL dst aK bM ea cr aj aq;exact ⟨_,cj,bJ,bM,ad,af,hu bq cj bJ aj aq⟩
theorem Step.trans {b4:Nat→Option aI} {cT:List Nat} {a6:Nat→Nat→Prop} {bF:World} (bM:Ext J cT) (aA:bk U S w b4 a6 bF) {aF:a7} {aM:Act} {w':World} (h:Step B N b4 cT a6 bF aF aM w') :
  Step B N U J S w aF aM w' :=
 let ⟨az,b1,S',aJ,aP,cl⟩:=h
 ⟨az,b1,S',bM.trans aJ,aA.trans aP,cl⟩
theorem a'.swap {bC:Nat→aI} {T:List I} {bh:List Value} (h:a' bC U J S w T bh) (t:Nat) {u:I} (hu:u.plain=true) (aj:∀ v,bh[t]?=some v→Rel J S w u v):a' bC U J S w (T.set t u) bh:=by
 refine ⟨by simpa using h.len,fun i x v al ae=>?_,fun i x v al ae=>?_⟩
 ·by_cases hi:t=i
  ·subst hi;(have aU:t<T.length:=by have:=(ss.1 al).1;simpa using this);rw [sE aU] at al;cases al;exact aj v ae
  ·rw [sG hi] at al;exact h.rel i x v al ae
 ·by_cases hi:t=i
  ·subst hi;(have aU:t<T.length:=by have:=(ss.1 al).1;simpa using this);rw [sE aU] at al;cases al;exact aW.b5 hu
  ·rw [sG hi] at al;exact h.own i x v al ae
end
end Go.Proofs.YtfakoboiahbhaaaGreat.Ab


namespace Go.Proofs.YtfakoboiahbhaaaGreat.Ab
open Go
section
variable {P:Program} {B N:Nat} {J:List Nat} {w:World} {H:List au} {U:Nat→Option aI} {S:Nat→Nat→Prop}
theorem Rel.narrow {cj:List Nat} {bJ:Nat→Nat→Prop} {bV:World} (bM:Ext J cj) {u:I} {v v2:Value} (h:Rel J S w u v) (af:Rel cj bJ bV u v2):Rel J bJ bV u v2:=by
 induction h generalizing v2 with
 | junk v=>exact .junk v2
 | bool b=>cases af;exact .bool b
 | du b=>cases af;exact .du _
 | int k n=>cases af;exact .int k n
 | str s=>cases af;exact .str s
 | eH=>cases af;exact .eH
 | ptr id off b h =>
   cases af with
   | ptr _ _ cL k=>rw [bM _ _ h] at k;cases k;exact .ptr id off b h
 | cn id gid len z b cap h aO hle =>
   cases af with
   | cn _ _ _ _ cL oL k zh _ =>
     rw [bM _ _ h] at k;cases k;rw [bM _ _ aO] at zh;cases zh;exact .cn id gid len z b cap h aO hle
 | bW cells b o f h aj bb =>
   cases af with
   | bW _ b o f k eS=>exact .bW cells b o f k fun j u aw=>bb j u aw (eS j u aw)
 | b3 c a =>
   cases af with
   | b3 c a=>exact .b3 c a
   | ay _ _ _ b o cap f ao hle hu k eS=>exact .ay [] 0 c b o cap f ao hle hu k fun j u aw=>by simp at aw
   | cN _ _ z b o cap=>exact .cN _ _ z b o cap
 | ay cells len c b o cap f ao hle hu h aj bb =>
   cases af with
   | b3 c a=>exact .b3 c a
   | ay _ _ _ b o cap f ao hle hu k eS=>exact .ay cells len c b o cap f ao hle hu k fun j u aw=>bb j u aw (eS j u aw)
   | cN _ _ z b o cap=>exact .cN _ _ z b o cap
 | raw cells len z b o cap =>
   cases af with
   | raw _ _ _ b o cap=>exact .raw _ _ z b o cap
 | cN cells len z b o cap =>
   cases af with
   | b3 c a=>exact .b3 _ _
   | ay _ _ _ b o cap f ao hle hu k eS=>exact absurd rfl (hu z)
   | cN _ _ z b o cap=>exact .cN _ _ z b o cap
 | ref id off len c sz b cap h ao hle =>
   cases af with
   | ref _ _ _ _ _ cL oL k Dl Dp=>rw [bM _ _ h] at k;cases k;exact .ref id off len c sz b oL h Dl Dp
 | func f as bs vs ws ad Gc bT b6 r1 r2 i1 i2 =>
   cases af with
   | func _ _ _ mZ FY aJ aP _ _ aV aX =>
     refine .func f as bs mZ FY aJ aP bT b6 (fun j u v hu ae=>?_) (fun j u v hu ae=>?_)
     ·(have aw:j<vs.size:=by have:=(ss.1 hu).1;omega);exact i1 j u vs[j] hu (sT aw) (aV j u v hu ae)
     ·(have aw:j<ws.size:=by have:=(ss.1 hu).1;omega);exact i2 j u ws[j] hu (sT aw) (aX j u v hu ae)
 | yield id b h =>
   cases af with
   | yield _ cL k=>rw [bM _ _ h] at k;cases k;exact .yield id b h
 | map id b h =>
   cases af with
   | map _ cL k=>rw [bM _ _ h] at k;cases k;exact .map id b h
 | agg as vs h p one r bb =>
   cases af with
   | agg _ mZ k _ D4 q =>
     refine .agg as mZ k p D4 fun j u v hu ae=>?_;(have aw:j<vs.size:=by have:=(ss.1 hu).1;omega);exact bb j u vs[j] hu (sT aw) (q j u v hu ae)
 | tuple as vs h p r bb =>
   cases af with
   | tuple _ mZ k _ q =>
     refine .tuple as mZ k p fun j u v hu ae=>?_;(have aw:j<vs.size:=by have:=(ss.1 hu).1;omega);exact bb j u vs[j] hu (sT aw) (q j u v hu ae)
theorem jY {f:I→Option I}:∀ {xs ys:List I},eh f xs=some ys→ys.length=xs.length∧∀ (j:Nat) (y:I),ys[j]?=some y→∃ x,xs[j]?=some x∧f x=some y
 | [],ys,h=>by simp [eh] at h;subst h;simp
 | x::xs,ys,h=>by
   simp only [eh] at h;split at h
   ·rename_i y a2;simp only [sr] at h;obtain ⟨ys,h,rfl⟩:=h;obtain ⟨ad,af⟩:=jY h;refine ⟨by simp [ad],fun j z bp=>?_⟩;cases j with
    | zero=>simp at bp;subst bp;exact ⟨x,rfl,a2⟩
    | succ j=>simpa using af j z (by simpa using bp)
   ·simp at h
theorem h4 {lo id0 n d:Nat} {u r:I} (h:bL H lo id0 n d u=some r):(u.plain=true→r.plain=true)∧(u.cW=true→r.cW=true):=by
 cases d with
 | zero=>simp [bL] at h
 | succ d =>
   unfold bL at h;split at h
   ·simp only [sr] at h;rename_i c;obtain ⟨cs,_,rfl⟩:=h;cases c <;> exact ⟨fun h=>h,fun h=>h⟩
   ·simp only [sr] at h;obtain ⟨cs,_,rfl⟩:=h;exact ⟨fun h=>rfl,fun h=>rfl⟩
   ·simp only [sr] at h;obtain ⟨cs,_,rfl⟩:=h;exact ⟨fun h=>rfl,fun h=>rfl⟩
   ·simp only [sr] at h;obtain ⟨cs,_,rfl⟩:=h;exact ⟨fun h=>rfl,fun h=>rfl⟩
   ·split at h <;> simp at h;subst h;exact ⟨fun h=>rfl,fun h=>rfl⟩
   ·split at h
    ·simp at h;subst h;exact ⟨fun h=>rfl,fun h=>rfl⟩
    ·split at h
     ·simp at h;subst h;exact ⟨fun h=>rfl,fun h=>rfl⟩
     ·split at h
      ·simp only [sr] at h;obtain ⟨cs,_,rfl⟩:=h;exact ⟨fun h=>rfl,fun h=>rfl⟩
      ·simp at h
   ·split at h
    ·simp at h;subst h;exact ⟨fun h=>rfl,fun h=>rfl⟩
    ·split at h
     ·simp at h;subst h;exact ⟨fun h=>rfl,fun h=>rfl⟩
     ·split at h
      ·simp only [sr] at h;obtain ⟨cs,_,rfl⟩:=h;rename_i cap _ _ _ _ _ _;constructor <;> intro _ <;> (unfold g2;split <;> (try split) <;> rfl)
      ·simp at h
   ·split at h <;> simp at h;subst h;exact ⟨fun h=>rfl,fun h=>rfl⟩
   ·split at h
    ·simp at h;subst h;exact ⟨fun h=>rfl,fun h=>rfl⟩
    ·split at h <;> simp at h;subst h;exact ⟨fun h=>rfl,fun h=>rfl⟩
   ·simp at h
   ·simp at h
   ·simp at h;subst h;exact ⟨fun h=>h,fun h=>h⟩
theorem B1 {cap:Option Nat} {n m:Nat} (ao:∀ k,cap=some k→m=k) (h:g2 cap n=.full):m=n:=by
 unfold g2 at h;cases cap with
 | none=>simp at h
 | some c =>
   simp only at h;split at h
   ·rename_i Cl;rw [ao c rfl,Cl]
   ·cases h
theorem yB {cap:Option Nat} {n:Nat} (z:Nat):g2 cap n≠.uniq z:=by
 unfold g2;cases cap with
 | none=>simp
 | some c=>simp only;split <;> simp
def gw (U:Nat→Option aI) (S:Nat→Nat→Prop) (w:World) (lo id0:Nat) (b o:Nat):Prop :=
 S b o∨((∃ id,lo≤id∧id≠id0∧U b=some (.obj id))∧∃ v,w.cell? ⟨b,o,none⟩=some v)
theorem lQ (ah:aL B U J S w H) {lo id0 n:Nat} {gq:List Nat} (bG:∀ (id b:Nat),id<lo→J[id]?=some b→gq[id]?=some b) (aN:∀ b,J[id0]?=some b→gq[n]?=some b) :
  ∀ (d:Nat) (u r:I) (v:Value),bL H lo id0 n d u=some r→Rel J S w u v→Rel gq (gw U S w lo id0) w r v:=by
 intro d
 induction d with
 | zero=>intro u r v h;simp [bL] at h
 | succ d bb =>
   intro u r v h aj;have list:∀ {cells cs:List I} {b o:Nat} {f:Nat→Value},eh (bL H lo id0 n d) cells=some cs →
     (∀ (j:Nat) (u:I),cells[j]?=some u→S b (o+j)∧w.cell? ⟨b,o+j,none⟩=some (f j)∧u.plain=true∧(f j).oneCell'=true) →
     (∀ (j:Nat) (u:I),cells[j]?=some u→Rel J S w u (f j)) →
     (∀ (j:Nat) (u:I),cs[j]?=some u→gw U S w lo id0 b (o+j)∧w.cell? ⟨b,o+j,none⟩=some (f j)∧u.plain=true∧(f j).oneCell'=true) ∧
     (∀ (j:Nat) (u:I),cs[j]?=some u→Rel gq (gw U S w lo id0) w u (f j)):=fun hm ao fu=>by
    obtain ⟨ad,af⟩:=jY hm;refine ⟨fun j y a2=>?_,fun j y a2=>?_⟩
    ·obtain ⟨x,al,aQ⟩:=af j y a2;obtain ⟨bc,bn,bu,b9⟩:=ao j x al;exact ⟨.inl bc,bn,(h4 aQ).1 bu,b9⟩
    ·obtain ⟨x,al,aQ⟩:=af j y a2;exact bb x y _ aQ (fu j x al)
   have arr:∀ {as bs:List I} {vs:Array Value},eh (bL H lo id0 n d) as=some bs→vs.size=as.length→(∀ u∈as,u.plain=true) →
     (∀ (j:Nat) (u:I) (v:Value),as[j]?=some u→vs[j]?=some v→Rel J S w u v) →
     vs.size=bs.length∧(∀ u∈bs,u.plain=true)∧∀ (j:Nat) (u:I) (v:Value),bs[j]?=some u→vs[j]?=some v→Rel gq (gw U S w lo id0) w u v:=fun hm ak aC fu=>by
    obtain ⟨ad,af⟩:=jY hm;refine ⟨by omega,fun y a2=>?_,fun j y v a2 ae=>?_⟩
    ·obtain ⟨j,aw⟩:=tV.1 a2;obtain ⟨x,al,aQ⟩:=af j y aw;exact (h4 aQ).1 (aC x (sY al))
    ·obtain ⟨x,al,aQ⟩:=af j y a2;exact bb x y v aQ (fu j x v al ae)
   cases aj with
   | junk v=>simp only [bL,Option.some.injEq] at h;subst h;exact .junk v
   | bool b=>simp only [bL,Option.some.injEq] at h;subst h;exact .bool b
   | du b=>simp only [bL,Option.some.injEq] at h;subst h;exact .du b
   | int k n=>simp only [bL,Option.some.injEq] at h;subst h;exact .int k n
   | str s=>simp only [bL,Option.some.injEq] at h;subst h;exact .str s
   | eH=>simp only [bL,Option.some.injEq] at h;subst h;exact .eH
   | raw=>simp [bL] at h
   | cn=>simp [bL] at h
   | map id b k =>
     simp only [bL] at h;split at h
     ·rename_i aU;simp only [Option.some.injEq] at h;subst h;exact .map _ b (bG id b aU k)
     ·split at h
      ·rename_i heq;subst heq;simp only [Option.some.injEq] at h;subst h;exact .map _ b (aN b k)
      ·simp at h
   | yield id b k =>
     simp only [bL] at h;split at h
     ·rename_i aU;simp only [Option.some.injEq] at h;subst h;exact .yield _ b (bG id b aU k)
     ·simp at h
   | b3 c a =>
     simp only [bL,sr] at h;obtain ⟨cs,hm,rfl⟩:=h;simp [eh] at hm;subst hm;exact .b3 _ _
   | ay cells len c b o cap f ao hle hu k eS =>
     simp only [bL,sr] at h;obtain ⟨cs,hm,rfl⟩:=h;obtain ⟨dO,kS⟩:=list hm k eS;exact .ay _ _ _ b o cap f ao hle hu dO kS
   | cN cells len z b o cap =>
     simp only [bL,sr] at h;obtain ⟨cs,hm,rfl⟩:=h;exact .cN _ _ z b o cap
   | bW cells b o f k eS =>
     simp only [bL,sr] at h;obtain ⟨cs,hm,rfl⟩:=h;obtain ⟨dO,kS⟩:=list hm k eS;exact .bW _ b o f dO kS
   | agg as vs k p one q =>
     simp only [bL,sr] at h;obtain ⟨cs,hm,rfl⟩:=h;obtain ⟨aB,aH,aR⟩:=arr hm k p q;exact .agg _ vs aB aH one aR
   | tuple as vs k p q =>
     simp only [bL,sr] at h;obtain ⟨cs,hm,rfl⟩:=h;obtain ⟨aB,aH,aR⟩:=arr hm k p q;exact .tuple _ vs aB aH aR
   | func f as bs vs ws aJ aP bT b6 aV aX =>
     simp only [bL] at h;split at h
     ·rename_i cg ag;simp only [Option.some.injEq] at h;subst h;obtain ⟨aB,aH,aR⟩:=arr cg aJ bT aV;obtain ⟨br,cL,eF⟩:=arr ag aP b6 aX;exact .func f _ _ vs ws aB br aH cL aR eF
     ·simp at h
   | ptr id off b k =>
     simp only [bL] at h;split at h
     ·rename_i aU;simp only [Option.some.injEq] at h;subst h;exact .ptr _ _ b (bG id b aU k)
     ·rename_i fe;split at h
      ·rename_i heq;subst heq;simp only [Option.some.injEq] at h;subst h;exact .ptr _ _ b (aN b k)
      ·rename_i bO;split at h
       ·rename_i l aE;simp only [sr] at h;obtain ⟨cs,hm,rfl⟩:=h;obtain ⟨ar,cur,e,aB,aH,aR,bm,bf,bj⟩:=ah.obj id _ aE;rw [k] at aB;cases aB;obtain ⟨dh,di⟩:=jY hm;(have bz:∀ o,o<cur.size→w.cell? ⟨b,o,none⟩=cur[o]?:=fun o aq=>by simp [World.cell?,aR,aq]);have facts:∀ (j:Nat) (y:I),cs[j]?=some y→∃ x c,off+j<cur.size∧cur[off+j]?=some c∧c.oneCell'=true∧x.plain=true∧bL H lo id0 n d x=some y∧Rel J S w x c:=fun j y a2=>by
         obtain ⟨x,al,aQ⟩:=di j y a2;have h7:=(ss.1 al).1;simp at h7;(have ft:off+j<l.length:=by omega);(have ff:off+j<cur.size:=by omega);have ak:l[off+j]?=some l[off+j]:=sI ft;have ae:cur[off+j]?=some cur[off+j]:=sT ff;obtain ⟨bc,bn,bu,b9⟩:=bj (off+j) _ _ ak ae;rw [sN,tq,ak] at al;simp at al;subst al;exact ⟨_,_,ff,ae,bn,I.dk _,aQ,bu.view bc⟩
        refine .bW cs b off (fun j=>cur.getD (off+j) undef) (fun j y a2=>?_) (fun j y a2=>?_)
        ·obtain ⟨x,c,aw,c9,ad,aC,aQ,en⟩:=facts j y a2;(have aO:cur.getD (off+j) undef=c:=by rw [sO,c9];rfl);rw [aO];exact ⟨.inr ⟨⟨id,by omega,bO,aH⟩,c,by rw [bz _ aw,c9]⟩,by rw [bz _ aw,c9],(h4 aQ).1 aC,ad⟩
        ·obtain ⟨x,c,aw,c9,ad,aC,aQ,en⟩:=facts j y a2;(have aO:cur.getD (off+j) undef=c:=by rw [sO,c9];rfl);simp only [aO];exact bb x y c aQ en
       ·simp at h
   | ref id off len cap sz b gE k ao hle =>
     simp only [bL] at h;split at h
     ·rename_i aU;simp only [Option.some.injEq] at h;subst h;exact .ref _ _ _ _ _ b gE (bG id b aU k) ao hle
     ·rename_i fe;split at h
      ·rename_i heq;subst heq;simp only [Option.some.injEq] at h;subst h;exact .ref _ _ _ _ _ b gE (aN b k) ao hle
      ·rename_i bO;split at h
       ·rename_i row cV;simp only [sr] at h;obtain ⟨cs,hm,rfl⟩:=h;unfold rowOf at cV;simp only at cV;split at cV
        ·rename_i l aE;split at cV
         ·rename_i dL;simp only [Option.some.injEq] at cV;obtain ⟨ar,cur,e,aB,aH,aR,bm,bf,bj⟩:=ah.obj id _ aE;rw [k] at aB;cases aB;obtain ⟨dh,di⟩:=jY hm;(have bz:∀ o,o<cur.size→w.cell? ⟨b,o,none⟩=cur[o]?:=fun o aq=>by simp [World.cell?,aR,aq]);have facts:∀ (j:Nat) (y:I),cs[j]?=some y→∃ x c,off+j<cur.size∧cur[off+j]?=some c∧c.oneCell'=true∧x.plain=true∧bL H lo id0 n d x=some y∧Rel J S w x c:=fun j y a2=>by
           obtain ⟨x,al,aQ⟩:=di j y a2;subst cV;have h7:=(ss.1 al).1;simp at h7;(have ft:off+j<l.length:=by omega);(have ff:off+j<cur.size:=by omega);have ak:l[off+j]?=some l[off+j]:=sI ft;have ae:cur[off+j]?=some cur[off+j]:=sT ff;obtain ⟨bc,bn,bu,b9⟩:=bj (off+j) _ _ ak ae;rw [sN,th,if_pos (by omega),tq,ak] at al;simp at al;subst al;exact ⟨_,_,ff,ae,bn,I.dk _,aQ,bu.view bc⟩
          refine .ay cs len _ b off gE (fun j=>cur.getD (off+j) undef) (fun Cw=>B1 ao Cw) hle (fun z=>yB z) (fun j y a2=>?_) (fun j y a2=>?_)
          ·obtain ⟨x,c,aw,c9,ad,aC,aQ,en⟩:=facts j y a2;(have aO:cur.getD (off+j) undef=c:=by rw [sO,c9];rfl);rw [aO];exact ⟨.inr ⟨⟨id,by omega,bO,aH⟩,c,by rw [bz _ aw,c9]⟩,by rw [bz _ aw,c9],(h4 aQ).1 aC,ad⟩
          ·obtain ⟨x,c,aw,c9,ad,aC,aQ,en⟩:=facts j y a2;(have aO:cur.getD (off+j) undef=c:=by rw [sO,c9];rfl);simp only [aO];exact bb x y c aQ en
         ·simp at cV
        ·simp at cV
       ·simp at h
end
end Go.Proofs.YtfakoboiahbhaaaGreat.Ab


namespace Go.Proofs.YtfakoboiahbhaaaGreat.Ab
open Go
def fP (U:Nat→Option aI) (lo id0 n:Nat):Nat→Option aI:=fun b=>match U b with
 | some (.obj id)=>if id<lo then some (.obj id) else if id=id0 then some (.obj n) else none
 | some (.cell id j)=>if id<lo then some (.cell id j) else if id=id0 then some (.cell n j) else none
 | x=>x
section
variable {P:Program} {B N:Nat} {J:List Nat} {w:World} {H:List au} {U:Nat→Option aI} {S:Nat→Nat→Prop}
theorem gx.narrow {bq m1:Nat→Option aI} {cj:List Nat} {bJ ju:Nat→Nat→Prop} {bV:World} (bM:Ext J cj) {id:Nat} {o:au} (h:gx U J S w id o) (af:gx bq cj bJ bV id o)
  (cp:∀ b o,bJ b o→ju b o) (av:∀ b l,bq b=some l→(l=.obj id∨∃ j,l=.cell id j)→m1 b=some l∧∀ o,ju b o→bJ b o):gx m1 J ju bV id o:=by
 cases o with
 | dead=>trivial
 | map es clock =>
   obtain ⟨b,bA,aB,aH,aR,bm,bf,bj⟩:=h;obtain ⟨cL,BW,bc,bn,bu,b9,d',fW⟩:=af;rw [bM _ _ aB] at bc;cases bc;obtain ⟨aJ,aP⟩:=av b _ bn (.inl rfl);refine ⟨b,BW,aB,aJ,bu,b9,fun o aq=>d' o (aP o aq),fun j i k v x hu ae=>?_⟩;(have aw:j<bA.size:=by have:=(ss.1 hu).1;omega);obtain ⟨bT,b6,eI,fR,mK⟩:=bj j i k v bA[j] hu (sT aw);obtain ⟨aV,aX,cB,dU,mO⟩:=fW j i k v x hu ae;exact ⟨aV,aX,(eI.narrow bM cB).mono (Ext.refl J) (fun b o h=>⟨cp b o h,rfl⟩),dU,(mK.narrow bM mO).mono (Ext.refl J) (fun b o h=>⟨cp b o h,rfl⟩)⟩
 | iter m s e t =>
   obtain ⟨b,ei,aB,aH,aR,bm,bf⟩:=h;obtain ⟨cL,F7,bc,bn,bu,b9,d'⟩:=af;rw [bM _ _ aB] at bc;cases bc;rw [bM _ _ aR] at bu;cases bu;obtain ⟨aJ,aP⟩:=av b _ bn (.inl rfl);exact ⟨b,ei,aB,aJ,aR,b9,fun o aq=>d' o (aP o aq)⟩
 | cells l =>
   obtain ⟨b,cur,e,aB,aH,aR,bm,bf,bj⟩:=h;obtain ⟨cL,oO,cm,bc,bn,bu,b9,d',fW⟩:=af;rw [bM _ _ aB] at bc;cases bc;obtain ⟨aJ,aP⟩:=av b _ bn (.inl rfl);refine ⟨b,oO,cm,aB,aJ,bu,b9,fun o aq=>d' o (aP o aq),fun j u v hu ae=>?_⟩;(have aw:j<cur.size:=by have:=(ss.1 hu).1;omega);obtain ⟨bT,b6,eI,fR⟩:=bj j u cur[j] hu (sT aw);obtain ⟨aV,aX,cB,dU⟩:=fW j u v hu ae;refine ⟨aV,aX,(eI.narrow bM cB).mono (Ext.refl J) (fun b o h=>⟨cp b o h,rfl⟩),?_⟩;have hm:=fun b ag=>av b (.cell id j) ag (.inr ⟨j,rfl⟩);unfold aW at dU ⊢;split at dU
   ·rcases dU with dU | ⟨ad,af,aG,a8,bN,bX,cQ,cU,cY⟩
    ·exact .inl dU
    ·exact .inr ⟨(hm _ ad).1,af,aG,a8,bN,bX,cQ,cU,fun o aq ai=>cY o aq ((hm _ ad).2 o ai)⟩
   ·simp [I.cW] at aV
   ·obtain ⟨ad,aS,a8,bN,bX,cQ,ai,⟨cur,e,cU,cY,dD⟩,fq⟩:=dU;have g8:=ai;rw [sS] at g8;exact ⟨(hm _ ad).1,aS,a8,bN,bX,cQ,ai,⟨cur,e,cU,cY,fun j u v hu ae=>⟨(dD j u v hu ae).1,AP (g8 u (sY hu)) (dD j u v hu ae).2⟩⟩,fun o ai=>fq o ((hm _ ad).2 o ai)⟩
   ·trivial
 | grow l gid z =>
   obtain ⟨b,cur,e,aB,aH,aR,bm,bf,bj,cap,c4,dd⟩:=h;obtain ⟨cL,oO,cm,bc,bn,bu,b9,d',fW,oL,m9,m_⟩:=af;rw [bM _ _ aB] at bc;cases bc;rw [bM _ _ c4] at m9;cases m9;obtain ⟨aJ,aP⟩:=av b _ bn (.inl rfl);refine ⟨b,oO,cm,aB,aJ,bu,b9,fun o aq=>d' o (aP o aq),fun j u v hu ae=>?_,cap,c4,m_⟩;(have aw:j<cur.size:=by have:=(ss.1 hu).1;omega);obtain ⟨bT,b6,eI,fR⟩:=bj j u cur[j] hu (sT aw);obtain ⟨aV,aX,cB,dU⟩:=fW j u v hu ae;refine ⟨aV,aX,(eI.narrow bM cB).mono (Ext.refl J) (fun b o h=>⟨cp b o h,rfl⟩),?_⟩;have hm:=fun b ag=>av b (.cell id j) ag (.inr ⟨j,rfl⟩);unfold aW at dU ⊢;split at dU
   ·rcases dU with dU | ⟨ad,af,aG,a8,bN,bX,cQ,cU,cY⟩
    ·exact .inl dU
    ·exact .inr ⟨(hm _ ad).1,af,aG,a8,bN,bX,cQ,cU,fun o aq ai=>cY o aq ((hm _ ad).2 o ai)⟩
   ·simp [I.cW] at aV
   ·obtain ⟨ad,aS,a8,bN,bX,cQ,ai,⟨cur,e,cU,cY,dD⟩,fq⟩:=dU;have g8:=ai;rw [sS] at g8;exact ⟨(hm _ ad).1,aS,a8,bN,bX,cQ,ai,⟨cur,e,cU,cY,fun j u v hu ae=>⟨(dD j u v hu ae).1,AP (g8 u (sY hu)) (dD j u v hu ae).2⟩⟩,fun o ai=>fq o ((hm _ ad).2 o ai)⟩
   ·trivial
 | loop st cI fn T params assign body jz =>
   obtain ⟨al,a2,b,L,aB,aH,aR,bm,bf,bj,c4,dd,dI⟩:=h;obtain ⟨_,_,cL,iD,bc,bn,bu,b9,d',fW,m9,m_,BL⟩:=af;rw [bM _ _ aB] at bc;cases bc;refine ⟨al,a2,b,iD,aB,(av b _ bn (.inl rfl)).1,bu,b9,d',fW,m9,fun i u v hu ae=>?_,BL⟩;(have aw:i<L.tmps.size:=by have:=(ss.1 hu).1;omega);exact ⟨(m_ i u v hu ae).1,(((dd i u L.tmps[i] hu (sT aw)).2).narrow bM (m_ i u v hu ae).2).mono (Ext.refl J) (fun b o h=>⟨cp b o h,rfl⟩)⟩
theorem nQ {lo id0 n b:Nat} {l:aI} (h:U b=some l) (ak:∀ id,(l=.obj id∨∃ j,l=.cell id j)→id<lo):fP U lo id0 n b=some l:=by
 unfold fP;rw [h];cases l with
 | obj id=>simp [ak id (.inl rfl)]
 | cell id j=>simp [ak id (.inr ⟨j,rfl⟩)]
 | _=>rfl
theorem DF {lo id0 n b:Nat} (h:U b=none):fP U lo id0 n b=none:=by simp [fP,h]
theorem oZ {bq:Nat→Option aI} {cj:List Nat} {bJ:Nat→Nat→Prop} {bV:World} {a4:List au} (ah:aL B U J S w H) (bM:Ext J cj) (aA:bk U S w bq bJ bV) (cr:aL B bq cj bJ bV a4)
  (jU:∀ id,id<H.length→a4[id]?=H[id]?) (id0 n:Nat) :
  bk U S w (fP bq H.length id0 n) (gw bq bJ bV H.length id0) bV∧aL B (fP bq H.length id0 n) J (gw bq bJ bV H.length id0) bV H:=by
 have aN:∀ b,fP bq H.length id0 n b≠none→bq b≠none:=fun b h aS=>h (DF aS);refine ⟨⟨aA.os,aA.tape,aA.output,aA.size,aA.cG,fun b o h=>⟨.inl (aA.set b o h).1,(aA.set b o h).2⟩,fun b o h=>?_,fun b h=>aA.own b (aN b h)⟩,⟨ah.cH,fun id o aq=>?_,fun b o h=>?_,fun b l ag=>?_,cr.c1⟩⟩
 ·rcases h with h | ⟨⟨id,_,_,h⟩,_⟩
  ·exact aA.fresh b o h
  ·rcases aA.own b (by simp [h]) with ad | ad
   ·exact .inr (.inl ad)
   ·exact .inr (.inr ad)
 ·have aU:=(ss.1 aq).1;have pI:a4[id]?=some o:=by rw [jU id aU];exact aq
  refine (ah.obj id o aq).narrow bM (cr.obj id o pI) (fun b o h=>.inl h) fun b l ag ak=>⟨nQ ag fun bB dE=>?_,fun o h=>?_⟩
  ·have:bB=id:=by
    rcases ak with rfl | ⟨j,rfl⟩ <;> rcases dE with h | ⟨zc,h⟩ <;> cases h <;> rfl
   omega
  ·rcases h with h | ⟨⟨bB,ad,_,h⟩,_⟩
   ·exact h
   ·rw [ag] at h;rcases ak with rfl | ⟨j,rfl⟩
    ·cases h;omega
    ·cases h
 ·rcases h with h | ⟨_,h⟩
  ·exact cr.ch b o h
  ·exact h
 ·cases h:bq b with
  | none=>simp [fP,h] at ag
  | some l'=>exact cr.base b l' h
theorem ku {cj gq:List Nat} {bV:World} {bq m1:Nat→Option aI} {bJ ju:Nat→Nat→Prop} {l l':aI} (gf:∀ b,bq b=some l→m1 b=some l'∧∀ o,ju b o→bJ b o) {a4:List au} {lo id0 n d:Nat} {u r:I} {v:Value}
  (b':∀ (d:Nat) (u r:I) (v:Value),bL a4 lo id0 n d u=some r→Rel cj bJ bV u v→Rel gq ju bV r v)
  (h:bL a4 lo id0 n d u=some r) (aq:aW bq cj bJ bV l u v):aW m1 gq ju bV l' r v:=by
 by_cases aC:u.plain=true
 ·exact aW.b5 ((h4 h).1 aC)
 ·cases d with
  | zero=>simp [bL] at h
  | succ d =>
    obtain ⟨cells,len,c,rfl⟩:∃ cells len c,u=.ay cells len c:=by
     cases u <;> first | exact ⟨_,_,_,rfl⟩ | exact absurd rfl aC | simp [bL] at h
    simp only [bL,sr] at h;obtain ⟨cs,hm,rfl⟩:=h;obtain ⟨dh,di⟩:=jY hm;cases c with
    | shared=>exact absurd rfl aC
    | full=>exact absurd rfl aC
    | own z =>
      cases v with
      | slice aa m gE =>
       cases aa with
       | none=>trivial
       | some a =>
        simp only [aW] at aq ⊢;rcases aq with ⟨ad,af,aG⟩ | ⟨ad,af,aG,a8,bN,bX,cQ,cU,cY⟩
        ·subst aG;simp [eh] at hm;subst hm;exact .inl ⟨ad,af,rfl⟩
        ·exact .inr ⟨(gf _ ad).1,af,aG,a8,bN,bX,by omega,cU,fun o aq ai=>cY o (by omega) ((gf _ ad).2 o ai)⟩
      | _=>trivial
    | uniq z =>
      cases v with
      | slice aa m gE =>
       cases aa with
       | none=>trivial
       | some a =>
        simp only [aW] at aq ⊢;rcases aq with ⟨ad,af,aG⟩ | ⟨ad,af,a8,bN,bX,cQ,⟨cur,e,cU,cY,dD⟩,fq⟩
        ·subst aG;simp [eh] at hm;subst hm;exact .inl ⟨ad,af,rfl⟩
        ·refine .inr ⟨(gf _ ad).1,af,a8,bN,bX,by omega,⟨cur,e,cU,cY,fun j y c a2 ao=>?_⟩,fun o ai=>fq o ((gf _ ad).2 o ai)⟩;obtain ⟨x,al,aQ⟩:=di j y a2;obtain ⟨aV,aX,cB⟩:=dD j x c al ao;exact ⟨(h4 aQ).1 aV,aX,b' d x y c aQ cB⟩
      | _=>trivial
theorem xo (ah:aL B U J S w H) {a4:List au} {r v:I} {x:Value} {bV:World} (jU:∀ id,id<H.length→a4[id]?=H[id]?) {n d:Nat} (aQ:bL a4 H.length a4.length n d r=some v)
  (aC:a3 B U J S w a4 r x bV):a3 B U J S w H v x bV:=by
 obtain ⟨bq,cj,bJ,bM,aA,cr,aj,aq⟩:=aC;obtain ⟨dJ,aG⟩:=oZ ah bM aA cr jU a4.length n
 have b':=fun d u r v=>lQ (gq:=J) (id0:=a4.length) (n:=n) cr (lo:=H.length) (fun id b aU ag=>by
   (have h8:id<J.length:=by rw [ah.cH];exact aU);have al:=sI h8;rw [bM _ _ al] at ag;cases ag;exact al) (fun b ag=>by
   have:=(ss.1 ag).1;rw [cr.cH] at this;omega) d u r v
 refine ⟨_,J,_,Ext.refl J,dJ,aG,b' d r v x aQ aj,ku (l:=.res) (fun b ag=>⟨nQ ag (fun id h=>by rcases h with h | ⟨j,h⟩ <;> cases h),fun o h=>?_⟩) b' aQ aq⟩;rcases h with h | ⟨⟨id,_,_,h⟩,_⟩
 ·exact h
 ·rw [ag] at h;cases h
theorem D' (ah:aL B U J S w H) {a4:List au} {r v:I} {x:Value} {bV:World} (jU:∀ id,id<H.length→a4[id]?=H[id]?) {id0 d gZ:Nat} {l l':List I} (fe:H.length≤id0)
  (aE:a4[id0]?=some (.cells l)) (ak:eh (bL a4 H.length id0 H.length gZ) l=some l') (aQ:bL a4 H.length id0 H.length d r=some v)
  (aC:a3 B U J S w a4 r x bV):a3 B U J S w (H++[.cells l']) v x bV:=by
 obtain ⟨bq,cj,bJ,bM,aA,cr,aj,aq⟩:=aC;obtain ⟨dJ,aG⟩:=oZ ah bM aA cr jU id0 H.length;obtain ⟨dC,cur,e,aB,aH,aR,bm,bf,bj⟩:=cr.obj id0 _ aE;have mm:Ext J (J++[dC]):=Ext.append J [dC]
 have b':=fun d u r v=>lQ (gq:=J++[dC]) (id0:=id0) (n:=H.length) cr (lo:=H.length) (fun id b aU ag=>by
   (have h8:id<J.length:=by rw [ah.cH];exact aU);have al:=sI h8;rw [bM _ _ al] at ag;cases ag;exact mm _ _ al) (fun b ag=>by
   rw [aB] at ag;cases ag;exact Ext.last ah dC) d u r v
 obtain ⟨dh,di⟩:=jY ak;have ps:∀ id,(aI.obj id0≠.obj id)∨id=id0:=fun id=>by
  by_cases h:id=id0
  ·exact .inr h
  ·exact .inl fun e=>h (by cases e;rfl)
 have kE:∀ b,bq b=some (.obj id0)→fP bq H.length id0 H.length b=some (.obj H.length):=fun b ag=>by
  simp only [fP,ag];simp;omega
 have CI:∀ b j,bq b=some (.cell id0 j)→fP bq H.length id0 H.length b=some (.cell H.length j):=fun b j ag=>by
  simp only [fP,ag];simp;omega
 have cp:∀ b l,bq b=some l→(∀ id,l≠.obj id∨id=id0)→∀ o,gw bq bJ bV H.length id0 b o→bJ b o:=fun b l ag bO o h=>by
  rcases h with h | ⟨⟨id,_,aN,h⟩,_⟩
  ·exact h
  ·rw [ag] at h;cases h;rcases bO id with h | h
   ·exact absurd rfl h
   ·exact absurd h aN
 refine ⟨_,J++[dC],_,mm,dJ,aG.push dC ⟨dC,cur,e,Ext.last ah dC,kE dC aH,aR,by omega,fun o h=>bf o (cp dC _ aH ps o h),fun j u c hu ao=>?_⟩,
  b' d r v x aQ aj,ku (l:=.res) (fun b ag=>⟨nQ ag (fun id h=>by rcases h with h | ⟨j,h⟩ <;> cases h),cp b _ ag (fun id=>.inl (by simp))⟩) b' aQ aq⟩
 obtain ⟨y,a2,pr⟩:=di j u hu;obtain ⟨bc,bn,bu,b9⟩:=bj j y c a2 ao;exact ⟨(h4 pr).2 bc,bn,b' gZ y u c pr bu,ku (l:=.cell id0 j) (fun b ag=>⟨CI b j ag,cp b _ ag (fun id=>.inl (by simp))⟩) b' pr b9⟩
theorem mapM_some {f:I→Option I}:∀ {xs ys:List (Nat×I×I)},mapM f xs=some ys→ys.length=xs.length∧∀ (j i:Nat) (k v:I),ys[j]?=some (i,k,v)→∃ dg v0,xs[j]?=some (i,dg,v0)∧f dg=some k∧f v0=some v
 | [],ys,h=>by simp [mapM] at h;subst h;simp
 | (i0,dg,v0)::xs,ys,h=>by
   simp only [mapM] at h;split at h
   ·rename_i aJ v1 av ae;simp only [sr] at h;obtain ⟨ys,h,rfl⟩:=h;obtain ⟨ad,af⟩:=mapM_some h;refine ⟨by simp [ad],fun j i k v aw=>?_⟩;cases j with
    | zero=>simp at aw;obtain ⟨rfl,rfl,rfl⟩:=aw;exact ⟨dg,v0,rfl,av,ae⟩
    | succ j=>simpa using af j i k v (by simpa using aw)
   ·simp at h
theorem Ea (ah:aL B U J S w H) {a4:List au} {r v:I} {x:Value} {bV:World} (jU:∀ id,id<H.length→a4[id]?=H[id]?) {id0 d gZ:Nat} {es es':List (Nat×I×I)} {clock:Nat} (fe:H.length≤id0)
  (aE:a4[id0]?=some (.map es clock)) (ak:mapM (bL a4 H.length id0 H.length gZ) es=some es') (aQ:bL a4 H.length id0 H.length d r=some v)
  (aC:a3 B U J S w a4 r x bV):a3 B U J S w (H++[.map es' clock]) v x bV:=by
 obtain ⟨bq,cj,bJ,bM,aA,cr,aj,aq⟩:=aC;obtain ⟨dJ,aG⟩:=oZ ah bM aA cr jU id0 H.length;obtain ⟨dC,bA,aB,aH,aR,bm,bf,bj⟩:=cr.obj id0 _ aE;have mm:Ext J (J++[dC]):=Ext.append J [dC]
 have b':=fun d u r v=>lQ (gq:=J++[dC]) (id0:=id0) (n:=H.length) cr (lo:=H.length) (fun id b aU ag=>by
   (have h8:id<J.length:=by rw [ah.cH];exact aU);have al:=sI h8;rw [bM _ _ al] at ag;cases ag;exact mm _ _ al) (fun b ag=>by
   rw [aB] at ag;cases ag;exact Ext.last ah dC) d u r v
 obtain ⟨dh,di⟩:=mapM_some ak;have ps:∀ id,(aI.obj id0≠.obj id)∨id=id0:=fun id=>by
  by_cases h:id=id0
  ·exact .inr h
  ·exact .inl fun e=>h (by cases e;rfl)
 have kE:∀ b,bq b=some (.obj id0)→fP bq H.length id0 H.length b=some (.obj H.length):=fun b ag=>by
  simp only [fP,ag];simp;omega
 have cp:∀ b l,bq b=some l→(∀ id,l≠.obj id∨id=id0)→∀ o,gw bq bJ bV H.length id0 b o→bJ b o:=fun b l ag bO o h=>by
  rcases h with h | ⟨⟨id,_,aN,h⟩,_⟩
  ·exact h
  ·rw [ag] at h;cases h;rcases bO id with h | h
   ·exact absurd rfl h
   ·exact absurd h aN
 refine ⟨_,J++[dC],_,mm,dJ,aG.push dC ⟨dC,bA,Ext.last ah dC,kE dC aH,aR,by omega,fun o h=>bf o (cp dC _ aH ps o h),fun j i k v c hu ao=>?_⟩,
  b' d r v x aQ aj,ku (l:=.res) (fun b ag=>⟨nQ ag (fun id h=>by rcases h with h | ⟨j,h⟩ <;> cases h),cp b _ ag (fun id=>.inl (by simp))⟩) b' aQ aq⟩
 obtain ⟨dg,v0,a2,yL,kC⟩:=di j i k v hu;obtain ⟨bc,bn,bu,b9,d'⟩:=bj j i dg v0 c a2 ao;exact ⟨bc,(h4 yL).1 bn,b' gZ dg k _ yL bu,(h4 kC).1 b9,b' gZ v0 v _ kC d'⟩
theorem ym {u:I} (h:u.plain=true):u.g0.plain=true:=by
 unfold I.g0;split
 ·rfl
 ·exact h
theorem BV {u:I} (h:u.plain=true):u.cu.plain=true:=by
 unfold I.cu;split <;> first | rfl | exact h
theorem Rel.g0 {u:I} {v:Value} (h:Rel J S w u v):Rel J S w u.g0 v:=by
 unfold I.g0;split
 ·rename_i c n;cases h with
  | b3 _ a=>exact .b3 _ a
  | ay _ _ _ b o cap f ao hle hu k eS=>exact .ay _ _ _ b o cap f (by simp) hle (by simp) k eS
 ·exact h
theorem Rel.cu {u:I} {v:Value} (h:Rel J S w u v):Rel J S w u.cu v:=by
 unfold I.cu;split
 ·rename_i c n;cases h with
  | b3 _ a=>exact .b3 _ a
  | ay _ _ _ b o cap f ao hle hu k eS=>exact .ay _ _ _ b o cap f (by simp) hle (by simp) k eS
 ·cases h with
  | agg as vs l p one r =>
    refine .agg _ vs (by simpa using l) (fun u hu=>?_) one fun j u v hu ae=>?_
    ·obtain ⟨x,al,rfl⟩:=sJ.1 hu;exact ym (p x al)
    ·rw [sN] at hu;simp only [sr] at hu;obtain ⟨x,al,rfl⟩:=hu;exact (r j x v al ae).g0
 ·cases h with
  | tuple as vs l p r =>
    refine .tuple _ vs (by simpa using l) (fun u hu=>?_) fun j u v hu ae=>?_
    ·obtain ⟨x,al,rfl⟩:=sJ.1 hu;exact ym (p x al)
    ·rw [sN] at hu;simp only [sr] at hu;obtain ⟨x,al,rfl⟩:=hu;exact (r j x v al ae).g0
 ·exact h
theorem aW.cu {l:aI} {u:I} {v:Value} (h:aW U J S w l u v):aW U J S w l u.cu v:=by
 by_cases aC:u.plain=true
 ·exact aW.b5 (BV aC)
 ·have:u.cu=u:=by
   cases u <;> first | exact absurd rfl aC | skip
   ·rename_i c n k;cases k <;> first | rfl | exact absurd rfl aC
   ·rfl
   ·rfl
  rw [this];exact h
theorem a'.cu {bC:Nat→aI} {T:List I} {bh:List Value} (h:a' bC U J S w T bh):a' bC U J S w (T.map I.cu) bh :=
 ⟨by simpa using h.len,fun i u v hu ae=>by
  rw [sN] at hu;simp only [sr] at hu;obtain ⟨x,al,rfl⟩:=hu;exact (h.rel i x v al ae).cu,fun i u v hu ae=>by
  rw [sN] at hu;simp only [sr] at hu
  obtain ⟨x,al,rfl⟩:=hu;exact (h.own i x v al ae).cu⟩
theorem a3.cu {H':List au} {r:I} {v:Value} {w':World} (h:a3 B U J S w H' r v w'):a3 B U J S w H' r.cu v w':=by
 obtain ⟨bq,cj,bJ,a,b,c,d,e⟩:=h;exact ⟨bq,cj,bJ,a,b,c,d.cu,e.cu⟩
theorem Rel.pure (b1:List Nat) {u:I} {v:Value} (h:Rel J S w u v):∀ {d:Nat},ct d u=true→Rel b1 S w u v:=by
 have all:∀ {d:Nat} {l:List I},l.all (ct d)=true→∀ {j:Nat} {u:I},l[j]?=some u→ct d u=true:=fun h j u hu=>by
  rw [sS] at h;exact h u (sY hu)
 induction h with
 | junk v=>intro d h;cases d <;> simp [ct] at h
 | bool b=>intros;exact .bool b
 | du b=>intros;exact .du b
 | int k n=>intros;exact .int k n
 | str s=>intros;exact .str s
 | eH=>intros;exact .eH
 | ptr id off b k=>intro d h;cases d <;> simp [ct] at h
 | bW cells b o f k eS bb =>
   intro d h;cases d with
   | zero=>simp [ct] at h
   | succ d=>simp only [ct] at h;exact .bW cells b o f k fun j u aw=>bb j u aw (all h aw)
 | b3 c a=>intros;exact .b3 c a
 | ay cells len c b o cap f ao hle hu k eS bb =>
   intro d h;cases d with
   | zero=>simp [ct] at h
   | succ d=>simp only [ct] at h;exact .ay cells len c b o cap f ao hle hu k fun j u aw=>bb j u aw (all h aw)
 | cN cells len z b o cap=>intros;exact .cN cells len z b o cap
 | raw=>intro d h;cases d <;> simp [ct] at h
 | cn=>intro d h;cases d <;> simp [ct] at h
 | ref id off len c sz b cap k ao hle=>intro d h;cases d <;> simp [ct] at h
 | func f as bs vs ws ad af bT b6 r1 r2 i1 i2 =>
   intro d h;cases d with
   | zero=>simp [ct] at h
   | succ d =>
     simp only [ct,sM] at h;exact .func f as bs vs ws ad af bT b6 (fun j u v hu ae=>i1 j u v hu ae (all h.1 hu)) (fun j u v hu ae=>i2 j u v hu ae (all h.2 hu))
 | yield id b k=>intro d h;cases d <;> simp [ct] at h
 | map id b k=>intro d h;cases d <;> simp [ct] at h
 | agg as vs k p one r bb =>
   intro d h;cases d with
   | zero=>simp [ct] at h
   | succ d=>simp only [ct] at h;exact .agg as vs k p one fun j u v hu ae=>bb j u v hu ae (all h hu)
 | tuple as vs k p r bb =>
   intro d h;cases d with
   | zero=>simp [ct] at h
   | succ d=>simp only [ct] at h;exact .tuple as vs k p fun j u v hu ae=>bb j u v hu ae (all h hu)
def dZ (U:Nat→Option aI):Nat→Option aI:=fun b=>match U b with
 | some (.arg i)=>some (.arg i)
 | _=>none
theorem yb {b i:Nat} (h:U b=some (.arg i)):dZ U b=some (.arg i):=by simp [dZ,h]
theorem lE {b:Nat} {l:aI} (h:dZ U b=some l):∃ i,U b=some (.arg i)∧l=.arg i:=by
 unfold dZ at h;split at h
 ·rename_i i hi;cases h;exact ⟨i,hi,rfl⟩
 ·cases h
theorem aW.pure (b1:List Nat) {i:Nat} {u:I} {v:Value} {d:Nat} (aC:ct d u=true) (h:aW U J S w (.arg i) u v):aW (dZ U) b1 S w (.arg i) u v:=by
 unfold aW at h ⊢;split at h
 ·rcases h with h | ⟨ad,h⟩
  ·exact .inl h
  ·exact .inr ⟨yb ad,h⟩
 ·rename_i cells len z a n cap;cases d with
  | zero=>simp [ct] at aC
  | succ d =>
    simp only [ct] at aC;rcases h with h | ⟨ad,af,aG,a8,bN,bX,⟨cur,e,cQ,cU,cY⟩,dD⟩
    ·exact .inl h
    ·refine .inr ⟨yb ad,af,aG,a8,bN,bX,⟨cur,e,cQ,cU,fun j u v hu ae=>?_⟩,dD⟩;obtain ⟨bT,b6,eI⟩:=cY j u v hu ae;rw [sS] at aC;exact ⟨bT,b6,eI.pure b1 (aC u (sY hu))⟩
 ·cases d <;> simp [ct] at aC
 ·trivial
theorem a'.pure {T:List I} {bh:List Value} (h:a' (fun i=>.arg i) U J S w T bh) (aC:T.all (ct 8)=true):a' (fun i=>.arg i) (dZ U) [] S w T bh:=by
 rw [sS] at aC;exact ⟨h.len,fun i u v hu ae=>(h.rel i u v hu ae).pure [] (aC u (sY hu)),fun i u v hu ae=>(h.own i u v hu ae).pure [] (aC u (sY hu))⟩
theorem y0 (ah:aL B U J S w H):aL B (dZ U) [] S w [] :=
 ⟨rfl,fun id o h=>by simp at h,ah.ch,fun b l ag=>by obtain ⟨i,h,_⟩:=lE ag;exact ah.base b _ h,ah.c1⟩
theorem zR (ah:aL B U J S w H) {a4:List au} {r v:I} {x:Value} {bV:World} {n d:Nat} (aQ:bL a4 0 a4.length n d r=some v)
  (aC:a3 B (dZ U) [] S w a4 r x bV):a3 B U J S w H v x bV:=by
 classical
 obtain ⟨bq,cj,bJ,bM,aA,cr,aj,aq⟩:=aC
 let az:Nat→Option aI:=fun b=>match U b with
  | some (.obj id)=>some (.obj id)
  | some (.cell id j)=>some (.cell id j)
  | _=>match bq b with
    | some (.obj _)=>none
    | some (.cell _ _)=>none
    | l=>l
 have jS:∀ b l,U b=some l→((∃ id,l=.obj id)∨∃ id j,l=.cell id j)→az b=some l∧bq b=none∧b<w.heap.size:=fun b l ag ak=>by
  have aU:=(ah.base b l ag).2;have af:bq b=none:=by
   cases h:bq b with
   | none=>rfl
   | some l' =>
     rcases aA.own b (by simp [h]) with ad | ad
     ·exfalso;apply ad;rcases ak with ⟨id,rfl⟩ | ⟨id,j,rfl⟩ <;> simp [dZ,ag]
     ·omega
  refine ⟨?_,af,aU⟩;rcases ak with ⟨id,rfl⟩ | ⟨id,j,rfl⟩ <;> simp [az,ag]
 have pN:∀ b,az b≠none→U b≠none∨bq b≠none:=fun b h=>by
  by_cases ad:U b=none
  ·right;intro af;apply h;simp [az,ad,af]
  ·exact .inl ad
 have cg:∀ b,dZ U b≠none→U b≠none:=fun b h aS=>h (by simp [dZ,aS]);have o7:∀ b o,gw bq bJ bV 0 a4.length b o→S b o∨U b≠none∨w.heap.size≤b:=fun b o h=>by
  rcases h with h | ⟨⟨id,_,_,h⟩,_⟩
  ·rcases aA.fresh b o h with h | h | h
   ·exact .inl h
   ·exact .inr (.inl (cg b h))
   ·exact .inr (.inr h)
  ·rcases aA.own b (by simp [h]) with ad | ad
   ·exact .inr (.inl (cg b ad))
   ·exact .inr (.inr ad)
 have lM:bk U S w az (gw bq bJ bV 0 a4.length) bV :=
  ⟨aA.os,aA.tape,aA.output,aA.size,fun b ag aN=>aA.cG b ag (by simp [dZ,aN]),fun b o h=>⟨.inl (aA.set b o h).1,(aA.set b o h).2⟩,o7,fun b h=>by
   rcases pN b h with h | h
   ·exact .inl h
   ·rcases aA.own b h with h | h
    ·exact .inl (cg b h)
    ·exact .inr h⟩
 have b':=fun d u r v=>lQ (gq:=J) (id0:=a4.length) (n:=n) cr (lo:=0) (fun id b aU ag=>by omega) (fun b ag=>by
   have:=(ss.1 ag).1;rw [cr.cH] at this;omega) d u r v
 refine ⟨az,J,_,Ext.refl J,lM,ah.frame lM (fun b l ag ak=>?_) (fun b o h=>?_) (fun b l ag=>?_),b' d r v x aQ aj,ku (l:=.res) (fun b ag=>?_) b' aQ aq⟩
 ·obtain ⟨ad,af,aG⟩:=jS b l ag ak;have aN:dZ U b=none:=by rcases ak with ⟨id,rfl⟩ | ⟨id,j,rfl⟩ <;> simp [dZ,ag]
  refine ⟨ad,aA.cG b aG aN,fun o h=>?_⟩;rcases h with h | ⟨⟨id,_,_,h⟩,_⟩
  ·rcases aA.fresh b o h with h | h | h
   ·exact h
   ·exact absurd aN h
   ·omega
  ·rw [af] at h;cases h
 ·rcases h with h | ⟨_,h⟩
  ·exact cr.ch b o h
  ·exact h
 ·by_cases h:U b=none
  ·(have bt:bq b≠none:=fun af=>by simp [az,h,af] at ag);cases af:bq b with
   | none=>exact absurd af bt
   | some l'=>exact cr.base b l' af
  ·cases ad:U b with
   | none=>exact absurd ad h
   | some l'=>obtain ⟨p,q⟩:=ah.base b l' ad;exact ⟨p,vo q aA.size⟩
 ·refine ⟨?_,fun o h=>?_⟩
  ·cases ad:U b with
   | none=>simp [az,ad,ag]
   | some l =>
     cases l with
     | obj id=>have:=(jS b _ ad (.inl ⟨id,rfl⟩)).2.1;rw [ag] at this;cases this
     | cell id j=>have:=(jS b _ ad (.inr ⟨id,j,rfl⟩)).2.1;rw [ag] at this;cases this
     | _=>simp [az,ad,ag]
  ·rcases h with h | ⟨⟨id,_,_,h⟩,_⟩
   ·exact h
   ·rw [ag] at h;cases h
def fV (U:Nat→Option aI) (S:Nat→Nat→Prop) (w:World):Nat→Nat→Prop:=fun b o=>S b o∨((∃ id,U b=some (.obj id))∧∃ v,w.cell? ⟨b,o,none⟩=some v)
theorem AQ {J b1:List Nat} {S S':Nat→Nat→Prop} {u:I} {v:Value} (h:gQ u=true) (aj:Rel J S w u v):Rel b1 S' w u v:=by
 cases aj <;> simp [gQ] at h
 ·exact .bool _
 ·exact .int _ _
 ·exact .str _
theorem EY {b1:List Nat} {S':Nat→Nat→Prop} {u:I} {v:Value} (h:gl u=true) (aj:Rel J S w u v):Rel b1 S' w u v:=by
 cases aj with
 | bool b=>exact .bool b
 | du b=>simp [gl] at h
 | int k n=>exact .int k n
 | str s=>exact .str s
 | tuple as vs k p q =>
   simp only [gl,sS] at h;exact .tuple as vs k p fun j u v hu ae=>AQ (h u (sY hu)) (q j u v hu ae)
 | cN cells len z b o cap=>exact .cN _ _ _ _ _ _
 | b3 c a =>
   exact .b3 _ _
 | ay cells len c b o cap f ao hle hu k eS=>cases c <;> simp [gl] at h;exact absurd rfl (hu _)
 | _=>simp [gl] at h
theorem EX {U az:Nat→Option aI} {b1:List Nat} {S S':Nat→Nat→Prop} {u:I} {v:Value} (h:gl u=true) (aq:aW U J S w .res u v) (gf:∀ b,U b=some .res→az b=some .res∧∀ o,S' b o→S b o):aW az b1 S' w .res u v:=by
 unfold aW at aq ⊢;split at aq
 ·simp [gl] at h
 ·simp only [gl,sS] at h;rcases aq with aq | ⟨ad,aS,a8,bN,bX,cQ,⟨cur,e,cU,cY,dD⟩,fq⟩
  ·exact .inl aq
  ·obtain ⟨aJ,aP⟩:=gf _ ad;exact .inr ⟨aJ,aS,a8,bN,bX,cQ,⟨cur,e,cU,cY,fun j u v hu ae=>⟨(dD j u v hu ae).1,(dD j u v hu ae).2.1,AQ (h u (sY hu)) (dD j u v hu ae).2.2⟩⟩,fun o ai=>fq o (aP o ai)⟩
 ·simp [gl] at h
 ·trivial
theorem AU {u:I} (h:u.plain=true):(kf H u).plain=true:=by
 unfold kf;split
 ·split <;> rfl
 ·exact h
theorem AV (ah:aL B U J S w H) {u:I} {v:Value} (aj:Rel J S w u v):Rel J (fV U S w) w (kf H u) v:=by
 have hm:Rel J (fV U S w) w u v:=aj.mono (Ext.refl J) fun b o h=>⟨.inl h,rfl⟩;cases aj <;> try exact hm
 case ref id off len cap sz b gE ag ao hle =>
  unfold kf;simp only;split
  ·rename_i row cV;unfold rowOf at cV;simp only at cV;split at cV
   ·rename_i l aE;split at cV
    ·rename_i dL;simp only [Option.some.injEq] at cV;obtain ⟨ar,cur,e,aB,aH,aR,bm,bf,bj⟩:=ah.obj id _ aE;rw [ag] at aB;cases aB;(have bz:∀ o,o<cur.size→w.cell? ⟨b,o,none⟩=cur[o]?:=fun o aq=>by simp [World.cell?,aR,aq]);have facts:∀ (j:Nat) (y:I),row[j]?=some y→∃ c,off+j<cur.size∧cur[off+j]?=some c∧c.oneCell'=true∧y.plain=true∧Rel J S w y c:=fun j y a2=>by
      subst cV;have h7:=(ss.1 a2).1;simp at h7;(have ft:off+j<l.length:=by omega);(have ff:off+j<cur.size:=by omega);have ak:l[off+j]?=some l[off+j]:=sI ft;have ae:cur[off+j]?=some cur[off+j]:=sT ff;obtain ⟨bc,bn,bu,b9⟩:=bj (off+j) _ _ ak ae;rw [sN,th,if_pos (by omega),tq,ak] at a2;simp at a2;subst a2;exact ⟨_,ff,ae,bn,I.dk _,bu.view bc⟩
     refine .ay row len .shared b off gE (fun j=>cur.getD (off+j) undef) (by simp) hle (by simp) (fun j y a2=>?_) (fun j y a2=>?_)
     ·obtain ⟨c,aw,c9,ad,aC,en⟩:=facts j y a2;(have aO:cur.getD (off+j) undef=c:=by rw [sO,c9];rfl);rw [aO];exact ⟨.inr ⟨⟨id,aH⟩,c,by rw [bz _ aw,c9]⟩,by rw [bz _ aw,c9],aC,ad⟩
     ·obtain ⟨c,aw,c9,ad,aC,en⟩:=facts j y a2;(have aO:cur.getD (off+j) undef=c:=by rw [sO,c9];rfl);simp only [aO];exact en.mono (Ext.refl J) fun b o h=>⟨.inl h,rfl⟩
    ·cases cV
   ·cases cV
  ·exact hm
theorem xT (ah:aL B U J S w H) {u:I} {v:Value} (aj:Rel J S w u v):Rel J (fV U S w) w (hO H u) v:=by
 have hm:Rel J (fV U S w) w u v:=aj.mono (Ext.refl J) fun b o h=>⟨.inl h,rfl⟩;have jG:=AV ah aj;cases aj <;> first | exact hm | exact jG | skip
 rename_i id off b ag;unfold hO;simp only;split
 ·rename_i l aE;obtain ⟨ar,cur,e,aB,aH,aR,bm,bf,bj⟩:=ah.obj id _ aE;rw [ag] at aB;cases aB;have bz:∀ o,o<cur.size→w.cell? ⟨b,o,none⟩=cur[o]?:=fun o aq=>by simp [World.cell?,aR,aq]
  have facts:∀ (j:Nat) (y:I),(((l.drop off).map I.view).map (kf H))[j]?=some y→∃ c,off+j<cur.size∧cur[off+j]?=some c∧c.oneCell'=true∧y.plain=true∧Rel J (fV U S w) w y c:=fun j y a2=>by
   have h7:=(ss.1 a2).1;simp at h7;(have ft:off+j<l.length:=by omega);(have ff:off+j<cur.size:=by omega);have ak:l[off+j]?=some l[off+j]:=sI ft;have ae:cur[off+j]?=some cur[off+j]:=sT ff;obtain ⟨bc,bn,bu,b9⟩:=bj (off+j) _ _ ak ae;rw [sN,sN,tq,ak] at a2;simp at a2;subst a2;exact ⟨_,ff,ae,bn,AU (I.dk _),AV ah (bu.view bc)⟩
  refine .bW _ b off (fun j=>cur.getD (off+j) undef) (fun j y a2=>?_) (fun j y a2=>?_)
  ·obtain ⟨c,aw,c9,ad,aC,en⟩:=facts j y a2;(have aO:cur.getD (off+j) undef=c:=by rw [sO,c9];rfl);rw [aO];exact ⟨.inr ⟨⟨id,aH⟩,c,by rw [bz _ aw,c9]⟩,by rw [bz _ aw,c9],aC,ad⟩
  ·obtain ⟨c,aw,c9,ad,aC,en⟩:=facts j y a2;(have aO:cur.getD (off+j) undef=c:=by rw [sO,c9];rfl);simp only [aO];exact en
 ·exact hm
theorem oh {u:I} (h:u.plain=true):(hO H u).plain=true:=by
 unfold hO;split
 ·split <;> rfl
 ·exact AU rfl
 ·exact h
theorem E6 (ah:aL B U J S w H) {u:I} {v:Value} (aj:Rel J S w u v):Rel J (fV U S w) w (iz H u) v:=by
 have hm:Rel J (fV U S w) w u v:=aj.mono (Ext.refl J) fun b o h=>⟨.inl h,rfl⟩;have nB:=xT ah aj;cases aj <;> try exact hm
 ·exact nB
 ·exact nB
 ·rename_i f as bs vs ws ad af bT b6 r1 r2;refine .func f _ _ vs ws (by simpa using ad) (by simpa using af) (fun u hu=>?_) (fun u hu=>?_) (fun j u v hu ae=>?_) (fun j u v hu ae=>?_)
  ·obtain ⟨x,al,rfl⟩:=sJ.1 hu;exact oh (bT x al)
  ·obtain ⟨x,al,rfl⟩:=sJ.1 hu;exact oh (b6 x al)
  ·rw [sN] at hu;simp only [sr] at hu;obtain ⟨x,al,rfl⟩:=hu;exact xT ah (r1 j x v al ae)
  ·rw [sN] at hu;simp only [sr] at hu;obtain ⟨x,al,rfl⟩:=hu;exact xT ah (r2 j x v al ae)
theorem E5 {i:Nat} {u:I} {v:Value} (h:aW U J S w (.arg i) u v):aW U J (fV U S w) w (.arg i) (iz H u) v:=by
 have cp:∀ b,U b=some (.arg i)→∀ o,fV U S w b o→S b o:=fun b ag o h=>by
  rcases h with h | ⟨⟨id,h⟩,_⟩
  ·exact h
  ·rw [ag] at h;cases h
 have hm:aW U J (fV U S w) w (.arg i) u v:=h.mono (Ext.refl J) (fun b o h=>⟨.inl h,rfl⟩) fun b ag=>⟨ag,rfl,cp b ag⟩;cases u <;> try exact hm
 ·rename_i id off;exact aW.b5 (show (hO H (.ptr id off)).plain=true from oh rfl)
 ·rename_i id off len cap sz;exact aW.b5 (show (hO H (.ref id off len cap sz)).plain=true from oh rfl)
theorem FT (ah:aL B U J S w H) {T:List I} {bh:List Value} (h:a' (fun i=>.arg i) U J S w T bh):a' (fun i=>.arg i) U J (fV U S w) w (T.map (iz H)) bh :=
 ⟨by simpa using h.len,fun i u v hu ae=>by
  rw [sN] at hu;simp only [sr] at hu;obtain ⟨x,al,rfl⟩:=hu;exact E6 ah (h.rel i x v al ae),fun i u v hu ae=>by
  rw [sN] at hu;simp only [sr] at hu
  obtain ⟨x,al,rfl⟩:=hu;exact E5 (h.own i x v al ae)⟩
theorem C5 (ah:aL B U J S w H):aL B (dZ U) [] (fV U S w) w [] :=
 ⟨rfl,fun id o h=>by simp at h,fun b o h=>by
  rcases h with h | ⟨_,h⟩
  ·exact ah.ch b o h
  ·exact h,fun b l ag=>by obtain ⟨i,h,_⟩:=lE ag;exact ah.base b _ h,ah.c1⟩
theorem Eb (ah:aL B U J S w H) {a4:List au} {r v:I} {x:Value} {bV:World} {n d:Nat} (aQ:bL a4 0 a4.length n d r=some v)
  (ai:gl v=true) (aC:a3 B (dZ U) [] (fV U S w) w a4 r x bV):a3 B U J S w H v x bV:=by
 classical
 obtain ⟨bq,cj,bJ,bM,aA,cr,aj,aq⟩:=aC
 let az:Nat→Option aI:=fun b=>match U b with
  | some (.obj id)=>some (.obj id)
  | some (.cell id j)=>some (.cell id j)
  | _=>match bq b with
    | some (.obj _)=>none
    | some (.cell _ _)=>none
    | l=>l
 have jS:∀ b l,U b=some l→((∃ id,l=.obj id)∨∃ id j,l=.cell id j)→az b=some l∧bq b=none∧b<w.heap.size:=fun b l ag ak=>by
  have aU:=(ah.base b l ag).2;have af:bq b=none:=by
   cases h:bq b with
   | none=>rfl
   | some l' =>
     rcases aA.own b (by simp [h]) with ad | ad
     ·exfalso;apply ad;rcases ak with ⟨id,rfl⟩ | ⟨id,j,rfl⟩ <;> simp [dZ,ag]
     ·omega
  refine ⟨?_,af,aU⟩;rcases ak with ⟨id,rfl⟩ | ⟨id,j,rfl⟩ <;> simp [az,ag]
 have pN:∀ b,az b≠none→U b≠none∨bq b≠none:=fun b h=>by
  by_cases ad:U b=none
  ·right;intro af;apply h;simp [az,ad,af]
  ·exact .inl ad
 have cg:∀ b,dZ U b≠none→U b≠none:=fun b h aS=>h (by simp [dZ,aS])
 let S':Nat→Nat→Prop:=fun b o=>S b o∨(gw bq bJ bV 0 a4.length b o∧∀ id,U b≠some (.obj id))
 have o7:∀ b o,S' b o→S b o∨U b≠none∨w.heap.size≤b:=fun b o h=>by
  rcases h with h | ⟨h | ⟨⟨id,_,_,h⟩,_⟩,ga⟩
  ·exact .inl h
  ·rcases aA.fresh b o h with (h | ⟨⟨id,h⟩,_⟩) | h | h
   ·exact .inl h
   ·exact absurd h (ga id)
   ·exact .inr (.inl (cg b h))
   ·exact .inr (.inr h)
  ·rcases aA.own b (by simp [h]) with ad | ad
   ·exact .inr (.inl (cg b ad))
   ·exact .inr (.inr ad)
 have lM:bk U S w az S' bV :=
  ⟨aA.os,aA.tape,aA.output,aA.size,fun b ag aN=>aA.cG b ag (by simp [dZ,aN]),fun b o h=>⟨.inl h,(aA.set b o (.inl h)).2⟩,o7,fun b h=>by
   rcases pN b h with h | h
   ·exact .inl h
   ·rcases aA.own b h with h | h
    ·exact .inl (cg b h)
    ·exact .inr h⟩
 have b':=fun d u r v=>lQ (gq:=J) (id0:=a4.length) (n:=n) cr (lo:=0) (fun id b aU ag=>by omega) (fun b ag=>by
   have:=(ss.1 ag).1;rw [cr.cH] at this;omega) d u r v
 have C2:=b' d r v x aQ aj
 have ny:aW (fun b=>match bq b with | some .res=>some .res | _=>none) J (gw bq bJ bV 0 a4.length) bV .res v x:=ku (l:=.res) (fun b ag=>⟨by simp [ag],fun o h=>by
  rcases h with h | ⟨⟨id,_,_,h⟩,_⟩
  ·exact h
  ·rw [ag] at h;cases h⟩) b' aQ aq
 refine ⟨az,J,S',Ext.refl J,lM,ah.frame lM (fun b l ag ak=>?_) (fun b o h=>?_) (fun b l ag=>?_),EY ai C2,EX ai ny fun b ag=>?_⟩
 ·obtain ⟨ad,af,aG⟩:=jS b l ag ak;have aN:dZ U b=none:=by rcases ak with ⟨id,rfl⟩ | ⟨id,j,rfl⟩ <;> simp [dZ,ag]
  refine ⟨ad,aA.cG b aG aN,fun o h=>?_⟩;rcases h with h | ⟨h | ⟨⟨id,_,_,h⟩,_⟩,ga⟩
  ·exact h
  ·rcases aA.fresh b o h with (h | ⟨⟨id,h⟩,_⟩) | h | h
   ·exact h
   ·exact absurd h (ga id)
   ·exact absurd aN h
   ·omega
  ·rw [af] at h;cases h
 ·rcases h with h | ⟨h | ⟨_,h⟩,_⟩
  ·obtain ⟨v,ae⟩:=ah.ch b o h;exact ⟨v,((aA.set b o (.inl h)).2).trans ae⟩
  ·exact cr.ch b o h
  ·exact h
 ·by_cases h:U b=none
  ·(have bt:bq b≠none:=fun af=>by simp [az,h,af] at ag);cases af:bq b with
   | none=>exact absurd af bt
   | some l'=>exact cr.base b l' af
  ·cases ad:U b with
   | none=>exact absurd ad h
   | some l'=>obtain ⟨p,q⟩:=ah.base b l' ad;exact ⟨p,vo q aA.size⟩
 ·have fs:bq b=some .res:=by
   split at ag
   ·assumption
   ·cases ag
  refine ⟨?_,fun o h=>?_⟩
  ·cases ad:U b with
   | none=>simp [az,ad,fs]
   | some l =>
     cases l with
     | obj id=>have:=(jS b _ ad (.inl ⟨id,rfl⟩)).2.1;rw [fs] at this;cases this
     | cell id j=>have:=(jS b _ ad (.inr ⟨id,j,rfl⟩)).2.1;rw [fs] at this;cases this
     | _=>simp [az,ad,fs]
  ·rcases h with h | ⟨h,_⟩
   ·exact .inl ((aA.set b o (.inl h)).1)
   ·exact h
end
end Go.Proofs.YtfakoboiahbhaaaGreat.Ab


namespace Go.Proofs.YtfakoboiahbhaaaGreat.Ab
open Go
def bd (lo:Nat) (H H':List au):Prop:=H.length≤H'.length∧∀ id,id<lo→id<H.length→H'[id]?=H[id]?
theorem bd.refl (lo:Nat) (H:List au):bd lo H H:=⟨sx _,fun _ _ _=>rfl⟩
theorem bd.trans {lo:Nat} {H H1 a4:List au} (h:bd lo H H1) (k:bd lo H1 a4):bd lo H a4 :=
 ⟨sW h.1 k.1,fun id ad af=>(k.2 id ad (vo af h.1)).trans (h.2 id ad af)⟩
theorem bd.append (lo:Nat) (H X:List au):bd lo H (H++X):=⟨by simp,fun id _ h=>sR h⟩
theorem bd.set {lo id:Nat} (H:List au) (x:au) (h:lo≤id):bd lo H (H.set id x):=⟨by simp,fun bB ad _=>sG (by omega)⟩
def fA (B:Nat) (U:Nat→Option aI) (J:List Nat) (S:Nat→Nat→Prop) (w:World) (H':List au) (r:I):Ending→World→Prop
 | .returned v,w'=>a3 B U J S w H' r v w'
 | _,_=>False
def m4 (U:Nat→Option aI):Prop:=∀ b i,U b≠some (.slot i)
def hM (L:Loop) (vs:List Value):Array Value:=(L.params.zip vs.toArray).foldl (fun tmps (x:Tmp×Value)=>tmps.setIfInBounds x.1 x.2) L.tmps
def jv (P:Program) (b2:e') (args:List I) (H H':List au) (r:I):Prop :=
 match b2 with
 | .fn k => (∃ f, P.funcs[k]? = some f ∧ f.body.isSome = true ∧ f.name ≠ "runtime.NumGoroutine") ∧
   ∀ B U J S w vs,aL B U J S w H→m4 U→a' (fun i=>.arg i) U J S w args vs→CallsIn Fence.wide 0 P k vs.toArray w (fA B U J S w H' r)
 | .yield l=>∀ B U J S w vs b,aL B U J S w H→m4 U→a' (fun i=>.arg i) U J S w args vs→J[l]?=some b →
   ∃ L,w.heap[b]?=some (.loop L)∧vs.length=L.params.size∧RoundIn Fence.wide 0 P b L.fn (hM L vs) L.assign L.body w (fA B U J S w H' r)
structure dc (P:Program) (C:b8):Prop where
 low:∀ {b2 args H lo r H'},C b2 args H lo=some (r,H')→bd lo H H'
 ok:∀ {b2 args H lo r H'},C b2 args H lo=some (r,H')→jv P b2 args H H' r
section
variable {P:Program} {B N:Nat} {J:List Nat} {w:World} {H:List au} {U:Nat→Option aI} {S:Nat→Nat→Prop}
theorem fA.mono {H' H1:List au} {r r':I} (h:∀ v w',a3 B U J S w H' r v w'→a3 B U J S w H1 r' v w') (e:Ending) (w':World) (k:fA B U J S w H' r e w'):fA B U J S w H1 r' e w':=by
 cases e with
 | returned v=>exact h v w' k
 | panicked c=>exact k
 | outgrown=>exact k
theorem jv.mono {b2:e'} {args:List I} {H' H1:List au} {r r':I} (k:jv P b2 args H H' r)
  (h:∀ B U J S w,aL B U J S w H→∀ v w',a3 B U J S w H' r v w'→a3 B U J S w H1 r' v w'):jv P b2 args H H1 r':=by
 cases b2 with
 | fn f =>
   exact ⟨k.1,fun B U J S w vs ah aN ae=>CallsIn.mono (k.2 B U J S w vs ah aN ae) (fA.mono (h B U J S w ah))⟩
 | yield l =>
   intro B U J S w vs b ah aN ae ag;obtain ⟨L,ad,af,aG⟩:=k B U J S w vs b ah aN ae ag;exact ⟨L,ad,af,RoundIn.mono aG (fA.mono (h B U J S w ah))⟩
theorem B6 (ah:aL B U J S w H) {id:Nat} {l:List I} (aE:H[id]?=some (.cells l)) {v:Value} (aj:Rel J S w (.ptr id 0) v) :
  ∃ az S',bk U S w az S' w∧aL B az J S' w (H.set id .dead)∧Rel J S' w (.bW (l.map I.view)) v:=by
 classical
 cases aj with
 | ptr _ _ b ag =>
   obtain ⟨ar,cur,e,aB,aH,aR,bm,bf,bj⟩:=ah.obj id _ aE;rw [ag] at aB;cases aB
   let S':Nat→Nat→Prop:=fun ar o=>S ar o∨(ar=b∧o<cur.size)
   let az:Nat→Option aI:=fun ar=>if ar=b then none else U ar
   have bz:∀ o,o<cur.size→w.cell? ⟨b,o,none⟩=cur[o]?:=fun o aq=>by
    simp [World.cell?,aR,aq]
   have aA:bk U S w az S' w:=⟨rfl,rfl,rfl,sx _,fun _ _ _=>rfl,fun _ _ h=>⟨.inl h,rfl⟩,fun ar o h=>by
     rcases h with h | ⟨rfl,_⟩
     ·exact .inl h
     ·exact .inr (.inl (by simp [aH])),fun ar bt=>by
     by_cases dK:ar=b
     ·simp [az,dK] at bt
     ·simp only [az,dK,if_false] at bt;exact .inl bt⟩
   have bY:aL B az J S' w (H.set id .dead):=by
    refine ⟨by simpa using ah.cH,fun bB o aq=>?_,fun ar o h=>?_,fun ar l' bt=>?_,ah.c1⟩
    ·by_cases cw:bB=id
     ·subst cw
      have:o=.dead:=by
       have:=(ss.1 aE).1;simp [this] at aq;exact aq.symm
      subst this;trivial
     ·rw [sG (Ne.symm cw)] at aq;refine (ah.obj bB o aq).frame (Ext.refl J) aA.set (fun ar l' bt ak=>?_);have bO:ar≠b:=fun e=>by
       subst e;rw [aH] at bt;cases bt;rcases ak with h | ⟨j,h⟩
       ·cases h;exact cw rfl
       ·cases h
      exact ⟨by simp [az,bO,bt],rfl,fun o h=>h.resolve_right fun h=>bO h.1⟩
    ·rcases h with h | ⟨rfl,h⟩
     ·exact ah.ch _ _ h
     ·exact ⟨_,(bz o h).trans (sT h)⟩
    ·by_cases dK:ar=b
     ·simp [az,dK] at bt
     ·simp only [az,dK,if_false] at bt;exact ah.base _ _ bt
   refine ⟨az,S',aA,bY,.bW _ b 0 (fun j=>cur.getD j undef) (fun j u aw=>?_) (fun j u aw=>?_)⟩
   all_goals
    rw [sN] at aw;cases ak:l[j]? with
    | none=>rw [ak] at aw;simp at aw
    | some x0 =>
      rw [ak] at aw;simp only [sB,Option.some.injEq] at aw;subst aw;have aU:=(ss.1 ak).1;have pw:cur[j]?=some cur[j]:=sT (by omega);(have aO:cur.getD j undef=cur[j]:=by simp [sO,pw]);obtain ⟨bc,bn,bu,b9⟩:=bj j x0 _ ak pw
      first
       | (simp only [aO];exact ⟨.inr ⟨rfl,by omega⟩,by rw [tc,bz j (by omega),pw],I.dk _,bn⟩)
       | (simp only [aO];exact (bu.view bc).mono (Ext.refl J) aA.set)
theorem a'.D3 {bC:Nat→aI} {u:I} {vs:List Value} (h:a' bC U J S w [u] vs):∃ v,vs=[v]∧Rel J S w u v∧aW U J S w (bC 0) u v:=by
 cases vs with
 | nil=>have:=h.len;simp at this
 | cons v r=>cases r with
   | nil=>exact ⟨v,rfl,h.rel 0 u v rfl rfl,h.own 0 u v rfl rfl⟩
   | cons x y=>have:=h.len;simp at this
theorem na {C:b8} (bx:dc P C) {lo mode:Nat} {b2:e'} {args:List I} {v:I} {H1:List au} (h:eZ C lo mode b2 args H=some (v,H1)):bd lo H H1∧jv P b2 args H H1 v:=by
 have frozen:∀ {r:I} {a4:List au},C b2 args H H.length=some (r,a4)→((bL a4 H.length a4.length 0 8 r).map fun v=>(v,H))=some (v,H1)→bd lo H H1∧jv P b2 args H H1 v:=fun ao aQ=>by
  simp only [sr,Prod.mk.injEq] at aQ;obtain ⟨bw,aQ,rfl,rfl⟩:=aQ;exact ⟨bd.refl _ _,(bx.ok ao).mono fun B U J S w ah x w' aC=>xo ah (fun id aE=>(bx.low ao).2 id aE aE) aQ aC⟩
 unfold eZ at h;split at h
 ·simp only [sC] at h;obtain ⟨⟨r,a4⟩,ao,aQ⟩:=h;exact frozen ao aQ
 ·exact ⟨bx.low h,bx.ok h⟩
 ·split at h
  ·rename_i k aC;simp only [sC] at h;obtain ⟨⟨r,a4⟩,ao,aQ⟩:=h;simp only [sr,Prod.mk.injEq] at aQ;obtain ⟨bw,aQ,rfl,rfl⟩:=aQ;obtain ⟨aJ,aP⟩:=bx.ok ao
   exact ⟨bd.refl _ _,aJ,fun B U J S w vs ah aN ae=>CallsIn.mono (aP B _ [] S w vs (y0 ah) (fun b i h=>by obtain ⟨_,_,h⟩:=lE h;cases h) (ae.pure aC).cu) fun e w' he=>by
     cases e with
     | returned v=>exact (zR ah aQ he).cu
     | panicked c=>exact he.elim
     | outgrown=>exact he.elim⟩
  ·simp at h
 ·split at h
  ·rename_i k aC;simp only [sC] at h;obtain ⟨⟨r,a4⟩,ao,bw,aQ,h⟩:=h;split at h
   ·rename_i pM;simp only [Option.some.injEq,Prod.mk.injEq] at h;obtain ⟨rfl,rfl⟩:=h;obtain ⟨aJ,aP⟩:=bx.ok ao
    exact ⟨bd.refl _ _,aJ,fun B U J S w vs ah aN ae=>CallsIn.mono (aP B _ [] _ w vs (C5 ah) (fun b i h=>by obtain ⟨_,_,h⟩:=lE h;cases h) ((FT ah ae).pure aC).cu) fun e w' he=>by
     cases e with
     | returned v=>exact (Eb ah aQ pM he).cu
     | panicked c=>exact he.elim
     | outgrown=>exact he.elim⟩
   ·simp at h
  ·simp at h
 ·split at h
  ·rename_i k id;split at h
   ·rename_i bG;split at h
    ·rename_i l aE;split at h
     ·rename_i aC;simp only [sC] at h;obtain ⟨⟨r,a4⟩,ao,aQ⟩:=h;simp only [sr,Prod.mk.injEq] at aQ;obtain ⟨bw,aQ,rfl,rfl⟩:=aQ;obtain ⟨aJ,aP⟩:=bx.ok ao;refine ⟨bd.set _ _ bG,aJ,fun B U J S w vs ah aN ae=>?_⟩;obtain ⟨v0,gb,r1,_⟩:=a'.D3 ae;subst gb;obtain ⟨az,S',aA,bY,r2⟩:=B6 ah aE r1
      have dF:a' (fun i=>.arg i) az J S' w [I.bW (l.map I.view)] [v0]:=⟨rfl,fun i u v hu ae=>by
       cases i with
       | zero=>simp at hu ae;subst hu ae;exact r2
       | succ i=>simp at hu,fun i u v hu ae=>by
       cases i with
       | zero=>simp at hu ae;subst hu;exact aW.b5 rfl
       | succ i=>simp at hu⟩
      (have nz:([I.bW (l.map I.view)]).all (ct 8)=true:=by simp [aC]);exact CallsIn.mono (aP B _ [] S' w _ (y0 bY) (fun b i h=>by obtain ⟨_,_,h⟩:=lE h;cases h) (dF.pure nz).cu) fun e w' he=>by
       cases e with
       | returned v=>exact a3.after (Ext.refl J) aA (zR bY aQ he).cu
       | panicked c=>exact he.elim
       | outgrown=>exact he.elim
     ·simp at h
    ·simp at h
   ·simp at h
  ·simp at h
 ·simp only [sC] at h;obtain ⟨⟨r,a4⟩,ao,aQ⟩:=h;simp only [sr,Prod.mk.injEq] at aQ;obtain ⟨bw,aQ,rfl,rfl⟩:=aQ;refine ⟨bd.refl _ _,?_⟩;have bQ:=(bx.ok ao).mono (r':=bw.cu) (H1:=H) fun B U J S w ah x w' aC=>(xo ah (fun id aE=>(bx.low ao).2 id aE aE) aQ aC).cu;cases b2 with
  | fn k=>exact ⟨bQ.1,fun B U J S w vs ah aN ae=>bQ.2 B U J S w vs ah aN ae.cu⟩
  | yield l=>exact fun B U J S w vs b ah aN ae ag=>bQ B U J S w vs b ah aN ae.cu ag
 ·simp only [sC] at h;obtain ⟨⟨r,a4⟩,ao,aQ⟩:=h;split at aQ
  ·exact frozen ao aQ
  ·rename_i id0 pn;split at aQ
   ·rename_i l aE;split at aQ
    ·rename_i fe;split at aQ
     ·rename_i l' bw ak ae;simp only [Option.some.injEq,Prod.mk.injEq] at aQ;obtain ⟨rfl,rfl⟩:=aQ;exact ⟨bd.append _ _ _,(bx.ok ao).mono fun B U J S w ah x w' aC=>D' ah (fun id aE=>(bx.low ao).2 id aE aE) fe aE ak ae aC⟩
     ·simp at aQ
    ·simp at aQ
   ·rename_i es clock aE;split at aQ
    ·rename_i fe;split at aQ
     ·rename_i l' bw ak ae;simp only [Option.some.injEq,Prod.mk.injEq] at aQ;obtain ⟨rfl,rfl⟩:=aQ;exact ⟨bd.append _ _ _,(bx.ok ao).mono fun B U J S w ah x w' aC=>Ea ah (fun id aE=>(bx.low ao).2 id aE aE) fe aE ak ae aC⟩
     ·simp at aQ
    ·simp at aQ
   ·simp at aQ
end
end Go.Proofs.YtfakoboiahbhaaaGreat.Ab


namespace Go.Proofs.YtfakoboiahbhaaaGreat.Ab
open Go
def gi (g:Nat→Option Nat) (U:Nat→Option aI):Nat→Option aI:=fun b=>match U b with
 | some (.arg i)=>(g i).map .arg
 | some (.obj id)=>some (.obj id)
 | some (.cell id j)=>some (.cell id j)
 | _=>none
def fw (eg:Bool) (vs:List I):List I:=match eg with | true=>vs | false=>vs.map I.view
def er (F:Fence):Prop:=F=Fence.wide∨∃ l,F=Fence.wide.inRound l
section
variable {P:Program} {B N:Nat} {J:List Nat} {w:World} {H:List au} {U:Nat→Option aI} {S:Nat→Nat→Prop}
theorem er.fn {F:Fence} (h:er F) (f:FuncId):F.fn f:=by rcases h with rfl | ⟨l,rfl⟩ <;> trivial
theorem er.depth {F:Fence} (h:er F):F.depth=none:=by rcases h with rfl | ⟨l,rfl⟩ <;> rfl
theorem er.calls {F:Fence} (h:er F) {n:Nat} {f:FuncId} {args:Array Value} {w:World} {R:Ending→World→Prop} (k:CallsIn Fence.wide n P f args w R):CallsIn F n P f args w R:=by
 rcases h with rfl | ⟨l,rfl⟩
 ·exact k
 ·exact CallsIn.inRound l k
theorem er.rounds {F:Fence} (h:er F) {n l:Nat} {f:FuncId} {tmps:Array Value} {assign body:Code} {w:World} {R:Ending→World→Prop} (k:RoundIn Fence.wide n P l f tmps assign body w R):RoundIn F n P l f tmps assign body w R:=by
 rcases h with rfl | ⟨l,rfl⟩
 ·exact k
 ·exact k
theorem Eo {g:Nat→Option Nat} {b:Nat} (h:U b=none):gi g U b=none:=by simp [gi,h]
theorem Ep {g:Nat→Option Nat} {b:Nat} (h:gi g U b≠none):U b≠none:=fun aS=>h (Eo aS)
theorem z_ (g:Nat→Option Nat) (U:Nat→Option aI) (S:Nat→Nat→Prop) (w:World):bk U S w (gi g U) S w :=
 ⟨rfl,rfl,rfl,sx _,fun _ _ _=>rfl,fun _ _ h=>⟨h,rfl⟩,fun _ _ h=>.inl h,fun _ h=>.inl (Ep h)⟩
theorem z' (g:Nat→Option Nat) (U:Nat→Option aI):m4 (gi g U):=fun b i h=>by
 unfold gi at h;split at h <;> simp at h
theorem y1 (ah:aL B U J S w H) (g:Nat→Option Nat):aL B (gi g U) J S w H:=by
 refine ⟨ah.cH,fun id o aq=>?_,ah.ch,fun b l ag=>?_,ah.c1⟩
 ·refine (ah.obj id o aq).frame (Ext.refl J) (fun _ _ h=>⟨h,rfl⟩) fun b l ag ak=>⟨?_,rfl,fun _ h=>h⟩;rcases ak with rfl | ⟨j,rfl⟩ <;> simp [gi,ag]
 ·cases h:U b with
  | none=>simp [gi,h] at ag
  | some l'=>exact ah.base b l' h
theorem D9 {g:Nat→Option Nat} {i j:Nat} (aO:g i=some j) {u:I} {v:Value} (h:aW U J S w (.arg i) u v):aW (gi g U) J S w (.arg j) u v :=
 h.mono (Ext.refl J) (fun _ _ h=>⟨h,rfl⟩) fun b ag=>⟨by simp [gi,ag,aO],rfl,fun _ h=>h⟩
theorem Ej {T:List I} {a:Act} (aK:cv B N U J S w ⟨T,H⟩ a) (ops:List Operand) (ts:List Bool) (eg:Bool) :
  ∃ b4 a6,bk U S w b4 a6 w∧cv B N b4 J a6 w ⟨(rd T ts ops).2,H⟩ a ∧
    a' (fun i=>.arg i) b4 J a6 w (fw eg (rd T ts ops).1) (ops.map a.eval):=by
 obtain ⟨b4,a6,g,bZ,ah,ae⟩:=Ek a ops ts T 0 U S aK.T aK.H;simp only [tc] at ae;cases eg with
 | true=>exact ⟨b4,a6,g.aA w,⟨bZ,ah,aK.M.aA (g.aA w)⟩,ae⟩
 | false =>
   obtain ⟨bJ,aJ,aP,cr,dF⟩:=E0 (rd T ts ops).1 (ops.map a.eval) (fun i=>.arg i) a6 (fun i j h=>by cases h;rfl) (fun i id=>by simp) (fun i id j=>by simp) ae ah;have aA:bk b4 a6 w b4 bJ w:=bk.settle aJ fun b o h=>(aP b o h).imp id fun ⟨i,h⟩=>⟨_,h⟩;refine ⟨b4,bJ,(g.aA w).trans aA,⟨⟨bZ.len,fun i u v hu ae=>(bZ.rel i u v hu ae).mono (Ext.refl J) (fun b o h=>⟨aJ b o h,rfl⟩),fun i u v hu ae=>?_⟩,cr,(aK.M.aA (g.aA w)).aA aA⟩,dF⟩;refine (bZ.own i u v hu ae).mono (Ext.refl J) (fun b o h=>⟨aJ b o h,rfl⟩) fun b ag=>⟨ag,rfl,fun o h=>?_⟩;rcases aP b o h with h | ⟨j,h⟩
   ·exact h
   ·rw [ag] at h;cases h
theorem oV {C:b8} {lo:Nat} {o:Oper} {an:b7} {s aF:a7} (h:Ab.execOp P C lo o an s=some aF) :
  ∃ r H',a_ P C lo o an.mode (fw (dS o) (rd s.T an.cC (opsOf o)).1) s.H=some (r,H') ∧
    aF=⟨put (inPlace o an.mode (rd s.T an.cC (opsOf o)).2 r) o.dst r,H'⟩:=by
 unfold Ab.execOp at h;simp only [sr] at h;obtain ⟨⟨r,H'⟩,h,rfl⟩:=h;exact ⟨r,H',h,rfl⟩
theorem DV {C:b8} {lo mode:Nat} {o:Oper} {us:List I} {r:I} {H':List au} {t:Nat} (hm:mode≠0) (CL:mode≠4) (aq:o.op=.move (.tmp t)∨o.op=.assign (.tmp t))
  (h:a_ P C lo o mode us H=some (r,H')) {U:Nat→Option aI} {J:List Nat} {S:Nat→Nat→Prop} {w:World} {l:aI} {v:Value} (aj:Rel J S w r v) (hw:aW U J S w l r v):Rel J S w r.view v:=by
 by_cases hu:r.cW=true
 ·exact aj.view hu
 ·obtain ⟨cells,len,z,rfl⟩:∃ cells len z,r=.ay cells len (.uniq z):=by
   unfold I.cW at hu;split at hu
   ·exact ⟨_,_,_,rfl⟩
   ·simp at hu
  have aS:len=0:=by
   (have aY:eW P lo mode o.type (.tmp t) H us=some (.ay cells len (.uniq z),H'):=by rcases aq with aq | aq <;> simpa only [a_,aq] using h);unfold eW at aY;split at aY
   ·split at aY
    ·exact absurd rfl hm
    ·split at aY
     ·split at aY
      ·rename_i bp;cases aY;exact bp
      ·cases aY
     ·cases aY
     ·cases aY
     ·simp at aY
    ·exact absurd rfl CL
    ·split at aY
     ·split at aY
      ·simp only [sC,sr,Prod.mk.injEq] at aY;obtain ⟨row,cV,n,aN,ad,af⟩:=aY;have:=congrArg (fun x=>match x with | I.ay _ _ c=>c | _=>.shared) ad;exact absurd this (yB z)
      ·simp at aY
     ·split at aY
      ·split at aY
       ·split at aY
        ·cases aY
        ·cases aY
       ·cases aY
      ·cases aY
     ·simp only [Option.some.injEq,Prod.mk.injEq] at aY;have:=aY.1 ▸ I.dk _;cases this
   ·simp at aY
  subst aS;have ao:cells=[]:=by
   cases aj with
   | b3 c a=>rfl
   | ay _ _ _ b o cap f ao hle ca k eS=>exact absurd rfl (ca z)
   | cN _ _ z b o cap =>
     rcases hw with ⟨_,_,h⟩ | ⟨_,_,_,_,_,h,_⟩
     ·exact h
     ·exact tt.1 (by simpa using h)
  subst ao;cases aj with
  | b3 c a=>exact .b3 _ _
  | ay _ _ _ b o cap f ao hle ca k eS=>exact absurd rfl (ca z)
  | cN _ _ z b o cap=>exact .ay [] 0 .shared b o cap (fun _=>undef) (by simp) (Nat.zero_le _) (by simp) (by simp) (by simp)
theorem zr {lo id:Nat} {H H':List au} {f:List I→Option (List I)} (h:hd lo H id f=some H'):bd lo H H':=by
 unfold hd at h;split at h
 ·rename_i bG;split at h
  ·simp only [sr] at h;obtain ⟨l',_,rfl⟩:=h;exact bd.set _ _ bG
  ·simp at h
 ·simp at h
theorem DD {lo:Nat} {t:TypeId} {us:List I} {r:I} {H':List au} (h:je P lo t H us=some (r,H')):bd lo H H':=by
 unfold je at h;split at h
 ·split at h
  ·split at h
   ·split at h
    ·rename_i bG;split at h
     ·split at h
      ·cases h;exact bd.set _ _ bG
      ·cases h;exact bd.set _ _ bG
      ·cases h
     ·cases h
    ·cases h
   ·cases h
  ·cases h
 ·cases h
theorem DB {lo:Nat} {ts:Array TypeId} {us:List I} {r:I} {H':List au} (h:hI P lo ts H us=some (r,H')):bd lo H H':=by
 unfold hI at h;split at h
 ·split at h
  ·split at h
   ·split at h
    ·rename_i bG;split at h
     ·split at h
      ·cases h;exact bd.set _ _ bG
      ·cases h;exact bd.refl _ _
      ·cases h
     ·cases h
    ·cases h
   ·cases h
  ·cases h
 ·cases h
theorem EV {t:TypeId} {ok:Bool} {us:List I} {r:I} {H':List au} (h:im P t ok H us=some (r,H')):H'=H:=by
 unfold im at h;split at h
 ·split at h
  ·split at h
   ·split at h
    ·simp only [sr,Prod.mk.injEq] at h;obtain ⟨_,_,_,rfl⟩:=h;rfl
    ·cases h
   ·cases h
  ·cases h
 ·cases h
theorem EU {us:List I} {r:I} {H':List au} (h:k2 H us=some (r,H')):H'=H:=by
 unfold k2 at h;split at h
 ·split at h
  ·split at h
   ·split at h
    ·split at h
     ·cases h;rfl
     ·cases h
    ·cases h
   ·cases h
  ·cases h
 ·cases h
theorem zs {lo id:Nat} {H H':List au} {f:List I→Option (List I)} (h:hf lo H id f=some H'):bd lo H H':=by
 unfold hf at h;split at h
 ·rename_i bG;split at h
  ·simp only [sr] at h;obtain ⟨l',_,rfl⟩:=h;exact bd.set _ _ bG
  ·simp only [sr] at h;obtain ⟨l',_,rfl⟩:=h;exact bd.set _ _ bG
  ·simp at h
 ·simp at h
theorem DA {lo:Nat} {ts:Array TypeId} {us:List I} {r:I} {H':List au} (h:il P lo ts H us=some (r,H')):bd lo H H':=by
 unfold il at h;split at h
 ·split at h
  ·split at h
   ·split at h
    ·split at h
     ·cases h
     ·cases h;exact bd.append _ _ _
    ·cases h
   ·split at h
    ·rename_i bG;split at h
     ·split at h
      ·split at h
       ·cases h;exact (bd.set _ _ bG).trans (bd.append _ _ _)
       ·cases h
      ·cases h
     ·cases h
    ·cases h
   ·cases h
  ·cases h
 ·cases h
theorem Dz {lo:Nat} {ts:Array TypeId} {us:List I} {r:I} {H':List au} (h:jd P lo ts H us=some (r,H')):bd lo H H':=by
 refine bd.trans ?_ (DA h);unfold ji;split
 ·split
  ·split
   ·rename_i ao;simp only [sM] at ao;exact bd.set _ _ (Nat.le_of_ble_eq_true ao.2)
   ·exact bd.refl _ _
  ·exact bd.refl _ _
 ·exact bd.refl _ _
theorem DE {lo:Nat} {t:TypeId} {us:List I} {r:I} {H':List au} (h:k4 P t H us=some (r,H')):bd lo H H':=by
 unfold k4 at h;split at h
 ·split at h
  ·cases h;exact bd.append _ _ _
  ·cases h
 ·cases h
theorem DC {lo:Nat} {t:TypeId} {x:Option Operand} {r:I} {H':List au} (h:k3 P t x H=some (r,H')):bd lo H H':=by
 unfold k3 at h;split at h
 ·cases h;exact bd.append _ _ _
 ·cases h
theorem zq {lo:Nat} {b:Builtin} {ts:Array TypeId} {us:List I} {r:I} {H':List au} (h:eA P lo b ts H us=some (r,H')):bd lo H H':=by
 have same:∀ {x:Option I},x.map (·,H)=some (r,H')→bd lo H H':=fun h=>by
  simp only [sr,Prod.mk.injEq] at h;obtain ⟨_,_,_,rfl⟩:=h;exact bd.refl _ _
 unfold eA at h;split at h
 ·unfold jc at h;split at h
  ·split at h
   ·exact same h
   ·simp at h
  ·simp at h
 ·unfold hj at h;split at h
  ·split at h
   ·split at h <;> simp at h;obtain ⟨_,rfl⟩:=h;exact bd.refl _ _
   ·split at h <;> simp at h;obtain ⟨_,rfl⟩:=h;exact bd.refl _ _
   ·split at h <;> simp at h;obtain ⟨_,rfl⟩:=h;exact bd.refl _ _
   ·split at h <;> simp at h;obtain ⟨_,rfl⟩:=h;exact bd.refl _ _
  ·simp at h
 ·unfold j2 at h;split at h
  ·split at h <;> simp at h;obtain ⟨_,rfl⟩:=h;exact bd.refl _ _
  ·split at h <;> simp at h;obtain ⟨_,rfl⟩:=h;exact bd.refl _ _
  ·simp at h
 ·unfold j3 at h;split at h
  ·split at h
   ·split at h
    ·split at h
     ·simp only [sr,Prod.mk.injEq] at h;obtain ⟨H1,h,_,rfl⟩:=h;exact zr h
     ·simp at h
    ·simp at h
   ·simp at h
  ·simp at h
 ·unfold k1 at h;split at h
  ·split at h
   ·split at h
    ·split at h
     ·simp only [sr,Prod.mk.injEq] at h;obtain ⟨H1,h,_,rfl⟩:=h;exact zs h
     ·simp at h
    ·simp at h
   ·simp at h
  ·split at h <;> simp at h;obtain ⟨_,rfl⟩:=h;exact bd.refl _ _
  ·simp at h
 ·exact DB h
 ·exact same h
 ·exact same h
 ·simp at h
theorem D7 {C:b8} (bx:dc P C) {lo mode:Nat} {o:Oper} {us:List I} {r:I} {H':List au} (h:a_ P C lo o mode us H=some (r,H')):bd lo H H':=by
 have same:∀ {x:Option I},x.map (·,H)=some (r,H')→bd lo H H':=fun h=>by
  simp only [sr,Prod.mk.injEq] at h;obtain ⟨_,_,_,rfl⟩:=h;exact bd.refl _ _
 have l_:∀ {t:TypeId} {x:Operand},eW P lo mode t x H us=some (r,H')→bd lo H H':=fun h=>by
  unfold eW at h;split at h
  ·split at h
   ·split at h
    ·simp only [sr,Prod.mk.injEq] at h;obtain ⟨_,_,_,rfl⟩:=h;exact bd.refl _ _
    ·cases h;exact bd.refl _ _
   ·split at h
    ·split at h
     ·cases h;exact bd.refl _ _
     ·cases h;exact bd.append _ _ _
    ·cases h;exact bd.refl _ _
    ·cases h;exact bd.refl _ _
    ·simp at h
   ·split at h
    ·split at h
     ·rename_i bG;split at h
      ·split at h
       ·cases h;exact bd.set _ _ bG
       ·cases h
      ·cases h
     ·cases h
    ·cases h;exact bd.refl _ _
   ·split at h
    ·split at h
     ·rename_i bG;simp only [sC,sr,Prod.mk.injEq] at h;obtain ⟨_,_,_,_,_,rfl⟩:=h;exact bd.set _ _ bG
     ·simp at h
    ·split at h
     ·rename_i bG;split at h
      ·split at h
       ·cases h;exact bd.set _ _ bG
       ·cases h
      ·cases h
     ·cases h
    ·cases h;exact bd.refl _ _
  ·simp at h
 unfold a_ at h;split at h
 ·exact l_ h
 ·exact l_ h
 ·unfold dT at h;split at h
  ·split at h
   ·exact same h
   ·split at h
    ·exact same h
    ·simp at h
   ·split at h
    ·split at h
     ·split at h
      ·cases h;exact bd.refl _ _
      ·cases h;exact bd.refl _ _
      ·simp at h
     ·simp at h
    ·simp at h
   ·split at h
    ·split at h
     ·rename_i bG;split at h
      ·split at h
       ·cases h;exact bd.set _ _ bG
       ·split at h
        ·split at h
         ·simp at h
         ·cases h;exact (bd.set _ _ bG).trans (bd.append _ _ _)
        ·cases h;exact bd.set _ _ bG
       ·cases h;exact bd.refl _ _
       ·simp at h
      ·split at h
       ·cases h;exact bd.set _ _ bG
       ·cases h;exact bd.refl _ _
       ·simp at h
      ·simp at h
     ·simp at h
    ·simp at h
  ·simp at h
 ·unfold hJ at h;split at h
  ·split at h
   ·simp only [sr,Prod.mk.injEq] at h;obtain ⟨H1,h,_,rfl⟩:=h;unfold iI at h;split at h
    ·split at h
     ·exact zs h
     ·simp at h
    ·simp at h
   ·simp only [sr,Prod.mk.injEq] at h;obtain ⟨H1,h,_,rfl⟩:=h;unfold lB at h;split at h
    ·split at h
     ·exact zr h
     ·simp at h
    ·simp at h
  ·simp at h
 ·unfold gM at h;split at h
  ·split at h
   ·simp only [sr,Prod.mk.injEq] at h;obtain ⟨_,_,_,rfl⟩:=h;exact bd.append _ _ _
   ·split at h
    ·split at h
     ·cases h;exact bd.refl _ _
     ·cases h
    ·cases h
  ·simp at h
 ·unfold k0 at h;split at h
  ·simp only [sr,Prod.mk.injEq] at h;obtain ⟨_,_,_,rfl⟩:=h;exact bd.append _ _ _
  ·split at h
   ·simp only [sr,Prod.mk.injEq] at h;obtain ⟨_,_,_,rfl⟩:=h;exact bd.append _ _ _
   ·cases h
 ·split at h
  ·exact same h
  ·simp only [sr,Prod.mk.injEq] at h;obtain ⟨_,_,_,rfl⟩:=h;exact bd.refl _ _
 ·unfold j4 at h;split at h
  ·split at h
   ·split at h
    ·simp only [sr,Prod.mk.injEq] at h;obtain ⟨_,_,_,rfl⟩:=h;exact bd.append _ _ _
    ·split at h
     ·simp only [sr,Prod.mk.injEq] at h;obtain ⟨_,_,_,rfl⟩:=h;exact bd.refl _ _
     ·simp at h
   ·simp at h
  ·simp at h
 ·exact DC h
 ·exact DD h
 ·rw [EV h];exact bd.refl _ _
 ·exact DE h
 ·rw [EU h];exact bd.refl _ _
 ·split at h
  ·split at h
   ·split at h
    ·exact zq h
    ·exact Dz h
   ·exact zq h
  ·unfold hH at h;split at h
   ·unfold kp at h;split at h
    ·exact (na bx h).1
    ·exact (na bx h).1
    ·simp at h
   ·simp at h
  ·simp at h
 ·exact same h
end
end Go.Proofs.YtfakoboiahbhaaaGreat.Ab


namespace Go.Proofs.YtfakoboiahbhaaaGreat.Ab
open Go
section
variable {P:Program} {B N:Nat} {J:List Nat} {w:World} {H:List au} {U:Nat→Option aI} {S:Nat→Nat→Prop}
theorem AE {k : Nat} {f : Func} (aQ : P.funcs[k]? = some f) (ag : f.body.isSome = true) (aN : f.name ≠ "runtime.NumGoroutine") (args : Array Value) (w : World) :
  (callFunc k args).run P w=.ok (.enter k args) w:=by
 have bt:f.body≠none:=fun h=>by simp [h] at ag
 simp [callFunc,aQ,bt,aN]
theorem Bd {first us cap:List I} {vs ws xs:List Value} (aQ:first.length=vs.length) (bT:∀ u∈first,u.plain=true) (r1:∀ (j:Nat) (u:I) (v:Value),first[j]?=some u→vs[j]?=some v→Rel J S w u v)
  (ao:cap.length=ws.length) (b6:∀ u∈cap,u.plain=true) (r2:∀ (j:Nat) (u:I) (v:Value),cap[j]?=some u→ws[j]?=some v→Rel J S w u v)
  (ae:a' (fun i=>.arg (i+1)) U J S w us xs) :
  a' (fun i=>.arg i) (gi (fun i=>match i with | 0=>none | j+1=>some (first.length+j)) U) J S w (first++us++cap) (vs++xs++ws):=by
 have ak:=ae.len;have key:∀ (i:Nat) (u:I) (v:Value),(first++us++cap)[i]?=some u→(vs++xs++ws)[i]?=some v →
   Rel J S w u v∧aW (gi (fun i=>match i with | 0=>none | j+1=>some (first.length+j)) U) J S w (.arg i) u v:=fun i u v hu al=>by
  rcases tg i first.length with ad | ad
  ·rw [sD,sR ad] at hu;rw [sD,sR (by omega)] at al;exact ⟨r1 i u v hu al,aW.b5 (bT u (sY hu))⟩
  ·rw [sD,sZ ad] at hu;rw [sD,sZ (by omega),←aQ] at al;rcases tg (i-first.length) us.length with af | af
   ·rw [sR af] at hu;rw [sR (by omega)] at al;refine ⟨ae.rel _ u v hu al,D9 ?_ (ae.own _ u v hu al)⟩;show some (first.length+(i-first.length))=some i;congr 1;omega
   ·rw [sZ af] at hu;rw [sZ (by omega),←ak] at al;exact ⟨r2 _ u v hu al,aW.b5 (b6 u (sY hu))⟩
 exact ⟨by simp [aQ,ao,ak],fun i u v hu al=>(key i u v hu al).1,fun i u v hu al=>(key i u v hu al).2⟩
theorem xV {F:Fence} (bE:er F) {C:b8} (bx:dc P C) {lo:Nat} {o:Oper} {an:b7} {s aF:a7} (h:Ab.execOp P C lo o an s=some aF) {a:Act} (aK:cv B N U J S w s a)
  {K:Act→World→Prop} {Q:Exit→Act→World→Prop} (fJ:∀ aM w',Step B N U J S w aF aM w'→K aM w'):o.wpIn F 0 P a w K Q:=by
 obtain ⟨r,H',aD,rfl⟩:=oV h;obtain ⟨b4,a6,ni,cb,ae⟩:=Ej (H:=s.H) aK (opsOf o) an.cC (dS o);generalize y5:fw (dS o) (rd s.T an.cC (opsOf o)).1=us at aD ae;have eR:∀ v,a.eval (.const v)=v:=fun _=>rfl;have jQ:∀ c,o.op≠.defer c:=fun c ao=>by simp [a_,ao,cA] at aD
 have nt:∀ v w',(∀ t,o.op=.move (.tmp t)∨o.op=.assign (.tmp t)→v=a.eval (.tmp t))→a3 B (dp b4) J a6 w H' r v w'→K (a.put o.dst v) w':=fun v w' ed aC=>by
  refine fJ _ _ (Step.trans (Ext.refl J) ni ?_);by_cases hm:an.mode=0∨an.mode=4
  ·obtain ⟨az,b1,S',aJ,aP,f',_⟩:=n1 o.dst cb aC .junk (fun _ _ _ _ _=>.junk _);(have g6:inPlace o an.mode (rd s.T an.cC (opsOf o)).2 r=(rd s.T an.cC (opsOf o)).2:=by rcases hm with hm | hm <;> simp [inPlace,hm]);rw [g6];exact ⟨az,b1,S',aJ,aP,f'⟩
  ·by_cases ax:∃ t,o.op=.move (.tmp t)∨o.op=.assign (.tmp t)
   ·obtain ⟨t,ax⟩:=ax;have g6:inPlace o an.mode (rd s.T an.cC (opsOf o)).2 r=gR (rd s.T an.cC (opsOf o)).2 t r.view:=by
     unfold inPlace;split
     ·rename_i pC;exact absurd (.inl pC) hm
     ·rename_i pC;exact absurd (.inr pC) hm
     ·rcases ax with ax | ax <;> simp [ax]
    have y6:∀ x,a.tmps.toList[t]?=some x→x=a.eval (.tmp t):=fun x al=>by
     (have nG:a.tmps[t]?=some x:=by simpa using al);simp [Act.eval,nG,sO]
    have yY:v=a.eval (.tmp t):=ed t ax;obtain ⟨az,b1,S',aJ,aP,f',nD⟩:=n1 o.dst cb aC r.view (fun bq cj bJ aV aX=>DV (fun e=>hm (.inl e)) (fun e=>hm (.inr e)) ax aD aV aX);refine ⟨az,b1,S',aJ,aP,?_,f'.H,f'.M⟩;rw [g6];have bZ:=f'.T;simp only at bZ;cases a1:o.dst with
    | none =>
      simp only [a1,put,Act.put,gS] at bZ ⊢;exact bZ.swap t (I.dk _) fun x al=>by rw [y6 x al,←yY];exact nD
    | some d =>
      simp only [a1,put,Act.put,gS] at bZ ⊢;by_cases pP:t=d
      ·subst pP;rw [td];exact bZ
      ·rw [List.set_comm _ _ pP];refine bZ.swap t (I.dk _) fun x al=>?_;rw [wx,sG (Ne.symm pP)] at al;rw [y6 x al,←yY];exact nD
   ·have g6:inPlace o an.mode (rd s.T an.cC (opsOf o)).2 r=(rd s.T an.cC (opsOf o)).2:=by
     unfold inPlace;split
     ·rfl
     ·rfl
     ·split
      ·rename_i h;exact absurd ⟨_,.inl h⟩ ax
      ·rename_i h;exact absurd ⟨_,.inr h⟩ ax
      ·rfl
    rw [g6];obtain ⟨az,b1,S',aJ,aP,f',_⟩:=n1 o.dst cb aC .junk (fun _ _ _ _ _=>.junk _);exact ⟨az,b1,S',aJ,aP,f'⟩
 refine ⟨fun f _=>bE.fn f,?_⟩;rw [Oper.semAt_eq _ _ _ jQ];by_cases fc:∃ c f,o.op=.call c∧c.callee=.value f
 ·obtain ⟨c,f,kI,h6⟩:=fc;have he:opsOf o=f::c.args.toList:=by
   obtain ⟨BM,args,BH⟩:=c;simp only at h6;subst h6;simp only [opsOf,kI]
  rw [he] at ae;simp only [a_,kI,h6] at aD;have fI:=mg cb.H;have gb:=Be ae
  match us,aD,gb with
  | [],aD,_=>simp [hH] at aD
  | FM::GJ,aD,gb =>
    simp only [hH] at aD;have n9:=gb.rel 0 FM (a.eval f) rfl rfl;have y7:=gb.tail;unfold kp at aD;split at aD
    ·(rename_i k first cap);generalize kC:a.eval f=FP at n9;cases n9 with
     | func _ _ _ vs ws aJ aP bT b6 r1 r2 =>
       obtain ⟨_,⟨fn,Cu,kz,CR⟩,pg⟩:=na bx aD;have nF:=Bd (U:=dp b4) (J:=J) (S:=a6) (w:=w) (first:=first) (cap:=cap) (vs:=vs.toList) (ws:=ws.toList) (by simp [aJ]) bT (fun j u v hu al=>r1 j u v hu (by simpa using al)) (by simp [aP]) b6 (fun j u v hu al=>r2 j u v hu (by simpa using al)) y7;have ao:=pg B _ J a6 w _ (y1 fI _) (z' _ _) nF;have kK:(resolve a.eval c o.type).run P w=.ok { target:=.fn (.func k) ws,args:=vs++c.args.map a.eval } w:=by
        simp [resolve,h6,kC,Deferred.ofValue]
       have dQ:(Go.execOp a.eval o).run P w=.ok (.enter k (vs++c.args.map a.eval++ws)) w:=by
        simp only [Go.execOp,kI,Sem.run_bind,kK,Result.andThen_ok,invoke,AE Cu kz CR]
       rw [dQ];have hC:(vs.toList++List.map a.eval c.args.toList++ws.toList).toArray=vs++c.args.map a.eval++ws:=by
        apply Array.ext';simp
       rw [hC] at ao;refine ⟨fun iR=>(by rw [bE.depth] at iR;cases iR),bE.calls (CallsIn.mono ao fun e w' he=>?_)⟩;cases e with
       | returned v=>exact nt v w' (fun t ax=>by rcases ax with ax | ax <;> rw [kI] at ax <;> cases ax) (a3.after (Ext.refl J) (z_ _ _ _ _) he)
       | panicked c=>exact he.elim
       | outgrown=>exact he.elim
    ·rename_i l;generalize kC:a.eval f=FP at n9;cases n9 with
     | yield _ b ag =>
       obtain ⟨_,pg⟩:=na bx aD;have nF:=Bd (U:=dp b4) (J:=J) (S:=a6) (w:=w) (first:=[]) (cap:=[]) (vs:=[]) (ws:=[]) rfl (by simp) (by simp) rfl (by simp) (by simp) y7;simp only [List.nil_append,List.append_nil] at nF;obtain ⟨L,ad,af,aG⟩:=pg B _ J a6 w _ b (y1 fI _) (z' _ _) nF ag;have kK:(resolve a.eval c o.type).run P w=.ok { target:=.fn (.yield b) #[],args:=c.args.map a.eval } w:=by
        simp [resolve,h6,kC,Deferred.ofValue]
       (have bR:(c.args.map a.eval).size=L.params.size:=by rw [←af];simp);have dQ:(Go.execOp a.eval o).run P w=.ok (.round b L.fn (hM L (List.map a.eval c.args.toList)) L.assign L.body) w:=by
        simp only [Go.execOp,kI,Sem.run_bind,kK,Result.andThen_ok,invoke]
        have:(List.map a.eval c.args.toList).toArray=c.args.map a.eval:=by apply Array.ext';simp
        simp [Instr.yield,run_getLoop ad,bR,hM,this]
       rw [dQ];refine ⟨fun iR=>(by rw [bE.depth] at iR;cases iR),bE.rounds (RoundIn.mono aG fun e w' he=>?_)⟩;cases e with
       | returned v=>exact nt v w' (fun t ax=>by rcases ax with ax | ax <;> rw [kI] at ax <;> cases ax) (a3.after (Ext.refl J) (z_ _ _ _ _) he)
       | panicked c=>exact he.elim
       | outgrown=>exact he.elim
    ·simp at aD
 ·have iU:∀ c f,o.op=.call c→c.callee≠.value f:=fun c f ad af=>fc ⟨c,f,ad,af⟩;have aC:dS o=false→∀ u∈us,u.plain=true:=fun ak u hu=>by
   rw [ak] at y5;subst y5;obtain ⟨x,_,rfl⟩:=sJ.1 hu;exact I.dk x
  rcases Fv eR (mg cb.H) aD iU aC (Be ae) with ⟨v,w',ad,af⟩ | ⟨w',ad,af⟩
  ·rw [ad];exact nt v w' (fun t ax=>by rcases ax with ax | ax <;> simp [Go.execOp,ax] at ad <;> exact ad.1.symm) af
  ·rw [ad];exact nt undef w' (fun t ax=>by rcases ax with ax | ax <;> simp [Go.execOp,ax] at ad) af
end
end Go.Proofs.YtfakoboiahbhaaaGreat.Ab


namespace Go.Proofs.YtfakoboiahbhaaaGreat.Ab
open Go
section
variable {P:Program} {B N:Nat} {J:List Nat} {w:World} {H:List au} {U:Nat→Option aI} {S:Nat→Nat→Prop}
theorem cv.c8 {s:a7} {a:Act} (aK:cv B N U J S w s a) (t:Nat):Rel J S w (c8 s.T t) (a.tmps.getD t undef):=by
 rw [f_,sV];cases h:s.T[t]? with
 | none=>exact .junk _
 | some u =>
   have ak:=aK.T.len;have aU:t<s.T.length:=(ss.1 h).1;(have l9:t<a.tmps.size:=by rw [←tU,←ak];exact aU);(have al:a.tmps.toList[t]?=some (a.tmps.getD t undef):=by simp [sO,l9]);exact aK.T.rel t u _ h al
theorem cv.aA {s:a7} {a:Act} (aK:cv B N U J S w s a) (x:Operand):Rel J S w (aA s.T x) (a.eval x):=by
 cases x with
 | tmp t=>exact aK.c8 t
 | const v=>exact lC J S w v
 | global g=>exact .junk _
 | func f=>exact .func f [] [] #[] #[] rfl rfl (by simp) (by simp) (by simp) (by simp)
theorem lj {ops:Array Oper} {o:Oper} {s:a7} {a:Act} (aK:cv B N U J S w s a) {x:Bool} (h:eB ops o s.T=some x):Region.wanted o (yielded ops a.tmps)=x:=by
 unfold eB at h;unfold Region.wanted;split at h
 ·rename_i aO;rw [aO];simpa using h
 ·rename_i j want aO;rw [aO];split at h
  ·rename_i d a1;split at h
   ·rename_i b ag;have aj:=aK.c8 d;rw [ag] at aj;have:=aj.h3;simp only [Option.some.injEq] at h;subst h;have aU:a.tmps[d]?=some (.bool b):=by
     rw [sO] at this;cases h:a.tmps[d]? with
     | none=>rw [h] at this;simp [undef] at this
     | some v=>rw [h] at this;simpa using this
    simp [yielded,a1,aU]
   ·rename_i ag;have aj:=aK.c8 d;rw [ag] at aj;simp only [Option.some.injEq] at h;subst h;have aN:yielded ops a.tmps j=none:=by
     unfold yielded;rw [a1,sq];cases h:a.tmps[d]? with
     | none=>rfl
     | some v =>
       rw [sO,h] at aj;simp only [u6] at aj;cases aj;rfl
    simp [aN]
   ·simp at h
  ·simp at h
theorem cv.skip {T:List I} {a:Act} (aK:cv B N U J S w ⟨T,H⟩ a) (d:Option Tmp):cv B N U J S w ⟨put T d (.tuple []),H⟩ (a.put d undef):=by
 cases d with
 | none=>exact aK
 | some d =>
   refine ⟨?_,aK.H,aK.M⟩;have bZ:=aK.T;simp only [put,gS,Act.put] at bZ ⊢;have key:∀ (i:Nat) (u:I) (x:Value),(T.set d (.tuple []))[i]?=some u→(a.tmps.toList.set d undef)[i]?=some x→Rel J S w u x∧aW U J S w (.slot i) u x:=fun i u x hu al=>by
    by_cases aE:d=i
    ·subst aE;(have aU:d<T.length:=by have:=(ss.1 hu).1;simpa using this);rw [sE aU] at hu;cases hu;rw [sE (by have:=(ss.1 al).1;simpa using this)] at al;cases al;exact ⟨.tuple _ _ rfl (by simp) (by simp),aW.b5 rfl⟩
    ·rw [sG aE] at hu al;exact ⟨bZ.rel i u x hu al,bZ.own i u x hu al⟩
   refine ⟨by simpa using bZ.len,fun i u x hu al=>?_,fun i u x hu al=>?_⟩
   ·rw [wx] at al;exact (key i u x hu al).1
   ·rw [wx] at al;exact (key i u x hu al).2
theorem x7:∀ (k:List Bool) (T:List I) (i:Nat),(eX k T)[i]?=T[i]?∨(eX k T)[i]?=(T[i]?).map fun _=>.junk
 | [],T,i=>.inl (by simp [eX])
 | b::bs,[],i=>.inl (by simp [eX])
 | b::bs,v::vs,i=>by
   cases i with
   | zero=>cases b <;> simp [eX]
   | succ i=>simpa [eX] using x7 bs vs i
theorem Bn:∀ (k:List Bool) (T:List I),(eX k T).length=T.length
 | [],T=>by simp [eX]
 | b::bs,[]=>by simp [eX]
 | b::bs,v::vs=>by simp [eX,Bn bs vs]
theorem cv.cG {s:a7} {a:Act} (aK:cv B N U J S w s a) (mx:List (Nat×List Bool)) (id:Nat):cv B N U J S w (e3 mx id s) a:=by
 unfold e3;split
 ·rename_i k _;refine ⟨⟨by rw [Bn];exact aK.T.len,fun i u x hu al=>?_,fun i u x hu al=>?_⟩,aK.H,aK.M⟩
  all_goals simp only at hu
  ·rcases x7 k s.T i with h | h
   ·rw [h] at hu;exact aK.T.rel i u x hu al
   ·rw [h] at hu;simp only [sr] at hu;obtain ⟨_,_,rfl⟩:=hu;exact .junk _
  ·rcases x7 k s.T i with h | h
   ·rw [h] at hu;exact aK.T.own i u x hu al
   ·rw [h] at hu;simp only [sr] at hu;obtain ⟨_,_,rfl⟩:=hu;exact aW.b5 rfl
 ·exact aK
theorem Step.here {s:a7} {a:Act} (aK:cv B N U J S w s a):Step B N U J S w s a w:=⟨U,J,S,Ext.refl J,bk.refl U S w,aK⟩
theorem xh {F:Fence} (bE:er F) {C:b8} (bx:dc P C) {lo:Nat} {ops:Array Oper} {aF:a7} {Q:Exit→Act→World→Prop} :
  ∀ (rest:List Oper) (as:List b7) (s:a7) (a:Act) (w:World) (U:Nat→Option aI) (J:List Nat) (S:Nat→Nat→Prop),eN P C lo ops rest as s=some aF→cv B N U J S w s a →
    (∀ aM w',Step B N U J S w aF aM w'→Q .normal aM w')→wpListIn F 0 P ops Q rest a w
 | [],as,s,a,w,U,J,S,h,aK,bo=>by
   simp only [eN,Option.some.injEq] at h;subst h;exact bo a w (Step.here aK)
 | o::rest,as,s,a,w,U,J,S,h,aK,bo=>by
   simp only [eN] at h;unfold wpListIn;split at h
   ·rename_i hw;rw [lj aK hw];simp only [if_true];simp only [sC] at h;obtain ⟨s1,ad,af⟩:=h;refine xV bE bx ad aK fun aM w' ai=>?_;obtain ⟨b4,cT,a6,aJ,aP,cb⟩:=ai;exact xh bE bx rest as.tail s1 aM w' b4 cT a6 af cb fun gW hs dR=>bo gW hs (dR.trans aJ aP)
   ·rename_i hw;rw [lj aK hw];simp only [ub,if_false];exact ⟨fun f _=>bE.fn f,xh bE bx rest as.tail _ _ w U J S h (aK.skip o.dst) bo⟩
   ·simp at h
end
end Go.Proofs.YtfakoboiahbhaaaGreat.Ab


namespace Go.Proofs.YtfakoboiahbhaaaGreat.Ab
open Go
theorem lL {xs ys:List Nat} (h:jD xs ys=true) (x:Nat) (al:x∈xs):x ∉ ys:=by
 simp only [jD,sS] at h;have:=h x al;simpa using this
theorem xS (u:I):u.settle.settle=u.settle:=by
 cases u <;> try rfl
 rename_i c n k;cases k <;> rfl
theorem x1 (u:I):u.settle.view=u.view:=by
 cases u <;> try rfl
 rename_i c n k;cases k <;> rfl
theorem mV (T:List I) (t j:Nat):(fU T t (c8 T t))[j]?=if t=j then (T[j]?).map I.settle else T[j]?:=by
 have aO:c8 T t=T.getD t .junk:=f_ T t;by_cases g9:t=j
 ·subst g9;simp only [if_true];cases h:T[t]? with
  | none =>
    (have aw:c8 T t=.junk:=by rw [aO,sV,h];rfl);rw [aw];simp [fU,h]
  | some u =>
    (have aw:c8 T t=u:=by rw [aO,sV,h];rfl);have aU:=(ss.1 h).1;rw [aw];(cases u <;> try (simp [fU,h,I.settle];done));rename_i c n k;cases k <;> simp only [fU,h,I.settle,gS,sB] <;> rw [sE aU]
 ·simp only [g9,if_false];unfold fU;split
  ·rw [gS,sG g9]
  ·rfl
theorem ld (T:List I) (t j:Nat) (v:I):(gR T t v)[j]?=if t=j then (T[j]?).map fun _=>v else T[j]?:=by
 rw [gS];by_cases h:t=j
 ·subst h;simp only [if_true];rcases tg t T.length with ak | ak
  ·rw [sE ak,sI ak];rfl
  ·rw [tQ (by simpa using ak),tQ ak];rfl
 ·rw [sG h];simp [h]
theorem j8:∀ (xs:List Operand) (ts:List Bool) (T:List I) (j:Nat),
  ((rd T ts xs).2)[j]?=(T[j]?).map fun u=>if j∈c3 ts xs then .junk else if j∈tmpsOf xs then u.settle else u
 | [],ts,T,j=>by simp [rd,c3,tmpsOf]
 | .tmp t::rest,ts,T,j=>by
   (have ax:tmpsOf (.tmp t::rest)=t::tmpsOf rest:=by simp [tmpsOf]);rw [ax];cases bK:ts.headD false with
   | true =>
     simp only [rd,bK,c3];rw [j8 rest ts.tail,ld];by_cases g9:t=j
     ·subst g9;simp only [if_true,sH,true_or];cases T[t]? with
      | none=>rfl
      | some u=>simp only [sB,I.settle];split <;> simp
     ·have pQ:¬ j=t:=fun e=>g9 e.symm;simp [g9,pQ]
   | false =>
     simp only [rd,bK,c3];rw [j8 rest ts.tail,mV];by_cases g9:t=j
     ·subst g9;simp only [if_true,sH,true_or];cases T[t]? with
      | none=>rfl
      | some u=>simp only [sB,xS];split <;> (try split) <;> rfl
     ·have pQ:¬ j=t:=fun e=>g9 e.symm;simp [g9,pQ]
 | .const v::rest,ts,T,j=>by simpa [rd,c3,tmpsOf] using j8 rest ts.tail T j
 | .func f::rest,ts,T,j=>by simpa [rd,c3,tmpsOf] using j8 rest ts.tail T j
 | .global g::rest,ts,T,j=>by simpa [rd,c3,tmpsOf] using j8 rest ts.tail T j
theorem B5 {T a9:List I} {t:Nat} (h:(T[t]?).map I.settle=(a9[t]?).map I.settle):(c8 T t).view=(c8 a9 t).view:=by
 rw [f_,f_,sV,sV];cases ad:T[t]? <;> cases af:a9[t]? <;> rw [ad,af] at h <;> simp at h <;> simp only [u6];rw [←x1,h,x1]
theorem j7:∀ (xs:List Operand) (ts:List Bool) (T a9:List I),(∀ t∈tmpsOf xs,(T[t]?).map I.settle=(a9[t]?).map I.settle)→(∀ t∈c3 ts xs,T[t]?=a9[t]?) →
  (rd T ts xs).1=(rd a9 ts xs).1
 | [],ts,T,a9,_,_=>by simp [rd]
 | .tmp t::rest,ts,T,a9,ad,af=>by
   (have ax:tmpsOf (.tmp t::rest)=t::tmpsOf rest:=by simp [tmpsOf]);rw [ax] at ad;cases bK:ts.headD false with
   | true =>
     simp only [c3,bK] at af;simp only [rd,bK];have e:T[t]?=a9[t]?:=af t (by simp);rw [j7 rest ts.tail (gR T t .junk) (gR a9 t .junk) (fun u hu=>?_) (fun u hu=>?_)]
     ·congr 1;rw [f_,f_,sV,sV,e]
     ·rw [ld,ld];by_cases g':t=u
      ·subst g';simp [e]
      ·simp [g',ad u (by simp [hu])]
     ·rw [ld,ld];by_cases g':t=u
      ·subst g';simp [e]
      ·simp [g',af u (by simp [hu])]
   | false =>
     simp only [c3,bK] at af;simp only [rd,bK];have e:=ad t (by simp);rw [j7 rest ts.tail (fU T t (c8 T t)) (fU a9 t (c8 a9 t)) (fun u hu=>?_) (fun u hu=>?_),B5 e]
     ·rw [mV,mV];by_cases g':t=u
      ·subst g';simp only [if_true,e]
      ·simp only [g',if_false];exact ad u (by simp [hu])
     ·rw [mV,mV];by_cases g':t=u
      ·subst g';simp only [if_true,e]
      ·simp only [g',if_false];exact af u hu
 | .const v::rest,ts,T,a9,ad,af=>by
   simp only [rd];rw [j7 rest ts.tail T a9 (by simpa [tmpsOf] using ad) (by simpa [c3] using af)];rfl
 | .func f::rest,ts,T,a9,ad,af=>by
   simp only [rd];rw [j7 rest ts.tail T a9 (by simpa [tmpsOf] using ad) (by simpa [c3] using af)];rfl
 | .global g::rest,ts,T,a9,ad,af=>by
   simp only [rd];rw [j7 rest ts.tail T a9 (by simpa [tmpsOf] using ad) (by simpa [c3] using af)];rfl
section
variable {P:Program}
theorem nc {C:b8} {lo mode:Nat} {o:Oper} {us:List I} {r:I} {H H':List au} (ao:dn o mode=0) (h:a_ P C lo o mode us H=some (r,H')) :
  H'=H∧∀ a4,a_ P C lo o mode us a4=some (r,a4):=by
 have base:∀ {x:Option I},x.map (fun y=>(y,H))=some (r,H')→H'=H∧∀ a4:List au,x.map (fun y=>(y,a4))=some (r,a4):=fun {x} h=>by
  simp only [sr,Prod.mk.injEq] at h;obtain ⟨_,rfl,rfl,rfl⟩:=h;exact ⟨rfl,fun _=>rfl⟩
 have l_:∀ {t:TypeId} {x:Operand},mode=0→eW P lo mode t x H us=some (r,H')→H'=H∧∀ a4,eW P lo mode t x a4 us=some (r,a4):=fun hm h=>by
  subst hm;unfold eW at h;simp only [eW];split at h
  ·simp only at h ⊢;split at h
   ·simp only [sr,Prod.mk.injEq] at h;obtain ⟨z,bp,rfl,rfl⟩:=h;exact ⟨rfl,fun _=>by simp [bp]⟩
   ·cases h;exact ⟨rfl,fun _=>rfl⟩
  ·simp at h
 cases aD:o.op <;> simp only [dn,aD] at ao <;> simp only [a_,aD] at h ⊢
 case move x=>exact l_ (by by_cases h:mode=0 <;> simp_all) h
 case assign x=>exact l_ (by by_cases h:mode=0 <;> simp_all) h
 case load t a =>
  have hm:mode=3:=by by_cases h:mode=0 <;> by_cases af:mode=2 <;> by_cases aG:mode=3 <;> by_cases bN:mode=5 <;> simp_all
  subst hm;unfold dT at h;simp only [dT];split at h
  ·simp only at h ⊢;split at h
   ·exact base h
   ·cases h
  ·cases h
 case makeSlice t a b =>
  have hm:mode≠0:=by intro h;simp [h] at ao
  unfold j4 at h;simp only [j4];split at h
  ·split at h
   ·rename_i iU;split at h
    ·exact absurd rfl hm
    ·split at h
     ·rename_i af;simp only [sr,Prod.mk.injEq] at h;obtain ⟨x,al,rfl,rfl⟩:=h;exact ⟨rfl,fun _=>by obtain ⟨e,aS⟩:=af;subst e;simp [al,aS]⟩
     ·simp at h
   ·simp at h
  ·simp at h
 case box e x =>
  have hm:mode≠0:=by intro h;simp [h] at ao
  unfold gM at h;simp only [gM];split at h
  ·split at h
   ·exact absurd rfl hm
   ·split at h
    ·rename_i ae;split at h
     ·rename_i aC;cases h;exact ⟨rfl,fun _=>by simp [ae,aC]⟩
     ·cases h
    ·cases h
  ·cases h
 case buildSlice t len parts =>
  split at h
  ·exact base h
  ·simp only [sr,Prod.mk.injEq] at h ⊢;obtain ⟨x,al,rfl,rfl⟩:=h;exact ⟨rfl,fun _=>⟨x,al,rfl,trivial⟩⟩
 case call c =>
  split at ao
  ·split at ao
   ·by_cases hm:mode=0 <;> simp [hm] at ao
   all_goals simp at ao
  ·rename_i f h6;simp only [h6] at h ⊢;have hm:mode=3:=by
    by_cases aS:mode=0
    ·simp [aS] at ao
    ·by_cases aG:mode=3
     ·exact aG
     ·by_cases a8:mode=4 <;> by_cases bX:mode=6 <;> simp [aS,aG,a8,bX] at ao
   subst hm;unfold hH at h;simp only [hH];split at h
   ·unfold kp at h;simp only [kp];have key:∀ {b2:e'} {args:List I},eZ C lo 3 b2 args H=some (r,H')→H'=H∧∀ a4,eZ C lo 3 b2 args a4=some (r,a4):=fun {b2 args} h=>by
     simp only [eZ] at h ⊢;split at h
     ·simp only [sC] at h;obtain ⟨x,al,h⟩:=h;simp only [sr,Prod.mk.injEq] at h;obtain ⟨v,ae,rfl,rfl⟩:=h;rename_i aC;exact ⟨rfl,fun a4=>by simp [al,ae]⟩
     ·simp at h
    split at h
    ·exact key h
    ·exact key h
    ·simp at h
   ·simp at h
  ·simp at ao
 case store=>simp at ao
 case alloc=>simp at ao
 case makeMap=>simp at ao
 case mapUpdate=>simp at ao
 case lookup=>simp at ao
 case range=>simp at ao
 case entry=>simp at ao
 all_goals exact base h
def dY (H a4:List au):Prop:=∀ (id:Nat) (o:au),H[id]?=some o→a4[id]?=some o∨(∃ l l',o=.cells l∧a4[id]?=some (.cells l')∧l'.map I.view=l.map I.view)∨∃ l l' g z,o=.grow l g z∧a4[id]?=some (.grow l' g z)∧l'.map I.view=l.map I.view
theorem dY.cells {H a4:List au} (h:dY H a4) {id:Nat} {l:List I} (aE:H[id]?=some (.cells l)):∃ l',a4[id]?=some (.cells l')∧l'.map I.view=l.map I.view:=by
 rcases h id _ aE with h | ⟨cx,l',ad,af,aG⟩ | ⟨_,_,_,_,ad,_⟩
 ·exact ⟨l,h,rfl⟩
 ·cases ad;exact ⟨l',af,aG⟩
 ·cases ad
theorem dY.grow {H a4:List au} (h:dY H a4) {id g z:Nat} {l:List I} (aE:H[id]?=some (.grow l g z)):∃ l',a4[id]?=some (.grow l' g z)∧l'.map I.view=l.map I.view:=by
 rcases h id _ aE with h | ⟨_,_,ad,_⟩ | ⟨cx,l',Ga,cX,ad,af,aG⟩
 ·exact ⟨l,h,rfl⟩
 ·cases ad
 ·cases ad;exact ⟨l',af,aG⟩
theorem dY.append (H:List au) (X:List au):dY H (H++X):=fun id o h=>.inl (by
 rw [sR (ss.1 h).1];exact h)
theorem zj {t:TypeId} {l l':List I} {off:Nat} (h:l'.map I.view=l.map I.view):ez P t l' off=ez P t l off:=by
 have ak:l'.length=l.length:=by have:=congrArg List.length h;simpa using this
 unfold ez;split
 ·have:∀ s,((l'.drop off).take s).map I.view=((l.drop off).take s).map I.view:=fun s=>by
   rw [uI,uT,h,←uT,←uI]
  simp only [ak,this]
 ·split
  ·have:=congrArg (fun x=>x[off]?) h;simpa using this
  ·rfl
theorem Bw {H a4:List au} (ai:dY H a4) {t:TypeId} {a r:I} (h:dW P H t a=some r):dW P a4 t a=some r:=by
 unfold dW at h ⊢;split at h
 ·split at h
  ·rename_i l aE;obtain ⟨l',ad,af⟩:=ai.cells aE;rw [ad];simp only;rw [zj af];exact h
  ·rename_i l g z aE;obtain ⟨l',ad,af⟩:=ai.grow aE;rw [ad];simp only;rw [zj af];exact h
  ·simp at h
 ·exact h
 ·simp at h
theorem Ax {H a4:List au} (ai:dY H a4) {x:I} {row:List I} (h:rowOf H x=some row):rowOf a4 x=some row:=by
 unfold rowOf at h ⊢;split at h
 ·exact h
 ·split at h
  ·rename_i l aE;obtain ⟨l',ad,af⟩:=ai.cells aE;(have ak:l'.length=l.length:=by have:=congrArg List.length af;simpa using this);rw [ad];simp only [ak]
   have:∀ s off,((l'.drop off).take s).map I.view=((l.drop off).take s).map I.view:=fun s off=>by
    rw [uI,uT,af,←uT,←uI]
   simp only [this];exact h
  ·simp at h
 ·simp at h
theorem BD {H a4:List au} (ai:dY H a4) {x:I} {r:Nat×List I} (h:appended H x=some r):appended a4 x=some r:=by
 unfold appended at h ⊢;split at h
 ·rename_i m row hm aj;rw [hm,Ax ai aj];exact h
 ·simp at h
theorem Bq {H a4:List au} (ai:dY H a4) {t dt:TypeId} {s x r:I} (h:fa P H t dt s x=some r):fa P a4 t dt s x=some r:=by
 unfold fa at h ⊢;split at h
 ·split at h
  ·rename_i sz bytes z ad af aG;split at h
   ·rename_i ag;split at h
    ·rename_i m new cg;simp only [BD ai cg];split at h
     ·rename_i ao;rw [if_pos ao];split at h
      ·exact h
      ·rename_i id off len cap om;split at h
       ·rename_i h5;rw [if_pos h5];simp only [sC] at h;obtain ⟨fQ,aq,h⟩:=h;simp only [Ax ai aq,sq];exact h
       ·simp at h
      ·simp at h
     ·simp at h
    ·simp at h
   ·exact h
  ·simp at h
 ·simp at h
theorem jB {C:b8} {lo mode:Nat} {o:Oper} {us:List I} {r:I} {H H':List au} (ao:dn o mode=1) (h:a_ P C lo o mode us H=some (r,H')) :
  H'=H∧∀ a4,dY H a4→a_ P C lo o mode us a4=some (r,a4):=by
 cases aD:o.op <;> simp only [dn,aD] at ao <;> simp only [a_,aD] at h ⊢
 case load =>
  have hm:mode=0:=by by_cases h:mode=0 <;> by_cases af:mode=2 <;> by_cases aG:mode=3 <;> by_cases bN:mode=5 <;> simp_all
  subst hm;unfold dT at h;simp only [dT];split at h
  ·simp only [sr,Prod.mk.injEq] at h ⊢;obtain ⟨v,ae,rfl,rfl⟩:=h;exact ⟨rfl,fun a4 ai=>⟨v,Bw ai ae,rfl,trivial⟩⟩
  ·simp at h
 case call c =>
  split at ao
  ·rename_i b pf;simp only [pf] at h ⊢;split at ao
   ·(have hm:mode=0:=by by_cases h:mode=0 <;> simp_all);subst hm;simp only [eA,jc] at h ⊢;split at h
    ·split at h
     ·simp only [sr,Prod.mk.injEq] at h ⊢;obtain ⟨v,ae,rfl,rfl⟩:=h;exact ⟨rfl,fun a4 ai=>⟨v,Bq ai ae,rfl,trivial⟩⟩
     ·simp at h
    ·simp at h
   ·simp only [eA,hj] at h ⊢;split at h
    ·split at h
     ·split at h <;> simp at h;obtain ⟨rfl,rfl⟩:=h;exact ⟨rfl,fun _ _=>by simp_all⟩
     ·split at h <;> simp at h;obtain ⟨rfl,rfl⟩:=h;exact ⟨rfl,fun _ _=>by simp_all⟩
     ·split at h
      ·rename_i ax aE;simp at h;obtain ⟨rfl,rfl⟩:=h;refine ⟨rfl,fun a4 ai=>?_⟩;rcases ai _ _ aE with h | ⟨l,l',h,_⟩ | ⟨_,_,_,_,h,_⟩
       ·simp [ax,h]
       ·cases h
       ·cases h
      ·simp at h
     ·split at h
      ·simp at h;obtain ⟨rfl,rfl⟩:=h;exact ⟨rfl,fun _ _=>by simp_all⟩
      ·simp at h
    ·simp at h
   ·simp only [eA,j2] at h ⊢;split at h
    ·split at h <;> simp at h;obtain ⟨rfl,rfl⟩:=h;exact ⟨rfl,fun _ _=>by simp_all⟩
    ·split at h <;> simp at h;obtain ⟨rfl,rfl⟩:=h;exact ⟨rfl,fun _ _=>by simp_all⟩
    ·simp at h
   ·simp only [eA,sr,Prod.mk.injEq] at h ⊢;obtain ⟨v,ae,rfl,rfl⟩:=h;exact ⟨rfl,fun _ _=>⟨v,ae,rfl,trivial⟩⟩
   ·simp only [eA,sr,Prod.mk.injEq] at h ⊢;obtain ⟨v,ae,rfl,rfl⟩:=h;exact ⟨rfl,fun _ _=>⟨v,ae,rfl,trivial⟩⟩
   ·simp at ao
  ·exfalso;by_cases aS:mode=0
   ·simp [aS] at ao
   ·by_cases aG:mode=3
    ·simp [aG] at ao
    ·by_cases a8:mode=4 <;> by_cases bX:mode=6 <;> simp [aS,aG,a8,bX] at ao
  ·simp at ao
 case move=>by_cases h:mode=0 <;> simp [h] at ao
 case assign=>by_cases h:mode=0 <;> simp [h] at ao
 case makeSlice=>by_cases h:mode=0 <;> simp [h] at ao
 case box=>by_cases h:mode=0 <;> simp [h] at ao
 all_goals simp at ao
theorem BQ {C:b8} {lo mode:Nat} {o:Oper} {us:List I} {r:I} {H H':List au} (ao:dn o mode=3) (h:a_ P C lo o mode us H=some (r,H')):H'=H:=by
 have base:∀ {x:Option I},x.map (fun y=>(y,H))=some (r,H')→H'=H:=fun {x} h=>by
  simp only [sr,Prod.mk.injEq] at h;obtain ⟨_,rfl,rfl,rfl⟩:=h;rfl
 cases aD:o.op <;> simp only [dn,aD] at ao <;> simp only [a_,aD] at h
 case load=>by_cases h:mode=0 <;> by_cases af:mode=2 <;> by_cases aG:mode=3 <;> by_cases bN:mode=5 <;> simp [h,af,aG,bN] at ao
 case call c =>
  split at ao
  ·split at ao
   ·by_cases hm:mode=0 <;> simp [hm] at ao
   all_goals simp at ao
  ·rename_i f h6;simp only [h6] at h;have hm:mode=0∨mode=4∨mode=6:=by
    by_cases aS:mode=0
    ·exact .inl aS
    ·by_cases aG:mode=3
     ·simp [aG] at ao
     ·by_cases a8:mode=4
      ·exact .inr (.inl a8)
      ·by_cases bX:mode=6
       ·exact .inr (.inr bX)
       ·simp [aS,aG,a8,bX] at ao
   have key:∀ {b2:e'} {args:List I},eZ C lo mode b2 args H=some (r,H')→H'=H:=fun {b2 args} h=>by
    rcases hm with rfl | rfl | rfl
    ·simp only [eZ,sC] at h;obtain ⟨x,_,h⟩:=h;exact base h
    ·simp only [eZ,sC,sr,Prod.mk.injEq] at h;obtain ⟨x,_,v,_,_,h⟩:=h;exact h.symm
    ·simp only [eZ] at h;split at h
     ·simp only [sC] at h;obtain ⟨x,_,v,_,h⟩:=h;split at h
      ·simp only [Option.some.injEq,Prod.mk.injEq] at h;exact h.2.symm
      ·cases h
     ·cases h
   unfold hH at h;split at h
   ·unfold kp at h;split at h
    ·exact key h
    ·exact key h
    ·simp at h
   ·simp at h
  ·simp at ao
 case move=>by_cases h:mode=0 <;> simp [h] at ao
 case assign=>by_cases h:mode=0 <;> simp [h] at ao
 case makeSlice=>by_cases h:mode=0 <;> simp [h] at ao
 case box=>by_cases h:mode=0 <;> simp [h] at ao
 all_goals simp at ao
theorem FQ {off:Nat} {l:List I} {u:I} (hu:l[off]?=some u):(l.set off u.view).map I.view=l.map I.view:=by
 rw [u7];have kN:u.view.view=u.view:=I.kl (I.dk u);rw [kN];apply ud;intro j;by_cases aw:off=j
 ·subst aw;rw [sE (by simpa using (ss.1 hu).1),sN,hu];rfl
 ·rw [sG aw]
theorem EZ {H:List au} {id off g z:Nat} {l:List I} {u:I} (aE:H[id]?=some (.grow l g z)) (hu:l[off]?=some u):dY H (H.set id (.grow (l.set off u.view) g z))∧dY (H.set id (.grow (l.set off u.view) g z)) H:=by
 have ae:=FQ hu;have aU:=(ss.1 aE).1;constructor
 ·intro i o h;by_cases hi:id=i
  ·subst hi;rw [aE] at h;cases h;exact .inr (.inr ⟨l,_,g,z,rfl,sE aU,ae⟩)
  ·exact .inl (by rw [sG hi];exact h)
 ·intro i o h;by_cases hi:id=i
  ·subst hi;rw [sE aU] at h;cases h;exact .inr (.inr ⟨_,l,g,z,rfl,aE,ae.symm⟩)
  ·rw [sG hi] at h;exact .inl h
theorem AR {H:List au} {id off:Nat} {l:List I} {u:I} (aE:H[id]?=some (.cells l)) (hu:l[off]?=some u):dY H (H.set id (.cells (l.set off u.view)))∧dY (H.set id (.cells (l.set off u.view))) H:=by
 have ae:(l.set off u.view).map I.view=l.map I.view:=by
  rw [u7];have kN:u.view.view=u.view:=I.kl (I.dk u);rw [kN];apply ud;intro j;by_cases aw:off=j
  ·subst aw;rw [sE (by simpa using (ss.1 hu).1),sN,hu];rfl
  ·rw [sG aw]
 have aU:=(ss.1 aE).1;constructor
 ·intro i o h;by_cases hi:id=i
  ·subst hi;rw [aE] at h;cases h;exact .inr (.inl ⟨l,_,rfl,sE aU,ae⟩)
  ·exact .inl (by rw [sG hi];exact h)
 ·intro i o h;by_cases hi:id=i
  ·subst hi;rw [sE aU] at h;cases h;exact .inr (.inl ⟨_,l,rfl,aE,ae.symm⟩)
  ·rw [sG hi] at h;exact .inl h
theorem yk {C:b8} {lo mode:Nat} {o:Oper} {us:List I} {r:I} {H H':List au} (ao:dn o mode=5) (h:a_ P C lo o mode us H=some (r,H')):dY H H'∧dY H' H:=by
 have refl:dY H H:=fun id o h=>.inl h;cases aD:o.op <;> simp only [dn,aD] at ao <;> simp only [a_,aD] at h
 case load t a =>
  have hm:mode≠0:=by intro h;simp [h] at ao
  unfold dT at h;split at h
  ·split at h
   ·exact absurd rfl hm
   ·simp at ao
   ·simp at ao
   ·split at h
    ·split at h
     ·split at h
      ·rename_i l aE;split at h
       ·rename_i c n z cZ;cases h;exact AR aE cZ
       ·rename_i c n z cZ;rw [if_neg (by intro af;simp [af] at ao)] at h;cases h;exact AR aE cZ
       ·cases h;exact ⟨refl,refl⟩
       ·simp at h
      ·rename_i l g z aE;split at h
       ·rename_i c n cX cZ;cases h;exact EZ aE cZ
       ·cases h;exact ⟨refl,refl⟩
       ·cases h
      ·simp at h
     ·simp at h
    ·simp at h
  ·simp at h
 case call c =>
  split at ao
  ·split at ao
   ·by_cases hm:mode=0 <;> simp [hm] at ao
   all_goals simp at ao
  ·exfalso;by_cases aS:mode=0
   ·simp [aS] at ao
   ·by_cases aG:mode=3
    ·simp [aG] at ao
    ·by_cases a8:mode=4 <;> by_cases bX:mode=6 <;> simp [aS,aG,a8,bX] at ao
  ·simp at ao
 case move=>by_cases h:mode=0 <;> simp [h] at ao
 case assign=>by_cases h:mode=0 <;> simp [h] at ao
 case makeSlice=>by_cases h:mode=0 <;> simp [h] at ao
 case box=>by_cases h:mode=0 <;> simp [h] at ao
 all_goals simp at ao
theorem BR {C:b8} {lo mode:Nat} {o:Oper} {us:List I} {r:I} {H H':List au} (ao:dn o mode=6) (h:a_ P C lo o mode us H=some (r,H')):dY H H':=by
 cases aD:o.op <;> simp only [dn,aD] at ao <;> simp only [a_,aD] at h
 case load=>by_cases h:mode=0 <;> by_cases af:mode=2 <;> by_cases aG:mode=3 <;> by_cases bN:mode=5 <;> simp [h,af,aG,bN] at ao
 case box e x =>
  have hm:mode=0:=by by_cases h:mode=0 <;> simp_all
  subst hm;unfold gM at h;split at h
  ·simp only [sr,Prod.mk.injEq] at h;obtain ⟨_,_,_,rfl⟩:=h;exact dY.append _ _
  ·simp at h
 case alloc t =>
  unfold k0 at h;split at h
  ·simp only [sr,Prod.mk.injEq] at h;obtain ⟨_,_,_,rfl⟩:=h;exact dY.append _ _
  ·split at h
   ·simp only [sr,Prod.mk.injEq] at h;obtain ⟨_,_,_,rfl⟩:=h;exact dY.append _ _
   ·cases h
 case call c =>
  split at ao
  ·split at ao
   ·by_cases hm:mode=0 <;> simp [hm] at ao
   all_goals simp at ao
  ·exfalso;by_cases aS:mode=0
   ·simp [aS] at ao
   ·by_cases aG:mode=3
    ·simp [aG] at ao
    ·by_cases a8:mode=4 <;> by_cases bX:mode=6 <;> simp [aS,aG,a8,bX] at ao
  ·simp at ao
 case move=>by_cases h:mode=0 <;> simp [h] at ao
 case assign=>by_cases h:mode=0 <;> simp [h] at ao
 case makeSlice=>by_cases h:mode=0 <;> simp [h] at ao
 all_goals simp at ao
noncomputable def dy (P:Program) (C:b8) (lo:Nat) (ops:Array Oper) (o:Oper) (an:b7) (s:a7):Option a7 :=
 match eB ops o s.T with
 | some true=>Ab.execOp P C lo o an s
 | some false=>some ⟨put s.T o.dst (.tuple []),s.H⟩
 | none=>none
theorem Bf {ops:Array Oper} {o:Oper} {T a9:List I} (h:∀ t∈o3 ops o,(T[t]?).map I.settle=(a9[t]?).map I.settle):eB ops o T=eB ops o a9:=by
 unfold eB;split
 ·rfl
 ·rename_i j want aO;split
  ·rename_i d a1;have hm:=h d (by simp [o3,aO,a1]);have ai:(c8 T d).settle=(c8 a9 d).settle:=by
    rw [f_,f_,sV,sV];cases ad:T[d]? <;> cases af:a9[d]? <;> rw [ad,af] at hm <;> simp at hm <;> simp [hm]
   have key:∀ x:I,(match x with | .bool b=>some (b == want) | .tuple []=>some false | _=>none)=(match x.settle with | .bool b=>some (b == want) | .tuple []=>some false | _=>none):=fun x=>by
    (cases x <;> try rfl);rename_i c n k;cases k <;> rfl
   exact (key _).trans (Eq.trans (by rw [ai]) (key _).symm)
  ·rfl
theorem n3 (T:List I) (d:Option Nat) (v:I) (j:Nat):(put T d v)[j]?=if d=some j then (T[j]?).map fun _=>v else T[j]?:=by
 cases d with
 | none=>simp [put]
 | some d=>simp only [put,ld,Option.some.injEq]
def g1 (o:Oper) (an:b7) (w:Bool) (r:I) (j:Nat) (u:I):I :=
 if o.dst=some j then r else if w=false then u else if j∈c3 an.cC (opsOf o) then .junk else if j∈tmpsOf (opsOf o) then u.settle else u
theorem yh {o:Oper} {mode:Nat} (h:calm o mode=true) (T:List I) (v:I):inPlace o mode T v=T:=by
 unfold inPlace;split
 ·rfl
 ·rfl
 ·rename_i hm _;split
  ·rename_i aD;simp [calm,aD] at h;exact absurd h hm
  ·rename_i aD;simp [calm,aD] at h;exact absurd h hm
  ·rfl
theorem A9 {C:b8} {lo:Nat} {ops:Array Oper} {o:Oper} {an:b7} {s aF:a7} (pd:calm o an.mode=true) (h:dy P C lo ops o an s=some aF) :
  ∃ w r,eB ops o s.T=some w∧(∀ j,aF.T[j]?=(s.T[j]?).map (g1 o an w r j)) ∧
    (w=true→a_ P C lo o an.mode (fw (dS o) (rd s.T an.cC (opsOf o)).1) s.H=some (r,aF.H))∧(w=false→r=.tuple []∧aF.H=s.H):=by
 unfold dy at h;split at h
 ·rename_i hw;obtain ⟨r,H',aD,rfl⟩:=oV h;refine ⟨true,r,hw,fun j=>?_,fun _=>aD,by simp⟩;rw [yh pd];simp only [n3,j8];cases s.T[j]? with
  | none=>split <;> rfl
  | some u=>by_cases a1:o.dst=some j <;> simp [g1,a1]
 ·rename_i hw;simp only [Option.some.injEq] at h;subst h;refine ⟨false,.tuple [],hw,fun j=>?_,by simp,fun _=>⟨rfl,rfl⟩⟩;simp only [n3];cases s.T[j]? with
  | none=>split <;> rfl
  | some u=>by_cases a1:o.dst=some j <;> simp [g1,a1]
 ·simp at h
theorem A7 {C:b8} {lo:Nat} {ops:Array Oper} {o:Oper} {an:b7} {s:a7} (pd:calm o an.mode=true) {w:Bool} {r:I} {H':List au} (hw:eB ops o s.T=some w)
  (ad:w=true→a_ P C lo o an.mode (fw (dS o) (rd s.T an.cC (opsOf o)).1) s.H=some (r,H')) (af:w=false→r=.tuple []∧H'=s.H) :
  ∃ a9,dy P C lo ops o an s=some ⟨a9,H'⟩∧∀ j,a9[j]?=(s.T[j]?).map (g1 o an w r j):=by
 cases w with
 | true =>
   refine ⟨put (inPlace o an.mode (rd s.T an.cC (opsOf o)).2 r) o.dst r,?_,fun j=>?_⟩
   ·have ad:=ad rfl;simp only [dy,hw,Ab.execOp];unfold fw at ad;cases ak:dS o <;> rw [ak] at ad <;> simp only at ad ⊢ <;> rw [ad] <;> rfl
   ·rw [yh pd];simp only [n3,j8];cases s.T[j]? with
    | none=>split <;> rfl
    | some u=>by_cases a1:o.dst=some j <;> simp [g1,a1]
 | false =>
   obtain ⟨rfl,rfl⟩:=af rfl;refine ⟨put s.T o.dst (.tuple []),by simp only [dy,hw],fun j=>?_⟩;simp only [n3];cases s.T[j]? with
   | none=>split <;> rfl
   | some u=>by_cases a1:o.dst=some j <;> simp [g1,a1]
theorem Dt {t:TypeId} {H:List au} {id c d_:Nat} {es es':List (Nat×I×I)} (aE:H[id]?=some (.map es c)) (a:I):dW P (H.set id (.map es' d_)) t a=dW P H t a:=by
 have ak:=(ss.1 aE).1;unfold dW;cases a with
 | ptr i off =>
   simp only;by_cases h:id=i
   ·subst h;rw [sE ak,aE]
   ·rw [sG h]
 | _=>rfl
theorem Du {C:b8} {lo:Nat} {bD bS:Oper} {di:Nat} {us vs:List I} {r1 r2:I} {H a4:List au} (h:kU bD 0 bS=true) (ad:a_ P C lo bD 0 us H=some (r1,H)) (af:a_ P C lo bS di vs H=some (r2,a4)) :
  a_ P C lo bD 0 us a4=some (r1,a4):=by
 unfold kU at h;split at h
 ·rename_i t x jk m k v iW ec;simp only [a_,iW] at ad ⊢;simp only [a_,ec] at af;unfold dT at ad ⊢;split at ad
  ·rename_i a;simp only [sr,Prod.mk.injEq] at ad;obtain ⟨r,ad,rfl,-⟩:=ad;have key:∃ id c es d_ es',H[id]?=some (.map es c)∧a4=H.set id (.map es' d_):=by
    unfold je at af;split at af
    ·split at af
     ·split at af
      ·split at af
       ·split at af
        ·rename_i aE;split at af
         ·cases af;exact ⟨_,_,_,_,_,aE,rfl⟩
         ·cases af;exact ⟨_,_,_,_,_,aE,rfl⟩
         ·simp at af
        ·simp at af
       ·simp at af
      ·simp at af
     ·simp at af
    ·simp at af
   obtain ⟨id,c,es,d_,es',aE,rfl⟩:=key;simp only;rw [Dt aE,ad];rfl
  ·simp at ad
 ·simp at h
theorem A5 {C:b8} {lo:Nat} {ops:Array Oper} {bD bS:Oper} {aB aH:b7} (hi:indep ops bD aB bS aH=true) {s s1 s2:a7} (ad:dy P C lo ops bD aB s=some s1) (af:dy P C lo ops bS aH s1=some s2) :
  ∃ dj,dy P C lo ops bS aH s=some dj∧dy P C lo ops bD aB dj=some s2:=by
 simp only [indep,sM] at hi;obtain ⟨⟨⟨⟨⟨⟨⟨d1,d2⟩,d3⟩,d4⟩,d5⟩,bc⟩,bn⟩,bK⟩:=hi;have e1:∀ t,bD.dst=some t→t ∉ e7 ops bS:=fun t ax=>lL d1 t (by simp [ax]);have cm:∀ t,bS.dst=some t→t ∉ e7 ops bD:=fun t ax=>lL d2 t (by simp [ax]);have dJ:∀ t,bD.dst=some t→bS.dst≠some t:=fun t ax h=>lL d3 t (by simp [ax]) (by simp [h]);have oQ:=lL d4;have oR:=lL d5;have hP:∀ (xs:List Operand) (ts:List Bool) (t:Nat),t∈c3 ts xs→t∈tmpsOf xs:=by
  intro xs
  induction xs with
  | nil=>intro ts t h;simp [c3] at h
  | cons x rest bb =>
    intro ts t h;cases x with
    | tmp u =>
      (have ax:tmpsOf (.tmp u::rest)=u::tmpsOf rest:=by simp [tmpsOf]);rw [ax];simp only [c3] at h;split at h
      ·rcases sH.1 h with rfl | h
       ·simp
       ·exact uw _ (bb _ t h)
      ·exact uw _ (bb _ t h)
    | const v=>simpa [tmpsOf] using bb _ t (by simpa [c3] using h)
    | func f=>simpa [tmpsOf] using bb _ t (by simpa [c3] using h)
    | global g=>simpa [tmpsOf] using bb _ t (by simpa [c3] using h)
 obtain ⟨bF,r1,cd,t1,fy,v1⟩:=A9 bc ad;obtain ⟨bV,r2,b_,t2,gn,v2⟩:=A9 bn af;have cG:∀ (o:Oper) (a:b7) (w:Bool) (r:I) (t:Nat),o.dst≠some t→t ∉ c3 a.cC (opsOf o)→∀ u,(g1 o a w r t u).settle=u.settle:=fun o a w r t a1 ax u=>by
  unfold g1;rw [if_neg a1];split
  ·rfl
  ·by_cases h:t∈tmpsOf (opsOf o) <;> simp only [h,if_true,if_false];exact xS u
 have stay:∀ (o:Oper) (a:b7) (w:Bool) (r:I) (t:Nat),o.dst≠some t→t ∉ tmpsOf (opsOf o)→∀ u,g1 o a w r t u=u:=fun o a w r t a1 ax u=>by
  unfold g1;rw [if_neg a1];split
  ·rfl
  ·have De:t ∉ c3 a.cC (opsOf o):=fun h=>ax (hP _ _ t h);simp only [De,if_false]
 have dh:∀ t∈e7 ops bS,(s1.T[t]?).map I.settle=(s.T[t]?).map I.settle:=fun t ax=>by
  rw [t1];cases s.T[t]? with
  | none=>rfl
  | some u=>simp only [sB];rw [cG bD aB bF r1 t (fun h=>e1 t h ax) (fun h=>oQ t h ax)]
 have aJ:∀ t∈c3 aH.cC (opsOf bS),s1.T[t]?=s.T[t]?:=fun t ax=>by
  rw [t1];have aN:bD.dst≠some t:=fun h=>e1 t h (by simp [e7,hP _ _ t ax]);have pD:t ∉ tmpsOf (opsOf bD):=fun h=>oR t ax (by simp [e7,h]);cases s.T[t]? with
  | none=>rfl
  | some u=>simp only [sB];rw [stay bD aB bF r1 t aN pD]
 have B8:eB ops bS s.T=some bV:=by rw [←b_];exact (Bf fun t ax=>dh t (by simp [e7,ax])).symm
 have dF:(rd s1.T aH.cC (opsOf bS)).1=(rd s.T aH.cC (opsOf bS)).1:=j7 _ _ _ _ (fun t ax=>dh t (by simp [e7,ax])) aJ;have z5:∀ {o:Oper} {a:b7} {us:List I} {r:I} {H H':List au},dn o a.mode=1∨dn o a.mode=3→a_ P C lo o a.mode us H=some (r,H')→H'=H:=fun ao aD=>by
  rcases ao with ao | ao
  ·exact (jB ao aD).1
  ·exact BQ ao aD
 have av:dn bD aB.mode=0∨dn bS aH.mode=0∨((dn bD aB.mode=1∨dn bD aB.mode=3)∧(dn bS aH.mode=1∨dn bS aH.mode=3)) ∨
   (dn bD aB.mode=1∧dn bS aH.mode=5)∨(dn bD aB.mode=5∧dn bS aH.mode=1)∨(dn bD aB.mode=1∧dn bS aH.mode=6)∨(aB.mode=0∧kU bD 0 bS=true):=by
  rw [tX] at bK;rcases bK with bK | bK
  rotate_left
  ·refine .inr (.inr (.inr (.inr (.inr (.inr ?_)))));have aS:aB.mode=0:=by
    unfold kU at bK;split at bK
    ·simpa using bK
    ·simp at bK
   rw [aS] at bK;exact ⟨aS,bK⟩
  simp only [bQ,tX,sM,beq_iff_eq] at bK;rcases bK with ((((h | h) | h) | h) | h) | h
  ·exact .inl h
  ·exact .inr (.inl h)
  ·exact .inr (.inr (.inl h))
  ·exact .inr (.inr (.inr (.inl h)))
  ·exact .inr (.inr (.inr (.inr (.inl h))))
  ·exact .inr (.inr (.inr (.inr (.inr (.inl h)))))
 have mem:∃ hX,(bV=true→a_ P C lo bS aH.mode (fw (dS bS) (rd s.T aH.cC (opsOf bS)).1) s.H=some (r2,hX))∧(bV=false→r2=.tuple []∧hX=s.H) ∧
   (bF=true→∀ vs,a_ P C lo bD aB.mode vs s.H=some (r1,s1.H)→a_ P C lo bD aB.mode vs hX=some (r1,s2.H))∧(bF=false→s2.H=hX):=by
  cases bV with
  | false =>
    obtain ⟨aV,aX⟩:=v2 rfl;refine ⟨s.H,by simp,fun _=>⟨aV,rfl⟩,fun _ vs h=>by rw [aX];exact h,fun hw=>by rw [aX];exact (v1 hw).2⟩
  | true =>
    have ec:=gn rfl;rw [dF] at ec;cases bF with
    | false =>
      have q:=(v1 rfl).2;rw [q] at ec;exact ⟨s2.H,fun _=>ec,by simp,by simp,fun _=>rfl⟩
    | true =>
      have iW:=fy rfl;rcases av with h | h | ⟨h,aY⟩ | ⟨h,aY⟩ | ⟨h,aY⟩ | ⟨h,aY⟩ | ⟨h,aY⟩
      ·have q:=(nc h iW).1;rw [q] at ec;exact ⟨s2.H,fun _=>ec,by simp,fun _ vs bK=>(nc h bK).2 s2.H,by simp⟩
      ·have q:=(nc h ec).1;refine ⟨s.H,fun _=>(nc h ec).2 s.H,by simp,fun _ vs bK=>by rw [q];exact bK,by simp⟩
      ·have aV:=z5 h iW;have aX:=z5 aY ec;rw [aX,aV] at ec;exact ⟨s.H,fun _=>ec,by simp,fun _ vs bK=>by rw [aX];exact bK,by simp⟩
      ·have aV:=(jB h iW).1;rw [aV] at ec;exact ⟨s2.H,fun _=>ec,by simp,fun _ vs bK=>(jB h bK).2 s2.H (yk aY ec).1,by simp⟩
      ·obtain ⟨aX,cB⟩:=jB aY ec;exact ⟨s.H,fun _=>cB s.H (yk h iW).2,by simp,fun _ vs bK=>by rw [aX];exact bK,by simp⟩
      ·have aV:=(jB h iW).1;rw [aV] at ec;exact ⟨s2.H,fun _=>ec,by simp,fun _ vs bK=>(jB h bK).2 s2.H (BR aY ec),by simp⟩
      ·have aV:s1.H=s.H:=by
        have ao:dn bD aB.mode=1:=by
         unfold kU at aY;split at aY
         ·rename_i aD _;simp only [dn,aD,h];rfl
         ·simp at aY
        exact (jB ao iW).1
       rw [aV] at ec;refine ⟨s2.H,fun _=>ec,by simp,fun _ vs bK=>?_,by simp⟩;rw [aV] at bK;rw [h] at bK ⊢;exact Du aY bK ec
 obtain ⟨hX,br,cL,eF,jA⟩:=mem;obtain ⟨dH,C_,o_⟩:=A7 (C:=C) (lo:=lo) (s:=s) bn B8 br cL;have di:∀ t∈e7 ops bD,(dH[t]?).map I.settle=(s.T[t]?).map I.settle:=fun t ax=>by
  rw [o_];cases s.T[t]? with
  | none=>rfl
  | some u=>simp only [sB];rw [cG bS aH bV r2 t (fun h=>cm t h ax) (fun h=>oR t h ax)]
 have aP:∀ t∈c3 aB.cC (opsOf bD),dH[t]?=s.T[t]?:=fun t ax=>by
  rw [o_];have aN:bS.dst≠some t:=fun h=>cm t h (by simp [e7,hP _ _ t ax]);have pD:t ∉ tmpsOf (opsOf bS):=fun h=>oQ t ax (by simp [e7,h]);cases s.T[t]? with
  | none=>rfl
  | some u=>simp only [sB];rw [stay bS aH bV r2 t aN pD]
 have B7:eB ops bD dH=some bF:=by rw [←cd];exact Bf fun t ax=>di t (by simp [e7,ax])
 have ed:(rd dH aB.cC (opsOf bD)).1=(rd s.T aB.cC (opsOf bD)).1:=j7 _ _ _ _ (fun t ax=>di t (by simp [e7,ax])) aP
 obtain ⟨Bp,C',Cc⟩:=A7 (C:=C) (lo:=lo) (s:=⟨dH,hX⟩) (r:=r1) (H':=s2.H) bc B7 (fun hw=>by
  simp only;rw [ed];exact eF hw _ (fy hw)) (fun hw=>⟨(v1 hw).1,jA hw⟩)
 refine ⟨⟨dH,hX⟩,C_,?_⟩;rw [C'];congr 1
 have:Bp=s2.T:=by
  apply ud;intro j;rw [Cc,t2];simp only [o_,t1];cases s.T[j]? with
  | none=>rfl
  | some u =>
    simp only [sB,Option.some.injEq];unfold g1;have FZ:=dJ j;have lp:=e1 j;have lq:=cm j;have Bk:=oQ j;have Bl:=oR j;have x6:=hP (opsOf bD) aB.cC j;have ox:=hP (opsOf bS) aH.cC j;simp only [e7,List.mem_append,not_or] at lp lq Bk Bl;by_cases bT:bD.dst=some j
    ·have q:=(lp bT).2;have fT:j ∉ c3 aH.cC (opsOf bS):=fun h=>q (ox h);simp only [bT,if_true,FZ bT,if_false,q,fT];split <;> rfl
    ·by_cases b6:bS.dst=some j
     ·have q:=(lq b6).2;have fT:j ∉ c3 aB.cC (opsOf bD):=fun h=>q (x6 h);simp only [bT,b6,if_true,if_false,q,fT];split <;> rfl
     ·simp only [bT,b6,if_false];by_cases oo:j∈c3 aB.cC (opsOf bD)
      ·have q:=(Bk oo).2;have fT:j ∉ c3 aH.cC (opsOf bS):=fun h=>q (ox h);simp only [oo,q,fT,if_true,if_false];split <;> split <;> rfl
      ·by_cases xY:j∈c3 aH.cC (opsOf bS)
       ·have q:=(Bl xY).2;simp only [oo,xY,q,if_true,if_false];split <;> split <;> rfl
       ·simp only [oo,xY,if_false];by_cases ES:j∈tmpsOf (opsOf bD) <;> by_cases ET:j∈tmpsOf (opsOf bS) <;> simp only [ES,ET,if_true,if_false] <;> split <;> split <;> first | rfl | rw [xS]
 rw [this]
end
end Go.Proofs.YtfakoboiahbhaaaGreat.Ab


namespace Go.Proofs.YtfakoboiahbhaaaGreat.Ab
open Go
section
variable {P:Program}
theorem mE (ms:List Nat) (j:Nat):∀ (l:List Edge) (nR:Nat),(l.foldl (fun m e=>if Region.binds .any e then m ||| (ms.getD e.on 0 ||| 1 <<< e.on) else m) nR).testBit j=true →
  nR.testBit j=true∨∃ e∈l,Region.binds .any e=true∧((ms.getD e.on 0).testBit j=true∨j=e.on)
 | [],nR,h=>.inl h
 | e::l,nR,h=>by
   simp only [List.foldl_cons] at h;rcases mE ms j l _ h with ad | ⟨cP,jL,ag,ad⟩
   ·by_cases ag:Region.binds .any e=true
    ·simp only [ag,if_true,Nat.testBit_or,tX] at ad;rcases ad with ad | ad | ad
     ·exact .inl ad
     ·exact .inr ⟨e,by simp,ag,.inl ad⟩
     ·refine .inr ⟨e,by simp,ag,.inr ?_⟩;rw [Nat.one_shiftLeft,Nat.testBit_two_pow] at ad;simpa using (of_decide_eq_true ad).symm
    ·simp only [ag] at ad;exact .inl ad
   ·exact .inr ⟨cP,by simp [jL],ag,ad⟩
def lK (ops:Array Oper) (aZ:Array Bool):Prop :=
 ∀ k o,ops[k]?=some o→aZ.getD k true=true→∀ e∈o.after,Region.binds .any e=true→aZ.getD e.on false=true
noncomputable def cy (P:Program) (C:b8) (lo:Nat) (ops:Array Oper) (as:List b7):List Nat→a7→Option a7
 | [],s=>some s
 | i::r,s=>match ops[i]? with
   | none=>cy P C lo ops as r s
   | some o=>(dy P C lo ops o (as.getD i {}) s).bind (cy P C lo ops as r)
theorem yt {C:b8} {lo:Nat} {ops:Array Oper} {as:List b7}:∀ (l:List Oper) (k:Nat) (s:a7),(∀ j,l[j]?=ops[k+j]?)→eN P C lo ops l (as.drop k) s=cy P C lo ops as (List.range' k l.length) s
 | [],k,s,_=>by simp [eN,cy]
 | o::l,k,s,h=>by
   (have aS:ops[k]?=some o:=by simpa using (h 0).symm);have bb:=fun s=>yt (C:=C) (lo:=lo) (as:=as) l (k+1) s (fun j=>by have:=h (j+1);simpa [Nat.add_assoc,Nat.add_comm 1 j] using this);(have a1:(as.drop k).headD {}=as.getD k {}:=by rw [List.headD_eq_head?_getD,List.head?_drop,sV]);(have ax:(as.drop k).tail=as.drop (k+1):=by rw [List.tail_drop]);simp only [eN,sP,List.range'_succ,cy,aS,a1,ax];unfold dy;split
   ·rename_i hw;simp only [hw];congr 1;funext aF;exact bb aF
   ·rename_i hw;simp only [hw];exact bb _
   ·rename_i hw;simp only [hw];rfl
def eK (n:Nat) (aZ:Array Bool):List Nat:=(List.range n).filter fun i=>!aZ.getD i true
theorem Aa {n i:Nat} {aZ:Array Bool}:eK n (aZ.setIfInBounds i true)=(eK n aZ).erase i:=by
 have jQ:(eK n aZ).Nodup:=List.nodup_range.filter _;rw [jQ.erase_eq_filter];simp only [eK,List.filter_filter];congr 1;funext j;by_cases g5:j=i
 ·subst g5;rcases tg j aZ.size with h | h
  ·simp [sO,h]
  ·simp [sO,h]
 ·have:(aZ.setIfInBounds i true).getD j true=aZ.getD j true:=by
   simp only [sO];rw [Array.getElem?_setIfInBounds_ne (Ne.symm g5)]
  rw [this];simp [g5]
theorem xO {C:b8} {lo:Nat} {ops:Array Oper} {as:List b7} {i:Nat} {cR:Oper} (hi:ops[i]?=some cR) {aF:a7}:∀ (l:List Nat) (s:a7),l.Pairwise (·<·)→i∈l →
  (∀ j∈l,j<i→∀ c5,ops[j]?=some c5→indep ops c5 (as.getD j {}) cR (as.getD i {})=true)→cy P C lo ops as l s=some aF →
  ∃ s1,dy P C lo ops cR (as.getD i {}) s=some s1∧cy P C lo ops as (l.erase i) s1=some aF
 | [],s,_,h,_,_=>by simp at h
 | j::r,s,aC,hm,jN,h=>by
   by_cases g7:j=i
   ·subst g7;simp only [cy,hi,sC] at h;obtain ⟨s1,ad,af⟩:=h;exact ⟨s1,ad,by simpa using af⟩
   ·have aj:i∈r:=by
     rcases sH.1 hm with h | h
     ·exact absurd h.symm g7
     ·exact h
    have aU:j<i:=(tD.1 aC).1 i aj;have he:(j::r).erase i=j::r.erase i:=by
     rw [List.erase_cons];simp [g7]
    rw [he];simp only [cy] at h ⊢;cases aw:ops[j]? with
    | none =>
      simp only [aw] at h;exact xO hi r s (tD.1 aC).2 aj (fun k av=>jN k (by simp [av])) h
    | some c5 =>
      simp only [aw,sC] at h;obtain ⟨s1,ad,af⟩:=h;obtain ⟨s2,aJ,aP⟩:=xO hi r s1 (tD.1 aC).2 aj (fun k av=>jN k (by simp [av])) af;obtain ⟨dj,aV,aX⟩:=A5 (jN j (by simp) aU c5 aw) ad aJ;exact ⟨dj,aV,by dsimp only;rw [aX];exact aP⟩
variable {B N:Nat} {J:List Nat} {w:World} {U:Nat→Option aI} {S:Nat→Nat→Prop}
theorem A8 {F:Fence} (bE:er F) {C:b8} (bx:dc P C) {lo:Nat} {ops:Array Oper} {Q:Exit→Act→World→Prop} {i:Nat} {o:Oper} (hi:ops[i]?=some o) {an:b7} {s aF:a7}
  (h:dy P C lo ops o an s=some aF) {a:Act} (aK:cv B N U J S w s a) {K:Act→World→Prop} (fJ:∀ aM w',Step B N U J S w aF aM w'→K aM w'):wpOpIn F 0 P ops Q i K a w:=by
 unfold wpOpIn;simp only [hi];unfold dy at h;split at h
 ·rename_i hw;rw [lj aK hw];simp only [if_true];exact xV bE bx h aK fJ
 ·rename_i hw;rw [lj aK hw];simp only [ub,if_false];simp only [Option.some.injEq] at h;subst h;exact ⟨fun f _=>bE.fn f,fJ _ _ (Step.here (aK.skip o.dst))⟩
 ·simp at h
theorem By {F:Fence} (bE:er F) {C:b8} (bx:dc P C) {lo:Nat} {ops:Array Oper} {as:List b7} (a1:nf ops as=true) {Q:Exit→Act→World→Prop} {aF:a7} :
  ∀ (fuel:Nat) (aZ:Array Bool) (s:a7) (a:Act) (w:World) (U:Nat→Option aI) (J:List Nat) (S:Nat→Nat→Prop),(eK ops.size aZ).length≤fuel→lK ops aZ →
    cy P C lo ops as (eK ops.size aZ) s=some aF→cv B N U J S w s a→(∀ aM w',Step B N U J S w aF aM w'→Q .normal aM w')→wpAnyIn F 0 P .any ops Q fuel aZ a w:=by
 have db:∀ j c5,ops[j]?=some c5→((hc ops.toList []).getD j 0=mD (hc ops.toList []) c5)∧(∀ e∈c5.after,Region.binds .any e=true→e.on<j) ∧
   ∀ i cR,i<j→ops[i]?=some cR→((hc ops.toList []).getD j 0).testBit i=true∨indep ops cR (as.getD i {}) c5 (as.getD j {})=true:=fun j c5 aw=>by
  have aU:j<ops.size:=(tp.1 aw).1;simp only [nf,zN,sS,sX] at a1;have h:=a1 j aU;rw [aw] at h;simp only [sM,beq_iff_eq,sS,sX] at h;obtain ⟨⟨ad,af⟩,aG⟩:=h;refine ⟨ad,fun e he ag=>?_,fun i cR g5 hi=>?_⟩
  ·have:=af e (by simpa using he);simp only [ag,Bool.not_true,Bool.false_or] at this;simpa [Nat.blt_eq] using this
  ·have:=aG i g5;rw [hi] at this;simpa using this
 have xx:∀ (aZ:Array Bool),lK ops aZ→∀ (n k:Nat) ok,k≤n→ops[k]?=some ok→(∀ e∈ok.after,Region.binds .any e=true→aZ.getD e.on false=true) →
   ∀ j,((hc ops.toList []).getD k 0).testBit j=true→aZ.getD j false=true:=by
  intro aZ cF n
  induction n with
  | zero =>
    intro k ok av aq eP j aw;rw [(db k ok aq).1] at aw;rcases mE _ j _ _ aw with h | ⟨e,he,ag,h⟩
    ·simp at h
    ·have:=(db k ok aq).2.1 e (by simpa using he) ag;omega
  | succ n bb =>
    intro k ok av aq eP j aw;rw [(db k ok aq).1] at aw;rcases mE _ j _ _ aw with h | ⟨e,he,ag,h⟩
    ·simp at h
    ·(have jL:e∈ok.after:=by simpa using he);have aU:=(db k ok aq).2.1 e jL ag;have h_:=eP e jL ag;rcases h with h | rfl
     ·have kD:=(tp.1 aq).1;have ma:ops[e.on]?=some ops[e.on]:=sT (by omega);have pK:aZ.getD e.on true=true:=by
       rcases tg e.on aZ.size with aY | aY
       ·simp [sO,aY] at h_ ⊢;exact h_
       ·simp [sO,aY] at h_
      exact bb e.on _ (by omega) ma (cF e.on _ ma pK) j h
     ·exact h_
 intro fuel
 induction fuel with
 | zero =>
   intro aZ s a w U J S pq cF dQ aK bo;have h9:eK ops.size aZ=[]:=tt.1 (by omega);rw [h9] at dQ;simp only [cy,Option.some.injEq] at dQ;subst dQ;refine ⟨?_,bo a w (Step.here aK)⟩;rw [u_];intro i hi;obtain ⟨ad,o,aq,_⟩:=mem_ready.1 hi
   have:i∈eK ops.size aZ:=by
    simp only [eK,s_,sX];exact ⟨(tp.1 aq).1,by simp [ad]⟩
   rw [h9] at this;simp at this
 | succ fuel bb =>
   intro aZ s a w U J S pq cF dQ aK bo;refine ⟨fun aj=>?_,fun i hi=>?_⟩
   ·
    have h9:eK ops.size aZ=[]:=by
     rw [u_];intro i
     induction i using Nat.strongRecOn with
     | _ i pX =>
       intro hi;simp only [eK,s_,sX] at hi;obtain ⟨aU,dw⟩:=hi;have aq:ops[i]?=some ops[i]:=sT aU
       have:i∈Region.ready .any ops aZ:=mem_ready.2 ⟨by simpa using dw,_,aq,fun e he ag=>by
        have h8:=(db i _ aq).2.1 e he ag;have kH:=pX e.on h8;simp only [eK,s_,sX,not_and] at kH;have ak:=kH (by omega);rcases tg e.on aZ.size with aY | aY
        ·simp [sO,aY] at ak ⊢;exact ak
        ·rcases tg i aZ.size with lR | lR
         ·omega
         ·simp [sO,lR] at dw⟩
       rw [aj] at this;simp at this
    rw [h9] at dQ;simp only [cy,Option.some.injEq] at dQ;subst dQ;exact bo a w (Step.here aK)
   ·obtain ⟨ad,cR,ek,eP⟩:=mem_ready.1 hi;have aU:=(tp.1 ek).1;have kF:i∈eK ops.size aZ:=by
     simp only [eK,s_,sX];exact ⟨aU,by simp [ad]⟩
    have Dc:(eK ops.size aZ).Pairwise (·<·):=List.pairwise_lt_range.filter _
    obtain ⟨s1,aV,aX⟩:=xO ek (eK ops.size aZ) s Dc kF (fun j aw g7 c5 pJ=>by
     rcases (db i cR ek).2.2 j c5 g7 pJ with h | h
     ·have:=xx aZ cF i i cR (sx _) ek eP j h;simp only [eK,s_,sX] at aw;have dw:=aw.2;rcases tg j aZ.size with aY | aY
      ·simp [sO,aY] at dw this;rw [this] at dw;simp at dw
      ·simp [sO,aY] at dw
     ·exact h) dQ
    refine A8 bE bx ek aV aK fun aM w' ai=>?_;obtain ⟨b4,cT,a6,aJ,aP,cb⟩:=ai;refine bb (aZ.setIfInBounds i true) s1 aM w' b4 cT a6 ?_ ?_ (by rw [Aa];exact aX) cb fun gW hs dR=>bo gW hs (dR.trans aJ aP)
    ·rw [Aa,List.length_erase_of_mem kF];omega
    ·intro k ok av ak e he ag;by_cases l8:k=i
     ·subst l8;rw [ek] at av;cases av;exact getD_set_true (eP e he ag)
     ·have:aZ.getD k true=true:=by rw [getD_set_ne true (Ne.symm l8)] at ak;exact ak
      exact getD_set_true (cF k ok av this e he ag)
theorem z8 {F:Fence} (bE:er F) (hm:P.follows .mixedOrders=true) {C:b8} (bx:dc P C) {lo id:Nat} {ops:Array Oper} {draw:Bool} {as:List b7} (a1:draw=true→nf ops as=true) {Q:Exit→Act→World→Prop} {s aF:a7} {a:Act}
  (h:eN P C lo ops ops.toList as s=some aF) (aK:cv B N U J S w s a) (bo:∀ aM w',Step B N U J S w aF aM w'→Q .normal aM w'):(Code.region id ops draw).wpIn F 0 P Q a w:=by
 cases draw with
 | false=>exact wpIn_region_list (xh bE bx ops.toList as s a w U J S h aK bo)
 | true =>
   refine wpIn_region_any hm ?_;have hw:aL B U J S w.drew s.H:=mf aK.H;have aA:=kq U S w;have f':cv B N U J S w.drew s a:=⟨⟨aK.T.len,fun i u v hu ae=>(aK.T.rel i u v hu ae).mono (Ext.refl J) aA.set,fun i u v hu ae=>(aK.T.own i u v hu ae).mono (Ext.refl J) aA.set fun b ag=>⟨ag,rfl,fun _ h=>h⟩⟩,hw,aK.M.aA aA⟩;have aj:=yt (P:=P) (C:=C) (lo:=lo) (as:=as) (ops:=ops) ops.toList 0 s (by simp);rw [tb,h] at aj;have kJ:eK ops.size (Array.replicate ops.size false)=List.range ops.size:=by
    simp only [eK];rw [List.filter_eq_self];intro i hi;have hi:=sX.1 hi;simp [sO,hi]
   refine By bE bx (a1 rfl) ops.size (Array.replicate ops.size false) s a w.drew U J S (by rw [kJ];simp) ?_ (by rw [kJ,List.range_eq_range',←tU];exact aj.symm) f' fun aM w' ai=>bo aM w' (ai.trans (Ext.refl J) aA);intro k o aq ak;have aU:=(tp.1 aq).1;simp [sO,aU] at ak
end
end Go.Proofs.YtfakoboiahbhaaaGreat.Ab


namespace Go.Proofs.YtfakoboiahbhaaaGreat.Ab
open Go
section
variable {P:Program} {C:b8}
theorem BY (bx:dc P C) {lo:Nat} {o:Oper} {an:b7} {s aF:a7} (h:Ab.execOp P C lo o an s=some aF):bd lo s.H aF.H:=by
 obtain ⟨r,H',aD,rfl⟩:=oV h;exact D7 bx aD
theorem oW (bx:dc P C) {lo:Nat} {ops:Array Oper}:∀ (l:List Oper) (as:List b7) (s aF:a7),eN P C lo ops l as s=some aF→bd lo s.H aF.H
 | [],as,s,aF,h=>by simp only [eN,Option.some.injEq] at h;subst h;exact bd.refl _ _
 | o::l,as,s,aF,h=>by
   simp only [eN] at h;split at h
   ·simp only [sC] at h;obtain ⟨s1,ad,af⟩:=h;exact (BY bx ad).trans (oW bx l _ _ _ af)
   ·have:=oW bx l _ _ _ h;exact this
   ·simp at h
theorem zf (mx:List (Nat×List Bool)) (id:Nat) (s:a7):(e3 mx id s).H=s.H:=by
 unfold e3;split <;> rfl
theorem zn {lo:Nat} {f:a7→Option (cE×a7)} (aQ:∀ s e aF,f s=some (e,aF)→bd lo s.H aF.H):∀ (n:Nat) (s:a7) (e:cE) (aF:a7),ij f n s=some (e,aF)→bd lo s.H aF.H
 | 0,s,e,aF,h=>by simp [ij] at h
 | n+1,s,e,aF,h=>by
   simp only [ij] at h;split at h
   ·rename_i s1 ad;exact (aQ _ _ _ ad).trans (zn aQ n _ _ _ h)
   ·exact aQ _ _ _ h
theorem oX (bx:dc P C) {A:c'} {fn:FuncId} {lo d:Nat} {rl:Option Nat}:∀ (c:Code) (a0:Nat) (s:a7) (e:cE) (aF:a7),exec P A C fn lo d rl c a0 s=some (e,aF)→bd lo s.H aF.H:=by
 intro c
 induction c with
 | skip=>intro a0 s e aF h;simp only [exec,Option.some.injEq,Prod.mk.injEq] at h;obtain ⟨_,rfl⟩:=h;exact bd.refl _ _
 | region id ops draw =>
   intro a0 s e aF h;simp only [exec] at h;split at h
   ·cases h
   simp only [sr,Prod.mk.injEq] at h;obtain ⟨s1,h,_,rfl⟩:=h;have:=oW bx _ _ _ _ h
   rwa [zf] at this
 | seq a b fh fv =>
   intro a0 s e aF h;simp only [exec] at h;split at h
   ·rename_i s1 ad;exact (fh _ _ _ _ ad).trans (fv _ _ _ _ h)
   ·exact fh _ _ _ _ h
 | cond c a b fh fv =>
   intro a0 s e aF h;simp only [exec] at h;split at h
   ·exact fh _ _ _ _ h
   ·exact fv _ _ _ _ h
   ·simp at h
 | block id c bb =>
   intro a0 s e aF h;simp only [exec] at h;split at h
   ·rename_i bB s1 ad;split at h <;> simp only [Option.some.injEq,Prod.mk.injEq] at h <;> obtain ⟨_,rfl⟩:=h <;> exact bb _ _ _ _ ad
   ·exact bb _ _ _ _ h
 | loop c bb =>
   intro a0 s e aF h;simp only [exec] at h;exact zn (fun s e aF h=>by have:=bb _ _ _ _ h;rwa [zf] at this) _ _ _ _ h
 | exit id=>intro a0 s e aF h;simp only [exec,Option.some.injEq,Prod.mk.injEq] at h;obtain ⟨_,rfl⟩:=h;exact bd.refl _ _
 | ret=>intro a0 s e aF h;simp only [exec,Option.some.injEq,Prod.mk.injEq] at h;obtain ⟨_,rfl⟩:=h;exact bd.refl _ _
 | scope c bb=>intro a0 s e aF h;simp only [exec] at h;exact bb _ _ _ _ h
 | label l=>intro a0 s e aF h;simp only [exec,Option.some.injEq,Prod.mk.injEq] at h;obtain ⟨_,rfl⟩:=h;exact bd.refl _ _
 | goto l=>intro a0 s e aF h;simp [exec] at h
 | refuse y=>intro a0 s e aF h;simp [exec] at h
 | rangeFunc g bl a b fh fv =>
   intro a0 s e aF h;simp only [exec] at h;have key:∀ {H':List au} {r:I} {b2:e'} {args:List I} {x:au},C b2 args (s.H++[x]) lo=some (r,H')→bd lo s.H (H'.set s.H.length .dead):=fun {H' r b2 args x} ao=>by
    have ak:=bx.low ao;refine ⟨?_,fun id ad af=>?_⟩
    ·have:=ak.1;simp at this ⊢;omega
    ·rw [sG (by omega),ak.2 id ad (by simp;omega),sR af]
   split at h
   ·split at h
    ·rename_i r H' ao;split at h
     ·split at h
      ·simp at h
      ·split at h
       ·simp only [Option.some.injEq,Prod.mk.injEq] at h;obtain ⟨_,rfl⟩:=h;exact key ao
       ·simp only [Option.some.injEq,Prod.mk.injEq] at h;obtain ⟨_,rfl⟩:=h;exact key ao
       ·simp only [Option.some.injEq,Prod.mk.injEq] at h;obtain ⟨_,rfl⟩:=h;exact key ao
       ·simp at h
     ·simp at h
    ·simp at h
   ·simp at h
end
section
variable {P:Program} {F:Fence} {n:Nat} {b:Frame} {a:Act} {k:List Item} {cs:List Frame} {w:World} {Q:Exit→Act→World→Prop}
theorem lf {c:Code}:step P (lone (b.atR a (.code (.scope c)::k)) cs w)=.next (lone (b.atR a (.code c::.inScope c::k)) cs w) :=
 step_lone_go (by simp [stepG,stepG.exec,Frame.atR])
theorem FG {c:Code}:step P (lone (b.atR a (.inScope c::k)) cs w)=.next (lone (b.atR a k) cs w) :=
 step_lone_go (by simp [stepG,stepG.exec,Frame.atR])
theorem Bh {c:Code} (h:c.wpIn F n P Q a w) (aO:∀ l a w,¬ Q (.goto l) a w):(Code.scope c).wpIn F n P Q a w:=by
 intro b k cs C8 ag aj;have aS:(lone (b.atR a (.code (.scope c)::k)) cs w).fenced P F:=fenced_calm ag aj rfl;obtain ⟨e,kn,ln,a5,hC⟩:=h b (.inScope c::k) cs C8 ag aj;have al:∀ id,exitTo id (.inScope c::k)=exitTo id k:=fun id=>by simp [exitTo]
 cases e with
 | normal=>exact ⟨.normal,kn,ln,a5,.head aS lf (StepsIn.trans hC (.one (fenced_calm ag aj rfl) FG))⟩
 | exit id =>
   exact ⟨.exit id,kn,ln,a5,fun k' av=>.head aS lf (hC.1 k' (by rw [al];exact av)),
    fun yZ av=>let ⟨k₁,ad,af⟩:=hC.2 yZ (by rw [al];exact av);⟨k₁,ad,.head aS lf af⟩⟩
 | goto l=>exact absurd a5 (aO l kn ln)
 | ret=>exact ⟨_,kn,ln,a5,.of_steps (.one aS lf) hC⟩
 | panic F9=>exact ⟨_,kn,ln,a5,.of_steps (.one aS lf) hC⟩
 | outgrown=>exact ⟨_,kn,ln,a5,.of_steps (.one aS lf) hC⟩
end
end Go.Proofs.YtfakoboiahbhaaaGreat.Ab


namespace Go.Proofs.YtfakoboiahbhaaaGreat.Ab
open Go
section
variable {P:Program} {B N:Nat} {J:List Nat} {w:World} {H:List au} {U:Nat→Option aI} {S:Nat→Nat→Prop}
theorem AS:∀ (T:List I) (bh:List Value) (bC:Nat→aI) (S:Nat→Nat→Prop),(∀ i j,bC i=bC j→i=j)→(∀ i id,bC i≠.obj id)→(∀ i id j,bC i≠.cell id j) →
  a' bC U J S w T bh→aL B U J S w H →
  ∃ S':Nat→Nat→Prop,(∀ b o,S b o→S' b o)∧(∀ b o,S' b o→S b o∨∃ i,U b=some (bC i))∧aL B U J S' w H∧a' bC U J S' w (T.map I.settle) bh∧a' bC U J S' w (T.map I.view) bh:=by
 intro T
 induction T with
 | nil=>intro bh bC S _ _ _ ae ah;exact ⟨S,fun _ _ h=>h,fun _ _ h=>.inl h,ah,by simpa using ae,by simpa using ae⟩
 | cons u T bb =>
   intro bh bC S aw cc cq ae ah;obtain ⟨v,hQ,rfl,aj,aq,ax⟩:=ae.gU;have first:∃ a6:Nat→Nat→Prop,(∀ b o,S b o→a6 b o)∧(∀ b o,a6 b o→S b o∨U b=some (bC 0))∧aL B U J a6 w H∧Rel J a6 w u.view v∧Rel J a6 w u.settle v∧aW U J a6 w (bC 0) u.settle v:=by
    by_cases hu:u.cW=true
    ·have ai:u.settle=u:=by
      (cases u <;> try rfl);rename_i c n k;cases k <;> first | rfl | simp [I.cW] at hu
     exact ⟨S,fun _ _ h=>h,fun _ _ h=>.inl h,ah,aj.view hu,by rw [ai];exact aj,by rw [ai];exact aq⟩
    ·obtain ⟨cells,len,z,rfl⟩:∃ cells len z,u=.ay cells len (.uniq z):=by
      unfold I.cW at hu;split at hu
      ·exact ⟨_,_,_,rfl⟩
      ·simp at hu
     obtain ⟨a6,aJ,aP,cl,r1,r2,eJ⟩:=ke ah aj aq;exact ⟨a6,aJ,aP,ah.settle aJ (fun b o h=>(aP b o h).imp id fun h=>⟨_,h,cc 0,cq 0⟩) cl,r1,r2,eJ⟩
   (obtain ⟨a6,aJ,aP,bY,dv,C0,pI⟩:=first);have pO:a' (fun i=>bC (i+1)) U J a6 w T hQ:=by
    refine ⟨ax.len,fun i bI bw hu ae=>(ax.rel i bI bw hu ae).mono (Ext.refl J) fun b o ai=>⟨aJ b o ai,rfl⟩,fun i bI bw hu ae=>?_⟩;refine (ax.own i bI bw hu ae).mono (Ext.refl J) (fun b o ai=>⟨aJ b o ai,rfl⟩) fun b ag=>⟨ag,rfl,fun o ai=>?_⟩;rcases aP b o ai with h | h
    ·exact h
    ·rw [ag] at h;injection h with h;exact absurd (aw _ _ h) (by omega)
   obtain ⟨S',dx,dq,cf,ed,dF⟩:=bb hQ (fun i=>bC (i+1)) a6 (fun i j h=>by have:=aw _ _ h;omega) (fun i=>cc (i+1)) (fun i=>cq (i+1)) pO bY;have cp:∀ b o,a6 b o→S' b o∧w.cell? ⟨b,o,none⟩=w.cell? ⟨b,o,none⟩:=fun b o ai=>⟨dx b o ai,rfl⟩;refine ⟨S',fun b o h=>dx b o (aJ b o h),fun b o h=>?_,cf,?_,?_⟩
   ·rcases dq b o h with h | ⟨i,h⟩
    ·exact (aP b o h).imp id fun h=>⟨0,h⟩
    ·exact .inr ⟨i+1,h⟩
   ·refine a'.cons (C0.mono (Ext.refl J) cp) (pI.mono (Ext.refl J) cp fun b ag=>⟨ag,rfl,fun o h=>?_⟩) ed;rcases dq b o h with h | ⟨i,h⟩
    ·exact h
    ·rw [ag] at h;injection h with h;exact absurd (aw _ _ h) (by omega)
   ·exact a'.cons (dv.mono (Ext.refl J) cp) (aW.b5 (I.dk _)) dF
theorem yq (ah:aL B U J S w H) (o:Obj):bk U S w U S (w.alloc o) :=
 ⟨rfl,rfl,rfl,by simp,fun b ag _=>heap_alloc_old w o b ag,fun b cO ai=>⟨ai,by obtain ⟨v,ae⟩:=ah.ch b cO ai;exact oM o (mB ae)⟩,fun _ _ ai=>.inl ai,fun _ ag=>.inl ag⟩
theorem C3 (ah:aL B U J S w H) (o:Obj):aL B U J S (w.alloc o) H:=by
 have aA:=yq ah o;refine ah.frame aA (fun b l ag _=>⟨ag,heap_alloc_old w o b (ah.base b l ag).2,fun _ h=>h⟩) (fun b cO ai=>?_) fun b l ag=>?_
 ·obtain ⟨v,ae⟩:=ah.ch b cO ai;exact ⟨v,((aA.set b cO ai).2).trans ae⟩
 ·have:=ah.base b l ag;exact ⟨this.1,by simp;omega⟩
theorem zp (ah:aL B U J S w H) {id b:Nat} {L:Loop} (gf:U b=some (.obj id)) (fr:w.heap[b]?=some (.loop L)) (iC:Loop) :
  bk U S w U S (w.putObj b (.loop iC))∧aL B U J S (w.putObj b (.loop iC)) (H.set id .dead)∧(w.putObj b (.loop iC)).heap[b]?=some (.loop iC):=by
 have ag:b<w.heap.size:=(tp.1 fr).1;have bR:(w.putObj b (.loop iC)).heap.size=w.heap.size:=by simp [World.putObj]
 have h':∀ ar,ar≠b→(w.putObj b (.loop iC)).heap[ar]?=w.heap[ar]?:=fun ar h=>World.putObj_heap_other h;have bO:∀ ar o,S ar o→ar≠b:=fun ar o ai e=>by
  subst e;obtain ⟨v,ae⟩:=ah.ch ar o ai;simp [World.cell?,fr] at ae
 have bz:∀ ar o,ar≠b→(w.putObj b (.loop iC)).cell? ⟨ar,o,none⟩=w.cell? ⟨ar,o,none⟩:=fun ar o h=>by
  simp only [World.cell?,h' ar h]
 have aA:bk U S w U S (w.putObj b (.loop iC)):=by
  refine ⟨rfl,rfl,rfl,by omega,fun ar bt aN=>h' ar (fun e=>by subst e;rw [gf] at aN;cases aN),fun ar o ai=>⟨ai,bz ar o (bO ar o ai)⟩,fun _ _ h=>.inl h,fun _ h=>.inl h⟩
 refine ⟨aA,⟨by simpa using ah.cH,fun bB o aq=>?_,fun ar o ai=>?_,fun ar l bt=>?_,by rw [bR];exact ah.c1⟩,World.putObj_heap_same ag⟩
 ·by_cases cw:bB=id
  ·subst cw;(have aU:bB<H.length:=by have:=(ss.1 aq).1;simpa using this);rw [sE aU] at aq;cases aq;trivial
  ·rw [sG (Ne.symm cw)] at aq;refine (ah.obj bB o aq).frame (Ext.refl J) aA.set fun ar l bt ak=>⟨bt,h' ar (fun e=>?_),fun _ h=>h⟩;subst e;rw [gf] at bt;cases bt;rcases ak with h | ⟨j,h⟩
   ·cases h;exact cw rfl
   ·cases h
 ·obtain ⟨v,ae⟩:=ah.ch ar o ai;exact ⟨v,(bz ar o (bO ar o ai)).trans ae⟩
 ·rw [bR];exact ah.base ar l bt
theorem Dy (ah:aL B U J S w H) {id b:Nat} {L:Loop} {st:LoopState} {cI:Option Code} {fn:FuncId} {T:List I} {bl:List Nat} {as b0:Code} {an:c'}
  (aE:H[id]?=some (.loop st cI fn T bl as b0 an)) (ag:J[id]?=some b) (fr:w.heap[b]?=some (.loop L)) (hr:LoopState) (hl:Option Code) :
  bk U S w U S (w.putObj b (.loop { L with state:=hr,pending:=hl }))∧aL B U J S (w.putObj b (.loop { L with state:=hr,pending:=hl })) (H.set id (.loop hr hl fn T bl as b0 an)) ∧
   (w.putObj b (.loop { L with state:=hr,pending:=hl })).heap[b]?=some (.loop { L with state:=hr,pending:=hl }):=by
 obtain ⟨lp,lq,ar,oA,aB,aH,aR,bm,bf,bj,c4,dd,dI⟩:=ah.obj id _ aE;rw [ag] at aB;cases aB;rw [fr] at aR;cases aR;obtain ⟨aA,cf,jM⟩:=zp ah aH fr { L with state:=hr,pending:=hl };refine ⟨aA,⟨by simpa using cf.cH,fun bB o aq=>?_,cf.ch,cf.base,cf.c1⟩,jM⟩;by_cases cw:bB=id
 ·subst cw;rw [sE (ss.1 aE).1] at aq;cases aq;exact ⟨lp,lq,b,_,ag,aH,jM,rfl,rfl,trivial,c4,fun i u v hu ae=>⟨(dd i u v hu ae).1,(dd i u v hu ae).2.mono (Ext.refl J) aA.set⟩,dI⟩
 ·refine cf.obj bB o ?_;rw [sG (Ne.symm cw)] at aq ⊢;exact aq
end
end Go.Proofs.YtfakoboiahbhaaaGreat.Ab
