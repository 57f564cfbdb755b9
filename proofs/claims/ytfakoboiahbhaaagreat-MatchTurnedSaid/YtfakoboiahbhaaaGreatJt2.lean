
import Derived.Test.YtfakoboiahbhaaaGreatJt1
import Derived.RangeFuncRecord
import Derived.MapKept
import Derived.RangeFuncLeaves
import Derived.RangeFuncCalls
import Derived.RangeFuncNested
import Derived.TacticsIn
set_option linter.unusedSimpArgs false
set_option linter.unusedVariables false
set_option linter.unusedSectionVars false

open Array renaming getD_eq_getD_getElem?→ss,getElem?_eq_getElem→sC,getElem?_eq_none→vV,getElem?_eq_some_iff→sW,getElem?_toList→uV,length_toList→tw,toArray_toList→uq,toList_map→vo,toList_setIfInBounds→vX
open Bool renaming and_eq_true→sv,false_eq_true→tF,or_eq_true→tL
open List renaming all_eq_true→sy,append_assoc→sA,drop_zero→sM,eq_nil_iff_forall_not_mem→uH,ext_getElem?→tA,getD_eq_getElem?_getD→sE,getElem?_append_left→sB,getElem?_append_right→sJ,getElem?_cons_succ→vm,getElem?_cons_zero→ur,getElem?_drop→sX,getElem?_eq_getElem→sk,getElem?_eq_none→td,getElem?_eq_some_iff→sa,getElem?_map→sr,getElem?_set_ne→si,getElem?_set_self→sg,getElem?_take→sT,getElem?_toArray→vO,getElem?_zip_eq_some→vU,length_cons→sL,length_drop→tJ,length_eq_zero_iff→tu,map_drop→uF,map_fst_zip→vT,map_set→uG,map_take→uE,mem_cons→sj,mem_cons_of_mem→tR,mem_filter→sO,mem_iff_getElem?→tx,mem_map→sm,mem_of_getElem?→sI,mem_range→sG,pairwise_cons→tB,set_set→sS,take_of_length_le→tG
open Nat renaming le_refl→sc,le_trans→sH,lt_of_lt_of_le→uU,lt_or_ge→sR,mul_le_mul_right→tp,sub_zero→vp,zero_add→sP
open Option renaming bind_eq_some_iff→se,bind_some→r_,getD_some→uC,map_eq_some_iff→rZ,map_some→sd
namespace Go.Proofs.YtfakoboiahbhaaaGreat.Ab
open Go
section
variable {P:Program} {B:Nat} {J:List Nat} {w:World} {H:List au} {U:Nat→Option aI} {S:Nat→Nat→Prop}
def ew (P:Program) (aT:Operand→Value) (o:Oper) (w:World) (R:Value→World→Prop):Prop :=
 (∃ v w',(Go.execOp aT o).run P w=.ok (.value v) w'∧R v w')∨(∃ w',(Go.execOp aT o).run P w=.ok .skip w'∧R undef w')
theorem ew.makes {aT:Operand→Value} {o:Oper} {r:I} (ah:aL B U J S w H) (h:e2 P o aT J S w r) (aC:r.plain=true):ew P aT o w (a1 B U J S w H r):=by
 obtain ⟨v,ad,af⟩:=h;exact .inl ⟨v,w,ad,a1.same ah af aC⟩
theorem a9.one {bz:Nat→aI} {us:List I} {aT:Operand→Value} {x:Operand} (h:a9 bz U J S w us ([x].map aT)):∃ u,us=[u]∧Rel J S w u (aT x)∧aV U J S w (bz 0) u (aT x):=by
 match us,h with
 | [u],h=>exact ⟨u,rfl,h.rel 0 u _ rfl rfl,h.own 0 u _ rfl rfl⟩
 | [],h=>exact absurd h.len (by simp)
 | _::_::_,h=>exact absurd h.len (by simp)
theorem a9.two {bz:Nat→aI} {us:List I} {aT:Operand→Value} {x y:Operand} (h:a9 bz U J S w us ([x,y].map aT)) :
  ∃ u v,us=[u,v]∧Rel J S w u (aT x)∧aV U J S w (bz 0) u (aT x)∧Rel J S w v (aT y)∧aV U J S w (bz 1) v (aT y):=by
 match us,h with
 | [u,v],h=>exact ⟨u,v,rfl,h.rel 0 u _ rfl rfl,h.own 0 u _ rfl rfl,h.rel 1 v _ rfl rfl,h.own 1 v _ rfl rfl⟩
 | [],h=>exact absurd h.len (by simp)
 | [_],h=>exact absurd h.len (by simp)
 | _::_::_::_,h=>exact absurd h.len (by simp)
theorem Bn {op:BinOp} {k:IntKind} {a b:Int} {r:I} (h:jm op k a b=some r):r.plain=true:=by
 cases op <;> simp [jm] at h <;> first | (subst h;rfl) | (obtain ⟨_,rfl⟩:=h;rfl)
theorem Bp {op:BinOp} {t:TypeId} {x y r:I} (h:fg P op t x y=some r):r.plain=true:=by
 unfold fg at h;split at h
 ·split at h
  ·unfold hk at h;split at h <;> simp at h;subst h;rfl
  ·unfold hk at h;split at h <;> simp at h;subst h;rfl
  ·split at h
   ·exact Bn h
   ·simp at h
 ·split at h <;> simp at h <;> subst h <;> rfl
 ·split at h
  ·split at h
   ·split at h
    ·split at h
     ·simp only [rZ] at h;obtain ⟨_,_,rfl⟩:=h;rfl
     ·simp only [rZ] at h;obtain ⟨_,_,rfl⟩:=h;rfl
     ·simp at h
    ·simp at h
   ·simp at h
  ·split at h
   ·split at h
    ·simp only [rZ] at h;obtain ⟨_,_,rfl⟩:=h;rfl
    ·simp only [rZ] at h;obtain ⟨_,_,rfl⟩:=h;rfl
    ·simp at h
   ·simp at h
  ·simp at h
 ·simp at h
theorem Br {t:TypeId} {x y r:I} (h:hS P t x y=some r):r.plain=true:=by
 unfold hS at h;split at h <;> simp only [se,rZ,reduceCtorEq] at h <;> (try (obtain ⟨_,_,_,_,rfl⟩:=h;rfl))
theorem Bq {t:TypeId} {x r:I} {f:Nat} (h:jn P t x f=some r):r.plain=true:=by
 unfold jn at h;split at h <;> simp only [se,reduceCtorEq] at h <;> (try (obtain ⟨_,_,_,_,h⟩:=h;split at h <;> simp at h;subst h;rfl))
theorem xh {o:Oper} (h:∀ c,o.op≠.call c):opsOf o=o.op.operands.toList:=by
 unfold opsOf;split
 ·rename_i heq;exact absurd heq (h _)
 ·rename_i heq;exact absurd heq (h _)
 ·rfl
theorem Fs {aT:Operand→Value} (eK:∀ v,aT (.const v)=v) {o:Oper} {us:List I} {r:I} (ah:aL B U J S w H) (h:cy P o us=some r) (cY:dN o=false)
  (aC:∀ u∈us,u.plain=true) (ae:a9 (fun i=>.arg i) U J S w us ((opsOf o).map aT)):ew P aT o w (a1 B U J S w H r):=by
 cases aD:o.op <;> simp only [cy,aD,reduceCtorEq] at h <;> rw [xh (by simp [aD])] at ae <;> (try (simp [dN,aD] at cY;done))
 case pick c a b =>
  replace ae:a9 (fun i=>.arg i) U J S w us ([c,a,b].map aT):=by simpa [aD,Op.operands] using ae
  unfold xg at h;split at h
  ·rename_i x fq gf;have r1:=ae.rel 0 _ _ rfl rfl;have r2:=ae.rel 1 _ _ rfl rfl;have r3:=ae.rel 2 _ _ rfl rfl;cases x
   ·cases h;exact ew.makes ah (zq aD r1 r2 r3) (aC gf (by simp))
   ·cases h;exact ew.makes ah (zq aD r1 r2 r3) (aC fq (by simp))
  ·simp at h
 case build t parts =>
  have ae:a9 (fun i=>.arg i) U J S w us ((parts.toList.map (·.2)).map aT):=by simpa [aD,Op.operands] using ae
  have hlen:us.length=parts.toList.length:=by simpa using ae.len
  obtain ⟨v,q1,aW,cz⟩:=E9 (J:=J) (S:=S) (w:=w) (parts':=parts.map fun (x:Nat×Operand)=>(x.1,aT x.2)) h (by simp [fr,vT,hlen]) (fun j x y al a0=>by
   simp only [fr,vU] at al;obtain ⟨y2,iN⟩:=al;simp only [vo,sr,rZ] at a0;obtain ⟨p,jJ,rfl⟩:=a0
   exact ⟨aC _ (sI iN),ae.rel j _ _ iN (by simp only [sr,jJ,sd])⟩)
  exact .inl ⟨v,w,by simp [Go.execOp,aD,q1],a1.same ah aW cz⟩
 case buildSlice t len parts =>
  have ae:a9 (fun i=>.arg i) U J S w us ((parts.toList.map (·.2)).map aT):=by simpa [aD,Op.operands] using ae
  have hlen:us.length=parts.toList.length:=by simpa using ae.len
  simp only [rZ] at h;obtain ⟨⟨cs,s⟩,h,rfl⟩:=h
  obtain ⟨_,w',q1,aW⟩:=AQ (parts':=parts.map fun (x:Nat×Operand)=>(x.1,aT x.2)) ah h (by simp [fr,vT,hlen]) (fun j x y al a0=>by
   simp only [fr,vU] at al;obtain ⟨y2,iN⟩:=al;simp only [vo,sr,rZ] at a0;obtain ⟨p,jJ,rfl⟩:=a0
   exact ⟨aC _ (sI iN),ae.rel j _ _ iN (by simp only [sr,jJ,sd])⟩)
  exact .inl ⟨_,w',by simp [Go.execOp,aD,q1],aW⟩
 case nilCheck x =>
  obtain ⟨u,rfl,r1,_⟩:=a9.one (x:=x) (by simpa [aD,Op.operands] using ae);unfold nR at h;split at h
  ·rename_i id off heq;simp at heq;subst heq;cases h;exact ew.makes ah (DO aD r1) rfl
  ·rename_i cells heq;simp at heq;subst heq;cases h;exact ew.makes ah (DP aD r1) rfl
  ·simp at h
 case unOp op t x =>
  obtain ⟨u,rfl,r1,_⟩:=a9.one (x:=x) (by simpa [aD,Op.operands] using ae);simp only [eW] at h;refine ew.makes ah (DQ aD h r1) ?_;unfold kb at h;split at h <;> (try split at h) <;> simp at h <;> subst h <;> rfl
 case convert s d x =>
  obtain ⟨u,rfl,r1,_⟩:=a9.one (x:=x) (by simpa [aD,Op.operands] using ae);simp only [eW] at h;refine ew.makes ah (DG aD h r1) ?_;unfold ln at h;split at h
  ·split at h
   ·simp at h;subst h;rfl
   ·simp at h
  ·simp at h
 case makeFunc fn first captured =>
  refine ew.makes ah (DL aD h (by simpa [aD,Op.operands] using ae) aC) ?_;unfold mA at h;split at h
  ·split at h <;> simp at h;subst h;rfl
  ·simp at h
 case fieldAddr t x f =>
  obtain ⟨u,rfl,r1,_⟩:=a9.one (x:=x) (by simpa [aD,Op.operands] using ae);simp only [eW] at h;exact ew.makes ah (DK aD h r1) (Bq h)
 case field t x f =>
  obtain ⟨u,rfl,r1,_⟩:=a9.one (x:=x) (by simpa [aD,Op.operands] using ae);simp only [eW,rZ] at h;obtain ⟨r',h,rfl⟩:=h;exact ew.makes ah (DJ aD h r1) (I.df _)
 case extract x i =>
  obtain ⟨u,rfl,r1,_⟩:=a9.one (x:=x) (by simpa [aD,Op.operands] using ae);simp only [eW,rZ] at h;obtain ⟨r',h,rfl⟩:=h;exact ew.makes ah (DI aD h r1) (I.df _)
 case indexAddr t x i =>
  obtain ⟨u,v,rfl,r1,_,r2,_⟩:=a9.two (x:=x) (y:=i) (by simpa [aD,Op.operands] using ae);simp only [fY] at h;exact ew.makes ah (DN aD h r1 r2 (I.fZ (aC u (by simp)))) (Br h)
 case index t x i =>
  obtain ⟨u,v,rfl,r1,_,r2,_⟩:=a9.two (x:=x) (y:=i) (by simpa [aD,Op.operands] using ae);simp only [fY,rZ] at h;obtain ⟨r',h,rfl⟩:=h;exact ew.makes ah (DM aD h r1 r2) (I.df _)
 case binOp op t x y ik =>
  obtain ⟨u,v,rfl,r1,_,r2,_⟩:=a9.two (x:=x) (y:=y) (by simpa [aD,Op.operands] using ae);split at h
  ·rename_i CR;refine ew.makes ah (DH aD CR h r1 eK) ?_;unfold mV at h;dsimp only at h;repeat' split at h
   all_goals first | (simp at h;done) | (simp at h;subst h;rfl)
  ·simp only [fY] at h;refine ew.makes ah ?_ (Bp h);cases u <;> cases v <;> (try (simp [fg] at h;done))
   ·exact DE aD h r1 r2
   ·exact DF aD h r1 r2
   ·exact DD aD h r1 r2
theorem Ei {cells:List I} {len:Nat} {a:Option Addr} (h:Rel J S w (.ay cells len .shared) (.slice a len len)):Rel J S w (.ay cells len .full) (.slice a len len):=by
 cases h with
 | b1 _ a=>exact .b1 _ _
 | ay _ _ _ b o cap f ao hle hu bu b9=>exact .ay _ _ _ b o len f (fun _=>rfl) hle (fun z h=>by cases h) bu b9
theorem E_ {aT:Operand→Value} (eK:∀ v,aT (.const v)=v) {o:Oper} {us:List I} {t:TypeId} {len:Nat} {parts:Array (Nat×Operand)} {cs:List I} {s:Nat} (ah:aL B U J S w H) (aD:o.op=.buildSlice t len parts)
  (h:iv P t len (fr parts.toList us)=some (cs,s)) (aC:∀ u∈us,u.plain=true) (ae:a9 (fun i=>.arg i) U J S w us ((opsOf o).map aT)) :
  ∃ v w',(Go.execOp aT o).run P w=.ok (.value v) w'∧a1 B U J S w H (.ay cs len .full) v w':=by
 rw [xh (by simp [aD])] at ae;have ae:a9 (fun i=>.arg i) U J S w us ((parts.toList.map (·.2)).map aT):=by simpa [aD,Op.operands] using ae
 have hlen:us.length=parts.toList.length:=by simpa using ae.len
 obtain ⟨b,w',q1,az,bZ,S',bR,b4,eC,fJ,mB⟩:=AQ (parts':=parts.map fun (x:Nat×Operand)=>(x.1,aT x.2)) ah h (by simp [fr,vT,hlen]) (fun j x y al a0=>by
  simp only [fr,vU] at al;obtain ⟨y2,iN⟩:=al;simp only [vo,sr,rZ] at a0;obtain ⟨p,jJ,rfl⟩:=a0
  exact ⟨aC _ (sI iN),ae.rel j _ _ iN (by simp only [sr,jJ,sd])⟩)
 obtain ⟨a4,aJ,aP,cj,r1,_,_⟩:=j5 eC fJ mB
 exact ⟨_,w',by simp [Go.execOp,aD,q1],az,bZ,a4,bR,b4.trans (bg.settle aJ fun b o h=>(aP b o h).imp id fun h=>⟨_,h⟩),
  eC.settle aJ (fun b o h=>(aP b o h).imp id fun h=>⟨_,h,by simp,by simp⟩) cj,Ei r1,aV.b3 rfl⟩
end
end Go.Proofs.YtfakoboiahbhaaaGreat.Ab


namespace Go.Proofs.YtfakoboiahbhaaaGreat.Ab
open Go
section
variable {P:Program} {B:Nat} {J:List Nat} {w:World} {H:List au} {U:Nat→Option aI} {S:Nat→Nat→Prop}
theorem nT {b ar o:Nat} {x:Obj} (h:ar≠b):(w.putObj b x).cell? ⟨ar,o,none⟩=w.cell? ⟨ar,o,none⟩:=by
 unfold World.cell?;simp only [World.putObj_heap_other h]
theorem nJ (ah:aL B U J S w H) {id:Nat} {es es':List (Nat×I×I)} {clock clock':Nat} (aE:H[id]?=some (.map es clock)) {b:Nat} {ents':Array MapEntry}
  (aB:J[id]?=some b) (aH:U b=some (.obj id)) (bb:∀ o,¬ S b o) (ak:ents'.size=es'.length)
  (aj:∀ (j i:Nat) (k v:I) (x:MapEntry),es'[j]?=some (i,k,v)→ents'[j]?=some x→x.born=i∧k.plain=true∧Rel J S w k x.key∧v.plain=true∧Rel J S w v x.val) :
  bg U S w U S (w.putObj b (.map ents' clock'))∧aL B U J S (w.putObj b (.map ents' clock')) (H.set id (.map es' clock')):=by
 have hp:∀ ar o,S ar o→ar≠b:=fun ar o ai e=>bb o (e ▸ ai);have ag:=(ah.base b _ aH).2;have aA:bg U S w U S (w.putObj b (.map ents' clock')) :=
  ⟨rfl,rfl,rfl,by simp,fun ar _ aN=>World.putObj_heap_other (fun e=>by subst e;rw [aH] at aN;cases aN),fun ar o ai=>⟨ai,nT (hp ar o ai)⟩,fun ar o ai=>.inl ai,fun ar h=>.inl h⟩
 refine ⟨aA,by simpa using ah.cE,fun bx o aq=>?_,fun ar o ai=>?_,fun ar l h=>by simpa using ah.base ar l h,by simpa using ah.cX⟩
 ·by_cases gV:bx=id
  ·subst gV;rw [sg (sa.1 aE).1] at aq;cases aq;refine ⟨b,ents',aB,aH,World.putObj_heap_same ag,ak,bb,fun j i k v x hu al=>?_⟩;obtain ⟨a',bk,bq,b7,dW⟩:=aj j i k v x hu al;exact ⟨a',bk,bq.mono (Ext.refl J) aA.set,b7,dW.mono (Ext.refl J) aA.set⟩
  ·rw [si (fun e=>gV e.symm)] at aq;refine (ah.obj bx o aq).frame (Ext.refl J) aA.set fun ar cv bp jE=>?_;have bM:ar≠b:=fun e=>by
    subst e;rw [aH] at bp;cases bp;rcases jE with h | ⟨j,h⟩
    ·cases h;exact gV rfl
    ·cases h
   exact ⟨bp,World.putObj_heap_other bM,fun o ai=>ai⟩
 ·obtain ⟨v,ae⟩:=ah.cf ar o ai;exact ⟨v,(nT (hp ar o ai)).trans ae⟩
theorem yi:∀ {xs ys:List I},dK xs ys=some true→xs=ys∧∀ u∈xs,∃ k a,u=.int k a
 | [],[],_=>⟨rfl,by simp⟩
 | x::xs,y::ys,h=>by
   obtain ⟨k,a,b,cM,rfl,rfl,aX,he⟩:=m8 h;have he:=he.symm;simp only [sv,beq_iff_eq] at he;obtain ⟨rfl,rfl⟩:=he;obtain ⟨rfl,af⟩:=yi aX
   exact ⟨rfl,fun u hu=>by
    rcases sj.1 hu with rfl | hu
    ·exact ⟨_,_,rfl⟩
    ·exact af u hu⟩
 | [],y::ys,h=>by simp [dK] at h
 | x::xs,[],h=>by cases x <;> simp [dK] at h
theorem AH (n:Nat):∀ (l:List Value),(∀ v∈l,∃ k a,v=.int k a)→((l.zip l).all fun (x:Value×Value)=>Instr.sameBits n x.1 x.2)=true
 | [],_=>rfl
 | v::l,h=>by
   obtain ⟨k,a,rfl⟩:=h v (by simp);have a_:=AH n l fun v ae=>h v (by simp [ae]);(have aS:Instr.sameBits n (.int k a) (.int k a)=true:=by cases n <;> simp [Instr.sameBits]);simp only [List.zip_cons_cons,List.all_cons,aS,Bool.true_and];exact a_
theorem Ej {xs:List I} {V W:Array Value} (hi:∀ u∈xs,∃ k a,u=.int k a) (r1:Rel J S w (.agg xs) (.agg V)) (r2:Rel J S w (.agg xs) (.agg W)):V=W∧∀ v∈V.toList,∃ k a,v=.int k a:=by
 cases r1 with
 | agg _ _ dJ _ _ q1 =>
   cases r2 with
   | agg _ _ kI _ _ aW =>
     have key:∀ j (h:j<xs.length),∃ k a,V[j]?=some (.int k a)∧W[j]?=some (.int k a):=fun j h=>by
      obtain ⟨k,a,av⟩:=hi xs[j] (List.getElem_mem h);(have al:xs[j]?=some (.int k a):=by rw [sk h,av]);have ae:=q1 j _ V[j] al (sC (by omega));have hw:=aW j _ W[j] al (sC (by omega));exact ⟨k,a,by rw [sC (by omega),ae.db],by rw [sC (by omega),hw.db]⟩
     refine ⟨Array.ext_getElem? fun j=>?_,fun v ae=>?_⟩
     ·rcases sR j xs.length with h | h
      ·obtain ⟨k,a,ad,af⟩:=key j h;rw [ad,af]
      ·rw [vV (by omega),vV (by omega)]
     ·obtain ⟨j,aw⟩:=tx.1 ae;(have aU:j<xs.length:=by have:=(sa.1 aw).1;simp at this;omega);obtain ⟨k,a,ad,_⟩:=key j aU;rw [uV,ad] at aw;cases aw;exact ⟨k,a,rfl⟩
theorem Dk {k k':I} {x y:Value} (h:gv k k'=some true) (r1:Rel J S w k x) (r2:Rel J S w k' y):(Instr.keyThatStays y x).run P w=.ok x w:=by
 have ag:Instr.sameBits 10000 y x=true:=by
  unfold gv at h;split at h
  ·split at h
   ·rename_i q a fL b a3;subst a3;simp at h;subst h;rw [r1.db,r2.db];simp [Instr.sameBits]
   ·simp at h
  ·obtain ⟨rfl,hi⟩:=yi h;(have e1:∃ V,x=.agg V:=by cases r1 with | agg as vs=>exact ⟨_,rfl⟩);(have ck:∃ V,y=.agg V:=by cases r2 with | agg as vs=>exact ⟨_,rfl⟩);obtain ⟨V,rfl⟩:=e1;obtain ⟨W,rfl⟩:=ck;obtain ⟨rfl,c9⟩:=Ej hi r1 r2;have:=AH 9999 V.toList c9;rw [show (10000:Nat)=9999+1 from rfl,Instr.sameBits];simpa using this
  ·simp at h
 simp [Instr.keyThatStays,ag]
theorem y' {t:TypeId} (h:kH P t=true):(∃ k,P.underlying t=some (.int k))∨∃ bE,P.underlying t=some (.struct bE)∧gz P bE.toList 0=true∧P.stoodInHeld t=false:=by
 unfold kH at h;split at h
 ·exact .inl ⟨_,by assumption⟩
 ·rename_i bE Cs;simp at h;exact .inr ⟨bE,Cs,h.1,h.2⟩
 ·simp at h
theorem Ax (em:Bool) (d:Nat) (V:Array Value):∀ (bE:List Field) (off:Nat),gz P bE off=true→off+bE.length≤V.size →
  (forIn bE PUnit.unit (fun f (_ : PUnit) => if f.name = "_" then pure (ForInStep.yield PUnit.unit) else (do
    let a ←part f.type V f.offset
    (fun _=>ForInStep.yield PUnit.unit) <$> Instr.checkKey em (d+1) f.type a:Sem (ForInStep PUnit)))).run P w=.ok PUnit.unit w
 | [],off,_,_=>by simp
 | f::bE,off,h,ak=>by
   obtain ⟨f1,f2,⟨dc,f3⟩,f4,f5,f6⟩:=y4 h;simp only [sL] at ak;have jx:V[off]?=some V[off]:=sC (by omega);(have q1:(part f.type V f.offset).run P w=.ok V[off] w:=by simp only [part,Sem.run_bind,gF f3,f5,Result.andThen_ok,f1,jx,if_false,tF];rfl);(have aW:(Instr.checkKey em (d+1) f.type V[off]).run P w=.ok () w:=by unfold Instr.checkKey;simp [run_underlying f3]);have a_:=Ax em d V bE (off+1) f6 (by omega);simp only [List.forIn_cons,f2,if_false,Sem.run_bind,q1,Result.andThen_ok];simpa [aW] using a_
theorem xG {t:TypeId} {k:I} {x:Value} (h:kH P t=true) (av:isKey P t k=true) (aj:Rel J S w k x) (em:Bool):(Instr.checkKey em 10000 t x).run P w=.ok () w:=by
 rcases y' h with ⟨q,a3⟩ | ⟨bE,aQ,hi,_⟩
 ·unfold Instr.checkKey;simp [run_underlying a3]
 ·unfold isKey at av;simp only [aQ] at av;split at av
  ·rename_i aX;cases aX
  ·rename_i BZ cs aX;cases aX;simp at av;cases aj with
   | agg _ V ak _ _ _ =>
     rw [show (10000:Nat)=9998+2 from rfl,Instr.checkKey];have:=Ax (P:=P) (w:=w) em 9998 V bE.toList 0 hi (by simp;omega);rw [Array.forIn_toList] at this;simpa [run_underlying aQ] using this
  ·simp at av
theorem Ay {t:TypeId} {bE:Array Field} (ax:P.underlying t=some (.struct bE)) (aQ:gz P bE.toList 0=true) (h5:P.stoodInHeld t=false) {k k':I} {x y:Value} {e:Bool} (av:isKey P t k=true) (h:gv k k'=some e)
  (r1:Rel J S w k x) (r2:Rel J S w k' y):(Op.equal t x y).run P w=.ok e w:=by
 unfold isKey at av;simp only [ax] at av;split at av
 ·rename_i aX;cases aX
 ·rename_i BZ cs aX;cases aX;simp at av;cases k' with
  | agg ds =>
    simp only [gv] at h;(have e1:∃ V,x=.agg V:=by cases r1 with | agg as vs=>exact ⟨_,rfl⟩);(have ck:∃ V,y=.agg V:=by cases r2 with | agg as vs=>exact ⟨_,rfl⟩);obtain ⟨V,rfl⟩:=e1;obtain ⟨W,rfl⟩:=ck;have ak:∀ (xs ys:List I) (e:Bool),dK xs ys=some e→ys.length=xs.length:=by
     intro xs
     induction xs with
     | nil=>intro ys e h;cases ys <;> simp [dK] at h;rfl
     | cons x xs a_ =>
       intro ys e h;cases ys with
       | nil=>cases x <;> simp [dK] at h
       | cons y ys=>obtain ⟨_,_,_,cM,rfl,rfl,aX,_⟩:=m8 h;simp [a_ ys cM aX]
    exact run_equalIn_struct 9998 ax aQ h5 av ((ak _ _ _ h).trans av) h r1 r2
  | _=>simp [gv] at h
 ·simp at av
def gj (J:List Nat) (S:Nat→Nat→Prop) (w:World) (es:List (Nat×I×I)) (bw:List MapEntry):Prop :=
 bw.length=es.length∧∀ (j i:Nat) (k v:I) (x:MapEntry),es[j]?=some (i,k,v)→bw[j]?=some x→x.born=i∧k.plain=true∧Rel J S w k x.key∧v.plain=true∧Rel J S w v x.val
theorem gj.cons {e:Nat×I×I} {es:List (Nat×I×I)} {bw:List MapEntry} (h:gj J S w (e::es) bw):∃ x r,bw=x::r∧x.born=e.1∧Rel J S w e.2.1 x.key∧Rel J S w e.2.2 x.val∧gj J S w es r:=by
 cases bw with
 | nil=>simp [gj] at h
 | cons x r =>
   obtain ⟨ad,_,af,_,aG⟩:=h.2 0 e.1 e.2.1 e.2.2 x rfl rfl;exact ⟨x,r,rfl,ad,af,aG,by simpa using h.1,fun j i k v y hu a0=>h.2 (j+1) i k v y (by simpa using hu) (by simpa using a0)⟩
def hN (k:I) (es:List (Nat×I×I)) (bw:List MapEntry) (i:Nat):Option Nat→Option (Nat×Value)→Prop
 | none,r=>r=none
 | some n,r=>∃ e x,i≤n∧es[n-i]?=some e∧bw[n-i]?=some x∧r=some (n,x.val)∧gv k e.2.1=some true
theorem hN.step {k:I} {e:Nat×I×I} {es:List (Nat×I×I)} {x:MapEntry} {bw:List MapEntry} {i:Nat} {r:Option Nat} {res:Option (Nat×Value)} (h:hN k es bw (i+1) r res):hN k (e::es) (x::bw) i r res:=by
 cases r with
 | none=>exact h
 | some n =>
   obtain ⟨cM,oh,ad,af,aG,a6,bL⟩:=h;obtain ⟨m,hm⟩:∃ m,n-i=m+1:=⟨n-(i+1),by omega⟩;(have nn:n-(i+1)=m:=by omega);rw [nn] at af aG;exact ⟨cM,oh,by omega,by rw [hm];simpa using af,by rw [hm];simpa using aG,a6,bL⟩
theorem yo {q q0:IntKind} {n:Int}:∀ (es:List (Nat×I×I)) (bw:List MapEntry) (i:Nat) (r:Option Nat),fy (.int q n) es i=some r→gj J S w es bw →
  ∃ res,Instr.findNow (.int q0) (.int q n) bw i=some res∧hN (.int q n) es bw i r res
 | [],bw,i,r,h,aj=>by
   have:bw=[]:=tu.1 (by simpa using aj.1)
   subst this;simp [fy] at h;subst h;exact ⟨none,rfl,rfl⟩
 | (b,k',v)::es,bw,i,r,h,aj=>by
   obtain ⟨x,ents',rfl,ad,af,aG,a6⟩:=aj.cons;simp only [fy] at h;split at h
   ·rename_i he;cases h;cases k' with
    | int fL m =>
      simp only [gv] at he;split at he
      ·rename_i a3;subst a3;simp at he;subst he;simp only at af;rw [Instr.findNow,af.db];exact ⟨some (i,x.val),by simp [Instr.sameNow],_,x,sc _,by simp;rfl,by simp,rfl,by simp [gv]⟩
      ·simp at he
    | _=>simp [gv] at he
   ·rename_i he;cases k' with
    | int fL m =>
      simp only [gv] at he;split at he
      ·rename_i a3;subst a3;simp at he;simp only at af;obtain ⟨res,cb,b8⟩:=yo es ents' (i+1) r h a6;rw [Instr.findNow,af.db];(have CQ:(n == m)=false:=by simpa using he);exact ⟨res,by simp only [Instr.sameNow,if_true,CQ];exact cb,b8.step⟩
      ·simp at he
    | _=>simp [gv] at he
   ·simp at h
theorem ym {t:TypeId} {bE:Array Field} (ax:P.underlying t=some (.struct bE)) (aQ:gz P bE.toList 0=true) (h5:P.stoodInHeld t=false) {k:I} {x:Value} (av:isKey P t k=true) (r1:Rel J S w k x) :
  ∀ (es:List (Nat×I×I)) (bw:List MapEntry) (i:Nat) (r:Option Nat),fy k es i=some r→gj J S w es bw →
  ∃ res,(Instr.findAsking t x bw i).run P w=.ok res w∧hN k es bw i r res
 | [],bw,i,r,h,aj=>by
   have:bw=[]:=tu.1 (by simpa using aj.1)
   subst this;simp [fy] at h;subst h;exact ⟨none,rfl,rfl⟩
 | (b,k',v)::es,bw,i,r,h,aj=>by
   obtain ⟨y,ents',rfl,ad,af,aG,a6⟩:=aj.cons;simp only [fy] at h;split at h
   ·rename_i he;cases h;have q:=Ay (P:=P) ax aQ h5 av he r1 af;exact ⟨some (i,y.val),by simp [Instr.findAsking,q],_,y,sc _,by simp;rfl,by simp,rfl,he⟩
   ·rename_i he;have q:=Ay (P:=P) ax aQ h5 av he r1 af;obtain ⟨res,cb,b8⟩:=ym ax aQ h5 av r1 es ents' (i+1) r h a6;exact ⟨res,by simp [Instr.findAsking,q,cb],b8.step⟩
   ·simp at h
theorem mK {t:TypeId} {k:I} {x:Value} (h:kH P t=true) (av:isKey P t k=true) (aj:Rel J S w k x) {es:List (Nat×I×I)} {bw:List MapEntry} {r:Option Nat} (aQ:fy k es 0=some r) (he:gj J S w es bw) :
  ∃ res,(Instr.findKey t x bw).run P w=.ok res w∧hN k es bw 0 r res:=by
 rcases y' h with ⟨q,a3⟩ | ⟨bE,ai,hi,cJ⟩
 ·unfold isKey at av;simp only [a3] at av;split at av
  ·rename_i q1 aW n aX;obtain ⟨res,cb,b8⟩:=yo (q0:=q) es bw 0 r aQ he;rw [aj.db];exact ⟨res,by simp [Instr.findKey,run_underlying a3,cb],b8⟩
  ·rename_i aX;cases aX
  ·simp at av
 ·obtain ⟨res,cb,b8⟩:=ym ai hi cJ av aj es bw 0 r aQ he;have ch:∃ V,x=.agg V:=by
   unfold isKey at av;simp only [ai] at av;split at av
   ·rename_i aX;cases aX
   ·cases aj with | agg as vs=>exact ⟨_,rfl⟩
   ·simp at av
  obtain ⟨V,rfl⟩:=ch;cases bw with
  | nil =>
    refine ⟨res,?_,b8⟩;simp [Instr.findAsking] at cb;subst cb;simp [Instr.findKey,run_underlying ai,Instr.findNow]
  | cons y ys =>
    refine ⟨res,?_,b8⟩
    have:Instr.findNow (.struct bE) (.agg V) (y::ys) 0=none:=by simp [Instr.findNow,Instr.sameNow]
    simp [Instr.findKey,run_underlying ai,this,cb]
theorem yC (w:World) (o:Obj):(w.alloc o).heap[w.heap.size]?=some o:=by
 have e:(w.alloc o).heap=w.heap.push o:=rfl;rw [e];simp
theorem iY {b:Nat} {bw:Array MapEntry} {clock:Nat} (h:w.heap[b]?=some (.map bw clock)):(getObj b).run P w=.ok (.map bw clock) w:=by simp [getObj,Sem.run,h]
theorem n5 {b:Nat} {o:Obj} {bw:Array MapEntry} {clock:Nat} (h:w.heap[b]?=some (.map bw clock)):(setObj b o).run P w=.ok () (w.putObj b o):=by simp [setObj,Sem.run,h,World.putObj]
theorem DU (ah:aL B U J S w H):aL B (lay U w.heap.size (.obj H.length)) (J++[w.heap.size]) S (w.alloc (.map #[] 0)) (H++[.map [] 0]) :=
 (nt ah (.map #[] 0) (.obj H.length)).push w.heap.size ⟨w.heap.size,#[],Ext.last ah _,by simp [lay],yC w _,rfl,mw ah,by simp⟩
theorem Fj (ah:aL B U J S w H) {t:TypeId} {r:Option Operand} {u:I} {H':List au} (h:kT P t r H=some (u,H')) :
  ∃ x w',(Instr.makeMap t (none:Option Value)).run P w=.ok x w'∧r=none∧a1 B U J S w H' u x w':=by
 unfold kT at h;split at h
 ·cases h;exact ⟨_,_,by simp only [Instr.makeMap,Sem.run_bind,Sem.run_pure,run_newObj_alloc,Result.andThen_ok],rfl,_,_,S,Ext.append J _,kh ah _ _,DU ah,.map _ _ (Ext.last ah _),aV.b3 rfl⟩
 ·simp at h
theorem xc {t d' iB:TypeId} (h:jP P t=some (d',iB)):P.underlying t=some (.map d' iB)∧kH P d'=true:=by
 unfold jP at h;split at h
 ·split at h
  ·cases h;exact ⟨by assumption,by assumption⟩
  ·cases h
 ·cases h
theorem Fm (ah:aL B U J S w H) {lo:Nat} {t:TypeId} {m k v u:I} {H':List au} {x y z:Value} (h:iW P lo t H [m,k,v]=some (u,H'))
  (eY:Rel J S w m x) (bN:Rel J S w k y) (zI:k.plain=true) (n6:Rel J S w v z) (zR:v.plain=true) (c:Value) :
  ∃ w',(Instr.mapUpdate t x y z).run P w=.ok () w'∧a1 B U J S w H' u c w':=by
 unfold iW at h;split at h
 ·rename_i id k' br heq;cases heq;split at h
  ·rename_i d' iB ax;obtain ⟨ax,av⟩:=xc ax;split at h
   ·rename_i hs;split at h
    ·split at h
     ·rename_i es clock aE;obtain ⟨b,bw,aB,aH,aR,bj,bb,bf⟩:=ah.obj _ _ aE;cases eY with
      | map _ ar eU =>
        rw [aB] at eU;cases eU;have he:gj J S w es bw.toList:=⟨by simpa using bj,fun j i k v x hu al=>bf j i k v x hu (by simpa using al)⟩;have iF:=xG (P:=P) av hs bN false;split at h
        ·rename_i n aQ;cases h;obtain ⟨res,cb,e,x,_,b8,dY,rfl,hn⟩:=mK (P:=P) av hs bN aQ he;simp only [vp,uV] at b8 dY;obtain ⟨oJ,oK,da⟩:=e;obtain ⟨a',bk,bq,b7,dW⟩:=bf n oJ oK da x b8 dY;have cJ:=Dk (P:=P) hn bN bq;obtain ⟨aA,cc⟩:=nJ ah aE (es':=es.modify n fun e=>(e.1,k,v)) (clock':=clock) (ents':=bw.modify n fun e=>{ e with key:=y,val:=z }) aB aH bb (by simp [bj]) fun j i dc v0 jd hu al=>by
          rw [List.getElem?_modify] at hu;rw [Array.getElem?_modify] at al;by_cases aw:n=j
          ·subst aw;simp only [b8,dY,if_true,sd,Option.map_eq_map,Option.some.injEq,Prod.mk.injEq] at hu al;obtain ⟨rfl,rfl,rfl⟩:=hu;subst al;exact ⟨a',zI,bN,zR,n6⟩
          ·simp only [aw,if_false,id_map'] at hu al;exact bf j i dc v0 jd (by simpa using hu) (by simpa using al)
         refine ⟨_,?_,U,J,S,Ext.refl J,aA,cc,.junk _,aV.b3 rfl⟩;simp only [Instr.mapUpdate,Sem.run_bind,run_underlying ax,Result.andThen_ok,iY aR,iF,cb,dY,sd,uC,cJ,n5 aR]
        ·rename_i aQ;cases h;obtain ⟨res,cb,b8⟩:=mK (P:=P) av hs bN aQ he;simp only [hN] at b8;subst b8;obtain ⟨aA,cc⟩:=nJ ah aE (es':=es++[(clock,k,v)]) (clock':=clock+1) (ents':=bw.push { key:=y,val:=z,born:=clock }) aB aH bb (by simp [bj]) fun j i dc v0 jd hu al=>by
          rw [Array.getElem?_push] at al;split at al
          ·rename_i aw;rw [aw,bj,sJ (sc _)] at hu;simp at hu al;obtain ⟨rfl,rfl,rfl⟩:=hu;subst al;exact ⟨rfl,zI,bN,zR,n6⟩
          ·rename_i aw;have aU:j<bw.size:=(sW.1 al).1;rw [sB (by omega)] at hu;exact bf j i dc v0 jd hu al
         refine ⟨_,?_,U,J,S,Ext.refl J,aA,cc,.junk _,aV.b3 rfl⟩;simp only [Instr.mapUpdate,Sem.run_bind,run_underlying ax,Result.andThen_ok,iY aR,iF,cb,n5 aR]
        ·cases h
     ·cases h
    ·cases h
   ·cases h
  ·cases h
 ·cases h
theorem FX {t:TypeId} {u:I} (h:oj P t=some u):∃ v,(zeroValue t).run P w=.ok v w∧Rel J S w u v∧u.plain=true:=by
 unfold oj at h;simp only [se] at h;obtain ⟨v,⟨i,hi,ae⟩,h⟩:=h;refine ⟨v,j2 hi ae,?_⟩;split at h
 ·rename_i cs;split at h
  ·rename_i c9;cases h;refine ⟨.agg _ _ (by simp) (fun u hu=>?_) (fun v ae=>by simp only [sy] at c9;exact c9 v ae) (fun j u v hu ae=>?_),rfl⟩
   ·obtain ⟨x,_,rfl⟩:=sm.1 hu;exact mY x
   ·rw [sr,uV,ae] at hu;simp at hu;subst hu;exact lq _ _ _ _
  ·cases h
 ·cases h;exact ⟨lq _ _ _ _,mY _⟩
theorem Fi (ah:aL B U J S w H) {t:TypeId} {ok:Bool} {m k u:I} {H':List au} {x y:Value} (h:ia P t ok H [m,k]=some (u,H'))
  (eY:Rel J S w m x) (bN:Rel J S w k y) :
  ∃ v,(Instr.lookup t x y ok).run P w=.ok v w∧a1 B U J S w H' u v w:=by
 unfold ia at h;split at h
 ·rename_i id k' heq;cases heq;split at h
  ·rename_i d' iB ax;obtain ⟨ax,av⟩:=xc ax;split at h
   ·rename_i es clock hs aE;obtain ⟨b,bw,aB,aH,aR,bj,bb,bf⟩:=ah.obj _ _ aE;cases eY with
    | map _ ar eU =>
      rw [aB] at eU;cases eU;have he:gj J S w es bw.toList:=⟨by simpa using bj,fun j i k v x hu al=>bf j i k v x hu (by simpa using al)⟩;have iF:=xG (P:=P) av hs bN bw.isEmpty;split at h
      ·rename_i r aQ;simp only [rZ,Prod.mk.injEq] at h;obtain ⟨v,ae,rfl,rfl⟩:=h;obtain ⟨res,cb,b8⟩:=mK (P:=P) av hs bN aQ he;have fin:∀ (z:Value) (b:Bool),Rel J S w v z→v.plain=true →
         a1 B U J S w H (if ok then .tuple [v,.bool b] else v) (if ok then .tuple #[z,.bool b] else z) w:=fun z b aj aC=>by
        cases ok with
        | true=>exact a1.same ah (.tuple _ _ rfl (fun u hu=>by simp only [sj,List.not_mem_nil,or_false] at hu;rcases hu with rfl | rfl;exact aC;rfl) fun j u br hu bc=>by
          match j with
          | 0=>simp at hu bc;subst hu;subst bc;exact aj
          | 1=>simp at hu bc;subst hu;subst bc;exact .bool _
          | j+2=>simp at hu) rfl
        | false=>exact a1.same ah aj aC
       cases r with
       | none =>
         simp only [hN] at b8;subst b8;obtain ⟨z,xZ,oi,FW⟩:=FX (J:=J) (S:=S) (w:=w) ae;exact ⟨_,by simp only [Instr.lookup,Sem.run_bind,run_underlying ax,Result.andThen_ok,iY aR,Sem.run_pure,iF,cb,xZ],fin z false oi FW⟩
       | some n =>
         obtain ⟨e,x,_,aW,cz,rfl,dP⟩:=b8;simp only [vp,uV] at aW cz;obtain ⟨oJ,oK,da⟩:=e;obtain ⟨a',bk,bq,b7,dW⟩:=bf n oJ oK da x aW cz;simp only [r_,aW,Option.some.injEq] at ae;subst ae;exact ⟨_,by simp only [Instr.lookup,Sem.run_bind,run_underlying ax,Result.andThen_ok,iY aR,Sem.run_pure,iF,cb],fin x.val true dW b7⟩
      ·cases h
   ·cases h
  ·cases h
 ·cases h
theorem Fc (ah:aL B U J S w H) {lo:Nat} {ts:Array TypeId} (ty:TypeId) {m k u:I} {H':List au} {x y:Value} (h:hz P lo ts H [m,k]=some (u,H'))
  (eY:Rel J S w m x) (bN:Rel J S w k y) :
  ∃ v w',(Builtin.delete_ ts ty #[x,y]).run P w=.ok v w'∧a1 B U J S w H' u v w':=by
 unfold hz at h;split at h
 ·rename_i id k' heq;cases heq;split at h
  ·rename_i d' iB ax;simp only [se] at ax;obtain ⟨t,g1,ax⟩:=ax;obtain ⟨ax,av⟩:=xc ax;split at h
   ·rename_i hs;split at h
    ·split at h
     ·rename_i es clock aE;obtain ⟨b,bw,aB,aH,aR,bj,bb,bf⟩:=ah.obj _ _ aE;cases eY with
      | map _ ar eU =>
        rw [aB] at eU;cases eU;have he:gj J S w es bw.toList:=⟨by simpa using bj,fun j i k v x hu al=>bf j i k v x hu (by simpa using al)⟩;have iF:=xG (P:=P) av hs bN bw.isEmpty;have A8:∀ (w:World),Rel J S w (.tuple []) (.tuple #[]):=fun w=>.tuple _ _ rfl (by simp) (by simp);split at h
        ·rename_i n aQ;cases h;obtain ⟨res,cb,e,x,_,b8,dY,rfl,hn⟩:=mK (P:=P) av hs bN aQ he;obtain ⟨aA,cc⟩:=nJ ah aE (es':=es.eraseIdx n) (clock':=clock) (ents':=bw.eraseIdxIfInBounds n) aB aH bb (by rw [←tw,Array.toList_eraseIdxIfInBounds];simp [List.length_eraseIdx,bj]) fun j i dc v0 jd hu al=>by
          rw [←uV,Array.toList_eraseIdxIfInBounds] at al;rw [List.getElem?_eraseIdx] at hu al;by_cases aw:j<n
          ·simp only [aw,if_true] at hu al;exact bf j i dc v0 jd hu (by simpa using al)
          ·simp only [aw,if_false] at hu al;exact bf _ i dc v0 jd hu (by simpa using al)
         refine ⟨_,_,?_,U,J,S,Ext.refl J,aA,cc,A8 _,aV.b3 rfl⟩;simp only [Builtin.delete_,g1,vO,ur,vm,Sem.run_bind,run_underlying ax,Result.andThen_ok,iY aR,iF,cb,n5 aR,Sem.run_pure]
        ·rename_i aQ;cases h;obtain ⟨res,cb,b8⟩:=mK (P:=P) av hs bN aQ he;simp only [hN] at b8;subst b8;obtain ⟨aA,cc⟩:=nJ ah aE (es':=es) (clock':=clock) (ents':=bw) aB aH bb bj bf;have C9:H.set id (.map es clock)=H:=tA fun j=>by
          by_cases aw:id=j
          ·subst aw;rw [sg (sa.1 aE).1,aE]
          ·rw [si aw]
         rw [C9] at cc;refine ⟨_,_,?_,U,J,S,Ext.refl J,aA,cc,A8 _,aV.b3 rfl⟩;simp only [Builtin.delete_,g1,vO,ur,vm,Sem.run_bind,run_underlying ax,Result.andThen_ok,iY aR,iF,cb,n5 aR,Sem.run_pure]
        ·cases h
     ·cases h
    ·cases h
   ·cases h
  ·cases h
 ·cases h
theorem Ft (ah:aL B U J S w H) {t:TypeId} {m u:I} {H':List au} {x:Value} (h:kU P t H [m]=some (u,H')) (eY:Rel J S w m x) :
  ∃ v w',(Instr.range t x).run P w=.ok v w'∧a1 B U J S w H' u v w':=by
 unfold kU at h;split at h
 ·rename_i id heq;cases heq;split at h
  ·rename_i d' iB es clock ax aE;cases h;obtain ⟨b,bw,aB,aH,aR,bj,bb,bf⟩:=ah.obj _ _ aE;cases eY with
   | map _ ar eU =>
     rw [aB] at eU;cases eU;refine ⟨.pointer (some ⟨w.heap.size,0,none⟩),w.alloc (.mapIter (some b) clock #[] clock),by simp only [Instr.range,Sem.run_bind,run_underlying ax,Result.andThen_ok,iY aR,Sem.run_pure,run_newObj_alloc],_,_,S,Ext.append J _,kh ah _ (.obj H.length),?_,.ptr _ _ _ (Ext.last ah _),aV.b3 rfl⟩;exact (nt ah _ (.obj H.length)).push w.heap.size ⟨w.heap.size,b,Ext.last ah _,by simp [lay],Ext.append J _ _ _ aB,yC w _,mw ah⟩
  ·cases h
 ·cases h
theorem yn {J:List Nat} {S:Nat→Nat→Prop} {w:World} (gd:Nat):∀ (es:List (Nat×I×I)) (bw:List MapEntry) (e:Nat×I×I),gj J S w es bw→es.find? (fun e=>e.1 == gd)=some e →
  ∃ x,bw.find? (fun x=>x.born == gd)=some x∧Rel J S w e.2.1 x.key∧Rel J S w e.2.2 x.val∧e.2.1.plain=true∧e.2.2.plain=true
 | [],bw,e,aj,h=>by simp at h
 | fQ::es,bw,e,aj,h=>by
   have aS:=aj;obtain ⟨x,ents',rfl,ad,af,aG,a6⟩:=aj.cons;obtain ⟨_,bR,_,b4,_⟩:=aS.2 0 fQ.1 fQ.2.1 fQ.2.2 x rfl rfl;rw [List.find?_cons] at h ⊢;rw [ad];split at h
   ·rename_i ag;cases h;exact ⟨x,by simp,af,aG,bR,b4⟩
   ·rename_i ag;obtain ⟨oh,g⟩:=yn gd es ents' e a6 h;exact ⟨oh,by simp [g.1],g.2⟩
theorem Fe (ah:aL B U J S w H) {m u:I} {H':List au} {x:Value} (h:kS H [m]=some (u,H')) (eY:Rel J S w m x) :
  ∃ v,(Instr.entry x).run P w=.ok v w∧a1 B U J S w H' u v w:=by
 unfold kS at h;split at h
 ·rename_i r heq;cases heq;split at h
  ·rename_i m since seen j7 aE;split at h
   ·rename_i gd es clock cJ CJ;split at h
    ·rename_i ao;subst ao;split at h
     ·rename_i e he;cases h;obtain ⟨b,ec,aB,aH,aR,bj,bb⟩:=ah.obj _ _ aE;obtain ⟨ar,bw,a',bk,bq,b7,dW,fO⟩:=ah.obj _ _ CJ;rw [aR] at a';cases a';cases eY with
      | ptr _ _ ar eU =>
        rw [aB] at eU;cases eU;have aj:gj J S w es bw.toList:=⟨by simpa using b7,fun j i k v x hu al=>fO j i k v x hu (by simpa using al)⟩;obtain ⟨y,cb,b8,dY,hn,B1⟩:=yn gd es bw.toList e aj he;(have ag:(seen.toArray).back?=some gd:=by simpa using cJ);have aO:(getObj b).run P w=.ok (.mapIter (some ec) since seen.toArray clock) w:=by simp [getObj,Sem.run,bj]
        refine ⟨.tuple #[y.key,y.val],?_,a1.same ah (.tuple _ _ rfl (by simp [hn,B1]) fun j u br hu bc=>by
          match j with
          | 0=>simp at hu bc;subst hu;subst bc;exact b8
          | 1=>simp at hu bc;subst hu;subst bc;exact dY
          | j+2=>simp at hu) rfl⟩
        (have aQ:bw.find? (fun x=>x.born == gd)=some y:=by rw [←Array.find?_toList];exact cb);simp [Instr.entry,aO,ag,iY bq,aQ]
     ·cases h
    ·cases h
   ·cases h
  ·cases h
 ·cases h
end
end Go.Proofs.YtfakoboiahbhaaaGreat.Ab


namespace Go.Proofs.YtfakoboiahbhaaaGreat.Ab
open Go
section
variable {P:Program} {B:Nat} {J:List Nat} {w:World} {H:List au} {U:Nat→Option aI} {S:Nat→Nat→Prop}
theorem zJ (ah:aL B U J S w H) {id off len sz n:Nat} {cap:Option Nat} {row:List I} {v:Value} (cS:rowOf H (.ref id off len cap sz)=some row) (aN:lenOf (.ref id off len cap sz)=some n)
  (aj:Rel J S w (.ref id off len cap sz) v) :
  a1 B U J S w (H.set id .dead) (.ay row n (gT cap n)) v w:=by
 classical
 simp [lenOf] at aN;subst aN;cases aj with
 | ref _ _ _ _ _ b gu ag ao hle =>
   unfold rowOf at cS;simp only at cS;split at cS
   ·rename_i l aE;split at cS
    ·rename_i dG;simp only [Option.some.injEq] at cS;obtain ⟨ar,cur,e,aB,aH,aR,bj,bb,bf⟩:=ah.obj id _ aE;rw [ag] at aB;cases aB
     let S':Nat→Nat→Prop:=fun ar o=>S ar o∨(ar=b∧o<cur.size)
     let az:Nat→Option aI:=fun ar=>if ar=b then none else U ar
     have bu:∀ o,o<cur.size→w.cell? ⟨b,o,none⟩=cur[o]?:=fun o aq=>by
      simp [World.cell?,aR,aq]
     have aA:bg U S w az S' w:=⟨rfl,rfl,rfl,sc _,fun _ _ _=>rfl,fun _ _ h=>⟨.inl h,rfl⟩,fun ar o h=>by
       rcases h with h | ⟨rfl,_⟩
       ·exact .inl h
       ·exact .inr (.inl (by simp [aH])),fun ar bp=>by
       by_cases dF:ar=b
       ·simp [az,dF] at bp
       ·simp only [az,dF,if_false] at bp;exact .inl bp⟩
     have bW:aL B az J S' w (H.set id .dead):=by
      refine ⟨by simpa using ah.cE,fun bx o aq=>?_,fun ar o h=>?_,fun ar l' bp=>?_,ah.cX⟩
      ·by_cases cu:bx=id
       ·subst cu
        have:o=.dead:=by
         have:=(sa.1 aE).1;simp [this] at aq;exact aq.symm
        subst this;trivial
       ·rw [si (Ne.symm cu)] at aq;refine (ah.obj bx o aq).frame (Ext.refl J) aA.set (fun ar l' bp ak=>?_);have bM:ar≠b:=fun e=>by
         subst e;rw [aH] at bp;cases bp;rcases ak with h | ⟨j,h⟩
         ·cases h;exact cu rfl
         ·cases h
        exact ⟨by simp [az,bM,bp],rfl,fun o h=>h.resolve_right fun h=>bM h.1⟩
      ·rcases h with h | ⟨rfl,h⟩
       ·exact ah.cf _ _ h
       ·exact ⟨_,(bu o h).trans (sC h)⟩
      ·by_cases dF:ar=b
       ·simp [az,dF] at bp
       ·simp only [az,dF,if_false] at bp;exact ah.base _ _ bp
     (have hlen:row.length=len*sz:=by subst cS;simp;omega);refine ⟨az,J,S',Ext.refl J,aA,bW,.ay row len _ b off gu (fun j=>cur.getD (off+j) undef) (fun h=>?_) hle (fun z h=>?_) (fun j u aw=>?_) (fun j u aw=>?_),aV.b3 ?_⟩
     ·unfold gT at h;cases cap with
      | none=>simp at h
      | some c =>
        simp only at h;split at h
        ·rename_i cC;rw [ao c rfl,cC]
        ·cases h
     ·unfold gT at h;cases cap with
      | none=>simp at h
      | some c=>simp only at h;split at h <;> cases h
     all_goals (try (
      have hY:=(sa.1 aw).1;(have fk:off+j<l.length:=by omega);(have e8:off+j<cur.size:=by omega);have al:l[off+j]?=some l[off+j]:=sk fk;have ae:cur[off+j]?=some cur[off+j]:=sC e8;(have aO:cur.getD (off+j) undef=cur[off+j]:=by simp [e8]);have hu:u=l[off+j].view:=by
       subst cS;rw [sr,sT,if_pos (by simp at hY;omega),sX,al] at aw;simpa using aw.symm
      obtain ⟨a',bk,bq,b7⟩:=bf (off+j) _ _ al ae
      subst hu))
     ·exact ⟨.inr ⟨rfl,e8⟩,by rw [bu _ e8,ae,aO],I.df _,by rw [aO];exact bk⟩
     ·rw [aO];exact (bq.view a').mono (Ext.refl J) aA.set
     ·unfold gT;cases cap with
      | none=>rfl
      | some c=>simp only;split <;> rfl
    ·simp at cS
   ·simp at cS
theorem AV (ah:aL B U J S w H) {t e:TypeId} (ax:P.underlying t=some (.slice e)) {id off n z:Nat} {l c:List I} (aE:H[id]?=some (.cells l)) (cW:l[off]?=some (.ay c n (.own z))) {v:Value}
  (aj:Rel J S w (.ptr id off) v) :
  ∃ x,(Instr.loadAt t v).run P w=.ok x w∧a1 B U J S w (H.set id (.cells (l.set off (.ay c n .shared)))) (.ay c n (.own z)) x w:=by
 classical
 have ch:dI P t=false:=by simp [dI,ax]
 obtain ⟨b,cur,cM,aB,aH,aR,bj,bb,bf⟩:=ah.obj id _ aE;cases aj with
 | ptr _ _ ar ag =>
   rw [aB] at ag;cases ag;have aw:off<l.length:=(sa.1 cW).1;(have fk:off<cur.size:=by omega);have iG:cur[off]?=some cur[off]:=sC fk;obtain ⟨a',bk,bq,b7⟩:=bf off _ _ cW iG;(have bu:w.cell? ⟨b,off,none⟩=some cur[off]:=by rw [cell_of_row w b _ cur cM (0,0) aR,iG]);refine ⟨cur[off],by simp [Instr.loadAt,Instr.sureAddr,loadVar,gF ax,ch,load,Sem.run,bu],?_⟩
   let az:Nat→Option aI:=fun ar=>if U ar=some (.cell id off) then some .res else U ar
   have aA:bg U S w az S w:=⟨rfl,rfl,rfl,sc _,fun _ _ _=>rfl,fun _ _ h=>⟨h,rfl⟩,fun _ _ h=>.inl h,fun b ag=>.inl fun aS=>ag (by simp [az,aS])⟩;have av:∀ ar l',U ar=some l'→l'≠.cell id off→az ar=some l':=fun ar l' ad af=>by
    have:¬ U ar=some (.cell id off):=by rw [ad];intro e;cases e;exact af rfl
    simp [az,ad,af]
   refine ⟨az,J,S,Ext.refl J,aA,⟨by simpa using ah.cE,fun bx o aq=>?_,ah.cf,fun ar l' bp=>?_,ah.cX⟩,bq,b7.mono (Ext.refl J) aA.set fun ar bp=>⟨by simp [az,bp],rfl,fun _ h=>h⟩⟩
   ·by_cases cu:bx=id
    ·subst cu;rw [sg (sa.1 aE).1] at aq;cases aq;refine ⟨b,cur,cM,aB,av b _ aH (by simp),aR,by simpa using bj,bb,fun j u v hu ae=>?_⟩;by_cases ht:j=off
     ·subst ht;rw [sg aw] at hu;cases hu;obtain ⟨cb,b8,dY,_⟩:=bf j _ _ cW ae;exact ⟨rfl,b8,dY.view cb,aV.b3 rfl⟩
     ·rw [si (Ne.symm ht)] at hu;obtain ⟨d1,d2,d3,d4⟩:=bf j u v hu ae;exact ⟨d1,d2,d3,d4.mono (Ext.refl J) aA.set fun ar bp=>⟨av ar _ bp (by simp [ht]),rfl,fun _ h=>h⟩⟩
    ·rw [si (Ne.symm cu)] at aq;refine (ah.obj bx o aq).frame (Ext.refl J) aA.set (fun ar l' bp ak=>⟨av ar l' bp ?_,rfl,fun _ h=>h⟩);rcases ak with rfl | ⟨j,rfl⟩
     ·simp
     ·simp [cu]
   ·by_cases h:U ar=some (.cell id off)
    ·exact ah.base ar _ h
    ·simp only [az,h,if_false] at bp;exact ah.base ar l' bp
theorem AW (ah:aL B U J S w H) {t e:TypeId} (ax:P.underlying t=some (.slice e)) {id off n z:Nat} {l c:List I} (aE:H[id]?=some (.cells l)) (cW:l[off]?=some (.raw c n z)) {v:Value}
  (aj:Rel J S w (.ptr id off) v) :
  ∃ b x,J[id]?=some b∧w.cell? ⟨b,off,none⟩=some x∧x.oneCell'=true∧(Instr.loadAt t v).run P w=.ok x w∧a1 B U J S w (H.set id (.cells (l.set off .junk))) (.ay c n (.uniq z)) x w:=by
 classical
 have ch:dI P t=false:=by simp [dI,ax]
 obtain ⟨b,cur,cM,aB,aH,aR,bj,bb,bf⟩:=ah.obj id _ aE;cases aj with
 | ptr _ _ ar ag =>
   rw [aB] at ag;cases ag;have aw:off<l.length:=(sa.1 cW).1;(have fk:off<cur.size:=by omega);have iG:cur[off]?=some cur[off]:=sC fk;obtain ⟨a',bk,bq,b7⟩:=bf off _ _ cW iG;obtain ⟨FG,FH⟩:=Ee bq b7;(have bu:w.cell? ⟨b,off,none⟩=some cur[off]:=by rw [cell_of_row w b _ cur cM (0,0) aR,iG]);refine ⟨b,cur[off],aB,bu,bk,by simp [Instr.loadAt,Instr.sureAddr,loadVar,gF ax,ch,load,Sem.run,bu],?_⟩
   let az:Nat→Option aI:=fun ar=>if U ar=some (.cell id off) then some .res else U ar
   have aA:bg U S w az S w:=⟨rfl,rfl,rfl,sc _,fun _ _ _=>rfl,fun _ _ h=>⟨h,rfl⟩,fun _ _ h=>.inl h,fun b ag=>.inl fun aS=>ag (by simp [az,aS])⟩;have av:∀ ar l',U ar=some l'→l'≠.cell id off→az ar=some l':=fun ar l' ad af=>by
    have:¬ U ar=some (.cell id off):=by rw [ad];intro e;cases e;exact af rfl
    simp [az,ad,af]
   refine ⟨az,J,S,Ext.refl J,aA,⟨by simpa using ah.cE,fun bx o aq=>?_,ah.cf,fun ar l' bp=>?_,ah.cX⟩,FG,FH.mono (Ext.refl J) aA.set fun ar bp=>⟨by simp [az,bp],rfl,fun _ h=>h⟩⟩
   ·by_cases cu:bx=id
    ·subst cu;rw [sg (sa.1 aE).1] at aq;cases aq;refine ⟨b,cur,cM,aB,av b _ aH (by simp),aR,by simpa using bj,bb,fun j u v hu ae=>?_⟩;by_cases ht:j=off
     ·subst ht;rw [sg aw] at hu;cases hu;obtain ⟨cb,b8,dY,_⟩:=bf j _ _ cW ae;exact ⟨rfl,b8,.junk _,aV.b3 rfl⟩
     ·rw [si (Ne.symm ht)] at hu;obtain ⟨d1,d2,d3,d4⟩:=bf j u v hu ae;exact ⟨d1,d2,d3,d4.mono (Ext.refl J) aA.set fun ar bp=>⟨av ar _ bp (by simp [ht]),rfl,fun _ h=>h⟩⟩
    ·rw [si (Ne.symm cu)] at aq;refine (ah.obj bx o aq).frame (Ext.refl J) aA.set (fun ar l' bp ak=>⟨av ar l' bp ?_,rfl,fun _ h=>h⟩);rcases ak with rfl | ⟨j,rfl⟩
     ·simp
     ·simp [cu]
   ·by_cases h:U ar=some (.cell id off)
    ·exact ah.base ar _ h
    ·simp only [az,h,if_false] at bp;exact ah.base ar l' bp
theorem C1 (ah:aL B U J S w H) {id off b:Nat} {l:List I} (aE:H[id]?=some (.cells l)) (ag:J[id]?=some b) {u:I} {x:Value} (al:w.cell? ⟨b,off,none⟩=some x) (ad:x.oneCell'=true) (aC:u.plain=true) (aj:Rel J S w u x) :
  aL B U J S w (H.set id (.cells (l.set off u))):=by
 refine ⟨by simpa using ah.cE,fun bx o aq=>?_,ah.cf,ah.base,ah.cX⟩;by_cases cu:bx=id
 ·subst cu;rw [sg (sa.1 aE).1] at aq;cases aq;obtain ⟨ar,cur,cM,aB,aH,aR,bj,bb,bf⟩:=ah.obj bx _ aE;rw [ag] at aB;cases aB;refine ⟨b,cur,cM,ag,aH,aR,by simpa using bj,bb,fun j y v hu ae=>?_⟩;by_cases ht:off=j
  ·subst ht;(have aU:off<l.length:=by have:=(sa.1 hu).1;simpa using this);rw [sg aU] at hu;cases hu;rw [cell_of_row w b _ cur cM (0,0) aR,ae] at al;cases al;exact ⟨I.fZ aC,ad,aj,aV.b3 aC⟩
  ·rw [si ht] at hu;exact bf j y v hu ae
 ·rw [si (Ne.symm cu)] at aq;exact ah.obj bx o aq
theorem Fx (ah:aL B U J S w H) {t e:TypeId} (ax:P.underlying t=some (.slice e)) {id off n z:Nat} {l c:List I} (aN:n≠0) (aE:H[id]?=some (.cells l)) (cW:l[off]?=some (.raw c n z)) {v:Value}
  (aj:Rel J S w (.ptr id off) v) :
  ∃ x,(Instr.loadAt t v).run P w=.ok x w∧a1 B U J S w (H.set id (.cells (l.set off (.ref H.length 0 n none z)))++[.cells c]) (.ref H.length 0 n none z) x w:=by
 obtain ⟨b,x,ad,af,aG,a6,b2,cQ,a4,aJ,aP,cj,jM,Dh⟩:=AW ah ax aE cW aj;refine ⟨x,a6,?_⟩;obtain ⟨bn,cg,bH,dd,de,jN,kL,zm⟩:=zM cj (l:=.res) (by simp) (by simp) aN jM Dh;rw [List.length_set] at kL zm;have aU:=(sa.1 aE).1;have fj:cg[id]?=some b:=dd _ _ (aJ _ _ ad);have pg:(H.set id (au.cells (l.set off .junk))++[au.cells c])[id]?=some (au.cells (l.set off .junk)):=by
  rw [sB (by simpa using aU),sg aU]
 have al:=C1 jN pg fj af aG (u:=.ref H.length 0 n none z) rfl kL;have e:(H.set id (au.cells (l.set off .junk))++[au.cells c]).set id (au.cells ((l.set off .junk).set off (.ref H.length 0 n none z)))=H.set id (au.cells (l.set off (.ref H.length 0 n none z)))++[au.cells c]:=by
  rw [List.set_append_left _ _ (by simpa using aU),sS,sS]
 rw [e] at al;exact ⟨bn,cg,bH,aJ.trans dd,aP.trans de,al,kL,zm⟩
theorem De {x:Operand} (h:iO x=true):x=.const (.slice none 0 0):=by
 unfold iO at h;split at h
 ·rfl
 ·simp at h
theorem eM (i:Nat):∀ id,aI.arg i≠.obj id:=fun _=>by simp
theorem eN (i:Nat):∀ id j,aI.arg i≠.cell id j:=fun _ _=>by simp
theorem D' (ah:aL B U J S w H) {id gid n z:Nat} {l:List I} (aE:H[id]?=some (.grow l gid z)) (aN:n*z≤l.length) (aC:(l.take (n*z)).all I.plain=true) {v:Value} (aj:Rel J S w (.cl id gid n z) v) :
  a1 B U J S w (H.set id .dead) (.ay (l.take (n*z)) n (.uniq z)) v w:=by
 classical
 rw [sy] at aC;obtain ⟨b,cur,e,aB,aH,aR,bj,bb,bf,cap,c0,c',dD,fu⟩:=ah.obj id _ aE;cases aj with
 | cl _ _ _ _ ar cap' ag aO hle =>
   rw [aB] at ag;cases ag;rw [c0] at aO;cases aO
   let az:Nat→Option aI:=fun ar=>if U ar=some (.obj id) then some .res else U ar
   have aA:bg U S w az S w:=⟨rfl,rfl,rfl,sc _,fun _ _ _=>rfl,fun _ _ h=>⟨h,rfl⟩,fun _ _ h=>.inl h,fun b ag=>.inl fun aS=>ag (by simp [az,aS])⟩;have av:∀ ar l',U ar=some l'→l'≠.obj id→az ar=some l':=fun ar l' ad af=>by
    have:¬ U ar=some (.obj id):=by rw [ad];intro e;cases e;exact af rfl
    simp [az,ad,af]
   refine ⟨az,J,S,Ext.refl J,aA,⟨by simpa using ah.cE,fun bx o aq=>?_,ah.cf,fun ar l' bp=>?_,ah.cX⟩,.cK _ _ _ _ _ _,.inr ⟨by simp [az,aH],rfl,hle,c',dD,by simp;omega,⟨cur,e,aR,fu,fun j u v hu ae=>?_⟩,bb⟩⟩
   ·by_cases cu:bx=id
    ·subst cu;rw [sg (sa.1 aE).1] at aq;cases aq;trivial
    ·rw [si (Ne.symm cu)] at aq;refine (ah.obj bx o aq).frame (Ext.refl J) aA.set (fun ar l' bp ak=>⟨av ar l' bp ?_,rfl,fun _ h=>h⟩);rcases ak with rfl | ⟨j,rfl⟩
     ·simp [cu]
     ·simp
   ·by_cases h:U ar=some (.obj id)
    ·exact ah.base ar _ h
    ·simp only [az,h,if_false] at bp;exact ah.base ar l' bp
   ·have b_:u∈l.take (n*z):=sI hu;rw [sT] at hu;split at hu
    ·obtain ⟨_,bk,bq,_⟩:=bf j u v hu ae;exact ⟨aC u b_,bk,bq⟩
    ·simp at hu
theorem AU (ah:aL B U J S w H) {aT:Operand→Value} (eK:∀ v,aT (.const v)=v) {lo mode:Nat} {t:TypeId} {x:Operand} {us:List I} {r:I} {H':List au}
  (h:eP P lo mode t x H us=some (r,H')) (ae:a9 (fun i=>.arg i) U J S w us ([x].map aT)):a1 B U J S w H' r (aT x) w:=by
 obtain ⟨u,rfl,r1,bA⟩:=a9.one ae;unfold eP at h;simp only at h;split at h
 ·split at h
  ·rename_i aN ax;simp only [rZ,Prod.mk.injEq] at h;obtain ⟨z,_,rfl,rfl⟩:=h;rw [De aN,eK];exact ⟨U,J,S,Ext.refl J,bg.refl U S w,ah,.b1 _ _,trivial⟩
  ·cases h;exact ic ah (eM _) (eN _) r1 bA
 ·split at h
  ·rename_i cells len z;split at h
   ·cases h;exact ic ah (eM _) (eN _) r1 bA
   ·rename_i aS;cases h;exact zM ah (eM _) (eN _) aS r1 bA
  ·cases h;exact ic ah (eM _) (eN _) r1 bA
  ·cases h;exact ic ah (eM _) (eN _) r1 bA
  ·simp at h
 ·split at h
  ·rename_i id gid n z;split at h
   ·split at h
    ·rename_i l g cU aE;split at h
     ·rename_i ao;obtain ⟨rfl,rfl,ad,af⟩:=ao;cases h;exact D' ah aE ad af r1
     ·simp at h
    ·simp at h
   ·simp at h
  ·cases h;exact ic ah (eM _) (eN _) r1 bA
 ·split at h
  ·rename_i id off len cap sz;split at h
   ·simp only [se,rZ,Prod.mk.injEq] at h;obtain ⟨row,cS,n,aN,rfl,rfl⟩:=h;exact zJ ah cS aN r1
   ·simp at h
  ·rename_i id gid n z;split at h
   ·split at h
    ·rename_i l g cU aE;split at h
     ·rename_i ak;cases h;have aU:=(sa.1 aE).1;have q:=zJ (ah.od aE) (row:=l.map I.view) (by simp only [rowOf,sg aU,sP];rw [if_pos (by omega),sM,tG (by omega)]) rfl (r1.view rfl);rw [sS] at q;exact q
     ·simp at h
    ·simp at h
   ·simp at h
  ·cases h;obtain ⟨S',aJ,aP,cc,r2⟩:=mo ah (eM _) (eN _) r1 bA;exact a1.after (Ext.refl J) (bg.settle aJ fun b o h=>(aP b o h).imp id fun h=>⟨_,h⟩) (a1.same cc r2 (I.df _))
theorem Fh (ah:aL B U J S w H) {t e:TypeId} (ax:P.underlying t=some (.slice e)) {id off i g n z:Nat} {l:List I} (aE:H[id]?=some (.cells l)) (cW:l[off]?=some (.cl i g n z)) {v:Value}
  (aj:Rel J S w (.ptr id off) v):∃ x,(Instr.loadAt t v).run P w=.ok x w∧a1 B U J S w H (.cl i g n z) x w:=by
 have ch:dI P t=false:=by simp [dI,ax]
 obtain ⟨b,cur,cM,aB,aH,aR,bj,bb,bf⟩:=ah.obj id _ aE;cases aj with
 | ptr _ _ ar ag =>
   rw [aB] at ag;cases ag;have aw:off<l.length:=(sa.1 cW).1;(have fk:off<cur.size:=by omega);have iG:cur[off]?=some cur[off]:=sC fk;obtain ⟨a',bk,bq,b7⟩:=bf off _ _ cW iG;(have bu:w.cell? ⟨b,off,none⟩=some cur[off]:=by rw [cell_of_row w b _ cur cM (0,0) aR,iG]);exact ⟨cur[off],by simp [Instr.loadAt,Instr.sureAddr,loadVar,gF ax,ch,load,Sem.run,bu],U,J,S,Ext.refl J,bg.refl U S w,ah,bq,trivial⟩
theorem Fg (ah:aL B U J S w H) {lo mode:Nat} {t:TypeId} {u:I} {r:I} {H':List au} {v:Value} (h:dO P lo mode t H [u]=some (r,H')) (aj:Rel J S w u v) :
  ∃ x,(Instr.loadAt t v).run P w=.ok x w∧a1 B U J S w H' r x w:=by
 unfold dO at h;simp only at h;split at h
 ·simp only [rZ,Prod.mk.injEq] at h;obtain ⟨r',h,rfl,rfl⟩:=h;obtain ⟨x,ad,af,aG⟩:=k2 ah h aj;exact ⟨x,ad,a1.same ah af aG⟩
 ·split at h
  ·simp only [rZ,Prod.mk.injEq] at h;obtain ⟨r',h,rfl,rfl⟩:=h;obtain ⟨x,ad,af,aG⟩:=k2 (t:=t) ah (by simpa only [dR] using h) aj;exact ⟨x,ad,a1.same ah af aG⟩
  ·simp at h
 ·split at h
  ·rename_i e id off ax;split at h
   ·rename_i l aE;split at h
    ·rename_i i g n z cW;cases h;exact Fh ah ax aE cW aj
    ·rename_i cW;cases h
     have:dR P H t (.ptr id off)=some (.ay [] 0 .full):=by simp [dR,aE,er,dI,ax,cW,I.view]
     obtain ⟨x,ad,af,aG⟩:=k2 ah this aj;exact ⟨x,ad,a1.same ah af aG⟩
    ·simp at h
   ·simp at h
  ·simp at h
 ·split at h
  ·rename_i e id off ax;split at h
   ·split at h
    ·rename_i l aE;split at h
     ·rename_i c n z cW;cases h;exact AV ah ax aE cW aj
     ·rename_i c n z cW;split at h
      ·split at h
       ·simp at h
       ·rename_i aN;cases h;exact Fx ah ax aN aE cW aj
      ·cases h;obtain ⟨_,x,_,_,_,ad,af⟩:=AW ah ax aE cW aj;exact ⟨x,ad,af⟩
     ·rename_i bG cY iL cW;cases h
      have:dR P H t (.ptr id off)=some bG.view:=by simp [dR,aE,er,dI,ax,cW]
      obtain ⟨x,ad,af,aG⟩:=k2 ah this aj;exact ⟨x,ad,a1.same ah af aG⟩
     ·simp at h
    ·rename_i l g cU aE;have aU:=(sa.1 aE).1;split at h
     ·rename_i c n z cW;cases h;obtain ⟨b,cur,cM,aB,aH,aR,bj,bb,bf,cap,c0,c',dD,fu⟩:=ah.obj id _ aE;obtain ⟨x,ad,az,bZ,S',bR,b4,eC,fJ⟩:=AV (ah.od aE) ax (by rw [sg aU]) cW aj;have aO:=eC.xp (g:=g) (z:=cU) (by rw [sg (by simpa using aU)]) (bR _ _ aB) (bR _ _ c0) c' dD aR fu;rw [sS,sS] at aO;exact ⟨x,ad,az,bZ,S',bR,b4,aO,fJ⟩
     ·rename_i c n cW;cases h
      have:dR P H t (.ptr id off)=some (.ay c n .full):=by simp [dR,aE,er,dI,ax,cW,I.view]
      obtain ⟨x,ad,af,aG⟩:=k2 ah this aj;exact ⟨x,ad,a1.same ah af aG⟩
     ·simp at h
    ·simp at h
   ·simp at h
  ·simp at h
theorem AR (ah:aL B U J S w H) {lo:Nat} {b:Builtin} {ts:Array TypeId} (ty:TypeId) (cs:Array Bool) {us:List I} {r:I} {H':List au} {vs:List Value} (h:et P lo b ts H us=some (r,H'))
  (ae:a9 (fun i=>.arg i) U J S w us vs):∃ y w',(builtin b ts ty cs vs.toArray).run P w=.ok (.value y) w'∧a1 B U J S w H' r y w':=by
 have one:∀ {u:I},us=[u]→∃ v,vs=[v]∧Rel J S w u v:=fun {u} e=>by
  subst e
  match vs,ae with
  | [v],ae=>exact ⟨v,rfl,ae.rel 0 u v rfl rfl⟩
  | [],ae=>exact absurd ae.len (by simp)
  | _::_::_,ae=>exact absurd ae.len (by simp)
 have two:∀ {u x:I},us=[u,x]→∃ v y,vs=[v,y]∧Rel J S w u v∧aV U J S w (.arg 0) u v∧Rel J S w x y∧aV U J S w (.arg 1) x y:=fun {u x} e=>by
  subst e
  match vs,ae with
  | [v,y],ae=>exact ⟨v,y,rfl,ae.rel 0 u v rfl rfl,ae.own 0 u v rfl rfl,ae.rel 1 x y rfl rfl,ae.own 1 x y rfl rfl⟩
  | [],ae=>exact absurd ae.len (by simp)
  | [_],ae=>exact absurd ae.len (by simp)
  | _::_::_::_,ae=>exact absurd ae.len (by simp)
 unfold et at h;split at h
 ·
  unfold iU at h;split at h
  ·rename_i s x;split at h
   ·rename_i t dm g1;(have g1:ts=#[t,dm]:=by rw [←uq (xs:=ts),g1]);subst g1;simp only [rZ,Prod.mk.injEq] at h;obtain ⟨r',h,rfl,rfl⟩:=h;obtain ⟨v,y,rfl,r1,bA,r2,bQ⟩:=two rfl;obtain ⟨z,w',ad,af⟩:=AP ah ty (eM _) (eN _) (eM _) (eN _) (by simp) h r1 bA r2 bQ;exact ⟨z,w',by simp [builtin,ad],af⟩
   ·simp at h
  ·simp at h
 ·
  match us with
  | [u] =>
    obtain ⟨v,rfl,r1⟩:=one rfl;obtain ⟨y,ad,af⟩:=Ff ah (ts:=ts) ty h r1;exact ⟨y,w,by simp [builtin,ad],af⟩
  | []=>simp [g_] at h
  | _::_::_=>simp [g_] at h
 ·
  match us with
  | [u] =>
    obtain ⟨v,rfl,r1⟩:=one rfl;obtain ⟨y,ad,af⟩:=E' ah (ts:=ts) ty h r1;exact ⟨y,w,by simp [builtin,ad],af⟩
  | []=>simp [jS] at h
  | _::_::_=>simp [jS] at h
 ·
  match us with
  | [u,x] =>
    obtain ⟨v,y,rfl,r1,bA,r2,bQ⟩:=two rfl;obtain ⟨z,w',ad,af⟩:=Fb ah (ts:=ts) ty (eM _) (eN _) h r1 r2 bQ;exact ⟨z,w',by simp [builtin,ad],af⟩
  | []=>simp [jT] at h
  | [_]=>simp [jT] at h
  | _::_::_::_=>simp [jT] at h
 ·
  match us with
  | [u] =>
    obtain ⟨v,rfl,r1⟩:=one rfl;obtain ⟨y,w',ad,af⟩:=Fa ah (ts:=ts) ty h r1;exact ⟨y,w',by simp [builtin,ad],af⟩
  | []=>simp [kR] at h
  | _::_::_=>simp [kR] at h
 ·
  match us with
  | [u,x] =>
    obtain ⟨v,y,rfl,r1,_,r2,_⟩:=two rfl;obtain ⟨z,w',ad,af⟩:=Fc ah (ts:=ts) ty h r1 r2;exact ⟨z,w',by simp [builtin,ad],af⟩
  | []=>simp [hz] at h
  | [_]=>simp [hz] at h
  | _::_::_::_=>simp [hz] at h
 ·simp only [rZ,Prod.mk.injEq] at h;obtain ⟨r',h,rfl,rfl⟩:=h;obtain ⟨y,ad,af,aG⟩:=Fp (P:=P) ts ty h ae;exact ⟨y,w,by simp [builtin,ad],a1.same ah af aG⟩
 ·simp only [rZ,Prod.mk.injEq] at h;obtain ⟨r',h,rfl,rfl⟩:=h;obtain ⟨y,ad,af,aG⟩:=Fo (P:=P) ts ty h ae;exact ⟨y,w,by simp [builtin,ad],a1.same ah af aG⟩
 ·simp at h
end
end Go.Proofs.YtfakoboiahbhaaaGreat.Ab


namespace Go.Proofs.YtfakoboiahbhaaaGreat.Ab
open Go
section
variable {P:Program} {B:Nat} {J:List Nat} {w:World} {H:List au} {U:Nat→Option aI} {S:Nat→Nat→Prop}
theorem a9.tail {bz:Nat→aI} {us:List I} {vs:List Value} {u:I} {v:Value} (h:a9 bz U J S w (u::us) (v::vs)):a9 (fun i=>bz (i+1)) U J S w us vs :=
 ⟨by simpa using h.len,fun i a b cd ag=>h.rel (i+1) a b (by simpa using cd) (by simpa using ag),fun i a b cd ag=>h.own (i+1) a b (by simpa using cd) (by simpa using ag)⟩
theorem kV {bz:Nat→aI} {us:List I} {vs:List Value} (ae:a9 bz U J S w us vs) {aT:Operand→Value} (i:Nat) (l:Option Operand) (ak:∀ x,l=some x→vs[i]?=some (aT x)) :
  eF J S w (dk us i l) (l.map aT):=by
 cases l with
 | none=>trivial
 | some x =>
   have ad:=ak x rfl;(have af:i<us.length:=by rw [ae.len];exact (sa.1 ad).1);simp only [dk,sk af,sd];exact ae.rel i _ _ (sk af) ad
theorem eF.mono {S':Nat→Nat→Prop} (cm:∀ b o,S b o→S' b o) {a:Option I} {b:Option Value} (h:eF J S w a b):eF J S' w a b:=by
 cases a <;> cases b <;> first | exact h | exact Rel.mono (Ext.refl J) (fun b o h=>⟨cm b o h,rfl⟩) h
theorem Fy (ah:aL B U J S w H) {aT:Operand→Value} {t:TypeId} {x:Operand} {l h m:Option Operand} {u:I} {vs:List I} {r:I} {i1 i2:Nat}
  (aq:eR P t u.view (dk vs 0 l) (dk vs i1 h) (dk vs i2 m)=some r) (ad:i1=l.toList.length) (af:i2=l.toList.length+h.toList.length)
  (ih:Rel J S w u (aT x)) (ib:aV U J S w (.arg 0) u (aT x)) {bz:Nat→aI} (d_:a9 bz U J S w vs ((l.toList++h.toList++m.toList).map aT)) :
  ∃ v,(Instr.sliceAt t (aT x) (l.map aT) (h.map aT) (m.map aT)).run P w=.ok v w∧a1 B U J S w H r v w:=by
 obtain ⟨S',aJ,aP,cc,r1⟩:=mo ah (eM _) (eN _) ih ib;obtain ⟨v,q1,aW,cz⟩:=EK (J:=J) (S:=S') (w:=w) aq (I.df u) r1
  ((kV (aT:=aT) d_ 0 l (fun y a0=>by subst a0;simp)).mono aJ)
  ((kV (aT:=aT) d_ i1 h (fun y a0=>by subst ad a0;cases l <;> simp)).mono aJ)
  ((kV (aT:=aT) d_ i2 m (fun y a0=>by subst af a0;cases l <;> cases h <;> simp)).mono aJ)
 exact ⟨v,q1,a1.after (Ext.refl J) (bg.settle aJ fun b o h=>(aP b o h).imp id fun h=>⟨_,h⟩) (a1.same cc aW cz)⟩
theorem Fu (ah:aL B U J S w H) {aT:Operand→Value} {t:TypeId} {x:Operand} {l h m:Option Operand} {us:List I} {r:I} (aq:eh P t l h m us=some r)
  (ae:a9 (fun i=>.arg i) U J S w us ((x::(l.toList++h.toList++m.toList)).map aT)) :
  ∃ v,(Instr.sliceAt t (aT x) (l.map aT) (h.map aT) (m.map aT)).run P w=.ok v w∧a1 B U J S w H r v w:=by
 match us,ae with
 | [],ae=>exact absurd ae.len (by simp)
 | u::vs,ae =>
   have ih:=ae.rel 0 u _ rfl rfl;have ib:=ae.own 0 u _ rfl rfl;have d_:=ae.tail;unfold eh at aq;dsimp only at aq;split at aq
   ·rename_i cells len z;split at aq
    ·rename_i e aZ;simp only [se,rZ] at aq;obtain ⟨s,ai,n,aN,rfl⟩:=aq;have mH:=kV (aT:=aT) d_ 0 h (fun y a0=>by subst a0;simp);generalize al:aT x=cA at ih ib ⊢;cases ih with
     | b1 c a =>
       obtain ⟨q,q1,aW⟩:=hE (P:=P) (isS:=true) (cap:=0) (lo:=none) (lo':=none) aN rfl (by omega) trivial mH;(obtain rfl:n=0:=by omega);exact ⟨.slice a 0 0,by cases a <;> simp [Instr.sliceAt,Instr.slice,run_underlying aZ,q,run_sizeOf ai,Addr.add],U,J,S,Ext.refl J,bg.refl U S w,ah,by simpa using .b1 _ _,by cases a <;> first | trivial | exact .inl ⟨rfl,rfl,by simp⟩⟩
     | ay _ _ c b o cap f ao hle hu bu b9=>exact absurd rfl (hu _)
     | cK cells len z b o cap =>
       rcases ib with ⟨rfl,rfl,rfl⟩ | ⟨bA,bQ,kO,h_,g8,gB,⟨cur,ce,jQ,g9,nQ⟩,mx⟩
       ·obtain ⟨q,q1,aW⟩:=hE (P:=P) (isS:=true) (cap:=0) (lo:=none) (lo':=none) aN rfl (by omega) trivial mH;(obtain rfl:n=0:=by omega);exact ⟨.slice (some ⟨b,o,none⟩) 0 0,by simp [Instr.sliceAt,Instr.slice,run_underlying aZ,q,run_sizeOf ai],U,J,S,Ext.refl J,bg.refl U S w,ah,.cK _ _ _ _ _ _,.inl ⟨rfl,rfl,by simp⟩⟩
       ·obtain ⟨q,q1,aW⟩:=hE (P:=P) (isS:=true) (cap:=cap) (lo:=none) (lo':=none) aN rfl (by omega) trivial mH;simp only at bA jQ mx bQ;refine ⟨.slice (some ⟨b,o,none⟩) n cap,by simp [Instr.sliceAt,Instr.slice,run_underlying aZ,q,run_sizeOf ai];intro;simp [Addr.add],?_⟩;refine ic ah (eM 0) (eN 0) (.cK _ _ _ _ _ _) (.inr ⟨bA,bQ,by omega,h_,g8,?_,⟨cur,ce,jQ,g9,fun j u v hu ae=>?_⟩,mx⟩)
        ·rw [List.length_take,gB];exact Nat.min_eq_left (tp _ aW)
        ·rw [sT] at hu;split at hu
         ·exact nQ j u v hu ae
         ·simp at hu
    ·simp at aq
   ·
    rename_i cells len z lo fV;split at aq
    ·rename_i e aZ;simp only [se] at aq;obtain ⟨s,ai,aq⟩:=aq;split at aq
     ·rename_i bP;subst bP;simp only [rZ] at aq;obtain ⟨n,aN,rfl⟩:=aq;have rl:=kV (aT:=aT) d_ 0 (some lo) (fun y a0=>by cases a0;simp);generalize al:aT x=cA at ih ib ⊢;cases ih with
      | b1 c a =>
        obtain ⟨q,q1,aW⟩:=hE (P:=P) (isS:=true) (cap:=0) (hi:=none) (hi':=none) (len:=0) rfl aN (by omega) rl trivial;simp only [sd,Option.map_none] at q;(obtain rfl:n=0:=by omega);exact ⟨.slice a 0 0,by cases a <;> simp [Instr.sliceAt,Instr.slice,run_underlying aZ,q,run_sizeOf ai,Addr.add],U,J,S,Ext.refl J,bg.refl U S w,ah,by simpa using .b1 _ _,by cases a <;> first | trivial | exact .inl ⟨rfl,rfl,by simp⟩⟩
      | ay _ _ c b o cap f ao hle hu bu b9 =>
        obtain ⟨q,q1,aW⟩:=hE (P:=P) (isS:=true) (cap:=cap) (hi:=none) (hi':=none) (len:=len) rfl aN hle rl trivial;simp only [sd,Option.map_none] at q;have Cl:∀ k,(cells.drop k).take cells.length=cells.drop k:=fun k=>tG (by rw [tJ];omega);by_cases ej:cap=n
        ·(obtain rfl:n=len:=by omega);rw [ej] at q;refine ⟨.slice (some ⟨b,o,none⟩) 0 0,by simp [Instr.sliceAt,Instr.slice,run_underlying aZ,q,run_sizeOf ai,ej],?_⟩;rw [Nat.sub_self];rcases ib with ⟨aS,Cj,cC⟩ | ⟨bA,bQ,kO,h_,g8,gB,jQ,⟨cur,ce,g9,nQ⟩,mx⟩
         ·rw [cC,List.drop_nil];exact ⟨U,J,S,Ext.refl J,bg.refl U S w,ah,.ay [] 0 _ b o 0 (fun _=>undef) (by simp) (sc _) (by simp) (by simp) (by simp),.inl ⟨rfl,rfl,rfl⟩⟩
         ·rw [List.drop_eq_nil_of_le (by omega)];exact ⟨U,J,S,Ext.refl J,bg.refl U S w,ah,.ay [] 0 _ b o 0 (fun _=>undef) (by simp) (sc _) (by simp) (by simp) (by simp),.inl ⟨rfl,rfl,rfl⟩⟩
        ·have yX:=Rel.sub (J:=J) (k:=cells.length) (n:=len-n) (cap':=cap-n) (n*s) (.own s) (by simp) (by omega) (by simp) bu b9;rw [Cl] at yX;refine ⟨.slice (some ⟨b,o+n*s,none⟩) (len-n) (cap-n),by simp [Instr.sliceAt,Instr.slice,run_underlying aZ,q,run_sizeOf ai,ej,add_lit],?_⟩;rcases ib with ⟨aS,Cj,cC⟩ | ⟨bA,bQ,kO,h_,g8,gB,jQ,⟨cur,ce,g9,nQ⟩,mx⟩
         ·exfalso;omega
         ·refine ic ah (eM 0) (eN 0) yX (.inr ⟨bA,trivial,rfl,by omega,by omega,gB,?_,⟨cur,ce,g9,?_⟩,fun cL CS=>mx cL ?_⟩)
          ·rw [tJ,jQ,Nat.sub_mul]
          ·have e1:n*s≤cap*s:=tp _ (by omega);have ck:(cap-n)*s=cap*s-n*s:=Nat.sub_mul _ _ _;show cur.size=o+n*s+(cap-n)*s;simp only at nQ;omega
          ·have e1:n*s≤len*s:=tp _ q1;simp only [tJ] at CS ⊢;omega
     ·simp at aq
    ·simp at aq
   ·
    rename_i id gid len z;split at aq
    ·rename_i e aZ;simp only [se,rZ] at aq;obtain ⟨s,ai,n,aN,rfl⟩:=aq;have mH:=kV (aT:=aT) d_ 0 h (fun y a0=>by subst a0;simp);generalize al:aT x=cA at ih ib ⊢;cases ih with
     | cl _ _ _ _ b cap ag aO hle =>
       obtain ⟨q,q1,aW⟩:=hE (P:=P) (isS:=true) (cap:=cap) (lo:=none) (lo':=none) aN rfl hle trivial mH;exact ⟨.slice (some ⟨b,0,none⟩) n cap,by simp [Instr.sliceAt,Instr.slice,run_underlying aZ,q,run_sizeOf ai];intro;simp [Addr.add],U,J,S,Ext.refl J,bg.refl U S w,ah,.cl _ _ _ _ b cap ag aO (by omega),trivial⟩
    ·simp at aq
   ·exact Fy ah aq (by cases l <;> rfl) (by cases l <;> cases h <;> rfl) ih ib d_
theorem Fq {aT:Operand→Value} (eK:∀ v,aT (.const v)=v) {C:b6} {lo mode:Nat} {o:Oper} {us:List I} {r:I} {H':List au} (ah:aL B U J S w H)
  (h:a8 P C lo o mode us H=some (r,H')) (iK:∀ c f,o.op=.call c→c.callee≠.value f)
  (aC:dN o=false→∀ u∈us,u.plain=true) (ae:a9 (fun i=>.arg i) U J S w us ((opsOf o).map aT)):ew P aT o w (a1 B U J S w H' r):=by
 have base:(cy P o us).map (·,H)=some (r,H')→dN o=false→ew P aT o w (a1 B U J S w H' r):=fun h ak=>by
  simp only [rZ,Prod.mk.injEq] at h;obtain ⟨r',aX,rfl,rfl⟩:=h;exact Fs eK ah aX ak (aC ak) ae
 cases aD:o.op
 case call c =>
  simp only [a8,aD] at h;cases ao:c.callee with
  | builtin b =>
    simp only [ao] at h;have he:opsOf o=c.args.toList:=by
     obtain ⟨BI,args,BD⟩:=c;simp only at ao;subst ao;simp only [opsOf,aD]
    rw [he] at ae;obtain ⟨y,w',ad,af⟩:∃ y w',(builtin b c.argTypes o.type (c.args.map fun | .const _=>true | _=>false) (c.args.toList.map aT).toArray).run P w=.ok (.value y) w'∧a1 B U J S w H' r y w':=by
     cases b
     case append =>
      simp only at h;split at h
      ·exact AR ah o.type _ h ae
      ·match us,h,ae with
       | [u,x],h,ae =>
         obtain ⟨v,bd,e1,r1,bA,ae⟩:=ae.gK;obtain ⟨y,bd,ck,r2,bQ,ae⟩:=ae.gK;cases bd with
         | cons=>exact absurd ae.len (by simp)
         | nil =>
         obtain ⟨z,w',ad,af⟩:=E5 ah o.type (eM _) (eN _) (eM _) (eN _) (by simp) h r1 bA r2 bQ;rw [e1,ck];exact ⟨z,w',by simp [builtin,ad],af⟩
     all_goals exact AR ah o.type _ h ae
    refine .inl ⟨y,w',?_,af⟩;simp only [Go.execOp,aD,resolve,ao,Sem.run_bind,Sem.run_pure,Result.andThen_ok,invoke];rw [←ad,←vo,uq];rfl
  | value f=>exact absurd ao (iK c f aD)
  | invoke x n=>simp [ao] at h
 all_goals (have bc:=ae;rw [xh (by simp [aD])] at bc;simp only [aD,Op.operands] at bc)
 case move x =>
  simp only [a8,aD] at h;exact .inl ⟨aT x,w,by simp [Go.execOp,aD],AU ah eK h bc⟩
 case assign x =>
  simp only [a8,aD] at h;exact .inl ⟨aT x,w,by simp [Go.execOp,aD],AU ah eK h bc⟩
 case load t a =>
  simp only [a8,aD] at h;obtain ⟨u,rfl,r1,_⟩:=a9.one (x:=a) (by simpa using bc);obtain ⟨x,ad,af⟩:=Fg ah h r1;exact .inl ⟨x,w,by simp [Go.execOp,aD,ad],af⟩
 case store t a x =>
  simp only [a8,aD] at h;obtain ⟨u,v,rfl,r1,bA,r2,bQ⟩:=a9.two (x:=a) (y:=x) (by simpa using bc);unfold hA at h;simp only at h;split at h
  ·simp only [rZ,Prod.mk.injEq] at h;obtain ⟨H1,h,rfl,rfl⟩:=h;obtain ⟨w',ad,af⟩:=Fv ah (eM _) (eN _) h r1 r2 bQ undef;exact .inr ⟨w',by simp [Go.execOp,aD,ad],af⟩
  ·simp only [rZ,Prod.mk.injEq] at h;obtain ⟨H1,h,rfl,rfl⟩:=h;obtain ⟨w',ad,af⟩:=Fw ah (eM _) (eN _) h r1 r2 bQ undef;exact .inr ⟨w',by simp [Go.execOp,aD,ad],af⟩
 case box e x =>
  simp only [a8,aD] at h;obtain ⟨u,rfl,r1,bA⟩:=a9.one (x:=x) (by simpa using bc);unfold gC at h;simp only at h;split at h
  ·simp only [rZ,Prod.mk.injEq] at h;obtain ⟨bF,h,rfl,rfl⟩:=h;obtain ⟨y,w',ad,af⟩:=E7 (P:=P) ah (eM _) (eN _) h r1 bA e;exact .inl ⟨y,w',by simp [Go.execOp,aD,ad],af⟩
  ·split at h
   ·rename_i bF fF;split at h
    ·rename_i aC;cases h;obtain ⟨y,w',ad,af⟩:=E8 (P:=P) ah fF aC r1 e;exact .inl ⟨y,w',by simp [Go.execOp,aD,ad],af⟩
    ·simp at h
   ·simp at h
 case alloc t =>
  simp only [a8,aD] at h;unfold kQ at h;split at h
  ·simp only [rZ,Prod.mk.injEq] at h;obtain ⟨z,h,rfl,rfl⟩:=h;obtain ⟨y,w',ad,af⟩:=E3 ah h (.tuple #[]);exact .inl ⟨y,w',by simp [Go.execOp,aD,ad],af⟩
  ·split at h
   ·rename_i e bm he;simp only [rZ,Prod.mk.injEq] at h;obtain ⟨s,_,rfl,rfl⟩:=h;obtain ⟨y,w',ad,af⟩:=E4 (s:=s) ah bm (.tuple #[]);exact .inl ⟨y,w',by simp [Go.execOp,aD,ad],af⟩
   ·simp at h
 case buildSlice t len parts =>
  simp only [a8,aD] at h;split at h
  ·exact base h (by simp [dN,aD])
  ·simp only [rZ,Prod.mk.injEq] at h;obtain ⟨⟨cs,s⟩,h,rfl,rfl⟩:=h;obtain ⟨v,w',q1,aW⟩:=E_ eK ah aD h (aC (by simp [dN,aD])) ae;exact .inl ⟨v,w',q1,aW⟩
 case makeSlice t a b =>
  simp only [a8,aD] at h;obtain ⟨u,v,rfl,r1,_,r2,_⟩:=a9.two (x:=a) (y:=b) (by simpa using bc);unfold jU at h;split at h
  ·rename_i k n k' c heq;simp at heq;obtain ⟨rfl,rfl⟩:=heq;split at h
   ·rename_i ao;have e1:=r1.db;have ck:=r2.db;split at h
    ·simp only [rZ,Prod.mk.injEq] at h;obtain ⟨z,h,rfl,rfl⟩:=h;obtain ⟨y,w',ad,af⟩:=Fk (k:=k) (k':=k') ah ao.1 ao.2 h;exact .inl ⟨y,w',by simp [Go.execOp,aD,e1,ck,ad],af⟩
    ·split at h
     ·rename_i iK;simp only [rZ,Prod.mk.injEq] at h;obtain ⟨z,h,rfl,rfl⟩:=h;obtain ⟨rfl,aS⟩:=iK;obtain ⟨y,w',ad,af⟩:=Fl (k:=k) (k':=k') ah aS h;exact .inl ⟨y,w',by simp [Go.execOp,aD,e1,ck,ad],af⟩
     ·simp at h
   ·simp at h
  ·simp at h
 case makeMap t r =>
  simp only [a8,aD] at h;obtain ⟨x,w',ad,rfl,af⟩:=Fj (P:=P) ah h;exact .inl ⟨x,w',by simp [Go.execOp,aD,ad],af⟩
 case mapUpdate t m k v =>
  simp only [a8,aD] at h;have aC:=aC (by simp [dN,aD]);obtain ⟨jb,j9,k7,rfl,eY,bN,n6⟩:∃ jb j9 k7,us=[jb,j9,k7]∧Rel J S w jb (aT m)∧Rel J S w j9 (aT k)∧Rel J S w k7 (aT v):=by
   match us,bc with
   | [jb,j9,k7],bc=>exact ⟨jb,j9,k7,rfl,bc.rel 0 _ _ rfl rfl,bc.rel 1 _ _ rfl rfl,bc.rel 2 _ _ rfl rfl⟩
   | [],bc=>exact absurd bc.len (by simp)
   | [_],bc=>exact absurd bc.len (by simp)
   | [_,_],bc=>exact absurd bc.len (by simp)
   | _::_::_::_::_,bc=>exact absurd bc.len (by simp)
  obtain ⟨w',ad,af⟩:=Fm ah h eY bN (aC j9 (by simp)) n6 (aC k7 (by simp)) undef;exact .inr ⟨w',by simp [Go.execOp,aD,ad],af⟩
 case lookup t m k ok =>
  simp only [a8,aD] at h;obtain ⟨jb,j9,rfl,eY,_,bN,_⟩:=a9.two (x:=m) (y:=k) (by simpa using bc);obtain ⟨x,ad,af⟩:=Fi ah h eY bN;exact .inl ⟨x,w,by simp [Go.execOp,aD,ad],af⟩
 case range t m =>
  simp only [a8,aD] at h;obtain ⟨jb,rfl,eY,_⟩:=a9.one (x:=m) (by simpa using bc);obtain ⟨x,w',ad,af⟩:=Ft ah h eY;exact .inl ⟨x,w',by simp [Go.execOp,aD,ad],af⟩
 case entry m =>
  simp only [a8,aD] at h;obtain ⟨jb,rfl,eY,_⟩:=a9.one (x:=m) (by simpa using bc);obtain ⟨x,ad,af⟩:=Fe (P:=P) ah h eY;exact .inl ⟨x,w,by simp [Go.execOp,aD,ad],af⟩
 case slice t x l bI m =>
  simp only [a8,aD,cy,rZ,Prod.mk.injEq] at h;obtain ⟨r',h,rfl,rfl⟩:=h;obtain ⟨v,ad,af⟩:=Fu (x:=x) ah h (by simpa using bc);exact .inl ⟨v,w,by simp [Go.execOp,aD,ad],af⟩
 all_goals exact base (by simpa only [a8,aD] using h) (by simp [dN,aD])
end
end Go.Proofs.YtfakoboiahbhaaaGreat.Ab


namespace Go.Proofs.YtfakoboiahbhaaaGreat.Ab
open Go
def di (U:Nat→Option aI):Nat→Option aI:=fun b=>match U b with
 | some (.slot _)=>none
 | x=>x
def back (U bn:Nat→Option aI) (d:Option Nat):Nat→Option aI:=fun b=>match U b with
 | some (.slot i)=>if d=some i then none else some (.slot i)
 | _=>match bn b with
   | some .res=>d.map .slot
   | some (.obj id)=>some (.obj id)
   | some (.cell id j)=>some (.cell id j)
   | _=>none
def Marks (N:Nat) (U:Nat→Option aI) (w:World) (ds:List Deferred):Prop :=
 N≤w.heap.size∧(∀ d∈ds,∃ r,d.target=.collected r∧N≤r∧U r=none∧w.heap[r]?=some (.deferred (some [])))∧ds.Pairwise (fun a b=>a.target≠b.target)
structure ct (B N:Nat) (U:Nat→Option aI) (J:List Nat) (S:Nat→Nat→Prop) (w:World) (s:a5) (a:Act):Prop where
 T:a9 .slot U J S w s.T a.tmps.toList
 H:aL B U J S w s.H
 M:Marks N U w a.defers
def Step (B N:Nat) (U:Nat→Option aI) (J:List Nat) (S:Nat→Nat→Prop) (w:World) (aF:a5) (aM:Act) (w':World):Prop :=
 ∃ az bZ S',Ext J bZ∧bg U S w az S' w'∧ct B N az bZ S' w' aF aM
section
variable {P:Program} {B N:Nat} {J:List Nat} {w:World} {H:List au} {U:Nat→Option aI} {S:Nat→Nat→Prop}
theorem Marks.aA {az:Nat→Option aI} {S':Nat→Nat→Prop} {w':World} {ds:List Deferred} (h:Marks N U w ds) (aA:bg U S w az S' w'):Marks N az w' ds:=⟨sH h.1 aA.size,fun d aZ=>by
 obtain ⟨r,ad,af,aG,a6⟩:=h.2.1 d aZ;have aj:r<w.heap.size:=(sW.1 a6).1;refine ⟨r,ad,af,?_,(aA.cD r aj aG).trans a6⟩;cases bL:az r with
 | none=>rfl
 | some l =>
   rcases aA.own r (by simp [bL]) with bV | bV
   ·exact absurd aG bV
   ·omega,h.2.2⟩
theorem nk {b:Nat} (h:U b=none):di U b=none:=by simp [di,h]
theorem ph {b i:Nat} (h:U b=some (.slot i)):di U b=none:=by simp [di,h]
theorem yG {b:Nat} {l:aI} (h:U b=some l) (ak:∀ i,l≠.slot i):di U b=some l:=by
 cases l <;> first | (simp only [di,h];done) | exact absurd rfl (ak _)
theorem yH {b:Nat} {l:aI} (h:di U b=some l):U b=some l∧∀ i,l≠.slot i:=by
 unfold di at h;split at h
 ·simp at h
 ·rename_i aN;exact ⟨h,fun i e=>by subst e;exact aN i h⟩
theorem Cz (b i:Nat):di U b≠some (.slot i):=fun h=>(yH h).2 i rfl
theorem BF {bn:Nat→Option aI} {d:Option Nat} {b i:Nat} (h:U b=some (.slot i)) (aZ:d≠some i):back U bn d b=some (.slot i):=by simp [back,h,aZ]
theorem l7 (ah:aL B U J S w H):aL B (di U) J S w H:=by
 refine ⟨ah.cE,fun id o aq=>?_,ah.cf,fun b l ag=>ah.base b l (yH ag).1,ah.cX⟩;refine (ah.obj id o aq).frame (Ext.refl J) (fun _ _ h=>⟨h,rfl⟩) fun b l ag ak=>⟨yG ag ?_,rfl,fun _ h=>h⟩;rcases ak with rfl | ⟨j,rfl⟩ <;> simp
theorem Ba {us:List I} {vs:List Value} (h:a9 (fun i=>.arg i) U J S w us vs):a9 (fun i=>.arg i) (di U) J S w us vs :=
 ⟨h.len,h.rel,fun i u v hu ae=>(h.own i u v hu ae).mono (Ext.refl J) (fun _ _ h=>⟨h,rfl⟩) fun b ag=>⟨yG ag (by simp),rfl,fun _ h=>h⟩⟩
theorem zQ (a:Act) (d:Option Tmp) (v:Value):(a.put d v).tmps.toList=match d with | some d=>a.tmps.toList.set d v | none=>a.tmps.toList:=by
 cases d <;> simp [Act.put]
theorem put_defers (a:Act) (d:Option Tmp) (v:Value):(a.put d v).defers=a.defers:=by
 cases d <;> rfl
theorem zE {T:List I} {a:Act} {H':List au} {r:I} {v:Value} {w':World} (dst:Option Tmp) (aK:ct B N U J S w ⟨T,H⟩ a) {bn:Nat→Option aI} {cg:List Nat} {bH:Nat→Nat→Prop}
  (bK:Ext J cg) (dX:bg (di U) S w bn bH w') (cp:aL B bn cg bH w' H') (aj:Rel cg bH w' r v) (aq:aV bn cg bH w' .res r v) :
  bg U S w (back U bn dst) bH w'∧ct B N (back U bn dst) cg bH w' ⟨put T dst r,H'⟩ (a.put dst v):=by
 have o4:∀ b l,U b=some l→b<w.heap.size:=fun b l h=>(aK.H.base b l h).2;have kx:∀ b l,bn b=some l→∀ i,U b≠some (.slot i):=fun b l h i ai=>by
  rcases dX.own b (by simp [h]) with ad | ad
  ·exact ad (ph ai)
  ·have:=o4 b _ ai;omega
 have yz:∀ b l,bn b=some l→back U bn dst b=match l with | .res=>dst.map .slot | .obj id=>some (.obj id) | .cell id j=>some (.cell id j) | _=>none:=fun b l h=>by
  unfold back;split
  ·rename_i i ai;exact absurd ai (kx b l h i)
  ·rw [h];cases l <;> rfl
 have aA:bg U S w (back U bn dst) bH w':=by
  refine ⟨dX.os,dX.tape,dX.output,dX.size,fun b ag aN=>dX.cD b ag (nk aN),dX.set,fun b o h=>?_,fun b h=>?_⟩
  ·rcases dX.fresh b o h with h | h | h
   ·exact .inl h
   ·exact .inr (.inl fun aN=>h (nk aN))
   ·exact .inr (.inr h)
  ·unfold back at h;split at h
   ·rename_i ai;exact .inl (by simp [ai])
   ·rcases dX.own b (fun aN=>by simp [aN] at h) with ad | ad
    ·exact .inl fun aN=>ad (nk aN)
    ·exact .inr ad
 refine ⟨aA,⟨?_,⟨cp.cE,fun id o aq=>?_,cp.cf,fun b l ag=>?_,cp.cX⟩,?_⟩⟩
 ·have fI:∀ (i:Nat) (u:I) (x:Value),dst≠some i→T[i]?=some u→a.tmps.toList[i]?=some x→Rel cg bH w' u x∧aV (back U bn dst) cg bH w' (.slot i) u x:=fun i u x aZ hu al=>by
   refine ⟨(aK.T.rel i u x hu al).mono bK dX.set,(aK.T.own i u x hu al).mono bK dX.set fun b ag=>⟨BF ag aZ,dX.cD b (o4 b _ ag) (ph ag),fun o h=>?_⟩⟩;rcases dX.fresh b o h with h | h | h
   ·exact h
   ·exact absurd (ph ag) h
   ·have:=o4 b _ ag;omega
  cases dst with
  | none=>exact ⟨aK.T.len,fun i u x hu al=>(fI i u x (by simp) hu al).1,fun i u x hu al=>(fI i u x (by simp) hu al).2⟩
  | some d =>
    have hlen:=aK.T.len;have both:∀ (i:Nat) (u:I) (x:Value),(T.set d r)[i]?=some u→(a.tmps.toList.set d v)[i]?=some x→Rel cg bH w' u x∧aV (back U bn (some d)) cg bH w' (.slot i) u x:=fun i u x hu al=>by
     by_cases aE:d=i
     ·subst aE;(have aU:d<T.length:=by have:=(sa.1 hu).1;simpa using this);(have l0:d<a.tmps.toList.length:=by have:=(sa.1 al).1;simpa using this);rw [sg aU] at hu;rw [sg l0] at al;cases hu;cases al;exact ⟨aj,aq.mono (Ext.refl _) (fun _ _ h=>⟨h,rfl⟩) fun b ag=>⟨by rw [yz b _ ag];rfl,rfl,fun _ h=>h⟩⟩
     ·rw [si aE] at hu al;exact fI i u x (by simpa using aE) hu al
    refine ⟨by simp [put,gI,Act.put,hlen],?_,?_⟩
    ·intro i u x hu al;simp only [put,gI] at hu;rw [zQ] at al;exact (both i u x hu al).1
    ·intro i u x hu al;simp only [put,gI] at hu;rw [zQ] at al;exact (both i u x hu al).2
 ·refine (cp.obj id o aq).frame (Ext.refl cg) (fun _ _ h=>⟨h,rfl⟩) fun b l ag ak=>⟨?_,rfl,fun _ h=>h⟩;rw [yz b l ag];rcases ak with rfl | ⟨j,rfl⟩ <;> rfl
 ·unfold back at ag;split at ag
  ·rename_i i ai;have:=aK.H.base b _ ai;exact ⟨this.1,uU this.2 dX.size⟩
  ·cases af:bn b with
   | none=>simp [af] at ag
   | some l'=>exact cp.base b l' af
 ·rw [put_defers];exact aK.M.aA aA
theorem nS {T:List I} {a:Act} {H':List au} {r:I} {v:Value} {w':World} (dst:Option Tmp) (aK:ct B N U J S w ⟨T,H⟩ a) (aC:a1 B (di U) J S w H' r v w')
  (u:I) (hu:∀ bn cg bH,Rel cg bH w' r v→aV bn cg bH w' .res r v→Rel cg bH w' u v) :
  ∃ az bZ S',Ext J bZ∧bg U S w az S' w'∧ct B N az bZ S' w' ⟨put T dst r,H'⟩ (a.put dst v)∧Rel bZ S' w' u v:=by
 obtain ⟨bn,cg,bH,bK,dX,cp,aj,aq⟩:=aC;obtain ⟨ad,af⟩:=zE dst aK bK dX cp aj aq;exact ⟨_,cg,bH,bK,ad,af,hu bn cg bH aj aq⟩
theorem Step.trans {b2:Nat→Option aI} {cQ:List Nat} {a4:Nat→Nat→Prop} {bC:World} (bK:Ext J cQ) (aA:bg U S w b2 a4 bC) {aF:a5} {aM:Act} {w':World} (h:Step B N b2 cQ a4 bC aF aM w') :
  Step B N U J S w aF aM w' :=
 let ⟨az,bZ,S',aJ,aP,cj⟩:=h
 ⟨az,bZ,S',bK.trans aJ,aA.trans aP,cj⟩
theorem a9.swap {bz:Nat→aI} {T:List I} {bd:List Value} (h:a9 bz U J S w T bd) (t:Nat) {u:I} (hu:u.plain=true) (aj:∀ v,bd[t]?=some v→Rel J S w u v):a9 bz U J S w (T.set t u) bd:=by
 refine ⟨by simpa using h.len,fun i x v al ae=>?_,fun i x v al ae=>?_⟩
 ·by_cases hi:t=i
  ·subst hi;(have aU:t<T.length:=by have:=(sa.1 al).1;simpa using this);rw [sg aU] at al;cases al;exact aj v ae
  ·rw [si hi] at al;exact h.rel i x v al ae
 ·by_cases hi:t=i
  ·subst hi;(have aU:t<T.length:=by have:=(sa.1 al).1;simpa using this);rw [sg aU] at al;cases al;exact aV.b3 hu
  ·rw [si hi] at al;exact h.own i x v al ae
end
end Go.Proofs.YtfakoboiahbhaaaGreat.Ab


namespace Go.Proofs.YtfakoboiahbhaaaGreat.Ab
open Go
section
variable {P:Program} {B N:Nat} {J:List Nat} {w:World} {H:List au} {U:Nat→Option aI} {S:Nat→Nat→Prop}
theorem Rel.narrow {cg:List Nat} {bH:Nat→Nat→Prop} {bT:World} (bK:Ext J cg) {u:I} {v v2:Value} (h:Rel J S w u v) (af:Rel cg bH bT u v2):Rel J bH bT u v2:=by
 induction h generalizing v2 with
 | junk v=>exact .junk v2
 | bool b=>cases af;exact .bool b
 | dn b=>cases af;exact .dn _
 | int k n=>cases af;exact .int k n
 | str s=>cases af;exact .str s
 | eB=>cases af;exact .eB
 | ptr id off b h =>
   cases af with
   | ptr _ _ cI k=>rw [bK _ _ h] at k;cases k;exact .ptr id off b h
 | cl id gid len z b cap h aO hle =>
   cases af with
   | cl _ _ _ _ cI oC k za _ =>
     rw [bK _ _ h] at k;cases k;rw [bK _ _ aO] at za;cases za;exact .cl id gid len z b cap h aO hle
 | bU cells b o f h aj a_ =>
   cases af with
   | bU _ b o f k eL=>exact .bU cells b o f k fun j u aw=>a_ j u aw (eL j u aw)
 | b1 c a =>
   cases af with
   | b1 c a=>exact .b1 c a
   | ay _ _ _ b o cap f ao hle hu k eL=>exact .ay [] 0 c b o cap f ao hle hu k fun j u aw=>by simp at aw
   | cK _ _ z b o cap=>exact .cK _ _ z b o cap
 | ay cells len c b o cap f ao hle hu h aj a_ =>
   cases af with
   | b1 c a=>exact .b1 c a
   | ay _ _ _ b o cap f ao hle hu k eL=>exact .ay cells len c b o cap f ao hle hu k fun j u aw=>a_ j u aw (eL j u aw)
   | cK _ _ z b o cap=>exact .cK _ _ z b o cap
 | raw cells len z b o cap =>
   cases af with
   | raw _ _ _ b o cap=>exact .raw _ _ z b o cap
 | cK cells len z b o cap =>
   cases af with
   | b1 c a=>exact .b1 _ _
   | ay _ _ _ b o cap f ao hle hu k eL=>exact absurd rfl (hu z)
   | cK _ _ z b o cap=>exact .cK _ _ z b o cap
 | ref id off len c sz b cap h ao hle =>
   cases af with
   | ref _ _ _ _ _ cI oC k Di Dl=>rw [bK _ _ h] at k;cases k;exact .ref id off len c sz b oC h Di Dl
 | func f as bs vs ws ad F_ bR b4 r1 r2 i1 i2 =>
   cases af with
   | func _ _ _ mP FU aJ aP _ _ q1 aW =>
     refine .func f as bs mP FU aJ aP bR b4 (fun j u v hu ae=>?_) (fun j u v hu ae=>?_)
     ·(have aw:j<vs.size:=by have:=(sa.1 hu).1;omega);exact i1 j u vs[j] hu (sC aw) (q1 j u v hu ae)
     ·(have aw:j<ws.size:=by have:=(sa.1 hu).1;omega);exact i2 j u ws[j] hu (sC aw) (aW j u v hu ae)
 | yield id b h =>
   cases af with
   | yield _ cI k=>rw [bK _ _ h] at k;cases k;exact .yield id b h
 | map id b h =>
   cases af with
   | map _ cI k=>rw [bK _ _ h] at k;cases k;exact .map id b h
 | agg as vs h p one r a_ =>
   cases af with
   | agg _ mP k _ DZ q =>
     refine .agg as mP k p DZ fun j u v hu ae=>?_;(have aw:j<vs.size:=by have:=(sa.1 hu).1;omega);exact a_ j u vs[j] hu (sC aw) (q j u v hu ae)
 | tuple as vs h p r a_ =>
   cases af with
   | tuple _ mP k _ q =>
     refine .tuple as mP k p fun j u v hu ae=>?_;(have aw:j<vs.size:=by have:=(sa.1 hu).1;omega);exact a_ j u vs[j] hu (sC aw) (q j u v hu ae)
theorem jO {f:I→Option I}:∀ {xs ys:List I},eb f xs=some ys→ys.length=xs.length∧∀ (j:Nat) (y:I),ys[j]?=some y→∃ x,xs[j]?=some x∧f x=some y
 | [],ys,h=>by simp [eb] at h;subst h;simp
 | x::xs,ys,h=>by
   simp only [eb] at h;split at h
   ·rename_i y a0;simp only [rZ] at h;obtain ⟨ys,h,rfl⟩:=h;obtain ⟨ad,af⟩:=jO h;refine ⟨by simp [ad],fun j z bm=>?_⟩;cases j with
    | zero=>simp at bm;subst bm;exact ⟨x,rfl,a0⟩
    | succ j=>simpa using af j z (by simpa using bm)
   ·simp at h
theorem hV {lo id0 n d:Nat} {u r:I} (h:bJ H lo id0 n d u=some r):(u.plain=true→r.plain=true)∧(u.cT=true→r.cT=true):=by
 cases d with
 | zero=>simp [bJ] at h
 | succ d =>
   unfold bJ at h;split at h
   ·simp only [rZ] at h;rename_i c;obtain ⟨cs,_,rfl⟩:=h;cases c <;> exact ⟨fun h=>h,fun h=>h⟩
   ·simp only [rZ] at h;obtain ⟨cs,_,rfl⟩:=h;exact ⟨fun h=>rfl,fun h=>rfl⟩
   ·simp only [rZ] at h;obtain ⟨cs,_,rfl⟩:=h;exact ⟨fun h=>rfl,fun h=>rfl⟩
   ·simp only [rZ] at h;obtain ⟨cs,_,rfl⟩:=h;exact ⟨fun h=>rfl,fun h=>rfl⟩
   ·split at h <;> simp at h;subst h;exact ⟨fun h=>rfl,fun h=>rfl⟩
   ·split at h
    ·simp at h;subst h;exact ⟨fun h=>rfl,fun h=>rfl⟩
    ·split at h
     ·simp at h;subst h;exact ⟨fun h=>rfl,fun h=>rfl⟩
     ·split at h
      ·simp only [rZ] at h;obtain ⟨cs,_,rfl⟩:=h;exact ⟨fun h=>rfl,fun h=>rfl⟩
      ·simp at h
   ·split at h
    ·simp at h;subst h;exact ⟨fun h=>rfl,fun h=>rfl⟩
    ·split at h
     ·simp at h;subst h;exact ⟨fun h=>rfl,fun h=>rfl⟩
     ·split at h
      ·simp only [rZ] at h;obtain ⟨cs,_,rfl⟩:=h;rename_i cap _ _ _ _ _ _;constructor <;> intro _ <;> (unfold gT;split <;> (try split) <;> rfl)
      ·simp at h
   ·split at h <;> simp at h;subst h;exact ⟨fun h=>rfl,fun h=>rfl⟩
   ·split at h
    ·simp at h;subst h;exact ⟨fun h=>rfl,fun h=>rfl⟩
    ·split at h <;> simp at h;subst h;exact ⟨fun h=>rfl,fun h=>rfl⟩
   ·simp at h
   ·simp at h
   ·simp at h;subst h;exact ⟨fun h=>h,fun h=>h⟩
theorem BX {cap:Option Nat} {n m:Nat} (ao:∀ k,cap=some k→m=k) (h:gT cap n=.full):m=n:=by
 unfold gT at h;cases cap with
 | none=>simp at h
 | some c =>
   simp only at h;split at h
   ·rename_i Ci;rw [ao c rfl,Ci]
   ·cases h
theorem yu {cap:Option Nat} {n:Nat} (z:Nat):gT cap n≠.uniq z:=by
 unfold gT;cases cap with
 | none=>simp
 | some c=>simp only;split <;> simp
def gk (U:Nat→Option aI) (S:Nat→Nat→Prop) (w:World) (lo id0:Nat) (b o:Nat):Prop :=
 S b o∨((∃ id,lo≤id∧id≠id0∧U b=some (.obj id))∧∃ v,w.cell? ⟨b,o,none⟩=some v)
theorem lH (ah:aL B U J S w H) {lo id0 n:Nat} {gh:List Nat} (bD:∀ (id b:Nat),id<lo→J[id]?=some b→gh[id]?=some b) (aN:∀ b,J[id0]?=some b→gh[n]?=some b) :
  ∀ (d:Nat) (u r:I) (v:Value),bJ H lo id0 n d u=some r→Rel J S w u v→Rel gh (gk U S w lo id0) w r v:=by
 intro d
 induction d with
 | zero=>intro u r v h;simp [bJ] at h
 | succ d a_ =>
   intro u r v h aj;have list:∀ {cells cs:List I} {b o:Nat} {f:Nat→Value},eb (bJ H lo id0 n d) cells=some cs →
     (∀ (j:Nat) (u:I),cells[j]?=some u→S b (o+j)∧w.cell? ⟨b,o+j,none⟩=some (f j)∧u.plain=true∧(f j).oneCell'=true) →
     (∀ (j:Nat) (u:I),cells[j]?=some u→Rel J S w u (f j)) →
     (∀ (j:Nat) (u:I),cs[j]?=some u→gk U S w lo id0 b (o+j)∧w.cell? ⟨b,o+j,none⟩=some (f j)∧u.plain=true∧(f j).oneCell'=true) ∧
     (∀ (j:Nat) (u:I),cs[j]?=some u→Rel gh (gk U S w lo id0) w u (f j)):=fun hm ao fl=>by
    obtain ⟨ad,af⟩:=jO hm;refine ⟨fun j y a0=>?_,fun j y a0=>?_⟩
    ·obtain ⟨x,al,aQ⟩:=af j y a0;obtain ⟨a',bk,bq,b7⟩:=ao j x al;exact ⟨.inl a',bk,(hV aQ).1 bq,b7⟩
    ·obtain ⟨x,al,aQ⟩:=af j y a0;exact a_ x y _ aQ (fl j x al)
   have arr:∀ {as bs:List I} {vs:Array Value},eb (bJ H lo id0 n d) as=some bs→vs.size=as.length→(∀ u∈as,u.plain=true) →
     (∀ (j:Nat) (u:I) (v:Value),as[j]?=some u→vs[j]?=some v→Rel J S w u v) →
     vs.size=bs.length∧(∀ u∈bs,u.plain=true)∧∀ (j:Nat) (u:I) (v:Value),bs[j]?=some u→vs[j]?=some v→Rel gh (gk U S w lo id0) w u v:=fun hm ak aC fl=>by
    obtain ⟨ad,af⟩:=jO hm;refine ⟨by omega,fun y a0=>?_,fun j y v a0 ae=>?_⟩
    ·obtain ⟨j,aw⟩:=tx.1 a0;obtain ⟨x,al,aQ⟩:=af j y aw;exact (hV aQ).1 (aC x (sI al))
    ·obtain ⟨x,al,aQ⟩:=af j y a0;exact a_ x y v aQ (fl j x v al ae)
   cases aj with
   | junk v=>simp only [bJ,Option.some.injEq] at h;subst h;exact .junk v
   | bool b=>simp only [bJ,Option.some.injEq] at h;subst h;exact .bool b
   | dn b=>simp only [bJ,Option.some.injEq] at h;subst h;exact .dn b
   | int k n=>simp only [bJ,Option.some.injEq] at h;subst h;exact .int k n
   | str s=>simp only [bJ,Option.some.injEq] at h;subst h;exact .str s
   | eB=>simp only [bJ,Option.some.injEq] at h;subst h;exact .eB
   | raw=>simp [bJ] at h
   | cl=>simp [bJ] at h
   | map id b k =>
     simp only [bJ] at h;split at h
     ·rename_i aU;simp only [Option.some.injEq] at h;subst h;exact .map _ b (bD id b aU k)
     ·split at h
      ·rename_i heq;subst heq;simp only [Option.some.injEq] at h;subst h;exact .map _ b (aN b k)
      ·simp at h
   | yield id b k =>
     simp only [bJ] at h;split at h
     ·rename_i aU;simp only [Option.some.injEq] at h;subst h;exact .yield _ b (bD id b aU k)
     ·simp at h
   | b1 c a =>
     simp only [bJ,rZ] at h;obtain ⟨cs,hm,rfl⟩:=h;simp [eb] at hm;subst hm;exact .b1 _ _
   | ay cells len c b o cap f ao hle hu k eL =>
     simp only [bJ,rZ] at h;obtain ⟨cs,hm,rfl⟩:=h;obtain ⟨dJ,kI⟩:=list hm k eL;exact .ay _ _ _ b o cap f ao hle hu dJ kI
   | cK cells len z b o cap =>
     simp only [bJ,rZ] at h;obtain ⟨cs,hm,rfl⟩:=h;exact .cK _ _ z b o cap
   | bU cells b o f k eL =>
     simp only [bJ,rZ] at h;obtain ⟨cs,hm,rfl⟩:=h;obtain ⟨dJ,kI⟩:=list hm k eL;exact .bU _ b o f dJ kI
   | agg as vs k p one q =>
     simp only [bJ,rZ] at h;obtain ⟨cs,hm,rfl⟩:=h;obtain ⟨aB,aH,aR⟩:=arr hm k p q;exact .agg _ vs aB aH one aR
   | tuple as vs k p q =>
     simp only [bJ,rZ] at h;obtain ⟨cs,hm,rfl⟩:=h;obtain ⟨aB,aH,aR⟩:=arr hm k p q;exact .tuple _ vs aB aH aR
   | func f as bs vs ws aJ aP bR b4 q1 aW =>
     simp only [bJ] at h;split at h
     ·rename_i cd ag;simp only [Option.some.injEq] at h;subst h;obtain ⟨aB,aH,aR⟩:=arr cd aJ bR q1;obtain ⟨bo,cI,ez⟩:=arr ag aP b4 aW;exact .func f _ _ vs ws aB bo aH cI aR ez
     ·simp at h
   | ptr id off b k =>
     simp only [bJ] at h;split at h
     ·rename_i aU;simp only [Option.some.injEq] at h;subst h;exact .ptr _ _ b (bD id b aU k)
     ·rename_i e7;split at h
      ·rename_i heq;subst heq;simp only [Option.some.injEq] at h;subst h;exact .ptr _ _ b (aN b k)
      ·rename_i bM;split at h
       ·rename_i l aE;simp only [rZ] at h;obtain ⟨cs,hm,rfl⟩:=h;obtain ⟨ar,cur,e,aB,aH,aR,bj,bb,bf⟩:=ah.obj id _ aE;rw [k] at aB;cases aB;obtain ⟨dd,de⟩:=jO hm;(have bu:∀ o,o<cur.size→w.cell? ⟨b,o,none⟩=cur[o]?:=fun o aq=>by simp [World.cell?,aR,aq]);have facts:∀ (j:Nat) (y:I),cs[j]?=some y→∃ x c,off+j<cur.size∧cur[off+j]?=some c∧c.oneCell'=true∧x.plain=true∧bJ H lo id0 n d x=some y∧Rel J S w x c:=fun j y a0=>by
         obtain ⟨x,al,aQ⟩:=de j y a0;have hY:=(sa.1 al).1;simp at hY;(have fk:off+j<l.length:=by omega);(have e8:off+j<cur.size:=by omega);have ak:l[off+j]?=some l[off+j]:=sk fk;have ae:cur[off+j]?=some cur[off+j]:=sC e8;obtain ⟨a',bk,bq,b7⟩:=bf (off+j) _ _ ak ae;rw [sr,sX,ak] at al;simp at al;subst al;exact ⟨_,_,e8,ae,bk,I.df _,aQ,bq.view a'⟩
        refine .bU cs b off (fun j=>cur.getD (off+j) undef) (fun j y a0=>?_) (fun j y a0=>?_)
        ·obtain ⟨x,c,aw,c5,ad,aC,aQ,ef⟩:=facts j y a0;(have aO:cur.getD (off+j) undef=c:=by rw [ss,c5];rfl);rw [aO];exact ⟨.inr ⟨⟨id,by omega,bM,aH⟩,c,by rw [bu _ aw,c5]⟩,by rw [bu _ aw,c5],(hV aQ).1 aC,ad⟩
        ·obtain ⟨x,c,aw,c5,ad,aC,aQ,ef⟩:=facts j y a0;(have aO:cur.getD (off+j) undef=c:=by rw [ss,c5];rfl);simp only [aO];exact a_ x y c aQ ef
       ·simp at h
   | ref id off len cap sz b gu k ao hle =>
     simp only [bJ] at h;split at h
     ·rename_i aU;simp only [Option.some.injEq] at h;subst h;exact .ref _ _ _ _ _ b gu (bD id b aU k) ao hle
     ·rename_i e7;split at h
      ·rename_i heq;subst heq;simp only [Option.some.injEq] at h;subst h;exact .ref _ _ _ _ _ b gu (aN b k) ao hle
      ·rename_i bM;split at h
       ·rename_i row cS;simp only [rZ] at h;obtain ⟨cs,hm,rfl⟩:=h;unfold rowOf at cS;simp only at cS;split at cS
        ·rename_i l aE;split at cS
         ·rename_i dG;simp only [Option.some.injEq] at cS;obtain ⟨ar,cur,e,aB,aH,aR,bj,bb,bf⟩:=ah.obj id _ aE;rw [k] at aB;cases aB;obtain ⟨dd,de⟩:=jO hm;(have bu:∀ o,o<cur.size→w.cell? ⟨b,o,none⟩=cur[o]?:=fun o aq=>by simp [World.cell?,aR,aq]);have facts:∀ (j:Nat) (y:I),cs[j]?=some y→∃ x c,off+j<cur.size∧cur[off+j]?=some c∧c.oneCell'=true∧x.plain=true∧bJ H lo id0 n d x=some y∧Rel J S w x c:=fun j y a0=>by
           obtain ⟨x,al,aQ⟩:=de j y a0;subst cS;have hY:=(sa.1 al).1;simp at hY;(have fk:off+j<l.length:=by omega);(have e8:off+j<cur.size:=by omega);have ak:l[off+j]?=some l[off+j]:=sk fk;have ae:cur[off+j]?=some cur[off+j]:=sC e8;obtain ⟨a',bk,bq,b7⟩:=bf (off+j) _ _ ak ae;rw [sr,sT,if_pos (by omega),sX,ak] at al;simp at al;subst al;exact ⟨_,_,e8,ae,bk,I.df _,aQ,bq.view a'⟩
          refine .ay cs len _ b off gu (fun j=>cur.getD (off+j) undef) (fun Ct=>BX ao Ct) hle (fun z=>yu z) (fun j y a0=>?_) (fun j y a0=>?_)
          ·obtain ⟨x,c,aw,c5,ad,aC,aQ,ef⟩:=facts j y a0;(have aO:cur.getD (off+j) undef=c:=by rw [ss,c5];rfl);rw [aO];exact ⟨.inr ⟨⟨id,by omega,bM,aH⟩,c,by rw [bu _ aw,c5]⟩,by rw [bu _ aw,c5],(hV aQ).1 aC,ad⟩
          ·obtain ⟨x,c,aw,c5,ad,aC,aQ,ef⟩:=facts j y a0;(have aO:cur.getD (off+j) undef=c:=by rw [ss,c5];rfl);simp only [aO];exact a_ x y c aQ ef
         ·simp at cS
        ·simp at cS
       ·simp at h
end
end Go.Proofs.YtfakoboiahbhaaaGreat.Ab


namespace Go.Proofs.YtfakoboiahbhaaaGreat.Ab
open Go
def fH (U:Nat→Option aI) (lo id0 n:Nat):Nat→Option aI:=fun b=>match U b with
 | some (.obj id)=>if id<lo then some (.obj id) else if id=id0 then some (.obj n) else none
 | some (.cell id j)=>if id<lo then some (.cell id j) else if id=id0 then some (.cell n j) else none
 | x=>x
section
variable {P:Program} {B N:Nat} {J:List Nat} {w:World} {H:List au} {U:Nat→Option aI} {S:Nat→Nat→Prop}
theorem gl.narrow {bn mR:Nat→Option aI} {cg:List Nat} {bH jj:Nat→Nat→Prop} {bT:World} (bK:Ext J cg) {id:Nat} {o:au} (h:gl U J S w id o) (af:gl bn cg bH bT id o)
  (cm:∀ b o,bH b o→jj b o) (av:∀ b l,bn b=some l→(l=.obj id∨∃ j,l=.cell id j)→mR b=some l∧∀ o,jj b o→bH b o):gl mR J jj bT id o:=by
 cases o with
 | dead=>trivial
 | map es clock =>
   obtain ⟨b,bw,aB,aH,aR,bj,bb,bf⟩:=h;obtain ⟨cI,BS,a',bk,bq,b7,dW,fO⟩:=af;rw [bK _ _ aB] at a';cases a';obtain ⟨aJ,aP⟩:=av b _ bk (.inl rfl);refine ⟨b,BS,aB,aJ,bq,b7,fun o aq=>dW o (aP o aq),fun j i k v x hu ae=>?_⟩;(have aw:j<bw.size:=by have:=(sa.1 hu).1;omega);obtain ⟨bR,b4,eC,fJ,mB⟩:=bf j i k v bw[j] hu (sC aw);obtain ⟨q1,aW,cz,dP,mF⟩:=fO j i k v x hu ae;exact ⟨q1,aW,(eC.narrow bK cz).mono (Ext.refl J) (fun b o h=>⟨cm b o h,rfl⟩),dP,(mB.narrow bK mF).mono (Ext.refl J) (fun b o h=>⟨cm b o h,rfl⟩)⟩
 | iter m s e t =>
   obtain ⟨b,ec,aB,aH,aR,bj,bb⟩:=h;obtain ⟨cI,F3,a',bk,bq,b7,dW⟩:=af;rw [bK _ _ aB] at a';cases a';rw [bK _ _ aR] at bq;cases bq;obtain ⟨aJ,aP⟩:=av b _ bk (.inl rfl);exact ⟨b,ec,aB,aJ,aR,b7,fun o aq=>dW o (aP o aq)⟩
 | cells l =>
   obtain ⟨b,cur,e,aB,aH,aR,bj,bb,bf⟩:=h;obtain ⟨cI,oF,ck,a',bk,bq,b7,dW,fO⟩:=af;rw [bK _ _ aB] at a';cases a';obtain ⟨aJ,aP⟩:=av b _ bk (.inl rfl);refine ⟨b,oF,ck,aB,aJ,bq,b7,fun o aq=>dW o (aP o aq),fun j u v hu ae=>?_⟩;(have aw:j<cur.size:=by have:=(sa.1 hu).1;omega);obtain ⟨bR,b4,eC,fJ⟩:=bf j u cur[j] hu (sC aw);obtain ⟨q1,aW,cz,dP⟩:=fO j u v hu ae;refine ⟨q1,aW,(eC.narrow bK cz).mono (Ext.refl J) (fun b o h=>⟨cm b o h,rfl⟩),?_⟩;have hm:=fun b ag=>av b (.cell id j) ag (.inr ⟨j,rfl⟩);unfold aV at dP ⊢;split at dP
   ·rcases dP with dP | ⟨ad,af,aG,a6,bL,bV,cN,cR,cV⟩
    ·exact .inl dP
    ·exact .inr ⟨(hm _ ad).1,af,aG,a6,bL,bV,cN,cR,fun o aq ai=>cV o aq ((hm _ ad).2 o ai)⟩
   ·simp [I.cT] at q1
   ·obtain ⟨ad,aS,a6,bL,bV,cN,ai,⟨cur,e,cR,cV,dy⟩,fh⟩:=dP;have gZ:=ai;rw [sy] at gZ;exact ⟨(hm _ ad).1,aS,a6,bL,bV,cN,ai,⟨cur,e,cR,cV,fun j u v hu ae=>⟨(dy j u v hu ae).1,AI (gZ u (sI hu)) (dy j u v hu ae).2⟩⟩,fun o ai=>fh o ((hm _ ad).2 o ai)⟩
   ·trivial
 | grow l gid z =>
   obtain ⟨b,cur,e,aB,aH,aR,bj,bb,bf,cap,c0,c'⟩:=h;obtain ⟨cI,oF,ck,a',bk,bq,b7,dW,fO,oC,mZ,m0⟩:=af;rw [bK _ _ aB] at a';cases a';rw [bK _ _ c0] at mZ;cases mZ;obtain ⟨aJ,aP⟩:=av b _ bk (.inl rfl);refine ⟨b,oF,ck,aB,aJ,bq,b7,fun o aq=>dW o (aP o aq),fun j u v hu ae=>?_,cap,c0,m0⟩;(have aw:j<cur.size:=by have:=(sa.1 hu).1;omega);obtain ⟨bR,b4,eC,fJ⟩:=bf j u cur[j] hu (sC aw);obtain ⟨q1,aW,cz,dP⟩:=fO j u v hu ae;refine ⟨q1,aW,(eC.narrow bK cz).mono (Ext.refl J) (fun b o h=>⟨cm b o h,rfl⟩),?_⟩;have hm:=fun b ag=>av b (.cell id j) ag (.inr ⟨j,rfl⟩);unfold aV at dP ⊢;split at dP
   ·rcases dP with dP | ⟨ad,af,aG,a6,bL,bV,cN,cR,cV⟩
    ·exact .inl dP
    ·exact .inr ⟨(hm _ ad).1,af,aG,a6,bL,bV,cN,cR,fun o aq ai=>cV o aq ((hm _ ad).2 o ai)⟩
   ·simp [I.cT] at q1
   ·obtain ⟨ad,aS,a6,bL,bV,cN,ai,⟨cur,e,cR,cV,dy⟩,fh⟩:=dP;have gZ:=ai;rw [sy] at gZ;exact ⟨(hm _ ad).1,aS,a6,bL,bV,cN,ai,⟨cur,e,cR,cV,fun j u v hu ae=>⟨(dy j u v hu ae).1,AI (gZ u (sI hu)) (dy j u v hu ae).2⟩⟩,fun o ai=>fh o ((hm _ ad).2 o ai)⟩
   ·trivial
 | loop st cF fn T params assign body jo =>
   obtain ⟨al,a0,b,L,aB,aH,aR,bj,bb,bf,c0,c',dD⟩:=h;obtain ⟨_,_,cI,iq,a',bk,bq,b7,dW,fO,mZ,m0,BH⟩:=af;rw [bK _ _ aB] at a';cases a';refine ⟨al,a0,b,iq,aB,(av b _ bk (.inl rfl)).1,bq,b7,dW,fO,mZ,fun i u v hu ae=>?_,BH⟩;(have aw:i<L.tmps.size:=by have:=(sa.1 hu).1;omega);exact ⟨(m0 i u v hu ae).1,(((c' i u L.tmps[i] hu (sC aw)).2).narrow bK (m0 i u v hu ae).2).mono (Ext.refl J) (fun b o h=>⟨cm b o h,rfl⟩)⟩
theorem nH {lo id0 n b:Nat} {l:aI} (h:U b=some l) (ak:∀ id,(l=.obj id∨∃ j,l=.cell id j)→id<lo):fH U lo id0 n b=some l:=by
 unfold fH;rw [h];cases l with
 | obj id=>simp [ak id (.inl rfl)]
 | cell id j=>simp [ak id (.inr ⟨j,rfl⟩)]
 | _=>rfl
theorem DC {lo id0 n b:Nat} (h:U b=none):fH U lo id0 n b=none:=by simp [fH,h]
theorem oQ {bn:Nat→Option aI} {cg:List Nat} {bH:Nat→Nat→Prop} {bT:World} {a2:List au} (ah:aL B U J S w H) (bK:Ext J cg) (aA:bg U S w bn bH bT) (cp:aL B bn cg bH bT a2)
  (jK:∀ id,id<H.length→a2[id]?=H[id]?) (id0 n:Nat) :
  bg U S w (fH bn H.length id0 n) (gk bn bH bT H.length id0) bT∧aL B (fH bn H.length id0 n) J (gk bn bH bT H.length id0) bT H:=by
 have aN:∀ b,fH bn H.length id0 n b≠none→bn b≠none:=fun b h aS=>h (DC aS);refine ⟨⟨aA.os,aA.tape,aA.output,aA.size,aA.cD,fun b o h=>⟨.inl (aA.set b o h).1,(aA.set b o h).2⟩,fun b o h=>?_,fun b h=>aA.own b (aN b h)⟩,⟨ah.cE,fun id o aq=>?_,fun b o h=>?_,fun b l ag=>?_,cp.cX⟩⟩
 ·rcases h with h | ⟨⟨id,_,_,h⟩,_⟩
  ·exact aA.fresh b o h
  ·rcases aA.own b (by simp [h]) with ad | ad
   ·exact .inr (.inl ad)
   ·exact .inr (.inr ad)
 ·have aU:=(sa.1 aq).1;have pz:a2[id]?=some o:=by rw [jK id aU];exact aq
  refine (ah.obj id o aq).narrow bK (cp.obj id o pz) (fun b o h=>.inl h) fun b l ag ak=>⟨nH ag fun bx dz=>?_,fun o h=>?_⟩
  ·have:bx=id:=by
    rcases ak with rfl | ⟨j,rfl⟩ <;> rcases dz with h | ⟨y7,h⟩ <;> cases h <;> rfl
   omega
  ·rcases h with h | ⟨⟨bx,ad,_,h⟩,_⟩
   ·exact h
   ·rw [ag] at h;rcases ak with rfl | ⟨j,rfl⟩
    ·cases h;omega
    ·cases h
 ·rcases h with h | ⟨_,h⟩
  ·exact cp.cf b o h
  ·exact h
 ·cases h:bn b with
  | none=>simp [fH,h] at ag
  | some l'=>exact cp.base b l' h
theorem kk {cg gh:List Nat} {bT:World} {bn mR:Nat→Option aI} {bH jj:Nat→Nat→Prop} {l l':aI} (fX:∀ b,bn b=some l→mR b=some l'∧∀ o,jj b o→bH b o) {a2:List au} {lo id0 n d:Nat} {u r:I} {v:Value}
  (b9:∀ (d:Nat) (u r:I) (v:Value),bJ a2 lo id0 n d u=some r→Rel cg bH bT u v→Rel gh jj bT r v)
  (h:bJ a2 lo id0 n d u=some r) (aq:aV bn cg bH bT l u v):aV mR gh jj bT l' r v:=by
 by_cases aC:u.plain=true
 ·exact aV.b3 ((hV h).1 aC)
 ·cases d with
  | zero=>simp [bJ] at h
  | succ d =>
    obtain ⟨cells,len,c,rfl⟩:∃ cells len c,u=.ay cells len c:=by
     cases u <;> first | exact ⟨_,_,_,rfl⟩ | exact absurd rfl aC | simp [bJ] at h
    simp only [bJ,rZ] at h;obtain ⟨cs,hm,rfl⟩:=h;obtain ⟨dd,de⟩:=jO hm;cases c with
    | shared=>exact absurd rfl aC
    | full=>exact absurd rfl aC
    | own z =>
      cases v with
      | slice aa m gu =>
       cases aa with
       | none=>trivial
       | some a =>
        simp only [aV] at aq ⊢;rcases aq with ⟨ad,af,aG⟩ | ⟨ad,af,aG,a6,bL,bV,cN,cR,cV⟩
        ·subst aG;simp [eb] at hm;subst hm;exact .inl ⟨ad,af,rfl⟩
        ·exact .inr ⟨(fX _ ad).1,af,aG,a6,bL,bV,by omega,cR,fun o aq ai=>cV o (by omega) ((fX _ ad).2 o ai)⟩
      | _=>trivial
    | uniq z =>
      cases v with
      | slice aa m gu =>
       cases aa with
       | none=>trivial
       | some a =>
        simp only [aV] at aq ⊢;rcases aq with ⟨ad,af,aG⟩ | ⟨ad,af,a6,bL,bV,cN,⟨cur,e,cR,cV,dy⟩,fh⟩
        ·subst aG;simp [eb] at hm;subst hm;exact .inl ⟨ad,af,rfl⟩
        ·refine .inr ⟨(fX _ ad).1,af,a6,bL,bV,by omega,⟨cur,e,cR,cV,fun j y c a0 ao=>?_⟩,fun o ai=>fh o ((fX _ ad).2 o ai)⟩;obtain ⟨x,al,aQ⟩:=de j y a0;obtain ⟨q1,aW,cz⟩:=dy j x c al ao;exact ⟨(hV aQ).1 q1,aW,b9 d x y c aQ cz⟩
      | _=>trivial
theorem xi (ah:aL B U J S w H) {a2:List au} {r v:I} {x:Value} {bT:World} (jK:∀ id,id<H.length→a2[id]?=H[id]?) {n d:Nat} (aQ:bJ a2 H.length a2.length n d r=some v)
  (aC:a1 B U J S w a2 r x bT):a1 B U J S w H v x bT:=by
 obtain ⟨bn,cg,bH,bK,aA,cp,aj,aq⟩:=aC;obtain ⟨dE,aG⟩:=oQ ah bK aA cp jK a2.length n
 have b9:=fun d u r v=>lH (gh:=J) (id0:=a2.length) (n:=n) cp (lo:=H.length) (fun id b aU ag=>by
   (have hZ:id<J.length:=by rw [ah.cE];exact aU);have al:=sk hZ;rw [bK _ _ al] at ag;cases ag;exact al) (fun b ag=>by
   have:=(sa.1 ag).1;rw [cp.cE] at this;omega) d u r v
 refine ⟨_,J,_,Ext.refl J,dE,aG,b9 d r v x aQ aj,kk (l:=.res) (fun b ag=>⟨nH ag (fun id h=>by rcases h with h | ⟨j,h⟩ <;> cases h),fun o h=>?_⟩) b9 aQ aq⟩;rcases h with h | ⟨⟨id,_,_,h⟩,_⟩
 ·exact h
 ·rw [ag] at h;cases h
theorem D7 (ah:aL B U J S w H) {a2:List au} {r v:I} {x:Value} {bT:World} (jK:∀ id,id<H.length→a2[id]?=H[id]?) {id0 d gQ:Nat} {l l':List I} (e7:H.length≤id0)
  (aE:a2[id0]?=some (.cells l)) (ak:eb (bJ a2 H.length id0 H.length gQ) l=some l') (aQ:bJ a2 H.length id0 H.length d r=some v)
  (aC:a1 B U J S w a2 r x bT):a1 B U J S w (H++[.cells l']) v x bT:=by
 obtain ⟨bn,cg,bH,bK,aA,cp,aj,aq⟩:=aC;obtain ⟨dE,aG⟩:=oQ ah bK aA cp jK id0 H.length;obtain ⟨dx,cur,e,aB,aH,aR,bj,bb,bf⟩:=cp.obj id0 _ aE;have mb:Ext J (J++[dx]):=Ext.append J [dx]
 have b9:=fun d u r v=>lH (gh:=J++[dx]) (id0:=id0) (n:=H.length) cp (lo:=H.length) (fun id b aU ag=>by
   (have hZ:id<J.length:=by rw [ah.cE];exact aU);have al:=sk hZ;rw [bK _ _ al] at ag;cases ag;exact mb _ _ al) (fun b ag=>by
   rw [aB] at ag;cases ag;exact Ext.last ah dx) d u r v
 obtain ⟨dd,de⟩:=jO ak;have pf:∀ id,(aI.obj id0≠.obj id)∨id=id0:=fun id=>by
  by_cases h:id=id0
  ·exact .inr h
  ·exact .inl fun e=>h (by cases e;rfl)
 have kt:∀ b,bn b=some (.obj id0)→fH bn H.length id0 H.length b=some (.obj H.length):=fun b ag=>by
  simp only [fH,ag];simp;omega
 have CF:∀ b j,bn b=some (.cell id0 j)→fH bn H.length id0 H.length b=some (.cell H.length j):=fun b j ag=>by
  simp only [fH,ag];simp;omega
 have cm:∀ b l,bn b=some l→(∀ id,l≠.obj id∨id=id0)→∀ o,gk bn bH bT H.length id0 b o→bH b o:=fun b l ag bM o h=>by
  rcases h with h | ⟨⟨id,_,aN,h⟩,_⟩
  ·exact h
  ·rw [ag] at h;cases h;rcases bM id with h | h
   ·exact absurd rfl h
   ·exact absurd h aN
 refine ⟨_,J++[dx],_,mb,dE,aG.push dx ⟨dx,cur,e,Ext.last ah dx,kt dx aH,aR,by omega,fun o h=>bb o (cm dx _ aH pf o h),fun j u c hu ao=>?_⟩,
  b9 d r v x aQ aj,kk (l:=.res) (fun b ag=>⟨nH ag (fun id h=>by rcases h with h | ⟨j,h⟩ <;> cases h),cm b _ ag (fun id=>.inl (by simp))⟩) b9 aQ aq⟩
 obtain ⟨y,a0,pe⟩:=de j u hu;obtain ⟨a',bk,bq,b7⟩:=bf j y c a0 ao;exact ⟨(hV pe).2 a',bk,b9 gQ y u c pe bq,kk (l:=.cell id0 j) (fun b ag=>⟨CF b j ag,cm b _ ag (fun id=>.inl (by simp))⟩) b9 pe b7⟩
theorem mapM_some {f:I→Option I}:∀ {xs ys:List (Nat×I×I)},mapM f xs=some ys→ys.length=xs.length∧∀ (j i:Nat) (k v:I),ys[j]?=some (i,k,v)→∃ dc v0,xs[j]?=some (i,dc,v0)∧f dc=some k∧f v0=some v
 | [],ys,h=>by simp [mapM] at h;subst h;simp
 | (i0,dc,v0)::xs,ys,h=>by
   simp only [mapM] at h;split at h
   ·rename_i aJ v1 av ae;simp only [rZ] at h;obtain ⟨ys,h,rfl⟩:=h;obtain ⟨ad,af⟩:=mapM_some h;refine ⟨by simp [ad],fun j i k v aw=>?_⟩;cases j with
    | zero=>simp at aw;obtain ⟨rfl,rfl,rfl⟩:=aw;exact ⟨dc,v0,rfl,av,ae⟩
    | succ j=>simpa using af j i k v (by simpa using aw)
   ·simp at h
theorem D8 (ah:aL B U J S w H) {a2:List au} {r v:I} {x:Value} {bT:World} (jK:∀ id,id<H.length→a2[id]?=H[id]?) {id0 d gQ:Nat} {es es':List (Nat×I×I)} {clock:Nat} (e7:H.length≤id0)
  (aE:a2[id0]?=some (.map es clock)) (ak:mapM (bJ a2 H.length id0 H.length gQ) es=some es') (aQ:bJ a2 H.length id0 H.length d r=some v)
  (aC:a1 B U J S w a2 r x bT):a1 B U J S w (H++[.map es' clock]) v x bT:=by
 obtain ⟨bn,cg,bH,bK,aA,cp,aj,aq⟩:=aC;obtain ⟨dE,aG⟩:=oQ ah bK aA cp jK id0 H.length;obtain ⟨dx,bw,aB,aH,aR,bj,bb,bf⟩:=cp.obj id0 _ aE;have mb:Ext J (J++[dx]):=Ext.append J [dx]
 have b9:=fun d u r v=>lH (gh:=J++[dx]) (id0:=id0) (n:=H.length) cp (lo:=H.length) (fun id b aU ag=>by
   (have hZ:id<J.length:=by rw [ah.cE];exact aU);have al:=sk hZ;rw [bK _ _ al] at ag;cases ag;exact mb _ _ al) (fun b ag=>by
   rw [aB] at ag;cases ag;exact Ext.last ah dx) d u r v
 obtain ⟨dd,de⟩:=mapM_some ak;have pf:∀ id,(aI.obj id0≠.obj id)∨id=id0:=fun id=>by
  by_cases h:id=id0
  ·exact .inr h
  ·exact .inl fun e=>h (by cases e;rfl)
 have kt:∀ b,bn b=some (.obj id0)→fH bn H.length id0 H.length b=some (.obj H.length):=fun b ag=>by
  simp only [fH,ag];simp;omega
 have cm:∀ b l,bn b=some l→(∀ id,l≠.obj id∨id=id0)→∀ o,gk bn bH bT H.length id0 b o→bH b o:=fun b l ag bM o h=>by
  rcases h with h | ⟨⟨id,_,aN,h⟩,_⟩
  ·exact h
  ·rw [ag] at h;cases h;rcases bM id with h | h
   ·exact absurd rfl h
   ·exact absurd h aN
 refine ⟨_,J++[dx],_,mb,dE,aG.push dx ⟨dx,bw,Ext.last ah dx,kt dx aH,aR,by omega,fun o h=>bb o (cm dx _ aH pf o h),fun j i k v c hu ao=>?_⟩,
  b9 d r v x aQ aj,kk (l:=.res) (fun b ag=>⟨nH ag (fun id h=>by rcases h with h | ⟨j,h⟩ <;> cases h),cm b _ ag (fun id=>.inl (by simp))⟩) b9 aQ aq⟩
 obtain ⟨dc,v0,a0,yE,kr⟩:=de j i k v hu;obtain ⟨a',bk,bq,b7,dW⟩:=bf j i dc v0 c a0 ao;exact ⟨a',(hV yE).1 bk,b9 gQ dc k _ yE bq,(hV kr).1 b7,b9 gQ v0 v _ kr dW⟩
theorem yf {u:I} (h:u.plain=true):u.gR.plain=true:=by
 unfold I.gR;split
 ·rfl
 ·exact h
theorem BR {u:I} (h:u.plain=true):u.cr.plain=true:=by
 unfold I.cr;split <;> first | rfl | exact h
theorem Rel.gR {u:I} {v:Value} (h:Rel J S w u v):Rel J S w u.gR v:=by
 unfold I.gR;split
 ·rename_i c n;cases h with
  | b1 _ a=>exact .b1 _ a
  | ay _ _ _ b o cap f ao hle hu k eL=>exact .ay _ _ _ b o cap f (by simp) hle (by simp) k eL
 ·exact h
theorem Rel.cr {u:I} {v:Value} (h:Rel J S w u v):Rel J S w u.cr v:=by
 unfold I.cr;split
 ·rename_i c n;cases h with
  | b1 _ a=>exact .b1 _ a
  | ay _ _ _ b o cap f ao hle hu k eL=>exact .ay _ _ _ b o cap f (by simp) hle (by simp) k eL
 ·cases h with
  | agg as vs l p one r =>
    refine .agg _ vs (by simpa using l) (fun u hu=>?_) one fun j u v hu ae=>?_
    ·obtain ⟨x,al,rfl⟩:=sm.1 hu;exact yf (p x al)
    ·rw [sr] at hu;simp only [rZ] at hu;obtain ⟨x,al,rfl⟩:=hu;exact (r j x v al ae).gR
 ·cases h with
  | tuple as vs l p r =>
    refine .tuple _ vs (by simpa using l) (fun u hu=>?_) fun j u v hu ae=>?_
    ·obtain ⟨x,al,rfl⟩:=sm.1 hu;exact yf (p x al)
    ·rw [sr] at hu;simp only [rZ] at hu;obtain ⟨x,al,rfl⟩:=hu;exact (r j x v al ae).gR
 ·exact h
theorem aV.cr {l:aI} {u:I} {v:Value} (h:aV U J S w l u v):aV U J S w l u.cr v:=by
 by_cases aC:u.plain=true
 ·exact aV.b3 (BR aC)
 ·have:u.cr=u:=by
   cases u <;> first | exact absurd rfl aC | skip
   ·rename_i c n k;cases k <;> first | rfl | exact absurd rfl aC
   ·rfl
   ·rfl
  rw [this];exact h
theorem a9.cr {bz:Nat→aI} {T:List I} {bd:List Value} (h:a9 bz U J S w T bd):a9 bz U J S w (T.map I.cr) bd :=
 ⟨by simpa using h.len,fun i u v hu ae=>by
  rw [sr] at hu;simp only [rZ] at hu;obtain ⟨x,al,rfl⟩:=hu;exact (h.rel i x v al ae).cr,fun i u v hu ae=>by
  rw [sr] at hu;simp only [rZ] at hu
  obtain ⟨x,al,rfl⟩:=hu;exact (h.own i x v al ae).cr⟩
theorem a1.cr {H':List au} {r:I} {v:Value} {w':World} (h:a1 B U J S w H' r v w'):a1 B U J S w H' r.cr v w':=by
 obtain ⟨bn,cg,bH,a,b,c,d,e⟩:=h;exact ⟨bn,cg,bH,a,b,c,d.cr,e.cr⟩
theorem Rel.pure (bZ:List Nat) {u:I} {v:Value} (h:Rel J S w u v):∀ {d:Nat},cq d u=true→Rel bZ S w u v:=by
 have all:∀ {d:Nat} {l:List I},l.all (cq d)=true→∀ {j:Nat} {u:I},l[j]?=some u→cq d u=true:=fun h j u hu=>by
  rw [sy] at h;exact h u (sI hu)
 induction h with
 | junk v=>intro d h;cases d <;> simp [cq] at h
 | bool b=>intros;exact .bool b
 | dn b=>intros;exact .dn b
 | int k n=>intros;exact .int k n
 | str s=>intros;exact .str s
 | eB=>intros;exact .eB
 | ptr id off b k=>intro d h;cases d <;> simp [cq] at h
 | bU cells b o f k eL a_ =>
   intro d h;cases d with
   | zero=>simp [cq] at h
   | succ d=>simp only [cq] at h;exact .bU cells b o f k fun j u aw=>a_ j u aw (all h aw)
 | b1 c a=>intros;exact .b1 c a
 | ay cells len c b o cap f ao hle hu k eL a_ =>
   intro d h;cases d with
   | zero=>simp [cq] at h
   | succ d=>simp only [cq] at h;exact .ay cells len c b o cap f ao hle hu k fun j u aw=>a_ j u aw (all h aw)
 | cK cells len z b o cap=>intros;exact .cK cells len z b o cap
 | raw=>intro d h;cases d <;> simp [cq] at h
 | cl=>intro d h;cases d <;> simp [cq] at h
 | ref id off len c sz b cap k ao hle=>intro d h;cases d <;> simp [cq] at h
 | func f as bs vs ws ad af bR b4 r1 r2 i1 i2 =>
   intro d h;cases d with
   | zero=>simp [cq] at h
   | succ d =>
     simp only [cq,sv] at h;exact .func f as bs vs ws ad af bR b4 (fun j u v hu ae=>i1 j u v hu ae (all h.1 hu)) (fun j u v hu ae=>i2 j u v hu ae (all h.2 hu))
 | yield id b k=>intro d h;cases d <;> simp [cq] at h
 | map id b k=>intro d h;cases d <;> simp [cq] at h
 | agg as vs k p one r a_ =>
   intro d h;cases d with
   | zero=>simp [cq] at h
   | succ d=>simp only [cq] at h;exact .agg as vs k p one fun j u v hu ae=>a_ j u v hu ae (all h hu)
 | tuple as vs k p r a_ =>
   intro d h;cases d with
   | zero=>simp [cq] at h
   | succ d=>simp only [cq] at h;exact .tuple as vs k p fun j u v hu ae=>a_ j u v hu ae (all h hu)
def dU (U:Nat→Option aI):Nat→Option aI:=fun b=>match U b with
 | some (.arg i)=>some (.arg i)
 | _=>none
theorem x6 {b i:Nat} (h:U b=some (.arg i)):dU U b=some (.arg i):=by simp [dU,h]
theorem lu {b:Nat} {l:aI} (h:dU U b=some l):∃ i,U b=some (.arg i)∧l=.arg i:=by
 unfold dU at h;split at h
 ·rename_i i hi;cases h;exact ⟨i,hi,rfl⟩
 ·cases h
theorem aV.pure (bZ:List Nat) {i:Nat} {u:I} {v:Value} {d:Nat} (aC:cq d u=true) (h:aV U J S w (.arg i) u v):aV (dU U) bZ S w (.arg i) u v:=by
 unfold aV at h ⊢;split at h
 ·rcases h with h | ⟨ad,h⟩
  ·exact .inl h
  ·exact .inr ⟨x6 ad,h⟩
 ·rename_i cells len z a n cap;cases d with
  | zero=>simp [cq] at aC
  | succ d =>
    simp only [cq] at aC;rcases h with h | ⟨ad,af,aG,a6,bL,bV,⟨cur,e,cN,cR,cV⟩,dy⟩
    ·exact .inl h
    ·refine .inr ⟨x6 ad,af,aG,a6,bL,bV,⟨cur,e,cN,cR,fun j u v hu ae=>?_⟩,dy⟩;obtain ⟨bR,b4,eC⟩:=cV j u v hu ae;rw [sy] at aC;exact ⟨bR,b4,eC.pure bZ (aC u (sI hu))⟩
 ·cases d <;> simp [cq] at aC
 ·trivial
theorem a9.pure {T:List I} {bd:List Value} (h:a9 (fun i=>.arg i) U J S w T bd) (aC:T.all (cq 8)=true):a9 (fun i=>.arg i) (dU U) [] S w T bd:=by
 rw [sy] at aC;exact ⟨h.len,fun i u v hu ae=>(h.rel i u v hu ae).pure [] (aC u (sI hu)),fun i u v hu ae=>(h.own i u v hu ae).pure [] (aC u (sI hu))⟩
theorem yT (ah:aL B U J S w H):aL B (dU U) [] S w [] :=
 ⟨rfl,fun id o h=>by simp at h,ah.cf,fun b l ag=>by obtain ⟨i,h,_⟩:=lu ag;exact ah.base b _ h,ah.cX⟩
theorem zK (ah:aL B U J S w H) {a2:List au} {r v:I} {x:Value} {bT:World} {n d:Nat} (aQ:bJ a2 0 a2.length n d r=some v)
  (aC:a1 B (dU U) [] S w a2 r x bT):a1 B U J S w H v x bT:=by
 classical
 obtain ⟨bn,cg,bH,bK,aA,cp,aj,aq⟩:=aC
 let az:Nat→Option aI:=fun b=>match U b with
  | some (.obj id)=>some (.obj id)
  | some (.cell id j)=>some (.cell id j)
  | _=>match bn b with
    | some (.obj _)=>none
    | some (.cell _ _)=>none
    | l=>l
 have jI:∀ b l,U b=some l→((∃ id,l=.obj id)∨∃ id j,l=.cell id j)→az b=some l∧bn b=none∧b<w.heap.size:=fun b l ag ak=>by
  have aU:=(ah.base b l ag).2;have af:bn b=none:=by
   cases h:bn b with
   | none=>rfl
   | some l' =>
     rcases aA.own b (by simp [h]) with ad | ad
     ·exfalso;apply ad;rcases ak with ⟨id,rfl⟩ | ⟨id,j,rfl⟩ <;> simp [dU,ag]
     ·omega
  refine ⟨?_,af,aU⟩;rcases ak with ⟨id,rfl⟩ | ⟨id,j,rfl⟩ <;> simp [az,ag]
 have pE:∀ b,az b≠none→U b≠none∨bn b≠none:=fun b h=>by
  by_cases ad:U b=none
  ·right;intro af;apply h;simp [az,ad,af]
  ·exact .inl ad
 have cd:∀ b,dU U b≠none→U b≠none:=fun b h aS=>h (by simp [dU,aS]);have oY:∀ b o,gk bn bH bT 0 a2.length b o→S b o∨U b≠none∨w.heap.size≤b:=fun b o h=>by
  rcases h with h | ⟨⟨id,_,_,h⟩,_⟩
  ·rcases aA.fresh b o h with h | h | h
   ·exact .inl h
   ·exact .inr (.inl (cd b h))
   ·exact .inr (.inr h)
  ·rcases aA.own b (by simp [h]) with ad | ad
   ·exact .inr (.inl (cd b ad))
   ·exact .inr (.inr ad)
 have lD:bg U S w az (gk bn bH bT 0 a2.length) bT :=
  ⟨aA.os,aA.tape,aA.output,aA.size,fun b ag aN=>aA.cD b ag (by simp [dU,aN]),fun b o h=>⟨.inl (aA.set b o h).1,(aA.set b o h).2⟩,oY,fun b h=>by
   rcases pE b h with h | h
   ·exact .inl h
   ·rcases aA.own b h with h | h
    ·exact .inl (cd b h)
    ·exact .inr h⟩
 have b9:=fun d u r v=>lH (gh:=J) (id0:=a2.length) (n:=n) cp (lo:=0) (fun id b aU ag=>by omega) (fun b ag=>by
   have:=(sa.1 ag).1;rw [cp.cE] at this;omega) d u r v
 refine ⟨az,J,_,Ext.refl J,lD,ah.frame lD (fun b l ag ak=>?_) (fun b o h=>?_) (fun b l ag=>?_),b9 d r v x aQ aj,kk (l:=.res) (fun b ag=>?_) b9 aQ aq⟩
 ·obtain ⟨ad,af,aG⟩:=jI b l ag ak;have aN:dU U b=none:=by rcases ak with ⟨id,rfl⟩ | ⟨id,j,rfl⟩ <;> simp [dU,ag]
  refine ⟨ad,aA.cD b aG aN,fun o h=>?_⟩;rcases h with h | ⟨⟨id,_,_,h⟩,_⟩
  ·rcases aA.fresh b o h with h | h | h
   ·exact h
   ·exact absurd aN h
   ·omega
  ·rw [af] at h;cases h
 ·rcases h with h | ⟨_,h⟩
  ·exact cp.cf b o h
  ·exact h
 ·by_cases h:U b=none
  ·(have bp:bn b≠none:=fun af=>by simp [az,h,af] at ag);cases af:bn b with
   | none=>exact absurd af bp
   | some l'=>exact cp.base b l' af
  ·cases ad:U b with
   | none=>exact absurd ad h
   | some l'=>obtain ⟨p,q⟩:=ah.base b l' ad;exact ⟨p,uU q aA.size⟩
 ·refine ⟨?_,fun o h=>?_⟩
  ·cases ad:U b with
   | none=>simp [az,ad,ag]
   | some l =>
     cases l with
     | obj id=>have:=(jI b _ ad (.inl ⟨id,rfl⟩)).2.1;rw [ag] at this;cases this
     | cell id j=>have:=(jI b _ ad (.inr ⟨id,j,rfl⟩)).2.1;rw [ag] at this;cases this
     | _=>simp [az,ad,ag]
  ·rcases h with h | ⟨⟨id,_,_,h⟩,_⟩
   ·exact h
   ·rw [ag] at h;cases h
def fN (U:Nat→Option aI) (S:Nat→Nat→Prop) (w:World):Nat→Nat→Prop:=fun b o=>S b o∨((∃ id,U b=some (.obj id))∧∃ v,w.cell? ⟨b,o,none⟩=some v)
theorem AJ {J bZ:List Nat} {S S':Nat→Nat→Prop} {u:I} {v:Value} (h:gG u=true) (aj:Rel J S w u v):Rel bZ S' w u v:=by
 cases aj <;> simp [gG] at h
 ·exact .bool _
 ·exact .int _ _
 ·exact .str _
theorem EU {bZ:List Nat} {S':Nat→Nat→Prop} {u:I} {v:Value} (h:gb u=true) (aj:Rel J S w u v):Rel bZ S' w u v:=by
 cases aj with
 | bool b=>exact .bool b
 | dn b=>simp [gb] at h
 | int k n=>exact .int k n
 | str s=>exact .str s
 | tuple as vs k p q =>
   simp only [gb,sy] at h;exact .tuple as vs k p fun j u v hu ae=>AJ (h u (sI hu)) (q j u v hu ae)
 | cK cells len z b o cap=>exact .cK _ _ _ _ _ _
 | b1 c a =>
   exact .b1 _ _
 | ay cells len c b o cap f ao hle hu k eL=>cases c <;> simp [gb] at h;exact absurd rfl (hu _)
 | _=>simp [gb] at h
theorem ET {U az:Nat→Option aI} {bZ:List Nat} {S S':Nat→Nat→Prop} {u:I} {v:Value} (h:gb u=true) (aq:aV U J S w .res u v) (fX:∀ b,U b=some .res→az b=some .res∧∀ o,S' b o→S b o):aV az bZ S' w .res u v:=by
 unfold aV at aq ⊢;split at aq
 ·simp [gb] at h
 ·simp only [gb,sy] at h;rcases aq with aq | ⟨ad,aS,a6,bL,bV,cN,⟨cur,e,cR,cV,dy⟩,fh⟩
  ·exact .inl aq
  ·obtain ⟨aJ,aP⟩:=fX _ ad;exact .inr ⟨aJ,aS,a6,bL,bV,cN,⟨cur,e,cR,cV,fun j u v hu ae=>⟨(dy j u v hu ae).1,(dy j u v hu ae).2.1,AJ (h u (sI hu)) (dy j u v hu ae).2.2⟩⟩,fun o ai=>fh o (aP o ai)⟩
 ·simp [gb] at h
 ·trivial
theorem AN {u:I} (h:u.plain=true):(j6 H u).plain=true:=by
 unfold j6;split
 ·split <;> rfl
 ·exact h
theorem AO (ah:aL B U J S w H) {u:I} {v:Value} (aj:Rel J S w u v):Rel J (fN U S w) w (j6 H u) v:=by
 have hm:Rel J (fN U S w) w u v:=aj.mono (Ext.refl J) fun b o h=>⟨.inl h,rfl⟩;cases aj <;> try exact hm
 case ref id off len cap sz b gu ag ao hle =>
  unfold j6;simp only;split
  ·rename_i row cS;unfold rowOf at cS;simp only at cS;split at cS
   ·rename_i l aE;split at cS
    ·rename_i dG;simp only [Option.some.injEq] at cS;obtain ⟨ar,cur,e,aB,aH,aR,bj,bb,bf⟩:=ah.obj id _ aE;rw [ag] at aB;cases aB;(have bu:∀ o,o<cur.size→w.cell? ⟨b,o,none⟩=cur[o]?:=fun o aq=>by simp [World.cell?,aR,aq]);have facts:∀ (j:Nat) (y:I),row[j]?=some y→∃ c,off+j<cur.size∧cur[off+j]?=some c∧c.oneCell'=true∧y.plain=true∧Rel J S w y c:=fun j y a0=>by
      subst cS;have hY:=(sa.1 a0).1;simp at hY;(have fk:off+j<l.length:=by omega);(have e8:off+j<cur.size:=by omega);have ak:l[off+j]?=some l[off+j]:=sk fk;have ae:cur[off+j]?=some cur[off+j]:=sC e8;obtain ⟨a',bk,bq,b7⟩:=bf (off+j) _ _ ak ae;rw [sr,sT,if_pos (by omega),sX,ak] at a0;simp at a0;subst a0;exact ⟨_,e8,ae,bk,I.df _,bq.view a'⟩
     refine .ay row len .shared b off gu (fun j=>cur.getD (off+j) undef) (by simp) hle (by simp) (fun j y a0=>?_) (fun j y a0=>?_)
     ·obtain ⟨c,aw,c5,ad,aC,ef⟩:=facts j y a0;(have aO:cur.getD (off+j) undef=c:=by rw [ss,c5];rfl);rw [aO];exact ⟨.inr ⟨⟨id,aH⟩,c,by rw [bu _ aw,c5]⟩,by rw [bu _ aw,c5],aC,ad⟩
     ·obtain ⟨c,aw,c5,ad,aC,ef⟩:=facts j y a0;(have aO:cur.getD (off+j) undef=c:=by rw [ss,c5];rfl);simp only [aO];exact ef.mono (Ext.refl J) fun b o h=>⟨.inl h,rfl⟩
    ·cases cS
   ·cases cS
  ·exact hm
theorem xM (ah:aL B U J S w H) {u:I} {v:Value} (aj:Rel J S w u v):Rel J (fN U S w) w (hF H u) v:=by
 have hm:Rel J (fN U S w) w u v:=aj.mono (Ext.refl J) fun b o h=>⟨.inl h,rfl⟩;have jw:=AO ah aj;cases aj <;> first | exact hm | exact jw | skip
 rename_i id off b ag;unfold hF;simp only;split
 ·rename_i l aE;obtain ⟨ar,cur,e,aB,aH,aR,bj,bb,bf⟩:=ah.obj id _ aE;rw [ag] at aB;cases aB;have bu:∀ o,o<cur.size→w.cell? ⟨b,o,none⟩=cur[o]?:=fun o aq=>by simp [World.cell?,aR,aq]
  have facts:∀ (j:Nat) (y:I),(((l.drop off).map I.view).map (j6 H))[j]?=some y→∃ c,off+j<cur.size∧cur[off+j]?=some c∧c.oneCell'=true∧y.plain=true∧Rel J (fN U S w) w y c:=fun j y a0=>by
   have hY:=(sa.1 a0).1;simp at hY;(have fk:off+j<l.length:=by omega);(have e8:off+j<cur.size:=by omega);have ak:l[off+j]?=some l[off+j]:=sk fk;have ae:cur[off+j]?=some cur[off+j]:=sC e8;obtain ⟨a',bk,bq,b7⟩:=bf (off+j) _ _ ak ae;rw [sr,sr,sX,ak] at a0;simp at a0;subst a0;exact ⟨_,e8,ae,bk,AN (I.df _),AO ah (bq.view a')⟩
  refine .bU _ b off (fun j=>cur.getD (off+j) undef) (fun j y a0=>?_) (fun j y a0=>?_)
  ·obtain ⟨c,aw,c5,ad,aC,ef⟩:=facts j y a0;(have aO:cur.getD (off+j) undef=c:=by rw [ss,c5];rfl);rw [aO];exact ⟨.inr ⟨⟨id,aH⟩,c,by rw [bu _ aw,c5]⟩,by rw [bu _ aw,c5],aC,ad⟩
  ·obtain ⟨c,aw,c5,ad,aC,ef⟩:=facts j y a0;(have aO:cur.getD (off+j) undef=c:=by rw [ss,c5];rfl);simp only [aO];exact ef
 ·exact hm
theorem n9 {u:I} (h:u.plain=true):(hF H u).plain=true:=by
 unfold hF;split
 ·split <;> rfl
 ·exact AN rfl
 ·exact h
theorem E2 (ah:aL B U J S w H) {u:I} {v:Value} (aj:Rel J S w u v):Rel J (fN U S w) w (ij H u) v:=by
 have hm:Rel J (fN U S w) w u v:=aj.mono (Ext.refl J) fun b o h=>⟨.inl h,rfl⟩;have ns:=xM ah aj;cases aj <;> try exact hm
 ·exact ns
 ·exact ns
 ·rename_i f as bs vs ws ad af bR b4 r1 r2;refine .func f _ _ vs ws (by simpa using ad) (by simpa using af) (fun u hu=>?_) (fun u hu=>?_) (fun j u v hu ae=>?_) (fun j u v hu ae=>?_)
  ·obtain ⟨x,al,rfl⟩:=sm.1 hu;exact n9 (bR x al)
  ·obtain ⟨x,al,rfl⟩:=sm.1 hu;exact n9 (b4 x al)
  ·rw [sr] at hu;simp only [rZ] at hu;obtain ⟨x,al,rfl⟩:=hu;exact xM ah (r1 j x v al ae)
  ·rw [sr] at hu;simp only [rZ] at hu;obtain ⟨x,al,rfl⟩:=hu;exact xM ah (r2 j x v al ae)
theorem E1 {i:Nat} {u:I} {v:Value} (h:aV U J S w (.arg i) u v):aV U J (fN U S w) w (.arg i) (ij H u) v:=by
 have cm:∀ b,U b=some (.arg i)→∀ o,fN U S w b o→S b o:=fun b ag o h=>by
  rcases h with h | ⟨⟨id,h⟩,_⟩
  ·exact h
  ·rw [ag] at h;cases h
 have hm:aV U J (fN U S w) w (.arg i) u v:=h.mono (Ext.refl J) (fun b o h=>⟨.inl h,rfl⟩) fun b ag=>⟨ag,rfl,cm b ag⟩;cases u <;> try exact hm
 ·rename_i id off;exact aV.b3 (show (hF H (.ptr id off)).plain=true from n9 rfl)
 ·rename_i id off len cap sz;exact aV.b3 (show (hF H (.ref id off len cap sz)).plain=true from n9 rfl)
theorem FO (ah:aL B U J S w H) {T:List I} {bd:List Value} (h:a9 (fun i=>.arg i) U J S w T bd):a9 (fun i=>.arg i) U J (fN U S w) w (T.map (ij H)) bd :=
 ⟨by simpa using h.len,fun i u v hu ae=>by
  rw [sr] at hu;simp only [rZ] at hu;obtain ⟨x,al,rfl⟩:=hu;exact E2 ah (h.rel i x v al ae),fun i u v hu ae=>by
  rw [sr] at hu;simp only [rZ] at hu
  obtain ⟨x,al,rfl⟩:=hu;exact E1 (h.own i x v al ae)⟩
theorem C2 (ah:aL B U J S w H):aL B (dU U) [] (fN U S w) w [] :=
 ⟨rfl,fun id o h=>by simp at h,fun b o h=>by
  rcases h with h | ⟨_,h⟩
  ·exact ah.cf b o h
  ·exact h,fun b l ag=>by obtain ⟨i,h,_⟩:=lu ag;exact ah.base b _ h,ah.cX⟩
theorem D9 (ah:aL B U J S w H) {a2:List au} {r v:I} {x:Value} {bT:World} {n d:Nat} (aQ:bJ a2 0 a2.length n d r=some v)
  (ai:gb v=true) (aC:a1 B (dU U) [] (fN U S w) w a2 r x bT):a1 B U J S w H v x bT:=by
 classical
 obtain ⟨bn,cg,bH,bK,aA,cp,aj,aq⟩:=aC
 let az:Nat→Option aI:=fun b=>match U b with
  | some (.obj id)=>some (.obj id)
  | some (.cell id j)=>some (.cell id j)
  | _=>match bn b with
    | some (.obj _)=>none
    | some (.cell _ _)=>none
    | l=>l
 have jI:∀ b l,U b=some l→((∃ id,l=.obj id)∨∃ id j,l=.cell id j)→az b=some l∧bn b=none∧b<w.heap.size:=fun b l ag ak=>by
  have aU:=(ah.base b l ag).2;have af:bn b=none:=by
   cases h:bn b with
   | none=>rfl
   | some l' =>
     rcases aA.own b (by simp [h]) with ad | ad
     ·exfalso;apply ad;rcases ak with ⟨id,rfl⟩ | ⟨id,j,rfl⟩ <;> simp [dU,ag]
     ·omega
  refine ⟨?_,af,aU⟩;rcases ak with ⟨id,rfl⟩ | ⟨id,j,rfl⟩ <;> simp [az,ag]
 have pE:∀ b,az b≠none→U b≠none∨bn b≠none:=fun b h=>by
  by_cases ad:U b=none
  ·right;intro af;apply h;simp [az,ad,af]
  ·exact .inl ad
 have cd:∀ b,dU U b≠none→U b≠none:=fun b h aS=>h (by simp [dU,aS])
 let S':Nat→Nat→Prop:=fun b o=>S b o∨(gk bn bH bT 0 a2.length b o∧∀ id,U b≠some (.obj id))
 have oY:∀ b o,S' b o→S b o∨U b≠none∨w.heap.size≤b:=fun b o h=>by
  rcases h with h | ⟨h | ⟨⟨id,_,_,h⟩,_⟩,fU⟩
  ·exact .inl h
  ·rcases aA.fresh b o h with (h | ⟨⟨id,h⟩,_⟩) | h | h
   ·exact .inl h
   ·exact absurd h (fU id)
   ·exact .inr (.inl (cd b h))
   ·exact .inr (.inr h)
  ·rcases aA.own b (by simp [h]) with ad | ad
   ·exact .inr (.inl (cd b ad))
   ·exact .inr (.inr ad)
 have lD:bg U S w az S' bT :=
  ⟨aA.os,aA.tape,aA.output,aA.size,fun b ag aN=>aA.cD b ag (by simp [dU,aN]),fun b o h=>⟨.inl h,(aA.set b o (.inl h)).2⟩,oY,fun b h=>by
   rcases pE b h with h | h
   ·exact .inl h
   ·rcases aA.own b h with h | h
    ·exact .inl (cd b h)
    ·exact .inr h⟩
 have b9:=fun d u r v=>lH (gh:=J) (id0:=a2.length) (n:=n) cp (lo:=0) (fun id b aU ag=>by omega) (fun b ag=>by
   have:=(sa.1 ag).1;rw [cp.cE] at this;omega) d u r v
 have CZ:=b9 d r v x aQ aj
 have np:aV (fun b=>match bn b with | some .res=>some .res | _=>none) J (gk bn bH bT 0 a2.length) bT .res v x:=kk (l:=.res) (fun b ag=>⟨by simp [ag],fun o h=>by
  rcases h with h | ⟨⟨id,_,_,h⟩,_⟩
  ·exact h
  ·rw [ag] at h;cases h⟩) b9 aQ aq
 refine ⟨az,J,S',Ext.refl J,lD,ah.frame lD (fun b l ag ak=>?_) (fun b o h=>?_) (fun b l ag=>?_),EU ai CZ,ET ai np fun b ag=>?_⟩
 ·obtain ⟨ad,af,aG⟩:=jI b l ag ak;have aN:dU U b=none:=by rcases ak with ⟨id,rfl⟩ | ⟨id,j,rfl⟩ <;> simp [dU,ag]
  refine ⟨ad,aA.cD b aG aN,fun o h=>?_⟩;rcases h with h | ⟨h | ⟨⟨id,_,_,h⟩,_⟩,fU⟩
  ·exact h
  ·rcases aA.fresh b o h with (h | ⟨⟨id,h⟩,_⟩) | h | h
   ·exact h
   ·exact absurd h (fU id)
   ·exact absurd aN h
   ·omega
  ·rw [af] at h;cases h
 ·rcases h with h | ⟨h | ⟨_,h⟩,_⟩
  ·obtain ⟨v,ae⟩:=ah.cf b o h;exact ⟨v,((aA.set b o (.inl h)).2).trans ae⟩
  ·exact cp.cf b o h
  ·exact h
 ·by_cases h:U b=none
  ·(have bp:bn b≠none:=fun af=>by simp [az,h,af] at ag);cases af:bn b with
   | none=>exact absurd af bp
   | some l'=>exact cp.base b l' af
  ·cases ad:U b with
   | none=>exact absurd ad h
   | some l'=>obtain ⟨p,q⟩:=ah.base b l' ad;exact ⟨p,uU q aA.size⟩
 ·have fj:bn b=some .res:=by
   split at ag
   ·assumption
   ·cases ag
  refine ⟨?_,fun o h=>?_⟩
  ·cases ad:U b with
   | none=>simp [az,ad,fj]
   | some l =>
     cases l with
     | obj id=>have:=(jI b _ ad (.inl ⟨id,rfl⟩)).2.1;rw [fj] at this;cases this
     | cell id j=>have:=(jI b _ ad (.inr ⟨id,j,rfl⟩)).2.1;rw [fj] at this;cases this
     | _=>simp [az,ad,fj]
  ·rcases h with h | ⟨h,_⟩
   ·exact .inl ((aA.set b o (.inl h)).1)
   ·exact h
end
end Go.Proofs.YtfakoboiahbhaaaGreat.Ab


namespace Go.Proofs.YtfakoboiahbhaaaGreat.Ab
open Go
def ba (lo:Nat) (H H':List au):Prop:=H.length≤H'.length∧∀ id,id<lo→id<H.length→H'[id]?=H[id]?
theorem ba.refl (lo:Nat) (H:List au):ba lo H H:=⟨sc _,fun _ _ _=>rfl⟩
theorem ba.trans {lo:Nat} {H H1 a2:List au} (h:ba lo H H1) (k:ba lo H1 a2):ba lo H a2 :=
 ⟨sH h.1 k.1,fun id ad af=>(k.2 id ad (uU af h.1)).trans (h.2 id ad af)⟩
theorem ba.append (lo:Nat) (H X:List au):ba lo H (H++X):=⟨by simp,fun id _ h=>sB h⟩
theorem ba.set {lo id:Nat} (H:List au) (x:au) (h:lo≤id):ba lo H (H.set id x):=⟨by simp,fun bx ad _=>si (by omega)⟩
def fs (B:Nat) (U:Nat→Option aI) (J:List Nat) (S:Nat→Nat→Prop) (w:World) (H':List au) (r:I):Ending→World→Prop
 | .returned v,w'=>a1 B U J S w H' r v w'
 | _,_=>False
def mU (U:Nat→Option aI):Prop:=∀ b i,U b≠some (.slot i)
def hD (L:Loop) (vs:List Value):Array Value:=(L.params.zip vs.toArray).foldl (fun tmps (x:Tmp×Value)=>tmps.setIfInBounds x.1 x.2) L.tmps
def jk (P:Program) (b0:e3) (args:List I) (H H':List au) (r:I):Prop :=
 match b0 with
 | .fn k => (∃ f, P.funcs[k]? = some f ∧ f.body.isSome = true ∧ f.name ≠ "runtime.NumGoroutine") ∧
   ∀ B U J S w vs,aL B U J S w H→mU U→a9 (fun i=>.arg i) U J S w args vs→CallsIn Fence.wide 0 P k vs.toArray w (fs B U J S w H' r)
 | .yield l=>∀ B U J S w vs b,aL B U J S w H→mU U→a9 (fun i=>.arg i) U J S w args vs→J[l]?=some b →
   ∃ L,w.heap[b]?=some (.loop L)∧vs.length=L.params.size∧RoundIn Fence.wide 0 P b L.fn (hD L vs) L.assign L.body w (fs B U J S w H' r)
structure c_ (P:Program) (C:b6):Prop where
 low:∀ {b0 args H lo r H'},C b0 args H lo=some (r,H')→ba lo H H'
 ok:∀ {b0 args H lo r H'},C b0 args H lo=some (r,H')→jk P b0 args H H' r
section
variable {P:Program} {B N:Nat} {J:List Nat} {w:World} {H:List au} {U:Nat→Option aI} {S:Nat→Nat→Prop}
theorem fs.mono {H' H1:List au} {r r':I} (h:∀ v w',a1 B U J S w H' r v w'→a1 B U J S w H1 r' v w') (e:Ending) (w':World) (k:fs B U J S w H' r e w'):fs B U J S w H1 r' e w':=by
 cases e with
 | returned v=>exact h v w' k
 | panicked c=>exact k
 | outgrown=>exact k
theorem jk.mono {b0:e3} {args:List I} {H' H1:List au} {r r':I} (k:jk P b0 args H H' r)
  (h:∀ B U J S w,aL B U J S w H→∀ v w',a1 B U J S w H' r v w'→a1 B U J S w H1 r' v w'):jk P b0 args H H1 r':=by
 cases b0 with
 | fn f =>
   exact ⟨k.1,fun B U J S w vs ah aN ae=>CallsIn.mono (k.2 B U J S w vs ah aN ae) (fs.mono (h B U J S w ah))⟩
 | yield l =>
   intro B U J S w vs b ah aN ae ag;obtain ⟨L,ad,af,aG⟩:=k B U J S w vs b ah aN ae ag;exact ⟨L,ad,af,RoundIn.mono aG (fs.mono (h B U J S w ah))⟩
theorem B3 (ah:aL B U J S w H) {id:Nat} {l:List I} (aE:H[id]?=some (.cells l)) {v:Value} (aj:Rel J S w (.ptr id 0) v) :
  ∃ az S',bg U S w az S' w∧aL B az J S' w (H.set id .dead)∧Rel J S' w (.bU (l.map I.view)) v:=by
 classical
 cases aj with
 | ptr _ _ b ag =>
   obtain ⟨ar,cur,e,aB,aH,aR,bj,bb,bf⟩:=ah.obj id _ aE;rw [ag] at aB;cases aB
   let S':Nat→Nat→Prop:=fun ar o=>S ar o∨(ar=b∧o<cur.size)
   let az:Nat→Option aI:=fun ar=>if ar=b then none else U ar
   have bu:∀ o,o<cur.size→w.cell? ⟨b,o,none⟩=cur[o]?:=fun o aq=>by
    simp [World.cell?,aR,aq]
   have aA:bg U S w az S' w:=⟨rfl,rfl,rfl,sc _,fun _ _ _=>rfl,fun _ _ h=>⟨.inl h,rfl⟩,fun ar o h=>by
     rcases h with h | ⟨rfl,_⟩
     ·exact .inl h
     ·exact .inr (.inl (by simp [aH])),fun ar bp=>by
     by_cases dF:ar=b
     ·simp [az,dF] at bp
     ·simp only [az,dF,if_false] at bp;exact .inl bp⟩
   have bW:aL B az J S' w (H.set id .dead):=by
    refine ⟨by simpa using ah.cE,fun bx o aq=>?_,fun ar o h=>?_,fun ar l' bp=>?_,ah.cX⟩
    ·by_cases cu:bx=id
     ·subst cu
      have:o=.dead:=by
       have:=(sa.1 aE).1;simp [this] at aq;exact aq.symm
      subst this;trivial
     ·rw [si (Ne.symm cu)] at aq;refine (ah.obj bx o aq).frame (Ext.refl J) aA.set (fun ar l' bp ak=>?_);have bM:ar≠b:=fun e=>by
       subst e;rw [aH] at bp;cases bp;rcases ak with h | ⟨j,h⟩
       ·cases h;exact cu rfl
       ·cases h
      exact ⟨by simp [az,bM,bp],rfl,fun o h=>h.resolve_right fun h=>bM h.1⟩
    ·rcases h with h | ⟨rfl,h⟩
     ·exact ah.cf _ _ h
     ·exact ⟨_,(bu o h).trans (sC h)⟩
    ·by_cases dF:ar=b
     ·simp [az,dF] at bp
     ·simp only [az,dF,if_false] at bp;exact ah.base _ _ bp
   refine ⟨az,S',aA,bW,.bU _ b 0 (fun j=>cur.getD j undef) (fun j u aw=>?_) (fun j u aw=>?_)⟩
   all_goals
    rw [sr] at aw;cases ak:l[j]? with
    | none=>rw [ak] at aw;simp at aw
    | some xT =>
      rw [ak] at aw;simp only [sd,Option.some.injEq] at aw;subst aw;have aU:=(sa.1 ak).1;have pj:cur[j]?=some cur[j]:=sC (by omega);(have aO:cur.getD j undef=cur[j]:=by simp [ss,pj]);obtain ⟨a',bk,bq,b7⟩:=bf j xT _ ak pj
      first
       | (simp only [aO];exact ⟨.inr ⟨rfl,by omega⟩,by rw [sP,bu j (by omega),pj],I.df _,bk⟩)
       | (simp only [aO];exact (bq.view a').mono (Ext.refl J) aA.set)
theorem a9.DY {bz:Nat→aI} {u:I} {vs:List Value} (h:a9 bz U J S w [u] vs):∃ v,vs=[v]∧Rel J S w u v∧aV U J S w (bz 0) u v:=by
 cases vs with
 | nil=>have:=h.len;simp at this
 | cons v r=>cases r with
   | nil=>exact ⟨v,rfl,h.rel 0 u v rfl rfl,h.own 0 u v rfl rfl⟩
   | cons x y=>have:=h.len;simp at this
theorem m2 {C:b6} (bt:c_ P C) {lo mode:Nat} {b0:e3} {args:List I} {v:I} {H1:List au} (h:eS C lo mode b0 args H=some (v,H1)):ba lo H H1∧jk P b0 args H H1 v:=by
 have frozen:∀ {r:I} {a2:List au},C b0 args H H.length=some (r,a2)→((bJ a2 H.length a2.length 0 8 r).map fun v=>(v,H))=some (v,H1)→ba lo H H1∧jk P b0 args H H1 v:=fun ao aQ=>by
  simp only [rZ,Prod.mk.injEq] at aQ;obtain ⟨br,aQ,rfl,rfl⟩:=aQ;exact ⟨ba.refl _ _,(bt.ok ao).mono fun B U J S w ah x w' aC=>xi ah (fun id aE=>(bt.low ao).2 id aE aE) aQ aC⟩
 unfold eS at h;split at h
 ·simp only [se] at h;obtain ⟨⟨r,a2⟩,ao,aQ⟩:=h;exact frozen ao aQ
 ·exact ⟨bt.low h,bt.ok h⟩
 ·split at h
  ·rename_i k aC;simp only [se] at h;obtain ⟨⟨r,a2⟩,ao,aQ⟩:=h;simp only [rZ,Prod.mk.injEq] at aQ;obtain ⟨br,aQ,rfl,rfl⟩:=aQ;obtain ⟨aJ,aP⟩:=bt.ok ao
   exact ⟨ba.refl _ _,aJ,fun B U J S w vs ah aN ae=>CallsIn.mono (aP B _ [] S w vs (yT ah) (fun b i h=>by obtain ⟨_,_,h⟩:=lu h;cases h) (ae.pure aC).cr) fun e w' he=>by
     cases e with
     | returned v=>exact (zK ah aQ he).cr
     | panicked c=>exact he.elim
     | outgrown=>exact he.elim⟩
  ·simp at h
 ·split at h
  ·rename_i k aC;simp only [se] at h;obtain ⟨⟨r,a2⟩,ao,br,aQ,h⟩:=h;split at h
   ·rename_i pD;simp only [Option.some.injEq,Prod.mk.injEq] at h;obtain ⟨rfl,rfl⟩:=h;obtain ⟨aJ,aP⟩:=bt.ok ao
    exact ⟨ba.refl _ _,aJ,fun B U J S w vs ah aN ae=>CallsIn.mono (aP B _ [] _ w vs (C2 ah) (fun b i h=>by obtain ⟨_,_,h⟩:=lu h;cases h) ((FO ah ae).pure aC).cr) fun e w' he=>by
     cases e with
     | returned v=>exact (D9 ah aQ pD he).cr
     | panicked c=>exact he.elim
     | outgrown=>exact he.elim⟩
   ·simp at h
  ·simp at h
 ·split at h
  ·rename_i k id;split at h
   ·rename_i bD;split at h
    ·rename_i l aE;split at h
     ·rename_i aC;simp only [se] at h;obtain ⟨⟨r,a2⟩,ao,aQ⟩:=h;simp only [rZ,Prod.mk.injEq] at aQ;obtain ⟨br,aQ,rfl,rfl⟩:=aQ;obtain ⟨aJ,aP⟩:=bt.ok ao;refine ⟨ba.set _ _ bD,aJ,fun B U J S w vs ah aN ae=>?_⟩;obtain ⟨v0,fV,r1,_⟩:=a9.DY ae;subst fV;obtain ⟨az,S',aA,bW,r2⟩:=B3 ah aE r1
      have dA:a9 (fun i=>.arg i) az J S' w [I.bU (l.map I.view)] [v0]:=⟨rfl,fun i u v hu ae=>by
       cases i with
       | zero=>simp at hu ae;subst hu ae;exact r2
       | succ i=>simp at hu,fun i u v hu ae=>by
       cases i with
       | zero=>simp at hu ae;subst hu;exact aV.b3 rfl
       | succ i=>simp at hu⟩
      (have nq:([I.bU (l.map I.view)]).all (cq 8)=true:=by simp [aC]);exact CallsIn.mono (aP B _ [] S' w _ (yT bW) (fun b i h=>by obtain ⟨_,_,h⟩:=lu h;cases h) (dA.pure nq).cr) fun e w' he=>by
       cases e with
       | returned v=>exact a1.after (Ext.refl J) aA (zK bW aQ he).cr
       | panicked c=>exact he.elim
       | outgrown=>exact he.elim
     ·simp at h
    ·simp at h
   ·simp at h
  ·simp at h
 ·simp only [se] at h;obtain ⟨⟨r,a2⟩,ao,aQ⟩:=h;simp only [rZ,Prod.mk.injEq] at aQ;obtain ⟨br,aQ,rfl,rfl⟩:=aQ;refine ⟨ba.refl _ _,?_⟩;have bO:=(bt.ok ao).mono (r':=br.cr) (H1:=H) fun B U J S w ah x w' aC=>(xi ah (fun id aE=>(bt.low ao).2 id aE aE) aQ aC).cr;cases b0 with
  | fn k=>exact ⟨bO.1,fun B U J S w vs ah aN ae=>bO.2 B U J S w vs ah aN ae.cr⟩
  | yield l=>exact fun B U J S w vs b ah aN ae ag=>bO B U J S w vs b ah aN ae.cr ag
 ·simp only [se] at h;obtain ⟨⟨r,a2⟩,ao,aQ⟩:=h;split at aQ
  ·exact frozen ao aQ
  ·rename_i id0 pb;split at aQ
   ·rename_i l aE;split at aQ
    ·rename_i e7;split at aQ
     ·rename_i l' br ak ae;simp only [Option.some.injEq,Prod.mk.injEq] at aQ;obtain ⟨rfl,rfl⟩:=aQ;exact ⟨ba.append _ _ _,(bt.ok ao).mono fun B U J S w ah x w' aC=>D7 ah (fun id aE=>(bt.low ao).2 id aE aE) e7 aE ak ae aC⟩
     ·simp at aQ
    ·simp at aQ
   ·rename_i es clock aE;split at aQ
    ·rename_i e7;split at aQ
     ·rename_i l' br ak ae;simp only [Option.some.injEq,Prod.mk.injEq] at aQ;obtain ⟨rfl,rfl⟩:=aQ;exact ⟨ba.append _ _ _,(bt.ok ao).mono fun B U J S w ah x w' aC=>D8 ah (fun id aE=>(bt.low ao).2 id aE aE) e7 aE ak ae aC⟩
     ·simp at aQ
    ·simp at aQ
   ·simp at aQ
end
end Go.Proofs.YtfakoboiahbhaaaGreat.Ab


namespace Go.Proofs.YtfakoboiahbhaaaGreat.Ab
open Go
def f_ (g:Nat→Option Nat) (U:Nat→Option aI):Nat→Option aI:=fun b=>match U b with
 | some (.arg i)=>(g i).map .arg
 | some (.obj id)=>some (.obj id)
 | some (.cell id j)=>some (.cell id j)
 | _=>none
def fo (ea:Bool) (vs:List I):List I:=match ea with | true=>vs | false=>vs.map I.view
def ei (F:Fence):Prop:=F=Fence.wide∨∃ l,F=Fence.wide.inRound l
section
variable {P:Program} {B N:Nat} {J:List Nat} {w:World} {H:List au} {U:Nat→Option aI} {S:Nat→Nat→Prop}
theorem ei.fn {F:Fence} (h:ei F) (f:FuncId):F.fn f:=by rcases h with rfl | ⟨l,rfl⟩ <;> trivial
theorem ei.depth {F:Fence} (h:ei F):F.depth=none:=by rcases h with rfl | ⟨l,rfl⟩ <;> rfl
theorem ei.calls {F:Fence} (h:ei F) {n:Nat} {f:FuncId} {args:Array Value} {w:World} {R:Ending→World→Prop} (k:CallsIn Fence.wide n P f args w R):CallsIn F n P f args w R:=by
 rcases h with rfl | ⟨l,rfl⟩
 ·exact k
 ·exact CallsIn.inRound l k
theorem ei.rounds {F:Fence} (h:ei F) {n l:Nat} {f:FuncId} {tmps:Array Value} {assign body:Code} {w:World} {R:Ending→World→Prop} (k:RoundIn Fence.wide n P l f tmps assign body w R):RoundIn F n P l f tmps assign body w R:=by
 rcases h with rfl | ⟨l,rfl⟩
 ·exact k
 ·exact k
theorem Ek {g:Nat→Option Nat} {b:Nat} (h:U b=none):f_ g U b=none:=by simp [f_,h]
theorem El {g:Nat→Option Nat} {b:Nat} (h:f_ g U b≠none):U b≠none:=fun aS=>h (Ek aS)
theorem z3 (g:Nat→Option Nat) (U:Nat→Option aI) (S:Nat→Nat→Prop) (w:World):bg U S w (f_ g U) S w :=
 ⟨rfl,rfl,rfl,sc _,fun _ _ _=>rfl,fun _ _ h=>⟨h,rfl⟩,fun _ _ h=>.inl h,fun _ h=>.inl (El h)⟩
theorem z4 (g:Nat→Option Nat) (U:Nat→Option aI):mU (f_ g U):=fun b i h=>by
 unfold f_ at h;split at h <;> simp at h
theorem yU (ah:aL B U J S w H) (g:Nat→Option Nat):aL B (f_ g U) J S w H:=by
 refine ⟨ah.cE,fun id o aq=>?_,ah.cf,fun b l ag=>?_,ah.cX⟩
 ·refine (ah.obj id o aq).frame (Ext.refl J) (fun _ _ h=>⟨h,rfl⟩) fun b l ag ak=>⟨?_,rfl,fun _ h=>h⟩;rcases ak with rfl | ⟨j,rfl⟩ <;> simp [f_,ag]
 ·cases h:U b with
  | none=>simp [f_,h] at ag
  | some l'=>exact ah.base b l' h
theorem D5 {g:Nat→Option Nat} {i j:Nat} (aO:g i=some j) {u:I} {v:Value} (h:aV U J S w (.arg i) u v):aV (f_ g U) J S w (.arg j) u v :=
 h.mono (Ext.refl J) (fun _ _ h=>⟨h,rfl⟩) fun b ag=>⟨by simp [f_,ag,aO],rfl,fun _ h=>h⟩
theorem Ef {T:List I} {a:Act} (aK:ct B N U J S w ⟨T,H⟩ a) (ops:List Operand) (ts:List Bool) (ea:Bool) :
  ∃ b2 a4,bg U S w b2 a4 w∧ct B N b2 J a4 w ⟨(rd T ts ops).2,H⟩ a ∧
    a9 (fun i=>.arg i) b2 J a4 w (fo ea (rd T ts ops).1) (ops.map a.eval):=by
 obtain ⟨b2,a4,g,bX,ah,ae⟩:=Eg a ops ts T 0 U S aK.T aK.H;simp only [sP] at ae;cases ea with
 | true=>exact ⟨b2,a4,g.aA w,⟨bX,ah,aK.M.aA (g.aA w)⟩,ae⟩
 | false =>
   obtain ⟨bH,aJ,aP,cp,dA⟩:=EW (rd T ts ops).1 (ops.map a.eval) (fun i=>.arg i) a4 (fun i j h=>by cases h;rfl) (fun i id=>by simp) (fun i id j=>by simp) ae ah;have aA:bg b2 a4 w b2 bH w:=bg.settle aJ fun b o h=>(aP b o h).imp id fun ⟨i,h⟩=>⟨_,h⟩;refine ⟨b2,bH,(g.aA w).trans aA,⟨⟨bX.len,fun i u v hu ae=>(bX.rel i u v hu ae).mono (Ext.refl J) (fun b o h=>⟨aJ b o h,rfl⟩),fun i u v hu ae=>?_⟩,cp,(aK.M.aA (g.aA w)).aA aA⟩,dA⟩;refine (bX.own i u v hu ae).mono (Ext.refl J) (fun b o h=>⟨aJ b o h,rfl⟩) fun b ag=>⟨ag,rfl,fun o h=>?_⟩;rcases aP b o h with h | ⟨j,h⟩
   ·exact h
   ·rw [ag] at h;cases h
theorem oM {C:b6} {lo:Nat} {o:Oper} {an:b5} {s aF:a5} (h:Ab.execOp P C lo o an s=some aF) :
  ∃ r H',a8 P C lo o an.mode (fo (dN o) (rd s.T an.takes (opsOf o)).1) s.H=some (r,H') ∧
    aF=⟨put (inPlace o an.mode (rd s.T an.takes (opsOf o)).2 r) o.dst r,H'⟩:=by
 unfold Ab.execOp at h;simp only [rZ] at h;obtain ⟨⟨r,H'⟩,h,rfl⟩:=h;exact ⟨r,H',h,rfl⟩
theorem DR {C:b6} {lo mode:Nat} {o:Oper} {us:List I} {r:I} {H':List au} {t:Nat} (hm:mode≠0) (CI:mode≠4) (aq:o.op=.move (.tmp t)∨o.op=.assign (.tmp t))
  (h:a8 P C lo o mode us H=some (r,H')) {U:Nat→Option aI} {J:List Nat} {S:Nat→Nat→Prop} {w:World} {l:aI} {v:Value} (aj:Rel J S w r v) (hw:aV U J S w l r v):Rel J S w r.view v:=by
 by_cases hu:r.cT=true
 ·exact aj.view hu
 ·obtain ⟨cells,len,z,rfl⟩:∃ cells len z,r=.ay cells len (.uniq z):=by
   unfold I.cT at hu;split at hu
   ·exact ⟨_,_,_,rfl⟩
   ·simp at hu
  have aS:len=0:=by
   (have aX:eP P lo mode o.type (.tmp t) H us=some (.ay cells len (.uniq z),H'):=by rcases aq with aq | aq <;> simpa only [a8,aq] using h);unfold eP at aX;split at aX
   ·split at aX
    ·exact absurd rfl hm
    ·split at aX
     ·split at aX
      ·rename_i bm;cases aX;exact bm
      ·cases aX
     ·cases aX
     ·cases aX
     ·simp at aX
    ·exact absurd rfl CI
    ·split at aX
     ·split at aX
      ·simp only [se,rZ,Prod.mk.injEq] at aX;obtain ⟨row,cS,n,aN,ad,af⟩:=aX;have:=congrArg (fun x=>match x with | I.ay _ _ c=>c | _=>.shared) ad;exact absurd this (yu z)
      ·simp at aX
     ·split at aX
      ·split at aX
       ·split at aX
        ·cases aX
        ·cases aX
       ·cases aX
      ·cases aX
     ·simp only [Option.some.injEq,Prod.mk.injEq] at aX;have:=aX.1 ▸ I.df _;cases this
   ·simp at aX
  subst aS;have ao:cells=[]:=by
   cases aj with
   | b1 c a=>rfl
   | ay _ _ _ b o cap f ao hle b_ k eL=>exact absurd rfl (b_ z)
   | cK _ _ z b o cap =>
     rcases hw with ⟨_,_,h⟩ | ⟨_,_,_,_,_,h,_⟩
     ·exact h
     ·exact tu.1 (by simpa using h)
  subst ao;cases aj with
  | b1 c a=>exact .b1 _ _
  | ay _ _ _ b o cap f ao hle b_ k eL=>exact absurd rfl (b_ z)
  | cK _ _ z b o cap=>exact .ay [] 0 .shared b o cap (fun _=>undef) (by simp) (Nat.zero_le _) (by simp) (by simp) (by simp)
theorem zk {lo id:Nat} {H H':List au} {f:List I→Option (List I)} (h:g6 lo H id f=some H'):ba lo H H':=by
 unfold g6 at h;split at h
 ·rename_i bD;split at h
  ·simp only [rZ] at h;obtain ⟨l',_,rfl⟩:=h;exact ba.set _ _ bD
  ·simp at h
 ·simp at h
theorem DA {lo:Nat} {t:TypeId} {us:List I} {r:I} {H':List au} (h:iW P lo t H us=some (r,H')):ba lo H H':=by
 unfold iW at h;split at h
 ·split at h
  ·split at h
   ·split at h
    ·rename_i bD;split at h
     ·split at h
      ·cases h;exact ba.set _ _ bD
      ·cases h;exact ba.set _ _ bD
      ·cases h
     ·cases h
    ·cases h
   ·cases h
  ·cases h
 ·cases h
theorem Dy {lo:Nat} {ts:Array TypeId} {us:List I} {r:I} {H':List au} (h:hz P lo ts H us=some (r,H')):ba lo H H':=by
 unfold hz at h;split at h
 ·split at h
  ·split at h
   ·split at h
    ·rename_i bD;split at h
     ·split at h
      ·cases h;exact ba.set _ _ bD
      ·cases h;exact ba.refl _ _
      ·cases h
     ·cases h
    ·cases h
   ·cases h
  ·cases h
 ·cases h
theorem ER {t:TypeId} {ok:Bool} {us:List I} {r:I} {H':List au} (h:ia P t ok H us=some (r,H')):H'=H:=by
 unfold ia at h;split at h
 ·split at h
  ·split at h
   ·split at h
    ·simp only [rZ,Prod.mk.injEq] at h;obtain ⟨_,_,_,rfl⟩:=h;rfl
    ·cases h
   ·cases h
  ·cases h
 ·cases h
theorem EP {us:List I} {r:I} {H':List au} (h:kS H us=some (r,H')):H'=H:=by
 unfold kS at h;split at h
 ·split at h
  ·split at h
   ·split at h
    ·split at h
     ·cases h;rfl
     ·cases h
    ·cases h
   ·cases h
  ·cases h
 ·cases h
theorem zl {lo id:Nat} {H H':List au} {f:List I→Option (List I)} (h:g7 lo H id f=some H'):ba lo H H':=by
 unfold g7 at h;split at h
 ·rename_i bD;split at h
  ·simp only [rZ] at h;obtain ⟨l',_,rfl⟩:=h;exact ba.set _ _ bD
  ·simp only [rZ] at h;obtain ⟨l',_,rfl⟩:=h;exact ba.set _ _ bD
  ·simp at h
 ·simp at h
theorem Dx {lo:Nat} {ts:Array TypeId} {us:List I} {r:I} {H':List au} (h:h' P lo ts H us=some (r,H')):ba lo H H':=by
 unfold h' at h;split at h
 ·split at h
  ·split at h
   ·split at h
    ·split at h
     ·cases h
     ·cases h;exact ba.append _ _ _
    ·cases h
   ·split at h
    ·rename_i bD;split at h
     ·split at h
      ·split at h
       ·cases h;exact (ba.set _ _ bD).trans (ba.append _ _ _)
       ·cases h
      ·cases h
     ·cases h
    ·cases h
   ·cases h
  ·cases h
 ·cases h
theorem Dw {lo:Nat} {ts:Array TypeId} {us:List I} {r:I} {H':List au} (h:iV P lo ts H us=some (r,H')):ba lo H H':=by
 refine ba.trans ?_ (Dx h);unfold i_;split
 ·split
  ·split
   ·rename_i ao;simp only [sv] at ao;exact ba.set _ _ (Nat.le_of_ble_eq_true ao.2)
   ·exact ba.refl _ _
  ·exact ba.refl _ _
 ·exact ba.refl _ _
theorem DB {lo:Nat} {t:TypeId} {us:List I} {r:I} {H':List au} (h:kU P t H us=some (r,H')):ba lo H H':=by
 unfold kU at h;split at h
 ·split at h
  ·cases h;exact ba.append _ _ _
  ·cases h
 ·cases h
theorem Dz {lo:Nat} {t:TypeId} {x:Option Operand} {r:I} {H':List au} (h:kT P t x H=some (r,H')):ba lo H H':=by
 unfold kT at h;split at h
 ·cases h;exact ba.append _ _ _
 ·cases h
theorem zj {lo:Nat} {b:Builtin} {ts:Array TypeId} {us:List I} {r:I} {H':List au} (h:et P lo b ts H us=some (r,H')):ba lo H H':=by
 have same:∀ {x:Option I},x.map (·,H)=some (r,H')→ba lo H H':=fun h=>by
  simp only [rZ,Prod.mk.injEq] at h;obtain ⟨_,_,_,rfl⟩:=h;exact ba.refl _ _
 unfold et at h;split at h
 ·unfold iU at h;split at h
  ·split at h
   ·exact same h
   ·simp at h
  ·simp at h
 ·unfold g_ at h;split at h
  ·split at h
   ·split at h <;> simp at h;obtain ⟨_,rfl⟩:=h;exact ba.refl _ _
   ·split at h <;> simp at h;obtain ⟨_,rfl⟩:=h;exact ba.refl _ _
   ·split at h <;> simp at h;obtain ⟨_,rfl⟩:=h;exact ba.refl _ _
   ·split at h <;> simp at h;obtain ⟨_,rfl⟩:=h;exact ba.refl _ _
  ·simp at h
 ·unfold jS at h;split at h
  ·split at h <;> simp at h;obtain ⟨_,rfl⟩:=h;exact ba.refl _ _
  ·split at h <;> simp at h;obtain ⟨_,rfl⟩:=h;exact ba.refl _ _
  ·simp at h
 ·unfold jT at h;split at h
  ·split at h
   ·split at h
    ·split at h
     ·simp only [rZ,Prod.mk.injEq] at h;obtain ⟨H1,h,_,rfl⟩:=h;exact zk h
     ·simp at h
    ·simp at h
   ·simp at h
  ·simp at h
 ·unfold kR at h;split at h
  ·split at h
   ·split at h
    ·split at h
     ·simp only [rZ,Prod.mk.injEq] at h;obtain ⟨H1,h,_,rfl⟩:=h;exact zl h
     ·simp at h
    ·simp at h
   ·simp at h
  ·split at h <;> simp at h;obtain ⟨_,rfl⟩:=h;exact ba.refl _ _
  ·simp at h
 ·exact Dy h
 ·exact same h
 ·exact same h
 ·simp at h
theorem D3 {C:b6} (bt:c_ P C) {lo mode:Nat} {o:Oper} {us:List I} {r:I} {H':List au} (h:a8 P C lo o mode us H=some (r,H')):ba lo H H':=by
 have same:∀ {x:Option I},x.map (·,H)=some (r,H')→ba lo H H':=fun h=>by
  simp only [rZ,Prod.mk.injEq] at h;obtain ⟨_,_,_,rfl⟩:=h;exact ba.refl _ _
 have l1:∀ {t:TypeId} {x:Operand},eP P lo mode t x H us=some (r,H')→ba lo H H':=fun h=>by
  unfold eP at h;split at h
  ·split at h
   ·split at h
    ·simp only [rZ,Prod.mk.injEq] at h;obtain ⟨_,_,_,rfl⟩:=h;exact ba.refl _ _
    ·cases h;exact ba.refl _ _
   ·split at h
    ·split at h
     ·cases h;exact ba.refl _ _
     ·cases h;exact ba.append _ _ _
    ·cases h;exact ba.refl _ _
    ·cases h;exact ba.refl _ _
    ·simp at h
   ·split at h
    ·split at h
     ·rename_i bD;split at h
      ·split at h
       ·cases h;exact ba.set _ _ bD
       ·cases h
      ·cases h
     ·cases h
    ·cases h;exact ba.refl _ _
   ·split at h
    ·split at h
     ·rename_i bD;simp only [se,rZ,Prod.mk.injEq] at h;obtain ⟨_,_,_,_,_,rfl⟩:=h;exact ba.set _ _ bD
     ·simp at h
    ·split at h
     ·rename_i bD;split at h
      ·split at h
       ·cases h;exact ba.set _ _ bD
       ·cases h
      ·cases h
     ·cases h
    ·cases h;exact ba.refl _ _
  ·simp at h
 unfold a8 at h;split at h
 ·exact l1 h
 ·exact l1 h
 ·unfold dO at h;split at h
  ·split at h
   ·exact same h
   ·split at h
    ·exact same h
    ·simp at h
   ·split at h
    ·split at h
     ·split at h
      ·cases h;exact ba.refl _ _
      ·cases h;exact ba.refl _ _
      ·simp at h
     ·simp at h
    ·simp at h
   ·split at h
    ·split at h
     ·rename_i bD;split at h
      ·split at h
       ·cases h;exact ba.set _ _ bD
       ·split at h
        ·split at h
         ·simp at h
         ·cases h;exact (ba.set _ _ bD).trans (ba.append _ _ _)
        ·cases h;exact ba.set _ _ bD
       ·cases h;exact ba.refl _ _
       ·simp at h
      ·split at h
       ·cases h;exact ba.set _ _ bD
       ·cases h;exact ba.refl _ _
       ·simp at h
      ·simp at h
     ·simp at h
    ·simp at h
  ·simp at h
 ·unfold hA at h;split at h
  ·split at h
   ·simp only [rZ,Prod.mk.injEq] at h;obtain ⟨H1,h,_,rfl⟩:=h;unfold iy at h;split at h
    ·split at h
     ·exact zl h
     ·simp at h
    ·simp at h
   ·simp only [rZ,Prod.mk.injEq] at h;obtain ⟨H1,h,_,rfl⟩:=h;unfold lp at h;split at h
    ·split at h
     ·exact zk h
     ·simp at h
    ·simp at h
  ·simp at h
 ·unfold gC at h;split at h
  ·split at h
   ·simp only [rZ,Prod.mk.injEq] at h;obtain ⟨_,_,_,rfl⟩:=h;exact ba.append _ _ _
   ·split at h
    ·split at h
     ·cases h;exact ba.refl _ _
     ·cases h
    ·cases h
  ·simp at h
 ·unfold kQ at h;split at h
  ·simp only [rZ,Prod.mk.injEq] at h;obtain ⟨_,_,_,rfl⟩:=h;exact ba.append _ _ _
  ·split at h
   ·simp only [rZ,Prod.mk.injEq] at h;obtain ⟨_,_,_,rfl⟩:=h;exact ba.append _ _ _
   ·cases h
 ·split at h
  ·exact same h
  ·simp only [rZ,Prod.mk.injEq] at h;obtain ⟨_,_,_,rfl⟩:=h;exact ba.refl _ _
 ·unfold jU at h;split at h
  ·split at h
   ·split at h
    ·simp only [rZ,Prod.mk.injEq] at h;obtain ⟨_,_,_,rfl⟩:=h;exact ba.append _ _ _
    ·split at h
     ·simp only [rZ,Prod.mk.injEq] at h;obtain ⟨_,_,_,rfl⟩:=h;exact ba.refl _ _
     ·simp at h
   ·simp at h
  ·simp at h
 ·exact Dz h
 ·exact DA h
 ·rw [ER h];exact ba.refl _ _
 ·exact DB h
 ·rw [EP h];exact ba.refl _ _
 ·split at h
  ·split at h
   ·split at h
    ·exact zj h
    ·exact Dw h
   ·exact zj h
  ·unfold hy at h;split at h
   ·unfold kf at h;split at h
    ·exact (m2 bt h).1
    ·exact (m2 bt h).1
    ·simp at h
   ·simp at h
  ·simp at h
 ·exact same h
end
end Go.Proofs.YtfakoboiahbhaaaGreat.Ab


namespace Go.Proofs.YtfakoboiahbhaaaGreat.Ab
open Go
section
variable {P:Program} {B N:Nat} {J:List Nat} {w:World} {H:List au} {U:Nat→Option aI} {S:Nat→Nat→Prop}
theorem Aw {k : Nat} {f : Func} (aQ : P.funcs[k]? = some f) (ag : f.body.isSome = true) (aN : f.name ≠ "runtime.NumGoroutine") (args : Array Value) (w : World) :
  (callFunc k args).run P w=.ok (.enter k args) w:=by
 have bp:f.body≠none:=fun h=>by simp [h] at ag
 simp [callFunc,aQ,bp,aN]
theorem A' {first us cap:List I} {vs ws xs:List Value} (aQ:first.length=vs.length) (bR:∀ u∈first,u.plain=true) (r1:∀ (j:Nat) (u:I) (v:Value),first[j]?=some u→vs[j]?=some v→Rel J S w u v)
  (ao:cap.length=ws.length) (b4:∀ u∈cap,u.plain=true) (r2:∀ (j:Nat) (u:I) (v:Value),cap[j]?=some u→ws[j]?=some v→Rel J S w u v)
  (ae:a9 (fun i=>.arg (i+1)) U J S w us xs) :
  a9 (fun i=>.arg i) (f_ (fun i=>match i with | 0=>none | j+1=>some (first.length+j)) U) J S w (first++us++cap) (vs++xs++ws):=by
 have ak:=ae.len;have key:∀ (i:Nat) (u:I) (v:Value),(first++us++cap)[i]?=some u→(vs++xs++ws)[i]?=some v →
   Rel J S w u v∧aV (f_ (fun i=>match i with | 0=>none | j+1=>some (first.length+j)) U) J S w (.arg i) u v:=fun i u v hu al=>by
  rcases sR i first.length with ad | ad
  ·rw [sA,sB ad] at hu;rw [sA,sB (by omega)] at al;exact ⟨r1 i u v hu al,aV.b3 (bR u (sI hu))⟩
  ·rw [sA,sJ ad] at hu;rw [sA,sJ (by omega),←aQ] at al;rcases sR (i-first.length) us.length with af | af
   ·rw [sB af] at hu;rw [sB (by omega)] at al;refine ⟨ae.rel _ u v hu al,D5 ?_ (ae.own _ u v hu al)⟩;show some (first.length+(i-first.length))=some i;congr 1;omega
   ·rw [sJ af] at hu;rw [sJ (by omega),←ak] at al;exact ⟨r2 _ u v hu al,aV.b3 (b4 u (sI hu))⟩
 exact ⟨by simp [aQ,ao,ak],fun i u v hu al=>(key i u v hu al).1,fun i u v hu al=>(key i u v hu al).2⟩
theorem xO {F:Fence} (bB:ei F) {C:b6} (bt:c_ P C) {lo:Nat} {o:Oper} {an:b5} {s aF:a5} (h:Ab.execOp P C lo o an s=some aF) {a:Act} (aK:ct B N U J S w s a)
  {K:Act→World→Prop} {Q:Exit→Act→World→Prop} (fB:∀ aM w',Step B N U J S w aF aM w'→K aM w'):o.wpIn F 0 P a w K Q:=by
 obtain ⟨r,H',aD,rfl⟩:=oM h;obtain ⟨b2,a4,m9,b',ae⟩:=Ef (H:=s.H) aK (opsOf o) an.takes (dN o);generalize yY:fo (dN o) (rd s.T an.takes (opsOf o)).1=us at aD ae;have eK:∀ v,a.eval (.const v)=v:=fun _=>rfl;have jG:∀ c,o.op≠.defer c:=fun c ao=>by simp [a8,ao,cy] at aD
 have ni:∀ v w',(∀ t,o.op=.move (.tmp t)∨o.op=.assign (.tmp t)→v=a.eval (.tmp t))→a1 B (di b2) J a4 w H' r v w'→K (a.put o.dst v) w':=fun v w' d_ aC=>by
  refine fB _ _ (Step.trans (Ext.refl J) m9 ?_);by_cases hm:an.mode=0∨an.mode=4
  ·obtain ⟨az,bZ,S',aJ,aP,fT,_⟩:=nS o.dst b' aC .junk (fun _ _ _ _ _=>.junk _);(have gX:inPlace o an.mode (rd s.T an.takes (opsOf o)).2 r=(rd s.T an.takes (opsOf o)).2:=by rcases hm with hm | hm <;> simp [inPlace,hm]);rw [gX];exact ⟨az,bZ,S',aJ,aP,fT⟩
  ·by_cases ax:∃ t,o.op=.move (.tmp t)∨o.op=.assign (.tmp t)
   ·obtain ⟨t,ax⟩:=ax;have gX:inPlace o an.mode (rd s.T an.takes (opsOf o)).2 r=gH (rd s.T an.takes (opsOf o)).2 t r.view:=by
     unfold inPlace;split
     ·rename_i ps;exact absurd (.inl ps) hm
     ·rename_i ps;exact absurd (.inr ps) hm
     ·rcases ax with ax | ax <;> simp [ax]
    have yZ:∀ x,a.tmps.toList[t]?=some x→x=a.eval (.tmp t):=fun x al=>by
     (have nx:a.tmps[t]?=some x:=by simpa using al);simp [Act.eval,nx,ss]
    have yR:v=a.eval (.tmp t):=d_ t ax;obtain ⟨az,bZ,S',aJ,aP,fT,nu⟩:=nS o.dst b' aC r.view (fun bn cg bH q1 aW=>DR (fun e=>hm (.inl e)) (fun e=>hm (.inr e)) ax aD q1 aW);refine ⟨az,bZ,S',aJ,aP,?_,fT.H,fT.M⟩;rw [gX];have bX:=fT.T;simp only at bX;cases aZ:o.dst with
    | none =>
      simp only [aZ,put,Act.put,gI] at bX ⊢;exact bX.swap t (I.df _) fun x al=>by rw [yZ x al,←yR];exact nu
    | some d =>
      simp only [aZ,put,Act.put,gI] at bX ⊢;by_cases pG:t=d
      ·subst pG;rw [sS];exact bX
      ·rw [List.set_comm _ _ pG];refine bX.swap t (I.df _) fun x al=>?_;rw [vX,si (Ne.symm pG)] at al;rw [yZ x al,←yR];exact nu
   ·have gX:inPlace o an.mode (rd s.T an.takes (opsOf o)).2 r=(rd s.T an.takes (opsOf o)).2:=by
     unfold inPlace;split
     ·rfl
     ·rfl
     ·split
      ·rename_i h;exact absurd ⟨_,.inl h⟩ ax
      ·rename_i h;exact absurd ⟨_,.inr h⟩ ax
      ·rfl
    rw [gX];obtain ⟨az,bZ,S',aJ,aP,fT,_⟩:=nS o.dst b' aC .junk (fun _ _ _ _ _=>.junk _);exact ⟨az,bZ,S',aJ,aP,fT⟩
 refine ⟨fun f _=>bB.fn f,?_⟩;rw [Oper.semAt_eq _ _ _ jG];by_cases e6:∃ c f,o.op=.call c∧c.callee=.value f
 ·obtain ⟨c,f,ky,hX⟩:=e6;have he:opsOf o=f::c.args.toList:=by
   obtain ⟨BI,args,BD⟩:=c;simp only at hX;subst hX;simp only [opsOf,ky]
  rw [he] at ae;simp only [a8,ky,hX] at aD;have fA:=l7 b'.H;have fV:=Ba ae
  match us,aD,fV with
  | [],aD,_=>simp [hy] at aD
  | FI::GH,aD,fV =>
    simp only [hy] at aD;have n0:=fV.rel 0 FI (a.eval f) rfl rfl;have y0:=fV.tail;unfold kf at aD;split at aD
    ·(rename_i k first cap);generalize kr:a.eval f=FL at n0;cases n0 with
     | func _ _ _ vs ws aJ aP bR b4 r1 r2 =>
       obtain ⟨_,⟨fn,Cr,ko,CO⟩,o9⟩:=m2 bt aD;have nw:=A' (U:=di b2) (J:=J) (S:=a4) (w:=w) (first:=first) (cap:=cap) (vs:=vs.toList) (ws:=ws.toList) (by simp [aJ]) bR (fun j u v hu al=>r1 j u v hu (by simpa using al)) (by simp [aP]) b4 (fun j u v hu al=>r2 j u v hu (by simpa using al)) y0;have ao:=o9 B _ J a4 w _ (yU fA _) (z4 _ _) nw;have kA:(resolve a.eval c o.type).run P w=.ok { target:=.fn (.func k) ws,args:=vs++c.args.map a.eval } w:=by
        simp [resolve,hX,kr,Deferred.ofValue]
       have dL:(Go.execOp a.eval o).run P w=.ok (.enter k (vs++c.args.map a.eval++ws)) w:=by
        simp only [Go.execOp,ky,Sem.run_bind,kA,Result.andThen_ok,invoke,Aw Cr ko CO]
       rw [dL];have hr:(vs.toList++List.map a.eval c.args.toList++ws.toList).toArray=vs++c.args.map a.eval++ws:=by
        apply Array.ext';simp
       rw [hr] at ao;refine ⟨fun iH=>(by rw [bB.depth] at iH;cases iH),bB.calls (CallsIn.mono ao fun e w' he=>?_)⟩;cases e with
       | returned v=>exact ni v w' (fun t ax=>by rcases ax with ax | ax <;> rw [ky] at ax <;> cases ax) (a1.after (Ext.refl J) (z3 _ _ _ _) he)
       | panicked c=>exact he.elim
       | outgrown=>exact he.elim
    ·rename_i l;generalize kr:a.eval f=FL at n0;cases n0 with
     | yield _ b ag =>
       obtain ⟨_,o9⟩:=m2 bt aD;have nw:=A' (U:=di b2) (J:=J) (S:=a4) (w:=w) (first:=[]) (cap:=[]) (vs:=[]) (ws:=[]) rfl (by simp) (by simp) rfl (by simp) (by simp) y0;simp only [List.nil_append,List.append_nil] at nw;obtain ⟨L,ad,af,aG⟩:=o9 B _ J a4 w _ b (yU fA _) (z4 _ _) nw ag;have kA:(resolve a.eval c o.type).run P w=.ok { target:=.fn (.yield b) #[],args:=c.args.map a.eval } w:=by
        simp [resolve,hX,kr,Deferred.ofValue]
       (have bP:(c.args.map a.eval).size=L.params.size:=by rw [←af];simp);have dL:(Go.execOp a.eval o).run P w=.ok (.round b L.fn (hD L (List.map a.eval c.args.toList)) L.assign L.body) w:=by
        simp only [Go.execOp,ky,Sem.run_bind,kA,Result.andThen_ok,invoke]
        have:(List.map a.eval c.args.toList).toArray=c.args.map a.eval:=by apply Array.ext';simp
        simp [Instr.yield,run_getLoop ad,bP,hD,this]
       rw [dL];refine ⟨fun iH=>(by rw [bB.depth] at iH;cases iH),bB.rounds (RoundIn.mono aG fun e w' he=>?_)⟩;cases e with
       | returned v=>exact ni v w' (fun t ax=>by rcases ax with ax | ax <;> rw [ky] at ax <;> cases ax) (a1.after (Ext.refl J) (z3 _ _ _ _) he)
       | panicked c=>exact he.elim
       | outgrown=>exact he.elim
    ·simp at aD
 ·have iK:∀ c f,o.op=.call c→c.callee≠.value f:=fun c f ad af=>e6 ⟨c,f,ad,af⟩;have aC:dN o=false→∀ u∈us,u.plain=true:=fun ak u hu=>by
   rw [ak] at yY;subst yY;obtain ⟨x,_,rfl⟩:=sm.1 hu;exact I.df x
  rcases Fq eK (l7 b'.H) aD iK aC (Ba ae) with ⟨v,w',ad,af⟩ | ⟨w',ad,af⟩
  ·rw [ad];exact ni v w' (fun t ax=>by rcases ax with ax | ax <;> simp [Go.execOp,ax] at ad <;> exact ad.1.symm) af
  ·rw [ad];exact ni undef w' (fun t ax=>by rcases ax with ax | ax <;> simp [Go.execOp,ax] at ad) af
end
end Go.Proofs.YtfakoboiahbhaaaGreat.Ab


namespace Go.Proofs.YtfakoboiahbhaaaGreat.Ab
open Go
section
variable {P:Program} {B N:Nat} {J:List Nat} {w:World} {H:List au} {U:Nat→Option aI} {S:Nat→Nat→Prop}
theorem ct.c4 {s:a5} {a:Act} (aK:ct B N U J S w s a) (t:Nat):Rel J S w (c4 s.T t) (a.tmps.getD t undef):=by
 rw [fS,sE];cases h:s.T[t]? with
 | none=>exact .junk _
 | some u =>
   have ak:=aK.T.len;have aU:t<s.T.length:=(sa.1 h).1;(have l0:t<a.tmps.size:=by rw [←tw,←ak];exact aU);(have al:a.tmps.toList[t]?=some (a.tmps.getD t undef):=by simp [ss,l0]);exact aK.T.rel t u _ h al
theorem ct.aA {s:a5} {a:Act} (aK:ct B N U J S w s a) (x:Operand):Rel J S w (aA s.T x) (a.eval x):=by
 cases x with
 | tmp t=>exact aK.c4 t
 | const v=>exact lq J S w v
 | global g=>exact .junk _
 | func f=>exact .func f [] [] #[] #[] rfl rfl (by simp) (by simp) (by simp) (by simp)
theorem k8 {ops:Array Oper} {o:Oper} {s:a5} {a:Act} (aK:ct B N U J S w s a) {x:Bool} (h:eu ops o s.T=some x):Region.wanted o (yielded ops a.tmps)=x:=by
 unfold eu at h;unfold Region.wanted;split at h
 ·rename_i aO;rw [aO];simpa using h
 ·rename_i j want aO;rw [aO];split at h
  ·rename_i d aZ;split at h
   ·rename_i b ag;have aj:=aK.c4 d;rw [ag] at aj;have:=aj.hU;simp only [Option.some.injEq] at h;subst h;have aU:a.tmps[d]?=some (.bool b):=by
     rw [ss] at this;cases h:a.tmps[d]? with
     | none=>rw [h] at this;simp [undef] at this
     | some v=>rw [h] at this;simpa using this
    simp [yielded,aZ,aU]
   ·rename_i ag;have aj:=aK.c4 d;rw [ag] at aj;simp only [Option.some.injEq] at h;subst h;have aN:yielded ops a.tmps j=none:=by
     unfold yielded;rw [aZ,r_];cases h:a.tmps[d]? with
     | none=>rfl
     | some v =>
       rw [ss,h] at aj;simp only [uC] at aj;cases aj;rfl
    simp [aN]
   ·simp at h
  ·simp at h
theorem ct.skip {T:List I} {a:Act} (aK:ct B N U J S w ⟨T,H⟩ a) (d:Option Tmp):ct B N U J S w ⟨put T d (.tuple []),H⟩ (a.put d undef):=by
 cases d with
 | none=>exact aK
 | some d =>
   refine ⟨?_,aK.H,aK.M⟩;have bX:=aK.T;simp only [put,gI,Act.put] at bX ⊢;have key:∀ (i:Nat) (u:I) (x:Value),(T.set d (.tuple []))[i]?=some u→(a.tmps.toList.set d undef)[i]?=some x→Rel J S w u x∧aV U J S w (.slot i) u x:=fun i u x hu al=>by
    by_cases aE:d=i
    ·subst aE;(have aU:d<T.length:=by have:=(sa.1 hu).1;simpa using this);rw [sg aU] at hu;cases hu;rw [sg (by have:=(sa.1 al).1;simpa using this)] at al;cases al;exact ⟨.tuple _ _ rfl (by simp) (by simp),aV.b3 rfl⟩
    ·rw [si aE] at hu al;exact ⟨bX.rel i u x hu al,bX.own i u x hu al⟩
   refine ⟨by simpa using bX.len,fun i u x hu al=>?_,fun i u x hu al=>?_⟩
   ·rw [vX] at al;exact (key i u x hu al).1
   ·rw [vX] at al;exact (key i u x hu al).2
theorem x0:∀ (k:List Bool) (T:List I) (i:Nat),(eQ k T)[i]?=T[i]?∨(eQ k T)[i]?=(T[i]?).map fun _=>.junk
 | [],T,i=>.inl (by simp [eQ])
 | b::bs,[],i=>.inl (by simp [eQ])
 | b::bs,v::vs,i=>by
   cases i with
   | zero=>cases b <;> simp [eQ]
   | succ i=>simpa [eQ] using x0 bs vs i
theorem Bj:∀ (k:List Bool) (T:List I),(eQ k T).length=T.length
 | [],T=>by simp [eQ]
 | b::bs,[]=>by simp [eQ]
 | b::bs,v::vs=>by simp [eQ,Bj bs vs]
theorem ct.cD {s:a5} {a:Act} (aK:ct B N U J S w s a) (ml:List (Nat×List Bool)) (id:Nat):ct B N U J S w (eV ml id s) a:=by
 unfold eV;split
 ·rename_i k _;refine ⟨⟨by rw [Bj];exact aK.T.len,fun i u x hu al=>?_,fun i u x hu al=>?_⟩,aK.H,aK.M⟩
  all_goals simp only at hu
  ·rcases x0 k s.T i with h | h
   ·rw [h] at hu;exact aK.T.rel i u x hu al
   ·rw [h] at hu;simp only [rZ] at hu;obtain ⟨_,_,rfl⟩:=hu;exact .junk _
  ·rcases x0 k s.T i with h | h
   ·rw [h] at hu;exact aK.T.own i u x hu al
   ·rw [h] at hu;simp only [rZ] at hu;obtain ⟨_,_,rfl⟩:=hu;exact aV.b3 rfl
 ·exact aK
theorem Step.here {s:a5} {a:Act} (aK:ct B N U J S w s a):Step B N U J S w s a w:=⟨U,J,S,Ext.refl J,bg.refl U S w,aK⟩
theorem xb {F:Fence} (bB:ei F) {C:b6} (bt:c_ P C) {lo:Nat} {ops:Array Oper} {aF:a5} {Q:Exit→Act→World→Prop} :
  ∀ (rest:List Oper) (as:List b5) (s:a5) (a:Act) (w:World) (U:Nat→Option aI) (J:List Nat) (S:Nat→Nat→Prop),eG P C lo ops rest as s=some aF→ct B N U J S w s a →
    (∀ aM w',Step B N U J S w aF aM w'→Q .normal aM w')→wpListIn F 0 P ops Q rest a w
 | [],as,s,a,w,U,J,S,h,aK,bl=>by
   simp only [eG,Option.some.injEq] at h;subst h;exact bl a w (Step.here aK)
 | o::rest,as,s,a,w,U,J,S,h,aK,bl=>by
   simp only [eG] at h;unfold wpListIn;split at h
   ·rename_i hw;rw [k8 aK hw];simp only [if_true];simp only [se] at h;obtain ⟨s1,ad,af⟩:=h;refine xO bB bt ad aK fun aM w' ai=>?_;obtain ⟨b2,cQ,a4,aJ,aP,b'⟩:=ai;exact xb bB bt rest as.tail s1 aM w' b2 cQ a4 af b' fun gM hh dM=>bl gM hh (dM.trans aJ aP)
   ·rename_i hw;rw [k8 aK hw];simp only [tF,if_false];exact ⟨fun f _=>bB.fn f,xb bB bt rest as.tail _ _ w U J S h (aK.skip o.dst) bl⟩
   ·simp at h
end
end Go.Proofs.YtfakoboiahbhaaaGreat.Ab


namespace Go.Proofs.YtfakoboiahbhaaaGreat.Ab
open Go
theorem lC {xs ys:List Nat} (h:jt xs ys=true) (x:Nat) (al:x∈xs):x ∉ ys:=by
 simp only [jt,sy] at h;have:=h x al;simpa using this
theorem xL (u:I):u.settle.settle=u.settle:=by
 cases u <;> try rfl
 rename_i c n k;cases k <;> rfl
theorem xU (u:I):u.settle.view=u.view:=by
 cases u <;> try rfl
 rename_i c n k;cases k <;> rfl
theorem mM (T:List I) (t j:Nat):(fM T t (c4 T t))[j]?=if t=j then (T[j]?).map I.settle else T[j]?:=by
 have aO:c4 T t=T.getD t .junk:=fS T t;by_cases g0:t=j
 ·subst g0;simp only [if_true];cases h:T[t]? with
  | none =>
    (have aw:c4 T t=.junk:=by rw [aO,sE,h];rfl);rw [aw];simp [fM,h]
  | some u =>
    (have aw:c4 T t=u:=by rw [aO,sE,h];rfl);have aU:=(sa.1 h).1;rw [aw];(cases u <;> try (simp [fM,h,I.settle];done));rename_i c n k;cases k <;> simp only [fM,h,I.settle,gI,sd] <;> rw [sg aU]
 ·simp only [g0,if_false];unfold fM;split
  ·rw [gI,si g0]
  ·rfl
theorem k3 (T:List I) (t j:Nat) (v:I):(gH T t v)[j]?=if t=j then (T[j]?).map fun _=>v else T[j]?:=by
 rw [gI];by_cases h:t=j
 ·subst h;simp only [if_true];rcases sR t T.length with ak | ak
  ·rw [sg ak,sk ak];rfl
  ·rw [td (by simpa using ak),td ak];rfl
 ·rw [si h];simp [h]
theorem jY:∀ (xs:List Operand) (ts:List Bool) (T:List I) (j:Nat),
  ((rd T ts xs).2)[j]?=(T[j]?).map fun u=>if j∈cZ ts xs then .junk else if j∈tmpsOf xs then u.settle else u
 | [],ts,T,j=>by simp [rd,cZ,tmpsOf]
 | .tmp t::rest,ts,T,j=>by
   (have ax:tmpsOf (.tmp t::rest)=t::tmpsOf rest:=by simp [tmpsOf]);rw [ax];cases bI:ts.headD false with
   | true =>
     simp only [rd,bI,cZ];rw [jY rest ts.tail,k3];by_cases g0:t=j
     ·subst g0;simp only [if_true,sj,true_or];cases T[t]? with
      | none=>rfl
      | some u=>simp only [sd,I.settle];split <;> simp
     ·have pH:¬ j=t:=fun e=>g0 e.symm;simp [g0,pH]
   | false =>
     simp only [rd,bI,cZ];rw [jY rest ts.tail,mM];by_cases g0:t=j
     ·subst g0;simp only [if_true,sj,true_or];cases T[t]? with
      | none=>rfl
      | some u=>simp only [sd,xL];split <;> (try split) <;> rfl
     ·have pH:¬ j=t:=fun e=>g0 e.symm;simp [g0,pH]
 | .const v::rest,ts,T,j=>by simpa [rd,cZ,tmpsOf] using jY rest ts.tail T j
 | .func f::rest,ts,T,j=>by simpa [rd,cZ,tmpsOf] using jY rest ts.tail T j
 | .global g::rest,ts,T,j=>by simpa [rd,cZ,tmpsOf] using jY rest ts.tail T j
theorem B2 {T a7:List I} {t:Nat} (h:(T[t]?).map I.settle=(a7[t]?).map I.settle):(c4 T t).view=(c4 a7 t).view:=by
 rw [fS,fS,sE,sE];cases ad:T[t]? <;> cases af:a7[t]? <;> rw [ad,af] at h <;> simp at h <;> simp only [uC];rw [←xU,h,xU]
theorem jX:∀ (xs:List Operand) (ts:List Bool) (T a7:List I),(∀ t∈tmpsOf xs,(T[t]?).map I.settle=(a7[t]?).map I.settle)→(∀ t∈cZ ts xs,T[t]?=a7[t]?) →
  (rd T ts xs).1=(rd a7 ts xs).1
 | [],ts,T,a7,_,_=>by simp [rd]
 | .tmp t::rest,ts,T,a7,ad,af=>by
   (have ax:tmpsOf (.tmp t::rest)=t::tmpsOf rest:=by simp [tmpsOf]);rw [ax] at ad;cases bI:ts.headD false with
   | true =>
     simp only [cZ,bI] at af;simp only [rd,bI];have e:T[t]?=a7[t]?:=af t (by simp);rw [jX rest ts.tail (gH T t .junk) (gH a7 t .junk) (fun u hu=>?_) (fun u hu=>?_)]
     ·congr 1;rw [fS,fS,sE,sE,e]
     ·rw [k3,k3];by_cases g2:t=u
      ·subst g2;simp [e]
      ·simp [g2,ad u (by simp [hu])]
     ·rw [k3,k3];by_cases g2:t=u
      ·subst g2;simp [e]
      ·simp [g2,af u (by simp [hu])]
   | false =>
     simp only [cZ,bI] at af;simp only [rd,bI];have e:=ad t (by simp);rw [jX rest ts.tail (fM T t (c4 T t)) (fM a7 t (c4 a7 t)) (fun u hu=>?_) (fun u hu=>?_),B2 e]
     ·rw [mM,mM];by_cases g2:t=u
      ·subst g2;simp only [if_true,e]
      ·simp only [g2,if_false];exact ad u (by simp [hu])
     ·rw [mM,mM];by_cases g2:t=u
      ·subst g2;simp only [if_true,e]
      ·simp only [g2,if_false];exact af u hu
 | .const v::rest,ts,T,a7,ad,af=>by
   simp only [rd];rw [jX rest ts.tail T a7 (by simpa [tmpsOf] using ad) (by simpa [cZ] using af)];rfl
 | .func f::rest,ts,T,a7,ad,af=>by
   simp only [rd];rw [jX rest ts.tail T a7 (by simpa [tmpsOf] using ad) (by simpa [cZ] using af)];rfl
 | .global g::rest,ts,T,a7,ad,af=>by
   simp only [rd];rw [jX rest ts.tail T a7 (by simpa [tmpsOf] using ad) (by simpa [cZ] using af)];rfl
section
variable {P:Program}
theorem m3 {C:b6} {lo mode:Nat} {o:Oper} {us:List I} {r:I} {H H':List au} (ao:dh o mode=0) (h:a8 P C lo o mode us H=some (r,H')) :
  H'=H∧∀ a2,a8 P C lo o mode us a2=some (r,a2):=by
 have base:∀ {x:Option I},x.map (fun y=>(y,H))=some (r,H')→H'=H∧∀ a2:List au,x.map (fun y=>(y,a2))=some (r,a2):=fun {x} h=>by
  simp only [rZ,Prod.mk.injEq] at h;obtain ⟨_,rfl,rfl,rfl⟩:=h;exact ⟨rfl,fun _=>rfl⟩
 have l1:∀ {t:TypeId} {x:Operand},mode=0→eP P lo mode t x H us=some (r,H')→H'=H∧∀ a2,eP P lo mode t x a2 us=some (r,a2):=fun hm h=>by
  subst hm;unfold eP at h;simp only [eP];split at h
  ·simp only at h ⊢;split at h
   ·simp only [rZ,Prod.mk.injEq] at h;obtain ⟨z,bm,rfl,rfl⟩:=h;exact ⟨rfl,fun _=>by simp [bm]⟩
   ·cases h;exact ⟨rfl,fun _=>rfl⟩
  ·simp at h
 cases aD:o.op <;> simp only [dh,aD] at ao <;> simp only [a8,aD] at h ⊢
 case move x=>exact l1 (by by_cases h:mode=0 <;> simp_all) h
 case assign x=>exact l1 (by by_cases h:mode=0 <;> simp_all) h
 case load t a =>
  have hm:mode=3:=by by_cases h:mode=0 <;> by_cases af:mode=2 <;> by_cases aG:mode=3 <;> by_cases bL:mode=5 <;> simp_all
  subst hm;unfold dO at h;simp only [dO];split at h
  ·simp only at h ⊢;split at h
   ·exact base h
   ·cases h
  ·cases h
 case makeSlice t a b =>
  have hm:mode≠0:=by intro h;simp [h] at ao
  unfold jU at h;simp only [jU];split at h
  ·split at h
   ·rename_i iK;split at h
    ·exact absurd rfl hm
    ·split at h
     ·rename_i af;simp only [rZ,Prod.mk.injEq] at h;obtain ⟨x,al,rfl,rfl⟩:=h;exact ⟨rfl,fun _=>by obtain ⟨e,aS⟩:=af;subst e;simp [al,aS]⟩
     ·simp at h
   ·simp at h
  ·simp at h
 case box e x =>
  have hm:mode≠0:=by intro h;simp [h] at ao
  unfold gC at h;simp only [gC];split at h
  ·split at h
   ·exact absurd rfl hm
   ·split at h
    ·rename_i ae;split at h
     ·rename_i aC;cases h;exact ⟨rfl,fun _=>by simp [ae,aC]⟩
     ·cases h
    ·cases h
  ·cases h
 case buildSlice t len parts =>
  split at h
  ·exact base h
  ·simp only [rZ,Prod.mk.injEq] at h ⊢;obtain ⟨x,al,rfl,rfl⟩:=h;exact ⟨rfl,fun _=>⟨x,al,rfl,trivial⟩⟩
 case call c =>
  split at ao
  ·split at ao
   ·by_cases hm:mode=0 <;> simp [hm] at ao
   all_goals simp at ao
  ·rename_i f hX;simp only [hX] at h ⊢;have hm:mode=3:=by
    by_cases aS:mode=0
    ·simp [aS] at ao
    ·by_cases aG:mode=3
     ·exact aG
     ·by_cases a6:mode=4 <;> by_cases bV:mode=6 <;> simp [aS,aG,a6,bV] at ao
   subst hm;unfold hy at h;simp only [hy];split at h
   ·unfold kf at h;simp only [kf];have key:∀ {b0:e3} {args:List I},eS C lo 3 b0 args H=some (r,H')→H'=H∧∀ a2,eS C lo 3 b0 args a2=some (r,a2):=fun {b0 args} h=>by
     simp only [eS] at h ⊢;split at h
     ·simp only [se] at h;obtain ⟨x,al,h⟩:=h;simp only [rZ,Prod.mk.injEq] at h;obtain ⟨v,ae,rfl,rfl⟩:=h;rename_i aC;exact ⟨rfl,fun a2=>by simp [al,ae]⟩
     ·simp at h
    split at h
    ·exact key h
    ·exact key h
    ·simp at h
   ·simp at h
  ·simp at ao
 case store=>simp at ao
 case alloc=>simp at ao
 case makeMap=>simp at ao
 case mapUpdate=>simp at ao
 case lookup=>simp at ao
 case range=>simp at ao
 case entry=>simp at ao
 all_goals exact base h
def dT (H a2:List au):Prop:=∀ (id:Nat) (o:au),H[id]?=some o→a2[id]?=some o∨(∃ l l',o=.cells l∧a2[id]?=some (.cells l')∧l'.map I.view=l.map I.view)∨∃ l l' g z,o=.grow l g z∧a2[id]?=some (.grow l' g z)∧l'.map I.view=l.map I.view
theorem dT.cells {H a2:List au} (h:dT H a2) {id:Nat} {l:List I} (aE:H[id]?=some (.cells l)):∃ l',a2[id]?=some (.cells l')∧l'.map I.view=l.map I.view:=by
 rcases h id _ aE with h | ⟨cv,l',ad,af,aG⟩ | ⟨_,_,_,_,ad,_⟩
 ·exact ⟨l,h,rfl⟩
 ·cases ad;exact ⟨l',af,aG⟩
 ·cases ad
theorem dT.grow {H a2:List au} (h:dT H a2) {id g z:Nat} {l:List I} (aE:H[id]?=some (.grow l g z)):∃ l',a2[id]?=some (.grow l' g z)∧l'.map I.view=l.map I.view:=by
 rcases h id _ aE with h | ⟨_,_,ad,_⟩ | ⟨cv,l',F8,cU,ad,af,aG⟩
 ·exact ⟨l,h,rfl⟩
 ·cases ad
 ·cases ad;exact ⟨l',af,aG⟩
theorem dT.append (H:List au) (X:List au):dT H (H++X):=fun id o h=>.inl (by
 rw [sB (sa.1 h).1];exact h)
theorem zc {t:TypeId} {l l':List I} {off:Nat} (h:l'.map I.view=l.map I.view):er P t l' off=er P t l off:=by
 have ak:l'.length=l.length:=by have:=congrArg List.length h;simpa using this
 unfold er;split
 ·have:∀ s,((l'.drop off).take s).map I.view=((l.drop off).take s).map I.view:=fun s=>by
   rw [uE,uF,h,←uF,←uE]
  simp only [ak,this]
 ·split
  ·have:=congrArg (fun x=>x[off]?) h;simpa using this
  ·rfl
theorem Bs {H a2:List au} (ai:dT H a2) {t:TypeId} {a r:I} (h:dR P H t a=some r):dR P a2 t a=some r:=by
 unfold dR at h ⊢;split at h
 ·split at h
  ·rename_i l aE;obtain ⟨l',ad,af⟩:=ai.cells aE;rw [ad];simp only;rw [zc af];exact h
  ·rename_i l g z aE;obtain ⟨l',ad,af⟩:=ai.grow aE;rw [ad];simp only;rw [zc af];exact h
  ·simp at h
 ·exact h
 ·simp at h
theorem Aq {H a2:List au} (ai:dT H a2) {x:I} {row:List I} (h:rowOf H x=some row):rowOf a2 x=some row:=by
 unfold rowOf at h ⊢;split at h
 ·exact h
 ·split at h
  ·rename_i l aE;obtain ⟨l',ad,af⟩:=ai.cells aE;(have ak:l'.length=l.length:=by have:=congrArg List.length af;simpa using this);rw [ad];simp only [ak]
   have:∀ s off,((l'.drop off).take s).map I.view=((l.drop off).take s).map I.view:=fun s off=>by
    rw [uE,uF,af,←uF,←uE]
   simp only [this];exact h
  ·simp at h
 ·simp at h
theorem Bz {H a2:List au} (ai:dT H a2) {x:I} {r:Nat×List I} (h:appended H x=some r):appended a2 x=some r:=by
 unfold appended at h ⊢;split at h
 ·rename_i m row hm aj;rw [hm,Aq ai aj];exact h
 ·simp at h
theorem Bm {H a2:List au} (ai:dT H a2) {t dm:TypeId} {s x r:I} (h:e4 P H t dm s x=some r):e4 P a2 t dm s x=some r:=by
 unfold e4 at h ⊢;split at h
 ·split at h
  ·rename_i sz bytes z ad af aG;split at h
   ·rename_i ag;split at h
    ·rename_i m new cd;simp only [Bz ai cd];split at h
     ·rename_i ao;rw [if_pos ao];split at h
      ·exact h
      ·rename_i id off len cap oa;split at h
       ·rename_i hW;rw [if_pos hW];simp only [se] at h;obtain ⟨fI,aq,h⟩:=h;simp only [Aq ai aq,r_];exact h
       ·simp at h
      ·simp at h
     ·simp at h
    ·simp at h
   ·exact h
  ·simp at h
 ·simp at h
theorem jr {C:b6} {lo mode:Nat} {o:Oper} {us:List I} {r:I} {H H':List au} (ao:dh o mode=1) (h:a8 P C lo o mode us H=some (r,H')) :
  H'=H∧∀ a2,dT H a2→a8 P C lo o mode us a2=some (r,a2):=by
 cases aD:o.op <;> simp only [dh,aD] at ao <;> simp only [a8,aD] at h ⊢
 case load =>
  have hm:mode=0:=by by_cases h:mode=0 <;> by_cases af:mode=2 <;> by_cases aG:mode=3 <;> by_cases bL:mode=5 <;> simp_all
  subst hm;unfold dO at h;simp only [dO];split at h
  ·simp only [rZ,Prod.mk.injEq] at h ⊢;obtain ⟨v,ae,rfl,rfl⟩:=h;exact ⟨rfl,fun a2 ai=>⟨v,Bs ai ae,rfl,trivial⟩⟩
  ·simp at h
 case call c =>
  split at ao
  ·rename_i b o8;simp only [o8] at h ⊢;split at ao
   ·(have hm:mode=0:=by by_cases h:mode=0 <;> simp_all);subst hm;simp only [et,iU] at h ⊢;split at h
    ·split at h
     ·simp only [rZ,Prod.mk.injEq] at h ⊢;obtain ⟨v,ae,rfl,rfl⟩:=h;exact ⟨rfl,fun a2 ai=>⟨v,Bm ai ae,rfl,trivial⟩⟩
     ·simp at h
    ·simp at h
   ·simp only [et,g_] at h ⊢;split at h
    ·split at h
     ·split at h <;> simp at h;obtain ⟨rfl,rfl⟩:=h;exact ⟨rfl,fun _ _=>by simp_all⟩
     ·split at h <;> simp at h;obtain ⟨rfl,rfl⟩:=h;exact ⟨rfl,fun _ _=>by simp_all⟩
     ·split at h
      ·rename_i ax aE;simp at h;obtain ⟨rfl,rfl⟩:=h;refine ⟨rfl,fun a2 ai=>?_⟩;rcases ai _ _ aE with h | ⟨l,l',h,_⟩ | ⟨_,_,_,_,h,_⟩
       ·simp [ax,h]
       ·cases h
       ·cases h
      ·simp at h
     ·split at h
      ·simp at h;obtain ⟨rfl,rfl⟩:=h;exact ⟨rfl,fun _ _=>by simp_all⟩
      ·simp at h
    ·simp at h
   ·simp only [et,jS] at h ⊢;split at h
    ·split at h <;> simp at h;obtain ⟨rfl,rfl⟩:=h;exact ⟨rfl,fun _ _=>by simp_all⟩
    ·split at h <;> simp at h;obtain ⟨rfl,rfl⟩:=h;exact ⟨rfl,fun _ _=>by simp_all⟩
    ·simp at h
   ·simp only [et,rZ,Prod.mk.injEq] at h ⊢;obtain ⟨v,ae,rfl,rfl⟩:=h;exact ⟨rfl,fun _ _=>⟨v,ae,rfl,trivial⟩⟩
   ·simp only [et,rZ,Prod.mk.injEq] at h ⊢;obtain ⟨v,ae,rfl,rfl⟩:=h;exact ⟨rfl,fun _ _=>⟨v,ae,rfl,trivial⟩⟩
   ·simp at ao
  ·exfalso;by_cases aS:mode=0
   ·simp [aS] at ao
   ·by_cases aG:mode=3
    ·simp [aG] at ao
    ·by_cases a6:mode=4 <;> by_cases bV:mode=6 <;> simp [aS,aG,a6,bV] at ao
  ·simp at ao
 case move=>by_cases h:mode=0 <;> simp [h] at ao
 case assign=>by_cases h:mode=0 <;> simp [h] at ao
 case makeSlice=>by_cases h:mode=0 <;> simp [h] at ao
 case box=>by_cases h:mode=0 <;> simp [h] at ao
 all_goals simp at ao
theorem BM {C:b6} {lo mode:Nat} {o:Oper} {us:List I} {r:I} {H H':List au} (ao:dh o mode=3) (h:a8 P C lo o mode us H=some (r,H')):H'=H:=by
 have base:∀ {x:Option I},x.map (fun y=>(y,H))=some (r,H')→H'=H:=fun {x} h=>by
  simp only [rZ,Prod.mk.injEq] at h;obtain ⟨_,rfl,rfl,rfl⟩:=h;rfl
 cases aD:o.op <;> simp only [dh,aD] at ao <;> simp only [a8,aD] at h
 case load=>by_cases h:mode=0 <;> by_cases af:mode=2 <;> by_cases aG:mode=3 <;> by_cases bL:mode=5 <;> simp [h,af,aG,bL] at ao
 case call c =>
  split at ao
  ·split at ao
   ·by_cases hm:mode=0 <;> simp [hm] at ao
   all_goals simp at ao
  ·rename_i f hX;simp only [hX] at h;have hm:mode=0∨mode=4∨mode=6:=by
    by_cases aS:mode=0
    ·exact .inl aS
    ·by_cases aG:mode=3
     ·simp [aG] at ao
     ·by_cases a6:mode=4
      ·exact .inr (.inl a6)
      ·by_cases bV:mode=6
       ·exact .inr (.inr bV)
       ·simp [aS,aG,a6,bV] at ao
   have key:∀ {b0:e3} {args:List I},eS C lo mode b0 args H=some (r,H')→H'=H:=fun {b0 args} h=>by
    rcases hm with rfl | rfl | rfl
    ·simp only [eS,se] at h;obtain ⟨x,_,h⟩:=h;exact base h
    ·simp only [eS,se,rZ,Prod.mk.injEq] at h;obtain ⟨x,_,v,_,_,h⟩:=h;exact h.symm
    ·simp only [eS] at h;split at h
     ·simp only [se] at h;obtain ⟨x,_,v,_,h⟩:=h;split at h
      ·simp only [Option.some.injEq,Prod.mk.injEq] at h;exact h.2.symm
      ·cases h
     ·cases h
   unfold hy at h;split at h
   ·unfold kf at h;split at h
    ·exact key h
    ·exact key h
    ·simp at h
   ·simp at h
  ·simp at ao
 case move=>by_cases h:mode=0 <;> simp [h] at ao
 case assign=>by_cases h:mode=0 <;> simp [h] at ao
 case makeSlice=>by_cases h:mode=0 <;> simp [h] at ao
 case box=>by_cases h:mode=0 <;> simp [h] at ao
 all_goals simp at ao
theorem FM {off:Nat} {l:List I} {u:I} (hu:l[off]?=some u):(l.set off u.view).map I.view=l.map I.view:=by
 rw [uG];have kD:u.view.view=u.view:=I.ka (I.df u);rw [kD];apply tA;intro j;by_cases aw:off=j
 ·subst aw;rw [sg (by simpa using (sa.1 hu).1),sr,hu];rfl
 ·rw [si aw]
theorem EV {H:List au} {id off g z:Nat} {l:List I} {u:I} (aE:H[id]?=some (.grow l g z)) (hu:l[off]?=some u):dT H (H.set id (.grow (l.set off u.view) g z))∧dT (H.set id (.grow (l.set off u.view) g z)) H:=by
 have ae:=FM hu;have aU:=(sa.1 aE).1;constructor
 ·intro i o h;by_cases hi:id=i
  ·subst hi;rw [aE] at h;cases h;exact .inr (.inr ⟨l,_,g,z,rfl,sg aU,ae⟩)
  ·exact .inl (by rw [si hi];exact h)
 ·intro i o h;by_cases hi:id=i
  ·subst hi;rw [sg aU] at h;cases h;exact .inr (.inr ⟨_,l,g,z,rfl,aE,ae.symm⟩)
  ·rw [si hi] at h;exact .inl h
theorem AK {H:List au} {id off:Nat} {l:List I} {u:I} (aE:H[id]?=some (.cells l)) (hu:l[off]?=some u):dT H (H.set id (.cells (l.set off u.view)))∧dT (H.set id (.cells (l.set off u.view))) H:=by
 have ae:(l.set off u.view).map I.view=l.map I.view:=by
  rw [uG];have kD:u.view.view=u.view:=I.ka (I.df u);rw [kD];apply tA;intro j;by_cases aw:off=j
  ·subst aw;rw [sg (by simpa using (sa.1 hu).1),sr,hu];rfl
  ·rw [si aw]
 have aU:=(sa.1 aE).1;constructor
 ·intro i o h;by_cases hi:id=i
  ·subst hi;rw [aE] at h;cases h;exact .inr (.inl ⟨l,_,rfl,sg aU,ae⟩)
  ·exact .inl (by rw [si hi];exact h)
 ·intro i o h;by_cases hi:id=i
  ·subst hi;rw [sg aU] at h;cases h;exact .inr (.inl ⟨_,l,rfl,aE,ae.symm⟩)
  ·rw [si hi] at h;exact .inl h
theorem yd {C:b6} {lo mode:Nat} {o:Oper} {us:List I} {r:I} {H H':List au} (ao:dh o mode=5) (h:a8 P C lo o mode us H=some (r,H')):dT H H'∧dT H' H:=by
 have refl:dT H H:=fun id o h=>.inl h;cases aD:o.op <;> simp only [dh,aD] at ao <;> simp only [a8,aD] at h
 case load t a =>
  have hm:mode≠0:=by intro h;simp [h] at ao
  unfold dO at h;split at h
  ·split at h
   ·exact absurd rfl hm
   ·simp at ao
   ·simp at ao
   ·split at h
    ·split at h
     ·split at h
      ·rename_i l aE;split at h
       ·rename_i c n z cW;cases h;exact AK aE cW
       ·rename_i c n z cW;rw [if_neg (by intro af;simp [af] at ao)] at h;cases h;exact AK aE cW
       ·cases h;exact ⟨refl,refl⟩
       ·simp at h
      ·rename_i l g z aE;split at h
       ·rename_i c n cU cW;cases h;exact EV aE cW
       ·cases h;exact ⟨refl,refl⟩
       ·cases h
      ·simp at h
     ·simp at h
    ·simp at h
  ·simp at h
 case call c =>
  split at ao
  ·split at ao
   ·by_cases hm:mode=0 <;> simp [hm] at ao
   all_goals simp at ao
  ·exfalso;by_cases aS:mode=0
   ·simp [aS] at ao
   ·by_cases aG:mode=3
    ·simp [aG] at ao
    ·by_cases a6:mode=4 <;> by_cases bV:mode=6 <;> simp [aS,aG,a6,bV] at ao
  ·simp at ao
 case move=>by_cases h:mode=0 <;> simp [h] at ao
 case assign=>by_cases h:mode=0 <;> simp [h] at ao
 case makeSlice=>by_cases h:mode=0 <;> simp [h] at ao
 case box=>by_cases h:mode=0 <;> simp [h] at ao
 all_goals simp at ao
theorem BN {C:b6} {lo mode:Nat} {o:Oper} {us:List I} {r:I} {H H':List au} (ao:dh o mode=6) (h:a8 P C lo o mode us H=some (r,H')):dT H H':=by
 cases aD:o.op <;> simp only [dh,aD] at ao <;> simp only [a8,aD] at h
 case load=>by_cases h:mode=0 <;> by_cases af:mode=2 <;> by_cases aG:mode=3 <;> by_cases bL:mode=5 <;> simp [h,af,aG,bL] at ao
 case box e x =>
  have hm:mode=0:=by by_cases h:mode=0 <;> simp_all
  subst hm;unfold gC at h;split at h
  ·simp only [rZ,Prod.mk.injEq] at h;obtain ⟨_,_,_,rfl⟩:=h;exact dT.append _ _
  ·simp at h
 case alloc t =>
  unfold kQ at h;split at h
  ·simp only [rZ,Prod.mk.injEq] at h;obtain ⟨_,_,_,rfl⟩:=h;exact dT.append _ _
  ·split at h
   ·simp only [rZ,Prod.mk.injEq] at h;obtain ⟨_,_,_,rfl⟩:=h;exact dT.append _ _
   ·cases h
 case call c =>
  split at ao
  ·split at ao
   ·by_cases hm:mode=0 <;> simp [hm] at ao
   all_goals simp at ao
  ·exfalso;by_cases aS:mode=0
   ·simp [aS] at ao
   ·by_cases aG:mode=3
    ·simp [aG] at ao
    ·by_cases a6:mode=4 <;> by_cases bV:mode=6 <;> simp [aS,aG,a6,bV] at ao
  ·simp at ao
 case move=>by_cases h:mode=0 <;> simp [h] at ao
 case assign=>by_cases h:mode=0 <;> simp [h] at ao
 case makeSlice=>by_cases h:mode=0 <;> simp [h] at ao
 all_goals simp at ao
noncomputable def dt (P:Program) (C:b6) (lo:Nat) (ops:Array Oper) (o:Oper) (an:b5) (s:a5):Option a5 :=
 match eu ops o s.T with
 | some true=>Ab.execOp P C lo o an s
 | some false=>some ⟨put s.T o.dst (.tuple []),s.H⟩
 | none=>none
theorem Bb {ops:Array Oper} {o:Oper} {T a7:List I} (h:∀ t∈oU ops o,(T[t]?).map I.settle=(a7[t]?).map I.settle):eu ops o T=eu ops o a7:=by
 unfold eu;split
 ·rfl
 ·rename_i j want aO;split
  ·rename_i d aZ;have hm:=h d (by simp [oU,aO,aZ]);have ai:(c4 T d).settle=(c4 a7 d).settle:=by
    rw [fS,fS,sE,sE];cases ad:T[d]? <;> cases af:a7[d]? <;> rw [ad,af] at hm <;> simp at hm <;> simp [hm]
   have key:∀ x:I,(match x with | .bool b=>some (b == want) | .tuple []=>some false | _=>none)=(match x.settle with | .bool b=>some (b == want) | .tuple []=>some false | _=>none):=fun x=>by
    (cases x <;> try rfl);rename_i c n k;cases k <;> rfl
   exact (key _).trans (Eq.trans (by rw [ai]) (key _).symm)
  ·rfl
theorem nU (T:List I) (d:Option Nat) (v:I) (j:Nat):(put T d v)[j]?=if d=some j then (T[j]?).map fun _=>v else T[j]?:=by
 cases d with
 | none=>simp [put]
 | some d=>simp only [put,k3,Option.some.injEq]
def gS (o:Oper) (an:b5) (w:Bool) (r:I) (j:Nat) (u:I):I :=
 if o.dst=some j then r else if w=false then u else if j∈cZ an.takes (opsOf o) then .junk else if j∈tmpsOf (opsOf o) then u.settle else u
theorem ya {o:Oper} {mode:Nat} (h:calm o mode=true) (T:List I) (v:I):inPlace o mode T v=T:=by
 unfold inPlace;split
 ·rfl
 ·rfl
 ·rename_i hm _;split
  ·rename_i aD;simp [calm,aD] at h;exact absurd h hm
  ·rename_i aD;simp [calm,aD] at h;exact absurd h hm
  ·rfl
theorem A4 {C:b6} {lo:Nat} {ops:Array Oper} {o:Oper} {an:b5} {s aF:a5} (o6:calm o an.mode=true) (h:dt P C lo ops o an s=some aF) :
  ∃ w r,eu ops o s.T=some w∧(∀ j,aF.T[j]?=(s.T[j]?).map (gS o an w r j)) ∧
    (w=true→a8 P C lo o an.mode (fo (dN o) (rd s.T an.takes (opsOf o)).1) s.H=some (r,aF.H))∧(w=false→r=.tuple []∧aF.H=s.H):=by
 unfold dt at h;split at h
 ·rename_i hw;obtain ⟨r,H',aD,rfl⟩:=oM h;refine ⟨true,r,hw,fun j=>?_,fun _=>aD,by simp⟩;rw [ya o6];simp only [nU,jY];cases s.T[j]? with
  | none=>split <;> rfl
  | some u=>by_cases aZ:o.dst=some j <;> simp [gS,aZ]
 ·rename_i hw;simp only [Option.some.injEq] at h;subst h;refine ⟨false,.tuple [],hw,fun j=>?_,by simp,fun _=>⟨rfl,rfl⟩⟩;simp only [nU];cases s.T[j]? with
  | none=>split <;> rfl
  | some u=>by_cases aZ:o.dst=some j <;> simp [gS,aZ]
 ·simp at h
theorem A2 {C:b6} {lo:Nat} {ops:Array Oper} {o:Oper} {an:b5} {s:a5} (o6:calm o an.mode=true) {w:Bool} {r:I} {H':List au} (hw:eu ops o s.T=some w)
  (ad:w=true→a8 P C lo o an.mode (fo (dN o) (rd s.T an.takes (opsOf o)).1) s.H=some (r,H')) (af:w=false→r=.tuple []∧H'=s.H) :
  ∃ a7,dt P C lo ops o an s=some ⟨a7,H'⟩∧∀ j,a7[j]?=(s.T[j]?).map (gS o an w r j):=by
 cases w with
 | true =>
   refine ⟨put (inPlace o an.mode (rd s.T an.takes (opsOf o)).2 r) o.dst r,?_,fun j=>?_⟩
   ·have ad:=ad rfl;simp only [dt,hw,Ab.execOp];unfold fo at ad;cases ak:dN o <;> rw [ak] at ad <;> simp only at ad ⊢ <;> rw [ad] <;> rfl
   ·rw [ya o6];simp only [nU,jY];cases s.T[j]? with
    | none=>split <;> rfl
    | some u=>by_cases aZ:o.dst=some j <;> simp [gS,aZ]
 | false =>
   obtain ⟨rfl,rfl⟩:=af rfl;refine ⟨put s.T o.dst (.tuple []),by simp only [dt,hw],fun j=>?_⟩;simp only [nU];cases s.T[j]? with
   | none=>split <;> rfl
   | some u=>by_cases aZ:o.dst=some j <;> simp [gS,aZ]
theorem Dq {t:TypeId} {H:List au} {id c dV:Nat} {es es':List (Nat×I×I)} (aE:H[id]?=some (.map es c)) (a:I):dR P (H.set id (.map es' dV)) t a=dR P H t a:=by
 have ak:=(sa.1 aE).1;unfold dR;cases a with
 | ptr i off =>
   simp only;by_cases h:id=i
   ·subst h;rw [sg ak,aE]
   ·rw [si h]
 | _=>rfl
theorem Dr {C:b6} {lo:Nat} {bA bQ:Oper} {de:Nat} {us vs:List I} {r1 r2:I} {H a2:List au} (h:kK bA 0 bQ=true) (ad:a8 P C lo bA 0 us H=some (r1,H)) (af:a8 P C lo bQ de vs H=some (r2,a2)) :
  a8 P C lo bA 0 us a2=some (r1,a2):=by
 unfold kK at h;split at h
 ·rename_i t x ja m k v iM dZ;simp only [a8,iM] at ad ⊢;simp only [a8,dZ] at af;unfold dO at ad ⊢;split at ad
  ·rename_i a;simp only [rZ,Prod.mk.injEq] at ad;obtain ⟨r,ad,rfl,-⟩:=ad;have key:∃ id c es dV es',H[id]?=some (.map es c)∧a2=H.set id (.map es' dV):=by
    unfold iW at af;split at af
    ·split at af
     ·split at af
      ·split at af
       ·split at af
        ·rename_i aE;split at af
         ·cases af;exact ⟨_,_,_,_,_,aE,rfl⟩
         ·cases af;exact ⟨_,_,_,_,_,aE,rfl⟩
         ·simp at af
        ·simp at af
       ·simp at af
      ·simp at af
     ·simp at af
    ·simp at af
   obtain ⟨id,c,es,dV,es',aE,rfl⟩:=key;simp only;rw [Dq aE,ad];rfl
  ·simp at ad
 ·simp at h
theorem A0 {C:b6} {lo:Nat} {ops:Array Oper} {bA bQ:Oper} {aB aH:b5} (hi:indep ops bA aB bQ aH=true) {s s1 s2:a5} (ad:dt P C lo ops bA aB s=some s1) (af:dt P C lo ops bQ aH s1=some s2) :
  ∃ s3,dt P C lo ops bQ aH s=some s3∧dt P C lo ops bA aB s3=some s2:=by
 simp only [indep,sv] at hi;obtain ⟨⟨⟨⟨⟨⟨⟨d1,d2⟩,d3⟩,d4⟩,d5⟩,a'⟩,bk⟩,bI⟩:=hi;have e1:∀ t,bA.dst=some t→t ∉ eZ ops bQ:=fun t ax=>lC d1 t (by simp [ax]);have ck:∀ t,bQ.dst=some t→t ∉ eZ ops bA:=fun t ax=>lC d2 t (by simp [ax]);have dE:∀ t,bA.dst=some t→bQ.dst≠some t:=fun t ax h=>lC d3 t (by simp [ax]) (by simp [h]);have oH:=lC d4;have oI:=lC d5;have hG:∀ (xs:List Operand) (ts:List Bool) (t:Nat),t∈cZ ts xs→t∈tmpsOf xs:=by
  intro xs
  induction xs with
  | nil=>intro ts t h;simp [cZ] at h
  | cons x rest a_ =>
    intro ts t h;cases x with
    | tmp u =>
      (have ax:tmpsOf (.tmp u::rest)=u::tmpsOf rest:=by simp [tmpsOf]);rw [ax];simp only [cZ] at h;split at h
      ·rcases sj.1 h with rfl | h
       ·simp
       ·exact tR _ (a_ _ t h)
      ·exact tR _ (a_ _ t h)
    | const v=>simpa [tmpsOf] using a_ _ t (by simpa [cZ] using h)
    | func f=>simpa [tmpsOf] using a_ _ t (by simpa [cZ] using h)
    | global g=>simpa [tmpsOf] using a_ _ t (by simpa [cZ] using h)
 obtain ⟨bC,r1,cb,t1,fq,v1⟩:=A4 a' ad;obtain ⟨bT,r2,b8,t2,gf,v2⟩:=A4 bk af;have cD:∀ (o:Oper) (a:b5) (w:Bool) (r:I) (t:Nat),o.dst≠some t→t ∉ cZ a.takes (opsOf o)→∀ u,(gS o a w r t u).settle=u.settle:=fun o a w r t aZ ax u=>by
  unfold gS;rw [if_neg aZ];split
  ·rfl
  ·by_cases h:t∈tmpsOf (opsOf o) <;> simp only [h,if_true,if_false];exact xL u
 have stay:∀ (o:Oper) (a:b5) (w:Bool) (r:I) (t:Nat),o.dst≠some t→t ∉ tmpsOf (opsOf o)→∀ u,gS o a w r t u=u:=fun o a w r t aZ ax u=>by
  unfold gS;rw [if_neg aZ];split
  ·rfl
  ·have Db:t ∉ cZ a.takes (opsOf o):=fun h=>ax (hG _ _ t h);simp only [Db,if_false]
 have dd:∀ t∈eZ ops bQ,(s1.T[t]?).map I.settle=(s.T[t]?).map I.settle:=fun t ax=>by
  rw [t1];cases s.T[t]? with
  | none=>rfl
  | some u=>simp only [sd];rw [cD bA aB bC r1 t (fun h=>e1 t h ax) (fun h=>oH t h ax)]
 have aJ:∀ t∈cZ aH.takes (opsOf bQ),s1.T[t]?=s.T[t]?:=fun t ax=>by
  rw [t1];have aN:bA.dst≠some t:=fun h=>e1 t h (by simp [eZ,hG _ _ t ax]);have pt:t ∉ tmpsOf (opsOf bA):=fun h=>oI t ax (by simp [eZ,h]);cases s.T[t]? with
  | none=>rfl
  | some u=>simp only [sd];rw [stay bA aB bC r1 t aN pt]
 have B5:eu ops bQ s.T=some bT:=by rw [←b8];exact (Bb fun t ax=>dd t (by simp [eZ,ax])).symm
 have dA:(rd s1.T aH.takes (opsOf bQ)).1=(rd s.T aH.takes (opsOf bQ)).1:=jX _ _ _ _ (fun t ax=>dd t (by simp [eZ,ax])) aJ;have zY:∀ {o:Oper} {a:b5} {us:List I} {r:I} {H H':List au},dh o a.mode=1∨dh o a.mode=3→a8 P C lo o a.mode us H=some (r,H')→H'=H:=fun ao aD=>by
  rcases ao with ao | ao
  ·exact (jr ao aD).1
  ·exact BM ao aD
 have av:dh bA aB.mode=0∨dh bQ aH.mode=0∨((dh bA aB.mode=1∨dh bA aB.mode=3)∧(dh bQ aH.mode=1∨dh bQ aH.mode=3)) ∨
   (dh bA aB.mode=1∧dh bQ aH.mode=5)∨(dh bA aB.mode=5∧dh bQ aH.mode=1)∨(dh bA aB.mode=1∧dh bQ aH.mode=6)∨(aB.mode=0∧kK bA 0 bQ=true):=by
  rw [tL] at bI;rcases bI with bI | bI
  rotate_left
  ·refine .inr (.inr (.inr (.inr (.inr (.inr ?_)))));have aS:aB.mode=0:=by
    unfold kK at bI;split at bI
    ·simpa using bI
    ·simp at bI
   rw [aS] at bI;exact ⟨aS,bI⟩
  simp only [bO,tL,sv,beq_iff_eq] at bI;rcases bI with ((((h | h) | h) | h) | h) | h
  ·exact .inl h
  ·exact .inr (.inl h)
  ·exact .inr (.inr (.inl h))
  ·exact .inr (.inr (.inr (.inl h)))
  ·exact .inr (.inr (.inr (.inr (.inl h))))
  ·exact .inr (.inr (.inr (.inr (.inr (.inl h)))))
 have mem:∃ hO,(bT=true→a8 P C lo bQ aH.mode (fo (dN bQ) (rd s.T aH.takes (opsOf bQ)).1) s.H=some (r2,hO))∧(bT=false→r2=.tuple []∧hO=s.H) ∧
   (bC=true→∀ vs,a8 P C lo bA aB.mode vs s.H=some (r1,s1.H)→a8 P C lo bA aB.mode vs hO=some (r1,s2.H))∧(bC=false→s2.H=hO):=by
  cases bT with
  | false =>
    obtain ⟨q1,aW⟩:=v2 rfl;refine ⟨s.H,by simp,fun _=>⟨q1,rfl⟩,fun _ vs h=>by rw [aW];exact h,fun hw=>by rw [aW];exact (v1 hw).2⟩
  | true =>
    have dZ:=gf rfl;rw [dA] at dZ;cases bC with
    | false =>
      have q:=(v1 rfl).2;rw [q] at dZ;exact ⟨s2.H,fun _=>dZ,by simp,by simp,fun _=>rfl⟩
    | true =>
      have iM:=fq rfl;rcases av with h | h | ⟨h,aX⟩ | ⟨h,aX⟩ | ⟨h,aX⟩ | ⟨h,aX⟩ | ⟨h,aX⟩
      ·have q:=(m3 h iM).1;rw [q] at dZ;exact ⟨s2.H,fun _=>dZ,by simp,fun _ vs bI=>(m3 h bI).2 s2.H,by simp⟩
      ·have q:=(m3 h dZ).1;refine ⟨s.H,fun _=>(m3 h dZ).2 s.H,by simp,fun _ vs bI=>by rw [q];exact bI,by simp⟩
      ·have q1:=zY h iM;have aW:=zY aX dZ;rw [aW,q1] at dZ;exact ⟨s.H,fun _=>dZ,by simp,fun _ vs bI=>by rw [aW];exact bI,by simp⟩
      ·have q1:=(jr h iM).1;rw [q1] at dZ;exact ⟨s2.H,fun _=>dZ,by simp,fun _ vs bI=>(jr h bI).2 s2.H (yd aX dZ).1,by simp⟩
      ·obtain ⟨aW,cz⟩:=jr aX dZ;exact ⟨s.H,fun _=>cz s.H (yd h iM).2,by simp,fun _ vs bI=>by rw [aW];exact bI,by simp⟩
      ·have q1:=(jr h iM).1;rw [q1] at dZ;exact ⟨s2.H,fun _=>dZ,by simp,fun _ vs bI=>(jr h bI).2 s2.H (BN aX dZ),by simp⟩
      ·have q1:s1.H=s.H:=by
        have ao:dh bA aB.mode=1:=by
         unfold kK at aX;split at aX
         ·rename_i aD _;simp only [dh,aD,h];rfl
         ·simp at aX
        exact (jr ao iM).1
       rw [q1] at dZ;refine ⟨s2.H,fun _=>dZ,by simp,fun _ vs bI=>?_,by simp⟩;rw [q1] at bI;rw [h] at bI ⊢;exact Dr aX bI dZ
 obtain ⟨hO,bo,cI,ez,jq⟩:=mem;obtain ⟨dC,C7,o1⟩:=A2 (C:=C) (lo:=lo) (s:=s) bk B5 bo cI;have de:∀ t∈eZ ops bA,(dC[t]?).map I.settle=(s.T[t]?).map I.settle:=fun t ax=>by
  rw [o1];cases s.T[t]? with
  | none=>rfl
  | some u=>simp only [sd];rw [cD bQ aH bT r2 t (fun h=>ck t h ax) (fun h=>oI t h ax)]
 have aP:∀ t∈cZ aB.takes (opsOf bA),dC[t]?=s.T[t]?:=fun t ax=>by
  rw [o1];have aN:bQ.dst≠some t:=fun h=>ck t h (by simp [eZ,hG _ _ t ax]);have pt:t ∉ tmpsOf (opsOf bQ):=fun h=>oH t ax (by simp [eZ,h]);cases s.T[t]? with
  | none=>rfl
  | some u=>simp only [sd];rw [stay bQ aH bT r2 t aN pt]
 have B4:eu ops bA dC=some bC:=by rw [←cb];exact Bb fun t ax=>de t (by simp [eZ,ax])
 have d_:(rd dC aB.takes (opsOf bA)).1=(rd s.T aB.takes (opsOf bA)).1:=jX _ _ _ _ (fun t ax=>de t (by simp [eZ,ax])) aP
 obtain ⟨Bl,C8,B'⟩:=A2 (C:=C) (lo:=lo) (s:=⟨dC,hO⟩) (r:=r1) (H':=s2.H) a' B4 (fun hw=>by
  simp only;rw [d_];exact ez hw _ (fq hw)) (fun hw=>⟨(v1 hw).1,jq hw⟩)
 refine ⟨⟨dC,hO⟩,C7,?_⟩;rw [C8];congr 1
 have:Bl=s2.T:=by
  apply tA;intro j;rw [B',t2];simp only [o1,t1];cases s.T[j]? with
  | none=>rfl
  | some u =>
    simp only [sd,Option.some.injEq];unfold gS;have FV:=dE j;have la:=e1 j;have lb:=ck j;have Bg:=oH j;have Bh:=oI j;have xZ:=hG (opsOf bA) aB.takes j;have oi:=hG (opsOf bQ) aH.takes j;simp only [eZ,List.mem_append,not_or] at la lb Bg Bh;by_cases bR:bA.dst=some j
    ·have q:=(la bR).2;have fL:j ∉ cZ aH.takes (opsOf bQ):=fun h=>q (oi h);simp only [bR,if_true,FV bR,if_false,q,fL];split <;> rfl
    ·by_cases b4:bQ.dst=some j
     ·have q:=(lb b4).2;have fL:j ∉ cZ aB.takes (opsOf bA):=fun h=>q (xZ h);simp only [bR,b4,if_true,if_false,q,fL];split <;> rfl
     ·simp only [bR,b4,if_false];by_cases ob:j∈cZ aB.takes (opsOf bA)
      ·have q:=(Bg ob).2;have fL:j ∉ cZ aH.takes (opsOf bQ):=fun h=>q (oi h);simp only [ob,q,fL,if_true,if_false];split <;> split <;> rfl
      ·by_cases xR:j∈cZ aH.takes (opsOf bQ)
       ·have q:=(Bh xR).2;simp only [ob,xR,q,if_true,if_false];split <;> split <;> rfl
       ·simp only [ob,xR,if_false];by_cases EN:j∈tmpsOf (opsOf bA) <;> by_cases EO:j∈tmpsOf (opsOf bQ) <;> simp only [EN,EO,if_true,if_false] <;> split <;> split <;> first | rfl | rw [xL]
 rw [this]
end
end Go.Proofs.YtfakoboiahbhaaaGreat.Ab


namespace Go.Proofs.YtfakoboiahbhaaaGreat.Ab
open Go
section
variable {P:Program}
theorem mv (ms:List Nat) (j:Nat):∀ (l:List Edge) (nI:Nat),(l.foldl (fun m e=>if Region.binds .any e then m ||| (ms.getD e.on 0 ||| 1 <<< e.on) else m) nI).testBit j=true →
  nI.testBit j=true∨∃ e∈l,Region.binds .any e=true∧((ms.getD e.on 0).testBit j=true∨j=e.on)
 | [],nI,h=>.inl h
 | e::l,nI,h=>by
   simp only [List.foldl_cons] at h;rcases mv ms j l _ h with ad | ⟨cM,jB,ag,ad⟩
   ·by_cases ag:Region.binds .any e=true
    ·simp only [ag,if_true,Nat.testBit_or,tL] at ad;rcases ad with ad | ad | ad
     ·exact .inl ad
     ·exact .inr ⟨e,by simp,ag,.inl ad⟩
     ·refine .inr ⟨e,by simp,ag,.inr ?_⟩;rw [Nat.one_shiftLeft,Nat.testBit_two_pow] at ad;simpa using (of_decide_eq_true ad).symm
    ·simp only [ag] at ad;exact .inl ad
   ·exact .inr ⟨cM,by simp [jB],ag,ad⟩
def lB (ops:Array Oper) (listed:Array Bool):Prop :=
 ∀ k o,ops[k]?=some o→listed.getD k true=true→∀ e∈o.after,Region.binds .any e=true→listed.getD e.on false=true
noncomputable def cw (P:Program) (C:b6) (lo:Nat) (ops:Array Oper) (as:List b5):List Nat→a5→Option a5
 | [],s=>some s
 | i::r,s=>match ops[i]? with
   | none=>cw P C lo ops as r s
   | some o=>(dt P C lo ops o (as.getD i {}) s).bind (cw P C lo ops as r)
theorem yl {C:b6} {lo:Nat} {ops:Array Oper} {as:List b5}:∀ (l:List Oper) (k:Nat) (s:a5),(∀ j,l[j]?=ops[k+j]?)→eG P C lo ops l (as.drop k) s=cw P C lo ops as (List.range' k l.length) s
 | [],k,s,_=>by simp [eG,cw]
 | o::l,k,s,h=>by
   (have aS:ops[k]?=some o:=by simpa using (h 0).symm);have a_:=fun s=>yl (C:=C) (lo:=lo) (as:=as) l (k+1) s (fun j=>by have:=h (j+1);simpa [Nat.add_assoc,Nat.add_comm 1 j] using this);(have aZ:(as.drop k).headD {}=as.getD k {}:=by rw [List.headD_eq_head?_getD,List.head?_drop,sE]);(have ax:(as.drop k).tail=as.drop (k+1):=by rw [List.tail_drop]);simp only [eG,sL,List.range'_succ,cw,aS,aZ,ax];unfold dt;split
   ·rename_i hw;simp only [hw];congr 1;funext aF;exact a_ aF
   ·rename_i hw;simp only [hw];exact a_ _
   ·rename_i hw;simp only [hw];rfl
def eD (n:Nat) (listed:Array Bool):List Nat:=(List.range n).filter fun i=>!listed.getD i true
theorem z5 {n i:Nat} {listed:Array Bool}:eD n (listed.setIfInBounds i true)=(eD n listed).erase i:=by
 have jG:(eD n listed).Nodup:=List.nodup_range.filter _;rw [jG.erase_eq_filter];simp only [eD,List.filter_filter];congr 1;funext j;by_cases gW:j=i
 ·subst gW;rcases sR j listed.size with h | h
  ·simp [ss,h]
  ·simp [ss,h]
 ·have:(listed.setIfInBounds i true).getD j true=listed.getD j true:=by
   simp only [ss];rw [Array.getElem?_setIfInBounds_ne (Ne.symm gW)]
  rw [this];simp [gW]
theorem xH {C:b6} {lo:Nat} {ops:Array Oper} {as:List b5} {i:Nat} {cO:Oper} (hi:ops[i]?=some cO) {aF:a5}:∀ (l:List Nat) (s:a5),l.Pairwise (·<·)→i∈l →
  (∀ j∈l,j<i→∀ c1,ops[j]?=some c1→indep ops c1 (as.getD j {}) cO (as.getD i {})=true)→cw P C lo ops as l s=some aF →
  ∃ s1,dt P C lo ops cO (as.getD i {}) s=some s1∧cw P C lo ops as (l.erase i) s1=some aF
 | [],s,_,h,_,_=>by simp at h
 | j::r,s,aC,hm,jD,h=>by
   by_cases gY:j=i
   ·subst gY;simp only [cw,hi,se] at h;obtain ⟨s1,ad,af⟩:=h;exact ⟨s1,ad,by simpa using af⟩
   ·have aj:i∈r:=by
     rcases sj.1 hm with h | h
     ·exact absurd h.symm gY
     ·exact h
    have aU:j<i:=(tB.1 aC).1 i aj;have he:(j::r).erase i=j::r.erase i:=by
     rw [List.erase_cons];simp [gY]
    rw [he];simp only [cw] at h ⊢;cases aw:ops[j]? with
    | none =>
      simp only [aw] at h;exact xH hi r s (tB.1 aC).2 aj (fun k av=>jD k (by simp [av])) h
    | some c1 =>
      simp only [aw,se] at h;obtain ⟨s1,ad,af⟩:=h;obtain ⟨s2,aJ,aP⟩:=xH hi r s1 (tB.1 aC).2 aj (fun k av=>jD k (by simp [av])) af;obtain ⟨s3,q1,aW⟩:=A0 (jD j (by simp) aU c1 aw) ad aJ;exact ⟨s3,q1,by dsimp only;rw [aW];exact aP⟩
variable {B N:Nat} {J:List Nat} {w:World} {U:Nat→Option aI} {S:Nat→Nat→Prop}
theorem A3 {F:Fence} (bB:ei F) {C:b6} (bt:c_ P C) {lo:Nat} {ops:Array Oper} {Q:Exit→Act→World→Prop} {i:Nat} {o:Oper} (hi:ops[i]?=some o) {an:b5} {s aF:a5}
  (h:dt P C lo ops o an s=some aF) {a:Act} (aK:ct B N U J S w s a) {K:Act→World→Prop} (fB:∀ aM w',Step B N U J S w aF aM w'→K aM w'):wpOpIn F 0 P ops Q i K a w:=by
 unfold wpOpIn;simp only [hi];unfold dt at h;split at h
 ·rename_i hw;rw [k8 aK hw];simp only [if_true];exact xO bB bt h aK fB
 ·rename_i hw;rw [k8 aK hw];simp only [tF,if_false];simp only [Option.some.injEq] at h;subst h;exact ⟨fun f _=>bB.fn f,fB _ _ (Step.here (aK.skip o.dst))⟩
 ·simp at h
theorem Bu {F:Fence} (bB:ei F) {C:b6} (bt:c_ P C) {lo:Nat} {ops:Array Oper} {as:List b5} (aZ:m5 ops as=true) {Q:Exit→Act→World→Prop} {aF:a5} :
  ∀ (fuel:Nat) (listed:Array Bool) (s:a5) (a:Act) (w:World) (U:Nat→Option aI) (J:List Nat) (S:Nat→Nat→Prop),(eD ops.size listed).length≤fuel→lB ops listed →
    cw P C lo ops as (eD ops.size listed) s=some aF→ct B N U J S w s a→(∀ aM w',Step B N U J S w aF aM w'→Q .normal aM w')→wpAnyIn F 0 P .any ops Q fuel listed a w:=by
 have c9:∀ j c1,ops[j]?=some c1→((g5 ops.toList []).getD j 0=mu (g5 ops.toList []) c1)∧(∀ e∈c1.after,Region.binds .any e=true→e.on<j) ∧
   ∀ i cO,i<j→ops[i]?=some cO→((g5 ops.toList []).getD j 0).testBit i=true∨indep ops cO (as.getD i {}) c1 (as.getD j {})=true:=fun j c1 aw=>by
  have aU:j<ops.size:=(sW.1 aw).1;simp only [m5,zG,sy,sG] at aZ;have h:=aZ j aU;rw [aw] at h;simp only [sv,beq_iff_eq,sy,sG] at h;obtain ⟨⟨ad,af⟩,aG⟩:=h;refine ⟨ad,fun e he ag=>?_,fun i cO gW hi=>?_⟩
  ·have:=af e (by simpa using he);simp only [ag,Bool.not_true,Bool.false_or] at this;simpa [Nat.blt_eq] using this
  ·have:=aG i gW;rw [hi] at this;simpa using this
 have xq:∀ (listed:Array Bool),lB ops listed→∀ (n k:Nat) ok,k≤n→ops[k]?=some ok→(∀ e∈ok.after,Region.binds .any e=true→listed.getD e.on false=true) →
   ∀ j,((g5 ops.toList []).getD k 0).testBit j=true→listed.getD j false=true:=by
  intro listed cC n
  induction n with
  | zero =>
    intro k ok av aq eI j aw;rw [(c9 k ok aq).1] at aw;rcases mv _ j _ _ aw with h | ⟨e,he,ag,h⟩
    ·simp at h
    ·have:=(c9 k ok aq).2.1 e (by simpa using he) ag;omega
  | succ n a_ =>
    intro k ok av aq eI j aw;rw [(c9 k ok aq).1] at aw;rcases mv _ j _ _ aw with h | ⟨e,he,ag,h⟩
    ·simp at h
    ·(have jB:e∈ok.after:=by simpa using he);have aU:=(c9 k ok aq).2.1 e jB ag;have h1:=eI e jB ag;rcases h with h | rfl
     ·have ks:=(sW.1 aq).1;have l2:ops[e.on]?=some ops[e.on]:=sC (by omega);have pB:listed.getD e.on true=true:=by
       rcases sR e.on listed.size with aX | aX
       ·simp [ss,aX] at h1 ⊢;exact h1
       ·simp [ss,aX] at h1
      exact a_ e.on _ (by omega) l2 (cC e.on _ l2 pB) j h
     ·exact h1
 intro fuel
 induction fuel with
 | zero =>
   intro listed s a w U J S pd cC dL aK bl;have h0:eD ops.size listed=[]:=tu.1 (by omega);rw [h0] at dL;simp only [cw,Option.some.injEq] at dL;subst dL;refine ⟨?_,bl a w (Step.here aK)⟩;rw [uH];intro i hi;obtain ⟨ad,o,aq,_⟩:=mem_ready.1 hi
   have:i∈eD ops.size listed:=by
    simp only [eD,sO,sG];exact ⟨(sW.1 aq).1,by simp [ad]⟩
   rw [h0] at this;simp at this
 | succ fuel a_ =>
   intro listed s a w U J S pd cC dL aK bl;refine ⟨fun aj=>?_,fun i hi=>?_⟩
   ·
    have h0:eD ops.size listed=[]:=by
     rw [uH];intro i
     induction i using Nat.strongRecOn with
     | _ i pO =>
       intro hi;simp only [eD,sO,sG] at hi;obtain ⟨aU,dq⟩:=hi;have aq:ops[i]?=some ops[i]:=sC aU
       have:i∈Region.ready .any ops listed:=mem_ready.2 ⟨by simpa using dq,_,aq,fun e he ag=>by
        have hZ:=(c9 i _ aq).2.1 e he ag;have kx:=pO e.on hZ;simp only [eD,sO,sG,not_and] at kx;have ak:=kx (by omega);rcases sR e.on listed.size with aX | aX
        ·simp [ss,aX] at ak ⊢;exact ak
        ·rcases sR i listed.size with lI | lI
         ·omega
         ·simp [ss,lI] at dq⟩
       rw [aj] at this;simp at this
    rw [h0] at dL;simp only [cw,Option.some.injEq] at dL;subst dL;exact bl a w (Step.here aK)
   ·obtain ⟨ad,cO,ee,eI⟩:=mem_ready.1 hi;have aU:=(sW.1 ee).1;have ku:i∈eD ops.size listed:=by
     simp only [eD,sO,sG];exact ⟨aU,by simp [ad]⟩
    have C':(eD ops.size listed).Pairwise (·<·):=List.pairwise_lt_range.filter _
    obtain ⟨s1,q1,aW⟩:=xH ee (eD ops.size listed) s C' ku (fun j aw gY c1 pA=>by
     rcases (c9 i cO ee).2.2 j c1 gY pA with h | h
     ·have:=xq listed cC i i cO (sc _) ee eI j h;simp only [eD,sO,sG] at aw;have dq:=aw.2;rcases sR j listed.size with aX | aX
      ·simp [ss,aX] at dq this;rw [this] at dq;simp at dq
      ·simp [ss,aX] at dq
     ·exact h) dL
    refine A3 bB bt ee q1 aK fun aM w' ai=>?_;obtain ⟨b2,cQ,a4,aJ,aP,b'⟩:=ai;refine a_ (listed.setIfInBounds i true) s1 aM w' b2 cQ a4 ?_ ?_ (by rw [z5];exact aW) b' fun gM hh dM=>bl gM hh (dM.trans aJ aP)
    ·rw [z5,List.length_erase_of_mem ku];omega
    ·intro k ok av ak e he ag;by_cases lZ:k=i
     ·subst lZ;rw [ee] at av;cases av;exact getD_set_true (eI e he ag)
     ·have:listed.getD k true=true:=by rw [getD_set_ne true (Ne.symm lZ)] at ak;exact ak
      exact getD_set_true (cC k ok av this e he ag)
theorem z1 {F:Fence} (bB:ei F) (hm:P.follows .mixedOrders=true) {C:b6} (bt:c_ P C) {lo id:Nat} {ops:Array Oper} {draw:Bool} {as:List b5} (aZ:draw=true→m5 ops as=true) {Q:Exit→Act→World→Prop} {s aF:a5} {a:Act}
  (h:eG P C lo ops ops.toList as s=some aF) (aK:ct B N U J S w s a) (bl:∀ aM w',Step B N U J S w aF aM w'→Q .normal aM w'):(Code.region id ops draw).wpIn F 0 P Q a w:=by
 cases draw with
 | false=>exact wpIn_region_list (xb bB bt ops.toList as s a w U J S h aK bl)
 | true =>
   refine wpIn_region_any hm ?_;have hw:aL B U J S w.drew s.H:=l6 aK.H;have aA:=kg U S w;have fT:ct B N U J S w.drew s a:=⟨⟨aK.T.len,fun i u v hu ae=>(aK.T.rel i u v hu ae).mono (Ext.refl J) aA.set,fun i u v hu ae=>(aK.T.own i u v hu ae).mono (Ext.refl J) aA.set fun b ag=>⟨ag,rfl,fun _ h=>h⟩⟩,hw,aK.M.aA aA⟩;have aj:=yl (P:=P) (C:=C) (lo:=lo) (as:=as) (ops:=ops) ops.toList 0 s (by simp);rw [sM,h] at aj;have kz:eD ops.size (Array.replicate ops.size false)=List.range ops.size:=by
    simp only [eD];rw [List.filter_eq_self];intro i hi;have hi:=sG.1 hi;simp [ss,hi]
   refine Bu bB bt (aZ rfl) ops.size (Array.replicate ops.size false) s a w.drew U J S (by rw [kz];simp) ?_ (by rw [kz,List.range_eq_range',←tw];exact aj.symm) fT fun aM w' ai=>bl aM w' (ai.trans (Ext.refl J) aA);intro k o aq ak;have aU:=(sW.1 aq).1;simp [ss,aU] at ak
end
end Go.Proofs.YtfakoboiahbhaaaGreat.Ab


namespace Go.Proofs.YtfakoboiahbhaaaGreat.Ab
open Go
section
variable {P:Program} {C:b6}
theorem BU (bt:c_ P C) {lo:Nat} {o:Oper} {an:b5} {s aF:a5} (h:Ab.execOp P C lo o an s=some aF):ba lo s.H aF.H:=by
 obtain ⟨r,H',aD,rfl⟩:=oM h;exact D3 bt aD
theorem oN (bt:c_ P C) {lo:Nat} {ops:Array Oper}:∀ (l:List Oper) (as:List b5) (s aF:a5),eG P C lo ops l as s=some aF→ba lo s.H aF.H
 | [],as,s,aF,h=>by simp only [eG,Option.some.injEq] at h;subst h;exact ba.refl _ _
 | o::l,as,s,aF,h=>by
   simp only [eG] at h;split at h
   ·simp only [se] at h;obtain ⟨s1,ad,af⟩:=h;exact (BU bt ad).trans (oN bt l _ _ _ af)
   ·have:=oN bt l _ _ _ h;exact this
   ·simp at h
theorem y_ (ml:List (Nat×List Bool)) (id:Nat) (s:a5):(eV ml id s).H=s.H:=by
 unfold eV;split <;> rfl
theorem zg {lo:Nat} {f:a5→Option (cB×a5)} (aQ:∀ s e aF,f s=some (e,aF)→ba lo s.H aF.H):∀ (n:Nat) (s:a5) (e:cB) (aF:a5),h9 f n s=some (e,aF)→ba lo s.H aF.H
 | 0,s,e,aF,h=>by simp [h9] at h
 | n+1,s,e,aF,h=>by
   simp only [h9] at h;split at h
   ·rename_i s1 ad;exact (aQ _ _ _ ad).trans (zg aQ n _ _ _ h)
   ·exact aQ _ _ _ h
theorem oO (bt:c_ P C) {A:c7} {fn:FuncId} {lo d:Nat} {rl:Option Nat}:∀ (c:Code) (aY:Nat) (s:a5) (e:cB) (aF:a5),exec P A C fn lo d rl c aY s=some (e,aF)→ba lo s.H aF.H:=by
 intro c
 induction c with
 | skip=>intro aY s e aF h;simp only [exec,Option.some.injEq,Prod.mk.injEq] at h;obtain ⟨_,rfl⟩:=h;exact ba.refl _ _
 | region id ops draw =>
   intro aY s e aF h;simp only [exec] at h;split at h
   ·cases h
   simp only [rZ,Prod.mk.injEq] at h;obtain ⟨s1,h,_,rfl⟩:=h;have:=oN bt _ _ _ _ h
   rwa [y_] at this
 | seq a b e_ fm =>
   intro aY s e aF h;simp only [exec] at h;split at h
   ·rename_i s1 ad;exact (e_ _ _ _ _ ad).trans (fm _ _ _ _ h)
   ·exact e_ _ _ _ _ h
 | cond c a b e_ fm =>
   intro aY s e aF h;simp only [exec] at h;split at h
   ·exact e_ _ _ _ _ h
   ·exact fm _ _ _ _ h
   ·simp at h
 | block id c a_ =>
   intro aY s e aF h;simp only [exec] at h;split at h
   ·rename_i bx s1 ad;split at h <;> simp only [Option.some.injEq,Prod.mk.injEq] at h <;> obtain ⟨_,rfl⟩:=h <;> exact a_ _ _ _ _ ad
   ·exact a_ _ _ _ _ h
 | loop c a_ =>
   intro aY s e aF h;simp only [exec] at h;exact zg (fun s e aF h=>by have:=a_ _ _ _ _ h;rwa [y_] at this) _ _ _ _ h
 | exit id=>intro aY s e aF h;simp only [exec,Option.some.injEq,Prod.mk.injEq] at h;obtain ⟨_,rfl⟩:=h;exact ba.refl _ _
 | ret=>intro aY s e aF h;simp only [exec,Option.some.injEq,Prod.mk.injEq] at h;obtain ⟨_,rfl⟩:=h;exact ba.refl _ _
 | scope c a_=>intro aY s e aF h;simp only [exec] at h;exact a_ _ _ _ _ h
 | label l=>intro aY s e aF h;simp only [exec,Option.some.injEq,Prod.mk.injEq] at h;obtain ⟨_,rfl⟩:=h;exact ba.refl _ _
 | goto l=>intro aY s e aF h;simp [exec] at h
 | refuse y=>intro aY s e aF h;simp [exec] at h
 | rangeFunc g bh a b e_ fm =>
   intro aY s e aF h;simp only [exec] at h;have key:∀ {H':List au} {r:I} {b0:e3} {args:List I} {x:au},C b0 args (s.H++[x]) lo=some (r,H')→ba lo s.H (H'.set s.H.length .dead):=fun {H' r b0 args x} ao=>by
    have ak:=bt.low ao;refine ⟨?_,fun id ad af=>?_⟩
    ·have:=ak.1;simp at this ⊢;omega
    ·rw [si (by omega),ak.2 id ad (by simp;omega),sB af]
   split at h
   ·split at h
    ·rename_i r H' ao;split at h
     ·split at h
      ·simp at h
      ·split at h
       ·simp only [Option.some.injEq,Prod.mk.injEq] at h;obtain ⟨_,rfl⟩:=h;exact key ao
       ·simp only [Option.some.injEq,Prod.mk.injEq] at h;obtain ⟨_,rfl⟩:=h;exact key ao
       ·simp only [Option.some.injEq,Prod.mk.injEq] at h;obtain ⟨_,rfl⟩:=h;exact key ao
       ·simp at h
     ·simp at h
    ·simp at h
   ·simp at h
end
section
variable {P:Program} {F:Fence} {n:Nat} {b:Frame} {a:Act} {k:List Item} {cs:List Frame} {w:World} {Q:Exit→Act→World→Prop}
theorem k4 {c:Code}:step P (lone (b.atR a (.code (.scope c)::k)) cs w)=.next (lone (b.atR a (.code c::.inScope c::k)) cs w) :=
 step_lone_go (by simp [stepG,stepG.exec,Frame.atR])
theorem FC {c:Code}:step P (lone (b.atR a (.inScope c::k)) cs w)=.next (lone (b.atR a k) cs w) :=
 step_lone_go (by simp [stepG,stepG.exec,Frame.atR])
theorem Bd {c:Code} (h:c.wpIn F n P Q a w) (aO:∀ l a w,¬ Q (.goto l) a w):(Code.scope c).wpIn F n P Q a w:=by
 intro b k cs C5 ag aj;have aS:(lone (b.atR a (.code (.scope c)::k)) cs w).fenced P F:=fenced_calm ag aj rfl;obtain ⟨e,kc,k_,a3,hr⟩:=h b (.inScope c::k) cs C5 ag aj;have al:∀ id,exitTo id (.inScope c::k)=exitTo id k:=fun id=>by simp [exitTo]
 cases e with
 | normal=>exact ⟨.normal,kc,k_,a3,.head aS k4 (StepsIn.trans hr (.one (fenced_calm ag aj rfl) FC))⟩
 | exit id =>
   exact ⟨.exit id,kc,k_,a3,fun k' av=>.head aS k4 (hr.1 k' (by rw [al];exact av)),
    fun yS av=>let ⟨k₁,ad,af⟩:=hr.2 yS (by rw [al];exact av);⟨k₁,ad,.head aS k4 af⟩⟩
 | goto l=>exact absurd a3 (aO l kc k_)
 | ret=>exact ⟨_,kc,k_,a3,.of_steps (.one aS k4) hr⟩
 | panic F5=>exact ⟨_,kc,k_,a3,.of_steps (.one aS k4) hr⟩
 | outgrown=>exact ⟨_,kc,k_,a3,.of_steps (.one aS k4) hr⟩
end
end Go.Proofs.YtfakoboiahbhaaaGreat.Ab


namespace Go.Proofs.YtfakoboiahbhaaaGreat.Ab
open Go
section
variable {P:Program} {B N:Nat} {J:List Nat} {w:World} {H:List au} {U:Nat→Option aI} {S:Nat→Nat→Prop}
theorem AL:∀ (T:List I) (bd:List Value) (bz:Nat→aI) (S:Nat→Nat→Prop),(∀ i j,bz i=bz j→i=j)→(∀ i id,bz i≠.obj id)→(∀ i id j,bz i≠.cell id j) →
  a9 bz U J S w T bd→aL B U J S w H →
  ∃ S':Nat→Nat→Prop,(∀ b o,S b o→S' b o)∧(∀ b o,S' b o→S b o∨∃ i,U b=some (bz i))∧aL B U J S' w H∧a9 bz U J S' w (T.map I.settle) bd∧a9 bz U J S' w (T.map I.view) bd:=by
 intro T
 induction T with
 | nil=>intro bd bz S _ _ _ ae ah;exact ⟨S,fun _ _ h=>h,fun _ _ h=>.inl h,ah,by simpa using ae,by simpa using ae⟩
 | cons u T a_ =>
   intro bd bz S aw ca cn ae ah;obtain ⟨v,hH,rfl,aj,aq,ax⟩:=ae.gK;have first:∃ a4:Nat→Nat→Prop,(∀ b o,S b o→a4 b o)∧(∀ b o,a4 b o→S b o∨U b=some (bz 0))∧aL B U J a4 w H∧Rel J a4 w u.view v∧Rel J a4 w u.settle v∧aV U J a4 w (bz 0) u.settle v:=by
    by_cases hu:u.cT=true
    ·have ai:u.settle=u:=by
      (cases u <;> try rfl);rename_i c n k;cases k <;> first | rfl | simp [I.cT] at hu
     exact ⟨S,fun _ _ h=>h,fun _ _ h=>.inl h,ah,aj.view hu,by rw [ai];exact aj,by rw [ai];exact aq⟩
    ·obtain ⟨cells,len,z,rfl⟩:∃ cells len z,u=.ay cells len (.uniq z):=by
      unfold I.cT at hu;split at hu
      ·exact ⟨_,_,_,rfl⟩
      ·simp at hu
     obtain ⟨a4,aJ,aP,cj,r1,r2,r3⟩:=j5 ah aj aq;exact ⟨a4,aJ,aP,ah.settle aJ (fun b o h=>(aP b o h).imp id fun h=>⟨_,h,ca 0,cn 0⟩) cj,r1,r2,r3⟩
   (obtain ⟨a4,aJ,aP,bW,dp,CX,pz⟩:=first);have pF:a9 (fun i=>bz (i+1)) U J a4 w T hH:=by
    refine ⟨ax.len,fun i bG br hu ae=>(ax.rel i bG br hu ae).mono (Ext.refl J) fun b o ai=>⟨aJ b o ai,rfl⟩,fun i bG br hu ae=>?_⟩;refine (ax.own i bG br hu ae).mono (Ext.refl J) (fun b o ai=>⟨aJ b o ai,rfl⟩) fun b ag=>⟨ag,rfl,fun o ai=>?_⟩;rcases aP b o ai with h | h
    ·exact h
    ·rw [ag] at h;injection h with h;exact absurd (aw _ _ h) (by omega)
   obtain ⟨S',dr,dj,cc,d_,dA⟩:=a_ hH (fun i=>bz (i+1)) a4 (fun i j h=>by have:=aw _ _ h;omega) (fun i=>ca (i+1)) (fun i=>cn (i+1)) pF bW;have cm:∀ b o,a4 b o→S' b o∧w.cell? ⟨b,o,none⟩=w.cell? ⟨b,o,none⟩:=fun b o ai=>⟨dr b o ai,rfl⟩;refine ⟨S',fun b o h=>dr b o (aJ b o h),fun b o h=>?_,cc,?_,?_⟩
   ·rcases dj b o h with h | ⟨i,h⟩
    ·exact (aP b o h).imp id fun h=>⟨0,h⟩
    ·exact .inr ⟨i+1,h⟩
   ·refine a9.cons (CX.mono (Ext.refl J) cm) (pz.mono (Ext.refl J) cm fun b ag=>⟨ag,rfl,fun o h=>?_⟩) d_;rcases dj b o h with h | ⟨i,h⟩
    ·exact h
    ·rw [ag] at h;injection h with h;exact absurd (aw _ _ h) (by omega)
   ·exact a9.cons (dp.mono (Ext.refl J) cm) (aV.b3 (I.df _)) dA
theorem yj (ah:aL B U J S w H) (o:Obj):bg U S w U S (w.alloc o) :=
 ⟨rfl,rfl,rfl,by simp,fun b ag _=>heap_alloc_old w o b ag,fun b cL ai=>⟨ai,by obtain ⟨v,ae⟩:=ah.cf b cL ai;exact oD o (mq ae)⟩,fun _ _ ai=>.inl ai,fun _ ag=>.inl ag⟩
theorem C0 (ah:aL B U J S w H) (o:Obj):aL B U J S (w.alloc o) H:=by
 have aA:=yj ah o;refine ah.frame aA (fun b l ag _=>⟨ag,heap_alloc_old w o b (ah.base b l ag).2,fun _ h=>h⟩) (fun b cL ai=>?_) fun b l ag=>?_
 ·obtain ⟨v,ae⟩:=ah.cf b cL ai;exact ⟨v,((aA.set b cL ai).2).trans ae⟩
 ·have:=ah.base b l ag;exact ⟨this.1,by simp;omega⟩
theorem zi (ah:aL B U J S w H) {id b:Nat} {L:Loop} (fX:U b=some (.obj id)) (fi:w.heap[b]?=some (.loop L)) (im:Loop) :
  bg U S w U S (w.putObj b (.loop im))∧aL B U J S (w.putObj b (.loop im)) (H.set id .dead)∧(w.putObj b (.loop im)).heap[b]?=some (.loop im):=by
 have ag:b<w.heap.size:=(sW.1 fi).1;have bP:(w.putObj b (.loop im)).heap.size=w.heap.size:=by simp [World.putObj]
 have h2:∀ ar,ar≠b→(w.putObj b (.loop im)).heap[ar]?=w.heap[ar]?:=fun ar h=>World.putObj_heap_other h;have bM:∀ ar o,S ar o→ar≠b:=fun ar o ai e=>by
  subst e;obtain ⟨v,ae⟩:=ah.cf ar o ai;simp [World.cell?,fi] at ae
 have bu:∀ ar o,ar≠b→(w.putObj b (.loop im)).cell? ⟨ar,o,none⟩=w.cell? ⟨ar,o,none⟩:=fun ar o h=>by
  simp only [World.cell?,h2 ar h]
 have aA:bg U S w U S (w.putObj b (.loop im)):=by
  refine ⟨rfl,rfl,rfl,by omega,fun ar bp aN=>h2 ar (fun e=>by subst e;rw [fX] at aN;cases aN),fun ar o ai=>⟨ai,bu ar o (bM ar o ai)⟩,fun _ _ h=>.inl h,fun _ h=>.inl h⟩
 refine ⟨aA,⟨by simpa using ah.cE,fun bx o aq=>?_,fun ar o ai=>?_,fun ar l bp=>?_,by rw [bP];exact ah.cX⟩,World.putObj_heap_same ag⟩
 ·by_cases cu:bx=id
  ·subst cu;(have aU:bx<H.length:=by have:=(sa.1 aq).1;simpa using this);rw [sg aU] at aq;cases aq;trivial
  ·rw [si (Ne.symm cu)] at aq;refine (ah.obj bx o aq).frame (Ext.refl J) aA.set fun ar l bp ak=>⟨bp,h2 ar (fun e=>?_),fun _ h=>h⟩;subst e;rw [fX] at bp;cases bp;rcases ak with h | ⟨j,h⟩
   ·cases h;exact cu rfl
   ·cases h
 ·obtain ⟨v,ae⟩:=ah.cf ar o ai;exact ⟨v,(bu ar o (bM ar o ai)).trans ae⟩
 ·rw [bP];exact ah.base ar l bp
theorem Dv (ah:aL B U J S w H) {id b:Nat} {L:Loop} {st:LoopState} {cF:Option Code} {fn:FuncId} {T:List I} {bh:List Nat} {as bY:Code} {an:c7}
  (aE:H[id]?=some (.loop st cF fn T bh as bY an)) (ag:J[id]?=some b) (fi:w.heap[b]?=some (.loop L)) (hg:LoopState) (ha:Option Code) :
  bg U S w U S (w.putObj b (.loop { L with state:=hg,pending:=ha }))∧aL B U J S (w.putObj b (.loop { L with state:=hg,pending:=ha })) (H.set id (.loop hg ha fn T bh as bY an)) ∧
   (w.putObj b (.loop { L with state:=hg,pending:=ha })).heap[b]?=some (.loop { L with state:=hg,pending:=ha }):=by
 obtain ⟨la,lb,ar,oo,aB,aH,aR,bj,bb,bf,c0,c',dD⟩:=ah.obj id _ aE;rw [ag] at aB;cases aB;rw [fi] at aR;cases aR;obtain ⟨aA,cc,jC⟩:=zi ah aH fi { L with state:=hg,pending:=ha };refine ⟨aA,⟨by simpa using cc.cE,fun bx o aq=>?_,cc.cf,cc.base,cc.cX⟩,jC⟩;by_cases cu:bx=id
 ·subst cu;rw [sg (sa.1 aE).1] at aq;cases aq;exact ⟨la,lb,b,_,ag,aH,jC,rfl,rfl,trivial,c0,fun i u v hu ae=>⟨(c' i u v hu ae).1,(c' i u v hu ae).2.mono (Ext.refl J) aA.set⟩,dD⟩
 ·refine cc.obj bx o ?_;rw [si (Ne.symm cu)] at aq ⊢;exact aq
end
end Go.Proofs.YtfakoboiahbhaaaGreat.Ab
