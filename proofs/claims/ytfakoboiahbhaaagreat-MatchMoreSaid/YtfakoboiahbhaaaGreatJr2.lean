
import Derived.Test.YtfakoboiahbhaaaGreatJr1
import Derived.RangeFuncRecord
import Derived.MapKept
import Derived.RangeFuncLeaves
import Derived.RangeFuncCalls
import Derived.RangeFuncNested
import Derived.TacticsIn
set_option linter.unusedSimpArgs false
set_option linter.unusedVariables false
set_option linter.unusedSectionVars false

open Array renaming getD_eq_getD_getElem?→sy,getElem?_eq_getElem→sD,getElem?_eq_none→vW,getElem?_eq_some_iff→sW,getElem?_toList→uZ,length_toList→tE,toArray_toList→uC,toList_map→vw,toList_setIfInBounds→vZ
open Bool renaming and_eq_true→sx,false_eq_true→tM,or_eq_true→tH
open List renaming all_eq_true→sC,append_assoc→sj,drop_zero→sO,eq_nil_iff_forall_not_mem→uO,ext_getElem?→tO,getD_eq_getElem?_getD→sG,getElem?_append_left→sA,getElem?_append_right→sL,getElem?_cons_succ→vu,getElem?_cons_zero→uD,getElem?_drop→sX,getElem?_eq_getElem→sq,getElem?_eq_none→tB,getElem?_eq_some_iff→sa,getElem?_map→su,getElem?_set_ne→si,getElem?_set_self→sg,getElem?_take→sV,getElem?_toArray→vQ,getElem?_zip_eq_some→vV,length_cons→sH,length_drop→tV,length_eq_zero_iff→s_,map_drop→uE,map_fst_zip→vU,map_set→uN,map_take→uo,mem_cons→sk,mem_cons_of_mem→tX,mem_filter→sM,mem_iff_getElem?→tF,mem_map→ss,mem_of_getElem?→sK,mem_range→sJ,pairwise_cons→tg,set_set→sQ,take_of_length_le→tQ
open Nat renaming le_refl→sb,le_trans→sI,lt_of_lt_of_le→uY,lt_or_ge→sU,mul_le_mul_right→tA,sub_zero→vX,zero_add→sP
open Option renaming bind_eq_some_iff→sf,bind_some→r_,getD_some→uM,map_eq_some_iff→rZ,map_some→sd
namespace Go.Proofs.YtfakoboiahbhaaaGreat.Ab
open Go
section
variable {P:Program} {B:Nat} {J:List Nat} {w:World} {H:List au} {U:Nat→Option aI} {S:Nat→Nat→Prop}
def ez (P:Program) (aT:Operand→Value) (o:Oper) (w:World) (R:Value→World→Prop):Prop :=
 (∃ v w',(Go.execOp aT o).run P w=.ok (.value v) w'∧R v w')∨(∃ w',(Go.execOp aT o).run P w=.ok .skip w'∧R undef w')
theorem ez.makes {aT:Operand→Value} {o:Oper} {r:I} (ah:aL B U J S w H) (h:e5 P o aT J S w r) (aC:r.plain=true):ez P aT o w (a1 B U J S w H r):=by
 obtain ⟨v,ad,af⟩:=h;exact .inl ⟨v,w,ad,a1.same ah af aC⟩
theorem a9.one {bz:Nat→aI} {us:List I} {aT:Operand→Value} {x:Operand} (h:a9 bz U J S w us ([x].map aT)):∃ u,us=[u]∧Rel J S w u (aT x)∧aV U J S w (bz 0) u (aT x):=by
 match us,h with
 | [u],h=>exact ⟨u,rfl,h.rel 0 u _ rfl rfl,h.own 0 u _ rfl rfl⟩
 | [],h=>exact absurd h.len (by simp)
 | _::_::_,h=>exact absurd h.len (by simp)
theorem a9.two {bz:Nat→aI} {us:List I} {aT:Operand→Value} {x y:Operand} (h:a9 bz U J S w us ([x,y].map aT)) :
  ∃ u v,us=[u,v]∧Rel J S w u (aT x)∧aV U J S w (bz 0) u (aT x)∧Rel J S w v (aT y)∧aV U J S w (bz 1) v (aT y):=by
 match us,h with
 | [u,v],h=>exact ⟨u,v,rfl,h.rel 0 u _ rfl rfl,h.own 0 u _ rfl rfl,h.rel 1 v _ rfl rfl,h.own 1 v _ rfl rfl⟩
 | [],h=>exact absurd h.len (by simp)
 | [_],h=>exact absurd h.len (by simp)
 | _::_::_::_,h=>exact absurd h.len (by simp)
theorem Bl {op:BinOp} {k:IntKind} {a b:Int} {r:I} (h:jo op k a b=some r):r.plain=true:=by
 cases op <;> simp [jo] at h <;> first | (subst h;rfl) | (obtain ⟨_,rfl⟩:=h;rfl)
theorem Bn {op:BinOp} {t:TypeId} {x y r:I} (h:fj P op t x y=some r):r.plain=true:=by
 unfold fj at h;split at h
 ·split at h
  ·unfold hn at h;split at h <;> simp at h;subst h;rfl
  ·unfold hn at h;split at h <;> simp at h;subst h;rfl
  ·split at h
   ·exact Bl h
   ·simp at h
 ·split at h <;> simp at h <;> subst h <;> rfl
 ·split at h
  ·split at h
   ·split at h
    ·split at h
     ·simp only [rZ] at h;obtain ⟨_,_,rfl⟩:=h;rfl
     ·simp only [rZ] at h;obtain ⟨_,_,rfl⟩:=h;rfl
     ·simp at h
    ·simp at h
   ·simp at h
  ·split at h
   ·split at h
    ·simp only [rZ] at h;obtain ⟨_,_,rfl⟩:=h;rfl
    ·simp only [rZ] at h;obtain ⟨_,_,rfl⟩:=h;rfl
    ·simp at h
   ·simp at h
  ·simp at h
 ·simp at h
theorem Bp {t:TypeId} {x y r:I} (h:hU P t x y=some r):r.plain=true:=by
 unfold hU at h;split at h <;> simp only [sf,rZ,reduceCtorEq] at h <;> (try (obtain ⟨_,_,_,_,rfl⟩:=h;rfl))
theorem Bo {t:TypeId} {x r:I} {f:Nat} (h:jq P t x f=some r):r.plain=true:=by
 unfold jq at h;split at h <;> simp only [sf,reduceCtorEq] at h <;> (try (obtain ⟨_,_,_,_,h⟩:=h;split at h <;> simp at h;subst h;rfl))
theorem xg {o:Oper} (h:∀ c,o.op≠.call c):opsOf o=o.op.operands.toList:=by
 unfold opsOf;split
 ·rename_i heq;exact absurd heq (h _)
 ·rename_i heq;exact absurd heq (h _)
 ·rfl
theorem Fp {aT:Operand→Value} (eN:∀ v,aT (.const v)=v) {o:Oper} {us:List I} {r:I} (ah:aL B U J S w H) (h:cy P o us=some r) (cY:dP o=false)
  (aC:∀ u∈us,u.plain=true) (ae:a9 (fun i=>.arg i) U J S w us ((opsOf o).map aT)):ez P aT o w (a1 B U J S w H r):=by
 cases aD:o.op <;> simp only [cy,aD,reduceCtorEq] at h <;> rw [xg (by simp [aD])] at ae <;> (try (simp [dP,aD] at cY;done))
 case pick c a b =>
  replace ae:a9 (fun i=>.arg i) U J S w us ([c,a,b].map aT):=by simpa [aD,Op.operands] using ae
  unfold xf at h;split at h
  ·rename_i x ft gi;have r1:=ae.rel 0 _ _ rfl rfl;have r2:=ae.rel 1 _ _ rfl rfl;have eF:=ae.rel 2 _ _ rfl rfl;cases x
   ·cases h;exact ez.makes ah (zp aD r1 r2 eF) (aC gi (by simp))
   ·cases h;exact ez.makes ah (zp aD r1 r2 eF) (aC ft (by simp))
  ·simp at h
 case build t parts =>
  have ae:a9 (fun i=>.arg i) U J S w us ((parts.toList.map (·.2)).map aT):=by simpa [aD,Op.operands] using ae
  have hlen:us.length=parts.toList.length:=by simpa using ae.len
  obtain ⟨v,q1,aW,cz⟩:=E7 (J:=J) (S:=S) (w:=w) (parts':=parts.map fun (x:Nat×Operand)=>(x.1,aT x.2)) h (by simp [fu,vU,hlen]) (fun j x y al a0=>by
   simp only [fu,vV] at al;obtain ⟨y1,iP⟩:=al;simp only [vw,su,rZ] at a0;obtain ⟨p,jL,rfl⟩:=a0
   exact ⟨aC _ (sK iP),ae.rel j _ _ iP (by simp only [su,jL,sd])⟩)
  exact .inl ⟨v,w,by simp [Go.execOp,aD,q1],a1.same ah aW cz⟩
 case buildSlice t len parts =>
  have ae:a9 (fun i=>.arg i) U J S w us ((parts.toList.map (·.2)).map aT):=by simpa [aD,Op.operands] using ae
  have hlen:us.length=parts.toList.length:=by simpa using ae.len
  simp only [rZ] at h;obtain ⟨⟨cs,s⟩,h,rfl⟩:=h
  obtain ⟨_,w',q1,aW⟩:=AP (parts':=parts.map fun (x:Nat×Operand)=>(x.1,aT x.2)) ah h (by simp [fu,vU,hlen]) (fun j x y al a0=>by
   simp only [fu,vV] at al;obtain ⟨y1,iP⟩:=al;simp only [vw,su,rZ] at a0;obtain ⟨p,jL,rfl⟩:=a0
   exact ⟨aC _ (sK iP),ae.rel j _ _ iP (by simp only [su,jL,sd])⟩)
  exact .inl ⟨_,w',by simp [Go.execOp,aD,q1],aW⟩
 case nilCheck x =>
  obtain ⟨u,rfl,r1,_⟩:=a9.one (x:=x) (by simpa [aD,Op.operands] using ae);unfold nT at h;split at h
  ·rename_i id off heq;simp at heq;subst heq;cases h;exact ez.makes ah (DM aD r1) rfl
  ·rename_i cells heq;simp at heq;subst heq;cases h;exact ez.makes ah (DN aD r1) rfl
  ·simp at h
 case unOp op t x =>
  obtain ⟨u,rfl,r1,_⟩:=a9.one (x:=x) (by simpa [aD,Op.operands] using ae);simp only [eZ] at h;refine ez.makes ah (DO aD h r1) ?_;unfold ke at h;split at h <;> (try split at h) <;> simp at h <;> subst h <;> rfl
 case convert s d x =>
  obtain ⟨u,rfl,r1,_⟩:=a9.one (x:=x) (by simpa [aD,Op.operands] using ae);simp only [eZ] at h;refine ez.makes ah (DE aD h r1) ?_;unfold lp at h;split at h
  ·split at h
   ·simp at h;subst h;rfl
   ·simp at h
  ·simp at h
 case makeFunc fn first captured =>
  refine ez.makes ah (DJ aD h (by simpa [aD,Op.operands] using ae) aC) ?_;unfold mB at h;split at h
  ·split at h <;> simp at h;subst h;rfl
  ·simp at h
 case fieldAddr t x f =>
  obtain ⟨u,rfl,r1,_⟩:=a9.one (x:=x) (by simpa [aD,Op.operands] using ae);simp only [eZ] at h;exact ez.makes ah (DI aD h r1) (Bo h)
 case field t x f =>
  obtain ⟨u,rfl,r1,_⟩:=a9.one (x:=x) (by simpa [aD,Op.operands] using ae);simp only [eZ,rZ] at h;obtain ⟨r',h,rfl⟩:=h;exact ez.makes ah (DH aD h r1) (I.dh _)
 case extract x i =>
  obtain ⟨u,rfl,r1,_⟩:=a9.one (x:=x) (by simpa [aD,Op.operands] using ae);simp only [eZ,rZ] at h;obtain ⟨r',h,rfl⟩:=h;exact ez.makes ah (DG aD h r1) (I.dh _)
 case indexAddr t x i =>
  obtain ⟨u,v,rfl,r1,_,r2,_⟩:=a9.two (x:=x) (y:=i) (by simpa [aD,Op.operands] using ae);simp only [f'] at h;exact ez.makes ah (DL aD h r1 r2 (I.ga (aC u (by simp)))) (Bp h)
 case index t x i =>
  obtain ⟨u,v,rfl,r1,_,r2,_⟩:=a9.two (x:=x) (y:=i) (by simpa [aD,Op.operands] using ae);simp only [f',rZ] at h;obtain ⟨r',h,rfl⟩:=h;exact ez.makes ah (DK aD h r1 r2) (I.dh _)
 case binOp op t x y im =>
  obtain ⟨u,v,rfl,r1,_,r2,_⟩:=a9.two (x:=x) (y:=y) (by simpa [aD,Op.operands] using ae);split at h
  ·rename_i CP;refine ez.makes ah (DF aD CP h r1 eN) ?_;unfold mX at h;dsimp only at h;repeat' split at h
   all_goals first | (simp at h;done) | (simp at h;subst h;rfl)
  ·simp only [f'] at h;refine ez.makes ah ?_ (Bn h);cases u <;> cases v <;> (try (simp [fj] at h;done))
   ·exact DC aD h r1 r2
   ·exact DD aD h r1 r2
   ·exact DB aD h r1 r2
theorem Eg {cells:List I} {len:Nat} {a:Option Addr} (h:Rel J S w (.ay cells len .shared) (.slice a len len)):Rel J S w (.ay cells len .full) (.slice a len len):=by
 cases h with
 | b1 _ a=>exact .b1 _ _
 | ay _ _ _ b o cap f ao hle hu bu b9=>exact .ay _ _ _ b o len f (fun _=>rfl) hle (fun z h=>by cases h) bu b9
theorem E8 {aT:Operand→Value} (eN:∀ v,aT (.const v)=v) {o:Oper} {us:List I} {t:TypeId} {len:Nat} {parts:Array (Nat×Operand)} {cs:List I} {s:Nat} (ah:aL B U J S w H) (aD:o.op=.buildSlice t len parts)
  (h:iy P t len (fu parts.toList us)=some (cs,s)) (aC:∀ u∈us,u.plain=true) (ae:a9 (fun i=>.arg i) U J S w us ((opsOf o).map aT)) :
  ∃ v w',(Go.execOp aT o).run P w=.ok (.value v) w'∧a1 B U J S w H (.ay cs len .full) v w':=by
 rw [xg (by simp [aD])] at ae;have ae:a9 (fun i=>.arg i) U J S w us ((parts.toList.map (·.2)).map aT):=by simpa [aD,Op.operands] using ae
 have hlen:us.length=parts.toList.length:=by simpa using ae.len
 obtain ⟨b,w',q1,az,bZ,S',bR,b4,eE,fM,mC⟩:=AP (parts':=parts.map fun (x:Nat×Operand)=>(x.1,aT x.2)) ah h (by simp [fu,vU,hlen]) (fun j x y al a0=>by
  simp only [fu,vV] at al;obtain ⟨y1,iP⟩:=al;simp only [vw,su,rZ] at a0;obtain ⟨p,jL,rfl⟩:=a0
  exact ⟨aC _ (sK iP),ae.rel j _ _ iP (by simp only [su,jL,sd])⟩)
 obtain ⟨a4,aJ,aP,cj,r1,_,_⟩:=j7 eE fM mC
 exact ⟨_,w',by simp [Go.execOp,aD,q1],az,bZ,a4,bR,b4.trans (bg.settle aJ fun b o h=>(aP b o h).imp id fun h=>⟨_,h⟩),
  eE.settle aJ (fun b o h=>(aP b o h).imp id fun h=>⟨_,h,by simp,by simp⟩) cj,Eg r1,aV.b3 rfl⟩
end
end Go.Proofs.YtfakoboiahbhaaaGreat.Ab


namespace Go.Proofs.YtfakoboiahbhaaaGreat.Ab
open Go
section
variable {P:Program} {B:Nat} {J:List Nat} {w:World} {H:List au} {U:Nat→Option aI} {S:Nat→Nat→Prop}
theorem nV {b ar o:Nat} {x:Obj} (h:ar≠b):(w.putObj b x).cell? ⟨ar,o,none⟩=w.cell? ⟨ar,o,none⟩:=by
 unfold World.cell?;simp only [World.putObj_heap_other h]
theorem nL (ah:aL B U J S w H) {id:Nat} {es es':List (Nat×I×I)} {clock clock':Nat} (aE:H[id]?=some (.map es clock)) {b:Nat} {ents':Array MapEntry}
  (aB:J[id]?=some b) (aH:U b=some (.obj id)) (bb:∀ o,¬ S b o) (ak:ents'.size=es'.length)
  (aj:∀ (j i:Nat) (k v:I) (x:MapEntry),es'[j]?=some (i,k,v)→ents'[j]?=some x→x.born=i∧k.plain=true∧Rel J S w k x.key∧v.plain=true∧Rel J S w v x.val) :
  bg U S w U S (w.putObj b (.map ents' clock'))∧aL B U J S (w.putObj b (.map ents' clock')) (H.set id (.map es' clock')):=by
 have hr:∀ ar o,S ar o→ar≠b:=fun ar o ai e=>bb o (e ▸ ai);have ag:=(ah.base b _ aH).2;have aA:bg U S w U S (w.putObj b (.map ents' clock')) :=
  ⟨rfl,rfl,rfl,by simp,fun ar _ aN=>World.putObj_heap_other (fun e=>by subst e;rw [aH] at aN;cases aN),fun ar o ai=>⟨ai,nV (hr ar o ai)⟩,fun ar o ai=>.inl ai,fun ar h=>.inl h⟩
 refine ⟨aA,by simpa using ah.cE,fun bx o aq=>?_,fun ar o ai=>?_,fun ar l h=>by simpa using ah.base ar l h,by simpa using ah.cX⟩
 ·by_cases gX:bx=id
  ·subst gX;rw [sg (sa.1 aE).1] at aq;cases aq;refine ⟨b,ents',aB,aH,World.putObj_heap_same ag,ak,bb,fun j i k v x hu al=>?_⟩;obtain ⟨a',bk,bq,b7,dY⟩:=aj j i k v x hu al;exact ⟨a',bk,bq.mono (Ext.refl J) aA.set,b7,dY.mono (Ext.refl J) aA.set⟩
  ·rw [si (fun e=>gX e.symm)] at aq;refine (ah.obj bx o aq).frame (Ext.refl J) aA.set fun ar cv bp jG=>?_;have bM:ar≠b:=fun e=>by
    subst e;rw [aH] at bp;cases bp;rcases jG with h | ⟨j,h⟩
    ·cases h;exact gX rfl
    ·cases h
   exact ⟨bp,World.putObj_heap_other bM,fun o ai=>ai⟩
 ·obtain ⟨v,ae⟩:=ah.cf ar o ai;exact ⟨v,(nV (hr ar o ai)).trans ae⟩
theorem yh:∀ {xs ys:List I},dM xs ys=some true→xs=ys∧∀ u∈xs,∃ k a,u=.int k a
 | [],[],_=>⟨rfl,by simp⟩
 | x::xs,y::ys,h=>by
   obtain ⟨k,a,b,cM,rfl,rfl,aX,he⟩:=m_ h;have he:=he.symm;simp only [sx,beq_iff_eq] at he;obtain ⟨rfl,rfl⟩:=he;obtain ⟨rfl,af⟩:=yh aX
   exact ⟨rfl,fun u hu=>by
    rcases sk.1 hu with rfl | hu
    ·exact ⟨_,_,rfl⟩
    ·exact af u hu⟩
 | [],y::ys,h=>by simp [dM] at h
 | x::xs,[],h=>by cases x <;> simp [dM] at h
theorem AG (n:Nat):∀ (l:List Value),(∀ v∈l,∃ k a,v=.int k a)→((l.zip l).all fun (x:Value×Value)=>Instr.sameBits n x.1 x.2)=true
 | [],_=>rfl
 | v::l,h=>by
   obtain ⟨k,a,rfl⟩:=h v (by simp);have a_:=AG n l fun v ae=>h v (by simp [ae]);(have aS:Instr.sameBits n (.int k a) (.int k a)=true:=by cases n <;> simp [Instr.sameBits]);simp only [List.zip_cons_cons,List.all_cons,aS,Bool.true_and];exact a_
theorem Eh {xs:List I} {V W:Array Value} (hi:∀ u∈xs,∃ k a,u=.int k a) (r1:Rel J S w (.agg xs) (.agg V)) (r2:Rel J S w (.agg xs) (.agg W)):V=W∧∀ v∈V.toList,∃ k a,v=.int k a:=by
 cases r1 with
 | agg _ _ dL _ _ q1 =>
   cases r2 with
   | agg _ _ kK _ _ aW =>
     have key:∀ j (h:j<xs.length),∃ k a,V[j]?=some (.int k a)∧W[j]?=some (.int k a):=fun j h=>by
      obtain ⟨k,a,av⟩:=hi xs[j] (List.getElem_mem h);(have al:xs[j]?=some (.int k a):=by rw [sq h,av]);have ae:=q1 j _ V[j] al (sD (by omega));have hw:=aW j _ W[j] al (sD (by omega));exact ⟨k,a,by rw [sD (by omega),ae.dc],by rw [sD (by omega),hw.dc]⟩
     refine ⟨Array.ext_getElem? fun j=>?_,fun v ae=>?_⟩
     ·rcases sU j xs.length with h | h
      ·obtain ⟨k,a,ad,af⟩:=key j h;rw [ad,af]
      ·rw [vW (by omega),vW (by omega)]
     ·obtain ⟨j,aw⟩:=tF.1 ae;(have aU:j<xs.length:=by have:=(sa.1 aw).1;simp at this;omega);obtain ⟨k,a,ad,_⟩:=key j aU;rw [uZ,ad] at aw;cases aw;exact ⟨k,a,rfl⟩
theorem Di {k k':I} {x y:Value} (h:gy k k'=some true) (r1:Rel J S w k x) (r2:Rel J S w k' y):(Instr.keyThatStays y x).run P w=.ok x w:=by
 have ag:Instr.sameBits 10000 y x=true:=by
  unfold gy at h;split at h
  ·split at h
   ·rename_i q a fO b a3;subst a3;simp at h;subst h;rw [r1.dc,r2.dc];simp [Instr.sameBits]
   ·simp at h
  ·obtain ⟨rfl,hi⟩:=yh h;(have e1:∃ V,x=.agg V:=by cases r1 with | agg as vs=>exact ⟨_,rfl⟩);(have ck:∃ V,y=.agg V:=by cases r2 with | agg as vs=>exact ⟨_,rfl⟩);obtain ⟨V,rfl⟩:=e1;obtain ⟨W,rfl⟩:=ck;obtain ⟨rfl,c_⟩:=Eh hi r1 r2;have:=AG 9999 V.toList c_;rw [show (10000:Nat)=9999+1 from rfl,Instr.sameBits];simpa using this
  ·simp at h
 simp [Instr.keyThatStays,ag]
theorem y_ {t:TypeId} (h:kJ P t=true):(∃ k,P.underlying t=some (.int k))∨∃ bE,P.underlying t=some (.struct bE)∧gC P bE.toList 0=true∧P.stoodInHeld t=false:=by
 unfold kJ at h;split at h
 ·exact .inl ⟨_,by assumption⟩
 ·rename_i bE Cq;simp at h;exact .inr ⟨bE,Cq,h.1,h.2⟩
 ·simp at h
theorem Aw (em:Bool) (d:Nat) (V:Array Value):∀ (bE:List Field) (off:Nat),gC P bE off=true→off+bE.length≤V.size →
  (forIn bE PUnit.unit (fun f (_ : PUnit) => if f.name = "_" then pure (ForInStep.yield PUnit.unit) else (do
    let a ←part f.type V f.offset
    (fun _=>ForInStep.yield PUnit.unit) <$> Instr.checkKey em (d+1) f.type a:Sem (ForInStep PUnit)))).run P w=.ok PUnit.unit w
 | [],off,_,_=>by simp
 | f::bE,off,h,ak=>by
   obtain ⟨f1,f2,⟨dd,f3⟩,f4,f5,f6⟩:=y3 h;simp only [sH] at ak;have jz:V[off]?=some V[off]:=sD (by omega);(have q1:(part f.type V f.offset).run P w=.ok V[off] w:=by simp only [part,Sem.run_bind,gI f3,f5,Result.andThen_ok,f1,jz,if_false,tM];rfl);(have aW:(Instr.checkKey em (d+1) f.type V[off]).run P w=.ok () w:=by unfold Instr.checkKey;simp [run_underlying f3]);have a_:=Aw em d V bE (off+1) f6 (by omega);simp only [List.forIn_cons,f2,if_false,Sem.run_bind,q1,Result.andThen_ok];simpa [aW] using a_
theorem xF {t:TypeId} {k:I} {x:Value} (h:kJ P t=true) (av:isKey P t k=true) (aj:Rel J S w k x) (em:Bool):(Instr.checkKey em 10000 t x).run P w=.ok () w:=by
 rcases y_ h with ⟨q,a3⟩ | ⟨bE,aQ,hi,_⟩
 ·unfold Instr.checkKey;simp [run_underlying a3]
 ·unfold isKey at av;simp only [aQ] at av;split at av
  ·rename_i aX;cases aX
  ·rename_i BW cs aX;cases aX;simp at av;cases aj with
   | agg _ V ak _ _ _ =>
     rw [show (10000:Nat)=9998+2 from rfl,Instr.checkKey];have:=Aw (P:=P) (w:=w) em 9998 V bE.toList 0 hi (by simp;omega);rw [Array.forIn_toList] at this;simpa [run_underlying aQ] using this
  ·simp at av
theorem Ax {t:TypeId} {bE:Array Field} (ax:P.underlying t=some (.struct bE)) (aQ:gC P bE.toList 0=true) (h7:P.stoodInHeld t=false) {k k':I} {x y:Value} {e:Bool} (av:isKey P t k=true) (h:gy k k'=some e)
  (r1:Rel J S w k x) (r2:Rel J S w k' y):(Op.equal t x y).run P w=.ok e w:=by
 unfold isKey at av;simp only [ax] at av;split at av
 ·rename_i aX;cases aX
 ·rename_i BW cs aX;cases aX;simp at av;cases k' with
  | agg ds =>
    simp only [gy] at h;(have e1:∃ V,x=.agg V:=by cases r1 with | agg as vs=>exact ⟨_,rfl⟩);(have ck:∃ V,y=.agg V:=by cases r2 with | agg as vs=>exact ⟨_,rfl⟩);obtain ⟨V,rfl⟩:=e1;obtain ⟨W,rfl⟩:=ck;have ak:∀ (xs ys:List I) (e:Bool),dM xs ys=some e→ys.length=xs.length:=by
     intro xs
     induction xs with
     | nil=>intro ys e h;cases ys <;> simp [dM] at h;rfl
     | cons x xs a_ =>
       intro ys e h;cases ys with
       | nil=>cases x <;> simp [dM] at h
       | cons y ys=>obtain ⟨_,_,_,cM,rfl,rfl,aX,_⟩:=m_ h;simp [a_ ys cM aX]
    exact run_equalIn_struct 9998 ax aQ h7 av ((ak _ _ _ h).trans av) h r1 r2
  | _=>simp [gy] at h
 ·simp at av
def gm (J:List Nat) (S:Nat→Nat→Prop) (w:World) (es:List (Nat×I×I)) (bw:List MapEntry):Prop :=
 bw.length=es.length∧∀ (j i:Nat) (k v:I) (x:MapEntry),es[j]?=some (i,k,v)→bw[j]?=some x→x.born=i∧k.plain=true∧Rel J S w k x.key∧v.plain=true∧Rel J S w v x.val
theorem gm.cons {e:Nat×I×I} {es:List (Nat×I×I)} {bw:List MapEntry} (h:gm J S w (e::es) bw):∃ x r,bw=x::r∧x.born=e.1∧Rel J S w e.2.1 x.key∧Rel J S w e.2.2 x.val∧gm J S w es r:=by
 cases bw with
 | nil=>simp [gm] at h
 | cons x r =>
   obtain ⟨ad,_,af,_,aG⟩:=h.2 0 e.1 e.2.1 e.2.2 x rfl rfl;exact ⟨x,r,rfl,ad,af,aG,by simpa using h.1,fun j i k v y hu a0=>h.2 (j+1) i k v y (by simpa using hu) (by simpa using a0)⟩
def hP (k:I) (es:List (Nat×I×I)) (bw:List MapEntry) (i:Nat):Option Nat→Option (Nat×Value)→Prop
 | none,r=>r=none
 | some n,r=>∃ e x,i≤n∧es[n-i]?=some e∧bw[n-i]?=some x∧r=some (n,x.val)∧gy k e.2.1=some true
theorem hP.step {k:I} {e:Nat×I×I} {es:List (Nat×I×I)} {x:MapEntry} {bw:List MapEntry} {i:Nat} {r:Option Nat} {res:Option (Nat×Value)} (h:hP k es bw (i+1) r res):hP k (e::es) (x::bw) i r res:=by
 cases r with
 | none=>exact h
 | some n =>
   obtain ⟨cM,oj,ad,af,aG,a6,bL⟩:=h;obtain ⟨m,hm⟩:∃ m,n-i=m+1:=⟨n-(i+1),by omega⟩;(have nq:n-(i+1)=m:=by omega);rw [nq] at af aG;exact ⟨cM,oj,by omega,by rw [hm];simpa using af,by rw [hm];simpa using aG,a6,bL⟩
theorem yn {q q0:IntKind} {n:Int}:∀ (es:List (Nat×I×I)) (bw:List MapEntry) (i:Nat) (r:Option Nat),fB (.int q n) es i=some r→gm J S w es bw →
  ∃ res,Instr.findNow (.int q0) (.int q n) bw i=some res∧hP (.int q n) es bw i r res
 | [],bw,i,r,h,aj=>by
   have:bw=[]:=s_.1 (by simpa using aj.1)
   subst this;simp [fB] at h;subst h;exact ⟨none,rfl,rfl⟩
 | (b,k',v)::es,bw,i,r,h,aj=>by
   obtain ⟨x,ents',rfl,ad,af,aG,a6⟩:=aj.cons;simp only [fB] at h;split at h
   ·rename_i he;cases h;cases k' with
    | int fO m =>
      simp only [gy] at he;split at he
      ·rename_i a3;subst a3;simp at he;subst he;simp only at af;rw [Instr.findNow,af.dc];exact ⟨some (i,x.val),by simp [Instr.sameNow],_,x,sb _,by simp;rfl,by simp,rfl,by simp [gy]⟩
      ·simp at he
    | _=>simp [gy] at he
   ·rename_i he;cases k' with
    | int fO m =>
      simp only [gy] at he;split at he
      ·rename_i a3;subst a3;simp at he;simp only at af;obtain ⟨res,cb,b8⟩:=yn es ents' (i+1) r h a6;rw [Instr.findNow,af.dc];(have CO:(n == m)=false:=by simpa using he);exact ⟨res,by simp only [Instr.sameNow,if_true,CO];exact cb,b8.step⟩
      ·simp at he
    | _=>simp [gy] at he
   ·simp at h
theorem yl {t:TypeId} {bE:Array Field} (ax:P.underlying t=some (.struct bE)) (aQ:gC P bE.toList 0=true) (h7:P.stoodInHeld t=false) {k:I} {x:Value} (av:isKey P t k=true) (r1:Rel J S w k x) :
  ∀ (es:List (Nat×I×I)) (bw:List MapEntry) (i:Nat) (r:Option Nat),fB k es i=some r→gm J S w es bw →
  ∃ res,(Instr.findAsking t x bw i).run P w=.ok res w∧hP k es bw i r res
 | [],bw,i,r,h,aj=>by
   have:bw=[]:=s_.1 (by simpa using aj.1)
   subst this;simp [fB] at h;subst h;exact ⟨none,rfl,rfl⟩
 | (b,k',v)::es,bw,i,r,h,aj=>by
   obtain ⟨y,ents',rfl,ad,af,aG,a6⟩:=aj.cons;simp only [fB] at h;split at h
   ·rename_i he;cases h;have q:=Ax (P:=P) ax aQ h7 av he r1 af;exact ⟨some (i,y.val),by simp [Instr.findAsking,q],_,y,sb _,by simp;rfl,by simp,rfl,he⟩
   ·rename_i he;have q:=Ax (P:=P) ax aQ h7 av he r1 af;obtain ⟨res,cb,b8⟩:=yl ax aQ h7 av r1 es ents' (i+1) r h a6;exact ⟨res,by simp [Instr.findAsking,q,cb],b8.step⟩
   ·simp at h
theorem mL {t:TypeId} {k:I} {x:Value} (h:kJ P t=true) (av:isKey P t k=true) (aj:Rel J S w k x) {es:List (Nat×I×I)} {bw:List MapEntry} {r:Option Nat} (aQ:fB k es 0=some r) (he:gm J S w es bw) :
  ∃ res,(Instr.findKey t x bw).run P w=.ok res w∧hP k es bw 0 r res:=by
 rcases y_ h with ⟨q,a3⟩ | ⟨bE,ai,hi,cJ⟩
 ·unfold isKey at av;simp only [a3] at av;split at av
  ·rename_i q1 aW n aX;obtain ⟨res,cb,b8⟩:=yn (q0:=q) es bw 0 r aQ he;rw [aj.dc];exact ⟨res,by simp [Instr.findKey,run_underlying a3,cb],b8⟩
  ·rename_i aX;cases aX
  ·simp at av
 ·obtain ⟨res,cb,b8⟩:=yl ai hi cJ av aj es bw 0 r aQ he;have ch:∃ V,x=.agg V:=by
   unfold isKey at av;simp only [ai] at av;split at av
   ·rename_i aX;cases aX
   ·cases aj with | agg as vs=>exact ⟨_,rfl⟩
   ·simp at av
  obtain ⟨V,rfl⟩:=ch;cases bw with
  | nil =>
    refine ⟨res,?_,b8⟩;simp [Instr.findAsking] at cb;subst cb;simp [Instr.findKey,run_underlying ai,Instr.findNow]
  | cons y ys =>
    refine ⟨res,?_,b8⟩
    have:Instr.findNow (.struct bE) (.agg V) (y::ys) 0=none:=by simp [Instr.findNow,Instr.sameNow]
    simp [Instr.findKey,run_underlying ai,this,cb]
theorem yB (w:World) (o:Obj):(w.alloc o).heap[w.heap.size]?=some o:=by
 have e:(w.alloc o).heap=w.heap.push o:=rfl;rw [e];simp
theorem i_ {b:Nat} {bw:Array MapEntry} {clock:Nat} (h:w.heap[b]?=some (.map bw clock)):(getObj b).run P w=.ok (.map bw clock) w:=by simp [getObj,Sem.run,h]
theorem n7 {b:Nat} {o:Obj} {bw:Array MapEntry} {clock:Nat} (h:w.heap[b]?=some (.map bw clock)):(setObj b o).run P w=.ok () (w.putObj b o):=by simp [setObj,Sem.run,h,World.putObj]
theorem DS (ah:aL B U J S w H):aL B (lay U w.heap.size (.obj H.length)) (J++[w.heap.size]) S (w.alloc (.map #[] 0)) (H++[.map [] 0]) :=
 (nv ah (.map #[] 0) (.obj H.length)).push w.heap.size ⟨w.heap.size,#[],Ext.last ah _,by simp [lay],yB w _,rfl,mx ah,by simp⟩
theorem Fh (ah:aL B U J S w H) {t:TypeId} {r:Option Operand} {u:I} {H':List au} (h:kV P t r H=some (u,H')) :
  ∃ x w',(Instr.makeMap t (none:Option Value)).run P w=.ok x w'∧r=none∧a1 B U J S w H' u x w':=by
 unfold kV at h;split at h
 ·cases h;exact ⟨_,_,by simp only [Instr.makeMap,Sem.run_bind,Sem.run_pure,run_newObj_alloc,Result.andThen_ok],rfl,_,_,S,Ext.append J _,kj ah _ _,DS ah,.map _ _ (Ext.last ah _),aV.b3 rfl⟩
 ·simp at h
theorem xb {t eb iD:TypeId} (h:jR P t=some (eb,iD)):P.underlying t=some (.map eb iD)∧kJ P eb=true:=by
 unfold jR at h;split at h
 ·split at h
  ·cases h;exact ⟨by assumption,by assumption⟩
  ·cases h
 ·cases h
theorem Fk (ah:aL B U J S w H) {lo:Nat} {t:TypeId} {m k v u:I} {H':List au} {x y z:Value} (h:iY P lo t H [m,k,v]=some (u,H'))
  (e2:Rel J S w m x) (bN:Rel J S w k y) (zH:k.plain=true) (n8:Rel J S w v z) (zQ:v.plain=true) (c:Value) :
  ∃ w',(Instr.mapUpdate t x y z).run P w=.ok () w'∧a1 B U J S w H' u c w':=by
 unfold iY at h;split at h
 ·rename_i id k' br heq;cases heq;split at h
  ·rename_i eb iD ax;obtain ⟨ax,av⟩:=xb ax;split at h
   ·rename_i hv;split at h
    ·split at h
     ·rename_i es clock aE;obtain ⟨b,bw,aB,aH,aR,bj,bb,bf⟩:=ah.obj _ _ aE;cases e2 with
      | map _ ar eX =>
        rw [aB] at eX;cases eX;have he:gm J S w es bw.toList:=⟨by simpa using bj,fun j i k v x hu al=>bf j i k v x hu (by simpa using al)⟩;have iH:=xF (P:=P) av hv bN false;split at h
        ·rename_i n aQ;cases h;obtain ⟨res,cb,e,x,_,b8,d_,rfl,hp⟩:=mL (P:=P) av hv bN aQ he;simp only [vX,uZ] at b8 d_;obtain ⟨oL,oM,db⟩:=e;obtain ⟨a',bk,bq,b7,dY⟩:=bf n oL oM db x b8 d_;have cJ:=Di (P:=P) hp bN bq;obtain ⟨aA,cc⟩:=nL ah aE (es':=es.modify n fun e=>(e.1,k,v)) (clock':=clock) (ents':=bw.modify n fun e=>{ e with key:=y,val:=z }) aB aH bb (by simp [bj]) fun j i dd v0 jf hu al=>by
          rw [List.getElem?_modify] at hu;rw [Array.getElem?_modify] at al;by_cases aw:n=j
          ·subst aw;simp only [b8,d_,if_true,sd,Option.map_eq_map,Option.some.injEq,Prod.mk.injEq] at hu al;obtain ⟨rfl,rfl,rfl⟩:=hu;subst al;exact ⟨a',zH,bN,zQ,n8⟩
          ·simp only [aw,if_false,id_map'] at hu al;exact bf j i dd v0 jf (by simpa using hu) (by simpa using al)
         refine ⟨_,?_,U,J,S,Ext.refl J,aA,cc,.junk _,aV.b3 rfl⟩;simp only [Instr.mapUpdate,Sem.run_bind,run_underlying ax,Result.andThen_ok,i_ aR,iH,cb,d_,sd,uM,cJ,n7 aR]
        ·rename_i aQ;cases h;obtain ⟨res,cb,b8⟩:=mL (P:=P) av hv bN aQ he;simp only [hP] at b8;subst b8;obtain ⟨aA,cc⟩:=nL ah aE (es':=es++[(clock,k,v)]) (clock':=clock+1) (ents':=bw.push { key:=y,val:=z,born:=clock }) aB aH bb (by simp [bj]) fun j i dd v0 jf hu al=>by
          rw [Array.getElem?_push] at al;split at al
          ·rename_i aw;rw [aw,bj,sL (sb _)] at hu;simp at hu al;obtain ⟨rfl,rfl,rfl⟩:=hu;subst al;exact ⟨rfl,zH,bN,zQ,n8⟩
          ·rename_i aw;have aU:j<bw.size:=(sW.1 al).1;rw [sA (by omega)] at hu;exact bf j i dd v0 jf hu al
         refine ⟨_,?_,U,J,S,Ext.refl J,aA,cc,.junk _,aV.b3 rfl⟩;simp only [Instr.mapUpdate,Sem.run_bind,run_underlying ax,Result.andThen_ok,i_ aR,iH,cb,n7 aR]
        ·cases h
     ·cases h
    ·cases h
   ·cases h
  ·cases h
 ·cases h
theorem FV {t:TypeId} {u:I} (h:oo P t=some u):∃ v,(zeroValue t).run P w=.ok v w∧Rel J S w u v∧u.plain=true:=by
 unfold oo at h;simp only [sf] at h;obtain ⟨v,⟨i,hi,ae⟩,h⟩:=h;refine ⟨v,j4 hi ae,?_⟩;split at h
 ·rename_i cs;split at h
  ·rename_i c_;cases h;refine ⟨.agg _ _ (by simp) (fun u hu=>?_) (fun v ae=>by simp only [sC] at c_;exact c_ v ae) (fun j u v hu ae=>?_),rfl⟩
   ·obtain ⟨x,_,rfl⟩:=ss.1 hu;exact m0 x
   ·rw [su,uZ,ae] at hu;simp at hu;subst hu;exact lr _ _ _ _
  ·cases h
 ·cases h;exact ⟨lr _ _ _ _,m0 _⟩
theorem Fg (ah:aL B U J S w H) {t:TypeId} {ok:Bool} {m k u:I} {H':List au} {x y:Value} (h:ic P t ok H [m,k]=some (u,H'))
  (e2:Rel J S w m x) (bN:Rel J S w k y) :
  ∃ v,(Instr.lookup t x y ok).run P w=.ok v w∧a1 B U J S w H' u v w:=by
 unfold ic at h;split at h
 ·rename_i id k' heq;cases heq;split at h
  ·rename_i eb iD ax;obtain ⟨ax,av⟩:=xb ax;split at h
   ·rename_i es clock hv aE;obtain ⟨b,bw,aB,aH,aR,bj,bb,bf⟩:=ah.obj _ _ aE;cases e2 with
    | map _ ar eX =>
      rw [aB] at eX;cases eX;have he:gm J S w es bw.toList:=⟨by simpa using bj,fun j i k v x hu al=>bf j i k v x hu (by simpa using al)⟩;have iH:=xF (P:=P) av hv bN bw.isEmpty;split at h
      ·rename_i r aQ;simp only [rZ,Prod.mk.injEq] at h;obtain ⟨v,ae,rfl,rfl⟩:=h;obtain ⟨res,cb,b8⟩:=mL (P:=P) av hv bN aQ he;have fin:∀ (z:Value) (b:Bool),Rel J S w v z→v.plain=true →
         a1 B U J S w H (if ok then .tuple [v,.bool b] else v) (if ok then .tuple #[z,.bool b] else z) w:=fun z b aj aC=>by
        cases ok with
        | true=>exact a1.same ah (.tuple _ _ rfl (fun u hu=>by simp only [sk,List.not_mem_nil,or_false] at hu;rcases hu with rfl | rfl;exact aC;rfl) fun j u br hu bc=>by
          match j with
          | 0=>simp at hu bc;subst hu;subst bc;exact aj
          | 1=>simp at hu bc;subst hu;subst bc;exact .bool _
          | j+2=>simp at hu) rfl
        | false=>exact a1.same ah aj aC
       cases r with
       | none =>
         simp only [hP] at b8;subst b8;obtain ⟨z,xY,om,FU⟩:=FV (J:=J) (S:=S) (w:=w) ae;exact ⟨_,by simp only [Instr.lookup,Sem.run_bind,run_underlying ax,Result.andThen_ok,i_ aR,Sem.run_pure,iH,cb,xY],fin z false om FU⟩
       | some n =>
         obtain ⟨e,x,_,aW,cz,rfl,dR⟩:=b8;simp only [vX,uZ] at aW cz;obtain ⟨oL,oM,db⟩:=e;obtain ⟨a',bk,bq,b7,dY⟩:=bf n oL oM db x aW cz;simp only [r_,aW,Option.some.injEq] at ae;subst ae;exact ⟨_,by simp only [Instr.lookup,Sem.run_bind,run_underlying ax,Result.andThen_ok,i_ aR,Sem.run_pure,iH,cb],fin x.val true dY b7⟩
      ·cases h
   ·cases h
  ·cases h
 ·cases h
theorem Fa (ah:aL B U J S w H) {lo:Nat} {ts:Array TypeId} (ty:TypeId) {m k u:I} {H':List au} {x y:Value} (h:hB P lo ts H [m,k]=some (u,H'))
  (e2:Rel J S w m x) (bN:Rel J S w k y) :
  ∃ v w',(Builtin.delete_ ts ty #[x,y]).run P w=.ok v w'∧a1 B U J S w H' u v w':=by
 unfold hB at h;split at h
 ·rename_i id k' heq;cases heq;split at h
  ·rename_i eb iD ax;simp only [sf] at ax;obtain ⟨t,g3,ax⟩:=ax;obtain ⟨ax,av⟩:=xb ax;split at h
   ·rename_i hv;split at h
    ·split at h
     ·rename_i es clock aE;obtain ⟨b,bw,aB,aH,aR,bj,bb,bf⟩:=ah.obj _ _ aE;cases e2 with
      | map _ ar eX =>
        rw [aB] at eX;cases eX;have he:gm J S w es bw.toList:=⟨by simpa using bj,fun j i k v x hu al=>bf j i k v x hu (by simpa using al)⟩;have iH:=xF (P:=P) av hv bN bw.isEmpty;have A7:∀ (w:World),Rel J S w (.tuple []) (.tuple #[]):=fun w=>.tuple _ _ rfl (by simp) (by simp);split at h
        ·rename_i n aQ;cases h;obtain ⟨res,cb,e,x,_,b8,d_,rfl,hp⟩:=mL (P:=P) av hv bN aQ he;obtain ⟨aA,cc⟩:=nL ah aE (es':=es.eraseIdx n) (clock':=clock) (ents':=bw.eraseIdxIfInBounds n) aB aH bb (by rw [←tE,Array.toList_eraseIdxIfInBounds];simp [List.length_eraseIdx,bj]) fun j i dd v0 jf hu al=>by
          rw [←uZ,Array.toList_eraseIdxIfInBounds] at al;rw [List.getElem?_eraseIdx] at hu al;by_cases aw:j<n
          ·simp only [aw,if_true] at hu al;exact bf j i dd v0 jf hu (by simpa using al)
          ·simp only [aw,if_false] at hu al;exact bf _ i dd v0 jf hu (by simpa using al)
         refine ⟨_,_,?_,U,J,S,Ext.refl J,aA,cc,A7 _,aV.b3 rfl⟩;simp only [Builtin.delete_,g3,vQ,uD,vu,Sem.run_bind,run_underlying ax,Result.andThen_ok,i_ aR,iH,cb,n7 aR,Sem.run_pure]
        ·rename_i aQ;cases h;obtain ⟨res,cb,b8⟩:=mL (P:=P) av hv bN aQ he;simp only [hP] at b8;subst b8;obtain ⟨aA,cc⟩:=nL ah aE (es':=es) (clock':=clock) (ents':=bw) aB aH bb bj bf;have C7:H.set id (.map es clock)=H:=tO fun j=>by
          by_cases aw:id=j
          ·subst aw;rw [sg (sa.1 aE).1,aE]
          ·rw [si aw]
         rw [C7] at cc;refine ⟨_,_,?_,U,J,S,Ext.refl J,aA,cc,A7 _,aV.b3 rfl⟩;simp only [Builtin.delete_,g3,vQ,uD,vu,Sem.run_bind,run_underlying ax,Result.andThen_ok,i_ aR,iH,cb,n7 aR,Sem.run_pure]
        ·cases h
     ·cases h
    ·cases h
   ·cases h
  ·cases h
 ·cases h
theorem Fq (ah:aL B U J S w H) {t:TypeId} {m u:I} {H':List au} {x:Value} (h:kW P t H [m]=some (u,H')) (e2:Rel J S w m x) :
  ∃ v w',(Instr.range t x).run P w=.ok v w'∧a1 B U J S w H' u v w':=by
 unfold kW at h;split at h
 ·rename_i id heq;cases heq;split at h
  ·rename_i eb iD es clock ax aE;cases h;obtain ⟨b,bw,aB,aH,aR,bj,bb,bf⟩:=ah.obj _ _ aE;cases e2 with
   | map _ ar eX =>
     rw [aB] at eX;cases eX;refine ⟨.pointer (some ⟨w.heap.size,0,none⟩),w.alloc (.mapIter (some b) clock #[] clock),by simp only [Instr.range,Sem.run_bind,run_underlying ax,Result.andThen_ok,i_ aR,Sem.run_pure,run_newObj_alloc],_,_,S,Ext.append J _,kj ah _ (.obj H.length),?_,.ptr _ _ _ (Ext.last ah _),aV.b3 rfl⟩;exact (nv ah _ (.obj H.length)).push w.heap.size ⟨w.heap.size,b,Ext.last ah _,by simp [lay],Ext.append J _ _ _ aB,yB w _,mx ah⟩
  ·cases h
 ·cases h
theorem ym {J:List Nat} {S:Nat→Nat→Prop} {w:World} (gh:Nat):∀ (es:List (Nat×I×I)) (bw:List MapEntry) (e:Nat×I×I),gm J S w es bw→es.find? (fun e=>e.1 == gh)=some e →
  ∃ x,bw.find? (fun x=>x.born == gh)=some x∧Rel J S w e.2.1 x.key∧Rel J S w e.2.2 x.val∧e.2.1.plain=true∧e.2.2.plain=true
 | [],bw,e,aj,h=>by simp at h
 | fT::es,bw,e,aj,h=>by
   have aS:=aj;obtain ⟨x,ents',rfl,ad,af,aG,a6⟩:=aj.cons;obtain ⟨_,bR,_,b4,_⟩:=aS.2 0 fT.1 fT.2.1 fT.2.2 x rfl rfl;rw [List.find?_cons] at h ⊢;rw [ad];split at h
   ·rename_i ag;cases h;exact ⟨x,by simp,af,aG,bR,b4⟩
   ·rename_i ag;obtain ⟨oj,g⟩:=ym gh es ents' e a6 h;exact ⟨oj,by simp [g.1],g.2⟩
theorem Fb (ah:aL B U J S w H) {m u:I} {H':List au} {x:Value} (h:kU H [m]=some (u,H')) (e2:Rel J S w m x) :
  ∃ v,(Instr.entry x).run P w=.ok v w∧a1 B U J S w H' u v w:=by
 unfold kU at h;split at h
 ·rename_i r heq;cases heq;split at h
  ·rename_i m since seen j9 aE;split at h
   ·rename_i gh es clock cJ CH;split at h
    ·rename_i ao;subst ao;split at h
     ·rename_i e he;cases h;obtain ⟨b,ee,aB,aH,aR,bj,bb⟩:=ah.obj _ _ aE;obtain ⟨ar,bw,a',bk,bq,b7,dY,fR⟩:=ah.obj _ _ CH;rw [aR] at a';cases a';cases e2 with
      | ptr _ _ ar eX =>
        rw [aB] at eX;cases eX;have aj:gm J S w es bw.toList:=⟨by simpa using b7,fun j i k v x hu al=>fR j i k v x hu (by simpa using al)⟩;obtain ⟨y,cb,b8,d_,hp,BZ⟩:=ym gh es bw.toList e aj he;(have ag:(seen.toArray).back?=some gh:=by simpa using cJ);have aO:(getObj b).run P w=.ok (.mapIter (some ee) since seen.toArray clock) w:=by simp [getObj,Sem.run,bj]
        refine ⟨.tuple #[y.key,y.val],?_,a1.same ah (.tuple _ _ rfl (by simp [hp,BZ]) fun j u br hu bc=>by
          match j with
          | 0=>simp at hu bc;subst hu;subst bc;exact b8
          | 1=>simp at hu bc;subst hu;subst bc;exact d_
          | j+2=>simp at hu) rfl⟩
        (have aQ:bw.find? (fun x=>x.born == gh)=some y:=by rw [←Array.find?_toList];exact cb);simp [Instr.entry,aO,ag,i_ bq,aQ]
     ·cases h
    ·cases h
   ·cases h
  ·cases h
 ·cases h
end
end Go.Proofs.YtfakoboiahbhaaaGreat.Ab


namespace Go.Proofs.YtfakoboiahbhaaaGreat.Ab
open Go
section
variable {P:Program} {B:Nat} {J:List Nat} {w:World} {H:List au} {U:Nat→Option aI} {S:Nat→Nat→Prop}
theorem zI (ah:aL B U J S w H) {id off len sz n:Nat} {cap:Option Nat} {row:List I} {v:Value} (cS:rowOf H (.ref id off len cap sz)=some row) (aN:lenOf (.ref id off len cap sz)=some n)
  (aj:Rel J S w (.ref id off len cap sz) v) :
  a1 B U J S w (H.set id .dead) (.ay row n (gV cap n)) v w:=by
 classical
 simp [lenOf] at aN;subst aN;cases aj with
 | ref _ _ _ _ _ b gx ag ao hle =>
   unfold rowOf at cS;simp only at cS;split at cS
   ·rename_i l aE;split at cS
    ·rename_i dI;simp only [Option.some.injEq] at cS;obtain ⟨ar,cur,e,aB,aH,aR,bj,bb,bf⟩:=ah.obj id _ aE;rw [ag] at aB;cases aB
     let S':Nat→Nat→Prop:=fun ar o=>S ar o∨(ar=b∧o<cur.size)
     let az:Nat→Option aI:=fun ar=>if ar=b then none else U ar
     have bu:∀ o,o<cur.size→w.cell? ⟨b,o,none⟩=cur[o]?:=fun o aq=>by
      simp [World.cell?,aR,aq]
     have aA:bg U S w az S' w:=⟨rfl,rfl,rfl,sb _,fun _ _ _=>rfl,fun _ _ h=>⟨.inl h,rfl⟩,fun ar o h=>by
       rcases h with h | ⟨rfl,_⟩
       ·exact .inl h
       ·exact .inr (.inl (by simp [aH])),fun ar bp=>by
       by_cases dH:ar=b
       ·simp [az,dH] at bp
       ·simp only [az,dH,if_false] at bp;exact .inl bp⟩
     have bW:aL B az J S' w (H.set id .dead):=by
      refine ⟨by simpa using ah.cE,fun bx o aq=>?_,fun ar o h=>?_,fun ar l' bp=>?_,ah.cX⟩
      ·by_cases cu:bx=id
       ·subst cu
        have:o=.dead:=by
         have:=(sa.1 aE).1;simp [this] at aq;exact aq.symm
        subst this;trivial
       ·rw [si (Ne.symm cu)] at aq;refine (ah.obj bx o aq).frame (Ext.refl J) aA.set (fun ar l' bp ak=>?_);have bM:ar≠b:=fun e=>by
         subst e;rw [aH] at bp;cases bp;rcases ak with h | ⟨j,h⟩
         ·cases h;exact cu rfl
         ·cases h
        exact ⟨by simp [az,bM,bp],rfl,fun o h=>h.resolve_right fun h=>bM h.1⟩
      ·rcases h with h | ⟨rfl,h⟩
       ·exact ah.cf _ _ h
       ·exact ⟨_,(bu o h).trans (sD h)⟩
      ·by_cases dH:ar=b
       ·simp [az,dH] at bp
       ·simp only [az,dH,if_false] at bp;exact ah.base _ _ bp
     (have hlen:row.length=len*sz:=by subst cS;simp;omega);refine ⟨az,J,S',Ext.refl J,aA,bW,.ay row len _ b off gx (fun j=>cur.getD (off+j) undef) (fun h=>?_) hle (fun z h=>?_) (fun j u aw=>?_) (fun j u aw=>?_),aV.b3 ?_⟩
     ·unfold gV at h;cases cap with
      | none=>simp at h
      | some c =>
        simp only at h;split at h
        ·rename_i cC;rw [ao c rfl,cC]
        ·cases h
     ·unfold gV at h;cases cap with
      | none=>simp at h
      | some c=>simp only at h;split at h <;> cases h
     all_goals (try (
      have h0:=(sa.1 aw).1;(have fo:off+j<l.length:=by omega);(have e':off+j<cur.size:=by omega);have al:l[off+j]?=some l[off+j]:=sq fo;have ae:cur[off+j]?=some cur[off+j]:=sD e';(have aO:cur.getD (off+j) undef=cur[off+j]:=by simp [e']);have hu:u=l[off+j].view:=by
       subst cS;rw [su,sV,if_pos (by simp at h0;omega),sX,al] at aw;simpa using aw.symm
      obtain ⟨a',bk,bq,b7⟩:=bf (off+j) _ _ al ae
      subst hu))
     ·exact ⟨.inr ⟨rfl,e'⟩,by rw [bu _ e',ae,aO],I.dh _,by rw [aO];exact bk⟩
     ·rw [aO];exact (bq.view a').mono (Ext.refl J) aA.set
     ·unfold gV;cases cap with
      | none=>rfl
      | some c=>simp only;split <;> rfl
    ·simp at cS
   ·simp at cS
theorem AU (ah:aL B U J S w H) {t e:TypeId} (ax:P.underlying t=some (.slice e)) {id off n z:Nat} {l c:List I} (aE:H[id]?=some (.cells l)) (cW:l[off]?=some (.ay c n (.own z))) {v:Value}
  (aj:Rel J S w (.ptr id off) v) :
  ∃ x,(Instr.loadAt t v).run P w=.ok x w∧a1 B U J S w (H.set id (.cells (l.set off (.ay c n .shared)))) (.ay c n (.own z)) x w:=by
 classical
 have ch:dK P t=false:=by simp [dK,ax]
 obtain ⟨b,cur,cM,aB,aH,aR,bj,bb,bf⟩:=ah.obj id _ aE;cases aj with
 | ptr _ _ ar ag =>
   rw [aB] at ag;cases ag;have aw:off<l.length:=(sa.1 cW).1;(have fo:off<cur.size:=by omega);have iI:cur[off]?=some cur[off]:=sD fo;obtain ⟨a',bk,bq,b7⟩:=bf off _ _ cW iI;(have bu:w.cell? ⟨b,off,none⟩=some cur[off]:=by rw [cell_of_row w b _ cur cM (0,0) aR,iI]);refine ⟨cur[off],by simp [Instr.loadAt,Instr.sureAddr,loadVar,gI ax,ch,load,Sem.run,bu],?_⟩
   let az:Nat→Option aI:=fun ar=>if U ar=some (.cell id off) then some .res else U ar
   have aA:bg U S w az S w:=⟨rfl,rfl,rfl,sb _,fun _ _ _=>rfl,fun _ _ h=>⟨h,rfl⟩,fun _ _ h=>.inl h,fun b ag=>.inl fun aS=>ag (by simp [az,aS])⟩;have av:∀ ar l',U ar=some l'→l'≠.cell id off→az ar=some l':=fun ar l' ad af=>by
    have:¬ U ar=some (.cell id off):=by rw [ad];intro e;cases e;exact af rfl
    simp [az,ad,af]
   refine ⟨az,J,S,Ext.refl J,aA,⟨by simpa using ah.cE,fun bx o aq=>?_,ah.cf,fun ar l' bp=>?_,ah.cX⟩,bq,b7.mono (Ext.refl J) aA.set fun ar bp=>⟨by simp [az,bp],rfl,fun _ h=>h⟩⟩
   ·by_cases cu:bx=id
    ·subst cu;rw [sg (sa.1 aE).1] at aq;cases aq;refine ⟨b,cur,cM,aB,av b _ aH (by simp),aR,by simpa using bj,bb,fun j u v hu ae=>?_⟩;by_cases hx:j=off
     ·subst hx;rw [sg aw] at hu;cases hu;obtain ⟨cb,b8,d_,_⟩:=bf j _ _ cW ae;exact ⟨rfl,b8,d_.view cb,aV.b3 rfl⟩
     ·rw [si (Ne.symm hx)] at hu;obtain ⟨d1,d2,d3,d4⟩:=bf j u v hu ae;exact ⟨d1,d2,d3,d4.mono (Ext.refl J) aA.set fun ar bp=>⟨av ar _ bp (by simp [hx]),rfl,fun _ h=>h⟩⟩
    ·rw [si (Ne.symm cu)] at aq;refine (ah.obj bx o aq).frame (Ext.refl J) aA.set (fun ar l' bp ak=>⟨av ar l' bp ?_,rfl,fun _ h=>h⟩);rcases ak with rfl | ⟨j,rfl⟩
     ·simp
     ·simp [cu]
   ·by_cases h:U ar=some (.cell id off)
    ·exact ah.base ar _ h
    ·simp only [az,h,if_false] at bp;exact ah.base ar l' bp
theorem AV (ah:aL B U J S w H) {t e:TypeId} (ax:P.underlying t=some (.slice e)) {id off n z:Nat} {l c:List I} (aE:H[id]?=some (.cells l)) (cW:l[off]?=some (.raw c n z)) {v:Value}
  (aj:Rel J S w (.ptr id off) v) :
  ∃ b x,J[id]?=some b∧w.cell? ⟨b,off,none⟩=some x∧x.oneCell'=true∧(Instr.loadAt t v).run P w=.ok x w∧a1 B U J S w (H.set id (.cells (l.set off .junk))) (.ay c n (.uniq z)) x w:=by
 classical
 have ch:dK P t=false:=by simp [dK,ax]
 obtain ⟨b,cur,cM,aB,aH,aR,bj,bb,bf⟩:=ah.obj id _ aE;cases aj with
 | ptr _ _ ar ag =>
   rw [aB] at ag;cases ag;have aw:off<l.length:=(sa.1 cW).1;(have fo:off<cur.size:=by omega);have iI:cur[off]?=some cur[off]:=sD fo;obtain ⟨a',bk,bq,b7⟩:=bf off _ _ cW iI;obtain ⟨FE,FF⟩:=Ec bq b7;(have bu:w.cell? ⟨b,off,none⟩=some cur[off]:=by rw [cell_of_row w b _ cur cM (0,0) aR,iI]);refine ⟨b,cur[off],aB,bu,bk,by simp [Instr.loadAt,Instr.sureAddr,loadVar,gI ax,ch,load,Sem.run,bu],?_⟩
   let az:Nat→Option aI:=fun ar=>if U ar=some (.cell id off) then some .res else U ar
   have aA:bg U S w az S w:=⟨rfl,rfl,rfl,sb _,fun _ _ _=>rfl,fun _ _ h=>⟨h,rfl⟩,fun _ _ h=>.inl h,fun b ag=>.inl fun aS=>ag (by simp [az,aS])⟩;have av:∀ ar l',U ar=some l'→l'≠.cell id off→az ar=some l':=fun ar l' ad af=>by
    have:¬ U ar=some (.cell id off):=by rw [ad];intro e;cases e;exact af rfl
    simp [az,ad,af]
   refine ⟨az,J,S,Ext.refl J,aA,⟨by simpa using ah.cE,fun bx o aq=>?_,ah.cf,fun ar l' bp=>?_,ah.cX⟩,FE,FF.mono (Ext.refl J) aA.set fun ar bp=>⟨by simp [az,bp],rfl,fun _ h=>h⟩⟩
   ·by_cases cu:bx=id
    ·subst cu;rw [sg (sa.1 aE).1] at aq;cases aq;refine ⟨b,cur,cM,aB,av b _ aH (by simp),aR,by simpa using bj,bb,fun j u v hu ae=>?_⟩;by_cases hx:j=off
     ·subst hx;rw [sg aw] at hu;cases hu;obtain ⟨cb,b8,d_,_⟩:=bf j _ _ cW ae;exact ⟨rfl,b8,.junk _,aV.b3 rfl⟩
     ·rw [si (Ne.symm hx)] at hu;obtain ⟨d1,d2,d3,d4⟩:=bf j u v hu ae;exact ⟨d1,d2,d3,d4.mono (Ext.refl J) aA.set fun ar bp=>⟨av ar _ bp (by simp [hx]),rfl,fun _ h=>h⟩⟩
    ·rw [si (Ne.symm cu)] at aq;refine (ah.obj bx o aq).frame (Ext.refl J) aA.set (fun ar l' bp ak=>⟨av ar l' bp ?_,rfl,fun _ h=>h⟩);rcases ak with rfl | ⟨j,rfl⟩
     ·simp
     ·simp [cu]
   ·by_cases h:U ar=some (.cell id off)
    ·exact ah.base ar _ h
    ·simp only [az,h,if_false] at bp;exact ah.base ar l' bp
theorem CZ (ah:aL B U J S w H) {id off b:Nat} {l:List I} (aE:H[id]?=some (.cells l)) (ag:J[id]?=some b) {u:I} {x:Value} (al:w.cell? ⟨b,off,none⟩=some x) (ad:x.oneCell'=true) (aC:u.plain=true) (aj:Rel J S w u x) :
  aL B U J S w (H.set id (.cells (l.set off u))):=by
 refine ⟨by simpa using ah.cE,fun bx o aq=>?_,ah.cf,ah.base,ah.cX⟩;by_cases cu:bx=id
 ·subst cu;rw [sg (sa.1 aE).1] at aq;cases aq;obtain ⟨ar,cur,cM,aB,aH,aR,bj,bb,bf⟩:=ah.obj bx _ aE;rw [ag] at aB;cases aB;refine ⟨b,cur,cM,ag,aH,aR,by simpa using bj,bb,fun j y v hu ae=>?_⟩;by_cases hx:off=j
  ·subst hx;(have aU:off<l.length:=by have:=(sa.1 hu).1;simpa using this);rw [sg aU] at hu;cases hu;rw [cell_of_row w b _ cur cM (0,0) aR,ae] at al;cases al;exact ⟨I.ga aC,ad,aj,aV.b3 aC⟩
  ·rw [si hx] at hu;exact bf j y v hu ae
 ·rw [si (Ne.symm cu)] at aq;exact ah.obj bx o aq
theorem Fv (ah:aL B U J S w H) {t e:TypeId} (ax:P.underlying t=some (.slice e)) {id off n z:Nat} {l c:List I} (aN:n≠0) (aE:H[id]?=some (.cells l)) (cW:l[off]?=some (.raw c n z)) {v:Value}
  (aj:Rel J S w (.ptr id off) v) :
  ∃ x,(Instr.loadAt t v).run P w=.ok x w∧a1 B U J S w (H.set id (.cells (l.set off (.ref H.length 0 n none z)))++[.cells c]) (.ref H.length 0 n none z) x w:=by
 obtain ⟨b,x,ad,af,aG,a6,b2,cQ,a4,aJ,aP,cj,jO,Df⟩:=AV ah ax aE cW aj;refine ⟨x,a6,?_⟩;obtain ⟨bn,cg,bH,de,df,jP,kN,zl⟩:=zL cj (l:=.res) (by simp) (by simp) aN jO Df;rw [List.length_set] at kN zl;have aU:=(sa.1 aE).1;have fm:cg[id]?=some b:=de _ _ (aJ _ _ ad);have pj:(H.set id (au.cells (l.set off .junk))++[au.cells c])[id]?=some (au.cells (l.set off .junk)):=by
  rw [sA (by simpa using aU),sg aU]
 have al:=CZ jP pj fm af aG (u:=.ref H.length 0 n none z) rfl kN;have e:(H.set id (au.cells (l.set off .junk))++[au.cells c]).set id (au.cells ((l.set off .junk).set off (.ref H.length 0 n none z)))=H.set id (au.cells (l.set off (.ref H.length 0 n none z)))++[au.cells c]:=by
  rw [List.set_append_left _ _ (by simpa using aU),sQ,sQ]
 rw [e] at al;exact ⟨bn,cg,bH,aJ.trans de,aP.trans df,al,kN,zl⟩
theorem Dc {x:Operand} (h:iQ x=true):x=.const (.slice none 0 0):=by
 unfold iQ at h;split at h
 ·rfl
 ·simp at h
theorem eP (i:Nat):∀ id,aI.arg i≠.obj id:=fun _=>by simp
theorem eQ (i:Nat):∀ id j,aI.arg i≠.cell id j:=fun _ _=>by simp
theorem D9 (ah:aL B U J S w H) {id gid n z:Nat} {l:List I} (aE:H[id]?=some (.grow l gid z)) (aN:n*z≤l.length) (aC:(l.take (n*z)).all I.plain=true) {v:Value} (aj:Rel J S w (.cl id gid n z) v) :
  a1 B U J S w (H.set id .dead) (.ay (l.take (n*z)) n (.uniq z)) v w:=by
 classical
 rw [sC] at aC;obtain ⟨b,cur,e,aB,aH,aR,bj,bb,bf,cap,c1,da,dF,fx⟩:=ah.obj id _ aE;cases aj with
 | cl _ _ _ _ ar cap' ag aO hle =>
   rw [aB] at ag;cases ag;rw [c1] at aO;cases aO
   let az:Nat→Option aI:=fun ar=>if U ar=some (.obj id) then some .res else U ar
   have aA:bg U S w az S w:=⟨rfl,rfl,rfl,sb _,fun _ _ _=>rfl,fun _ _ h=>⟨h,rfl⟩,fun _ _ h=>.inl h,fun b ag=>.inl fun aS=>ag (by simp [az,aS])⟩;have av:∀ ar l',U ar=some l'→l'≠.obj id→az ar=some l':=fun ar l' ad af=>by
    have:¬ U ar=some (.obj id):=by rw [ad];intro e;cases e;exact af rfl
    simp [az,ad,af]
   refine ⟨az,J,S,Ext.refl J,aA,⟨by simpa using ah.cE,fun bx o aq=>?_,ah.cf,fun ar l' bp=>?_,ah.cX⟩,.cK _ _ _ _ _ _,.inr ⟨by simp [az,aH],rfl,hle,da,dF,by simp;omega,⟨cur,e,aR,fx,fun j u v hu ae=>?_⟩,bb⟩⟩
   ·by_cases cu:bx=id
    ·subst cu;rw [sg (sa.1 aE).1] at aq;cases aq;trivial
    ·rw [si (Ne.symm cu)] at aq;refine (ah.obj bx o aq).frame (Ext.refl J) aA.set (fun ar l' bp ak=>⟨av ar l' bp ?_,rfl,fun _ h=>h⟩);rcases ak with rfl | ⟨j,rfl⟩
     ·simp [cu]
     ·simp
   ·by_cases h:U ar=some (.obj id)
    ·exact ah.base ar _ h
    ·simp only [az,h,if_false] at bp;exact ah.base ar l' bp
   ·have b_:u∈l.take (n*z):=sK hu;rw [sV] at hu;split at hu
    ·obtain ⟨_,bk,bq,_⟩:=bf j u v hu ae;exact ⟨aC u b_,bk,bq⟩
    ·simp at hu
theorem AR (ah:aL B U J S w H) {aT:Operand→Value} (eN:∀ v,aT (.const v)=v) {lo mode:Nat} {t:TypeId} {x:Operand} {us:List I} {r:I} {H':List au}
  (h:eS P lo mode t x H us=some (r,H')) (ae:a9 (fun i=>.arg i) U J S w us ([x].map aT)):a1 B U J S w H' r (aT x) w:=by
 obtain ⟨u,rfl,r1,bA⟩:=a9.one ae;unfold eS at h;simp only at h;split at h
 ·split at h
  ·rename_i aN ax;simp only [rZ,Prod.mk.injEq] at h;obtain ⟨z,_,rfl,rfl⟩:=h;rw [Dc aN,eN];exact ⟨U,J,S,Ext.refl J,bg.refl U S w,ah,.b1 _ _,trivial⟩
  ·cases h;exact ig ah (eP _) (eQ _) r1 bA
 ·split at h
  ·rename_i cells len z;split at h
   ·cases h;exact ig ah (eP _) (eQ _) r1 bA
   ·rename_i aS;cases h;exact zL ah (eP _) (eQ _) aS r1 bA
  ·cases h;exact ig ah (eP _) (eQ _) r1 bA
  ·cases h;exact ig ah (eP _) (eQ _) r1 bA
  ·simp at h
 ·split at h
  ·rename_i id gid n z;split at h
   ·split at h
    ·rename_i l g cU aE;split at h
     ·rename_i ao;obtain ⟨rfl,rfl,ad,af⟩:=ao;cases h;exact D9 ah aE ad af r1
     ·simp at h
    ·simp at h
   ·simp at h
  ·cases h;exact ig ah (eP _) (eQ _) r1 bA
 ·split at h
  ·rename_i id off len cap sz;split at h
   ·simp only [sf,rZ,Prod.mk.injEq] at h;obtain ⟨row,cS,n,aN,rfl,rfl⟩:=h;exact zI ah cS aN r1
   ·simp at h
  ·rename_i id gid n z;split at h
   ·split at h
    ·rename_i l g cU aE;split at h
     ·rename_i ak;cases h;have aU:=(sa.1 aE).1;have q:=zI (ah.og aE) (row:=l.map I.view) (by simp only [rowOf,sg aU,sP];rw [if_pos (by omega),sO,tQ (by omega)]) rfl (r1.view rfl);rw [sQ] at q;exact q
     ·simp at h
    ·simp at h
   ·simp at h
  ·cases h;obtain ⟨S',aJ,aP,cc,r2⟩:=mq ah (eP _) (eQ _) r1 bA;exact a1.after (Ext.refl J) (bg.settle aJ fun b o h=>(aP b o h).imp id fun h=>⟨_,h⟩) (a1.same cc r2 (I.dh _))
theorem Ff (ah:aL B U J S w H) {t e:TypeId} (ax:P.underlying t=some (.slice e)) {id off i g n z:Nat} {l:List I} (aE:H[id]?=some (.cells l)) (cW:l[off]?=some (.cl i g n z)) {v:Value}
  (aj:Rel J S w (.ptr id off) v):∃ x,(Instr.loadAt t v).run P w=.ok x w∧a1 B U J S w H (.cl i g n z) x w:=by
 have ch:dK P t=false:=by simp [dK,ax]
 obtain ⟨b,cur,cM,aB,aH,aR,bj,bb,bf⟩:=ah.obj id _ aE;cases aj with
 | ptr _ _ ar ag =>
   rw [aB] at ag;cases ag;have aw:off<l.length:=(sa.1 cW).1;(have fo:off<cur.size:=by omega);have iI:cur[off]?=some cur[off]:=sD fo;obtain ⟨a',bk,bq,b7⟩:=bf off _ _ cW iI;(have bu:w.cell? ⟨b,off,none⟩=some cur[off]:=by rw [cell_of_row w b _ cur cM (0,0) aR,iI]);exact ⟨cur[off],by simp [Instr.loadAt,Instr.sureAddr,loadVar,gI ax,ch,load,Sem.run,bu],U,J,S,Ext.refl J,bg.refl U S w,ah,bq,trivial⟩
theorem Fe (ah:aL B U J S w H) {lo mode:Nat} {t:TypeId} {u:I} {r:I} {H':List au} {v:Value} (h:dQ P lo mode t H [u]=some (r,H')) (aj:Rel J S w u v) :
  ∃ x,(Instr.loadAt t v).run P w=.ok x w∧a1 B U J S w H' r x w:=by
 unfold dQ at h;simp only at h;split at h
 ·simp only [rZ,Prod.mk.injEq] at h;obtain ⟨r',h,rfl,rfl⟩:=h;obtain ⟨x,ad,af,aG⟩:=k4 ah h aj;exact ⟨x,ad,a1.same ah af aG⟩
 ·split at h
  ·simp only [rZ,Prod.mk.injEq] at h;obtain ⟨r',h,rfl,rfl⟩:=h;obtain ⟨x,ad,af,aG⟩:=k4 (t:=t) ah (by simpa only [dT] using h) aj;exact ⟨x,ad,a1.same ah af aG⟩
  ·simp at h
 ·split at h
  ·rename_i e id off ax;split at h
   ·rename_i l aE;split at h
    ·rename_i i g n z cW;cases h;exact Ff ah ax aE cW aj
    ·rename_i cW;cases h
     have:dT P H t (.ptr id off)=some (.ay [] 0 .full):=by simp [dT,aE,eu,dK,ax,cW,I.view]
     obtain ⟨x,ad,af,aG⟩:=k4 ah this aj;exact ⟨x,ad,a1.same ah af aG⟩
    ·simp at h
   ·simp at h
  ·simp at h
 ·split at h
  ·rename_i e id off ax;split at h
   ·split at h
    ·rename_i l aE;split at h
     ·rename_i c n z cW;cases h;exact AU ah ax aE cW aj
     ·rename_i c n z cW;split at h
      ·split at h
       ·simp at h
       ·rename_i aN;cases h;exact Fv ah ax aN aE cW aj
      ·cases h;obtain ⟨_,x,_,_,_,ad,af⟩:=AV ah ax aE cW aj;exact ⟨x,ad,af⟩
     ·rename_i bG cY iN cW;cases h
      have:dT P H t (.ptr id off)=some bG.view:=by simp [dT,aE,eu,dK,ax,cW]
      obtain ⟨x,ad,af,aG⟩:=k4 ah this aj;exact ⟨x,ad,a1.same ah af aG⟩
     ·simp at h
    ·rename_i l g cU aE;have aU:=(sa.1 aE).1;split at h
     ·rename_i c n z cW;cases h;obtain ⟨b,cur,cM,aB,aH,aR,bj,bb,bf,cap,c1,da,dF,fx⟩:=ah.obj id _ aE;obtain ⟨x,ad,az,bZ,S',bR,b4,eE,fM⟩:=AU (ah.og aE) ax (by rw [sg aU]) cW aj;have aO:=eE.xo (g:=g) (z:=cU) (by rw [sg (by simpa using aU)]) (bR _ _ aB) (bR _ _ c1) da dF aR fx;rw [sQ,sQ] at aO;exact ⟨x,ad,az,bZ,S',bR,b4,aO,fM⟩
     ·rename_i c n cW;cases h
      have:dT P H t (.ptr id off)=some (.ay c n .full):=by simp [dT,aE,eu,dK,ax,cW,I.view]
      obtain ⟨x,ad,af,aG⟩:=k4 ah this aj;exact ⟨x,ad,a1.same ah af aG⟩
     ·simp at h
    ·simp at h
   ·simp at h
  ·simp at h
theorem AQ (ah:aL B U J S w H) {lo:Nat} {b:Builtin} {ts:Array TypeId} (ty:TypeId) (cs:Array Bool) {us:List I} {r:I} {H':List au} {vs:List Value} (h:ev P lo b ts H us=some (r,H'))
  (ae:a9 (fun i=>.arg i) U J S w us vs):∃ y w',(builtin b ts ty cs vs.toArray).run P w=.ok (.value y) w'∧a1 B U J S w H' r y w':=by
 have one:∀ {u:I},us=[u]→∃ v,vs=[v]∧Rel J S w u v:=fun {u} e=>by
  subst e
  match vs,ae with
  | [v],ae=>exact ⟨v,rfl,ae.rel 0 u v rfl rfl⟩
  | [],ae=>exact absurd ae.len (by simp)
  | _::_::_,ae=>exact absurd ae.len (by simp)
 have two:∀ {u x:I},us=[u,x]→∃ v y,vs=[v,y]∧Rel J S w u v∧aV U J S w (.arg 0) u v∧Rel J S w x y∧aV U J S w (.arg 1) x y:=fun {u x} e=>by
  subst e
  match vs,ae with
  | [v,y],ae=>exact ⟨v,y,rfl,ae.rel 0 u v rfl rfl,ae.own 0 u v rfl rfl,ae.rel 1 x y rfl rfl,ae.own 1 x y rfl rfl⟩
  | [],ae=>exact absurd ae.len (by simp)
  | [_],ae=>exact absurd ae.len (by simp)
  | _::_::_::_,ae=>exact absurd ae.len (by simp)
 unfold ev at h;split at h
 ·
  unfold iW at h;split at h
  ·rename_i s x;split at h
   ·rename_i t dp g3;(have g3:ts=#[t,dp]:=by rw [←uC (xs:=ts),g3]);subst g3;simp only [rZ,Prod.mk.injEq] at h;obtain ⟨r',h,rfl,rfl⟩:=h;obtain ⟨v,y,rfl,r1,bA,r2,bQ⟩:=two rfl;obtain ⟨z,w',ad,af⟩:=AO ah ty (eP _) (eQ _) (eP _) (eQ _) (by simp) h r1 bA r2 bQ;exact ⟨z,w',by simp [builtin,ad],af⟩
   ·simp at h
  ·simp at h
 ·
  match us with
  | [u] =>
    obtain ⟨v,rfl,r1⟩:=one rfl;obtain ⟨y,ad,af⟩:=Fc ah (ts:=ts) ty h r1;exact ⟨y,w,by simp [builtin,ad],af⟩
  | []=>simp [ha] at h
  | _::_::_=>simp [ha] at h
 ·
  match us with
  | [u] =>
    obtain ⟨v,rfl,r1⟩:=one rfl;obtain ⟨y,ad,af⟩:=E9 ah (ts:=ts) ty h r1;exact ⟨y,w,by simp [builtin,ad],af⟩
  | []=>simp [jU] at h
  | _::_::_=>simp [jU] at h
 ·
  match us with
  | [u,x] =>
    obtain ⟨v,y,rfl,r1,bA,r2,bQ⟩:=two rfl;obtain ⟨z,w',ad,af⟩:=E' ah (ts:=ts) ty (eP _) (eQ _) h r1 r2 bQ;exact ⟨z,w',by simp [builtin,ad],af⟩
  | []=>simp [jV] at h
  | [_]=>simp [jV] at h
  | _::_::_::_=>simp [jV] at h
 ·
  match us with
  | [u] =>
    obtain ⟨v,rfl,r1⟩:=one rfl;obtain ⟨y,w',ad,af⟩:=E_ ah (ts:=ts) ty h r1;exact ⟨y,w',by simp [builtin,ad],af⟩
  | []=>simp [kT] at h
  | _::_::_=>simp [kT] at h
 ·
  match us with
  | [u,x] =>
    obtain ⟨v,y,rfl,r1,_,r2,_⟩:=two rfl;obtain ⟨z,w',ad,af⟩:=Fa ah (ts:=ts) ty h r1 r2;exact ⟨z,w',by simp [builtin,ad],af⟩
  | []=>simp [hB] at h
  | [_]=>simp [hB] at h
  | _::_::_::_=>simp [hB] at h
 ·simp only [rZ,Prod.mk.injEq] at h;obtain ⟨r',h,rfl,rfl⟩:=h;obtain ⟨y,ad,af,aG⟩:=Fm (P:=P) ts ty h ae;exact ⟨y,w,by simp [builtin,ad],a1.same ah af aG⟩
 ·simp only [rZ,Prod.mk.injEq] at h;obtain ⟨r',h,rfl,rfl⟩:=h;obtain ⟨y,ad,af,aG⟩:=Fl (P:=P) ts ty h ae;exact ⟨y,w,by simp [builtin,ad],a1.same ah af aG⟩
 ·simp at h
end
end Go.Proofs.YtfakoboiahbhaaaGreat.Ab


namespace Go.Proofs.YtfakoboiahbhaaaGreat.Ab
open Go
section
variable {P:Program} {B:Nat} {J:List Nat} {w:World} {H:List au} {U:Nat→Option aI} {S:Nat→Nat→Prop}
theorem a9.tail {bz:Nat→aI} {us:List I} {vs:List Value} {u:I} {v:Value} (h:a9 bz U J S w (u::us) (v::vs)):a9 (fun i=>bz (i+1)) U J S w us vs :=
 ⟨by simpa using h.len,fun i a b cd ag=>h.rel (i+1) a b (by simpa using cd) (by simpa using ag),fun i a b cd ag=>h.own (i+1) a b (by simpa using cd) (by simpa using ag)⟩
theorem kX {bz:Nat→aI} {us:List I} {vs:List Value} (ae:a9 bz U J S w us vs) {aT:Operand→Value} (i:Nat) (l:Option Operand) (ak:∀ x,l=some x→vs[i]?=some (aT x)) :
  eI J S w (dn us i l) (l.map aT):=by
 cases l with
 | none=>trivial
 | some x =>
   have ad:=ak x rfl;(have af:i<us.length:=by rw [ae.len];exact (sa.1 ad).1);simp only [dn,sq af,sd];exact ae.rel i _ _ (sq af) ad
theorem eI.mono {S':Nat→Nat→Prop} (cm:∀ b o,S b o→S' b o) {a:Option I} {b:Option Value} (h:eI J S w a b):eI J S' w a b:=by
 cases a <;> cases b <;> first | exact h | exact Rel.mono (Ext.refl J) (fun b o h=>⟨cm b o h,rfl⟩) h
theorem Fw (ah:aL B U J S w H) {aT:Operand→Value} {t:TypeId} {x:Operand} {l h m:Option Operand} {u:I} {vs:List I} {r:I} {i1 i2:Nat}
  (aq:eU P t u.view (dn vs 0 l) (dn vs i1 h) (dn vs i2 m)=some r) (ad:i1=l.toList.length) (af:i2=l.toList.length+h.toList.length)
  (ik:Rel J S w u (aT x)) (ie:aV U J S w (.arg 0) u (aT x)) {bz:Nat→aI} (ea:a9 bz U J S w vs ((l.toList++h.toList++m.toList).map aT)) :
  ∃ v,(Instr.sliceAt t (aT x) (l.map aT) (h.map aT) (m.map aT)).run P w=.ok v w∧a1 B U J S w H r v w:=by
 obtain ⟨S',aJ,aP,cc,r1⟩:=mq ah (eP _) (eQ _) ik ie;obtain ⟨v,q1,aW,cz⟩:=EI (J:=J) (S:=S') (w:=w) aq (I.dh u) r1
  ((kX (aT:=aT) ea 0 l (fun y a0=>by subst a0;simp)).mono aJ)
  ((kX (aT:=aT) ea i1 h (fun y a0=>by subst ad a0;cases l <;> simp)).mono aJ)
  ((kX (aT:=aT) ea i2 m (fun y a0=>by subst af a0;cases l <;> cases h <;> simp)).mono aJ)
 exact ⟨v,q1,a1.after (Ext.refl J) (bg.settle aJ fun b o h=>(aP b o h).imp id fun h=>⟨_,h⟩) (a1.same cc aW cz)⟩
theorem Fs (ah:aL B U J S w H) {aT:Operand→Value} {t:TypeId} {x:Operand} {l h m:Option Operand} {us:List I} {r:I} (aq:ej P t l h m us=some r)
  (ae:a9 (fun i=>.arg i) U J S w us ((x::(l.toList++h.toList++m.toList)).map aT)) :
  ∃ v,(Instr.sliceAt t (aT x) (l.map aT) (h.map aT) (m.map aT)).run P w=.ok v w∧a1 B U J S w H r v w:=by
 match us,ae with
 | [],ae=>exact absurd ae.len (by simp)
 | u::vs,ae =>
   have ik:=ae.rel 0 u _ rfl rfl;have ie:=ae.own 0 u _ rfl rfl;have ea:=ae.tail;unfold ej at aq;dsimp only at aq;split at aq
   ·rename_i cells len z;split at aq
    ·rename_i e aZ;simp only [sf,rZ] at aq;obtain ⟨s,ai,n,aN,rfl⟩:=aq;have mI:=kX (aT:=aT) ea 0 h (fun y a0=>by subst a0;simp);generalize al:aT x=cA at ik ie ⊢;cases ik with
     | b1 c a =>
       obtain ⟨q,q1,aW⟩:=hG (P:=P) (isS:=true) (cap:=0) (lo:=none) (lo':=none) aN rfl (by omega) trivial mI;(obtain rfl:n=0:=by omega);exact ⟨.slice a 0 0,by cases a <;> simp [Instr.sliceAt,Instr.slice,run_underlying aZ,q,run_sizeOf ai,Addr.add],U,J,S,Ext.refl J,bg.refl U S w,ah,by simpa using .b1 _ _,by cases a <;> first | trivial | exact .inl ⟨rfl,rfl,by simp⟩⟩
     | ay _ _ c b o cap f ao hle hu bu b9=>exact absurd rfl (hu _)
     | cK cells len z b o cap =>
       rcases ie with ⟨rfl,rfl,rfl⟩ | ⟨bA,bQ,kQ,ia,g_,gE,⟨cur,ce,jS,g',nS⟩,my⟩
       ·obtain ⟨q,q1,aW⟩:=hG (P:=P) (isS:=true) (cap:=0) (lo:=none) (lo':=none) aN rfl (by omega) trivial mI;(obtain rfl:n=0:=by omega);exact ⟨.slice (some ⟨b,o,none⟩) 0 0,by simp [Instr.sliceAt,Instr.slice,run_underlying aZ,q,run_sizeOf ai],U,J,S,Ext.refl J,bg.refl U S w,ah,.cK _ _ _ _ _ _,.inl ⟨rfl,rfl,by simp⟩⟩
       ·obtain ⟨q,q1,aW⟩:=hG (P:=P) (isS:=true) (cap:=cap) (lo:=none) (lo':=none) aN rfl (by omega) trivial mI;simp only at bA jS my bQ;refine ⟨.slice (some ⟨b,o,none⟩) n cap,by simp [Instr.sliceAt,Instr.slice,run_underlying aZ,q,run_sizeOf ai];intro;simp [Addr.add],?_⟩;refine ig ah (eP 0) (eQ 0) (.cK _ _ _ _ _ _) (.inr ⟨bA,bQ,by omega,ia,g_,?_,⟨cur,ce,jS,g',fun j u v hu ae=>?_⟩,my⟩)
        ·rw [List.length_take,gE];exact Nat.min_eq_left (tA _ aW)
        ·rw [sV] at hu;split at hu
         ·exact nS j u v hu ae
         ·simp at hu
    ·simp at aq
   ·
    rename_i cells len z lo fY;split at aq
    ·rename_i e aZ;simp only [sf] at aq;obtain ⟨s,ai,aq⟩:=aq;split at aq
     ·rename_i bP;subst bP;simp only [rZ] at aq;obtain ⟨n,aN,rfl⟩:=aq;have rl:=kX (aT:=aT) ea 0 (some lo) (fun y a0=>by cases a0;simp);generalize al:aT x=cA at ik ie ⊢;cases ik with
      | b1 c a =>
        obtain ⟨q,q1,aW⟩:=hG (P:=P) (isS:=true) (cap:=0) (hi:=none) (hi':=none) (len:=0) rfl aN (by omega) rl trivial;simp only [sd,Option.map_none] at q;(obtain rfl:n=0:=by omega);exact ⟨.slice a 0 0,by cases a <;> simp [Instr.sliceAt,Instr.slice,run_underlying aZ,q,run_sizeOf ai,Addr.add],U,J,S,Ext.refl J,bg.refl U S w,ah,by simpa using .b1 _ _,by cases a <;> first | trivial | exact .inl ⟨rfl,rfl,by simp⟩⟩
      | ay _ _ c b o cap f ao hle hu bu b9 =>
        obtain ⟨q,q1,aW⟩:=hG (P:=P) (isS:=true) (cap:=cap) (hi:=none) (hi':=none) (len:=len) rfl aN hle rl trivial;simp only [sd,Option.map_none] at q;have Cj:∀ k,(cells.drop k).take cells.length=cells.drop k:=fun k=>tQ (by rw [tV];omega);by_cases en:cap=n
        ·(obtain rfl:n=len:=by omega);rw [en] at q;refine ⟨.slice (some ⟨b,o,none⟩) 0 0,by simp [Instr.sliceAt,Instr.slice,run_underlying aZ,q,run_sizeOf ai,en],?_⟩;rw [Nat.sub_self];rcases ie with ⟨aS,Ch,cC⟩ | ⟨bA,bQ,kQ,ia,g_,gE,jS,⟨cur,ce,g',nS⟩,my⟩
         ·rw [cC,List.drop_nil];exact ⟨U,J,S,Ext.refl J,bg.refl U S w,ah,.ay [] 0 _ b o 0 (fun _=>undef) (by simp) (sb _) (by simp) (by simp) (by simp),.inl ⟨rfl,rfl,rfl⟩⟩
         ·rw [List.drop_eq_nil_of_le (by omega)];exact ⟨U,J,S,Ext.refl J,bg.refl U S w,ah,.ay [] 0 _ b o 0 (fun _=>undef) (by simp) (sb _) (by simp) (by simp) (by simp),.inl ⟨rfl,rfl,rfl⟩⟩
        ·have yW:=Rel.sub (J:=J) (k:=cells.length) (n:=len-n) (cap':=cap-n) (n*s) (.own s) (by simp) (by omega) (by simp) bu b9;rw [Cj] at yW;refine ⟨.slice (some ⟨b,o+n*s,none⟩) (len-n) (cap-n),by simp [Instr.sliceAt,Instr.slice,run_underlying aZ,q,run_sizeOf ai,en,add_lit],?_⟩;rcases ie with ⟨aS,Ch,cC⟩ | ⟨bA,bQ,kQ,ia,g_,gE,jS,⟨cur,ce,g',nS⟩,my⟩
         ·exfalso;omega
         ·refine ig ah (eP 0) (eQ 0) yW (.inr ⟨bA,trivial,rfl,by omega,by omega,gE,?_,⟨cur,ce,g',?_⟩,fun cL CQ=>my cL ?_⟩)
          ·rw [tV,jS,Nat.sub_mul]
          ·have e1:n*s≤cap*s:=tA _ (by omega);have ck:(cap-n)*s=cap*s-n*s:=Nat.sub_mul _ _ _;show cur.size=o+n*s+(cap-n)*s;simp only at nS;omega
          ·have e1:n*s≤len*s:=tA _ q1;simp only [tV] at CQ ⊢;omega
     ·simp at aq
    ·simp at aq
   ·
    rename_i id gid len z;split at aq
    ·rename_i e aZ;simp only [sf,rZ] at aq;obtain ⟨s,ai,n,aN,rfl⟩:=aq;have mI:=kX (aT:=aT) ea 0 h (fun y a0=>by subst a0;simp);generalize al:aT x=cA at ik ie ⊢;cases ik with
     | cl _ _ _ _ b cap ag aO hle =>
       obtain ⟨q,q1,aW⟩:=hG (P:=P) (isS:=true) (cap:=cap) (lo:=none) (lo':=none) aN rfl hle trivial mI;exact ⟨.slice (some ⟨b,0,none⟩) n cap,by simp [Instr.sliceAt,Instr.slice,run_underlying aZ,q,run_sizeOf ai];intro;simp [Addr.add],U,J,S,Ext.refl J,bg.refl U S w,ah,.cl _ _ _ _ b cap ag aO (by omega),trivial⟩
    ·simp at aq
   ·exact Fw ah aq (by cases l <;> rfl) (by cases l <;> cases h <;> rfl) ik ie ea
theorem Fo {aT:Operand→Value} (eN:∀ v,aT (.const v)=v) {C:b6} {lo mode:Nat} {o:Oper} {us:List I} {r:I} {H':List au} (ah:aL B U J S w H)
  (h:a8 P C lo o mode us H=some (r,H')) (iM:∀ c f,o.op=.call c→c.callee≠.value f)
  (aC:dP o=false→∀ u∈us,u.plain=true) (ae:a9 (fun i=>.arg i) U J S w us ((opsOf o).map aT)):ez P aT o w (a1 B U J S w H' r):=by
 have base:(cy P o us).map (·,H)=some (r,H')→dP o=false→ez P aT o w (a1 B U J S w H' r):=fun h ak=>by
  simp only [rZ,Prod.mk.injEq] at h;obtain ⟨r',aX,rfl,rfl⟩:=h;exact Fp eN ah aX ak (aC ak) ae
 cases aD:o.op
 case call c =>
  simp only [a8,aD] at h;cases ao:c.callee with
  | builtin b =>
    simp only [ao] at h;have he:opsOf o=c.args.toList:=by
     obtain ⟨BG,args,BB⟩:=c;simp only at ao;subst ao;simp only [opsOf,aD]
    rw [he] at ae;obtain ⟨y,w',ad,af⟩:∃ y w',(builtin b c.argTypes o.type (c.args.map fun | .const _=>true | _=>false) (c.args.toList.map aT).toArray).run P w=.ok (.value y) w'∧a1 B U J S w H' r y w':=by
     cases b
     case append =>
      simp only at h;split at h
      ·exact AQ ah o.type _ h ae
      ·match us,h,ae with
       | [u,x],h,ae =>
         obtain ⟨v,bd,e1,r1,bA,ae⟩:=ae.gN;obtain ⟨y,bd,ck,r2,bQ,ae⟩:=ae.gN;cases bd with
         | cons=>exact absurd ae.len (by simp)
         | nil =>
         obtain ⟨z,w',ad,af⟩:=E3 ah o.type (eP _) (eQ _) (eP _) (eQ _) (by simp) h r1 bA r2 bQ;rw [e1,ck];exact ⟨z,w',by simp [builtin,ad],af⟩
     all_goals exact AQ ah o.type _ h ae
    refine .inl ⟨y,w',?_,af⟩;simp only [Go.execOp,aD,resolve,ao,Sem.run_bind,Sem.run_pure,Result.andThen_ok,invoke];rw [←ad,←vw,uC];rfl
  | value f=>exact absurd ao (iM c f aD)
  | invoke x n=>simp [ao] at h
 all_goals (have bc:=ae;rw [xg (by simp [aD])] at bc;simp only [aD,Op.operands] at bc)
 case move x =>
  simp only [a8,aD] at h;exact .inl ⟨aT x,w,by simp [Go.execOp,aD],AR ah eN h bc⟩
 case assign x =>
  simp only [a8,aD] at h;exact .inl ⟨aT x,w,by simp [Go.execOp,aD],AR ah eN h bc⟩
 case load t a =>
  simp only [a8,aD] at h;obtain ⟨u,rfl,r1,_⟩:=a9.one (x:=a) (by simpa using bc);obtain ⟨x,ad,af⟩:=Fe ah h r1;exact .inl ⟨x,w,by simp [Go.execOp,aD,ad],af⟩
 case store t a x =>
  simp only [a8,aD] at h;obtain ⟨u,v,rfl,r1,bA,r2,bQ⟩:=a9.two (x:=a) (y:=x) (by simpa using bc);unfold hC at h;simp only at h;split at h
  ·simp only [rZ,Prod.mk.injEq] at h;obtain ⟨H1,h,rfl,rfl⟩:=h;obtain ⟨w',ad,af⟩:=Ft ah (eP _) (eQ _) h r1 r2 bQ undef;exact .inr ⟨w',by simp [Go.execOp,aD,ad],af⟩
  ·simp only [rZ,Prod.mk.injEq] at h;obtain ⟨H1,h,rfl,rfl⟩:=h;obtain ⟨w',ad,af⟩:=Fu ah (eP _) (eQ _) h r1 r2 bQ undef;exact .inr ⟨w',by simp [Go.execOp,aD,ad],af⟩
 case box e x =>
  simp only [a8,aD] at h;obtain ⟨u,rfl,r1,bA⟩:=a9.one (x:=x) (by simpa using bc);unfold gF at h;simp only at h;split at h
  ·simp only [rZ,Prod.mk.injEq] at h;obtain ⟨bF,h,rfl,rfl⟩:=h;obtain ⟨y,w',ad,af⟩:=E5 (P:=P) ah (eP _) (eQ _) h r1 bA e;exact .inl ⟨y,w',by simp [Go.execOp,aD,ad],af⟩
  ·split at h
   ·rename_i bF fI;split at h
    ·rename_i aC;cases h;obtain ⟨y,w',ad,af⟩:=E6 (P:=P) ah fI aC r1 e;exact .inl ⟨y,w',by simp [Go.execOp,aD,ad],af⟩
    ·simp at h
   ·simp at h
 case alloc t =>
  simp only [a8,aD] at h;unfold kS at h;split at h
  ·simp only [rZ,Prod.mk.injEq] at h;obtain ⟨z,h,rfl,rfl⟩:=h;obtain ⟨y,w',ad,af⟩:=E1 ah h (.tuple #[]);exact .inl ⟨y,w',by simp [Go.execOp,aD,ad],af⟩
  ·split at h
   ·rename_i e bm he;simp only [rZ,Prod.mk.injEq] at h;obtain ⟨s,_,rfl,rfl⟩:=h;obtain ⟨y,w',ad,af⟩:=E2 (s:=s) ah bm (.tuple #[]);exact .inl ⟨y,w',by simp [Go.execOp,aD,ad],af⟩
   ·simp at h
 case buildSlice t len parts =>
  simp only [a8,aD] at h;split at h
  ·exact base h (by simp [dP,aD])
  ·simp only [rZ,Prod.mk.injEq] at h;obtain ⟨⟨cs,s⟩,h,rfl,rfl⟩:=h;obtain ⟨v,w',q1,aW⟩:=E8 eN ah aD h (aC (by simp [dP,aD])) ae;exact .inl ⟨v,w',q1,aW⟩
 case makeSlice t a b =>
  simp only [a8,aD] at h;obtain ⟨u,v,rfl,r1,_,r2,_⟩:=a9.two (x:=a) (y:=b) (by simpa using bc);unfold jW at h;split at h
  ·rename_i k n k' c heq;simp at heq;obtain ⟨rfl,rfl⟩:=heq;split at h
   ·rename_i ao;have e1:=r1.dc;have ck:=r2.dc;split at h
    ·simp only [rZ,Prod.mk.injEq] at h;obtain ⟨z,h,rfl,rfl⟩:=h;obtain ⟨y,w',ad,af⟩:=Fi (k:=k) (k':=k') ah ao.1 ao.2 h;exact .inl ⟨y,w',by simp [Go.execOp,aD,e1,ck,ad],af⟩
    ·split at h
     ·rename_i iM;simp only [rZ,Prod.mk.injEq] at h;obtain ⟨z,h,rfl,rfl⟩:=h;obtain ⟨rfl,aS⟩:=iM;obtain ⟨y,w',ad,af⟩:=Fj (k:=k) (k':=k') ah aS h;exact .inl ⟨y,w',by simp [Go.execOp,aD,e1,ck,ad],af⟩
     ·simp at h
   ·simp at h
  ·simp at h
 case makeMap t r =>
  simp only [a8,aD] at h;obtain ⟨x,w',ad,rfl,af⟩:=Fh (P:=P) ah h;exact .inl ⟨x,w',by simp [Go.execOp,aD,ad],af⟩
 case mapUpdate t m k v =>
  simp only [a8,aD] at h;have aC:=aC (by simp [dP,aD]);obtain ⟨jd,j',k8,rfl,e2,bN,n8⟩:∃ jd j' k8,us=[jd,j',k8]∧Rel J S w jd (aT m)∧Rel J S w j' (aT k)∧Rel J S w k8 (aT v):=by
   match us,bc with
   | [jd,j',k8],bc=>exact ⟨jd,j',k8,rfl,bc.rel 0 _ _ rfl rfl,bc.rel 1 _ _ rfl rfl,bc.rel 2 _ _ rfl rfl⟩
   | [],bc=>exact absurd bc.len (by simp)
   | [_],bc=>exact absurd bc.len (by simp)
   | [_,_],bc=>exact absurd bc.len (by simp)
   | _::_::_::_::_,bc=>exact absurd bc.len (by simp)
  obtain ⟨w',ad,af⟩:=Fk ah h e2 bN (aC j' (by simp)) n8 (aC k8 (by simp)) undef;exact .inr ⟨w',by simp [Go.execOp,aD,ad],af⟩
 case lookup t m k ok =>
  simp only [a8,aD] at h;obtain ⟨jd,j',rfl,e2,_,bN,_⟩:=a9.two (x:=m) (y:=k) (by simpa using bc);obtain ⟨x,ad,af⟩:=Fg ah h e2 bN;exact .inl ⟨x,w,by simp [Go.execOp,aD,ad],af⟩
 case range t m =>
  simp only [a8,aD] at h;obtain ⟨jd,rfl,e2,_⟩:=a9.one (x:=m) (by simpa using bc);obtain ⟨x,w',ad,af⟩:=Fq ah h e2;exact .inl ⟨x,w',by simp [Go.execOp,aD,ad],af⟩
 case entry m =>
  simp only [a8,aD] at h;obtain ⟨jd,rfl,e2,_⟩:=a9.one (x:=m) (by simpa using bc);obtain ⟨x,ad,af⟩:=Fb (P:=P) ah h e2;exact .inl ⟨x,w,by simp [Go.execOp,aD,ad],af⟩
 case slice t x l bI m =>
  simp only [a8,aD,cy,rZ,Prod.mk.injEq] at h;obtain ⟨r',h,rfl,rfl⟩:=h;obtain ⟨v,ad,af⟩:=Fs (x:=x) ah h (by simpa using bc);exact .inl ⟨v,w,by simp [Go.execOp,aD,ad],af⟩
 all_goals exact base (by simpa only [a8,aD] using h) (by simp [dP,aD])
end
end Go.Proofs.YtfakoboiahbhaaaGreat.Ab


namespace Go.Proofs.YtfakoboiahbhaaaGreat.Ab
open Go
def dk (U:Nat→Option aI):Nat→Option aI:=fun b=>match U b with
 | some (.slot _)=>none
 | x=>x
def back (U bn:Nat→Option aI) (d:Option Nat):Nat→Option aI:=fun b=>match U b with
 | some (.slot i)=>if d=some i then none else some (.slot i)
 | _=>match bn b with
   | some .res=>d.map .slot
   | some (.obj id)=>some (.obj id)
   | some (.cell id j)=>some (.cell id j)
   | _=>none
def Marks (N:Nat) (U:Nat→Option aI) (w:World) (ds:List Deferred):Prop :=
 N≤w.heap.size∧(∀ d∈ds,∃ r,d.target=.collected r∧N≤r∧U r=none∧w.heap[r]?=some (.deferred (some [])))∧ds.Pairwise (fun a b=>a.target≠b.target)
structure ct (B N:Nat) (U:Nat→Option aI) (J:List Nat) (S:Nat→Nat→Prop) (w:World) (s:a5) (a:Act):Prop where
 T:a9 .slot U J S w s.T a.tmps.toList
 H:aL B U J S w s.H
 M:Marks N U w a.defers
def Step (B N:Nat) (U:Nat→Option aI) (J:List Nat) (S:Nat→Nat→Prop) (w:World) (aF:a5) (aM:Act) (w':World):Prop :=
 ∃ az bZ S',Ext J bZ∧bg U S w az S' w'∧ct B N az bZ S' w' aF aM
section
variable {P:Program} {B N:Nat} {J:List Nat} {w:World} {H:List au} {U:Nat→Option aI} {S:Nat→Nat→Prop}
theorem Marks.aA {az:Nat→Option aI} {S':Nat→Nat→Prop} {w':World} {ds:List Deferred} (h:Marks N U w ds) (aA:bg U S w az S' w'):Marks N az w' ds:=⟨sI h.1 aA.size,fun d aZ=>by
 obtain ⟨r,ad,af,aG,a6⟩:=h.2.1 d aZ;have aj:r<w.heap.size:=(sW.1 a6).1;refine ⟨r,ad,af,?_,(aA.cD r aj aG).trans a6⟩;cases bL:az r with
 | none=>rfl
 | some l =>
   rcases aA.own r (by simp [bL]) with bV | bV
   ·exact absurd aG bV
   ·omega,h.2.2⟩
theorem nn {b:Nat} (h:U b=none):dk U b=none:=by simp [dk,h]
theorem pk {b i:Nat} (h:U b=some (.slot i)):dk U b=none:=by simp [dk,h]
theorem yF {b:Nat} {l:aI} (h:U b=some l) (ak:∀ i,l≠.slot i):dk U b=some l:=by
 cases l <;> first | (simp only [dk,h];done) | exact absurd rfl (ak _)
theorem yG {b:Nat} {l:aI} (h:dk U b=some l):U b=some l∧∀ i,l≠.slot i:=by
 unfold dk at h;split at h
 ·simp at h
 ·rename_i aN;exact ⟨h,fun i e=>by subst e;exact aN i h⟩
theorem Cx (b i:Nat):dk U b≠some (.slot i):=fun h=>(yG h).2 i rfl
theorem BD {bn:Nat→Option aI} {d:Option Nat} {b i:Nat} (h:U b=some (.slot i)) (aZ:d≠some i):back U bn d b=some (.slot i):=by simp [back,h,aZ]
theorem l8 (ah:aL B U J S w H):aL B (dk U) J S w H:=by
 refine ⟨ah.cE,fun id o aq=>?_,ah.cf,fun b l ag=>ah.base b l (yG ag).1,ah.cX⟩;refine (ah.obj id o aq).frame (Ext.refl J) (fun _ _ h=>⟨h,rfl⟩) fun b l ag ak=>⟨yF ag ?_,rfl,fun _ h=>h⟩;rcases ak with rfl | ⟨j,rfl⟩ <;> simp
theorem A_ {us:List I} {vs:List Value} (h:a9 (fun i=>.arg i) U J S w us vs):a9 (fun i=>.arg i) (dk U) J S w us vs :=
 ⟨h.len,h.rel,fun i u v hu ae=>(h.own i u v hu ae).mono (Ext.refl J) (fun _ _ h=>⟨h,rfl⟩) fun b ag=>⟨yF ag (by simp),rfl,fun _ h=>h⟩⟩
theorem zP (a:Act) (d:Option Tmp) (v:Value):(a.put d v).tmps.toList=match d with | some d=>a.tmps.toList.set d v | none=>a.tmps.toList:=by
 cases d <;> simp [Act.put]
theorem put_defers (a:Act) (d:Option Tmp) (v:Value):(a.put d v).defers=a.defers:=by
 cases d <;> rfl
theorem zD {T:List I} {a:Act} {H':List au} {r:I} {v:Value} {w':World} (dst:Option Tmp) (aK:ct B N U J S w ⟨T,H⟩ a) {bn:Nat→Option aI} {cg:List Nat} {bH:Nat→Nat→Prop}
  (bK:Ext J cg) (dZ:bg (dk U) S w bn bH w') (cp:aL B bn cg bH w' H') (aj:Rel cg bH w' r v) (aq:aV bn cg bH w' .res r v) :
  bg U S w (back U bn dst) bH w'∧ct B N (back U bn dst) cg bH w' ⟨put T dst r,H'⟩ (a.put dst v):=by
 have o6:∀ b l,U b=some l→b<w.heap.size:=fun b l h=>(aK.H.base b l h).2;have kz:∀ b l,bn b=some l→∀ i,U b≠some (.slot i):=fun b l h i ai=>by
  rcases dZ.own b (by simp [h]) with ad | ad
  ·exact ad (pk ai)
  ·have:=o6 b _ ai;omega
 have yy:∀ b l,bn b=some l→back U bn dst b=match l with | .res=>dst.map .slot | .obj id=>some (.obj id) | .cell id j=>some (.cell id j) | _=>none:=fun b l h=>by
  unfold back;split
  ·rename_i i ai;exact absurd ai (kz b l h i)
  ·rw [h];cases l <;> rfl
 have aA:bg U S w (back U bn dst) bH w':=by
  refine ⟨dZ.os,dZ.tape,dZ.output,dZ.size,fun b ag aN=>dZ.cD b ag (nn aN),dZ.set,fun b o h=>?_,fun b h=>?_⟩
  ·rcases dZ.fresh b o h with h | h | h
   ·exact .inl h
   ·exact .inr (.inl fun aN=>h (nn aN))
   ·exact .inr (.inr h)
  ·unfold back at h;split at h
   ·rename_i ai;exact .inl (by simp [ai])
   ·rcases dZ.own b (fun aN=>by simp [aN] at h) with ad | ad
    ·exact .inl fun aN=>ad (nn aN)
    ·exact .inr ad
 refine ⟨aA,⟨?_,⟨cp.cE,fun id o aq=>?_,cp.cf,fun b l ag=>?_,cp.cX⟩,?_⟩⟩
 ·have fL:∀ (i:Nat) (u:I) (x:Value),dst≠some i→T[i]?=some u→a.tmps.toList[i]?=some x→Rel cg bH w' u x∧aV (back U bn dst) cg bH w' (.slot i) u x:=fun i u x aZ hu al=>by
   refine ⟨(aK.T.rel i u x hu al).mono bK dZ.set,(aK.T.own i u x hu al).mono bK dZ.set fun b ag=>⟨BD ag aZ,dZ.cD b (o6 b _ ag) (pk ag),fun o h=>?_⟩⟩;rcases dZ.fresh b o h with h | h | h
   ·exact h
   ·exact absurd (pk ag) h
   ·have:=o6 b _ ag;omega
  cases dst with
  | none=>exact ⟨aK.T.len,fun i u x hu al=>(fL i u x (by simp) hu al).1,fun i u x hu al=>(fL i u x (by simp) hu al).2⟩
  | some d =>
    have hlen:=aK.T.len;have both:∀ (i:Nat) (u:I) (x:Value),(T.set d r)[i]?=some u→(a.tmps.toList.set d v)[i]?=some x→Rel cg bH w' u x∧aV (back U bn (some d)) cg bH w' (.slot i) u x:=fun i u x hu al=>by
     by_cases aE:d=i
     ·subst aE;(have aU:d<T.length:=by have:=(sa.1 hu).1;simpa using this);(have l1:d<a.tmps.toList.length:=by have:=(sa.1 al).1;simpa using this);rw [sg aU] at hu;rw [sg l1] at al;cases hu;cases al;exact ⟨aj,aq.mono (Ext.refl _) (fun _ _ h=>⟨h,rfl⟩) fun b ag=>⟨by rw [yy b _ ag];rfl,rfl,fun _ h=>h⟩⟩
     ·rw [si aE] at hu al;exact fL i u x (by simpa using aE) hu al
    refine ⟨by simp [put,gL,Act.put,hlen],?_,?_⟩
    ·intro i u x hu al;simp only [put,gL] at hu;rw [zP] at al;exact (both i u x hu al).1
    ·intro i u x hu al;simp only [put,gL] at hu;rw [zP] at al;exact (both i u x hu al).2
 ·refine (cp.obj id o aq).frame (Ext.refl cg) (fun _ _ h=>⟨h,rfl⟩) fun b l ag ak=>⟨?_,rfl,fun _ h=>h⟩;rw [yy b l ag];rcases ak with rfl | ⟨j,rfl⟩ <;> rfl
 ·unfold back at ag;split at ag
  ·rename_i i ai;have:=aK.H.base b _ ai;exact ⟨this.1,uY this.2 dZ.size⟩
  ·cases af:bn b with
   | none=>simp [af] at ag
   | some l'=>exact cp.base b l' af
 ·rw [put_defers];exact aK.M.aA aA
theorem nU {T:List I} {a:Act} {H':List au} {r:I} {v:Value} {w':World} (dst:Option Tmp) (aK:ct B N U J S w ⟨T,H⟩ a) (aC:a1 B (dk U) J S w H' r v w')
  (u:I) (hu:∀ bn cg bH,Rel cg bH w' r v→aV bn cg bH w' .res r v→Rel cg bH w' u v) :
  ∃ az bZ S',Ext J bZ∧bg U S w az S' w'∧ct B N az bZ S' w' ⟨put T dst r,H'⟩ (a.put dst v)∧Rel bZ S' w' u v:=by
 obtain ⟨bn,cg,bH,bK,dZ,cp,aj,aq⟩:=aC;obtain ⟨ad,af⟩:=zD dst aK bK dZ cp aj aq;exact ⟨_,cg,bH,bK,ad,af,hu bn cg bH aj aq⟩
theorem Step.trans {b2:Nat→Option aI} {cQ:List Nat} {a4:Nat→Nat→Prop} {bC:World} (bK:Ext J cQ) (aA:bg U S w b2 a4 bC) {aF:a5} {aM:Act} {w':World} (h:Step B N b2 cQ a4 bC aF aM w') :
  Step B N U J S w aF aM w' :=
 let ⟨az,bZ,S',aJ,aP,cj⟩:=h
 ⟨az,bZ,S',bK.trans aJ,aA.trans aP,cj⟩
theorem a9.swap {bz:Nat→aI} {T:List I} {bd:List Value} (h:a9 bz U J S w T bd) (t:Nat) {u:I} (hu:u.plain=true) (aj:∀ v,bd[t]?=some v→Rel J S w u v):a9 bz U J S w (T.set t u) bd:=by
 refine ⟨by simpa using h.len,fun i x v al ae=>?_,fun i x v al ae=>?_⟩
 ·by_cases hi:t=i
  ·subst hi;(have aU:t<T.length:=by have:=(sa.1 al).1;simpa using this);rw [sg aU] at al;cases al;exact aj v ae
  ·rw [si hi] at al;exact h.rel i x v al ae
 ·by_cases hi:t=i
  ·subst hi;(have aU:t<T.length:=by have:=(sa.1 al).1;simpa using this);rw [sg aU] at al;cases al;exact aV.b3 hu
  ·rw [si hi] at al;exact h.own i x v al ae
end
end Go.Proofs.YtfakoboiahbhaaaGreat.Ab


namespace Go.Proofs.YtfakoboiahbhaaaGreat.Ab
open Go
section
variable {P:Program} {B N:Nat} {J:List Nat} {w:World} {H:List au} {U:Nat→Option aI} {S:Nat→Nat→Prop}
theorem Rel.narrow {cg:List Nat} {bH:Nat→Nat→Prop} {bT:World} (bK:Ext J cg) {u:I} {v v2:Value} (h:Rel J S w u v) (af:Rel cg bH bT u v2):Rel J bH bT u v2:=by
 induction h generalizing v2 with
 | junk v=>exact .junk v2
 | bool b=>cases af;exact .bool b
 | dq b=>cases af;exact .dq _
 | int k n=>cases af;exact .int k n
 | str s=>cases af;exact .str s
 | eD=>cases af;exact .eD
 | ptr id off b h =>
   cases af with
   | ptr _ _ cI k=>rw [bK _ _ h] at k;cases k;exact .ptr id off b h
 | cl id gid len z b cap h aO hle =>
   cases af with
   | cl _ _ _ _ cI oE k y' _ =>
     rw [bK _ _ h] at k;cases k;rw [bK _ _ aO] at y';cases y';exact .cl id gid len z b cap h aO hle
 | bU cells b o f h aj a_ =>
   cases af with
   | bU _ b o f k eO=>exact .bU cells b o f k fun j u aw=>a_ j u aw (eO j u aw)
 | b1 c a =>
   cases af with
   | b1 c a=>exact .b1 c a
   | ay _ _ _ b o cap f ao hle hu k eO=>exact .ay [] 0 c b o cap f ao hle hu k fun j u aw=>by simp at aw
   | cK _ _ z b o cap=>exact .cK _ _ z b o cap
 | ay cells len c b o cap f ao hle hu h aj a_ =>
   cases af with
   | b1 c a=>exact .b1 c a
   | ay _ _ _ b o cap f ao hle hu k eO=>exact .ay cells len c b o cap f ao hle hu k fun j u aw=>a_ j u aw (eO j u aw)
   | cK _ _ z b o cap=>exact .cK _ _ z b o cap
 | raw cells len z b o cap =>
   cases af with
   | raw _ _ _ b o cap=>exact .raw _ _ z b o cap
 | cK cells len z b o cap =>
   cases af with
   | b1 c a=>exact .b1 _ _
   | ay _ _ _ b o cap f ao hle hu k eO=>exact absurd rfl (hu z)
   | cK _ _ z b o cap=>exact .cK _ _ z b o cap
 | ref id off len c sz b cap h ao hle =>
   cases af with
   | ref _ _ _ _ _ cI oE k Dg Dj=>rw [bK _ _ h] at k;cases k;exact .ref id off len c sz b oE h Dg Dj
 | func f as bs vs ws ad F8 bR b4 r1 r2 i1 i2 =>
   cases af with
   | func _ _ _ mR FR aJ aP _ _ q1 aW =>
     refine .func f as bs mR FR aJ aP bR b4 (fun j u v hu ae=>?_) (fun j u v hu ae=>?_)
     ·(have aw:j<vs.size:=by have:=(sa.1 hu).1;omega);exact i1 j u vs[j] hu (sD aw) (q1 j u v hu ae)
     ·(have aw:j<ws.size:=by have:=(sa.1 hu).1;omega);exact i2 j u ws[j] hu (sD aw) (aW j u v hu ae)
 | yield id b h =>
   cases af with
   | yield _ cI k=>rw [bK _ _ h] at k;cases k;exact .yield id b h
 | map id b h =>
   cases af with
   | map _ cI k=>rw [bK _ _ h] at k;cases k;exact .map id b h
 | agg as vs h p one r a_ =>
   cases af with
   | agg _ mR k _ DX q =>
     refine .agg as mR k p DX fun j u v hu ae=>?_;(have aw:j<vs.size:=by have:=(sa.1 hu).1;omega);exact a_ j u vs[j] hu (sD aw) (q j u v hu ae)
 | tuple as vs h p r a_ =>
   cases af with
   | tuple _ mR k _ q =>
     refine .tuple as mR k p fun j u v hu ae=>?_;(have aw:j<vs.size:=by have:=(sa.1 hu).1;omega);exact a_ j u vs[j] hu (sD aw) (q j u v hu ae)
theorem jQ {f:I→Option I}:∀ {xs ys:List I},ed f xs=some ys→ys.length=xs.length∧∀ (j:Nat) (y:I),ys[j]?=some y→∃ x,xs[j]?=some x∧f x=some y
 | [],ys,h=>by simp [ed] at h;subst h;simp
 | x::xs,ys,h=>by
   simp only [ed] at h;split at h
   ·rename_i y a0;simp only [rZ] at h;obtain ⟨ys,h,rfl⟩:=h;obtain ⟨ad,af⟩:=jQ h;refine ⟨by simp [ad],fun j z bm=>?_⟩;cases j with
    | zero=>simp at bm;subst bm;exact ⟨x,rfl,a0⟩
    | succ j=>simpa using af j z (by simpa using bm)
   ·simp at h
theorem hX {lo id0 n d:Nat} {u r:I} (h:bJ H lo id0 n d u=some r):(u.plain=true→r.plain=true)∧(u.cT=true→r.cT=true):=by
 cases d with
 | zero=>simp [bJ] at h
 | succ d =>
   unfold bJ at h;split at h
   ·simp only [rZ] at h;rename_i c;obtain ⟨cs,_,rfl⟩:=h;cases c <;> exact ⟨fun h=>h,fun h=>h⟩
   ·simp only [rZ] at h;obtain ⟨cs,_,rfl⟩:=h;exact ⟨fun h=>rfl,fun h=>rfl⟩
   ·simp only [rZ] at h;obtain ⟨cs,_,rfl⟩:=h;exact ⟨fun h=>rfl,fun h=>rfl⟩
   ·simp only [rZ] at h;obtain ⟨cs,_,rfl⟩:=h;exact ⟨fun h=>rfl,fun h=>rfl⟩
   ·split at h <;> simp at h;subst h;exact ⟨fun h=>rfl,fun h=>rfl⟩
   ·split at h
    ·simp at h;subst h;exact ⟨fun h=>rfl,fun h=>rfl⟩
    ·split at h
     ·simp at h;subst h;exact ⟨fun h=>rfl,fun h=>rfl⟩
     ·split at h
      ·simp only [rZ] at h;obtain ⟨cs,_,rfl⟩:=h;exact ⟨fun h=>rfl,fun h=>rfl⟩
      ·simp at h
   ·split at h
    ·simp at h;subst h;exact ⟨fun h=>rfl,fun h=>rfl⟩
    ·split at h
     ·simp at h;subst h;exact ⟨fun h=>rfl,fun h=>rfl⟩
     ·split at h
      ·simp only [rZ] at h;obtain ⟨cs,_,rfl⟩:=h;rename_i cap _ _ _ _ _ _;constructor <;> intro _ <;> (unfold gV;split <;> (try split) <;> rfl)
      ·simp at h
   ·split at h <;> simp at h;subst h;exact ⟨fun h=>rfl,fun h=>rfl⟩
   ·split at h
    ·simp at h;subst h;exact ⟨fun h=>rfl,fun h=>rfl⟩
    ·split at h <;> simp at h;subst h;exact ⟨fun h=>rfl,fun h=>rfl⟩
   ·simp at h
   ·simp at h
   ·simp at h;subst h;exact ⟨fun h=>h,fun h=>h⟩
theorem BV {cap:Option Nat} {n m:Nat} (ao:∀ k,cap=some k→m=k) (h:gV cap n=.full):m=n:=by
 unfold gV at h;cases cap with
 | none=>simp at h
 | some c =>
   simp only at h;split at h
   ·rename_i Cg;rw [ao c rfl,Cg]
   ·cases h
theorem yt {cap:Option Nat} {n:Nat} (z:Nat):gV cap n≠.uniq z:=by
 unfold gV;cases cap with
 | none=>simp
 | some c=>simp only;split <;> simp
def gn (U:Nat→Option aI) (S:Nat→Nat→Prop) (w:World) (lo id0:Nat) (b o:Nat):Prop :=
 S b o∨((∃ id,lo≤id∧id≠id0∧U b=some (.obj id))∧∃ v,w.cell? ⟨b,o,none⟩=some v)
theorem lI (ah:aL B U J S w H) {lo id0 n:Nat} {gk:List Nat} (bD:∀ (id b:Nat),id<lo→J[id]?=some b→gk[id]?=some b) (aN:∀ b,J[id0]?=some b→gk[n]?=some b) :
  ∀ (d:Nat) (u r:I) (v:Value),bJ H lo id0 n d u=some r→Rel J S w u v→Rel gk (gn U S w lo id0) w r v:=by
 intro d
 induction d with
 | zero=>intro u r v h;simp [bJ] at h
 | succ d a_ =>
   intro u r v h aj;have list:∀ {cells cs:List I} {b o:Nat} {f:Nat→Value},ed (bJ H lo id0 n d) cells=some cs →
     (∀ (j:Nat) (u:I),cells[j]?=some u→S b (o+j)∧w.cell? ⟨b,o+j,none⟩=some (f j)∧u.plain=true∧(f j).oneCell'=true) →
     (∀ (j:Nat) (u:I),cells[j]?=some u→Rel J S w u (f j)) →
     (∀ (j:Nat) (u:I),cs[j]?=some u→gn U S w lo id0 b (o+j)∧w.cell? ⟨b,o+j,none⟩=some (f j)∧u.plain=true∧(f j).oneCell'=true) ∧
     (∀ (j:Nat) (u:I),cs[j]?=some u→Rel gk (gn U S w lo id0) w u (f j)):=fun hm ao fp=>by
    obtain ⟨ad,af⟩:=jQ hm;refine ⟨fun j y a0=>?_,fun j y a0=>?_⟩
    ·obtain ⟨x,al,aQ⟩:=af j y a0;obtain ⟨a',bk,bq,b7⟩:=ao j x al;exact ⟨.inl a',bk,(hX aQ).1 bq,b7⟩
    ·obtain ⟨x,al,aQ⟩:=af j y a0;exact a_ x y _ aQ (fp j x al)
   have arr:∀ {as bs:List I} {vs:Array Value},ed (bJ H lo id0 n d) as=some bs→vs.size=as.length→(∀ u∈as,u.plain=true) →
     (∀ (j:Nat) (u:I) (v:Value),as[j]?=some u→vs[j]?=some v→Rel J S w u v) →
     vs.size=bs.length∧(∀ u∈bs,u.plain=true)∧∀ (j:Nat) (u:I) (v:Value),bs[j]?=some u→vs[j]?=some v→Rel gk (gn U S w lo id0) w u v:=fun hm ak aC fp=>by
    obtain ⟨ad,af⟩:=jQ hm;refine ⟨by omega,fun y a0=>?_,fun j y v a0 ae=>?_⟩
    ·obtain ⟨j,aw⟩:=tF.1 a0;obtain ⟨x,al,aQ⟩:=af j y aw;exact (hX aQ).1 (aC x (sK al))
    ·obtain ⟨x,al,aQ⟩:=af j y a0;exact a_ x y v aQ (fp j x v al ae)
   cases aj with
   | junk v=>simp only [bJ,Option.some.injEq] at h;subst h;exact .junk v
   | bool b=>simp only [bJ,Option.some.injEq] at h;subst h;exact .bool b
   | dq b=>simp only [bJ,Option.some.injEq] at h;subst h;exact .dq b
   | int k n=>simp only [bJ,Option.some.injEq] at h;subst h;exact .int k n
   | str s=>simp only [bJ,Option.some.injEq] at h;subst h;exact .str s
   | eD=>simp only [bJ,Option.some.injEq] at h;subst h;exact .eD
   | raw=>simp [bJ] at h
   | cl=>simp [bJ] at h
   | map id b k =>
     simp only [bJ] at h;split at h
     ·rename_i aU;simp only [Option.some.injEq] at h;subst h;exact .map _ b (bD id b aU k)
     ·split at h
      ·rename_i heq;subst heq;simp only [Option.some.injEq] at h;subst h;exact .map _ b (aN b k)
      ·simp at h
   | yield id b k =>
     simp only [bJ] at h;split at h
     ·rename_i aU;simp only [Option.some.injEq] at h;subst h;exact .yield _ b (bD id b aU k)
     ·simp at h
   | b1 c a =>
     simp only [bJ,rZ] at h;obtain ⟨cs,hm,rfl⟩:=h;simp [ed] at hm;subst hm;exact .b1 _ _
   | ay cells len c b o cap f ao hle hu k eO =>
     simp only [bJ,rZ] at h;obtain ⟨cs,hm,rfl⟩:=h;obtain ⟨dL,kK⟩:=list hm k eO;exact .ay _ _ _ b o cap f ao hle hu dL kK
   | cK cells len z b o cap =>
     simp only [bJ,rZ] at h;obtain ⟨cs,hm,rfl⟩:=h;exact .cK _ _ z b o cap
   | bU cells b o f k eO =>
     simp only [bJ,rZ] at h;obtain ⟨cs,hm,rfl⟩:=h;obtain ⟨dL,kK⟩:=list hm k eO;exact .bU _ b o f dL kK
   | agg as vs k p one q =>
     simp only [bJ,rZ] at h;obtain ⟨cs,hm,rfl⟩:=h;obtain ⟨aB,aH,aR⟩:=arr hm k p q;exact .agg _ vs aB aH one aR
   | tuple as vs k p q =>
     simp only [bJ,rZ] at h;obtain ⟨cs,hm,rfl⟩:=h;obtain ⟨aB,aH,aR⟩:=arr hm k p q;exact .tuple _ vs aB aH aR
   | func f as bs vs ws aJ aP bR b4 q1 aW =>
     simp only [bJ] at h;split at h
     ·rename_i cd ag;simp only [Option.some.injEq] at h;subst h;obtain ⟨aB,aH,aR⟩:=arr cd aJ bR q1;obtain ⟨bo,cI,eB⟩:=arr ag aP b4 aW;exact .func f _ _ vs ws aB bo aH cI aR eB
     ·simp at h
   | ptr id off b k =>
     simp only [bJ] at h;split at h
     ·rename_i aU;simp only [Option.some.injEq] at h;subst h;exact .ptr _ _ b (bD id b aU k)
     ·rename_i e_;split at h
      ·rename_i heq;subst heq;simp only [Option.some.injEq] at h;subst h;exact .ptr _ _ b (aN b k)
      ·rename_i bM;split at h
       ·rename_i l aE;simp only [rZ] at h;obtain ⟨cs,hm,rfl⟩:=h;obtain ⟨ar,cur,e,aB,aH,aR,bj,bb,bf⟩:=ah.obj id _ aE;rw [k] at aB;cases aB;obtain ⟨de,df⟩:=jQ hm;(have bu:∀ o,o<cur.size→w.cell? ⟨b,o,none⟩=cur[o]?:=fun o aq=>by simp [World.cell?,aR,aq]);have facts:∀ (j:Nat) (y:I),cs[j]?=some y→∃ x c,off+j<cur.size∧cur[off+j]?=some c∧c.oneCell'=true∧x.plain=true∧bJ H lo id0 n d x=some y∧Rel J S w x c:=fun j y a0=>by
         obtain ⟨x,al,aQ⟩:=df j y a0;have h0:=(sa.1 al).1;simp at h0;(have fo:off+j<l.length:=by omega);(have e':off+j<cur.size:=by omega);have ak:l[off+j]?=some l[off+j]:=sq fo;have ae:cur[off+j]?=some cur[off+j]:=sD e';obtain ⟨a',bk,bq,b7⟩:=bf (off+j) _ _ ak ae;rw [su,sX,ak] at al;simp at al;subst al;exact ⟨_,_,e',ae,bk,I.dh _,aQ,bq.view a'⟩
        refine .bU cs b off (fun j=>cur.getD (off+j) undef) (fun j y a0=>?_) (fun j y a0=>?_)
        ·obtain ⟨x,c,aw,c6,ad,aC,aQ,eh⟩:=facts j y a0;(have aO:cur.getD (off+j) undef=c:=by rw [sy,c6];rfl);rw [aO];exact ⟨.inr ⟨⟨id,by omega,bM,aH⟩,c,by rw [bu _ aw,c6]⟩,by rw [bu _ aw,c6],(hX aQ).1 aC,ad⟩
        ·obtain ⟨x,c,aw,c6,ad,aC,aQ,eh⟩:=facts j y a0;(have aO:cur.getD (off+j) undef=c:=by rw [sy,c6];rfl);simp only [aO];exact a_ x y c aQ eh
       ·simp at h
   | ref id off len cap sz b gx k ao hle =>
     simp only [bJ] at h;split at h
     ·rename_i aU;simp only [Option.some.injEq] at h;subst h;exact .ref _ _ _ _ _ b gx (bD id b aU k) ao hle
     ·rename_i e_;split at h
      ·rename_i heq;subst heq;simp only [Option.some.injEq] at h;subst h;exact .ref _ _ _ _ _ b gx (aN b k) ao hle
      ·rename_i bM;split at h
       ·rename_i row cS;simp only [rZ] at h;obtain ⟨cs,hm,rfl⟩:=h;unfold rowOf at cS;simp only at cS;split at cS
        ·rename_i l aE;split at cS
         ·rename_i dI;simp only [Option.some.injEq] at cS;obtain ⟨ar,cur,e,aB,aH,aR,bj,bb,bf⟩:=ah.obj id _ aE;rw [k] at aB;cases aB;obtain ⟨de,df⟩:=jQ hm;(have bu:∀ o,o<cur.size→w.cell? ⟨b,o,none⟩=cur[o]?:=fun o aq=>by simp [World.cell?,aR,aq]);have facts:∀ (j:Nat) (y:I),cs[j]?=some y→∃ x c,off+j<cur.size∧cur[off+j]?=some c∧c.oneCell'=true∧x.plain=true∧bJ H lo id0 n d x=some y∧Rel J S w x c:=fun j y a0=>by
           obtain ⟨x,al,aQ⟩:=df j y a0;subst cS;have h0:=(sa.1 al).1;simp at h0;(have fo:off+j<l.length:=by omega);(have e':off+j<cur.size:=by omega);have ak:l[off+j]?=some l[off+j]:=sq fo;have ae:cur[off+j]?=some cur[off+j]:=sD e';obtain ⟨a',bk,bq,b7⟩:=bf (off+j) _ _ ak ae;rw [su,sV,if_pos (by omega),sX,ak] at al;simp at al;subst al;exact ⟨_,_,e',ae,bk,I.dh _,aQ,bq.view a'⟩
          refine .ay cs len _ b off gx (fun j=>cur.getD (off+j) undef) (fun Cr=>BV ao Cr) hle (fun z=>yt z) (fun j y a0=>?_) (fun j y a0=>?_)
          ·obtain ⟨x,c,aw,c6,ad,aC,aQ,eh⟩:=facts j y a0;(have aO:cur.getD (off+j) undef=c:=by rw [sy,c6];rfl);rw [aO];exact ⟨.inr ⟨⟨id,by omega,bM,aH⟩,c,by rw [bu _ aw,c6]⟩,by rw [bu _ aw,c6],(hX aQ).1 aC,ad⟩
          ·obtain ⟨x,c,aw,c6,ad,aC,aQ,eh⟩:=facts j y a0;(have aO:cur.getD (off+j) undef=c:=by rw [sy,c6];rfl);simp only [aO];exact a_ x y c aQ eh
         ·simp at cS
        ·simp at cS
       ·simp at h
end
end Go.Proofs.YtfakoboiahbhaaaGreat.Ab


namespace Go.Proofs.YtfakoboiahbhaaaGreat.Ab
open Go
def fK (U:Nat→Option aI) (lo id0 n:Nat):Nat→Option aI:=fun b=>match U b with
 | some (.obj id)=>if id<lo then some (.obj id) else if id=id0 then some (.obj n) else none
 | some (.cell id j)=>if id<lo then some (.cell id j) else if id=id0 then some (.cell n j) else none
 | x=>x
section
variable {P:Program} {B N:Nat} {J:List Nat} {w:World} {H:List au} {U:Nat→Option aI} {S:Nat→Nat→Prop}
theorem gp.narrow {bn mT:Nat→Option aI} {cg:List Nat} {bH jl:Nat→Nat→Prop} {bT:World} (bK:Ext J cg) {id:Nat} {o:au} (h:gp U J S w id o) (af:gp bn cg bH bT id o)
  (cm:∀ b o,bH b o→jl b o) (av:∀ b l,bn b=some l→(l=.obj id∨∃ j,l=.cell id j)→mT b=some l∧∀ o,jl b o→bH b o):gp mT J jl bT id o:=by
 cases o with
 | dead=>trivial
 | map es clock =>
   obtain ⟨b,bw,aB,aH,aR,bj,bb,bf⟩:=h;obtain ⟨cI,BQ,a',bk,bq,b7,dY,fR⟩:=af;rw [bK _ _ aB] at a';cases a';obtain ⟨aJ,aP⟩:=av b _ bk (.inl rfl);refine ⟨b,BQ,aB,aJ,bq,b7,fun o aq=>dY o (aP o aq),fun j i k v x hu ae=>?_⟩;(have aw:j<bw.size:=by have:=(sa.1 hu).1;omega);obtain ⟨bR,b4,eE,fM,mC⟩:=bf j i k v bw[j] hu (sD aw);obtain ⟨q1,aW,cz,dR,mG⟩:=fR j i k v x hu ae;exact ⟨q1,aW,(eE.narrow bK cz).mono (Ext.refl J) (fun b o h=>⟨cm b o h,rfl⟩),dR,(mC.narrow bK mG).mono (Ext.refl J) (fun b o h=>⟨cm b o h,rfl⟩)⟩
 | iter m s e t =>
   obtain ⟨b,ee,aB,aH,aR,bj,bb⟩:=h;obtain ⟨cI,F1,a',bk,bq,b7,dY⟩:=af;rw [bK _ _ aB] at a';cases a';rw [bK _ _ aR] at bq;cases bq;obtain ⟨aJ,aP⟩:=av b _ bk (.inl rfl);exact ⟨b,ee,aB,aJ,aR,b7,fun o aq=>dY o (aP o aq)⟩
 | cells l =>
   obtain ⟨b,cur,e,aB,aH,aR,bj,bb,bf⟩:=h;obtain ⟨cI,oH,ck,a',bk,bq,b7,dY,fR⟩:=af;rw [bK _ _ aB] at a';cases a';obtain ⟨aJ,aP⟩:=av b _ bk (.inl rfl);refine ⟨b,oH,ck,aB,aJ,bq,b7,fun o aq=>dY o (aP o aq),fun j u v hu ae=>?_⟩;(have aw:j<cur.size:=by have:=(sa.1 hu).1;omega);obtain ⟨bR,b4,eE,fM⟩:=bf j u cur[j] hu (sD aw);obtain ⟨q1,aW,cz,dR⟩:=fR j u v hu ae;refine ⟨q1,aW,(eE.narrow bK cz).mono (Ext.refl J) (fun b o h=>⟨cm b o h,rfl⟩),?_⟩;have hm:=fun b ag=>av b (.cell id j) ag (.inr ⟨j,rfl⟩);unfold aV at dR ⊢;split at dR
   ·rcases dR with dR | ⟨ad,af,aG,a6,bL,bV,cN,cR,cV⟩
    ·exact .inl dR
    ·exact .inr ⟨(hm _ ad).1,af,aG,a6,bL,bV,cN,cR,fun o aq ai=>cV o aq ((hm _ ad).2 o ai)⟩
   ·simp [I.cT] at q1
   ·obtain ⟨ad,aS,a6,bL,bV,cN,ai,⟨cur,e,cR,cV,dA⟩,fk⟩:=dR;have g1:=ai;rw [sC] at g1;exact ⟨(hm _ ad).1,aS,a6,bL,bV,cN,ai,⟨cur,e,cR,cV,fun j u v hu ae=>⟨(dA j u v hu ae).1,AH (g1 u (sK hu)) (dA j u v hu ae).2⟩⟩,fun o ai=>fk o ((hm _ ad).2 o ai)⟩
   ·trivial
 | grow l gid z =>
   obtain ⟨b,cur,e,aB,aH,aR,bj,bb,bf,cap,c1,da⟩:=h;obtain ⟨cI,oH,ck,a',bk,bq,b7,dY,fR,oE,m1,m2⟩:=af;rw [bK _ _ aB] at a';cases a';rw [bK _ _ c1] at m1;cases m1;obtain ⟨aJ,aP⟩:=av b _ bk (.inl rfl);refine ⟨b,oH,ck,aB,aJ,bq,b7,fun o aq=>dY o (aP o aq),fun j u v hu ae=>?_,cap,c1,m2⟩;(have aw:j<cur.size:=by have:=(sa.1 hu).1;omega);obtain ⟨bR,b4,eE,fM⟩:=bf j u cur[j] hu (sD aw);obtain ⟨q1,aW,cz,dR⟩:=fR j u v hu ae;refine ⟨q1,aW,(eE.narrow bK cz).mono (Ext.refl J) (fun b o h=>⟨cm b o h,rfl⟩),?_⟩;have hm:=fun b ag=>av b (.cell id j) ag (.inr ⟨j,rfl⟩);unfold aV at dR ⊢;split at dR
   ·rcases dR with dR | ⟨ad,af,aG,a6,bL,bV,cN,cR,cV⟩
    ·exact .inl dR
    ·exact .inr ⟨(hm _ ad).1,af,aG,a6,bL,bV,cN,cR,fun o aq ai=>cV o aq ((hm _ ad).2 o ai)⟩
   ·simp [I.cT] at q1
   ·obtain ⟨ad,aS,a6,bL,bV,cN,ai,⟨cur,e,cR,cV,dA⟩,fk⟩:=dR;have g1:=ai;rw [sC] at g1;exact ⟨(hm _ ad).1,aS,a6,bL,bV,cN,ai,⟨cur,e,cR,cV,fun j u v hu ae=>⟨(dA j u v hu ae).1,AH (g1 u (sK hu)) (dA j u v hu ae).2⟩⟩,fun o ai=>fk o ((hm _ ad).2 o ai)⟩
   ·trivial
 | loop st cF fn T params assign body jr =>
   obtain ⟨al,a0,b,L,aB,aH,aR,bj,bb,bf,c1,da,dF⟩:=h;obtain ⟨_,_,cI,iu,a',bk,bq,b7,dY,fR,m1,m2,BF⟩:=af;rw [bK _ _ aB] at a';cases a';refine ⟨al,a0,b,iu,aB,(av b _ bk (.inl rfl)).1,bq,b7,dY,fR,m1,fun i u v hu ae=>?_,BF⟩;(have aw:i<L.tmps.size:=by have:=(sa.1 hu).1;omega);exact ⟨(m2 i u v hu ae).1,(((da i u L.tmps[i] hu (sD aw)).2).narrow bK (m2 i u v hu ae).2).mono (Ext.refl J) (fun b o h=>⟨cm b o h,rfl⟩)⟩
theorem nJ {lo id0 n b:Nat} {l:aI} (h:U b=some l) (ak:∀ id,(l=.obj id∨∃ j,l=.cell id j)→id<lo):fK U lo id0 n b=some l:=by
 unfold fK;rw [h];cases l with
 | obj id=>simp [ak id (.inl rfl)]
 | cell id j=>simp [ak id (.inr ⟨j,rfl⟩)]
 | _=>rfl
theorem DA {lo id0 n b:Nat} (h:U b=none):fK U lo id0 n b=none:=by simp [fK,h]
theorem oS {bn:Nat→Option aI} {cg:List Nat} {bH:Nat→Nat→Prop} {bT:World} {a2:List au} (ah:aL B U J S w H) (bK:Ext J cg) (aA:bg U S w bn bH bT) (cp:aL B bn cg bH bT a2)
  (jM:∀ id,id<H.length→a2[id]?=H[id]?) (id0 n:Nat) :
  bg U S w (fK bn H.length id0 n) (gn bn bH bT H.length id0) bT∧aL B (fK bn H.length id0 n) J (gn bn bH bT H.length id0) bT H:=by
 have aN:∀ b,fK bn H.length id0 n b≠none→bn b≠none:=fun b h aS=>h (DA aS);refine ⟨⟨aA.os,aA.tape,aA.output,aA.size,aA.cD,fun b o h=>⟨.inl (aA.set b o h).1,(aA.set b o h).2⟩,fun b o h=>?_,fun b h=>aA.own b (aN b h)⟩,⟨ah.cE,fun id o aq=>?_,fun b o h=>?_,fun b l ag=>?_,cp.cX⟩⟩
 ·rcases h with h | ⟨⟨id,_,_,h⟩,_⟩
  ·exact aA.fresh b o h
  ·rcases aA.own b (by simp [h]) with ad | ad
   ·exact .inr (.inl ad)
   ·exact .inr (.inr ad)
 ·have aU:=(sa.1 aq).1;have pB:a2[id]?=some o:=by rw [jM id aU];exact aq
  refine (ah.obj id o aq).narrow bK (cp.obj id o pB) (fun b o h=>.inl h) fun b l ag ak=>⟨nJ ag fun bx dB=>?_,fun o h=>?_⟩
  ·have:bx=id:=by
    rcases ak with rfl | ⟨j,rfl⟩ <;> rcases dB with h | ⟨y6,h⟩ <;> cases h <;> rfl
   omega
  ·rcases h with h | ⟨⟨bx,ad,_,h⟩,_⟩
   ·exact h
   ·rw [ag] at h;rcases ak with rfl | ⟨j,rfl⟩
    ·cases h;omega
    ·cases h
 ·rcases h with h | ⟨_,h⟩
  ·exact cp.cf b o h
  ·exact h
 ·cases h:bn b with
  | none=>simp [fK,h] at ag
  | some l'=>exact cp.base b l' h
theorem km {cg gk:List Nat} {bT:World} {bn mT:Nat→Option aI} {bH jl:Nat→Nat→Prop} {l l':aI} (f_:∀ b,bn b=some l→mT b=some l'∧∀ o,jl b o→bH b o) {a2:List au} {lo id0 n d:Nat} {u r:I} {v:Value}
  (b9:∀ (d:Nat) (u r:I) (v:Value),bJ a2 lo id0 n d u=some r→Rel cg bH bT u v→Rel gk jl bT r v)
  (h:bJ a2 lo id0 n d u=some r) (aq:aV bn cg bH bT l u v):aV mT gk jl bT l' r v:=by
 by_cases aC:u.plain=true
 ·exact aV.b3 ((hX h).1 aC)
 ·cases d with
  | zero=>simp [bJ] at h
  | succ d =>
    obtain ⟨cells,len,c,rfl⟩:∃ cells len c,u=.ay cells len c:=by
     cases u <;> first | exact ⟨_,_,_,rfl⟩ | exact absurd rfl aC | simp [bJ] at h
    simp only [bJ,rZ] at h;obtain ⟨cs,hm,rfl⟩:=h;obtain ⟨de,df⟩:=jQ hm;cases c with
    | shared=>exact absurd rfl aC
    | full=>exact absurd rfl aC
    | own z =>
      cases v with
      | slice aa m gx =>
       cases aa with
       | none=>trivial
       | some a =>
        simp only [aV] at aq ⊢;rcases aq with ⟨ad,af,aG⟩ | ⟨ad,af,aG,a6,bL,bV,cN,cR,cV⟩
        ·subst aG;simp [ed] at hm;subst hm;exact .inl ⟨ad,af,rfl⟩
        ·exact .inr ⟨(f_ _ ad).1,af,aG,a6,bL,bV,by omega,cR,fun o aq ai=>cV o (by omega) ((f_ _ ad).2 o ai)⟩
      | _=>trivial
    | uniq z =>
      cases v with
      | slice aa m gx =>
       cases aa with
       | none=>trivial
       | some a =>
        simp only [aV] at aq ⊢;rcases aq with ⟨ad,af,aG⟩ | ⟨ad,af,a6,bL,bV,cN,⟨cur,e,cR,cV,dA⟩,fk⟩
        ·subst aG;simp [ed] at hm;subst hm;exact .inl ⟨ad,af,rfl⟩
        ·refine .inr ⟨(f_ _ ad).1,af,a6,bL,bV,by omega,⟨cur,e,cR,cV,fun j y c a0 ao=>?_⟩,fun o ai=>fk o ((f_ _ ad).2 o ai)⟩;obtain ⟨x,al,aQ⟩:=df j y a0;obtain ⟨q1,aW,cz⟩:=dA j x c al ao;exact ⟨(hX aQ).1 q1,aW,b9 d x y c aQ cz⟩
      | _=>trivial
theorem xh (ah:aL B U J S w H) {a2:List au} {r v:I} {x:Value} {bT:World} (jM:∀ id,id<H.length→a2[id]?=H[id]?) {n d:Nat} (aQ:bJ a2 H.length a2.length n d r=some v)
  (aC:a1 B U J S w a2 r x bT):a1 B U J S w H v x bT:=by
 obtain ⟨bn,cg,bH,bK,aA,cp,aj,aq⟩:=aC;obtain ⟨dG,aG⟩:=oS ah bK aA cp jM a2.length n
 have b9:=fun d u r v=>lI (gk:=J) (id0:=a2.length) (n:=n) cp (lo:=H.length) (fun id b aU ag=>by
   (have h1:id<J.length:=by rw [ah.cE];exact aU);have al:=sq h1;rw [bK _ _ al] at ag;cases ag;exact al) (fun b ag=>by
   have:=(sa.1 ag).1;rw [cp.cE] at this;omega) d u r v
 refine ⟨_,J,_,Ext.refl J,dG,aG,b9 d r v x aQ aj,km (l:=.res) (fun b ag=>⟨nJ ag (fun id h=>by rcases h with h | ⟨j,h⟩ <;> cases h),fun o h=>?_⟩) b9 aQ aq⟩;rcases h with h | ⟨⟨id,_,_,h⟩,_⟩
 ·exact h
 ·rw [ag] at h;cases h
theorem D5 (ah:aL B U J S w H) {a2:List au} {r v:I} {x:Value} {bT:World} (jM:∀ id,id<H.length→a2[id]?=H[id]?) {id0 d gS:Nat} {l l':List I} (e_:H.length≤id0)
  (aE:a2[id0]?=some (.cells l)) (ak:ed (bJ a2 H.length id0 H.length gS) l=some l') (aQ:bJ a2 H.length id0 H.length d r=some v)
  (aC:a1 B U J S w a2 r x bT):a1 B U J S w (H++[.cells l']) v x bT:=by
 obtain ⟨bn,cg,bH,bK,aA,cp,aj,aq⟩:=aC;obtain ⟨dG,aG⟩:=oS ah bK aA cp jM id0 H.length;obtain ⟨dz,cur,e,aB,aH,aR,bj,bb,bf⟩:=cp.obj id0 _ aE;have mc:Ext J (J++[dz]):=Ext.append J [dz]
 have b9:=fun d u r v=>lI (gk:=J++[dz]) (id0:=id0) (n:=H.length) cp (lo:=H.length) (fun id b aU ag=>by
   (have h1:id<J.length:=by rw [ah.cE];exact aU);have al:=sq h1;rw [bK _ _ al] at ag;cases ag;exact mc _ _ al) (fun b ag=>by
   rw [aB] at ag;cases ag;exact Ext.last ah dz) d u r v
 obtain ⟨de,df⟩:=jQ ak;have ph:∀ id,(aI.obj id0≠.obj id)∨id=id0:=fun id=>by
  by_cases h:id=id0
  ·exact .inr h
  ·exact .inl fun e=>h (by cases e;rfl)
 have kv:∀ b,bn b=some (.obj id0)→fK bn H.length id0 H.length b=some (.obj H.length):=fun b ag=>by
  simp only [fK,ag];simp;omega
 have CD:∀ b j,bn b=some (.cell id0 j)→fK bn H.length id0 H.length b=some (.cell H.length j):=fun b j ag=>by
  simp only [fK,ag];simp;omega
 have cm:∀ b l,bn b=some l→(∀ id,l≠.obj id∨id=id0)→∀ o,gn bn bH bT H.length id0 b o→bH b o:=fun b l ag bM o h=>by
  rcases h with h | ⟨⟨id,_,aN,h⟩,_⟩
  ·exact h
  ·rw [ag] at h;cases h;rcases bM id with h | h
   ·exact absurd rfl h
   ·exact absurd h aN
 refine ⟨_,J++[dz],_,mc,dG,aG.push dz ⟨dz,cur,e,Ext.last ah dz,kv dz aH,aR,by omega,fun o h=>bb o (cm dz _ aH ph o h),fun j u c hu ao=>?_⟩,
  b9 d r v x aQ aj,km (l:=.res) (fun b ag=>⟨nJ ag (fun id h=>by rcases h with h | ⟨j,h⟩ <;> cases h),cm b _ ag (fun id=>.inl (by simp))⟩) b9 aQ aq⟩
 obtain ⟨y,a0,pg⟩:=df j u hu;obtain ⟨a',bk,bq,b7⟩:=bf j y c a0 ao;exact ⟨(hX pg).2 a',bk,b9 gS y u c pg bq,km (l:=.cell id0 j) (fun b ag=>⟨CD b j ag,cm b _ ag (fun id=>.inl (by simp))⟩) b9 pg b7⟩
theorem mapM_some {f:I→Option I}:∀ {xs ys:List (Nat×I×I)},mapM f xs=some ys→ys.length=xs.length∧∀ (j i:Nat) (k v:I),ys[j]?=some (i,k,v)→∃ dd v0,xs[j]?=some (i,dd,v0)∧f dd=some k∧f v0=some v
 | [],ys,h=>by simp [mapM] at h;subst h;simp
 | (i0,dd,v0)::xs,ys,h=>by
   simp only [mapM] at h;split at h
   ·rename_i aJ v1 av ae;simp only [rZ] at h;obtain ⟨ys,h,rfl⟩:=h;obtain ⟨ad,af⟩:=mapM_some h;refine ⟨by simp [ad],fun j i k v aw=>?_⟩;cases j with
    | zero=>simp at aw;obtain ⟨rfl,rfl,rfl⟩:=aw;exact ⟨dd,v0,rfl,av,ae⟩
    | succ j=>simpa using af j i k v (by simpa using aw)
   ·simp at h
theorem D6 (ah:aL B U J S w H) {a2:List au} {r v:I} {x:Value} {bT:World} (jM:∀ id,id<H.length→a2[id]?=H[id]?) {id0 d gS:Nat} {es es':List (Nat×I×I)} {clock:Nat} (e_:H.length≤id0)
  (aE:a2[id0]?=some (.map es clock)) (ak:mapM (bJ a2 H.length id0 H.length gS) es=some es') (aQ:bJ a2 H.length id0 H.length d r=some v)
  (aC:a1 B U J S w a2 r x bT):a1 B U J S w (H++[.map es' clock]) v x bT:=by
 obtain ⟨bn,cg,bH,bK,aA,cp,aj,aq⟩:=aC;obtain ⟨dG,aG⟩:=oS ah bK aA cp jM id0 H.length;obtain ⟨dz,bw,aB,aH,aR,bj,bb,bf⟩:=cp.obj id0 _ aE;have mc:Ext J (J++[dz]):=Ext.append J [dz]
 have b9:=fun d u r v=>lI (gk:=J++[dz]) (id0:=id0) (n:=H.length) cp (lo:=H.length) (fun id b aU ag=>by
   (have h1:id<J.length:=by rw [ah.cE];exact aU);have al:=sq h1;rw [bK _ _ al] at ag;cases ag;exact mc _ _ al) (fun b ag=>by
   rw [aB] at ag;cases ag;exact Ext.last ah dz) d u r v
 obtain ⟨de,df⟩:=mapM_some ak;have ph:∀ id,(aI.obj id0≠.obj id)∨id=id0:=fun id=>by
  by_cases h:id=id0
  ·exact .inr h
  ·exact .inl fun e=>h (by cases e;rfl)
 have kv:∀ b,bn b=some (.obj id0)→fK bn H.length id0 H.length b=some (.obj H.length):=fun b ag=>by
  simp only [fK,ag];simp;omega
 have cm:∀ b l,bn b=some l→(∀ id,l≠.obj id∨id=id0)→∀ o,gn bn bH bT H.length id0 b o→bH b o:=fun b l ag bM o h=>by
  rcases h with h | ⟨⟨id,_,aN,h⟩,_⟩
  ·exact h
  ·rw [ag] at h;cases h;rcases bM id with h | h
   ·exact absurd rfl h
   ·exact absurd h aN
 refine ⟨_,J++[dz],_,mc,dG,aG.push dz ⟨dz,bw,Ext.last ah dz,kv dz aH,aR,by omega,fun o h=>bb o (cm dz _ aH ph o h),fun j i k v c hu ao=>?_⟩,
  b9 d r v x aQ aj,km (l:=.res) (fun b ag=>⟨nJ ag (fun id h=>by rcases h with h | ⟨j,h⟩ <;> cases h),cm b _ ag (fun id=>.inl (by simp))⟩) b9 aQ aq⟩
 obtain ⟨dd,v0,a0,yD,kt⟩:=df j i k v hu;obtain ⟨a',bk,bq,b7,dY⟩:=bf j i dd v0 c a0 ao;exact ⟨a',(hX yD).1 bk,b9 gS dd k _ yD bq,(hX kt).1 b7,b9 gS v0 v _ kt dY⟩
theorem ye {u:I} (h:u.plain=true):u.gT.plain=true:=by
 unfold I.gT;split
 ·rfl
 ·exact h
theorem BP {u:I} (h:u.plain=true):u.cr.plain=true:=by
 unfold I.cr;split <;> first | rfl | exact h
theorem Rel.gT {u:I} {v:Value} (h:Rel J S w u v):Rel J S w u.gT v:=by
 unfold I.gT;split
 ·rename_i c n;cases h with
  | b1 _ a=>exact .b1 _ a
  | ay _ _ _ b o cap f ao hle hu k eO=>exact .ay _ _ _ b o cap f (by simp) hle (by simp) k eO
 ·exact h
theorem Rel.cr {u:I} {v:Value} (h:Rel J S w u v):Rel J S w u.cr v:=by
 unfold I.cr;split
 ·rename_i c n;cases h with
  | b1 _ a=>exact .b1 _ a
  | ay _ _ _ b o cap f ao hle hu k eO=>exact .ay _ _ _ b o cap f (by simp) hle (by simp) k eO
 ·cases h with
  | agg as vs l p one r =>
    refine .agg _ vs (by simpa using l) (fun u hu=>?_) one fun j u v hu ae=>?_
    ·obtain ⟨x,al,rfl⟩:=ss.1 hu;exact ye (p x al)
    ·rw [su] at hu;simp only [rZ] at hu;obtain ⟨x,al,rfl⟩:=hu;exact (r j x v al ae).gT
 ·cases h with
  | tuple as vs l p r =>
    refine .tuple _ vs (by simpa using l) (fun u hu=>?_) fun j u v hu ae=>?_
    ·obtain ⟨x,al,rfl⟩:=ss.1 hu;exact ye (p x al)
    ·rw [su] at hu;simp only [rZ] at hu;obtain ⟨x,al,rfl⟩:=hu;exact (r j x v al ae).gT
 ·exact h
theorem aV.cr {l:aI} {u:I} {v:Value} (h:aV U J S w l u v):aV U J S w l u.cr v:=by
 by_cases aC:u.plain=true
 ·exact aV.b3 (BP aC)
 ·have:u.cr=u:=by
   cases u <;> first | exact absurd rfl aC | skip
   ·rename_i c n k;cases k <;> first | rfl | exact absurd rfl aC
   ·rfl
   ·rfl
  rw [this];exact h
theorem a9.cr {bz:Nat→aI} {T:List I} {bd:List Value} (h:a9 bz U J S w T bd):a9 bz U J S w (T.map I.cr) bd :=
 ⟨by simpa using h.len,fun i u v hu ae=>by
  rw [su] at hu;simp only [rZ] at hu;obtain ⟨x,al,rfl⟩:=hu;exact (h.rel i x v al ae).cr,fun i u v hu ae=>by
  rw [su] at hu;simp only [rZ] at hu
  obtain ⟨x,al,rfl⟩:=hu;exact (h.own i x v al ae).cr⟩
theorem a1.cr {H':List au} {r:I} {v:Value} {w':World} (h:a1 B U J S w H' r v w'):a1 B U J S w H' r.cr v w':=by
 obtain ⟨bn,cg,bH,a,b,c,d,e⟩:=h;exact ⟨bn,cg,bH,a,b,c,d.cr,e.cr⟩
theorem Rel.pure (bZ:List Nat) {u:I} {v:Value} (h:Rel J S w u v):∀ {d:Nat},cq d u=true→Rel bZ S w u v:=by
 have all:∀ {d:Nat} {l:List I},l.all (cq d)=true→∀ {j:Nat} {u:I},l[j]?=some u→cq d u=true:=fun h j u hu=>by
  rw [sC] at h;exact h u (sK hu)
 induction h with
 | junk v=>intro d h;cases d <;> simp [cq] at h
 | bool b=>intros;exact .bool b
 | dq b=>intros;exact .dq b
 | int k n=>intros;exact .int k n
 | str s=>intros;exact .str s
 | eD=>intros;exact .eD
 | ptr id off b k=>intro d h;cases d <;> simp [cq] at h
 | bU cells b o f k eO a_ =>
   intro d h;cases d with
   | zero=>simp [cq] at h
   | succ d=>simp only [cq] at h;exact .bU cells b o f k fun j u aw=>a_ j u aw (all h aw)
 | b1 c a=>intros;exact .b1 c a
 | ay cells len c b o cap f ao hle hu k eO a_ =>
   intro d h;cases d with
   | zero=>simp [cq] at h
   | succ d=>simp only [cq] at h;exact .ay cells len c b o cap f ao hle hu k fun j u aw=>a_ j u aw (all h aw)
 | cK cells len z b o cap=>intros;exact .cK cells len z b o cap
 | raw=>intro d h;cases d <;> simp [cq] at h
 | cl=>intro d h;cases d <;> simp [cq] at h
 | ref id off len c sz b cap k ao hle=>intro d h;cases d <;> simp [cq] at h
 | func f as bs vs ws ad af bR b4 r1 r2 i1 i2 =>
   intro d h;cases d with
   | zero=>simp [cq] at h
   | succ d =>
     simp only [cq,sx] at h;exact .func f as bs vs ws ad af bR b4 (fun j u v hu ae=>i1 j u v hu ae (all h.1 hu)) (fun j u v hu ae=>i2 j u v hu ae (all h.2 hu))
 | yield id b k=>intro d h;cases d <;> simp [cq] at h
 | map id b k=>intro d h;cases d <;> simp [cq] at h
 | agg as vs k p one r a_ =>
   intro d h;cases d with
   | zero=>simp [cq] at h
   | succ d=>simp only [cq] at h;exact .agg as vs k p one fun j u v hu ae=>a_ j u v hu ae (all h hu)
 | tuple as vs k p r a_ =>
   intro d h;cases d with
   | zero=>simp [cq] at h
   | succ d=>simp only [cq] at h;exact .tuple as vs k p fun j u v hu ae=>a_ j u v hu ae (all h hu)
def dW (U:Nat→Option aI):Nat→Option aI:=fun b=>match U b with
 | some (.arg i)=>some (.arg i)
 | _=>none
theorem x5 {b i:Nat} (h:U b=some (.arg i)):dW U b=some (.arg i):=by simp [dW,h]
theorem lv {b:Nat} {l:aI} (h:dW U b=some l):∃ i,U b=some (.arg i)∧l=.arg i:=by
 unfold dW at h;split at h
 ·rename_i i hi;cases h;exact ⟨i,hi,rfl⟩
 ·cases h
theorem aV.pure (bZ:List Nat) {i:Nat} {u:I} {v:Value} {d:Nat} (aC:cq d u=true) (h:aV U J S w (.arg i) u v):aV (dW U) bZ S w (.arg i) u v:=by
 unfold aV at h ⊢;split at h
 ·rcases h with h | ⟨ad,h⟩
  ·exact .inl h
  ·exact .inr ⟨x5 ad,h⟩
 ·rename_i cells len z a n cap;cases d with
  | zero=>simp [cq] at aC
  | succ d =>
    simp only [cq] at aC;rcases h with h | ⟨ad,af,aG,a6,bL,bV,⟨cur,e,cN,cR,cV⟩,dA⟩
    ·exact .inl h
    ·refine .inr ⟨x5 ad,af,aG,a6,bL,bV,⟨cur,e,cN,cR,fun j u v hu ae=>?_⟩,dA⟩;obtain ⟨bR,b4,eE⟩:=cV j u v hu ae;rw [sC] at aC;exact ⟨bR,b4,eE.pure bZ (aC u (sK hu))⟩
 ·cases d <;> simp [cq] at aC
 ·trivial
theorem a9.pure {T:List I} {bd:List Value} (h:a9 (fun i=>.arg i) U J S w T bd) (aC:T.all (cq 8)=true):a9 (fun i=>.arg i) (dW U) [] S w T bd:=by
 rw [sC] at aC;exact ⟨h.len,fun i u v hu ae=>(h.rel i u v hu ae).pure [] (aC u (sK hu)),fun i u v hu ae=>(h.own i u v hu ae).pure [] (aC u (sK hu))⟩
theorem yS (ah:aL B U J S w H):aL B (dW U) [] S w [] :=
 ⟨rfl,fun id o h=>by simp at h,ah.cf,fun b l ag=>by obtain ⟨i,h,_⟩:=lv ag;exact ah.base b _ h,ah.cX⟩
theorem zJ (ah:aL B U J S w H) {a2:List au} {r v:I} {x:Value} {bT:World} {n d:Nat} (aQ:bJ a2 0 a2.length n d r=some v)
  (aC:a1 B (dW U) [] S w a2 r x bT):a1 B U J S w H v x bT:=by
 classical
 obtain ⟨bn,cg,bH,bK,aA,cp,aj,aq⟩:=aC
 let az:Nat→Option aI:=fun b=>match U b with
  | some (.obj id)=>some (.obj id)
  | some (.cell id j)=>some (.cell id j)
  | _=>match bn b with
    | some (.obj _)=>none
    | some (.cell _ _)=>none
    | l=>l
 have jK:∀ b l,U b=some l→((∃ id,l=.obj id)∨∃ id j,l=.cell id j)→az b=some l∧bn b=none∧b<w.heap.size:=fun b l ag ak=>by
  have aU:=(ah.base b l ag).2;have af:bn b=none:=by
   cases h:bn b with
   | none=>rfl
   | some l' =>
     rcases aA.own b (by simp [h]) with ad | ad
     ·exfalso;apply ad;rcases ak with ⟨id,rfl⟩ | ⟨id,j,rfl⟩ <;> simp [dW,ag]
     ·omega
  refine ⟨?_,af,aU⟩;rcases ak with ⟨id,rfl⟩ | ⟨id,j,rfl⟩ <;> simp [az,ag]
 have pG:∀ b,az b≠none→U b≠none∨bn b≠none:=fun b h=>by
  by_cases ad:U b=none
  ·right;intro af;apply h;simp [az,ad,af]
  ·exact .inl ad
 have cd:∀ b,dW U b≠none→U b≠none:=fun b h aS=>h (by simp [dW,aS]);have o0:∀ b o,gn bn bH bT 0 a2.length b o→S b o∨U b≠none∨w.heap.size≤b:=fun b o h=>by
  rcases h with h | ⟨⟨id,_,_,h⟩,_⟩
  ·rcases aA.fresh b o h with h | h | h
   ·exact .inl h
   ·exact .inr (.inl (cd b h))
   ·exact .inr (.inr h)
  ·rcases aA.own b (by simp [h]) with ad | ad
   ·exact .inr (.inl (cd b ad))
   ·exact .inr (.inr ad)
 have lE:bg U S w az (gn bn bH bT 0 a2.length) bT :=
  ⟨aA.os,aA.tape,aA.output,aA.size,fun b ag aN=>aA.cD b ag (by simp [dW,aN]),fun b o h=>⟨.inl (aA.set b o h).1,(aA.set b o h).2⟩,o0,fun b h=>by
   rcases pG b h with h | h
   ·exact .inl h
   ·rcases aA.own b h with h | h
    ·exact .inl (cd b h)
    ·exact .inr h⟩
 have b9:=fun d u r v=>lI (gk:=J) (id0:=a2.length) (n:=n) cp (lo:=0) (fun id b aU ag=>by omega) (fun b ag=>by
   have:=(sa.1 ag).1;rw [cp.cE] at this;omega) d u r v
 refine ⟨az,J,_,Ext.refl J,lE,ah.frame lE (fun b l ag ak=>?_) (fun b o h=>?_) (fun b l ag=>?_),b9 d r v x aQ aj,km (l:=.res) (fun b ag=>?_) b9 aQ aq⟩
 ·obtain ⟨ad,af,aG⟩:=jK b l ag ak;have aN:dW U b=none:=by rcases ak with ⟨id,rfl⟩ | ⟨id,j,rfl⟩ <;> simp [dW,ag]
  refine ⟨ad,aA.cD b aG aN,fun o h=>?_⟩;rcases h with h | ⟨⟨id,_,_,h⟩,_⟩
  ·rcases aA.fresh b o h with h | h | h
   ·exact h
   ·exact absurd aN h
   ·omega
  ·rw [af] at h;cases h
 ·rcases h with h | ⟨_,h⟩
  ·exact cp.cf b o h
  ·exact h
 ·by_cases h:U b=none
  ·(have bp:bn b≠none:=fun af=>by simp [az,h,af] at ag);cases af:bn b with
   | none=>exact absurd af bp
   | some l'=>exact cp.base b l' af
  ·cases ad:U b with
   | none=>exact absurd ad h
   | some l'=>obtain ⟨p,q⟩:=ah.base b l' ad;exact ⟨p,uY q aA.size⟩
 ·refine ⟨?_,fun o h=>?_⟩
  ·cases ad:U b with
   | none=>simp [az,ad,ag]
   | some l =>
     cases l with
     | obj id=>have:=(jK b _ ad (.inl ⟨id,rfl⟩)).2.1;rw [ag] at this;cases this
     | cell id j=>have:=(jK b _ ad (.inr ⟨id,j,rfl⟩)).2.1;rw [ag] at this;cases this
     | _=>simp [az,ad,ag]
  ·rcases h with h | ⟨⟨id,_,_,h⟩,_⟩
   ·exact h
   ·rw [ag] at h;cases h
def fQ (U:Nat→Option aI) (S:Nat→Nat→Prop) (w:World):Nat→Nat→Prop:=fun b o=>S b o∨((∃ id,U b=some (.obj id))∧∃ v,w.cell? ⟨b,o,none⟩=some v)
theorem AI {J bZ:List Nat} {S S':Nat→Nat→Prop} {u:I} {v:Value} (h:gJ u=true) (aj:Rel J S w u v):Rel bZ S' w u v:=by
 cases aj <;> simp [gJ] at h
 ·exact .bool _
 ·exact .int _ _
 ·exact .str _
theorem ES {bZ:List Nat} {S':Nat→Nat→Prop} {u:I} {v:Value} (h:gg u=true) (aj:Rel J S w u v):Rel bZ S' w u v:=by
 cases aj with
 | bool b=>exact .bool b
 | dq b=>simp [gg] at h
 | int k n=>exact .int k n
 | str s=>exact .str s
 | tuple as vs k p q =>
   simp only [gg,sC] at h;exact .tuple as vs k p fun j u v hu ae=>AI (h u (sK hu)) (q j u v hu ae)
 | cK cells len z b o cap=>exact .cK _ _ _ _ _ _
 | b1 c a =>
   exact .b1 _ _
 | ay cells len c b o cap f ao hle hu k eO=>cases c <;> simp [gg] at h;exact absurd rfl (hu _)
 | _=>simp [gg] at h
theorem ER {U az:Nat→Option aI} {bZ:List Nat} {S S':Nat→Nat→Prop} {u:I} {v:Value} (h:gg u=true) (aq:aV U J S w .res u v) (f_:∀ b,U b=some .res→az b=some .res∧∀ o,S' b o→S b o):aV az bZ S' w .res u v:=by
 unfold aV at aq ⊢;split at aq
 ·simp [gg] at h
 ·simp only [gg,sC] at h;rcases aq with aq | ⟨ad,aS,a6,bL,bV,cN,⟨cur,e,cR,cV,dA⟩,fk⟩
  ·exact .inl aq
  ·obtain ⟨aJ,aP⟩:=f_ _ ad;exact .inr ⟨aJ,aS,a6,bL,bV,cN,⟨cur,e,cR,cV,fun j u v hu ae=>⟨(dA j u v hu ae).1,(dA j u v hu ae).2.1,AI (h u (sK hu)) (dA j u v hu ae).2.2⟩⟩,fun o ai=>fk o (aP o ai)⟩
 ·simp [gg] at h
 ·trivial
theorem AM {u:I} (h:u.plain=true):(j8 H u).plain=true:=by
 unfold j8;split
 ·split <;> rfl
 ·exact h
theorem AN (ah:aL B U J S w H) {u:I} {v:Value} (aj:Rel J S w u v):Rel J (fQ U S w) w (j8 H u) v:=by
 have hm:Rel J (fQ U S w) w u v:=aj.mono (Ext.refl J) fun b o h=>⟨.inl h,rfl⟩;cases aj <;> try exact hm
 case ref id off len cap sz b gx ag ao hle =>
  unfold j8;simp only;split
  ·rename_i row cS;unfold rowOf at cS;simp only at cS;split at cS
   ·rename_i l aE;split at cS
    ·rename_i dI;simp only [Option.some.injEq] at cS;obtain ⟨ar,cur,e,aB,aH,aR,bj,bb,bf⟩:=ah.obj id _ aE;rw [ag] at aB;cases aB;(have bu:∀ o,o<cur.size→w.cell? ⟨b,o,none⟩=cur[o]?:=fun o aq=>by simp [World.cell?,aR,aq]);have facts:∀ (j:Nat) (y:I),row[j]?=some y→∃ c,off+j<cur.size∧cur[off+j]?=some c∧c.oneCell'=true∧y.plain=true∧Rel J S w y c:=fun j y a0=>by
      subst cS;have h0:=(sa.1 a0).1;simp at h0;(have fo:off+j<l.length:=by omega);(have e':off+j<cur.size:=by omega);have ak:l[off+j]?=some l[off+j]:=sq fo;have ae:cur[off+j]?=some cur[off+j]:=sD e';obtain ⟨a',bk,bq,b7⟩:=bf (off+j) _ _ ak ae;rw [su,sV,if_pos (by omega),sX,ak] at a0;simp at a0;subst a0;exact ⟨_,e',ae,bk,I.dh _,bq.view a'⟩
     refine .ay row len .shared b off gx (fun j=>cur.getD (off+j) undef) (by simp) hle (by simp) (fun j y a0=>?_) (fun j y a0=>?_)
     ·obtain ⟨c,aw,c6,ad,aC,eh⟩:=facts j y a0;(have aO:cur.getD (off+j) undef=c:=by rw [sy,c6];rfl);rw [aO];exact ⟨.inr ⟨⟨id,aH⟩,c,by rw [bu _ aw,c6]⟩,by rw [bu _ aw,c6],aC,ad⟩
     ·obtain ⟨c,aw,c6,ad,aC,eh⟩:=facts j y a0;(have aO:cur.getD (off+j) undef=c:=by rw [sy,c6];rfl);simp only [aO];exact eh.mono (Ext.refl J) fun b o h=>⟨.inl h,rfl⟩
    ·cases cS
   ·cases cS
  ·exact hm
theorem xL (ah:aL B U J S w H) {u:I} {v:Value} (aj:Rel J S w u v):Rel J (fQ U S w) w (hH H u) v:=by
 have hm:Rel J (fQ U S w) w u v:=aj.mono (Ext.refl J) fun b o h=>⟨.inl h,rfl⟩;have jy:=AN ah aj;cases aj <;> first | exact hm | exact jy | skip
 rename_i id off b ag;unfold hH;simp only;split
 ·rename_i l aE;obtain ⟨ar,cur,e,aB,aH,aR,bj,bb,bf⟩:=ah.obj id _ aE;rw [ag] at aB;cases aB;have bu:∀ o,o<cur.size→w.cell? ⟨b,o,none⟩=cur[o]?:=fun o aq=>by simp [World.cell?,aR,aq]
  have facts:∀ (j:Nat) (y:I),(((l.drop off).map I.view).map (j8 H))[j]?=some y→∃ c,off+j<cur.size∧cur[off+j]?=some c∧c.oneCell'=true∧y.plain=true∧Rel J (fQ U S w) w y c:=fun j y a0=>by
   have h0:=(sa.1 a0).1;simp at h0;(have fo:off+j<l.length:=by omega);(have e':off+j<cur.size:=by omega);have ak:l[off+j]?=some l[off+j]:=sq fo;have ae:cur[off+j]?=some cur[off+j]:=sD e';obtain ⟨a',bk,bq,b7⟩:=bf (off+j) _ _ ak ae;rw [su,su,sX,ak] at a0;simp at a0;subst a0;exact ⟨_,e',ae,bk,AM (I.dh _),AN ah (bq.view a')⟩
  refine .bU _ b off (fun j=>cur.getD (off+j) undef) (fun j y a0=>?_) (fun j y a0=>?_)
  ·obtain ⟨c,aw,c6,ad,aC,eh⟩:=facts j y a0;(have aO:cur.getD (off+j) undef=c:=by rw [sy,c6];rfl);rw [aO];exact ⟨.inr ⟨⟨id,aH⟩,c,by rw [bu _ aw,c6]⟩,by rw [bu _ aw,c6],aC,ad⟩
  ·obtain ⟨c,aw,c6,ad,aC,eh⟩:=facts j y a0;(have aO:cur.getD (off+j) undef=c:=by rw [sy,c6];rfl);simp only [aO];exact eh
 ·exact hm
theorem n' {u:I} (h:u.plain=true):(hH H u).plain=true:=by
 unfold hH;split
 ·split <;> rfl
 ·exact AM rfl
 ·exact h
theorem E0 (ah:aL B U J S w H) {u:I} {v:Value} (aj:Rel J S w u v):Rel J (fQ U S w) w (il H u) v:=by
 have hm:Rel J (fQ U S w) w u v:=aj.mono (Ext.refl J) fun b o h=>⟨.inl h,rfl⟩;have nu:=xL ah aj;cases aj <;> try exact hm
 ·exact nu
 ·exact nu
 ·rename_i f as bs vs ws ad af bR b4 r1 r2;refine .func f _ _ vs ws (by simpa using ad) (by simpa using af) (fun u hu=>?_) (fun u hu=>?_) (fun j u v hu ae=>?_) (fun j u v hu ae=>?_)
  ·obtain ⟨x,al,rfl⟩:=ss.1 hu;exact n' (bR x al)
  ·obtain ⟨x,al,rfl⟩:=ss.1 hu;exact n' (b4 x al)
  ·rw [su] at hu;simp only [rZ] at hu;obtain ⟨x,al,rfl⟩:=hu;exact xL ah (r1 j x v al ae)
  ·rw [su] at hu;simp only [rZ] at hu;obtain ⟨x,al,rfl⟩:=hu;exact xL ah (r2 j x v al ae)
theorem EZ {i:Nat} {u:I} {v:Value} (h:aV U J S w (.arg i) u v):aV U J (fQ U S w) w (.arg i) (il H u) v:=by
 have cm:∀ b,U b=some (.arg i)→∀ o,fQ U S w b o→S b o:=fun b ag o h=>by
  rcases h with h | ⟨⟨id,h⟩,_⟩
  ·exact h
  ·rw [ag] at h;cases h
 have hm:aV U J (fQ U S w) w (.arg i) u v:=h.mono (Ext.refl J) (fun b o h=>⟨.inl h,rfl⟩) fun b ag=>⟨ag,rfl,cm b ag⟩;cases u <;> try exact hm
 ·rename_i id off;exact aV.b3 (show (hH H (.ptr id off)).plain=true from n' rfl)
 ·rename_i id off len cap sz;exact aV.b3 (show (hH H (.ref id off len cap sz)).plain=true from n' rfl)
theorem FM (ah:aL B U J S w H) {T:List I} {bd:List Value} (h:a9 (fun i=>.arg i) U J S w T bd):a9 (fun i=>.arg i) U J (fQ U S w) w (T.map (il H)) bd :=
 ⟨by simpa using h.len,fun i u v hu ae=>by
  rw [su] at hu;simp only [rZ] at hu;obtain ⟨x,al,rfl⟩:=hu;exact E0 ah (h.rel i x v al ae),fun i u v hu ae=>by
  rw [su] at hu;simp only [rZ] at hu
  obtain ⟨x,al,rfl⟩:=hu;exact EZ (h.own i x v al ae)⟩
theorem C0 (ah:aL B U J S w H):aL B (dW U) [] (fQ U S w) w [] :=
 ⟨rfl,fun id o h=>by simp at h,fun b o h=>by
  rcases h with h | ⟨_,h⟩
  ·exact ah.cf b o h
  ·exact h,fun b l ag=>by obtain ⟨i,h,_⟩:=lv ag;exact ah.base b _ h,ah.cX⟩
theorem D7 (ah:aL B U J S w H) {a2:List au} {r v:I} {x:Value} {bT:World} {n d:Nat} (aQ:bJ a2 0 a2.length n d r=some v)
  (ai:gg v=true) (aC:a1 B (dW U) [] (fQ U S w) w a2 r x bT):a1 B U J S w H v x bT:=by
 classical
 obtain ⟨bn,cg,bH,bK,aA,cp,aj,aq⟩:=aC
 let az:Nat→Option aI:=fun b=>match U b with
  | some (.obj id)=>some (.obj id)
  | some (.cell id j)=>some (.cell id j)
  | _=>match bn b with
    | some (.obj _)=>none
    | some (.cell _ _)=>none
    | l=>l
 have jK:∀ b l,U b=some l→((∃ id,l=.obj id)∨∃ id j,l=.cell id j)→az b=some l∧bn b=none∧b<w.heap.size:=fun b l ag ak=>by
  have aU:=(ah.base b l ag).2;have af:bn b=none:=by
   cases h:bn b with
   | none=>rfl
   | some l' =>
     rcases aA.own b (by simp [h]) with ad | ad
     ·exfalso;apply ad;rcases ak with ⟨id,rfl⟩ | ⟨id,j,rfl⟩ <;> simp [dW,ag]
     ·omega
  refine ⟨?_,af,aU⟩;rcases ak with ⟨id,rfl⟩ | ⟨id,j,rfl⟩ <;> simp [az,ag]
 have pG:∀ b,az b≠none→U b≠none∨bn b≠none:=fun b h=>by
  by_cases ad:U b=none
  ·right;intro af;apply h;simp [az,ad,af]
  ·exact .inl ad
 have cd:∀ b,dW U b≠none→U b≠none:=fun b h aS=>h (by simp [dW,aS])
 let S':Nat→Nat→Prop:=fun b o=>S b o∨(gn bn bH bT 0 a2.length b o∧∀ id,U b≠some (.obj id))
 have o0:∀ b o,S' b o→S b o∨U b≠none∨w.heap.size≤b:=fun b o h=>by
  rcases h with h | ⟨h | ⟨⟨id,_,_,h⟩,_⟩,fX⟩
  ·exact .inl h
  ·rcases aA.fresh b o h with (h | ⟨⟨id,h⟩,_⟩) | h | h
   ·exact .inl h
   ·exact absurd h (fX id)
   ·exact .inr (.inl (cd b h))
   ·exact .inr (.inr h)
  ·rcases aA.own b (by simp [h]) with ad | ad
   ·exact .inr (.inl (cd b ad))
   ·exact .inr (.inr ad)
 have lE:bg U S w az S' bT :=
  ⟨aA.os,aA.tape,aA.output,aA.size,fun b ag aN=>aA.cD b ag (by simp [dW,aN]),fun b o h=>⟨.inl h,(aA.set b o (.inl h)).2⟩,o0,fun b h=>by
   rcases pG b h with h | h
   ·exact .inl h
   ·rcases aA.own b h with h | h
    ·exact .inl (cd b h)
    ·exact .inr h⟩
 have b9:=fun d u r v=>lI (gk:=J) (id0:=a2.length) (n:=n) cp (lo:=0) (fun id b aU ag=>by omega) (fun b ag=>by
   have:=(sa.1 ag).1;rw [cp.cE] at this;omega) d u r v
 have CX:=b9 d r v x aQ aj
 have nr:aV (fun b=>match bn b with | some .res=>some .res | _=>none) J (gn bn bH bT 0 a2.length) bT .res v x:=km (l:=.res) (fun b ag=>⟨by simp [ag],fun o h=>by
  rcases h with h | ⟨⟨id,_,_,h⟩,_⟩
  ·exact h
  ·rw [ag] at h;cases h⟩) b9 aQ aq
 refine ⟨az,J,S',Ext.refl J,lE,ah.frame lE (fun b l ag ak=>?_) (fun b o h=>?_) (fun b l ag=>?_),ES ai CX,ER ai nr fun b ag=>?_⟩
 ·obtain ⟨ad,af,aG⟩:=jK b l ag ak;have aN:dW U b=none:=by rcases ak with ⟨id,rfl⟩ | ⟨id,j,rfl⟩ <;> simp [dW,ag]
  refine ⟨ad,aA.cD b aG aN,fun o h=>?_⟩;rcases h with h | ⟨h | ⟨⟨id,_,_,h⟩,_⟩,fX⟩
  ·exact h
  ·rcases aA.fresh b o h with (h | ⟨⟨id,h⟩,_⟩) | h | h
   ·exact h
   ·exact absurd h (fX id)
   ·exact absurd aN h
   ·omega
  ·rw [af] at h;cases h
 ·rcases h with h | ⟨h | ⟨_,h⟩,_⟩
  ·obtain ⟨v,ae⟩:=ah.cf b o h;exact ⟨v,((aA.set b o (.inl h)).2).trans ae⟩
  ·exact cp.cf b o h
  ·exact h
 ·by_cases h:U b=none
  ·(have bp:bn b≠none:=fun af=>by simp [az,h,af] at ag);cases af:bn b with
   | none=>exact absurd af bp
   | some l'=>exact cp.base b l' af
  ·cases ad:U b with
   | none=>exact absurd ad h
   | some l'=>obtain ⟨p,q⟩:=ah.base b l' ad;exact ⟨p,uY q aA.size⟩
 ·have fm:bn b=some .res:=by
   split at ag
   ·assumption
   ·cases ag
  refine ⟨?_,fun o h=>?_⟩
  ·cases ad:U b with
   | none=>simp [az,ad,fm]
   | some l =>
     cases l with
     | obj id=>have:=(jK b _ ad (.inl ⟨id,rfl⟩)).2.1;rw [fm] at this;cases this
     | cell id j=>have:=(jK b _ ad (.inr ⟨id,j,rfl⟩)).2.1;rw [fm] at this;cases this
     | _=>simp [az,ad,fm]
  ·rcases h with h | ⟨h,_⟩
   ·exact .inl ((aA.set b o (.inl h)).1)
   ·exact h
end
end Go.Proofs.YtfakoboiahbhaaaGreat.Ab


namespace Go.Proofs.YtfakoboiahbhaaaGreat.Ab
open Go
def ba (lo:Nat) (H H':List au):Prop:=H.length≤H'.length∧∀ id,id<lo→id<H.length→H'[id]?=H[id]?
theorem ba.refl (lo:Nat) (H:List au):ba lo H H:=⟨sb _,fun _ _ _=>rfl⟩
theorem ba.trans {lo:Nat} {H H1 a2:List au} (h:ba lo H H1) (k:ba lo H1 a2):ba lo H a2 :=
 ⟨sI h.1 k.1,fun id ad af=>(k.2 id ad (uY af h.1)).trans (h.2 id ad af)⟩
theorem ba.append (lo:Nat) (H X:List au):ba lo H (H++X):=⟨by simp,fun id _ h=>sA h⟩
theorem ba.set {lo id:Nat} (H:List au) (x:au) (h:lo≤id):ba lo H (H.set id x):=⟨by simp,fun bx ad _=>si (by omega)⟩
def fv (B:Nat) (U:Nat→Option aI) (J:List Nat) (S:Nat→Nat→Prop) (w:World) (H':List au) (r:I):Ending→World→Prop
 | .returned v,w'=>a1 B U J S w H' r v w'
 | _,_=>False
def mW (U:Nat→Option aI):Prop:=∀ b i,U b≠some (.slot i)
def hF (L:Loop) (vs:List Value):Array Value:=(L.params.zip vs.toArray).foldl (fun tmps (x:Tmp×Value)=>tmps.setIfInBounds x.1 x.2) L.tmps
def jm (P:Program) (b0:e6) (args:List I) (H H':List au) (r:I):Prop :=
 match b0 with
 | .fn k => (∃ f, P.funcs[k]? = some f ∧ f.body.isSome = true ∧ f.name ≠ "runtime.NumGoroutine") ∧
   ∀ B U J S w vs,aL B U J S w H→mW U→a9 (fun i=>.arg i) U J S w args vs→CallsIn Fence.wide 0 P k vs.toArray w (fv B U J S w H' r)
 | .yield l=>∀ B U J S w vs b,aL B U J S w H→mW U→a9 (fun i=>.arg i) U J S w args vs→J[l]?=some b →
   ∃ L,w.heap[b]?=some (.loop L)∧vs.length=L.params.size∧RoundIn Fence.wide 0 P b L.fn (hF L vs) L.assign L.body w (fv B U J S w H' r)
structure c' (P:Program) (C:b6):Prop where
 low:∀ {b0 args H lo r H'},C b0 args H lo=some (r,H')→ba lo H H'
 ok:∀ {b0 args H lo r H'},C b0 args H lo=some (r,H')→jm P b0 args H H' r
section
variable {P:Program} {B N:Nat} {J:List Nat} {w:World} {H:List au} {U:Nat→Option aI} {S:Nat→Nat→Prop}
theorem fv.mono {H' H1:List au} {r r':I} (h:∀ v w',a1 B U J S w H' r v w'→a1 B U J S w H1 r' v w') (e:Ending) (w':World) (k:fv B U J S w H' r e w'):fv B U J S w H1 r' e w':=by
 cases e with
 | returned v=>exact h v w' k
 | panicked c=>exact k
 | outgrown=>exact k
theorem jm.mono {b0:e6} {args:List I} {H' H1:List au} {r r':I} (k:jm P b0 args H H' r)
  (h:∀ B U J S w,aL B U J S w H→∀ v w',a1 B U J S w H' r v w'→a1 B U J S w H1 r' v w'):jm P b0 args H H1 r':=by
 cases b0 with
 | fn f =>
   exact ⟨k.1,fun B U J S w vs ah aN ae=>CallsIn.mono (k.2 B U J S w vs ah aN ae) (fv.mono (h B U J S w ah))⟩
 | yield l =>
   intro B U J S w vs b ah aN ae ag;obtain ⟨L,ad,af,aG⟩:=k B U J S w vs b ah aN ae ag;exact ⟨L,ad,af,RoundIn.mono aG (fv.mono (h B U J S w ah))⟩
theorem B1 (ah:aL B U J S w H) {id:Nat} {l:List I} (aE:H[id]?=some (.cells l)) {v:Value} (aj:Rel J S w (.ptr id 0) v) :
  ∃ az S',bg U S w az S' w∧aL B az J S' w (H.set id .dead)∧Rel J S' w (.bU (l.map I.view)) v:=by
 classical
 cases aj with
 | ptr _ _ b ag =>
   obtain ⟨ar,cur,e,aB,aH,aR,bj,bb,bf⟩:=ah.obj id _ aE;rw [ag] at aB;cases aB
   let S':Nat→Nat→Prop:=fun ar o=>S ar o∨(ar=b∧o<cur.size)
   let az:Nat→Option aI:=fun ar=>if ar=b then none else U ar
   have bu:∀ o,o<cur.size→w.cell? ⟨b,o,none⟩=cur[o]?:=fun o aq=>by
    simp [World.cell?,aR,aq]
   have aA:bg U S w az S' w:=⟨rfl,rfl,rfl,sb _,fun _ _ _=>rfl,fun _ _ h=>⟨.inl h,rfl⟩,fun ar o h=>by
     rcases h with h | ⟨rfl,_⟩
     ·exact .inl h
     ·exact .inr (.inl (by simp [aH])),fun ar bp=>by
     by_cases dH:ar=b
     ·simp [az,dH] at bp
     ·simp only [az,dH,if_false] at bp;exact .inl bp⟩
   have bW:aL B az J S' w (H.set id .dead):=by
    refine ⟨by simpa using ah.cE,fun bx o aq=>?_,fun ar o h=>?_,fun ar l' bp=>?_,ah.cX⟩
    ·by_cases cu:bx=id
     ·subst cu
      have:o=.dead:=by
       have:=(sa.1 aE).1;simp [this] at aq;exact aq.symm
      subst this;trivial
     ·rw [si (Ne.symm cu)] at aq;refine (ah.obj bx o aq).frame (Ext.refl J) aA.set (fun ar l' bp ak=>?_);have bM:ar≠b:=fun e=>by
       subst e;rw [aH] at bp;cases bp;rcases ak with h | ⟨j,h⟩
       ·cases h;exact cu rfl
       ·cases h
      exact ⟨by simp [az,bM,bp],rfl,fun o h=>h.resolve_right fun h=>bM h.1⟩
    ·rcases h with h | ⟨rfl,h⟩
     ·exact ah.cf _ _ h
     ·exact ⟨_,(bu o h).trans (sD h)⟩
    ·by_cases dH:ar=b
     ·simp [az,dH] at bp
     ·simp only [az,dH,if_false] at bp;exact ah.base _ _ bp
   refine ⟨az,S',aA,bW,.bU _ b 0 (fun j=>cur.getD j undef) (fun j u aw=>?_) (fun j u aw=>?_)⟩
   all_goals
    rw [su] at aw;cases ak:l[j]? with
    | none=>rw [ak] at aw;simp at aw
    | some xS =>
      rw [ak] at aw;simp only [sd,Option.some.injEq] at aw;subst aw;have aU:=(sa.1 ak).1;have pn:cur[j]?=some cur[j]:=sD (by omega);(have aO:cur.getD j undef=cur[j]:=by simp [sy,pn]);obtain ⟨a',bk,bq,b7⟩:=bf j xS _ ak pn
      first
       | (simp only [aO];exact ⟨.inr ⟨rfl,by omega⟩,by rw [sP,bu j (by omega),pn],I.dh _,bk⟩)
       | (simp only [aO];exact (bq.view a').mono (Ext.refl J) aA.set)
theorem a9.DW {bz:Nat→aI} {u:I} {vs:List Value} (h:a9 bz U J S w [u] vs):∃ v,vs=[v]∧Rel J S w u v∧aV U J S w (bz 0) u v:=by
 cases vs with
 | nil=>have:=h.len;simp at this
 | cons v r=>cases r with
   | nil=>exact ⟨v,rfl,h.rel 0 u v rfl rfl,h.own 0 u v rfl rfl⟩
   | cons x y=>have:=h.len;simp at this
theorem m4 {C:b6} (bt:c' P C) {lo mode:Nat} {b0:e6} {args:List I} {v:I} {H1:List au} (h:eV C lo mode b0 args H=some (v,H1)):ba lo H H1∧jm P b0 args H H1 v:=by
 have frozen:∀ {r:I} {a2:List au},C b0 args H H.length=some (r,a2)→((bJ a2 H.length a2.length 0 8 r).map fun v=>(v,H))=some (v,H1)→ba lo H H1∧jm P b0 args H H1 v:=fun ao aQ=>by
  simp only [rZ,Prod.mk.injEq] at aQ;obtain ⟨br,aQ,rfl,rfl⟩:=aQ;exact ⟨ba.refl _ _,(bt.ok ao).mono fun B U J S w ah x w' aC=>xh ah (fun id aE=>(bt.low ao).2 id aE aE) aQ aC⟩
 unfold eV at h;split at h
 ·simp only [sf] at h;obtain ⟨⟨r,a2⟩,ao,aQ⟩:=h;exact frozen ao aQ
 ·exact ⟨bt.low h,bt.ok h⟩
 ·split at h
  ·rename_i k aC;simp only [sf] at h;obtain ⟨⟨r,a2⟩,ao,aQ⟩:=h;simp only [rZ,Prod.mk.injEq] at aQ;obtain ⟨br,aQ,rfl,rfl⟩:=aQ;obtain ⟨aJ,aP⟩:=bt.ok ao
   exact ⟨ba.refl _ _,aJ,fun B U J S w vs ah aN ae=>CallsIn.mono (aP B _ [] S w vs (yS ah) (fun b i h=>by obtain ⟨_,_,h⟩:=lv h;cases h) (ae.pure aC).cr) fun e w' he=>by
     cases e with
     | returned v=>exact (zJ ah aQ he).cr
     | panicked c=>exact he.elim
     | outgrown=>exact he.elim⟩
  ·simp at h
 ·split at h
  ·rename_i k aC;simp only [sf] at h;obtain ⟨⟨r,a2⟩,ao,br,aQ,h⟩:=h;split at h
   ·rename_i pF;simp only [Option.some.injEq,Prod.mk.injEq] at h;obtain ⟨rfl,rfl⟩:=h;obtain ⟨aJ,aP⟩:=bt.ok ao
    exact ⟨ba.refl _ _,aJ,fun B U J S w vs ah aN ae=>CallsIn.mono (aP B _ [] _ w vs (C0 ah) (fun b i h=>by obtain ⟨_,_,h⟩:=lv h;cases h) ((FM ah ae).pure aC).cr) fun e w' he=>by
     cases e with
     | returned v=>exact (D7 ah aQ pF he).cr
     | panicked c=>exact he.elim
     | outgrown=>exact he.elim⟩
   ·simp at h
  ·simp at h
 ·split at h
  ·rename_i k id;split at h
   ·rename_i bD;split at h
    ·rename_i l aE;split at h
     ·rename_i aC;simp only [sf] at h;obtain ⟨⟨r,a2⟩,ao,aQ⟩:=h;simp only [rZ,Prod.mk.injEq] at aQ;obtain ⟨br,aQ,rfl,rfl⟩:=aQ;obtain ⟨aJ,aP⟩:=bt.ok ao;refine ⟨ba.set _ _ bD,aJ,fun B U J S w vs ah aN ae=>?_⟩;obtain ⟨v0,fY,r1,_⟩:=a9.DW ae;subst fY;obtain ⟨az,S',aA,bW,r2⟩:=B1 ah aE r1
      have dC:a9 (fun i=>.arg i) az J S' w [I.bU (l.map I.view)] [v0]:=⟨rfl,fun i u v hu ae=>by
       cases i with
       | zero=>simp at hu ae;subst hu ae;exact r2
       | succ i=>simp at hu,fun i u v hu ae=>by
       cases i with
       | zero=>simp at hu ae;subst hu;exact aV.b3 rfl
       | succ i=>simp at hu⟩
      (have ns:([I.bU (l.map I.view)]).all (cq 8)=true:=by simp [aC]);exact CallsIn.mono (aP B _ [] S' w _ (yS bW) (fun b i h=>by obtain ⟨_,_,h⟩:=lv h;cases h) (dC.pure ns).cr) fun e w' he=>by
       cases e with
       | returned v=>exact a1.after (Ext.refl J) aA (zJ bW aQ he).cr
       | panicked c=>exact he.elim
       | outgrown=>exact he.elim
     ·simp at h
    ·simp at h
   ·simp at h
  ·simp at h
 ·simp only [sf] at h;obtain ⟨⟨r,a2⟩,ao,aQ⟩:=h;simp only [rZ,Prod.mk.injEq] at aQ;obtain ⟨br,aQ,rfl,rfl⟩:=aQ;refine ⟨ba.refl _ _,?_⟩;have bO:=(bt.ok ao).mono (r':=br.cr) (H1:=H) fun B U J S w ah x w' aC=>(xh ah (fun id aE=>(bt.low ao).2 id aE aE) aQ aC).cr;cases b0 with
  | fn k=>exact ⟨bO.1,fun B U J S w vs ah aN ae=>bO.2 B U J S w vs ah aN ae.cr⟩
  | yield l=>exact fun B U J S w vs b ah aN ae ag=>bO B U J S w vs b ah aN ae.cr ag
 ·simp only [sf] at h;obtain ⟨⟨r,a2⟩,ao,aQ⟩:=h;split at aQ
  ·exact frozen ao aQ
  ·rename_i id0 pd;split at aQ
   ·rename_i l aE;split at aQ
    ·rename_i e_;split at aQ
     ·rename_i l' br ak ae;simp only [Option.some.injEq,Prod.mk.injEq] at aQ;obtain ⟨rfl,rfl⟩:=aQ;exact ⟨ba.append _ _ _,(bt.ok ao).mono fun B U J S w ah x w' aC=>D5 ah (fun id aE=>(bt.low ao).2 id aE aE) e_ aE ak ae aC⟩
     ·simp at aQ
    ·simp at aQ
   ·rename_i es clock aE;split at aQ
    ·rename_i e_;split at aQ
     ·rename_i l' br ak ae;simp only [Option.some.injEq,Prod.mk.injEq] at aQ;obtain ⟨rfl,rfl⟩:=aQ;exact ⟨ba.append _ _ _,(bt.ok ao).mono fun B U J S w ah x w' aC=>D6 ah (fun id aE=>(bt.low ao).2 id aE aE) e_ aE ak ae aC⟩
     ·simp at aQ
    ·simp at aQ
   ·simp at aQ
end
end Go.Proofs.YtfakoboiahbhaaaGreat.Ab


namespace Go.Proofs.YtfakoboiahbhaaaGreat.Ab
open Go
def gb (g:Nat→Option Nat) (U:Nat→Option aI):Nat→Option aI:=fun b=>match U b with
 | some (.arg i)=>(g i).map .arg
 | some (.obj id)=>some (.obj id)
 | some (.cell id j)=>some (.cell id j)
 | _=>none
def fr (ec:Bool) (vs:List I):List I:=match ec with | true=>vs | false=>vs.map I.view
def ek (F:Fence):Prop:=F=Fence.wide∨∃ l,F=Fence.wide.inRound l
section
variable {P:Program} {B N:Nat} {J:List Nat} {w:World} {H:List au} {U:Nat→Option aI} {S:Nat→Nat→Prop}
theorem ek.fn {F:Fence} (h:ek F) (f:FuncId):F.fn f:=by rcases h with rfl | ⟨l,rfl⟩ <;> trivial
theorem ek.depth {F:Fence} (h:ek F):F.depth=none:=by rcases h with rfl | ⟨l,rfl⟩ <;> rfl
theorem ek.calls {F:Fence} (h:ek F) {n:Nat} {f:FuncId} {args:Array Value} {w:World} {R:Ending→World→Prop} (k:CallsIn Fence.wide n P f args w R):CallsIn F n P f args w R:=by
 rcases h with rfl | ⟨l,rfl⟩
 ·exact k
 ·exact CallsIn.inRound l k
theorem ek.rounds {F:Fence} (h:ek F) {n l:Nat} {f:FuncId} {tmps:Array Value} {assign body:Code} {w:World} {R:Ending→World→Prop} (k:RoundIn Fence.wide n P l f tmps assign body w R):RoundIn F n P l f tmps assign body w R:=by
 rcases h with rfl | ⟨l,rfl⟩
 ·exact k
 ·exact k
theorem Ei {g:Nat→Option Nat} {b:Nat} (h:U b=none):gb g U b=none:=by simp [gb,h]
theorem Ej {g:Nat→Option Nat} {b:Nat} (h:gb g U b≠none):U b≠none:=fun aS=>h (Ei aS)
theorem z2 (g:Nat→Option Nat) (U:Nat→Option aI) (S:Nat→Nat→Prop) (w:World):bg U S w (gb g U) S w :=
 ⟨rfl,rfl,rfl,sb _,fun _ _ _=>rfl,fun _ _ h=>⟨h,rfl⟩,fun _ _ h=>.inl h,fun _ h=>.inl (Ej h)⟩
theorem z3 (g:Nat→Option Nat) (U:Nat→Option aI):mW (gb g U):=fun b i h=>by
 unfold gb at h;split at h <;> simp at h
theorem yT (ah:aL B U J S w H) (g:Nat→Option Nat):aL B (gb g U) J S w H:=by
 refine ⟨ah.cE,fun id o aq=>?_,ah.cf,fun b l ag=>?_,ah.cX⟩
 ·refine (ah.obj id o aq).frame (Ext.refl J) (fun _ _ h=>⟨h,rfl⟩) fun b l ag ak=>⟨?_,rfl,fun _ h=>h⟩;rcases ak with rfl | ⟨j,rfl⟩ <;> simp [gb,ag]
 ·cases h:U b with
  | none=>simp [gb,h] at ag
  | some l'=>exact ah.base b l' h
theorem D3 {g:Nat→Option Nat} {i j:Nat} (aO:g i=some j) {u:I} {v:Value} (h:aV U J S w (.arg i) u v):aV (gb g U) J S w (.arg j) u v :=
 h.mono (Ext.refl J) (fun _ _ h=>⟨h,rfl⟩) fun b ag=>⟨by simp [gb,ag,aO],rfl,fun _ h=>h⟩
theorem Ed {T:List I} {a:Act} (aK:ct B N U J S w ⟨T,H⟩ a) (ops:List Operand) (ts:List Bool) (ec:Bool) :
  ∃ b2 a4,bg U S w b2 a4 w∧ct B N b2 J a4 w ⟨(rd T ts ops).2,H⟩ a ∧
    a9 (fun i=>.arg i) b2 J a4 w (fr ec (rd T ts ops).1) (ops.map a.eval):=by
 obtain ⟨b2,a4,g,bX,ah,ae⟩:=Ee a ops ts T 0 U S aK.T aK.H;simp only [sP] at ae;cases ec with
 | true=>exact ⟨b2,a4,g.aA w,⟨bX,ah,aK.M.aA (g.aA w)⟩,ae⟩
 | false =>
   obtain ⟨bH,aJ,aP,cp,dC⟩:=EU (rd T ts ops).1 (ops.map a.eval) (fun i=>.arg i) a4 (fun i j h=>by cases h;rfl) (fun i id=>by simp) (fun i id j=>by simp) ae ah;have aA:bg b2 a4 w b2 bH w:=bg.settle aJ fun b o h=>(aP b o h).imp id fun ⟨i,h⟩=>⟨_,h⟩;refine ⟨b2,bH,(g.aA w).trans aA,⟨⟨bX.len,fun i u v hu ae=>(bX.rel i u v hu ae).mono (Ext.refl J) (fun b o h=>⟨aJ b o h,rfl⟩),fun i u v hu ae=>?_⟩,cp,(aK.M.aA (g.aA w)).aA aA⟩,dC⟩;refine (bX.own i u v hu ae).mono (Ext.refl J) (fun b o h=>⟨aJ b o h,rfl⟩) fun b ag=>⟨ag,rfl,fun o h=>?_⟩;rcases aP b o h with h | ⟨j,h⟩
   ·exact h
   ·rw [ag] at h;cases h
theorem oO {C:b6} {lo:Nat} {o:Oper} {an:b5} {s aF:a5} (h:Ab.execOp P C lo o an s=some aF) :
  ∃ r H',a8 P C lo o an.mode (fr (dP o) (rd s.T an.takes (opsOf o)).1) s.H=some (r,H') ∧
    aF=⟨put (inPlace o an.mode (rd s.T an.takes (opsOf o)).2 r) o.dst r,H'⟩:=by
 unfold Ab.execOp at h;simp only [rZ] at h;obtain ⟨⟨r,H'⟩,h,rfl⟩:=h;exact ⟨r,H',h,rfl⟩
theorem DP {C:b6} {lo mode:Nat} {o:Oper} {us:List I} {r:I} {H':List au} {t:Nat} (hm:mode≠0) (CG:mode≠4) (aq:o.op=.move (.tmp t)∨o.op=.assign (.tmp t))
  (h:a8 P C lo o mode us H=some (r,H')) {U:Nat→Option aI} {J:List Nat} {S:Nat→Nat→Prop} {w:World} {l:aI} {v:Value} (aj:Rel J S w r v) (hw:aV U J S w l r v):Rel J S w r.view v:=by
 by_cases hu:r.cT=true
 ·exact aj.view hu
 ·obtain ⟨cells,len,z,rfl⟩:∃ cells len z,r=.ay cells len (.uniq z):=by
   unfold I.cT at hu;split at hu
   ·exact ⟨_,_,_,rfl⟩
   ·simp at hu
  have aS:len=0:=by
   (have aX:eS P lo mode o.type (.tmp t) H us=some (.ay cells len (.uniq z),H'):=by rcases aq with aq | aq <;> simpa only [a8,aq] using h);unfold eS at aX;split at aX
   ·split at aX
    ·exact absurd rfl hm
    ·split at aX
     ·split at aX
      ·rename_i bm;cases aX;exact bm
      ·cases aX
     ·cases aX
     ·cases aX
     ·simp at aX
    ·exact absurd rfl CG
    ·split at aX
     ·split at aX
      ·simp only [sf,rZ,Prod.mk.injEq] at aX;obtain ⟨row,cS,n,aN,ad,af⟩:=aX;have:=congrArg (fun x=>match x with | I.ay _ _ c=>c | _=>.shared) ad;exact absurd this (yt z)
      ·simp at aX
     ·split at aX
      ·split at aX
       ·split at aX
        ·cases aX
        ·cases aX
       ·cases aX
      ·cases aX
     ·simp only [Option.some.injEq,Prod.mk.injEq] at aX;have:=aX.1 ▸ I.dh _;cases this
   ·simp at aX
  subst aS;have ao:cells=[]:=by
   cases aj with
   | b1 c a=>rfl
   | ay _ _ _ b o cap f ao hle b_ k eO=>exact absurd rfl (b_ z)
   | cK _ _ z b o cap =>
     rcases hw with ⟨_,_,h⟩ | ⟨_,_,_,_,_,h,_⟩
     ·exact h
     ·exact s_.1 (by simpa using h)
  subst ao;cases aj with
  | b1 c a=>exact .b1 _ _
  | ay _ _ _ b o cap f ao hle b_ k eO=>exact absurd rfl (b_ z)
  | cK _ _ z b o cap=>exact .ay [] 0 .shared b o cap (fun _=>undef) (by simp) (Nat.zero_le _) (by simp) (by simp) (by simp)
theorem zj {lo id:Nat} {H H':List au} {f:List I→Option (List I)} (h:g8 lo H id f=some H'):ba lo H H':=by
 unfold g8 at h;split at h
 ·rename_i bD;split at h
  ·simp only [rZ] at h;obtain ⟨l',_,rfl⟩:=h;exact ba.set _ _ bD
  ·simp at h
 ·simp at h
theorem Dy {lo:Nat} {t:TypeId} {us:List I} {r:I} {H':List au} (h:iY P lo t H us=some (r,H')):ba lo H H':=by
 unfold iY at h;split at h
 ·split at h
  ·split at h
   ·split at h
    ·rename_i bD;split at h
     ·split at h
      ·cases h;exact ba.set _ _ bD
      ·cases h;exact ba.set _ _ bD
      ·cases h
     ·cases h
    ·cases h
   ·cases h
  ·cases h
 ·cases h
theorem Dw {lo:Nat} {ts:Array TypeId} {us:List I} {r:I} {H':List au} (h:hB P lo ts H us=some (r,H')):ba lo H H':=by
 unfold hB at h;split at h
 ·split at h
  ·split at h
   ·split at h
    ·rename_i bD;split at h
     ·split at h
      ·cases h;exact ba.set _ _ bD
      ·cases h;exact ba.refl _ _
      ·cases h
     ·cases h
    ·cases h
   ·cases h
  ·cases h
 ·cases h
theorem EO {t:TypeId} {ok:Bool} {us:List I} {r:I} {H':List au} (h:ic P t ok H us=some (r,H')):H'=H:=by
 unfold ic at h;split at h
 ·split at h
  ·split at h
   ·split at h
    ·simp only [rZ,Prod.mk.injEq] at h;obtain ⟨_,_,_,rfl⟩:=h;rfl
    ·cases h
   ·cases h
  ·cases h
 ·cases h
theorem EN {us:List I} {r:I} {H':List au} (h:kU H us=some (r,H')):H'=H:=by
 unfold kU at h;split at h
 ·split at h
  ·split at h
   ·split at h
    ·split at h
     ·cases h;rfl
     ·cases h
    ·cases h
   ·cases h
  ·cases h
 ·cases h
theorem zk {lo id:Nat} {H H':List au} {f:List I→Option (List I)} (h:g9 lo H id f=some H'):ba lo H H':=by
 unfold g9 at h;split at h
 ·rename_i bD;split at h
  ·simp only [rZ] at h;obtain ⟨l',_,rfl⟩:=h;exact ba.set _ _ bD
  ·simp only [rZ] at h;obtain ⟨l',_,rfl⟩:=h;exact ba.set _ _ bD
  ·simp at h
 ·simp at h
theorem Dv {lo:Nat} {ts:Array TypeId} {us:List I} {r:I} {H':List au} (h:ib P lo ts H us=some (r,H')):ba lo H H':=by
 unfold ib at h;split at h
 ·split at h
  ·split at h
   ·split at h
    ·split at h
     ·cases h
     ·cases h;exact ba.append _ _ _
    ·cases h
   ·split at h
    ·rename_i bD;split at h
     ·split at h
      ·split at h
       ·cases h;exact (ba.set _ _ bD).trans (ba.append _ _ _)
       ·cases h
      ·cases h
     ·cases h
    ·cases h
   ·cases h
  ·cases h
 ·cases h
theorem Du {lo:Nat} {ts:Array TypeId} {us:List I} {r:I} {H':List au} (h:iX P lo ts H us=some (r,H')):ba lo H H':=by
 refine ba.trans ?_ (Dv h);unfold ja;split
 ·split
  ·split
   ·rename_i ao;simp only [sx] at ao;exact ba.set _ _ (Nat.le_of_ble_eq_true ao.2)
   ·exact ba.refl _ _
  ·exact ba.refl _ _
 ·exact ba.refl _ _
theorem Dz {lo:Nat} {t:TypeId} {us:List I} {r:I} {H':List au} (h:kW P t H us=some (r,H')):ba lo H H':=by
 unfold kW at h;split at h
 ·split at h
  ·cases h;exact ba.append _ _ _
  ·cases h
 ·cases h
theorem Dx {lo:Nat} {t:TypeId} {x:Option Operand} {r:I} {H':List au} (h:kV P t x H=some (r,H')):ba lo H H':=by
 unfold kV at h;split at h
 ·cases h;exact ba.append _ _ _
 ·cases h
theorem zi {lo:Nat} {b:Builtin} {ts:Array TypeId} {us:List I} {r:I} {H':List au} (h:ev P lo b ts H us=some (r,H')):ba lo H H':=by
 have same:∀ {x:Option I},x.map (·,H)=some (r,H')→ba lo H H':=fun h=>by
  simp only [rZ,Prod.mk.injEq] at h;obtain ⟨_,_,_,rfl⟩:=h;exact ba.refl _ _
 unfold ev at h;split at h
 ·unfold iW at h;split at h
  ·split at h
   ·exact same h
   ·simp at h
  ·simp at h
 ·unfold ha at h;split at h
  ·split at h
   ·split at h <;> simp at h;obtain ⟨_,rfl⟩:=h;exact ba.refl _ _
   ·split at h <;> simp at h;obtain ⟨_,rfl⟩:=h;exact ba.refl _ _
   ·split at h <;> simp at h;obtain ⟨_,rfl⟩:=h;exact ba.refl _ _
   ·split at h <;> simp at h;obtain ⟨_,rfl⟩:=h;exact ba.refl _ _
  ·simp at h
 ·unfold jU at h;split at h
  ·split at h <;> simp at h;obtain ⟨_,rfl⟩:=h;exact ba.refl _ _
  ·split at h <;> simp at h;obtain ⟨_,rfl⟩:=h;exact ba.refl _ _
  ·simp at h
 ·unfold jV at h;split at h
  ·split at h
   ·split at h
    ·split at h
     ·simp only [rZ,Prod.mk.injEq] at h;obtain ⟨H1,h,_,rfl⟩:=h;exact zj h
     ·simp at h
    ·simp at h
   ·simp at h
  ·simp at h
 ·unfold kT at h;split at h
  ·split at h
   ·split at h
    ·split at h
     ·simp only [rZ,Prod.mk.injEq] at h;obtain ⟨H1,h,_,rfl⟩:=h;exact zk h
     ·simp at h
    ·simp at h
   ·simp at h
  ·split at h <;> simp at h;obtain ⟨_,rfl⟩:=h;exact ba.refl _ _
  ·simp at h
 ·exact Dw h
 ·exact same h
 ·exact same h
 ·simp at h
theorem D1 {C:b6} (bt:c' P C) {lo mode:Nat} {o:Oper} {us:List I} {r:I} {H':List au} (h:a8 P C lo o mode us H=some (r,H')):ba lo H H':=by
 have same:∀ {x:Option I},x.map (·,H)=some (r,H')→ba lo H H':=fun h=>by
  simp only [rZ,Prod.mk.injEq] at h;obtain ⟨_,_,_,rfl⟩:=h;exact ba.refl _ _
 have l2:∀ {t:TypeId} {x:Operand},eS P lo mode t x H us=some (r,H')→ba lo H H':=fun h=>by
  unfold eS at h;split at h
  ·split at h
   ·split at h
    ·simp only [rZ,Prod.mk.injEq] at h;obtain ⟨_,_,_,rfl⟩:=h;exact ba.refl _ _
    ·cases h;exact ba.refl _ _
   ·split at h
    ·split at h
     ·cases h;exact ba.refl _ _
     ·cases h;exact ba.append _ _ _
    ·cases h;exact ba.refl _ _
    ·cases h;exact ba.refl _ _
    ·simp at h
   ·split at h
    ·split at h
     ·rename_i bD;split at h
      ·split at h
       ·cases h;exact ba.set _ _ bD
       ·cases h
      ·cases h
     ·cases h
    ·cases h;exact ba.refl _ _
   ·split at h
    ·split at h
     ·rename_i bD;simp only [sf,rZ,Prod.mk.injEq] at h;obtain ⟨_,_,_,_,_,rfl⟩:=h;exact ba.set _ _ bD
     ·simp at h
    ·split at h
     ·rename_i bD;split at h
      ·split at h
       ·cases h;exact ba.set _ _ bD
       ·cases h
      ·cases h
     ·cases h
    ·cases h;exact ba.refl _ _
  ·simp at h
 unfold a8 at h;split at h
 ·exact l2 h
 ·exact l2 h
 ·unfold dQ at h;split at h
  ·split at h
   ·exact same h
   ·split at h
    ·exact same h
    ·simp at h
   ·split at h
    ·split at h
     ·split at h
      ·cases h;exact ba.refl _ _
      ·cases h;exact ba.refl _ _
      ·simp at h
     ·simp at h
    ·simp at h
   ·split at h
    ·split at h
     ·rename_i bD;split at h
      ·split at h
       ·cases h;exact ba.set _ _ bD
       ·split at h
        ·split at h
         ·simp at h
         ·cases h;exact (ba.set _ _ bD).trans (ba.append _ _ _)
        ·cases h;exact ba.set _ _ bD
       ·cases h;exact ba.refl _ _
       ·simp at h
      ·split at h
       ·cases h;exact ba.set _ _ bD
       ·cases h;exact ba.refl _ _
       ·simp at h
      ·simp at h
     ·simp at h
    ·simp at h
  ·simp at h
 ·unfold hC at h;split at h
  ·split at h
   ·simp only [rZ,Prod.mk.injEq] at h;obtain ⟨H1,h,_,rfl⟩:=h;unfold iA at h;split at h
    ·split at h
     ·exact zk h
     ·simp at h
    ·simp at h
   ·simp only [rZ,Prod.mk.injEq] at h;obtain ⟨H1,h,_,rfl⟩:=h;unfold lq at h;split at h
    ·split at h
     ·exact zj h
     ·simp at h
    ·simp at h
  ·simp at h
 ·unfold gF at h;split at h
  ·split at h
   ·simp only [rZ,Prod.mk.injEq] at h;obtain ⟨_,_,_,rfl⟩:=h;exact ba.append _ _ _
   ·split at h
    ·split at h
     ·cases h;exact ba.refl _ _
     ·cases h
    ·cases h
  ·simp at h
 ·unfold kS at h;split at h
  ·simp only [rZ,Prod.mk.injEq] at h;obtain ⟨_,_,_,rfl⟩:=h;exact ba.append _ _ _
  ·split at h
   ·simp only [rZ,Prod.mk.injEq] at h;obtain ⟨_,_,_,rfl⟩:=h;exact ba.append _ _ _
   ·cases h
 ·split at h
  ·exact same h
  ·simp only [rZ,Prod.mk.injEq] at h;obtain ⟨_,_,_,rfl⟩:=h;exact ba.refl _ _
 ·unfold jW at h;split at h
  ·split at h
   ·split at h
    ·simp only [rZ,Prod.mk.injEq] at h;obtain ⟨_,_,_,rfl⟩:=h;exact ba.append _ _ _
    ·split at h
     ·simp only [rZ,Prod.mk.injEq] at h;obtain ⟨_,_,_,rfl⟩:=h;exact ba.refl _ _
     ·simp at h
   ·simp at h
  ·simp at h
 ·exact Dx h
 ·exact Dy h
 ·rw [EO h];exact ba.refl _ _
 ·exact Dz h
 ·rw [EN h];exact ba.refl _ _
 ·split at h
  ·split at h
   ·split at h
    ·exact zi h
    ·exact Du h
   ·exact zi h
  ·unfold hA at h;split at h
   ·unfold kh at h;split at h
    ·exact (m4 bt h).1
    ·exact (m4 bt h).1
    ·simp at h
   ·simp at h
  ·simp at h
 ·exact same h
end
end Go.Proofs.YtfakoboiahbhaaaGreat.Ab


namespace Go.Proofs.YtfakoboiahbhaaaGreat.Ab
open Go
section
variable {P:Program} {B N:Nat} {J:List Nat} {w:World} {H:List au} {U:Nat→Option aI} {S:Nat→Nat→Prop}
theorem Av {k : Nat} {f : Func} (aQ : P.funcs[k]? = some f) (ag : f.body.isSome = true) (aN : f.name ≠ "runtime.NumGoroutine") (args : Array Value) (w : World) :
  (callFunc k args).run P w=.ok (.enter k args) w:=by
 have bp:f.body≠none:=fun h=>by simp [h] at ag
 simp [callFunc,aQ,bp,aN]
theorem A9 {first us cap:List I} {vs ws xs:List Value} (aQ:first.length=vs.length) (bR:∀ u∈first,u.plain=true) (r1:∀ (j:Nat) (u:I) (v:Value),first[j]?=some u→vs[j]?=some v→Rel J S w u v)
  (ao:cap.length=ws.length) (b4:∀ u∈cap,u.plain=true) (r2:∀ (j:Nat) (u:I) (v:Value),cap[j]?=some u→ws[j]?=some v→Rel J S w u v)
  (ae:a9 (fun i=>.arg (i+1)) U J S w us xs) :
  a9 (fun i=>.arg i) (gb (fun i=>match i with | 0=>none | j+1=>some (first.length+j)) U) J S w (first++us++cap) (vs++xs++ws):=by
 have ak:=ae.len;have key:∀ (i:Nat) (u:I) (v:Value),(first++us++cap)[i]?=some u→(vs++xs++ws)[i]?=some v →
   Rel J S w u v∧aV (gb (fun i=>match i with | 0=>none | j+1=>some (first.length+j)) U) J S w (.arg i) u v:=fun i u v hu al=>by
  rcases sU i first.length with ad | ad
  ·rw [sj,sA ad] at hu;rw [sj,sA (by omega)] at al;exact ⟨r1 i u v hu al,aV.b3 (bR u (sK hu))⟩
  ·rw [sj,sL ad] at hu;rw [sj,sL (by omega),←aQ] at al;rcases sU (i-first.length) us.length with af | af
   ·rw [sA af] at hu;rw [sA (by omega)] at al;refine ⟨ae.rel _ u v hu al,D3 ?_ (ae.own _ u v hu al)⟩;show some (first.length+(i-first.length))=some i;congr 1;omega
   ·rw [sL af] at hu;rw [sL (by omega),←ak] at al;exact ⟨r2 _ u v hu al,aV.b3 (b4 u (sK hu))⟩
 exact ⟨by simp [aQ,ao,ak],fun i u v hu al=>(key i u v hu al).1,fun i u v hu al=>(key i u v hu al).2⟩
theorem xN {F:Fence} (bB:ek F) {C:b6} (bt:c' P C) {lo:Nat} {o:Oper} {an:b5} {s aF:a5} (h:Ab.execOp P C lo o an s=some aF) {a:Act} (aK:ct B N U J S w s a)
  {K:Act→World→Prop} {Q:Exit→Act→World→Prop} (fE:∀ aM w',Step B N U J S w aF aM w'→K aM w'):o.wpIn F 0 P a w K Q:=by
 obtain ⟨r,H',aD,rfl⟩:=oO h;obtain ⟨b2,a4,m',b',ae⟩:=Ed (H:=s.H) aK (opsOf o) an.takes (dP o);generalize yX:fr (dP o) (rd s.T an.takes (opsOf o)).1=us at aD ae;have eN:∀ v,a.eval (.const v)=v:=fun _=>rfl;have jI:∀ c,o.op≠.defer c:=fun c ao=>by simp [a8,ao,cy] at aD
 have nk:∀ v w',(∀ t,o.op=.move (.tmp t)∨o.op=.assign (.tmp t)→v=a.eval (.tmp t))→a1 B (dk b2) J a4 w H' r v w'→K (a.put o.dst v) w':=fun v w' ea aC=>by
  refine fE _ _ (Step.trans (Ext.refl J) m' ?_);by_cases hm:an.mode=0∨an.mode=4
  ·obtain ⟨az,bZ,S',aJ,aP,fW,_⟩:=nU o.dst b' aC .junk (fun _ _ _ _ _=>.junk _);(have gZ:inPlace o an.mode (rd s.T an.takes (opsOf o)).2 r=(rd s.T an.takes (opsOf o)).2:=by rcases hm with hm | hm <;> simp [inPlace,hm]);rw [gZ];exact ⟨az,bZ,S',aJ,aP,fW⟩
  ·by_cases ax:∃ t,o.op=.move (.tmp t)∨o.op=.assign (.tmp t)
   ·obtain ⟨t,ax⟩:=ax;have gZ:inPlace o an.mode (rd s.T an.takes (opsOf o)).2 r=gK (rd s.T an.takes (opsOf o)).2 t r.view:=by
     unfold inPlace;split
     ·rename_i pv;exact absurd (.inl pv) hm
     ·rename_i pv;exact absurd (.inr pv) hm
     ·rcases ax with ax | ax <;> simp [ax]
    have yY:∀ x,a.tmps.toList[t]?=some x→x=a.eval (.tmp t):=fun x al=>by
     (have nz:a.tmps[t]?=some x:=by simpa using al);simp [Act.eval,nz,sy]
    have yQ:v=a.eval (.tmp t):=ea t ax;obtain ⟨az,bZ,S',aJ,aP,fW,nw⟩:=nU o.dst b' aC r.view (fun bn cg bH q1 aW=>DP (fun e=>hm (.inl e)) (fun e=>hm (.inr e)) ax aD q1 aW);refine ⟨az,bZ,S',aJ,aP,?_,fW.H,fW.M⟩;rw [gZ];have bX:=fW.T;simp only at bX;cases aZ:o.dst with
    | none =>
      simp only [aZ,put,Act.put,gL] at bX ⊢;exact bX.swap t (I.dh _) fun x al=>by rw [yY x al,←yQ];exact nw
    | some d =>
      simp only [aZ,put,Act.put,gL] at bX ⊢;by_cases pI:t=d
      ·subst pI;rw [sQ];exact bX
      ·rw [List.set_comm _ _ pI];refine bX.swap t (I.dh _) fun x al=>?_;rw [vZ,si (Ne.symm pI)] at al;rw [yY x al,←yQ];exact nw
   ·have gZ:inPlace o an.mode (rd s.T an.takes (opsOf o)).2 r=(rd s.T an.takes (opsOf o)).2:=by
     unfold inPlace;split
     ·rfl
     ·rfl
     ·split
      ·rename_i h;exact absurd ⟨_,.inl h⟩ ax
      ·rename_i h;exact absurd ⟨_,.inr h⟩ ax
      ·rfl
    rw [gZ];obtain ⟨az,bZ,S',aJ,aP,fW,_⟩:=nU o.dst b' aC .junk (fun _ _ _ _ _=>.junk _);exact ⟨az,bZ,S',aJ,aP,fW⟩
 refine ⟨fun f _=>bB.fn f,?_⟩;rw [Oper.semAt_eq _ _ _ jI];by_cases e9:∃ c f,o.op=.call c∧c.callee=.value f
 ·obtain ⟨c,f,kA,hZ⟩:=e9;have he:opsOf o=f::c.args.toList:=by
   obtain ⟨BG,args,BB⟩:=c;simp only at hZ;subst hZ;simp only [opsOf,kA]
  rw [he] at ae;simp only [a8,kA,hZ] at aD;have fD:=l8 b'.H;have fY:=A_ ae
  match us,aD,fY with
  | [],aD,_=>simp [hA] at aD
  | FG::GF,aD,fY =>
    simp only [hA] at aD;have n2:=fY.rel 0 FG (a.eval f) rfl rfl;have yZ:=fY.tail;unfold kh at aD;split at aD
    ·(rename_i k first cap);generalize kt:a.eval f=FJ at n2;cases n2 with
     | func _ _ _ vs ws aJ aP bR b4 r1 r2 =>
       obtain ⟨_,⟨fn,Cp,kq,CM⟩,o'⟩:=m4 bt aD;have ny:=A9 (U:=dk b2) (J:=J) (S:=a4) (w:=w) (first:=first) (cap:=cap) (vs:=vs.toList) (ws:=ws.toList) (by simp [aJ]) bR (fun j u v hu al=>r1 j u v hu (by simpa using al)) (by simp [aP]) b4 (fun j u v hu al=>r2 j u v hu (by simpa using al)) yZ;have ao:=o' B _ J a4 w _ (yT fD _) (z3 _ _) ny;have kC:(resolve a.eval c o.type).run P w=.ok { target:=.fn (.func k) ws,args:=vs++c.args.map a.eval } w:=by
        simp [resolve,hZ,kt,Deferred.ofValue]
       have dN:(Go.execOp a.eval o).run P w=.ok (.enter k (vs++c.args.map a.eval++ws)) w:=by
        simp only [Go.execOp,kA,Sem.run_bind,kC,Result.andThen_ok,invoke,Av Cp kq CM]
       rw [dN];have ht:(vs.toList++List.map a.eval c.args.toList++ws.toList).toArray=vs++c.args.map a.eval++ws:=by
        apply Array.ext';simp
       rw [ht] at ao;refine ⟨fun iJ=>(by rw [bB.depth] at iJ;cases iJ),bB.calls (CallsIn.mono ao fun e w' he=>?_)⟩;cases e with
       | returned v=>exact nk v w' (fun t ax=>by rcases ax with ax | ax <;> rw [kA] at ax <;> cases ax) (a1.after (Ext.refl J) (z2 _ _ _ _) he)
       | panicked c=>exact he.elim
       | outgrown=>exact he.elim
    ·rename_i l;generalize kt:a.eval f=FJ at n2;cases n2 with
     | yield _ b ag =>
       obtain ⟨_,o'⟩:=m4 bt aD;have ny:=A9 (U:=dk b2) (J:=J) (S:=a4) (w:=w) (first:=[]) (cap:=[]) (vs:=[]) (ws:=[]) rfl (by simp) (by simp) rfl (by simp) (by simp) yZ;simp only [List.nil_append,List.append_nil] at ny;obtain ⟨L,ad,af,aG⟩:=o' B _ J a4 w _ b (yT fD _) (z3 _ _) ny ag;have kC:(resolve a.eval c o.type).run P w=.ok { target:=.fn (.yield b) #[],args:=c.args.map a.eval } w:=by
        simp [resolve,hZ,kt,Deferred.ofValue]
       (have bP:(c.args.map a.eval).size=L.params.size:=by rw [←af];simp);have dN:(Go.execOp a.eval o).run P w=.ok (.round b L.fn (hF L (List.map a.eval c.args.toList)) L.assign L.body) w:=by
        simp only [Go.execOp,kA,Sem.run_bind,kC,Result.andThen_ok,invoke]
        have:(List.map a.eval c.args.toList).toArray=c.args.map a.eval:=by apply Array.ext';simp
        simp [Instr.yield,run_getLoop ad,bP,hF,this]
       rw [dN];refine ⟨fun iJ=>(by rw [bB.depth] at iJ;cases iJ),bB.rounds (RoundIn.mono aG fun e w' he=>?_)⟩;cases e with
       | returned v=>exact nk v w' (fun t ax=>by rcases ax with ax | ax <;> rw [kA] at ax <;> cases ax) (a1.after (Ext.refl J) (z2 _ _ _ _) he)
       | panicked c=>exact he.elim
       | outgrown=>exact he.elim
    ·simp at aD
 ·have iM:∀ c f,o.op=.call c→c.callee≠.value f:=fun c f ad af=>e9 ⟨c,f,ad,af⟩;have aC:dP o=false→∀ u∈us,u.plain=true:=fun ak u hu=>by
   rw [ak] at yX;subst yX;obtain ⟨x,_,rfl⟩:=ss.1 hu;exact I.dh x
  rcases Fo eN (l8 b'.H) aD iM aC (A_ ae) with ⟨v,w',ad,af⟩ | ⟨w',ad,af⟩
  ·rw [ad];exact nk v w' (fun t ax=>by rcases ax with ax | ax <;> simp [Go.execOp,ax] at ad <;> exact ad.1.symm) af
  ·rw [ad];exact nk undef w' (fun t ax=>by rcases ax with ax | ax <;> simp [Go.execOp,ax] at ad) af
end
end Go.Proofs.YtfakoboiahbhaaaGreat.Ab


namespace Go.Proofs.YtfakoboiahbhaaaGreat.Ab
open Go
section
variable {P:Program} {B N:Nat} {J:List Nat} {w:World} {H:List au} {U:Nat→Option aI} {S:Nat→Nat→Prop}
theorem ct.c5 {s:a5} {a:Act} (aK:ct B N U J S w s a) (t:Nat):Rel J S w (c5 s.T t) (a.tmps.getD t undef):=by
 rw [fV,sG];cases h:s.T[t]? with
 | none=>exact .junk _
 | some u =>
   have ak:=aK.T.len;have aU:t<s.T.length:=(sa.1 h).1;(have l1:t<a.tmps.size:=by rw [←tE,←ak];exact aU);(have al:a.tmps.toList[t]?=some (a.tmps.getD t undef):=by simp [sy,l1]);exact aK.T.rel t u _ h al
theorem ct.aA {s:a5} {a:Act} (aK:ct B N U J S w s a) (x:Operand):Rel J S w (aA s.T x) (a.eval x):=by
 cases x with
 | tmp t=>exact aK.c5 t
 | const v=>exact lr J S w v
 | global g=>exact .junk _
 | func f=>exact .func f [] [] #[] #[] rfl rfl (by simp) (by simp) (by simp) (by simp)
theorem k9 {ops:Array Oper} {o:Oper} {s:a5} {a:Act} (aK:ct B N U J S w s a) {x:Bool} (h:ew ops o s.T=some x):Region.wanted o (yielded ops a.tmps)=x:=by
 unfold ew at h;unfold Region.wanted;split at h
 ·rename_i aO;rw [aO];simpa using h
 ·rename_i j want aO;rw [aO];split at h
  ·rename_i d aZ;split at h
   ·rename_i b ag;have aj:=aK.c5 d;rw [ag] at aj;have:=aj.hW;simp only [Option.some.injEq] at h;subst h;have aU:a.tmps[d]?=some (.bool b):=by
     rw [sy] at this;cases h:a.tmps[d]? with
     | none=>rw [h] at this;simp [undef] at this
     | some v=>rw [h] at this;simpa using this
    simp [yielded,aZ,aU]
   ·rename_i ag;have aj:=aK.c5 d;rw [ag] at aj;simp only [Option.some.injEq] at h;subst h;have aN:yielded ops a.tmps j=none:=by
     unfold yielded;rw [aZ,r_];cases h:a.tmps[d]? with
     | none=>rfl
     | some v =>
       rw [sy,h] at aj;simp only [uM] at aj;cases aj;rfl
    simp [aN]
   ·simp at h
  ·simp at h
theorem ct.skip {T:List I} {a:Act} (aK:ct B N U J S w ⟨T,H⟩ a) (d:Option Tmp):ct B N U J S w ⟨put T d (.tuple []),H⟩ (a.put d undef):=by
 cases d with
 | none=>exact aK
 | some d =>
   refine ⟨?_,aK.H,aK.M⟩;have bX:=aK.T;simp only [put,gL,Act.put] at bX ⊢;have key:∀ (i:Nat) (u:I) (x:Value),(T.set d (.tuple []))[i]?=some u→(a.tmps.toList.set d undef)[i]?=some x→Rel J S w u x∧aV U J S w (.slot i) u x:=fun i u x hu al=>by
    by_cases aE:d=i
    ·subst aE;(have aU:d<T.length:=by have:=(sa.1 hu).1;simpa using this);rw [sg aU] at hu;cases hu;rw [sg (by have:=(sa.1 al).1;simpa using this)] at al;cases al;exact ⟨.tuple _ _ rfl (by simp) (by simp),aV.b3 rfl⟩
    ·rw [si aE] at hu al;exact ⟨bX.rel i u x hu al,bX.own i u x hu al⟩
   refine ⟨by simpa using bX.len,fun i u x hu al=>?_,fun i u x hu al=>?_⟩
   ·rw [vZ] at al;exact (key i u x hu al).1
   ·rw [vZ] at al;exact (key i u x hu al).2
theorem xZ:∀ (k:List Bool) (T:List I) (i:Nat),(eT k T)[i]?=T[i]?∨(eT k T)[i]?=(T[i]?).map fun _=>.junk
 | [],T,i=>.inl (by simp [eT])
 | b::bs,[],i=>.inl (by simp [eT])
 | b::bs,v::vs,i=>by
   cases i with
   | zero=>cases b <;> simp [eT]
   | succ i=>simpa [eT] using xZ bs vs i
theorem Bh:∀ (k:List Bool) (T:List I),(eT k T).length=T.length
 | [],T=>by simp [eT]
 | b::bs,[]=>by simp [eT]
 | b::bs,v::vs=>by simp [eT,Bh bs vs]
theorem ct.cD {s:a5} {a:Act} (aK:ct B N U J S w s a) (mm:List (Nat×List Bool)) (id:Nat):ct B N U J S w (eY mm id s) a:=by
 unfold eY;split
 ·rename_i k _;refine ⟨⟨by rw [Bh];exact aK.T.len,fun i u x hu al=>?_,fun i u x hu al=>?_⟩,aK.H,aK.M⟩
  all_goals simp only at hu
  ·rcases xZ k s.T i with h | h
   ·rw [h] at hu;exact aK.T.rel i u x hu al
   ·rw [h] at hu;simp only [rZ] at hu;obtain ⟨_,_,rfl⟩:=hu;exact .junk _
  ·rcases xZ k s.T i with h | h
   ·rw [h] at hu;exact aK.T.own i u x hu al
   ·rw [h] at hu;simp only [rZ] at hu;obtain ⟨_,_,rfl⟩:=hu;exact aV.b3 rfl
 ·exact aK
theorem Step.here {s:a5} {a:Act} (aK:ct B N U J S w s a):Step B N U J S w s a w:=⟨U,J,S,Ext.refl J,bg.refl U S w,aK⟩
theorem xa {F:Fence} (bB:ek F) {C:b6} (bt:c' P C) {lo:Nat} {ops:Array Oper} {aF:a5} {Q:Exit→Act→World→Prop} :
  ∀ (rest:List Oper) (as:List b5) (s:a5) (a:Act) (w:World) (U:Nat→Option aI) (J:List Nat) (S:Nat→Nat→Prop),eJ P C lo ops rest as s=some aF→ct B N U J S w s a →
    (∀ aM w',Step B N U J S w aF aM w'→Q .normal aM w')→wpListIn F 0 P ops Q rest a w
 | [],as,s,a,w,U,J,S,h,aK,bl=>by
   simp only [eJ,Option.some.injEq] at h;subst h;exact bl a w (Step.here aK)
 | o::rest,as,s,a,w,U,J,S,h,aK,bl=>by
   simp only [eJ] at h;unfold wpListIn;split at h
   ·rename_i hw;rw [k9 aK hw];simp only [if_true];simp only [sf] at h;obtain ⟨s1,ad,af⟩:=h;refine xN bB bt ad aK fun aM w' ai=>?_;obtain ⟨b2,cQ,a4,aJ,aP,b'⟩:=ai;exact xa bB bt rest as.tail s1 aM w' b2 cQ a4 af b' fun gP hk dO=>bl gP hk (dO.trans aJ aP)
   ·rename_i hw;rw [k9 aK hw];simp only [tM,if_false];exact ⟨fun f _=>bB.fn f,xa bB bt rest as.tail _ _ w U J S h (aK.skip o.dst) bl⟩
   ·simp at h
end
end Go.Proofs.YtfakoboiahbhaaaGreat.Ab


namespace Go.Proofs.YtfakoboiahbhaaaGreat.Ab
open Go
theorem lD {xs ys:List Nat} (h:jv xs ys=true) (x:Nat) (al:x∈xs):x ∉ ys:=by
 simp only [jv,sC] at h;have:=h x al;simpa using this
theorem xK (u:I):u.settle.settle=u.settle:=by
 cases u <;> try rfl
 rename_i c n k;cases k <;> rfl
theorem xT (u:I):u.settle.view=u.view:=by
 cases u <;> try rfl
 rename_i c n k;cases k <;> rfl
theorem mN (T:List I) (t j:Nat):(fP T t (c5 T t))[j]?=if t=j then (T[j]?).map I.settle else T[j]?:=by
 have aO:c5 T t=T.getD t .junk:=fV T t;by_cases g2:t=j
 ·subst g2;simp only [if_true];cases h:T[t]? with
  | none =>
    (have aw:c5 T t=.junk:=by rw [aO,sG,h];rfl);rw [aw];simp [fP,h]
  | some u =>
    (have aw:c5 T t=u:=by rw [aO,sG,h];rfl);have aU:=(sa.1 h).1;rw [aw];(cases u <;> try (simp [fP,h,I.settle];done));rename_i c n k;cases k <;> simp only [fP,h,I.settle,gL,sd] <;> rw [sg aU]
 ·simp only [g2,if_false];unfold fP;split
  ·rw [gL,si g2]
  ·rfl
theorem k5 (T:List I) (t j:Nat) (v:I):(gK T t v)[j]?=if t=j then (T[j]?).map fun _=>v else T[j]?:=by
 rw [gL];by_cases h:t=j
 ·subst h;simp only [if_true];rcases sU t T.length with ak | ak
  ·rw [sg ak,sq ak];rfl
  ·rw [tB (by simpa using ak),tB ak];rfl
 ·rw [si h];simp [h]
theorem j0:∀ (xs:List Operand) (ts:List Bool) (T:List I) (j:Nat),
  ((rd T ts xs).2)[j]?=(T[j]?).map fun u=>if j∈cZ ts xs then .junk else if j∈tmpsOf xs then u.settle else u
 | [],ts,T,j=>by simp [rd,cZ,tmpsOf]
 | .tmp t::rest,ts,T,j=>by
   (have ax:tmpsOf (.tmp t::rest)=t::tmpsOf rest:=by simp [tmpsOf]);rw [ax];cases bI:ts.headD false with
   | true =>
     simp only [rd,bI,cZ];rw [j0 rest ts.tail,k5];by_cases g2:t=j
     ·subst g2;simp only [if_true,sk,true_or];cases T[t]? with
      | none=>rfl
      | some u=>simp only [sd,I.settle];split <;> simp
     ·have pJ:¬ j=t:=fun e=>g2 e.symm;simp [g2,pJ]
   | false =>
     simp only [rd,bI,cZ];rw [j0 rest ts.tail,mN];by_cases g2:t=j
     ·subst g2;simp only [if_true,sk,true_or];cases T[t]? with
      | none=>rfl
      | some u=>simp only [sd,xK];split <;> (try split) <;> rfl
     ·have pJ:¬ j=t:=fun e=>g2 e.symm;simp [g2,pJ]
 | .const v::rest,ts,T,j=>by simpa [rd,cZ,tmpsOf] using j0 rest ts.tail T j
 | .func f::rest,ts,T,j=>by simpa [rd,cZ,tmpsOf] using j0 rest ts.tail T j
 | .global g::rest,ts,T,j=>by simpa [rd,cZ,tmpsOf] using j0 rest ts.tail T j
theorem B0 {T a7:List I} {t:Nat} (h:(T[t]?).map I.settle=(a7[t]?).map I.settle):(c5 T t).view=(c5 a7 t).view:=by
 rw [fV,fV,sG,sG];cases ad:T[t]? <;> cases af:a7[t]? <;> rw [ad,af] at h <;> simp at h <;> simp only [uM];rw [←xT,h,xT]
theorem jZ:∀ (xs:List Operand) (ts:List Bool) (T a7:List I),(∀ t∈tmpsOf xs,(T[t]?).map I.settle=(a7[t]?).map I.settle)→(∀ t∈cZ ts xs,T[t]?=a7[t]?) →
  (rd T ts xs).1=(rd a7 ts xs).1
 | [],ts,T,a7,_,_=>by simp [rd]
 | .tmp t::rest,ts,T,a7,ad,af=>by
   (have ax:tmpsOf (.tmp t::rest)=t::tmpsOf rest:=by simp [tmpsOf]);rw [ax] at ad;cases bI:ts.headD false with
   | true =>
     simp only [cZ,bI] at af;simp only [rd,bI];have e:T[t]?=a7[t]?:=af t (by simp);rw [jZ rest ts.tail (gK T t .junk) (gK a7 t .junk) (fun u hu=>?_) (fun u hu=>?_)]
     ·congr 1;rw [fV,fV,sG,sG,e]
     ·rw [k5,k5];by_cases g4:t=u
      ·subst g4;simp [e]
      ·simp [g4,ad u (by simp [hu])]
     ·rw [k5,k5];by_cases g4:t=u
      ·subst g4;simp [e]
      ·simp [g4,af u (by simp [hu])]
   | false =>
     simp only [cZ,bI] at af;simp only [rd,bI];have e:=ad t (by simp);rw [jZ rest ts.tail (fP T t (c5 T t)) (fP a7 t (c5 a7 t)) (fun u hu=>?_) (fun u hu=>?_),B0 e]
     ·rw [mN,mN];by_cases g4:t=u
      ·subst g4;simp only [if_true,e]
      ·simp only [g4,if_false];exact ad u (by simp [hu])
     ·rw [mN,mN];by_cases g4:t=u
      ·subst g4;simp only [if_true,e]
      ·simp only [g4,if_false];exact af u hu
 | .const v::rest,ts,T,a7,ad,af=>by
   simp only [rd];rw [jZ rest ts.tail T a7 (by simpa [tmpsOf] using ad) (by simpa [cZ] using af)];rfl
 | .func f::rest,ts,T,a7,ad,af=>by
   simp only [rd];rw [jZ rest ts.tail T a7 (by simpa [tmpsOf] using ad) (by simpa [cZ] using af)];rfl
 | .global g::rest,ts,T,a7,ad,af=>by
   simp only [rd];rw [jZ rest ts.tail T a7 (by simpa [tmpsOf] using ad) (by simpa [cZ] using af)];rfl
section
variable {P:Program}
theorem m5 {C:b6} {lo mode:Nat} {o:Oper} {us:List I} {r:I} {H H':List au} (ao:dj o mode=0) (h:a8 P C lo o mode us H=some (r,H')) :
  H'=H∧∀ a2,a8 P C lo o mode us a2=some (r,a2):=by
 have base:∀ {x:Option I},x.map (fun y=>(y,H))=some (r,H')→H'=H∧∀ a2:List au,x.map (fun y=>(y,a2))=some (r,a2):=fun {x} h=>by
  simp only [rZ,Prod.mk.injEq] at h;obtain ⟨_,rfl,rfl,rfl⟩:=h;exact ⟨rfl,fun _=>rfl⟩
 have l2:∀ {t:TypeId} {x:Operand},mode=0→eS P lo mode t x H us=some (r,H')→H'=H∧∀ a2,eS P lo mode t x a2 us=some (r,a2):=fun hm h=>by
  subst hm;unfold eS at h;simp only [eS];split at h
  ·simp only at h ⊢;split at h
   ·simp only [rZ,Prod.mk.injEq] at h;obtain ⟨z,bm,rfl,rfl⟩:=h;exact ⟨rfl,fun _=>by simp [bm]⟩
   ·cases h;exact ⟨rfl,fun _=>rfl⟩
  ·simp at h
 cases aD:o.op <;> simp only [dj,aD] at ao <;> simp only [a8,aD] at h ⊢
 case move x=>exact l2 (by by_cases h:mode=0 <;> simp_all) h
 case assign x=>exact l2 (by by_cases h:mode=0 <;> simp_all) h
 case load t a =>
  have hm:mode=3:=by by_cases h:mode=0 <;> by_cases af:mode=2 <;> by_cases aG:mode=3 <;> by_cases bL:mode=5 <;> simp_all
  subst hm;unfold dQ at h;simp only [dQ];split at h
  ·simp only at h ⊢;split at h
   ·exact base h
   ·cases h
  ·cases h
 case makeSlice t a b =>
  have hm:mode≠0:=by intro h;simp [h] at ao
  unfold jW at h;simp only [jW];split at h
  ·split at h
   ·rename_i iM;split at h
    ·exact absurd rfl hm
    ·split at h
     ·rename_i af;simp only [rZ,Prod.mk.injEq] at h;obtain ⟨x,al,rfl,rfl⟩:=h;exact ⟨rfl,fun _=>by obtain ⟨e,aS⟩:=af;subst e;simp [al,aS]⟩
     ·simp at h
   ·simp at h
  ·simp at h
 case box e x =>
  have hm:mode≠0:=by intro h;simp [h] at ao
  unfold gF at h;simp only [gF];split at h
  ·split at h
   ·exact absurd rfl hm
   ·split at h
    ·rename_i ae;split at h
     ·rename_i aC;cases h;exact ⟨rfl,fun _=>by simp [ae,aC]⟩
     ·cases h
    ·cases h
  ·cases h
 case buildSlice t len parts =>
  split at h
  ·exact base h
  ·simp only [rZ,Prod.mk.injEq] at h ⊢;obtain ⟨x,al,rfl,rfl⟩:=h;exact ⟨rfl,fun _=>⟨x,al,rfl,trivial⟩⟩
 case call c =>
  split at ao
  ·split at ao
   ·by_cases hm:mode=0 <;> simp [hm] at ao
   all_goals simp at ao
  ·rename_i f hZ;simp only [hZ] at h ⊢;have hm:mode=3:=by
    by_cases aS:mode=0
    ·simp [aS] at ao
    ·by_cases aG:mode=3
     ·exact aG
     ·by_cases a6:mode=4 <;> by_cases bV:mode=6 <;> simp [aS,aG,a6,bV] at ao
   subst hm;unfold hA at h;simp only [hA];split at h
   ·unfold kh at h;simp only [kh];have key:∀ {b0:e6} {args:List I},eV C lo 3 b0 args H=some (r,H')→H'=H∧∀ a2,eV C lo 3 b0 args a2=some (r,a2):=fun {b0 args} h=>by
     simp only [eV] at h ⊢;split at h
     ·simp only [sf] at h;obtain ⟨x,al,h⟩:=h;simp only [rZ,Prod.mk.injEq] at h;obtain ⟨v,ae,rfl,rfl⟩:=h;rename_i aC;exact ⟨rfl,fun a2=>by simp [al,ae]⟩
     ·simp at h
    split at h
    ·exact key h
    ·exact key h
    ·simp at h
   ·simp at h
  ·simp at ao
 case store=>simp at ao
 case alloc=>simp at ao
 case makeMap=>simp at ao
 case mapUpdate=>simp at ao
 case lookup=>simp at ao
 case range=>simp at ao
 case entry=>simp at ao
 all_goals exact base h
def dV (H a2:List au):Prop:=∀ (id:Nat) (o:au),H[id]?=some o→a2[id]?=some o∨(∃ l l',o=.cells l∧a2[id]?=some (.cells l')∧l'.map I.view=l.map I.view)∨∃ l l' g z,o=.grow l g z∧a2[id]?=some (.grow l' g z)∧l'.map I.view=l.map I.view
theorem dV.cells {H a2:List au} (h:dV H a2) {id:Nat} {l:List I} (aE:H[id]?=some (.cells l)):∃ l',a2[id]?=some (.cells l')∧l'.map I.view=l.map I.view:=by
 rcases h id _ aE with h | ⟨cv,l',ad,af,aG⟩ | ⟨_,_,_,_,ad,_⟩
 ·exact ⟨l,h,rfl⟩
 ·cases ad;exact ⟨l',af,aG⟩
 ·cases ad
theorem dV.grow {H a2:List au} (h:dV H a2) {id g z:Nat} {l:List I} (aE:H[id]?=some (.grow l g z)):∃ l',a2[id]?=some (.grow l' g z)∧l'.map I.view=l.map I.view:=by
 rcases h id _ aE with h | ⟨_,_,ad,_⟩ | ⟨cv,l',F6,cU,ad,af,aG⟩
 ·exact ⟨l,h,rfl⟩
 ·cases ad
 ·cases ad;exact ⟨l',af,aG⟩
theorem dV.append (H:List au) (X:List au):dV H (H++X):=fun id o h=>.inl (by
 rw [sA (sa.1 h).1];exact h)
theorem zb {t:TypeId} {l l':List I} {off:Nat} (h:l'.map I.view=l.map I.view):eu P t l' off=eu P t l off:=by
 have ak:l'.length=l.length:=by have:=congrArg List.length h;simpa using this
 unfold eu;split
 ·have:∀ s,((l'.drop off).take s).map I.view=((l.drop off).take s).map I.view:=fun s=>by
   rw [uo,uE,h,←uE,←uo]
  simp only [ak,this]
 ·split
  ·have:=congrArg (fun x=>x[off]?) h;simpa using this
  ·rfl
theorem Bq {H a2:List au} (ai:dV H a2) {t:TypeId} {a r:I} (h:dT P H t a=some r):dT P a2 t a=some r:=by
 unfold dT at h ⊢;split at h
 ·split at h
  ·rename_i l aE;obtain ⟨l',ad,af⟩:=ai.cells aE;rw [ad];simp only;rw [zb af];exact h
  ·rename_i l g z aE;obtain ⟨l',ad,af⟩:=ai.grow aE;rw [ad];simp only;rw [zb af];exact h
  ·simp at h
 ·exact h
 ·simp at h
theorem Ap {H a2:List au} (ai:dV H a2) {x:I} {row:List I} (h:rowOf H x=some row):rowOf a2 x=some row:=by
 unfold rowOf at h ⊢;split at h
 ·exact h
 ·split at h
  ·rename_i l aE;obtain ⟨l',ad,af⟩:=ai.cells aE;(have ak:l'.length=l.length:=by have:=congrArg List.length af;simpa using this);rw [ad];simp only [ak]
   have:∀ s off,((l'.drop off).take s).map I.view=((l.drop off).take s).map I.view:=fun s off=>by
    rw [uo,uE,af,←uE,←uo]
   simp only [this];exact h
  ·simp at h
 ·simp at h
theorem Bx {H a2:List au} (ai:dV H a2) {x:I} {r:Nat×List I} (h:appended H x=some r):appended a2 x=some r:=by
 unfold appended at h ⊢;split at h
 ·rename_i m row hm aj;rw [hm,Ap ai aj];exact h
 ·simp at h
theorem Bk {H a2:List au} (ai:dV H a2) {t dp:TypeId} {s x r:I} (h:e7 P H t dp s x=some r):e7 P a2 t dp s x=some r:=by
 unfold e7 at h ⊢;split at h
 ·split at h
  ·rename_i sz bytes z ad af aG;split at h
   ·rename_i ag;split at h
    ·rename_i m new cd;simp only [Bx ai cd];split at h
     ·rename_i ao;rw [if_pos ao];split at h
      ·exact h
      ·rename_i id off len cap oc;split at h
       ·rename_i hY;rw [if_pos hY];simp only [sf] at h;obtain ⟨fL,aq,h⟩:=h;simp only [Ap ai aq,r_];exact h
       ·simp at h
      ·simp at h
     ·simp at h
    ·simp at h
   ·exact h
  ·simp at h
 ·simp at h
theorem jt {C:b6} {lo mode:Nat} {o:Oper} {us:List I} {r:I} {H H':List au} (ao:dj o mode=1) (h:a8 P C lo o mode us H=some (r,H')) :
  H'=H∧∀ a2,dV H a2→a8 P C lo o mode us a2=some (r,a2):=by
 cases aD:o.op <;> simp only [dj,aD] at ao <;> simp only [a8,aD] at h ⊢
 case load =>
  have hm:mode=0:=by by_cases h:mode=0 <;> by_cases af:mode=2 <;> by_cases aG:mode=3 <;> by_cases bL:mode=5 <;> simp_all
  subst hm;unfold dQ at h;simp only [dQ];split at h
  ·simp only [rZ,Prod.mk.injEq] at h ⊢;obtain ⟨v,ae,rfl,rfl⟩:=h;exact ⟨rfl,fun a2 ai=>⟨v,Bq ai ae,rfl,trivial⟩⟩
  ·simp at h
 case call c =>
  split at ao
  ·rename_i b o_;simp only [o_] at h ⊢;split at ao
   ·(have hm:mode=0:=by by_cases h:mode=0 <;> simp_all);subst hm;simp only [ev,iW] at h ⊢;split at h
    ·split at h
     ·simp only [rZ,Prod.mk.injEq] at h ⊢;obtain ⟨v,ae,rfl,rfl⟩:=h;exact ⟨rfl,fun a2 ai=>⟨v,Bk ai ae,rfl,trivial⟩⟩
     ·simp at h
    ·simp at h
   ·simp only [ev,ha] at h ⊢;split at h
    ·split at h
     ·split at h <;> simp at h;obtain ⟨rfl,rfl⟩:=h;exact ⟨rfl,fun _ _=>by simp_all⟩
     ·split at h <;> simp at h;obtain ⟨rfl,rfl⟩:=h;exact ⟨rfl,fun _ _=>by simp_all⟩
     ·split at h
      ·rename_i ax aE;simp at h;obtain ⟨rfl,rfl⟩:=h;refine ⟨rfl,fun a2 ai=>?_⟩;rcases ai _ _ aE with h | ⟨l,l',h,_⟩ | ⟨_,_,_,_,h,_⟩
       ·simp [ax,h]
       ·cases h
       ·cases h
      ·simp at h
     ·split at h
      ·simp at h;obtain ⟨rfl,rfl⟩:=h;exact ⟨rfl,fun _ _=>by simp_all⟩
      ·simp at h
    ·simp at h
   ·simp only [ev,jU] at h ⊢;split at h
    ·split at h <;> simp at h;obtain ⟨rfl,rfl⟩:=h;exact ⟨rfl,fun _ _=>by simp_all⟩
    ·split at h <;> simp at h;obtain ⟨rfl,rfl⟩:=h;exact ⟨rfl,fun _ _=>by simp_all⟩
    ·simp at h
   ·simp only [ev,rZ,Prod.mk.injEq] at h ⊢;obtain ⟨v,ae,rfl,rfl⟩:=h;exact ⟨rfl,fun _ _=>⟨v,ae,rfl,trivial⟩⟩
   ·simp only [ev,rZ,Prod.mk.injEq] at h ⊢;obtain ⟨v,ae,rfl,rfl⟩:=h;exact ⟨rfl,fun _ _=>⟨v,ae,rfl,trivial⟩⟩
   ·simp at ao
  ·exfalso;by_cases aS:mode=0
   ·simp [aS] at ao
   ·by_cases aG:mode=3
    ·simp [aG] at ao
    ·by_cases a6:mode=4 <;> by_cases bV:mode=6 <;> simp [aS,aG,a6,bV] at ao
  ·simp at ao
 case move=>by_cases h:mode=0 <;> simp [h] at ao
 case assign=>by_cases h:mode=0 <;> simp [h] at ao
 case makeSlice=>by_cases h:mode=0 <;> simp [h] at ao
 case box=>by_cases h:mode=0 <;> simp [h] at ao
 all_goals simp at ao
theorem BK {C:b6} {lo mode:Nat} {o:Oper} {us:List I} {r:I} {H H':List au} (ao:dj o mode=3) (h:a8 P C lo o mode us H=some (r,H')):H'=H:=by
 have base:∀ {x:Option I},x.map (fun y=>(y,H))=some (r,H')→H'=H:=fun {x} h=>by
  simp only [rZ,Prod.mk.injEq] at h;obtain ⟨_,rfl,rfl,rfl⟩:=h;rfl
 cases aD:o.op <;> simp only [dj,aD] at ao <;> simp only [a8,aD] at h
 case load=>by_cases h:mode=0 <;> by_cases af:mode=2 <;> by_cases aG:mode=3 <;> by_cases bL:mode=5 <;> simp [h,af,aG,bL] at ao
 case call c =>
  split at ao
  ·split at ao
   ·by_cases hm:mode=0 <;> simp [hm] at ao
   all_goals simp at ao
  ·rename_i f hZ;simp only [hZ] at h;have hm:mode=0∨mode=4∨mode=6:=by
    by_cases aS:mode=0
    ·exact .inl aS
    ·by_cases aG:mode=3
     ·simp [aG] at ao
     ·by_cases a6:mode=4
      ·exact .inr (.inl a6)
      ·by_cases bV:mode=6
       ·exact .inr (.inr bV)
       ·simp [aS,aG,a6,bV] at ao
   have key:∀ {b0:e6} {args:List I},eV C lo mode b0 args H=some (r,H')→H'=H:=fun {b0 args} h=>by
    rcases hm with rfl | rfl | rfl
    ·simp only [eV,sf] at h;obtain ⟨x,_,h⟩:=h;exact base h
    ·simp only [eV,sf,rZ,Prod.mk.injEq] at h;obtain ⟨x,_,v,_,_,h⟩:=h;exact h.symm
    ·simp only [eV] at h;split at h
     ·simp only [sf] at h;obtain ⟨x,_,v,_,h⟩:=h;split at h
      ·simp only [Option.some.injEq,Prod.mk.injEq] at h;exact h.2.symm
      ·cases h
     ·cases h
   unfold hA at h;split at h
   ·unfold kh at h;split at h
    ·exact key h
    ·exact key h
    ·simp at h
   ·simp at h
  ·simp at ao
 case move=>by_cases h:mode=0 <;> simp [h] at ao
 case assign=>by_cases h:mode=0 <;> simp [h] at ao
 case makeSlice=>by_cases h:mode=0 <;> simp [h] at ao
 case box=>by_cases h:mode=0 <;> simp [h] at ao
 all_goals simp at ao
theorem FK {off:Nat} {l:List I} {u:I} (hu:l[off]?=some u):(l.set off u.view).map I.view=l.map I.view:=by
 rw [uN];have kF:u.view.view=u.view:=I.kc (I.dh u);rw [kF];apply tO;intro j;by_cases aw:off=j
 ·subst aw;rw [sg (by simpa using (sa.1 hu).1),su,hu];rfl
 ·rw [si aw]
theorem ET {H:List au} {id off g z:Nat} {l:List I} {u:I} (aE:H[id]?=some (.grow l g z)) (hu:l[off]?=some u):dV H (H.set id (.grow (l.set off u.view) g z))∧dV (H.set id (.grow (l.set off u.view) g z)) H:=by
 have ae:=FK hu;have aU:=(sa.1 aE).1;constructor
 ·intro i o h;by_cases hi:id=i
  ·subst hi;rw [aE] at h;cases h;exact .inr (.inr ⟨l,_,g,z,rfl,sg aU,ae⟩)
  ·exact .inl (by rw [si hi];exact h)
 ·intro i o h;by_cases hi:id=i
  ·subst hi;rw [sg aU] at h;cases h;exact .inr (.inr ⟨_,l,g,z,rfl,aE,ae.symm⟩)
  ·rw [si hi] at h;exact .inl h
theorem AJ {H:List au} {id off:Nat} {l:List I} {u:I} (aE:H[id]?=some (.cells l)) (hu:l[off]?=some u):dV H (H.set id (.cells (l.set off u.view)))∧dV (H.set id (.cells (l.set off u.view))) H:=by
 have ae:(l.set off u.view).map I.view=l.map I.view:=by
  rw [uN];have kF:u.view.view=u.view:=I.kc (I.dh u);rw [kF];apply tO;intro j;by_cases aw:off=j
  ·subst aw;rw [sg (by simpa using (sa.1 hu).1),su,hu];rfl
  ·rw [si aw]
 have aU:=(sa.1 aE).1;constructor
 ·intro i o h;by_cases hi:id=i
  ·subst hi;rw [aE] at h;cases h;exact .inr (.inl ⟨l,_,rfl,sg aU,ae⟩)
  ·exact .inl (by rw [si hi];exact h)
 ·intro i o h;by_cases hi:id=i
  ·subst hi;rw [sg aU] at h;cases h;exact .inr (.inl ⟨_,l,rfl,aE,ae.symm⟩)
  ·rw [si hi] at h;exact .inl h
theorem yc {C:b6} {lo mode:Nat} {o:Oper} {us:List I} {r:I} {H H':List au} (ao:dj o mode=5) (h:a8 P C lo o mode us H=some (r,H')):dV H H'∧dV H' H:=by
 have refl:dV H H:=fun id o h=>.inl h;cases aD:o.op <;> simp only [dj,aD] at ao <;> simp only [a8,aD] at h
 case load t a =>
  have hm:mode≠0:=by intro h;simp [h] at ao
  unfold dQ at h;split at h
  ·split at h
   ·exact absurd rfl hm
   ·simp at ao
   ·simp at ao
   ·split at h
    ·split at h
     ·split at h
      ·rename_i l aE;split at h
       ·rename_i c n z cW;cases h;exact AJ aE cW
       ·rename_i c n z cW;rw [if_neg (by intro af;simp [af] at ao)] at h;cases h;exact AJ aE cW
       ·cases h;exact ⟨refl,refl⟩
       ·simp at h
      ·rename_i l g z aE;split at h
       ·rename_i c n cU cW;cases h;exact ET aE cW
       ·cases h;exact ⟨refl,refl⟩
       ·cases h
      ·simp at h
     ·simp at h
    ·simp at h
  ·simp at h
 case call c =>
  split at ao
  ·split at ao
   ·by_cases hm:mode=0 <;> simp [hm] at ao
   all_goals simp at ao
  ·exfalso;by_cases aS:mode=0
   ·simp [aS] at ao
   ·by_cases aG:mode=3
    ·simp [aG] at ao
    ·by_cases a6:mode=4 <;> by_cases bV:mode=6 <;> simp [aS,aG,a6,bV] at ao
  ·simp at ao
 case move=>by_cases h:mode=0 <;> simp [h] at ao
 case assign=>by_cases h:mode=0 <;> simp [h] at ao
 case makeSlice=>by_cases h:mode=0 <;> simp [h] at ao
 case box=>by_cases h:mode=0 <;> simp [h] at ao
 all_goals simp at ao
theorem BL {C:b6} {lo mode:Nat} {o:Oper} {us:List I} {r:I} {H H':List au} (ao:dj o mode=6) (h:a8 P C lo o mode us H=some (r,H')):dV H H':=by
 cases aD:o.op <;> simp only [dj,aD] at ao <;> simp only [a8,aD] at h
 case load=>by_cases h:mode=0 <;> by_cases af:mode=2 <;> by_cases aG:mode=3 <;> by_cases bL:mode=5 <;> simp [h,af,aG,bL] at ao
 case box e x =>
  have hm:mode=0:=by by_cases h:mode=0 <;> simp_all
  subst hm;unfold gF at h;split at h
  ·simp only [rZ,Prod.mk.injEq] at h;obtain ⟨_,_,_,rfl⟩:=h;exact dV.append _ _
  ·simp at h
 case alloc t =>
  unfold kS at h;split at h
  ·simp only [rZ,Prod.mk.injEq] at h;obtain ⟨_,_,_,rfl⟩:=h;exact dV.append _ _
  ·split at h
   ·simp only [rZ,Prod.mk.injEq] at h;obtain ⟨_,_,_,rfl⟩:=h;exact dV.append _ _
   ·cases h
 case call c =>
  split at ao
  ·split at ao
   ·by_cases hm:mode=0 <;> simp [hm] at ao
   all_goals simp at ao
  ·exfalso;by_cases aS:mode=0
   ·simp [aS] at ao
   ·by_cases aG:mode=3
    ·simp [aG] at ao
    ·by_cases a6:mode=4 <;> by_cases bV:mode=6 <;> simp [aS,aG,a6,bV] at ao
  ·simp at ao
 case move=>by_cases h:mode=0 <;> simp [h] at ao
 case assign=>by_cases h:mode=0 <;> simp [h] at ao
 case makeSlice=>by_cases h:mode=0 <;> simp [h] at ao
 all_goals simp at ao
noncomputable def dv (P:Program) (C:b6) (lo:Nat) (ops:Array Oper) (o:Oper) (an:b5) (s:a5):Option a5 :=
 match ew ops o s.T with
 | some true=>Ab.execOp P C lo o an s
 | some false=>some ⟨put s.T o.dst (.tuple []),s.H⟩
 | none=>none
theorem A' {ops:Array Oper} {o:Oper} {T a7:List I} (h:∀ t∈oW ops o,(T[t]?).map I.settle=(a7[t]?).map I.settle):ew ops o T=ew ops o a7:=by
 unfold ew;split
 ·rfl
 ·rename_i j want aO;split
  ·rename_i d aZ;have hm:=h d (by simp [oW,aO,aZ]);have ai:(c5 T d).settle=(c5 a7 d).settle:=by
    rw [fV,fV,sG,sG];cases ad:T[d]? <;> cases af:a7[d]? <;> rw [ad,af] at hm <;> simp at hm <;> simp [hm]
   have key:∀ x:I,(match x with | .bool b=>some (b == want) | .tuple []=>some false | _=>none)=(match x.settle with | .bool b=>some (b == want) | .tuple []=>some false | _=>none):=fun x=>by
    (cases x <;> try rfl);rename_i c n k;cases k <;> rfl
   exact (key _).trans (Eq.trans (by rw [ai]) (key _).symm)
  ·rfl
theorem nW (T:List I) (d:Option Nat) (v:I) (j:Nat):(put T d v)[j]?=if d=some j then (T[j]?).map fun _=>v else T[j]?:=by
 cases d with
 | none=>simp [put]
 | some d=>simp only [put,k5,Option.some.injEq]
def gU (o:Oper) (an:b5) (w:Bool) (r:I) (j:Nat) (u:I):I :=
 if o.dst=some j then r else if w=false then u else if j∈cZ an.takes (opsOf o) then .junk else if j∈tmpsOf (opsOf o) then u.settle else u
theorem x' {o:Oper} {mode:Nat} (h:calm o mode=true) (T:List I) (v:I):inPlace o mode T v=T:=by
 unfold inPlace;split
 ·rfl
 ·rfl
 ·rename_i hm _;split
  ·rename_i aD;simp [calm,aD] at h;exact absurd h hm
  ·rename_i aD;simp [calm,aD] at h;exact absurd h hm
  ·rfl
theorem A3 {C:b6} {lo:Nat} {ops:Array Oper} {o:Oper} {an:b5} {s aF:a5} (o8:calm o an.mode=true) (h:dv P C lo ops o an s=some aF) :
  ∃ w r,ew ops o s.T=some w∧(∀ j,aF.T[j]?=(s.T[j]?).map (gU o an w r j)) ∧
    (w=true→a8 P C lo o an.mode (fr (dP o) (rd s.T an.takes (opsOf o)).1) s.H=some (r,aF.H))∧(w=false→r=.tuple []∧aF.H=s.H):=by
 unfold dv at h;split at h
 ·rename_i hw;obtain ⟨r,H',aD,rfl⟩:=oO h;refine ⟨true,r,hw,fun j=>?_,fun _=>aD,by simp⟩;rw [x' o8];simp only [nW,j0];cases s.T[j]? with
  | none=>split <;> rfl
  | some u=>by_cases aZ:o.dst=some j <;> simp [gU,aZ]
 ·rename_i hw;simp only [Option.some.injEq] at h;subst h;refine ⟨false,.tuple [],hw,fun j=>?_,by simp,fun _=>⟨rfl,rfl⟩⟩;simp only [nW];cases s.T[j]? with
  | none=>split <;> rfl
  | some u=>by_cases aZ:o.dst=some j <;> simp [gU,aZ]
 ·simp at h
theorem A1 {C:b6} {lo:Nat} {ops:Array Oper} {o:Oper} {an:b5} {s:a5} (o8:calm o an.mode=true) {w:Bool} {r:I} {H':List au} (hw:ew ops o s.T=some w)
  (ad:w=true→a8 P C lo o an.mode (fr (dP o) (rd s.T an.takes (opsOf o)).1) s.H=some (r,H')) (af:w=false→r=.tuple []∧H'=s.H) :
  ∃ a7,dv P C lo ops o an s=some ⟨a7,H'⟩∧∀ j,a7[j]?=(s.T[j]?).map (gU o an w r j):=by
 cases w with
 | true =>
   refine ⟨put (inPlace o an.mode (rd s.T an.takes (opsOf o)).2 r) o.dst r,?_,fun j=>?_⟩
   ·have ad:=ad rfl;simp only [dv,hw,Ab.execOp];unfold fr at ad;cases ak:dP o <;> rw [ak] at ad <;> simp only at ad ⊢ <;> rw [ad] <;> rfl
   ·rw [x' o8];simp only [nW,j0];cases s.T[j]? with
    | none=>split <;> rfl
    | some u=>by_cases aZ:o.dst=some j <;> simp [gU,aZ]
 | false =>
   obtain ⟨rfl,rfl⟩:=af rfl;refine ⟨put s.T o.dst (.tuple []),by simp only [dv,hw],fun j=>?_⟩;simp only [nW];cases s.T[j]? with
   | none=>split <;> rfl
   | some u=>by_cases aZ:o.dst=some j <;> simp [gU,aZ]
theorem Dn {t:TypeId} {H:List au} {id c dX:Nat} {es es':List (Nat×I×I)} (aE:H[id]?=some (.map es c)) (a:I):dT P (H.set id (.map es' dX)) t a=dT P H t a:=by
 have ak:=(sa.1 aE).1;unfold dT;cases a with
 | ptr i off =>
   simp only;by_cases h:id=i
   ·subst h;rw [sg ak,aE]
   ·rw [si h]
 | _=>rfl
theorem Dp {C:b6} {lo:Nat} {bA bQ:Oper} {df:Nat} {us vs:List I} {r1 r2:I} {H a2:List au} (h:kM bA 0 bQ=true) (ad:a8 P C lo bA 0 us H=some (r1,H)) (af:a8 P C lo bQ df vs H=some (r2,a2)) :
  a8 P C lo bA 0 us a2=some (r1,a2):=by
 unfold kM at h;split at h
 ·rename_i t x jc m k v iO d';simp only [a8,iO] at ad ⊢;simp only [a8,d'] at af;unfold dQ at ad ⊢;split at ad
  ·rename_i a;simp only [rZ,Prod.mk.injEq] at ad;obtain ⟨r,ad,rfl,-⟩:=ad;have key:∃ id c es dX es',H[id]?=some (.map es c)∧a2=H.set id (.map es' dX):=by
    unfold iY at af;split at af
    ·split at af
     ·split at af
      ·split at af
       ·split at af
        ·rename_i aE;split at af
         ·cases af;exact ⟨_,_,_,_,_,aE,rfl⟩
         ·cases af;exact ⟨_,_,_,_,_,aE,rfl⟩
         ·simp at af
        ·simp at af
       ·simp at af
      ·simp at af
     ·simp at af
    ·simp at af
   obtain ⟨id,c,es,dX,es',aE,rfl⟩:=key;simp only;rw [Dn aE,ad];rfl
  ·simp at ad
 ·simp at h
theorem AZ {C:b6} {lo:Nat} {ops:Array Oper} {bA bQ:Oper} {aB aH:b5} (hi:indep ops bA aB bQ aH=true) {s s1 s2:a5} (ad:dv P C lo ops bA aB s=some s1) (af:dv P C lo ops bQ aH s1=some s2) :
  ∃ dg,dv P C lo ops bQ aH s=some dg∧dv P C lo ops bA aB dg=some s2:=by
 simp only [indep,sx] at hi;obtain ⟨⟨⟨⟨⟨⟨⟨d1,d2⟩,d3⟩,d4⟩,d5⟩,a'⟩,bk⟩,bI⟩:=hi;have e1:∀ t,bA.dst=some t→t ∉ e3 ops bQ:=fun t ax=>lD d1 t (by simp [ax]);have ck:∀ t,bQ.dst=some t→t ∉ e3 ops bA:=fun t ax=>lD d2 t (by simp [ax]);have dG:∀ t,bA.dst=some t→bQ.dst≠some t:=fun t ax h=>lD d3 t (by simp [ax]) (by simp [h]);have oJ:=lD d4;have oK:=lD d5;have hI:∀ (xs:List Operand) (ts:List Bool) (t:Nat),t∈cZ ts xs→t∈tmpsOf xs:=by
  intro xs
  induction xs with
  | nil=>intro ts t h;simp [cZ] at h
  | cons x rest a_ =>
    intro ts t h;cases x with
    | tmp u =>
      (have ax:tmpsOf (.tmp u::rest)=u::tmpsOf rest:=by simp [tmpsOf]);rw [ax];simp only [cZ] at h;split at h
      ·rcases sk.1 h with rfl | h
       ·simp
       ·exact tX _ (a_ _ t h)
      ·exact tX _ (a_ _ t h)
    | const v=>simpa [tmpsOf] using a_ _ t (by simpa [cZ] using h)
    | func f=>simpa [tmpsOf] using a_ _ t (by simpa [cZ] using h)
    | global g=>simpa [tmpsOf] using a_ _ t (by simpa [cZ] using h)
 obtain ⟨bC,r1,cb,t1,ft,v1⟩:=A3 a' ad;obtain ⟨bT,r2,b8,t2,gi,v2⟩:=A3 bk af;have cD:∀ (o:Oper) (a:b5) (w:Bool) (r:I) (t:Nat),o.dst≠some t→t ∉ cZ a.takes (opsOf o)→∀ u,(gU o a w r t u).settle=u.settle:=fun o a w r t aZ ax u=>by
  unfold gU;rw [if_neg aZ];split
  ·rfl
  ·by_cases h:t∈tmpsOf (opsOf o) <;> simp only [h,if_true,if_false];exact xK u
 have stay:∀ (o:Oper) (a:b5) (w:Bool) (r:I) (t:Nat),o.dst≠some t→t ∉ tmpsOf (opsOf o)→∀ u,gU o a w r t u=u:=fun o a w r t aZ ax u=>by
  unfold gU;rw [if_neg aZ];split
  ·rfl
  ·have C':t ∉ cZ a.takes (opsOf o):=fun h=>ax (hI _ _ t h);simp only [C',if_false]
 have de:∀ t∈e3 ops bQ,(s1.T[t]?).map I.settle=(s.T[t]?).map I.settle:=fun t ax=>by
  rw [t1];cases s.T[t]? with
  | none=>rfl
  | some u=>simp only [sd];rw [cD bA aB bC r1 t (fun h=>e1 t h ax) (fun h=>oJ t h ax)]
 have aJ:∀ t∈cZ aH.takes (opsOf bQ),s1.T[t]?=s.T[t]?:=fun t ax=>by
  rw [t1];have aN:bA.dst≠some t:=fun h=>e1 t h (by simp [e3,hI _ _ t ax]);have pw:t ∉ tmpsOf (opsOf bA):=fun h=>oK t ax (by simp [e3,h]);cases s.T[t]? with
  | none=>rfl
  | some u=>simp only [sd];rw [stay bA aB bC r1 t aN pw]
 have B3:ew ops bQ s.T=some bT:=by rw [←b8];exact (A' fun t ax=>de t (by simp [e3,ax])).symm
 have dC:(rd s1.T aH.takes (opsOf bQ)).1=(rd s.T aH.takes (opsOf bQ)).1:=jZ _ _ _ _ (fun t ax=>de t (by simp [e3,ax])) aJ;have zX:∀ {o:Oper} {a:b5} {us:List I} {r:I} {H H':List au},dj o a.mode=1∨dj o a.mode=3→a8 P C lo o a.mode us H=some (r,H')→H'=H:=fun ao aD=>by
  rcases ao with ao | ao
  ·exact (jt ao aD).1
  ·exact BK ao aD
 have av:dj bA aB.mode=0∨dj bQ aH.mode=0∨((dj bA aB.mode=1∨dj bA aB.mode=3)∧(dj bQ aH.mode=1∨dj bQ aH.mode=3)) ∨
   (dj bA aB.mode=1∧dj bQ aH.mode=5)∨(dj bA aB.mode=5∧dj bQ aH.mode=1)∨(dj bA aB.mode=1∧dj bQ aH.mode=6)∨(aB.mode=0∧kM bA 0 bQ=true):=by
  rw [tH] at bI;rcases bI with bI | bI
  rotate_left
  ·refine .inr (.inr (.inr (.inr (.inr (.inr ?_)))));have aS:aB.mode=0:=by
    unfold kM at bI;split at bI
    ·simpa using bI
    ·simp at bI
   rw [aS] at bI;exact ⟨aS,bI⟩
  simp only [bO,tH,sx,beq_iff_eq] at bI;rcases bI with ((((h | h) | h) | h) | h) | h
  ·exact .inl h
  ·exact .inr (.inl h)
  ·exact .inr (.inr (.inl h))
  ·exact .inr (.inr (.inr (.inl h)))
  ·exact .inr (.inr (.inr (.inr (.inl h))))
  ·exact .inr (.inr (.inr (.inr (.inr (.inl h)))))
 have mem:∃ hQ,(bT=true→a8 P C lo bQ aH.mode (fr (dP bQ) (rd s.T aH.takes (opsOf bQ)).1) s.H=some (r2,hQ))∧(bT=false→r2=.tuple []∧hQ=s.H) ∧
   (bC=true→∀ vs,a8 P C lo bA aB.mode vs s.H=some (r1,s1.H)→a8 P C lo bA aB.mode vs hQ=some (r1,s2.H))∧(bC=false→s2.H=hQ):=by
  cases bT with
  | false =>
    obtain ⟨q1,aW⟩:=v2 rfl;refine ⟨s.H,by simp,fun _=>⟨q1,rfl⟩,fun _ vs h=>by rw [aW];exact h,fun hw=>by rw [aW];exact (v1 hw).2⟩
  | true =>
    have d':=gi rfl;rw [dC] at d';cases bC with
    | false =>
      have q:=(v1 rfl).2;rw [q] at d';exact ⟨s2.H,fun _=>d',by simp,by simp,fun _=>rfl⟩
    | true =>
      have iO:=ft rfl;rcases av with h | h | ⟨h,aX⟩ | ⟨h,aX⟩ | ⟨h,aX⟩ | ⟨h,aX⟩ | ⟨h,aX⟩
      ·have q:=(m5 h iO).1;rw [q] at d';exact ⟨s2.H,fun _=>d',by simp,fun _ vs bI=>(m5 h bI).2 s2.H,by simp⟩
      ·have q:=(m5 h d').1;refine ⟨s.H,fun _=>(m5 h d').2 s.H,by simp,fun _ vs bI=>by rw [q];exact bI,by simp⟩
      ·have q1:=zX h iO;have aW:=zX aX d';rw [aW,q1] at d';exact ⟨s.H,fun _=>d',by simp,fun _ vs bI=>by rw [aW];exact bI,by simp⟩
      ·have q1:=(jt h iO).1;rw [q1] at d';exact ⟨s2.H,fun _=>d',by simp,fun _ vs bI=>(jt h bI).2 s2.H (yc aX d').1,by simp⟩
      ·obtain ⟨aW,cz⟩:=jt aX d';exact ⟨s.H,fun _=>cz s.H (yc h iO).2,by simp,fun _ vs bI=>by rw [aW];exact bI,by simp⟩
      ·have q1:=(jt h iO).1;rw [q1] at d';exact ⟨s2.H,fun _=>d',by simp,fun _ vs bI=>(jt h bI).2 s2.H (BL aX d'),by simp⟩
      ·have q1:s1.H=s.H:=by
        have ao:dj bA aB.mode=1:=by
         unfold kM at aX;split at aX
         ·rename_i aD _;simp only [dj,aD,h];rfl
         ·simp at aX
        exact (jt ao iO).1
       rw [q1] at d';refine ⟨s2.H,fun _=>d',by simp,fun _ vs bI=>?_,by simp⟩;rw [q1] at bI;rw [h] at bI ⊢;exact Dp aX bI d'
 obtain ⟨hQ,bo,cI,eB,js⟩:=mem;obtain ⟨dE,C5,o3⟩:=A1 (C:=C) (lo:=lo) (s:=s) bk B3 bo cI;have df:∀ t∈e3 ops bA,(dE[t]?).map I.settle=(s.T[t]?).map I.settle:=fun t ax=>by
  rw [o3];cases s.T[t]? with
  | none=>rfl
  | some u=>simp only [sd];rw [cD bQ aH bT r2 t (fun h=>ck t h ax) (fun h=>oK t h ax)]
 have aP:∀ t∈cZ aB.takes (opsOf bA),dE[t]?=s.T[t]?:=fun t ax=>by
  rw [o3];have aN:bQ.dst≠some t:=fun h=>ck t h (by simp [e3,hI _ _ t ax]);have pw:t ∉ tmpsOf (opsOf bQ):=fun h=>oJ t ax (by simp [e3,h]);cases s.T[t]? with
  | none=>rfl
  | some u=>simp only [sd];rw [stay bQ aH bT r2 t aN pw]
 have B2:ew ops bA dE=some bC:=by rw [←cb];exact A' fun t ax=>df t (by simp [e3,ax])
 have ea:(rd dE aB.takes (opsOf bA)).1=(rd s.T aB.takes (opsOf bA)).1:=jZ _ _ _ _ (fun t ax=>df t (by simp [e3,ax])) aP
 obtain ⟨Bj,C6,B9⟩:=A1 (C:=C) (lo:=lo) (s:=⟨dE,hQ⟩) (r:=r1) (H':=s2.H) a' B2 (fun hw=>by
  simp only;rw [ea];exact eB hw _ (ft hw)) (fun hw=>⟨(v1 hw).1,js hw⟩)
 refine ⟨⟨dE,hQ⟩,C5,?_⟩;rw [C6];congr 1
 have:Bj=s2.T:=by
  apply tO;intro j;rw [B9,t2];simp only [o3,t1];cases s.T[j]? with
  | none=>rfl
  | some u =>
    simp only [sd,Option.some.injEq];unfold gU;have FT:=dG j;have lb:=e1 j;have ld:=ck j;have Be:=oJ j;have Bf:=oK j;have xY:=hI (opsOf bA) aB.takes j;have om:=hI (opsOf bQ) aH.takes j;simp only [e3,List.mem_append,not_or] at lb ld Be Bf;by_cases bR:bA.dst=some j
    ·have q:=(lb bR).2;have fO:j ∉ cZ aH.takes (opsOf bQ):=fun h=>q (om h);simp only [bR,if_true,FT bR,if_false,q,fO];split <;> rfl
    ·by_cases b4:bQ.dst=some j
     ·have q:=(ld b4).2;have fO:j ∉ cZ aB.takes (opsOf bA):=fun h=>q (xY h);simp only [bR,b4,if_true,if_false,q,fO];split <;> rfl
     ·simp only [bR,b4,if_false];by_cases od:j∈cZ aB.takes (opsOf bA)
      ·have q:=(Be od).2;have fO:j ∉ cZ aH.takes (opsOf bQ):=fun h=>q (om h);simp only [od,q,fO,if_true,if_false];split <;> split <;> rfl
      ·by_cases xQ:j∈cZ aH.takes (opsOf bQ)
       ·have q:=(Bf xQ).2;simp only [od,xQ,q,if_true,if_false];split <;> split <;> rfl
       ·simp only [od,xQ,if_false];by_cases EL:j∈tmpsOf (opsOf bA) <;> by_cases EM:j∈tmpsOf (opsOf bQ) <;> simp only [EL,EM,if_true,if_false] <;> split <;> split <;> first | rfl | rw [xK]
 rw [this]
end
end Go.Proofs.YtfakoboiahbhaaaGreat.Ab


namespace Go.Proofs.YtfakoboiahbhaaaGreat.Ab
open Go
section
variable {P:Program}
theorem mw (ms:List Nat) (j:Nat):∀ (l:List Edge) (nK:Nat),(l.foldl (fun m e=>if Region.binds .any e then m ||| (ms.getD e.on 0 ||| 1 <<< e.on) else m) nK).testBit j=true →
  nK.testBit j=true∨∃ e∈l,Region.binds .any e=true∧((ms.getD e.on 0).testBit j=true∨j=e.on)
 | [],nK,h=>.inl h
 | e::l,nK,h=>by
   simp only [List.foldl_cons] at h;rcases mw ms j l _ h with ad | ⟨cM,jD,ag,ad⟩
   ·by_cases ag:Region.binds .any e=true
    ·simp only [ag,if_true,Nat.testBit_or,tH] at ad;rcases ad with ad | ad | ad
     ·exact .inl ad
     ·exact .inr ⟨e,by simp,ag,.inl ad⟩
     ·refine .inr ⟨e,by simp,ag,.inr ?_⟩;rw [Nat.one_shiftLeft,Nat.testBit_two_pow] at ad;simpa using (of_decide_eq_true ad).symm
    ·simp only [ag] at ad;exact .inl ad
   ·exact .inr ⟨cM,by simp [jD],ag,ad⟩
def lC (ops:Array Oper) (listed:Array Bool):Prop :=
 ∀ k o,ops[k]?=some o→listed.getD k true=true→∀ e∈o.after,Region.binds .any e=true→listed.getD e.on false=true
noncomputable def cw (P:Program) (C:b6) (lo:Nat) (ops:Array Oper) (as:List b5):List Nat→a5→Option a5
 | [],s=>some s
 | i::r,s=>match ops[i]? with
   | none=>cw P C lo ops as r s
   | some o=>(dv P C lo ops o (as.getD i {}) s).bind (cw P C lo ops as r)
theorem yk {C:b6} {lo:Nat} {ops:Array Oper} {as:List b5}:∀ (l:List Oper) (k:Nat) (s:a5),(∀ j,l[j]?=ops[k+j]?)→eJ P C lo ops l (as.drop k) s=cw P C lo ops as (List.range' k l.length) s
 | [],k,s,_=>by simp [eJ,cw]
 | o::l,k,s,h=>by
   (have aS:ops[k]?=some o:=by simpa using (h 0).symm);have a_:=fun s=>yk (C:=C) (lo:=lo) (as:=as) l (k+1) s (fun j=>by have:=h (j+1);simpa [Nat.add_assoc,Nat.add_comm 1 j] using this);(have aZ:(as.drop k).headD {}=as.getD k {}:=by rw [List.headD_eq_head?_getD,List.head?_drop,sG]);(have ax:(as.drop k).tail=as.drop (k+1):=by rw [List.tail_drop]);simp only [eJ,sH,List.range'_succ,cw,aS,aZ,ax];unfold dv;split
   ·rename_i hw;simp only [hw];congr 1;funext aF;exact a_ aF
   ·rename_i hw;simp only [hw];exact a_ _
   ·rename_i hw;simp only [hw];rfl
def eG (n:Nat) (listed:Array Bool):List Nat:=(List.range n).filter fun i=>!listed.getD i true
theorem z4 {n i:Nat} {listed:Array Bool}:eG n (listed.setIfInBounds i true)=(eG n listed).erase i:=by
 have jI:(eG n listed).Nodup:=List.nodup_range.filter _;rw [jI.erase_eq_filter];simp only [eG,List.filter_filter];congr 1;funext j;by_cases gY:j=i
 ·subst gY;rcases sU j listed.size with h | h
  ·simp [sy,h]
  ·simp [sy,h]
 ·have:(listed.setIfInBounds i true).getD j true=listed.getD j true:=by
   simp only [sy];rw [Array.getElem?_setIfInBounds_ne (Ne.symm gY)]
  rw [this];simp [gY]
theorem xG {C:b6} {lo:Nat} {ops:Array Oper} {as:List b5} {i:Nat} {cO:Oper} (hi:ops[i]?=some cO) {aF:a5}:∀ (l:List Nat) (s:a5),l.Pairwise (·<·)→i∈l →
  (∀ j∈l,j<i→∀ c2,ops[j]?=some c2→indep ops c2 (as.getD j {}) cO (as.getD i {})=true)→cw P C lo ops as l s=some aF →
  ∃ s1,dv P C lo ops cO (as.getD i {}) s=some s1∧cw P C lo ops as (l.erase i) s1=some aF
 | [],s,_,h,_,_=>by simp at h
 | j::r,s,aC,hm,jF,h=>by
   by_cases g0:j=i
   ·subst g0;simp only [cw,hi,sf] at h;obtain ⟨s1,ad,af⟩:=h;exact ⟨s1,ad,by simpa using af⟩
   ·have aj:i∈r:=by
     rcases sk.1 hm with h | h
     ·exact absurd h.symm g0
     ·exact h
    have aU:j<i:=(tg.1 aC).1 i aj;have he:(j::r).erase i=j::r.erase i:=by
     rw [List.erase_cons];simp [g0]
    rw [he];simp only [cw] at h ⊢;cases aw:ops[j]? with
    | none =>
      simp only [aw] at h;exact xG hi r s (tg.1 aC).2 aj (fun k av=>jF k (by simp [av])) h
    | some c2 =>
      simp only [aw,sf] at h;obtain ⟨s1,ad,af⟩:=h;obtain ⟨s2,aJ,aP⟩:=xG hi r s1 (tg.1 aC).2 aj (fun k av=>jF k (by simp [av])) af;obtain ⟨dg,q1,aW⟩:=AZ (jF j (by simp) aU c2 aw) ad aJ;exact ⟨dg,q1,by dsimp only;rw [aW];exact aP⟩
variable {B N:Nat} {J:List Nat} {w:World} {U:Nat→Option aI} {S:Nat→Nat→Prop}
theorem A2 {F:Fence} (bB:ek F) {C:b6} (bt:c' P C) {lo:Nat} {ops:Array Oper} {Q:Exit→Act→World→Prop} {i:Nat} {o:Oper} (hi:ops[i]?=some o) {an:b5} {s aF:a5}
  (h:dv P C lo ops o an s=some aF) {a:Act} (aK:ct B N U J S w s a) {K:Act→World→Prop} (fE:∀ aM w',Step B N U J S w aF aM w'→K aM w'):wpOpIn F 0 P ops Q i K a w:=by
 unfold wpOpIn;simp only [hi];unfold dv at h;split at h
 ·rename_i hw;rw [k9 aK hw];simp only [if_true];exact xN bB bt h aK fE
 ·rename_i hw;rw [k9 aK hw];simp only [tM,if_false];simp only [Option.some.injEq] at h;subst h;exact ⟨fun f _=>bB.fn f,fE _ _ (Step.here (aK.skip o.dst))⟩
 ·simp at h
theorem Bs {F:Fence} (bB:ek F) {C:b6} (bt:c' P C) {lo:Nat} {ops:Array Oper} {as:List b5} (aZ:m7 ops as=true) {Q:Exit→Act→World→Prop} {aF:a5} :
  ∀ (fuel:Nat) (listed:Array Bool) (s:a5) (a:Act) (w:World) (U:Nat→Option aI) (J:List Nat) (S:Nat→Nat→Prop),(eG ops.size listed).length≤fuel→lC ops listed →
    cw P C lo ops as (eG ops.size listed) s=some aF→ct B N U J S w s a→(∀ aM w',Step B N U J S w aF aM w'→Q .normal aM w')→wpAnyIn F 0 P .any ops Q fuel listed a w:=by
 have c_:∀ j c2,ops[j]?=some c2→((g7 ops.toList []).getD j 0=mv (g7 ops.toList []) c2)∧(∀ e∈c2.after,Region.binds .any e=true→e.on<j) ∧
   ∀ i cO,i<j→ops[i]?=some cO→((g7 ops.toList []).getD j 0).testBit i=true∨indep ops cO (as.getD i {}) c2 (as.getD j {})=true:=fun j c2 aw=>by
  have aU:j<ops.size:=(sW.1 aw).1;simp only [m7,zF,sC,sJ] at aZ;have h:=aZ j aU;rw [aw] at h;simp only [sx,beq_iff_eq,sC,sJ] at h;obtain ⟨⟨ad,af⟩,aG⟩:=h;refine ⟨ad,fun e he ag=>?_,fun i cO gY hi=>?_⟩
  ·have:=af e (by simpa using he);simp only [ag,Bool.not_true,Bool.false_or] at this;simpa [Nat.blt_eq] using this
  ·have:=aG i gY;rw [hi] at this;simpa using this
 have xp:∀ (listed:Array Bool),lC ops listed→∀ (n k:Nat) ok,k≤n→ops[k]?=some ok→(∀ e∈ok.after,Region.binds .any e=true→listed.getD e.on false=true) →
   ∀ j,((g7 ops.toList []).getD k 0).testBit j=true→listed.getD j false=true:=by
  intro listed cC n
  induction n with
  | zero =>
    intro k ok av aq eL j aw;rw [(c_ k ok aq).1] at aw;rcases mw _ j _ _ aw with h | ⟨e,he,ag,h⟩
    ·simp at h
    ·have:=(c_ k ok aq).2.1 e (by simpa using he) ag;omega
  | succ n a_ =>
    intro k ok av aq eL j aw;rw [(c_ k ok aq).1] at aw;rcases mw _ j _ _ aw with h | ⟨e,he,ag,h⟩
    ·simp at h
    ·(have jD:e∈ok.after:=by simpa using he);have aU:=(c_ k ok aq).2.1 e jD ag;have h3:=eL e jD ag;rcases h with h | rfl
     ·have ku:=(sW.1 aq).1;have l3:ops[e.on]?=some ops[e.on]:=sD (by omega);have pD:listed.getD e.on true=true:=by
       rcases sU e.on listed.size with aX | aX
       ·simp [sy,aX] at h3 ⊢;exact h3
       ·simp [sy,aX] at h3
      exact a_ e.on _ (by omega) l3 (cC e.on _ l3 pD) j h
     ·exact h3
 intro fuel
 induction fuel with
 | zero =>
   intro listed s a w U J S pf cC dN aK bl;have h2:eG ops.size listed=[]:=s_.1 (by omega);rw [h2] at dN;simp only [cw,Option.some.injEq] at dN;subst dN;refine ⟨?_,bl a w (Step.here aK)⟩;rw [uO];intro i hi;obtain ⟨ad,o,aq,_⟩:=mem_ready.1 hi
   have:i∈eG ops.size listed:=by
    simp only [eG,sM,sJ];exact ⟨(sW.1 aq).1,by simp [ad]⟩
   rw [h2] at this;simp at this
 | succ fuel a_ =>
   intro listed s a w U J S pf cC dN aK bl;refine ⟨fun aj=>?_,fun i hi=>?_⟩
   ·
    have h2:eG ops.size listed=[]:=by
     rw [uO];intro i
     induction i using Nat.strongRecOn with
     | _ i pQ =>
       intro hi;simp only [eG,sM,sJ] at hi;obtain ⟨aU,dt⟩:=hi;have aq:ops[i]?=some ops[i]:=sD aU
       have:i∈Region.ready .any ops listed:=mem_ready.2 ⟨by simpa using dt,_,aq,fun e he ag=>by
        have h1:=(c_ i _ aq).2.1 e he ag;have kz:=pQ e.on h1;simp only [eG,sM,sJ,not_and] at kz;have ak:=kz (by omega);rcases sU e.on listed.size with aX | aX
        ·simp [sy,aX] at ak ⊢;exact ak
        ·rcases sU i listed.size with lJ | lJ
         ·omega
         ·simp [sy,lJ] at dt⟩
       rw [aj] at this;simp at this
    rw [h2] at dN;simp only [cw,Option.some.injEq] at dN;subst dN;exact bl a w (Step.here aK)
   ·obtain ⟨ad,cO,eg,eL⟩:=mem_ready.1 hi;have aU:=(sW.1 eg).1;have kx:i∈eG ops.size listed:=by
     simp only [eG,sM,sJ];exact ⟨aU,by simp [ad]⟩
    have C9:(eG ops.size listed).Pairwise (·<·):=List.pairwise_lt_range.filter _
    obtain ⟨s1,q1,aW⟩:=xG eg (eG ops.size listed) s C9 kx (fun j aw g0 c2 pC=>by
     rcases (c_ i cO eg).2.2 j c2 g0 pC with h | h
     ·have:=xp listed cC i i cO (sb _) eg eL j h;simp only [eG,sM,sJ] at aw;have dt:=aw.2;rcases sU j listed.size with aX | aX
      ·simp [sy,aX] at dt this;rw [this] at dt;simp at dt
      ·simp [sy,aX] at dt
     ·exact h) dN
    refine A2 bB bt eg q1 aK fun aM w' ai=>?_;obtain ⟨b2,cQ,a4,aJ,aP,b'⟩:=ai;refine a_ (listed.setIfInBounds i true) s1 aM w' b2 cQ a4 ?_ ?_ (by rw [z4];exact aW) b' fun gP hk dO=>bl gP hk (dO.trans aJ aP)
    ·rw [z4,List.length_erase_of_mem kx];omega
    ·intro k ok av ak e he ag;by_cases l0:k=i
     ·subst l0;rw [eg] at av;cases av;exact getD_set_true (eL e he ag)
     ·have:listed.getD k true=true:=by rw [getD_set_ne true (Ne.symm l0)] at ak;exact ak
      exact getD_set_true (cC k ok av this e he ag)
theorem z0 {F:Fence} (bB:ek F) (hm:P.follows .mixedOrders=true) {C:b6} (bt:c' P C) {lo id:Nat} {ops:Array Oper} {draw:Bool} {as:List b5} (aZ:draw=true→m7 ops as=true) {Q:Exit→Act→World→Prop} {s aF:a5} {a:Act}
  (h:eJ P C lo ops ops.toList as s=some aF) (aK:ct B N U J S w s a) (bl:∀ aM w',Step B N U J S w aF aM w'→Q .normal aM w'):(Code.region id ops draw).wpIn F 0 P Q a w:=by
 cases draw with
 | false=>exact wpIn_region_list (xa bB bt ops.toList as s a w U J S h aK bl)
 | true =>
   refine wpIn_region_any hm ?_;have hw:aL B U J S w.drew s.H:=l7 aK.H;have aA:=ki U S w;have fW:ct B N U J S w.drew s a:=⟨⟨aK.T.len,fun i u v hu ae=>(aK.T.rel i u v hu ae).mono (Ext.refl J) aA.set,fun i u v hu ae=>(aK.T.own i u v hu ae).mono (Ext.refl J) aA.set fun b ag=>⟨ag,rfl,fun _ h=>h⟩⟩,hw,aK.M.aA aA⟩;have aj:=yk (P:=P) (C:=C) (lo:=lo) (as:=as) (ops:=ops) ops.toList 0 s (by simp);rw [sO,h] at aj;have kB:eG ops.size (Array.replicate ops.size false)=List.range ops.size:=by
    simp only [eG];rw [List.filter_eq_self];intro i hi;have hi:=sJ.1 hi;simp [sy,hi]
   refine Bs bB bt (aZ rfl) ops.size (Array.replicate ops.size false) s a w.drew U J S (by rw [kB];simp) ?_ (by rw [kB,List.range_eq_range',←tE];exact aj.symm) fW fun aM w' ai=>bl aM w' (ai.trans (Ext.refl J) aA);intro k o aq ak;have aU:=(sW.1 aq).1;simp [sy,aU] at ak
end
end Go.Proofs.YtfakoboiahbhaaaGreat.Ab


namespace Go.Proofs.YtfakoboiahbhaaaGreat.Ab
open Go
section
variable {P:Program} {C:b6}
theorem BS (bt:c' P C) {lo:Nat} {o:Oper} {an:b5} {s aF:a5} (h:Ab.execOp P C lo o an s=some aF):ba lo s.H aF.H:=by
 obtain ⟨r,H',aD,rfl⟩:=oO h;exact D1 bt aD
theorem oP (bt:c' P C) {lo:Nat} {ops:Array Oper}:∀ (l:List Oper) (as:List b5) (s aF:a5),eJ P C lo ops l as s=some aF→ba lo s.H aF.H
 | [],as,s,aF,h=>by simp only [eJ,Option.some.injEq] at h;subst h;exact ba.refl _ _
 | o::l,as,s,aF,h=>by
   simp only [eJ] at h;split at h
   ·simp only [sf] at h;obtain ⟨s1,ad,af⟩:=h;exact (BS bt ad).trans (oP bt l _ _ _ af)
   ·have:=oP bt l _ _ _ h;exact this
   ·simp at h
theorem y9 (mm:List (Nat×List Bool)) (id:Nat) (s:a5):(eY mm id s).H=s.H:=by
 unfold eY;split <;> rfl
theorem zf {lo:Nat} {f:a5→Option (cB×a5)} (aQ:∀ s e aF,f s=some (e,aF)→ba lo s.H aF.H):∀ (n:Nat) (s:a5) (e:cB) (aF:a5),h' f n s=some (e,aF)→ba lo s.H aF.H
 | 0,s,e,aF,h=>by simp [h'] at h
 | n+1,s,e,aF,h=>by
   simp only [h'] at h;split at h
   ·rename_i s1 ad;exact (aQ _ _ _ ad).trans (zf aQ n _ _ _ h)
   ·exact aQ _ _ _ h
theorem oQ (bt:c' P C) {A:c8} {fn:FuncId} {lo d:Nat} {rl:Option Nat}:∀ (c:Code) (aY:Nat) (s:a5) (e:cB) (aF:a5),exec P A C fn lo d rl c aY s=some (e,aF)→ba lo s.H aF.H:=by
 intro c
 induction c with
 | skip=>intro aY s e aF h;simp only [exec,Option.some.injEq,Prod.mk.injEq] at h;obtain ⟨_,rfl⟩:=h;exact ba.refl _ _
 | region id ops draw =>
   intro aY s e aF h;simp only [exec] at h;split at h
   ·cases h
   simp only [rZ,Prod.mk.injEq] at h;obtain ⟨s1,h,_,rfl⟩:=h;have:=oP bt _ _ _ _ h
   rwa [y9] at this
 | seq a b fb fq =>
   intro aY s e aF h;simp only [exec] at h;split at h
   ·rename_i s1 ad;exact (fb _ _ _ _ ad).trans (fq _ _ _ _ h)
   ·exact fb _ _ _ _ h
 | cond c a b fb fq =>
   intro aY s e aF h;simp only [exec] at h;split at h
   ·exact fb _ _ _ _ h
   ·exact fq _ _ _ _ h
   ·simp at h
 | block id c a_ =>
   intro aY s e aF h;simp only [exec] at h;split at h
   ·rename_i bx s1 ad;split at h <;> simp only [Option.some.injEq,Prod.mk.injEq] at h <;> obtain ⟨_,rfl⟩:=h <;> exact a_ _ _ _ _ ad
   ·exact a_ _ _ _ _ h
 | loop c a_ =>
   intro aY s e aF h;simp only [exec] at h;exact zf (fun s e aF h=>by have:=a_ _ _ _ _ h;rwa [y9] at this) _ _ _ _ h
 | exit id=>intro aY s e aF h;simp only [exec,Option.some.injEq,Prod.mk.injEq] at h;obtain ⟨_,rfl⟩:=h;exact ba.refl _ _
 | ret=>intro aY s e aF h;simp only [exec,Option.some.injEq,Prod.mk.injEq] at h;obtain ⟨_,rfl⟩:=h;exact ba.refl _ _
 | scope c a_=>intro aY s e aF h;simp only [exec] at h;exact a_ _ _ _ _ h
 | label l=>intro aY s e aF h;simp only [exec,Option.some.injEq,Prod.mk.injEq] at h;obtain ⟨_,rfl⟩:=h;exact ba.refl _ _
 | goto l=>intro aY s e aF h;simp [exec] at h
 | refuse y=>intro aY s e aF h;simp [exec] at h
 | rangeFunc g bh a b fb fq =>
   intro aY s e aF h;simp only [exec] at h;have key:∀ {H':List au} {r:I} {b0:e6} {args:List I} {x:au},C b0 args (s.H++[x]) lo=some (r,H')→ba lo s.H (H'.set s.H.length .dead):=fun {H' r b0 args x} ao=>by
    have ak:=bt.low ao;refine ⟨?_,fun id ad af=>?_⟩
    ·have:=ak.1;simp at this ⊢;omega
    ·rw [si (by omega),ak.2 id ad (by simp;omega),sA af]
   split at h
   ·split at h
    ·rename_i r H' ao;split at h
     ·split at h
      ·simp at h
      ·split at h
       ·simp only [Option.some.injEq,Prod.mk.injEq] at h;obtain ⟨_,rfl⟩:=h;exact key ao
       ·simp only [Option.some.injEq,Prod.mk.injEq] at h;obtain ⟨_,rfl⟩:=h;exact key ao
       ·simp only [Option.some.injEq,Prod.mk.injEq] at h;obtain ⟨_,rfl⟩:=h;exact key ao
       ·simp at h
     ·simp at h
    ·simp at h
   ·simp at h
end
section
variable {P:Program} {F:Fence} {n:Nat} {b:Frame} {a:Act} {k:List Item} {cs:List Frame} {w:World} {Q:Exit→Act→World→Prop}
theorem k6 {c:Code}:step P (lone (b.atR a (.code (.scope c)::k)) cs w)=.next (lone (b.atR a (.code c::.inScope c::k)) cs w) :=
 step_lone_go (by simp [stepG,stepG.exec,Frame.atR])
theorem FA {c:Code}:step P (lone (b.atR a (.inScope c::k)) cs w)=.next (lone (b.atR a k) cs w) :=
 step_lone_go (by simp [stepG,stepG.exec,Frame.atR])
theorem Bb {c:Code} (h:c.wpIn F n P Q a w) (aO:∀ l a w,¬ Q (.goto l) a w):(Code.scope c).wpIn F n P Q a w:=by
 intro b k cs C3 ag aj;have aS:(lone (b.atR a (.code (.scope c)::k)) cs w).fenced P F:=fenced_calm ag aj rfl;obtain ⟨e,kf,la,a3,ht⟩:=h b (.inScope c::k) cs C3 ag aj;have al:∀ id,exitTo id (.inScope c::k)=exitTo id k:=fun id=>by simp [exitTo]
 cases e with
 | normal=>exact ⟨.normal,kf,la,a3,.head aS k6 (StepsIn.trans ht (.one (fenced_calm ag aj rfl) FA))⟩
 | exit id =>
   exact ⟨.exit id,kf,la,a3,fun k' av=>.head aS k6 (ht.1 k' (by rw [al];exact av)),
    fun yR av=>let ⟨k₁,ad,af⟩:=ht.2 yR (by rw [al];exact av);⟨k₁,ad,.head aS k6 af⟩⟩
 | goto l=>exact absurd a3 (aO l kf la)
 | ret=>exact ⟨_,kf,la,a3,.of_steps (.one aS k6) ht⟩
 | panic F3=>exact ⟨_,kf,la,a3,.of_steps (.one aS k6) ht⟩
 | outgrown=>exact ⟨_,kf,la,a3,.of_steps (.one aS k6) ht⟩
end
end Go.Proofs.YtfakoboiahbhaaaGreat.Ab


namespace Go.Proofs.YtfakoboiahbhaaaGreat.Ab
open Go
section
variable {P:Program} {B N:Nat} {J:List Nat} {w:World} {H:List au} {U:Nat→Option aI} {S:Nat→Nat→Prop}
theorem AK:∀ (T:List I) (bd:List Value) (bz:Nat→aI) (S:Nat→Nat→Prop),(∀ i j,bz i=bz j→i=j)→(∀ i id,bz i≠.obj id)→(∀ i id j,bz i≠.cell id j) →
  a9 bz U J S w T bd→aL B U J S w H →
  ∃ S':Nat→Nat→Prop,(∀ b o,S b o→S' b o)∧(∀ b o,S' b o→S b o∨∃ i,U b=some (bz i))∧aL B U J S' w H∧a9 bz U J S' w (T.map I.settle) bd∧a9 bz U J S' w (T.map I.view) bd:=by
 intro T
 induction T with
 | nil=>intro bd bz S _ _ _ ae ah;exact ⟨S,fun _ _ h=>h,fun _ _ h=>.inl h,ah,by simpa using ae,by simpa using ae⟩
 | cons u T a_ =>
   intro bd bz S aw ca cn ae ah;obtain ⟨v,hJ,rfl,aj,aq,ax⟩:=ae.gN;have first:∃ a4:Nat→Nat→Prop,(∀ b o,S b o→a4 b o)∧(∀ b o,a4 b o→S b o∨U b=some (bz 0))∧aL B U J a4 w H∧Rel J a4 w u.view v∧Rel J a4 w u.settle v∧aV U J a4 w (bz 0) u.settle v:=by
    by_cases hu:u.cT=true
    ·have ai:u.settle=u:=by
      (cases u <;> try rfl);rename_i c n k;cases k <;> first | rfl | simp [I.cT] at hu
     exact ⟨S,fun _ _ h=>h,fun _ _ h=>.inl h,ah,aj.view hu,by rw [ai];exact aj,by rw [ai];exact aq⟩
    ·obtain ⟨cells,len,z,rfl⟩:∃ cells len z,u=.ay cells len (.uniq z):=by
      unfold I.cT at hu;split at hu
      ·exact ⟨_,_,_,rfl⟩
      ·simp at hu
     obtain ⟨a4,aJ,aP,cj,r1,r2,eF⟩:=j7 ah aj aq;exact ⟨a4,aJ,aP,ah.settle aJ (fun b o h=>(aP b o h).imp id fun h=>⟨_,h,ca 0,cn 0⟩) cj,r1,r2,eF⟩
   (obtain ⟨a4,aJ,aP,bW,dr,CV,pB⟩:=first);have pH:a9 (fun i=>bz (i+1)) U J a4 w T hJ:=by
    refine ⟨ax.len,fun i bG br hu ae=>(ax.rel i bG br hu ae).mono (Ext.refl J) fun b o ai=>⟨aJ b o ai,rfl⟩,fun i bG br hu ae=>?_⟩;refine (ax.own i bG br hu ae).mono (Ext.refl J) (fun b o ai=>⟨aJ b o ai,rfl⟩) fun b ag=>⟨ag,rfl,fun o ai=>?_⟩;rcases aP b o ai with h | h
    ·exact h
    ·rw [ag] at h;injection h with h;exact absurd (aw _ _ h) (by omega)
   obtain ⟨S',du,dm,cc,ea,dC⟩:=a_ hJ (fun i=>bz (i+1)) a4 (fun i j h=>by have:=aw _ _ h;omega) (fun i=>ca (i+1)) (fun i=>cn (i+1)) pH bW;have cm:∀ b o,a4 b o→S' b o∧w.cell? ⟨b,o,none⟩=w.cell? ⟨b,o,none⟩:=fun b o ai=>⟨du b o ai,rfl⟩;refine ⟨S',fun b o h=>du b o (aJ b o h),fun b o h=>?_,cc,?_,?_⟩
   ·rcases dm b o h with h | ⟨i,h⟩
    ·exact (aP b o h).imp id fun h=>⟨0,h⟩
    ·exact .inr ⟨i+1,h⟩
   ·refine a9.cons (CV.mono (Ext.refl J) cm) (pB.mono (Ext.refl J) cm fun b ag=>⟨ag,rfl,fun o h=>?_⟩) ea;rcases dm b o h with h | ⟨i,h⟩
    ·exact h
    ·rw [ag] at h;injection h with h;exact absurd (aw _ _ h) (by omega)
   ·exact a9.cons (dr.mono (Ext.refl J) cm) (aV.b3 (I.dh _)) dC
theorem yi (ah:aL B U J S w H) (o:Obj):bg U S w U S (w.alloc o) :=
 ⟨rfl,rfl,rfl,by simp,fun b ag _=>heap_alloc_old w o b ag,fun b cL ai=>⟨ai,by obtain ⟨v,ae⟩:=ah.cf b cL ai;exact oF o (mr ae)⟩,fun _ _ ai=>.inl ai,fun _ ag=>.inl ag⟩
theorem CY (ah:aL B U J S w H) (o:Obj):aL B U J S (w.alloc o) H:=by
 have aA:=yi ah o;refine ah.frame aA (fun b l ag _=>⟨ag,heap_alloc_old w o b (ah.base b l ag).2,fun _ h=>h⟩) (fun b cL ai=>?_) fun b l ag=>?_
 ·obtain ⟨v,ae⟩:=ah.cf b cL ai;exact ⟨v,((aA.set b cL ai).2).trans ae⟩
 ·have:=ah.base b l ag;exact ⟨this.1,by simp;omega⟩
theorem zh (ah:aL B U J S w H) {id b:Nat} {L:Loop} (f_:U b=some (.obj id)) (fl:w.heap[b]?=some (.loop L)) (ir:Loop) :
  bg U S w U S (w.putObj b (.loop ir))∧aL B U J S (w.putObj b (.loop ir)) (H.set id .dead)∧(w.putObj b (.loop ir)).heap[b]?=some (.loop ir):=by
 have ag:b<w.heap.size:=(sW.1 fl).1;have bP:(w.putObj b (.loop ir)).heap.size=w.heap.size:=by simp [World.putObj]
 have h4:∀ ar,ar≠b→(w.putObj b (.loop ir)).heap[ar]?=w.heap[ar]?:=fun ar h=>World.putObj_heap_other h;have bM:∀ ar o,S ar o→ar≠b:=fun ar o ai e=>by
  subst e;obtain ⟨v,ae⟩:=ah.cf ar o ai;simp [World.cell?,fl] at ae
 have bu:∀ ar o,ar≠b→(w.putObj b (.loop ir)).cell? ⟨ar,o,none⟩=w.cell? ⟨ar,o,none⟩:=fun ar o h=>by
  simp only [World.cell?,h4 ar h]
 have aA:bg U S w U S (w.putObj b (.loop ir)):=by
  refine ⟨rfl,rfl,rfl,by omega,fun ar bp aN=>h4 ar (fun e=>by subst e;rw [f_] at aN;cases aN),fun ar o ai=>⟨ai,bu ar o (bM ar o ai)⟩,fun _ _ h=>.inl h,fun _ h=>.inl h⟩
 refine ⟨aA,⟨by simpa using ah.cE,fun bx o aq=>?_,fun ar o ai=>?_,fun ar l bp=>?_,by rw [bP];exact ah.cX⟩,World.putObj_heap_same ag⟩
 ·by_cases cu:bx=id
  ·subst cu;(have aU:bx<H.length:=by have:=(sa.1 aq).1;simpa using this);rw [sg aU] at aq;cases aq;trivial
  ·rw [si (Ne.symm cu)] at aq;refine (ah.obj bx o aq).frame (Ext.refl J) aA.set fun ar l bp ak=>⟨bp,h4 ar (fun e=>?_),fun _ h=>h⟩;subst e;rw [f_] at bp;cases bp;rcases ak with h | ⟨j,h⟩
   ·cases h;exact cu rfl
   ·cases h
 ·obtain ⟨v,ae⟩:=ah.cf ar o ai;exact ⟨v,(bu ar o (bM ar o ai)).trans ae⟩
 ·rw [bP];exact ah.base ar l bp
theorem Dt (ah:aL B U J S w H) {id b:Nat} {L:Loop} {st:LoopState} {cF:Option Code} {fn:FuncId} {T:List I} {bh:List Nat} {as bY:Code} {an:c8}
  (aE:H[id]?=some (.loop st cF fn T bh as bY an)) (ag:J[id]?=some b) (fl:w.heap[b]?=some (.loop L)) (hj:LoopState) (hc:Option Code) :
  bg U S w U S (w.putObj b (.loop { L with state:=hj,pending:=hc }))∧aL B U J S (w.putObj b (.loop { L with state:=hj,pending:=hc })) (H.set id (.loop hj hc fn T bh as bY an)) ∧
   (w.putObj b (.loop { L with state:=hj,pending:=hc })).heap[b]?=some (.loop { L with state:=hj,pending:=hc }):=by
 obtain ⟨lb,ld,ar,ot,aB,aH,aR,bj,bb,bf,c1,da,dF⟩:=ah.obj id _ aE;rw [ag] at aB;cases aB;rw [fl] at aR;cases aR;obtain ⟨aA,cc,jE⟩:=zh ah aH fl { L with state:=hj,pending:=hc };refine ⟨aA,⟨by simpa using cc.cE,fun bx o aq=>?_,cc.cf,cc.base,cc.cX⟩,jE⟩;by_cases cu:bx=id
 ·subst cu;rw [sg (sa.1 aE).1] at aq;cases aq;exact ⟨lb,ld,b,_,ag,aH,jE,rfl,rfl,trivial,c1,fun i u v hu ae=>⟨(da i u v hu ae).1,(da i u v hu ae).2.mono (Ext.refl J) aA.set⟩,dF⟩
 ·refine cc.obj bx o ?_;rw [si (Ne.symm cu)] at aq ⊢;exact aq
end
end Go.Proofs.YtfakoboiahbhaaaGreat.Ab
