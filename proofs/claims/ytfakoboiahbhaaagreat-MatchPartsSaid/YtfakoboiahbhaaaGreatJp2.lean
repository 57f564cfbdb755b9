
import Derived.Test.YtfakoboiahbhaaaGreatJp1
import Derived.RangeFuncRecord
import Derived.MapKept
import Derived.RangeFuncLeaves
import Derived.RangeFuncCalls
import Derived.RangeFuncNested
import Derived.TacticsIn
set_option linter.unusedSimpArgs false
set_option linter.unusedVariables false
set_option linter.unusedSectionVars false

open Array renaming getD_eq_getD_getElem?→sk,getElem?_eq_getElem→sv,getElem?_eq_none→vH,getElem?_eq_some_iff→sS,getElem?_toList→uL,length_toList→tt,toArray_toList→t_,toList_map→vb,toList_setIfInBounds→vJ
open Bool renaming and_eq_true→r_,false_eq_true→tA,or_eq_true→tQ
open List renaming all_eq_true→ss,append_assoc→sy,drop_zero→sT,eq_nil_iff_forall_not_mem→uz,ext_getElem?→tM,getD_eq_getElem?_getD→sC,getElem?_append_left→se,getElem?_append_right→sB,getElem?_cons_succ→u7,getElem?_cons_zero→ua,getElem?_drop→sY,getElem?_eq_getElem→sd,getElem?_eq_none→tO,getElem?_eq_some_iff→rV,getElem?_map→sm,getElem?_set_ne→sa,getElem?_set_self→rY,getElem?_take→sR,getElem?_toArray→vB,getElem?_zip_eq_some→vG,length_cons→sD,length_drop→tV,length_eq_zero_iff→tn,map_drop→uy,map_fst_zip→vF,map_set→ud,map_take→ux,mem_cons→sf,mem_cons_of_mem→tP,mem_filter→sK,mem_iff_getElem?→tu,mem_map→sq,mem_of_getElem?→sA,mem_range→sx,pairwise_cons→tx,set_set→rZ,take_of_length_le→tN
open Nat renaming le_refl→rX,le_trans→sJ,lt_of_lt_of_le→uJ,lt_or_ge→sO,mul_le_mul_right→tj,sub_zero→vd,zero_add→sP
open Option renaming bind_eq_some_iff→sb,bind_some→rW,getD_some→uq,map_eq_some_iff→rU,map_some→sc
namespace Go.Proofs.YtfakoboiahbhaaaGreat.Ab
open Go
section
variable {P:Program} {B:Nat} {J:List Nat} {w:World} {H:List au} {U:Nat→Option aI} {S:Nat→Nat→Prop}
def ey (P:Program) (aU:Operand→Value) (o:Oper) (w:World) (R:Value→World→Prop):Prop :=
 (∃ v w',(Go.execOp aU o).run P w=.ok (.value v) w'∧R v w')∨(∃ w',(Go.execOp aU o).run P w=.ok .skip w'∧R undef w')
theorem ey.makes {aU:Operand→Value} {o:Oper} {r:I} (ah:aL B U J S w H) (h:e4 P o aU J S w r) (aC:r.plain=true):ey P aU o w (a2 B U J S w H r):=by
 obtain ⟨v,ad,af⟩:=h;exact .inl ⟨v,w,ad,a2.same ah af aC⟩
theorem a_.one {bB:Nat→aI} {us:List I} {aU:Operand→Value} {x:Operand} (h:a_ bB U J S w us ([x].map aU)):∃ u,us=[u]∧Rel J S w u (aU x)∧aW U J S w (bB 0) u (aU x):=by
 match us,h with
 | [u],h=>exact ⟨u,rfl,h.rel 0 u _ rfl rfl,h.own 0 u _ rfl rfl⟩
 | [],h=>exact absurd h.len (by simp)
 | _::_::_,h=>exact absurd h.len (by simp)
theorem a_.two {bB:Nat→aI} {us:List I} {aU:Operand→Value} {x y:Operand} (h:a_ bB U J S w us ([x,y].map aU)) :
  ∃ u v,us=[u,v]∧Rel J S w u (aU x)∧aW U J S w (bB 0) u (aU x)∧Rel J S w v (aU y)∧aW U J S w (bB 1) v (aU y):=by
 match us,h with
 | [u,v],h=>exact ⟨u,v,rfl,h.rel 0 u _ rfl rfl,h.own 0 u _ rfl rfl,h.rel 1 v _ rfl rfl,h.own 1 v _ rfl rfl⟩
 | [],h=>exact absurd h.len (by simp)
 | [_],h=>exact absurd h.len (by simp)
 | _::_::_::_,h=>exact absurd h.len (by simp)
theorem Bo {op:BinOp} {k:IntKind} {a b:Int} {r:I} (h:jq op k a b=some r):r.plain=true:=by
 cases op <;> simp [jq] at h <;> first | (subst h;rfl) | (obtain ⟨_,rfl⟩:=h;rfl)
theorem Bq {op:BinOp} {t:TypeId} {x y r:I} (h:fi P op t x y=some r):r.plain=true:=by
 unfold fi at h;split at h
 ·split at h
  ·unfold ho at h;split at h <;> simp at h;subst h;rfl
  ·unfold ho at h;split at h <;> simp at h;subst h;rfl
  ·split at h
   ·exact Bo h
   ·simp at h
 ·split at h <;> simp at h <;> subst h <;> rfl
 ·split at h
  ·split at h
   ·split at h
    ·split at h
     ·simp only [rU] at h;obtain ⟨_,_,rfl⟩:=h;rfl
     ·simp only [rU] at h;obtain ⟨_,_,rfl⟩:=h;rfl
     ·simp at h
    ·simp at h
   ·simp at h
  ·split at h
   ·split at h
    ·simp only [rU] at h;obtain ⟨_,_,rfl⟩:=h;rfl
    ·simp only [rU] at h;obtain ⟨_,_,rfl⟩:=h;rfl
    ·simp at h
   ·simp at h
  ·simp at h
 ·simp at h
theorem Bs {t:TypeId} {x y r:I} (h:hV P t x y=some r):r.plain=true:=by
 unfold hV at h;split at h <;> simp only [sb,rU,reduceCtorEq] at h <;> (try (obtain ⟨_,_,_,_,rfl⟩:=h;rfl))
theorem Br {t:TypeId} {x r:I} {f:Nat} (h:jr P t x f=some r):r.plain=true:=by
 unfold jr at h;split at h <;> simp only [sb,reduceCtorEq] at h <;> (try (obtain ⟨_,_,_,_,h⟩:=h;split at h <;> simp at h;subst h;rfl))
theorem xi {o:Oper} (h:∀ c,o.op≠.call c):opsOf o=o.op.operands.toList:=by
 unfold opsOf;split
 ·rename_i heq;exact absurd heq (h _)
 ·rename_i heq;exact absurd heq (h _)
 ·rfl
theorem Ft {aU:Operand→Value} (eM:∀ v,aU (.const v)=v) {o:Oper} {us:List I} {r:I} (ah:aL B U J S w H) (h:cA P o us=some r) (c0:dO o=false)
  (aC:∀ u∈us,u.plain=true) (ae:a_ (fun i=>.arg i) U J S w us ((opsOf o).map aU)):ey P aU o w (a2 B U J S w H r):=by
 cases aD:o.op <;> simp only [cA,aD,reduceCtorEq] at h <;> rw [xi (by simp [aD])] at ae <;> (try (simp [dO,aD] at c0;done))
 case pick c a b =>
  replace ae:a_ (fun i=>.arg i) U J S w us ([c,a,b].map aU):=by simpa [aD,Op.operands] using ae
  unfold xh at h;split at h
  ·rename_i x fs gi;have aS:=ae.rel 0 _ _ rfl rfl;have bk:=ae.rel 1 _ _ rfl rfl;have eE:=ae.rel 2 _ _ rfl rfl;cases x
   ·cases h;exact ey.makes ah (zr aD aS bk eE) (aC gi (by simp))
   ·cases h;exact ey.makes ah (zr aD aS bk eE) (aC fs (by simp))
  ·simp at h
 case build t parts =>
  have ae:a_ (fun i=>.arg i) U J S w us ((parts.toList.map (·.2)).map aU):=by simpa [aD,Op.operands] using ae
  have hlen:us.length=parts.toList.length:=by simpa using ae.len
  obtain ⟨v,q1,aX,cB⟩:=E_ (J:=J) (S:=S) (w:=w) (parts':=parts.map fun (x:Nat×Operand)=>(x.1,aU x.2)) h (by simp [ft,vF,hlen]) (fun j x y al a1=>by
   simp only [ft,vG] at al;obtain ⟨y3,iQ⟩:=al;simp only [vb,sm,rU] at a1;obtain ⟨p,jM,rfl⟩:=a1
   exact ⟨aC _ (sA iQ),ae.rel j _ _ iQ (by simp only [sm,jM,sc])⟩)
  exact .inl ⟨v,w,by simp [Go.execOp,aD,q1],a2.same ah aX cB⟩
 case buildSlice t len parts =>
  have ae:a_ (fun i=>.arg i) U J S w us ((parts.toList.map (·.2)).map aU):=by simpa [aD,Op.operands] using ae
  have hlen:us.length=parts.toList.length:=by simpa using ae.len
  simp only [rU] at h;obtain ⟨⟨cs,s⟩,h,rfl⟩:=h
  obtain ⟨_,w',q1,aX⟩:=AR (parts':=parts.map fun (x:Nat×Operand)=>(x.1,aU x.2)) ah h (by simp [ft,vF,hlen]) (fun j x y al a1=>by
   simp only [ft,vG] at al;obtain ⟨y3,iQ⟩:=al;simp only [vb,sm,rU] at a1;obtain ⟨p,jM,rfl⟩:=a1
   exact ⟨aC _ (sA iQ),ae.rel j _ _ iQ (by simp only [sm,jM,sc])⟩)
  exact .inl ⟨_,w',by simp [Go.execOp,aD,q1],aX⟩
 case nilCheck x =>
  obtain ⟨u,rfl,aS,_⟩:=a_.one (x:=x) (by simpa [aD,Op.operands] using ae);unfold nU at h;split at h
  ·rename_i id off heq;simp at heq;subst heq;cases h;exact ey.makes ah (DP aD aS) rfl
  ·rename_i cells heq;simp at heq;subst heq;cases h;exact ey.makes ah (DQ aD aS) rfl
  ·simp at h
 case unOp op t x =>
  obtain ⟨u,rfl,aS,_⟩:=a_.one (x:=x) (by simpa [aD,Op.operands] using ae);simp only [eY] at h;refine ey.makes ah (DR aD h aS) ?_;unfold kf at h;split at h <;> (try split at h) <;> simp at h <;> subst h <;> rfl
 case convert s d x =>
  obtain ⟨u,rfl,aS,_⟩:=a_.one (x:=x) (by simpa [aD,Op.operands] using ae);simp only [eY] at h;refine ey.makes ah (DH aD h aS) ?_;unfold lr at h;split at h
  ·split at h
   ·simp at h;subst h;rfl
   ·simp at h
  ·simp at h
 case makeFunc fn first captured =>
  refine ey.makes ah (DM aD h (by simpa [aD,Op.operands] using ae) aC) ?_;unfold mD at h;split at h
  ·split at h <;> simp at h;subst h;rfl
  ·simp at h
 case fieldAddr t x f =>
  obtain ⟨u,rfl,aS,_⟩:=a_.one (x:=x) (by simpa [aD,Op.operands] using ae);simp only [eY] at h;exact ey.makes ah (DL aD h aS) (Br h)
 case field t x f =>
  obtain ⟨u,rfl,aS,_⟩:=a_.one (x:=x) (by simpa [aD,Op.operands] using ae);simp only [eY,rU] at h;obtain ⟨r',h,rfl⟩:=h;exact ey.makes ah (DK aD h aS) (I.dh _)
 case extract x i =>
  obtain ⟨u,rfl,aS,_⟩:=a_.one (x:=x) (by simpa [aD,Op.operands] using ae);simp only [eY,rU] at h;obtain ⟨r',h,rfl⟩:=h;exact ey.makes ah (DJ aD h aS) (I.dh _)
 case indexAddr t x i =>
  obtain ⟨u,v,rfl,aS,_,bk,_⟩:=a_.two (x:=x) (y:=i) (by simpa [aD,Op.operands] using ae);simp only [f'] at h;exact ey.makes ah (DO aD h aS bk (I.ga (aC u (by simp)))) (Bs h)
 case index t x i =>
  obtain ⟨u,v,rfl,aS,_,bk,_⟩:=a_.two (x:=x) (y:=i) (by simpa [aD,Op.operands] using ae);simp only [f',rU] at h;obtain ⟨r',h,rfl⟩:=h;exact ey.makes ah (DN aD h aS bk) (I.dh _)
 case binOp op t x y iq =>
  obtain ⟨u,v,rfl,aS,_,bk,_⟩:=a_.two (x:=x) (y:=y) (by simpa [aD,Op.operands] using ae);split at h
  ·rename_i CS;refine ey.makes ah (DI aD CS h aS eM) ?_;unfold mY at h;dsimp only at h;repeat' split at h
   all_goals first | (simp at h;done) | (simp at h;subst h;rfl)
  ·simp only [f'] at h;refine ey.makes ah ?_ (Bq h);cases u <;> cases v <;> (try (simp [fi] at h;done))
   ·exact DF aD h aS bk
   ·exact DG aD h aS bk
   ·exact DE aD h aS bk
theorem Ej {cells:List I} {len:Nat} {a:Option Addr} (h:Rel J S w (.ay cells len .shared) (.slice a len len)):Rel J S w (.ay cells len .full) (.slice a len len):=by
 cases h with
 | b3 _ a=>exact .b3 _ _
 | ay _ _ _ b o cap f ao hle hu bx b'=>exact .ay _ _ _ b o len f (fun _=>rfl) hle (fun z h=>by cases h) bx b'
theorem E' {aU:Operand→Value} (eM:∀ v,aU (.const v)=v) {o:Oper} {us:List I} {t:TypeId} {len:Nat} {parts:Array (Nat×Operand)} {cs:List I} {s:Nat} (ah:aL B U J S w H) (aD:o.op=.buildSlice t len parts)
  (h:iz P t len (ft parts.toList us)=some (cs,s)) (aC:∀ u∈us,u.plain=true) (ae:a_ (fun i=>.arg i) U J S w us ((opsOf o).map aU)) :
  ∃ v w',(Go.execOp aU o).run P w=.ok (.value v) w'∧a2 B U J S w H (.ay cs len .full) v w':=by
 rw [xi (by simp [aD])] at ae;have ae:a_ (fun i=>.arg i) U J S w us ((parts.toList.map (·.2)).map aU):=by simpa [aD,Op.operands] using ae
 have hlen:us.length=parts.toList.length:=by simpa using ae.len
 obtain ⟨b,w',q1,az,b1,S',bT,b6,eD,fM,mE⟩:=AR (parts':=parts.map fun (x:Nat×Operand)=>(x.1,aU x.2)) ah h (by simp [ft,vF,hlen]) (fun j x y al a1=>by
  simp only [ft,vG] at al;obtain ⟨y3,iQ⟩:=al;simp only [vb,sm,rU] at a1;obtain ⟨p,jM,rfl⟩:=a1
  exact ⟨aC _ (sA iQ),ae.rel j _ _ iQ (by simp only [sm,jM,sc])⟩)
 obtain ⟨a5,aJ,aP,cl,aS,_,_⟩:=j8 eD fM mE
 exact ⟨_,w',by simp [Go.execOp,aD,q1],az,b1,a5,bT,b6.trans (bh.settle aJ fun b o h=>(aP b o h).imp id fun h=>⟨_,h⟩),
  eD.settle aJ (fun b o h=>(aP b o h).imp id fun h=>⟨_,h,by simp,by simp⟩) cl,Ej aS,aW.b5 rfl⟩
end
end Go.Proofs.YtfakoboiahbhaaaGreat.Ab


namespace Go.Proofs.YtfakoboiahbhaaaGreat.Ab
open Go
section
variable {P:Program} {B:Nat} {J:List Nat} {w:World} {H:List au} {U:Nat→Option aI} {S:Nat→Nat→Prop}
theorem nW {b ar o:Nat} {x:Obj} (h:ar≠b):(w.putObj b x).cell? ⟨ar,o,none⟩=w.cell? ⟨ar,o,none⟩:=by
 unfold World.cell?;simp only [World.putObj_heap_other h]
theorem nM (ah:aL B U J S w H) {id:Nat} {es es':List (Nat×I×I)} {clock clock':Nat} (aE:H[id]?=some (.map es clock)) {b:Nat} {ents':Array MapEntry}
  (aB:J[id]?=some b) (aH:U b=some (.obj id)) (bc:∀ o,¬ S b o) (ak:ents'.size=es'.length)
  (aj:∀ (j i:Nat) (k v:I) (x:MapEntry),es'[j]?=some (i,k,v)→ents'[j]?=some x→x.born=i∧k.plain=true∧Rel J S w k x.key∧v.plain=true∧Rel J S w v x.val) :
  bh U S w U S (w.putObj b (.map ents' clock'))∧aL B U J S (w.putObj b (.map ents' clock')) (H.set id (.map es' clock')):=by
 have hs:∀ ar o,S ar o→ar≠b:=fun ar o ai e=>bc o (e ▸ ai);have ag:=(ah.base b _ aH).2;have aA:bh U S w U S (w.putObj b (.map ents' clock')) :=
  ⟨rfl,rfl,rfl,by simp,fun ar _ aN=>World.putObj_heap_other (fun e=>by subst e;rw [aH] at aN;cases aN),fun ar o ai=>⟨ai,nW (hs ar o ai)⟩,fun ar o ai=>.inl ai,fun ar h=>.inl h⟩
 refine ⟨aA,by simpa using ah.cG,fun bA o aq=>?_,fun ar o ai=>?_,fun ar l h=>by simpa using ah.base ar l h,by simpa using ah.cZ⟩
 ·by_cases gY:bA=id
  ·subst gY;rw [rY (rV.1 aE).1] at aq;cases aq;refine ⟨b,ents',aB,aH,World.putObj_heap_same ag,ak,bc,fun j i k v x hu al=>?_⟩;obtain ⟨ba,bm,bt,b9,dX⟩:=aj j i k v x hu al;exact ⟨ba,bm,bt.mono (Ext.refl J) aA.set,b9,dX.mono (Ext.refl J) aA.set⟩
  ·rw [sa (fun e=>gY e.symm)] at aq;refine (ah.obj bA o aq).frame (Ext.refl J) aA.set fun ar cx br jH=>?_;have bO:ar≠b:=fun e=>by
    subst e;rw [aH] at br;cases br;rcases jH with h | ⟨j,h⟩
    ·cases h;exact gY rfl
    ·cases h
   exact ⟨br,World.putObj_heap_other bO,fun o ai=>ai⟩
 ·obtain ⟨v,ae⟩:=ah.ch ar o ai;exact ⟨v,(nW (hs ar o ai)).trans ae⟩
theorem yj:∀ {xs ys:List I},dL xs ys=some true→xs=ys∧∀ u∈xs,∃ k a,u=.int k a
 | [],[],_=>⟨rfl,by simp⟩
 | x::xs,y::ys,h=>by
   obtain ⟨k,a,b,cO,rfl,rfl,aY,he⟩:=m' h;have he:=he.symm;simp only [r_,beq_iff_eq] at he;obtain ⟨rfl,rfl⟩:=he;obtain ⟨rfl,af⟩:=yj aY
   exact ⟨rfl,fun u hu=>by
    rcases sf.1 hu with rfl | hu
    ·exact ⟨_,_,rfl⟩
    ·exact af u hu⟩
 | [],y::ys,h=>by simp [dL] at h
 | x::xs,[],h=>by cases x <;> simp [dL] at h
theorem AI (n:Nat):∀ (l:List Value),(∀ v∈l,∃ k a,v=.int k a)→((l.zip l).all fun (x:Value×Value)=>Instr.sameBits n x.1 x.2)=true
 | [],_=>rfl
 | v::l,h=>by
   obtain ⟨k,a,rfl⟩:=h v (by simp);have a':=AI n l fun v ae=>h v (by simp [ae]);(have aT:Instr.sameBits n (.int k a) (.int k a)=true:=by cases n <;> simp [Instr.sameBits]);simp only [List.zip_cons_cons,List.all_cons,aT,Bool.true_and];exact a'
theorem Ek {xs:List I} {V W:Array Value} (hi:∀ u∈xs,∃ k a,u=.int k a) (aS:Rel J S w (.agg xs) (.agg V)) (bk:Rel J S w (.agg xs) (.agg W)):V=W∧∀ v∈V.toList,∃ k a,v=.int k a:=by
 cases aS with
 | agg _ _ dK _ _ q1 =>
   cases bk with
   | agg _ _ kL _ _ aX =>
     have key:∀ j (h:j<xs.length),∃ k a,V[j]?=some (.int k a)∧W[j]?=some (.int k a):=fun j h=>by
      obtain ⟨k,a,av⟩:=hi xs[j] (List.getElem_mem h);(have al:xs[j]?=some (.int k a):=by rw [sd h,av]);have ae:=q1 j _ V[j] al (sv (by omega));have hw:=aX j _ W[j] al (sv (by omega));exact ⟨k,a,by rw [sv (by omega),ae.dd],by rw [sv (by omega),hw.dd]⟩
     refine ⟨Array.ext_getElem? fun j=>?_,fun v ae=>?_⟩
     ·rcases sO j xs.length with h | h
      ·obtain ⟨k,a,ad,af⟩:=key j h;rw [ad,af]
      ·rw [vH (by omega),vH (by omega)]
     ·obtain ⟨j,aw⟩:=tu.1 ae;(have aV:j<xs.length:=by have:=(rV.1 aw).1;simp at this;omega);obtain ⟨k,a,ad,_⟩:=key j aV;rw [uL,ad] at aw;cases aw;exact ⟨k,a,rfl⟩
theorem Dl {k k':I} {x y:Value} (h:gy k k'=some true) (aS:Rel J S w k x) (bk:Rel J S w k' y):(Instr.keyThatStays y x).run P w=.ok x w:=by
 have ag:Instr.sameBits 10000 y x=true:=by
  unfold gy at h;split at h
  ·split at h
   ·rename_i q a fO b a4;subst a4;simp at h;subst h;rw [aS.dd,bk.dd];simp [Instr.sameBits]
   ·simp at h
  ·obtain ⟨rfl,hi⟩:=yj h;(have e1:∃ V,x=.agg V:=by cases aS with | agg as vs=>exact ⟨_,rfl⟩);(have cm:∃ V,y=.agg V:=by cases bk with | agg as vs=>exact ⟨_,rfl⟩);obtain ⟨V,rfl⟩:=e1;obtain ⟨W,rfl⟩:=cm;obtain ⟨rfl,c'⟩:=Ek hi aS bk;have:=AI 9999 V.toList c';rw [show (10000:Nat)=9999+1 from rfl,Instr.sameBits];simpa using this
  ·simp at h
 simp [Instr.keyThatStays,ag]
theorem za {t:TypeId} (h:kK P t=true):(∃ k,P.underlying t=some (.int k))∨∃ bG,P.underlying t=some (.struct bG)∧gC P bG.toList 0=true∧P.stoodInHeld t=false:=by
 unfold kK at h;split at h
 ·exact .inl ⟨_,by assumption⟩
 ·rename_i bG Ct;simp at h;exact .inr ⟨bG,Ct,h.1,h.2⟩
 ·simp at h
theorem Ay (em:Bool) (d:Nat) (V:Array Value):∀ (bG:List Field) (off:Nat),gC P bG off=true→off+bG.length≤V.size →
  (forIn bG PUnit.unit (fun f (_ : PUnit) => if f.name = "_" then pure (ForInStep.yield PUnit.unit) else (do
    let a ←part f.type V f.offset
    (fun _=>ForInStep.yield PUnit.unit) <$> Instr.checkKey em (d+1) f.type a:Sem (ForInStep PUnit)))).run P w=.ok PUnit.unit w
 | [],off,_,_=>by simp
 | f::bG,off,h,ak=>by
   obtain ⟨f1,f2,⟨de,f3⟩,f4,f5,f6⟩:=y5 h;simp only [sD] at ak;have jA:V[off]?=some V[off]:=sv (by omega);(have q1:(part f.type V f.offset).run P w=.ok V[off] w:=by simp only [part,Sem.run_bind,gI f3,f5,Result.andThen_ok,f1,jA,if_false,tA];rfl);(have aX:(Instr.checkKey em (d+1) f.type V[off]).run P w=.ok () w:=by unfold Instr.checkKey;simp [run_underlying f3]);have a':=Ay em d V bG (off+1) f6 (by omega);simp only [List.forIn_cons,f2,if_false,Sem.run_bind,q1,Result.andThen_ok];simpa [aX] using a'
theorem xH {t:TypeId} {k:I} {x:Value} (h:kK P t=true) (av:isKey P t k=true) (aj:Rel J S w k x) (em:Bool):(Instr.checkKey em 10000 t x).run P w=.ok () w:=by
 rcases za h with ⟨q,a4⟩ | ⟨bG,aQ,hi,_⟩
 ·unfold Instr.checkKey;simp [run_underlying a4]
 ·unfold isKey at av;simp only [aQ] at av;split at av
  ·rename_i aY;cases aY
  ·rename_i B0 cs aY;cases aY;simp at av;cases aj with
   | agg _ V ak _ _ _ =>
     rw [show (10000:Nat)=9998+2 from rfl,Instr.checkKey];have:=Ay (P:=P) (w:=w) em 9998 V bG.toList 0 hi (by simp;omega);rw [Array.forIn_toList] at this;simpa [run_underlying aQ] using this
  ·simp at av
theorem Az {t:TypeId} {bG:Array Field} (ax:P.underlying t=some (.struct bG)) (aQ:gC P bG.toList 0=true) (h8:P.stoodInHeld t=false) {k k':I} {x y:Value} {e:Bool} (av:isKey P t k=true) (h:gy k k'=some e)
  (aS:Rel J S w k x) (bk:Rel J S w k' y):(Op.equal t x y).run P w=.ok e w:=by
 unfold isKey at av;simp only [ax] at av;split at av
 ·rename_i aY;cases aY
 ·rename_i B0 cs aY;cases aY;simp at av;cases k' with
  | agg fA =>
    simp only [gy] at h;(have e1:∃ V,x=.agg V:=by cases aS with | agg as vs=>exact ⟨_,rfl⟩);(have cm:∃ V,y=.agg V:=by cases bk with | agg as vs=>exact ⟨_,rfl⟩);obtain ⟨V,rfl⟩:=e1;obtain ⟨W,rfl⟩:=cm;have ak:∀ (xs ys:List I) (e:Bool),dL xs ys=some e→ys.length=xs.length:=by
     intro xs
     induction xs with
     | nil=>intro ys e h;cases ys <;> simp [dL] at h;rfl
     | cons x xs a' =>
       intro ys e h;cases ys with
       | nil=>cases x <;> simp [dL] at h
       | cons y ys=>obtain ⟨_,_,_,cO,rfl,rfl,aY,_⟩:=m' h;simp [a' ys cO aY]
    exact run_equalIn_struct 9998 ax aQ h8 av ((ak _ _ _ h).trans av) h aS bk
  | _=>simp [gy] at h
 ·simp at av
def gm (J:List Nat) (S:Nat→Nat→Prop) (w:World) (es:List (Nat×I×I)) (bz:List MapEntry):Prop :=
 bz.length=es.length∧∀ (j i:Nat) (k v:I) (x:MapEntry),es[j]?=some (i,k,v)→bz[j]?=some x→x.born=i∧k.plain=true∧Rel J S w k x.key∧v.plain=true∧Rel J S w v x.val
theorem gm.cons {e:Nat×I×I} {es:List (Nat×I×I)} {bz:List MapEntry} (h:gm J S w (e::es) bz):∃ x r,bz=x::r∧x.born=e.1∧Rel J S w e.2.1 x.key∧Rel J S w e.2.2 x.val∧gm J S w es r:=by
 cases bz with
 | nil=>simp [gm] at h
 | cons x r =>
   obtain ⟨ad,_,af,_,aG⟩:=h.2 0 e.1 e.2.1 e.2.2 x rfl rfl;exact ⟨x,r,rfl,ad,af,aG,by simpa using h.1,fun j i k v y hu a1=>h.2 (j+1) i k v y (by simpa using hu) (by simpa using a1)⟩
def hQ (k:I) (es:List (Nat×I×I)) (bz:List MapEntry) (i:Nat):Option Nat→Option (Nat×Value)→Prop
 | none,r=>r=none
 | some n,r=>∃ e x,i≤n∧es[n-i]?=some e∧bz[n-i]?=some x∧r=some (n,x.val)∧gy k e.2.1=some true
theorem hQ.step {k:I} {e:Nat×I×I} {es:List (Nat×I×I)} {x:MapEntry} {bz:List MapEntry} {i:Nat} {r:Option Nat} {res:Option (Nat×Value)} (h:hQ k es bz (i+1) r res):hQ k (e::es) (x::bz) i r res:=by
 cases r with
 | none=>exact h
 | some n =>
   obtain ⟨cO,oo,ad,af,aG,a7,bN⟩:=h;obtain ⟨m,hm⟩:∃ m,n-i=m+1:=⟨n-(i+1),by omega⟩;(have nr:n-(i+1)=m:=by omega);rw [nr] at af aG;exact ⟨cO,oo,by omega,by rw [hm];simpa using af,by rw [hm];simpa using aG,a7,bN⟩
theorem yp {q q0:IntKind} {n:Int}:∀ (es:List (Nat×I×I)) (bz:List MapEntry) (i:Nat) (r:Option Nat),fB (.int q n) es i=some r→gm J S w es bz →
  ∃ res,Instr.findNow (.int q0) (.int q n) bz i=some res∧hQ (.int q n) es bz i r res
 | [],bz,i,r,h,aj=>by
   have:bz=[]:=tn.1 (by simpa using aj.1)
   subst this;simp [fB] at h;subst h;exact ⟨none,rfl,rfl⟩
 | (b,k',v)::es,bz,i,r,h,aj=>by
   obtain ⟨x,ents',rfl,ad,af,aG,a7⟩:=aj.cons;simp only [fB] at h;split at h
   ·rename_i he;cases h;cases k' with
    | int fO m =>
      simp only [gy] at he;split at he
      ·rename_i a4;subst a4;simp at he;subst he;simp only at af;rw [Instr.findNow,af.dd];exact ⟨some (i,x.val),by simp [Instr.sameNow],_,x,rX _,by simp;rfl,by simp,rfl,by simp [gy]⟩
      ·simp at he
    | _=>simp [gy] at he
   ·rename_i he;cases k' with
    | int fO m =>
      simp only [gy] at he;split at he
      ·rename_i a4;subst a4;simp at he;simp only at af;obtain ⟨res,cd,b_⟩:=yp es ents' (i+1) r h a7;rw [Instr.findNow,af.dd];(have CR:(n == m)=false:=by simpa using he);exact ⟨res,by simp only [Instr.sameNow,if_true,CR];exact cd,b_.step⟩
      ·simp at he
    | _=>simp [gy] at he
   ·simp at h
theorem yn {t:TypeId} {bG:Array Field} (ax:P.underlying t=some (.struct bG)) (aQ:gC P bG.toList 0=true) (h8:P.stoodInHeld t=false) {k:I} {x:Value} (av:isKey P t k=true) (aS:Rel J S w k x) :
  ∀ (es:List (Nat×I×I)) (bz:List MapEntry) (i:Nat) (r:Option Nat),fB k es i=some r→gm J S w es bz →
  ∃ res,(Instr.findAsking t x bz i).run P w=.ok res w∧hQ k es bz i r res
 | [],bz,i,r,h,aj=>by
   have:bz=[]:=tn.1 (by simpa using aj.1)
   subst this;simp [fB] at h;subst h;exact ⟨none,rfl,rfl⟩
 | (b,k',v)::es,bz,i,r,h,aj=>by
   obtain ⟨y,ents',rfl,ad,af,aG,a7⟩:=aj.cons;simp only [fB] at h;split at h
   ·rename_i he;cases h;have q:=Az (P:=P) ax aQ h8 av he aS af;exact ⟨some (i,y.val),by simp [Instr.findAsking,q],_,y,rX _,by simp;rfl,by simp,rfl,he⟩
   ·rename_i he;have q:=Az (P:=P) ax aQ h8 av he aS af;obtain ⟨res,cd,b_⟩:=yn ax aQ h8 av aS es ents' (i+1) r h a7;exact ⟨res,by simp [Instr.findAsking,q,cd],b_.step⟩
   ·simp at h
theorem mN {t:TypeId} {k:I} {x:Value} (h:kK P t=true) (av:isKey P t k=true) (aj:Rel J S w k x) {es:List (Nat×I×I)} {bz:List MapEntry} {r:Option Nat} (aQ:fB k es 0=some r) (he:gm J S w es bz) :
  ∃ res,(Instr.findKey t x bz).run P w=.ok res w∧hQ k es bz 0 r res:=by
 rcases za h with ⟨q,a4⟩ | ⟨bG,ai,hi,cL⟩
 ·unfold isKey at av;simp only [a4] at av;split at av
  ·rename_i q1 aX n aY;obtain ⟨res,cd,b_⟩:=yp (q0:=q) es bz 0 r aQ he;rw [aj.dd];exact ⟨res,by simp [Instr.findKey,run_underlying a4,cd],b_⟩
  ·rename_i aY;cases aY
  ·simp at av
 ·obtain ⟨res,cd,b_⟩:=yn ai hi cL av aj es bz 0 r aQ he;have ck:∃ V,x=.agg V:=by
   unfold isKey at av;simp only [ai] at av;split at av
   ·rename_i aY;cases aY
   ·cases aj with | agg as vs=>exact ⟨_,rfl⟩
   ·simp at av
  obtain ⟨V,rfl⟩:=ck;cases bz with
  | nil =>
    refine ⟨res,?_,b_⟩;simp [Instr.findAsking] at cd;subst cd;simp [Instr.findKey,run_underlying ai,Instr.findNow]
  | cons y ys =>
    refine ⟨res,?_,b_⟩
    have:Instr.findNow (.struct bG) (.agg V) (y::ys) 0=none:=by simp [Instr.findNow,Instr.sameNow]
    simp [Instr.findKey,run_underlying ai,this,cd]
theorem yD (w:World) (o:Obj):(w.alloc o).heap[w.heap.size]?=some o:=by
 have e:(w.alloc o).heap=w.heap.push o:=rfl;rw [e];simp
theorem i' {b:Nat} {bz:Array MapEntry} {clock:Nat} (h:w.heap[b]?=some (.map bz clock)):(getObj b).run P w=.ok (.map bz clock) w:=by simp [getObj,Sem.run,h]
theorem n9 {b:Nat} {o:Obj} {bz:Array MapEntry} {clock:Nat} (h:w.heap[b]?=some (.map bz clock)):(setObj b o).run P w=.ok () (w.putObj b o):=by simp [setObj,Sem.run,h,World.putObj]
theorem DV (ah:aL B U J S w H):aL B (lay U w.heap.size (.obj H.length)) (J++[w.heap.size]) S (w.alloc (.map #[] 0)) (H++[.map [] 0]) :=
 (nw ah (.map #[] 0) (.obj H.length)).push w.heap.size ⟨w.heap.size,#[],Ext.last ah _,by simp [lay],yD w _,rfl,mz ah,by simp⟩
theorem Fk (ah:aL B U J S w H) {t:TypeId} {r:Option Operand} {u:I} {H':List au} (h:kW P t r H=some (u,H')) :
  ∃ x w',(Instr.makeMap t (none:Option Value)).run P w=.ok x w'∧r=none∧a2 B U J S w H' u x w':=by
 unfold kW at h;split at h
 ·cases h;exact ⟨_,_,by simp only [Instr.makeMap,Sem.run_bind,Sem.run_pure,run_newObj_alloc,Result.andThen_ok],rfl,_,_,S,Ext.append J _,kk ah _ _,DV ah,.map _ _ (Ext.last ah _),aW.b5 rfl⟩
 ·simp at h
theorem xd {t ea iE:TypeId} (h:jS P t=some (ea,iE)):P.underlying t=some (.map ea iE)∧kK P ea=true:=by
 unfold jS at h;split at h
 ·split at h
  ·cases h;exact ⟨by assumption,by assumption⟩
  ·cases h
 ·cases h
theorem Fo (ah:aL B U J S w H) {lo:Nat} {t:TypeId} {m k v u:I} {H':List au} {x y z:Value} (h:iZ P lo t H [m,k,v]=some (u,H'))
  (e0:Rel J S w m x) (bP:Rel J S w k y) (zJ:k.plain=true) (n_:Rel J S w v z) (zS:v.plain=true) (c:Value) :
  ∃ w',(Instr.mapUpdate t x y z).run P w=.ok () w'∧a2 B U J S w H' u c w':=by
 unfold iZ at h;split at h
 ·rename_i id k' bu heq;cases heq;split at h
  ·rename_i ea iE ax;obtain ⟨ax,av⟩:=xd ax;split at h
   ·rename_i hx;split at h
    ·split at h
     ·rename_i es clock aE;obtain ⟨b,bz,aB,aH,aR,bl,bc,bg⟩:=ah.obj _ _ aE;cases e0 with
      | map _ ar eW =>
        rw [aB] at eW;cases eW;have he:gm J S w es bz.toList:=⟨by simpa using bl,fun j i k v x hu al=>bg j i k v x hu (by simpa using al)⟩;have iI:=xH (P:=P) av hx bP false;split at h
        ·rename_i n aQ;cases h;obtain ⟨res,cd,e,x,_,b_,dZ,rfl,hq⟩:=mN (P:=P) av hx bP aQ he;simp only [vd,uL] at b_ dZ;obtain ⟨oN,oO,dc⟩:=e;obtain ⟨ba,bm,bt,b9,dX⟩:=bg n oN oO dc x b_ dZ;have cL:=Dl (P:=P) hq bP bt;obtain ⟨aA,cf⟩:=nM ah aE (es':=es.modify n fun e=>(e.1,k,v)) (clock':=clock) (ents':=bz.modify n fun e=>{ e with key:=y,val:=z }) aB aH bc (by simp [bl]) fun j i de v0 jg hu al=>by
          rw [List.getElem?_modify] at hu;rw [Array.getElem?_modify] at al;by_cases aw:n=j
          ·subst aw;simp only [b_,dZ,if_true,sc,Option.map_eq_map,Option.some.injEq,Prod.mk.injEq] at hu al;obtain ⟨rfl,rfl,rfl⟩:=hu;subst al;exact ⟨ba,zJ,bP,zS,n_⟩
          ·simp only [aw,if_false,id_map'] at hu al;exact bg j i de v0 jg (by simpa using hu) (by simpa using al)
         refine ⟨_,?_,U,J,S,Ext.refl J,aA,cf,.junk _,aW.b5 rfl⟩;simp only [Instr.mapUpdate,Sem.run_bind,run_underlying ax,Result.andThen_ok,i' aR,iI,cd,dZ,sc,uq,cL,n9 aR]
        ·rename_i aQ;cases h;obtain ⟨res,cd,b_⟩:=mN (P:=P) av hx bP aQ he;simp only [hQ] at b_;subst b_;obtain ⟨aA,cf⟩:=nM ah aE (es':=es++[(clock,k,v)]) (clock':=clock+1) (ents':=bz.push { key:=y,val:=z,born:=clock }) aB aH bc (by simp [bl]) fun j i de v0 jg hu al=>by
          rw [Array.getElem?_push] at al;split at al
          ·rename_i aw;rw [aw,bl,sB (rX _)] at hu;simp at hu al;obtain ⟨rfl,rfl,rfl⟩:=hu;subst al;exact ⟨rfl,zJ,bP,zS,n_⟩
          ·rename_i aw;have aV:j<bz.size:=(sS.1 al).1;rw [se (by omega)] at hu;exact bg j i de v0 jg hu al
         refine ⟨_,?_,U,J,S,Ext.refl J,aA,cf,.junk _,aW.b5 rfl⟩;simp only [Instr.mapUpdate,Sem.run_bind,run_underlying ax,Result.andThen_ok,i' aR,iI,cd,n9 aR]
        ·cases h
     ·cases h
    ·cases h
   ·cases h
  ·cases h
 ·cases h
theorem FY {t:TypeId} {u:I} (h:ot P t=some u):∃ v,(zeroValue t).run P w=.ok v w∧Rel J S w u v∧u.plain=true:=by
 unfold ot at h;simp only [sb] at h;obtain ⟨v,⟨i,hi,ae⟩,h⟩:=h;refine ⟨v,j5 hi ae,?_⟩;split at h
 ·rename_i cs;split at h
  ·rename_i c';cases h;refine ⟨.agg _ _ (by simp) (fun u hu=>?_) (fun v ae=>by simp only [ss] at c';exact c' v ae) (fun j u v hu ae=>?_),rfl⟩
   ·obtain ⟨x,_,rfl⟩:=sq.1 hu;exact m1 x
   ·rw [sm,uL,ae] at hu;simp at hu;subst hu;exact lv _ _ _ _
  ·cases h
 ·cases h;exact ⟨lv _ _ _ _,m1 _⟩
theorem Fj (ah:aL B U J S w H) {t:TypeId} {ok:Bool} {m k u:I} {H':List au} {x y:Value} (h:ie P t ok H [m,k]=some (u,H'))
  (e0:Rel J S w m x) (bP:Rel J S w k y) :
  ∃ v,(Instr.lookup t x y ok).run P w=.ok v w∧a2 B U J S w H' u v w:=by
 unfold ie at h;split at h
 ·rename_i id k' heq;cases heq;split at h
  ·rename_i ea iE ax;obtain ⟨ax,av⟩:=xd ax;split at h
   ·rename_i es clock hx aE;obtain ⟨b,bz,aB,aH,aR,bl,bc,bg⟩:=ah.obj _ _ aE;cases e0 with
    | map _ ar eW =>
      rw [aB] at eW;cases eW;have he:gm J S w es bz.toList:=⟨by simpa using bl,fun j i k v x hu al=>bg j i k v x hu (by simpa using al)⟩;have iI:=xH (P:=P) av hx bP bz.isEmpty;split at h
      ·rename_i r aQ;simp only [rU,Prod.mk.injEq] at h;obtain ⟨v,ae,rfl,rfl⟩:=h;obtain ⟨res,cd,b_⟩:=mN (P:=P) av hx bP aQ he;have fin:∀ (z:Value) (b:Bool),Rel J S w v z→v.plain=true →
         a2 B U J S w H (if ok then .tuple [v,.bool b] else v) (if ok then .tuple #[z,.bool b] else z) w:=fun z b aj aC=>by
        cases ok with
        | true=>exact a2.same ah (.tuple _ _ rfl (fun u hu=>by simp only [sf,List.not_mem_nil,or_false] at hu;rcases hu with rfl | rfl;exact aC;rfl) fun j u bu hu bd=>by
          match j with
          | 0=>simp at hu bd;subst hu;subst bd;exact aj
          | 1=>simp at hu bd;subst hu;subst bd;exact .bool _
          | j+2=>simp at hu) rfl
        | false=>exact a2.same ah aj aC
       cases r with
       | none =>
         simp only [hQ] at b_;subst b_;obtain ⟨z,x0,oq,FX⟩:=FY (J:=J) (S:=S) (w:=w) ae;exact ⟨_,by simp only [Instr.lookup,Sem.run_bind,run_underlying ax,Result.andThen_ok,i' aR,Sem.run_pure,iI,cd,x0],fin z false oq FX⟩
       | some n =>
         obtain ⟨e,x,_,aX,cB,rfl,dQ⟩:=b_;simp only [vd,uL] at aX cB;obtain ⟨oN,oO,dc⟩:=e;obtain ⟨ba,bm,bt,b9,dX⟩:=bg n oN oO dc x aX cB;simp only [rW,aX,Option.some.injEq] at ae;subst ae;exact ⟨_,by simp only [Instr.lookup,Sem.run_bind,run_underlying ax,Result.andThen_ok,i' aR,Sem.run_pure,iI,cd],fin x.val true dX b9⟩
      ·cases h
   ·cases h
  ·cases h
 ·cases h
theorem Fe (ah:aL B U J S w H) {lo:Nat} {ts:Array TypeId} (ty:TypeId) {m k u:I} {H':List au} {x y:Value} (h:hC P lo ts H [m,k]=some (u,H'))
  (e0:Rel J S w m x) (bP:Rel J S w k y) :
  ∃ v w',(Builtin.delete_ ts ty #[x,y]).run P w=.ok v w'∧a2 B U J S w H' u v w':=by
 unfold hC at h;split at h
 ·rename_i id k' heq;cases heq;split at h
  ·rename_i ea iE ax;simp only [sb] at ax;obtain ⟨t,g4,ax⟩:=ax;obtain ⟨ax,av⟩:=xd ax;split at h
   ·rename_i hx;split at h
    ·split at h
     ·rename_i es clock aE;obtain ⟨b,bz,aB,aH,aR,bl,bc,bg⟩:=ah.obj _ _ aE;cases e0 with
      | map _ ar eW =>
        rw [aB] at eW;cases eW;have he:gm J S w es bz.toList:=⟨by simpa using bl,fun j i k v x hu al=>bg j i k v x hu (by simpa using al)⟩;have iI:=xH (P:=P) av hx bP bz.isEmpty;have A9:∀ (w:World),Rel J S w (.tuple []) (.tuple #[]):=fun w=>.tuple _ _ rfl (by simp) (by simp);split at h
        ·rename_i n aQ;cases h;obtain ⟨res,cd,e,x,_,b_,dZ,rfl,hq⟩:=mN (P:=P) av hx bP aQ he;obtain ⟨aA,cf⟩:=nM ah aE (es':=es.eraseIdx n) (clock':=clock) (ents':=bz.eraseIdxIfInBounds n) aB aH bc (by rw [←tt,Array.toList_eraseIdxIfInBounds];simp [List.length_eraseIdx,bl]) fun j i de v0 jg hu al=>by
          rw [←uL,Array.toList_eraseIdxIfInBounds] at al;rw [List.getElem?_eraseIdx] at hu al;by_cases aw:j<n
          ·simp only [aw,if_true] at hu al;exact bg j i de v0 jg hu (by simpa using al)
          ·simp only [aw,if_false] at hu al;exact bg _ i de v0 jg hu (by simpa using al)
         refine ⟨_,_,?_,U,J,S,Ext.refl J,aA,cf,A9 _,aW.b5 rfl⟩;simp only [Builtin.delete_,g4,vB,ua,u7,Sem.run_bind,run_underlying ax,Result.andThen_ok,i' aR,iI,cd,n9 aR,Sem.run_pure]
        ·rename_i aQ;cases h;obtain ⟨res,cd,b_⟩:=mN (P:=P) av hx bP aQ he;simp only [hQ] at b_;subst b_;obtain ⟨aA,cf⟩:=nM ah aE (es':=es) (clock':=clock) (ents':=bz) aB aH bc bl bg;have C_:H.set id (.map es clock)=H:=tM fun j=>by
          by_cases aw:id=j
          ·subst aw;rw [rY (rV.1 aE).1,aE]
          ·rw [sa aw]
         rw [C_] at cf;refine ⟨_,_,?_,U,J,S,Ext.refl J,aA,cf,A9 _,aW.b5 rfl⟩;simp only [Builtin.delete_,g4,vB,ua,u7,Sem.run_bind,run_underlying ax,Result.andThen_ok,i' aR,iI,cd,n9 aR,Sem.run_pure]
        ·cases h
     ·cases h
    ·cases h
   ·cases h
  ·cases h
 ·cases h
theorem Fu (ah:aL B U J S w H) {t:TypeId} {m u:I} {H':List au} {x:Value} (h:kX P t H [m]=some (u,H')) (e0:Rel J S w m x) :
  ∃ v w',(Instr.range t x).run P w=.ok v w'∧a2 B U J S w H' u v w':=by
 unfold kX at h;split at h
 ·rename_i id heq;cases heq;split at h
  ·rename_i ea iE es clock ax aE;cases h;obtain ⟨b,bz,aB,aH,aR,bl,bc,bg⟩:=ah.obj _ _ aE;cases e0 with
   | map _ ar eW =>
     rw [aB] at eW;cases eW;refine ⟨.pointer (some ⟨w.heap.size,0,none⟩),w.alloc (.mapIter (some b) clock #[] clock),by simp only [Instr.range,Sem.run_bind,run_underlying ax,Result.andThen_ok,i' aR,Sem.run_pure,run_newObj_alloc],_,_,S,Ext.append J _,kk ah _ (.obj H.length),?_,.ptr _ _ _ (Ext.last ah _),aW.b5 rfl⟩;exact (nw ah _ (.obj H.length)).push w.heap.size ⟨w.heap.size,b,Ext.last ah _,by simp [lay],Ext.append J _ _ _ aB,yD w _,mz ah⟩
  ·cases h
 ·cases h
theorem yo {J:List Nat} {S:Nat→Nat→Prop} {w:World} (gh:Nat):∀ (es:List (Nat×I×I)) (bz:List MapEntry) (e:Nat×I×I),gm J S w es bz→es.find? (fun e=>e.1 == gh)=some e →
  ∃ x,bz.find? (fun x=>x.born == gh)=some x∧Rel J S w e.2.1 x.key∧Rel J S w e.2.2 x.val∧e.2.1.plain=true∧e.2.2.plain=true
 | [],bz,e,aj,h=>by simp at h
 | fT::es,bz,e,aj,h=>by
   have aT:=aj;obtain ⟨x,ents',rfl,ad,af,aG,a7⟩:=aj.cons;obtain ⟨_,bT,_,b6,_⟩:=aT.2 0 fT.1 fT.2.1 fT.2.2 x rfl rfl;rw [List.find?_cons] at h ⊢;rw [ad];split at h
   ·rename_i ag;cases h;exact ⟨x,by simp,af,aG,bT,b6⟩
   ·rename_i ag;obtain ⟨oo,g⟩:=yo gh es ents' e a7 h;exact ⟨oo,by simp [g.1],g.2⟩
theorem Ff (ah:aL B U J S w H) {m u:I} {H':List au} {x:Value} (h:kV H [m]=some (u,H')) (e0:Rel J S w m x) :
  ∃ v,(Instr.entry x).run P w=.ok v w∧a2 B U J S w H' u v w:=by
 unfold kV at h;split at h
 ·rename_i r heq;cases heq;split at h
  ·rename_i m since seen j_ aE;split at h
   ·rename_i gh es clock cL CK;split at h
    ·rename_i ao;subst ao;split at h
     ·rename_i e he;cases h;obtain ⟨b,ed,aB,aH,aR,bl,bc⟩:=ah.obj _ _ aE;obtain ⟨ar,bz,ba,bm,bt,b9,dX,fR⟩:=ah.obj _ _ CK;rw [aR] at ba;cases ba;cases e0 with
      | ptr _ _ ar eW =>
        rw [aB] at eW;cases eW;have aj:gm J S w es bz.toList:=⟨by simpa using b9,fun j i k v x hu al=>fR j i k v x hu (by simpa using al)⟩;obtain ⟨y,cd,b_,dZ,hq,B2⟩:=yo gh es bz.toList e aj he;(have ag:(seen.toArray).back?=some gh:=by simpa using cL);have aO:(getObj b).run P w=.ok (.mapIter (some ed) since seen.toArray clock) w:=by simp [getObj,Sem.run,bl]
        refine ⟨.tuple #[y.key,y.val],?_,a2.same ah (.tuple _ _ rfl (by simp [hq,B2]) fun j u bu hu bd=>by
          match j with
          | 0=>simp at hu bd;subst hu;subst bd;exact b_
          | 1=>simp at hu bd;subst hu;subst bd;exact dZ
          | j+2=>simp at hu) rfl⟩
        (have aQ:bz.find? (fun x=>x.born == gh)=some y:=by rw [←Array.find?_toList];exact cd);simp [Instr.entry,aO,ag,i' bt,aQ]
     ·cases h
    ·cases h
   ·cases h
  ·cases h
 ·cases h
end
end Go.Proofs.YtfakoboiahbhaaaGreat.Ab


namespace Go.Proofs.YtfakoboiahbhaaaGreat.Ab
open Go
section
variable {P:Program} {B:Nat} {J:List Nat} {w:World} {H:List au} {U:Nat→Option aI} {S:Nat→Nat→Prop}
theorem zK (ah:aL B U J S w H) {id off len sz n:Nat} {cap:Option Nat} {row:List I} {v:Value} (cU:rowOf H (.ref id off len cap sz)=some row) (aN:lenOf (.ref id off len cap sz)=some n)
  (aj:Rel J S w (.ref id off len cap sz) v) :
  a2 B U J S w (H.set id .dead) (.ay row n (gW cap n)) v w:=by
 classical
 simp [lenOf] at aN;subst aN;cases aj with
 | ref _ _ _ _ _ b gx ag ao hle =>
   unfold rowOf at cU;simp only at cU;split at cU
   ·rename_i l aE;split at cU
    ·rename_i dH;simp only [Option.some.injEq] at cU;obtain ⟨ar,cur,e,aB,aH,aR,bl,bc,bg⟩:=ah.obj id _ aE;rw [ag] at aB;cases aB
     let S':Nat→Nat→Prop:=fun ar o=>S ar o∨(ar=b∧o<cur.size)
     let az:Nat→Option aI:=fun ar=>if ar=b then none else U ar
     have bx:∀ o,o<cur.size→w.cell? ⟨b,o,none⟩=cur[o]?:=fun o aq=>by
      simp [World.cell?,aR,aq]
     have aA:bh U S w az S' w:=⟨rfl,rfl,rfl,rX _,fun _ _ _=>rfl,fun _ _ h=>⟨.inl h,rfl⟩,fun ar o h=>by
       rcases h with h | ⟨rfl,_⟩
       ·exact .inl h
       ·exact .inr (.inl (by simp [aH])),fun ar br=>by
       by_cases dG:ar=b
       ·simp [az,dG] at br
       ·simp only [az,dG,if_false] at br;exact .inl br⟩
     have bY:aL B az J S' w (H.set id .dead):=by
      refine ⟨by simpa using ah.cG,fun bA o aq=>?_,fun ar o h=>?_,fun ar l' br=>?_,ah.cZ⟩
      ·by_cases cw:bA=id
       ·subst cw
        have:o=.dead:=by
         have:=(rV.1 aE).1;simp [this] at aq;exact aq.symm
        subst this;trivial
       ·rw [sa (Ne.symm cw)] at aq;refine (ah.obj bA o aq).frame (Ext.refl J) aA.set (fun ar l' br ak=>?_);have bO:ar≠b:=fun e=>by
         subst e;rw [aH] at br;cases br;rcases ak with h | ⟨j,h⟩
         ·cases h;exact cw rfl
         ·cases h
        exact ⟨by simp [az,bO,br],rfl,fun o h=>h.resolve_right fun h=>bO h.1⟩
      ·rcases h with h | ⟨rfl,h⟩
       ·exact ah.ch _ _ h
       ·exact ⟨_,(bx o h).trans (sv h)⟩
      ·by_cases dG:ar=b
       ·simp [az,dG] at br
       ·simp only [az,dG,if_false] at br;exact ah.base _ _ br
     (have hlen:row.length=len*sz:=by subst cU;simp;omega);refine ⟨az,J,S',Ext.refl J,aA,bY,.ay row len _ b off gx (fun j=>cur.getD (off+j) undef) (fun h=>?_) hle (fun z h=>?_) (fun j u aw=>?_) (fun j u aw=>?_),aW.b5 ?_⟩
     ·unfold gW at h;cases cap with
      | none=>simp at h
      | some c =>
        simp only at h;split at h
        ·rename_i cE;rw [ao c rfl,cE]
        ·cases h
     ·unfold gW at h;cases cap with
      | none=>simp at h
      | some c=>simp only at h;split at h <;> cases h
     all_goals (try (
      have h1:=(rV.1 aw).1;(have fm:off+j<l.length:=by omega);(have e_:off+j<cur.size:=by omega);have al:l[off+j]?=some l[off+j]:=sd fm;have ae:cur[off+j]?=some cur[off+j]:=sv e_;(have aO:cur.getD (off+j) undef=cur[off+j]:=by simp [e_]);have hu:u=l[off+j].view:=by
       subst cU;rw [sm,sR,if_pos (by simp at h1;omega),sY,al] at aw;simpa using aw.symm
      obtain ⟨ba,bm,bt,b9⟩:=bg (off+j) _ _ al ae
      subst hu))
     ·exact ⟨.inr ⟨rfl,e_⟩,by rw [bx _ e_,ae,aO],I.dh _,by rw [aO];exact bm⟩
     ·rw [aO];exact (bt.view ba).mono (Ext.refl J) aA.set
     ·unfold gW;cases cap with
      | none=>rfl
      | some c=>simp only;split <;> rfl
    ·simp at cU
   ·simp at cU
theorem AW (ah:aL B U J S w H) {t e:TypeId} (ax:P.underlying t=some (.slice e)) {id off n z:Nat} {l c:List I} (aE:H[id]?=some (.cells l)) (cY:l[off]?=some (.ay c n (.own z))) {v:Value}
  (aj:Rel J S w (.ptr id off) v) :
  ∃ x,(Instr.loadAt t v).run P w=.ok x w∧a2 B U J S w (H.set id (.cells (l.set off (.ay c n .shared)))) (.ay c n (.own z)) x w:=by
 classical
 have ck:dJ P t=false:=by simp [dJ,ax]
 obtain ⟨b,cur,cO,aB,aH,aR,bl,bc,bg⟩:=ah.obj id _ aE;cases aj with
 | ptr _ _ ar ag =>
   rw [aB] at ag;cases ag;have aw:off<l.length:=(rV.1 cY).1;(have fm:off<cur.size:=by omega);have iJ:cur[off]?=some cur[off]:=sv fm;obtain ⟨ba,bm,bt,b9⟩:=bg off _ _ cY iJ;(have bx:w.cell? ⟨b,off,none⟩=some cur[off]:=by rw [cell_of_row w b _ cur cO (0,0) aR,iJ]);refine ⟨cur[off],by simp [Instr.loadAt,Instr.sureAddr,loadVar,gI ax,ck,load,Sem.run,bx],?_⟩
   let az:Nat→Option aI:=fun ar=>if U ar=some (.cell id off) then some .res else U ar
   have aA:bh U S w az S w:=⟨rfl,rfl,rfl,rX _,fun _ _ _=>rfl,fun _ _ h=>⟨h,rfl⟩,fun _ _ h=>.inl h,fun b ag=>.inl fun aT=>ag (by simp [az,aT])⟩;have av:∀ ar l',U ar=some l'→l'≠.cell id off→az ar=some l':=fun ar l' ad af=>by
    have:¬ U ar=some (.cell id off):=by rw [ad];intro e;cases e;exact af rfl
    simp [az,ad,af]
   refine ⟨az,J,S,Ext.refl J,aA,⟨by simpa using ah.cG,fun bA o aq=>?_,ah.ch,fun ar l' br=>?_,ah.cZ⟩,bt,b9.mono (Ext.refl J) aA.set fun ar br=>⟨by simp [az,br],rfl,fun _ h=>h⟩⟩
   ·by_cases cw:bA=id
    ·subst cw;rw [rY (rV.1 aE).1] at aq;cases aq;refine ⟨b,cur,cO,aB,av b _ aH (by simp),aR,by simpa using bl,bc,fun j u v hu ae=>?_⟩;by_cases hy:j=off
     ·subst hy;rw [rY aw] at hu;cases hu;obtain ⟨cd,b_,dZ,_⟩:=bg j _ _ cY ae;exact ⟨rfl,b_,dZ.view cd,aW.b5 rfl⟩
     ·rw [sa (Ne.symm hy)] at hu;obtain ⟨d1,d2,d3,d4⟩:=bg j u v hu ae;exact ⟨d1,d2,d3,d4.mono (Ext.refl J) aA.set fun ar br=>⟨av ar _ br (by simp [hy]),rfl,fun _ h=>h⟩⟩
    ·rw [sa (Ne.symm cw)] at aq;refine (ah.obj bA o aq).frame (Ext.refl J) aA.set (fun ar l' br ak=>⟨av ar l' br ?_,rfl,fun _ h=>h⟩);rcases ak with rfl | ⟨j,rfl⟩
     ·simp
     ·simp [cw]
   ·by_cases h:U ar=some (.cell id off)
    ·exact ah.base ar _ h
    ·simp only [az,h,if_false] at br;exact ah.base ar l' br
theorem AX (ah:aL B U J S w H) {t e:TypeId} (ax:P.underlying t=some (.slice e)) {id off n z:Nat} {l c:List I} (aE:H[id]?=some (.cells l)) (cY:l[off]?=some (.raw c n z)) {v:Value}
  (aj:Rel J S w (.ptr id off) v) :
  ∃ b x,J[id]?=some b∧w.cell? ⟨b,off,none⟩=some x∧x.oneCell'=true∧(Instr.loadAt t v).run P w=.ok x w∧a2 B U J S w (H.set id (.cells (l.set off .junk))) (.ay c n (.uniq z)) x w:=by
 classical
 have ck:dJ P t=false:=by simp [dJ,ax]
 obtain ⟨b,cur,cO,aB,aH,aR,bl,bc,bg⟩:=ah.obj id _ aE;cases aj with
 | ptr _ _ ar ag =>
   rw [aB] at ag;cases ag;have aw:off<l.length:=(rV.1 cY).1;(have fm:off<cur.size:=by omega);have iJ:cur[off]?=some cur[off]:=sv fm;obtain ⟨ba,bm,bt,b9⟩:=bg off _ _ cY iJ;obtain ⟨FH,FI⟩:=Ef bt b9;(have bx:w.cell? ⟨b,off,none⟩=some cur[off]:=by rw [cell_of_row w b _ cur cO (0,0) aR,iJ]);refine ⟨b,cur[off],aB,bx,bm,by simp [Instr.loadAt,Instr.sureAddr,loadVar,gI ax,ck,load,Sem.run,bx],?_⟩
   let az:Nat→Option aI:=fun ar=>if U ar=some (.cell id off) then some .res else U ar
   have aA:bh U S w az S w:=⟨rfl,rfl,rfl,rX _,fun _ _ _=>rfl,fun _ _ h=>⟨h,rfl⟩,fun _ _ h=>.inl h,fun b ag=>.inl fun aT=>ag (by simp [az,aT])⟩;have av:∀ ar l',U ar=some l'→l'≠.cell id off→az ar=some l':=fun ar l' ad af=>by
    have:¬ U ar=some (.cell id off):=by rw [ad];intro e;cases e;exact af rfl
    simp [az,ad,af]
   refine ⟨az,J,S,Ext.refl J,aA,⟨by simpa using ah.cG,fun bA o aq=>?_,ah.ch,fun ar l' br=>?_,ah.cZ⟩,FH,FI.mono (Ext.refl J) aA.set fun ar br=>⟨by simp [az,br],rfl,fun _ h=>h⟩⟩
   ·by_cases cw:bA=id
    ·subst cw;rw [rY (rV.1 aE).1] at aq;cases aq;refine ⟨b,cur,cO,aB,av b _ aH (by simp),aR,by simpa using bl,bc,fun j u v hu ae=>?_⟩;by_cases hy:j=off
     ·subst hy;rw [rY aw] at hu;cases hu;obtain ⟨cd,b_,dZ,_⟩:=bg j _ _ cY ae;exact ⟨rfl,b_,.junk _,aW.b5 rfl⟩
     ·rw [sa (Ne.symm hy)] at hu;obtain ⟨d1,d2,d3,d4⟩:=bg j u v hu ae;exact ⟨d1,d2,d3,d4.mono (Ext.refl J) aA.set fun ar br=>⟨av ar _ br (by simp [hy]),rfl,fun _ h=>h⟩⟩
    ·rw [sa (Ne.symm cw)] at aq;refine (ah.obj bA o aq).frame (Ext.refl J) aA.set (fun ar l' br ak=>⟨av ar l' br ?_,rfl,fun _ h=>h⟩);rcases ak with rfl | ⟨j,rfl⟩
     ·simp
     ·simp [cw]
   ·by_cases h:U ar=some (.cell id off)
    ·exact ah.base ar _ h
    ·simp only [az,h,if_false] at br;exact ah.base ar l' br
theorem C2 (ah:aL B U J S w H) {id off b:Nat} {l:List I} (aE:H[id]?=some (.cells l)) (ag:J[id]?=some b) {u:I} {x:Value} (al:w.cell? ⟨b,off,none⟩=some x) (ad:x.oneCell'=true) (aC:u.plain=true) (aj:Rel J S w u x) :
  aL B U J S w (H.set id (.cells (l.set off u))):=by
 refine ⟨by simpa using ah.cG,fun bA o aq=>?_,ah.ch,ah.base,ah.cZ⟩;by_cases cw:bA=id
 ·subst cw;rw [rY (rV.1 aE).1] at aq;cases aq;obtain ⟨ar,cur,cO,aB,aH,aR,bl,bc,bg⟩:=ah.obj bA _ aE;rw [ag] at aB;cases aB;refine ⟨b,cur,cO,ag,aH,aR,by simpa using bl,bc,fun j y v hu ae=>?_⟩;by_cases hy:off=j
  ·subst hy;(have aV:off<l.length:=by have:=(rV.1 hu).1;simpa using this);rw [rY aV] at hu;cases hu;rw [cell_of_row w b _ cur cO (0,0) aR,ae] at al;cases al;exact ⟨I.ga aC,ad,aj,aW.b5 aC⟩
  ·rw [sa hy] at hu;exact bg j y v hu ae
 ·rw [sa (Ne.symm cw)] at aq;exact ah.obj bA o aq
theorem Fy (ah:aL B U J S w H) {t e:TypeId} (ax:P.underlying t=some (.slice e)) {id off n z:Nat} {l c:List I} (aN:n≠0) (aE:H[id]?=some (.cells l)) (cY:l[off]?=some (.raw c n z)) {v:Value}
  (aj:Rel J S w (.ptr id off) v) :
  ∃ x,(Instr.loadAt t v).run P w=.ok x w∧a2 B U J S w (H.set id (.cells (l.set off (.ref H.length 0 n none z)))++[.cells c]) (.ref H.length 0 n none z) x w:=by
 obtain ⟨b,x,ad,af,aG,a7,b4,cS,a5,aJ,aP,cl,jP,Di⟩:=AX ah ax aE cY aj;refine ⟨x,a7,?_⟩;obtain ⟨bp,cj,bJ,df,dg,jQ,kO,zn⟩:=zN cl (l:=.res) (by simp) (by simp) aN jP Di;rw [List.length_set] at kO zn;have aV:=(rV.1 aE).1;have fl:cj[id]?=some b:=df _ _ (aJ _ _ ad);have pn:(H.set id (au.cells (l.set off .junk))++[au.cells c])[id]?=some (au.cells (l.set off .junk)):=by
  rw [se (by simpa using aV),rY aV]
 have al:=C2 jQ pn fl af aG (u:=.ref H.length 0 n none z) rfl kO;have e:(H.set id (au.cells (l.set off .junk))++[au.cells c]).set id (au.cells ((l.set off .junk).set off (.ref H.length 0 n none z)))=H.set id (au.cells (l.set off (.ref H.length 0 n none z)))++[au.cells c]:=by
  rw [List.set_append_left _ _ (by simpa using aV),rZ,rZ]
 rw [e] at al;exact ⟨bp,cj,bJ,aJ.trans df,aP.trans dg,al,kO,zn⟩
theorem Df {x:Operand} (h:iR x=true):x=.const (.slice none 0 0):=by
 unfold iR at h;split at h
 ·rfl
 ·simp at h
theorem eO (i:Nat):∀ id,aI.arg i≠.obj id:=fun _=>by simp
theorem eP (i:Nat):∀ id j,aI.arg i≠.cell id j:=fun _ _=>by simp
theorem Ea (ah:aL B U J S w H) {id gid n z:Nat} {l:List I} (aE:H[id]?=some (.grow l gid z)) (aN:n*z≤l.length) (aC:(l.take (n*z)).all I.plain=true) {v:Value} (aj:Rel J S w (.cn id gid n z) v) :
  a2 B U J S w (H.set id .dead) (.ay (l.take (n*z)) n (.uniq z)) v w:=by
 classical
 rw [ss] at aC;obtain ⟨b,cur,e,aB,aH,aR,bl,bc,bg,cap,c2,db,dE,fw⟩:=ah.obj id _ aE;cases aj with
 | cn _ _ _ _ ar cap' ag aO hle =>
   rw [aB] at ag;cases ag;rw [c2] at aO;cases aO
   let az:Nat→Option aI:=fun ar=>if U ar=some (.obj id) then some .res else U ar
   have aA:bh U S w az S w:=⟨rfl,rfl,rfl,rX _,fun _ _ _=>rfl,fun _ _ h=>⟨h,rfl⟩,fun _ _ h=>.inl h,fun b ag=>.inl fun aT=>ag (by simp [az,aT])⟩;have av:∀ ar l',U ar=some l'→l'≠.obj id→az ar=some l':=fun ar l' ad af=>by
    have:¬ U ar=some (.obj id):=by rw [ad];intro e;cases e;exact af rfl
    simp [az,ad,af]
   refine ⟨az,J,S,Ext.refl J,aA,⟨by simpa using ah.cG,fun bA o aq=>?_,ah.ch,fun ar l' br=>?_,ah.cZ⟩,.cM _ _ _ _ _ _,.inr ⟨by simp [az,aH],rfl,hle,db,dE,by simp;omega,⟨cur,e,aR,fw,fun j u v hu ae=>?_⟩,bc⟩⟩
   ·by_cases cw:bA=id
    ·subst cw;rw [rY (rV.1 aE).1] at aq;cases aq;trivial
    ·rw [sa (Ne.symm cw)] at aq;refine (ah.obj bA o aq).frame (Ext.refl J) aA.set (fun ar l' br ak=>⟨av ar l' br ?_,rfl,fun _ h=>h⟩);rcases ak with rfl | ⟨j,rfl⟩
     ·simp [cw]
     ·simp
   ·by_cases h:U ar=some (.obj id)
    ·exact ah.base ar _ h
    ·simp only [az,h,if_false] at br;exact ah.base ar l' br
   ·have ca:u∈l.take (n*z):=sA hu;rw [sR] at hu;split at hu
    ·obtain ⟨_,bm,bt,_⟩:=bg j u v hu ae;exact ⟨aC u ca,bm,bt⟩
    ·simp at hu
theorem AV (ah:aL B U J S w H) {aU:Operand→Value} (eM:∀ v,aU (.const v)=v) {lo mode:Nat} {t:TypeId} {x:Operand} {us:List I} {r:I} {H':List au}
  (h:eR P lo mode t x H us=some (r,H')) (ae:a_ (fun i=>.arg i) U J S w us ([x].map aU)):a2 B U J S w H' r (aU x) w:=by
 obtain ⟨u,rfl,aS,bC⟩:=a_.one ae;unfold eR at h;simp only at h;split at h
 ·split at h
  ·rename_i aN ax;simp only [rU,Prod.mk.injEq] at h;obtain ⟨z,_,rfl,rfl⟩:=h;rw [Df aN,eM];exact ⟨U,J,S,Ext.refl J,bh.refl U S w,ah,.b3 _ _,trivial⟩
  ·cases h;exact ih ah (eO _) (eP _) aS bC
 ·split at h
  ·rename_i cells len z;split at h
   ·cases h;exact ih ah (eO _) (eP _) aS bC
   ·rename_i aT;cases h;exact zN ah (eO _) (eP _) aT aS bC
  ·cases h;exact ih ah (eO _) (eP _) aS bC
  ·cases h;exact ih ah (eO _) (eP _) aS bC
  ·simp at h
 ·split at h
  ·rename_i id gid n z;split at h
   ·split at h
    ·rename_i l g cW aE;split at h
     ·rename_i ao;obtain ⟨rfl,rfl,ad,af⟩:=ao;cases h;exact Ea ah aE ad af aS
     ·simp at h
    ·simp at h
   ·simp at h
  ·cases h;exact ih ah (eO _) (eP _) aS bC
 ·split at h
  ·rename_i id off len cap sz;split at h
   ·simp only [sb,rU,Prod.mk.injEq] at h;obtain ⟨row,cU,n,aN,rfl,rfl⟩:=h;exact zK ah cU aN aS
   ·simp at h
  ·rename_i id gid n z;split at h
   ·split at h
    ·rename_i l g cW aE;split at h
     ·rename_i ak;cases h;have aV:=(rV.1 aE).1;have q:=zK (ah.oi aE) (row:=l.map I.view) (by simp only [rowOf,rY aV,sP];rw [if_pos (by omega),sT,tN (by omega)]) rfl (aS.view rfl);rw [rZ] at q;exact q
     ·simp at h
    ·simp at h
   ·simp at h
  ·cases h;obtain ⟨S',aJ,aP,cf,bk⟩:=mu ah (eO _) (eP _) aS bC;exact a2.after (Ext.refl J) (bh.settle aJ fun b o h=>(aP b o h).imp id fun h=>⟨_,h⟩) (a2.same cf bk (I.dh _))
theorem Fi (ah:aL B U J S w H) {t e:TypeId} (ax:P.underlying t=some (.slice e)) {id off i g n z:Nat} {l:List I} (aE:H[id]?=some (.cells l)) (cY:l[off]?=some (.cn i g n z)) {v:Value}
  (aj:Rel J S w (.ptr id off) v):∃ x,(Instr.loadAt t v).run P w=.ok x w∧a2 B U J S w H (.cn i g n z) x w:=by
 have ck:dJ P t=false:=by simp [dJ,ax]
 obtain ⟨b,cur,cO,aB,aH,aR,bl,bc,bg⟩:=ah.obj id _ aE;cases aj with
 | ptr _ _ ar ag =>
   rw [aB] at ag;cases ag;have aw:off<l.length:=(rV.1 cY).1;(have fm:off<cur.size:=by omega);have iJ:cur[off]?=some cur[off]:=sv fm;obtain ⟨ba,bm,bt,b9⟩:=bg off _ _ cY iJ;(have bx:w.cell? ⟨b,off,none⟩=some cur[off]:=by rw [cell_of_row w b _ cur cO (0,0) aR,iJ]);exact ⟨cur[off],by simp [Instr.loadAt,Instr.sureAddr,loadVar,gI ax,ck,load,Sem.run,bx],U,J,S,Ext.refl J,bh.refl U S w,ah,bt,trivial⟩
theorem Fh (ah:aL B U J S w H) {lo mode:Nat} {t:TypeId} {u:I} {r:I} {H':List au} {v:Value} (h:dP P lo mode t H [u]=some (r,H')) (aj:Rel J S w u v) :
  ∃ x,(Instr.loadAt t v).run P w=.ok x w∧a2 B U J S w H' r x w:=by
 unfold dP at h;simp only at h;split at h
 ·simp only [rU,Prod.mk.injEq] at h;obtain ⟨r',h,rfl,rfl⟩:=h;obtain ⟨x,ad,af,aG⟩:=k5 ah h aj;exact ⟨x,ad,a2.same ah af aG⟩
 ·split at h
  ·simp only [rU,Prod.mk.injEq] at h;obtain ⟨r',h,rfl,rfl⟩:=h;obtain ⟨x,ad,af,aG⟩:=k5 (t:=t) ah (by simpa only [dS] using h) aj;exact ⟨x,ad,a2.same ah af aG⟩
  ·simp at h
 ·split at h
  ·rename_i e id off ax;split at h
   ·rename_i l aE;split at h
    ·rename_i i g n z cY;cases h;exact Fi ah ax aE cY aj
    ·rename_i cY;cases h
     have:dS P H t (.ptr id off)=some (.ay [] 0 .full):=by simp [dS,aE,et,dJ,ax,cY,I.view]
     obtain ⟨x,ad,af,aG⟩:=k5 ah this aj;exact ⟨x,ad,a2.same ah af aG⟩
    ·simp at h
   ·simp at h
  ·simp at h
 ·split at h
  ·rename_i e id off ax;split at h
   ·split at h
    ·rename_i l aE;split at h
     ·rename_i c n z cY;cases h;exact AW ah ax aE cY aj
     ·rename_i c n z cY;split at h
      ·split at h
       ·simp at h
       ·rename_i aN;cases h;exact Fy ah ax aN aE cY aj
      ·cases h;obtain ⟨_,x,_,_,_,ad,af⟩:=AX ah ax aE cY aj;exact ⟨x,ad,af⟩
     ·rename_i bI c0 iO cY;cases h
      have:dS P H t (.ptr id off)=some bI.view:=by simp [dS,aE,et,dJ,ax,cY]
      obtain ⟨x,ad,af,aG⟩:=k5 ah this aj;exact ⟨x,ad,a2.same ah af aG⟩
     ·simp at h
    ·rename_i l g cW aE;have aV:=(rV.1 aE).1;split at h
     ·rename_i c n z cY;cases h;obtain ⟨b,cur,cO,aB,aH,aR,bl,bc,bg,cap,c2,db,dE,fw⟩:=ah.obj id _ aE;obtain ⟨x,ad,az,b1,S',bT,b6,eD,fM⟩:=AW (ah.oi aE) ax (by rw [rY aV]) cY aj;have aO:=eD.xq (g:=g) (z:=cW) (by rw [rY (by simpa using aV)]) (bT _ _ aB) (bT _ _ c2) db dE aR fw;rw [rZ,rZ] at aO;exact ⟨x,ad,az,b1,S',bT,b6,aO,fM⟩
     ·rename_i c n cY;cases h
      have:dS P H t (.ptr id off)=some (.ay c n .full):=by simp [dS,aE,et,dJ,ax,cY,I.view]
      obtain ⟨x,ad,af,aG⟩:=k5 ah this aj;exact ⟨x,ad,a2.same ah af aG⟩
     ·simp at h
    ·simp at h
   ·simp at h
  ·simp at h
theorem AU (ah:aL B U J S w H) {lo:Nat} {b:Builtin} {ts:Array TypeId} (ty:TypeId) (cs:Array Bool) {us:List I} {r:I} {H':List au} {vs:List Value} (h:eu P lo b ts H us=some (r,H'))
  (ae:a_ (fun i=>.arg i) U J S w us vs):∃ y w',(builtin b ts ty cs vs.toArray).run P w=.ok (.value y) w'∧a2 B U J S w H' r y w':=by
 have one:∀ {u:I},us=[u]→∃ v,vs=[v]∧Rel J S w u v:=fun {u} e=>by
  subst e
  match vs,ae with
  | [v],ae=>exact ⟨v,rfl,ae.rel 0 u v rfl rfl⟩
  | [],ae=>exact absurd ae.len (by simp)
  | _::_::_,ae=>exact absurd ae.len (by simp)
 have two:∀ {u x:I},us=[u,x]→∃ v y,vs=[v,y]∧Rel J S w u v∧aW U J S w (.arg 0) u v∧Rel J S w x y∧aW U J S w (.arg 1) x y:=fun {u x} e=>by
  subst e
  match vs,ae with
  | [v,y],ae=>exact ⟨v,y,rfl,ae.rel 0 u v rfl rfl,ae.own 0 u v rfl rfl,ae.rel 1 x y rfl rfl,ae.own 1 x y rfl rfl⟩
  | [],ae=>exact absurd ae.len (by simp)
  | [_],ae=>exact absurd ae.len (by simp)
  | _::_::_::_,ae=>exact absurd ae.len (by simp)
 unfold eu at h;split at h
 ·
  unfold iX at h;split at h
  ·rename_i s x;split at h
   ·rename_i t dp g4;(have g4:ts=#[t,dp]:=by rw [←t_ (xs:=ts),g4]);subst g4;simp only [rU,Prod.mk.injEq] at h;obtain ⟨r',h,rfl,rfl⟩:=h;obtain ⟨v,y,rfl,aS,bC,bk,bS⟩:=two rfl;obtain ⟨z,w',ad,af⟩:=AQ ah ty (eO _) (eP _) (eO _) (eP _) (by simp) h aS bC bk bS;exact ⟨z,w',by simp [builtin,ad],af⟩
   ·simp at h
  ·simp at h
 ·
  match us with
  | [u] =>
    obtain ⟨v,rfl,aS⟩:=one rfl;obtain ⟨y,ad,af⟩:=Fg ah (ts:=ts) ty h aS;exact ⟨y,w,by simp [builtin,ad],af⟩
  | []=>simp [hb] at h
  | _::_::_=>simp [hb] at h
 ·
  match us with
  | [u] =>
    obtain ⟨v,rfl,aS⟩:=one rfl;obtain ⟨y,ad,af⟩:=Fa ah (ts:=ts) ty h aS;exact ⟨y,w,by simp [builtin,ad],af⟩
  | []=>simp [jV] at h
  | _::_::_=>simp [jV] at h
 ·
  match us with
  | [u,x] =>
    obtain ⟨v,y,rfl,aS,bC,bk,bS⟩:=two rfl;obtain ⟨z,w',ad,af⟩:=Fc ah (ts:=ts) ty (eO _) (eP _) h aS bk bS;exact ⟨z,w',by simp [builtin,ad],af⟩
  | []=>simp [jW] at h
  | [_]=>simp [jW] at h
  | _::_::_::_=>simp [jW] at h
 ·
  match us with
  | [u] =>
    obtain ⟨v,rfl,aS⟩:=one rfl;obtain ⟨y,w',ad,af⟩:=Fb ah (ts:=ts) ty h aS;exact ⟨y,w',by simp [builtin,ad],af⟩
  | []=>simp [kU] at h
  | _::_::_=>simp [kU] at h
 ·
  match us with
  | [u,x] =>
    obtain ⟨v,y,rfl,aS,_,bk,_⟩:=two rfl;obtain ⟨z,w',ad,af⟩:=Fe ah (ts:=ts) ty h aS bk;exact ⟨z,w',by simp [builtin,ad],af⟩
  | []=>simp [hC] at h
  | [_]=>simp [hC] at h
  | _::_::_::_=>simp [hC] at h
 ·simp only [rU,Prod.mk.injEq] at h;obtain ⟨r',h,rfl,rfl⟩:=h;obtain ⟨y,ad,af,aG⟩:=Fq (P:=P) ts ty h ae;exact ⟨y,w,by simp [builtin,ad],a2.same ah af aG⟩
 ·simp only [rU,Prod.mk.injEq] at h;obtain ⟨r',h,rfl,rfl⟩:=h;obtain ⟨y,ad,af,aG⟩:=Fp (P:=P) ts ty h ae;exact ⟨y,w,by simp [builtin,ad],a2.same ah af aG⟩
 ·simp at h
end
end Go.Proofs.YtfakoboiahbhaaaGreat.Ab


namespace Go.Proofs.YtfakoboiahbhaaaGreat.Ab
open Go
section
variable {P:Program} {B:Nat} {J:List Nat} {w:World} {H:List au} {U:Nat→Option aI} {S:Nat→Nat→Prop}
theorem a_.tail {bB:Nat→aI} {us:List I} {vs:List Value} {u:I} {v:Value} (h:a_ bB U J S w (u::us) (v::vs)):a_ (fun i=>bB (i+1)) U J S w us vs :=
 ⟨by simpa using h.len,fun i a b cg ag=>h.rel (i+1) a b (by simpa using cg) (by simpa using ag),fun i a b cg ag=>h.own (i+1) a b (by simpa using cg) (by simpa using ag)⟩
theorem kY {bB:Nat→aI} {us:List I} {vs:List Value} (ae:a_ bB U J S w us vs) {aU:Operand→Value} (i:Nat) (l:Option Operand) (ak:∀ x,l=some x→vs[i]?=some (aU x)) :
  eH J S w (dn us i l) (l.map aU):=by
 cases l with
 | none=>trivial
 | some x =>
   have ad:=ak x rfl;(have af:i<us.length:=by rw [ae.len];exact (rV.1 ad).1);simp only [dn,sd af,sc];exact ae.rel i _ _ (sd af) ad
theorem eH.mono {S':Nat→Nat→Prop} (cp:∀ b o,S b o→S' b o) {a:Option I} {b:Option Value} (h:eH J S w a b):eH J S' w a b:=by
 cases a <;> cases b <;> first | exact h | exact Rel.mono (Ext.refl J) (fun b o h=>⟨cp b o h,rfl⟩) h
theorem Fz (ah:aL B U J S w H) {aU:Operand→Value} {t:TypeId} {x:Operand} {l h m:Option Operand} {u:I} {vs:List I} {r:I} {i1 i2:Nat}
  (aq:eT P t u.view (dn vs 0 l) (dn vs i1 h) (dn vs i2 m)=some r) (ad:i1=l.toList.length) (af:i2=l.toList.length+h.toList.length)
  (il:Rel J S w u (aU x)) (ig:aW U J S w (.arg 0) u (aU x)) {bB:Nat→aI} (d':a_ bB U J S w vs ((l.toList++h.toList++m.toList).map aU)) :
  ∃ v,(Instr.sliceAt t (aU x) (l.map aU) (h.map aU) (m.map aU)).run P w=.ok v w∧a2 B U J S w H r v w:=by
 obtain ⟨S',aJ,aP,cf,aS⟩:=mu ah (eO _) (eP _) il ig;obtain ⟨v,q1,aX,cB⟩:=EL (J:=J) (S:=S') (w:=w) aq (I.dh u) aS
  ((kY (aU:=aU) d' 0 l (fun y a1=>by subst a1;simp)).mono aJ)
  ((kY (aU:=aU) d' i1 h (fun y a1=>by subst ad a1;cases l <;> simp)).mono aJ)
  ((kY (aU:=aU) d' i2 m (fun y a1=>by subst af a1;cases l <;> cases h <;> simp)).mono aJ)
 exact ⟨v,q1,a2.after (Ext.refl J) (bh.settle aJ fun b o h=>(aP b o h).imp id fun h=>⟨_,h⟩) (a2.same cf aX cB)⟩
theorem Fv (ah:aL B U J S w H) {aU:Operand→Value} {t:TypeId} {x:Operand} {l h m:Option Operand} {us:List I} {r:I} (aq:ei P t l h m us=some r)
  (ae:a_ (fun i=>.arg i) U J S w us ((x::(l.toList++h.toList++m.toList)).map aU)) :
  ∃ v,(Instr.sliceAt t (aU x) (l.map aU) (h.map aU) (m.map aU)).run P w=.ok v w∧a2 B U J S w H r v w:=by
 match us,ae with
 | [],ae=>exact absurd ae.len (by simp)
 | u::vs,ae =>
   have il:=ae.rel 0 u _ rfl rfl;have ig:=ae.own 0 u _ rfl rfl;have d':=ae.tail;unfold ei at aq;dsimp only at aq;split at aq
   ·rename_i cells len z;split at aq
    ·rename_i e a0;simp only [sb,rU] at aq;obtain ⟨s,ai,n,aN,rfl⟩:=aq;have mK:=kY (aU:=aU) d' 0 h (fun y a1=>by subst a1;simp);generalize al:aU x=cC at il ig ⊢;cases il with
     | b3 c a =>
       obtain ⟨q,q1,aX⟩:=hH (P:=P) (isS:=true) (cap:=0) (lo:=none) (lo':=none) aN rfl (by omega) trivial mK;(obtain rfl:n=0:=by omega);exact ⟨.slice a 0 0,by cases a <;> simp [Instr.sliceAt,Instr.slice,run_underlying a0,q,run_sizeOf ai,Addr.add],U,J,S,Ext.refl J,bh.refl U S w,ah,by simpa using .b3 _ _,by cases a <;> first | trivial | exact .inl ⟨rfl,rfl,by simp⟩⟩
     | ay _ _ c b o cap f ao hle hu bx b'=>exact absurd rfl (hu _)
     | cM cells len z b o cap =>
       rcases ig with ⟨rfl,rfl,rfl⟩ | ⟨bC,bS,kR,ib,g',gE,⟨cur,ce,jT,ha,nT⟩,mA⟩
       ·obtain ⟨q,q1,aX⟩:=hH (P:=P) (isS:=true) (cap:=0) (lo:=none) (lo':=none) aN rfl (by omega) trivial mK;(obtain rfl:n=0:=by omega);exact ⟨.slice (some ⟨b,o,none⟩) 0 0,by simp [Instr.sliceAt,Instr.slice,run_underlying a0,q,run_sizeOf ai],U,J,S,Ext.refl J,bh.refl U S w,ah,.cM _ _ _ _ _ _,.inl ⟨rfl,rfl,by simp⟩⟩
       ·obtain ⟨q,q1,aX⟩:=hH (P:=P) (isS:=true) (cap:=cap) (lo:=none) (lo':=none) aN rfl (by omega) trivial mK;simp only at bC jT mA bS;refine ⟨.slice (some ⟨b,o,none⟩) n cap,by simp [Instr.sliceAt,Instr.slice,run_underlying a0,q,run_sizeOf ai];intro;simp [Addr.add],?_⟩;refine ih ah (eO 0) (eP 0) (.cM _ _ _ _ _ _) (.inr ⟨bC,bS,by omega,ib,g',?_,⟨cur,ce,jT,ha,fun j u v hu ae=>?_⟩,mA⟩)
        ·rw [List.length_take,gE];exact Nat.min_eq_left (tj _ aX)
        ·rw [sR] at hu;split at hu
         ·exact nT j u v hu ae
         ·simp at hu
    ·simp at aq
   ·
    rename_i cells len z lo fY;split at aq
    ·rename_i e a0;simp only [sb] at aq;obtain ⟨s,ai,aq⟩:=aq;split at aq
     ·rename_i bR;subst bR;simp only [rU] at aq;obtain ⟨n,aN,rfl⟩:=aq;have rl:=kY (aU:=aU) d' 0 (some lo) (fun y a1=>by cases a1;simp);generalize al:aU x=cC at il ig ⊢;cases il with
      | b3 c a =>
        obtain ⟨q,q1,aX⟩:=hH (P:=P) (isS:=true) (cap:=0) (hi:=none) (hi':=none) (len:=0) rfl aN (by omega) rl trivial;simp only [sc,Option.map_none] at q;(obtain rfl:n=0:=by omega);exact ⟨.slice a 0 0,by cases a <;> simp [Instr.sliceAt,Instr.slice,run_underlying a0,q,run_sizeOf ai,Addr.add],U,J,S,Ext.refl J,bh.refl U S w,ah,by simpa using .b3 _ _,by cases a <;> first | trivial | exact .inl ⟨rfl,rfl,by simp⟩⟩
      | ay _ _ c b o cap f ao hle hu bx b' =>
        obtain ⟨q,q1,aX⟩:=hH (P:=P) (isS:=true) (cap:=cap) (hi:=none) (hi':=none) (len:=len) rfl aN hle rl trivial;simp only [sc,Option.map_none] at q;have Cm:∀ k,(cells.drop k).take cells.length=cells.drop k:=fun k=>tN (by rw [tV];omega);by_cases ek:cap=n
        ·(obtain rfl:n=len:=by omega);rw [ek] at q;refine ⟨.slice (some ⟨b,o,none⟩) 0 0,by simp [Instr.sliceAt,Instr.slice,run_underlying a0,q,run_sizeOf ai,ek],?_⟩;rw [Nat.sub_self];rcases ig with ⟨aT,Ck,cE⟩ | ⟨bC,bS,kR,ib,g',gE,jT,⟨cur,ce,ha,nT⟩,mA⟩
         ·rw [cE,List.drop_nil];exact ⟨U,J,S,Ext.refl J,bh.refl U S w,ah,.ay [] 0 _ b o 0 (fun _=>undef) (by simp) (rX _) (by simp) (by simp) (by simp),.inl ⟨rfl,rfl,rfl⟩⟩
         ·rw [List.drop_eq_nil_of_le (by omega)];exact ⟨U,J,S,Ext.refl J,bh.refl U S w,ah,.ay [] 0 _ b o 0 (fun _=>undef) (by simp) (rX _) (by simp) (by simp) (by simp),.inl ⟨rfl,rfl,rfl⟩⟩
        ·have yY:=Rel.sub (J:=J) (k:=cells.length) (n:=len-n) (cap':=cap-n) (n*s) (.own s) (by simp) (by omega) (by simp) bx b';rw [Cm] at yY;refine ⟨.slice (some ⟨b,o+n*s,none⟩) (len-n) (cap-n),by simp [Instr.sliceAt,Instr.slice,run_underlying a0,q,run_sizeOf ai,ek,add_lit],?_⟩;rcases ig with ⟨aT,Ck,cE⟩ | ⟨bC,bS,kR,ib,g',gE,jT,⟨cur,ce,ha,nT⟩,mA⟩
         ·exfalso;omega
         ·refine ih ah (eO 0) (eP 0) yY (.inr ⟨bC,trivial,rfl,by omega,by omega,gE,?_,⟨cur,ce,ha,?_⟩,fun cN CT=>mA cN ?_⟩)
          ·rw [tV,jT,Nat.sub_mul]
          ·have e1:n*s≤cap*s:=tj _ (by omega);have cm:(cap-n)*s=cap*s-n*s:=Nat.sub_mul _ _ _;show cur.size=o+n*s+(cap-n)*s;simp only at nT;omega
          ·have e1:n*s≤len*s:=tj _ q1;simp only [tV] at CT ⊢;omega
     ·simp at aq
    ·simp at aq
   ·
    rename_i id gid len z;split at aq
    ·rename_i e a0;simp only [sb,rU] at aq;obtain ⟨s,ai,n,aN,rfl⟩:=aq;have mK:=kY (aU:=aU) d' 0 h (fun y a1=>by subst a1;simp);generalize al:aU x=cC at il ig ⊢;cases il with
     | cn _ _ _ _ b cap ag aO hle =>
       obtain ⟨q,q1,aX⟩:=hH (P:=P) (isS:=true) (cap:=cap) (lo:=none) (lo':=none) aN rfl hle trivial mK;exact ⟨.slice (some ⟨b,0,none⟩) n cap,by simp [Instr.sliceAt,Instr.slice,run_underlying a0,q,run_sizeOf ai];intro;simp [Addr.add],U,J,S,Ext.refl J,bh.refl U S w,ah,.cn _ _ _ _ b cap ag aO (by omega),trivial⟩
    ·simp at aq
   ·exact Fz ah aq (by cases l <;> rfl) (by cases l <;> cases h <;> rfl) il ig d'
theorem Fs {aU:Operand→Value} (eM:∀ v,aU (.const v)=v) {C:b8} {lo mode:Nat} {o:Oper} {us:List I} {r:I} {H':List au} (ah:aL B U J S w H)
  (h:a9 P C lo o mode us H=some (r,H')) (iN:∀ c f,o.op=.call c→c.callee≠.value f)
  (aC:dO o=false→∀ u∈us,u.plain=true) (ae:a_ (fun i=>.arg i) U J S w us ((opsOf o).map aU)):ey P aU o w (a2 B U J S w H' r):=by
 have base:(cA P o us).map (·,H)=some (r,H')→dO o=false→ey P aU o w (a2 B U J S w H' r):=fun h ak=>by
  simp only [rU,Prod.mk.injEq] at h;obtain ⟨r',aY,rfl,rfl⟩:=h;exact Ft eM ah aY ak (aC ak) ae
 cases aD:o.op
 case call c =>
  simp only [a9,aD] at h;cases ao:c.callee with
  | builtin b =>
    simp only [ao] at h;have he:opsOf o=c.args.toList:=by
     obtain ⟨BJ,args,BE⟩:=c;simp only at ao;subst ao;simp only [opsOf,aD]
    rw [he] at ae;obtain ⟨y,w',ad,af⟩:∃ y w',(builtin b c.argTypes o.type (c.args.map fun | .const _=>true | _=>false) (c.args.toList.map aU).toArray).run P w=.ok (.value y) w'∧a2 B U J S w H' r y w':=by
     cases b
     case append =>
      simp only at h;split at h
      ·exact AU ah o.type _ h ae
      ·match us,h,ae with
       | [u,x],h,ae =>
         obtain ⟨v,bf,e1,aS,bC,ae⟩:=ae.gN;obtain ⟨y,bf,cm,bk,bS,ae⟩:=ae.gN;cases bf with
         | cons=>exact absurd ae.len (by simp)
         | nil =>
         obtain ⟨z,w',ad,af⟩:=E6 ah o.type (eO _) (eP _) (eO _) (eP _) (by simp) h aS bC bk bS;rw [e1,cm];exact ⟨z,w',by simp [builtin,ad],af⟩
     all_goals exact AU ah o.type _ h ae
    refine .inl ⟨y,w',?_,af⟩;simp only [Go.execOp,aD,resolve,ao,Sem.run_bind,Sem.run_pure,Result.andThen_ok,invoke];rw [←ad,←vb,t_];rfl
  | value f=>exact absurd ao (iN c f aD)
  | invoke x n=>simp [ao] at h
 all_goals (have bd:=ae;rw [xi (by simp [aD])] at bd;simp only [aD,Op.operands] at bd)
 case move x =>
  simp only [a9,aD] at h;exact .inl ⟨aU x,w,by simp [Go.execOp,aD],AV ah eM h bd⟩
 case assign x =>
  simp only [a9,aD] at h;exact .inl ⟨aU x,w,by simp [Go.execOp,aD],AV ah eM h bd⟩
 case load t a =>
  simp only [a9,aD] at h;obtain ⟨u,rfl,aS,_⟩:=a_.one (x:=a) (by simpa using bd);obtain ⟨x,ad,af⟩:=Fh ah h aS;exact .inl ⟨x,w,by simp [Go.execOp,aD,ad],af⟩
 case store t a x =>
  simp only [a9,aD] at h;obtain ⟨u,v,rfl,aS,bC,bk,bS⟩:=a_.two (x:=a) (y:=x) (by simpa using bd);unfold hD at h;simp only at h;split at h
  ·simp only [rU,Prod.mk.injEq] at h;obtain ⟨H1,h,rfl,rfl⟩:=h;obtain ⟨w',ad,af⟩:=Fw ah (eO _) (eP _) h aS bk bS undef;exact .inr ⟨w',by simp [Go.execOp,aD,ad],af⟩
  ·simp only [rU,Prod.mk.injEq] at h;obtain ⟨H1,h,rfl,rfl⟩:=h;obtain ⟨w',ad,af⟩:=Fx ah (eO _) (eP _) h aS bk bS undef;exact .inr ⟨w',by simp [Go.execOp,aD,ad],af⟩
 case box e x =>
  simp only [a9,aD] at h;obtain ⟨u,rfl,aS,bC⟩:=a_.one (x:=x) (by simpa using bd);unfold gF at h;simp only at h;split at h
  ·simp only [rU,Prod.mk.injEq] at h;obtain ⟨bH,h,rfl,rfl⟩:=h;obtain ⟨y,w',ad,af⟩:=E8 (P:=P) ah (eO _) (eP _) h aS bC e;exact .inl ⟨y,w',by simp [Go.execOp,aD,ad],af⟩
  ·split at h
   ·rename_i bH fI;split at h
    ·rename_i aC;cases h;obtain ⟨y,w',ad,af⟩:=E9 (P:=P) ah fI aC aS e;exact .inl ⟨y,w',by simp [Go.execOp,aD,ad],af⟩
    ·simp at h
   ·simp at h
 case alloc t =>
  simp only [a9,aD] at h;unfold kT at h;split at h
  ·simp only [rU,Prod.mk.injEq] at h;obtain ⟨z,h,rfl,rfl⟩:=h;obtain ⟨y,w',ad,af⟩:=E4 ah h (.tuple #[]);exact .inl ⟨y,w',by simp [Go.execOp,aD,ad],af⟩
  ·split at h
   ·rename_i e bo he;simp only [rU,Prod.mk.injEq] at h;obtain ⟨s,_,rfl,rfl⟩:=h;obtain ⟨y,w',ad,af⟩:=E5 (s:=s) ah bo (.tuple #[]);exact .inl ⟨y,w',by simp [Go.execOp,aD,ad],af⟩
   ·simp at h
 case buildSlice t len parts =>
  simp only [a9,aD] at h;split at h
  ·exact base h (by simp [dO,aD])
  ·simp only [rU,Prod.mk.injEq] at h;obtain ⟨⟨cs,s⟩,h,rfl,rfl⟩:=h;obtain ⟨v,w',q1,aX⟩:=E' eM ah aD h (aC (by simp [dO,aD])) ae;exact .inl ⟨v,w',q1,aX⟩
 case makeSlice t a b =>
  simp only [a9,aD] at h;obtain ⟨u,v,rfl,aS,_,bk,_⟩:=a_.two (x:=a) (y:=b) (by simpa using bd);unfold jX at h;split at h
  ·rename_i k n k' c heq;simp at heq;obtain ⟨rfl,rfl⟩:=heq;split at h
   ·rename_i ao;have e1:=aS.dd;have cm:=bk.dd;split at h
    ·simp only [rU,Prod.mk.injEq] at h;obtain ⟨z,h,rfl,rfl⟩:=h;obtain ⟨y,w',ad,af⟩:=Fl (k:=k) (k':=k') ah ao.1 ao.2 h;exact .inl ⟨y,w',by simp [Go.execOp,aD,e1,cm,ad],af⟩
    ·split at h
     ·rename_i iN;simp only [rU,Prod.mk.injEq] at h;obtain ⟨z,h,rfl,rfl⟩:=h;obtain ⟨rfl,aT⟩:=iN;obtain ⟨y,w',ad,af⟩:=Fm (k:=k) (k':=k') ah aT h;exact .inl ⟨y,w',by simp [Go.execOp,aD,e1,cm,ad],af⟩
     ·simp at h
   ·simp at h
  ·simp at h
 case makeMap t r =>
  simp only [a9,aD] at h;obtain ⟨x,w',ad,rfl,af⟩:=Fk (P:=P) ah h;exact .inl ⟨x,w',by simp [Go.execOp,aD,ad],af⟩
 case mapUpdate t m k v =>
  simp only [a9,aD] at h;have aC:=aC (by simp [dO,aD]);obtain ⟨je,ka,k_,rfl,e0,bP,n_⟩:∃ je ka k_,us=[je,ka,k_]∧Rel J S w je (aU m)∧Rel J S w ka (aU k)∧Rel J S w k_ (aU v):=by
   match us,bd with
   | [je,ka,k_],bd=>exact ⟨je,ka,k_,rfl,bd.rel 0 _ _ rfl rfl,bd.rel 1 _ _ rfl rfl,bd.rel 2 _ _ rfl rfl⟩
   | [],bd=>exact absurd bd.len (by simp)
   | [_],bd=>exact absurd bd.len (by simp)
   | [_,_],bd=>exact absurd bd.len (by simp)
   | _::_::_::_::_,bd=>exact absurd bd.len (by simp)
  obtain ⟨w',ad,af⟩:=Fo ah h e0 bP (aC ka (by simp)) n_ (aC k_ (by simp)) undef;exact .inr ⟨w',by simp [Go.execOp,aD,ad],af⟩
 case lookup t m k ok =>
  simp only [a9,aD] at h;obtain ⟨je,ka,rfl,e0,_,bP,_⟩:=a_.two (x:=m) (y:=k) (by simpa using bd);obtain ⟨x,ad,af⟩:=Fj ah h e0 bP;exact .inl ⟨x,w,by simp [Go.execOp,aD,ad],af⟩
 case range t m =>
  simp only [a9,aD] at h;obtain ⟨je,rfl,e0,_⟩:=a_.one (x:=m) (by simpa using bd);obtain ⟨x,w',ad,af⟩:=Fu ah h e0;exact .inl ⟨x,w',by simp [Go.execOp,aD,ad],af⟩
 case entry m =>
  simp only [a9,aD] at h;obtain ⟨je,rfl,e0,_⟩:=a_.one (x:=m) (by simpa using bd);obtain ⟨x,ad,af⟩:=Ff (P:=P) ah h e0;exact .inl ⟨x,w,by simp [Go.execOp,aD,ad],af⟩
 case slice t x l bK m =>
  simp only [a9,aD,cA,rU,Prod.mk.injEq] at h;obtain ⟨r',h,rfl,rfl⟩:=h;obtain ⟨v,ad,af⟩:=Fv (x:=x) ah h (by simpa using bd);exact .inl ⟨v,w,by simp [Go.execOp,aD,ad],af⟩
 all_goals exact base (by simpa only [a9,aD] using h) (by simp [dO,aD])
end
end Go.Proofs.YtfakoboiahbhaaaGreat.Ab


namespace Go.Proofs.YtfakoboiahbhaaaGreat.Ab
open Go
def dk (U:Nat→Option aI):Nat→Option aI:=fun b=>match U b with
 | some (.slot _)=>none
 | x=>x
def back (U bp:Nat→Option aI) (d:Option Nat):Nat→Option aI:=fun b=>match U b with
 | some (.slot i)=>if d=some i then none else some (.slot i)
 | _=>match bp b with
   | some .res=>d.map .slot
   | some (.obj id)=>some (.obj id)
   | some (.cell id j)=>some (.cell id j)
   | _=>none
def Marks (N:Nat) (U:Nat→Option aI) (w:World) (fA:List Deferred):Prop :=
 N≤w.heap.size∧(∀ d∈fA,∃ r,d.target=.collected r∧N≤r∧U r=none∧w.heap[r]?=some (.deferred (some [])))∧fA.Pairwise (fun a b=>a.target≠b.target)
structure cv (B N:Nat) (U:Nat→Option aI) (J:List Nat) (S:Nat→Nat→Prop) (w:World) (s:a6) (a:Act):Prop where
 T:a_ .slot U J S w s.T a.tmps.toList
 H:aL B U J S w s.H
 M:Marks N U w a.defers
def Step (B N:Nat) (U:Nat→Option aI) (J:List Nat) (S:Nat→Nat→Prop) (w:World) (aF:a6) (aM:Act) (w':World):Prop :=
 ∃ az b1 S',Ext J b1∧bh U S w az S' w'∧cv B N az b1 S' w' aF aM
section
variable {P:Program} {B N:Nat} {J:List Nat} {w:World} {H:List au} {U:Nat→Option aI} {S:Nat→Nat→Prop}
theorem Marks.aA {az:Nat→Option aI} {S':Nat→Nat→Prop} {w':World} {fA:List Deferred} (h:Marks N U w fA) (aA:bh U S w az S' w'):Marks N az w' fA:=⟨sJ h.1 aA.size,fun d a0=>by
 obtain ⟨r,ad,af,aG,a7⟩:=h.2.1 d a0;have aj:r<w.heap.size:=(sS.1 a7).1;refine ⟨r,ad,af,?_,(aA.cF r aj aG).trans a7⟩;cases bN:az r with
 | none=>rfl
 | some l =>
   rcases aA.own r (by simp [bN]) with bX | bX
   ·exact absurd aG bX
   ·omega,h.2.2⟩
theorem np {b:Nat} (h:U b=none):dk U b=none:=by simp [dk,h]
theorem po {b i:Nat} (h:U b=some (.slot i)):dk U b=none:=by simp [dk,h]
theorem yH {b:Nat} {l:aI} (h:U b=some l) (ak:∀ i,l≠.slot i):dk U b=some l:=by
 cases l <;> first | (simp only [dk,h];done) | exact absurd rfl (ak _)
theorem yI {b:Nat} {l:aI} (h:dk U b=some l):U b=some l∧∀ i,l≠.slot i:=by
 unfold dk at h;split at h
 ·simp at h
 ·rename_i aN;exact ⟨h,fun i e=>by subst e;exact aN i h⟩
theorem CA (b i:Nat):dk U b≠some (.slot i):=fun h=>(yI h).2 i rfl
theorem BG {bp:Nat→Option aI} {d:Option Nat} {b i:Nat} (h:U b=some (.slot i)) (a0:d≠some i):back U bp d b=some (.slot i):=by simp [back,h,a0]
theorem l_ (ah:aL B U J S w H):aL B (dk U) J S w H:=by
 refine ⟨ah.cG,fun id o aq=>?_,ah.ch,fun b l ag=>ah.base b l (yI ag).1,ah.cZ⟩;refine (ah.obj id o aq).frame (Ext.refl J) (fun _ _ h=>⟨h,rfl⟩) fun b l ag ak=>⟨yH ag ?_,rfl,fun _ h=>h⟩;rcases ak with rfl | ⟨j,rfl⟩ <;> simp
theorem Bb {us:List I} {vs:List Value} (h:a_ (fun i=>.arg i) U J S w us vs):a_ (fun i=>.arg i) (dk U) J S w us vs :=
 ⟨h.len,h.rel,fun i u v hu ae=>(h.own i u v hu ae).mono (Ext.refl J) (fun _ _ h=>⟨h,rfl⟩) fun b ag=>⟨yH ag (by simp),rfl,fun _ h=>h⟩⟩
theorem zR (a:Act) (d:Option Tmp) (v:Value):(a.put d v).tmps.toList=match d with | some d=>a.tmps.toList.set d v | none=>a.tmps.toList:=by
 cases d <;> simp [Act.put]
theorem put_defers (a:Act) (d:Option Tmp) (v:Value):(a.put d v).defers=a.defers:=by
 cases d <;> rfl
theorem zF {T:List I} {a:Act} {H':List au} {r:I} {v:Value} {w':World} (dst:Option Tmp) (aK:cv B N U J S w ⟨T,H⟩ a) {bp:Nat→Option aI} {cj:List Nat} {bJ:Nat→Nat→Prop}
  (bM:Ext J cj) (dY:bh (dk U) S w bp bJ w') (cr:aL B bp cj bJ w' H') (aj:Rel cj bJ w' r v) (aq:aW bp cj bJ w' .res r v) :
  bh U S w (back U bp dst) bJ w'∧cv B N (back U bp dst) cj bJ w' ⟨put T dst r,H'⟩ (a.put dst v):=by
 have o8:∀ b l,U b=some l→b<w.heap.size:=fun b l h=>(aK.H.base b l h).2;have kA:∀ b l,bp b=some l→∀ i,U b≠some (.slot i):=fun b l h i ai=>by
  rcases dY.own b (by simp [h]) with ad | ad
  ·exact ad (po ai)
  ·have:=o8 b _ ai;omega
 have yA:∀ b l,bp b=some l→back U bp dst b=match l with | .res=>dst.map .slot | .obj id=>some (.obj id) | .cell id j=>some (.cell id j) | _=>none:=fun b l h=>by
  unfold back;split
  ·rename_i i ai;exact absurd ai (kA b l h i)
  ·rw [h];cases l <;> rfl
 have aA:bh U S w (back U bp dst) bJ w':=by
  refine ⟨dY.os,dY.tape,dY.output,dY.size,fun b ag aN=>dY.cF b ag (np aN),dY.set,fun b o h=>?_,fun b h=>?_⟩
  ·rcases dY.fresh b o h with h | h | h
   ·exact .inl h
   ·exact .inr (.inl fun aN=>h (np aN))
   ·exact .inr (.inr h)
  ·unfold back at h;split at h
   ·rename_i ai;exact .inl (by simp [ai])
   ·rcases dY.own b (fun aN=>by simp [aN] at h) with ad | ad
    ·exact .inl fun aN=>ad (np aN)
    ·exact .inr ad
 refine ⟨aA,⟨?_,⟨cr.cG,fun id o aq=>?_,cr.ch,fun b l ag=>?_,cr.cZ⟩,?_⟩⟩
 ·have fL:∀ (i:Nat) (u:I) (x:Value),dst≠some i→T[i]?=some u→a.tmps.toList[i]?=some x→Rel cj bJ w' u x∧aW (back U bp dst) cj bJ w' (.slot i) u x:=fun i u x a0 hu al=>by
   refine ⟨(aK.T.rel i u x hu al).mono bM dY.set,(aK.T.own i u x hu al).mono bM dY.set fun b ag=>⟨BG ag a0,dY.cF b (o8 b _ ag) (po ag),fun o h=>?_⟩⟩;rcases dY.fresh b o h with h | h | h
   ·exact h
   ·exact absurd (po ag) h
   ·have:=o8 b _ ag;omega
  cases dst with
  | none=>exact ⟨aK.T.len,fun i u x hu al=>(fL i u x (by simp) hu al).1,fun i u x hu al=>(fL i u x (by simp) hu al).2⟩
  | some d =>
    have hlen:=aK.T.len;have both:∀ (i:Nat) (u:I) (x:Value),(T.set d r)[i]?=some u→(a.tmps.toList.set d v)[i]?=some x→Rel cj bJ w' u x∧aW (back U bp (some d)) cj bJ w' (.slot i) u x:=fun i u x hu al=>by
     by_cases aE:d=i
     ·subst aE;(have aV:d<T.length:=by have:=(rV.1 hu).1;simpa using this);(have l3:d<a.tmps.toList.length:=by have:=(rV.1 al).1;simpa using this);rw [rY aV] at hu;rw [rY l3] at al;cases hu;cases al;exact ⟨aj,aq.mono (Ext.refl _) (fun _ _ h=>⟨h,rfl⟩) fun b ag=>⟨by rw [yA b _ ag];rfl,rfl,fun _ h=>h⟩⟩
     ·rw [sa aE] at hu al;exact fL i u x (by simpa using aE) hu al
    refine ⟨by simp [put,gL,Act.put,hlen],?_,?_⟩
    ·intro i u x hu al;simp only [put,gL] at hu;rw [zR] at al;exact (both i u x hu al).1
    ·intro i u x hu al;simp only [put,gL] at hu;rw [zR] at al;exact (both i u x hu al).2
 ·refine (cr.obj id o aq).frame (Ext.refl cj) (fun _ _ h=>⟨h,rfl⟩) fun b l ag ak=>⟨?_,rfl,fun _ h=>h⟩;rw [yA b l ag];rcases ak with rfl | ⟨j,rfl⟩ <;> rfl
 ·unfold back at ag;split at ag
  ·rename_i i ai;have:=aK.H.base b _ ai;exact ⟨this.1,uJ this.2 dY.size⟩
  ·cases af:bp b with
   | none=>simp [af] at ag
   | some l'=>exact cr.base b l' af
 ·rw [put_defers];exact aK.M.aA aA
theorem nV {T:List I} {a:Act} {H':List au} {r:I} {v:Value} {w':World} (dst:Option Tmp) (aK:cv B N U J S w ⟨T,H⟩ a) (aC:a2 B (dk U) J S w H' r v w')
  (u:I) (hu:∀ bp cj bJ,Rel cj bJ w' r v→aW bp cj bJ w' .res r v→Rel cj bJ w' u v) :
  ∃ az b1 S',Ext J b1∧bh U S w az S' w'∧cv B N az b1 S' w' ⟨put T dst r,H'⟩ (a.put dst v)∧Rel b1 S' w' u v:=by
 obtain ⟨bp,cj,bJ,bM,dY,cr,aj,aq⟩:=aC;obtain ⟨ad,af⟩:=zF dst aK bM dY cr aj aq;exact ⟨_,cj,bJ,bM,ad,af,hu bp cj bJ aj aq⟩
theorem Step.trans {b4:Nat→Option aI} {cS:List Nat} {a5:Nat→Nat→Prop} {bE:World} (bM:Ext J cS) (aA:bh U S w b4 a5 bE) {aF:a6} {aM:Act} {w':World} (h:Step B N b4 cS a5 bE aF aM w') :
  Step B N U J S w aF aM w' :=
 let ⟨az,b1,S',aJ,aP,cl⟩:=h
 ⟨az,b1,S',bM.trans aJ,aA.trans aP,cl⟩
theorem a_.swap {bB:Nat→aI} {T:List I} {bf:List Value} (h:a_ bB U J S w T bf) (t:Nat) {u:I} (hu:u.plain=true) (aj:∀ v,bf[t]?=some v→Rel J S w u v):a_ bB U J S w (T.set t u) bf:=by
 refine ⟨by simpa using h.len,fun i x v al ae=>?_,fun i x v al ae=>?_⟩
 ·by_cases hi:t=i
  ·subst hi;(have aV:t<T.length:=by have:=(rV.1 al).1;simpa using this);rw [rY aV] at al;cases al;exact aj v ae
  ·rw [sa hi] at al;exact h.rel i x v al ae
 ·by_cases hi:t=i
  ·subst hi;(have aV:t<T.length:=by have:=(rV.1 al).1;simpa using this);rw [rY aV] at al;cases al;exact aW.b5 hu
  ·rw [sa hi] at al;exact h.own i x v al ae
end
end Go.Proofs.YtfakoboiahbhaaaGreat.Ab


namespace Go.Proofs.YtfakoboiahbhaaaGreat.Ab
open Go
section
variable {P:Program} {B N:Nat} {J:List Nat} {w:World} {H:List au} {U:Nat→Option aI} {S:Nat→Nat→Prop}
theorem Rel.narrow {cj:List Nat} {bJ:Nat→Nat→Prop} {bV:World} (bM:Ext J cj) {u:I} {v v2:Value} (h:Rel J S w u v) (af:Rel cj bJ bV u v2):Rel J bJ bV u v2:=by
 induction h generalizing v2 with
 | junk v=>exact .junk v2
 | bool b=>cases af;exact .bool b
 | dq b=>cases af;exact .dq _
 | int k n=>cases af;exact .int k n
 | str s=>cases af;exact .str s
 | eC=>cases af;exact .eC
 | ptr id off b h =>
   cases af with
   | ptr _ _ cK k=>rw [bM _ _ h] at k;cases k;exact .ptr id off b h
 | cn id gid len z b cap h aO hle =>
   cases af with
   | cn _ _ _ _ cK oG k zb _ =>
     rw [bM _ _ h] at k;cases k;rw [bM _ _ aO] at zb;cases zb;exact .cn id gid len z b cap h aO hle
 | bW cells b o f h aj a' =>
   cases af with
   | bW _ b o f k eN=>exact .bW cells b o f k fun j u aw=>a' j u aw (eN j u aw)
 | b3 c a =>
   cases af with
   | b3 c a=>exact .b3 c a
   | ay _ _ _ b o cap f ao hle hu k eN=>exact .ay [] 0 c b o cap f ao hle hu k fun j u aw=>by simp at aw
   | cM _ _ z b o cap=>exact .cM _ _ z b o cap
 | ay cells len c b o cap f ao hle hu h aj a' =>
   cases af with
   | b3 c a=>exact .b3 c a
   | ay _ _ _ b o cap f ao hle hu k eN=>exact .ay cells len c b o cap f ao hle hu k fun j u aw=>a' j u aw (eN j u aw)
   | cM _ _ z b o cap=>exact .cM _ _ z b o cap
 | raw cells len z b o cap =>
   cases af with
   | raw _ _ _ b o cap=>exact .raw _ _ z b o cap
 | cM cells len z b o cap =>
   cases af with
   | b3 c a=>exact .b3 _ _
   | ay _ _ _ b o cap f ao hle hu k eN=>exact absurd rfl (hu z)
   | cM _ _ z b o cap=>exact .cM _ _ z b o cap
 | ref id off len c sz b cap h ao hle =>
   cases af with
   | ref _ _ _ _ _ cK oG k Dj Dm=>rw [bM _ _ h] at k;cases k;exact .ref id off len c sz b oG h Dj Dm
 | func f as bs vs ws ad F' bT b6 aS bk i1 i2 =>
   cases af with
   | func _ _ _ mS FV aJ aP _ _ q1 aX =>
     refine .func f as bs mS FV aJ aP bT b6 (fun j u v hu ae=>?_) (fun j u v hu ae=>?_)
     ·(have aw:j<vs.size:=by have:=(rV.1 hu).1;omega);exact i1 j u vs[j] hu (sv aw) (q1 j u v hu ae)
     ·(have aw:j<ws.size:=by have:=(rV.1 hu).1;omega);exact i2 j u ws[j] hu (sv aw) (aX j u v hu ae)
 | yield id b h =>
   cases af with
   | yield _ cK k=>rw [bM _ _ h] at k;cases k;exact .yield id b h
 | map id b h =>
   cases af with
   | map _ cK k=>rw [bM _ _ h] at k;cases k;exact .map id b h
 | agg as vs h p one r a' =>
   cases af with
   | agg _ mS k _ D1 q =>
     refine .agg as mS k p D1 fun j u v hu ae=>?_;(have aw:j<vs.size:=by have:=(rV.1 hu).1;omega);exact a' j u vs[j] hu (sv aw) (q j u v hu ae)
 | tuple as vs h p r a' =>
   cases af with
   | tuple _ mS k _ q =>
     refine .tuple as mS k p fun j u v hu ae=>?_;(have aw:j<vs.size:=by have:=(rV.1 hu).1;omega);exact a' j u vs[j] hu (sv aw) (q j u v hu ae)
theorem jR {f:I→Option I}:∀ {xs ys:List I},ec f xs=some ys→ys.length=xs.length∧∀ (j:Nat) (y:I),ys[j]?=some y→∃ x,xs[j]?=some x∧f x=some y
 | [],ys,h=>by simp [ec] at h;subst h;simp
 | x::xs,ys,h=>by
   simp only [ec] at h;split at h
   ·rename_i y a1;simp only [rU] at h;obtain ⟨ys,h,rfl⟩:=h;obtain ⟨ad,af⟩:=jR h;refine ⟨by simp [ad],fun j z bo=>?_⟩;cases j with
    | zero=>simp at bo;subst bo;exact ⟨x,rfl,a1⟩
    | succ j=>simpa using af j z (by simpa using bo)
   ·simp at h
theorem hY {lo id0 n d:Nat} {u r:I} (h:bL H lo id0 n d u=some r):(u.plain=true→r.plain=true)∧(u.cV=true→r.cV=true):=by
 cases d with
 | zero=>simp [bL] at h
 | succ d =>
   unfold bL at h;split at h
   ·simp only [rU] at h;rename_i c;obtain ⟨cs,_,rfl⟩:=h;cases c <;> exact ⟨fun h=>h,fun h=>h⟩
   ·simp only [rU] at h;obtain ⟨cs,_,rfl⟩:=h;exact ⟨fun h=>rfl,fun h=>rfl⟩
   ·simp only [rU] at h;obtain ⟨cs,_,rfl⟩:=h;exact ⟨fun h=>rfl,fun h=>rfl⟩
   ·simp only [rU] at h;obtain ⟨cs,_,rfl⟩:=h;exact ⟨fun h=>rfl,fun h=>rfl⟩
   ·split at h <;> simp at h;subst h;exact ⟨fun h=>rfl,fun h=>rfl⟩
   ·split at h
    ·simp at h;subst h;exact ⟨fun h=>rfl,fun h=>rfl⟩
    ·split at h
     ·simp at h;subst h;exact ⟨fun h=>rfl,fun h=>rfl⟩
     ·split at h
      ·simp only [rU] at h;obtain ⟨cs,_,rfl⟩:=h;exact ⟨fun h=>rfl,fun h=>rfl⟩
      ·simp at h
   ·split at h
    ·simp at h;subst h;exact ⟨fun h=>rfl,fun h=>rfl⟩
    ·split at h
     ·simp at h;subst h;exact ⟨fun h=>rfl,fun h=>rfl⟩
     ·split at h
      ·simp only [rU] at h;obtain ⟨cs,_,rfl⟩:=h;rename_i cap _ _ _ _ _ _;constructor <;> intro _ <;> (unfold gW;split <;> (try split) <;> rfl)
      ·simp at h
   ·split at h <;> simp at h;subst h;exact ⟨fun h=>rfl,fun h=>rfl⟩
   ·split at h
    ·simp at h;subst h;exact ⟨fun h=>rfl,fun h=>rfl⟩
    ·split at h <;> simp at h;subst h;exact ⟨fun h=>rfl,fun h=>rfl⟩
   ·simp at h
   ·simp at h
   ·simp at h;subst h;exact ⟨fun h=>h,fun h=>h⟩
theorem BZ {cap:Option Nat} {n m:Nat} (ao:∀ k,cap=some k→m=k) (h:gW cap n=.full):m=n:=by
 unfold gW at h;cases cap with
 | none=>simp at h
 | some c =>
   simp only at h;split at h
   ·rename_i Cj;rw [ao c rfl,Cj]
   ·cases h
theorem yv {cap:Option Nat} {n:Nat} (z:Nat):gW cap n≠.uniq z:=by
 unfold gW;cases cap with
 | none=>simp
 | some c=>simp only;split <;> simp
def gn (U:Nat→Option aI) (S:Nat→Nat→Prop) (w:World) (lo id0:Nat) (b o:Nat):Prop :=
 S b o∨((∃ id,lo≤id∧id≠id0∧U b=some (.obj id))∧∃ v,w.cell? ⟨b,o,none⟩=some v)
theorem lK (ah:aL B U J S w H) {lo id0 n:Nat} {gk:List Nat} (bF:∀ (id b:Nat),id<lo→J[id]?=some b→gk[id]?=some b) (aN:∀ b,J[id0]?=some b→gk[n]?=some b) :
  ∀ (d:Nat) (u r:I) (v:Value),bL H lo id0 n d u=some r→Rel J S w u v→Rel gk (gn U S w lo id0) w r v:=by
 intro d
 induction d with
 | zero=>intro u r v h;simp [bL] at h
 | succ d a' =>
   intro u r v h aj;have list:∀ {cells cs:List I} {b o:Nat} {f:Nat→Value},ec (bL H lo id0 n d) cells=some cs →
     (∀ (j:Nat) (u:I),cells[j]?=some u→S b (o+j)∧w.cell? ⟨b,o+j,none⟩=some (f j)∧u.plain=true∧(f j).oneCell'=true) →
     (∀ (j:Nat) (u:I),cells[j]?=some u→Rel J S w u (f j)) →
     (∀ (j:Nat) (u:I),cs[j]?=some u→gn U S w lo id0 b (o+j)∧w.cell? ⟨b,o+j,none⟩=some (f j)∧u.plain=true∧(f j).oneCell'=true) ∧
     (∀ (j:Nat) (u:I),cs[j]?=some u→Rel gk (gn U S w lo id0) w u (f j)):=fun hm ao fo=>by
    obtain ⟨ad,af⟩:=jR hm;refine ⟨fun j y a1=>?_,fun j y a1=>?_⟩
    ·obtain ⟨x,al,aQ⟩:=af j y a1;obtain ⟨ba,bm,bt,b9⟩:=ao j x al;exact ⟨.inl ba,bm,(hY aQ).1 bt,b9⟩
    ·obtain ⟨x,al,aQ⟩:=af j y a1;exact a' x y _ aQ (fo j x al)
   have arr:∀ {as bs:List I} {vs:Array Value},ec (bL H lo id0 n d) as=some bs→vs.size=as.length→(∀ u∈as,u.plain=true) →
     (∀ (j:Nat) (u:I) (v:Value),as[j]?=some u→vs[j]?=some v→Rel J S w u v) →
     vs.size=bs.length∧(∀ u∈bs,u.plain=true)∧∀ (j:Nat) (u:I) (v:Value),bs[j]?=some u→vs[j]?=some v→Rel gk (gn U S w lo id0) w u v:=fun hm ak aC fo=>by
    obtain ⟨ad,af⟩:=jR hm;refine ⟨by omega,fun y a1=>?_,fun j y v a1 ae=>?_⟩
    ·obtain ⟨j,aw⟩:=tu.1 a1;obtain ⟨x,al,aQ⟩:=af j y aw;exact (hY aQ).1 (aC x (sA al))
    ·obtain ⟨x,al,aQ⟩:=af j y a1;exact a' x y v aQ (fo j x v al ae)
   cases aj with
   | junk v=>simp only [bL,Option.some.injEq] at h;subst h;exact .junk v
   | bool b=>simp only [bL,Option.some.injEq] at h;subst h;exact .bool b
   | dq b=>simp only [bL,Option.some.injEq] at h;subst h;exact .dq b
   | int k n=>simp only [bL,Option.some.injEq] at h;subst h;exact .int k n
   | str s=>simp only [bL,Option.some.injEq] at h;subst h;exact .str s
   | eC=>simp only [bL,Option.some.injEq] at h;subst h;exact .eC
   | raw=>simp [bL] at h
   | cn=>simp [bL] at h
   | map id b k =>
     simp only [bL] at h;split at h
     ·rename_i aV;simp only [Option.some.injEq] at h;subst h;exact .map _ b (bF id b aV k)
     ·split at h
      ·rename_i heq;subst heq;simp only [Option.some.injEq] at h;subst h;exact .map _ b (aN b k)
      ·simp at h
   | yield id b k =>
     simp only [bL] at h;split at h
     ·rename_i aV;simp only [Option.some.injEq] at h;subst h;exact .yield _ b (bF id b aV k)
     ·simp at h
   | b3 c a =>
     simp only [bL,rU] at h;obtain ⟨cs,hm,rfl⟩:=h;simp [ec] at hm;subst hm;exact .b3 _ _
   | ay cells len c b o cap f ao hle hu k eN =>
     simp only [bL,rU] at h;obtain ⟨cs,hm,rfl⟩:=h;obtain ⟨dK,kL⟩:=list hm k eN;exact .ay _ _ _ b o cap f ao hle hu dK kL
   | cM cells len z b o cap =>
     simp only [bL,rU] at h;obtain ⟨cs,hm,rfl⟩:=h;exact .cM _ _ z b o cap
   | bW cells b o f k eN =>
     simp only [bL,rU] at h;obtain ⟨cs,hm,rfl⟩:=h;obtain ⟨dK,kL⟩:=list hm k eN;exact .bW _ b o f dK kL
   | agg as vs k p one q =>
     simp only [bL,rU] at h;obtain ⟨cs,hm,rfl⟩:=h;obtain ⟨aB,aH,aR⟩:=arr hm k p q;exact .agg _ vs aB aH one aR
   | tuple as vs k p q =>
     simp only [bL,rU] at h;obtain ⟨cs,hm,rfl⟩:=h;obtain ⟨aB,aH,aR⟩:=arr hm k p q;exact .tuple _ vs aB aH aR
   | func f as bs vs ws aJ aP bT b6 q1 aX =>
     simp only [bL] at h;split at h
     ·rename_i cg ag;simp only [Option.some.injEq] at h;subst h;obtain ⟨aB,aH,aR⟩:=arr cg aJ bT q1;obtain ⟨bq,cK,eA⟩:=arr ag aP b6 aX;exact .func f _ _ vs ws aB bq aH cK aR eA
     ·simp at h
   | ptr id off b k =>
     simp only [bL] at h;split at h
     ·rename_i aV;simp only [Option.some.injEq] at h;subst h;exact .ptr _ _ b (bF id b aV k)
     ·rename_i e9;split at h
      ·rename_i heq;subst heq;simp only [Option.some.injEq] at h;subst h;exact .ptr _ _ b (aN b k)
      ·rename_i bO;split at h
       ·rename_i l aE;simp only [rU] at h;obtain ⟨cs,hm,rfl⟩:=h;obtain ⟨ar,cur,e,aB,aH,aR,bl,bc,bg⟩:=ah.obj id _ aE;rw [k] at aB;cases aB;obtain ⟨df,dg⟩:=jR hm;(have bx:∀ o,o<cur.size→w.cell? ⟨b,o,none⟩=cur[o]?:=fun o aq=>by simp [World.cell?,aR,aq]);have facts:∀ (j:Nat) (y:I),cs[j]?=some y→∃ x c,off+j<cur.size∧cur[off+j]?=some c∧c.oneCell'=true∧x.plain=true∧bL H lo id0 n d x=some y∧Rel J S w x c:=fun j y a1=>by
         obtain ⟨x,al,aQ⟩:=dg j y a1;have h1:=(rV.1 al).1;simp at h1;(have fm:off+j<l.length:=by omega);(have e_:off+j<cur.size:=by omega);have ak:l[off+j]?=some l[off+j]:=sd fm;have ae:cur[off+j]?=some cur[off+j]:=sv e_;obtain ⟨ba,bm,bt,b9⟩:=bg (off+j) _ _ ak ae;rw [sm,sY,ak] at al;simp at al;subst al;exact ⟨_,_,e_,ae,bm,I.dh _,aQ,bt.view ba⟩
        refine .bW cs b off (fun j=>cur.getD (off+j) undef) (fun j y a1=>?_) (fun j y a1=>?_)
        ·obtain ⟨x,c,aw,c7,ad,aC,aQ,eg⟩:=facts j y a1;(have aO:cur.getD (off+j) undef=c:=by rw [sk,c7];rfl);rw [aO];exact ⟨.inr ⟨⟨id,by omega,bO,aH⟩,c,by rw [bx _ aw,c7]⟩,by rw [bx _ aw,c7],(hY aQ).1 aC,ad⟩
        ·obtain ⟨x,c,aw,c7,ad,aC,aQ,eg⟩:=facts j y a1;(have aO:cur.getD (off+j) undef=c:=by rw [sk,c7];rfl);simp only [aO];exact a' x y c aQ eg
       ·simp at h
   | ref id off len cap sz b gx k ao hle =>
     simp only [bL] at h;split at h
     ·rename_i aV;simp only [Option.some.injEq] at h;subst h;exact .ref _ _ _ _ _ b gx (bF id b aV k) ao hle
     ·rename_i e9;split at h
      ·rename_i heq;subst heq;simp only [Option.some.injEq] at h;subst h;exact .ref _ _ _ _ _ b gx (aN b k) ao hle
      ·rename_i bO;split at h
       ·rename_i row cU;simp only [rU] at h;obtain ⟨cs,hm,rfl⟩:=h;unfold rowOf at cU;simp only at cU;split at cU
        ·rename_i l aE;split at cU
         ·rename_i dH;simp only [Option.some.injEq] at cU;obtain ⟨ar,cur,e,aB,aH,aR,bl,bc,bg⟩:=ah.obj id _ aE;rw [k] at aB;cases aB;obtain ⟨df,dg⟩:=jR hm;(have bx:∀ o,o<cur.size→w.cell? ⟨b,o,none⟩=cur[o]?:=fun o aq=>by simp [World.cell?,aR,aq]);have facts:∀ (j:Nat) (y:I),cs[j]?=some y→∃ x c,off+j<cur.size∧cur[off+j]?=some c∧c.oneCell'=true∧x.plain=true∧bL H lo id0 n d x=some y∧Rel J S w x c:=fun j y a1=>by
           obtain ⟨x,al,aQ⟩:=dg j y a1;subst cU;have h1:=(rV.1 al).1;simp at h1;(have fm:off+j<l.length:=by omega);(have e_:off+j<cur.size:=by omega);have ak:l[off+j]?=some l[off+j]:=sd fm;have ae:cur[off+j]?=some cur[off+j]:=sv e_;obtain ⟨ba,bm,bt,b9⟩:=bg (off+j) _ _ ak ae;rw [sm,sR,if_pos (by omega),sY,ak] at al;simp at al;subst al;exact ⟨_,_,e_,ae,bm,I.dh _,aQ,bt.view ba⟩
          refine .ay cs len _ b off gx (fun j=>cur.getD (off+j) undef) (fun Cu=>BZ ao Cu) hle (fun z=>yv z) (fun j y a1=>?_) (fun j y a1=>?_)
          ·obtain ⟨x,c,aw,c7,ad,aC,aQ,eg⟩:=facts j y a1;(have aO:cur.getD (off+j) undef=c:=by rw [sk,c7];rfl);rw [aO];exact ⟨.inr ⟨⟨id,by omega,bO,aH⟩,c,by rw [bx _ aw,c7]⟩,by rw [bx _ aw,c7],(hY aQ).1 aC,ad⟩
          ·obtain ⟨x,c,aw,c7,ad,aC,aQ,eg⟩:=facts j y a1;(have aO:cur.getD (off+j) undef=c:=by rw [sk,c7];rfl);simp only [aO];exact a' x y c aQ eg
         ·simp at cU
        ·simp at cU
       ·simp at h
end
end Go.Proofs.YtfakoboiahbhaaaGreat.Ab


namespace Go.Proofs.YtfakoboiahbhaaaGreat.Ab
open Go
def fK (U:Nat→Option aI) (lo id0 n:Nat):Nat→Option aI:=fun b=>match U b with
 | some (.obj id)=>if id<lo then some (.obj id) else if id=id0 then some (.obj n) else none
 | some (.cell id j)=>if id<lo then some (.cell id j) else if id=id0 then some (.cell n j) else none
 | x=>x
section
variable {P:Program} {B N:Nat} {J:List Nat} {w:World} {H:List au} {U:Nat→Option aI} {S:Nat→Nat→Prop}
theorem gp.narrow {bp mU:Nat→Option aI} {cj:List Nat} {bJ jm:Nat→Nat→Prop} {bV:World} (bM:Ext J cj) {id:Nat} {o:au} (h:gp U J S w id o) (af:gp bp cj bJ bV id o)
  (cp:∀ b o,bJ b o→jm b o) (av:∀ b l,bp b=some l→(l=.obj id∨∃ j,l=.cell id j)→mU b=some l∧∀ o,jm b o→bJ b o):gp mU J jm bV id o:=by
 cases o with
 | dead=>trivial
 | map es clock =>
   obtain ⟨b,bz,aB,aH,aR,bl,bc,bg⟩:=h;obtain ⟨cK,BT,ba,bm,bt,b9,dX,fR⟩:=af;rw [bM _ _ aB] at ba;cases ba;obtain ⟨aJ,aP⟩:=av b _ bm (.inl rfl);refine ⟨b,BT,aB,aJ,bt,b9,fun o aq=>dX o (aP o aq),fun j i k v x hu ae=>?_⟩;(have aw:j<bz.size:=by have:=(rV.1 hu).1;omega);obtain ⟨bT,b6,eD,fM,mE⟩:=bg j i k v bz[j] hu (sv aw);obtain ⟨q1,aX,cB,dQ,mI⟩:=fR j i k v x hu ae;exact ⟨q1,aX,(eD.narrow bM cB).mono (Ext.refl J) (fun b o h=>⟨cp b o h,rfl⟩),dQ,(mE.narrow bM mI).mono (Ext.refl J) (fun b o h=>⟨cp b o h,rfl⟩)⟩
 | iter m s e t =>
   obtain ⟨b,ed,aB,aH,aR,bl,bc⟩:=h;obtain ⟨cK,F4,ba,bm,bt,b9,dX⟩:=af;rw [bM _ _ aB] at ba;cases ba;rw [bM _ _ aR] at bt;cases bt;obtain ⟨aJ,aP⟩:=av b _ bm (.inl rfl);exact ⟨b,ed,aB,aJ,aR,b9,fun o aq=>dX o (aP o aq)⟩
 | cells l =>
   obtain ⟨b,cur,e,aB,aH,aR,bl,bc,bg⟩:=h;obtain ⟨cK,oJ,cm,ba,bm,bt,b9,dX,fR⟩:=af;rw [bM _ _ aB] at ba;cases ba;obtain ⟨aJ,aP⟩:=av b _ bm (.inl rfl);refine ⟨b,oJ,cm,aB,aJ,bt,b9,fun o aq=>dX o (aP o aq),fun j u v hu ae=>?_⟩;(have aw:j<cur.size:=by have:=(rV.1 hu).1;omega);obtain ⟨bT,b6,eD,fM⟩:=bg j u cur[j] hu (sv aw);obtain ⟨q1,aX,cB,dQ⟩:=fR j u v hu ae;refine ⟨q1,aX,(eD.narrow bM cB).mono (Ext.refl J) (fun b o h=>⟨cp b o h,rfl⟩),?_⟩;have hm:=fun b ag=>av b (.cell id j) ag (.inr ⟨j,rfl⟩);unfold aW at dQ ⊢;split at dQ
   ·rcases dQ with dQ | ⟨ad,af,aG,a7,bN,bX,cP,cT,cX⟩
    ·exact .inl dQ
    ·exact .inr ⟨(hm _ ad).1,af,aG,a7,bN,bX,cP,cT,fun o aq ai=>cX o aq ((hm _ ad).2 o ai)⟩
   ·simp [I.cV] at q1
   ·obtain ⟨ad,aT,a7,bN,bX,cP,ai,⟨cur,e,cT,cX,dz⟩,fj⟩:=dQ;have g2:=ai;rw [ss] at g2;exact ⟨(hm _ ad).1,aT,a7,bN,bX,cP,ai,⟨cur,e,cT,cX,fun j u v hu ae=>⟨(dz j u v hu ae).1,AJ (g2 u (sA hu)) (dz j u v hu ae).2⟩⟩,fun o ai=>fj o ((hm _ ad).2 o ai)⟩
   ·trivial
 | grow l gid z =>
   obtain ⟨b,cur,e,aB,aH,aR,bl,bc,bg,cap,c2,db⟩:=h;obtain ⟨cK,oJ,cm,ba,bm,bt,b9,dX,fR,oG,m2,m3⟩:=af;rw [bM _ _ aB] at ba;cases ba;rw [bM _ _ c2] at m2;cases m2;obtain ⟨aJ,aP⟩:=av b _ bm (.inl rfl);refine ⟨b,oJ,cm,aB,aJ,bt,b9,fun o aq=>dX o (aP o aq),fun j u v hu ae=>?_,cap,c2,m3⟩;(have aw:j<cur.size:=by have:=(rV.1 hu).1;omega);obtain ⟨bT,b6,eD,fM⟩:=bg j u cur[j] hu (sv aw);obtain ⟨q1,aX,cB,dQ⟩:=fR j u v hu ae;refine ⟨q1,aX,(eD.narrow bM cB).mono (Ext.refl J) (fun b o h=>⟨cp b o h,rfl⟩),?_⟩;have hm:=fun b ag=>av b (.cell id j) ag (.inr ⟨j,rfl⟩);unfold aW at dQ ⊢;split at dQ
   ·rcases dQ with dQ | ⟨ad,af,aG,a7,bN,bX,cP,cT,cX⟩
    ·exact .inl dQ
    ·exact .inr ⟨(hm _ ad).1,af,aG,a7,bN,bX,cP,cT,fun o aq ai=>cX o aq ((hm _ ad).2 o ai)⟩
   ·simp [I.cV] at q1
   ·obtain ⟨ad,aT,a7,bN,bX,cP,ai,⟨cur,e,cT,cX,dz⟩,fj⟩:=dQ;have g2:=ai;rw [ss] at g2;exact ⟨(hm _ ad).1,aT,a7,bN,bX,cP,ai,⟨cur,e,cT,cX,fun j u v hu ae=>⟨(dz j u v hu ae).1,AJ (g2 u (sA hu)) (dz j u v hu ae).2⟩⟩,fun o ai=>fj o ((hm _ ad).2 o ai)⟩
   ·trivial
 | loop st cH fn T params assign body js =>
   obtain ⟨al,a1,b,L,aB,aH,aR,bl,bc,bg,c2,db,dE⟩:=h;obtain ⟨_,_,cK,iv,ba,bm,bt,b9,dX,fR,m2,m3,BI⟩:=af;rw [bM _ _ aB] at ba;cases ba;refine ⟨al,a1,b,iv,aB,(av b _ bm (.inl rfl)).1,bt,b9,dX,fR,m2,fun i u v hu ae=>?_,BI⟩;(have aw:i<L.tmps.size:=by have:=(rV.1 hu).1;omega);exact ⟨(m3 i u v hu ae).1,(((db i u L.tmps[i] hu (sv aw)).2).narrow bM (m3 i u v hu ae).2).mono (Ext.refl J) (fun b o h=>⟨cp b o h,rfl⟩)⟩
theorem nK {lo id0 n b:Nat} {l:aI} (h:U b=some l) (ak:∀ id,(l=.obj id∨∃ j,l=.cell id j)→id<lo):fK U lo id0 n b=some l:=by
 unfold fK;rw [h];cases l with
 | obj id=>simp [ak id (.inl rfl)]
 | cell id j=>simp [ak id (.inr ⟨j,rfl⟩)]
 | _=>rfl
theorem DD {lo id0 n b:Nat} (h:U b=none):fK U lo id0 n b=none:=by simp [fK,h]
theorem oU {bp:Nat→Option aI} {cj:List Nat} {bJ:Nat→Nat→Prop} {bV:World} {a3:List au} (ah:aL B U J S w H) (bM:Ext J cj) (aA:bh U S w bp bJ bV) (cr:aL B bp cj bJ bV a3)
  (jN:∀ id,id<H.length→a3[id]?=H[id]?) (id0 n:Nat) :
  bh U S w (fK bp H.length id0 n) (gn bp bJ bV H.length id0) bV∧aL B (fK bp H.length id0 n) J (gn bp bJ bV H.length id0) bV H:=by
 have aN:∀ b,fK bp H.length id0 n b≠none→bp b≠none:=fun b h aT=>h (DD aT);refine ⟨⟨aA.os,aA.tape,aA.output,aA.size,aA.cF,fun b o h=>⟨.inl (aA.set b o h).1,(aA.set b o h).2⟩,fun b o h=>?_,fun b h=>aA.own b (aN b h)⟩,⟨ah.cG,fun id o aq=>?_,fun b o h=>?_,fun b l ag=>?_,cr.cZ⟩⟩
 ·rcases h with h | ⟨⟨id,_,_,h⟩,_⟩
  ·exact aA.fresh b o h
  ·rcases aA.own b (by simp [h]) with ad | ad
   ·exact .inr (.inl ad)
   ·exact .inr (.inr ad)
 ·have aV:=(rV.1 aq).1;have pD:a3[id]?=some o:=by rw [jN id aV];exact aq
  refine (ah.obj id o aq).narrow bM (cr.obj id o pD) (fun b o h=>.inl h) fun b l ag ak=>⟨nK ag fun bA dA=>?_,fun o h=>?_⟩
  ·have:bA=id:=by
    rcases ak with rfl | ⟨j,rfl⟩ <;> rcases dA with h | ⟨y8,h⟩ <;> cases h <;> rfl
   omega
  ·rcases h with h | ⟨⟨bA,ad,_,h⟩,_⟩
   ·exact h
   ·rw [ag] at h;rcases ak with rfl | ⟨j,rfl⟩
    ·cases h;omega
    ·cases h
 ·rcases h with h | ⟨_,h⟩
  ·exact cr.ch b o h
  ·exact h
 ·cases h:bp b with
  | none=>simp [fK,h] at ag
  | some l'=>exact cr.base b l' h
theorem kn {cj gk:List Nat} {bV:World} {bp mU:Nat→Option aI} {bJ jm:Nat→Nat→Prop} {l l':aI} (f_:∀ b,bp b=some l→mU b=some l'∧∀ o,jm b o→bJ b o) {a3:List au} {lo id0 n d:Nat} {u r:I} {v:Value}
  (b':∀ (d:Nat) (u r:I) (v:Value),bL a3 lo id0 n d u=some r→Rel cj bJ bV u v→Rel gk jm bV r v)
  (h:bL a3 lo id0 n d u=some r) (aq:aW bp cj bJ bV l u v):aW mU gk jm bV l' r v:=by
 by_cases aC:u.plain=true
 ·exact aW.b5 ((hY h).1 aC)
 ·cases d with
  | zero=>simp [bL] at h
  | succ d =>
    obtain ⟨cells,len,c,rfl⟩:∃ cells len c,u=.ay cells len c:=by
     cases u <;> first | exact ⟨_,_,_,rfl⟩ | exact absurd rfl aC | simp [bL] at h
    simp only [bL,rU] at h;obtain ⟨cs,hm,rfl⟩:=h;obtain ⟨df,dg⟩:=jR hm;cases c with
    | shared=>exact absurd rfl aC
    | full=>exact absurd rfl aC
    | own z =>
      cases v with
      | slice aa m gx =>
       cases aa with
       | none=>trivial
       | some a =>
        simp only [aW] at aq ⊢;rcases aq with ⟨ad,af,aG⟩ | ⟨ad,af,aG,a7,bN,bX,cP,cT,cX⟩
        ·subst aG;simp [ec] at hm;subst hm;exact .inl ⟨ad,af,rfl⟩
        ·exact .inr ⟨(f_ _ ad).1,af,aG,a7,bN,bX,by omega,cT,fun o aq ai=>cX o (by omega) ((f_ _ ad).2 o ai)⟩
      | _=>trivial
    | uniq z =>
      cases v with
      | slice aa m gx =>
       cases aa with
       | none=>trivial
       | some a =>
        simp only [aW] at aq ⊢;rcases aq with ⟨ad,af,aG⟩ | ⟨ad,af,a7,bN,bX,cP,⟨cur,e,cT,cX,dz⟩,fj⟩
        ·subst aG;simp [ec] at hm;subst hm;exact .inl ⟨ad,af,rfl⟩
        ·refine .inr ⟨(f_ _ ad).1,af,a7,bN,bX,by omega,⟨cur,e,cT,cX,fun j y c a1 ao=>?_⟩,fun o ai=>fj o ((f_ _ ad).2 o ai)⟩;obtain ⟨x,al,aQ⟩:=dg j y a1;obtain ⟨q1,aX,cB⟩:=dz j x c al ao;exact ⟨(hY aQ).1 q1,aX,b' d x y c aQ cB⟩
      | _=>trivial
theorem xj (ah:aL B U J S w H) {a3:List au} {r v:I} {x:Value} {bV:World} (jN:∀ id,id<H.length→a3[id]?=H[id]?) {n d:Nat} (aQ:bL a3 H.length a3.length n d r=some v)
  (aC:a2 B U J S w a3 r x bV):a2 B U J S w H v x bV:=by
 obtain ⟨bp,cj,bJ,bM,aA,cr,aj,aq⟩:=aC;obtain ⟨dF,aG⟩:=oU ah bM aA cr jN a3.length n
 have b':=fun d u r v=>lK (gk:=J) (id0:=a3.length) (n:=n) cr (lo:=H.length) (fun id b aV ag=>by
   (have h2:id<J.length:=by rw [ah.cG];exact aV);have al:=sd h2;rw [bM _ _ al] at ag;cases ag;exact al) (fun b ag=>by
   have:=(rV.1 ag).1;rw [cr.cG] at this;omega) d u r v
 refine ⟨_,J,_,Ext.refl J,dF,aG,b' d r v x aQ aj,kn (l:=.res) (fun b ag=>⟨nK ag (fun id h=>by rcases h with h | ⟨j,h⟩ <;> cases h),fun o h=>?_⟩) b' aQ aq⟩;rcases h with h | ⟨⟨id,_,_,h⟩,_⟩
 ·exact h
 ·rw [ag] at h;cases h
theorem D8 (ah:aL B U J S w H) {a3:List au} {r v:I} {x:Value} {bV:World} (jN:∀ id,id<H.length→a3[id]?=H[id]?) {id0 d gT:Nat} {l l':List I} (e9:H.length≤id0)
  (aE:a3[id0]?=some (.cells l)) (ak:ec (bL a3 H.length id0 H.length gT) l=some l') (aQ:bL a3 H.length id0 H.length d r=some v)
  (aC:a2 B U J S w a3 r x bV):a2 B U J S w (H++[.cells l']) v x bV:=by
 obtain ⟨bp,cj,bJ,bM,aA,cr,aj,aq⟩:=aC;obtain ⟨dF,aG⟩:=oU ah bM aA cr jN id0 H.length;obtain ⟨dy,cur,e,aB,aH,aR,bl,bc,bg⟩:=cr.obj id0 _ aE;have mf:Ext J (J++[dy]):=Ext.append J [dy]
 have b':=fun d u r v=>lK (gk:=J++[dy]) (id0:=id0) (n:=H.length) cr (lo:=H.length) (fun id b aV ag=>by
   (have h2:id<J.length:=by rw [ah.cG];exact aV);have al:=sd h2;rw [bM _ _ al] at ag;cases ag;exact mf _ _ al) (fun b ag=>by
   rw [aB] at ag;cases ag;exact Ext.last ah dy) d u r v
 obtain ⟨df,dg⟩:=jR ak;have pk:∀ id,(aI.obj id0≠.obj id)∨id=id0:=fun id=>by
  by_cases h:id=id0
  ·exact .inr h
  ·exact .inl fun e=>h (by cases e;rfl)
 have kx:∀ b,bp b=some (.obj id0)→fK bp H.length id0 H.length b=some (.obj H.length):=fun b ag=>by
  simp only [fK,ag];simp;omega
 have CG:∀ b j,bp b=some (.cell id0 j)→fK bp H.length id0 H.length b=some (.cell H.length j):=fun b j ag=>by
  simp only [fK,ag];simp;omega
 have cp:∀ b l,bp b=some l→(∀ id,l≠.obj id∨id=id0)→∀ o,gn bp bJ bV H.length id0 b o→bJ b o:=fun b l ag bO o h=>by
  rcases h with h | ⟨⟨id,_,aN,h⟩,_⟩
  ·exact h
  ·rw [ag] at h;cases h;rcases bO id with h | h
   ·exact absurd rfl h
   ·exact absurd h aN
 refine ⟨_,J++[dy],_,mf,dF,aG.push dy ⟨dy,cur,e,Ext.last ah dy,kx dy aH,aR,by omega,fun o h=>bc o (cp dy _ aH pk o h),fun j u c hu ao=>?_⟩,
  b' d r v x aQ aj,kn (l:=.res) (fun b ag=>⟨nK ag (fun id h=>by rcases h with h | ⟨j,h⟩ <;> cases h),cp b _ ag (fun id=>.inl (by simp))⟩) b' aQ aq⟩
 obtain ⟨y,a1,pj⟩:=dg j u hu;obtain ⟨ba,bm,bt,b9⟩:=bg j y c a1 ao;exact ⟨(hY pj).2 ba,bm,b' gT y u c pj bt,kn (l:=.cell id0 j) (fun b ag=>⟨CG b j ag,cp b _ ag (fun id=>.inl (by simp))⟩) b' pj b9⟩
theorem mapM_some {f:I→Option I}:∀ {xs ys:List (Nat×I×I)},mapM f xs=some ys→ys.length=xs.length∧∀ (j i:Nat) (k v:I),ys[j]?=some (i,k,v)→∃ de v0,xs[j]?=some (i,de,v0)∧f de=some k∧f v0=some v
 | [],ys,h=>by simp [mapM] at h;subst h;simp
 | (i0,de,v0)::xs,ys,h=>by
   simp only [mapM] at h;split at h
   ·rename_i aJ v1 av ae;simp only [rU] at h;obtain ⟨ys,h,rfl⟩:=h;obtain ⟨ad,af⟩:=mapM_some h;refine ⟨by simp [ad],fun j i k v aw=>?_⟩;cases j with
    | zero=>simp at aw;obtain ⟨rfl,rfl,rfl⟩:=aw;exact ⟨de,v0,rfl,av,ae⟩
    | succ j=>simpa using af j i k v (by simpa using aw)
   ·simp at h
theorem D9 (ah:aL B U J S w H) {a3:List au} {r v:I} {x:Value} {bV:World} (jN:∀ id,id<H.length→a3[id]?=H[id]?) {id0 d gT:Nat} {es es':List (Nat×I×I)} {clock:Nat} (e9:H.length≤id0)
  (aE:a3[id0]?=some (.map es clock)) (ak:mapM (bL a3 H.length id0 H.length gT) es=some es') (aQ:bL a3 H.length id0 H.length d r=some v)
  (aC:a2 B U J S w a3 r x bV):a2 B U J S w (H++[.map es' clock]) v x bV:=by
 obtain ⟨bp,cj,bJ,bM,aA,cr,aj,aq⟩:=aC;obtain ⟨dF,aG⟩:=oU ah bM aA cr jN id0 H.length;obtain ⟨dy,bz,aB,aH,aR,bl,bc,bg⟩:=cr.obj id0 _ aE;have mf:Ext J (J++[dy]):=Ext.append J [dy]
 have b':=fun d u r v=>lK (gk:=J++[dy]) (id0:=id0) (n:=H.length) cr (lo:=H.length) (fun id b aV ag=>by
   (have h2:id<J.length:=by rw [ah.cG];exact aV);have al:=sd h2;rw [bM _ _ al] at ag;cases ag;exact mf _ _ al) (fun b ag=>by
   rw [aB] at ag;cases ag;exact Ext.last ah dy) d u r v
 obtain ⟨df,dg⟩:=mapM_some ak;have pk:∀ id,(aI.obj id0≠.obj id)∨id=id0:=fun id=>by
  by_cases h:id=id0
  ·exact .inr h
  ·exact .inl fun e=>h (by cases e;rfl)
 have kx:∀ b,bp b=some (.obj id0)→fK bp H.length id0 H.length b=some (.obj H.length):=fun b ag=>by
  simp only [fK,ag];simp;omega
 have cp:∀ b l,bp b=some l→(∀ id,l≠.obj id∨id=id0)→∀ o,gn bp bJ bV H.length id0 b o→bJ b o:=fun b l ag bO o h=>by
  rcases h with h | ⟨⟨id,_,aN,h⟩,_⟩
  ·exact h
  ·rw [ag] at h;cases h;rcases bO id with h | h
   ·exact absurd rfl h
   ·exact absurd h aN
 refine ⟨_,J++[dy],_,mf,dF,aG.push dy ⟨dy,bz,Ext.last ah dy,kx dy aH,aR,by omega,fun o h=>bc o (cp dy _ aH pk o h),fun j i k v c hu ao=>?_⟩,
  b' d r v x aQ aj,kn (l:=.res) (fun b ag=>⟨nK ag (fun id h=>by rcases h with h | ⟨j,h⟩ <;> cases h),cp b _ ag (fun id=>.inl (by simp))⟩) b' aQ aq⟩
 obtain ⟨de,v0,a1,yF,ku⟩:=dg j i k v hu;obtain ⟨ba,bm,bt,b9,dX⟩:=bg j i de v0 c a1 ao;exact ⟨ba,(hY yF).1 bm,b' gT de k _ yF bt,(hY ku).1 b9,b' gT v0 v _ ku dX⟩
theorem yg {u:I} (h:u.plain=true):u.gU.plain=true:=by
 unfold I.gU;split
 ·rfl
 ·exact h
theorem BS {u:I} (h:u.plain=true):u.cu.plain=true:=by
 unfold I.cu;split <;> first | rfl | exact h
theorem Rel.gU {u:I} {v:Value} (h:Rel J S w u v):Rel J S w u.gU v:=by
 unfold I.gU;split
 ·rename_i c n;cases h with
  | b3 _ a=>exact .b3 _ a
  | ay _ _ _ b o cap f ao hle hu k eN=>exact .ay _ _ _ b o cap f (by simp) hle (by simp) k eN
 ·exact h
theorem Rel.cu {u:I} {v:Value} (h:Rel J S w u v):Rel J S w u.cu v:=by
 unfold I.cu;split
 ·rename_i c n;cases h with
  | b3 _ a=>exact .b3 _ a
  | ay _ _ _ b o cap f ao hle hu k eN=>exact .ay _ _ _ b o cap f (by simp) hle (by simp) k eN
 ·cases h with
  | agg as vs l p one r =>
    refine .agg _ vs (by simpa using l) (fun u hu=>?_) one fun j u v hu ae=>?_
    ·obtain ⟨x,al,rfl⟩:=sq.1 hu;exact yg (p x al)
    ·rw [sm] at hu;simp only [rU] at hu;obtain ⟨x,al,rfl⟩:=hu;exact (r j x v al ae).gU
 ·cases h with
  | tuple as vs l p r =>
    refine .tuple _ vs (by simpa using l) (fun u hu=>?_) fun j u v hu ae=>?_
    ·obtain ⟨x,al,rfl⟩:=sq.1 hu;exact yg (p x al)
    ·rw [sm] at hu;simp only [rU] at hu;obtain ⟨x,al,rfl⟩:=hu;exact (r j x v al ae).gU
 ·exact h
theorem aW.cu {l:aI} {u:I} {v:Value} (h:aW U J S w l u v):aW U J S w l u.cu v:=by
 by_cases aC:u.plain=true
 ·exact aW.b5 (BS aC)
 ·have:u.cu=u:=by
   cases u <;> first | exact absurd rfl aC | skip
   ·rename_i c n k;cases k <;> first | rfl | exact absurd rfl aC
   ·rfl
   ·rfl
  rw [this];exact h
theorem a_.cu {bB:Nat→aI} {T:List I} {bf:List Value} (h:a_ bB U J S w T bf):a_ bB U J S w (T.map I.cu) bf :=
 ⟨by simpa using h.len,fun i u v hu ae=>by
  rw [sm] at hu;simp only [rU] at hu;obtain ⟨x,al,rfl⟩:=hu;exact (h.rel i x v al ae).cu,fun i u v hu ae=>by
  rw [sm] at hu;simp only [rU] at hu
  obtain ⟨x,al,rfl⟩:=hu;exact (h.own i x v al ae).cu⟩
theorem a2.cu {H':List au} {r:I} {v:Value} {w':World} (h:a2 B U J S w H' r v w'):a2 B U J S w H' r.cu v w':=by
 obtain ⟨bp,cj,bJ,a,b,c,d,e⟩:=h;exact ⟨bp,cj,bJ,a,b,c,d.cu,e.cu⟩
theorem Rel.pure (b1:List Nat) {u:I} {v:Value} (h:Rel J S w u v):∀ {d:Nat},ct d u=true→Rel b1 S w u v:=by
 have all:∀ {d:Nat} {l:List I},l.all (ct d)=true→∀ {j:Nat} {u:I},l[j]?=some u→ct d u=true:=fun h j u hu=>by
  rw [ss] at h;exact h u (sA hu)
 induction h with
 | junk v=>intro d h;cases d <;> simp [ct] at h
 | bool b=>intros;exact .bool b
 | dq b=>intros;exact .dq b
 | int k n=>intros;exact .int k n
 | str s=>intros;exact .str s
 | eC=>intros;exact .eC
 | ptr id off b k=>intro d h;cases d <;> simp [ct] at h
 | bW cells b o f k eN a' =>
   intro d h;cases d with
   | zero=>simp [ct] at h
   | succ d=>simp only [ct] at h;exact .bW cells b o f k fun j u aw=>a' j u aw (all h aw)
 | b3 c a=>intros;exact .b3 c a
 | ay cells len c b o cap f ao hle hu k eN a' =>
   intro d h;cases d with
   | zero=>simp [ct] at h
   | succ d=>simp only [ct] at h;exact .ay cells len c b o cap f ao hle hu k fun j u aw=>a' j u aw (all h aw)
 | cM cells len z b o cap=>intros;exact .cM cells len z b o cap
 | raw=>intro d h;cases d <;> simp [ct] at h
 | cn=>intro d h;cases d <;> simp [ct] at h
 | ref id off len c sz b cap k ao hle=>intro d h;cases d <;> simp [ct] at h
 | func f as bs vs ws ad af bT b6 aS bk i1 i2 =>
   intro d h;cases d with
   | zero=>simp [ct] at h
   | succ d =>
     simp only [ct,r_] at h;exact .func f as bs vs ws ad af bT b6 (fun j u v hu ae=>i1 j u v hu ae (all h.1 hu)) (fun j u v hu ae=>i2 j u v hu ae (all h.2 hu))
 | yield id b k=>intro d h;cases d <;> simp [ct] at h
 | map id b k=>intro d h;cases d <;> simp [ct] at h
 | agg as vs k p one r a' =>
   intro d h;cases d with
   | zero=>simp [ct] at h
   | succ d=>simp only [ct] at h;exact .agg as vs k p one fun j u v hu ae=>a' j u v hu ae (all h hu)
 | tuple as vs k p r a' =>
   intro d h;cases d with
   | zero=>simp [ct] at h
   | succ d=>simp only [ct] at h;exact .tuple as vs k p fun j u v hu ae=>a' j u v hu ae (all h hu)
def dV (U:Nat→Option aI):Nat→Option aI:=fun b=>match U b with
 | some (.arg i)=>some (.arg i)
 | _=>none
theorem x7 {b i:Nat} (h:U b=some (.arg i)):dV U b=some (.arg i):=by simp [dV,h]
theorem ly {b:Nat} {l:aI} (h:dV U b=some l):∃ i,U b=some (.arg i)∧l=.arg i:=by
 unfold dV at h;split at h
 ·rename_i i hi;cases h;exact ⟨i,hi,rfl⟩
 ·cases h
theorem aW.pure (b1:List Nat) {i:Nat} {u:I} {v:Value} {d:Nat} (aC:ct d u=true) (h:aW U J S w (.arg i) u v):aW (dV U) b1 S w (.arg i) u v:=by
 unfold aW at h ⊢;split at h
 ·rcases h with h | ⟨ad,h⟩
  ·exact .inl h
  ·exact .inr ⟨x7 ad,h⟩
 ·rename_i cells len z a n cap;cases d with
  | zero=>simp [ct] at aC
  | succ d =>
    simp only [ct] at aC;rcases h with h | ⟨ad,af,aG,a7,bN,bX,⟨cur,e,cP,cT,cX⟩,dz⟩
    ·exact .inl h
    ·refine .inr ⟨x7 ad,af,aG,a7,bN,bX,⟨cur,e,cP,cT,fun j u v hu ae=>?_⟩,dz⟩;obtain ⟨bT,b6,eD⟩:=cX j u v hu ae;rw [ss] at aC;exact ⟨bT,b6,eD.pure b1 (aC u (sA hu))⟩
 ·cases d <;> simp [ct] at aC
 ·trivial
theorem a_.pure {T:List I} {bf:List Value} (h:a_ (fun i=>.arg i) U J S w T bf) (aC:T.all (ct 8)=true):a_ (fun i=>.arg i) (dV U) [] S w T bf:=by
 rw [ss] at aC;exact ⟨h.len,fun i u v hu ae=>(h.rel i u v hu ae).pure [] (aC u (sA hu)),fun i u v hu ae=>(h.own i u v hu ae).pure [] (aC u (sA hu))⟩
theorem yU (ah:aL B U J S w H):aL B (dV U) [] S w [] :=
 ⟨rfl,fun id o h=>by simp at h,ah.ch,fun b l ag=>by obtain ⟨i,h,_⟩:=ly ag;exact ah.base b _ h,ah.cZ⟩
theorem zL (ah:aL B U J S w H) {a3:List au} {r v:I} {x:Value} {bV:World} {n d:Nat} (aQ:bL a3 0 a3.length n d r=some v)
  (aC:a2 B (dV U) [] S w a3 r x bV):a2 B U J S w H v x bV:=by
 classical
 obtain ⟨bp,cj,bJ,bM,aA,cr,aj,aq⟩:=aC
 let az:Nat→Option aI:=fun b=>match U b with
  | some (.obj id)=>some (.obj id)
  | some (.cell id j)=>some (.cell id j)
  | _=>match bp b with
    | some (.obj _)=>none
    | some (.cell _ _)=>none
    | l=>l
 have jL:∀ b l,U b=some l→((∃ id,l=.obj id)∨∃ id j,l=.cell id j)→az b=some l∧bp b=none∧b<w.heap.size:=fun b l ag ak=>by
  have aV:=(ah.base b l ag).2;have af:bp b=none:=by
   cases h:bp b with
   | none=>rfl
   | some l' =>
     rcases aA.own b (by simp [h]) with ad | ad
     ·exfalso;apply ad;rcases ak with ⟨id,rfl⟩ | ⟨id,j,rfl⟩ <;> simp [dV,ag]
     ·omega
  refine ⟨?_,af,aV⟩;rcases ak with ⟨id,rfl⟩ | ⟨id,j,rfl⟩ <;> simp [az,ag]
 have pI:∀ b,az b≠none→U b≠none∨bp b≠none:=fun b h=>by
  by_cases ad:U b=none
  ·right;intro af;apply h;simp [az,ad,af]
  ·exact .inl ad
 have cg:∀ b,dV U b≠none→U b≠none:=fun b h aT=>h (by simp [dV,aT]);have o2:∀ b o,gn bp bJ bV 0 a3.length b o→S b o∨U b≠none∨w.heap.size≤b:=fun b o h=>by
  rcases h with h | ⟨⟨id,_,_,h⟩,_⟩
  ·rcases aA.fresh b o h with h | h | h
   ·exact .inl h
   ·exact .inr (.inl (cg b h))
   ·exact .inr (.inr h)
  ·rcases aA.own b (by simp [h]) with ad | ad
   ·exact .inr (.inl (cg b ad))
   ·exact .inr (.inr ad)
 have lG:bh U S w az (gn bp bJ bV 0 a3.length) bV :=
  ⟨aA.os,aA.tape,aA.output,aA.size,fun b ag aN=>aA.cF b ag (by simp [dV,aN]),fun b o h=>⟨.inl (aA.set b o h).1,(aA.set b o h).2⟩,o2,fun b h=>by
   rcases pI b h with h | h
   ·exact .inl h
   ·rcases aA.own b h with h | h
    ·exact .inl (cg b h)
    ·exact .inr h⟩
 have b':=fun d u r v=>lK (gk:=J) (id0:=a3.length) (n:=n) cr (lo:=0) (fun id b aV ag=>by omega) (fun b ag=>by
   have:=(rV.1 ag).1;rw [cr.cG] at this;omega) d u r v
 refine ⟨az,J,_,Ext.refl J,lG,ah.frame lG (fun b l ag ak=>?_) (fun b o h=>?_) (fun b l ag=>?_),b' d r v x aQ aj,kn (l:=.res) (fun b ag=>?_) b' aQ aq⟩
 ·obtain ⟨ad,af,aG⟩:=jL b l ag ak;have aN:dV U b=none:=by rcases ak with ⟨id,rfl⟩ | ⟨id,j,rfl⟩ <;> simp [dV,ag]
  refine ⟨ad,aA.cF b aG aN,fun o h=>?_⟩;rcases h with h | ⟨⟨id,_,_,h⟩,_⟩
  ·rcases aA.fresh b o h with h | h | h
   ·exact h
   ·exact absurd aN h
   ·omega
  ·rw [af] at h;cases h
 ·rcases h with h | ⟨_,h⟩
  ·exact cr.ch b o h
  ·exact h
 ·by_cases h:U b=none
  ·(have br:bp b≠none:=fun af=>by simp [az,h,af] at ag);cases af:bp b with
   | none=>exact absurd af br
   | some l'=>exact cr.base b l' af
  ·cases ad:U b with
   | none=>exact absurd ad h
   | some l'=>obtain ⟨p,q⟩:=ah.base b l' ad;exact ⟨p,uJ q aA.size⟩
 ·refine ⟨?_,fun o h=>?_⟩
  ·cases ad:U b with
   | none=>simp [az,ad,ag]
   | some l =>
     cases l with
     | obj id=>have:=(jL b _ ad (.inl ⟨id,rfl⟩)).2.1;rw [ag] at this;cases this
     | cell id j=>have:=(jL b _ ad (.inr ⟨id,j,rfl⟩)).2.1;rw [ag] at this;cases this
     | _=>simp [az,ad,ag]
  ·rcases h with h | ⟨⟨id,_,_,h⟩,_⟩
   ·exact h
   ·rw [ag] at h;cases h
def fQ (U:Nat→Option aI) (S:Nat→Nat→Prop) (w:World):Nat→Nat→Prop:=fun b o=>S b o∨((∃ id,U b=some (.obj id))∧∃ v,w.cell? ⟨b,o,none⟩=some v)
theorem AK {J b1:List Nat} {S S':Nat→Nat→Prop} {u:I} {v:Value} (h:gJ u=true) (aj:Rel J S w u v):Rel b1 S' w u v:=by
 cases aj <;> simp [gJ] at h
 ·exact .bool _
 ·exact .int _ _
 ·exact .str _
theorem EV {b1:List Nat} {S':Nat→Nat→Prop} {u:I} {v:Value} (h:gg u=true) (aj:Rel J S w u v):Rel b1 S' w u v:=by
 cases aj with
 | bool b=>exact .bool b
 | dq b=>simp [gg] at h
 | int k n=>exact .int k n
 | str s=>exact .str s
 | tuple as vs k p q =>
   simp only [gg,ss] at h;exact .tuple as vs k p fun j u v hu ae=>AK (h u (sA hu)) (q j u v hu ae)
 | cM cells len z b o cap=>exact .cM _ _ _ _ _ _
 | b3 c a =>
   exact .b3 _ _
 | ay cells len c b o cap f ao hle hu k eN=>cases c <;> simp [gg] at h;exact absurd rfl (hu _)
 | _=>simp [gg] at h
theorem EU {U az:Nat→Option aI} {b1:List Nat} {S S':Nat→Nat→Prop} {u:I} {v:Value} (h:gg u=true) (aq:aW U J S w .res u v) (f_:∀ b,U b=some .res→az b=some .res∧∀ o,S' b o→S b o):aW az b1 S' w .res u v:=by
 unfold aW at aq ⊢;split at aq
 ·simp [gg] at h
 ·simp only [gg,ss] at h;rcases aq with aq | ⟨ad,aT,a7,bN,bX,cP,⟨cur,e,cT,cX,dz⟩,fj⟩
  ·exact .inl aq
  ·obtain ⟨aJ,aP⟩:=f_ _ ad;exact .inr ⟨aJ,aT,a7,bN,bX,cP,⟨cur,e,cT,cX,fun j u v hu ae=>⟨(dz j u v hu ae).1,(dz j u v hu ae).2.1,AK (h u (sA hu)) (dz j u v hu ae).2.2⟩⟩,fun o ai=>fj o (aP o ai)⟩
 ·simp [gg] at h
 ·trivial
theorem AO {u:I} (h:u.plain=true):(j9 H u).plain=true:=by
 unfold j9;split
 ·split <;> rfl
 ·exact h
theorem AP (ah:aL B U J S w H) {u:I} {v:Value} (aj:Rel J S w u v):Rel J (fQ U S w) w (j9 H u) v:=by
 have hm:Rel J (fQ U S w) w u v:=aj.mono (Ext.refl J) fun b o h=>⟨.inl h,rfl⟩;cases aj <;> try exact hm
 case ref id off len cap sz b gx ag ao hle =>
  unfold j9;simp only;split
  ·rename_i row cU;unfold rowOf at cU;simp only at cU;split at cU
   ·rename_i l aE;split at cU
    ·rename_i dH;simp only [Option.some.injEq] at cU;obtain ⟨ar,cur,e,aB,aH,aR,bl,bc,bg⟩:=ah.obj id _ aE;rw [ag] at aB;cases aB;(have bx:∀ o,o<cur.size→w.cell? ⟨b,o,none⟩=cur[o]?:=fun o aq=>by simp [World.cell?,aR,aq]);have facts:∀ (j:Nat) (y:I),row[j]?=some y→∃ c,off+j<cur.size∧cur[off+j]?=some c∧c.oneCell'=true∧y.plain=true∧Rel J S w y c:=fun j y a1=>by
      subst cU;have h1:=(rV.1 a1).1;simp at h1;(have fm:off+j<l.length:=by omega);(have e_:off+j<cur.size:=by omega);have ak:l[off+j]?=some l[off+j]:=sd fm;have ae:cur[off+j]?=some cur[off+j]:=sv e_;obtain ⟨ba,bm,bt,b9⟩:=bg (off+j) _ _ ak ae;rw [sm,sR,if_pos (by omega),sY,ak] at a1;simp at a1;subst a1;exact ⟨_,e_,ae,bm,I.dh _,bt.view ba⟩
     refine .ay row len .shared b off gx (fun j=>cur.getD (off+j) undef) (by simp) hle (by simp) (fun j y a1=>?_) (fun j y a1=>?_)
     ·obtain ⟨c,aw,c7,ad,aC,eg⟩:=facts j y a1;(have aO:cur.getD (off+j) undef=c:=by rw [sk,c7];rfl);rw [aO];exact ⟨.inr ⟨⟨id,aH⟩,c,by rw [bx _ aw,c7]⟩,by rw [bx _ aw,c7],aC,ad⟩
     ·obtain ⟨c,aw,c7,ad,aC,eg⟩:=facts j y a1;(have aO:cur.getD (off+j) undef=c:=by rw [sk,c7];rfl);simp only [aO];exact eg.mono (Ext.refl J) fun b o h=>⟨.inl h,rfl⟩
    ·cases cU
   ·cases cU
  ·exact hm
theorem xN (ah:aL B U J S w H) {u:I} {v:Value} (aj:Rel J S w u v):Rel J (fQ U S w) w (hI H u) v:=by
 have hm:Rel J (fQ U S w) w u v:=aj.mono (Ext.refl J) fun b o h=>⟨.inl h,rfl⟩;have jz:=AP ah aj;cases aj <;> first | exact hm | exact jz | skip
 rename_i id off b ag;unfold hI;simp only;split
 ·rename_i l aE;obtain ⟨ar,cur,e,aB,aH,aR,bl,bc,bg⟩:=ah.obj id _ aE;rw [ag] at aB;cases aB;have bx:∀ o,o<cur.size→w.cell? ⟨b,o,none⟩=cur[o]?:=fun o aq=>by simp [World.cell?,aR,aq]
  have facts:∀ (j:Nat) (y:I),(((l.drop off).map I.view).map (j9 H))[j]?=some y→∃ c,off+j<cur.size∧cur[off+j]?=some c∧c.oneCell'=true∧y.plain=true∧Rel J (fQ U S w) w y c:=fun j y a1=>by
   have h1:=(rV.1 a1).1;simp at h1;(have fm:off+j<l.length:=by omega);(have e_:off+j<cur.size:=by omega);have ak:l[off+j]?=some l[off+j]:=sd fm;have ae:cur[off+j]?=some cur[off+j]:=sv e_;obtain ⟨ba,bm,bt,b9⟩:=bg (off+j) _ _ ak ae;rw [sm,sm,sY,ak] at a1;simp at a1;subst a1;exact ⟨_,e_,ae,bm,AO (I.dh _),AP ah (bt.view ba)⟩
  refine .bW _ b off (fun j=>cur.getD (off+j) undef) (fun j y a1=>?_) (fun j y a1=>?_)
  ·obtain ⟨c,aw,c7,ad,aC,eg⟩:=facts j y a1;(have aO:cur.getD (off+j) undef=c:=by rw [sk,c7];rfl);rw [aO];exact ⟨.inr ⟨⟨id,aH⟩,c,by rw [bx _ aw,c7]⟩,by rw [bx _ aw,c7],aC,ad⟩
  ·obtain ⟨c,aw,c7,ad,aC,eg⟩:=facts j y a1;(have aO:cur.getD (off+j) undef=c:=by rw [sk,c7];rfl);simp only [aO];exact eg
 ·exact hm
theorem ob {u:I} (h:u.plain=true):(hI H u).plain=true:=by
 unfold hI;split
 ·split <;> rfl
 ·exact AO rfl
 ·exact h
theorem E3 (ah:aL B U J S w H) {u:I} {v:Value} (aj:Rel J S w u v):Rel J (fQ U S w) w (im H u) v:=by
 have hm:Rel J (fQ U S w) w u v:=aj.mono (Ext.refl J) fun b o h=>⟨.inl h,rfl⟩;have nv:=xN ah aj;cases aj <;> try exact hm
 ·exact nv
 ·exact nv
 ·rename_i f as bs vs ws ad af bT b6 aS bk;refine .func f _ _ vs ws (by simpa using ad) (by simpa using af) (fun u hu=>?_) (fun u hu=>?_) (fun j u v hu ae=>?_) (fun j u v hu ae=>?_)
  ·obtain ⟨x,al,rfl⟩:=sq.1 hu;exact ob (bT x al)
  ·obtain ⟨x,al,rfl⟩:=sq.1 hu;exact ob (b6 x al)
  ·rw [sm] at hu;simp only [rU] at hu;obtain ⟨x,al,rfl⟩:=hu;exact xN ah (aS j x v al ae)
  ·rw [sm] at hu;simp only [rU] at hu;obtain ⟨x,al,rfl⟩:=hu;exact xN ah (bk j x v al ae)
theorem E2 {i:Nat} {u:I} {v:Value} (h:aW U J S w (.arg i) u v):aW U J (fQ U S w) w (.arg i) (im H u) v:=by
 have cp:∀ b,U b=some (.arg i)→∀ o,fQ U S w b o→S b o:=fun b ag o h=>by
  rcases h with h | ⟨⟨id,h⟩,_⟩
  ·exact h
  ·rw [ag] at h;cases h
 have hm:aW U J (fQ U S w) w (.arg i) u v:=h.mono (Ext.refl J) (fun b o h=>⟨.inl h,rfl⟩) fun b ag=>⟨ag,rfl,cp b ag⟩;cases u <;> try exact hm
 ·rename_i id off;exact aW.b5 (show (hI H (.ptr id off)).plain=true from ob rfl)
 ·rename_i id off len cap sz;exact aW.b5 (show (hI H (.ref id off len cap sz)).plain=true from ob rfl)
theorem FP (ah:aL B U J S w H) {T:List I} {bf:List Value} (h:a_ (fun i=>.arg i) U J S w T bf):a_ (fun i=>.arg i) U J (fQ U S w) w (T.map (im H)) bf :=
 ⟨by simpa using h.len,fun i u v hu ae=>by
  rw [sm] at hu;simp only [rU] at hu;obtain ⟨x,al,rfl⟩:=hu;exact E3 ah (h.rel i x v al ae),fun i u v hu ae=>by
  rw [sm] at hu;simp only [rU] at hu
  obtain ⟨x,al,rfl⟩:=hu;exact E2 (h.own i x v al ae)⟩
theorem C3 (ah:aL B U J S w H):aL B (dV U) [] (fQ U S w) w [] :=
 ⟨rfl,fun id o h=>by simp at h,fun b o h=>by
  rcases h with h | ⟨_,h⟩
  ·exact ah.ch b o h
  ·exact h,fun b l ag=>by obtain ⟨i,h,_⟩:=ly ag;exact ah.base b _ h,ah.cZ⟩
theorem D_ (ah:aL B U J S w H) {a3:List au} {r v:I} {x:Value} {bV:World} {n d:Nat} (aQ:bL a3 0 a3.length n d r=some v)
  (ai:gg v=true) (aC:a2 B (dV U) [] (fQ U S w) w a3 r x bV):a2 B U J S w H v x bV:=by
 classical
 obtain ⟨bp,cj,bJ,bM,aA,cr,aj,aq⟩:=aC
 let az:Nat→Option aI:=fun b=>match U b with
  | some (.obj id)=>some (.obj id)
  | some (.cell id j)=>some (.cell id j)
  | _=>match bp b with
    | some (.obj _)=>none
    | some (.cell _ _)=>none
    | l=>l
 have jL:∀ b l,U b=some l→((∃ id,l=.obj id)∨∃ id j,l=.cell id j)→az b=some l∧bp b=none∧b<w.heap.size:=fun b l ag ak=>by
  have aV:=(ah.base b l ag).2;have af:bp b=none:=by
   cases h:bp b with
   | none=>rfl
   | some l' =>
     rcases aA.own b (by simp [h]) with ad | ad
     ·exfalso;apply ad;rcases ak with ⟨id,rfl⟩ | ⟨id,j,rfl⟩ <;> simp [dV,ag]
     ·omega
  refine ⟨?_,af,aV⟩;rcases ak with ⟨id,rfl⟩ | ⟨id,j,rfl⟩ <;> simp [az,ag]
 have pI:∀ b,az b≠none→U b≠none∨bp b≠none:=fun b h=>by
  by_cases ad:U b=none
  ·right;intro af;apply h;simp [az,ad,af]
  ·exact .inl ad
 have cg:∀ b,dV U b≠none→U b≠none:=fun b h aT=>h (by simp [dV,aT])
 let S':Nat→Nat→Prop:=fun b o=>S b o∨(gn bp bJ bV 0 a3.length b o∧∀ id,U b≠some (.obj id))
 have o2:∀ b o,S' b o→S b o∨U b≠none∨w.heap.size≤b:=fun b o h=>by
  rcases h with h | ⟨h | ⟨⟨id,_,_,h⟩,_⟩,fX⟩
  ·exact .inl h
  ·rcases aA.fresh b o h with (h | ⟨⟨id,h⟩,_⟩) | h | h
   ·exact .inl h
   ·exact absurd h (fX id)
   ·exact .inr (.inl (cg b h))
   ·exact .inr (.inr h)
  ·rcases aA.own b (by simp [h]) with ad | ad
   ·exact .inr (.inl (cg b ad))
   ·exact .inr (.inr ad)
 have lG:bh U S w az S' bV :=
  ⟨aA.os,aA.tape,aA.output,aA.size,fun b ag aN=>aA.cF b ag (by simp [dV,aN]),fun b o h=>⟨.inl h,(aA.set b o (.inl h)).2⟩,o2,fun b h=>by
   rcases pI b h with h | h
   ·exact .inl h
   ·rcases aA.own b h with h | h
    ·exact .inl (cg b h)
    ·exact .inr h⟩
 have b':=fun d u r v=>lK (gk:=J) (id0:=a3.length) (n:=n) cr (lo:=0) (fun id b aV ag=>by omega) (fun b ag=>by
   have:=(rV.1 ag).1;rw [cr.cG] at this;omega) d u r v
 have C0:=b' d r v x aQ aj
 have ns:aW (fun b=>match bp b with | some .res=>some .res | _=>none) J (gn bp bJ bV 0 a3.length) bV .res v x:=kn (l:=.res) (fun b ag=>⟨by simp [ag],fun o h=>by
  rcases h with h | ⟨⟨id,_,_,h⟩,_⟩
  ·exact h
  ·rw [ag] at h;cases h⟩) b' aQ aq
 refine ⟨az,J,S',Ext.refl J,lG,ah.frame lG (fun b l ag ak=>?_) (fun b o h=>?_) (fun b l ag=>?_),EV ai C0,EU ai ns fun b ag=>?_⟩
 ·obtain ⟨ad,af,aG⟩:=jL b l ag ak;have aN:dV U b=none:=by rcases ak with ⟨id,rfl⟩ | ⟨id,j,rfl⟩ <;> simp [dV,ag]
  refine ⟨ad,aA.cF b aG aN,fun o h=>?_⟩;rcases h with h | ⟨h | ⟨⟨id,_,_,h⟩,_⟩,fX⟩
  ·exact h
  ·rcases aA.fresh b o h with (h | ⟨⟨id,h⟩,_⟩) | h | h
   ·exact h
   ·exact absurd h (fX id)
   ·exact absurd aN h
   ·omega
  ·rw [af] at h;cases h
 ·rcases h with h | ⟨h | ⟨_,h⟩,_⟩
  ·obtain ⟨v,ae⟩:=ah.ch b o h;exact ⟨v,((aA.set b o (.inl h)).2).trans ae⟩
  ·exact cr.ch b o h
  ·exact h
 ·by_cases h:U b=none
  ·(have br:bp b≠none:=fun af=>by simp [az,h,af] at ag);cases af:bp b with
   | none=>exact absurd af br
   | some l'=>exact cr.base b l' af
  ·cases ad:U b with
   | none=>exact absurd ad h
   | some l'=>obtain ⟨p,q⟩:=ah.base b l' ad;exact ⟨p,uJ q aA.size⟩
 ·have fl:bp b=some .res:=by
   split at ag
   ·assumption
   ·cases ag
  refine ⟨?_,fun o h=>?_⟩
  ·cases ad:U b with
   | none=>simp [az,ad,fl]
   | some l =>
     cases l with
     | obj id=>have:=(jL b _ ad (.inl ⟨id,rfl⟩)).2.1;rw [fl] at this;cases this
     | cell id j=>have:=(jL b _ ad (.inr ⟨id,j,rfl⟩)).2.1;rw [fl] at this;cases this
     | _=>simp [az,ad,fl]
  ·rcases h with h | ⟨h,_⟩
   ·exact .inl ((aA.set b o (.inl h)).1)
   ·exact h
end
end Go.Proofs.YtfakoboiahbhaaaGreat.Ab


namespace Go.Proofs.YtfakoboiahbhaaaGreat.Ab
open Go
def bb (lo:Nat) (H H':List au):Prop:=H.length≤H'.length∧∀ id,id<lo→id<H.length→H'[id]?=H[id]?
theorem bb.refl (lo:Nat) (H:List au):bb lo H H:=⟨rX _,fun _ _ _=>rfl⟩
theorem bb.trans {lo:Nat} {H H1 a3:List au} (h:bb lo H H1) (k:bb lo H1 a3):bb lo H a3 :=
 ⟨sJ h.1 k.1,fun id ad af=>(k.2 id ad (uJ af h.1)).trans (h.2 id ad af)⟩
theorem bb.append (lo:Nat) (H X:List au):bb lo H (H++X):=⟨by simp,fun id _ h=>se h⟩
theorem bb.set {lo id:Nat} (H:List au) (x:au) (h:lo≤id):bb lo H (H.set id x):=⟨by simp,fun bA ad _=>sa (by omega)⟩
def fu (B:Nat) (U:Nat→Option aI) (J:List Nat) (S:Nat→Nat→Prop) (w:World) (H':List au) (r:I):Ending→World→Prop
 | .returned v,w'=>a2 B U J S w H' r v w'
 | _,_=>False
def mX (U:Nat→Option aI):Prop:=∀ b i,U b≠some (.slot i)
def hG (L:Loop) (vs:List Value):Array Value:=(L.params.zip vs.toArray).foldl (fun tmps (x:Tmp×Value)=>tmps.setIfInBounds x.1 x.2) L.tmps
def jn (P:Program) (b2:e5) (args:List I) (H H':List au) (r:I):Prop :=
 match b2 with
 | .fn k => (∃ f, P.funcs[k]? = some f ∧ f.body.isSome = true ∧ f.name ≠ "runtime.NumGoroutine") ∧
   ∀ B U J S w vs,aL B U J S w H→mX U→a_ (fun i=>.arg i) U J S w args vs→CallsIn Fence.wide 0 P k vs.toArray w (fu B U J S w H' r)
 | .yield l=>∀ B U J S w vs b,aL B U J S w H→mX U→a_ (fun i=>.arg i) U J S w args vs→J[l]?=some b →
   ∃ L,w.heap[b]?=some (.loop L)∧vs.length=L.params.size∧RoundIn Fence.wide 0 P b L.fn (hG L vs) L.assign L.body w (fu B U J S w H' r)
structure da (P:Program) (C:b8):Prop where
 low:∀ {b2 args H lo r H'},C b2 args H lo=some (r,H')→bb lo H H'
 ok:∀ {b2 args H lo r H'},C b2 args H lo=some (r,H')→jn P b2 args H H' r
section
variable {P:Program} {B N:Nat} {J:List Nat} {w:World} {H:List au} {U:Nat→Option aI} {S:Nat→Nat→Prop}
theorem fu.mono {H' H1:List au} {r r':I} (h:∀ v w',a2 B U J S w H' r v w'→a2 B U J S w H1 r' v w') (e:Ending) (w':World) (k:fu B U J S w H' r e w'):fu B U J S w H1 r' e w':=by
 cases e with
 | returned v=>exact h v w' k
 | panicked c=>exact k
 | outgrown=>exact k
theorem jn.mono {b2:e5} {args:List I} {H' H1:List au} {r r':I} (k:jn P b2 args H H' r)
  (h:∀ B U J S w,aL B U J S w H→∀ v w',a2 B U J S w H' r v w'→a2 B U J S w H1 r' v w'):jn P b2 args H H1 r':=by
 cases b2 with
 | fn f =>
   exact ⟨k.1,fun B U J S w vs ah aN ae=>CallsIn.mono (k.2 B U J S w vs ah aN ae) (fu.mono (h B U J S w ah))⟩
 | yield l =>
   intro B U J S w vs b ah aN ae ag;obtain ⟨L,ad,af,aG⟩:=k B U J S w vs b ah aN ae ag;exact ⟨L,ad,af,RoundIn.mono aG (fu.mono (h B U J S w ah))⟩
theorem B4 (ah:aL B U J S w H) {id:Nat} {l:List I} (aE:H[id]?=some (.cells l)) {v:Value} (aj:Rel J S w (.ptr id 0) v) :
  ∃ az S',bh U S w az S' w∧aL B az J S' w (H.set id .dead)∧Rel J S' w (.bW (l.map I.view)) v:=by
 classical
 cases aj with
 | ptr _ _ b ag =>
   obtain ⟨ar,cur,e,aB,aH,aR,bl,bc,bg⟩:=ah.obj id _ aE;rw [ag] at aB;cases aB
   let S':Nat→Nat→Prop:=fun ar o=>S ar o∨(ar=b∧o<cur.size)
   let az:Nat→Option aI:=fun ar=>if ar=b then none else U ar
   have bx:∀ o,o<cur.size→w.cell? ⟨b,o,none⟩=cur[o]?:=fun o aq=>by
    simp [World.cell?,aR,aq]
   have aA:bh U S w az S' w:=⟨rfl,rfl,rfl,rX _,fun _ _ _=>rfl,fun _ _ h=>⟨.inl h,rfl⟩,fun ar o h=>by
     rcases h with h | ⟨rfl,_⟩
     ·exact .inl h
     ·exact .inr (.inl (by simp [aH])),fun ar br=>by
     by_cases dG:ar=b
     ·simp [az,dG] at br
     ·simp only [az,dG,if_false] at br;exact .inl br⟩
   have bY:aL B az J S' w (H.set id .dead):=by
    refine ⟨by simpa using ah.cG,fun bA o aq=>?_,fun ar o h=>?_,fun ar l' br=>?_,ah.cZ⟩
    ·by_cases cw:bA=id
     ·subst cw
      have:o=.dead:=by
       have:=(rV.1 aE).1;simp [this] at aq;exact aq.symm
      subst this;trivial
     ·rw [sa (Ne.symm cw)] at aq;refine (ah.obj bA o aq).frame (Ext.refl J) aA.set (fun ar l' br ak=>?_);have bO:ar≠b:=fun e=>by
       subst e;rw [aH] at br;cases br;rcases ak with h | ⟨j,h⟩
       ·cases h;exact cw rfl
       ·cases h
      exact ⟨by simp [az,bO,br],rfl,fun o h=>h.resolve_right fun h=>bO h.1⟩
    ·rcases h with h | ⟨rfl,h⟩
     ·exact ah.ch _ _ h
     ·exact ⟨_,(bx o h).trans (sv h)⟩
    ·by_cases dG:ar=b
     ·simp [az,dG] at br
     ·simp only [az,dG,if_false] at br;exact ah.base _ _ br
   refine ⟨az,S',aA,bY,.bW _ b 0 (fun j=>cur.getD j undef) (fun j u aw=>?_) (fun j u aw=>?_)⟩
   all_goals
    rw [sm] at aw;cases ak:l[j]? with
    | none=>rw [ak] at aw;simp at aw
    | some xU =>
      rw [ak] at aw;simp only [sc,Option.some.injEq] at aw;subst aw;have aV:=(rV.1 ak).1;have pq:cur[j]?=some cur[j]:=sv (by omega);(have aO:cur.getD j undef=cur[j]:=by simp [sk,pq]);obtain ⟨ba,bm,bt,b9⟩:=bg j xU _ ak pq
      first
       | (simp only [aO];exact ⟨.inr ⟨rfl,by omega⟩,by rw [sP,bx j (by omega),pq],I.dh _,bm⟩)
       | (simp only [aO];exact (bt.view ba).mono (Ext.refl J) aA.set)
theorem a_.DZ {bB:Nat→aI} {u:I} {vs:List Value} (h:a_ bB U J S w [u] vs):∃ v,vs=[v]∧Rel J S w u v∧aW U J S w (bB 0) u v:=by
 cases vs with
 | nil=>have:=h.len;simp at this
 | cons v r=>cases r with
   | nil=>exact ⟨v,rfl,h.rel 0 u v rfl rfl,h.own 0 u v rfl rfl⟩
   | cons x y=>have:=h.len;simp at this
theorem m5 {C:b8} (bw:da P C) {lo mode:Nat} {b2:e5} {args:List I} {v:I} {H1:List au} (h:eU C lo mode b2 args H=some (v,H1)):bb lo H H1∧jn P b2 args H H1 v:=by
 have frozen:∀ {r:I} {a3:List au},C b2 args H H.length=some (r,a3)→((bL a3 H.length a3.length 0 8 r).map fun v=>(v,H))=some (v,H1)→bb lo H H1∧jn P b2 args H H1 v:=fun ao aQ=>by
  simp only [rU,Prod.mk.injEq] at aQ;obtain ⟨bu,aQ,rfl,rfl⟩:=aQ;exact ⟨bb.refl _ _,(bw.ok ao).mono fun B U J S w ah x w' aC=>xj ah (fun id aE=>(bw.low ao).2 id aE aE) aQ aC⟩
 unfold eU at h;split at h
 ·simp only [sb] at h;obtain ⟨⟨r,a3⟩,ao,aQ⟩:=h;exact frozen ao aQ
 ·exact ⟨bw.low h,bw.ok h⟩
 ·split at h
  ·rename_i k aC;simp only [sb] at h;obtain ⟨⟨r,a3⟩,ao,aQ⟩:=h;simp only [rU,Prod.mk.injEq] at aQ;obtain ⟨bu,aQ,rfl,rfl⟩:=aQ;obtain ⟨aJ,aP⟩:=bw.ok ao
   exact ⟨bb.refl _ _,aJ,fun B U J S w vs ah aN ae=>CallsIn.mono (aP B _ [] S w vs (yU ah) (fun b i h=>by obtain ⟨_,_,h⟩:=ly h;cases h) (ae.pure aC).cu) fun e w' he=>by
     cases e with
     | returned v=>exact (zL ah aQ he).cu
     | panicked c=>exact he.elim
     | outgrown=>exact he.elim⟩
  ·simp at h
 ·split at h
  ·rename_i k aC;simp only [sb] at h;obtain ⟨⟨r,a3⟩,ao,bu,aQ,h⟩:=h;split at h
   ·rename_i pH;simp only [Option.some.injEq,Prod.mk.injEq] at h;obtain ⟨rfl,rfl⟩:=h;obtain ⟨aJ,aP⟩:=bw.ok ao
    exact ⟨bb.refl _ _,aJ,fun B U J S w vs ah aN ae=>CallsIn.mono (aP B _ [] _ w vs (C3 ah) (fun b i h=>by obtain ⟨_,_,h⟩:=ly h;cases h) ((FP ah ae).pure aC).cu) fun e w' he=>by
     cases e with
     | returned v=>exact (D_ ah aQ pH he).cu
     | panicked c=>exact he.elim
     | outgrown=>exact he.elim⟩
   ·simp at h
  ·simp at h
 ·split at h
  ·rename_i k id;split at h
   ·rename_i bF;split at h
    ·rename_i l aE;split at h
     ·rename_i aC;simp only [sb] at h;obtain ⟨⟨r,a3⟩,ao,aQ⟩:=h;simp only [rU,Prod.mk.injEq] at aQ;obtain ⟨bu,aQ,rfl,rfl⟩:=aQ;obtain ⟨aJ,aP⟩:=bw.ok ao;refine ⟨bb.set _ _ bF,aJ,fun B U J S w vs ah aN ae=>?_⟩;obtain ⟨v0,fY,aS,_⟩:=a_.DZ ae;subst fY;obtain ⟨az,S',aA,bY,bk⟩:=B4 ah aE aS
      have dB:a_ (fun i=>.arg i) az J S' w [I.bW (l.map I.view)] [v0]:=⟨rfl,fun i u v hu ae=>by
       cases i with
       | zero=>simp at hu ae;subst hu ae;exact bk
       | succ i=>simp at hu,fun i u v hu ae=>by
       cases i with
       | zero=>simp at hu ae;subst hu;exact aW.b5 rfl
       | succ i=>simp at hu⟩
      (have nt:([I.bW (l.map I.view)]).all (ct 8)=true:=by simp [aC]);exact CallsIn.mono (aP B _ [] S' w _ (yU bY) (fun b i h=>by obtain ⟨_,_,h⟩:=ly h;cases h) (dB.pure nt).cu) fun e w' he=>by
       cases e with
       | returned v=>exact a2.after (Ext.refl J) aA (zL bY aQ he).cu
       | panicked c=>exact he.elim
       | outgrown=>exact he.elim
     ·simp at h
    ·simp at h
   ·simp at h
  ·simp at h
 ·simp only [sb] at h;obtain ⟨⟨r,a3⟩,ao,aQ⟩:=h;simp only [rU,Prod.mk.injEq] at aQ;obtain ⟨bu,aQ,rfl,rfl⟩:=aQ;refine ⟨bb.refl _ _,?_⟩;have bQ:=(bw.ok ao).mono (r':=bu.cu) (H1:=H) fun B U J S w ah x w' aC=>(xj ah (fun id aE=>(bw.low ao).2 id aE aE) aQ aC).cu;cases b2 with
  | fn k=>exact ⟨bQ.1,fun B U J S w vs ah aN ae=>bQ.2 B U J S w vs ah aN ae.cu⟩
  | yield l=>exact fun B U J S w vs b ah aN ae ag=>bQ B U J S w vs b ah aN ae.cu ag
 ·simp only [sb] at h;obtain ⟨⟨r,a3⟩,ao,aQ⟩:=h;split at aQ
  ·exact frozen ao aQ
  ·rename_i id0 pf;split at aQ
   ·rename_i l aE;split at aQ
    ·rename_i e9;split at aQ
     ·rename_i l' bu ak ae;simp only [Option.some.injEq,Prod.mk.injEq] at aQ;obtain ⟨rfl,rfl⟩:=aQ;exact ⟨bb.append _ _ _,(bw.ok ao).mono fun B U J S w ah x w' aC=>D8 ah (fun id aE=>(bw.low ao).2 id aE aE) e9 aE ak ae aC⟩
     ·simp at aQ
    ·simp at aQ
   ·rename_i es clock aE;split at aQ
    ·rename_i e9;split at aQ
     ·rename_i l' bu ak ae;simp only [Option.some.injEq,Prod.mk.injEq] at aQ;obtain ⟨rfl,rfl⟩:=aQ;exact ⟨bb.append _ _ _,(bw.ok ao).mono fun B U J S w ah x w' aC=>D9 ah (fun id aE=>(bw.low ao).2 id aE aE) e9 aE ak ae aC⟩
     ·simp at aQ
    ·simp at aQ
   ·simp at aQ
end
end Go.Proofs.YtfakoboiahbhaaaGreat.Ab


namespace Go.Proofs.YtfakoboiahbhaaaGreat.Ab
open Go
def gb (g:Nat→Option Nat) (U:Nat→Option aI):Nat→Option aI:=fun b=>match U b with
 | some (.arg i)=>(g i).map .arg
 | some (.obj id)=>some (.obj id)
 | some (.cell id j)=>some (.cell id j)
 | _=>none
def fq (eb:Bool) (vs:List I):List I:=match eb with | true=>vs | false=>vs.map I.view
def ej (F:Fence):Prop:=F=Fence.wide∨∃ l,F=Fence.wide.inRound l
section
variable {P:Program} {B N:Nat} {J:List Nat} {w:World} {H:List au} {U:Nat→Option aI} {S:Nat→Nat→Prop}
theorem ej.fn {F:Fence} (h:ej F) (f:FuncId):F.fn f:=by rcases h with rfl | ⟨l,rfl⟩ <;> trivial
theorem ej.depth {F:Fence} (h:ej F):F.depth=none:=by rcases h with rfl | ⟨l,rfl⟩ <;> rfl
theorem ej.calls {F:Fence} (h:ej F) {n:Nat} {f:FuncId} {args:Array Value} {w:World} {R:Ending→World→Prop} (k:CallsIn Fence.wide n P f args w R):CallsIn F n P f args w R:=by
 rcases h with rfl | ⟨l,rfl⟩
 ·exact k
 ·exact CallsIn.inRound l k
theorem ej.rounds {F:Fence} (h:ej F) {n l:Nat} {f:FuncId} {tmps:Array Value} {assign body:Code} {w:World} {R:Ending→World→Prop} (k:RoundIn Fence.wide n P l f tmps assign body w R):RoundIn F n P l f tmps assign body w R:=by
 rcases h with rfl | ⟨l,rfl⟩
 ·exact k
 ·exact k
theorem El {g:Nat→Option Nat} {b:Nat} (h:U b=none):gb g U b=none:=by simp [gb,h]
theorem Em {g:Nat→Option Nat} {b:Nat} (h:gb g U b≠none):U b≠none:=fun aT=>h (El aT)
theorem z4 (g:Nat→Option Nat) (U:Nat→Option aI) (S:Nat→Nat→Prop) (w:World):bh U S w (gb g U) S w :=
 ⟨rfl,rfl,rfl,rX _,fun _ _ _=>rfl,fun _ _ h=>⟨h,rfl⟩,fun _ _ h=>.inl h,fun _ h=>.inl (Em h)⟩
theorem z5 (g:Nat→Option Nat) (U:Nat→Option aI):mX (gb g U):=fun b i h=>by
 unfold gb at h;split at h <;> simp at h
theorem yV (ah:aL B U J S w H) (g:Nat→Option Nat):aL B (gb g U) J S w H:=by
 refine ⟨ah.cG,fun id o aq=>?_,ah.ch,fun b l ag=>?_,ah.cZ⟩
 ·refine (ah.obj id o aq).frame (Ext.refl J) (fun _ _ h=>⟨h,rfl⟩) fun b l ag ak=>⟨?_,rfl,fun _ h=>h⟩;rcases ak with rfl | ⟨j,rfl⟩ <;> simp [gb,ag]
 ·cases h:U b with
  | none=>simp [gb,h] at ag
  | some l'=>exact ah.base b l' h
theorem D6 {g:Nat→Option Nat} {i j:Nat} (aO:g i=some j) {u:I} {v:Value} (h:aW U J S w (.arg i) u v):aW (gb g U) J S w (.arg j) u v :=
 h.mono (Ext.refl J) (fun _ _ h=>⟨h,rfl⟩) fun b ag=>⟨by simp [gb,ag,aO],rfl,fun _ h=>h⟩
theorem Eg {T:List I} {a:Act} (aK:cv B N U J S w ⟨T,H⟩ a) (ops:List Operand) (ts:List Bool) (eb:Bool) :
  ∃ b4 a5,bh U S w b4 a5 w∧cv B N b4 J a5 w ⟨(rd T ts ops).2,H⟩ a ∧
    a_ (fun i=>.arg i) b4 J a5 w (fq eb (rd T ts ops).1) (ops.map a.eval):=by
 obtain ⟨b4,a5,g,bZ,ah,ae⟩:=Eh a ops ts T 0 U S aK.T aK.H;simp only [sP] at ae;cases eb with
 | true=>exact ⟨b4,a5,g.aA w,⟨bZ,ah,aK.M.aA (g.aA w)⟩,ae⟩
 | false =>
   obtain ⟨bJ,aJ,aP,cr,dB⟩:=EX (rd T ts ops).1 (ops.map a.eval) (fun i=>.arg i) a5 (fun i j h=>by cases h;rfl) (fun i id=>by simp) (fun i id j=>by simp) ae ah;have aA:bh b4 a5 w b4 bJ w:=bh.settle aJ fun b o h=>(aP b o h).imp id fun ⟨i,h⟩=>⟨_,h⟩;refine ⟨b4,bJ,(g.aA w).trans aA,⟨⟨bZ.len,fun i u v hu ae=>(bZ.rel i u v hu ae).mono (Ext.refl J) (fun b o h=>⟨aJ b o h,rfl⟩),fun i u v hu ae=>?_⟩,cr,(aK.M.aA (g.aA w)).aA aA⟩,dB⟩;refine (bZ.own i u v hu ae).mono (Ext.refl J) (fun b o h=>⟨aJ b o h,rfl⟩) fun b ag=>⟨ag,rfl,fun o h=>?_⟩;rcases aP b o h with h | ⟨j,h⟩
   ·exact h
   ·rw [ag] at h;cases h
theorem oQ {C:b8} {lo:Nat} {o:Oper} {an:b7} {s aF:a6} (h:Ab.execOp P C lo o an s=some aF) :
  ∃ r H',a9 P C lo o an.mode (fq (dO o) (rd s.T an.takes (opsOf o)).1) s.H=some (r,H') ∧
    aF=⟨put (inPlace o an.mode (rd s.T an.takes (opsOf o)).2 r) o.dst r,H'⟩:=by
 unfold Ab.execOp at h;simp only [rU] at h;obtain ⟨⟨r,H'⟩,h,rfl⟩:=h;exact ⟨r,H',h,rfl⟩
theorem DS {C:b8} {lo mode:Nat} {o:Oper} {us:List I} {r:I} {H':List au} {t:Nat} (hm:mode≠0) (CJ:mode≠4) (aq:o.op=.move (.tmp t)∨o.op=.assign (.tmp t))
  (h:a9 P C lo o mode us H=some (r,H')) {U:Nat→Option aI} {J:List Nat} {S:Nat→Nat→Prop} {w:World} {l:aI} {v:Value} (aj:Rel J S w r v) (hw:aW U J S w l r v):Rel J S w r.view v:=by
 by_cases hu:r.cV=true
 ·exact aj.view hu
 ·obtain ⟨cells,len,z,rfl⟩:∃ cells len z,r=.ay cells len (.uniq z):=by
   unfold I.cV at hu;split at hu
   ·exact ⟨_,_,_,rfl⟩
   ·simp at hu
  have aT:len=0:=by
   (have aY:eR P lo mode o.type (.tmp t) H us=some (.ay cells len (.uniq z),H'):=by rcases aq with aq | aq <;> simpa only [a9,aq] using h);unfold eR at aY;split at aY
   ·split at aY
    ·exact absurd rfl hm
    ·split at aY
     ·split at aY
      ·rename_i bo;cases aY;exact bo
      ·cases aY
     ·cases aY
     ·cases aY
     ·simp at aY
    ·exact absurd rfl CJ
    ·split at aY
     ·split at aY
      ·simp only [sb,rU,Prod.mk.injEq] at aY;obtain ⟨row,cU,n,aN,ad,af⟩:=aY;have:=congrArg (fun x=>match x with | I.ay _ _ c=>c | _=>.shared) ad;exact absurd this (yv z)
      ·simp at aY
     ·split at aY
      ·split at aY
       ·split at aY
        ·cases aY
        ·cases aY
       ·cases aY
      ·cases aY
     ·simp only [Option.some.injEq,Prod.mk.injEq] at aY;have:=aY.1 ▸ I.dh _;cases this
   ·simp at aY
  subst aT;have ao:cells=[]:=by
   cases aj with
   | b3 c a=>rfl
   | ay _ _ _ b o cap f ao hle ca k eN=>exact absurd rfl (ca z)
   | cM _ _ z b o cap =>
     rcases hw with ⟨_,_,h⟩ | ⟨_,_,_,_,_,h,_⟩
     ·exact h
     ·exact tn.1 (by simpa using h)
  subst ao;cases aj with
  | b3 c a=>exact .b3 _ _
  | ay _ _ _ b o cap f ao hle ca k eN=>exact absurd rfl (ca z)
  | cM _ _ z b o cap=>exact .ay [] 0 .shared b o cap (fun _=>undef) (by simp) (Nat.zero_le _) (by simp) (by simp) (by simp)
theorem zl {lo id:Nat} {H H':List au} {f:List I→Option (List I)} (h:g9 lo H id f=some H'):bb lo H H':=by
 unfold g9 at h;split at h
 ·rename_i bF;split at h
  ·simp only [rU] at h;obtain ⟨l',_,rfl⟩:=h;exact bb.set _ _ bF
  ·simp at h
 ·simp at h
theorem DB {lo:Nat} {t:TypeId} {us:List I} {r:I} {H':List au} (h:iZ P lo t H us=some (r,H')):bb lo H H':=by
 unfold iZ at h;split at h
 ·split at h
  ·split at h
   ·split at h
    ·rename_i bF;split at h
     ·split at h
      ·cases h;exact bb.set _ _ bF
      ·cases h;exact bb.set _ _ bF
      ·cases h
     ·cases h
    ·cases h
   ·cases h
  ·cases h
 ·cases h
theorem Dz {lo:Nat} {ts:Array TypeId} {us:List I} {r:I} {H':List au} (h:hC P lo ts H us=some (r,H')):bb lo H H':=by
 unfold hC at h;split at h
 ·split at h
  ·split at h
   ·split at h
    ·rename_i bF;split at h
     ·split at h
      ·cases h;exact bb.set _ _ bF
      ·cases h;exact bb.refl _ _
      ·cases h
     ·cases h
    ·cases h
   ·cases h
  ·cases h
 ·cases h
theorem ES {t:TypeId} {ok:Bool} {us:List I} {r:I} {H':List au} (h:ie P t ok H us=some (r,H')):H'=H:=by
 unfold ie at h;split at h
 ·split at h
  ·split at h
   ·split at h
    ·simp only [rU,Prod.mk.injEq] at h;obtain ⟨_,_,_,rfl⟩:=h;rfl
    ·cases h
   ·cases h
  ·cases h
 ·cases h
theorem ER {us:List I} {r:I} {H':List au} (h:kV H us=some (r,H')):H'=H:=by
 unfold kV at h;split at h
 ·split at h
  ·split at h
   ·split at h
    ·split at h
     ·cases h;rfl
     ·cases h
    ·cases h
   ·cases h
  ·cases h
 ·cases h
theorem zm {lo id:Nat} {H H':List au} {f:List I→Option (List I)} (h:g_ lo H id f=some H'):bb lo H H':=by
 unfold g_ at h;split at h
 ·rename_i bF;split at h
  ·simp only [rU] at h;obtain ⟨l',_,rfl⟩:=h;exact bb.set _ _ bF
  ·simp only [rU] at h;obtain ⟨l',_,rfl⟩:=h;exact bb.set _ _ bF
  ·simp at h
 ·simp at h
theorem Dy {lo:Nat} {ts:Array TypeId} {us:List I} {r:I} {H':List au} (h:ic P lo ts H us=some (r,H')):bb lo H H':=by
 unfold ic at h;split at h
 ·split at h
  ·split at h
   ·split at h
    ·split at h
     ·cases h
     ·cases h;exact bb.append _ _ _
    ·cases h
   ·split at h
    ·rename_i bF;split at h
     ·split at h
      ·split at h
       ·cases h;exact (bb.set _ _ bF).trans (bb.append _ _ _)
       ·cases h
      ·cases h
     ·cases h
    ·cases h
   ·cases h
  ·cases h
 ·cases h
theorem Dx {lo:Nat} {ts:Array TypeId} {us:List I} {r:I} {H':List au} (h:iY P lo ts H us=some (r,H')):bb lo H H':=by
 refine bb.trans ?_ (Dy h);unfold jb;split
 ·split
  ·split
   ·rename_i ao;simp only [r_] at ao;exact bb.set _ _ (Nat.le_of_ble_eq_true ao.2)
   ·exact bb.refl _ _
  ·exact bb.refl _ _
 ·exact bb.refl _ _
theorem DC {lo:Nat} {t:TypeId} {us:List I} {r:I} {H':List au} (h:kX P t H us=some (r,H')):bb lo H H':=by
 unfold kX at h;split at h
 ·split at h
  ·cases h;exact bb.append _ _ _
  ·cases h
 ·cases h
theorem DA {lo:Nat} {t:TypeId} {x:Option Operand} {r:I} {H':List au} (h:kW P t x H=some (r,H')):bb lo H H':=by
 unfold kW at h;split at h
 ·cases h;exact bb.append _ _ _
 ·cases h
theorem zk {lo:Nat} {b:Builtin} {ts:Array TypeId} {us:List I} {r:I} {H':List au} (h:eu P lo b ts H us=some (r,H')):bb lo H H':=by
 have same:∀ {x:Option I},x.map (·,H)=some (r,H')→bb lo H H':=fun h=>by
  simp only [rU,Prod.mk.injEq] at h;obtain ⟨_,_,_,rfl⟩:=h;exact bb.refl _ _
 unfold eu at h;split at h
 ·unfold iX at h;split at h
  ·split at h
   ·exact same h
   ·simp at h
  ·simp at h
 ·unfold hb at h;split at h
  ·split at h
   ·split at h <;> simp at h;obtain ⟨_,rfl⟩:=h;exact bb.refl _ _
   ·split at h <;> simp at h;obtain ⟨_,rfl⟩:=h;exact bb.refl _ _
   ·split at h <;> simp at h;obtain ⟨_,rfl⟩:=h;exact bb.refl _ _
   ·split at h <;> simp at h;obtain ⟨_,rfl⟩:=h;exact bb.refl _ _
  ·simp at h
 ·unfold jV at h;split at h
  ·split at h <;> simp at h;obtain ⟨_,rfl⟩:=h;exact bb.refl _ _
  ·split at h <;> simp at h;obtain ⟨_,rfl⟩:=h;exact bb.refl _ _
  ·simp at h
 ·unfold jW at h;split at h
  ·split at h
   ·split at h
    ·split at h
     ·simp only [rU,Prod.mk.injEq] at h;obtain ⟨H1,h,_,rfl⟩:=h;exact zl h
     ·simp at h
    ·simp at h
   ·simp at h
  ·simp at h
 ·unfold kU at h;split at h
  ·split at h
   ·split at h
    ·split at h
     ·simp only [rU,Prod.mk.injEq] at h;obtain ⟨H1,h,_,rfl⟩:=h;exact zm h
     ·simp at h
    ·simp at h
   ·simp at h
  ·split at h <;> simp at h;obtain ⟨_,rfl⟩:=h;exact bb.refl _ _
  ·simp at h
 ·exact Dz h
 ·exact same h
 ·exact same h
 ·simp at h
theorem D4 {C:b8} (bw:da P C) {lo mode:Nat} {o:Oper} {us:List I} {r:I} {H':List au} (h:a9 P C lo o mode us H=some (r,H')):bb lo H H':=by
 have same:∀ {x:Option I},x.map (·,H)=some (r,H')→bb lo H H':=fun h=>by
  simp only [rU,Prod.mk.injEq] at h;obtain ⟨_,_,_,rfl⟩:=h;exact bb.refl _ _
 have l4:∀ {t:TypeId} {x:Operand},eR P lo mode t x H us=some (r,H')→bb lo H H':=fun h=>by
  unfold eR at h;split at h
  ·split at h
   ·split at h
    ·simp only [rU,Prod.mk.injEq] at h;obtain ⟨_,_,_,rfl⟩:=h;exact bb.refl _ _
    ·cases h;exact bb.refl _ _
   ·split at h
    ·split at h
     ·cases h;exact bb.refl _ _
     ·cases h;exact bb.append _ _ _
    ·cases h;exact bb.refl _ _
    ·cases h;exact bb.refl _ _
    ·simp at h
   ·split at h
    ·split at h
     ·rename_i bF;split at h
      ·split at h
       ·cases h;exact bb.set _ _ bF
       ·cases h
      ·cases h
     ·cases h
    ·cases h;exact bb.refl _ _
   ·split at h
    ·split at h
     ·rename_i bF;simp only [sb,rU,Prod.mk.injEq] at h;obtain ⟨_,_,_,_,_,rfl⟩:=h;exact bb.set _ _ bF
     ·simp at h
    ·split at h
     ·rename_i bF;split at h
      ·split at h
       ·cases h;exact bb.set _ _ bF
       ·cases h
      ·cases h
     ·cases h
    ·cases h;exact bb.refl _ _
  ·simp at h
 unfold a9 at h;split at h
 ·exact l4 h
 ·exact l4 h
 ·unfold dP at h;split at h
  ·split at h
   ·exact same h
   ·split at h
    ·exact same h
    ·simp at h
   ·split at h
    ·split at h
     ·split at h
      ·cases h;exact bb.refl _ _
      ·cases h;exact bb.refl _ _
      ·simp at h
     ·simp at h
    ·simp at h
   ·split at h
    ·split at h
     ·rename_i bF;split at h
      ·split at h
       ·cases h;exact bb.set _ _ bF
       ·split at h
        ·split at h
         ·simp at h
         ·cases h;exact (bb.set _ _ bF).trans (bb.append _ _ _)
        ·cases h;exact bb.set _ _ bF
       ·cases h;exact bb.refl _ _
       ·simp at h
      ·split at h
       ·cases h;exact bb.set _ _ bF
       ·cases h;exact bb.refl _ _
       ·simp at h
      ·simp at h
     ·simp at h
    ·simp at h
  ·simp at h
 ·unfold hD at h;split at h
  ·split at h
   ·simp only [rU,Prod.mk.injEq] at h;obtain ⟨H1,h,_,rfl⟩:=h;unfold iB at h;split at h
    ·split at h
     ·exact zm h
     ·simp at h
    ·simp at h
   ·simp only [rU,Prod.mk.injEq] at h;obtain ⟨H1,h,_,rfl⟩:=h;unfold lu at h;split at h
    ·split at h
     ·exact zl h
     ·simp at h
    ·simp at h
  ·simp at h
 ·unfold gF at h;split at h
  ·split at h
   ·simp only [rU,Prod.mk.injEq] at h;obtain ⟨_,_,_,rfl⟩:=h;exact bb.append _ _ _
   ·split at h
    ·split at h
     ·cases h;exact bb.refl _ _
     ·cases h
    ·cases h
  ·simp at h
 ·unfold kT at h;split at h
  ·simp only [rU,Prod.mk.injEq] at h;obtain ⟨_,_,_,rfl⟩:=h;exact bb.append _ _ _
  ·split at h
   ·simp only [rU,Prod.mk.injEq] at h;obtain ⟨_,_,_,rfl⟩:=h;exact bb.append _ _ _
   ·cases h
 ·split at h
  ·exact same h
  ·simp only [rU,Prod.mk.injEq] at h;obtain ⟨_,_,_,rfl⟩:=h;exact bb.refl _ _
 ·unfold jX at h;split at h
  ·split at h
   ·split at h
    ·simp only [rU,Prod.mk.injEq] at h;obtain ⟨_,_,_,rfl⟩:=h;exact bb.append _ _ _
    ·split at h
     ·simp only [rU,Prod.mk.injEq] at h;obtain ⟨_,_,_,rfl⟩:=h;exact bb.refl _ _
     ·simp at h
   ·simp at h
  ·simp at h
 ·exact DA h
 ·exact DB h
 ·rw [ES h];exact bb.refl _ _
 ·exact DC h
 ·rw [ER h];exact bb.refl _ _
 ·split at h
  ·split at h
   ·split at h
    ·exact zk h
    ·exact Dx h
   ·exact zk h
  ·unfold hB at h;split at h
   ·unfold ki at h;split at h
    ·exact (m5 bw h).1
    ·exact (m5 bw h).1
    ·simp at h
   ·simp at h
  ·simp at h
 ·exact same h
end
end Go.Proofs.YtfakoboiahbhaaaGreat.Ab


namespace Go.Proofs.YtfakoboiahbhaaaGreat.Ab
open Go
section
variable {P:Program} {B N:Nat} {J:List Nat} {w:World} {H:List au} {U:Nat→Option aI} {S:Nat→Nat→Prop}
theorem Ax {k : Nat} {f : Func} (aQ : P.funcs[k]? = some f) (ag : f.body.isSome = true) (aN : f.name ≠ "runtime.NumGoroutine") (args : Array Value) (w : World) :
  (callFunc k args).run P w=.ok (.enter k args) w:=by
 have br:f.body≠none:=fun h=>by simp [h] at ag
 simp [callFunc,aQ,br,aN]
theorem Ba {first us cap:List I} {vs ws xs:List Value} (aQ:first.length=vs.length) (bT:∀ u∈first,u.plain=true) (aS:∀ (j:Nat) (u:I) (v:Value),first[j]?=some u→vs[j]?=some v→Rel J S w u v)
  (ao:cap.length=ws.length) (b6:∀ u∈cap,u.plain=true) (bk:∀ (j:Nat) (u:I) (v:Value),cap[j]?=some u→ws[j]?=some v→Rel J S w u v)
  (ae:a_ (fun i=>.arg (i+1)) U J S w us xs) :
  a_ (fun i=>.arg i) (gb (fun i=>match i with | 0=>none | j+1=>some (first.length+j)) U) J S w (first++us++cap) (vs++xs++ws):=by
 have ak:=ae.len;have key:∀ (i:Nat) (u:I) (v:Value),(first++us++cap)[i]?=some u→(vs++xs++ws)[i]?=some v →
   Rel J S w u v∧aW (gb (fun i=>match i with | 0=>none | j+1=>some (first.length+j)) U) J S w (.arg i) u v:=fun i u v hu al=>by
  rcases sO i first.length with ad | ad
  ·rw [sy,se ad] at hu;rw [sy,se (by omega)] at al;exact ⟨aS i u v hu al,aW.b5 (bT u (sA hu))⟩
  ·rw [sy,sB ad] at hu;rw [sy,sB (by omega),←aQ] at al;rcases sO (i-first.length) us.length with af | af
   ·rw [se af] at hu;rw [se (by omega)] at al;refine ⟨ae.rel _ u v hu al,D6 ?_ (ae.own _ u v hu al)⟩;show some (first.length+(i-first.length))=some i;congr 1;omega
   ·rw [sB af] at hu;rw [sB (by omega),←ak] at al;exact ⟨bk _ u v hu al,aW.b5 (b6 u (sA hu))⟩
 exact ⟨by simp [aQ,ao,ak],fun i u v hu al=>(key i u v hu al).1,fun i u v hu al=>(key i u v hu al).2⟩
theorem xP {F:Fence} (bD:ej F) {C:b8} (bw:da P C) {lo:Nat} {o:Oper} {an:b7} {s aF:a6} (h:Ab.execOp P C lo o an s=some aF) {a:Act} (aK:cv B N U J S w s a)
  {K:Act→World→Prop} {Q:Exit→Act→World→Prop} (fE:∀ aM w',Step B N U J S w aF aM w'→K aM w'):o.wpIn F 0 P a w K Q:=by
 obtain ⟨r,H',aD,rfl⟩:=oQ h;obtain ⟨b4,a5,na,cb,ae⟩:=Eg (H:=s.H) aK (opsOf o) an.takes (dO o);generalize yZ:fq (dO o) (rd s.T an.takes (opsOf o)).1=us at aD ae;have eM:∀ v,a.eval (.const v)=v:=fun _=>rfl;have jJ:∀ c,o.op≠.defer c:=fun c ao=>by simp [a9,ao,cA] at aD
 have nm:∀ v w',(∀ t,o.op=.move (.tmp t)∨o.op=.assign (.tmp t)→v=a.eval (.tmp t))→a2 B (dk b4) J a5 w H' r v w'→K (a.put o.dst v) w':=fun v w' d' aC=>by
  refine fE _ _ (Step.trans (Ext.refl J) na ?_);by_cases hm:an.mode=0∨an.mode=4
  ·obtain ⟨az,b1,S',aJ,aP,fW,_⟩:=nV o.dst cb aC .junk (fun _ _ _ _ _=>.junk _);(have g0:inPlace o an.mode (rd s.T an.takes (opsOf o)).2 r=(rd s.T an.takes (opsOf o)).2:=by rcases hm with hm | hm <;> simp [inPlace,hm]);rw [g0];exact ⟨az,b1,S',aJ,aP,fW⟩
  ·by_cases ax:∃ t,o.op=.move (.tmp t)∨o.op=.assign (.tmp t)
   ·obtain ⟨t,ax⟩:=ax;have g0:inPlace o an.mode (rd s.T an.takes (opsOf o)).2 r=gK (rd s.T an.takes (opsOf o)).2 t r.view:=by
     unfold inPlace;split
     ·rename_i px;exact absurd (.inl px) hm
     ·rename_i px;exact absurd (.inr px) hm
     ·rcases ax with ax | ax <;> simp [ax]
    have y0:∀ x,a.tmps.toList[t]?=some x→x=a.eval (.tmp t):=fun x al=>by
     (have nA:a.tmps[t]?=some x:=by simpa using al);simp [Act.eval,nA,sk]
    have yS:v=a.eval (.tmp t):=d' t ax;obtain ⟨az,b1,S',aJ,aP,fW,nx⟩:=nV o.dst cb aC r.view (fun bp cj bJ q1 aX=>DS (fun e=>hm (.inl e)) (fun e=>hm (.inr e)) ax aD q1 aX);refine ⟨az,b1,S',aJ,aP,?_,fW.H,fW.M⟩;rw [g0];have bZ:=fW.T;simp only at bZ;cases a0:o.dst with
    | none =>
      simp only [a0,put,Act.put,gL] at bZ ⊢;exact bZ.swap t (I.dh _) fun x al=>by rw [y0 x al,←yS];exact nx
    | some d =>
      simp only [a0,put,Act.put,gL] at bZ ⊢;by_cases pK:t=d
      ·subst pK;rw [rZ];exact bZ
      ·rw [List.set_comm _ _ pK];refine bZ.swap t (I.dh _) fun x al=>?_;rw [vJ,sa (Ne.symm pK)] at al;rw [y0 x al,←yS];exact nx
   ·have g0:inPlace o an.mode (rd s.T an.takes (opsOf o)).2 r=(rd s.T an.takes (opsOf o)).2:=by
     unfold inPlace;split
     ·rfl
     ·rfl
     ·split
      ·rename_i h;exact absurd ⟨_,.inl h⟩ ax
      ·rename_i h;exact absurd ⟨_,.inr h⟩ ax
      ·rfl
    rw [g0];obtain ⟨az,b1,S',aJ,aP,fW,_⟩:=nV o.dst cb aC .junk (fun _ _ _ _ _=>.junk _);exact ⟨az,b1,S',aJ,aP,fW⟩
 refine ⟨fun f _=>bD.fn f,?_⟩;rw [Oper.semAt_eq _ _ _ jJ];by_cases e8:∃ c f,o.op=.call c∧c.callee=.value f
 ·obtain ⟨c,f,kB,h0⟩:=e8;have he:opsOf o=f::c.args.toList:=by
   obtain ⟨BJ,args,BE⟩:=c;simp only at h0;subst h0;simp only [opsOf,kB]
  rw [he] at ae;simp only [a9,kB,h0] at aD;have fD:=l_ cb.H;have fY:=Bb ae
  match us,aD,fY with
  | [],aD,_=>simp [hB] at aD
  | FJ::GI,aD,fY =>
    simp only [hB] at aD;have n4:=fY.rel 0 FJ (a.eval f) rfl rfl;have y1:=fY.tail;unfold ki at aD;split at aD
    ·(rename_i k first cap);generalize ku:a.eval f=FM at n4;cases n4 with
     | func _ _ _ vs ws aJ aP bT b6 aS bk =>
       obtain ⟨_,⟨fn,Cs,kr,CP⟩,pb⟩:=m5 bw aD;have nz:=Ba (U:=dk b4) (J:=J) (S:=a5) (w:=w) (first:=first) (cap:=cap) (vs:=vs.toList) (ws:=ws.toList) (by simp [aJ]) bT (fun j u v hu al=>aS j u v hu (by simpa using al)) (by simp [aP]) b6 (fun j u v hu al=>bk j u v hu (by simpa using al)) y1;have ao:=pb B _ J a5 w _ (yV fD _) (z5 _ _) nz;have kD:(resolve a.eval c o.type).run P w=.ok { target:=.fn (.func k) ws,args:=vs++c.args.map a.eval } w:=by
        simp [resolve,h0,ku,Deferred.ofValue]
       have dM:(Go.execOp a.eval o).run P w=.ok (.enter k (vs++c.args.map a.eval++ws)) w:=by
        simp only [Go.execOp,kB,Sem.run_bind,kD,Result.andThen_ok,invoke,Ax Cs kr CP]
       rw [dM];have hv:(vs.toList++List.map a.eval c.args.toList++ws.toList).toArray=vs++c.args.map a.eval++ws:=by
        apply Array.ext';simp
       rw [hv] at ao;refine ⟨fun iK=>(by rw [bD.depth] at iK;cases iK),bD.calls (CallsIn.mono ao fun e w' he=>?_)⟩;cases e with
       | returned v=>exact nm v w' (fun t ax=>by rcases ax with ax | ax <;> rw [kB] at ax <;> cases ax) (a2.after (Ext.refl J) (z4 _ _ _ _) he)
       | panicked c=>exact he.elim
       | outgrown=>exact he.elim
    ·rename_i l;generalize ku:a.eval f=FM at n4;cases n4 with
     | yield _ b ag =>
       obtain ⟨_,pb⟩:=m5 bw aD;have nz:=Ba (U:=dk b4) (J:=J) (S:=a5) (w:=w) (first:=[]) (cap:=[]) (vs:=[]) (ws:=[]) rfl (by simp) (by simp) rfl (by simp) (by simp) y1;simp only [List.nil_append,List.append_nil] at nz;obtain ⟨L,ad,af,aG⟩:=pb B _ J a5 w _ b (yV fD _) (z5 _ _) nz ag;have kD:(resolve a.eval c o.type).run P w=.ok { target:=.fn (.yield b) #[],args:=c.args.map a.eval } w:=by
        simp [resolve,h0,ku,Deferred.ofValue]
       (have bR:(c.args.map a.eval).size=L.params.size:=by rw [←af];simp);have dM:(Go.execOp a.eval o).run P w=.ok (.round b L.fn (hG L (List.map a.eval c.args.toList)) L.assign L.body) w:=by
        simp only [Go.execOp,kB,Sem.run_bind,kD,Result.andThen_ok,invoke]
        have:(List.map a.eval c.args.toList).toArray=c.args.map a.eval:=by apply Array.ext';simp
        simp [Instr.yield,run_getLoop ad,bR,hG,this]
       rw [dM];refine ⟨fun iK=>(by rw [bD.depth] at iK;cases iK),bD.rounds (RoundIn.mono aG fun e w' he=>?_)⟩;cases e with
       | returned v=>exact nm v w' (fun t ax=>by rcases ax with ax | ax <;> rw [kB] at ax <;> cases ax) (a2.after (Ext.refl J) (z4 _ _ _ _) he)
       | panicked c=>exact he.elim
       | outgrown=>exact he.elim
    ·simp at aD
 ·have iN:∀ c f,o.op=.call c→c.callee≠.value f:=fun c f ad af=>e8 ⟨c,f,ad,af⟩;have aC:dO o=false→∀ u∈us,u.plain=true:=fun ak u hu=>by
   rw [ak] at yZ;subst yZ;obtain ⟨x,_,rfl⟩:=sq.1 hu;exact I.dh x
  rcases Fs eM (l_ cb.H) aD iN aC (Bb ae) with ⟨v,w',ad,af⟩ | ⟨w',ad,af⟩
  ·rw [ad];exact nm v w' (fun t ax=>by rcases ax with ax | ax <;> simp [Go.execOp,ax] at ad <;> exact ad.1.symm) af
  ·rw [ad];exact nm undef w' (fun t ax=>by rcases ax with ax | ax <;> simp [Go.execOp,ax] at ad) af
end
end Go.Proofs.YtfakoboiahbhaaaGreat.Ab


namespace Go.Proofs.YtfakoboiahbhaaaGreat.Ab
open Go
section
variable {P:Program} {B N:Nat} {J:List Nat} {w:World} {H:List au} {U:Nat→Option aI} {S:Nat→Nat→Prop}
theorem cv.c6 {s:a6} {a:Act} (aK:cv B N U J S w s a) (t:Nat):Rel J S w (c6 s.T t) (a.tmps.getD t undef):=by
 rw [fV,sC];cases h:s.T[t]? with
 | none=>exact .junk _
 | some u =>
   have ak:=aK.T.len;have aV:t<s.T.length:=(rV.1 h).1;(have l3:t<a.tmps.size:=by rw [←tt,←ak];exact aV);(have al:a.tmps.toList[t]?=some (a.tmps.getD t undef):=by simp [sk,l3]);exact aK.T.rel t u _ h al
theorem cv.aA {s:a6} {a:Act} (aK:cv B N U J S w s a) (x:Operand):Rel J S w (aA s.T x) (a.eval x):=by
 cases x with
 | tmp t=>exact aK.c6 t
 | const v=>exact lv J S w v
 | global g=>exact .junk _
 | func f=>exact .func f [] [] #[] #[] rfl rfl (by simp) (by simp) (by simp) (by simp)
theorem la {ops:Array Oper} {o:Oper} {s:a6} {a:Act} (aK:cv B N U J S w s a) {x:Bool} (h:ev ops o s.T=some x):Region.wanted o (yielded ops a.tmps)=x:=by
 unfold ev at h;unfold Region.wanted;split at h
 ·rename_i aO;rw [aO];simpa using h
 ·rename_i j want aO;rw [aO];split at h
  ·rename_i d a0;split at h
   ·rename_i b ag;have aj:=aK.c6 d;rw [ag] at aj;have:=aj.hX;simp only [Option.some.injEq] at h;subst h;have aV:a.tmps[d]?=some (.bool b):=by
     rw [sk] at this;cases h:a.tmps[d]? with
     | none=>rw [h] at this;simp [undef] at this
     | some v=>rw [h] at this;simpa using this
    simp [yielded,a0,aV]
   ·rename_i ag;have aj:=aK.c6 d;rw [ag] at aj;simp only [Option.some.injEq] at h;subst h;have aN:yielded ops a.tmps j=none:=by
     unfold yielded;rw [a0,rW];cases h:a.tmps[d]? with
     | none=>rfl
     | some v =>
       rw [sk,h] at aj;simp only [uq] at aj;cases aj;rfl
    simp [aN]
   ·simp at h
  ·simp at h
theorem cv.skip {T:List I} {a:Act} (aK:cv B N U J S w ⟨T,H⟩ a) (d:Option Tmp):cv B N U J S w ⟨put T d (.tuple []),H⟩ (a.put d undef):=by
 cases d with
 | none=>exact aK
 | some d =>
   refine ⟨?_,aK.H,aK.M⟩;have bZ:=aK.T;simp only [put,gL,Act.put] at bZ ⊢;have key:∀ (i:Nat) (u:I) (x:Value),(T.set d (.tuple []))[i]?=some u→(a.tmps.toList.set d undef)[i]?=some x→Rel J S w u x∧aW U J S w (.slot i) u x:=fun i u x hu al=>by
    by_cases aE:d=i
    ·subst aE;(have aV:d<T.length:=by have:=(rV.1 hu).1;simpa using this);rw [rY aV] at hu;cases hu;rw [rY (by have:=(rV.1 al).1;simpa using this)] at al;cases al;exact ⟨.tuple _ _ rfl (by simp) (by simp),aW.b5 rfl⟩
    ·rw [sa aE] at hu al;exact ⟨bZ.rel i u x hu al,bZ.own i u x hu al⟩
   refine ⟨by simpa using bZ.len,fun i u x hu al=>?_,fun i u x hu al=>?_⟩
   ·rw [vJ] at al;exact (key i u x hu al).1
   ·rw [vJ] at al;exact (key i u x hu al).2
theorem x1:∀ (k:List Bool) (T:List I) (i:Nat),(eS k T)[i]?=T[i]?∨(eS k T)[i]?=(T[i]?).map fun _=>.junk
 | [],T,i=>.inl (by simp [eS])
 | b::bs,[],i=>.inl (by simp [eS])
 | b::bs,v::vs,i=>by
   cases i with
   | zero=>cases b <;> simp [eS]
   | succ i=>simpa [eS] using x1 bs vs i
theorem Bk:∀ (k:List Bool) (T:List I),(eS k T).length=T.length
 | [],T=>by simp [eS]
 | b::bs,[]=>by simp [eS]
 | b::bs,v::vs=>by simp [eS,Bk bs vs]
theorem cv.cF {s:a6} {a:Act} (aK:cv B N U J S w s a) (mo:List (Nat×List Bool)) (id:Nat):cv B N U J S w (eX mo id s) a:=by
 unfold eX;split
 ·rename_i k _;refine ⟨⟨by rw [Bk];exact aK.T.len,fun i u x hu al=>?_,fun i u x hu al=>?_⟩,aK.H,aK.M⟩
  all_goals simp only at hu
  ·rcases x1 k s.T i with h | h
   ·rw [h] at hu;exact aK.T.rel i u x hu al
   ·rw [h] at hu;simp only [rU] at hu;obtain ⟨_,_,rfl⟩:=hu;exact .junk _
  ·rcases x1 k s.T i with h | h
   ·rw [h] at hu;exact aK.T.own i u x hu al
   ·rw [h] at hu;simp only [rU] at hu;obtain ⟨_,_,rfl⟩:=hu;exact aW.b5 rfl
 ·exact aK
theorem Step.here {s:a6} {a:Act} (aK:cv B N U J S w s a):Step B N U J S w s a w:=⟨U,J,S,Ext.refl J,bh.refl U S w,aK⟩
theorem xc {F:Fence} (bD:ej F) {C:b8} (bw:da P C) {lo:Nat} {ops:Array Oper} {aF:a6} {Q:Exit→Act→World→Prop} :
  ∀ (rest:List Oper) (as:List b7) (s:a6) (a:Act) (w:World) (U:Nat→Option aI) (J:List Nat) (S:Nat→Nat→Prop),eI P C lo ops rest as s=some aF→cv B N U J S w s a →
    (∀ aM w',Step B N U J S w aF aM w'→Q .normal aM w')→wpListIn F 0 P ops Q rest a w
 | [],as,s,a,w,U,J,S,h,aK,bn=>by
   simp only [eI,Option.some.injEq] at h;subst h;exact bn a w (Step.here aK)
 | o::rest,as,s,a,w,U,J,S,h,aK,bn=>by
   simp only [eI] at h;unfold wpListIn;split at h
   ·rename_i hw;rw [la aK hw];simp only [if_true];simp only [sb] at h;obtain ⟨s1,ad,af⟩:=h;refine xP bD bw ad aK fun aM w' ai=>?_;obtain ⟨b4,cS,a5,aJ,aP,cb⟩:=ai;exact xc bD bw rest as.tail s1 aM w' b4 cS a5 af cb fun gP hl dN=>bn gP hl (dN.trans aJ aP)
   ·rename_i hw;rw [la aK hw];simp only [tA,if_false];exact ⟨fun f _=>bD.fn f,xc bD bw rest as.tail _ _ w U J S h (aK.skip o.dst) bn⟩
   ·simp at h
end
end Go.Proofs.YtfakoboiahbhaaaGreat.Ab


namespace Go.Proofs.YtfakoboiahbhaaaGreat.Ab
open Go
theorem lF {xs ys:List Nat} (h:jw xs ys=true) (x:Nat) (al:x∈xs):x ∉ ys:=by
 simp only [jw,ss] at h;have:=h x al;simpa using this
theorem xM (u:I):u.settle.settle=u.settle:=by
 cases u <;> try rfl
 rename_i c n k;cases k <;> rfl
theorem xV (u:I):u.settle.view=u.view:=by
 cases u <;> try rfl
 rename_i c n k;cases k <;> rfl
theorem mP (T:List I) (t j:Nat):(fP T t (c6 T t))[j]?=if t=j then (T[j]?).map I.settle else T[j]?:=by
 have aO:c6 T t=T.getD t .junk:=fV T t;by_cases g3:t=j
 ·subst g3;simp only [if_true];cases h:T[t]? with
  | none =>
    (have aw:c6 T t=.junk:=by rw [aO,sC,h];rfl);rw [aw];simp [fP,h]
  | some u =>
    (have aw:c6 T t=u:=by rw [aO,sC,h];rfl);have aV:=(rV.1 h).1;rw [aw];(cases u <;> try (simp [fP,h,I.settle];done));rename_i c n k;cases k <;> simp only [fP,h,I.settle,gL,sc] <;> rw [rY aV]
 ·simp only [g3,if_false];unfold fP;split
  ·rw [gL,sa g3]
  ·rfl
theorem k6 (T:List I) (t j:Nat) (v:I):(gK T t v)[j]?=if t=j then (T[j]?).map fun _=>v else T[j]?:=by
 rw [gL];by_cases h:t=j
 ·subst h;simp only [if_true];rcases sO t T.length with ak | ak
  ·rw [rY ak,sd ak];rfl
  ·rw [tO (by simpa using ak),tO ak];rfl
 ·rw [sa h];simp [h]
theorem j1:∀ (xs:List Operand) (ts:List Bool) (T:List I) (j:Nat),
  ((rd T ts xs).2)[j]?=(T[j]?).map fun u=>if j∈c1 ts xs then .junk else if j∈tmpsOf xs then u.settle else u
 | [],ts,T,j=>by simp [rd,c1,tmpsOf]
 | .tmp t::rest,ts,T,j=>by
   (have ax:tmpsOf (.tmp t::rest)=t::tmpsOf rest:=by simp [tmpsOf]);rw [ax];cases bK:ts.headD false with
   | true =>
     simp only [rd,bK,c1];rw [j1 rest ts.tail,k6];by_cases g3:t=j
     ·subst g3;simp only [if_true,sf,true_or];cases T[t]? with
      | none=>rfl
      | some u=>simp only [sc,I.settle];split <;> simp
     ·have pL:¬ j=t:=fun e=>g3 e.symm;simp [g3,pL]
   | false =>
     simp only [rd,bK,c1];rw [j1 rest ts.tail,mP];by_cases g3:t=j
     ·subst g3;simp only [if_true,sf,true_or];cases T[t]? with
      | none=>rfl
      | some u=>simp only [sc,xM];split <;> (try split) <;> rfl
     ·have pL:¬ j=t:=fun e=>g3 e.symm;simp [g3,pL]
 | .const v::rest,ts,T,j=>by simpa [rd,c1,tmpsOf] using j1 rest ts.tail T j
 | .func f::rest,ts,T,j=>by simpa [rd,c1,tmpsOf] using j1 rest ts.tail T j
 | .global g::rest,ts,T,j=>by simpa [rd,c1,tmpsOf] using j1 rest ts.tail T j
theorem B3 {T a8:List I} {t:Nat} (h:(T[t]?).map I.settle=(a8[t]?).map I.settle):(c6 T t).view=(c6 a8 t).view:=by
 rw [fV,fV,sC,sC];cases ad:T[t]? <;> cases af:a8[t]? <;> rw [ad,af] at h <;> simp at h <;> simp only [uq];rw [←xV,h,xV]
theorem j0:∀ (xs:List Operand) (ts:List Bool) (T a8:List I),(∀ t∈tmpsOf xs,(T[t]?).map I.settle=(a8[t]?).map I.settle)→(∀ t∈c1 ts xs,T[t]?=a8[t]?) →
  (rd T ts xs).1=(rd a8 ts xs).1
 | [],ts,T,a8,_,_=>by simp [rd]
 | .tmp t::rest,ts,T,a8,ad,af=>by
   (have ax:tmpsOf (.tmp t::rest)=t::tmpsOf rest:=by simp [tmpsOf]);rw [ax] at ad;cases bK:ts.headD false with
   | true =>
     simp only [c1,bK] at af;simp only [rd,bK];have e:T[t]?=a8[t]?:=af t (by simp);rw [j0 rest ts.tail (gK T t .junk) (gK a8 t .junk) (fun u hu=>?_) (fun u hu=>?_)]
     ·congr 1;rw [fV,fV,sC,sC,e]
     ·rw [k6,k6];by_cases g5:t=u
      ·subst g5;simp [e]
      ·simp [g5,ad u (by simp [hu])]
     ·rw [k6,k6];by_cases g5:t=u
      ·subst g5;simp [e]
      ·simp [g5,af u (by simp [hu])]
   | false =>
     simp only [c1,bK] at af;simp only [rd,bK];have e:=ad t (by simp);rw [j0 rest ts.tail (fP T t (c6 T t)) (fP a8 t (c6 a8 t)) (fun u hu=>?_) (fun u hu=>?_),B3 e]
     ·rw [mP,mP];by_cases g5:t=u
      ·subst g5;simp only [if_true,e]
      ·simp only [g5,if_false];exact ad u (by simp [hu])
     ·rw [mP,mP];by_cases g5:t=u
      ·subst g5;simp only [if_true,e]
      ·simp only [g5,if_false];exact af u hu
 | .const v::rest,ts,T,a8,ad,af=>by
   simp only [rd];rw [j0 rest ts.tail T a8 (by simpa [tmpsOf] using ad) (by simpa [c1] using af)];rfl
 | .func f::rest,ts,T,a8,ad,af=>by
   simp only [rd];rw [j0 rest ts.tail T a8 (by simpa [tmpsOf] using ad) (by simpa [c1] using af)];rfl
 | .global g::rest,ts,T,a8,ad,af=>by
   simp only [rd];rw [j0 rest ts.tail T a8 (by simpa [tmpsOf] using ad) (by simpa [c1] using af)];rfl
section
variable {P:Program}
theorem m6 {C:b8} {lo mode:Nat} {o:Oper} {us:List I} {r:I} {H H':List au} (ao:dj o mode=0) (h:a9 P C lo o mode us H=some (r,H')) :
  H'=H∧∀ a3,a9 P C lo o mode us a3=some (r,a3):=by
 have base:∀ {x:Option I},x.map (fun y=>(y,H))=some (r,H')→H'=H∧∀ a3:List au,x.map (fun y=>(y,a3))=some (r,a3):=fun {x} h=>by
  simp only [rU,Prod.mk.injEq] at h;obtain ⟨_,rfl,rfl,rfl⟩:=h;exact ⟨rfl,fun _=>rfl⟩
 have l4:∀ {t:TypeId} {x:Operand},mode=0→eR P lo mode t x H us=some (r,H')→H'=H∧∀ a3,eR P lo mode t x a3 us=some (r,a3):=fun hm h=>by
  subst hm;unfold eR at h;simp only [eR];split at h
  ·simp only at h ⊢;split at h
   ·simp only [rU,Prod.mk.injEq] at h;obtain ⟨z,bo,rfl,rfl⟩:=h;exact ⟨rfl,fun _=>by simp [bo]⟩
   ·cases h;exact ⟨rfl,fun _=>rfl⟩
  ·simp at h
 cases aD:o.op <;> simp only [dj,aD] at ao <;> simp only [a9,aD] at h ⊢
 case move x=>exact l4 (by by_cases h:mode=0 <;> simp_all) h
 case assign x=>exact l4 (by by_cases h:mode=0 <;> simp_all) h
 case load t a =>
  have hm:mode=3:=by by_cases h:mode=0 <;> by_cases af:mode=2 <;> by_cases aG:mode=3 <;> by_cases bN:mode=5 <;> simp_all
  subst hm;unfold dP at h;simp only [dP];split at h
  ·simp only at h ⊢;split at h
   ·exact base h
   ·cases h
  ·cases h
 case makeSlice t a b =>
  have hm:mode≠0:=by intro h;simp [h] at ao
  unfold jX at h;simp only [jX];split at h
  ·split at h
   ·rename_i iN;split at h
    ·exact absurd rfl hm
    ·split at h
     ·rename_i af;simp only [rU,Prod.mk.injEq] at h;obtain ⟨x,al,rfl,rfl⟩:=h;exact ⟨rfl,fun _=>by obtain ⟨e,aT⟩:=af;subst e;simp [al,aT]⟩
     ·simp at h
   ·simp at h
  ·simp at h
 case box e x =>
  have hm:mode≠0:=by intro h;simp [h] at ao
  unfold gF at h;simp only [gF];split at h
  ·split at h
   ·exact absurd rfl hm
   ·split at h
    ·rename_i ae;split at h
     ·rename_i aC;cases h;exact ⟨rfl,fun _=>by simp [ae,aC]⟩
     ·cases h
    ·cases h
  ·cases h
 case buildSlice t len parts =>
  split at h
  ·exact base h
  ·simp only [rU,Prod.mk.injEq] at h ⊢;obtain ⟨x,al,rfl,rfl⟩:=h;exact ⟨rfl,fun _=>⟨x,al,rfl,trivial⟩⟩
 case call c =>
  split at ao
  ·split at ao
   ·by_cases hm:mode=0 <;> simp [hm] at ao
   all_goals simp at ao
  ·rename_i f h0;simp only [h0] at h ⊢;have hm:mode=3:=by
    by_cases aT:mode=0
    ·simp [aT] at ao
    ·by_cases aG:mode=3
     ·exact aG
     ·by_cases a7:mode=4 <;> by_cases bX:mode=6 <;> simp [aT,aG,a7,bX] at ao
   subst hm;unfold hB at h;simp only [hB];split at h
   ·unfold ki at h;simp only [ki];have key:∀ {b2:e5} {args:List I},eU C lo 3 b2 args H=some (r,H')→H'=H∧∀ a3,eU C lo 3 b2 args a3=some (r,a3):=fun {b2 args} h=>by
     simp only [eU] at h ⊢;split at h
     ·simp only [sb] at h;obtain ⟨x,al,h⟩:=h;simp only [rU,Prod.mk.injEq] at h;obtain ⟨v,ae,rfl,rfl⟩:=h;rename_i aC;exact ⟨rfl,fun a3=>by simp [al,ae]⟩
     ·simp at h
    split at h
    ·exact key h
    ·exact key h
    ·simp at h
   ·simp at h
  ·simp at ao
 case store=>simp at ao
 case alloc=>simp at ao
 case makeMap=>simp at ao
 case mapUpdate=>simp at ao
 case lookup=>simp at ao
 case range=>simp at ao
 case entry=>simp at ao
 all_goals exact base h
def dU (H a3:List au):Prop:=∀ (id:Nat) (o:au),H[id]?=some o→a3[id]?=some o∨(∃ l l',o=.cells l∧a3[id]?=some (.cells l')∧l'.map I.view=l.map I.view)∨∃ l l' g z,o=.grow l g z∧a3[id]?=some (.grow l' g z)∧l'.map I.view=l.map I.view
theorem dU.cells {H a3:List au} (h:dU H a3) {id:Nat} {l:List I} (aE:H[id]?=some (.cells l)):∃ l',a3[id]?=some (.cells l')∧l'.map I.view=l.map I.view:=by
 rcases h id _ aE with h | ⟨cx,l',ad,af,aG⟩ | ⟨_,_,_,_,ad,_⟩
 ·exact ⟨l,h,rfl⟩
 ·cases ad;exact ⟨l',af,aG⟩
 ·cases ad
theorem dU.grow {H a3:List au} (h:dU H a3) {id g z:Nat} {l:List I} (aE:H[id]?=some (.grow l g z)):∃ l',a3[id]?=some (.grow l' g z)∧l'.map I.view=l.map I.view:=by
 rcases h id _ aE with h | ⟨_,_,ad,_⟩ | ⟨cx,l',F9,cW,ad,af,aG⟩
 ·exact ⟨l,h,rfl⟩
 ·cases ad
 ·cases ad;exact ⟨l',af,aG⟩
theorem dU.append (H:List au) (X:List au):dU H (H++X):=fun id o h=>.inl (by
 rw [se (rV.1 h).1];exact h)
theorem zd {t:TypeId} {l l':List I} {off:Nat} (h:l'.map I.view=l.map I.view):et P t l' off=et P t l off:=by
 have ak:l'.length=l.length:=by have:=congrArg List.length h;simpa using this
 unfold et;split
 ·have:∀ s,((l'.drop off).take s).map I.view=((l.drop off).take s).map I.view:=fun s=>by
   rw [ux,uy,h,←uy,←ux]
  simp only [ak,this]
 ·split
  ·have:=congrArg (fun x=>x[off]?) h;simpa using this
  ·rfl
theorem Bt {H a3:List au} (ai:dU H a3) {t:TypeId} {a r:I} (h:dS P H t a=some r):dS P a3 t a=some r:=by
 unfold dS at h ⊢;split at h
 ·split at h
  ·rename_i l aE;obtain ⟨l',ad,af⟩:=ai.cells aE;rw [ad];simp only;rw [zd af];exact h
  ·rename_i l g z aE;obtain ⟨l',ad,af⟩:=ai.grow aE;rw [ad];simp only;rw [zd af];exact h
  ·simp at h
 ·exact h
 ·simp at h
theorem Ar {H a3:List au} (ai:dU H a3) {x:I} {row:List I} (h:rowOf H x=some row):rowOf a3 x=some row:=by
 unfold rowOf at h ⊢;split at h
 ·exact h
 ·split at h
  ·rename_i l aE;obtain ⟨l',ad,af⟩:=ai.cells aE;(have ak:l'.length=l.length:=by have:=congrArg List.length af;simpa using this);rw [ad];simp only [ak]
   have:∀ s off,((l'.drop off).take s).map I.view=((l.drop off).take s).map I.view:=fun s off=>by
    rw [ux,uy,af,←uy,←ux]
   simp only [this];exact h
  ·simp at h
 ·simp at h
theorem BA {H a3:List au} (ai:dU H a3) {x:I} {r:Nat×List I} (h:appended H x=some r):appended a3 x=some r:=by
 unfold appended at h ⊢;split at h
 ·rename_i m row hm aj;rw [hm,Ar ai aj];exact h
 ·simp at h
theorem Bn {H a3:List au} (ai:dU H a3) {t dp:TypeId} {s x r:I} (h:e6 P H t dp s x=some r):e6 P a3 t dp s x=some r:=by
 unfold e6 at h ⊢;split at h
 ·split at h
  ·rename_i sz bytes z ad af aG;split at h
   ·rename_i ag;split at h
    ·rename_i m new cg;simp only [BA ai cg];split at h
     ·rename_i ao;rw [if_pos ao];split at h
      ·exact h
      ·rename_i id off len cap oe;split at h
       ·rename_i hZ;rw [if_pos hZ];simp only [sb] at h;obtain ⟨fL,aq,h⟩:=h;simp only [Ar ai aq,rW];exact h
       ·simp at h
      ·simp at h
     ·simp at h
    ·simp at h
   ·exact h
  ·simp at h
 ·simp at h
theorem ju {C:b8} {lo mode:Nat} {o:Oper} {us:List I} {r:I} {H H':List au} (ao:dj o mode=1) (h:a9 P C lo o mode us H=some (r,H')) :
  H'=H∧∀ a3,dU H a3→a9 P C lo o mode us a3=some (r,a3):=by
 cases aD:o.op <;> simp only [dj,aD] at ao <;> simp only [a9,aD] at h ⊢
 case load =>
  have hm:mode=0:=by by_cases h:mode=0 <;> by_cases af:mode=2 <;> by_cases aG:mode=3 <;> by_cases bN:mode=5 <;> simp_all
  subst hm;unfold dP at h;simp only [dP];split at h
  ·simp only [rU,Prod.mk.injEq] at h ⊢;obtain ⟨v,ae,rfl,rfl⟩:=h;exact ⟨rfl,fun a3 ai=>⟨v,Bt ai ae,rfl,trivial⟩⟩
  ·simp at h
 case call c =>
  split at ao
  ·rename_i b pa;simp only [pa] at h ⊢;split at ao
   ·(have hm:mode=0:=by by_cases h:mode=0 <;> simp_all);subst hm;simp only [eu,iX] at h ⊢;split at h
    ·split at h
     ·simp only [rU,Prod.mk.injEq] at h ⊢;obtain ⟨v,ae,rfl,rfl⟩:=h;exact ⟨rfl,fun a3 ai=>⟨v,Bn ai ae,rfl,trivial⟩⟩
     ·simp at h
    ·simp at h
   ·simp only [eu,hb] at h ⊢;split at h
    ·split at h
     ·split at h <;> simp at h;obtain ⟨rfl,rfl⟩:=h;exact ⟨rfl,fun _ _=>by simp_all⟩
     ·split at h <;> simp at h;obtain ⟨rfl,rfl⟩:=h;exact ⟨rfl,fun _ _=>by simp_all⟩
     ·split at h
      ·rename_i ax aE;simp at h;obtain ⟨rfl,rfl⟩:=h;refine ⟨rfl,fun a3 ai=>?_⟩;rcases ai _ _ aE with h | ⟨l,l',h,_⟩ | ⟨_,_,_,_,h,_⟩
       ·simp [ax,h]
       ·cases h
       ·cases h
      ·simp at h
     ·split at h
      ·simp at h;obtain ⟨rfl,rfl⟩:=h;exact ⟨rfl,fun _ _=>by simp_all⟩
      ·simp at h
    ·simp at h
   ·simp only [eu,jV] at h ⊢;split at h
    ·split at h <;> simp at h;obtain ⟨rfl,rfl⟩:=h;exact ⟨rfl,fun _ _=>by simp_all⟩
    ·split at h <;> simp at h;obtain ⟨rfl,rfl⟩:=h;exact ⟨rfl,fun _ _=>by simp_all⟩
    ·simp at h
   ·simp only [eu,rU,Prod.mk.injEq] at h ⊢;obtain ⟨v,ae,rfl,rfl⟩:=h;exact ⟨rfl,fun _ _=>⟨v,ae,rfl,trivial⟩⟩
   ·simp only [eu,rU,Prod.mk.injEq] at h ⊢;obtain ⟨v,ae,rfl,rfl⟩:=h;exact ⟨rfl,fun _ _=>⟨v,ae,rfl,trivial⟩⟩
   ·simp at ao
  ·exfalso;by_cases aT:mode=0
   ·simp [aT] at ao
   ·by_cases aG:mode=3
    ·simp [aG] at ao
    ·by_cases a7:mode=4 <;> by_cases bX:mode=6 <;> simp [aT,aG,a7,bX] at ao
  ·simp at ao
 case move=>by_cases h:mode=0 <;> simp [h] at ao
 case assign=>by_cases h:mode=0 <;> simp [h] at ao
 case makeSlice=>by_cases h:mode=0 <;> simp [h] at ao
 case box=>by_cases h:mode=0 <;> simp [h] at ao
 all_goals simp at ao
theorem BN {C:b8} {lo mode:Nat} {o:Oper} {us:List I} {r:I} {H H':List au} (ao:dj o mode=3) (h:a9 P C lo o mode us H=some (r,H')):H'=H:=by
 have base:∀ {x:Option I},x.map (fun y=>(y,H))=some (r,H')→H'=H:=fun {x} h=>by
  simp only [rU,Prod.mk.injEq] at h;obtain ⟨_,rfl,rfl,rfl⟩:=h;rfl
 cases aD:o.op <;> simp only [dj,aD] at ao <;> simp only [a9,aD] at h
 case load=>by_cases h:mode=0 <;> by_cases af:mode=2 <;> by_cases aG:mode=3 <;> by_cases bN:mode=5 <;> simp [h,af,aG,bN] at ao
 case call c =>
  split at ao
  ·split at ao
   ·by_cases hm:mode=0 <;> simp [hm] at ao
   all_goals simp at ao
  ·rename_i f h0;simp only [h0] at h;have hm:mode=0∨mode=4∨mode=6:=by
    by_cases aT:mode=0
    ·exact .inl aT
    ·by_cases aG:mode=3
     ·simp [aG] at ao
     ·by_cases a7:mode=4
      ·exact .inr (.inl a7)
      ·by_cases bX:mode=6
       ·exact .inr (.inr bX)
       ·simp [aT,aG,a7,bX] at ao
   have key:∀ {b2:e5} {args:List I},eU C lo mode b2 args H=some (r,H')→H'=H:=fun {b2 args} h=>by
    rcases hm with rfl | rfl | rfl
    ·simp only [eU,sb] at h;obtain ⟨x,_,h⟩:=h;exact base h
    ·simp only [eU,sb,rU,Prod.mk.injEq] at h;obtain ⟨x,_,v,_,_,h⟩:=h;exact h.symm
    ·simp only [eU] at h;split at h
     ·simp only [sb] at h;obtain ⟨x,_,v,_,h⟩:=h;split at h
      ·simp only [Option.some.injEq,Prod.mk.injEq] at h;exact h.2.symm
      ·cases h
     ·cases h
   unfold hB at h;split at h
   ·unfold ki at h;split at h
    ·exact key h
    ·exact key h
    ·simp at h
   ·simp at h
  ·simp at ao
 case move=>by_cases h:mode=0 <;> simp [h] at ao
 case assign=>by_cases h:mode=0 <;> simp [h] at ao
 case makeSlice=>by_cases h:mode=0 <;> simp [h] at ao
 case box=>by_cases h:mode=0 <;> simp [h] at ao
 all_goals simp at ao
theorem FN {off:Nat} {l:List I} {u:I} (hu:l[off]?=some u):(l.set off u.view).map I.view=l.map I.view:=by
 rw [ud];have kG:u.view.view=u.view:=I.ke (I.dh u);rw [kG];apply tM;intro j;by_cases aw:off=j
 ·subst aw;rw [rY (by simpa using (rV.1 hu).1),sm,hu];rfl
 ·rw [sa aw]
theorem EW {H:List au} {id off g z:Nat} {l:List I} {u:I} (aE:H[id]?=some (.grow l g z)) (hu:l[off]?=some u):dU H (H.set id (.grow (l.set off u.view) g z))∧dU (H.set id (.grow (l.set off u.view) g z)) H:=by
 have ae:=FN hu;have aV:=(rV.1 aE).1;constructor
 ·intro i o h;by_cases hi:id=i
  ·subst hi;rw [aE] at h;cases h;exact .inr (.inr ⟨l,_,g,z,rfl,rY aV,ae⟩)
  ·exact .inl (by rw [sa hi];exact h)
 ·intro i o h;by_cases hi:id=i
  ·subst hi;rw [rY aV] at h;cases h;exact .inr (.inr ⟨_,l,g,z,rfl,aE,ae.symm⟩)
  ·rw [sa hi] at h;exact .inl h
theorem AL {H:List au} {id off:Nat} {l:List I} {u:I} (aE:H[id]?=some (.cells l)) (hu:l[off]?=some u):dU H (H.set id (.cells (l.set off u.view)))∧dU (H.set id (.cells (l.set off u.view))) H:=by
 have ae:(l.set off u.view).map I.view=l.map I.view:=by
  rw [ud];have kG:u.view.view=u.view:=I.ke (I.dh u);rw [kG];apply tM;intro j;by_cases aw:off=j
  ·subst aw;rw [rY (by simpa using (rV.1 hu).1),sm,hu];rfl
  ·rw [sa aw]
 have aV:=(rV.1 aE).1;constructor
 ·intro i o h;by_cases hi:id=i
  ·subst hi;rw [aE] at h;cases h;exact .inr (.inl ⟨l,_,rfl,rY aV,ae⟩)
  ·exact .inl (by rw [sa hi];exact h)
 ·intro i o h;by_cases hi:id=i
  ·subst hi;rw [rY aV] at h;cases h;exact .inr (.inl ⟨_,l,rfl,aE,ae.symm⟩)
  ·rw [sa hi] at h;exact .inl h
theorem ye {C:b8} {lo mode:Nat} {o:Oper} {us:List I} {r:I} {H H':List au} (ao:dj o mode=5) (h:a9 P C lo o mode us H=some (r,H')):dU H H'∧dU H' H:=by
 have refl:dU H H:=fun id o h=>.inl h;cases aD:o.op <;> simp only [dj,aD] at ao <;> simp only [a9,aD] at h
 case load t a =>
  have hm:mode≠0:=by intro h;simp [h] at ao
  unfold dP at h;split at h
  ·split at h
   ·exact absurd rfl hm
   ·simp at ao
   ·simp at ao
   ·split at h
    ·split at h
     ·split at h
      ·rename_i l aE;split at h
       ·rename_i c n z cY;cases h;exact AL aE cY
       ·rename_i c n z cY;rw [if_neg (by intro af;simp [af] at ao)] at h;cases h;exact AL aE cY
       ·cases h;exact ⟨refl,refl⟩
       ·simp at h
      ·rename_i l g z aE;split at h
       ·rename_i c n cW cY;cases h;exact EW aE cY
       ·cases h;exact ⟨refl,refl⟩
       ·cases h
      ·simp at h
     ·simp at h
    ·simp at h
  ·simp at h
 case call c =>
  split at ao
  ·split at ao
   ·by_cases hm:mode=0 <;> simp [hm] at ao
   all_goals simp at ao
  ·exfalso;by_cases aT:mode=0
   ·simp [aT] at ao
   ·by_cases aG:mode=3
    ·simp [aG] at ao
    ·by_cases a7:mode=4 <;> by_cases bX:mode=6 <;> simp [aT,aG,a7,bX] at ao
  ·simp at ao
 case move=>by_cases h:mode=0 <;> simp [h] at ao
 case assign=>by_cases h:mode=0 <;> simp [h] at ao
 case makeSlice=>by_cases h:mode=0 <;> simp [h] at ao
 case box=>by_cases h:mode=0 <;> simp [h] at ao
 all_goals simp at ao
theorem BO {C:b8} {lo mode:Nat} {o:Oper} {us:List I} {r:I} {H H':List au} (ao:dj o mode=6) (h:a9 P C lo o mode us H=some (r,H')):dU H H':=by
 cases aD:o.op <;> simp only [dj,aD] at ao <;> simp only [a9,aD] at h
 case load=>by_cases h:mode=0 <;> by_cases af:mode=2 <;> by_cases aG:mode=3 <;> by_cases bN:mode=5 <;> simp [h,af,aG,bN] at ao
 case box e x =>
  have hm:mode=0:=by by_cases h:mode=0 <;> simp_all
  subst hm;unfold gF at h;split at h
  ·simp only [rU,Prod.mk.injEq] at h;obtain ⟨_,_,_,rfl⟩:=h;exact dU.append _ _
  ·simp at h
 case alloc t =>
  unfold kT at h;split at h
  ·simp only [rU,Prod.mk.injEq] at h;obtain ⟨_,_,_,rfl⟩:=h;exact dU.append _ _
  ·split at h
   ·simp only [rU,Prod.mk.injEq] at h;obtain ⟨_,_,_,rfl⟩:=h;exact dU.append _ _
   ·cases h
 case call c =>
  split at ao
  ·split at ao
   ·by_cases hm:mode=0 <;> simp [hm] at ao
   all_goals simp at ao
  ·exfalso;by_cases aT:mode=0
   ·simp [aT] at ao
   ·by_cases aG:mode=3
    ·simp [aG] at ao
    ·by_cases a7:mode=4 <;> by_cases bX:mode=6 <;> simp [aT,aG,a7,bX] at ao
  ·simp at ao
 case move=>by_cases h:mode=0 <;> simp [h] at ao
 case assign=>by_cases h:mode=0 <;> simp [h] at ao
 case makeSlice=>by_cases h:mode=0 <;> simp [h] at ao
 all_goals simp at ao
noncomputable def du (P:Program) (C:b8) (lo:Nat) (ops:Array Oper) (o:Oper) (an:b7) (s:a6):Option a6 :=
 match ev ops o s.T with
 | some true=>Ab.execOp P C lo o an s
 | some false=>some ⟨put s.T o.dst (.tuple []),s.H⟩
 | none=>none
theorem Bc {ops:Array Oper} {o:Oper} {T a8:List I} (h:∀ t∈oY ops o,(T[t]?).map I.settle=(a8[t]?).map I.settle):ev ops o T=ev ops o a8:=by
 unfold ev;split
 ·rfl
 ·rename_i j want aO;split
  ·rename_i d a0;have hm:=h d (by simp [oY,aO,a0]);have ai:(c6 T d).settle=(c6 a8 d).settle:=by
    rw [fV,fV,sC,sC];cases ad:T[d]? <;> cases af:a8[d]? <;> rw [ad,af] at hm <;> simp at hm <;> simp [hm]
   have key:∀ x:I,(match x with | .bool b=>some (b == want) | .tuple []=>some false | _=>none)=(match x.settle with | .bool b=>some (b == want) | .tuple []=>some false | _=>none):=fun x=>by
    (cases x <;> try rfl);rename_i c n k;cases k <;> rfl
   exact (key _).trans (Eq.trans (by rw [ai]) (key _).symm)
  ·rfl
theorem nX (T:List I) (d:Option Nat) (v:I) (j:Nat):(put T d v)[j]?=if d=some j then (T[j]?).map fun _=>v else T[j]?:=by
 cases d with
 | none=>simp [put]
 | some d=>simp only [put,k6,Option.some.injEq]
def gV (o:Oper) (an:b7) (w:Bool) (r:I) (j:Nat) (u:I):I :=
 if o.dst=some j then r else if w=false then u else if j∈c1 an.takes (opsOf o) then .junk else if j∈tmpsOf (opsOf o) then u.settle else u
theorem yb {o:Oper} {mode:Nat} (h:calm o mode=true) (T:List I) (v:I):inPlace o mode T v=T:=by
 unfold inPlace;split
 ·rfl
 ·rfl
 ·rename_i hm _;split
  ·rename_i aD;simp [calm,aD] at h;exact absurd h hm
  ·rename_i aD;simp [calm,aD] at h;exact absurd h hm
  ·rfl
theorem A5 {C:b8} {lo:Nat} {ops:Array Oper} {o:Oper} {an:b7} {s aF:a6} (o_:calm o an.mode=true) (h:du P C lo ops o an s=some aF) :
  ∃ w r,ev ops o s.T=some w∧(∀ j,aF.T[j]?=(s.T[j]?).map (gV o an w r j)) ∧
    (w=true→a9 P C lo o an.mode (fq (dO o) (rd s.T an.takes (opsOf o)).1) s.H=some (r,aF.H))∧(w=false→r=.tuple []∧aF.H=s.H):=by
 unfold du at h;split at h
 ·rename_i hw;obtain ⟨r,H',aD,rfl⟩:=oQ h;refine ⟨true,r,hw,fun j=>?_,fun _=>aD,by simp⟩;rw [yb o_];simp only [nX,j1];cases s.T[j]? with
  | none=>split <;> rfl
  | some u=>by_cases a0:o.dst=some j <;> simp [gV,a0]
 ·rename_i hw;simp only [Option.some.injEq] at h;subst h;refine ⟨false,.tuple [],hw,fun j=>?_,by simp,fun _=>⟨rfl,rfl⟩⟩;simp only [nX];cases s.T[j]? with
  | none=>split <;> rfl
  | some u=>by_cases a0:o.dst=some j <;> simp [gV,a0]
 ·simp at h
theorem A3 {C:b8} {lo:Nat} {ops:Array Oper} {o:Oper} {an:b7} {s:a6} (o_:calm o an.mode=true) {w:Bool} {r:I} {H':List au} (hw:ev ops o s.T=some w)
  (ad:w=true→a9 P C lo o an.mode (fq (dO o) (rd s.T an.takes (opsOf o)).1) s.H=some (r,H')) (af:w=false→r=.tuple []∧H'=s.H) :
  ∃ a8,du P C lo ops o an s=some ⟨a8,H'⟩∧∀ j,a8[j]?=(s.T[j]?).map (gV o an w r j):=by
 cases w with
 | true =>
   refine ⟨put (inPlace o an.mode (rd s.T an.takes (opsOf o)).2 r) o.dst r,?_,fun j=>?_⟩
   ·have ad:=ad rfl;simp only [du,hw,Ab.execOp];unfold fq at ad;cases ak:dO o <;> rw [ak] at ad <;> simp only at ad ⊢ <;> rw [ad] <;> rfl
   ·rw [yb o_];simp only [nX,j1];cases s.T[j]? with
    | none=>split <;> rfl
    | some u=>by_cases a0:o.dst=some j <;> simp [gV,a0]
 | false =>
   obtain ⟨rfl,rfl⟩:=af rfl;refine ⟨put s.T o.dst (.tuple []),by simp only [du,hw],fun j=>?_⟩;simp only [nX];cases s.T[j]? with
   | none=>split <;> rfl
   | some u=>by_cases a0:o.dst=some j <;> simp [gV,a0]
theorem Dr {t:TypeId} {H:List au} {id c dW:Nat} {es es':List (Nat×I×I)} (aE:H[id]?=some (.map es c)) (a:I):dS P (H.set id (.map es' dW)) t a=dS P H t a:=by
 have ak:=(rV.1 aE).1;unfold dS;cases a with
 | ptr i off =>
   simp only;by_cases h:id=i
   ·subst h;rw [rY ak,aE]
   ·rw [sa h]
 | _=>rfl
theorem Ds {C:b8} {lo:Nat} {bC bS:Oper} {dg:Nat} {us vs:List I} {aS bk:I} {H a3:List au} (h:kN bC 0 bS=true) (ad:a9 P C lo bC 0 us H=some (aS,H)) (af:a9 P C lo bS dg vs H=some (bk,a3)) :
  a9 P C lo bC 0 us a3=some (aS,a3):=by
 unfold kN at h;split at h
 ·rename_i t x jd m k v iP d_;simp only [a9,iP] at ad ⊢;simp only [a9,d_] at af;unfold dP at ad ⊢;split at ad
  ·rename_i a;simp only [rU,Prod.mk.injEq] at ad;obtain ⟨r,ad,rfl,-⟩:=ad;have key:∃ id c es dW es',H[id]?=some (.map es c)∧a3=H.set id (.map es' dW):=by
    unfold iZ at af;split at af
    ·split at af
     ·split at af
      ·split at af
       ·split at af
        ·rename_i aE;split at af
         ·cases af;exact ⟨_,_,_,_,_,aE,rfl⟩
         ·cases af;exact ⟨_,_,_,_,_,aE,rfl⟩
         ·simp at af
        ·simp at af
       ·simp at af
      ·simp at af
     ·simp at af
    ·simp at af
   obtain ⟨id,c,es,dW,es',aE,rfl⟩:=key;simp only;rw [Dr aE,ad];rfl
  ·simp at ad
 ·simp at h
theorem A1 {C:b8} {lo:Nat} {ops:Array Oper} {bC bS:Oper} {aB aH:b7} (hi:indep ops bC aB bS aH=true) {s s1 s2:a6} (ad:du P C lo ops bC aB s=some s1) (af:du P C lo ops bS aH s1=some s2) :
  ∃ s3,du P C lo ops bS aH s=some s3∧du P C lo ops bC aB s3=some s2:=by
 simp only [indep,r_] at hi;obtain ⟨⟨⟨⟨⟨⟨⟨d1,d2⟩,d3⟩,d4⟩,d5⟩,ba⟩,bm⟩,bK⟩:=hi;have e1:∀ t,bC.dst=some t→t ∉ e2 ops bS:=fun t ax=>lF d1 t (by simp [ax]);have cm:∀ t,bS.dst=some t→t ∉ e2 ops bC:=fun t ax=>lF d2 t (by simp [ax]);have dF:∀ t,bC.dst=some t→bS.dst≠some t:=fun t ax h=>lF d3 t (by simp [ax]) (by simp [h]);have oL:=lF d4;have oM:=lF d5;have hJ:∀ (xs:List Operand) (ts:List Bool) (t:Nat),t∈c1 ts xs→t∈tmpsOf xs:=by
  intro xs
  induction xs with
  | nil=>intro ts t h;simp [c1] at h
  | cons x rest a' =>
    intro ts t h;cases x with
    | tmp u =>
      (have ax:tmpsOf (.tmp u::rest)=u::tmpsOf rest:=by simp [tmpsOf]);rw [ax];simp only [c1] at h;split at h
      ·rcases sf.1 h with rfl | h
       ·simp
       ·exact tP _ (a' _ t h)
      ·exact tP _ (a' _ t h)
    | const v=>simpa [tmpsOf] using a' _ t (by simpa [c1] using h)
    | func f=>simpa [tmpsOf] using a' _ t (by simpa [c1] using h)
    | global g=>simpa [tmpsOf] using a' _ t (by simpa [c1] using h)
 obtain ⟨bE,aS,cd,t1,fs,v1⟩:=A5 ba ad;obtain ⟨bV,bk,b_,t2,gi,v2⟩:=A5 bm af;have cF:∀ (o:Oper) (a:b7) (w:Bool) (r:I) (t:Nat),o.dst≠some t→t ∉ c1 a.takes (opsOf o)→∀ u,(gV o a w r t u).settle=u.settle:=fun o a w r t a0 ax u=>by
  unfold gV;rw [if_neg a0];split
  ·rfl
  ·by_cases h:t∈tmpsOf (opsOf o) <;> simp only [h,if_true,if_false];exact xM u
 have stay:∀ (o:Oper) (a:b7) (w:Bool) (r:I) (t:Nat),o.dst≠some t→t ∉ tmpsOf (opsOf o)→∀ u,gV o a w r t u=u:=fun o a w r t a0 ax u=>by
  unfold gV;rw [if_neg a0];split
  ·rfl
  ·have Dc:t ∉ c1 a.takes (opsOf o):=fun h=>ax (hJ _ _ t h);simp only [Dc,if_false]
 have df:∀ t∈e2 ops bS,(s1.T[t]?).map I.settle=(s.T[t]?).map I.settle:=fun t ax=>by
  rw [t1];cases s.T[t]? with
  | none=>rfl
  | some u=>simp only [sc];rw [cF bC aB bE aS t (fun h=>e1 t h ax) (fun h=>oL t h ax)]
 have aJ:∀ t∈c1 aH.takes (opsOf bS),s1.T[t]?=s.T[t]?:=fun t ax=>by
  rw [t1];have aN:bC.dst≠some t:=fun h=>e1 t h (by simp [e2,hJ _ _ t ax]);have py:t ∉ tmpsOf (opsOf bC):=fun h=>oM t ax (by simp [e2,h]);cases s.T[t]? with
  | none=>rfl
  | some u=>simp only [sc];rw [stay bC aB bE aS t aN py]
 have B6:ev ops bS s.T=some bV:=by rw [←b_];exact (Bc fun t ax=>df t (by simp [e2,ax])).symm
 have dB:(rd s1.T aH.takes (opsOf bS)).1=(rd s.T aH.takes (opsOf bS)).1:=j0 _ _ _ _ (fun t ax=>df t (by simp [e2,ax])) aJ;have zZ:∀ {o:Oper} {a:b7} {us:List I} {r:I} {H H':List au},dj o a.mode=1∨dj o a.mode=3→a9 P C lo o a.mode us H=some (r,H')→H'=H:=fun ao aD=>by
  rcases ao with ao | ao
  ·exact (ju ao aD).1
  ·exact BN ao aD
 have av:dj bC aB.mode=0∨dj bS aH.mode=0∨((dj bC aB.mode=1∨dj bC aB.mode=3)∧(dj bS aH.mode=1∨dj bS aH.mode=3)) ∨
   (dj bC aB.mode=1∧dj bS aH.mode=5)∨(dj bC aB.mode=5∧dj bS aH.mode=1)∨(dj bC aB.mode=1∧dj bS aH.mode=6)∨(aB.mode=0∧kN bC 0 bS=true):=by
  rw [tQ] at bK;rcases bK with bK | bK
  rotate_left
  ·refine .inr (.inr (.inr (.inr (.inr (.inr ?_)))));have aT:aB.mode=0:=by
    unfold kN at bK;split at bK
    ·simpa using bK
    ·simp at bK
   rw [aT] at bK;exact ⟨aT,bK⟩
  simp only [bQ,tQ,r_,beq_iff_eq] at bK;rcases bK with ((((h | h) | h) | h) | h) | h
  ·exact .inl h
  ·exact .inr (.inl h)
  ·exact .inr (.inr (.inl h))
  ·exact .inr (.inr (.inr (.inl h)))
  ·exact .inr (.inr (.inr (.inr (.inl h))))
  ·exact .inr (.inr (.inr (.inr (.inr (.inl h)))))
 have mem:∃ hR,(bV=true→a9 P C lo bS aH.mode (fq (dO bS) (rd s.T aH.takes (opsOf bS)).1) s.H=some (bk,hR))∧(bV=false→bk=.tuple []∧hR=s.H) ∧
   (bE=true→∀ vs,a9 P C lo bC aB.mode vs s.H=some (aS,s1.H)→a9 P C lo bC aB.mode vs hR=some (aS,s2.H))∧(bE=false→s2.H=hR):=by
  cases bV with
  | false =>
    obtain ⟨q1,aX⟩:=v2 rfl;refine ⟨s.H,by simp,fun _=>⟨q1,rfl⟩,fun _ vs h=>by rw [aX];exact h,fun hw=>by rw [aX];exact (v1 hw).2⟩
  | true =>
    have d_:=gi rfl;rw [dB] at d_;cases bE with
    | false =>
      have q:=(v1 rfl).2;rw [q] at d_;exact ⟨s2.H,fun _=>d_,by simp,by simp,fun _=>rfl⟩
    | true =>
      have iP:=fs rfl;rcases av with h | h | ⟨h,aY⟩ | ⟨h,aY⟩ | ⟨h,aY⟩ | ⟨h,aY⟩ | ⟨h,aY⟩
      ·have q:=(m6 h iP).1;rw [q] at d_;exact ⟨s2.H,fun _=>d_,by simp,fun _ vs bK=>(m6 h bK).2 s2.H,by simp⟩
      ·have q:=(m6 h d_).1;refine ⟨s.H,fun _=>(m6 h d_).2 s.H,by simp,fun _ vs bK=>by rw [q];exact bK,by simp⟩
      ·have q1:=zZ h iP;have aX:=zZ aY d_;rw [aX,q1] at d_;exact ⟨s.H,fun _=>d_,by simp,fun _ vs bK=>by rw [aX];exact bK,by simp⟩
      ·have q1:=(ju h iP).1;rw [q1] at d_;exact ⟨s2.H,fun _=>d_,by simp,fun _ vs bK=>(ju h bK).2 s2.H (ye aY d_).1,by simp⟩
      ·obtain ⟨aX,cB⟩:=ju aY d_;exact ⟨s.H,fun _=>cB s.H (ye h iP).2,by simp,fun _ vs bK=>by rw [aX];exact bK,by simp⟩
      ·have q1:=(ju h iP).1;rw [q1] at d_;exact ⟨s2.H,fun _=>d_,by simp,fun _ vs bK=>(ju h bK).2 s2.H (BO aY d_),by simp⟩
      ·have q1:s1.H=s.H:=by
        have ao:dj bC aB.mode=1:=by
         unfold kN at aY;split at aY
         ·rename_i aD _;simp only [dj,aD,h];rfl
         ·simp at aY
        exact (ju ao iP).1
       rw [q1] at d_;refine ⟨s2.H,fun _=>d_,by simp,fun _ vs bK=>?_,by simp⟩;rw [q1] at bK;rw [h] at bK ⊢;exact Ds aY bK d_
 obtain ⟨hR,bq,cK,eA,jt⟩:=mem;obtain ⟨dD,C8,o5⟩:=A3 (C:=C) (lo:=lo) (s:=s) bm B6 bq cK;have dg:∀ t∈e2 ops bC,(dD[t]?).map I.settle=(s.T[t]?).map I.settle:=fun t ax=>by
  rw [o5];cases s.T[t]? with
  | none=>rfl
  | some u=>simp only [sc];rw [cF bS aH bV bk t (fun h=>cm t h ax) (fun h=>oM t h ax)]
 have aP:∀ t∈c1 aB.takes (opsOf bC),dD[t]?=s.T[t]?:=fun t ax=>by
  rw [o5];have aN:bS.dst≠some t:=fun h=>cm t h (by simp [e2,hJ _ _ t ax]);have py:t ∉ tmpsOf (opsOf bS):=fun h=>oL t ax (by simp [e2,h]);cases s.T[t]? with
  | none=>rfl
  | some u=>simp only [sc];rw [stay bS aH bV bk t aN py]
 have B5:ev ops bC dD=some bE:=by rw [←cd];exact Bc fun t ax=>dg t (by simp [e2,ax])
 have d':(rd dD aB.takes (opsOf bC)).1=(rd s.T aB.takes (opsOf bC)).1:=j0 _ _ _ _ (fun t ax=>dg t (by simp [e2,ax])) aP
 obtain ⟨Bm,C9,Ca⟩:=A3 (C:=C) (lo:=lo) (s:=⟨dD,hR⟩) (r:=aS) (H':=s2.H) ba B5 (fun hw=>by
  simp only;rw [d'];exact eA hw _ (fs hw)) (fun hw=>⟨(v1 hw).1,jt hw⟩)
 refine ⟨⟨dD,hR⟩,C8,?_⟩;rw [C9];congr 1
 have:Bm=s2.T:=by
  apply tM;intro j;rw [Ca,t2];simp only [o5,t1];cases s.T[j]? with
  | none=>rfl
  | some u =>
    simp only [sc,Option.some.injEq];unfold gV;have FW:=dF j;have lf:=e1 j;have lg:=cm j;have Bh:=oL j;have Bi:=oM j;have x0:=hJ (opsOf bC) aB.takes j;have oq:=hJ (opsOf bS) aH.takes j;simp only [e2,List.mem_append,not_or] at lf lg Bh Bi;by_cases bT:bC.dst=some j
    ·have q:=(lf bT).2;have fO:j ∉ c1 aH.takes (opsOf bS):=fun h=>q (oq h);simp only [bT,if_true,FW bT,if_false,q,fO];split <;> rfl
    ·by_cases b6:bS.dst=some j
     ·have q:=(lg b6).2;have fO:j ∉ c1 aB.takes (opsOf bC):=fun h=>q (x0 h);simp only [bT,b6,if_true,if_false,q,fO];split <;> rfl
     ·simp only [bT,b6,if_false];by_cases og:j∈c1 aB.takes (opsOf bC)
      ·have q:=(Bh og).2;have fO:j ∉ c1 aH.takes (opsOf bS):=fun h=>q (oq h);simp only [og,q,fO,if_true,if_false];split <;> split <;> rfl
      ·by_cases xS:j∈c1 aH.takes (opsOf bS)
       ·have q:=(Bi xS).2;simp only [og,xS,q,if_true,if_false];split <;> split <;> rfl
       ·simp only [og,xS,if_false];by_cases EO:j∈tmpsOf (opsOf bC) <;> by_cases EP:j∈tmpsOf (opsOf bS) <;> simp only [EO,EP,if_true,if_false] <;> split <;> split <;> first | rfl | rw [xM]
 rw [this]
end
end Go.Proofs.YtfakoboiahbhaaaGreat.Ab


namespace Go.Proofs.YtfakoboiahbhaaaGreat.Ab
open Go
section
variable {P:Program}
theorem my (ms:List Nat) (j:Nat):∀ (l:List Edge) (nL:Nat),(l.foldl (fun m e=>if Region.binds .any e then m ||| (ms.getD e.on 0 ||| 1 <<< e.on) else m) nL).testBit j=true →
  nL.testBit j=true∨∃ e∈l,Region.binds .any e=true∧((ms.getD e.on 0).testBit j=true∨j=e.on)
 | [],nL,h=>.inl h
 | e::l,nL,h=>by
   simp only [List.foldl_cons] at h;rcases my ms j l _ h with ad | ⟨cO,jE,ag,ad⟩
   ·by_cases ag:Region.binds .any e=true
    ·simp only [ag,if_true,Nat.testBit_or,tQ] at ad;rcases ad with ad | ad | ad
     ·exact .inl ad
     ·exact .inr ⟨e,by simp,ag,.inl ad⟩
     ·refine .inr ⟨e,by simp,ag,.inr ?_⟩;rw [Nat.one_shiftLeft,Nat.testBit_two_pow] at ad;simpa using (of_decide_eq_true ad).symm
    ·simp only [ag] at ad;exact .inl ad
   ·exact .inr ⟨cO,by simp [jE],ag,ad⟩
def lE (ops:Array Oper) (listed:Array Bool):Prop :=
 ∀ k o,ops[k]?=some o→listed.getD k true=true→∀ e∈o.after,Region.binds .any e=true→listed.getD e.on false=true
noncomputable def cy (P:Program) (C:b8) (lo:Nat) (ops:Array Oper) (as:List b7):List Nat→a6→Option a6
 | [],s=>some s
 | i::r,s=>match ops[i]? with
   | none=>cy P C lo ops as r s
   | some o=>(du P C lo ops o (as.getD i {}) s).bind (cy P C lo ops as r)
theorem ym {C:b8} {lo:Nat} {ops:Array Oper} {as:List b7}:∀ (l:List Oper) (k:Nat) (s:a6),(∀ j,l[j]?=ops[k+j]?)→eI P C lo ops l (as.drop k) s=cy P C lo ops as (List.range' k l.length) s
 | [],k,s,_=>by simp [eI,cy]
 | o::l,k,s,h=>by
   (have aT:ops[k]?=some o:=by simpa using (h 0).symm);have a':=fun s=>ym (C:=C) (lo:=lo) (as:=as) l (k+1) s (fun j=>by have:=h (j+1);simpa [Nat.add_assoc,Nat.add_comm 1 j] using this);(have a0:(as.drop k).headD {}=as.getD k {}:=by rw [List.headD_eq_head?_getD,List.head?_drop,sC]);(have ax:(as.drop k).tail=as.drop (k+1):=by rw [List.tail_drop]);simp only [eI,sD,List.range'_succ,cy,aT,a0,ax];unfold du;split
   ·rename_i hw;simp only [hw];congr 1;funext aF;exact a' aF
   ·rename_i hw;simp only [hw];exact a' _
   ·rename_i hw;simp only [hw];rfl
def eF (n:Nat) (listed:Array Bool):List Nat:=(List.range n).filter fun i=>!listed.getD i true
theorem z6 {n i:Nat} {listed:Array Bool}:eF n (listed.setIfInBounds i true)=(eF n listed).erase i:=by
 have jJ:(eF n listed).Nodup:=List.nodup_range.filter _;rw [jJ.erase_eq_filter];simp only [eF,List.filter_filter];congr 1;funext j;by_cases gZ:j=i
 ·subst gZ;rcases sO j listed.size with h | h
  ·simp [sk,h]
  ·simp [sk,h]
 ·have:(listed.setIfInBounds i true).getD j true=listed.getD j true:=by
   simp only [sk];rw [Array.getElem?_setIfInBounds_ne (Ne.symm gZ)]
  rw [this];simp [gZ]
theorem xI {C:b8} {lo:Nat} {ops:Array Oper} {as:List b7} {i:Nat} {cQ:Oper} (hi:ops[i]?=some cQ) {aF:a6}:∀ (l:List Nat) (s:a6),l.Pairwise (·<·)→i∈l →
  (∀ j∈l,j<i→∀ c3,ops[j]?=some c3→indep ops c3 (as.getD j {}) cQ (as.getD i {})=true)→cy P C lo ops as l s=some aF →
  ∃ s1,du P C lo ops cQ (as.getD i {}) s=some s1∧cy P C lo ops as (l.erase i) s1=some aF
 | [],s,_,h,_,_=>by simp at h
 | j::r,s,aC,hm,jG,h=>by
   by_cases g1:j=i
   ·subst g1;simp only [cy,hi,sb] at h;obtain ⟨s1,ad,af⟩:=h;exact ⟨s1,ad,by simpa using af⟩
   ·have aj:i∈r:=by
     rcases sf.1 hm with h | h
     ·exact absurd h.symm g1
     ·exact h
    have aV:j<i:=(tx.1 aC).1 i aj;have he:(j::r).erase i=j::r.erase i:=by
     rw [List.erase_cons];simp [g1]
    rw [he];simp only [cy] at h ⊢;cases aw:ops[j]? with
    | none =>
      simp only [aw] at h;exact xI hi r s (tx.1 aC).2 aj (fun k av=>jG k (by simp [av])) h
    | some c3 =>
      simp only [aw,sb] at h;obtain ⟨s1,ad,af⟩:=h;obtain ⟨s2,aJ,aP⟩:=xI hi r s1 (tx.1 aC).2 aj (fun k av=>jG k (by simp [av])) af;obtain ⟨s3,q1,aX⟩:=A1 (jG j (by simp) aV c3 aw) ad aJ;exact ⟨s3,q1,by dsimp only;rw [aX];exact aP⟩
variable {B N:Nat} {J:List Nat} {w:World} {U:Nat→Option aI} {S:Nat→Nat→Prop}
theorem A4 {F:Fence} (bD:ej F) {C:b8} (bw:da P C) {lo:Nat} {ops:Array Oper} {Q:Exit→Act→World→Prop} {i:Nat} {o:Oper} (hi:ops[i]?=some o) {an:b7} {s aF:a6}
  (h:du P C lo ops o an s=some aF) {a:Act} (aK:cv B N U J S w s a) {K:Act→World→Prop} (fE:∀ aM w',Step B N U J S w aF aM w'→K aM w'):wpOpIn F 0 P ops Q i K a w:=by
 unfold wpOpIn;simp only [hi];unfold du at h;split at h
 ·rename_i hw;rw [la aK hw];simp only [if_true];exact xP bD bw h aK fE
 ·rename_i hw;rw [la aK hw];simp only [tA,if_false];simp only [Option.some.injEq] at h;subst h;exact ⟨fun f _=>bD.fn f,fE _ _ (Step.here (aK.skip o.dst))⟩
 ·simp at h
theorem Bv {F:Fence} (bD:ej F) {C:b8} (bw:da P C) {lo:Nat} {ops:Array Oper} {as:List b7} (a0:m8 ops as=true) {Q:Exit→Act→World→Prop} {aF:a6} :
  ∀ (fuel:Nat) (listed:Array Bool) (s:a6) (a:Act) (w:World) (U:Nat→Option aI) (J:List Nat) (S:Nat→Nat→Prop),(eF ops.size listed).length≤fuel→lE ops listed →
    cy P C lo ops as (eF ops.size listed) s=some aF→cv B N U J S w s a→(∀ aM w',Step B N U J S w aF aM w'→Q .normal aM w')→wpAnyIn F 0 P .any ops Q fuel listed a w:=by
 have c':∀ j c3,ops[j]?=some c3→((g8 ops.toList []).getD j 0=mx (g8 ops.toList []) c3)∧(∀ e∈c3.after,Region.binds .any e=true→e.on<j) ∧
   ∀ i cQ,i<j→ops[i]?=some cQ→((g8 ops.toList []).getD j 0).testBit i=true∨indep ops cQ (as.getD i {}) c3 (as.getD j {})=true:=fun j c3 aw=>by
  have aV:j<ops.size:=(sS.1 aw).1;simp only [m8,zH,ss,sx] at a0;have h:=a0 j aV;rw [aw] at h;simp only [r_,beq_iff_eq,ss,sx] at h;obtain ⟨⟨ad,af⟩,aG⟩:=h;refine ⟨ad,fun e he ag=>?_,fun i cQ gZ hi=>?_⟩
  ·have:=af e (by simpa using he);simp only [ag,Bool.not_true,Bool.false_or] at this;simpa [Nat.blt_eq] using this
  ·have:=aG i gZ;rw [hi] at this;simpa using this
 have xr:∀ (listed:Array Bool),lE ops listed→∀ (n k:Nat) ok,k≤n→ops[k]?=some ok→(∀ e∈ok.after,Region.binds .any e=true→listed.getD e.on false=true) →
   ∀ j,((g8 ops.toList []).getD k 0).testBit j=true→listed.getD j false=true:=by
  intro listed cE n
  induction n with
  | zero =>
    intro k ok av aq eK j aw;rw [(c' k ok aq).1] at aw;rcases my _ j _ _ aw with h | ⟨e,he,ag,h⟩
    ·simp at h
    ·have:=(c' k ok aq).2.1 e (by simpa using he) ag;omega
  | succ n a' =>
    intro k ok av aq eK j aw;rw [(c' k ok aq).1] at aw;rcases my _ j _ _ aw with h | ⟨e,he,ag,h⟩
    ·simp at h
    ·(have jE:e∈ok.after:=by simpa using he);have aV:=(c' k ok aq).2.1 e jE ag;have h4:=eK e jE ag;rcases h with h | rfl
     ·have kv:=(sS.1 aq).1;have l5:ops[e.on]?=some ops[e.on]:=sv (by omega);have pF:listed.getD e.on true=true:=by
       rcases sO e.on listed.size with aY | aY
       ·simp [sk,aY] at h4 ⊢;exact h4
       ·simp [sk,aY] at h4
      exact a' e.on _ (by omega) l5 (cE e.on _ l5 pF) j h
     ·exact h4
 intro fuel
 induction fuel with
 | zero =>
   intro listed s a w U J S ph cE dM aK bn;have h3:eF ops.size listed=[]:=tn.1 (by omega);rw [h3] at dM;simp only [cy,Option.some.injEq] at dM;subst dM;refine ⟨?_,bn a w (Step.here aK)⟩;rw [uz];intro i hi;obtain ⟨ad,o,aq,_⟩:=mem_ready.1 hi
   have:i∈eF ops.size listed:=by
    simp only [eF,sK,sx];exact ⟨(sS.1 aq).1,by simp [ad]⟩
   rw [h3] at this;simp at this
 | succ fuel a' =>
   intro listed s a w U J S ph cE dM aK bn;refine ⟨fun aj=>?_,fun i hi=>?_⟩
   ·
    have h3:eF ops.size listed=[]:=by
     rw [uz];intro i
     induction i using Nat.strongRecOn with
     | _ i pS =>
       intro hi;simp only [eF,sK,sx] at hi;obtain ⟨aV,ds⟩:=hi;have aq:ops[i]?=some ops[i]:=sv aV
       have:i∈Region.ready .any ops listed:=mem_ready.2 ⟨by simpa using ds,_,aq,fun e he ag=>by
        have h2:=(c' i _ aq).2.1 e he ag;have kA:=pS e.on h2;simp only [eF,sK,sx,not_and] at kA;have ak:=kA (by omega);rcases sO e.on listed.size with aY | aY
        ·simp [sk,aY] at ak ⊢;exact ak
        ·rcases sO i listed.size with lL | lL
         ·omega
         ·simp [sk,lL] at ds⟩
       rw [aj] at this;simp at this
    rw [h3] at dM;simp only [cy,Option.some.injEq] at dM;subst dM;exact bn a w (Step.here aK)
   ·obtain ⟨ad,cQ,ef,eK⟩:=mem_ready.1 hi;have aV:=(sS.1 ef).1;have ky:i∈eF ops.size listed:=by
     simp only [eF,sK,sx];exact ⟨aV,by simp [ad]⟩
    have Da:(eF ops.size listed).Pairwise (·<·):=List.pairwise_lt_range.filter _
    obtain ⟨s1,q1,aX⟩:=xI ef (eF ops.size listed) s Da ky (fun j aw g1 c3 pE=>by
     rcases (c' i cQ ef).2.2 j c3 g1 pE with h | h
     ·have:=xr listed cE i i cQ (rX _) ef eK j h;simp only [eF,sK,sx] at aw;have ds:=aw.2;rcases sO j listed.size with aY | aY
      ·simp [sk,aY] at ds this;rw [this] at ds;simp at ds
      ·simp [sk,aY] at ds
     ·exact h) dM
    refine A4 bD bw ef q1 aK fun aM w' ai=>?_;obtain ⟨b4,cS,a5,aJ,aP,cb⟩:=ai;refine a' (listed.setIfInBounds i true) s1 aM w' b4 cS a5 ?_ ?_ (by rw [z6];exact aX) cb fun gP hl dN=>bn gP hl (dN.trans aJ aP)
    ·rw [z6,List.length_erase_of_mem ky];omega
    ·intro k ok av ak e he ag;by_cases l2:k=i
     ·subst l2;rw [ef] at av;cases av;exact getD_set_true (eK e he ag)
     ·have:listed.getD k true=true:=by rw [getD_set_ne true (Ne.symm l2)] at ak;exact ak
      exact getD_set_true (cE k ok av this e he ag)
theorem z2 {F:Fence} (bD:ej F) (hm:P.follows .mixedOrders=true) {C:b8} (bw:da P C) {lo id:Nat} {ops:Array Oper} {draw:Bool} {as:List b7} (a0:draw=true→m8 ops as=true) {Q:Exit→Act→World→Prop} {s aF:a6} {a:Act}
  (h:eI P C lo ops ops.toList as s=some aF) (aK:cv B N U J S w s a) (bn:∀ aM w',Step B N U J S w aF aM w'→Q .normal aM w'):(Code.region id ops draw).wpIn F 0 P Q a w:=by
 cases draw with
 | false=>exact wpIn_region_list (xc bD bw ops.toList as s a w U J S h aK bn)
 | true =>
   refine wpIn_region_any hm ?_;have hw:aL B U J S w.drew s.H:=l9 aK.H;have aA:=kj U S w;have fW:cv B N U J S w.drew s a:=⟨⟨aK.T.len,fun i u v hu ae=>(aK.T.rel i u v hu ae).mono (Ext.refl J) aA.set,fun i u v hu ae=>(aK.T.own i u v hu ae).mono (Ext.refl J) aA.set fun b ag=>⟨ag,rfl,fun _ h=>h⟩⟩,hw,aK.M.aA aA⟩;have aj:=ym (P:=P) (C:=C) (lo:=lo) (as:=as) (ops:=ops) ops.toList 0 s (by simp);rw [sT,h] at aj;have kC:eF ops.size (Array.replicate ops.size false)=List.range ops.size:=by
    simp only [eF];rw [List.filter_eq_self];intro i hi;have hi:=sx.1 hi;simp [sk,hi]
   refine Bv bD bw (a0 rfl) ops.size (Array.replicate ops.size false) s a w.drew U J S (by rw [kC];simp) ?_ (by rw [kC,List.range_eq_range',←tt];exact aj.symm) fW fun aM w' ai=>bn aM w' (ai.trans (Ext.refl J) aA);intro k o aq ak;have aV:=(sS.1 aq).1;simp [sk,aV] at ak
end
end Go.Proofs.YtfakoboiahbhaaaGreat.Ab


namespace Go.Proofs.YtfakoboiahbhaaaGreat.Ab
open Go
section
variable {P:Program} {C:b8}
theorem BV (bw:da P C) {lo:Nat} {o:Oper} {an:b7} {s aF:a6} (h:Ab.execOp P C lo o an s=some aF):bb lo s.H aF.H:=by
 obtain ⟨r,H',aD,rfl⟩:=oQ h;exact D4 bw aD
theorem oR (bw:da P C) {lo:Nat} {ops:Array Oper}:∀ (l:List Oper) (as:List b7) (s aF:a6),eI P C lo ops l as s=some aF→bb lo s.H aF.H
 | [],as,s,aF,h=>by simp only [eI,Option.some.injEq] at h;subst h;exact bb.refl _ _
 | o::l,as,s,aF,h=>by
   simp only [eI] at h;split at h
   ·simp only [sb] at h;obtain ⟨s1,ad,af⟩:=h;exact (BV bw ad).trans (oR bw l _ _ _ af)
   ·have:=oR bw l _ _ _ h;exact this
   ·simp at h
theorem y' (mo:List (Nat×List Bool)) (id:Nat) (s:a6):(eX mo id s).H=s.H:=by
 unfold eX;split <;> rfl
theorem zh {lo:Nat} {f:a6→Option (cD×a6)} (aQ:∀ s e aF,f s=some (e,aF)→bb lo s.H aF.H):∀ (n:Nat) (s:a6) (e:cD) (aF:a6),ia f n s=some (e,aF)→bb lo s.H aF.H
 | 0,s,e,aF,h=>by simp [ia] at h
 | n+1,s,e,aF,h=>by
   simp only [ia] at h;split at h
   ·rename_i s1 ad;exact (aQ _ _ _ ad).trans (zh aQ n _ _ _ h)
   ·exact aQ _ _ _ h
theorem oS (bw:da P C) {A:c9} {fn:FuncId} {lo d:Nat} {rl:Option Nat}:∀ (c:Code) (aZ:Nat) (s:a6) (e:cD) (aF:a6),exec P A C fn lo d rl c aZ s=some (e,aF)→bb lo s.H aF.H:=by
 intro c
 induction c with
 | skip=>intro aZ s e aF h;simp only [exec,Option.some.injEq,Prod.mk.injEq] at h;obtain ⟨_,rfl⟩:=h;exact bb.refl _ _
 | region id ops draw =>
   intro aZ s e aF h;simp only [exec] at h;split at h
   ·cases h
   simp only [rU,Prod.mk.injEq] at h;obtain ⟨s1,h,_,rfl⟩:=h;have:=oR bw _ _ _ _ h
   rwa [y'] at this
 | seq a b fa fp =>
   intro aZ s e aF h;simp only [exec] at h;split at h
   ·rename_i s1 ad;exact (fa _ _ _ _ ad).trans (fp _ _ _ _ h)
   ·exact fa _ _ _ _ h
 | cond c a b fa fp =>
   intro aZ s e aF h;simp only [exec] at h;split at h
   ·exact fa _ _ _ _ h
   ·exact fp _ _ _ _ h
   ·simp at h
 | block id c a' =>
   intro aZ s e aF h;simp only [exec] at h;split at h
   ·rename_i bA s1 ad;split at h <;> simp only [Option.some.injEq,Prod.mk.injEq] at h <;> obtain ⟨_,rfl⟩:=h <;> exact a' _ _ _ _ ad
   ·exact a' _ _ _ _ h
 | loop c a' =>
   intro aZ s e aF h;simp only [exec] at h;exact zh (fun s e aF h=>by have:=a' _ _ _ _ h;rwa [y'] at this) _ _ _ _ h
 | exit id=>intro aZ s e aF h;simp only [exec,Option.some.injEq,Prod.mk.injEq] at h;obtain ⟨_,rfl⟩:=h;exact bb.refl _ _
 | ret=>intro aZ s e aF h;simp only [exec,Option.some.injEq,Prod.mk.injEq] at h;obtain ⟨_,rfl⟩:=h;exact bb.refl _ _
 | scope c a'=>intro aZ s e aF h;simp only [exec] at h;exact a' _ _ _ _ h
 | label l=>intro aZ s e aF h;simp only [exec,Option.some.injEq,Prod.mk.injEq] at h;obtain ⟨_,rfl⟩:=h;exact bb.refl _ _
 | goto l=>intro aZ s e aF h;simp [exec] at h
 | refuse y=>intro aZ s e aF h;simp [exec] at h
 | rangeFunc g bj a b fa fp =>
   intro aZ s e aF h;simp only [exec] at h;have key:∀ {H':List au} {r:I} {b2:e5} {args:List I} {x:au},C b2 args (s.H++[x]) lo=some (r,H')→bb lo s.H (H'.set s.H.length .dead):=fun {H' r b2 args x} ao=>by
    have ak:=bw.low ao;refine ⟨?_,fun id ad af=>?_⟩
    ·have:=ak.1;simp at this ⊢;omega
    ·rw [sa (by omega),ak.2 id ad (by simp;omega),se af]
   split at h
   ·split at h
    ·rename_i r H' ao;split at h
     ·split at h
      ·simp at h
      ·split at h
       ·simp only [Option.some.injEq,Prod.mk.injEq] at h;obtain ⟨_,rfl⟩:=h;exact key ao
       ·simp only [Option.some.injEq,Prod.mk.injEq] at h;obtain ⟨_,rfl⟩:=h;exact key ao
       ·simp only [Option.some.injEq,Prod.mk.injEq] at h;obtain ⟨_,rfl⟩:=h;exact key ao
       ·simp at h
     ·simp at h
    ·simp at h
   ·simp at h
end
section
variable {P:Program} {F:Fence} {n:Nat} {b:Frame} {a:Act} {k:List Item} {cs:List Frame} {w:World} {Q:Exit→Act→World→Prop}
theorem k7 {c:Code}:step P (lone (b.atR a (.code (.scope c)::k)) cs w)=.next (lone (b.atR a (.code c::.inScope c::k)) cs w) :=
 step_lone_go (by simp [stepG,stepG.exec,Frame.atR])
theorem FD {c:Code}:step P (lone (b.atR a (.inScope c::k)) cs w)=.next (lone (b.atR a k) cs w) :=
 step_lone_go (by simp [stepG,stepG.exec,Frame.atR])
theorem Be {c:Code} (h:c.wpIn F n P Q a w) (aO:∀ l a w,¬ Q (.goto l) a w):(Code.scope c).wpIn F n P Q a w:=by
 intro b k cs C6 ag aj;have aT:(lone (b.atR a (.code (.scope c)::k)) cs w).fenced P F:=fenced_calm ag aj rfl;obtain ⟨e,kg,ld,a4,hv⟩:=h b (.inScope c::k) cs C6 ag aj;have al:∀ id,exitTo id (.inScope c::k)=exitTo id k:=fun id=>by simp [exitTo]
 cases e with
 | normal=>exact ⟨.normal,kg,ld,a4,.head aT k7 (StepsIn.trans hv (.one (fenced_calm ag aj rfl) FD))⟩
 | exit id =>
   exact ⟨.exit id,kg,ld,a4,fun k' av=>.head aT k7 (hv.1 k' (by rw [al];exact av)),
    fun yT av=>let ⟨k₁,ad,af⟩:=hv.2 yT (by rw [al];exact av);⟨k₁,ad,.head aT k7 af⟩⟩
 | goto l=>exact absurd a4 (aO l kg ld)
 | ret=>exact ⟨_,kg,ld,a4,.of_steps (.one aT k7) hv⟩
 | panic F6=>exact ⟨_,kg,ld,a4,.of_steps (.one aT k7) hv⟩
 | outgrown=>exact ⟨_,kg,ld,a4,.of_steps (.one aT k7) hv⟩
end
end Go.Proofs.YtfakoboiahbhaaaGreat.Ab


namespace Go.Proofs.YtfakoboiahbhaaaGreat.Ab
open Go
section
variable {P:Program} {B N:Nat} {J:List Nat} {w:World} {H:List au} {U:Nat→Option aI} {S:Nat→Nat→Prop}
theorem AM:∀ (T:List I) (bf:List Value) (bB:Nat→aI) (S:Nat→Nat→Prop),(∀ i j,bB i=bB j→i=j)→(∀ i id,bB i≠.obj id)→(∀ i id j,bB i≠.cell id j) →
  a_ bB U J S w T bf→aL B U J S w H →
  ∃ S':Nat→Nat→Prop,(∀ b o,S b o→S' b o)∧(∀ b o,S' b o→S b o∨∃ i,U b=some (bB i))∧aL B U J S' w H∧a_ bB U J S' w (T.map I.settle) bf∧a_ bB U J S' w (T.map I.view) bf:=by
 intro T
 induction T with
 | nil=>intro bf bB S _ _ _ ae ah;exact ⟨S,fun _ _ h=>h,fun _ _ h=>.inl h,ah,by simpa using ae,by simpa using ae⟩
 | cons u T a' =>
   intro bf bB S aw cc cq ae ah;obtain ⟨v,hK,rfl,aj,aq,ax⟩:=ae.gN;have first:∃ a5:Nat→Nat→Prop,(∀ b o,S b o→a5 b o)∧(∀ b o,a5 b o→S b o∨U b=some (bB 0))∧aL B U J a5 w H∧Rel J a5 w u.view v∧Rel J a5 w u.settle v∧aW U J a5 w (bB 0) u.settle v:=by
    by_cases hu:u.cV=true
    ·have ai:u.settle=u:=by
      (cases u <;> try rfl);rename_i c n k;cases k <;> first | rfl | simp [I.cV] at hu
     exact ⟨S,fun _ _ h=>h,fun _ _ h=>.inl h,ah,aj.view hu,by rw [ai];exact aj,by rw [ai];exact aq⟩
    ·obtain ⟨cells,len,z,rfl⟩:∃ cells len z,u=.ay cells len (.uniq z):=by
      unfold I.cV at hu;split at hu
      ·exact ⟨_,_,_,rfl⟩
      ·simp at hu
     obtain ⟨a5,aJ,aP,cl,aS,bk,eE⟩:=j8 ah aj aq;exact ⟨a5,aJ,aP,ah.settle aJ (fun b o h=>(aP b o h).imp id fun h=>⟨_,h,cc 0,cq 0⟩) cl,aS,bk,eE⟩
   (obtain ⟨a5,aJ,aP,bY,dr,CY,pD⟩:=first);have pJ:a_ (fun i=>bB (i+1)) U J a5 w T hK:=by
    refine ⟨ax.len,fun i bI bu hu ae=>(ax.rel i bI bu hu ae).mono (Ext.refl J) fun b o ai=>⟨aJ b o ai,rfl⟩,fun i bI bu hu ae=>?_⟩;refine (ax.own i bI bu hu ae).mono (Ext.refl J) (fun b o ai=>⟨aJ b o ai,rfl⟩) fun b ag=>⟨ag,rfl,fun o ai=>?_⟩;rcases aP b o ai with h | h
    ·exact h
    ·rw [ag] at h;injection h with h;exact absurd (aw _ _ h) (by omega)
   obtain ⟨S',dt,dm,cf,d',dB⟩:=a' hK (fun i=>bB (i+1)) a5 (fun i j h=>by have:=aw _ _ h;omega) (fun i=>cc (i+1)) (fun i=>cq (i+1)) pJ bY;have cp:∀ b o,a5 b o→S' b o∧w.cell? ⟨b,o,none⟩=w.cell? ⟨b,o,none⟩:=fun b o ai=>⟨dt b o ai,rfl⟩;refine ⟨S',fun b o h=>dt b o (aJ b o h),fun b o h=>?_,cf,?_,?_⟩
   ·rcases dm b o h with h | ⟨i,h⟩
    ·exact (aP b o h).imp id fun h=>⟨0,h⟩
    ·exact .inr ⟨i+1,h⟩
   ·refine a_.cons (CY.mono (Ext.refl J) cp) (pD.mono (Ext.refl J) cp fun b ag=>⟨ag,rfl,fun o h=>?_⟩) d';rcases dm b o h with h | ⟨i,h⟩
    ·exact h
    ·rw [ag] at h;injection h with h;exact absurd (aw _ _ h) (by omega)
   ·exact a_.cons (dr.mono (Ext.refl J) cp) (aW.b5 (I.dh _)) dB
theorem yk (ah:aL B U J S w H) (o:Obj):bh U S w U S (w.alloc o) :=
 ⟨rfl,rfl,rfl,by simp,fun b ag _=>heap_alloc_old w o b ag,fun b cN ai=>⟨ai,by obtain ⟨v,ae⟩:=ah.ch b cN ai;exact oH o (mv ae)⟩,fun _ _ ai=>.inl ai,fun _ ag=>.inl ag⟩
theorem C1 (ah:aL B U J S w H) (o:Obj):aL B U J S (w.alloc o) H:=by
 have aA:=yk ah o;refine ah.frame aA (fun b l ag _=>⟨ag,heap_alloc_old w o b (ah.base b l ag).2,fun _ h=>h⟩) (fun b cN ai=>?_) fun b l ag=>?_
 ·obtain ⟨v,ae⟩:=ah.ch b cN ai;exact ⟨v,((aA.set b cN ai).2).trans ae⟩
 ·have:=ah.base b l ag;exact ⟨this.1,by simp;omega⟩
theorem zj (ah:aL B U J S w H) {id b:Nat} {L:Loop} (f_:U b=some (.obj id)) (fk:w.heap[b]?=some (.loop L)) (iu:Loop) :
  bh U S w U S (w.putObj b (.loop iu))∧aL B U J S (w.putObj b (.loop iu)) (H.set id .dead)∧(w.putObj b (.loop iu)).heap[b]?=some (.loop iu):=by
 have ag:b<w.heap.size:=(sS.1 fk).1;have bR:(w.putObj b (.loop iu)).heap.size=w.heap.size:=by simp [World.putObj]
 have h5:∀ ar,ar≠b→(w.putObj b (.loop iu)).heap[ar]?=w.heap[ar]?:=fun ar h=>World.putObj_heap_other h;have bO:∀ ar o,S ar o→ar≠b:=fun ar o ai e=>by
  subst e;obtain ⟨v,ae⟩:=ah.ch ar o ai;simp [World.cell?,fk] at ae
 have bx:∀ ar o,ar≠b→(w.putObj b (.loop iu)).cell? ⟨ar,o,none⟩=w.cell? ⟨ar,o,none⟩:=fun ar o h=>by
  simp only [World.cell?,h5 ar h]
 have aA:bh U S w U S (w.putObj b (.loop iu)):=by
  refine ⟨rfl,rfl,rfl,by omega,fun ar br aN=>h5 ar (fun e=>by subst e;rw [f_] at aN;cases aN),fun ar o ai=>⟨ai,bx ar o (bO ar o ai)⟩,fun _ _ h=>.inl h,fun _ h=>.inl h⟩
 refine ⟨aA,⟨by simpa using ah.cG,fun bA o aq=>?_,fun ar o ai=>?_,fun ar l br=>?_,by rw [bR];exact ah.cZ⟩,World.putObj_heap_same ag⟩
 ·by_cases cw:bA=id
  ·subst cw;(have aV:bA<H.length:=by have:=(rV.1 aq).1;simpa using this);rw [rY aV] at aq;cases aq;trivial
  ·rw [sa (Ne.symm cw)] at aq;refine (ah.obj bA o aq).frame (Ext.refl J) aA.set fun ar l br ak=>⟨br,h5 ar (fun e=>?_),fun _ h=>h⟩;subst e;rw [f_] at br;cases br;rcases ak with h | ⟨j,h⟩
   ·cases h;exact cw rfl
   ·cases h
 ·obtain ⟨v,ae⟩:=ah.ch ar o ai;exact ⟨v,(bx ar o (bO ar o ai)).trans ae⟩
 ·rw [bR];exact ah.base ar l br
theorem Dw (ah:aL B U J S w H) {id b:Nat} {L:Loop} {st:LoopState} {cH:Option Code} {fn:FuncId} {T:List I} {bj:List Nat} {as b0:Code} {an:c9}
  (aE:H[id]?=some (.loop st cH fn T bj as b0 an)) (ag:J[id]?=some b) (fk:w.heap[b]?=some (.loop L)) (hk:LoopState) (hd:Option Code) :
  bh U S w U S (w.putObj b (.loop { L with state:=hk,pending:=hd }))∧aL B U J S (w.putObj b (.loop { L with state:=hk,pending:=hd })) (H.set id (.loop hk hd fn T bj as b0 an)) ∧
   (w.putObj b (.loop { L with state:=hk,pending:=hd })).heap[b]?=some (.loop { L with state:=hk,pending:=hd }):=by
 obtain ⟨lf,lg,ar,ov,aB,aH,aR,bl,bc,bg,c2,db,dE⟩:=ah.obj id _ aE;rw [ag] at aB;cases aB;rw [fk] at aR;cases aR;obtain ⟨aA,cf,jF⟩:=zj ah aH fk { L with state:=hk,pending:=hd };refine ⟨aA,⟨by simpa using cf.cG,fun bA o aq=>?_,cf.ch,cf.base,cf.cZ⟩,jF⟩;by_cases cw:bA=id
 ·subst cw;rw [rY (rV.1 aE).1] at aq;cases aq;exact ⟨lf,lg,b,_,ag,aH,jF,rfl,rfl,trivial,c2,fun i u v hu ae=>⟨(db i u v hu ae).1,(db i u v hu ae).2.mono (Ext.refl J) aA.set⟩,dE⟩
 ·refine cf.obj bA o ?_;rw [sa (Ne.symm cw)] at aq ⊢;exact aq
end
end Go.Proofs.YtfakoboiahbhaaaGreat.Ab
