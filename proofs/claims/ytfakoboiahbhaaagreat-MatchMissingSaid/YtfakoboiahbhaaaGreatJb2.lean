
import Derived.Test.YtfakoboiahbhaaaGreatJb1
import Derived.RangeFuncRecord
import Derived.MapKept
import Derived.RangeFuncLeaves
import Derived.RangeFuncCalls
import Derived.RangeFuncNested
import Derived.TacticsIn
set_option linter.unusedSimpArgs false
set_option linter.unusedVariables false
set_option linter.unusedSectionVars false

open Array renaming getD_eq_getD_getElem?→sT,getElem?_eq_getElem→sS,getElem?_eq_none→wC,getElem?_eq_some_iff→tt,getElem?_map→ve,getElem?_toList→vh,length_toList→tQ,mapM_eq_mapM_toList→wA,mem_of_getElem?→vu,toArray_toList→uT,toList_map→vw,toList_setIfInBounds→wF
open Bool renaming and_eq_true→sO,false_eq_true→ua,or_eq_true→uc
open List renaming all_eq_true→sR,append_assoc→sH,append_nil→sW,drop_zero→th,eq_nil_iff_forall_not_mem→vj,ext_getElem?→ui,getD_eq_getElem?_getD→sY,getElem?_append_left→sQ,getElem?_append_right→s_,getElem?_cons_succ→uU,getElem?_cons_zero→uJ,getElem?_drop→tr,getElem?_eq_getElem→sK,getElem?_eq_none→ub,getElem?_eq_some_iff→sv,getElem?_map→sN,getElem?_set_ne→sJ,getElem?_set_self→sI,getElem?_take→tp,getElem?_toArray→wx,getElem?_zip_eq_some→vU,length_cons→sV,length_drop→uh,length_eq_zero_iff→tu,length_map→td,length_take→tf,map_drop→uC,map_fst_zip→vT,map_set→vi,map_take→ur,mem_cons→sL,mem_cons_of_mem→uw,mem_filter→tc,mem_iff_getElem?→tE,mem_map→sM,mem_of_getElem?→sZ,mem_range→sX,nil_append→t_,pairwise_cons→tK,set_set→te,take_of_length_le→uB
open Nat renaming le_refl→sB,le_trans→tb,lt_of_lt_of_le→vr,lt_or_ge→tq,mul_le_mul_right→tP,sub_zero→wD,zero_add→tg
open Option renaming bind_eq_some_iff→sE,bind_some→sx,getD_some→vb,isSome_iff_exists→tR,map_eq_some_iff→su,map_some→sD
namespace Go.Proofs.YtfakoboiahbhaaaGreat.Ab
open Go
section
variable {P:Program} {B:Nat} {J:List Nat} {w:World} {H:List ar} {U:Nat→Option aH} {S:Nat→Nat→Prop}
theorem x2 {α β:Type} (g:α→Sem β) (h:α→β):∀ (l:List α),(∀ x∈l,∀ w,(g x).run P w=.ok (h x) w)→∀ w,(l.mapM g).run P w=.ok (l.map h) w
 | [],_,w=>by simp
 | x::l,ak,w=>by
   rw [List.mapM_cons];simp [ak x (by simp),x2 g h l (fun y aZ=>ak y (by simp [aZ]))]
theorem FK {t:TypeId} {parts:List (Nat×I)} {parts':Array (Nat×Value)} {r:I} (h:lH P t parts=some r) (hi:parts.map (·.1)=parts'.toList.map (·.1))
  (b1:∀ (j:Nat) (x:Nat×I) (y:Nat×Value),parts[j]?=some x→parts'.toList[j]?=some y→x.2.plain=true∧Rel J S w x.2 y.2) :
  ∃ v,(Instr.build t parts').run P w=.ok v w∧Rel J S w r v∧r.plain=true:=by
 have fin:∀ {c8:List I} {cV:Array Value},c3 J S w c8 cV.toList→Rel J S w (.agg c8) (.agg cV):=fun {c8 cV} h =>
  .agg _ _ (by simpa using h.len.symm) (fun u hu=>by
   obtain ⟨j,aw⟩:=tE.1 hu;have aS:=(sv.1 aw).1;exact (h.rel j u _ aw (sK (h.len ▸ aS))).1) (fun v ae=>by
   obtain ⟨j,aw⟩:=tE.1 ae;have aS:=(sv.1 aw).1
   exact (h.rel j _ v (sK (h.len ▸ aS)) aw).2.1) (fun j u v hu ae=>(h.rel j u v hu (by simpa using ae)).2.2)
 unfold lH at h;split at h
 ·rename_i z bm bk a3;obtain ⟨i,db,hi',d',fg⟩:=ht (J:=J) (S:=S) (w:=w) bk;split at h
  ·rename_i cU;simp only [su] at h;obtain ⟨c8,aP,rfl⟩:=h;obtain ⟨cV,ad,af⟩:=ku parts parts'.toList z c8 db.cells hi b1 aP fg;have l7:∀ f∈bm.toList,∃ s,bD P f.type=some s:=fun f aP=>by
    have:=sR.1 cU f aP;exact tR.1 this
   have hm:=x2 (P:=P) (fun f:Field=>Prod.mk f.offset <$> sizeOf f.type) (fun f:Field=>(f.offset,(bD P f.type).getD 0)) bm.toList (fun f aP w=>by
    obtain ⟨s,ai⟩:=l7 f aP;simp [run_sizeOf ai,ai]) w
   have g8:(fun (i:Nat)=>(bm.map (fun f:Field=>(f.offset,(bD P f.type).getD 0)))[i]?)=(fun (i:Nat)=>(bm[i]?).bind fun f:Field=>(bD P f.type).map fun s=>(f.offset,s)):=by
    funext i;rw [ve];cases px:bm[i]? with
    | none=>rfl
    | some f =>
      obtain ⟨s,ai⟩:=l7 f (by simpa using vu px);simp [ai]
   refine ⟨.agg cV,?_,fin af,rfl⟩;rw [←g8] at ad;simp only [ve] at ad;simp [Instr.build,jb hi' d',run_underlying a3,wA,hm,ad]
  ·simp at h
 ·rename_i z n e bk a3;obtain ⟨i,db,hi',d',fg⟩:=ht (J:=J) (S:=S) (w:=w) bk;simp only [sE,su] at h;obtain ⟨s,ai,c8,aP,rfl⟩:=h;obtain ⟨cV,ad,af⟩:=ku parts parts'.toList z c8 db.cells hi b1 aP fg;refine ⟨.agg cV,?_,fin af,rfl⟩;simp [Instr.build,jb hi' d',run_underlying a3,run_sizeOf ai,ad]
 ·simp at h
theorem yI {place:Nat→Option (Nat×Nat)}:∀ (p q:List (Nat×Value)) (vs:Array Value),Instr.fill place vs (p++q)=(Instr.fill place vs p).bind fun cV=>Instr.fill place cV q
 | [],q,vs=>by simp [Instr.fill]
 | (i,v)::p,q,vs=>by
   simp only [List.cons_append,Instr.fill];split
   ·rfl
   ·split
    ·rfl
    ·exact yI p q _
theorem yJ {place:Nat→Option (Nat×Nat)} {off:Nat}:∀ (parts:List (Nat×Value)) (vs cV:Array Value),(∀ x∈parts,∃ o s,place x.1=some (o,s)∧(off<o∨o+s≤off)) →
  Instr.fill place vs parts=some cV→cV[off]?=vs[off]?
 | [],vs,cV,_,h=>by simp [Instr.fill] at h;rw [h]
 | (i,v)::r,vs,cV,aB,h=>by
   obtain ⟨o,s,ad,af⟩:=aB (i,v) (by simp);simp only [Instr.fill,ad] at h;split at h
   ·simp at h
   ·rename_i al;simp at al;rw [yJ r _ cV (fun x ak=>aB x (by simp [ak])) h];have aO:=o9 o v.cells.toList 0 vs off (by simp;omega);rw [if_neg (by simp;omega)] at aO;rw [←Array.foldl_toList,Array.toList_zipIdx];exact aO
theorem z2:∀ (parts pre:List (Nat×I)) {lf:List (Nat×I)} {i:Nat} {c:List I} {n s:Nat} {post:List (Nat×I)},iZ pre parts=some (lf,i,c,n,s,post) →
  ∃ k,(k=.own s∨k=.uniq s)∧pre++parts=lf++(i,.ax c n k)::post
 | [],pre,_,_,_,_,_,_,h=>by simp [iZ] at h
 | x::r,pre,_,_,_,_,_,_,h=>by
   unfold iZ at h;split at h
   ·simp at *
   ·rename_i e;cases e;cases h;exact ⟨_,.inl rfl,rfl⟩
   ·rename_i e;cases e;cases h;exact ⟨_,.inr rfl,rfl⟩
   ·rename_i e;cases e;obtain ⟨k,av,e⟩:=z2 r _ h;exact ⟨k,av,by rw [←e];simp⟩
theorem FL (ah:aK B U J S w H) {t:TypeId} {parts:List (Nat×I)} {parts':Array (Nat×Value)} {r:I} (h:kl P t parts=some r) (hi:parts.map (·.1)=parts'.toList.map (·.1))
  (b1:∀ (j:Nat) (x:Nat×I) (y:Nat×Value),parts[j]?=some x→parts'.toList[j]?=some y→Rel J S w x.2 y.2∧aW U J S w (.arg j) x.2 y.2) :
  ∃ v,(Instr.build t parts').run P w=.ok v w∧a1 B U J S w H r v w:=by
 unfold kl at h;split at h
 ·rename_i z bm pre i c n s post bk a3 aD;split at h
  ·rename_i off cU g8;split at h
   ·rename_i l9;simp only [sO,sR] at l9;obtain ⟨⟨h_,kJ⟩,pT⟩:=l9;simp only [sE] at h;obtain ⟨eQ,CV,h⟩:=h;split at h
    ·rename_i aS;simp only [su] at h;obtain ⟨ef,pw,rfl⟩:=h;obtain ⟨k,av,zb⟩:=z2 parts [] aD;rw [t_] at zb;subst zb;rw [List.map_append,List.map_cons] at hi;obtain ⟨lf,rest,fL,jV,Dl⟩:=List.map_eq_append_iff.1 hi.symm;obtain ⟨⟨jX,y⟩,z8,rfl,y',za⟩:=List.map_eq_cons_iff.1 Dl;simp only at y';subst y';(have hlen:lf.length=pre.length:=by rw [←td (f:=(·.1)),jV,td]);obtain ⟨aj,aq⟩:=b1 pre.length (jX,.ax c n k) (jX,y) (by simp) (by rw [fL,←hlen];simp);simp only at aj aq;(obtain ⟨a,jY,eo,rfl⟩:∃ a jY eo,y=.slice a jY eo:=by cases aj <;> exact ⟨_,_,_,rfl⟩);obtain ⟨S',aJ,aQ,b_,_,_,CF⟩:=oZ (u:=.ax c n k) (vc:=[.ax c n k]) ah (l:=.arg pre.length) (by simp) (by simp) rfl aj aq;(have eG:(I.ax c n k).settle=.ax c n (.own s):=by rcases av with rfl | rfl <;> rfl);obtain ⟨_,nL,jS⟩:=CF 0 (.ax c n (.own s)) (.slice a jY eo) (by simp [eG]) rfl;have jS:aW U J S' w (.arg pre.length) (.ax c n (.own s)) (.slice a jY eo):=by
      rcases jS with h | ⟨_,_,h⟩
      ·simp [I.plain] at h
      ·exact h
     have nJ:∀ {u:I} {v:Value},Rel J S w u v→Rel J S' w u v:=fun h=>h.mono (Ext.refl J) fun b o ai=>⟨aJ b o ai,rfl⟩;obtain ⟨i0,db,hi',d',fg⟩:=ht (J:=J) (S:=S') (w:=w) bk
     obtain ⟨yc,cb,a'⟩:=ku (J:=J) (S:=S') (w:=w) pre lf z eQ db.cells jV.symm (fun j x y ak aZ=>by
      have jL:=(sv.1 ak).1
      exact ⟨h_ x (sZ ak),nJ (b1 j x y (by rw [sQ jL];exact ak) (by rw [fL,sQ (by omega)];exact aZ)).1⟩) CV fg
     have DG:yc.size=eQ.length:=by have:=a'.len;simpa using this.symm
     have B7:c3 J S' w (eQ.set off .junk) (yc.setIfInBounds off (.slice a jY eo)).toList:=⟨by simp [DG],fun j u v hu ae=>by
      rw [List.getElem?_set] at hu;rw [vh,Array.getElem?_setIfInBounds] at ae;by_cases e:off=j
      ·subst e;rw [if_pos rfl,if_pos aS] at hu;rw [if_pos rfl,if_pos (by omega)] at ae;cases hu;cases ae;exact ⟨rfl,rfl,.junk _⟩
      ·rw [if_neg e] at hu;rw [if_neg e] at ae
       exact a'.rel j u v hu (by simpa using ae)⟩
     obtain ⟨eZ,b6,bb⟩:=ku (J:=J) (S:=S') (w:=w) post z8 (eQ.set off .junk) ef (yc.setIfInBounds off (.slice a jY eo)) za.symm (fun j x y ak aZ=>by
      exact ⟨kJ x (sZ ak),nJ (b1 (pre.length+1+j) x y (by rw [s_ (by omega),show pre.length+1+j-pre.length=j+1 by omega,uU];exact ak)
       (by rw [fL,s_ (by omega),show pre.length+1+j-lf.length=j+1 by omega,uU];exact aZ)).1⟩) pw B7
     have jM:eZ[off]?=some (.slice a jY eo):=by
      rw [yJ z8 _ eZ (fun x ak=>by
       have:x.1∈post.map (·.1):=by rw [←za];exact List.mem_map_of_mem ak
       obtain ⟨q,a0,e⟩:=sM.1 this;have a0:=pT q a0;rw [e] at a0;split at a0
       ·rename_i o aF he;exact ⟨o,aF,he,of_decide_eq_true a0⟩
       ·cases a0) b6,Array.getElem?_setIfInBounds,if_pos rfl,if_pos (by omega)]
     (have G3:eZ.size=ef.length:=by have:=bb.len;simpa using this.symm);have G0:off<eZ.size:=(tt.1 jM).1;have py:Instr.fill (fun (i:Nat)=>(bm[i]?).bind fun f:Field=>(bD P f.type).map fun s=>(f.offset,s)) db.cells parts'.toList=some eZ:=by
      rw [fL,yI,cb,sx];simp only [Instr.fill,g8];rw [if_neg (by simp [Value.cells];omega)];simpa [Value.cells] using b6
     have l7:∀ f∈bm.toList,∃ s,bD P f.type=some s:=fun f aP=>by
      have:=sR.1 cU f aP;exact tR.1 this
     have hm:=x2 (P:=P) (fun f:Field=>Prod.mk f.offset <$> sizeOf f.type) (fun f:Field=>(f.offset,(bD P f.type).getD 0)) bm.toList (fun f aP w=>by
      obtain ⟨s,ai⟩:=l7 f aP;simp [run_sizeOf ai,ai]) w
     have Dm:(fun (i:Nat)=>(bm.map (fun f:Field=>(f.offset,(bD P f.type).getD 0)))[i]?)=(fun (i:Nat)=>(bm[i]?).bind fun f:Field=>(bD P f.type).map fun s=>(f.offset,s)):=by
      funext i;rw [ve];cases px:bm[i]? with
      | none=>rfl
      | some f =>
        obtain ⟨s,ai⟩:=l7 f (by simpa using vu px);simp [ai]
     refine ⟨.agg eZ,?_,?_⟩
     ·rw [←Dm] at py;simp only [ve] at py;simp [Instr.build,jb hi' d',run_underlying a3,wA,hm,py]
     ·(have nQ:(ef.take off).length=off:=by rw [tf];omega);have R:Rel J S' w (.cZ (ef.take off) c n s (ef.drop (off+1))) (.agg eZ):=by
       refine .cZ _ _ _ _ _ eZ (by rw [nQ,uh];omega) (fun u hu=>?_) (fun u hu=>?_) (fun v ae=>?_) (fun j u v hu ae=>?_) (fun v ae=>?_) (fun j u v hu ae=>?_)
       ·obtain ⟨j,aw⟩:=tE.1 hu;rw [tp] at aw;split at aw
        ·have aS:=(sv.1 aw).1;exact (bb.rel j u _ aw (sK (bb.len ▸ aS))).1
        ·cases aw
       ·obtain ⟨j,aw⟩:=tE.1 hu;rw [tr] at aw;have aS:=(sv.1 aw).1;exact (bb.rel _ u _ aw (sK (bb.len ▸ aS))).1
       ·obtain ⟨j,aw⟩:=tE.1 ae;have aS:=(sv.1 aw).1;exact (bb.rel j _ v (sK (by rw [bb.len];exact aS)) aw).2.1
       ·rw [tp] at hu;split at hu
        ·exact (bb.rel j u v hu (by simpa using ae)).2.2
        ·cases hu
       ·rw [nQ,jM] at ae;cases ae;exact nL
       ·rw [nQ] at ae;rw [tr] at hu;exact (bb.rel _ u v hu (by simpa using ae)).2.2
      have O:aW U J S' w (.arg pre.length) (.cZ (ef.take off) c n s (ef.drop (off+1))) (.agg eZ):=by
       show ∀ v,eZ[(ef.take off).length]?=some v→gy U S' w (.arg pre.length) c n s v;intro v ae;rw [nQ,jM] at ae;cases ae;exact gy.of jS
      obtain ⟨az,bV,BI,e1,ca,dx,lV,lW⟩:=hL b_ (l:=.arg pre.length) (by simp) (by simp) R O;exact ⟨az,bV,BI,e1,(bj.settle aJ (fun b o h=>(aQ b o h).imp id fun h=>⟨_,h⟩)).trans ca,dx,lV,lW⟩
    ·simp at h
   ·simp at h
  ·simp at h
 ·simp at h
theorem Bc (ah:aK B U J S w H) {t:TypeId} {len:Nat} {parts:List (Nat×I)} {parts':Array (Nat×Value)} {cs:List I} {s:Nat} (h:iz P t len parts=some (cs,s))
  (hi:parts.map (·.1)=parts'.toList.map (·.1))
  (b1:∀ (j:Nat) (x:Nat×I) (y:Nat×Value),parts[j]?=some x→parts'.toList[j]?=some y→x.2.plain=true∧Rel J S w x.2 y.2) :
  ∃ b w',(Instr.buildSlice t len parts').run P w=.ok (.slice (some ⟨b,0,none⟩) len len) w'∧a1 B U J S w H (.ax cs len (.uniq s)) (.slice (some ⟨b,0,none⟩) len len) w':=by
 unfold iz at h;split at h
 ·rename_i e a3;split at h
  ·rename_i aF z ai bk;split at h
   ·rename_i al;obtain ⟨ad,af,aG⟩:=al;simp only [su,Prod.mk.injEq] at h;obtain ⟨c8,aP,rfl,rfl⟩:=h;obtain ⟨i,db,hi',d',fg⟩:=ht (J:=J) (S:=S) (w:=w) bk;have fN:=m' fg (by omega) len;(have kQ:z.length=db.cells.size:=by simpa using fg.len);obtain ⟨cV,q1,aX⟩:=ku parts parts'.toList (e8 len z) c8 ((Array.range (len*z.length)).map (fun i=>db.cells[i % db.cells.size]!)) hi b1 aP fN;have pz:∀ (place:Nat→Option (Nat×Nat)) (parts:List (Nat×I)) (a b:List I),fC place a parts=some b→b.length=a.length:=by
     intro place parts
     induction parts with
     | nil=>intro a b h;simp [fC] at h;rw [h]
     | cons x parts a_ =>
       intro a b h;obtain ⟨i,u⟩:=x;simp only [fC] at h;split at h
       ·split at h
        ·split at h
         ·rw [a_ _ _ h,ln]
         ·simp at h
        ·simp at h
       ·simp at h
    have cB:c8.length=len*aF:=by rw [pz _ _ _ _ aP,ik,af]
    have iP:=n7 ah aX [] e len len aF ad cB (sB _) (by
     have:len≤len*aF:=Nat.le_mul_of_pos_right _ ad
     simp only [maxLen];omega) (by rw [←aX.len,cB];simp)
    refine ⟨_,_,?_,iP⟩;simp only [sW,uT];rw [af] at q1;(have l8:¬ (16777216<len*aF):=by omega);by_cases aV:len*aF=0
    ·obtain rfl:len=0:=by
      rcases Nat.mul_eq_zero.1 aV with h | h
      ·exact h
      ·omega
     (have EJ:Instr.fill (fun i=>some (i*aF,aF)) #[] parts'.toList=some cV:=by simpa [show Array.range 0=#[] from rfl] using q1);simp [Instr.buildSlice,run_underlying a3,run_sizeOf ai,show Array.range 0=#[] from rfl,EJ,newRow,newObj,Sem.run,World.alloc_eq]
    ·simp [Instr.buildSlice,run_underlying a3,run_sizeOf ai,aV,l8,jb hi' d',q1,newRow,newObj,Sem.run,World.alloc_eq]
   ·simp at h
  ·simp at h
 ·simp at h
end
end Go.Proofs.YtfakoboiahbhaaaGreat.Ab


namespace Go.Proofs.YtfakoboiahbhaaaGreat.Ab
open Go
section
variable {P:Program} {B:Nat} {J:List Nat} {w:World} {H:List ar} {U:Nat→Option aH} {S:Nat→Nat→Prop}
def eD (P:Program) (aU:Operand→Value) (o:Oper) (w:World) (R:Value→World→Prop):Prop :=
 (∃ v w',(Go.execOp aU o).run P w=.ok (.value v) w'∧R v w')∨(∃ w',(Go.execOp aU o).run P w=.ok .skip w'∧R undef w')
theorem eD.makes {aU:Operand→Value} {o:Oper} {r:I} (ah:aK B U J S w H) (h:fa P o aU J S w r) (aB:r.plain=true):eD P aU o w (a1 B U J S w H r):=by
 obtain ⟨v,ad,af⟩:=h;exact .inl ⟨v,w,ad,a1.same ah af aB⟩
theorem a9.one {bB:Nat→aH} {us:List I} {aU:Operand→Value} {x:Operand} (h:a9 bB U J S w us ([x].map aU)):∃ u,us=[u]∧Rel J S w u (aU x)∧aW U J S w (bB 0) u (aU x):=by
 match us,h with
 | [u],h=>exact ⟨u,rfl,h.rel 0 u _ rfl rfl,h.own 0 u _ rfl rfl⟩
 | [],h=>exact absurd h.len (by simp)
 | _::_::_,h=>exact absurd h.len (by simp)
theorem a9.two {bB:Nat→aH} {us:List I} {aU:Operand→Value} {x y:Operand} (h:a9 bB U J S w us ([x,y].map aU)) :
  ∃ u v,us=[u,v]∧Rel J S w u (aU x)∧aW U J S w (bB 0) u (aU x)∧Rel J S w v (aU y)∧aW U J S w (bB 1) v (aU y):=by
 match us,h with
 | [u,v],h=>exact ⟨u,v,rfl,h.rel 0 u _ rfl rfl,h.own 0 u _ rfl rfl,h.rel 1 v _ rfl rfl,h.own 1 v _ rfl rfl⟩
 | [],h=>exact absurd h.len (by simp)
 | [_],h=>exact absurd h.len (by simp)
 | _::_::_::_,h=>exact absurd h.len (by simp)
theorem BM {op:BinOp} {k:IntKind} {a b:Int} {r:I} (h:jv op k a b=some r):r.plain=true:=by
 cases op <;> simp [jv] at h <;> first | (subst h;rfl) | (obtain ⟨_,rfl⟩:=h;rfl)
theorem BO {op:BinOp} {t:TypeId} {x y r:I} (h:fq P op t x y=some r):r.plain=true:=by
 unfold fq at h;split at h
 ·split at h
  ·unfold hy at h;split at h <;> simp at h;subst h;rfl
  ·unfold hy at h;split at h <;> simp at h;subst h;rfl
  ·split at h
   ·exact BM h
   ·simp at h
 ·split at h <;> simp at h <;> subst h <;> rfl
 ·split at h
  ·split at h
   ·split at h
    ·split at h
     ·simp only [su] at h;obtain ⟨_,_,rfl⟩:=h;rfl
     ·simp only [su] at h;obtain ⟨_,_,rfl⟩:=h;rfl
     ·simp at h
    ·simp at h
   ·simp at h
  ·split at h
   ·split at h
    ·simp only [su] at h;obtain ⟨_,_,rfl⟩:=h;rfl
    ·simp only [su] at h;obtain ⟨_,_,rfl⟩:=h;rfl
    ·simp at h
   ·simp at h
  ·simp at h
 ·simp at h
theorem BQ {t:TypeId} {x y r:I} (h:hY P t x y=some r):r.plain=true:=by
 unfold hY at h;split at h <;> simp only [sE,su,reduceCtorEq] at h <;> (try (obtain ⟨_,_,_,_,rfl⟩:=h;rfl))
theorem BP {t:TypeId} {x r:I} {f:Nat} (h:jw P t x f=some r):r.plain=true:=by
 unfold jw at h;split at h <;> simp only [sE,reduceCtorEq] at h <;> (try (obtain ⟨_,_,_,_,h⟩:=h;split at h <;> simp at h;subst h;rfl))
theorem xz {o:Oper} (h:∀ c,o.op≠.call c):opsOf o=o.op.operands.toList:=by
 unfold opsOf;split
 ·rename_i heq;exact absurd heq (h _)
 ·rename_i heq;exact absurd heq (h _)
 ·rfl
theorem F4 {aU:Operand→Value} (eW:∀ v,aU (.const v)=v) {o:Oper} {us:List I} {r:I} (ah:aK B U J S w H) (h:cx P o us=some r) {mode:Nat} (cY:dK o mode=false)
  (aB:∀ u∈us,u.plain=true) (ae:a9 (fun i=>.arg i) U J S w us ((opsOf o).map aU)):eD P aU o w (a1 B U J S w H r):=by
 cases aD:o.op <;> simp only [cx,aD,reduceCtorEq] at h <;> rw [xz (by simp [aD])] at ae <;> (try (simp [dK,aD] at cY;done))
 case pick c a b =>
  replace ae:a9 (fun i=>.arg i) U J S w us ([c,a,b].map aU):=by simpa [aD,Op.operands] using ae
  unfold xy at h;split at h
  ·rename_i x fA gp;have aT:=ae.rel 0 _ _ rfl rfl;have r2:=ae.rel 1 _ _ rfl rfl;have eL:=ae.rel 2 _ _ rfl rfl;cases x
   ·cases h;exact eD.makes ah (zO aD aT r2 eL) (aB gp (by simp))
   ·cases h;exact eD.makes ah (zO aD aT r2 eL) (aB fA (by simp))
  ·simp at h
 case build t parts =>
  have ae:a9 (fun i=>.arg i) U J S w us ((parts.toList.map (·.2)).map aU):=by simpa [aD,Op.operands] using ae
  have hlen:us.length=parts.toList.length:=by simpa using ae.len
  obtain ⟨v,q1,aX,cy⟩:=FK (J:=J) (S:=S) (w:=w) (parts':=parts.map fun (x:Nat×Operand)=>(x.1,aU x.2)) h (by simp [eO,vT,hlen]) (fun j x y ak aZ=>by
   simp only [eO,vU] at ak;obtain ⟨xd,hb⟩:=ak;simp only [vw,sN,su] at aZ;obtain ⟨p,fL,rfl⟩:=aZ
   exact ⟨aB _ (sZ hb),ae.rel j _ _ hb (by simp only [sN,fL,sD])⟩)
  exact .inl ⟨v,w,by simp [Go.execOp,aD,q1],a1.same ah aX cy⟩
 case buildSlice t len parts =>
  have ae:a9 (fun i=>.arg i) U J S w us ((parts.toList.map (·.2)).map aU):=by simpa [aD,Op.operands] using ae
  have hlen:us.length=parts.toList.length:=by simpa using ae.len
  simp only [su] at h;obtain ⟨⟨cs,s⟩,h,rfl⟩:=h
  obtain ⟨_,w',q1,aX⟩:=Bc (parts':=parts.map fun (x:Nat×Operand)=>(x.1,aU x.2)) ah h (by simp [eO,vT,hlen]) (fun j x y ak aZ=>by
   simp only [eO,vU] at ak;obtain ⟨xd,hb⟩:=ak;simp only [vw,sN,su] at aZ;obtain ⟨p,fL,rfl⟩:=aZ
   exact ⟨aB _ (sZ hb),ae.rel j _ _ hb (by simp only [sN,fL,sD])⟩)
  exact .inl ⟨_,w',by simp [Go.execOp,aD,q1],aX⟩
 case nilCheck x =>
  obtain ⟨u,rfl,aT,_⟩:=a9.one (x:=x) (by simpa [aD,Op.operands] using ae);unfold oa at h;split at h
  ·rename_i id off heq;simp at heq;subst heq;cases h;exact eD.makes ah (Ej aD aT) rfl
  ·rename_i cells heq;simp at heq;subst heq;cases h;exact eD.makes ah (Ek aD aT) rfl
  ·simp at h
 case unOp op t x =>
  obtain ⟨u,rfl,aT,_⟩:=a9.one (x:=x) (by simpa [aD,Op.operands] using ae);simp only [e7] at h;refine eD.makes ah (El aD h aT) ?_;unfold kn at h;split at h <;> (try split at h) <;> simp at h <;> subst h <;> rfl
 case convert s d x =>
  obtain ⟨u,rfl,aT,_⟩:=a9.one (x:=x) (by simpa [aD,Op.operands] using ae);simp only [e7] at h;refine eD.makes ah (Eb aD h aT) ?_;unfold lI at h;split at h
  ·split at h
   ·simp at h;subst h;rfl
   ·simp at h
  ·simp at h
 case makeFunc fn first captured =>
  refine eD.makes ah (Eg aD h (by simpa [aD,Op.operands] using ae) aB) ?_;unfold mU at h;split at h
  ·split at h <;> simp at h;subst h;rfl
  ·simp at h
 case fieldAddr t x f =>
  obtain ⟨u,rfl,aT,_⟩:=a9.one (x:=x) (by simpa [aD,Op.operands] using ae);simp only [e7] at h;exact eD.makes ah (Ef aD h aT) (BP h)
 case field t x f =>
  obtain ⟨u,rfl,aT,_⟩:=a9.one (x:=x) (by simpa [aD,Op.operands] using ae);simp only [e7,su] at h;obtain ⟨r',h,rfl⟩:=h;exact eD.makes ah (Ee aD h aT) (I.dj _)
 case extract x i =>
  obtain ⟨u,rfl,aT,_⟩:=a9.one (x:=x) (by simpa [aD,Op.operands] using ae);simp only [e7,su] at h;obtain ⟨r',h,rfl⟩:=h;exact eD.makes ah (Ed aD h aT) (I.dj _)
 case indexAddr t x i =>
  obtain ⟨u,v,rfl,aT,_,r2,_⟩:=a9.two (x:=x) (y:=i) (by simpa [aD,Op.operands] using ae);simp only [gj] at h;exact eD.makes ah (Ei aD h aT r2 (I.fx (aB u (by simp)))) (BQ h)
 case index t x i =>
  obtain ⟨u,v,rfl,aT,_,r2,_⟩:=a9.two (x:=x) (y:=i) (by simpa [aD,Op.operands] using ae);simp only [gj,su] at h;obtain ⟨r',h,rfl⟩:=h;exact eD.makes ah (Eh aD h aT r2) (I.dj _)
 case binOp op t x y iu =>
  obtain ⟨u,v,rfl,aT,_,r2,_⟩:=a9.two (x:=x) (y:=y) (by simpa [aD,Op.operands] using ae);split at h
  ·rename_i Dk;refine eD.makes ah (Ec aD Dk h aT eW) ?_;unfold ng at h;dsimp only at h;repeat' split at h
   all_goals first | (simp at h;done) | (simp at h;subst h;rfl)
  ·simp only [gj] at h;refine eD.makes ah ?_ (BO h);cases u <;> cases v <;> (try (simp [fq] at h;done))
   ·exact D' aD h aT r2
   ·exact Ea aD h aT r2
   ·exact D_ aD h aT r2
theorem ES {cells:List I} {len:Nat} {a:Option Addr} (h:Rel J S w (.ax cells len .shared) (.slice a len len)):Rel J S w (.ax cells len .full) (.slice a len len):=by
 cases h with
 | b2 _ a=>exact .b2 _ _
 | ax _ _ _ b o cap f al hle hu bx b1=>exact .ax _ _ _ b o len f (fun _=>rfl) hle (fun z h=>by cases h) bx b1
theorem FM {aU:Operand→Value} (eW:∀ v,aU (.const v)=v) {o:Oper} {us:List I} {t:TypeId} {len:Nat} {parts:Array (Nat×Operand)} {cs:List I} {s:Nat} (ah:aK B U J S w H) (aD:o.op=.buildSlice t len parts)
  (h:iz P t len (eO parts.toList us)=some (cs,s)) (aB:∀ u∈us,u.plain=true) (ae:a9 (fun i=>.arg i) U J S w us ((opsOf o).map aU)) :
  ∃ v w',(Go.execOp aU o).run P w=.ok (.value v) w'∧a1 B U J S w H (.ax cs len .full) v w':=by
 rw [xz (by simp [aD])] at ae;have ae:a9 (fun i=>.arg i) U J S w us ((parts.toList.map (·.2)).map aU):=by simpa [aD,Op.operands] using ae
 have hlen:us.length=parts.toList.length:=by simpa using ae.len
 obtain ⟨b,w',q1,az,bV,S',bS,bZ,ed,fR,mV⟩:=Bc (parts':=parts.map fun (x:Nat×Operand)=>(x.1,aU x.2)) ah h (by simp [eO,vT,hlen]) (fun j x y ak aZ=>by
  simp only [eO,vU] at ak;obtain ⟨xd,hb⟩:=ak;simp only [vw,sN,su] at aZ;obtain ⟨p,fL,rfl⟩:=aZ
  exact ⟨aB _ (sZ hb),ae.rel j _ _ hb (by simp only [sN,fL,sD])⟩)
 obtain ⟨a8,aJ,aQ,cp,aT,_,_⟩:=kc ed fR mV
 exact ⟨_,w',by simp [Go.execOp,aD,q1],az,bV,a8,bS,bZ.trans (bj.settle aJ fun b o h=>(aQ b o h).imp id fun h=>⟨_,h⟩),
  ed.settle aJ (fun b o h=>(aQ b o h).imp id fun h=>⟨_,h,by simp,by simp⟩) cp,ES aT,aW.b4 rfl⟩
end
end Go.Proofs.YtfakoboiahbhaaaGreat.Ab


namespace Go.Proofs.YtfakoboiahbhaaaGreat.Ab
open Go
section
variable {P:Program} {B:Nat} {J:List Nat} {w:World} {H:List ar} {U:Nat→Option aH} {S:Nat→Nat→Prop}
theorem oc {b au o:Nat} {x:Obj} (h:au≠b):(w.putObj b x).cell? ⟨au,o,none⟩=w.cell? ⟨au,o,none⟩:=by
 unfold World.cell?;simp only [World.putObj_heap_other h]
theorem n3 (ah:aK B U J S w H) {id:Nat} {es es':List (Nat×I×I)} {clock clock':Nat} (aE:H[id]?=some (.map es clock)) {b:Nat} {ents':Array MapEntry}
  (aC:J[id]?=some b) (aI:U b=some (.obj id)) (bd:∀ o,¬ S b o) (ao:ents'.size=es'.length)
  (aj:∀ (j i:Nat) (k v:I) (x:MapEntry),es'[j]?=some (i,k,v)→ents'[j]?=some x→x.born=i∧k.plain=true∧Rel J S w k x.key∧v.plain=true∧Rel J S w v x.val) :
  bj U S w U S (w.putObj b (.map ents' clock'))∧aK B U J S (w.putObj b (.map ents' clock')) (H.set id (.map es' clock')):=by
 have hB:∀ au o,S au o→au≠b:=fun au o ai e=>bd o (e ▸ ai);have ag:=(ah.base b _ aI).2;have aA:bj U S w U S (w.putObj b (.map ents' clock')) :=
  ⟨rfl,rfl,rfl,by simp,fun au _ aN=>World.putObj_heap_other (fun e=>by subst e;rw [aI] at aN;cases aN),fun au o ai=>⟨ai,oc (hB au o ai)⟩,fun au o ai=>.inl ai,fun au h=>.inl h⟩
 refine ⟨aA,by simpa using ah.cE,fun bA o aq=>?_,fun au o ai=>?_,fun au l h=>by simpa using ah.base au l h,by simpa using ah.cW⟩
 ·by_cases g4:bA=id
  ·subst g4;rw [sI (sv.1 aE).1] at aq;cases aq;refine ⟨b,ents',aC,aI,World.putObj_heap_same ag,ao,bd,fun j i k v x hu ak=>?_⟩;obtain ⟨a',bb,bt,b9,dY⟩:=aj j i k v x hu ak;exact ⟨a',bb,bt.mono (Ext.refl J) aA.set,b9,dY.mono (Ext.refl J) aA.set⟩
  ·rw [sJ (fun e=>g4 e.symm)] at aq;refine (ah.obj bA o aq).frame (Ext.refl J) aA.set fun au cu bu jN=>?_;have bO:au≠b:=fun e=>by
    subst e;rw [aI] at bu;cases bu;rcases jN with h | ⟨j,h⟩
    ·cases h;exact g4 rfl
    ·cases h
   exact ⟨bu,World.putObj_heap_other bO,fun o ai=>ai⟩
 ·obtain ⟨v,ae⟩:=ah.cd au o ai;exact ⟨v,(oc (hB au o ai)).trans ae⟩
theorem yD:∀ {xs ys:List I},dM xs ys=some true→xs=ys∧∀ u∈xs,∃ k a,u=.int k a
 | [],[],_=>⟨rfl,by simp⟩
 | x::xs,y::ys,h=>by
   obtain ⟨k,a,b,cX,rfl,rfl,aY,he⟩:=nv h;have he:=he.symm;simp only [sO,beq_iff_eq] at he;obtain ⟨rfl,rfl⟩:=he;obtain ⟨rfl,af⟩:=yD aY
   exact ⟨rfl,fun u hu=>by
    rcases sL.1 hu with rfl | hu
    ·exact ⟨_,_,rfl⟩
    ·exact af u hu⟩
 | [],y::ys,h=>by simp [dM] at h
 | x::xs,[],h=>by cases x <;> simp [dM] at h
theorem A4 (n:Nat):∀ (l:List Value),(∀ v∈l,∃ k a,v=.int k a)→((l.zip l).all fun (x:Value×Value)=>Instr.sameBits n x.1 x.2)=true
 | [],_=>rfl
 | v::l,h=>by
   obtain ⟨k,a,rfl⟩:=h v (by simp);have a_:=A4 n l fun v ae=>h v (by simp [ae]);(have aV:Instr.sameBits n (.int k a) (.int k a)=true:=by cases n <;> simp [Instr.sameBits]);simp only [List.zip_cons_cons,List.all_cons,aV,Bool.true_and];exact a_
theorem ET {xs:List I} {V W:Array Value} (hi:∀ u∈xs,∃ k a,u=.int k a) (aT:Rel J S w (.agg xs) (.agg V)) (r2:Rel J S w (.agg xs) (.agg W)):V=W∧∀ v∈V.toList,∃ k a,v=.int k a:=by
 cases aT with
 | agg _ _ dL _ _ q1 =>
   cases r2 with
   | agg _ _ kV _ _ aX =>
     have key:∀ j (h:j<xs.length),∃ k a,V[j]?=some (.int k a)∧W[j]?=some (.int k a):=fun j h=>by
      obtain ⟨k,a,av⟩:=hi xs[j] (List.getElem_mem h);(have ak:xs[j]?=some (.int k a):=by rw [sK h,av]);have ae:=q1 j _ V[j] ak (sS (by omega));have hw:=aX j _ W[j] ak (sS (by omega));exact ⟨k,a,by rw [sS (by omega),ae.de],by rw [sS (by omega),hw.de]⟩
     refine ⟨Array.ext_getElem? fun j=>?_,fun v ae=>?_⟩
     ·rcases tq j xs.length with h | h
      ·obtain ⟨k,a,ad,af⟩:=key j h;rw [ad,af]
      ·rw [wC (by omega),wC (by omega)]
     ·obtain ⟨j,aw⟩:=tE.1 ae;(have aS:j<xs.length:=by have:=(sv.1 aw).1;simp at this;omega);obtain ⟨k,a,ad,_⟩:=key j aS;rw [vh,ad] at aw;cases aw;exact ⟨k,a,rfl⟩
theorem DQ {k k':I} {x y:Value} (h:gE k k'=some true) (aT:Rel J S w k x) (r2:Rel J S w k' y):(Instr.keyThatStays y x).run P w=.ok x w:=by
 have ag:Instr.sameBits 10000 y x=true:=by
  unfold gE at h;split at h
  ·split at h
   ·rename_i q a fT b a0;subst a0;simp at h;subst h;rw [aT.de,r2.de];simp [Instr.sameBits]
   ·simp at h
  ·obtain ⟨rfl,hi⟩:=yD h;(have e1:∃ V,x=.agg V:=by cases aT with | agg as vs=>exact ⟨_,rfl⟩);(have ca:∃ V,y=.agg V:=by cases r2 with | agg as vs=>exact ⟨_,rfl⟩);obtain ⟨V,rfl⟩:=e1;obtain ⟨W,rfl⟩:=ca;obtain ⟨rfl,cU⟩:=ET hi aT r2;have:=A4 9999 V.toList cU;rw [show (10000:Nat)=9999+1 from rfl,Instr.sameBits];simpa using this
  ·simp at h
 simp [Instr.keyThatStays,ag]
theorem zw {t:TypeId} (h:kU P t=true):(∃ k,P.underlying t=some (.int k))∨∃ bm,P.underlying t=some (.struct bm)∧gL P bm.toList 0=true∧P.stoodInHeld t=false:=by
 unfold kU at h;split at h
 ·exact .inl ⟨_,by assumption⟩
 ·rename_i bm CY;simp at h;exact .inr ⟨bm,CY,h.1,h.2⟩
 ·simp at h
theorem AW (em:Bool) (d:Nat) (V:Array Value):∀ (bm:List Field) (off:Nat),gL P bm off=true→off+bm.length≤V.size →
  (forIn bm PUnit.unit (fun f (_ : PUnit) => if f.name = "_" then pure (ForInStep.yield PUnit.unit) else (do
    let a ←part f.type V f.offset
    (fun _=>ForInStep.yield PUnit.unit) <$> Instr.checkKey em (d+1) f.type a:Sem (ForInStep PUnit)))).run P w=.ok PUnit.unit w
 | [],off,_,_=>by simp
 | f::bm,off,h,ao=>by
   obtain ⟨f1,f2,⟨df,f3⟩,f4,f5,f6⟩:=zp h;simp only [sV] at ao;have jE:V[off]?=some V[off]:=sS (by omega);(have q1:(part f.type V f.offset).run P w=.ok V[off] w:=by simp only [part,Sem.run_bind,gR f3,f5,Result.andThen_ok,f1,jE,if_false,ua];rfl);(have aX:(Instr.checkKey em (d+1) f.type V[off]).run P w=.ok () w:=by unfold Instr.checkKey;simp [run_underlying f3]);have a_:=AW em d V bm (off+1) f6 (by omega);simp only [List.forIn_cons,f2,if_false,Sem.run_bind,q1,Result.andThen_ok];simpa [aX] using a_
theorem xZ {t:TypeId} {k:I} {x:Value} (h:kU P t=true) (av:isKey P t k=true) (aj:Rel J S w k x) (em:Bool):(Instr.checkKey em 10000 t x).run P w=.ok () w:=by
 rcases zw h with ⟨q,a0⟩ | ⟨bm,aP,hi,_⟩
 ·unfold Instr.checkKey;simp [run_underlying a0]
 ·unfold isKey at av;simp only [aP] at av;split at av
  ·rename_i aY;cases aY
  ·rename_i Cq cs aY;cases aY;simp at av;cases aj with
   | agg _ V ao _ _ _ =>
     rw [show (10000:Nat)=9998+2 from rfl,Instr.checkKey];have:=AW (P:=P) (w:=w) em 9998 V bm.toList 0 hi (by simp;omega);rw [Array.forIn_toList] at this;simpa [run_underlying aP] using this
  ·simp at av
theorem AX {t:TypeId} {bm:Array Field} (ay:P.underlying t=some (.struct bm)) (aP:gL P bm.toList 0=true) (h':P.stoodInHeld t=false) {k k':I} {x y:Value} {e:Bool} (av:isKey P t k=true) (h:gE k k'=some e)
  (aT:Rel J S w k x) (r2:Rel J S w k' y):(Op.equal t x y).run P w=.ok e w:=by
 unfold isKey at av;simp only [ay] at av;split at av
 ·rename_i aY;cases aY
 ·rename_i Cq cs aY;cases aY;simp at av;cases k' with
  | agg ds =>
    simp only [gE] at h;(have e1:∃ V,x=.agg V:=by cases aT with | agg as vs=>exact ⟨_,rfl⟩);(have ca:∃ V,y=.agg V:=by cases r2 with | agg as vs=>exact ⟨_,rfl⟩);obtain ⟨V,rfl⟩:=e1;obtain ⟨W,rfl⟩:=ca;have ao:∀ (xs ys:List I) (e:Bool),dM xs ys=some e→ys.length=xs.length:=by
     intro xs
     induction xs with
     | nil=>intro ys e h;cases ys <;> simp [dM] at h;rfl
     | cons x xs a_ =>
       intro ys e h;cases ys with
       | nil=>cases x <;> simp [dM] at h
       | cons y ys=>obtain ⟨_,_,_,cX,rfl,rfl,aY,_⟩:=nv h;simp [a_ ys cX aY]
    exact run_equalIn_struct 9998 ay aP h' av ((ao _ _ _ h).trans av) h aT r2
  | _=>simp [gE] at h
 ·simp at av
def gv (J:List Nat) (S:Nat→Nat→Prop) (w:World) (es:List (Nat×I×I)) (bz:List MapEntry):Prop :=
 bz.length=es.length∧∀ (j i:Nat) (k v:I) (x:MapEntry),es[j]?=some (i,k,v)→bz[j]?=some x→x.born=i∧k.plain=true∧Rel J S w k x.key∧v.plain=true∧Rel J S w v x.val
theorem gv.cons {e:Nat×I×I} {es:List (Nat×I×I)} {bz:List MapEntry} (h:gv J S w (e::es) bz):∃ x r,bz=x::r∧x.born=e.1∧Rel J S w e.2.1 x.key∧Rel J S w e.2.2 x.val∧gv J S w es r:=by
 cases bz with
 | nil=>simp [gv] at h
 | cons x r =>
   obtain ⟨ad,_,af,_,aG⟩:=h.2 0 e.1 e.2.1 e.2.2 x rfl rfl;exact ⟨x,r,rfl,ad,af,aG,by simpa using h.1,fun j i k v y hu aZ=>h.2 (j+1) i k v y (by simpa using hu) (by simpa using aZ)⟩
def hU (k:I) (es:List (Nat×I×I)) (bz:List MapEntry) (i:Nat):Option Nat→Option (Nat×Value)→Prop
 | none,r=>r=none
 | some n,r=>∃ e x,i≤n∧es[n-i]?=some e∧bz[n-i]?=some x∧r=some (n,x.val)∧gE k e.2.1=some true
theorem hU.step {k:I} {e:Nat×I×I} {es:List (Nat×I×I)} {x:MapEntry} {bz:List MapEntry} {i:Nat} {r:Option Nat} {res:Option (Nat×Value)} (h:hU k es bz (i+1) r res):hU k (e::es) (x::bz) i r res:=by
 cases r with
 | none=>exact h
 | some n =>
   obtain ⟨cX,oI,ad,af,aG,a6,bM⟩:=h;obtain ⟨m,hm⟩:∃ m,n-i=m+1:=⟨n-(i+1),by omega⟩;(have nI:n-(i+1)=m:=by omega);rw [nI] at af aG;exact ⟨cX,oI,by omega,by rw [hm];simpa using af,by rw [hm];simpa using aG,a6,bM⟩
theorem yM {q q0:IntKind} {n:Int}:∀ (es:List (Nat×I×I)) (bz:List MapEntry) (i:Nat) (r:Option Nat),fG (.int q n) es i=some r→gv J S w es bz →
  ∃ res,Instr.findNow (.int q0) (.int q n) bz i=some res∧hU (.int q n) es bz i r res
 | [],bz,i,r,h,aj=>by
   have:bz=[]:=tu.1 (by simpa using aj.1)
   subst this;simp [fG] at h;subst h;exact ⟨none,rfl,rfl⟩
 | (b,k',v)::es,bz,i,r,h,aj=>by
   obtain ⟨x,ents',rfl,ad,af,aG,a6⟩:=aj.cons;simp only [fG] at h;split at h
   ·rename_i he;cases h;cases k' with
    | int fT m =>
      simp only [gE] at he;split at he
      ·rename_i a0;subst a0;simp at he;subst he;simp only at af;rw [Instr.findNow,af.de];exact ⟨some (i,x.val),by simp [Instr.sameNow],_,x,sB _,by simp;rfl,by simp,rfl,by simp [gE]⟩
      ·simp at he
    | _=>simp [gE] at he
   ·rename_i he;cases k' with
    | int fT m =>
      simp only [gE] at he;split at he
      ·rename_i a0;subst a0;simp at he;simp only at af;obtain ⟨res,cb,b6⟩:=yM es ents' (i+1) r h a6;rw [Instr.findNow,af.de];(have Dj:(n == m)=false:=by simpa using he);exact ⟨res,by simp only [Instr.sameNow,if_true,Dj];exact cb,b6.step⟩
      ·simp at he
    | _=>simp [gE] at he
   ·simp at h
theorem yK {t:TypeId} {bm:Array Field} (ay:P.underlying t=some (.struct bm)) (aP:gL P bm.toList 0=true) (h':P.stoodInHeld t=false) {k:I} {x:Value} (av:isKey P t k=true) (aT:Rel J S w k x) :
  ∀ (es:List (Nat×I×I)) (bz:List MapEntry) (i:Nat) (r:Option Nat),fG k es i=some r→gv J S w es bz →
  ∃ res,(Instr.findAsking t x bz i).run P w=.ok res w∧hU k es bz i r res
 | [],bz,i,r,h,aj=>by
   have:bz=[]:=tu.1 (by simpa using aj.1)
   subst this;simp [fG] at h;subst h;exact ⟨none,rfl,rfl⟩
 | (b,k',v)::es,bz,i,r,h,aj=>by
   obtain ⟨y,ents',rfl,ad,af,aG,a6⟩:=aj.cons;simp only [fG] at h;split at h
   ·rename_i he;cases h;have q:=AX (P:=P) ay aP h' av he aT af;exact ⟨some (i,y.val),by simp [Instr.findAsking,q],_,y,sB _,by simp;rfl,by simp,rfl,he⟩
   ·rename_i he;have q:=AX (P:=P) ay aP h' av he aT af;obtain ⟨res,cb,b6⟩:=yK ay aP h' av aT es ents' (i+1) r h a6;exact ⟨res,by simp [Instr.findAsking,q,cb],b6.step⟩
   ·simp at h
theorem m4 {t:TypeId} {k:I} {x:Value} (h:kU P t=true) (av:isKey P t k=true) (aj:Rel J S w k x) {es:List (Nat×I×I)} {bz:List MapEntry} {r:Option Nat} (aP:fG k es 0=some r) (he:gv J S w es bz) :
  ∃ res,(Instr.findKey t x bz).run P w=.ok res w∧hU k es bz 0 r res:=by
 rcases zw h with ⟨q,a0⟩ | ⟨bm,ai,hi,cC⟩
 ·unfold isKey at av;simp only [a0] at av;split at av
  ·rename_i q1 aX n aY;obtain ⟨res,cb,b6⟩:=yM (q0:=q) es bz 0 r aP he;rw [aj.de];exact ⟨res,by simp [Instr.findKey,run_underlying a0,cb],b6⟩
  ·rename_i aY;cases aY
  ·simp at av
 ·obtain ⟨res,cb,b6⟩:=yK ai hi cC av aj es bz 0 r aP he;have cf:∃ V,x=.agg V:=by
   unfold isKey at av;simp only [ai] at av;split at av
   ·rename_i aY;cases aY
   ·cases aj with | agg as vs=>exact ⟨_,rfl⟩
   ·simp at av
  obtain ⟨V,rfl⟩:=cf;cases bz with
  | nil =>
    refine ⟨res,?_,b6⟩;simp [Instr.findAsking] at cb;subst cb;simp [Instr.findKey,run_underlying ai,Instr.findNow]
  | cons y ys =>
    refine ⟨res,?_,b6⟩
    have:Instr.findNow (.struct bm) (.agg V) (y::ys) 0=none:=by simp [Instr.findNow,Instr.sameNow]
    simp [Instr.findKey,run_underlying ai,this,cb]
theorem yY (w:World) (o:Obj):(w.alloc o).heap[w.heap.size]?=some o:=by
 have e:(w.alloc o).heap=w.heap.push o:=rfl;rw [e];simp
theorem ja {b:Nat} {bz:Array MapEntry} {clock:Nat} (h:w.heap[b]?=some (.map bz clock)):(getObj b).run P w=.ok (.map bz clock) w:=by simp [getObj,Sem.run,h]
theorem oy {b:Nat} {o:Obj} {bz:Array MapEntry} {clock:Nat} (h:w.heap[b]?=some (.map bz clock)):(setObj b o).run P w=.ok () (w.putObj b o):=by simp [setObj,Sem.run,h,World.putObj]
theorem Ep (ah:aK B U J S w H):aK B (lay U w.heap.size (.obj H.length)) (J++[w.heap.size]) S (w.alloc (.map #[] 0)) (H++[.map [] 0]) :=
 (nN ah (.map #[] 0) (.obj H.length)).push w.heap.size ⟨w.heap.size,#[],Ext.last ah _,by simp [lay],yY w _,rfl,mQ ah,by simp⟩
theorem FX (ah:aK B U J S w H) {t:TypeId} {r:Option Operand} {u:I} {H':List ar} (h:k6 P t r H=some (u,H')) :
  ∃ x w',(Instr.makeMap t (none:Option Value)).run P w=.ok x w'∧r=none∧a1 B U J S w H' u x w':=by
 unfold k6 at h;split at h
 ·cases h;exact ⟨_,_,by simp only [Instr.makeMap,Sem.run_bind,Sem.run_pure,run_newObj_alloc,Result.andThen_ok],rfl,_,_,S,Ext.append J _,ks ah _ _,Ep ah,.map _ _ (Ext.last ah _),aW.b4 rfl⟩
 ·simp at h
theorem xu {t ea iD:TypeId} (h:j1 P t=some (ea,iD)):P.underlying t=some (.map ea iD)∧kU P ea=true:=by
 unfold j1 at h;split at h
 ·split at h
  ·cases h;exact ⟨by assumption,by assumption⟩
  ·cases h
 ·cases h
theorem F0 (ah:aK B U J S w H) {lo:Nat} {t:TypeId} {m k v u:I} {H':List ar} {x y z:Value} (h:iY P lo t H [m,k,v]=some (u,H'))
  (e9:Rel J S w m x) (bN:Rel J S w k y) (z7:k.plain=true) (oz:Rel J S w v z) (Ag:v.plain=true) (c:Value) :
  ∃ w',(Instr.mapUpdate t x y z).run P w=.ok () w'∧a1 B U J S w H' u c w':=by
 unfold iY at h;split at h
 ·rename_i id k' bn heq;cases heq;split at h
  ·rename_i ea iD ay;obtain ⟨ay,av⟩:=xu ay;split at h
   ·rename_i hF;split at h
    ·split at h
     ·rename_i es clock aE;obtain ⟨b,bz,aC,aI,aR,bl,bd,bg⟩:=ah.obj _ _ aE;cases e9 with
      | map _ au e4 =>
        rw [aC] at e4;cases e4;have he:gv J S w es bz.toList:=⟨by simpa using bl,fun j i k v x hu ak=>bg j i k v x hu (by simpa using ak)⟩;have hE:=xZ (P:=P) av hF bN false;split at h
        ·rename_i n aP;cases h;obtain ⟨res,cb,e,x,_,b6,er,rfl,iF⟩:=m4 (P:=P) av hF bN aP he;simp only [wD,vh] at b6 er;obtain ⟨o3,o4,dy⟩:=e;obtain ⟨a',bb,bt,b9,dY⟩:=bg n o3 o4 dy x b6 er;have cC:=DQ (P:=P) iF bN bt;obtain ⟨aA,b_⟩:=n3 ah aE (es':=es.modify n fun e=>(e.1,k,v)) (clock':=clock) (ents':=bz.modify n fun e=>{ e with key:=y,val:=z }) aC aI bd (by simp [bl]) fun j i df v0 jl hu ak=>by
          rw [List.getElem?_modify] at hu;rw [Array.getElem?_modify] at ak;by_cases aw:n=j
          ·subst aw;simp only [b6,er,if_true,sD,Option.map_eq_map,Option.some.injEq,Prod.mk.injEq] at hu ak;obtain ⟨rfl,rfl,rfl⟩:=hu;subst ak;exact ⟨a',z7,bN,Ag,oz⟩
          ·simp only [aw,if_false,id_map'] at hu ak;exact bg j i df v0 jl (by simpa using hu) (by simpa using ak)
         refine ⟨_,?_,U,J,S,Ext.refl J,aA,b_,.junk _,aW.b4 rfl⟩;simp only [Instr.mapUpdate,Sem.run_bind,run_underlying ay,Result.andThen_ok,ja aR,hE,cb,er,sD,vb,cC,oy aR]
        ·rename_i aP;cases h;obtain ⟨res,cb,b6⟩:=m4 (P:=P) av hF bN aP he;simp only [hU] at b6;subst b6;obtain ⟨aA,b_⟩:=n3 ah aE (es':=es++[(clock,k,v)]) (clock':=clock+1) (ents':=bz.push { key:=y,val:=z,born:=clock }) aC aI bd (by simp [bl]) fun j i df v0 jl hu ak=>by
          rw [Array.getElem?_push] at ak;split at ak
          ·rename_i aw;rw [aw,bl,s_ (sB _)] at hu;simp at hu ak;obtain ⟨rfl,rfl,rfl⟩:=hu;subst ak;exact ⟨rfl,z7,bN,Ag,oz⟩
          ·rename_i aw;have aS:j<bz.size:=(tt.1 ak).1;rw [sQ (by omega)] at hu;exact bg j i df v0 jl hu ak
         refine ⟨_,?_,U,J,S,Ext.refl J,aA,b_,.junk _,aW.b4 rfl⟩;simp only [Instr.mapUpdate,Sem.run_bind,run_underlying ay,Result.andThen_ok,ja aR,hE,cb,oy aR]
        ·cases h
     ·cases h
    ·cases h
   ·cases h
  ·cases h
 ·cases h
theorem Gy {t:TypeId} {u:I} (h:oK P t=some u):∃ v,(zeroValue t).run P w=.ok v w∧Rel J S w u v∧u.plain=true:=by
 unfold oK at h;simp only [sE] at h;obtain ⟨v,⟨i,hi,ae⟩,h⟩:=h;refine ⟨v,jb hi ae,?_⟩;split at h
 ·rename_i cs;split at h
  ·rename_i cU;cases h;refine ⟨.agg _ _ (by simp) (fun u hu=>?_) (fun v ae=>by simp only [sR] at cU;exact cU v ae) (fun j u v hu ae=>?_),rfl⟩
   ·obtain ⟨x,_,rfl⟩:=sM.1 hu;exact nj x
   ·rw [sN,vh,ae] at hu;simp at hu;subst hu;exact lK _ _ _ _
  ·cases h
 ·cases h;exact ⟨lK _ _ _ _,nj _⟩
theorem FW (ah:aK B U J S w H) {t:TypeId} {ok:Bool} {m k u:I} {H':List ar} {x y:Value} (h:ih P t ok H [m,k]=some (u,H'))
  (e9:Rel J S w m x) (bN:Rel J S w k y) :
  ∃ v,(Instr.lookup t x y ok).run P w=.ok v w∧a1 B U J S w H' u v w:=by
 unfold ih at h;split at h
 ·rename_i id k' heq;cases heq;split at h
  ·rename_i ea iD ay;obtain ⟨ay,av⟩:=xu ay;split at h
   ·rename_i es clock hF aE;obtain ⟨b,bz,aC,aI,aR,bl,bd,bg⟩:=ah.obj _ _ aE;cases e9 with
    | map _ au e4 =>
      rw [aC] at e4;cases e4;have he:gv J S w es bz.toList:=⟨by simpa using bl,fun j i k v x hu ak=>bg j i k v x hu (by simpa using ak)⟩;have hE:=xZ (P:=P) av hF bN bz.isEmpty;split at h
      ·rename_i r aP;simp only [su,Prod.mk.injEq] at h;obtain ⟨v,ae,rfl,rfl⟩:=h;obtain ⟨res,cb,b6⟩:=m4 (P:=P) av hF bN aP he;have fin:∀ (z:Value) (b:Bool),Rel J S w v z→v.plain=true →
         a1 B U J S w H (if ok then .tuple [v,.bool b] else v) (if ok then .tuple #[z,.bool b] else z) w:=fun z b aj aB=>by
        cases ok with
        | true=>exact a1.same ah (.tuple _ _ rfl (fun u hu=>by simp only [sL,List.not_mem_nil,or_false] at hu;rcases hu with rfl | rfl;exact aB;rfl) fun j u bn hu bf=>by
          match j with
          | 0=>simp at hu bf;subst hu;subst bf;exact aj
          | 1=>simp at hu bf;subst hu;subst bf;exact .bool _
          | j+2=>simp at hu) rfl
        | false=>exact a1.same ah aj aB
       cases r with
       | none =>
         simp only [hU] at b6;subst b6;obtain ⟨z,yh,oJ,Gx⟩:=Gy (J:=J) (S:=S) (w:=w) ae;exact ⟨_,by simp only [Instr.lookup,Sem.run_bind,run_underlying ay,Result.andThen_ok,ja aR,Sem.run_pure,hE,cb,yh],fin z false oJ Gx⟩
       | some n =>
         obtain ⟨e,x,_,aX,cy,rfl,dF⟩:=b6;simp only [wD,vh] at aX cy;obtain ⟨o3,o4,dy⟩:=e;obtain ⟨a',bb,bt,b9,dY⟩:=bg n o3 o4 dy x aX cy;simp only [sx,aX,Option.some.injEq] at ae;subst ae;exact ⟨_,by simp only [Instr.lookup,Sem.run_bind,run_underlying ay,Result.andThen_ok,ja aR,Sem.run_pure,hE,cb],fin x.val true dY b9⟩
      ·cases h
   ·cases h
  ·cases h
 ·cases h
theorem FQ (ah:aK B U J S w H) {lo:Nat} {ts:Array TypeId} (ty:TypeId) {m k u:I} {H':List ar} {x y:Value} (h:hK P lo ts H [m,k]=some (u,H'))
  (e9:Rel J S w m x) (bN:Rel J S w k y) :
  ∃ v w',(Builtin.delete_ ts ty #[x,y]).run P w=.ok v w'∧a1 B U J S w H' u v w':=by
 unfold hK at h;split at h
 ·rename_i id k' heq;cases heq;split at h
  ·rename_i ea iD ay;simp only [sE] at ay;obtain ⟨t,g',ay⟩:=ay;obtain ⟨ay,av⟩:=xu ay;split at h
   ·rename_i hF;split at h
    ·split at h
     ·rename_i es clock aE;obtain ⟨b,bz,aC,aI,aR,bl,bd,bg⟩:=ah.obj _ _ aE;cases e9 with
      | map _ au e4 =>
        rw [aC] at e4;cases e4;have he:gv J S w es bz.toList:=⟨by simpa using bl,fun j i k v x hu ak=>bg j i k v x hu (by simpa using ak)⟩;have hE:=xZ (P:=P) av hF bN bz.isEmpty;have Bs:∀ (w:World),Rel J S w (.tuple []) (.tuple #[]):=fun w=>.tuple _ _ rfl (by simp) (by simp);split at h
        ·rename_i n aP;cases h;obtain ⟨res,cb,e,x,_,b6,er,rfl,iF⟩:=m4 (P:=P) av hF bN aP he;obtain ⟨aA,b_⟩:=n3 ah aE (es':=es.eraseIdx n) (clock':=clock) (ents':=bz.eraseIdxIfInBounds n) aC aI bd (by rw [←tQ,Array.toList_eraseIdxIfInBounds];simp [List.length_eraseIdx,bl]) fun j i df v0 jl hu ak=>by
          rw [←vh,Array.toList_eraseIdxIfInBounds] at ak;rw [List.getElem?_eraseIdx] at hu ak;by_cases aw:j<n
          ·simp only [aw,if_true] at hu ak;exact bg j i df v0 jl hu (by simpa using ak)
          ·simp only [aw,if_false] at hu ak;exact bg _ i df v0 jl hu (by simpa using ak)
         refine ⟨_,_,?_,U,J,S,Ext.refl J,aA,b_,Bs _,aW.b4 rfl⟩;simp only [Builtin.delete_,g',wx,uJ,uU,Sem.run_bind,run_underlying ay,Result.andThen_ok,ja aR,hE,cb,oy aR,Sem.run_pure]
        ·rename_i aP;cases h;obtain ⟨res,cb,b6⟩:=m4 (P:=P) av hF bN aP he;simp only [hU] at b6;subst b6;obtain ⟨aA,b_⟩:=n3 ah aE (es':=es) (clock':=clock) (ents':=bz) aC aI bd bl bg;have DC:H.set id (.map es clock)=H:=ui fun j=>by
          by_cases aw:id=j
          ·subst aw;rw [sI (sv.1 aE).1,aE]
          ·rw [sJ aw]
         rw [DC] at b_;refine ⟨_,_,?_,U,J,S,Ext.refl J,aA,b_,Bs _,aW.b4 rfl⟩;simp only [Builtin.delete_,g',wx,uJ,uU,Sem.run_bind,run_underlying ay,Result.andThen_ok,ja aR,hE,cb,oy aR,Sem.run_pure]
        ·cases h
     ·cases h
    ·cases h
   ·cases h
  ·cases h
 ·cases h
theorem F5 (ah:aK B U J S w H) {t:TypeId} {m u:I} {H':List ar} {x:Value} (h:k7 P t H [m]=some (u,H')) (e9:Rel J S w m x) :
  ∃ v w',(Instr.range t x).run P w=.ok v w'∧a1 B U J S w H' u v w':=by
 unfold k7 at h;split at h
 ·rename_i id heq;cases heq;split at h
  ·rename_i ea iD es clock ay aE;cases h;obtain ⟨b,bz,aC,aI,aR,bl,bd,bg⟩:=ah.obj _ _ aE;cases e9 with
   | map _ au e4 =>
     rw [aC] at e4;cases e4;refine ⟨.pointer (some ⟨w.heap.size,0,none⟩),w.alloc (.mapIter (some b) clock #[] clock),by simp only [Instr.range,Sem.run_bind,run_underlying ay,Result.andThen_ok,ja aR,Sem.run_pure,run_newObj_alloc],_,_,S,Ext.append J _,ks ah _ (.obj H.length),?_,.ptr _ _ _ (Ext.last ah _),aW.b4 rfl⟩;exact (nN ah _ (.obj H.length)).push w.heap.size ⟨w.heap.size,b,Ext.last ah _,by simp [lay],Ext.append J _ _ _ aC,yY w _,mQ ah⟩
  ·cases h
 ·cases h
theorem yL {J:List Nat} {S:Nat→Nat→Prop} {w:World} (gn:Nat):∀ (es:List (Nat×I×I)) (bz:List MapEntry) (e:Nat×I×I),gv J S w es bz→es.find? (fun e=>e.1 == gn)=some e →
  ∃ x,bz.find? (fun x=>x.born == gn)=some x∧Rel J S w e.2.1 x.key∧Rel J S w e.2.2 x.val∧e.2.1.plain=true∧e.2.2.plain=true
 | [],bz,e,aj,h=>by simp at h
 | f'::es,bz,e,aj,h=>by
   have aV:=aj;obtain ⟨x,ents',rfl,ad,af,aG,a6⟩:=aj.cons;obtain ⟨_,bS,_,bZ,_⟩:=aV.2 0 f'.1 f'.2.1 f'.2.2 x rfl rfl;rw [List.find?_cons] at h ⊢;rw [ad];split at h
   ·rename_i ag;cases h;exact ⟨x,by simp,af,aG,bS,bZ⟩
   ·rename_i ag;obtain ⟨oI,g⟩:=yL gn es ents' e a6 h;exact ⟨oI,by simp [g.1],g.2⟩
theorem FR (ah:aK B U J S w H) {m u:I} {H':List ar} {x:Value} (h:k5 H [m]=some (u,H')) (e9:Rel J S w m x) :
  ∃ v,(Instr.entry x).run P w=.ok v w∧a1 B U J S w H' u v w:=by
 unfold k5 at h;split at h
 ·rename_i r heq;cases heq;split at h
  ·rename_i m since seen kf aE;split at h
   ·rename_i gn es clock cC Dd;split at h
    ·rename_i al;subst al;split at h
     ·rename_i e he;cases h;obtain ⟨b,ee,aC,aI,aR,bl,bd⟩:=ah.obj _ _ aE;obtain ⟨au,bz,a',bb,bt,b9,dY,fZ⟩:=ah.obj _ _ Dd;rw [aR] at a';cases a';cases e9 with
      | ptr _ _ au e4 =>
        rw [aC] at e4;cases e4;have aj:gv J S w es bz.toList:=⟨by simpa using b9,fun j i k v x hu ak=>fZ j i k v x hu (by simpa using ak)⟩;obtain ⟨y,cb,b6,er,iF,Cs⟩:=yL gn es bz.toList e aj he;(have ag:(seen.toArray).back?=some gn:=by simpa using cC);have aO:(getObj b).run P w=.ok (.mapIter (some ee) since seen.toArray clock) w:=by simp [getObj,Sem.run,bl]
        refine ⟨.tuple #[y.key,y.val],?_,a1.same ah (.tuple _ _ rfl (by simp [iF,Cs]) fun j u bn hu bf=>by
          match j with
          | 0=>simp at hu bf;subst hu;subst bf;exact b6
          | 1=>simp at hu bf;subst hu;subst bf;exact er
          | j+2=>simp at hu) rfl⟩
        (have aP:bz.find? (fun x=>x.born == gn)=some y:=by rw [←Array.find?_toList];exact cb);simp [Instr.entry,aO,ag,ja bt,aP]
     ·cases h
    ·cases h
   ·cases h
  ·cases h
 ·cases h
end
end Go.Proofs.YtfakoboiahbhaaaGreat.Ab


namespace Go.Proofs.YtfakoboiahbhaaaGreat.Ab
open Go
section
variable {P:Program} {B:Nat} {J:List Nat} {w:World} {H:List ar} {U:Nat→Option aH} {S:Nat→Nat→Prop}
theorem z9 (ah:aK B U J S w H) {id off len sz n:Nat} {cap:Option Nat} {row:List I} {v:Value} (cQ:rowOf H (.ref id off len cap sz)=some row) (aN:lenOf (.ref id off len cap sz)=some n)
  (aj:Rel J S w (.ref id off len cap sz) v) :
  a1 B U J S w (H.set id .dead) (.ax row n (g2 cap n)) v w:=by
 classical
 simp [lenOf] at aN;subst aN;cases aj with
 | ref _ _ _ _ _ b eo ag al hle =>
   unfold rowOf at cQ;simp only at cQ;split at cQ
   ·rename_i l aE;split at cQ
    ·rename_i dI;simp only [Option.some.injEq] at cQ;obtain ⟨au,cur,e,aC,aI,aR,bl,bd,bg⟩:=ah.obj id _ aE;rw [ag] at aC;cases aC
     let S':Nat→Nat→Prop:=fun au o=>S au o∨(au=b∧o<cur.size)
     let az:Nat→Option aH:=fun au=>if au=b then none else U au
     have bx:∀ o,o<cur.size→w.cell? ⟨b,o,none⟩=cur[o]?:=fun o aq=>by
      simp [World.cell?,aR,aq]
     have aA:bj U S w az S' w:=⟨rfl,rfl,rfl,sB _,fun _ _ _=>rfl,fun _ _ h=>⟨.inl h,rfl⟩,fun au o h=>by
       rcases h with h | ⟨rfl,_⟩
       ·exact .inl h
       ·exact .inr (.inl (by simp [aI])),fun au bu=>by
       by_cases dH:au=b
       ·simp [az,dH] at bu
       ·simp only [az,dH,if_false] at bu;exact .inl bu⟩
     have bW:aK B az J S' w (H.set id .dead):=by
      refine ⟨by simpa using ah.cE,fun bA o aq=>?_,fun au o h=>?_,fun au l' bu=>?_,ah.cW⟩
      ·by_cases ct:bA=id
       ·subst ct
        have:o=.dead:=by
         have:=(sv.1 aE).1;simp [this] at aq;exact aq.symm
        subst this;trivial
       ·rw [sJ (Ne.symm ct)] at aq;refine (ah.obj bA o aq).frame (Ext.refl J) aA.set (fun au l' bu ao=>?_);have bO:au≠b:=fun e=>by
         subst e;rw [aI] at bu;cases bu;rcases ao with h | ⟨j,h⟩
         ·cases h;exact ct rfl
         ·cases h
        exact ⟨by simp [az,bO,bu],rfl,fun o h=>h.resolve_right fun h=>bO h.1⟩
      ·rcases h with h | ⟨rfl,h⟩
       ·exact ah.cd _ _ h
       ·exact ⟨_,(bx o h).trans (sS h)⟩
      ·by_cases dH:au=b
       ·simp [az,dH] at bu
       ·simp only [az,dH,if_false] at bu;exact ah.base _ _ bu
     (have hlen:row.length=len*sz:=by subst cQ;simp;omega);refine ⟨az,J,S',Ext.refl J,aA,bW,.ax row len _ b off eo (fun j=>cur.getD (off+j) undef) (fun h=>?_) hle (fun z h=>?_) (fun j u aw=>?_) (fun j u aw=>?_),aW.b4 ?_⟩
     ·unfold g2 at h;cases cap with
      | none=>simp at h
      | some c =>
        simp only at h;split at h
        ·rename_i cB;rw [al c rfl,cB]
        ·cases h
     ·unfold g2 at h;cases cap with
      | none=>simp at h
      | some c=>simp only at h;split at h <;> cases h
     all_goals (try (
      have h4:=(sv.1 aw).1;(have ft:off+j<l.length:=by omega);(have fi:off+j<cur.size:=by omega);have ak:l[off+j]?=some l[off+j]:=sK ft;have ae:cur[off+j]?=some cur[off+j]:=sS fi;(have aO:cur.getD (off+j) undef=cur[off+j]:=by simp [fi]);have hu:u=l[off+j].view:=by
       subst cQ;rw [sN,tp,if_pos (by simp at h4;omega),tr,ak] at aw;simpa using aw.symm
      obtain ⟨a',bb,bt,b9⟩:=bg (off+j) _ _ ak ae
      subst hu))
     ·exact ⟨.inr ⟨rfl,fi⟩,by rw [bx _ fi,ae,aO],I.dj _,by rw [aO];exact bb⟩
     ·rw [aO];exact (bt.view a').mono (Ext.refl J) aA.set
     ·unfold g2;cases cap with
      | none=>rfl
      | some c=>simp only;split <;> rfl
    ·simp at cQ
   ·simp at cQ
theorem Bf (ah:aK B U J S w H) {t e:TypeId} (ay:P.underlying t=some (.slice e)) {id off n z:Nat} {l c:List I} (aE:H[id]?=some (.cells l)) (cP:l[off]?=some (.ax c n (.own z))) {v:Value}
  (aj:Rel J S w (.ptr id off) v) :
  ∃ x,(Instr.loadAt t v).run P w=.ok x w∧a1 B U J S w (H.set id (.cells (l.set off (.ax c n .shared)))) (.ax c n (.own z)) x w:=by
 classical
 have cf:dJ P t=false:=by simp [dJ,ay]
 obtain ⟨b,cur,cX,aC,aI,aR,bl,bd,bg⟩:=ah.obj id _ aE;cases aj with
 | ptr _ _ au ag =>
   rw [aC] at ag;cases ag;have aw:off<l.length:=(sv.1 cP).1;(have ft:off<cur.size:=by omega);have iJ:cur[off]?=some cur[off]:=sS ft;obtain ⟨a',bb,bt,b9⟩:=bg off _ _ cP iJ;(have bx:w.cell? ⟨b,off,none⟩=some cur[off]:=by rw [cell_of_row w b _ cur cX (0,0) aR,iJ]);refine ⟨cur[off],by simp [Instr.loadAt,Instr.sureAddr,loadVar,gR ay,cf,load,Sem.run,bx],?_⟩
   let az:Nat→Option aH:=fun au=>if U au=some (.cell id off) then some .res else U au
   have aA:bj U S w az S w:=⟨rfl,rfl,rfl,sB _,fun _ _ _=>rfl,fun _ _ h=>⟨h,rfl⟩,fun _ _ h=>.inl h,fun b ag=>.inl fun aV=>ag (by simp [az,aV])⟩;have av:∀ au l',U au=some l'→l'≠.cell id off→az au=some l':=fun au l' ad af=>by
    have:¬ U au=some (.cell id off):=by rw [ad];intro e;cases e;exact af rfl
    simp [az,ad,af]
   refine ⟨az,J,S,Ext.refl J,aA,⟨by simpa using ah.cE,fun bA o aq=>?_,ah.cd,fun au l' bu=>?_,ah.cW⟩,bt,b9.mono (Ext.refl J) aA.set fun au bu=>⟨by simp [az,bu],rfl,fun _ h=>h⟩⟩
   ·by_cases ct:bA=id
    ·subst ct;rw [sI (sv.1 aE).1] at aq;cases aq;refine ⟨b,cur,cX,aC,av b _ aI (by simp),aR,by simpa using bl,bd,fun j u v hu ae=>?_⟩;by_cases hG:j=off
     ·subst hG;rw [sI aw] at hu;cases hu;obtain ⟨cb,b6,er,_⟩:=bg j _ _ cP ae;exact ⟨rfl,b6,er.view cb,aW.b4 rfl⟩
     ·rw [sJ (Ne.symm hG)] at hu;obtain ⟨d1,d2,d3,d4⟩:=bg j u v hu ae;exact ⟨d1,d2,d3,d4.mono (Ext.refl J) aA.set fun au bu=>⟨av au _ bu (by simp [hG]),rfl,fun _ h=>h⟩⟩
    ·rw [sJ (Ne.symm ct)] at aq;refine (ah.obj bA o aq).frame (Ext.refl J) aA.set (fun au l' bu ao=>⟨av au l' bu ?_,rfl,fun _ h=>h⟩);rcases ao with rfl | ⟨j,rfl⟩
     ·simp
     ·simp [ct]
   ·by_cases h:U au=some (.cell id off)
    ·exact ah.base au _ h
    ·simp only [az,h,if_false] at bu;exact ah.base au l' bu
theorem Bg (ah:aK B U J S w H) {t e:TypeId} (ay:P.underlying t=some (.slice e)) {id off n z:Nat} {l c:List I} (aE:H[id]?=some (.cells l)) (cP:l[off]?=some (.raw c n z)) {v:Value}
  (aj:Rel J S w (.ptr id off) v) :
  ∃ b x,J[id]?=some b∧w.cell? ⟨b,off,none⟩=some x∧x.oneCell'=true∧(Instr.loadAt t v).run P w=.ok x w∧a1 B U J S w (H.set id (.cells (l.set off .junk))) (.ax c n (.uniq z)) x w:=by
 classical
 have cf:dJ P t=false:=by simp [dJ,ay]
 obtain ⟨b,cur,cX,aC,aI,aR,bl,bd,bg⟩:=ah.obj id _ aE;cases aj with
 | ptr _ _ au ag =>
   rw [aC] at ag;cases ag;have aw:off<l.length:=(sv.1 cP).1;(have ft:off<cur.size:=by omega);have iJ:cur[off]?=some cur[off]:=sS ft;obtain ⟨a',bb,bt,b9⟩:=bg off _ _ cP iJ;obtain ⟨Gi,Gj⟩:=EN bt b9;(have bx:w.cell? ⟨b,off,none⟩=some cur[off]:=by rw [cell_of_row w b _ cur cX (0,0) aR,iJ]);refine ⟨b,cur[off],aC,bx,bb,by simp [Instr.loadAt,Instr.sureAddr,loadVar,gR ay,cf,load,Sem.run,bx],?_⟩
   let az:Nat→Option aH:=fun au=>if U au=some (.cell id off) then some .res else U au
   have aA:bj U S w az S w:=⟨rfl,rfl,rfl,sB _,fun _ _ _=>rfl,fun _ _ h=>⟨h,rfl⟩,fun _ _ h=>.inl h,fun b ag=>.inl fun aV=>ag (by simp [az,aV])⟩;have av:∀ au l',U au=some l'→l'≠.cell id off→az au=some l':=fun au l' ad af=>by
    have:¬ U au=some (.cell id off):=by rw [ad];intro e;cases e;exact af rfl
    simp [az,ad,af]
   refine ⟨az,J,S,Ext.refl J,aA,⟨by simpa using ah.cE,fun bA o aq=>?_,ah.cd,fun au l' bu=>?_,ah.cW⟩,Gi,Gj.mono (Ext.refl J) aA.set fun au bu=>⟨by simp [az,bu],rfl,fun _ h=>h⟩⟩
   ·by_cases ct:bA=id
    ·subst ct;rw [sI (sv.1 aE).1] at aq;cases aq;refine ⟨b,cur,cX,aC,av b _ aI (by simp),aR,by simpa using bl,bd,fun j u v hu ae=>?_⟩;by_cases hG:j=off
     ·subst hG;rw [sI aw] at hu;cases hu;obtain ⟨cb,b6,er,_⟩:=bg j _ _ cP ae;exact ⟨rfl,b6,.junk _,aW.b4 rfl⟩
     ·rw [sJ (Ne.symm hG)] at hu;obtain ⟨d1,d2,d3,d4⟩:=bg j u v hu ae;exact ⟨d1,d2,d3,d4.mono (Ext.refl J) aA.set fun au bu=>⟨av au _ bu (by simp [hG]),rfl,fun _ h=>h⟩⟩
    ·rw [sJ (Ne.symm ct)] at aq;refine (ah.obj bA o aq).frame (Ext.refl J) aA.set (fun au l' bu ao=>⟨av au l' bu ?_,rfl,fun _ h=>h⟩);rcases ao with rfl | ⟨j,rfl⟩
     ·simp
     ·simp [ct]
   ·by_cases h:U au=some (.cell id off)
    ·exact ah.base au _ h
    ·simp only [az,h,if_false] at bu;exact ah.base au l' bu
theorem Du (ah:aK B U J S w H) {id off b:Nat} {l:List I} (aE:H[id]?=some (.cells l)) (ag:J[id]?=some b) {u:I} {x:Value} (ak:w.cell? ⟨b,off,none⟩=some x) (ad:x.oneCell'=true) (aB:u.plain=true) (aj:Rel J S w u x) :
  aK B U J S w (H.set id (.cells (l.set off u))):=by
 refine ⟨by simpa using ah.cE,fun bA o aq=>?_,ah.cd,ah.base,ah.cW⟩;by_cases ct:bA=id
 ·subst ct;rw [sI (sv.1 aE).1] at aq;cases aq;obtain ⟨au,cur,cX,aC,aI,aR,bl,bd,bg⟩:=ah.obj bA _ aE;rw [ag] at aC;cases aC;refine ⟨b,cur,cX,ag,aI,aR,by simpa using bl,bd,fun j y v hu ae=>?_⟩;by_cases hG:off=j
  ·subst hG;(have aS:off<l.length:=by have:=(sv.1 hu).1;simpa using this);rw [sI aS] at hu;cases hu;rw [cell_of_row w b _ cur cX (0,0) aR,ae] at ak;cases ak;exact ⟨I.fx aB,ad,aj,aW.b4 aB⟩
  ·rw [sJ hG] at hu;exact bg j y v hu ae
 ·rw [sJ (Ne.symm ct)] at aq;exact ah.obj bA o aq
theorem F_ (ah:aK B U J S w H) {t e:TypeId} (ay:P.underlying t=some (.slice e)) {id off n z:Nat} {l c:List I} (aN:n≠0) (aE:H[id]?=some (.cells l)) (cP:l[off]?=some (.raw c n z)) {v:Value}
  (aj:Rel J S w (.ptr id off) v) :
  ∃ x,(Instr.loadAt t v).run P w=.ok x w∧a1 B U J S w (H.set id (.cells (l.set off (.ref H.length 0 n none z)))++[.cells c]) (.ref H.length 0 n none z) x w:=by
 obtain ⟨b,x,ad,af,aG,a6,b5,c2,a8,aJ,aQ,cp,mF,DN⟩:=Bg ah ay aE cP aj;refine ⟨x,a6,?_⟩;obtain ⟨br,ck,bL,dg,dh,jZ,kY,zK⟩:=Aa cp (l:=.res) (by simp) (by simp) aN mF DN;rw [List.length_set] at kY zK;have aS:=(sv.1 aE).1;have gH:ck[id]?=some b:=dg _ _ (aJ _ _ ad);have pF:(H.set id (ar.cells (l.set off .junk))++[ar.cells c])[id]?=some (ar.cells (l.set off .junk)):=by
  rw [sQ (by simpa using aS),sI aS]
 have ak:=Du jZ pF gH af aG (u:=.ref H.length 0 n none z) rfl kY;have e:(H.set id (ar.cells (l.set off .junk))++[ar.cells c]).set id (ar.cells ((l.set off .junk).set off (.ref H.length 0 n none z)))=H.set id (ar.cells (l.set off (.ref H.length 0 n none z)))++[ar.cells c]:=by
  rw [List.set_append_left _ _ (by simpa using aS),te,te]
 rw [e] at ak;exact ⟨br,ck,bL,aJ.trans dg,aQ.trans dh,ak,kY,zK⟩
theorem DK {x:Operand} (h:iR x=true):x=.const (.slice none 0 0):=by
 unfold iR at h;split at h
 ·rfl
 ·simp at h
theorem eH (i:Nat):∀ id,aH.arg i≠.obj id:=fun _=>by simp
theorem eI (i:Nat):∀ id j,aH.arg i≠.cell id j:=fun _ _=>by simp
theorem EF (ah:aK B U J S w H) {id gid n z:Nat} {l:List I} (aE:H[id]?=some (.grow l gid z)) (aN:n*z≤l.length) (aB:(l.take (n*z)).all I.plain=true) {v:Value} (aj:Rel J S w (.cl id gid n z) v) :
  a1 B U J S w (H.set id .dead) (.ax (l.take (n*z)) n (.uniq z)) v w:=by
 classical
 rw [sR] at aB;obtain ⟨b,cur,e,aC,aI,aR,bl,bd,bg,cap,c',dv,dV,gz⟩:=ah.obj id _ aE;cases aj with
 | cl _ _ _ _ au cap' ag aO hle =>
   rw [aC] at ag;cases ag;rw [c'] at aO;cases aO
   let az:Nat→Option aH:=fun au=>if U au=some (.obj id) then some .res else U au
   have aA:bj U S w az S w:=⟨rfl,rfl,rfl,sB _,fun _ _ _=>rfl,fun _ _ h=>⟨h,rfl⟩,fun _ _ h=>.inl h,fun b ag=>.inl fun aV=>ag (by simp [az,aV])⟩;have av:∀ au l',U au=some l'→l'≠.obj id→az au=some l':=fun au l' ad af=>by
    have:¬ U au=some (.obj id):=by rw [ad];intro e;cases e;exact af rfl
    simp [az,ad,af]
   refine ⟨az,J,S,Ext.refl J,aA,⟨by simpa using ah.cE,fun bA o aq=>?_,ah.cd,fun au l' bu=>?_,ah.cW⟩,.cK _ _ _ _ _ _,.inr ⟨by simp [az,aI],rfl,hle,dv,dV,by simp;omega,⟨cur,e,aR,gz,fun j u v hu ae=>?_⟩,bd⟩⟩
   ·by_cases ct:bA=id
    ·subst ct;rw [sI (sv.1 aE).1] at aq;cases aq;trivial
    ·rw [sJ (Ne.symm ct)] at aq;refine (ah.obj bA o aq).frame (Ext.refl J) aA.set (fun au l' bu ao=>⟨av au l' bu ?_,rfl,fun _ h=>h⟩);rcases ao with rfl | ⟨j,rfl⟩
     ·simp [ct]
     ·simp
   ·by_cases h:U au=some (.obj id)
    ·exact ah.base au _ h
    ·simp only [az,h,if_false] at bu;exact ah.base au l' bu
   ·have b':u∈l.take (n*z):=sZ hu;rw [tp] at hu;split at hu
    ·obtain ⟨_,bb,bt,_⟩:=bg j u v hu ae;exact ⟨aB u b',bb,bt⟩
    ·simp at hu
theorem Be (ah:aK B U J S w H) {aU:Operand→Value} (eW:∀ v,aU (.const v)=v) {lo mode:Nat} {t:TypeId} {x:Operand} {us:List I} {r:I} {H':List ar}
  (h:eY P lo mode t x H us=some (r,H')) (ae:a9 (fun i=>.arg i) U J S w us ([x].map aU)):a1 B U J S w H' r (aU x) w:=by
 obtain ⟨u,rfl,aT,bE⟩:=a9.one ae;unfold eY at h;simp only at h;split at h
 ·split at h
  ·rename_i aN ay;simp only [su,Prod.mk.injEq] at h;obtain ⟨z,_,rfl,rfl⟩:=h;rw [DK aN,eW];exact ⟨U,J,S,Ext.refl J,bj.refl U S w,ah,.b2 _ _,trivial⟩
  ·cases h;exact hL ah (eH _) (eI _) aT bE
 ·split at h
  ·rename_i cells len z;split at h
   ·cases h;exact hL ah (eH _) (eI _) aT bE
   ·rename_i aV;cases h;exact Aa ah (eH _) (eI _) aV aT bE
  ·cases h;exact hL ah (eH _) (eI _) aT bE
  ·cases h;exact hL ah (eH _) (eI _) aT bE
  ·simp at h
 ·split at h
  ·rename_i id gid n z;split at h
   ·split at h
    ·rename_i l g cT aE;split at h
     ·rename_i al;obtain ⟨rfl,rfl,ad,af⟩:=al;cases h;exact EF ah aE ad af aT
     ·simp at h
    ·simp at h
   ·simp at h
  ·cases h;exact hL ah (eH _) (eI _) aT bE
 ·split at h
  ·rename_i id off len cap sz;split at h
   ·simp only [sE,su,Prod.mk.injEq] at h;obtain ⟨row,cQ,n,aN,rfl,rfl⟩:=h;exact z9 ah cQ aN aT
   ·simp at h
  ·rename_i id gid n z;split at h
   ·split at h
    ·rename_i l g cT aE;split at h
     ·rename_i ao;cases h;have aS:=(sv.1 aE).1;have q:=z9 (ah.oH aE) (row:=l.map I.view) (by simp only [rowOf,sI aS,tg];rw [if_pos (by omega),th,uB (by omega)]) rfl (aT.view rfl);rw [te] at q;exact q
     ·simp at h
    ·simp at h
   ·simp at h
  ·cases h;obtain ⟨S',aJ,aQ,b_,r2⟩:=mK ah (eH _) (eI _) aT bE;exact a1.after (Ext.refl J) (bj.settle aJ fun b o h=>(aQ b o h).imp id fun h=>⟨_,h⟩) (a1.same b_ r2 (I.dj _))
theorem FV (ah:aK B U J S w H) {t e:TypeId} (ay:P.underlying t=some (.slice e)) {id off i g n z:Nat} {l:List I} (aE:H[id]?=some (.cells l)) (cP:l[off]?=some (.cl i g n z)) {v:Value}
  (aj:Rel J S w (.ptr id off) v):∃ x,(Instr.loadAt t v).run P w=.ok x w∧a1 B U J S w H (.cl i g n z) x w:=by
 have cf:dJ P t=false:=by simp [dJ,ay]
 obtain ⟨b,cur,cX,aC,aI,aR,bl,bd,bg⟩:=ah.obj id _ aE;cases aj with
 | ptr _ _ au ag =>
   rw [aC] at ag;cases ag;have aw:off<l.length:=(sv.1 cP).1;(have ft:off<cur.size:=by omega);have iJ:cur[off]?=some cur[off]:=sS ft;obtain ⟨a',bb,bt,b9⟩:=bg off _ _ cP iJ;(have bx:w.cell? ⟨b,off,none⟩=some cur[off]:=by rw [cell_of_row w b _ cur cX (0,0) aR,iJ]);exact ⟨cur[off],by simp [Instr.loadAt,Instr.sureAddr,loadVar,gR ay,cf,load,Sem.run,bx],U,J,S,Ext.refl J,bj.refl U S w,ah,bt,trivial⟩
theorem FU (ah:aK B U J S w H) {lo mode:Nat} {t:TypeId} {u:I} {r:I} {H':List ar} {v:Value} (h:dP P lo mode t H [u]=some (r,H')) (aj:Rel J S w u v) :
  ∃ x,(Instr.loadAt t v).run P w=.ok x w∧a1 B U J S w H' r x w:=by
 unfold dP at h;simp only at h;split at h
 ·simp only [su,Prod.mk.injEq] at h;obtain ⟨r',h,rfl,rfl⟩:=h;obtain ⟨x,ad,af,aG⟩:=lk ah h aj;exact ⟨x,ad,a1.same ah af aG⟩
 ·split at h
  ·simp only [su,Prod.mk.injEq] at h;obtain ⟨r',h,rfl,rfl⟩:=h;obtain ⟨x,ad,af,aG⟩:=lk (t:=t) ah (by simpa only [dS] using h) aj;exact ⟨x,ad,a1.same ah af aG⟩
  ·simp at h
 ·split at h
  ·rename_i e id off ay;split at h
   ·rename_i l aE;split at h
    ·rename_i i g n z cP;cases h;exact FV ah ay aE cP aj
    ·rename_i cP;cases h
     have:dS P H t (.ptr id off)=some (.ax [] 0 .full):=by simp [dS,aE,ez,dJ,ay,cP,I.view]
     obtain ⟨x,ad,af,aG⟩:=lk ah this aj;exact ⟨x,ad,a1.same ah af aG⟩
    ·simp at h
   ·simp at h
  ·simp at h
 ·split at h
  ·rename_i e id off ay;split at h
   ·split at h
    ·rename_i l aE;split at h
     ·rename_i c n z cP;cases h;exact Bf ah ay aE cP aj
     ·rename_i c n z cP;split at h
      ·split at h
       ·simp at h
       ·rename_i aN;cases h;exact F_ ah ay aN aE cP aj
      ·cases h;obtain ⟨_,x,_,_,_,ad,af⟩:=Bg ah ay aE cP aj;exact ⟨x,ad,af⟩
     ·rename_i bG cY iP cP;cases h
      have:dS P H t (.ptr id off)=some bG.view:=by simp [dS,aE,ez,dJ,ay,cP]
      obtain ⟨x,ad,af,aG⟩:=lk ah this aj;exact ⟨x,ad,a1.same ah af aG⟩
     ·simp at h
    ·rename_i l g cT aE;have aS:=(sv.1 aE).1;split at h
     ·rename_i c n z cP;cases h;obtain ⟨b,cur,cX,aC,aI,aR,bl,bd,bg,cap,c',dv,dV,gz⟩:=ah.obj id _ aE;obtain ⟨x,ad,az,bV,S',bS,bZ,ed,fR⟩:=Bf (ah.oH aE) ay (by rw [sI aS]) cP aj;have aO:=ed.xH (g:=g) (z:=cT) (by rw [sI (by simpa using aS)]) (bS _ _ aC) (bS _ _ c') dv dV aR gz;rw [te,te] at aO;exact ⟨x,ad,az,bV,S',bS,bZ,aO,fR⟩
     ·rename_i c n cP;cases h
      have:dS P H t (.ptr id off)=some (.ax c n .full):=by simp [dS,aE,ez,dJ,ay,cP,I.view]
      obtain ⟨x,ad,af,aG⟩:=lk ah this aj;exact ⟨x,ad,a1.same ah af aG⟩
     ·simp at h
    ·simp at h
   ·simp at h
  ·simp at h
theorem Bd (ah:aK B U J S w H) {lo:Nat} {b:Builtin} {ts:Array TypeId} (ty:TypeId) (cs:Array Bool) {us:List I} {r:I} {H':List ar} {vs:List Value} (h:eA P lo b ts H us=some (r,H'))
  (ae:a9 (fun i=>.arg i) U J S w us vs):∃ y w',(builtin b ts ty cs vs.toArray).run P w=.ok (.value y) w'∧a1 B U J S w H' r y w':=by
 have one:∀ {u:I},us=[u]→∃ v,vs=[v]∧Rel J S w u v:=fun {u} e=>by
  subst e
  match vs,ae with
  | [v],ae=>exact ⟨v,rfl,ae.rel 0 u v rfl rfl⟩
  | [],ae=>exact absurd ae.len (by simp)
  | _::_::_,ae=>exact absurd ae.len (by simp)
 have two:∀ {u x:I},us=[u,x]→∃ v y,vs=[v,y]∧Rel J S w u v∧aW U J S w (.arg 0) u v∧Rel J S w x y∧aW U J S w (.arg 1) x y:=fun {u x} e=>by
  subst e
  match vs,ae with
  | [v,y],ae=>exact ⟨v,y,rfl,ae.rel 0 u v rfl rfl,ae.own 0 u v rfl rfl,ae.rel 1 x y rfl rfl,ae.own 1 x y rfl rfl⟩
  | [],ae=>exact absurd ae.len (by simp)
  | [_],ae=>exact absurd ae.len (by simp)
  | _::_::_::_,ae=>exact absurd ae.len (by simp)
 unfold eA at h;split at h
 ·
  unfold iW at h;split at h
  ·rename_i s x;split at h
   ·rename_i t dt g';(have g':ts=#[t,dt]:=by rw [←uT (xs:=ts),g']);subst g';simp only [su,Prod.mk.injEq] at h;obtain ⟨r',h,rfl,rfl⟩:=h;obtain ⟨v,y,rfl,aT,bE,r2,bR⟩:=two rfl;obtain ⟨z,w',ad,af⟩:=Bb ah ty (eH _) (eI _) (eH _) (eI _) (by simp) h aT bE r2 bR;exact ⟨z,w',by simp [builtin,ad],af⟩
   ·simp at h
  ·simp at h
 ·
  match us with
  | [u] =>
    obtain ⟨v,rfl,aT⟩:=one rfl;obtain ⟨y,ad,af⟩:=FT ah (ts:=ts) ty h aT;exact ⟨y,w,by simp [builtin,ad],af⟩
  | []=>simp [hk] at h
  | _::_::_=>simp [hk] at h
 ·
  match us with
  | [u] =>
    obtain ⟨v,rfl,aT⟩:=one rfl;obtain ⟨y,ad,af⟩:=FN ah (ts:=ts) ty h aT;exact ⟨y,w,by simp [builtin,ad],af⟩
  | []=>simp [j4] at h
  | _::_::_=>simp [j4] at h
 ·
  match us with
  | [u,x] =>
    obtain ⟨v,y,rfl,aT,bE,r2,bR⟩:=two rfl;obtain ⟨z,w',ad,af⟩:=FP ah (ts:=ts) ty (eH _) (eI _) h aT r2 bR;exact ⟨z,w',by simp [builtin,ad],af⟩
  | []=>simp [j5] at h
  | [_]=>simp [j5] at h
  | _::_::_::_=>simp [j5] at h
 ·
  match us with
  | [u] =>
    obtain ⟨v,rfl,aT⟩:=one rfl;obtain ⟨y,w',ad,af⟩:=FO ah (ts:=ts) ty h aT;exact ⟨y,w',by simp [builtin,ad],af⟩
  | []=>simp [k4] at h
  | _::_::_=>simp [k4] at h
 ·
  match us with
  | [u,x] =>
    obtain ⟨v,y,rfl,aT,_,r2,_⟩:=two rfl;obtain ⟨z,w',ad,af⟩:=FQ ah (ts:=ts) ty h aT r2;exact ⟨z,w',by simp [builtin,ad],af⟩
  | []=>simp [hK] at h
  | [_]=>simp [hK] at h
  | _::_::_::_=>simp [hK] at h
 ·simp only [su,Prod.mk.injEq] at h;obtain ⟨r',h,rfl,rfl⟩:=h;obtain ⟨y,ad,af,aG⟩:=F2 (P:=P) ts ty h ae;exact ⟨y,w,by simp [builtin,ad],a1.same ah af aG⟩
 ·simp only [su,Prod.mk.injEq] at h;obtain ⟨r',h,rfl,rfl⟩:=h;obtain ⟨y,ad,af,aG⟩:=F1 (P:=P) ts ty h ae;exact ⟨y,w,by simp [builtin,ad],a1.same ah af aG⟩
 ·simp at h
end
end Go.Proofs.YtfakoboiahbhaaaGreat.Ab


namespace Go.Proofs.YtfakoboiahbhaaaGreat.Ab
open Go
section
variable {P:Program} {B:Nat} {J:List Nat} {w:World} {H:List ar} {U:Nat→Option aH} {S:Nat→Nat→Prop}
theorem a9.tail {bB:Nat→aH} {us:List I} {vs:List Value} {u:I} {v:Value} (h:a9 bB U J S w (u::us) (v::vs)):a9 (fun i=>bB (i+1)) U J S w us vs :=
 ⟨by simpa using h.len,fun i a b cc ag=>h.rel (i+1) a b (by simpa using cc) (by simpa using ag),fun i a b cc ag=>h.own (i+1) a b (by simpa using cc) (by simpa using ag)⟩
theorem k8 {bB:Nat→aH} {us:List I} {vs:List Value} (ae:a9 bB U J S w us vs) {aU:Operand→Value} (i:Nat) (l:Option Operand) (ao:∀ x,l=some x→vs[i]?=some (aU x)) :
  eP J S w (dr us i l) (l.map aU):=by
 cases l with
 | none=>trivial
 | some x =>
   have ad:=ao x rfl;(have af:i<us.length:=by rw [ae.len];exact (sv.1 ad).1);simp only [dr,sK af,sD];exact ae.rel i _ _ (sK af) ad
theorem eP.mono {S':Nat→Nat→Prop} (cm:∀ b o,S b o→S' b o) {a:Option I} {b:Option Value} (h:eP J S w a b):eP J S' w a b:=by
 cases a <;> cases b <;> first | exact h | exact Rel.mono (Ext.refl J) (fun b o h=>⟨cm b o h,rfl⟩) h
theorem F' (ah:aK B U J S w H) {aU:Operand→Value} {t:TypeId} {x:Operand} {l h m:Option Operand} {u:I} {vs:List I} {r:I} {i1 i2:Nat}
  (aq:e2 P t u.view (dr vs 0 l) (dr vs i1 h) (dr vs i2 m)=some r) (ad:i1=l.toList.length) (af:i2=l.toList.length+h.toList.length)
  (im:Rel J S w u (aU x)) (ij:aW U J S w (.arg 0) u (aU x)) {bB:Nat→aH} (d_:a9 bB U J S w vs ((l.toList++h.toList++m.toList).map aU)) :
  ∃ v,(Instr.sliceAt t (aU x) (l.map aU) (h.map aU) (m.map aU)).run P w=.ok v w∧a1 B U J S w H r v w:=by
 obtain ⟨S',aJ,aQ,b_,aT⟩:=mK ah (eH _) (eI _) im ij;obtain ⟨v,q1,aX,cy⟩:=Fk (J:=J) (S:=S') (w:=w) aq (I.dj u) aT
  ((k8 (aU:=aU) d_ 0 l (fun y aZ=>by subst aZ;simp)).mono aJ)
  ((k8 (aU:=aU) d_ i1 h (fun y aZ=>by subst ad aZ;cases l <;> simp)).mono aJ)
  ((k8 (aU:=aU) d_ i2 m (fun y aZ=>by subst af aZ;cases l <;> cases h <;> simp)).mono aJ)
 exact ⟨v,q1,a1.after (Ext.refl J) (bj.settle aJ fun b o h=>(aQ b o h).imp id fun h=>⟨_,h⟩) (a1.same b_ aX cy)⟩
theorem F6 (ah:aK B U J S w H) {aU:Operand→Value} {t:TypeId} {x:Operand} {l h m:Option Operand} {us:List I} {r:I} (aq:ek P t l h m us=some r)
  (ae:a9 (fun i=>.arg i) U J S w us ((x::(l.toList++h.toList++m.toList)).map aU)) :
  ∃ v,(Instr.sliceAt t (aU x) (l.map aU) (h.map aU) (m.map aU)).run P w=.ok v w∧a1 B U J S w H r v w:=by
 match us,ae with
 | [],ae=>exact absurd ae.len (by simp)
 | u::vs,ae =>
   have im:=ae.rel 0 u _ rfl rfl;have ij:=ae.own 0 u _ rfl rfl;have d_:=ae.tail;unfold ek at aq;dsimp only at aq;split at aq
   ·rename_i cells len z;split at aq
    ·rename_i e a3;simp only [sE,su] at aq;obtain ⟨s,ai,n,aN,rfl⟩:=aq;have m1:=k8 (aU:=aU) d_ 0 h (fun y aZ=>by subst aZ;simp);generalize ak:aU x=cz at im ij ⊢;cases im with
     | b2 c a =>
       obtain ⟨q,q1,aX⟩:=hO (P:=P) (isS:=true) (cap:=0) (lo:=none) (lo':=none) aN rfl (by omega) trivial m1;(obtain rfl:n=0:=by omega);exact ⟨.slice a 0 0,by cases a <;> simp [Instr.sliceAt,Instr.slice,run_underlying a3,q,run_sizeOf ai,Addr.add],U,J,S,Ext.refl J,bj.refl U S w,ah,by simpa using .b2 _ _,by cases a <;> first | trivial | exact .inl ⟨rfl,rfl,by simp⟩⟩
     | ax _ _ c b o cap f al hle hu bx b1=>exact absurd rfl (hu _)
     | cK cells len z b o cap =>
       rcases ij with ⟨rfl,rfl,rfl⟩ | ⟨bE,bR,k1,ie,hh,gN,⟨cur,ce,j2,hj,n_⟩,mR⟩
       ·obtain ⟨q,q1,aX⟩:=hO (P:=P) (isS:=true) (cap:=0) (lo:=none) (lo':=none) aN rfl (by omega) trivial m1;(obtain rfl:n=0:=by omega);exact ⟨.slice (some ⟨b,o,none⟩) 0 0,by simp [Instr.sliceAt,Instr.slice,run_underlying a3,q,run_sizeOf ai],U,J,S,Ext.refl J,bj.refl U S w,ah,.cK _ _ _ _ _ _,.inl ⟨rfl,rfl,by simp⟩⟩
       ·obtain ⟨q,q1,aX⟩:=hO (P:=P) (isS:=true) (cap:=cap) (lo:=none) (lo':=none) aN rfl (by omega) trivial m1;simp only at bE j2 mR bR;refine ⟨.slice (some ⟨b,o,none⟩) n cap,by simp [Instr.sliceAt,Instr.slice,run_underlying a3,q,run_sizeOf ai];intro;simp [Addr.add],?_⟩;refine hL ah (eH 0) (eI 0) (.cK _ _ _ _ _ _) (.inr ⟨bE,bR,by omega,ie,hh,?_,⟨cur,ce,j2,hj,fun j u v hu ae=>?_⟩,mR⟩)
        ·rw [tf,gN];exact Nat.min_eq_left (tP _ aX)
        ·rw [tp] at hu;split at hu
         ·exact n_ j u v hu ae
         ·simp at hu
    ·simp at aq
   ·
    rename_i cells len z lo gh;split at aq
    ·rename_i e a3;simp only [sE] at aq;obtain ⟨s,ai,aq⟩:=aq;split at aq
     ·rename_i bP;subst bP;simp only [su] at aq;obtain ⟨n,aN,rfl⟩:=aq;have rl:=k8 (aU:=aU) d_ 0 (some lo) (fun y aZ=>by cases aZ;simp);generalize ak:aU x=cz at im ij ⊢;cases im with
      | b2 c a =>
        obtain ⟨q,q1,aX⟩:=hO (P:=P) (isS:=true) (cap:=0) (hi:=none) (hi':=none) (len:=0) rfl aN (by omega) rl trivial;simp only [sD,Option.map_none] at q;(obtain rfl:n=0:=by omega);exact ⟨.slice a 0 0,by cases a <;> simp [Instr.sliceAt,Instr.slice,run_underlying a3,q,run_sizeOf ai,Addr.add],U,J,S,Ext.refl J,bj.refl U S w,ah,by simpa using .b2 _ _,by cases a <;> first | trivial | exact .inl ⟨rfl,rfl,by simp⟩⟩
      | ax _ _ c b o cap f al hle hu bx b1 =>
        obtain ⟨q,q1,aX⟩:=hO (P:=P) (isS:=true) (cap:=cap) (hi:=none) (hi':=none) (len:=len) rfl aN hle rl trivial;simp only [sD,Option.map_none] at q;have CS:∀ k,(cells.drop k).take cells.length=cells.drop k:=fun k=>uB (by rw [uh];omega);by_cases eu:cap=n
        ·(obtain rfl:n=len:=by omega);rw [eu] at q;refine ⟨.slice (some ⟨b,o,none⟩) 0 0,by simp [Instr.sliceAt,Instr.slice,run_underlying a3,q,run_sizeOf ai,eu],?_⟩;rw [Nat.sub_self];rcases ij with ⟨aV,CQ,cB⟩ | ⟨bE,bR,k1,ie,hh,gN,j2,⟨cur,ce,hj,n_⟩,mR⟩
         ·rw [cB,List.drop_nil];exact ⟨U,J,S,Ext.refl J,bj.refl U S w,ah,.ax [] 0 _ b o 0 (fun _=>undef) (by simp) (sB _) (by simp) (by simp) (by simp),.inl ⟨rfl,rfl,rfl⟩⟩
         ·rw [List.drop_eq_nil_of_le (by omega)];exact ⟨U,J,S,Ext.refl J,bj.refl U S w,ah,.ax [] 0 _ b o 0 (fun _=>undef) (by simp) (sB _) (by simp) (by simp) (by simp),.inl ⟨rfl,rfl,rfl⟩⟩
        ·have zj:=Rel.sub (J:=J) (k:=cells.length) (n:=len-n) (cap':=cap-n) (n*s) (.own s) (by simp) (by omega) (by simp) bx b1;rw [CS] at zj;refine ⟨.slice (some ⟨b,o+n*s,none⟩) (len-n) (cap-n),by simp [Instr.sliceAt,Instr.slice,run_underlying a3,q,run_sizeOf ai,eu,add_lit],?_⟩;rcases ij with ⟨aV,CQ,cB⟩ | ⟨bE,bR,k1,ie,hh,gN,j2,⟨cur,ce,hj,n_⟩,mR⟩
         ·exfalso;omega
         ·refine hL ah (eH 0) (eI 0) zj (.inr ⟨bE,trivial,rfl,by omega,by omega,gN,?_,⟨cur,ce,hj,?_⟩,fun cM jS=>mR cM ?_⟩)
          ·rw [uh,j2,Nat.sub_mul]
          ·have e1:n*s≤cap*s:=tP _ (by omega);have ca:(cap-n)*s=cap*s-n*s:=Nat.sub_mul _ _ _;show cur.size=o+n*s+(cap-n)*s;simp only at n_;omega
          ·have e1:n*s≤len*s:=tP _ q1;simp only [uh] at jS ⊢;omega
     ·simp at aq
    ·simp at aq
   ·
    rename_i id gid len z;split at aq
    ·rename_i e a3;simp only [sE,su] at aq;obtain ⟨s,ai,n,aN,rfl⟩:=aq;have m1:=k8 (aU:=aU) d_ 0 h (fun y aZ=>by subst aZ;simp);generalize ak:aU x=cz at im ij ⊢;cases im with
     | cl _ _ _ _ b cap ag aO hle =>
       obtain ⟨q,q1,aX⟩:=hO (P:=P) (isS:=true) (cap:=cap) (lo:=none) (lo':=none) aN rfl hle trivial m1;exact ⟨.slice (some ⟨b,0,none⟩) n cap,by simp [Instr.sliceAt,Instr.slice,run_underlying a3,q,run_sizeOf ai];intro;simp [Addr.add],U,J,S,Ext.refl J,bj.refl U S w,ah,.cl _ _ _ _ b cap ag aO (by omega),trivial⟩
    ·simp at aq
   ·exact F' ah aq (by cases l <;> rfl) (by cases l <;> cases h <;> rfl) im ij d_
theorem F3 {aU:Operand→Value} (eW:∀ v,aU (.const v)=v) {C:b8} {lo mode:Nat} {o:Oper} {us:List I} {r:I} {H':List ar} (ah:aK B U J S w H)
  (h:a5 P C lo o mode us H=some (r,H')) (iO:∀ c f,o.op=.call c→c.callee≠.value f)
  (aB:dK o mode=false→∀ u∈us,u.plain=true) (ae:a9 (fun i=>.arg i) U J S w us ((opsOf o).map aU)):eD P aU o w (a1 B U J S w H' r):=by
 have base:(cx P o us).map (·,H)=some (r,H')→dK o mode=false→eD P aU o w (a1 B U J S w H' r):=fun h ao=>by
  simp only [su,Prod.mk.injEq] at h;obtain ⟨r',aY,rfl,rfl⟩:=h;exact F4 eW ah aY ao (aB ao) ae
 cases aD:o.op
 case call c =>
  simp only [a5,aD] at h;cases al:c.callee with
  | builtin b =>
    simp only [al] at h;have he:opsOf o=c.args.toList:=by
     obtain ⟨B9,args,B3⟩:=c;simp only at al;subst al;simp only [opsOf,aD]
    rw [he] at ae;obtain ⟨y,w',ad,af⟩:∃ y w',(builtin b c.argTypes o.type (c.args.map fun | .const _=>true | _=>false) (c.args.toList.map aU).toArray).run P w=.ok (.value y) w'∧a1 B U J S w H' r y w':=by
     cases b
     case append =>
      simp only at h;split at h
      ·exact Bd ah o.type _ h ae
      ·match us,h,ae with
       | [u,x],h,ae =>
         obtain ⟨v,bh,e1,aT,bE,ae⟩:=ae.gV;obtain ⟨y,bh,ca,r2,bR,ae⟩:=ae.gV;cases bh with
         | cons=>exact absurd ae.len (by simp)
         | nil =>
         obtain ⟨z,w',ad,af⟩:=FG ah o.type (eH _) (eI _) (eH _) (eI _) (by simp) h aT bE r2 bR;rw [e1,ca];exact ⟨z,w',by simp [builtin,ad],af⟩
     all_goals exact Bd ah o.type _ h ae
    refine .inl ⟨y,w',?_,af⟩;simp only [Go.execOp,aD,resolve,al,Sem.run_bind,Sem.run_pure,Result.andThen_ok,invoke];rw [←ad,←vw,uT];rfl
  | value f=>exact absurd al (iO c f aD)
  | invoke x n=>simp [al] at h
 all_goals (have bf:=ae;rw [xz (by simp [aD])] at bf;simp only [aD,Op.operands] at bf)
 case move x =>
  simp only [a5,aD] at h;exact .inl ⟨aU x,w,by simp [Go.execOp,aD],Be ah eW h bf⟩
 case assign x =>
  simp only [a5,aD] at h;exact .inl ⟨aU x,w,by simp [Go.execOp,aD],Be ah eW h bf⟩
 case load t a =>
  simp only [a5,aD] at h;obtain ⟨u,rfl,aT,_⟩:=a9.one (x:=a) (by simpa using bf);obtain ⟨x,ad,af⟩:=FU ah h aT;exact .inl ⟨x,w,by simp [Go.execOp,aD,ad],af⟩
 case store t a x =>
  simp only [a5,aD] at h;obtain ⟨u,v,rfl,aT,bE,r2,bR⟩:=a9.two (x:=a) (y:=x) (by simpa using bf);unfold gP at h;simp only at h;split at h
  ·simp only [su,Prod.mk.injEq] at h;obtain ⟨H1,h,rfl,rfl⟩:=h;obtain ⟨w',ad,af⟩:=F7 ah (eH _) (eI _) h aT r2 bR undef;exact .inr ⟨w',by simp [Go.execOp,aD,ad],af⟩
  ·simp only [su,Prod.mk.injEq] at h;obtain ⟨H1,h,rfl,rfl⟩:=h;obtain ⟨w',ad,af⟩:=F8 ah (eH _) (eI _) h aT r2 bR undef;exact .inr ⟨w',by simp [Go.execOp,aD,ad],af⟩
  ·simp only [su,Prod.mk.injEq] at h;obtain ⟨H1,h,rfl,rfl⟩:=h;obtain ⟨w',ad,af⟩:=F9 ah (eH _) (eI _) h aT r2 bR undef;exact .inr ⟨w',by simp [Go.execOp,aD,ad],af⟩
 case box e x =>
  simp only [a5,aD] at h;obtain ⟨u,rfl,aT,bE⟩:=a9.one (x:=x) (by simpa using bf);unfold gO at h;simp only at h;split at h
  ·simp only [su,Prod.mk.injEq] at h;obtain ⟨vc,h,rfl,rfl⟩:=h;obtain ⟨y,w',ad,af⟩:=FI (P:=P) ah (eH _) (eI _) h aT bE e;exact .inl ⟨y,w',by simp [Go.execOp,aD,ad],af⟩
  ·split at h
   ·rename_i vc fM;split at h
    ·rename_i aB;cases h;obtain ⟨y,w',ad,af⟩:=FJ (P:=P) ah fM aB aT e;exact .inl ⟨y,w',by simp [Go.execOp,aD,ad],af⟩
    ·simp at h
   ·simp at h
 case alloc t =>
  simp only [a5,aD] at h;unfold k3 at h;split at h
  ·simp only [su,Prod.mk.injEq] at h;obtain ⟨z,h,rfl,rfl⟩:=h;obtain ⟨y,w',ad,af⟩:=FE ah h (.tuple #[]);exact .inl ⟨y,w',by simp [Go.execOp,aD,ad],af⟩
  ·split at h
   ·rename_i e bk he;simp only [su,Prod.mk.injEq] at h;obtain ⟨s,_,rfl,rfl⟩:=h;obtain ⟨y,w',ad,af⟩:=FF (s:=s) ah bk (.tuple #[]);exact .inl ⟨y,w',by simp [Go.execOp,aD,ad],af⟩
   ·simp at h
 case build t parts =>
  simp only [a5,aD] at h;split at h
  ·exact base h (by simp [dK,aD])
  ·simp only [su,Prod.mk.injEq] at h;obtain ⟨r',h,rfl,rfl⟩:=h;(have da:a9 (fun i=>.arg i) U J S w us ((parts.toList.map (·.2)).map aU):=by simpa using bf);have hlen:us.length=parts.toList.length:=by simpa using da.len
   obtain ⟨v,q1,aX⟩:=FL (parts':=parts.map fun (x:Nat×Operand)=>(x.1,aU x.2)) ah h (by simp [eO,vT,hlen]) (fun j x y ak aZ=>by
    simp only [eO,vU] at ak;obtain ⟨xd,hb⟩:=ak;simp only [vw,sN,su] at aZ;obtain ⟨p,fL,rfl⟩:=aZ;have aO:((parts.toList.map (·.2)).map aU)[j]?=some (aU p.2):=by simp only [sN,fL,sD]
    exact ⟨da.rel j _ _ hb aO,da.own j _ _ hb aO⟩)
   exact .inl ⟨v,w,by simp [Go.execOp,aD,q1],aX⟩
 case buildSlice t len parts =>
  simp only [a5,aD] at h;split at h
  ·exact base h (by simp [dK,aD])
  ·simp only [su,Prod.mk.injEq] at h;obtain ⟨⟨cs,s⟩,h,rfl,rfl⟩:=h;obtain ⟨v,w',q1,aX⟩:=FM eW ah aD h (aB (by simp [dK,aD])) ae;exact .inl ⟨v,w',q1,aX⟩
 case makeSlice t a b =>
  simp only [a5,aD] at h;obtain ⟨u,v,rfl,aT,_,r2,_⟩:=a9.two (x:=a) (y:=b) (by simpa using bf);unfold j6 at h;split at h
  ·rename_i k n k' c heq;simp at heq;obtain ⟨rfl,rfl⟩:=heq;split at h
   ·rename_i al;have e1:=aT.de;have ca:=r2.de;split at h
    ·simp only [su,Prod.mk.injEq] at h;obtain ⟨z,h,rfl,rfl⟩:=h;obtain ⟨y,w',ad,af⟩:=FY (k:=k) (k':=k') ah al.1 al.2 h;exact .inl ⟨y,w',by simp [Go.execOp,aD,e1,ca,ad],af⟩
    ·split at h
     ·rename_i iO;simp only [su,Prod.mk.injEq] at h;obtain ⟨z,h,rfl,rfl⟩:=h;obtain ⟨rfl,aV⟩:=iO;obtain ⟨y,w',ad,af⟩:=FZ (k:=k) (k':=k') ah aV h;exact .inl ⟨y,w',by simp [Go.execOp,aD,e1,ca,ad],af⟩
     ·simp at h
   ·simp at h
  ·simp at h
 case makeMap t r =>
  simp only [a5,aD] at h;obtain ⟨x,w',ad,rfl,af⟩:=FX (P:=P) ah h;exact .inl ⟨x,w',by simp [Go.execOp,aD,ad],af⟩
 case mapUpdate t m k v =>
  simp only [a5,aD] at h;have aB:=aB (by simp [dK,aD]);obtain ⟨jj,kh,lv,rfl,e9,bN,oz⟩:∃ jj kh lv,us=[jj,kh,lv]∧Rel J S w jj (aU m)∧Rel J S w kh (aU k)∧Rel J S w lv (aU v):=by
   match us,bf with
   | [jj,kh,lv],bf=>exact ⟨jj,kh,lv,rfl,bf.rel 0 _ _ rfl rfl,bf.rel 1 _ _ rfl rfl,bf.rel 2 _ _ rfl rfl⟩
   | [],bf=>exact absurd bf.len (by simp)
   | [_],bf=>exact absurd bf.len (by simp)
   | [_,_],bf=>exact absurd bf.len (by simp)
   | _::_::_::_::_,bf=>exact absurd bf.len (by simp)
  obtain ⟨w',ad,af⟩:=F0 ah h e9 bN (aB kh (by simp)) oz (aB lv (by simp)) undef;exact .inr ⟨w',by simp [Go.execOp,aD,ad],af⟩
 case lookup t m k ok =>
  simp only [a5,aD] at h;obtain ⟨jj,kh,rfl,e9,_,bN,_⟩:=a9.two (x:=m) (y:=k) (by simpa using bf);obtain ⟨x,ad,af⟩:=FW ah h e9 bN;exact .inl ⟨x,w,by simp [Go.execOp,aD,ad],af⟩
 case range t m =>
  simp only [a5,aD] at h;obtain ⟨jj,rfl,e9,_⟩:=a9.one (x:=m) (by simpa using bf);obtain ⟨x,w',ad,af⟩:=F5 ah h e9;exact .inl ⟨x,w',by simp [Go.execOp,aD,ad],af⟩
 case entry m =>
  simp only [a5,aD] at h;obtain ⟨jj,rfl,e9,_⟩:=a9.one (x:=m) (by simpa using bf);obtain ⟨x,ad,af⟩:=FR (P:=P) ah h e9;exact .inl ⟨x,w,by simp [Go.execOp,aD,ad],af⟩
 case slice t x l bI m =>
  simp only [a5,aD,cx,su,Prod.mk.injEq] at h;obtain ⟨r',h,rfl,rfl⟩:=h;obtain ⟨v,ad,af⟩:=F6 (x:=x) ah h (by simpa using bf);exact .inl ⟨v,w,by simp [Go.execOp,aD,ad],af⟩
 all_goals exact base (by simpa only [a5,aD] using h) (by simp [dK,aD])
end
end Go.Proofs.YtfakoboiahbhaaaGreat.Ab


namespace Go.Proofs.YtfakoboiahbhaaaGreat.Ab
open Go
def dp (U:Nat→Option aH):Nat→Option aH:=fun b=>match U b with
 | some (.slot _)=>none
 | x=>x
def back (U br:Nat→Option aH) (d:Option Nat):Nat→Option aH:=fun b=>match U b with
 | some (.slot i)=>if d=some i then none else some (.slot i)
 | _=>match br b with
   | some .res=>d.map .slot
   | some (.obj id)=>some (.obj id)
   | some (.cell id j)=>some (.cell id j)
   | _=>none
def Marks (N:Nat) (U:Nat→Option aH) (w:World) (ds:List Deferred):Prop :=
 N≤w.heap.size∧(∀ d∈ds,∃ r,d.target=.collected r∧N≤r∧U r=none∧w.heap[r]?=some (.deferred (some [])))∧ds.Pairwise (fun a b=>a.target≠b.target)
structure cw (B N:Nat) (U:Nat→Option aH) (J:List Nat) (S:Nat→Nat→Prop) (w:World) (s:a7) (a:Act):Prop where
 T:a9 .slot U J S w s.T a.tmps.toList
 H:aK B U J S w s.H
 M:Marks N U w a.defers
def Step (B N:Nat) (U:Nat→Option aH) (J:List Nat) (S:Nat→Nat→Prop) (w:World) (aF:a7) (aM:Act) (w':World):Prop :=
 ∃ az bV S',Ext J bV∧bj U S w az S' w'∧cw B N az bV S' w' aF aM
section
variable {P:Program} {B N:Nat} {J:List Nat} {w:World} {H:List ar} {U:Nat→Option aH} {S:Nat→Nat→Prop}
theorem Marks.aA {az:Nat→Option aH} {S':Nat→Nat→Prop} {w':World} {ds:List Deferred} (h:Marks N U w ds) (aA:bj U S w az S' w'):Marks N az w' ds:=⟨tb h.1 aA.size,fun d a3=>by
 obtain ⟨r,ad,af,aG,a6⟩:=h.2.1 d a3;have aj:r<w.heap.size:=(tt.1 a6).1;refine ⟨r,ad,af,?_,(aA.cD r aj aG).trans a6⟩;cases bM:az r with
 | none=>rfl
 | some l =>
   rcases aA.own r (by simp [bM]) with bT | bT
   ·exact absurd aG bT
   ·omega,h.2.2⟩
theorem nG {b:Nat} (h:U b=none):dp U b=none:=by simp [dp,h]
theorem pG {b i:Nat} (h:U b=some (.slot i)):dp U b=none:=by simp [dp,h]
theorem y2 {b:Nat} {l:aH} (h:U b=some l) (ao:∀ i,l≠.slot i):dp U b=some l:=by
 cases l <;> first | (simp only [dp,h];done) | exact absurd rfl (ao _)
theorem y3 {b:Nat} {l:aH} (h:dp U b=some l):U b=some l∧∀ i,l≠.slot i:=by
 unfold dp at h;split at h
 ·simp at h
 ·rename_i aN;exact ⟨h,fun i e=>by subst e;exact aN i h⟩
theorem C5 (b i:Nat):dp U b≠some (.slot i):=fun h=>(y3 h).2 i rfl
theorem B5 {br:Nat→Option aH} {d:Option Nat} {b i:Nat} (h:U b=some (.slot i)) (a3:d≠some i):back U br d b=some (.slot i):=by simp [back,h,a3]
theorem mu (ah:aK B U J S w H):aK B (dp U) J S w H:=by
 refine ⟨ah.cE,fun id o aq=>?_,ah.cd,fun b l ag=>ah.base b l (y3 ag).1,ah.cW⟩;refine (ah.obj id o aq).frame (Ext.refl J) (fun _ _ h=>⟨h,rfl⟩) fun b l ag ao=>⟨y2 ag ?_,rfl,fun _ h=>h⟩;rcases ao with rfl | ⟨j,rfl⟩ <;> simp
theorem Bw {us:List I} {vs:List Value} (h:a9 (fun i=>.arg i) U J S w us vs):a9 (fun i=>.arg i) (dp U) J S w us vs :=
 ⟨h.len,h.rel,fun i u v hu ae=>(h.own i u v hu ae).mono (Ext.refl J) (fun _ _ h=>⟨h,rfl⟩) fun b ag=>⟨y2 ag (by simp),rfl,fun _ h=>h⟩⟩
theorem Af (a:Act) (d:Option Tmp) (v:Value):(a.put d v).tmps.toList=match d with | some d=>a.tmps.toList.set d v | none=>a.tmps.toList:=by
 cases d <;> simp [Act.put]
theorem put_defers (a:Act) (d:Option Tmp) (v:Value):(a.put d v).defers=a.defers:=by
 cases d <;> rfl
theorem z1 {T:List I} {a:Act} {H':List ar} {r:I} {v:Value} {w':World} (dst:Option Tmp) (aL:cw B N U J S w ⟨T,H⟩ a) {br:Nat→Option aH} {ck:List Nat} {bL:Nat→Nat→Prop}
  (bK:Ext J ck) (ep:bj (dp U) S w br bL w') (cn:aK B br ck bL w' H') (aj:Rel ck bL w' r v) (aq:aW br ck bL w' .res r v) :
  bj U S w (back U br dst) bL w'∧cw B N (back U br dst) ck bL w' ⟨put T dst r,H'⟩ (a.put dst v):=by
 have pk:∀ b l,U b=some l→b<w.heap.size:=fun b l h=>(aL.H.base b l h).2;have kH:∀ b l,br b=some l→∀ i,U b≠some (.slot i):=fun b l h i ai=>by
  rcases ep.own b (by simp [h]) with ad | ad
  ·exact ad (pG ai)
  ·have:=pk b _ ai;omega
 have yV:∀ b l,br b=some l→back U br dst b=match l with | .res=>dst.map .slot | .obj id=>some (.obj id) | .cell id j=>some (.cell id j) | _=>none:=fun b l h=>by
  unfold back;split
  ·rename_i i ai;exact absurd ai (kH b l h i)
  ·rw [h];cases l <;> rfl
 have aA:bj U S w (back U br dst) bL w':=by
  refine ⟨ep.os,ep.tape,ep.output,ep.size,fun b ag aN=>ep.cD b ag (nG aN),ep.set,fun b o h=>?_,fun b h=>?_⟩
  ·rcases ep.fresh b o h with h | h | h
   ·exact .inl h
   ·exact .inr (.inl fun aN=>h (nG aN))
   ·exact .inr (.inr h)
  ·unfold back at h;split at h
   ·rename_i ai;exact .inl (by simp [ai])
   ·rcases ep.own b (fun aN=>by simp [aN] at h) with ad | ad
    ·exact .inl fun aN=>ad (nG aN)
    ·exact .inr ad
 refine ⟨aA,⟨?_,⟨cn.cE,fun id o aq=>?_,cn.cd,fun b l ag=>?_,cn.cW⟩,?_⟩⟩
 ·have fQ:∀ (i:Nat) (u:I) (x:Value),dst≠some i→T[i]?=some u→a.tmps.toList[i]?=some x→Rel ck bL w' u x∧aW (back U br dst) ck bL w' (.slot i) u x:=fun i u x a3 hu ak=>by
   refine ⟨(aL.T.rel i u x hu ak).mono bK ep.set,(aL.T.own i u x hu ak).mono bK ep.set fun b ag=>⟨B5 ag a3,ep.cD b (pk b _ ag) (pG ag),fun o h=>?_⟩⟩;rcases ep.fresh b o h with h | h | h
   ·exact h
   ·exact absurd (pG ag) h
   ·have:=pk b _ ag;omega
  cases dst with
  | none=>exact ⟨aL.T.len,fun i u x hu ak=>(fQ i u x (by simp) hu ak).1,fun i u x hu ak=>(fQ i u x (by simp) hu ak).2⟩
  | some d =>
    have hlen:=aL.T.len;have both:∀ (i:Nat) (u:I) (x:Value),(T.set d r)[i]?=some u→(a.tmps.toList.set d v)[i]?=some x→Rel ck bL w' u x∧aW (back U br (some d)) ck bL w' (.slot i) u x:=fun i u x hu ak=>by
     by_cases aE:d=i
     ·subst aE;(have aS:d<T.length:=by have:=(sv.1 hu).1;simpa using this);(have mj:d<a.tmps.toList.length:=by have:=(sv.1 ak).1;simpa using this);rw [sI aS] at hu;rw [sI mj] at ak;cases hu;cases ak;exact ⟨aj,aq.mono (Ext.refl _) (fun _ _ h=>⟨h,rfl⟩) fun b ag=>⟨by rw [yV b _ ag];rfl,rfl,fun _ h=>h⟩⟩
     ·rw [sJ aE] at hu ak;exact fQ i u x (by simpa using aE) hu ak
    refine ⟨by simp [put,gU,Act.put,hlen],?_,?_⟩
    ·intro i u x hu ak;simp only [put,gU] at hu;rw [Af] at ak;exact (both i u x hu ak).1
    ·intro i u x hu ak;simp only [put,gU] at hu;rw [Af] at ak;exact (both i u x hu ak).2
 ·refine (cn.obj id o aq).frame (Ext.refl ck) (fun _ _ h=>⟨h,rfl⟩) fun b l ag ao=>⟨?_,rfl,fun _ h=>h⟩;rw [yV b l ag];rcases ao with rfl | ⟨j,rfl⟩ <;> rfl
 ·unfold back at ag;split at ag
  ·rename_i i ai;have:=aL.H.base b _ ai;exact ⟨this.1,vr this.2 ep.size⟩
  ·cases af:br b with
   | none=>simp [af] at ag
   | some l'=>exact cn.base b l' af
 ·rw [put_defers];exact aL.M.aA aA
theorem ob {T:List I} {a:Act} {H':List ar} {r:I} {v:Value} {w':World} (dst:Option Tmp) (aL:cw B N U J S w ⟨T,H⟩ a) (aB:a1 B (dp U) J S w H' r v w')
  (u:I) (hu:∀ br ck bL,Rel ck bL w' r v→aW br ck bL w' .res r v→Rel ck bL w' u v) :
  ∃ az bV S',Ext J bV∧bj U S w az S' w'∧cw B N az bV S' w' ⟨put T dst r,H'⟩ (a.put dst v)∧Rel bV S' w' u v:=by
 obtain ⟨br,ck,bL,bK,ep,cn,aj,aq⟩:=aB;obtain ⟨ad,af⟩:=z1 dst aL bK ep cn aj aq;exact ⟨_,ck,bL,bK,ad,af,hu br ck bL aj aq⟩
theorem Step.trans {b5:Nat→Option aH} {c2:List Nat} {a8:Nat→Nat→Prop} {bH:World} (bK:Ext J c2) (aA:bj U S w b5 a8 bH) {aF:a7} {aM:Act} {w':World} (h:Step B N b5 c2 a8 bH aF aM w') :
  Step B N U J S w aF aM w' :=
 let ⟨az,bV,S',aJ,aQ,cp⟩:=h
 ⟨az,bV,S',bK.trans aJ,aA.trans aQ,cp⟩
theorem a9.swap {bB:Nat→aH} {T:List I} {bh:List Value} (h:a9 bB U J S w T bh) (t:Nat) {u:I} (hu:u.plain=true) (aj:∀ v,bh[t]?=some v→Rel J S w u v):a9 bB U J S w (T.set t u) bh:=by
 refine ⟨by simpa using h.len,fun i x v ak ae=>?_,fun i x v ak ae=>?_⟩
 ·by_cases hi:t=i
  ·subst hi;(have aS:t<T.length:=by have:=(sv.1 ak).1;simpa using this);rw [sI aS] at ak;cases ak;exact aj v ae
  ·rw [sJ hi] at ak;exact h.rel i x v ak ae
 ·by_cases hi:t=i
  ·subst hi;(have aS:t<T.length:=by have:=(sv.1 ak).1;simpa using this);rw [sI aS] at ak;cases ak;exact aW.b4 hu
  ·rw [sJ hi] at ak;exact h.own i x v ak ae
end
end Go.Proofs.YtfakoboiahbhaaaGreat.Ab


namespace Go.Proofs.YtfakoboiahbhaaaGreat.Ab
open Go
section
variable {P:Program} {B N:Nat} {J:List Nat} {w:World} {H:List ar} {U:Nat→Option aH} {S:Nat→Nat→Prop}
theorem Rel.narrow {ck:List Nat} {bL:Nat→Nat→Prop} {bY:World} (bK:Ext J ck) {u:I} {v v2:Value} (h:Rel J S w u v) (af:Rel ck bL bY u v2):Rel J bL bY u v2:=by
 induction h generalizing v2 with
 | junk v=>exact .junk v2
 | bool b=>cases af;exact .bool b
 | dw b=>cases af;exact .dw _
 | int k n=>cases af;exact .int k n
 | str s=>cases af;exact .str s
 | eJ=>cases af;exact .eJ
 | ptr id off b h =>
   cases af with
   | ptr _ _ cI k=>rw [bK _ _ h] at k;cases k;exact .ptr id off b h
 | cl id gid len z b cap h aO hle =>
   cases af with
   | cl _ _ _ _ cI oX k zx _ =>
     rw [bK _ _ h] at k;cases k;rw [bK _ _ aO] at zx;cases zx;exact .cl id gid len z b cap h aO hle
 | bU cells b o f h aj a_ =>
   cases af with
   | bU _ b o f k eX=>exact .bU cells b o f k fun j u aw=>a_ j u aw (eX j u aw)
 | b2 c a =>
   cases af with
   | b2 c a=>exact .b2 c a
   | ax _ _ _ b o cap f al hle hu k eX=>exact .ax [] 0 c b o cap f al hle hu k fun j u aw=>by simp at aw
   | cK _ _ z b o cap=>exact .cK _ _ z b o cap
 | ax cells len c b o cap f al hle hu h aj a_ =>
   cases af with
   | b2 c a=>exact .b2 c a
   | ax _ _ _ b o cap f al hle hu k eX=>exact .ax cells len c b o cap f al hle hu k fun j u aw=>a_ j u aw (eX j u aw)
   | cK _ _ z b o cap=>exact .cK _ _ z b o cap
 | raw cells len z b o cap =>
   cases af with
   | raw _ _ _ b o cap=>exact .raw _ _ z b o cap
 | cK cells len z b o cap =>
   cases af with
   | b2 c a=>exact .b2 _ _
   | ax _ _ _ b o cap f al hle hu k eX=>exact absurd rfl (hu z)
   | cK _ _ z b o cap=>exact .cK _ _ z b o cap
 | ref id off len c sz b cap h al hle =>
   cases af with
   | ref _ _ _ _ _ cI oX k DO DR=>rw [bK _ _ h] at k;cases k;exact .ref id off len c sz b oX h DO DR
 | func f as bs vs ws ad GL bS bZ aT r2 i1 i2 =>
   cases af with
   | func _ _ _ eZ Gv aJ aQ _ _ q1 aX =>
     refine .func f as bs eZ Gv aJ aQ bS bZ (fun j u v hu ae=>?_) (fun j u v hu ae=>?_)
     ·(have aw:j<vs.size:=by have:=(sv.1 hu).1;omega);exact i1 j u vs[j] hu (sS aw) (q1 j u v hu ae)
     ·(have aw:j<ws.size:=by have:=(sv.1 hu).1;omega);exact i2 j u ws[j] hu (sS aw) (aX j u v hu ae)
 | yield id b h =>
   cases af with
   | yield _ cI k=>rw [bK _ _ h] at k;cases k;exact .yield id b h
 | map id b h =>
   cases af with
   | map _ cI k=>rw [bK _ _ h] at k;cases k;exact .map id b h
 | agg as vs h p one r a_ =>
   cases af with
   | agg _ eZ k _ xx q =>
     refine .agg as eZ k p xx fun j u v hu ae=>?_;(have aw:j<vs.size:=by have:=(sv.1 hu).1;omega);exact a_ j u vs[j] hu (sS aw) (q j u v hu ae)
 | tuple as vs h p r a_ =>
   cases af with
   | tuple _ eZ k _ q =>
     refine .tuple as eZ k p fun j u v hu ae=>?_;(have aw:j<vs.size:=by have:=(sv.1 hu).1;omega);exact a_ j u vs[j] hu (sS aw) (q j u v hu ae)
 | cZ as c n z bs vs h lb ld one oe ro og kR io xh =>
   cases af with
   | cZ _ _ _ _ _ eZ k _ _ xx EK EM EL =>
     refine .cZ as c n z bs eZ k lb ld xx (fun j u v hu ae=>?_) (fun v ae=>?_) (fun j u v hu ae=>?_)
     ·(have aw:j<vs.size:=by have:=(sv.1 hu).1;omega);exact kR j u vs[j] hu (sS aw) (EK j u v hu ae)
     ·(have aw:as.length<vs.size:=by omega);exact io vs[as.length] (sS aw) (EM v ae)
     ·(have aw:as.length+1+j<vs.size:=by have:=(sv.1 hu).1;omega);exact xh j u vs[as.length+1+j] hu (sS aw) (EL j u v hu ae)
theorem j0 {f:I→Option I}:∀ {xs ys:List I},ec f xs=some ys→ys.length=xs.length∧∀ (j:Nat) (y:I),ys[j]?=some y→∃ x,xs[j]?=some x∧f x=some y
 | [],ys,h=>by simp [ec] at h;subst h;simp
 | x::xs,ys,h=>by
   simp only [ec] at h;split at h
   ·rename_i y aZ;simp only [su] at h;obtain ⟨ys,h,rfl⟩:=h;obtain ⟨ad,af⟩:=j0 h;refine ⟨by simp [ad],fun j z bk=>?_⟩;cases j with
    | zero=>simp at bk;subst bk;exact ⟨x,rfl,aZ⟩
    | succ j=>simpa using af j z (by simpa using bk)
   ·simp at h
theorem h1 {lo id0 n d:Nat} {u r:I} (h:bJ H lo id0 n d u=some r):(u.plain=true→r.plain=true)∧(u.cR=true→r.cR=true):=by
 cases d with
 | zero=>simp [bJ] at h
 | succ d =>
   unfold bJ at h;split at h
   ·simp only [su] at h;rename_i c;obtain ⟨cs,_,rfl⟩:=h;cases c <;> exact ⟨fun h=>h,fun h=>h⟩
   ·simp only [su] at h;obtain ⟨cs,_,rfl⟩:=h;exact ⟨fun h=>rfl,fun h=>rfl⟩
   ·simp only [su] at h;obtain ⟨cs,_,rfl⟩:=h;exact ⟨fun h=>rfl,fun h=>rfl⟩
   ·simp only [su] at h;obtain ⟨cs,_,rfl⟩:=h;exact ⟨fun h=>rfl,fun h=>rfl⟩
   ·split at h <;> simp at h;subst h;exact ⟨fun h=>rfl,fun h=>rfl⟩
   ·split at h
    ·simp at h;subst h;exact ⟨fun h=>rfl,fun h=>rfl⟩
    ·split at h
     ·simp at h;subst h;exact ⟨fun h=>rfl,fun h=>rfl⟩
     ·split at h
      ·simp only [su] at h;obtain ⟨cs,_,rfl⟩:=h;exact ⟨fun h=>rfl,fun h=>rfl⟩
      ·simp at h
   ·split at h
    ·simp at h;subst h;exact ⟨fun h=>rfl,fun h=>rfl⟩
    ·split at h
     ·simp at h;subst h;exact ⟨fun h=>rfl,fun h=>rfl⟩
     ·split at h
      ·simp only [su] at h;obtain ⟨cs,_,rfl⟩:=h;rename_i cap _ _ _ _ _ _;constructor <;> intro _ <;> (unfold g2;split <;> (try split) <;> rfl)
      ·simp at h
   ·split at h <;> simp at h;subst h;exact ⟨fun h=>rfl,fun h=>rfl⟩
   ·split at h
    ·simp at h;subst h;exact ⟨fun h=>rfl,fun h=>rfl⟩
    ·split at h <;> simp at h;subst h;exact ⟨fun h=>rfl,fun h=>rfl⟩
   ·simp at h
   ·simp at h
   ·simp at h
   ·simp at h;subst h;exact ⟨fun h=>h,fun h=>h⟩
theorem Cp {cap:Option Nat} {n m:Nat} (al:∀ k,cap=some k→m=k) (h:g2 cap n=.full):m=n:=by
 unfold g2 at h;cases cap with
 | none=>simp at h
 | some c =>
   simp only at h;split at h
   ·rename_i CP;rw [al c rfl,CP]
   ·cases h
theorem yQ {cap:Option Nat} {n:Nat} (z:Nat):g2 cap n≠.uniq z:=by
 unfold g2;cases cap with
 | none=>simp
 | some c=>simp only;split <;> simp
def gw (U:Nat→Option aH) (S:Nat→Nat→Prop) (w:World) (lo id0:Nat) (b o:Nat):Prop :=
 S b o∨((∃ id,lo≤id∧id≠id0∧U b=some (.obj id))∧∃ v,w.cell? ⟨b,o,none⟩=some v)
theorem l2 (ah:aK B U J S w H) {lo id0 n:Nat} {gr:List Nat} (bC:∀ (id b:Nat),id<lo→J[id]?=some b→gr[id]?=some b) (aN:∀ b,J[id0]?=some b→gr[n]?=some b) :
  ∀ (d:Nat) (u r:I) (v:Value),bJ H lo id0 n d u=some r→Rel J S w u v→Rel gr (gw U S w lo id0) w r v:=by
 intro d
 induction d with
 | zero=>intro u r v h;simp [bJ] at h
 | succ d a_ =>
   intro u r v h aj;have list:∀ {cells cs:List I} {b o:Nat} {f:Nat→Value},ec (bJ H lo id0 n d) cells=some cs →
     (∀ (j:Nat) (u:I),cells[j]?=some u→S b (o+j)∧w.cell? ⟨b,o+j,none⟩=some (f j)∧u.plain=true∧(f j).oneCell'=true) →
     (∀ (j:Nat) (u:I),cells[j]?=some u→Rel J S w u (f j)) →
     (∀ (j:Nat) (u:I),cs[j]?=some u→gw U S w lo id0 b (o+j)∧w.cell? ⟨b,o+j,none⟩=some (f j)∧u.plain=true∧(f j).oneCell'=true) ∧
     (∀ (j:Nat) (u:I),cs[j]?=some u→Rel gr (gw U S w lo id0) w u (f j)):=fun hm al fu=>by
    obtain ⟨ad,af⟩:=j0 hm;refine ⟨fun j y aZ=>?_,fun j y aZ=>?_⟩
    ·obtain ⟨x,ak,aP⟩:=af j y aZ;obtain ⟨a',bb,bt,b9⟩:=al j x ak;exact ⟨.inl a',bb,(h1 aP).1 bt,b9⟩
    ·obtain ⟨x,ak,aP⟩:=af j y aZ;exact a_ x y _ aP (fu j x ak)
   have arr:∀ {as bs:List I} {vs:Array Value},ec (bJ H lo id0 n d) as=some bs→vs.size=as.length→(∀ u∈as,u.plain=true) →
     (∀ (j:Nat) (u:I) (v:Value),as[j]?=some u→vs[j]?=some v→Rel J S w u v) →
     vs.size=bs.length∧(∀ u∈bs,u.plain=true)∧∀ (j:Nat) (u:I) (v:Value),bs[j]?=some u→vs[j]?=some v→Rel gr (gw U S w lo id0) w u v:=fun hm ao aB fu=>by
    obtain ⟨ad,af⟩:=j0 hm;refine ⟨by omega,fun y aZ=>?_,fun j y v aZ ae=>?_⟩
    ·obtain ⟨j,aw⟩:=tE.1 aZ;obtain ⟨x,ak,aP⟩:=af j y aw;exact (h1 aP).1 (aB x (sZ ak))
    ·obtain ⟨x,ak,aP⟩:=af j y aZ;exact a_ x y v aP (fu j x v ak ae)
   cases aj with
   | junk v=>simp only [bJ,Option.some.injEq] at h;subst h;exact .junk v
   | bool b=>simp only [bJ,Option.some.injEq] at h;subst h;exact .bool b
   | dw b=>simp only [bJ,Option.some.injEq] at h;subst h;exact .dw b
   | int k n=>simp only [bJ,Option.some.injEq] at h;subst h;exact .int k n
   | str s=>simp only [bJ,Option.some.injEq] at h;subst h;exact .str s
   | eJ=>simp only [bJ,Option.some.injEq] at h;subst h;exact .eJ
   | raw=>simp [bJ] at h
   | cZ=>simp [bJ] at h
   | cl=>simp [bJ] at h
   | map id b k =>
     simp only [bJ] at h;split at h
     ·rename_i aS;simp only [Option.some.injEq] at h;subst h;exact .map _ b (bC id b aS k)
     ·split at h
      ·rename_i heq;subst heq;simp only [Option.some.injEq] at h;subst h;exact .map _ b (aN b k)
      ·simp at h
   | yield id b k =>
     simp only [bJ] at h;split at h
     ·rename_i aS;simp only [Option.some.injEq] at h;subst h;exact .yield _ b (bC id b aS k)
     ·simp at h
   | b2 c a =>
     simp only [bJ,su] at h;obtain ⟨cs,hm,rfl⟩:=h;simp [ec] at hm;subst hm;exact .b2 _ _
   | ax cells len c b o cap f al hle hu k eX =>
     simp only [bJ,su] at h;obtain ⟨cs,hm,rfl⟩:=h;obtain ⟨dL,kV⟩:=list hm k eX;exact .ax _ _ _ b o cap f al hle hu dL kV
   | cK cells len z b o cap =>
     simp only [bJ,su] at h;obtain ⟨cs,hm,rfl⟩:=h;exact .cK _ _ z b o cap
   | bU cells b o f k eX =>
     simp only [bJ,su] at h;obtain ⟨cs,hm,rfl⟩:=h;obtain ⟨dL,kV⟩:=list hm k eX;exact .bU _ b o f dL kV
   | agg as vs k p one q =>
     simp only [bJ,su] at h;obtain ⟨cs,hm,rfl⟩:=h;obtain ⟨aC,aI,aR⟩:=arr hm k p q;exact .agg _ vs aC aI one aR
   | tuple as vs k p q =>
     simp only [bJ,su] at h;obtain ⟨cs,hm,rfl⟩:=h;obtain ⟨aC,aI,aR⟩:=arr hm k p q;exact .tuple _ vs aC aI aR
   | func f as bs vs ws aJ aQ bS bZ q1 aX =>
     simp only [bJ] at h;split at h
     ·rename_i cc ag;simp only [Option.some.injEq] at h;subst h;obtain ⟨aC,aI,aR⟩:=arr cc aJ bS q1;obtain ⟨bq,cI,eE⟩:=arr ag aQ bZ aX;exact .func f _ _ vs ws aC bq aI cI aR eE
     ·simp at h
   | ptr id off b k =>
     simp only [bJ] at h;split at h
     ·rename_i aS;simp only [Option.some.injEq] at h;subst h;exact .ptr _ _ b (bC id b aS k)
     ·rename_i fh;split at h
      ·rename_i heq;subst heq;simp only [Option.some.injEq] at h;subst h;exact .ptr _ _ b (aN b k)
      ·rename_i bO;split at h
       ·rename_i l aE;simp only [su] at h;obtain ⟨cs,hm,rfl⟩:=h;obtain ⟨au,cur,e,aC,aI,aR,bl,bd,bg⟩:=ah.obj id _ aE;rw [k] at aC;cases aC;obtain ⟨dg,dh⟩:=j0 hm;(have bx:∀ o,o<cur.size→w.cell? ⟨b,o,none⟩=cur[o]?:=fun o aq=>by simp [World.cell?,aR,aq]);have facts:∀ (j:Nat) (y:I),cs[j]?=some y→∃ x c,off+j<cur.size∧cur[off+j]?=some c∧c.oneCell'=true∧x.plain=true∧bJ H lo id0 n d x=some y∧Rel J S w x c:=fun j y aZ=>by
         obtain ⟨x,ak,aP⟩:=dh j y aZ;have h4:=(sv.1 ak).1;simp at h4;(have ft:off+j<l.length:=by omega);(have fi:off+j<cur.size:=by omega);have ao:l[off+j]?=some l[off+j]:=sK ft;have ae:cur[off+j]?=some cur[off+j]:=sS fi;obtain ⟨a',bb,bt,b9⟩:=bg (off+j) _ _ ao ae;rw [sN,tr,ao] at ak;simp at ak;subst ak;exact ⟨_,_,fi,ae,bb,I.dj _,aP,bt.view a'⟩
        refine .bU cs b off (fun j=>cur.getD (off+j) undef) (fun j y aZ=>?_) (fun j y aZ=>?_)
        ·obtain ⟨x,c,aw,c6,ad,aB,aP,ei⟩:=facts j y aZ;(have aO:cur.getD (off+j) undef=c:=by rw [sT,c6];rfl);rw [aO];exact ⟨.inr ⟨⟨id,by omega,bO,aI⟩,c,by rw [bx _ aw,c6]⟩,by rw [bx _ aw,c6],(h1 aP).1 aB,ad⟩
        ·obtain ⟨x,c,aw,c6,ad,aB,aP,ei⟩:=facts j y aZ;(have aO:cur.getD (off+j) undef=c:=by rw [sT,c6];rfl);simp only [aO];exact a_ x y c aP ei
       ·simp at h
   | ref id off len cap sz b eo k al hle =>
     simp only [bJ] at h;split at h
     ·rename_i aS;simp only [Option.some.injEq] at h;subst h;exact .ref _ _ _ _ _ b eo (bC id b aS k) al hle
     ·rename_i fh;split at h
      ·rename_i heq;subst heq;simp only [Option.some.injEq] at h;subst h;exact .ref _ _ _ _ _ b eo (aN b k) al hle
      ·rename_i bO;split at h
       ·rename_i row cQ;simp only [su] at h;obtain ⟨cs,hm,rfl⟩:=h;unfold rowOf at cQ;simp only at cQ;split at cQ
        ·rename_i l aE;split at cQ
         ·rename_i dI;simp only [Option.some.injEq] at cQ;obtain ⟨au,cur,e,aC,aI,aR,bl,bd,bg⟩:=ah.obj id _ aE;rw [k] at aC;cases aC;obtain ⟨dg,dh⟩:=j0 hm;(have bx:∀ o,o<cur.size→w.cell? ⟨b,o,none⟩=cur[o]?:=fun o aq=>by simp [World.cell?,aR,aq]);have facts:∀ (j:Nat) (y:I),cs[j]?=some y→∃ x c,off+j<cur.size∧cur[off+j]?=some c∧c.oneCell'=true∧x.plain=true∧bJ H lo id0 n d x=some y∧Rel J S w x c:=fun j y aZ=>by
           obtain ⟨x,ak,aP⟩:=dh j y aZ;subst cQ;have h4:=(sv.1 ak).1;simp at h4;(have ft:off+j<l.length:=by omega);(have fi:off+j<cur.size:=by omega);have ao:l[off+j]?=some l[off+j]:=sK ft;have ae:cur[off+j]?=some cur[off+j]:=sS fi;obtain ⟨a',bb,bt,b9⟩:=bg (off+j) _ _ ao ae;rw [sN,tp,if_pos (by omega),tr,ao] at ak;simp at ak;subst ak;exact ⟨_,_,fi,ae,bb,I.dj _,aP,bt.view a'⟩
          refine .ax cs len _ b off eo (fun j=>cur.getD (off+j) undef) (fun CZ=>Cp al CZ) hle (fun z=>yQ z) (fun j y aZ=>?_) (fun j y aZ=>?_)
          ·obtain ⟨x,c,aw,c6,ad,aB,aP,ei⟩:=facts j y aZ;(have aO:cur.getD (off+j) undef=c:=by rw [sT,c6];rfl);rw [aO];exact ⟨.inr ⟨⟨id,by omega,bO,aI⟩,c,by rw [bx _ aw,c6]⟩,by rw [bx _ aw,c6],(h1 aP).1 aB,ad⟩
          ·obtain ⟨x,c,aw,c6,ad,aB,aP,ei⟩:=facts j y aZ;(have aO:cur.getD (off+j) undef=c:=by rw [sT,c6];rfl);simp only [aO];exact a_ x y c aP ei
         ·simp at cQ
        ·simp at cQ
       ·simp at h
end
end Go.Proofs.YtfakoboiahbhaaaGreat.Ab


namespace Go.Proofs.YtfakoboiahbhaaaGreat.Ab
open Go
def fO (U:Nat→Option aH) (lo id0 n:Nat):Nat→Option aH:=fun b=>match U b with
 | some (.obj id)=>if id<lo then some (.obj id) else if id=id0 then some (.obj n) else none
 | some (.cell id j)=>if id<lo then some (.cell id j) else if id=id0 then some (.cell n j) else none
 | x=>x
section
variable {P:Program} {B N:Nat} {J:List Nat} {w:World} {H:List ar} {U:Nat→Option aH} {S:Nat→Nat→Prop}
theorem gx.narrow {br na:Nat→Option aH} {ck:List Nat} {bL js:Nat→Nat→Prop} {bY:World} (bK:Ext J ck) {id:Nat} {o:ar} (h:gx U J S w id o) (af:gx br ck bL bY id o)
  (cm:∀ b o,bL b o→js b o) (av:∀ b l,br b=some l→(l=.obj id∨∃ j,l=.cell id j)→na b=some l∧∀ o,js b o→bL b o):gx na J js bY id o:=by
 cases o with
 | dead=>trivial
 | map es clock =>
   obtain ⟨b,bz,aC,aI,aR,bl,bd,bg⟩:=h;obtain ⟨cI,Ci,a',bb,bt,b9,dY,fZ⟩:=af;rw [bK _ _ aC] at a';cases a';obtain ⟨aJ,aQ⟩:=av b _ bb (.inl rfl);refine ⟨b,Ci,aC,aJ,bt,b9,fun o aq=>dY o (aQ o aq),fun j i k v x hu ae=>?_⟩;(have aw:j<bz.size:=by have:=(sv.1 hu).1;omega);obtain ⟨bS,bZ,ed,fR,mV⟩:=bg j i k v bz[j] hu (sS aw);obtain ⟨q1,aX,cy,dF,mZ⟩:=fZ j i k v x hu ae;exact ⟨q1,aX,(ed.narrow bK cy).mono (Ext.refl J) (fun b o h=>⟨cm b o h,rfl⟩),dF,(mV.narrow bK mZ).mono (Ext.refl J) (fun b o h=>⟨cm b o h,rfl⟩)⟩
 | iter m s e t =>
   obtain ⟨b,ee,aC,aI,aR,bl,bd⟩:=h;obtain ⟨cI,GF,a',bb,bt,b9,dY⟩:=af;rw [bK _ _ aC] at a';cases a';rw [bK _ _ aR] at bt;cases bt;obtain ⟨aJ,aQ⟩:=av b _ bb (.inl rfl);exact ⟨b,ee,aC,aJ,aR,b9,fun o aq=>dY o (aQ o aq)⟩
 | cells l =>
   obtain ⟨b,cur,e,aC,aI,aR,bl,bd,bg⟩:=h;obtain ⟨cI,o1,ca,a',bb,bt,b9,dY,fZ⟩:=af;rw [bK _ _ aC] at a';cases a';obtain ⟨aJ,aQ⟩:=av b _ bb (.inl rfl);refine ⟨b,o1,ca,aC,aJ,bt,b9,fun o aq=>dY o (aQ o aq),fun j u v hu ae=>?_⟩;(have aw:j<cur.size:=by have:=(sv.1 hu).1;omega);obtain ⟨bS,bZ,ed,fR⟩:=bg j u cur[j] hu (sS aw);obtain ⟨q1,aX,cy,dF⟩:=fZ j u v hu ae;refine ⟨q1,aX,(ed.narrow bK cy).mono (Ext.refl J) (fun b o h=>⟨cm b o h,rfl⟩),?_⟩;have hm:=fun b ag=>av b (.cell id j) ag (.inr ⟨j,rfl⟩);unfold aW at dF ⊢;split at dF
   ·rcases dF with dF | ⟨ad,af,aG,a6,bM,bT,cJ,cL,cN⟩
    ·exact .inl dF
    ·exact .inr ⟨(hm _ ad).1,af,aG,a6,bM,bT,cJ,cL,fun o aq ai=>cN o aq ((hm _ ad).2 o ai)⟩
   ·simp [I.cR] at q1
   ·obtain ⟨ad,aV,a6,bM,bT,cJ,ai,⟨cur,e,cL,cN,dm⟩,fr⟩:=dF;have g9:=ai;rw [sR] at g9;exact ⟨(hm _ ad).1,aV,a6,bM,bT,cJ,ai,⟨cur,e,cL,cN,fun j u v hu ae=>⟨(dm j u v hu ae).1,A5 (g9 u (sZ hu)) (dm j u v hu ae).2⟩⟩,fun o ai=>fr o ((hm _ ad).2 o ai)⟩
   ·exact fun v ae=>(dF v ae).mono fun b ag=>⟨(hm b ag).1,rfl,(hm b ag).2⟩
   ·trivial
 | grow l gid z =>
   obtain ⟨b,cur,e,aC,aI,aR,bl,bd,bg,cap,c',dv⟩:=h;obtain ⟨cI,o1,ca,a',bb,bt,b9,dY,fZ,oX,nk,nm⟩:=af;rw [bK _ _ aC] at a';cases a';rw [bK _ _ c'] at nk;cases nk;obtain ⟨aJ,aQ⟩:=av b _ bb (.inl rfl);refine ⟨b,o1,ca,aC,aJ,bt,b9,fun o aq=>dY o (aQ o aq),fun j u v hu ae=>?_,cap,c',nm⟩;(have aw:j<cur.size:=by have:=(sv.1 hu).1;omega);obtain ⟨bS,bZ,ed,fR⟩:=bg j u cur[j] hu (sS aw);obtain ⟨q1,aX,cy,dF⟩:=fZ j u v hu ae;refine ⟨q1,aX,(ed.narrow bK cy).mono (Ext.refl J) (fun b o h=>⟨cm b o h,rfl⟩),?_⟩;have hm:=fun b ag=>av b (.cell id j) ag (.inr ⟨j,rfl⟩);unfold aW at dF ⊢;split at dF
   ·rcases dF with dF | ⟨ad,af,aG,a6,bM,bT,cJ,cL,cN⟩
    ·exact .inl dF
    ·exact .inr ⟨(hm _ ad).1,af,aG,a6,bM,bT,cJ,cL,fun o aq ai=>cN o aq ((hm _ ad).2 o ai)⟩
   ·simp [I.cR] at q1
   ·obtain ⟨ad,aV,a6,bM,bT,cJ,ai,⟨cur,e,cL,cN,dm⟩,fr⟩:=dF;have g9:=ai;rw [sR] at g9;exact ⟨(hm _ ad).1,aV,a6,bM,bT,cJ,ai,⟨cur,e,cL,cN,fun j u v hu ae=>⟨(dm j u v hu ae).1,A5 (g9 u (sZ hu)) (dm j u v hu ae).2⟩⟩,fun o ai=>fr o ((hm _ ad).2 o ai)⟩
   ·exact fun v ae=>(dF v ae).mono fun b ag=>⟨(hm b ag).1,rfl,(hm b ag).2⟩
   ·trivial
 | loop st cF fn T params assign body jx =>
   obtain ⟨ak,aZ,b,L,aC,aI,aR,bl,bd,bg,c',dv,dV⟩:=h;obtain ⟨_,_,cI,jo,a',bb,bt,b9,dY,fZ,nk,nm,B8⟩:=af;rw [bK _ _ aC] at a';cases a';refine ⟨ak,aZ,b,jo,aC,(av b _ bb (.inl rfl)).1,bt,b9,dY,fZ,nk,fun i u v hu ae=>?_,B8⟩;(have aw:i<L.tmps.size:=by have:=(sv.1 hu).1;omega);exact ⟨(nm i u v hu ae).1,(((dv i u L.tmps[i] hu (sS aw)).2).narrow bK (nm i u v hu ae).2).mono (Ext.refl J) (fun b o h=>⟨cm b o h,rfl⟩)⟩
theorem n1 {lo id0 n b:Nat} {l:aH} (h:U b=some l) (ao:∀ id,(l=.obj id∨∃ j,l=.cell id j)→id<lo):fO U lo id0 n b=some l:=by
 unfold fO;rw [h];cases l with
 | obj id=>simp [ao id (.inl rfl)]
 | cell id j=>simp [ao id (.inr ⟨j,rfl⟩)]
 | _=>rfl
theorem D9 {lo id0 n b:Nat} (h:U b=none):fO U lo id0 n b=none:=by simp [fO,h]
theorem o_ {br:Nat→Option aH} {ck:List Nat} {bL:Nat→Nat→Prop} {bY:World} {a4:List ar} (ah:aK B U J S w H) (bK:Ext J ck) (aA:bj U S w br bL bY) (cn:aK B br ck bL bY a4)
  (h_:∀ id,id<H.length→a4[id]?=H[id]?) (id0 n:Nat) :
  bj U S w (fO br H.length id0 n) (gw br bL bY H.length id0) bY∧aK B (fO br H.length id0 n) J (gw br bL bY H.length id0) bY H:=by
 have aN:∀ b,fO br H.length id0 n b≠none→br b≠none:=fun b h aV=>h (D9 aV);refine ⟨⟨aA.os,aA.tape,aA.output,aA.size,aA.cD,fun b o h=>⟨.inl (aA.set b o h).1,(aA.set b o h).2⟩,fun b o h=>?_,fun b h=>aA.own b (aN b h)⟩,⟨ah.cE,fun id o aq=>?_,fun b o h=>?_,fun b l ag=>?_,cn.cW⟩⟩
 ·rcases h with h | ⟨⟨id,_,_,h⟩,_⟩
  ·exact aA.fresh b o h
  ·rcases aA.own b (by simp [h]) with ad | ad
   ·exact .inr (.inl ad)
   ·exact .inr (.inr ad)
 ·have aS:=(sv.1 aq).1;have pQ:a4[id]?=some o:=by rw [h_ id aS];exact aq
  refine (ah.obj id o aq).narrow bK (cn.obj id o pQ) (fun b o h=>.inl h) fun b l ag ao=>⟨n1 ag fun bA c9=>?_,fun o h=>?_⟩
  ·have:bA=id:=by
    rcases ao with rfl | ⟨j,rfl⟩ <;> rcases c9 with h | ⟨zs,h⟩ <;> cases h <;> rfl
   omega
  ·rcases h with h | ⟨⟨bA,ad,_,h⟩,_⟩
   ·exact h
   ·rw [ag] at h;rcases ao with rfl | ⟨j,rfl⟩
    ·cases h;omega
    ·cases h
 ·rcases h with h | ⟨_,h⟩
  ·exact cn.cd b o h
  ·exact h
 ·cases h:br b with
  | none=>simp [fO,h] at ag
  | some l'=>exact cn.base b l' h
theorem kv {ck gr:List Nat} {bY:World} {br na:Nat→Option aH} {bL js:Nat→Nat→Prop} {l l':aH} (fj:∀ b,br b=some l→na b=some l'∧∀ o,js b o→bL b o) {a4:List ar} {lo id0 n d:Nat} {u r:I} {v:Value}
  (b1:∀ (d:Nat) (u r:I) (v:Value),bJ a4 lo id0 n d u=some r→Rel ck bL bY u v→Rel gr js bY r v)
  (h:bJ a4 lo id0 n d u=some r) (aq:aW br ck bL bY l u v):aW na gr js bY l' r v:=by
 by_cases aB:u.plain=true
 ·exact aW.b4 ((h1 h).1 aB)
 ·cases d with
  | zero=>simp [bJ] at h
  | succ d =>
    obtain ⟨cells,len,c,rfl⟩:∃ cells len c,u=.ax cells len c:=by
     cases u <;> first | exact ⟨_,_,_,rfl⟩ | exact absurd rfl aB | simp [bJ] at h
    simp only [bJ,su] at h;obtain ⟨cs,hm,rfl⟩:=h;obtain ⟨dg,dh⟩:=j0 hm;cases c with
    | shared=>exact absurd rfl aB
    | full=>exact absurd rfl aB
    | own z =>
      cases v with
      | slice aa m eo =>
       cases aa with
       | none=>trivial
       | some a =>
        simp only [aW] at aq ⊢;rcases aq with ⟨ad,af,aG⟩ | ⟨ad,af,aG,a6,bM,bT,cJ,cL,cN⟩
        ·subst aG;simp [ec] at hm;subst hm;exact .inl ⟨ad,af,rfl⟩
        ·exact .inr ⟨(fj _ ad).1,af,aG,a6,bM,bT,by omega,cL,fun o aq ai=>cN o (by omega) ((fj _ ad).2 o ai)⟩
      | _=>trivial
    | uniq z =>
      cases v with
      | slice aa m eo =>
       cases aa with
       | none=>trivial
       | some a =>
        simp only [aW] at aq ⊢;rcases aq with ⟨ad,af,aG⟩ | ⟨ad,af,a6,bM,bT,cJ,⟨cur,e,cL,cN,dm⟩,fr⟩
        ·subst aG;simp [ec] at hm;subst hm;exact .inl ⟨ad,af,rfl⟩
        ·refine .inr ⟨(fj _ ad).1,af,a6,bM,bT,by omega,⟨cur,e,cL,cN,fun j y c aZ al=>?_⟩,fun o ai=>fr o ((fj _ ad).2 o ai)⟩;obtain ⟨x,ak,aP⟩:=dh j y aZ;obtain ⟨q1,aX,cy⟩:=dm j x c ak al;exact ⟨(h1 aP).1 q1,aX,b1 d x y c aP cy⟩
      | _=>trivial
theorem xA (ah:aK B U J S w H) {a4:List ar} {r v:I} {x:Value} {bY:World} (h_:∀ id,id<H.length→a4[id]?=H[id]?) {n d:Nat} (aP:bJ a4 H.length a4.length n d r=some v)
  (aB:a1 B U J S w a4 r x bY):a1 B U J S w H v x bY:=by
 obtain ⟨br,ck,bL,bK,aA,cn,aj,aq⟩:=aB;obtain ⟨dx,aG⟩:=o_ ah bK aA cn h_ a4.length n
 have b1:=fun d u r v=>l2 (gr:=J) (id0:=a4.length) (n:=n) cn (lo:=H.length) (fun id b aS ag=>by
   (have h5:id<J.length:=by rw [ah.cE];exact aS);have ak:=sK h5;rw [bK _ _ ak] at ag;cases ag;exact ak) (fun b ag=>by
   have:=(sv.1 ag).1;rw [cn.cE] at this;omega) d u r v
 refine ⟨_,J,_,Ext.refl J,dx,aG,b1 d r v x aP aj,kv (l:=.res) (fun b ag=>⟨n1 ag (fun id h=>by rcases h with h | ⟨j,h⟩ <;> cases h),fun o h=>?_⟩) b1 aP aq⟩;rcases h with h | ⟨⟨id,_,_,h⟩,_⟩
 ·exact h
 ·rw [ag] at h;cases h
theorem EB (ah:aK B U J S w H) {a4:List ar} {r v:I} {x:Value} {bY:World} (h_:∀ id,id<H.length→a4[id]?=H[id]?) {id0 d gZ:Nat} {l l':List I} (fh:H.length≤id0)
  (aE:a4[id0]?=some (.cells l)) (ao:ec (bJ a4 H.length id0 H.length gZ) l=some l') (aP:bJ a4 H.length id0 H.length d r=some v)
  (aB:a1 B U J S w a4 r x bY):a1 B U J S w (H++[.cells l']) v x bY:=by
 obtain ⟨br,ck,bL,bK,aA,cn,aj,aq⟩:=aB;obtain ⟨dx,aG⟩:=o_ ah bK aA cn h_ id0 H.length;obtain ⟨dE,cur,e,aC,aI,aR,bl,bd,bg⟩:=cn.obj id0 _ aE;have my:Ext J (J++[dE]):=Ext.append J [dE]
 have b1:=fun d u r v=>l2 (gr:=J++[dE]) (id0:=id0) (n:=H.length) cn (lo:=H.length) (fun id b aS ag=>by
   (have h5:id<J.length:=by rw [ah.cE];exact aS);have ak:=sK h5;rw [bK _ _ ak] at ag;cases ag;exact my _ _ ak) (fun b ag=>by
   rw [aC] at ag;cases ag;exact Ext.last ah dE) d u r v
 obtain ⟨dg,dh⟩:=j0 ao;have pE:∀ id,(aH.obj id0≠.obj id)∨id=id0:=fun id=>by
  by_cases h:id=id0
  ·exact .inr h
  ·exact .inl fun e=>h (by cases e;rfl)
 have kE:∀ b,br b=some (.obj id0)→fO br H.length id0 H.length b=some (.obj H.length):=fun b ag=>by
  simp only [fO,ag];simp;omega
 have C':∀ b j,br b=some (.cell id0 j)→fO br H.length id0 H.length b=some (.cell H.length j):=fun b j ag=>by
  simp only [fO,ag];simp;omega
 have cm:∀ b l,br b=some l→(∀ id,l≠.obj id∨id=id0)→∀ o,gw br bL bY H.length id0 b o→bL b o:=fun b l ag bO o h=>by
  rcases h with h | ⟨⟨id,_,aN,h⟩,_⟩
  ·exact h
  ·rw [ag] at h;cases h;rcases bO id with h | h
   ·exact absurd rfl h
   ·exact absurd h aN
 refine ⟨_,J++[dE],_,my,dx,aG.push dE ⟨dE,cur,e,Ext.last ah dE,kE dE aI,aR,by omega,fun o h=>bd o (cm dE _ aI pE o h),fun j u c hu al=>?_⟩,
  b1 d r v x aP aj,kv (l:=.res) (fun b ag=>⟨n1 ag (fun id h=>by rcases h with h | ⟨j,h⟩ <;> cases h),cm b _ ag (fun id=>.inl (by simp))⟩) b1 aP aq⟩
 obtain ⟨y,aZ,pD⟩:=dh j u hu;obtain ⟨a',bb,bt,b9⟩:=bg j y c aZ al;exact ⟨(h1 pD).2 a',bb,b1 gZ y u c pD bt,kv (l:=.cell id0 j) (fun b ag=>⟨C' b j ag,cm b _ ag (fun id=>.inl (by simp))⟩) b1 pD b9⟩
theorem mapM_some {f:I→Option I}:∀ {xs ys:List (Nat×I×I)},mapM f xs=some ys→ys.length=xs.length∧∀ (j i:Nat) (k v:I),ys[j]?=some (i,k,v)→∃ df v0,xs[j]?=some (i,df,v0)∧f df=some k∧f v0=some v
 | [],ys,h=>by simp [mapM] at h;subst h;simp
 | (i0,df,v0)::xs,ys,h=>by
   simp only [mapM] at h;split at h
   ·rename_i aJ v1 av ae;simp only [su] at h;obtain ⟨ys,h,rfl⟩:=h;obtain ⟨ad,af⟩:=mapM_some h;refine ⟨by simp [ad],fun j i k v aw=>?_⟩;cases j with
    | zero=>simp at aw;obtain ⟨rfl,rfl,rfl⟩:=aw;exact ⟨df,v0,rfl,av,ae⟩
    | succ j=>simpa using af j i k v (by simpa using aw)
   ·simp at h
theorem EC (ah:aK B U J S w H) {a4:List ar} {r v:I} {x:Value} {bY:World} (h_:∀ id,id<H.length→a4[id]?=H[id]?) {id0 d gZ:Nat} {es es':List (Nat×I×I)} {clock:Nat} (fh:H.length≤id0)
  (aE:a4[id0]?=some (.map es clock)) (ao:mapM (bJ a4 H.length id0 H.length gZ) es=some es') (aP:bJ a4 H.length id0 H.length d r=some v)
  (aB:a1 B U J S w a4 r x bY):a1 B U J S w (H++[.map es' clock]) v x bY:=by
 obtain ⟨br,ck,bL,bK,aA,cn,aj,aq⟩:=aB;obtain ⟨dx,aG⟩:=o_ ah bK aA cn h_ id0 H.length;obtain ⟨dE,bz,aC,aI,aR,bl,bd,bg⟩:=cn.obj id0 _ aE;have my:Ext J (J++[dE]):=Ext.append J [dE]
 have b1:=fun d u r v=>l2 (gr:=J++[dE]) (id0:=id0) (n:=H.length) cn (lo:=H.length) (fun id b aS ag=>by
   (have h5:id<J.length:=by rw [ah.cE];exact aS);have ak:=sK h5;rw [bK _ _ ak] at ag;cases ag;exact my _ _ ak) (fun b ag=>by
   rw [aC] at ag;cases ag;exact Ext.last ah dE) d u r v
 obtain ⟨dg,dh⟩:=mapM_some ao;have pE:∀ id,(aH.obj id0≠.obj id)∨id=id0:=fun id=>by
  by_cases h:id=id0
  ·exact .inr h
  ·exact .inl fun e=>h (by cases e;rfl)
 have kE:∀ b,br b=some (.obj id0)→fO br H.length id0 H.length b=some (.obj H.length):=fun b ag=>by
  simp only [fO,ag];simp;omega
 have cm:∀ b l,br b=some l→(∀ id,l≠.obj id∨id=id0)→∀ o,gw br bL bY H.length id0 b o→bL b o:=fun b l ag bO o h=>by
  rcases h with h | ⟨⟨id,_,aN,h⟩,_⟩
  ·exact h
  ·rw [ag] at h;cases h;rcases bO id with h | h
   ·exact absurd rfl h
   ·exact absurd h aN
 refine ⟨_,J++[dE],_,my,dx,aG.push dE ⟨dE,bz,Ext.last ah dE,kE dE aI,aR,by omega,fun o h=>bd o (cm dE _ aI pE o h),fun j i k v c hu al=>?_⟩,
  b1 d r v x aP aj,kv (l:=.res) (fun b ag=>⟨n1 ag (fun id h=>by rcases h with h | ⟨j,h⟩ <;> cases h),cm b _ ag (fun id=>.inl (by simp))⟩) b1 aP aq⟩
 obtain ⟨df,v0,aZ,y0,kC⟩:=dh j i k v hu;obtain ⟨a',bb,bt,b9,dY⟩:=bg j i df v0 c aZ al;exact ⟨a',(h1 y0).1 bb,b1 gZ df k _ y0 bt,(h1 kC).1 b9,b1 gZ v0 v _ kC dY⟩
theorem yA {u:I} (h:u.plain=true):u.g0.plain=true:=by
 unfold I.g0;split
 ·rfl
 ·exact h
theorem Cg {u:I} (h:u.plain=true):u.cr.plain=true:=by
 unfold I.cr;split <;> first | rfl | exact h
theorem Rel.g0 {u:I} {v:Value} (h:Rel J S w u v):Rel J S w u.g0 v:=by
 unfold I.g0;split
 ·rename_i c n;cases h with
  | b2 _ a=>exact .b2 _ a
  | ax _ _ _ b o cap f al hle hu k eX=>exact .ax _ _ _ b o cap f (by simp) hle (by simp) k eX
 ·exact h
theorem Rel.cr {u:I} {v:Value} (h:Rel J S w u v):Rel J S w u.cr v:=by
 unfold I.cr;split
 ·rename_i c n;cases h with
  | b2 _ a=>exact .b2 _ a
  | ax _ _ _ b o cap f al hle hu k eX=>exact .ax _ _ _ b o cap f (by simp) hle (by simp) k eX
 ·cases h with
  | agg as vs l p one r =>
    refine .agg _ vs (by simpa using l) (fun u hu=>?_) one fun j u v hu ae=>?_
    ·obtain ⟨x,ak,rfl⟩:=sM.1 hu;exact yA (p x ak)
    ·rw [sN] at hu;simp only [su] at hu;obtain ⟨x,ak,rfl⟩:=hu;exact (r j x v ak ae).g0
 ·cases h with
  | tuple as vs l p r =>
    refine .tuple _ vs (by simpa using l) (fun u hu=>?_) fun j u v hu ae=>?_
    ·obtain ⟨x,ak,rfl⟩:=sM.1 hu;exact yA (p x ak)
    ·rw [sN] at hu;simp only [su] at hu;obtain ⟨x,ak,rfl⟩:=hu;exact (r j x v ak ae).g0
 ·exact h
theorem aW.cr {l:aH} {u:I} {v:Value} (h:aW U J S w l u v):aW U J S w l u.cr v:=by
 by_cases aB:u.plain=true
 ·exact aW.b4 (Cg aB)
 ·have:u.cr=u:=by
   cases u <;> first | exact absurd rfl aB | skip
   ·rename_i c n k;cases k <;> first | rfl | exact absurd rfl aB
   ·rfl
   ·rfl
   ·rfl
  rw [this];exact h
theorem a9.cr {bB:Nat→aH} {T:List I} {bh:List Value} (h:a9 bB U J S w T bh):a9 bB U J S w (T.map I.cr) bh :=
 ⟨by simpa using h.len,fun i u v hu ae=>by
  rw [sN] at hu;simp only [su] at hu;obtain ⟨x,ak,rfl⟩:=hu;exact (h.rel i x v ak ae).cr,fun i u v hu ae=>by
  rw [sN] at hu;simp only [su] at hu
  obtain ⟨x,ak,rfl⟩:=hu;exact (h.own i x v ak ae).cr⟩
theorem a1.cr {H':List ar} {r:I} {v:Value} {w':World} (h:a1 B U J S w H' r v w'):a1 B U J S w H' r.cr v w':=by
 obtain ⟨br,ck,bL,a,b,c,d,e⟩:=h;exact ⟨br,ck,bL,a,b,c,d.cr,e.cr⟩
theorem Rel.pure (bV:List Nat) {u:I} {v:Value} (h:Rel J S w u v):∀ {d:Nat},cj d u=true→Rel bV S w u v:=by
 have all:∀ {d:Nat} {l:List I},l.all (cj d)=true→∀ {j:Nat} {u:I},l[j]?=some u→cj d u=true:=fun h j u hu=>by
  rw [sR] at h;exact h u (sZ hu)
 induction h with
 | junk v=>intro d h;cases d <;> simp [cj] at h
 | bool b=>intros;exact .bool b
 | dw b=>intros;exact .dw b
 | int k n=>intros;exact .int k n
 | str s=>intros;exact .str s
 | eJ=>intros;exact .eJ
 | ptr id off b k=>intro d h;cases d <;> simp [cj] at h
 | bU cells b o f k eX a_ =>
   intro d h;cases d with
   | zero=>simp [cj] at h
   | succ d=>simp only [cj] at h;exact .bU cells b o f k fun j u aw=>a_ j u aw (all h aw)
 | b2 c a=>intros;exact .b2 c a
 | ax cells len c b o cap f al hle hu k eX a_ =>
   intro d h;cases d with
   | zero=>simp [cj] at h
   | succ d=>simp only [cj] at h;exact .ax cells len c b o cap f al hle hu k fun j u aw=>a_ j u aw (all h aw)
 | cK cells len z b o cap=>intros;exact .cK cells len z b o cap
 | raw=>intro d h;cases d <;> simp [cj] at h
 | cZ=>intro d h;cases d <;> simp [cj] at h
 | cl=>intro d h;cases d <;> simp [cj] at h
 | ref id off len c sz b cap k al hle=>intro d h;cases d <;> simp [cj] at h
 | func f as bs vs ws ad af bS bZ aT r2 i1 i2 =>
   intro d h;cases d with
   | zero=>simp [cj] at h
   | succ d =>
     simp only [cj,sO] at h;exact .func f as bs vs ws ad af bS bZ (fun j u v hu ae=>i1 j u v hu ae (all h.1 hu)) (fun j u v hu ae=>i2 j u v hu ae (all h.2 hu))
 | yield id b k=>intro d h;cases d <;> simp [cj] at h
 | map id b k=>intro d h;cases d <;> simp [cj] at h
 | agg as vs k p one r a_ =>
   intro d h;cases d with
   | zero=>simp [cj] at h
   | succ d=>simp only [cj] at h;exact .agg as vs k p one fun j u v hu ae=>a_ j u v hu ae (all h hu)
 | tuple as vs k p r a_ =>
   intro d h;cases d with
   | zero=>simp [cj] at h
   | succ d=>simp only [cj] at h;exact .tuple as vs k p fun j u v hu ae=>a_ j u v hu ae (all h hu)
def dW (U:Nat→Option aH):Nat→Option aH:=fun b=>match U b with
 | some (.arg i)=>some (.arg i)
 | _=>none
theorem yo {b i:Nat} (h:U b=some (.arg i)):dW U b=some (.arg i):=by simp [dW,h]
theorem lM {b:Nat} {l:aH} (h:dW U b=some l):∃ i,U b=some (.arg i)∧l=.arg i:=by
 unfold dW at h;split at h
 ·rename_i i hi;cases h;exact ⟨i,hi,rfl⟩
 ·cases h
theorem aW.pure (bV:List Nat) {i:Nat} {u:I} {v:Value} {d:Nat} (aB:cj d u=true) (h:aW U J S w (.arg i) u v):aW (dW U) bV S w (.arg i) u v:=by
 unfold aW at h ⊢;split at h
 ·rcases h with h | ⟨ad,h⟩
  ·exact .inl h
  ·exact .inr ⟨yo ad,h⟩
 ·rename_i cells len z a n cap;cases d with
  | zero=>simp [cj] at aB
  | succ d =>
    simp only [cj] at aB;rcases h with h | ⟨ad,af,aG,a6,bM,bT,⟨cur,e,cJ,cL,cN⟩,dm⟩
    ·exact .inl h
    ·refine .inr ⟨yo ad,af,aG,a6,bM,bT,⟨cur,e,cJ,cL,fun j u v hu ae=>?_⟩,dm⟩;obtain ⟨bS,bZ,ed⟩:=cN j u v hu ae;rw [sR] at aB;exact ⟨bS,bZ,ed.pure bV (aB u (sZ hu))⟩
 ·cases d <;> simp [cj] at aB
 ·cases d <;> simp [cj] at aB
 ·trivial
theorem a9.pure {T:List I} {bh:List Value} (h:a9 (fun i=>.arg i) U J S w T bh) (aB:T.all (cj 8)=true):a9 (fun i=>.arg i) (dW U) [] S w T bh:=by
 rw [sR] at aB;exact ⟨h.len,fun i u v hu ae=>(h.rel i u v hu ae).pure [] (aB u (sZ hu)),fun i u v hu ae=>(h.own i u v hu ae).pure [] (aB u (sZ hu))⟩
theorem zf (ah:aK B U J S w H):aK B (dW U) [] S w [] :=
 ⟨rfl,fun id o h=>by simp at h,ah.cd,fun b l ag=>by obtain ⟨i,h,_⟩:=lM ag;exact ah.base b _ h,ah.cW⟩
theorem z_ (ah:aK B U J S w H) {a4:List ar} {r v:I} {x:Value} {bY:World} {n d:Nat} (aP:bJ a4 0 a4.length n d r=some v)
  (aB:a1 B (dW U) [] S w a4 r x bY):a1 B U J S w H v x bY:=by
 classical
 obtain ⟨br,ck,bL,bK,aA,cn,aj,aq⟩:=aB
 let az:Nat→Option aH:=fun b=>match U b with
  | some (.obj id)=>some (.obj id)
  | some (.cell id j)=>some (.cell id j)
  | _=>match br b with
    | some (.obj _)=>none
    | some (.cell _ _)=>none
    | l=>l
 have jU:∀ b l,U b=some l→((∃ id,l=.obj id)∨∃ id j,l=.cell id j)→az b=some l∧br b=none∧b<w.heap.size:=fun b l ag ao=>by
  have aS:=(ah.base b l ag).2;have af:br b=none:=by
   cases h:br b with
   | none=>rfl
   | some l' =>
     rcases aA.own b (by simp [h]) with ad | ad
     ·exfalso;apply ad;rcases ao with ⟨id,rfl⟩ | ⟨id,j,rfl⟩ <;> simp [dW,ag]
     ·omega
  refine ⟨?_,af,aS⟩;rcases ao with ⟨id,rfl⟩ | ⟨id,j,rfl⟩ <;> simp [az,ag]
 have pW:∀ b,az b≠none→U b≠none∨br b≠none:=fun b h=>by
  by_cases ad:U b=none
  ·right;intro af;apply h;simp [az,ad,af]
  ·exact .inl ad
 have cc:∀ b,dW U b≠none→U b≠none:=fun b h aV=>h (by simp [dW,aV]);have pe:∀ b o,gw br bL bY 0 a4.length b o→S b o∨U b≠none∨w.heap.size≤b:=fun b o h=>by
  rcases h with h | ⟨⟨id,_,_,h⟩,_⟩
  ·rcases aA.fresh b o h with h | h | h
   ·exact .inl h
   ·exact .inr (.inl (cc b h))
   ·exact .inr (.inr h)
  ·rcases aA.own b (by simp [h]) with ad | ad
   ·exact .inr (.inl (cc b ad))
   ·exact .inr (.inr ad)
 have lX:bj U S w az (gw br bL bY 0 a4.length) bY :=
  ⟨aA.os,aA.tape,aA.output,aA.size,fun b ag aN=>aA.cD b ag (by simp [dW,aN]),fun b o h=>⟨.inl (aA.set b o h).1,(aA.set b o h).2⟩,pe,fun b h=>by
   rcases pW b h with h | h
   ·exact .inl h
   ·rcases aA.own b h with h | h
    ·exact .inl (cc b h)
    ·exact .inr h⟩
 have b1:=fun d u r v=>l2 (gr:=J) (id0:=a4.length) (n:=n) cn (lo:=0) (fun id b aS ag=>by omega) (fun b ag=>by
   have:=(sv.1 ag).1;rw [cn.cE] at this;omega) d u r v
 refine ⟨az,J,_,Ext.refl J,lX,ah.frame lX (fun b l ag ao=>?_) (fun b o h=>?_) (fun b l ag=>?_),b1 d r v x aP aj,kv (l:=.res) (fun b ag=>?_) b1 aP aq⟩
 ·obtain ⟨ad,af,aG⟩:=jU b l ag ao;have aN:dW U b=none:=by rcases ao with ⟨id,rfl⟩ | ⟨id,j,rfl⟩ <;> simp [dW,ag]
  refine ⟨ad,aA.cD b aG aN,fun o h=>?_⟩;rcases h with h | ⟨⟨id,_,_,h⟩,_⟩
  ·rcases aA.fresh b o h with h | h | h
   ·exact h
   ·exact absurd aN h
   ·omega
  ·rw [af] at h;cases h
 ·rcases h with h | ⟨_,h⟩
  ·exact cn.cd b o h
  ·exact h
 ·by_cases h:U b=none
  ·(have bu:br b≠none:=fun af=>by simp [az,h,af] at ag);cases af:br b with
   | none=>exact absurd af bu
   | some l'=>exact cn.base b l' af
  ·cases ad:U b with
   | none=>exact absurd ad h
   | some l'=>obtain ⟨p,q⟩:=ah.base b l' ad;exact ⟨p,vr q aA.size⟩
 ·refine ⟨?_,fun o h=>?_⟩
  ·cases ad:U b with
   | none=>simp [az,ad,ag]
   | some l =>
     cases l with
     | obj id=>have:=(jU b _ ad (.inl ⟨id,rfl⟩)).2.1;rw [ag] at this;cases this
     | cell id j=>have:=(jU b _ ad (.inr ⟨id,j,rfl⟩)).2.1;rw [ag] at this;cases this
     | _=>simp [az,ad,ag]
  ·rcases h with h | ⟨⟨id,_,_,h⟩,_⟩
   ·exact h
   ·rw [ag] at h;cases h
def fY (U:Nat→Option aH) (S:Nat→Nat→Prop) (w:World):Nat→Nat→Prop:=fun b o=>S b o∨((∃ id,U b=some (.obj id))∧∃ v,w.cell? ⟨b,o,none⟩=some v)
theorem A6 {J bV:List Nat} {S S':Nat→Nat→Prop} {u:I} {v:Value} (h:gS u=true) (aj:Rel J S w u v):Rel bV S' w u v:=by
 cases aj <;> simp [gS] at h
 ·exact .bool _
 ·exact .int _ _
 ·exact .str _
theorem Fv {bV:List Nat} {S':Nat→Nat→Prop} {u:I} {v:Value} (h:fz u=true) (aj:Rel J S w u v):Rel bV S' w u v:=by
 cases aj with
 | bool b=>exact .bool b
 | dw b=>simp [fz] at h
 | cZ=>simp [fz] at h
 | int k n=>exact .int k n
 | str s=>exact .str s
 | tuple as vs k p q =>
   simp only [fz,sR] at h;exact .tuple as vs k p fun j u v hu ae=>A6 (h u (sZ hu)) (q j u v hu ae)
 | cK cells len z b o cap=>exact .cK _ _ _ _ _ _
 | b2 c a =>
   exact .b2 _ _
 | ax cells len c b o cap f al hle hu k eX=>cases c <;> simp [fz] at h;exact absurd rfl (hu _)
 | _=>simp [fz] at h
theorem Fu {U az:Nat→Option aH} {bV:List Nat} {S S':Nat→Nat→Prop} {u:I} {v:Value} (h:fz u=true) (aq:aW U J S w .res u v) (fj:∀ b,U b=some .res→az b=some .res∧∀ o,S' b o→S b o):aW az bV S' w .res u v:=by
 unfold aW at aq ⊢;split at aq
 ·simp [fz] at h
 ·simp only [fz,sR] at h;rcases aq with aq | ⟨ad,aV,a6,bM,bT,cJ,⟨cur,e,cL,cN,dm⟩,fr⟩
  ·exact .inl aq
  ·obtain ⟨aJ,aQ⟩:=fj _ ad;exact .inr ⟨aJ,aV,a6,bM,bT,cJ,⟨cur,e,cL,cN,fun j u v hu ae=>⟨(dm j u v hu ae).1,(dm j u v hu ae).2.1,A6 (h u (sZ hu)) (dm j u v hu ae).2.2⟩⟩,fun o ai=>fr o (aQ o ai)⟩
 ·simp [fz] at h
 ·simp [fz] at h
 ·trivial
theorem A' {u:I} (h:u.plain=true):(ke H u).plain=true:=by
 unfold ke;split
 ·split <;> rfl
 ·exact h
theorem Ba (ah:aK B U J S w H) {u:I} {v:Value} (aj:Rel J S w u v):Rel J (fY U S w) w (ke H u) v:=by
 have hm:Rel J (fY U S w) w u v:=aj.mono (Ext.refl J) fun b o h=>⟨.inl h,rfl⟩;cases aj <;> try exact hm
 case ref id off len cap sz b eo ag al hle =>
  unfold ke;simp only;split
  ·rename_i row cQ;unfold rowOf at cQ;simp only at cQ;split at cQ
   ·rename_i l aE;split at cQ
    ·rename_i dI;simp only [Option.some.injEq] at cQ;obtain ⟨au,cur,e,aC,aI,aR,bl,bd,bg⟩:=ah.obj id _ aE;rw [ag] at aC;cases aC;(have bx:∀ o,o<cur.size→w.cell? ⟨b,o,none⟩=cur[o]?:=fun o aq=>by simp [World.cell?,aR,aq]);have facts:∀ (j:Nat) (y:I),row[j]?=some y→∃ c,off+j<cur.size∧cur[off+j]?=some c∧c.oneCell'=true∧y.plain=true∧Rel J S w y c:=fun j y aZ=>by
      subst cQ;have h4:=(sv.1 aZ).1;simp at h4;(have ft:off+j<l.length:=by omega);(have fi:off+j<cur.size:=by omega);have ao:l[off+j]?=some l[off+j]:=sK ft;have ae:cur[off+j]?=some cur[off+j]:=sS fi;obtain ⟨a',bb,bt,b9⟩:=bg (off+j) _ _ ao ae;rw [sN,tp,if_pos (by omega),tr,ao] at aZ;simp at aZ;subst aZ;exact ⟨_,fi,ae,bb,I.dj _,bt.view a'⟩
     refine .ax row len .shared b off eo (fun j=>cur.getD (off+j) undef) (by simp) hle (by simp) (fun j y aZ=>?_) (fun j y aZ=>?_)
     ·obtain ⟨c,aw,c6,ad,aB,ei⟩:=facts j y aZ;(have aO:cur.getD (off+j) undef=c:=by rw [sT,c6];rfl);rw [aO];exact ⟨.inr ⟨⟨id,aI⟩,c,by rw [bx _ aw,c6]⟩,by rw [bx _ aw,c6],aB,ad⟩
     ·obtain ⟨c,aw,c6,ad,aB,ei⟩:=facts j y aZ;(have aO:cur.getD (off+j) undef=c:=by rw [sT,c6];rfl);simp only [aO];exact ei.mono (Ext.refl J) fun b o h=>⟨.inl h,rfl⟩
    ·cases cQ
   ·cases cQ
  ·exact hm
theorem x5 (ah:aK B U J S w H) {u:I} {v:Value} (aj:Rel J S w u v):Rel J (fY U S w) w (hP H u) v:=by
 have hm:Rel J (fY U S w) w u v:=aj.mono (Ext.refl J) fun b o h=>⟨.inl h,rfl⟩;have jD:=Ba ah aj;cases aj <;> first | exact hm | exact jD | skip
 rename_i id off b ag;unfold hP;simp only;split
 ·rename_i l aE;obtain ⟨au,cur,e,aC,aI,aR,bl,bd,bg⟩:=ah.obj id _ aE;rw [ag] at aC;cases aC;have bx:∀ o,o<cur.size→w.cell? ⟨b,o,none⟩=cur[o]?:=fun o aq=>by simp [World.cell?,aR,aq]
  have facts:∀ (j:Nat) (y:I),(((l.drop off).map I.view).map (ke H))[j]?=some y→∃ c,off+j<cur.size∧cur[off+j]?=some c∧c.oneCell'=true∧y.plain=true∧Rel J (fY U S w) w y c:=fun j y aZ=>by
   have h4:=(sv.1 aZ).1;simp at h4;(have ft:off+j<l.length:=by omega);(have fi:off+j<cur.size:=by omega);have ao:l[off+j]?=some l[off+j]:=sK ft;have ae:cur[off+j]?=some cur[off+j]:=sS fi;obtain ⟨a',bb,bt,b9⟩:=bg (off+j) _ _ ao ae;rw [sN,sN,tr,ao] at aZ;simp at aZ;subst aZ;exact ⟨_,fi,ae,bb,A' (I.dj _),Ba ah (bt.view a')⟩
  refine .bU _ b off (fun j=>cur.getD (off+j) undef) (fun j y aZ=>?_) (fun j y aZ=>?_)
  ·obtain ⟨c,aw,c6,ad,aB,ei⟩:=facts j y aZ;(have aO:cur.getD (off+j) undef=c:=by rw [sT,c6];rfl);rw [aO];exact ⟨.inr ⟨⟨id,aI⟩,c,by rw [bx _ aw,c6]⟩,by rw [bx _ aw,c6],aB,ad⟩
  ·obtain ⟨c,aw,c6,ad,aB,ei⟩:=facts j y aZ;(have aO:cur.getD (off+j) undef=c:=by rw [sT,c6];rfl);simp only [aO];exact ei
 ·exact hm
theorem oB {u:I} (h:u.plain=true):(hP H u).plain=true:=by
 unfold hP;split
 ·split <;> rfl
 ·exact A' rfl
 ·exact h
theorem FD (ah:aK B U J S w H) {u:I} {v:Value} (aj:Rel J S w u v):Rel J (fY U S w) w (ir H u) v:=by
 have hm:Rel J (fY U S w) w u v:=aj.mono (Ext.refl J) fun b o h=>⟨.inl h,rfl⟩;have nM:=x5 ah aj;cases aj <;> try exact hm
 ·exact nM
 ·exact nM
 ·rename_i f as bs vs ws ad af bS bZ aT r2;refine .func f _ _ vs ws (by simpa using ad) (by simpa using af) (fun u hu=>?_) (fun u hu=>?_) (fun j u v hu ae=>?_) (fun j u v hu ae=>?_)
  ·obtain ⟨x,ak,rfl⟩:=sM.1 hu;exact oB (bS x ak)
  ·obtain ⟨x,ak,rfl⟩:=sM.1 hu;exact oB (bZ x ak)
  ·rw [sN] at hu;simp only [su] at hu;obtain ⟨x,ak,rfl⟩:=hu;exact x5 ah (aT j x v ak ae)
  ·rw [sN] at hu;simp only [su] at hu;obtain ⟨x,ak,rfl⟩:=hu;exact x5 ah (r2 j x v ak ae)
theorem FC {i:Nat} {u:I} {v:Value} (h:aW U J S w (.arg i) u v):aW U J (fY U S w) w (.arg i) (ir H u) v:=by
 have cm:∀ b,U b=some (.arg i)→∀ o,fY U S w b o→S b o:=fun b ag o h=>by
  rcases h with h | ⟨⟨id,h⟩,_⟩
  ·exact h
  ·rw [ag] at h;cases h
 have hm:aW U J (fY U S w) w (.arg i) u v:=h.mono (Ext.refl J) (fun b o h=>⟨.inl h,rfl⟩) fun b ag=>⟨ag,rfl,cm b ag⟩;cases u <;> try exact hm
 ·rename_i id off;exact aW.b4 (show (hP H (.ptr id off)).plain=true from oB rfl)
 ·rename_i id off len cap sz;exact aW.b4 (show (hP H (.ref id off len cap sz)).plain=true from oB rfl)
theorem Gr (ah:aK B U J S w H) {T:List I} {bh:List Value} (h:a9 (fun i=>.arg i) U J S w T bh):a9 (fun i=>.arg i) U J (fY U S w) w (T.map (ir H)) bh :=
 ⟨by simpa using h.len,fun i u v hu ae=>by
  rw [sN] at hu;simp only [su] at hu;obtain ⟨x,ak,rfl⟩:=hu;exact FD ah (h.rel i x v ak ae),fun i u v hu ae=>by
  rw [sN] at hu;simp only [su] at hu
  obtain ⟨x,ak,rfl⟩:=hu;exact FC (h.own i x v ak ae)⟩
theorem Dv (ah:aK B U J S w H):aK B (dW U) [] (fY U S w) w [] :=
 ⟨rfl,fun id o h=>by simp at h,fun b o h=>by
  rcases h with h | ⟨_,h⟩
  ·exact ah.cd b o h
  ·exact h,fun b l ag=>by obtain ⟨i,h,_⟩:=lM ag;exact ah.base b _ h,ah.cW⟩
theorem ED (ah:aK B U J S w H) {a4:List ar} {r v:I} {x:Value} {bY:World} {n d:Nat} (aP:bJ a4 0 a4.length n d r=some v)
  (ai:fz v=true) (aB:a1 B (dW U) [] (fY U S w) w a4 r x bY):a1 B U J S w H v x bY:=by
 classical
 obtain ⟨br,ck,bL,bK,aA,cn,aj,aq⟩:=aB
 let az:Nat→Option aH:=fun b=>match U b with
  | some (.obj id)=>some (.obj id)
  | some (.cell id j)=>some (.cell id j)
  | _=>match br b with
    | some (.obj _)=>none
    | some (.cell _ _)=>none
    | l=>l
 have jU:∀ b l,U b=some l→((∃ id,l=.obj id)∨∃ id j,l=.cell id j)→az b=some l∧br b=none∧b<w.heap.size:=fun b l ag ao=>by
  have aS:=(ah.base b l ag).2;have af:br b=none:=by
   cases h:br b with
   | none=>rfl
   | some l' =>
     rcases aA.own b (by simp [h]) with ad | ad
     ·exfalso;apply ad;rcases ao with ⟨id,rfl⟩ | ⟨id,j,rfl⟩ <;> simp [dW,ag]
     ·omega
  refine ⟨?_,af,aS⟩;rcases ao with ⟨id,rfl⟩ | ⟨id,j,rfl⟩ <;> simp [az,ag]
 have pW:∀ b,az b≠none→U b≠none∨br b≠none:=fun b h=>by
  by_cases ad:U b=none
  ·right;intro af;apply h;simp [az,ad,af]
  ·exact .inl ad
 have cc:∀ b,dW U b≠none→U b≠none:=fun b h aV=>h (by simp [dW,aV])
 let S':Nat→Nat→Prop:=fun b o=>S b o∨(gw br bL bY 0 a4.length b o∧∀ id,U b≠some (.obj id))
 have pe:∀ b o,S' b o→S b o∨U b≠none∨w.heap.size≤b:=fun b o h=>by
  rcases h with h | ⟨h | ⟨⟨id,_,_,h⟩,_⟩,eV⟩
  ·exact .inl h
  ·rcases aA.fresh b o h with (h | ⟨⟨id,h⟩,_⟩) | h | h
   ·exact .inl h
   ·exact absurd h (eV id)
   ·exact .inr (.inl (cc b h))
   ·exact .inr (.inr h)
  ·rcases aA.own b (by simp [h]) with ad | ad
   ·exact .inr (.inl (cc b ad))
   ·exact .inr (.inr ad)
 have lX:bj U S w az S' bY :=
  ⟨aA.os,aA.tape,aA.output,aA.size,fun b ag aN=>aA.cD b ag (by simp [dW,aN]),fun b o h=>⟨.inl h,(aA.set b o (.inl h)).2⟩,pe,fun b h=>by
   rcases pW b h with h | h
   ·exact .inl h
   ·rcases aA.own b h with h | h
    ·exact .inl (cc b h)
    ·exact .inr h⟩
 have b1:=fun d u r v=>l2 (gr:=J) (id0:=a4.length) (n:=n) cn (lo:=0) (fun id b aS ag=>by omega) (fun b ag=>by
   have:=(sv.1 ag).1;rw [cn.cE] at this;omega) d u r v
 have Ds:=b1 d r v x aP aj
 have nK:aW (fun b=>match br b with | some .res=>some .res | _=>none) J (gw br bL bY 0 a4.length) bY .res v x:=kv (l:=.res) (fun b ag=>⟨by simp [ag],fun o h=>by
  rcases h with h | ⟨⟨id,_,_,h⟩,_⟩
  ·exact h
  ·rw [ag] at h;cases h⟩) b1 aP aq
 refine ⟨az,J,S',Ext.refl J,lX,ah.frame lX (fun b l ag ao=>?_) (fun b o h=>?_) (fun b l ag=>?_),Fv ai Ds,Fu ai nK fun b ag=>?_⟩
 ·obtain ⟨ad,af,aG⟩:=jU b l ag ao;have aN:dW U b=none:=by rcases ao with ⟨id,rfl⟩ | ⟨id,j,rfl⟩ <;> simp [dW,ag]
  refine ⟨ad,aA.cD b aG aN,fun o h=>?_⟩;rcases h with h | ⟨h | ⟨⟨id,_,_,h⟩,_⟩,eV⟩
  ·exact h
  ·rcases aA.fresh b o h with (h | ⟨⟨id,h⟩,_⟩) | h | h
   ·exact h
   ·exact absurd h (eV id)
   ·exact absurd aN h
   ·omega
  ·rw [af] at h;cases h
 ·rcases h with h | ⟨h | ⟨_,h⟩,_⟩
  ·obtain ⟨v,ae⟩:=ah.cd b o h;exact ⟨v,((aA.set b o (.inl h)).2).trans ae⟩
  ·exact cn.cd b o h
  ·exact h
 ·by_cases h:U b=none
  ·(have bu:br b≠none:=fun af=>by simp [az,h,af] at ag);cases af:br b with
   | none=>exact absurd af bu
   | some l'=>exact cn.base b l' af
  ·cases ad:U b with
   | none=>exact absurd ad h
   | some l'=>obtain ⟨p,q⟩:=ah.base b l' ad;exact ⟨p,vr q aA.size⟩
 ·have gH:br b=some .res:=by
   split at ag
   ·assumption
   ·cases ag
  refine ⟨?_,fun o h=>?_⟩
  ·cases ad:U b with
   | none=>simp [az,ad,gH]
   | some l =>
     cases l with
     | obj id=>have:=(jU b _ ad (.inl ⟨id,rfl⟩)).2.1;rw [gH] at this;cases this
     | cell id j=>have:=(jU b _ ad (.inr ⟨id,j,rfl⟩)).2.1;rw [gH] at this;cases this
     | _=>simp [az,ad,gH]
  ·rcases h with h | ⟨h,_⟩
   ·exact .inl ((aA.set b o (.inl h)).1)
   ·exact h
end
end Go.Proofs.YtfakoboiahbhaaaGreat.Ab


namespace Go.Proofs.YtfakoboiahbhaaaGreat.Ab
open Go
def bc (lo:Nat) (H H':List ar):Prop:=H.length≤H'.length∧∀ id,id<lo→id<H.length→H'[id]?=H[id]?
theorem bc.refl (lo:Nat) (H:List ar):bc lo H H:=⟨sB _,fun _ _ _=>rfl⟩
theorem bc.trans {lo:Nat} {H H1 a4:List ar} (h:bc lo H H1) (k:bc lo H1 a4):bc lo H a4 :=
 ⟨tb h.1 k.1,fun id ad af=>(k.2 id ad (vr af h.1)).trans (h.2 id ad af)⟩
theorem bc.append (lo:Nat) (H X:List ar):bc lo H (H++X):=⟨by simp,fun id _ h=>sQ h⟩
theorem bc.set {lo id:Nat} (H:List ar) (x:ar) (h:lo≤id):bc lo H (H.set id x):=⟨by simp,fun bA ad _=>sJ (by omega)⟩
def fV (B:Nat) (U:Nat→Option aH) (J:List Nat) (S:Nat→Nat→Prop) (w:World) (H':List ar) (r:I):Ending→World→Prop
 | .returned v,w'=>a1 B U J S w H' r v w'
 | _,_=>False
def nf (U:Nat→Option aH):Prop:=∀ b i,U b≠some (.slot i)
def i_ (L:Loop) (vs:List Value):Array Value:=(L.params.zip vs.toArray).foldl (fun tmps (x:Tmp×Value)=>tmps.setIfInBounds x.1 x.2) L.tmps
def jt (P:Program) (b0:fb) (args:List I) (H H':List ar) (r:I):Prop :=
 match b0 with
 | .fn k => (∃ f, P.funcs[k]? = some f ∧ f.body.isSome = true ∧ f.name ≠ "runtime.NumGoroutine") ∧
   ∀ B U J S w vs,aK B U J S w H→nf U→a9 (fun i=>.arg i) U J S w args vs→CallsIn Fence.wide 0 P k vs.toArray w (fV B U J S w H' r)
 | .yield l=>∀ B U J S w vs b,aK B U J S w H→nf U→a9 (fun i=>.arg i) U J S w args vs→J[l]?=some b →
   ∃ L,w.heap[b]?=some (.loop L)∧vs.length=L.params.size∧RoundIn Fence.wide 0 P b L.fn (i_ L vs) L.assign L.body w (fV B U J S w H' r)
structure dc (P:Program) (C:b8):Prop where
 low:∀ {b0 args H lo r H'},C b0 args H lo=some (r,H')→bc lo H H'
 ok:∀ {b0 args H lo r H'},C b0 args H lo=some (r,H')→jt P b0 args H H' r
section
variable {P:Program} {B N:Nat} {J:List Nat} {w:World} {H:List ar} {U:Nat→Option aH} {S:Nat→Nat→Prop}
theorem fV.mono {H' H1:List ar} {r r':I} (h:∀ v w',a1 B U J S w H' r v w'→a1 B U J S w H1 r' v w') (e:Ending) (w':World) (k:fV B U J S w H' r e w'):fV B U J S w H1 r' e w':=by
 cases e with
 | returned v=>exact h v w' k
 | panicked c=>exact k
 | outgrown=>exact k
theorem jt.mono {b0:fb} {args:List I} {H' H1:List ar} {r r':I} (k:jt P b0 args H H' r)
  (h:∀ B U J S w,aK B U J S w H→∀ v w',a1 B U J S w H' r v w'→a1 B U J S w H1 r' v w'):jt P b0 args H H1 r':=by
 cases b0 with
 | fn f =>
   exact ⟨k.1,fun B U J S w vs ah aN ae=>CallsIn.mono (k.2 B U J S w vs ah aN ae) (fV.mono (h B U J S w ah))⟩
 | yield l =>
   intro B U J S w vs b ah aN ae ag;obtain ⟨L,ad,af,aG⟩:=k B U J S w vs b ah aN ae ag;exact ⟨L,ad,af,RoundIn.mono aG (fV.mono (h B U J S w ah))⟩
theorem Cu (ah:aK B U J S w H) {id:Nat} {l:List I} (aE:H[id]?=some (.cells l)) {v:Value} (aj:Rel J S w (.ptr id 0) v) :
  ∃ az S',bj U S w az S' w∧aK B az J S' w (H.set id .dead)∧Rel J S' w (.bU (l.map I.view)) v:=by
 classical
 cases aj with
 | ptr _ _ b ag =>
   obtain ⟨au,cur,e,aC,aI,aR,bl,bd,bg⟩:=ah.obj id _ aE;rw [ag] at aC;cases aC
   let S':Nat→Nat→Prop:=fun au o=>S au o∨(au=b∧o<cur.size)
   let az:Nat→Option aH:=fun au=>if au=b then none else U au
   have bx:∀ o,o<cur.size→w.cell? ⟨b,o,none⟩=cur[o]?:=fun o aq=>by
    simp [World.cell?,aR,aq]
   have aA:bj U S w az S' w:=⟨rfl,rfl,rfl,sB _,fun _ _ _=>rfl,fun _ _ h=>⟨.inl h,rfl⟩,fun au o h=>by
     rcases h with h | ⟨rfl,_⟩
     ·exact .inl h
     ·exact .inr (.inl (by simp [aI])),fun au bu=>by
     by_cases dH:au=b
     ·simp [az,dH] at bu
     ·simp only [az,dH,if_false] at bu;exact .inl bu⟩
   have bW:aK B az J S' w (H.set id .dead):=by
    refine ⟨by simpa using ah.cE,fun bA o aq=>?_,fun au o h=>?_,fun au l' bu=>?_,ah.cW⟩
    ·by_cases ct:bA=id
     ·subst ct
      have:o=.dead:=by
       have:=(sv.1 aE).1;simp [this] at aq;exact aq.symm
      subst this;trivial
     ·rw [sJ (Ne.symm ct)] at aq;refine (ah.obj bA o aq).frame (Ext.refl J) aA.set (fun au l' bu ao=>?_);have bO:au≠b:=fun e=>by
       subst e;rw [aI] at bu;cases bu;rcases ao with h | ⟨j,h⟩
       ·cases h;exact ct rfl
       ·cases h
      exact ⟨by simp [az,bO,bu],rfl,fun o h=>h.resolve_right fun h=>bO h.1⟩
    ·rcases h with h | ⟨rfl,h⟩
     ·exact ah.cd _ _ h
     ·exact ⟨_,(bx o h).trans (sS h)⟩
    ·by_cases dH:au=b
     ·simp [az,dH] at bu
     ·simp only [az,dH,if_false] at bu;exact ah.base _ _ bu
   refine ⟨az,S',aA,bW,.bU _ b 0 (fun j=>cur.getD j undef) (fun j u aw=>?_) (fun j u aw=>?_)⟩
   all_goals
    rw [sN] at aw;cases ao:l[j]? with
    | none=>rw [ao] at aw;simp at aw
    | some ya =>
      rw [ao] at aw;simp only [sD,Option.some.injEq] at aw;subst aw;have aS:=(sv.1 ao).1;have pH:cur[j]?=some cur[j]:=sS (by omega);(have aO:cur.getD j undef=cur[j]:=by simp [sT,pH]);obtain ⟨a',bb,bt,b9⟩:=bg j ya _ ao pH
      first
       | (simp only [aO];exact ⟨.inr ⟨rfl,by omega⟩,by rw [tg,bx j (by omega),pH],I.dj _,bb⟩)
       | (simp only [aO];exact (bt.view a').mono (Ext.refl J) aA.set)
theorem a9.Eu {bB:Nat→aH} {u:I} {vs:List Value} (h:a9 bB U J S w [u] vs):∃ v,vs=[v]∧Rel J S w u v∧aW U J S w (bB 0) u v:=by
 cases vs with
 | nil=>have:=h.len;simp at this
 | cons v r=>cases r with
   | nil=>exact ⟨v,rfl,h.rel 0 u v rfl rfl,h.own 0 u v rfl rfl⟩
   | cons x y=>have:=h.len;simp at this
theorem np {C:b8} (bw:dc P C) {lo mode:Nat} {b0:fb} {args:List I} {v:I} {H1:List ar} (h:e3 C lo mode b0 args H=some (v,H1)):bc lo H H1∧jt P b0 args H H1 v:=by
 have frozen:∀ {r:I} {a4:List ar},C b0 args H H.length=some (r,a4)→((bJ a4 H.length a4.length 0 8 r).map fun v=>(v,H))=some (v,H1)→bc lo H H1∧jt P b0 args H H1 v:=fun al aP=>by
  simp only [su,Prod.mk.injEq] at aP;obtain ⟨bn,aP,rfl,rfl⟩:=aP;exact ⟨bc.refl _ _,(bw.ok al).mono fun B U J S w ah x w' aB=>xA ah (fun id aE=>(bw.low al).2 id aE aE) aP aB⟩
 unfold e3 at h;split at h
 ·simp only [sE] at h;obtain ⟨⟨r,a4⟩,al,aP⟩:=h;exact frozen al aP
 ·exact ⟨bw.low h,bw.ok h⟩
 ·split at h
  ·rename_i k aB;simp only [sE] at h;obtain ⟨⟨r,a4⟩,al,aP⟩:=h;simp only [su,Prod.mk.injEq] at aP;obtain ⟨bn,aP,rfl,rfl⟩:=aP;obtain ⟨aJ,aQ⟩:=bw.ok al
   exact ⟨bc.refl _ _,aJ,fun B U J S w vs ah aN ae=>CallsIn.mono (aQ B _ [] S w vs (zf ah) (fun b i h=>by obtain ⟨_,_,h⟩:=lM h;cases h) (ae.pure aB).cr) fun e w' he=>by
     cases e with
     | returned v=>exact (z_ ah aP he).cr
     | panicked c=>exact he.elim
     | outgrown=>exact he.elim⟩
  ·simp at h
 ·split at h
  ·rename_i k aB;simp only [sE] at h;obtain ⟨⟨r,a4⟩,al,bn,aP,h⟩:=h;split at h
   ·rename_i pV;simp only [Option.some.injEq,Prod.mk.injEq] at h;obtain ⟨rfl,rfl⟩:=h;obtain ⟨aJ,aQ⟩:=bw.ok al
    exact ⟨bc.refl _ _,aJ,fun B U J S w vs ah aN ae=>CallsIn.mono (aQ B _ [] _ w vs (Dv ah) (fun b i h=>by obtain ⟨_,_,h⟩:=lM h;cases h) ((Gr ah ae).pure aB).cr) fun e w' he=>by
     cases e with
     | returned v=>exact (ED ah aP pV he).cr
     | panicked c=>exact he.elim
     | outgrown=>exact he.elim⟩
   ·simp at h
  ·simp at h
 ·split at h
  ·rename_i k id;split at h
   ·rename_i bC;split at h
    ·rename_i l aE;split at h
     ·rename_i aB;simp only [sE] at h;obtain ⟨⟨r,a4⟩,al,aP⟩:=h;simp only [su,Prod.mk.injEq] at aP;obtain ⟨bn,aP,rfl,rfl⟩:=aP;obtain ⟨aJ,aQ⟩:=bw.ok al;refine ⟨bc.set _ _ bC,aJ,fun B U J S w vs ah aN ae=>?_⟩;obtain ⟨v0,gh,aT,_⟩:=a9.Eu ae;subst gh;obtain ⟨az,S',aA,bW,r2⟩:=Cu ah aE aT
      have da:a9 (fun i=>.arg i) az J S' w [I.bU (l.map I.view)] [v0]:=⟨rfl,fun i u v hu ae=>by
       cases i with
       | zero=>simp at hu ae;subst hu ae;exact r2
       | succ i=>simp at hu,fun i u v hu ae=>by
       cases i with
       | zero=>simp at hu ae;subst hu;exact aW.b4 rfl
       | succ i=>simp at hu⟩
      (have jV:([I.bU (l.map I.view)]).all (cj 8)=true:=by simp [aB]);exact CallsIn.mono (aQ B _ [] S' w _ (zf bW) (fun b i h=>by obtain ⟨_,_,h⟩:=lM h;cases h) (da.pure jV).cr) fun e w' he=>by
       cases e with
       | returned v=>exact a1.after (Ext.refl J) aA (z_ bW aP he).cr
       | panicked c=>exact he.elim
       | outgrown=>exact he.elim
     ·simp at h
    ·simp at h
   ·simp at h
  ·simp at h
 ·simp only [sE] at h;obtain ⟨⟨r,a4⟩,al,aP⟩:=h;simp only [su,Prod.mk.injEq] at aP;obtain ⟨bn,aP,rfl,rfl⟩:=aP;refine ⟨bc.refl _ _,?_⟩;have bQ:=(bw.ok al).mono (r':=bn.cr) (H1:=H) fun B U J S w ah x w' aB=>(xA ah (fun id aE=>(bw.low al).2 id aE aE) aP aB).cr;cases b0 with
  | fn k=>exact ⟨bQ.1,fun B U J S w vs ah aN ae=>bQ.2 B U J S w vs ah aN ae.cr⟩
  | yield l=>exact fun B U J S w vs b ah aN ae ag=>bQ B U J S w vs b ah aN ae.cr ag
 ·simp only [sE] at h;obtain ⟨⟨r,a4⟩,al,aP⟩:=h;split at aP
  ·exact frozen al aP
  ·rename_i id0 pA;split at aP
   ·rename_i l aE;split at aP
    ·rename_i fh;split at aP
     ·rename_i l' bn ao ae;simp only [Option.some.injEq,Prod.mk.injEq] at aP;obtain ⟨rfl,rfl⟩:=aP;exact ⟨bc.append _ _ _,(bw.ok al).mono fun B U J S w ah x w' aB=>EB ah (fun id aE=>(bw.low al).2 id aE aE) fh aE ao ae aB⟩
     ·simp at aP
    ·simp at aP
   ·rename_i es clock aE;split at aP
    ·rename_i fh;split at aP
     ·rename_i l' bn ao ae;simp only [Option.some.injEq,Prod.mk.injEq] at aP;obtain ⟨rfl,rfl⟩:=aP;exact ⟨bc.append _ _ _,(bw.ok al).mono fun B U J S w ah x w' aB=>EC ah (fun id aE=>(bw.low al).2 id aE aE) fh aE ao ae aB⟩
     ·simp at aP
    ·simp at aP
   ·simp at aP
end
end Go.Proofs.YtfakoboiahbhaaaGreat.Ab


namespace Go.Proofs.YtfakoboiahbhaaaGreat.Ab
open Go
def gk (g:Nat→Option Nat) (U:Nat→Option aH):Nat→Option aH:=fun b=>match U b with
 | some (.arg i)=>(g i).map .arg
 | some (.obj id)=>some (.obj id)
 | some (.cell id j)=>some (.cell id j)
 | _=>none
def fw (eb:Bool) (vs:List I):List I:=match eb with | true=>vs | false=>vs.map I.view
def en (F:Fence):Prop:=F=Fence.wide∨∃ l,F=Fence.wide.inRound l
section
variable {P:Program} {B N:Nat} {J:List Nat} {w:World} {H:List ar} {U:Nat→Option aH} {S:Nat→Nat→Prop}
theorem en.fn {F:Fence} (h:en F) (f:FuncId):F.fn f:=by rcases h with rfl | ⟨l,rfl⟩ <;> trivial
theorem en.depth {F:Fence} (h:en F):F.depth=none:=by rcases h with rfl | ⟨l,rfl⟩ <;> rfl
theorem en.calls {F:Fence} (h:en F) {n:Nat} {f:FuncId} {args:Array Value} {w:World} {R:Ending→World→Prop} (k:CallsIn Fence.wide n P f args w R):CallsIn F n P f args w R:=by
 rcases h with rfl | ⟨l,rfl⟩
 ·exact k
 ·exact CallsIn.inRound l k
theorem en.rounds {F:Fence} (h:en F) {n l:Nat} {f:FuncId} {tmps:Array Value} {assign body:Code} {w:World} {R:Ending→World→Prop} (k:RoundIn Fence.wide n P l f tmps assign body w R):RoundIn F n P l f tmps assign body w R:=by
 rcases h with rfl | ⟨l,rfl⟩
 ·exact k
 ·exact k
theorem EU {g:Nat→Option Nat} {b:Nat} (h:U b=none):gk g U b=none:=by simp [gk,h]
theorem EV {g:Nat→Option Nat} {b:Nat} (h:gk g U b≠none):U b≠none:=fun aV=>h (EU aV)
theorem Aq (g:Nat→Option Nat) (U:Nat→Option aH) (S:Nat→Nat→Prop) (w:World):bj U S w (gk g U) S w :=
 ⟨rfl,rfl,rfl,sB _,fun _ _ _=>rfl,fun _ _ h=>⟨h,rfl⟩,fun _ _ h=>.inl h,fun _ h=>.inl (EV h)⟩
theorem Ar (g:Nat→Option Nat) (U:Nat→Option aH):nf (gk g U):=fun b i h=>by
 unfold gk at h;split at h <;> simp at h
theorem zg (ah:aK B U J S w H) (g:Nat→Option Nat):aK B (gk g U) J S w H:=by
 refine ⟨ah.cE,fun id o aq=>?_,ah.cd,fun b l ag=>?_,ah.cW⟩
 ·refine (ah.obj id o aq).frame (Ext.refl J) (fun _ _ h=>⟨h,rfl⟩) fun b l ag ao=>⟨?_,rfl,fun _ h=>h⟩;rcases ao with rfl | ⟨j,rfl⟩ <;> simp [gk,ag]
 ·cases h:U b with
  | none=>simp [gk,h] at ag
  | some l'=>exact ah.base b l' h
theorem Ez {g:Nat→Option Nat} {i j:Nat} (aO:g i=some j) {u:I} {v:Value} (h:aW U J S w (.arg i) u v):aW (gk g U) J S w (.arg j) u v :=
 h.mono (Ext.refl J) (fun _ _ h=>⟨h,rfl⟩) fun b ag=>⟨by simp [gk,ag,aO],rfl,fun _ h=>h⟩
theorem EO {T:List I} {a:Act} (aL:cw B N U J S w ⟨T,H⟩ a) (ops:List Operand) (ts:List Bool) (eb:Bool) :
  ∃ b5 a8,bj U S w b5 a8 w∧cw B N b5 J a8 w ⟨(rd T ts ops).2,H⟩ a ∧
    a9 (fun i=>.arg i) b5 J a8 w (fw eb (rd T ts ops).1) (ops.map a.eval):=by
 obtain ⟨b5,a8,g,bX,ah,ae⟩:=EP a ops ts T 0 U S aL.T aL.H;simp only [tg] at ae;cases eb with
 | true=>exact ⟨b5,a8,g.aA w,⟨bX,ah,aL.M.aA (g.aA w)⟩,ae⟩
 | false =>
   obtain ⟨bL,aJ,aQ,cn,da⟩:=Fx (rd T ts ops).1 (ops.map a.eval) (fun i=>.arg i) a8 (fun i j h=>by cases h;rfl) (fun i id=>by simp) (fun i id j=>by simp) ae ah;have aA:bj b5 a8 w b5 bL w:=bj.settle aJ fun b o h=>(aQ b o h).imp id fun ⟨i,h⟩=>⟨_,h⟩;refine ⟨b5,bL,(g.aA w).trans aA,⟨⟨bX.len,fun i u v hu ae=>(bX.rel i u v hu ae).mono (Ext.refl J) (fun b o h=>⟨aJ b o h,rfl⟩),fun i u v hu ae=>?_⟩,cn,(aL.M.aA (g.aA w)).aA aA⟩,da⟩;refine (bX.own i u v hu ae).mono (Ext.refl J) (fun b o h=>⟨aJ b o h,rfl⟩) fun b ag=>⟨ag,rfl,fun o h=>?_⟩;rcases aQ b o h with h | ⟨j,h⟩
   ·exact h
   ·rw [ag] at h;cases h
theorem o5 {C:b8} {lo:Nat} {o:Oper} {an:b3} {s aF:a7} (h:Ab.execOp P C lo o an s=some aF) :
  ∃ r H',a5 P C lo o an.mode (fw (dK o an.mode) (rd s.T an.takes (opsOf o)).1) s.H=some (r,H') ∧
    aF=⟨put (inPlace o an.mode (rd s.T an.takes (opsOf o)).2 r) o.dst r,H'⟩:=by
 unfold Ab.execOp at h;simp only [su] at h;obtain ⟨⟨r,H'⟩,h,rfl⟩:=h;exact ⟨r,H',h,rfl⟩
theorem Em {C:b8} {lo mode:Nat} {o:Oper} {us:List I} {r:I} {H':List ar} {t:Nat} (hm:mode≠0) (Dc:mode≠4) (aq:o.op=.move (.tmp t)∨o.op=.assign (.tmp t))
  (h:a5 P C lo o mode us H=some (r,H')) {U:Nat→Option aH} {J:List Nat} {S:Nat→Nat→Prop} {w:World} {l:aH} {v:Value} (aj:Rel J S w r v) (hw:aW U J S w l r v):Rel J S w r.view v:=by
 by_cases hu:r.cR=true
 ·exact aj.view hu
 ·obtain ⟨cells,len,z,rfl⟩:∃ cells len z,r=.ax cells len (.uniq z):=by
   unfold I.cR at hu;split at hu
   ·exact ⟨_,_,_,rfl⟩
   ·simp at hu
  have aV:len=0:=by
   (have aY:eY P lo mode o.type (.tmp t) H us=some (.ax cells len (.uniq z),H'):=by rcases aq with aq | aq <;> simpa only [a5,aq] using h);unfold eY at aY;split at aY
   ·split at aY
    ·exact absurd rfl hm
    ·split at aY
     ·split at aY
      ·rename_i bk;cases aY;exact bk
      ·cases aY
     ·cases aY
     ·cases aY
     ·simp at aY
    ·exact absurd rfl Dc
    ·split at aY
     ·split at aY
      ·simp only [sE,su,Prod.mk.injEq] at aY;obtain ⟨row,cQ,n,aN,ad,af⟩:=aY;have:=congrArg (fun x=>match x with | I.ax _ _ c=>c | _=>.shared) ad;exact absurd this (yQ z)
      ·simp at aY
     ·split at aY
      ·split at aY
       ·split at aY
        ·cases aY
        ·cases aY
       ·cases aY
      ·cases aY
     ·simp only [Option.some.injEq,Prod.mk.injEq] at aY;have:=aY.1 ▸ I.dj _;cases this
   ·simp at aY
  subst aV;have al:cells=[]:=by
   cases aj with
   | b2 c a=>rfl
   | ax _ _ _ b o cap f al hle b' k eX=>exact absurd rfl (b' z)
   | cK _ _ z b o cap =>
     rcases hw with ⟨_,_,h⟩ | ⟨_,_,_,_,_,h,_⟩
     ·exact h
     ·exact tu.1 (by simpa using h)
  subst al;cases aj with
  | b2 c a=>exact .b2 _ _
  | ax _ _ _ b o cap f al hle b' k eX=>exact absurd rfl (b' z)
  | cK _ _ z b o cap=>exact .ax [] 0 .shared b o cap (fun _=>undef) (by simp) (Nat.zero_le _) (by simp) (by simp) (by simp)
theorem xr {lo id:Nat} {H H':List ar} {f:List I→Option (List I)} (h:fP lo H id f=some H'):bc lo H H':=by
 unfold fP at h;split at h
 ·rename_i bC;split at h
  ·simp only [su] at h;obtain ⟨l',_,rfl⟩:=h;exact bc.set _ _ bC
  ·simp at h
 ·simp at h
theorem D7 {lo:Nat} {t:TypeId} {us:List I} {r:I} {H':List ar} (h:iY P lo t H us=some (r,H')):bc lo H H':=by
 unfold iY at h;split at h
 ·split at h
  ·split at h
   ·split at h
    ·rename_i bC;split at h
     ·split at h
      ·cases h;exact bc.set _ _ bC
      ·cases h;exact bc.set _ _ bC
      ·cases h
     ·cases h
    ·cases h
   ·cases h
  ·cases h
 ·cases h
theorem D5 {lo:Nat} {ts:Array TypeId} {us:List I} {r:I} {H':List ar} (h:hK P lo ts H us=some (r,H')):bc lo H H':=by
 unfold hK at h;split at h
 ·split at h
  ·split at h
   ·split at h
    ·rename_i bC;split at h
     ·split at h
      ·cases h;exact bc.set _ _ bC
      ·cases h;exact bc.refl _ _
      ·cases h
     ·cases h
    ·cases h
   ·cases h
  ·cases h
 ·cases h
theorem Fs {t:TypeId} {ok:Bool} {us:List I} {r:I} {H':List ar} (h:ih P t ok H us=some (r,H')):H'=H:=by
 unfold ih at h;split at h
 ·split at h
  ·split at h
   ·split at h
    ·simp only [su,Prod.mk.injEq] at h;obtain ⟨_,_,_,rfl⟩:=h;rfl
    ·cases h
   ·cases h
  ·cases h
 ·cases h
theorem Fq {us:List I} {r:I} {H':List ar} (h:k5 H us=some (r,H')):H'=H:=by
 unfold k5 at h;split at h
 ·split at h
  ·split at h
   ·split at h
    ·split at h
     ·cases h;rfl
     ·cases h
    ·cases h
   ·cases h
  ·cases h
 ·cases h
theorem zJ {lo id:Nat} {H H':List ar} {f:List I→Option (List I)} (h:hg lo H id f=some H'):bc lo H H':=by
 unfold hg at h;split at h
 ·rename_i bC;split at h
  ·simp only [su] at h;obtain ⟨l',_,rfl⟩:=h;exact bc.set _ _ bC
  ·simp only [su] at h;obtain ⟨l',_,rfl⟩:=h;exact bc.set _ _ bC
  ·simp at h
 ·simp at h
theorem D4 {lo:Nat} {ts:Array TypeId} {us:List I} {r:I} {H':List ar} (h:ig P lo ts H us=some (r,H')):bc lo H H':=by
 unfold ig at h;split at h
 ·split at h
  ·split at h
   ·split at h
    ·split at h
     ·cases h
     ·cases h;exact bc.append _ _ _
    ·cases h
   ·split at h
    ·rename_i bC;split at h
     ·split at h
      ·split at h
       ·cases h;exact (bc.set _ _ bC).trans (bc.append _ _ _)
       ·cases h
      ·cases h
     ·cases h
    ·cases h
   ·cases h
  ·cases h
 ·cases h
theorem D3 {lo:Nat} {ts:Array TypeId} {us:List I} {r:I} {H':List ar} (h:iX P lo ts H us=some (r,H')):bc lo H H':=by
 refine bc.trans ?_ (D4 h);unfold je;split
 ·split
  ·split
   ·rename_i al;simp only [sO] at al;exact bc.set _ _ (Nat.le_of_ble_eq_true al.2)
   ·exact bc.refl _ _
  ·exact bc.refl _ _
 ·exact bc.refl _ _
theorem D8 {lo:Nat} {t:TypeId} {us:List I} {r:I} {H':List ar} (h:k7 P t H us=some (r,H')):bc lo H H':=by
 unfold k7 at h;split at h
 ·split at h
  ·cases h;exact bc.append _ _ _
  ·cases h
 ·cases h
theorem D6 {lo:Nat} {t:TypeId} {x:Option Operand} {r:I} {H':List ar} (h:k6 P t x H=some (r,H')):bc lo H H':=by
 unfold k6 at h;split at h
 ·cases h;exact bc.append _ _ _
 ·cases h
theorem zI {lo:Nat} {b:Builtin} {ts:Array TypeId} {us:List I} {r:I} {H':List ar} (h:eA P lo b ts H us=some (r,H')):bc lo H H':=by
 have same:∀ {x:Option I},x.map (·,H)=some (r,H')→bc lo H H':=fun h=>by
  simp only [su,Prod.mk.injEq] at h;obtain ⟨_,_,_,rfl⟩:=h;exact bc.refl _ _
 unfold eA at h;split at h
 ·unfold iW at h;split at h
  ·split at h
   ·exact same h
   ·simp at h
  ·simp at h
 ·unfold hk at h;split at h
  ·split at h
   ·split at h <;> simp at h;obtain ⟨_,rfl⟩:=h;exact bc.refl _ _
   ·split at h <;> simp at h;obtain ⟨_,rfl⟩:=h;exact bc.refl _ _
   ·split at h <;> simp at h;obtain ⟨_,rfl⟩:=h;exact bc.refl _ _
   ·split at h <;> simp at h;obtain ⟨_,rfl⟩:=h;exact bc.refl _ _
  ·simp at h
 ·unfold j4 at h;split at h
  ·split at h <;> simp at h;obtain ⟨_,rfl⟩:=h;exact bc.refl _ _
  ·split at h <;> simp at h;obtain ⟨_,rfl⟩:=h;exact bc.refl _ _
  ·simp at h
 ·unfold j5 at h;split at h
  ·split at h
   ·split at h
    ·split at h
     ·simp only [su,Prod.mk.injEq] at h;obtain ⟨H1,h,_,rfl⟩:=h;exact xr h
     ·simp at h
    ·simp at h
   ·simp at h
  ·simp at h
 ·unfold k4 at h;split at h
  ·split at h
   ·split at h
    ·split at h
     ·simp only [su,Prod.mk.injEq] at h;obtain ⟨H1,h,_,rfl⟩:=h;exact zJ h
     ·simp at h
    ·simp at h
   ·simp at h
  ·split at h <;> simp at h;obtain ⟨_,rfl⟩:=h;exact bc.refl _ _
  ·simp at h
 ·exact D5 h
 ·exact same h
 ·exact same h
 ·simp at h
theorem Ex {C:b8} (bw:dc P C) {lo mode:Nat} {o:Oper} {us:List I} {r:I} {H':List ar} (h:a5 P C lo o mode us H=some (r,H')):bc lo H H':=by
 have same:∀ {x:Option I},x.map (·,H)=some (r,H')→bc lo H H':=fun h=>by
  simp only [su,Prod.mk.injEq] at h;obtain ⟨_,_,_,rfl⟩:=h;exact bc.refl _ _
 have ml:∀ {t:TypeId} {x:Operand},eY P lo mode t x H us=some (r,H')→bc lo H H':=fun h=>by
  unfold eY at h;split at h
  ·split at h
   ·split at h
    ·simp only [su,Prod.mk.injEq] at h;obtain ⟨_,_,_,rfl⟩:=h;exact bc.refl _ _
    ·cases h;exact bc.refl _ _
   ·split at h
    ·split at h
     ·cases h;exact bc.refl _ _
     ·cases h;exact bc.append _ _ _
    ·cases h;exact bc.refl _ _
    ·cases h;exact bc.refl _ _
    ·simp at h
   ·split at h
    ·split at h
     ·rename_i bC;split at h
      ·split at h
       ·cases h;exact bc.set _ _ bC
       ·cases h
      ·cases h
     ·cases h
    ·cases h;exact bc.refl _ _
   ·split at h
    ·split at h
     ·rename_i bC;simp only [sE,su,Prod.mk.injEq] at h;obtain ⟨_,_,_,_,_,rfl⟩:=h;exact bc.set _ _ bC
     ·simp at h
    ·split at h
     ·rename_i bC;split at h
      ·split at h
       ·cases h;exact bc.set _ _ bC
       ·cases h
      ·cases h
     ·cases h
    ·cases h;exact bc.refl _ _
  ·simp at h
 unfold a5 at h;split at h
 ·exact ml h
 ·exact ml h
 ·unfold dP at h;split at h
  ·split at h
   ·exact same h
   ·split at h
    ·exact same h
    ·simp at h
   ·split at h
    ·split at h
     ·split at h
      ·cases h;exact bc.refl _ _
      ·cases h;exact bc.refl _ _
      ·simp at h
     ·simp at h
    ·simp at h
   ·split at h
    ·split at h
     ·rename_i bC;split at h
      ·split at h
       ·cases h;exact bc.set _ _ bC
       ·split at h
        ·split at h
         ·simp at h
         ·cases h;exact (bc.set _ _ bC).trans (bc.append _ _ _)
        ·cases h;exact bc.set _ _ bC
       ·cases h;exact bc.refl _ _
       ·simp at h
      ·split at h
       ·cases h;exact bc.set _ _ bC
       ·cases h;exact bc.refl _ _
       ·simp at h
      ·simp at h
     ·simp at h
    ·simp at h
  ·simp at h
 ·unfold gP at h;split at h
  ·split at h
   ·simp only [su,Prod.mk.injEq] at h;obtain ⟨H1,h,_,rfl⟩:=h;unfold iB at h;split at h
    ·split at h
     ·exact zJ h
     ·simp at h
    ·simp at h
   ·simp only [su,Prod.mk.injEq] at h;obtain ⟨H1,h,_,rfl⟩:=h;unfold lJ at h;split at h
    ·split at h
     ·exact xr h
     ·simp at h
    ·simp at h
   ·simp only [su,Prod.mk.injEq] at h;obtain ⟨H1,h,_,rfl⟩:=h;unfold km at h;split at h
    ·split at h
     ·exact xr h
     ·simp at h
    ·simp at h
  ·simp at h
 ·unfold gO at h;split at h
  ·split at h
   ·simp only [su,Prod.mk.injEq] at h;obtain ⟨_,_,_,rfl⟩:=h;exact bc.append _ _ _
   ·split at h
    ·split at h
     ·cases h;exact bc.refl _ _
     ·cases h
    ·cases h
  ·simp at h
 ·unfold k3 at h;split at h
  ·simp only [su,Prod.mk.injEq] at h;obtain ⟨_,_,_,rfl⟩:=h;exact bc.append _ _ _
  ·split at h
   ·simp only [su,Prod.mk.injEq] at h;obtain ⟨_,_,_,rfl⟩:=h;exact bc.append _ _ _
   ·cases h
 ·split at h
  ·exact same h
  ·simp only [su,Prod.mk.injEq] at h;obtain ⟨_,_,_,rfl⟩:=h;exact bc.refl _ _
 ·split at h
  ·exact same h
  ·simp only [su,Prod.mk.injEq] at h;obtain ⟨_,_,_,rfl⟩:=h;exact bc.refl _ _
 ·unfold j6 at h;split at h
  ·split at h
   ·split at h
    ·simp only [su,Prod.mk.injEq] at h;obtain ⟨_,_,_,rfl⟩:=h;exact bc.append _ _ _
    ·split at h
     ·simp only [su,Prod.mk.injEq] at h;obtain ⟨_,_,_,rfl⟩:=h;exact bc.refl _ _
     ·simp at h
   ·simp at h
  ·simp at h
 ·exact D6 h
 ·exact D7 h
 ·rw [Fs h];exact bc.refl _ _
 ·exact D8 h
 ·rw [Fq h];exact bc.refl _ _
 ·split at h
  ·split at h
   ·split at h
    ·exact zI h
    ·exact D3 h
   ·exact zI h
  ·unfold hJ at h;split at h
   ·unfold kq at h;split at h
    ·exact (np bw h).1
    ·exact (np bw h).1
    ·simp at h
   ·simp at h
  ·simp at h
 ·exact same h
end
end Go.Proofs.YtfakoboiahbhaaaGreat.Ab


namespace Go.Proofs.YtfakoboiahbhaaaGreat.Ab
open Go
section
variable {P:Program} {B N:Nat} {J:List Nat} {w:World} {H:List ar} {U:Nat→Option aH} {S:Nat→Nat→Prop}
theorem AV {k : Nat} {f : Func} (aP : P.funcs[k]? = some f) (ag : f.body.isSome = true) (aN : f.name ≠ "runtime.NumGoroutine") (args : Array Value) (w : World) :
  (callFunc k args).run P w=.ok (.enter k args) w:=by
 have bu:f.body≠none:=fun h=>by simp [h] at ag
 simp [callFunc,aP,bu,aN]
theorem Bv {first us cap:List I} {vs ws xs:List Value} (aP:first.length=vs.length) (bS:∀ u∈first,u.plain=true) (aT:∀ (j:Nat) (u:I) (v:Value),first[j]?=some u→vs[j]?=some v→Rel J S w u v)
  (al:cap.length=ws.length) (bZ:∀ u∈cap,u.plain=true) (r2:∀ (j:Nat) (u:I) (v:Value),cap[j]?=some u→ws[j]?=some v→Rel J S w u v)
  (ae:a9 (fun i=>.arg (i+1)) U J S w us xs) :
  a9 (fun i=>.arg i) (gk (fun i=>match i with | 0=>none | j+1=>some (first.length+j)) U) J S w (first++us++cap) (vs++xs++ws):=by
 have ao:=ae.len;have key:∀ (i:Nat) (u:I) (v:Value),(first++us++cap)[i]?=some u→(vs++xs++ws)[i]?=some v →
   Rel J S w u v∧aW (gk (fun i=>match i with | 0=>none | j+1=>some (first.length+j)) U) J S w (.arg i) u v:=fun i u v hu ak=>by
  rcases tq i first.length with ad | ad
  ·rw [sH,sQ ad] at hu;rw [sH,sQ (by omega)] at ak;exact ⟨aT i u v hu ak,aW.b4 (bS u (sZ hu))⟩
  ·rw [sH,s_ ad] at hu;rw [sH,s_ (by omega),←aP] at ak;rcases tq (i-first.length) us.length with af | af
   ·rw [sQ af] at hu;rw [sQ (by omega)] at ak;refine ⟨ae.rel _ u v hu ak,Ez ?_ (ae.own _ u v hu ak)⟩;show some (first.length+(i-first.length))=some i;congr 1;omega
   ·rw [s_ af] at hu;rw [s_ (by omega),←ao] at ak;exact ⟨r2 _ u v hu ak,aW.b4 (bZ u (sZ hu))⟩
 exact ⟨by simp [aP,al,ao],fun i u v hu ak=>(key i u v hu ak).1,fun i u v hu ak=>(key i u v hu ak).2⟩
theorem x7 {F:Fence} (bF:en F) {C:b8} (bw:dc P C) {lo:Nat} {o:Oper} {an:b3} {s aF:a7} (h:Ab.execOp P C lo o an s=some aF) {a:Act} (aL:cw B N U J S w s a)
  {K:Act→World→Prop} {Q:Exit→Act→World→Prop} (fI:∀ aM w',Step B N U J S w aF aM w'→K aM w'):o.wpIn F 0 P a w K Q:=by
 obtain ⟨r,H',aD,rfl⟩:=o5 h;obtain ⟨b5,a8,nw,cg,ae⟩:=EO (H:=s.H) aL (opsOf o) an.takes (dK o an.mode);generalize zk:fw (dK o an.mode) (rd s.T an.takes (opsOf o)).1=us at aD ae;have eW:∀ v,a.eval (.const v)=v:=fun _=>rfl;have jR:∀ c,o.op≠.defer c:=fun c al=>by simp [a5,al,cx] at aD
 have nD:∀ v w',(∀ t,o.op=.move (.tmp t)∨o.op=.assign (.tmp t)→v=a.eval (.tmp t))→a1 B (dp b5) J a8 w H' r v w'→K (a.put o.dst v) w':=fun v w' d_ aB=>by
  refine fI _ _ (Step.trans (Ext.refl J) nw ?_);by_cases hm:an.mode=0∨an.mode=4
  ·obtain ⟨az,bV,S',aJ,aQ,gf,_⟩:=ob o.dst cg aB .junk (fun _ _ _ _ _=>.junk _);(have g6:inPlace o an.mode (rd s.T an.takes (opsOf o)).2 r=(rd s.T an.takes (opsOf o)).2:=by rcases hm with hm | hm <;> simp [inPlace,hm]);rw [g6];exact ⟨az,bV,S',aJ,aQ,gf⟩
  ·by_cases ay:∃ t,o.op=.move (.tmp t)∨o.op=.assign (.tmp t)
   ·obtain ⟨t,ay⟩:=ay;have g6:inPlace o an.mode (rd s.T an.takes (opsOf o)).2 r=gT (rd s.T an.takes (opsOf o)).2 t r.view:=by
     unfold inPlace;split
     ·rename_i pK;exact absurd (.inl pK) hm
     ·rename_i pK;exact absurd (.inr pK) hm
     ·rcases ay with ay | ay <;> simp [ay]
    have zl:∀ x,a.tmps.toList[t]?=some x→x=a.eval (.tmp t):=fun x ak=>by
     (have nS:a.tmps[t]?=some x:=by simpa using ak);simp [Act.eval,nS,sT]
    have ze:v=a.eval (.tmp t):=d_ t ay;obtain ⟨az,bV,S',aJ,aQ,gf,nO⟩:=ob o.dst cg aB r.view (fun br ck bL q1 aX=>Em (fun e=>hm (.inl e)) (fun e=>hm (.inr e)) ay aD q1 aX);refine ⟨az,bV,S',aJ,aQ,?_,gf.H,gf.M⟩;rw [g6];have bX:=gf.T;simp only at bX;cases a3:o.dst with
    | none =>
      simp only [a3,put,Act.put,gU] at bX ⊢;exact bX.swap t (I.dj _) fun x ak=>by rw [zl x ak,←ze];exact nO
    | some d =>
      simp only [a3,put,Act.put,gU] at bX ⊢;by_cases w_:t=d
      ·subst w_;rw [te];exact bX
      ·rw [List.set_comm _ _ w_];refine bX.swap t (I.dj _) fun x ak=>?_;rw [wF,sJ (Ne.symm w_)] at ak;rw [zl x ak,←ze];exact nO
   ·have g6:inPlace o an.mode (rd s.T an.takes (opsOf o)).2 r=(rd s.T an.takes (opsOf o)).2:=by
     unfold inPlace;split
     ·rfl
     ·rfl
     ·split
      ·rename_i h;exact absurd ⟨_,.inl h⟩ ay
      ·rename_i h;exact absurd ⟨_,.inr h⟩ ay
      ·rfl
    rw [g6];obtain ⟨az,bV,S',aJ,aQ,gf,_⟩:=ob o.dst cg aB .junk (fun _ _ _ _ _=>.junk _);exact ⟨az,bV,S',aJ,aQ,gf⟩
 refine ⟨fun f _=>bF.fn f,?_⟩;rw [Oper.semAt_eq _ _ _ jR];by_cases ff:∃ c f,o.op=.call c∧c.callee=.value f
 ·obtain ⟨c,f,kI,h3⟩:=ff;have he:opsOf o=f::c.args.toList:=by
   obtain ⟨B9,args,B3⟩:=c;simp only at h3;subst h3;simp only [opsOf,kI]
  rw [he] at ae;simp only [a5,kI,h3] at aD;have gF:=mu cg.H;have gh:=Bw ae
  match us,aD,gh with
  | [],aD,_=>simp [hJ] at aD
  | Gk::Hd,aD,gh =>
    simp only [hJ] at aD;have ot:=gh.rel 0 Gk (a.eval f) rfl rfl;have zm:=gh.tail;unfold kq at aD;split at aD
    ·(rename_i k first cap);generalize kC:a.eval f=Gn at ot;cases ot with
     | func _ _ _ vs ws aJ aQ bS bZ aT r2 =>
       obtain ⟨_,⟨fn,CX,kA,Dh⟩,ps⟩:=np bw aD;have nR:=Bv (U:=dp b5) (J:=J) (S:=a8) (w:=w) (first:=first) (cap:=cap) (vs:=vs.toList) (ws:=ws.toList) (by simp [aJ]) bS (fun j u v hu ak=>aT j u v hu (by simpa using ak)) (by simp [aQ]) bZ (fun j u v hu ak=>r2 j u v hu (by simpa using ak)) zm;have al:=ps B _ J a8 w _ (zg gF _) (Ar _ _) nR;have kM:(resolve a.eval c o.type).run P w=.ok { target:=.fn (.func k) ws,args:=vs++c.args.map a.eval } w:=by
        simp [resolve,h3,kC,Deferred.ofValue]
       have dN:(Go.execOp a.eval o).run P w=.ok (.enter k (vs++c.args.map a.eval++ws)) w:=by
        simp only [Go.execOp,kI,Sem.run_bind,kM,Result.andThen_ok,invoke,AV CX kA Dh]
       rw [dN];have hD:(vs.toList++List.map a.eval c.args.toList++ws.toList).toArray=vs++c.args.map a.eval++ws:=by
        apply Array.ext';simp
       rw [hD] at al;refine ⟨fun iK=>(by rw [bF.depth] at iK;cases iK),bF.calls (CallsIn.mono al fun e w' he=>?_)⟩;cases e with
       | returned v=>exact nD v w' (fun t ay=>by rcases ay with ay | ay <;> rw [kI] at ay <;> cases ay) (a1.after (Ext.refl J) (Aq _ _ _ _) he)
       | panicked c=>exact he.elim
       | outgrown=>exact he.elim
    ·rename_i l;generalize kC:a.eval f=Gn at ot;cases ot with
     | yield _ b ag =>
       obtain ⟨_,ps⟩:=np bw aD;have nR:=Bv (U:=dp b5) (J:=J) (S:=a8) (w:=w) (first:=[]) (cap:=[]) (vs:=[]) (ws:=[]) rfl (by simp) (by simp) rfl (by simp) (by simp) zm;simp only [t_,sW] at nR;obtain ⟨L,ad,af,aG⟩:=ps B _ J a8 w _ b (zg gF _) (Ar _ _) nR ag;have kM:(resolve a.eval c o.type).run P w=.ok { target:=.fn (.yield b) #[],args:=c.args.map a.eval } w:=by
        simp [resolve,h3,kC,Deferred.ofValue]
       (have bP:(c.args.map a.eval).size=L.params.size:=by rw [←af];simp);have dN:(Go.execOp a.eval o).run P w=.ok (.round b L.fn (i_ L (List.map a.eval c.args.toList)) L.assign L.body) w:=by
        simp only [Go.execOp,kI,Sem.run_bind,kM,Result.andThen_ok,invoke]
        have:(List.map a.eval c.args.toList).toArray=c.args.map a.eval:=by apply Array.ext';simp
        simp [Instr.yield,run_getLoop ad,bP,i_,this]
       rw [dN];refine ⟨fun iK=>(by rw [bF.depth] at iK;cases iK),bF.rounds (RoundIn.mono aG fun e w' he=>?_)⟩;cases e with
       | returned v=>exact nD v w' (fun t ay=>by rcases ay with ay | ay <;> rw [kI] at ay <;> cases ay) (a1.after (Ext.refl J) (Aq _ _ _ _) he)
       | panicked c=>exact he.elim
       | outgrown=>exact he.elim
    ·simp at aD
 ·have iO:∀ c f,o.op=.call c→c.callee≠.value f:=fun c f ad af=>ff ⟨c,f,ad,af⟩;have aB:dK o an.mode=false→∀ u∈us,u.plain=true:=fun ao u hu=>by
   rw [ao] at zk;subst zk;obtain ⟨x,_,rfl⟩:=sM.1 hu;exact I.dj x
  rcases F3 eW (mu cg.H) aD iO aB (Bw ae) with ⟨v,w',ad,af⟩ | ⟨w',ad,af⟩
  ·rw [ad];exact nD v w' (fun t ay=>by rcases ay with ay | ay <;> simp [Go.execOp,ay] at ad <;> exact ad.1.symm) af
  ·rw [ad];exact nD undef w' (fun t ay=>by rcases ay with ay | ay <;> simp [Go.execOp,ay] at ad) af
end
end Go.Proofs.YtfakoboiahbhaaaGreat.Ab


namespace Go.Proofs.YtfakoboiahbhaaaGreat.Ab
open Go
section
variable {P:Program} {B N:Nat} {J:List Nat} {w:World} {H:List ar} {U:Nat→Option aH} {S:Nat→Nat→Prop}
theorem cw.c5 {s:a7} {a:Act} (aL:cw B N U J S w s a) (t:Nat):Rel J S w (c5 s.T t) (a.tmps.getD t undef):=by
 rw [gd,sY];cases h:s.T[t]? with
 | none=>exact .junk _
 | some u =>
   have ao:=aL.T.len;have aS:t<s.T.length:=(sv.1 h).1;(have mj:t<a.tmps.size:=by rw [←tQ,←ao];exact aS);(have ak:a.tmps.toList[t]?=some (a.tmps.getD t undef):=by simp [sT,mj]);exact aL.T.rel t u _ h ak
theorem cw.aA {s:a7} {a:Act} (aL:cw B N U J S w s a) (x:Operand):Rel J S w (aA s.T x) (a.eval x):=by
 cases x with
 | tmp t=>exact aL.c5 t
 | const v=>exact lK J S w v
 | global g=>exact .junk _
 | func f=>exact .func f [] [] #[] #[] rfl rfl (by simp) (by simp) (by simp) (by simp)
theorem lx {ops:Array Oper} {o:Oper} {s:a7} {a:Act} (aL:cw B N U J S w s a) {x:Bool} (h:eB ops o s.T=some x):Region.wanted o (yielded ops a.tmps)=x:=by
 unfold eB at h;unfold Region.wanted;split at h
 ·rename_i aO;rw [aO];simpa using h
 ·rename_i j want aO;rw [aO];split at h
  ·rename_i d a3;split at h
   ·rename_i b ag;have aj:=aL.c5 d;rw [ag] at aj;have:=aj.h0;simp only [Option.some.injEq] at h;subst h;have aS:a.tmps[d]?=some (.bool b):=by
     rw [sT] at this;cases h:a.tmps[d]? with
     | none=>rw [h] at this;simp [undef] at this
     | some v=>rw [h] at this;simpa using this
    simp [yielded,a3,aS]
   ·rename_i ag;have aj:=aL.c5 d;rw [ag] at aj;simp only [Option.some.injEq] at h;subst h;have aN:yielded ops a.tmps j=none:=by
     unfold yielded;rw [a3,sx];cases h:a.tmps[d]? with
     | none=>rfl
     | some v =>
       rw [sT,h] at aj;simp only [vb] at aj;cases aj;rfl
    simp [aN]
   ·simp at h
  ·simp at h
theorem cw.skip {T:List I} {a:Act} (aL:cw B N U J S w ⟨T,H⟩ a) (d:Option Tmp):cw B N U J S w ⟨put T d (.tuple []),H⟩ (a.put d undef):=by
 cases d with
 | none=>exact aL
 | some d =>
   refine ⟨?_,aL.H,aL.M⟩;have bX:=aL.T;simp only [put,gU,Act.put] at bX ⊢;have key:∀ (i:Nat) (u:I) (x:Value),(T.set d (.tuple []))[i]?=some u→(a.tmps.toList.set d undef)[i]?=some x→Rel J S w u x∧aW U J S w (.slot i) u x:=fun i u x hu ak=>by
    by_cases aE:d=i
    ·subst aE;(have aS:d<T.length:=by have:=(sv.1 hu).1;simpa using this);rw [sI aS] at hu;cases hu;rw [sI (by have:=(sv.1 ak).1;simpa using this)] at ak;cases ak;exact ⟨.tuple _ _ rfl (by simp) (by simp),aW.b4 rfl⟩
    ·rw [sJ aE] at hu ak;exact ⟨bX.rel i u x hu ak,bX.own i u x hu ak⟩
   refine ⟨by simpa using bX.len,fun i u x hu ak=>?_,fun i u x hu ak=>?_⟩
   ·rw [wF] at ak;exact (key i u x hu ak).1
   ·rw [wF] at ak;exact (key i u x hu ak).2
theorem yi:∀ (k:List Bool) (T:List I) (i:Nat),(e0 k T)[i]?=T[i]?∨(e0 k T)[i]?=(T[i]?).map fun _=>.junk
 | [],T,i=>.inl (by simp [e0])
 | b::bs,[],i=>.inl (by simp [e0])
 | b::bs,v::vs,i=>by
   cases i with
   | zero=>cases b <;> simp [e0]
   | succ i=>simpa [e0] using yi bs vs i
theorem BG:∀ (k:List Bool) (T:List I),(e0 k T).length=T.length
 | [],T=>by simp [e0]
 | b::bs,[]=>by simp [e0]
 | b::bs,v::vs=>by simp [e0,BG bs vs]
theorem cw.cD {s:a7} {a:Act} (aL:cw B N U J S w s a) (mH:List (Nat×List Bool)) (id:Nat):cw B N U J S w (e5 mH id s) a:=by
 unfold e5;split
 ·rename_i k _;refine ⟨⟨by rw [BG];exact aL.T.len,fun i u x hu ak=>?_,fun i u x hu ak=>?_⟩,aL.H,aL.M⟩
  all_goals simp only at hu
  ·rcases yi k s.T i with h | h
   ·rw [h] at hu;exact aL.T.rel i u x hu ak
   ·rw [h] at hu;simp only [su] at hu;obtain ⟨_,_,rfl⟩:=hu;exact .junk _
  ·rcases yi k s.T i with h | h
   ·rw [h] at hu;exact aL.T.own i u x hu ak
   ·rw [h] at hu;simp only [su] at hu;obtain ⟨_,_,rfl⟩:=hu;exact aW.b4 rfl
 ·exact aL
theorem Step.here {s:a7} {a:Act} (aL:cw B N U J S w s a):Step B N U J S w s a w:=⟨U,J,S,Ext.refl J,bj.refl U S w,aL⟩
theorem xq {F:Fence} (bF:en F) {C:b8} (bw:dc P C) {lo:Nat} {ops:Array Oper} {aF:a7} {Q:Exit→Act→World→Prop} :
  ∀ (rest:List Oper) (as:List b3) (s:a7) (a:Act) (w:World) (U:Nat→Option aH) (J:List Nat) (S:Nat→Nat→Prop),eR P C lo ops rest as s=some aF→cw B N U J S w s a →
    (∀ aM w',Step B N U J S w aF aM w'→Q .normal aM w')→wpListIn F 0 P ops Q rest a w
 | [],as,s,a,w,U,J,S,h,aL,bp=>by
   simp only [eR,Option.some.injEq] at h;subst h;exact bp a w (Step.here aL)
 | o::rest,as,s,a,w,U,J,S,h,aL,bp=>by
   simp only [eR] at h;unfold wpListIn;split at h
   ·rename_i hw;rw [lx aL hw];simp only [if_true];simp only [sE] at h;obtain ⟨s1,ad,af⟩:=h;refine x7 bF bw ad aL fun aM w' ai=>?_;obtain ⟨b5,c2,a8,aJ,aQ,cg⟩:=ai;exact xq bF bw rest as.tail s1 aM w' b5 c2 a8 af cg fun gW hs dO=>bp gW hs (dO.trans aJ aQ)
   ·rename_i hw;rw [lx aL hw];simp only [ua,if_false];exact ⟨fun f _=>bF.fn f,xq bF bw rest as.tail _ _ w U J S h (aL.skip o.dst) bp⟩
   ·simp at h
end
end Go.Proofs.YtfakoboiahbhaaaGreat.Ab


namespace Go.Proofs.YtfakoboiahbhaaaGreat.Ab
open Go
theorem lU {xs ys:List Nat} (h:jB xs ys=true) (x:Nat) (ak:x∈xs):x ∉ ys:=by
 simp only [jB,sR] at h;have:=h x ak;simpa using this
theorem x4 (u:I):u.settle.settle=u.settle:=by
 cases u <;> try rfl
 rename_i c n k;cases k <;> rfl
theorem yb (u:I):u.settle.view=u.view:=by
 cases u <;> try rfl
 rename_i c n k;cases k <;> rfl
theorem m6 (T:List I) (t j:Nat):(fU T t (c5 T t))[j]?=if t=j then (T[j]?).map I.settle else T[j]?:=by
 have aO:c5 T t=T.getD t .junk:=gd T t;by_cases g_:t=j
 ·subst g_;simp only [if_true];cases h:T[t]? with
  | none =>
    (have aw:c5 T t=.junk:=by rw [aO,sY,h];rfl);rw [aw];simp [fU,h]
  | some u =>
    (have aw:c5 T t=u:=by rw [aO,sY,h];rfl);have aS:=(sv.1 h).1;rw [aw];(cases u <;> try (simp [fU,h,I.settle];done));rename_i c n k;cases k <;> simp only [fU,h,I.settle,gU,sD] <;> rw [sI aS]
 ·simp only [g_,if_false];unfold fU;split
  ·rw [gU,sJ g_]
  ·rfl
theorem lp (T:List I) (t j:Nat) (v:I):(gT T t v)[j]?=if t=j then (T[j]?).map fun _=>v else T[j]?:=by
 rw [gU];by_cases h:t=j
 ·subst h;simp only [if_true];rcases tq t T.length with ao | ao
  ·rw [sI ao,sK ao];rfl
  ·rw [ub (by simpa using ao),ub ao];rfl
 ·rw [sJ h];simp [h]
theorem j_:∀ (xs:List Operand) (ts:List Bool) (T:List I) (j:Nat),
  ((rd T ts xs).2)[j]?=(T[j]?).map fun u=>if j∈c1 ts xs then .junk else if j∈tmpsOf xs then u.settle else u
 | [],ts,T,j=>by simp [rd,c1,tmpsOf]
 | .tmp t::rest,ts,T,j=>by
   (have ay:tmpsOf (.tmp t::rest)=t::tmpsOf rest:=by simp [tmpsOf]);rw [ay];cases bI:ts.headD false with
   | true =>
     simp only [rd,bI,c1];rw [j_ rest ts.tail,lp];by_cases g_:t=j
     ·subst g_;simp only [if_true,sL,true_or];cases T[t]? with
      | none=>rfl
      | some u=>simp only [sD,I.settle];split <;> simp
     ·have xa:¬ j=t:=fun e=>g_ e.symm;simp [g_,xa]
   | false =>
     simp only [rd,bI,c1];rw [j_ rest ts.tail,m6];by_cases g_:t=j
     ·subst g_;simp only [if_true,sL,true_or];cases T[t]? with
      | none=>rfl
      | some u=>simp only [sD,x4];split <;> (try split) <;> rfl
     ·have xa:¬ j=t:=fun e=>g_ e.symm;simp [g_,xa]
 | .const v::rest,ts,T,j=>by simpa [rd,c1,tmpsOf] using j_ rest ts.tail T j
 | .func f::rest,ts,T,j=>by simpa [rd,c1,tmpsOf] using j_ rest ts.tail T j
 | .global g::rest,ts,T,j=>by simpa [rd,c1,tmpsOf] using j_ rest ts.tail T j
theorem Ct {T ba:List I} {t:Nat} (h:(T[t]?).map I.settle=(ba[t]?).map I.settle):(c5 T t).view=(c5 ba t).view:=by
 rw [gd,gd,sY,sY];cases ad:T[t]? <;> cases af:ba[t]? <;> rw [ad,af] at h <;> simp at h <;> simp only [vb];rw [←yb,h,yb]
theorem j9:∀ (xs:List Operand) (ts:List Bool) (T ba:List I),(∀ t∈tmpsOf xs,(T[t]?).map I.settle=(ba[t]?).map I.settle)→(∀ t∈c1 ts xs,T[t]?=ba[t]?) →
  (rd T ts xs).1=(rd ba ts xs).1
 | [],ts,T,ba,_,_=>by simp [rd]
 | .tmp t::rest,ts,T,ba,ad,af=>by
   (have ay:tmpsOf (.tmp t::rest)=t::tmpsOf rest:=by simp [tmpsOf]);rw [ay] at ad;cases bI:ts.headD false with
   | true =>
     simp only [c1,bI] at af;simp only [rd,bI];have e:T[t]?=ba[t]?:=af t (by simp);rw [j9 rest ts.tail (gT T t .junk) (gT ba t .junk) (fun u hu=>?_) (fun u hu=>?_)]
     ·congr 1;rw [gd,gd,sY,sY,e]
     ·rw [lp,lp];by_cases ha:t=u
      ·subst ha;simp [e]
      ·simp [ha,ad u (by simp [hu])]
     ·rw [lp,lp];by_cases ha:t=u
      ·subst ha;simp [e]
      ·simp [ha,af u (by simp [hu])]
   | false =>
     simp only [c1,bI] at af;simp only [rd,bI];have e:=ad t (by simp);rw [j9 rest ts.tail (fU T t (c5 T t)) (fU ba t (c5 ba t)) (fun u hu=>?_) (fun u hu=>?_),Ct e]
     ·rw [m6,m6];by_cases ha:t=u
      ·subst ha;simp only [if_true,e]
      ·simp only [ha,if_false];exact ad u (by simp [hu])
     ·rw [m6,m6];by_cases ha:t=u
      ·subst ha;simp only [if_true,e]
      ·simp only [ha,if_false];exact af u hu
 | .const v::rest,ts,T,ba,ad,af=>by
   simp only [rd];rw [j9 rest ts.tail T ba (by simpa [tmpsOf] using ad) (by simpa [c1] using af)];rfl
 | .func f::rest,ts,T,ba,ad,af=>by
   simp only [rd];rw [j9 rest ts.tail T ba (by simpa [tmpsOf] using ad) (by simpa [c1] using af)];rfl
 | .global g::rest,ts,T,ba,ad,af=>by
   simp only [rd];rw [j9 rest ts.tail T ba (by simpa [tmpsOf] using ad) (by simpa [c1] using af)];rfl
section
variable {P:Program}
theorem nq {C:b8} {lo mode:Nat} {o:Oper} {us:List I} {r:I} {H H':List ar} (al:dn o mode=0) (h:a5 P C lo o mode us H=some (r,H')) :
  H'=H∧∀ a4,a5 P C lo o mode us a4=some (r,a4):=by
 have base:∀ {x:Option I},x.map (fun y=>(y,H))=some (r,H')→H'=H∧∀ a4:List ar,x.map (fun y=>(y,a4))=some (r,a4):=fun {x} h=>by
  simp only [su,Prod.mk.injEq] at h;obtain ⟨_,rfl,rfl,rfl⟩:=h;exact ⟨rfl,fun _=>rfl⟩
 have ml:∀ {t:TypeId} {x:Operand},mode=0→eY P lo mode t x H us=some (r,H')→H'=H∧∀ a4,eY P lo mode t x a4 us=some (r,a4):=fun hm h=>by
  subst hm;unfold eY at h;simp only [eY];split at h
  ·simp only at h ⊢;split at h
   ·simp only [su,Prod.mk.injEq] at h;obtain ⟨z,bk,rfl,rfl⟩:=h;exact ⟨rfl,fun _=>by simp [bk]⟩
   ·cases h;exact ⟨rfl,fun _=>rfl⟩
  ·simp at h
 cases aD:o.op <;> simp only [dn,aD] at al <;> simp only [a5,aD] at h ⊢
 case move x=>exact ml (by by_cases h:mode=0 <;> simp_all) h
 case assign x=>exact ml (by by_cases h:mode=0 <;> simp_all) h
 case load t a =>
  have hm:mode=3:=by by_cases h:mode=0 <;> by_cases af:mode=2 <;> by_cases aG:mode=3 <;> by_cases bM:mode=5 <;> simp_all
  subst hm;unfold dP at h;simp only [dP];split at h
  ·simp only at h ⊢;split at h
   ·exact base h
   ·cases h
  ·cases h
 case makeSlice t a b =>
  have hm:mode≠0:=by intro h;simp [h] at al
  unfold j6 at h;simp only [j6];split at h
  ·split at h
   ·rename_i iO;split at h
    ·exact absurd rfl hm
    ·split at h
     ·rename_i af;simp only [su,Prod.mk.injEq] at h;obtain ⟨x,ak,rfl,rfl⟩:=h;exact ⟨rfl,fun _=>by obtain ⟨e,aV⟩:=af;subst e;simp [ak,aV]⟩
     ·simp at h
   ·simp at h
  ·simp at h
 case box e x =>
  have hm:mode≠0:=by intro h;simp [h] at al
  unfold gO at h;simp only [gO];split at h
  ·split at h
   ·exact absurd rfl hm
   ·split at h
    ·rename_i ae;split at h
     ·rename_i aB;cases h;exact ⟨rfl,fun _=>by simp [ae,aB]⟩
     ·cases h
    ·cases h
  ·cases h
 case build t parts =>
  split at h
  ·exact base h
  ·simp only [su,Prod.mk.injEq] at h ⊢;obtain ⟨x,ak,rfl,rfl⟩:=h;exact ⟨rfl,fun _=>⟨x,ak,rfl,trivial⟩⟩
 case buildSlice t len parts =>
  split at h
  ·exact base h
  ·simp only [su,Prod.mk.injEq] at h ⊢;obtain ⟨x,ak,rfl,rfl⟩:=h;exact ⟨rfl,fun _=>⟨x,ak,rfl,trivial⟩⟩
 case call c =>
  split at al
  ·split at al
   ·by_cases hm:mode=0 <;> simp [hm] at al
   all_goals simp at al
  ·rename_i f h3;simp only [h3] at h ⊢;have hm:mode=3:=by
    by_cases aV:mode=0
    ·simp [aV] at al
    ·by_cases aG:mode=3
     ·exact aG
     ·by_cases a6:mode=4 <;> by_cases bT:mode=6 <;> simp [aV,aG,a6,bT] at al
   subst hm;unfold hJ at h;simp only [hJ];split at h
   ·unfold kq at h;simp only [kq];have key:∀ {b0:fb} {args:List I},e3 C lo 3 b0 args H=some (r,H')→H'=H∧∀ a4,e3 C lo 3 b0 args a4=some (r,a4):=fun {b0 args} h=>by
     simp only [e3] at h ⊢;split at h
     ·simp only [sE] at h;obtain ⟨x,ak,h⟩:=h;simp only [su,Prod.mk.injEq] at h;obtain ⟨v,ae,rfl,rfl⟩:=h;rename_i aB;exact ⟨rfl,fun a4=>by simp [ak,ae]⟩
     ·simp at h
    split at h
    ·exact key h
    ·exact key h
    ·simp at h
   ·simp at h
  ·simp at al
 case store=>simp at al
 case alloc=>simp at al
 case makeMap=>simp at al
 case mapUpdate=>simp at al
 case lookup=>simp at al
 case range=>simp at al
 case entry=>simp at al
 all_goals exact base h
def dT (H a4:List ar):Prop:=∀ (id:Nat) (o:ar),H[id]?=some o→a4[id]?=some o∨(∃ l l',o=.cells l∧a4[id]?=some (.cells l')∧l'.map I.view=l.map I.view)∨∃ l l' g z,o=.grow l g z∧a4[id]?=some (.grow l' g z)∧l'.map I.view=l.map I.view
theorem dT.cells {H a4:List ar} (h:dT H a4) {id:Nat} {l:List I} (aE:H[id]?=some (.cells l)):∃ l',a4[id]?=some (.cells l')∧l'.map I.view=l.map I.view:=by
 rcases h id _ aE with h | ⟨cu,l',ad,af,aG⟩ | ⟨_,_,_,_,ad,_⟩
 ·exact ⟨l,h,rfl⟩
 ·cases ad;exact ⟨l',af,aG⟩
 ·cases ad
theorem dT.grow {H a4:List ar} (h:dT H a4) {id g z:Nat} {l:List I} (aE:H[id]?=some (.grow l g z)):∃ l',a4[id]?=some (.grow l' g z)∧l'.map I.view=l.map I.view:=by
 rcases h id _ aE with h | ⟨_,_,ad,_⟩ | ⟨cu,l',GJ,cT,ad,af,aG⟩
 ·exact ⟨l,h,rfl⟩
 ·cases ad
 ·cases ad;exact ⟨l',af,aG⟩
theorem dT.append (H:List ar) (X:List ar):dT H (H++X):=fun id o h=>.inl (by
 rw [sQ (sv.1 h).1];exact h)
theorem zA {t:TypeId} {l l':List I} {off:Nat} (h:l'.map I.view=l.map I.view):ez P t l' off=ez P t l off:=by
 have ao:l'.length=l.length:=by have:=congrArg List.length h;simpa using this
 unfold ez;split
 ·have:∀ s,((l'.drop off).take s).map I.view=((l.drop off).take s).map I.view:=fun s=>by
   rw [ur,uC,h,←uC,←ur]
  simp only [ao,this]
 ·split
  ·have:=congrArg (fun x=>x[off]?) h;simpa using this
  ·rfl
theorem BR {H a4:List ar} (ai:dT H a4) {t:TypeId} {a r:I} (h:dS P H t a=some r):dS P a4 t a=some r:=by
 unfold dS at h ⊢;split at h
 ·split at h
  ·rename_i l aE;obtain ⟨l',ad,af⟩:=ai.cells aE;rw [ad];simp only;rw [zA af];exact h
  ·rename_i l g z aE;obtain ⟨l',ad,af⟩:=ai.grow aE;rw [ad];simp only;rw [zA af];exact h
  ·simp at h
 ·exact h
 ·simp at h
theorem AO {H a4:List ar} (ai:dT H a4) {x:I} {row:List I} (h:rowOf H x=some row):rowOf a4 x=some row:=by
 unfold rowOf at h ⊢;split at h
 ·exact h
 ·split at h
  ·rename_i l aE;obtain ⟨l',ad,af⟩:=ai.cells aE;(have ao:l'.length=l.length:=by have:=congrArg List.length af;simpa using this);rw [ad];simp only [ao]
   have:∀ s off,((l'.drop off).take s).map I.view=((l.drop off).take s).map I.view:=fun s off=>by
    rw [ur,uC,af,←uC,←ur]
   simp only [this];exact h
  ·simp at h
 ·simp at h
theorem BZ {H a4:List ar} (ai:dT H a4) {x:I} {r:Nat×List I} (h:appended H x=some r):appended a4 x=some r:=by
 unfold appended at h ⊢;split at h
 ·rename_i m row hm aj;rw [hm,AO ai aj];exact h
 ·simp at h
theorem BL {H a4:List ar} (ai:dT H a4) {t dt:TypeId} {s x r:I} (h:fc P H t dt s x=some r):fc P a4 t dt s x=some r:=by
 unfold fc at h ⊢;split at h
 ·split at h
  ·rename_i sz bytes z ad af aG;split at h
   ·rename_i ag;split at h
    ·rename_i m new cc;simp only [BZ ai cc];split at h
     ·rename_i al;rw [if_pos al];split at h
      ·exact h
      ·rename_i id off len cap oE;split at h
       ·rename_i h2;rw [if_pos h2];simp only [sE] at h;obtain ⟨fQ,aq,h⟩:=h;simp only [AO ai aq,sx];exact h
       ·simp at h
      ·simp at h
     ·simp at h
    ·simp at h
   ·exact h
  ·simp at h
 ·simp at h
theorem jz {C:b8} {lo mode:Nat} {o:Oper} {us:List I} {r:I} {H H':List ar} (al:dn o mode=1) (h:a5 P C lo o mode us H=some (r,H')) :
  H'=H∧∀ a4,dT H a4→a5 P C lo o mode us a4=some (r,a4):=by
 cases aD:o.op <;> simp only [dn,aD] at al <;> simp only [a5,aD] at h ⊢
 case load =>
  have hm:mode=0:=by by_cases h:mode=0 <;> by_cases af:mode=2 <;> by_cases aG:mode=3 <;> by_cases bM:mode=5 <;> simp_all
  subst hm;unfold dP at h;simp only [dP];split at h
  ·simp only [su,Prod.mk.injEq] at h ⊢;obtain ⟨v,ae,rfl,rfl⟩:=h;exact ⟨rfl,fun a4 ai=>⟨v,BR ai ae,rfl,trivial⟩⟩
  ·simp at h
 case call c =>
  split at al
  ·rename_i b pr;simp only [pr] at h ⊢;split at al
   ·(have hm:mode=0:=by by_cases h:mode=0 <;> simp_all);subst hm;simp only [eA,iW] at h ⊢;split at h
    ·split at h
     ·simp only [su,Prod.mk.injEq] at h ⊢;obtain ⟨v,ae,rfl,rfl⟩:=h;exact ⟨rfl,fun a4 ai=>⟨v,BL ai ae,rfl,trivial⟩⟩
     ·simp at h
    ·simp at h
   ·simp only [eA,hk] at h ⊢;split at h
    ·split at h
     ·split at h <;> simp at h;obtain ⟨rfl,rfl⟩:=h;exact ⟨rfl,fun _ _=>by simp_all⟩
     ·split at h <;> simp at h;obtain ⟨rfl,rfl⟩:=h;exact ⟨rfl,fun _ _=>by simp_all⟩
     ·split at h
      ·rename_i ay aE;simp at h;obtain ⟨rfl,rfl⟩:=h;refine ⟨rfl,fun a4 ai=>?_⟩;rcases ai _ _ aE with h | ⟨l,l',h,_⟩ | ⟨_,_,_,_,h,_⟩
       ·simp [ay,h]
       ·cases h
       ·cases h
      ·simp at h
     ·split at h
      ·simp at h;obtain ⟨rfl,rfl⟩:=h;exact ⟨rfl,fun _ _=>by simp_all⟩
      ·simp at h
    ·simp at h
   ·simp only [eA,j4] at h ⊢;split at h
    ·split at h <;> simp at h;obtain ⟨rfl,rfl⟩:=h;exact ⟨rfl,fun _ _=>by simp_all⟩
    ·split at h <;> simp at h;obtain ⟨rfl,rfl⟩:=h;exact ⟨rfl,fun _ _=>by simp_all⟩
    ·simp at h
   ·simp only [eA,su,Prod.mk.injEq] at h ⊢;obtain ⟨v,ae,rfl,rfl⟩:=h;exact ⟨rfl,fun _ _=>⟨v,ae,rfl,trivial⟩⟩
   ·simp only [eA,su,Prod.mk.injEq] at h ⊢;obtain ⟨v,ae,rfl,rfl⟩:=h;exact ⟨rfl,fun _ _=>⟨v,ae,rfl,trivial⟩⟩
   ·simp at al
  ·exfalso;by_cases aV:mode=0
   ·simp [aV] at al
   ·by_cases aG:mode=3
    ·simp [aG] at al
    ·by_cases a6:mode=4 <;> by_cases bT:mode=6 <;> simp [aV,aG,a6,bT] at al
  ·simp at al
 case move=>by_cases h:mode=0 <;> simp [h] at al
 case assign=>by_cases h:mode=0 <;> simp [h] at al
 case makeSlice=>by_cases h:mode=0 <;> simp [h] at al
 case box=>by_cases h:mode=0 <;> simp [h] at al
 all_goals simp at al
theorem Cb {C:b8} {lo mode:Nat} {o:Oper} {us:List I} {r:I} {H H':List ar} (al:dn o mode=3) (h:a5 P C lo o mode us H=some (r,H')):H'=H:=by
 have base:∀ {x:Option I},x.map (fun y=>(y,H))=some (r,H')→H'=H:=fun {x} h=>by
  simp only [su,Prod.mk.injEq] at h;obtain ⟨_,rfl,rfl,rfl⟩:=h;rfl
 cases aD:o.op <;> simp only [dn,aD] at al <;> simp only [a5,aD] at h
 case load=>by_cases h:mode=0 <;> by_cases af:mode=2 <;> by_cases aG:mode=3 <;> by_cases bM:mode=5 <;> simp [h,af,aG,bM] at al
 case call c =>
  split at al
  ·split at al
   ·by_cases hm:mode=0 <;> simp [hm] at al
   all_goals simp at al
  ·rename_i f h3;simp only [h3] at h;have hm:mode=0∨mode=4∨mode=6:=by
    by_cases aV:mode=0
    ·exact .inl aV
    ·by_cases aG:mode=3
     ·simp [aG] at al
     ·by_cases a6:mode=4
      ·exact .inr (.inl a6)
      ·by_cases bT:mode=6
       ·exact .inr (.inr bT)
       ·simp [aV,aG,a6,bT] at al
   have key:∀ {b0:fb} {args:List I},e3 C lo mode b0 args H=some (r,H')→H'=H:=fun {b0 args} h=>by
    rcases hm with rfl | rfl | rfl
    ·simp only [e3,sE] at h;obtain ⟨x,_,h⟩:=h;exact base h
    ·simp only [e3,sE,su,Prod.mk.injEq] at h;obtain ⟨x,_,v,_,_,h⟩:=h;exact h.symm
    ·simp only [e3] at h;split at h
     ·simp only [sE] at h;obtain ⟨x,_,v,_,h⟩:=h;split at h
      ·simp only [Option.some.injEq,Prod.mk.injEq] at h;exact h.2.symm
      ·cases h
     ·cases h
   unfold hJ at h;split at h
   ·unfold kq at h;split at h
    ·exact key h
    ·exact key h
    ·simp at h
   ·simp at h
  ·simp at al
 case move=>by_cases h:mode=0 <;> simp [h] at al
 case assign=>by_cases h:mode=0 <;> simp [h] at al
 case makeSlice=>by_cases h:mode=0 <;> simp [h] at al
 case box=>by_cases h:mode=0 <;> simp [h] at al
 all_goals simp at al
theorem Gp {off:Nat} {l:List I} {u:I} (hu:l[off]?=some u):(l.set off u.view).map I.view=l.map I.view:=by
 rw [vi];have kP:u.view.view=u.view:=I.kk (I.dj u);rw [kP];apply ui;intro j;by_cases aw:off=j
 ·subst aw;rw [sI (by simpa using (sv.1 hu).1),sN,hu];rfl
 ·rw [sJ aw]
theorem Fw {H:List ar} {id off g z:Nat} {l:List I} {u:I} (aE:H[id]?=some (.grow l g z)) (hu:l[off]?=some u):dT H (H.set id (.grow (l.set off u.view) g z))∧dT (H.set id (.grow (l.set off u.view) g z)) H:=by
 have ae:=Gp hu;have aS:=(sv.1 aE).1;constructor
 ·intro i o h;by_cases hi:id=i
  ·subst hi;rw [aE] at h;cases h;exact .inr (.inr ⟨l,_,g,z,rfl,sI aS,ae⟩)
  ·exact .inl (by rw [sJ hi];exact h)
 ·intro i o h;by_cases hi:id=i
  ·subst hi;rw [sI aS] at h;cases h;exact .inr (.inr ⟨_,l,g,z,rfl,aE,ae.symm⟩)
  ·rw [sJ hi] at h;exact .inl h
theorem A7 {H:List ar} {id off:Nat} {l:List I} {u:I} (aE:H[id]?=some (.cells l)) (hu:l[off]?=some u):dT H (H.set id (.cells (l.set off u.view)))∧dT (H.set id (.cells (l.set off u.view))) H:=by
 have ae:(l.set off u.view).map I.view=l.map I.view:=by
  rw [vi];have kP:u.view.view=u.view:=I.kk (I.dj u);rw [kP];apply ui;intro j;by_cases aw:off=j
  ·subst aw;rw [sI (by simpa using (sv.1 hu).1),sN,hu];rfl
  ·rw [sJ aw]
 have aS:=(sv.1 aE).1;constructor
 ·intro i o h;by_cases hi:id=i
  ·subst hi;rw [aE] at h;cases h;exact .inr (.inl ⟨l,_,rfl,sI aS,ae⟩)
  ·exact .inl (by rw [sJ hi];exact h)
 ·intro i o h;by_cases hi:id=i
  ·subst hi;rw [sI aS] at h;cases h;exact .inr (.inl ⟨_,l,rfl,aE,ae.symm⟩)
  ·rw [sJ hi] at h;exact .inl h
theorem yy {C:b8} {lo mode:Nat} {o:Oper} {us:List I} {r:I} {H H':List ar} (al:dn o mode=5) (h:a5 P C lo o mode us H=some (r,H')):dT H H'∧dT H' H:=by
 have refl:dT H H:=fun id o h=>.inl h;cases aD:o.op <;> simp only [dn,aD] at al <;> simp only [a5,aD] at h
 case load t a =>
  have hm:mode≠0:=by intro h;simp [h] at al
  unfold dP at h;split at h
  ·split at h
   ·exact absurd rfl hm
   ·simp at al
   ·simp at al
   ·split at h
    ·split at h
     ·split at h
      ·rename_i l aE;split at h
       ·rename_i c n z cP;cases h;exact A7 aE cP
       ·rename_i c n z cP;rw [if_neg (by intro af;simp [af] at al)] at h;cases h;exact A7 aE cP
       ·cases h;exact ⟨refl,refl⟩
       ·simp at h
      ·rename_i l g z aE;split at h
       ·rename_i c n cT cP;cases h;exact Fw aE cP
       ·cases h;exact ⟨refl,refl⟩
       ·cases h
      ·simp at h
     ·simp at h
    ·simp at h
  ·simp at h
 case call c =>
  split at al
  ·split at al
   ·by_cases hm:mode=0 <;> simp [hm] at al
   all_goals simp at al
  ·exfalso;by_cases aV:mode=0
   ·simp [aV] at al
   ·by_cases aG:mode=3
    ·simp [aG] at al
    ·by_cases a6:mode=4 <;> by_cases bT:mode=6 <;> simp [aV,aG,a6,bT] at al
  ·simp at al
 case move=>by_cases h:mode=0 <;> simp [h] at al
 case assign=>by_cases h:mode=0 <;> simp [h] at al
 case makeSlice=>by_cases h:mode=0 <;> simp [h] at al
 case box=>by_cases h:mode=0 <;> simp [h] at al
 all_goals simp at al
theorem Cc {C:b8} {lo mode:Nat} {o:Oper} {us:List I} {r:I} {H H':List ar} (al:dn o mode=6) (h:a5 P C lo o mode us H=some (r,H')):dT H H':=by
 cases aD:o.op <;> simp only [dn,aD] at al <;> simp only [a5,aD] at h
 case load=>by_cases h:mode=0 <;> by_cases af:mode=2 <;> by_cases aG:mode=3 <;> by_cases bM:mode=5 <;> simp [h,af,aG,bM] at al
 case box e x =>
  have hm:mode=0:=by by_cases h:mode=0 <;> simp_all
  subst hm;unfold gO at h;split at h
  ·simp only [su,Prod.mk.injEq] at h;obtain ⟨_,_,_,rfl⟩:=h;exact dT.append _ _
  ·simp at h
 case alloc t =>
  unfold k3 at h;split at h
  ·simp only [su,Prod.mk.injEq] at h;obtain ⟨_,_,_,rfl⟩:=h;exact dT.append _ _
  ·split at h
   ·simp only [su,Prod.mk.injEq] at h;obtain ⟨_,_,_,rfl⟩:=h;exact dT.append _ _
   ·cases h
 case call c =>
  split at al
  ·split at al
   ·by_cases hm:mode=0 <;> simp [hm] at al
   all_goals simp at al
  ·exfalso;by_cases aV:mode=0
   ·simp [aV] at al
   ·by_cases aG:mode=3
    ·simp [aG] at al
    ·by_cases a6:mode=4 <;> by_cases bT:mode=6 <;> simp [aV,aG,a6,bT] at al
  ·simp at al
 case move=>by_cases h:mode=0 <;> simp [h] at al
 case assign=>by_cases h:mode=0 <;> simp [h] at al
 case makeSlice=>by_cases h:mode=0 <;> simp [h] at al
 all_goals simp at al
noncomputable def dC (P:Program) (C:b8) (lo:Nat) (ops:Array Oper) (o:Oper) (an:b3) (s:a7):Option a7 :=
 match eB ops o s.T with
 | some true=>Ab.execOp P C lo o an s
 | some false=>some ⟨put s.T o.dst (.tuple []),s.H⟩
 | none=>none
theorem Bx {ops:Array Oper} {o:Oper} {T ba:List I} (h:∀ t∈pc ops o,(T[t]?).map I.settle=(ba[t]?).map I.settle):eB ops o T=eB ops o ba:=by
 unfold eB;split
 ·rfl
 ·rename_i j want aO;split
  ·rename_i d a3;have hm:=h d (by simp [pc,aO,a3]);have ai:(c5 T d).settle=(c5 ba d).settle:=by
    rw [gd,gd,sY,sY];cases ad:T[d]? <;> cases af:ba[d]? <;> rw [ad,af] at hm <;> simp at hm <;> simp [hm]
   have key:∀ x:I,(match x with | .bool b=>some (b == want) | .tuple []=>some false | _=>none)=(match x.settle with | .bool b=>some (b == want) | .tuple []=>some false | _=>none):=fun x=>by
    (cases x <;> try rfl);rename_i c n k;cases k <;> rfl
   exact (key _).trans (Eq.trans (by rw [ai]) (key _).symm)
  ·rfl
theorem od (T:List I) (d:Option Nat) (v:I) (j:Nat):(put T d v)[j]?=if d=some j then (T[j]?).map fun _=>v else T[j]?:=by
 cases d with
 | none=>simp [put]
 | some d=>simp only [put,lp,Option.some.injEq]
def g1 (o:Oper) (an:b3) (w:Bool) (r:I) (j:Nat) (u:I):I :=
 if o.dst=some j then r else if w=false then u else if j∈c1 an.takes (opsOf o) then .junk else if j∈tmpsOf (opsOf o) then u.settle else u
theorem yw {o:Oper} {mode:Nat} (h:calm o mode=true) (T:List I) (v:I):inPlace o mode T v=T:=by
 unfold inPlace;split
 ·rfl
 ·rfl
 ·rename_i hm _;split
  ·rename_i aD;simp [calm,aD] at h;exact absurd h hm
  ·rename_i aD;simp [calm,aD] at h;exact absurd h hm
  ·rfl
theorem Bp {C:b8} {lo:Nat} {ops:Array Oper} {o:Oper} {an:b3} {s aF:a7} (po:calm o an.mode=true) (h:dC P C lo ops o an s=some aF) :
  ∃ w r,eB ops o s.T=some w∧(∀ j,aF.T[j]?=(s.T[j]?).map (g1 o an w r j)) ∧
    (w=true→a5 P C lo o an.mode (fw (dK o an.mode) (rd s.T an.takes (opsOf o)).1) s.H=some (r,aF.H))∧(w=false→r=.tuple []∧aF.H=s.H):=by
 unfold dC at h;split at h
 ·rename_i hw;obtain ⟨r,H',aD,rfl⟩:=o5 h;refine ⟨true,r,hw,fun j=>?_,fun _=>aD,by simp⟩;rw [yw po];simp only [od,j_];cases s.T[j]? with
  | none=>split <;> rfl
  | some u=>by_cases a3:o.dst=some j <;> simp [g1,a3]
 ·rename_i hw;simp only [Option.some.injEq] at h;subst h;refine ⟨false,.tuple [],hw,fun j=>?_,by simp,fun _=>⟨rfl,rfl⟩⟩;simp only [od];cases s.T[j]? with
  | none=>split <;> rfl
  | some u=>by_cases a3:o.dst=some j <;> simp [g1,a3]
 ·simp at h
theorem Bn {C:b8} {lo:Nat} {ops:Array Oper} {o:Oper} {an:b3} {s:a7} (po:calm o an.mode=true) {w:Bool} {r:I} {H':List ar} (hw:eB ops o s.T=some w)
  (ad:w=true→a5 P C lo o an.mode (fw (dK o an.mode) (rd s.T an.takes (opsOf o)).1) s.H=some (r,H')) (af:w=false→r=.tuple []∧H'=s.H) :
  ∃ ba,dC P C lo ops o an s=some ⟨ba,H'⟩∧∀ j,ba[j]?=(s.T[j]?).map (g1 o an w r j):=by
 cases w with
 | true =>
   refine ⟨put (inPlace o an.mode (rd s.T an.takes (opsOf o)).2 r) o.dst r,?_,fun j=>?_⟩
   ·have ad:=ad rfl;simp only [dC,hw,Ab.execOp];unfold fw at ad;cases ao:dK o an.mode <;> rw [ao] at ad <;> simp only at ad ⊢ <;> rw [ad] <;> rfl
   ·rw [yw po];simp only [od,j_];cases s.T[j]? with
    | none=>split <;> rfl
    | some u=>by_cases a3:o.dst=some j <;> simp [g1,a3]
 | false =>
   obtain ⟨rfl,rfl⟩:=af rfl;refine ⟨put s.T o.dst (.tuple []),by simp only [dC,hw],fun j=>?_⟩;simp only [od];cases s.T[j]? with
   | none=>split <;> rfl
   | some u=>by_cases a3:o.dst=some j <;> simp [g1,a3]
theorem DW {t:TypeId} {H:List ar} {id c dX:Nat} {es es':List (Nat×I×I)} (aE:H[id]?=some (.map es c)) (a:I):dS P (H.set id (.map es' dX)) t a=dS P H t a:=by
 have ao:=(sv.1 aE).1;unfold dS;cases a with
 | ptr i off =>
   simp only;by_cases h:id=i
   ·subst h;rw [sI ao,aE]
   ·rw [sJ h]
 | _=>rfl
theorem DX {C:b8} {lo:Nat} {bE bR:Oper} {dh:Nat} {us vs:List I} {aT r2:I} {H a4:List ar} (h:kX bE 0 bR=true) (ad:a5 P C lo bE 0 us H=some (aT,H)) (af:a5 P C lo bR dh vs H=some (r2,a4)) :
  a5 P C lo bE 0 us a4=some (aT,a4):=by
 unfold kX at h;split at h
 ·rename_i t x jg m k v iQ dZ;simp only [a5,iQ] at ad ⊢;simp only [a5,dZ] at af;unfold dP at ad ⊢;split at ad
  ·rename_i a;simp only [su,Prod.mk.injEq] at ad;obtain ⟨r,ad,rfl,-⟩:=ad;have key:∃ id c es dX es',H[id]?=some (.map es c)∧a4=H.set id (.map es' dX):=by
    unfold iY at af;split at af
    ·split at af
     ·split at af
      ·split at af
       ·split at af
        ·rename_i aE;split at af
         ·cases af;exact ⟨_,_,_,_,_,aE,rfl⟩
         ·cases af;exact ⟨_,_,_,_,_,aE,rfl⟩
         ·simp at af
        ·simp at af
       ·simp at af
      ·simp at af
     ·simp at af
    ·simp at af
   obtain ⟨id,c,es,dX,es',aE,rfl⟩:=key;simp only;rw [DW aE,ad];rfl
  ·simp at ad
 ·simp at h
theorem Bl {C:b8} {lo:Nat} {ops:Array Oper} {bE bR:Oper} {aC aI:b3} (hi:indep ops bE aC bR aI=true) {s s1 s2:a7} (ad:dC P C lo ops bE aC s=some s1) (af:dC P C lo ops bR aI s1=some s2) :
  ∃ di,dC P C lo ops bR aI s=some di∧dC P C lo ops bE aC di=some s2:=by
 simp only [indep,sO] at hi;obtain ⟨⟨⟨⟨⟨⟨⟨d1,d2⟩,d3⟩,d4⟩,d5⟩,a'⟩,bb⟩,bI⟩:=hi;have e1:∀ t,bE.dst=some t→t ∉ e_ ops bR:=fun t ay=>lU d1 t (by simp [ay]);have ca:∀ t,bR.dst=some t→t ∉ e_ ops bE:=fun t ay=>lU d2 t (by simp [ay]);have dx:∀ t,bE.dst=some t→bR.dst≠some t:=fun t ay h=>lU d3 t (by simp [ay]) (by simp [h]);have lV:=lU d4;have lW:=lU d5;have jh:∀ (xs:List Operand) (ts:List Bool) (t:Nat),t∈c1 ts xs→t∈tmpsOf xs:=by
  intro xs
  induction xs with
  | nil=>intro ts t h;simp [c1] at h
  | cons x rest a_ =>
    intro ts t h;cases x with
    | tmp u =>
      (have ay:tmpsOf (.tmp u::rest)=u::tmpsOf rest:=by simp [tmpsOf]);rw [ay];simp only [c1] at h;split at h
      ·rcases sL.1 h with rfl | h
       ·simp
       ·exact uw _ (a_ _ t h)
      ·exact uw _ (a_ _ t h)
    | const v=>simpa [tmpsOf] using a_ _ t (by simpa [c1] using h)
    | func f=>simpa [tmpsOf] using a_ _ t (by simpa [c1] using h)
    | global g=>simpa [tmpsOf] using a_ _ t (by simpa [c1] using h)
 obtain ⟨bH,aT,cb,t1,fA,v1⟩:=Bp a' ad;obtain ⟨bY,r2,b6,t2,gp,v2⟩:=Bp bb af;have cD:∀ (o:Oper) (a:b3) (w:Bool) (r:I) (t:Nat),o.dst≠some t→t ∉ c1 a.takes (opsOf o)→∀ u,(g1 o a w r t u).settle=u.settle:=fun o a w r t a3 ay u=>by
  unfold g1;rw [if_neg a3];split
  ·rfl
  ·by_cases h:t∈tmpsOf (opsOf o) <;> simp only [h,if_true,if_false];exact x4 u
 have stay:∀ (o:Oper) (a:b3) (w:Bool) (r:I) (t:Nat),o.dst≠some t→t ∉ tmpsOf (opsOf o)→∀ u,g1 o a w r t u=u:=fun o a w r t a3 ay u=>by
  unfold g1;rw [if_neg a3];split
  ·rfl
  ·have DH:t ∉ c1 a.takes (opsOf o):=fun h=>ay (jh _ _ t h);simp only [DH,if_false]
 have dg:∀ t∈e_ ops bR,(s1.T[t]?).map I.settle=(s.T[t]?).map I.settle:=fun t ay=>by
  rw [t1];cases s.T[t]? with
  | none=>rfl
  | some u=>simp only [sD];rw [cD bE aC bH aT t (fun h=>e1 t h ay) (fun h=>lV t h ay)]
 have aJ:∀ t∈c1 aI.takes (opsOf bR),s1.T[t]?=s.T[t]?:=fun t ay=>by
  rw [t1];have aN:bE.dst≠some t:=fun h=>e1 t h (by simp [e_,jh _ _ t ay]);have pL:t ∉ tmpsOf (opsOf bE):=fun h=>lW t ay (by simp [e_,h]);cases s.T[t]? with
  | none=>rfl
  | some u=>simp only [sD];rw [stay bE aC bH aT t aN pL]
 have Cw:eB ops bR s.T=some bY:=by rw [←b6];exact (Bx fun t ay=>dg t (by simp [e_,ay])).symm
 have da:(rd s1.T aI.takes (opsOf bR)).1=(rd s.T aI.takes (opsOf bR)).1:=j9 _ _ _ _ (fun t ay=>dg t (by simp [e_,ay])) aJ;have Al:∀ {o:Oper} {a:b3} {us:List I} {r:I} {H H':List ar},dn o a.mode=1∨dn o a.mode=3→a5 P C lo o a.mode us H=some (r,H')→H'=H:=fun al aD=>by
  rcases al with al | al
  ·exact (jz al aD).1
  ·exact Cb al aD
 have av:dn bE aC.mode=0∨dn bR aI.mode=0∨((dn bE aC.mode=1∨dn bE aC.mode=3)∧(dn bR aI.mode=1∨dn bR aI.mode=3)) ∨
   (dn bE aC.mode=1∧dn bR aI.mode=5)∨(dn bE aC.mode=5∧dn bR aI.mode=1)∨(dn bE aC.mode=1∧dn bR aI.mode=6)∨(aC.mode=0∧kX bE 0 bR=true):=by
  rw [uc] at bI;rcases bI with bI | bI
  rotate_left
  ·refine .inr (.inr (.inr (.inr (.inr (.inr ?_)))));have aV:aC.mode=0:=by
    unfold kX at bI;split at bI
    ·simpa using bI
    ·simp at bI
   rw [aV] at bI;exact ⟨aV,bI⟩
  simp only [bQ,uc,sO,beq_iff_eq] at bI;rcases bI with ((((h | h) | h) | h) | h) | h
  ·exact .inl h
  ·exact .inr (.inl h)
  ·exact .inr (.inr (.inl h))
  ·exact .inr (.inr (.inr (.inl h)))
  ·exact .inr (.inr (.inr (.inr (.inl h))))
  ·exact .inr (.inr (.inr (.inr (.inr (.inl h)))))
 have mem:∃ hV,(bY=true→a5 P C lo bR aI.mode (fw (dK bR aI.mode) (rd s.T aI.takes (opsOf bR)).1) s.H=some (r2,hV))∧(bY=false→r2=.tuple []∧hV=s.H) ∧
   (bH=true→∀ vs,a5 P C lo bE aC.mode vs s.H=some (aT,s1.H)→a5 P C lo bE aC.mode vs hV=some (aT,s2.H))∧(bH=false→s2.H=hV):=by
  cases bY with
  | false =>
    obtain ⟨q1,aX⟩:=v2 rfl;refine ⟨s.H,by simp,fun _=>⟨q1,rfl⟩,fun _ vs h=>by rw [aX];exact h,fun hw=>by rw [aX];exact (v1 hw).2⟩
  | true =>
    have dZ:=gp rfl;rw [da] at dZ;cases bH with
    | false =>
      have q:=(v1 rfl).2;rw [q] at dZ;exact ⟨s2.H,fun _=>dZ,by simp,by simp,fun _=>rfl⟩
    | true =>
      have iQ:=fA rfl;rcases av with h | h | ⟨h,aY⟩ | ⟨h,aY⟩ | ⟨h,aY⟩ | ⟨h,aY⟩ | ⟨h,aY⟩
      ·have q:=(nq h iQ).1;rw [q] at dZ;exact ⟨s2.H,fun _=>dZ,by simp,fun _ vs bI=>(nq h bI).2 s2.H,by simp⟩
      ·have q:=(nq h dZ).1;refine ⟨s.H,fun _=>(nq h dZ).2 s.H,by simp,fun _ vs bI=>by rw [q];exact bI,by simp⟩
      ·have q1:=Al h iQ;have aX:=Al aY dZ;rw [aX,q1] at dZ;exact ⟨s.H,fun _=>dZ,by simp,fun _ vs bI=>by rw [aX];exact bI,by simp⟩
      ·have q1:=(jz h iQ).1;rw [q1] at dZ;exact ⟨s2.H,fun _=>dZ,by simp,fun _ vs bI=>(jz h bI).2 s2.H (yy aY dZ).1,by simp⟩
      ·obtain ⟨aX,cy⟩:=jz aY dZ;exact ⟨s.H,fun _=>cy s.H (yy h iQ).2,by simp,fun _ vs bI=>by rw [aX];exact bI,by simp⟩
      ·have q1:=(jz h iQ).1;rw [q1] at dZ;exact ⟨s2.H,fun _=>dZ,by simp,fun _ vs bI=>(jz h bI).2 s2.H (Cc aY dZ),by simp⟩
      ·have q1:s1.H=s.H:=by
        have al:dn bE aC.mode=1:=by
         unfold kX at aY;split at aY
         ·rename_i aD _;simp only [dn,aD,h];rfl
         ·simp at aY
        exact (jz al iQ).1
       rw [q1] at dZ;refine ⟨s2.H,fun _=>dZ,by simp,fun _ vs bI=>?_,by simp⟩;rw [q1] at bI;rw [h] at bI ⊢;exact DX aY bI dZ
 obtain ⟨hV,bq,cI,eE,jy⟩:=mem;obtain ⟨dG,DA,ph⟩:=Bn (C:=C) (lo:=lo) (s:=s) bb Cw bq cI;have dh:∀ t∈e_ ops bE,(dG[t]?).map I.settle=(s.T[t]?).map I.settle:=fun t ay=>by
  rw [ph];cases s.T[t]? with
  | none=>rfl
  | some u=>simp only [sD];rw [cD bR aI bY r2 t (fun h=>ca t h ay) (fun h=>lW t h ay)]
 have aQ:∀ t∈c1 aC.takes (opsOf bE),dG[t]?=s.T[t]?:=fun t ay=>by
  rw [ph];have aN:bR.dst≠some t:=fun h=>ca t h (by simp [e_,jh _ _ t ay]);have pL:t ∉ tmpsOf (opsOf bR):=fun h=>lV t ay (by simp [e_,h]);cases s.T[t]? with
  | none=>rfl
  | some u=>simp only [sD];rw [stay bR aI bY r2 t aN pL]
 have Cv:eB ops bE dG=some bH:=by rw [←cb];exact Bx fun t ay=>dh t (by simp [e_,ay])
 have d_:(rd dG aC.takes (opsOf bE)).1=(rd s.T aC.takes (opsOf bE)).1:=j9 _ _ _ _ (fun t ay=>dh t (by simp [e_,ay])) aQ
 obtain ⟨BJ,DB,CE⟩:=Bn (C:=C) (lo:=lo) (s:=⟨dG,hV⟩) (r:=aT) (H':=s2.H) a' Cv (fun hw=>by
  simp only;rw [d_];exact eE hw _ (fA hw)) (fun hw=>⟨(v1 hw).1,jy hw⟩)
 refine ⟨⟨dG,hV⟩,DA,?_⟩;rw [DB];congr 1
 have:BJ=s2.T:=by
  apply ui;intro j;rw [CE,t2];simp only [ph,t1];cases s.T[j]? with
  | none=>rfl
  | some u =>
    simp only [sD,Option.some.injEq];unfold g1;have Gw:=dx j;have lz:=e1 j;have lA:=ca j;have BD:=lV j;have BE:=lW j;have yh:=jh (opsOf bE) aC.takes j;have oJ:=jh (opsOf bR) aI.takes j;simp only [e_,List.mem_append,not_or] at lz lA BD BE;by_cases bS:bE.dst=some j
    ·have q:=(lz bS).2;have fT:j ∉ c1 aI.takes (opsOf bR):=fun h=>q (oJ h);simp only [bS,if_true,Gw bS,if_false,q,fT];split <;> rfl
    ·by_cases bZ:bR.dst=some j
     ·have q:=(lA bZ).2;have fT:j ∉ c1 aC.takes (opsOf bE):=fun h=>q (yh h);simp only [bS,bZ,if_true,if_false,q,fT];split <;> rfl
     ·simp only [bS,bZ,if_false];by_cases oF:j∈c1 aC.takes (opsOf bE)
      ·have q:=(BD oF).2;have fT:j ∉ c1 aI.takes (opsOf bR):=fun h=>q (oJ h);simp only [oF,q,fT,if_true,if_false];split <;> split <;> rfl
      ·by_cases x_:j∈c1 aI.takes (opsOf bR)
       ·have q:=(BE x_).2;simp only [oF,x_,q,if_true,if_false];split <;> split <;> rfl
       ·simp only [oF,x_,if_false];by_cases Fo:j∈tmpsOf (opsOf bE) <;> by_cases Fp:j∈tmpsOf (opsOf bR) <;> simp only [Fo,Fp,if_true,if_false] <;> split <;> split <;> first | rfl | rw [x4]
 rw [this]
end
end Go.Proofs.YtfakoboiahbhaaaGreat.Ab


namespace Go.Proofs.YtfakoboiahbhaaaGreat.Ab
open Go
section
variable {P:Program}
theorem mO (ms:List Nat) (j:Nat):∀ (l:List Edge) (n2:Nat),(l.foldl (fun m e=>if Region.binds .any e then m ||| (ms.getD e.on 0 ||| 1 <<< e.on) else m) n2).testBit j=true →
  n2.testBit j=true∨∃ e∈l,Region.binds .any e=true∧((ms.getD e.on 0).testBit j=true∨j=e.on)
 | [],n2,h=>.inl h
 | e::l,n2,h=>by
   simp only [List.foldl_cons] at h;rcases mO ms j l _ h with ad | ⟨cX,jI,ag,ad⟩
   ·by_cases ag:Region.binds .any e=true
    ·simp only [ag,if_true,Nat.testBit_or,uc] at ad;rcases ad with ad | ad | ad
     ·exact .inl ad
     ·exact .inr ⟨e,by simp,ag,.inl ad⟩
     ·refine .inr ⟨e,by simp,ag,.inr ?_⟩;rw [Nat.one_shiftLeft,Nat.testBit_two_pow] at ad;simpa using (of_decide_eq_true ad).symm
    ·simp only [ag] at ad;exact .inl ad
   ·exact .inr ⟨cX,by simp [jI],ag,ad⟩
def lS (ops:Array Oper) (listed:Array Bool):Prop :=
 ∀ k o,ops[k]?=some o→listed.getD k true=true→∀ e∈o.after,Region.binds .any e=true→listed.getD e.on false=true
noncomputable def cv (P:Program) (C:b8) (lo:Nat) (ops:Array Oper) (as:List b3):List Nat→a7→Option a7
 | [],s=>some s
 | i::r,s=>match ops[i]? with
   | none=>cv P C lo ops as r s
   | some o=>(dC P C lo ops o (as.getD i {}) s).bind (cv P C lo ops as r)
theorem yG {C:b8} {lo:Nat} {ops:Array Oper} {as:List b3}:∀ (l:List Oper) (k:Nat) (s:a7),(∀ j,l[j]?=ops[k+j]?)→eR P C lo ops l (as.drop k) s=cv P C lo ops as (List.range' k l.length) s
 | [],k,s,_=>by simp [eR,cv]
 | o::l,k,s,h=>by
   (have aV:ops[k]?=some o:=by simpa using (h 0).symm);have a_:=fun s=>yG (C:=C) (lo:=lo) (as:=as) l (k+1) s (fun j=>by have:=h (j+1);simpa [Nat.add_assoc,Nat.add_comm 1 j] using this);(have a3:(as.drop k).headD {}=as.getD k {}:=by rw [List.headD_eq_head?_getD,List.head?_drop,sY]);(have ay:(as.drop k).tail=as.drop (k+1):=by rw [List.tail_drop]);simp only [eR,sV,List.range'_succ,cv,aV,a3,ay];unfold dC;split
   ·rename_i hw;simp only [hw];congr 1;funext aF;exact a_ aF
   ·rename_i hw;simp only [hw];exact a_ _
   ·rename_i hw;simp only [hw];rfl
def eM (n:Nat) (listed:Array Bool):List Nat:=(List.range n).filter fun i=>!listed.getD i true
theorem As {n i:Nat} {listed:Array Bool}:eM n (listed.setIfInBounds i true)=(eM n listed).erase i:=by
 have jR:(eM n listed).Nodup:=List.nodup_range.filter _;rw [jR.erase_eq_filter];simp only [eM,List.filter_filter];congr 1;funext j;by_cases g5:j=i
 ·subst g5;rcases tq j listed.size with h | h
  ·simp [sT,h]
  ·simp [sT,h]
 ·have:(listed.setIfInBounds i true).getD j true=listed.getD j true:=by
   simp only [sT];rw [Array.getElem?_setIfInBounds_ne (Ne.symm g5)]
  rw [this];simp [g5]
theorem x0 {C:b8} {lo:Nat} {ops:Array Oper} {as:List b3} {i:Nat} {cO:Oper} (hi:ops[i]?=some cO) {aF:a7}:∀ (l:List Nat) (s:a7),l.Pairwise (·<·)→i∈l →
  (∀ j∈l,j<i→∀ c4,ops[j]?=some c4→indep ops c4 (as.getD j {}) cO (as.getD i {})=true)→cv P C lo ops as l s=some aF →
  ∃ s1,dC P C lo ops cO (as.getD i {}) s=some s1∧cv P C lo ops as (l.erase i) s1=some aF
 | [],s,_,h,_,_=>by simp at h
 | j::r,s,aB,hm,jK,h=>by
   by_cases g7:j=i
   ·subst g7;simp only [cv,hi,sE] at h;obtain ⟨s1,ad,af⟩:=h;exact ⟨s1,ad,by simpa using af⟩
   ·have aj:i∈r:=by
     rcases sL.1 hm with h | h
     ·exact absurd h.symm g7
     ·exact h
    have aS:j<i:=(tK.1 aB).1 i aj;have he:(j::r).erase i=j::r.erase i:=by
     rw [List.erase_cons];simp [g7]
    rw [he];simp only [cv] at h ⊢;cases aw:ops[j]? with
    | none =>
      simp only [aw] at h;exact x0 hi r s (tK.1 aB).2 aj (fun k av=>jK k (by simp [av])) h
    | some c4 =>
      simp only [aw,sE] at h;obtain ⟨s1,ad,af⟩:=h;obtain ⟨s2,aJ,aQ⟩:=x0 hi r s1 (tK.1 aB).2 aj (fun k av=>jK k (by simp [av])) af;obtain ⟨di,q1,aX⟩:=Bl (jK j (by simp) aS c4 aw) ad aJ;exact ⟨di,q1,by dsimp only;rw [aX];exact aQ⟩
variable {B N:Nat} {J:List Nat} {w:World} {U:Nat→Option aH} {S:Nat→Nat→Prop}
theorem Bo {F:Fence} (bF:en F) {C:b8} (bw:dc P C) {lo:Nat} {ops:Array Oper} {Q:Exit→Act→World→Prop} {i:Nat} {o:Oper} (hi:ops[i]?=some o) {an:b3} {s aF:a7}
  (h:dC P C lo ops o an s=some aF) {a:Act} (aL:cw B N U J S w s a) {K:Act→World→Prop} (fI:∀ aM w',Step B N U J S w aF aM w'→K aM w'):wpOpIn F 0 P ops Q i K a w:=by
 unfold wpOpIn;simp only [hi];unfold dC at h;split at h
 ·rename_i hw;rw [lx aL hw];simp only [if_true];exact x7 bF bw h aL fI
 ·rename_i hw;rw [lx aL hw];simp only [ua,if_false];simp only [Option.some.injEq] at h;subst h;exact ⟨fun f _=>bF.fn f,fI _ _ (Step.here (aL.skip o.dst))⟩
 ·simp at h
theorem BT {F:Fence} (bF:en F) {C:b8} (bw:dc P C) {lo:Nat} {ops:Array Oper} {as:List b3} (a3:ns ops as=true) {Q:Exit→Act→World→Prop} {aF:a7} :
  ∀ (fuel:Nat) (listed:Array Bool) (s:a7) (a:Act) (w:World) (U:Nat→Option aH) (J:List Nat) (S:Nat→Nat→Prop),(eM ops.size listed).length≤fuel→lS ops listed →
    cv P C lo ops as (eM ops.size listed) s=some aF→cw B N U J S w s a→(∀ aM w',Step B N U J S w aF aM w'→Q .normal aM w')→wpAnyIn F 0 P .any ops Q fuel listed a w:=by
 have cU:∀ j c4,ops[j]?=some c4→((hf ops.toList []).getD j 0=mN (hf ops.toList []) c4)∧(∀ e∈c4.after,Region.binds .any e=true→e.on<j) ∧
   ∀ i cO,i<j→ops[i]?=some cO→((hf ops.toList []).getD j 0).testBit i=true∨indep ops cO (as.getD i {}) c4 (as.getD j {})=true:=fun j c4 aw=>by
  have aS:j<ops.size:=(tt.1 aw).1;simp only [ns,z5,sR,sX] at a3;have h:=a3 j aS;rw [aw] at h;simp only [sO,beq_iff_eq,sR,sX] at h;obtain ⟨⟨ad,af⟩,aG⟩:=h;refine ⟨ad,fun e he ag=>?_,fun i cO g5 hi=>?_⟩
  ·have:=af e (by simpa using he);simp only [ag,Bool.not_true,Bool.false_or] at this;simpa [Nat.blt_eq] using this
  ·have:=aG i g5;rw [hi] at this;simpa using this
 have xI:∀ (listed:Array Bool),lS ops listed→∀ (n k:Nat) ok,k≤n→ops[k]?=some ok→(∀ e∈ok.after,Region.binds .any e=true→listed.getD e.on false=true) →
   ∀ j,((hf ops.toList []).getD k 0).testBit j=true→listed.getD j false=true:=by
  intro listed cB n
  induction n with
  | zero =>
    intro k ok av aq eT j aw;rw [(cU k ok aq).1] at aw;rcases mO _ j _ _ aw with h | ⟨e,he,ag,h⟩
    ·simp at h
    ·have:=(cU k ok aq).2.1 e (by simpa using he) ag;omega
  | succ n a_ =>
    intro k ok av aq eT j aw;rw [(cU k ok aq).1] at aw;rcases mO _ j _ _ aw with h | ⟨e,he,ag,h⟩
    ·simp at h
    ·(have jI:e∈ok.after:=by simpa using he);have aS:=(cU k ok aq).2.1 e jI ag;have h7:=eT e jI ag;rcases h with h | rfl
     ·have kD:=(tt.1 aq).1;have mm:ops[e.on]?=some ops[e.on]:=sS (by omega);have pS:listed.getD e.on true=true:=by
       rcases tq e.on listed.size with aY | aY
       ·simp [sT,aY] at h7 ⊢;exact h7
       ·simp [sT,aY] at h7
      exact a_ e.on _ (by omega) mm (cB e.on _ mm pS) j h
     ·exact h7
 intro fuel
 induction fuel with
 | zero =>
   intro listed s a w U J S pC cB dN aL bp;have h6:eM ops.size listed=[]:=tu.1 (by omega);rw [h6] at dN;simp only [cv,Option.some.injEq] at dN;subst dN;refine ⟨?_,bp a w (Step.here aL)⟩;rw [vj];intro i hi;obtain ⟨ad,o,aq,_⟩:=mem_ready.1 hi
   have:i∈eM ops.size listed:=by
    simp only [eM,tc,sX];exact ⟨(tt.1 aq).1,by simp [ad]⟩
   rw [h6] at this;simp at this
 | succ fuel a_ =>
   intro listed s a w U J S pC cB dN aL bp;refine ⟨fun aj=>?_,fun i hi=>?_⟩
   ·
    have h6:eM ops.size listed=[]:=by
     rw [vj];intro i
     induction i using Nat.strongRecOn with
     | _ i xj =>
       intro hi;simp only [eM,tc,sX] at hi;obtain ⟨aS,dA⟩:=hi;have aq:ops[i]?=some ops[i]:=sS aS
       have:i∈Region.ready .any ops listed:=mem_ready.2 ⟨by simpa using dA,_,aq,fun e he ag=>by
        have h5:=(cU i _ aq).2.1 e he ag;have kH:=xj e.on h5;simp only [eM,tc,sX,not_and] at kH;have ao:=kH (by omega);rcases tq e.on listed.size with aY | aY
        ·simp [sT,aY] at ao ⊢;exact ao
        ·rcases tq i listed.size with l3 | l3
         ·omega
         ·simp [sT,l3] at dA⟩
       rw [aj] at this;simp at this
    rw [h6] at dN;simp only [cv,Option.some.injEq] at dN;subst dN;exact bp a w (Step.here aL)
   ·obtain ⟨ad,cO,eh,eT⟩:=mem_ready.1 hi;have aS:=(tt.1 eh).1;have kF:i∈eM ops.size listed:=by
     simp only [eM,tc,sX];exact ⟨aS,by simp [ad]⟩
    have DE:(eM ops.size listed).Pairwise (·<·):=List.pairwise_lt_range.filter _
    obtain ⟨s1,q1,aX⟩:=x0 eh (eM ops.size listed) s DE kF (fun j aw g7 c4 pR=>by
     rcases (cU i cO eh).2.2 j c4 g7 pR with h | h
     ·have:=xI listed cB i i cO (sB _) eh eT j h;simp only [eM,tc,sX] at aw;have dA:=aw.2;rcases tq j listed.size with aY | aY
      ·simp [sT,aY] at dA this;rw [this] at dA;simp at dA
      ·simp [sT,aY] at dA
     ·exact h) dN
    refine Bo bF bw eh q1 aL fun aM w' ai=>?_;obtain ⟨b5,c2,a8,aJ,aQ,cg⟩:=ai;refine a_ (listed.setIfInBounds i true) s1 aM w' b5 c2 a8 ?_ ?_ (by rw [As];exact aX) cg fun gW hs dO=>bp gW hs (dO.trans aJ aQ)
    ·rw [As,List.length_erase_of_mem kF];omega
    ·intro k ok av ao e he ag;by_cases iL:k=i
     ·subst iL;rw [eh] at av;cases av;exact getD_set_true (eT e he ag)
     ·have:listed.getD k true=true:=by rw [getD_set_ne true (Ne.symm iL)] at ao;exact ao
      exact getD_set_true (cB k ok av this e he ag)
theorem Ao {F:Fence} (bF:en F) (hm:P.follows .mixedOrders=true) {C:b8} (bw:dc P C) {lo id:Nat} {ops:Array Oper} {draw:Bool} {as:List b3} (a3:draw=true→ns ops as=true) {Q:Exit→Act→World→Prop} {s aF:a7} {a:Act}
  (h:eR P C lo ops ops.toList as s=some aF) (aL:cw B N U J S w s a) (bp:∀ aM w',Step B N U J S w aF aM w'→Q .normal aM w'):(Code.region id ops draw).wpIn F 0 P Q a w:=by
 cases draw with
 | false=>exact wpIn_region_list (xq bF bw ops.toList as s a w U J S h aL bp)
 | true =>
   refine wpIn_region_any hm ?_;have hw:aK B U J S w.drew s.H:=mr aL.H;have aA:=kr U S w;have gf:cw B N U J S w.drew s a:=⟨⟨aL.T.len,fun i u v hu ae=>(aL.T.rel i u v hu ae).mono (Ext.refl J) aA.set,fun i u v hu ae=>(aL.T.own i u v hu ae).mono (Ext.refl J) aA.set fun b ag=>⟨ag,rfl,fun _ h=>h⟩⟩,hw,aL.M.aA aA⟩;have aj:=yG (P:=P) (C:=C) (lo:=lo) (as:=as) (ops:=ops) ops.toList 0 s (by simp);rw [th,h] at aj;have kL:eM ops.size (Array.replicate ops.size false)=List.range ops.size:=by
    simp only [eM];rw [List.filter_eq_self];intro i hi;have hi:=sX.1 hi;simp [sT,hi]
   refine BT bF bw (a3 rfl) ops.size (Array.replicate ops.size false) s a w.drew U J S (by rw [kL];simp) ?_ (by rw [kL,List.range_eq_range',←tQ];exact aj.symm) gf fun aM w' ai=>bp aM w' (ai.trans (Ext.refl J) aA);intro k o aq ao;have aS:=(tt.1 aq).1;simp [sT,aS] at ao
end
end Go.Proofs.YtfakoboiahbhaaaGreat.Ab
