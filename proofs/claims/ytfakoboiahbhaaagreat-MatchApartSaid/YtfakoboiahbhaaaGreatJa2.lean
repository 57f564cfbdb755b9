
import Derived.Test.YtfakoboiahbhaaaGreatJa1
import Derived.RangeFuncRecord
import Derived.MapKept
import Derived.RangeFuncLeaves
import Derived.RangeFuncCalls
import Derived.RangeFuncNested
import Derived.TacticsIn
set_option linter.unusedSimpArgs false
set_option linter.unusedVariables false
set_option linter.unusedSectionVars false

open Array renaming getD_eq_getD_getElem?→sB,getElem?_eq_getElem→sA,getElem?_eq_none→wa,getElem?_eq_some_iff→sY,getElem?_map→uM,getElem?_toList→uN,length_toList→tu,mapM_eq_mapM_toList→v8,mem_of_getElem?→vb,toArray_toList→uy,toList_map→ve,toList_setIfInBounds→wc
open Bool renaming and_eq_true→sx,false_eq_true→tG,or_eq_true→tI
open List renaming all_eq_true→sv,append_assoc→sD,append_nil→sW,drop_zero→sV,eq_nil_iff_forall_not_mem→uQ,ext_getElem?→tH,getD_eq_getElem?_getD→sE,getElem?_append_left→sy,getElem?_append_right→sJ,getElem?_cons_succ→uz,getElem?_cons_zero→ud,getElem?_drop→sZ,getElem?_eq_getElem→sm,getElem?_eq_none→tx,getElem?_eq_some_iff→sb,getElem?_map→ss,getElem?_set_ne→sj,getElem?_set_self→si,getElem?_take→sR,getElem?_toArray→vZ,getElem?_zip_eq_some→vB,length_cons→sM,length_drop→tE,length_eq_zero_iff→tA,length_map→sX,length_take→ta,map_drop→ug,map_fst_zip→vA,map_set→uP,map_take→ue,mem_cons→sq,mem_cons_of_mem→tV,mem_filter→sP,mem_iff_getElem?→tg,mem_map→sk,mem_of_getElem?→sH,mem_range→sK,nil_append→tN,pairwise_cons→tB,set_set→sU,take_of_length_le→tT
open Nat renaming le_refl→sd,le_trans→sL,lt_of_lt_of_le→u7,lt_or_ge→sT,mul_le_mul_right→tt,sub_zero→vC,zero_add→sS
open Option renaming bind_eq_some_iff→sg,bind_some→sc,getD_some→uL,isSome_iff_exists→tw,map_eq_some_iff→sa,map_some→sf
namespace Go.Proofs.YtfakoboiahbhaaaGreat.Ab
open Go
section
variable {P:Program} {B:Nat} {J:List Nat} {w:World} {H:List ar} {U:Nat→Option aH} {S:Nat→Nat→Prop}
theorem x1 {α β:Type} (g:α→Sem β) (h:α→β):∀ (l:List α),(∀ x∈l,∀ w,(g x).run P w=.ok (h x) w)→∀ w,(l.mapM g).run P w=.ok (l.map h) w
 | [],_,w=>by simp
 | x::l,ak,w=>by
   rw [List.mapM_cons];simp [ak x (by simp),x1 g h l (fun y aY=>ak y (by simp [aY]))]
theorem FK {t:TypeId} {parts:List (Nat×I)} {parts':Array (Nat×Value)} {r:I} (h:lF P t parts=some r) (hi:parts.map (·.1)=parts'.toList.map (·.1))
  (b0:∀ (j:Nat) (x:Nat×I) (y:Nat×Value),parts[j]?=some x→parts'.toList[j]?=some y→x.2.plain=true∧Rel J S w x.2 y.2) :
  ∃ v,(Instr.build t parts').run P w=.ok v w∧Rel J S w r v∧r.plain=true:=by
 have fin:∀ {c6:List I} {cU:Array Value},c1 J S w c6 cU.toList→Rel J S w (.agg c6) (.agg cU):=fun {c6 cU} h =>
  .agg _ _ (by simpa using h.len.symm) (fun u hu=>by
   obtain ⟨j,aw⟩:=tg.1 hu;have aS:=(sb.1 aw).1;exact (h.rel j u _ aw (sm (h.len ▸ aS))).1) (fun v ae=>by
   obtain ⟨j,aw⟩:=tg.1 ae;have aS:=(sb.1 aw).1
   exact (h.rel j _ v (sm (h.len ▸ aS)) aw).2.1) (fun j u v hu ae=>(h.rel j u v hu (by simpa using ae)).2.2)
 unfold lF at h;split at h
 ·rename_i z bl bj a2;obtain ⟨i,c',hi',dY,fc⟩:=hr (J:=J) (S:=S) (w:=w) bj;split at h
  ·rename_i cT;simp only [sa] at h;obtain ⟨c6,aP,rfl⟩:=h;obtain ⟨cU,ad,af⟩:=kt parts parts'.toList z c6 c'.cells hi b0 aP fc;have l5:∀ f∈bl.toList,∃ s,bC P f.type=some s:=fun f aP=>by
    have:=sv.1 cT f aP;exact tw.1 this
   have hm:=x1 (P:=P) (fun f:Field=>Prod.mk f.offset <$> sizeOf f.type) (fun f:Field=>(f.offset,(bC P f.type).getD 0)) bl.toList (fun f aP w=>by
    obtain ⟨s,ai⟩:=l5 f aP;simp [run_sizeOf ai,ai]) w
   have g6:(fun (i:Nat)=>(bl.map (fun f:Field=>(f.offset,(bC P f.type).getD 0)))[i]?)=(fun (i:Nat)=>(bl[i]?).bind fun f:Field=>(bC P f.type).map fun s=>(f.offset,s)):=by
    funext i;rw [uM];cases pv:bl[i]? with
    | none=>rfl
    | some f =>
      obtain ⟨s,ai⟩:=l5 f (by simpa using vb pv);simp [ai]
   refine ⟨.agg cU,?_,fin af,rfl⟩;rw [←g6] at ad;simp only [uM] at ad;simp [Instr.build,i' hi' dY,run_underlying a2,v8,hm,ad]
  ·simp at h
 ·rename_i z n e bj a2;obtain ⟨i,c',hi',dY,fc⟩:=hr (J:=J) (S:=S) (w:=w) bj;simp only [sg,sa] at h;obtain ⟨s,ai,c6,aP,rfl⟩:=h;obtain ⟨cU,ad,af⟩:=kt parts parts'.toList z c6 c'.cells hi b0 aP fc;refine ⟨.agg cU,?_,fin af,rfl⟩;simp [Instr.build,i' hi' dY,run_underlying a2,run_sizeOf ai,ad]
 ·simp at h
theorem yH {place:Nat→Option (Nat×Nat)}:∀ (p q:List (Nat×Value)) (vs:Array Value),Instr.fill place vs (p++q)=(Instr.fill place vs p).bind fun cU=>Instr.fill place cU q
 | [],q,vs=>by simp [Instr.fill]
 | (i,v)::p,q,vs=>by
   simp only [List.cons_append,Instr.fill];split
   ·rfl
   ·split
    ·rfl
    ·exact yH p q _
theorem yI {place:Nat→Option (Nat×Nat)} {off:Nat}:∀ (parts:List (Nat×Value)) (vs cU:Array Value),(∀ x∈parts,∃ o s,place x.1=some (o,s)∧(off<o∨o+s≤off)) →
  Instr.fill place vs parts=some cU→cU[off]?=vs[off]?
 | [],vs,cU,_,h=>by simp [Instr.fill] at h;rw [h]
 | (i,v)::r,vs,cU,aB,h=>by
   obtain ⟨o,s,ad,af⟩:=aB (i,v) (by simp);simp only [Instr.fill,ad] at h;split at h
   ·simp at h
   ·rename_i al;simp at al;rw [yI r _ cU (fun x ak=>aB x (by simp [ak])) h];have aO:=o7 o v.cells.toList 0 vs off (by simp;omega);rw [if_neg (by simp;omega)] at aO;rw [←Array.foldl_toList,Array.toList_zipIdx];exact aO
theorem z1:∀ (parts pre:List (Nat×I)) {ld:List (Nat×I)} {i:Nat} {c:List I} {n s:Nat} {post:List (Nat×I)},iX pre parts=some (ld,i,c,n,s,post) →
  ∃ k,(k=.own s∨k=.uniq s)∧pre++parts=ld++(i,.ax c n k)::post
 | [],pre,_,_,_,_,_,_,h=>by simp [iX] at h
 | x::r,pre,_,_,_,_,_,_,h=>by
   unfold iX at h;split at h
   ·simp at *
   ·rename_i e;cases e;cases h;exact ⟨_,.inl rfl,rfl⟩
   ·rename_i e;cases e;cases h;exact ⟨_,.inr rfl,rfl⟩
   ·rename_i e;cases e;obtain ⟨k,av,e⟩:=z1 r _ h;exact ⟨k,av,by rw [←e];simp⟩
theorem FL (ah:aK B U J S w H) {t:TypeId} {parts:List (Nat×I)} {parts':Array (Nat×Value)} {r:I} (h:kk P t parts=some r) (hi:parts.map (·.1)=parts'.toList.map (·.1))
  (b0:∀ (j:Nat) (x:Nat×I) (y:Nat×Value),parts[j]?=some x→parts'.toList[j]?=some y→Rel J S w x.2 y.2∧aV U J S w (.arg j) x.2 y.2) :
  ∃ v,(Instr.build t parts').run P w=.ok v w∧a0 B U J S w H r v w:=by
 unfold kk at h;split at h
 ·rename_i z bl pre i c n s post bj a2 aD;split at h
  ·rename_i off cT g6;split at h
   ·rename_i l7;simp only [sx,sv] at l7;obtain ⟨⟨h8,kI⟩,pR⟩:=l7;simp only [sg] at h;obtain ⟨eN,CV,h⟩:=h;split at h
    ·rename_i aS;simp only [sa] at h;obtain ⟨ec,pt,rfl⟩:=h;obtain ⟨k,av,za⟩:=z1 parts [] aD;rw [tN] at za;subst za;rw [List.map_append,List.map_cons] at hi;obtain ⟨ld,rest,fI,jT,Dl⟩:=List.map_eq_append_iff.1 hi.symm;obtain ⟨⟨jV,y⟩,z7,rfl,y_,y'⟩:=List.map_eq_cons_iff.1 Dl;simp only at y_;subst y_;(have hlen:ld.length=pre.length:=by rw [←sX (f:=(·.1)),jT,sX]);obtain ⟨aj,aq⟩:=b0 pre.length (jV,.ax c n k) (jV,y) (by simp) (by rw [fI,←hlen];simp);simp only at aj aq;(obtain ⟨a,jW,ej,rfl⟩:∃ a jW ej,y=.slice a jW ej:=by cases aj <;> exact ⟨_,_,_,rfl⟩);obtain ⟨S',aJ,aQ,b9,_,_,CF⟩:=oX (u:=.ax c n k) (vc:=[.ax c n k]) ah (l:=.arg pre.length) (by simp) (by simp) rfl aj aq;(have eD:(I.ax c n k).settle=.ax c n (.own s):=by rcases av with rfl | rfl <;> rfl);obtain ⟨_,nJ,jQ⟩:=CF 0 (.ax c n (.own s)) (.slice a jW ej) (by simp [eD]) rfl;have jQ:aV U J S' w (.arg pre.length) (.ax c n (.own s)) (.slice a jW ej):=by
      rcases jQ with h | ⟨_,_,h⟩
      ·simp [I.plain] at h
      ·exact h
     have nH:∀ {u:I} {v:Value},Rel J S w u v→Rel J S' w u v:=fun h=>h.mono (Ext.refl J) fun b o ai=>⟨aJ b o ai,rfl⟩;obtain ⟨i0,c',hi',dY,fc⟩:=hr (J:=J) (S:=S') (w:=w) bj
     obtain ⟨yb,ca,a_⟩:=kt (J:=J) (S:=S') (w:=w) pre ld z eN c'.cells jT.symm (fun j x y ak aY=>by
      have jJ:=(sb.1 ak).1
      exact ⟨h8 x (sH ak),nH (b0 j x y (by rw [sy jJ];exact ak) (by rw [fI,sy (by omega)];exact aY)).1⟩) CV fc
     have DG:yb.size=eN.length:=by have:=a_.len;simpa using this.symm
     have B7:c1 J S' w (eN.set off .junk) (yb.setIfInBounds off (.slice a jW ej)).toList:=⟨by simp [DG],fun j u v hu ae=>by
      rw [List.getElem?_set] at hu;rw [uN,Array.getElem?_setIfInBounds] at ae;by_cases e:off=j
      ·subst e;rw [if_pos rfl,if_pos aS] at hu;rw [if_pos rfl,if_pos (by omega)] at ae;cases hu;cases ae;exact ⟨rfl,rfl,.junk _⟩
      ·rw [if_neg e] at hu;rw [if_neg e] at ae
       exact a_.rel j u v hu (by simpa using ae)⟩
     obtain ⟨eW,b5,ba⟩:=kt (J:=J) (S:=S') (w:=w) post z7 (eN.set off .junk) ec (yb.setIfInBounds off (.slice a jW ej)) y'.symm (fun j x y ak aY=>by
      exact ⟨kI x (sH ak),nH (b0 (pre.length+1+j) x y (by rw [sJ (by omega),show pre.length+1+j-pre.length=j+1 by omega,uz];exact ak)
       (by rw [fI,sJ (by omega),show pre.length+1+j-ld.length=j+1 by omega,uz];exact aY)).1⟩) pt B7
     have jK:eW[off]?=some (.slice a jW ej):=by
      rw [yI z7 _ eW (fun x ak=>by
       have:x.1∈post.map (·.1):=by rw [←y'];exact List.mem_map_of_mem ak
       obtain ⟨q,aZ,e⟩:=sk.1 this;have aZ:=pR q aZ;rw [e] at aZ;split at aZ
       ·rename_i o aF he;exact ⟨o,aF,he,of_decide_eq_true aZ⟩
       ·cases aZ) b5,Array.getElem?_setIfInBounds,if_pos rfl,if_pos (by omega)]
     (have G3:eW.size=ec.length:=by have:=ba.len;simpa using this.symm);have G0:off<eW.size:=(sY.1 jK).1;have pw:Instr.fill (fun (i:Nat)=>(bl[i]?).bind fun f:Field=>(bC P f.type).map fun s=>(f.offset,s)) c'.cells parts'.toList=some eW:=by
      rw [fI,yH,ca,sc];simp only [Instr.fill,g6];rw [if_neg (by simp [Value.cells];omega)];simpa [Value.cells] using b5
     have l5:∀ f∈bl.toList,∃ s,bC P f.type=some s:=fun f aP=>by
      have:=sv.1 cT f aP;exact tw.1 this
     have hm:=x1 (P:=P) (fun f:Field=>Prod.mk f.offset <$> sizeOf f.type) (fun f:Field=>(f.offset,(bC P f.type).getD 0)) bl.toList (fun f aP w=>by
      obtain ⟨s,ai⟩:=l5 f aP;simp [run_sizeOf ai,ai]) w
     have Dm:(fun (i:Nat)=>(bl.map (fun f:Field=>(f.offset,(bC P f.type).getD 0)))[i]?)=(fun (i:Nat)=>(bl[i]?).bind fun f:Field=>(bC P f.type).map fun s=>(f.offset,s)):=by
      funext i;rw [uM];cases pv:bl[i]? with
      | none=>rfl
      | some f =>
        obtain ⟨s,ai⟩:=l5 f (by simpa using vb pv);simp [ai]
     refine ⟨.agg eW,?_,?_⟩
     ·rw [←Dm] at pw;simp only [uM] at pw;simp [Instr.build,i' hi' dY,run_underlying a2,v8,hm,pw]
     ·(have nO:(ec.take off).length=off:=by rw [ta];omega);have R:Rel J S' w (.cY (ec.take off) c n s (ec.drop (off+1))) (.agg eW):=by
       refine .cY _ _ _ _ _ eW (by rw [nO,tE];omega) (fun u hu=>?_) (fun u hu=>?_) (fun v ae=>?_) (fun j u v hu ae=>?_) (fun v ae=>?_) (fun j u v hu ae=>?_)
       ·obtain ⟨j,aw⟩:=tg.1 hu;rw [sR] at aw;split at aw
        ·have aS:=(sb.1 aw).1;exact (ba.rel j u _ aw (sm (ba.len ▸ aS))).1
        ·cases aw
       ·obtain ⟨j,aw⟩:=tg.1 hu;rw [sZ] at aw;have aS:=(sb.1 aw).1;exact (ba.rel _ u _ aw (sm (ba.len ▸ aS))).1
       ·obtain ⟨j,aw⟩:=tg.1 ae;have aS:=(sb.1 aw).1;exact (ba.rel j _ v (sm (by rw [ba.len];exact aS)) aw).2.1
       ·rw [sR] at hu;split at hu
        ·exact (ba.rel j u v hu (by simpa using ae)).2.2
        ·cases hu
       ·rw [nO,jK] at ae;cases ae;exact nJ
       ·rw [nO] at ae;rw [sZ] at hu;exact (ba.rel _ u v hu (by simpa using ae)).2.2
      have O:aV U J S' w (.arg pre.length) (.cY (ec.take off) c n s (ec.drop (off+1))) (.agg eW):=by
       show ∀ v,eW[(ec.take off).length]?=some v→gv U S' w (.arg pre.length) c n s v;intro v ae;rw [nO,jK] at ae;cases ae;exact gv.of jQ
      obtain ⟨az,bU,BI,e1,b',du,lT,lU⟩:=hJ b9 (l:=.arg pre.length) (by simp) (by simp) R O;exact ⟨az,bU,BI,e1,(bh.settle aJ (fun b o h=>(aQ b o h).imp id fun h=>⟨_,h⟩)).trans b',du,lT,lU⟩
    ·simp at h
   ·simp at h
  ·simp at h
 ·simp at h
theorem Bb (ah:aK B U J S w H) {t:TypeId} {len:Nat} {parts:List (Nat×I)} {parts':Array (Nat×Value)} {cs:List I} {s:Nat} (h:iw P t len parts=some (cs,s))
  (hi:parts.map (·.1)=parts'.toList.map (·.1))
  (b0:∀ (j:Nat) (x:Nat×I) (y:Nat×Value),parts[j]?=some x→parts'.toList[j]?=some y→x.2.plain=true∧Rel J S w x.2 y.2) :
  ∃ b w',(Instr.buildSlice t len parts').run P w=.ok (.slice (some ⟨b,0,none⟩) len len) w'∧a0 B U J S w H (.ax cs len (.uniq s)) (.slice (some ⟨b,0,none⟩) len len) w':=by
 unfold iw at h;split at h
 ·rename_i e a2;split at h
  ·rename_i aF z ai bj;split at h
   ·rename_i al;obtain ⟨ad,af,aG⟩:=al;simp only [sa,Prod.mk.injEq] at h;obtain ⟨c6,aP,rfl,rfl⟩:=h;obtain ⟨i,c',hi',dY,fc⟩:=hr (J:=J) (S:=S) (w:=w) bj;have fK:=m9 fc (by omega) len;(have kP:z.length=c'.cells.size:=by simpa using fc.len);obtain ⟨cU,q1,aW⟩:=kt parts parts'.toList (e5 len z) c6 ((Array.range (len*z.length)).map (fun i=>c'.cells[i % c'.cells.size]!)) hi b0 aP fK;have px:∀ (place:Nat→Option (Nat×Nat)) (parts:List (Nat×I)) (a b:List I),fz place a parts=some b→b.length=a.length:=by
     intro place parts
     induction parts with
     | nil=>intro a b h;simp [fz] at h;rw [h]
     | cons x parts a9 =>
       intro a b h;obtain ⟨i,u⟩:=x;simp only [fz] at h;split at h
       ·split at h
        ·split at h
         ·rw [a9 _ _ h,lk]
         ·simp at h
        ·simp at h
       ·simp at h
    have cA:c6.length=len*aF:=by rw [px _ _ _ _ aP,ih,af]
    have iN:=n5 ah aW [] e len len aF ad cA (sd _) (by
     have:len≤len*aF:=Nat.le_mul_of_pos_right _ ad
     simp only [maxLen];omega) (by rw [←aW.len,cA];simp)
    refine ⟨_,_,?_,iN⟩;simp only [sW,uy];rw [af] at q1;(have l6:¬ (16777216<len*aF):=by omega);by_cases aU:len*aF=0
    ·obtain rfl:len=0:=by
      rcases Nat.mul_eq_zero.1 aU with h | h
      ·exact h
      ·omega
     (have EJ:Instr.fill (fun i=>some (i*aF,aF)) #[] parts'.toList=some cU:=by simpa [show Array.range 0=#[] from rfl] using q1);simp [Instr.buildSlice,run_underlying a2,run_sizeOf ai,show Array.range 0=#[] from rfl,EJ,newRow,newObj,Sem.run,World.alloc_eq]
    ·simp [Instr.buildSlice,run_underlying a2,run_sizeOf ai,aU,l6,i' hi' dY,q1,newRow,newObj,Sem.run,World.alloc_eq]
   ·simp at h
  ·simp at h
 ·simp at h
end
end Go.Proofs.YtfakoboiahbhaaaGreat.Ab


namespace Go.Proofs.YtfakoboiahbhaaaGreat.Ab
open Go
section
variable {P:Program} {B:Nat} {J:List Nat} {w:World} {H:List ar} {U:Nat→Option aH} {S:Nat→Nat→Prop}
def eA (P:Program) (aT:Operand→Value) (o:Oper) (w:World) (R:Value→World→Prop):Prop :=
 (∃ v w',(Go.execOp aT o).run P w=.ok (.value v) w'∧R v w')∨(∃ w',(Go.execOp aT o).run P w=.ok .skip w'∧R undef w')
theorem eA.makes {aT:Operand→Value} {o:Oper} {r:I} (ah:aK B U J S w H) (h:e9 P o aT J S w r) (aB:r.plain=true):eA P aT o w (a0 B U J S w H r):=by
 obtain ⟨v,ad,af⟩:=h;exact .inl ⟨v,w,ad,a0.same ah af aB⟩
theorem a8.one {bA:Nat→aH} {us:List I} {aT:Operand→Value} {x:Operand} (h:a8 bA U J S w us ([x].map aT)):∃ u,us=[u]∧Rel J S w u (aT x)∧aV U J S w (bA 0) u (aT x):=by
 match us,h with
 | [u],h=>exact ⟨u,rfl,h.rel 0 u _ rfl rfl,h.own 0 u _ rfl rfl⟩
 | [],h=>exact absurd h.len (by simp)
 | _::_::_,h=>exact absurd h.len (by simp)
theorem a8.two {bA:Nat→aH} {us:List I} {aT:Operand→Value} {x y:Operand} (h:a8 bA U J S w us ([x,y].map aT)) :
  ∃ u v,us=[u,v]∧Rel J S w u (aT x)∧aV U J S w (bA 0) u (aT x)∧Rel J S w v (aT y)∧aV U J S w (bA 1) v (aT y):=by
 match us,h with
 | [u,v],h=>exact ⟨u,v,rfl,h.rel 0 u _ rfl rfl,h.own 0 u _ rfl rfl,h.rel 1 v _ rfl rfl,h.own 1 v _ rfl rfl⟩
 | [],h=>exact absurd h.len (by simp)
 | [_],h=>exact absurd h.len (by simp)
 | _::_::_::_,h=>exact absurd h.len (by simp)
theorem BM {op:BinOp} {k:IntKind} {a b:Int} {r:I} (h:jt op k a b=some r):r.plain=true:=by
 cases op <;> simp [jt] at h <;> first | (subst h;rfl) | (obtain ⟨_,rfl⟩:=h;rfl)
theorem BO {op:BinOp} {t:TypeId} {x y r:I} (h:fm P op t x y=some r):r.plain=true:=by
 unfold fm at h;split at h
 ·split at h
  ·unfold hv at h;split at h <;> simp at h;subst h;rfl
  ·unfold hv at h;split at h <;> simp at h;subst h;rfl
  ·split at h
   ·exact BM h
   ·simp at h
 ·split at h <;> simp at h <;> subst h <;> rfl
 ·split at h
  ·split at h
   ·split at h
    ·split at h
     ·simp only [sa] at h;obtain ⟨_,_,rfl⟩:=h;rfl
     ·simp only [sa] at h;obtain ⟨_,_,rfl⟩:=h;rfl
     ·simp at h
    ·simp at h
   ·simp at h
  ·split at h
   ·split at h
    ·simp only [sa] at h;obtain ⟨_,_,rfl⟩:=h;rfl
    ·simp only [sa] at h;obtain ⟨_,_,rfl⟩:=h;rfl
    ·simp at h
   ·simp at h
  ·simp at h
 ·simp at h
theorem BQ {t:TypeId} {x y r:I} (h:hW P t x y=some r):r.plain=true:=by
 unfold hW at h;split at h <;> simp only [sg,sa,reduceCtorEq] at h <;> (try (obtain ⟨_,_,_,_,rfl⟩:=h;rfl))
theorem BP {t:TypeId} {x r:I} {f:Nat} (h:ju P t x f=some r):r.plain=true:=by
 unfold ju at h;split at h <;> simp only [sg,reduceCtorEq] at h <;> (try (obtain ⟨_,_,_,_,h⟩:=h;split at h <;> simp at h;subst h;rfl))
theorem xy {o:Oper} (h:∀ c,o.op≠.call c):opsOf o=o.op.operands.toList:=by
 unfold opsOf;split
 ·rename_i heq;exact absurd heq (h _)
 ·rename_i heq;exact absurd heq (h _)
 ·rfl
theorem F4 {aT:Operand→Value} (eT:∀ v,aT (.const v)=v) {o:Oper} {us:List I} {r:I} (ah:aK B U J S w H) (h:cw P o us=some r) {mode:Nat} (cX:dH o mode=false)
  (aB:∀ u∈us,u.plain=true) (ae:a8 (fun i=>.arg i) U J S w us ((opsOf o).map aT)):eA P aT o w (a0 B U J S w H r):=by
 cases aD:o.op <;> simp only [cw,aD,reduceCtorEq] at h <;> rw [xy (by simp [aD])] at ae <;> (try (simp [dH,aD] at cX;done))
 case pick c a b =>
  replace ae:a8 (fun i=>.arg i) U J S w us ([c,a,b].map aT):=by simpa [aD,Op.operands] using ae
  unfold xx at h;split at h
  ·rename_i x fx gl;have r1:=ae.rel 0 _ _ rfl rfl;have r2:=ae.rel 1 _ _ rfl rfl;have eI:=ae.rel 2 _ _ rfl rfl;cases x
   ·cases h;exact eA.makes ah (zN aD r1 r2 eI) (aB gl (by simp))
   ·cases h;exact eA.makes ah (zN aD r1 r2 eI) (aB fx (by simp))
  ·simp at h
 case build t parts =>
  have ae:a8 (fun i=>.arg i) U J S w us ((parts.toList.map (·.2)).map aT):=by simpa [aD,Op.operands] using ae
  have hlen:us.length=parts.toList.length:=by simpa using ae.len
  obtain ⟨v,q1,aW,cx⟩:=FK (J:=J) (S:=S) (w:=w) (parts':=parts.map fun (x:Nat×Operand)=>(x.1,aT x.2)) h (by simp [eL,vA,hlen]) (fun j x y ak aY=>by
   simp only [eL,vB] at ak;obtain ⟨xc,g'⟩:=ak;simp only [ve,ss,sa] at aY;obtain ⟨p,fI,rfl⟩:=aY
   exact ⟨aB _ (sH g'),ae.rel j _ _ g' (by simp only [ss,fI,sf])⟩)
  exact .inl ⟨v,w,by simp [Go.execOp,aD,q1],a0.same ah aW cx⟩
 case buildSlice t len parts =>
  have ae:a8 (fun i=>.arg i) U J S w us ((parts.toList.map (·.2)).map aT):=by simpa [aD,Op.operands] using ae
  have hlen:us.length=parts.toList.length:=by simpa using ae.len
  simp only [sa] at h;obtain ⟨⟨cs,s⟩,h,rfl⟩:=h
  obtain ⟨_,w',q1,aW⟩:=Bb (parts':=parts.map fun (x:Nat×Operand)=>(x.1,aT x.2)) ah h (by simp [eL,vA,hlen]) (fun j x y ak aY=>by
   simp only [eL,vB] at ak;obtain ⟨xc,g'⟩:=ak;simp only [ve,ss,sa] at aY;obtain ⟨p,fI,rfl⟩:=aY
   exact ⟨aB _ (sH g'),ae.rel j _ _ g' (by simp only [ss,fI,sf])⟩)
  exact .inl ⟨_,w',by simp [Go.execOp,aD,q1],aW⟩
 case nilCheck x =>
  obtain ⟨u,rfl,r1,_⟩:=a8.one (x:=x) (by simpa [aD,Op.operands] using ae);unfold n_ at h;split at h
  ·rename_i id off heq;simp at heq;subst heq;cases h;exact eA.makes ah (Ej aD r1) rfl
  ·rename_i cells heq;simp at heq;subst heq;cases h;exact eA.makes ah (Ek aD r1) rfl
  ·simp at h
 case unOp op t x =>
  obtain ⟨u,rfl,r1,_⟩:=a8.one (x:=x) (by simpa [aD,Op.operands] using ae);simp only [e4] at h;refine eA.makes ah (El aD h r1) ?_;unfold km at h;split at h <;> (try split at h) <;> simp at h <;> subst h <;> rfl
 case convert s d x =>
  obtain ⟨u,rfl,r1,_⟩:=a8.one (x:=x) (by simpa [aD,Op.operands] using ae);simp only [e4] at h;refine eA.makes ah (Eb aD h r1) ?_;unfold lG at h;split at h
  ·split at h
   ·simp at h;subst h;rfl
   ·simp at h
  ·simp at h
 case makeFunc fn first captured =>
  refine eA.makes ah (Eg aD h (by simpa [aD,Op.operands] using ae) aB) ?_;unfold mS at h;split at h
  ·split at h <;> simp at h;subst h;rfl
  ·simp at h
 case fieldAddr t x f =>
  obtain ⟨u,rfl,r1,_⟩:=a8.one (x:=x) (by simpa [aD,Op.operands] using ae);simp only [e4] at h;exact eA.makes ah (Ef aD h r1) (BP h)
 case field t x f =>
  obtain ⟨u,rfl,r1,_⟩:=a8.one (x:=x) (by simpa [aD,Op.operands] using ae);simp only [e4,sa] at h;obtain ⟨r',h,rfl⟩:=h;exact eA.makes ah (Ee aD h r1) (I.dg _)
 case extract x i =>
  obtain ⟨u,rfl,r1,_⟩:=a8.one (x:=x) (by simpa [aD,Op.operands] using ae);simp only [e4,sa] at h;obtain ⟨r',h,rfl⟩:=h;exact eA.makes ah (Ed aD h r1) (I.dg _)
 case indexAddr t x i =>
  obtain ⟨u,v,rfl,r1,_,r2,_⟩:=a8.two (x:=x) (y:=i) (by simpa [aD,Op.operands] using ae);simp only [gg] at h;exact eA.makes ah (Ei aD h r1 r2 (I.fu (aB u (by simp)))) (BQ h)
 case index t x i =>
  obtain ⟨u,v,rfl,r1,_,r2,_⟩:=a8.two (x:=x) (y:=i) (by simpa [aD,Op.operands] using ae);simp only [gg,sa] at h;obtain ⟨r',h,rfl⟩:=h;exact eA.makes ah (Eh aD h r1 r2) (I.dg _)
 case binOp op t x y iq =>
  obtain ⟨u,v,rfl,r1,_,r2,_⟩:=a8.two (x:=x) (y:=y) (by simpa [aD,Op.operands] using ae);split at h
  ·rename_i Dk;refine eA.makes ah (Ec aD Dk h r1 eT) ?_;unfold nd at h;dsimp only at h;repeat' split at h
   all_goals first | (simp at h;done) | (simp at h;subst h;rfl)
  ·simp only [gg] at h;refine eA.makes ah ?_ (BO h);cases u <;> cases v <;> (try (simp [fm] at h;done))
   ·exact D' aD h r1 r2
   ·exact Ea aD h r1 r2
   ·exact D_ aD h r1 r2
theorem ES {cells:List I} {len:Nat} {a:Option Addr} (h:Rel J S w (.ax cells len .shared) (.slice a len len)):Rel J S w (.ax cells len .full) (.slice a len len):=by
 cases h with
 | b1 _ a=>exact .b1 _ _
 | ax _ _ _ b o cap f al hle hu bw b0=>exact .ax _ _ _ b o len f (fun _=>rfl) hle (fun z h=>by cases h) bw b0
theorem FM {aT:Operand→Value} (eT:∀ v,aT (.const v)=v) {o:Oper} {us:List I} {t:TypeId} {len:Nat} {parts:Array (Nat×Operand)} {cs:List I} {s:Nat} (ah:aK B U J S w H) (aD:o.op=.buildSlice t len parts)
  (h:iw P t len (eL parts.toList us)=some (cs,s)) (aB:∀ u∈us,u.plain=true) (ae:a8 (fun i=>.arg i) U J S w us ((opsOf o).map aT)) :
  ∃ v w',(Go.execOp aT o).run P w=.ok (.value v) w'∧a0 B U J S w H (.ax cs len .full) v w':=by
 rw [xy (by simp [aD])] at ae;have ae:a8 (fun i=>.arg i) U J S w us ((parts.toList.map (·.2)).map aT):=by simpa [aD,Op.operands] using ae
 have hlen:us.length=parts.toList.length:=by simpa using ae.len
 obtain ⟨b,w',q1,az,bU,S',bR,bY,ea,fO,mT⟩:=Bb (parts':=parts.map fun (x:Nat×Operand)=>(x.1,aT x.2)) ah h (by simp [eL,vA,hlen]) (fun j x y ak aY=>by
  simp only [eL,vB] at ak;obtain ⟨xc,g'⟩:=ak;simp only [ve,ss,sa] at aY;obtain ⟨p,fI,rfl⟩:=aY
  exact ⟨aB _ (sH g'),ae.rel j _ _ g' (by simp only [ss,fI,sf])⟩)
 obtain ⟨a7,aJ,aQ,cn,r1,_,_⟩:=ka ea fO mT
 exact ⟨_,w',by simp [Go.execOp,aD,q1],az,bU,a7,bR,bY.trans (bh.settle aJ fun b o h=>(aQ b o h).imp id fun h=>⟨_,h⟩),
  ea.settle aJ (fun b o h=>(aQ b o h).imp id fun h=>⟨_,h,by simp,by simp⟩) cn,ES r1,aV.b3 rfl⟩
end
end Go.Proofs.YtfakoboiahbhaaaGreat.Ab


namespace Go.Proofs.YtfakoboiahbhaaaGreat.Ab
open Go
section
variable {P:Program} {B:Nat} {J:List Nat} {w:World} {H:List ar} {U:Nat→Option aH} {S:Nat→Nat→Prop}
theorem oa {b au o:Nat} {x:Obj} (h:au≠b):(w.putObj b x).cell? ⟨au,o,none⟩=w.cell? ⟨au,o,none⟩:=by
 unfold World.cell?;simp only [World.putObj_heap_other h]
theorem n1 (ah:aK B U J S w H) {id:Nat} {es es':List (Nat×I×I)} {clock clock':Nat} (aE:H[id]?=some (.map es clock)) {b:Nat} {ents':Array MapEntry}
  (aC:J[id]?=some b) (aI:U b=some (.obj id)) (bc:∀ o,¬ S b o) (ao:ents'.size=es'.length)
  (aj:∀ (j i:Nat) (k v:I) (x:MapEntry),es'[j]?=some (i,k,v)→ents'[j]?=some x→x.born=i∧k.plain=true∧Rel J S w k x.key∧v.plain=true∧Rel J S w v x.val) :
  bh U S w U S (w.putObj b (.map ents' clock'))∧aK B U J S (w.putObj b (.map ents' clock')) (H.set id (.map es' clock')):=by
 have hz:∀ au o,S au o→au≠b:=fun au o ai e=>bc o (e ▸ ai);have ag:=(ah.base b _ aI).2;have aA:bh U S w U S (w.putObj b (.map ents' clock')) :=
  ⟨rfl,rfl,rfl,by simp,fun au _ aN=>World.putObj_heap_other (fun e=>by subst e;rw [aI] at aN;cases aN),fun au o ai=>⟨ai,oa (hz au o ai)⟩,fun au o ai=>.inl ai,fun au h=>.inl h⟩
 refine ⟨aA,by simpa using ah.cD,fun bz o aq=>?_,fun au o ai=>?_,fun au l h=>by simpa using ah.base au l h,by simpa using ah.cV⟩
 ·by_cases g2:bz=id
  ·subst g2;rw [si (sb.1 aE).1] at aq;cases aq;refine ⟨b,ents',aC,aI,World.putObj_heap_same ag,ao,bc,fun j i k v x hu ak=>?_⟩;obtain ⟨a_,ba,br,b8,dV⟩:=aj j i k v x hu ak;exact ⟨a_,ba,br.mono (Ext.refl J) aA.set,b8,dV.mono (Ext.refl J) aA.set⟩
  ·rw [sj (fun e=>g2 e.symm)] at aq;refine (ah.obj bz o aq).frame (Ext.refl J) aA.set fun au ct bt jL=>?_;have bN:au≠b:=fun e=>by
    subst e;rw [aI] at bt;cases bt;rcases jL with h | ⟨j,h⟩
    ·cases h;exact g2 rfl
    ·cases h
   exact ⟨bt,World.putObj_heap_other bN,fun o ai=>ai⟩
 ·obtain ⟨v,ae⟩:=ah.cc au o ai;exact ⟨v,(oa (hz au o ai)).trans ae⟩
theorem yC:∀ {xs ys:List I},dJ xs ys=some true→xs=ys∧∀ u∈xs,∃ k a,u=.int k a
 | [],[],_=>⟨rfl,by simp⟩
 | x::xs,y::ys,h=>by
   obtain ⟨k,a,b,cW,rfl,rfl,aX,he⟩:=nt h;have he:=he.symm;simp only [sx,beq_iff_eq] at he;obtain ⟨rfl,rfl⟩:=he;obtain ⟨rfl,af⟩:=yC aX
   exact ⟨rfl,fun u hu=>by
    rcases sq.1 hu with rfl | hu
    ·exact ⟨_,_,rfl⟩
    ·exact af u hu⟩
 | [],y::ys,h=>by simp [dJ] at h
 | x::xs,[],h=>by cases x <;> simp [dJ] at h
theorem A3 (n:Nat):∀ (l:List Value),(∀ v∈l,∃ k a,v=.int k a)→((l.zip l).all fun (x:Value×Value)=>Instr.sameBits n x.1 x.2)=true
 | [],_=>rfl
 | v::l,h=>by
   obtain ⟨k,a,rfl⟩:=h v (by simp);have a9:=A3 n l fun v ae=>h v (by simp [ae]);(have aU:Instr.sameBits n (.int k a) (.int k a)=true:=by cases n <;> simp [Instr.sameBits]);simp only [List.zip_cons_cons,List.all_cons,aU,Bool.true_and];exact a9
theorem ET {xs:List I} {V W:Array Value} (hi:∀ u∈xs,∃ k a,u=.int k a) (r1:Rel J S w (.agg xs) (.agg V)) (r2:Rel J S w (.agg xs) (.agg W)):V=W∧∀ v∈V.toList,∃ k a,v=.int k a:=by
 cases r1 with
 | agg _ _ dI _ _ q1 =>
   cases r2 with
   | agg _ _ kU _ _ aW =>
     have key:∀ j (h:j<xs.length),∃ k a,V[j]?=some (.int k a)∧W[j]?=some (.int k a):=fun j h=>by
      obtain ⟨k,a,av⟩:=hi xs[j] (List.getElem_mem h);(have ak:xs[j]?=some (.int k a):=by rw [sm h,av]);have ae:=q1 j _ V[j] ak (sA (by omega));have hw:=aW j _ W[j] ak (sA (by omega));exact ⟨k,a,by rw [sA (by omega),ae.dc],by rw [sA (by omega),hw.dc]⟩
     refine ⟨Array.ext_getElem? fun j=>?_,fun v ae=>?_⟩
     ·rcases sT j xs.length with h | h
      ·obtain ⟨k,a,ad,af⟩:=key j h;rw [ad,af]
      ·rw [wa (by omega),wa (by omega)]
     ·obtain ⟨j,aw⟩:=tg.1 ae;(have aS:j<xs.length:=by have:=(sb.1 aw).1;simp at this;omega);obtain ⟨k,a,ad,_⟩:=key j aS;rw [uN,ad] at aw;cases aw;exact ⟨k,a,rfl⟩
theorem DQ {k k':I} {x y:Value} (h:gB k k'=some true) (r1:Rel J S w k x) (r2:Rel J S w k' y):(Instr.keyThatStays y x).run P w=.ok x w:=by
 have ag:Instr.sameBits 10000 y x=true:=by
  unfold gB at h;split at h
  ·split at h
   ·rename_i q a fQ b aZ;subst aZ;simp at h;subst h;rw [r1.dc,r2.dc];simp [Instr.sameBits]
   ·simp at h
  ·obtain ⟨rfl,hi⟩:=yC h;(have e1:∃ V,x=.agg V:=by cases r1 with | agg as vs=>exact ⟨_,rfl⟩);(have b':∃ V,y=.agg V:=by cases r2 with | agg as vs=>exact ⟨_,rfl⟩);obtain ⟨V,rfl⟩:=e1;obtain ⟨W,rfl⟩:=b';obtain ⟨rfl,cT⟩:=ET hi r1 r2;have:=A3 9999 V.toList cT;rw [show (10000:Nat)=9999+1 from rfl,Instr.sameBits];simpa using this
  ·simp at h
 simp [Instr.keyThatStays,ag]
theorem zv {t:TypeId} (h:kT P t=true):(∃ k,P.underlying t=some (.int k))∨∃ bl,P.underlying t=some (.struct bl)∧gI P bl.toList 0=true∧P.stoodInHeld t=false:=by
 unfold kT at h;split at h
 ·exact .inl ⟨_,by assumption⟩
 ·rename_i bl CY;simp at h;exact .inr ⟨bl,CY,h.1,h.2⟩
 ·simp at h
theorem AV (em:Bool) (d:Nat) (V:Array Value):∀ (bl:List Field) (off:Nat),gI P bl off=true→off+bl.length≤V.size →
  (forIn bl PUnit.unit (fun f (_ : PUnit) => if f.name = "_" then pure (ForInStep.yield PUnit.unit) else (do
    let a ←part f.type V f.offset
    (fun _=>ForInStep.yield PUnit.unit) <$> Instr.checkKey em (d+1) f.type a:Sem (ForInStep PUnit)))).run P w=.ok PUnit.unit w
 | [],off,_,_=>by simp
 | f::bl,off,h,ao=>by
   obtain ⟨f1,f2,⟨dd,f3⟩,f4,f5,f6⟩:=zo h;simp only [sM] at ao;have jC:V[off]?=some V[off]:=sA (by omega);(have q1:(part f.type V f.offset).run P w=.ok V[off] w:=by simp only [part,Sem.run_bind,gO f3,f5,Result.andThen_ok,f1,jC,if_false,tG];rfl);(have aW:(Instr.checkKey em (d+1) f.type V[off]).run P w=.ok () w:=by unfold Instr.checkKey;simp [run_underlying f3]);have a9:=AV em d V bl (off+1) f6 (by omega);simp only [List.forIn_cons,f2,if_false,Sem.run_bind,q1,Result.andThen_ok];simpa [aW] using a9
theorem xY {t:TypeId} {k:I} {x:Value} (h:kT P t=true) (av:isKey P t k=true) (aj:Rel J S w k x) (em:Bool):(Instr.checkKey em 10000 t x).run P w=.ok () w:=by
 rcases zv h with ⟨q,aZ⟩ | ⟨bl,aP,hi,_⟩
 ·unfold Instr.checkKey;simp [run_underlying aZ]
 ·unfold isKey at av;simp only [aP] at av;split at av
  ·rename_i aX;cases aX
  ·rename_i Cq cs aX;cases aX;simp at av;cases aj with
   | agg _ V ao _ _ _ =>
     rw [show (10000:Nat)=9998+2 from rfl,Instr.checkKey];have:=AV (P:=P) (w:=w) em 9998 V bl.toList 0 hi (by simp;omega);rw [Array.forIn_toList] at this;simpa [run_underlying aP] using this
  ·simp at av
theorem AW {t:TypeId} {bl:Array Field} (ay:P.underlying t=some (.struct bl)) (aP:gI P bl.toList 0=true) (h9:P.stoodInHeld t=false) {k k':I} {x y:Value} {e:Bool} (av:isKey P t k=true) (h:gB k k'=some e)
  (r1:Rel J S w k x) (r2:Rel J S w k' y):(Op.equal t x y).run P w=.ok e w:=by
 unfold isKey at av;simp only [ay] at av;split at av
 ·rename_i aX;cases aX
 ·rename_i Cq cs aX;cases aX;simp at av;cases k' with
  | agg ds =>
    simp only [gB] at h;(have e1:∃ V,x=.agg V:=by cases r1 with | agg as vs=>exact ⟨_,rfl⟩);(have b':∃ V,y=.agg V:=by cases r2 with | agg as vs=>exact ⟨_,rfl⟩);obtain ⟨V,rfl⟩:=e1;obtain ⟨W,rfl⟩:=b';have ao:∀ (xs ys:List I) (e:Bool),dJ xs ys=some e→ys.length=xs.length:=by
     intro xs
     induction xs with
     | nil=>intro ys e h;cases ys <;> simp [dJ] at h;rfl
     | cons x xs a9 =>
       intro ys e h;cases ys with
       | nil=>cases x <;> simp [dJ] at h
       | cons y ys=>obtain ⟨_,_,_,cW,rfl,rfl,aX,_⟩:=nt h;simp [a9 ys cW aX]
    exact run_equalIn_struct 9998 ay aP h9 av ((ao _ _ _ h).trans av) h r1 r2
  | _=>simp [gB] at h
 ·simp at av
def gq (J:List Nat) (S:Nat→Nat→Prop) (w:World) (es:List (Nat×I×I)) (bx:List MapEntry):Prop :=
 bx.length=es.length∧∀ (j i:Nat) (k v:I) (x:MapEntry),es[j]?=some (i,k,v)→bx[j]?=some x→x.born=i∧k.plain=true∧Rel J S w k x.key∧v.plain=true∧Rel J S w v x.val
theorem gq.cons {e:Nat×I×I} {es:List (Nat×I×I)} {bx:List MapEntry} (h:gq J S w (e::es) bx):∃ x r,bx=x::r∧x.born=e.1∧Rel J S w e.2.1 x.key∧Rel J S w e.2.2 x.val∧gq J S w es r:=by
 cases bx with
 | nil=>simp [gq] at h
 | cons x r =>
   obtain ⟨ad,_,af,_,aG⟩:=h.2 0 e.1 e.2.1 e.2.2 x rfl rfl;exact ⟨x,r,rfl,ad,af,aG,by simpa using h.1,fun j i k v y hu aY=>h.2 (j+1) i k v y (by simpa using hu) (by simpa using aY)⟩
def hS (k:I) (es:List (Nat×I×I)) (bx:List MapEntry) (i:Nat):Option Nat→Option (Nat×Value)→Prop
 | none,r=>r=none
 | some n,r=>∃ e x,i≤n∧es[n-i]?=some e∧bx[n-i]?=some x∧r=some (n,x.val)∧gB k e.2.1=some true
theorem hS.step {k:I} {e:Nat×I×I} {es:List (Nat×I×I)} {x:MapEntry} {bx:List MapEntry} {i:Nat} {r:Option Nat} {res:Option (Nat×Value)} (h:hS k es bx (i+1) r res):hS k (e::es) (x::bx) i r res:=by
 cases r with
 | none=>exact h
 | some n =>
   obtain ⟨cW,oG,ad,af,aG,a5,bL⟩:=h;obtain ⟨m,hm⟩:∃ m,n-i=m+1:=⟨n-(i+1),by omega⟩;(have nG:n-(i+1)=m:=by omega);rw [nG] at af aG;exact ⟨cW,oG,by omega,by rw [hm];simpa using af,by rw [hm];simpa using aG,a5,bL⟩
theorem yL {q q0:IntKind} {n:Int}:∀ (es:List (Nat×I×I)) (bx:List MapEntry) (i:Nat) (r:Option Nat),fD (.int q n) es i=some r→gq J S w es bx →
  ∃ res,Instr.findNow (.int q0) (.int q n) bx i=some res∧hS (.int q n) es bx i r res
 | [],bx,i,r,h,aj=>by
   have:bx=[]:=tA.1 (by simpa using aj.1)
   subst this;simp [fD] at h;subst h;exact ⟨none,rfl,rfl⟩
 | (b,k',v)::es,bx,i,r,h,aj=>by
   obtain ⟨x,ents',rfl,ad,af,aG,a5⟩:=aj.cons;simp only [fD] at h;split at h
   ·rename_i he;cases h;cases k' with
    | int fQ m =>
      simp only [gB] at he;split at he
      ·rename_i aZ;subst aZ;simp at he;subst he;simp only at af;rw [Instr.findNow,af.dc];exact ⟨some (i,x.val),by simp [Instr.sameNow],_,x,sd _,by simp;rfl,by simp,rfl,by simp [gB]⟩
      ·simp at he
    | _=>simp [gB] at he
   ·rename_i he;cases k' with
    | int fQ m =>
      simp only [gB] at he;split at he
      ·rename_i aZ;subst aZ;simp at he;simp only at af;obtain ⟨res,ca,b5⟩:=yL es ents' (i+1) r h a5;rw [Instr.findNow,af.dc];(have Dj:(n == m)=false:=by simpa using he);exact ⟨res,by simp only [Instr.sameNow,if_true,Dj];exact ca,b5.step⟩
      ·simp at he
    | _=>simp [gB] at he
   ·simp at h
theorem yJ {t:TypeId} {bl:Array Field} (ay:P.underlying t=some (.struct bl)) (aP:gI P bl.toList 0=true) (h9:P.stoodInHeld t=false) {k:I} {x:Value} (av:isKey P t k=true) (r1:Rel J S w k x) :
  ∀ (es:List (Nat×I×I)) (bx:List MapEntry) (i:Nat) (r:Option Nat),fD k es i=some r→gq J S w es bx →
  ∃ res,(Instr.findAsking t x bx i).run P w=.ok res w∧hS k es bx i r res
 | [],bx,i,r,h,aj=>by
   have:bx=[]:=tA.1 (by simpa using aj.1)
   subst this;simp [fD] at h;subst h;exact ⟨none,rfl,rfl⟩
 | (b,k',v)::es,bx,i,r,h,aj=>by
   obtain ⟨y,ents',rfl,ad,af,aG,a5⟩:=aj.cons;simp only [fD] at h;split at h
   ·rename_i he;cases h;have q:=AW (P:=P) ay aP h9 av he r1 af;exact ⟨some (i,y.val),by simp [Instr.findAsking,q],_,y,sd _,by simp;rfl,by simp,rfl,he⟩
   ·rename_i he;have q:=AW (P:=P) ay aP h9 av he r1 af;obtain ⟨res,ca,b5⟩:=yJ ay aP h9 av r1 es ents' (i+1) r h a5;exact ⟨res,by simp [Instr.findAsking,q,ca],b5.step⟩
   ·simp at h
theorem m2 {t:TypeId} {k:I} {x:Value} (h:kT P t=true) (av:isKey P t k=true) (aj:Rel J S w k x) {es:List (Nat×I×I)} {bx:List MapEntry} {r:Option Nat} (aP:fD k es 0=some r) (he:gq J S w es bx) :
  ∃ res,(Instr.findKey t x bx).run P w=.ok res w∧hS k es bx 0 r res:=by
 rcases zv h with ⟨q,aZ⟩ | ⟨bl,ai,hi,cB⟩
 ·unfold isKey at av;simp only [aZ] at av;split at av
  ·rename_i q1 aW n aX;obtain ⟨res,ca,b5⟩:=yL (q0:=q) es bx 0 r aP he;rw [aj.dc];exact ⟨res,by simp [Instr.findKey,run_underlying aZ,ca],b5⟩
  ·rename_i aX;cases aX
  ·simp at av
 ·obtain ⟨res,ca,b5⟩:=yJ ai hi cB av aj es bx 0 r aP he;have cd:∃ V,x=.agg V:=by
   unfold isKey at av;simp only [ai] at av;split at av
   ·rename_i aX;cases aX
   ·cases aj with | agg as vs=>exact ⟨_,rfl⟩
   ·simp at av
  obtain ⟨V,rfl⟩:=cd;cases bx with
  | nil =>
    refine ⟨res,?_,b5⟩;simp [Instr.findAsking] at ca;subst ca;simp [Instr.findKey,run_underlying ai,Instr.findNow]
  | cons y ys =>
    refine ⟨res,?_,b5⟩
    have:Instr.findNow (.struct bl) (.agg V) (y::ys) 0=none:=by simp [Instr.findNow,Instr.sameNow]
    simp [Instr.findKey,run_underlying ai,this,ca]
theorem yX (w:World) (o:Obj):(w.alloc o).heap[w.heap.size]?=some o:=by
 have e:(w.alloc o).heap=w.heap.push o:=rfl;rw [e];simp
theorem i_ {b:Nat} {bx:Array MapEntry} {clock:Nat} (h:w.heap[b]?=some (.map bx clock)):(getObj b).run P w=.ok (.map bx clock) w:=by simp [getObj,Sem.run,h]
theorem ow {b:Nat} {o:Obj} {bx:Array MapEntry} {clock:Nat} (h:w.heap[b]?=some (.map bx clock)):(setObj b o).run P w=.ok () (w.putObj b o):=by simp [setObj,Sem.run,h,World.putObj]
theorem Ep (ah:aK B U J S w H):aK B (lay U w.heap.size (.obj H.length)) (J++[w.heap.size]) S (w.alloc (.map #[] 0)) (H++[.map [] 0]) :=
 (nL ah (.map #[] 0) (.obj H.length)).push w.heap.size ⟨w.heap.size,#[],Ext.last ah _,by simp [lay],yX w _,rfl,mO ah,by simp⟩
theorem FX (ah:aK B U J S w H) {t:TypeId} {r:Option Operand} {u:I} {H':List ar} (h:k5 P t r H=some (u,H')) :
  ∃ x w',(Instr.makeMap t (none:Option Value)).run P w=.ok x w'∧r=none∧a0 B U J S w H' u x w':=by
 unfold k5 at h;split at h
 ·cases h;exact ⟨_,_,by simp only [Instr.makeMap,Sem.run_bind,Sem.run_pure,run_newObj_alloc,Result.andThen_ok],rfl,_,_,S,Ext.append J _,kr ah _ _,Ep ah,.map _ _ (Ext.last ah _),aV.b3 rfl⟩
 ·simp at h
theorem xt {t dZ iB:TypeId} (h:jZ P t=some (dZ,iB)):P.underlying t=some (.map dZ iB)∧kT P dZ=true:=by
 unfold jZ at h;split at h
 ·split at h
  ·cases h;exact ⟨by assumption,by assumption⟩
  ·cases h
 ·cases h
theorem F0 (ah:aK B U J S w H) {lo:Nat} {t:TypeId} {m k v u:I} {H':List ar} {x y z:Value} (h:iW P lo t H [m,k,v]=some (u,H'))
  (e6:Rel J S w m x) (bM:Rel J S w k y) (z6:k.plain=true) (ox:Rel J S w v z) (Af:v.plain=true) (c:Value) :
  ∃ w',(Instr.mapUpdate t x y z).run P w=.ok () w'∧a0 B U J S w H' u c w':=by
 unfold iW at h;split at h
 ·rename_i id k' bm heq;cases heq;split at h
  ·rename_i dZ iB ay;obtain ⟨ay,av⟩:=xt ay;split at h
   ·rename_i hD;split at h
    ·split at h
     ·rename_i es clock aE;obtain ⟨b,bx,aC,aI,aR,bk,bc,bf⟩:=ah.obj _ _ aE;cases e6 with
      | map _ au e0 =>
        rw [aC] at e0;cases e0;have he:gq J S w es bx.toList:=⟨by simpa using bk,fun j i k v x hu ak=>bf j i k v x hu (by simpa using ak)⟩;have hC:=xY (P:=P) av hD bM false;split at h
        ·rename_i n aP;cases h;obtain ⟨res,ca,e,x,_,b5,en,rfl,iD⟩:=m2 (P:=P) av hD bM aP he;simp only [vC,uN] at b5 en;obtain ⟨o1,o2,dv⟩:=e;obtain ⟨a_,ba,br,b8,dV⟩:=bf n o1 o2 dv x b5 en;have cB:=DQ (P:=P) iD bM br;obtain ⟨aA,b9⟩:=n1 ah aE (es':=es.modify n fun e=>(e.1,k,v)) (clock':=clock) (ents':=bx.modify n fun e=>{ e with key:=y,val:=z }) aC aI bc (by simp [bk]) fun j i dd v0 jj hu ak=>by
          rw [List.getElem?_modify] at hu;rw [Array.getElem?_modify] at ak;by_cases aw:n=j
          ·subst aw;simp only [b5,en,if_true,sf,Option.map_eq_map,Option.some.injEq,Prod.mk.injEq] at hu ak;obtain ⟨rfl,rfl,rfl⟩:=hu;subst ak;exact ⟨a_,z6,bM,Af,ox⟩
          ·simp only [aw,if_false,id_map'] at hu ak;exact bf j i dd v0 jj (by simpa using hu) (by simpa using ak)
         refine ⟨_,?_,U,J,S,Ext.refl J,aA,b9,.junk _,aV.b3 rfl⟩;simp only [Instr.mapUpdate,Sem.run_bind,run_underlying ay,Result.andThen_ok,i_ aR,hC,ca,en,sf,uL,cB,ow aR]
        ·rename_i aP;cases h;obtain ⟨res,ca,b5⟩:=m2 (P:=P) av hD bM aP he;simp only [hS] at b5;subst b5;obtain ⟨aA,b9⟩:=n1 ah aE (es':=es++[(clock,k,v)]) (clock':=clock+1) (ents':=bx.push { key:=y,val:=z,born:=clock }) aC aI bc (by simp [bk]) fun j i dd v0 jj hu ak=>by
          rw [Array.getElem?_push] at ak;split at ak
          ·rename_i aw;rw [aw,bk,sJ (sd _)] at hu;simp at hu ak;obtain ⟨rfl,rfl,rfl⟩:=hu;subst ak;exact ⟨rfl,z6,bM,Af,ox⟩
          ·rename_i aw;have aS:j<bx.size:=(sY.1 ak).1;rw [sy (by omega)] at hu;exact bf j i dd v0 jj hu ak
         refine ⟨_,?_,U,J,S,Ext.refl J,aA,b9,.junk _,aV.b3 rfl⟩;simp only [Instr.mapUpdate,Sem.run_bind,run_underlying ay,Result.andThen_ok,i_ aR,hC,ca,ow aR]
        ·cases h
     ·cases h
    ·cases h
   ·cases h
  ·cases h
 ·cases h
theorem Gy {t:TypeId} {u:I} (h:oI P t=some u):∃ v,(zeroValue t).run P w=.ok v w∧Rel J S w u v∧u.plain=true:=by
 unfold oI at h;simp only [sg] at h;obtain ⟨v,⟨i,hi,ae⟩,h⟩:=h;refine ⟨v,i' hi ae,?_⟩;split at h
 ·rename_i cs;split at h
  ·rename_i cT;cases h;refine ⟨.agg _ _ (by simp) (fun u hu=>?_) (fun v ae=>by simp only [sv] at cT;exact cT v ae) (fun j u v hu ae=>?_),rfl⟩
   ·obtain ⟨x,_,rfl⟩:=sk.1 hu;exact nh x
   ·rw [ss,uN,ae] at hu;simp at hu;subst hu;exact lI _ _ _ _
  ·cases h
 ·cases h;exact ⟨lI _ _ _ _,nh _⟩
theorem FW (ah:aK B U J S w H) {t:TypeId} {ok:Bool} {m k u:I} {H':List ar} {x y:Value} (h:ie P t ok H [m,k]=some (u,H'))
  (e6:Rel J S w m x) (bM:Rel J S w k y) :
  ∃ v,(Instr.lookup t x y ok).run P w=.ok v w∧a0 B U J S w H' u v w:=by
 unfold ie at h;split at h
 ·rename_i id k' heq;cases heq;split at h
  ·rename_i dZ iB ay;obtain ⟨ay,av⟩:=xt ay;split at h
   ·rename_i es clock hD aE;obtain ⟨b,bx,aC,aI,aR,bk,bc,bf⟩:=ah.obj _ _ aE;cases e6 with
    | map _ au e0 =>
      rw [aC] at e0;cases e0;have he:gq J S w es bx.toList:=⟨by simpa using bk,fun j i k v x hu ak=>bf j i k v x hu (by simpa using ak)⟩;have hC:=xY (P:=P) av hD bM bx.isEmpty;split at h
      ·rename_i r aP;simp only [sa,Prod.mk.injEq] at h;obtain ⟨v,ae,rfl,rfl⟩:=h;obtain ⟨res,ca,b5⟩:=m2 (P:=P) av hD bM aP he;have fin:∀ (z:Value) (b:Bool),Rel J S w v z→v.plain=true →
         a0 B U J S w H (if ok then .tuple [v,.bool b] else v) (if ok then .tuple #[z,.bool b] else z) w:=fun z b aj aB=>by
        cases ok with
        | true=>exact a0.same ah (.tuple _ _ rfl (fun u hu=>by simp only [sq,List.not_mem_nil,or_false] at hu;rcases hu with rfl | rfl;exact aB;rfl) fun j u bm hu bd=>by
          match j with
          | 0=>simp at hu bd;subst hu;subst bd;exact aj
          | 1=>simp at hu bd;subst hu;subst bd;exact .bool _
          | j+2=>simp at hu) rfl
        | false=>exact a0.same ah aj aB
       cases r with
       | none =>
         simp only [hS] at b5;subst b5;obtain ⟨z,yg,oH,Gx⟩:=Gy (J:=J) (S:=S) (w:=w) ae;exact ⟨_,by simp only [Instr.lookup,Sem.run_bind,run_underlying ay,Result.andThen_ok,i_ aR,Sem.run_pure,hC,ca,yg],fin z false oH Gx⟩
       | some n =>
         obtain ⟨e,x,_,aW,cx,rfl,dC⟩:=b5;simp only [vC,uN] at aW cx;obtain ⟨o1,o2,dv⟩:=e;obtain ⟨a_,ba,br,b8,dV⟩:=bf n o1 o2 dv x aW cx;simp only [sc,aW,Option.some.injEq] at ae;subst ae;exact ⟨_,by simp only [Instr.lookup,Sem.run_bind,run_underlying ay,Result.andThen_ok,i_ aR,Sem.run_pure,hC,ca],fin x.val true dV b8⟩
      ·cases h
   ·cases h
  ·cases h
 ·cases h
theorem FQ (ah:aK B U J S w H) {lo:Nat} {ts:Array TypeId} (ty:TypeId) {m k u:I} {H':List ar} {x y:Value} (h:hI P lo ts H [m,k]=some (u,H'))
  (e6:Rel J S w m x) (bM:Rel J S w k y) :
  ∃ v w',(Builtin.delete_ ts ty #[x,y]).run P w=.ok v w'∧a0 B U J S w H' u v w':=by
 unfold hI at h;split at h
 ·rename_i id k' heq;cases heq;split at h
  ·rename_i dZ iB ay;simp only [sg] at ay;obtain ⟨t,g9,ay⟩:=ay;obtain ⟨ay,av⟩:=xt ay;split at h
   ·rename_i hD;split at h
    ·split at h
     ·rename_i es clock aE;obtain ⟨b,bx,aC,aI,aR,bk,bc,bf⟩:=ah.obj _ _ aE;cases e6 with
      | map _ au e0 =>
        rw [aC] at e0;cases e0;have he:gq J S w es bx.toList:=⟨by simpa using bk,fun j i k v x hu ak=>bf j i k v x hu (by simpa using ak)⟩;have hC:=xY (P:=P) av hD bM bx.isEmpty;have Br:∀ (w:World),Rel J S w (.tuple []) (.tuple #[]):=fun w=>.tuple _ _ rfl (by simp) (by simp);split at h
        ·rename_i n aP;cases h;obtain ⟨res,ca,e,x,_,b5,en,rfl,iD⟩:=m2 (P:=P) av hD bM aP he;obtain ⟨aA,b9⟩:=n1 ah aE (es':=es.eraseIdx n) (clock':=clock) (ents':=bx.eraseIdxIfInBounds n) aC aI bc (by rw [←tu,Array.toList_eraseIdxIfInBounds];simp [List.length_eraseIdx,bk]) fun j i dd v0 jj hu ak=>by
          rw [←uN,Array.toList_eraseIdxIfInBounds] at ak;rw [List.getElem?_eraseIdx] at hu ak;by_cases aw:j<n
          ·simp only [aw,if_true] at hu ak;exact bf j i dd v0 jj hu (by simpa using ak)
          ·simp only [aw,if_false] at hu ak;exact bf _ i dd v0 jj hu (by simpa using ak)
         refine ⟨_,_,?_,U,J,S,Ext.refl J,aA,b9,Br _,aV.b3 rfl⟩;simp only [Builtin.delete_,g9,vZ,ud,uz,Sem.run_bind,run_underlying ay,Result.andThen_ok,i_ aR,hC,ca,ow aR,Sem.run_pure]
        ·rename_i aP;cases h;obtain ⟨res,ca,b5⟩:=m2 (P:=P) av hD bM aP he;simp only [hS] at b5;subst b5;obtain ⟨aA,b9⟩:=n1 ah aE (es':=es) (clock':=clock) (ents':=bx) aC aI bc bk bf;have DC:H.set id (.map es clock)=H:=tH fun j=>by
          by_cases aw:id=j
          ·subst aw;rw [si (sb.1 aE).1,aE]
          ·rw [sj aw]
         rw [DC] at b9;refine ⟨_,_,?_,U,J,S,Ext.refl J,aA,b9,Br _,aV.b3 rfl⟩;simp only [Builtin.delete_,g9,vZ,ud,uz,Sem.run_bind,run_underlying ay,Result.andThen_ok,i_ aR,hC,ca,ow aR,Sem.run_pure]
        ·cases h
     ·cases h
    ·cases h
   ·cases h
  ·cases h
 ·cases h
theorem F5 (ah:aK B U J S w H) {t:TypeId} {m u:I} {H':List ar} {x:Value} (h:k6 P t H [m]=some (u,H')) (e6:Rel J S w m x) :
  ∃ v w',(Instr.range t x).run P w=.ok v w'∧a0 B U J S w H' u v w':=by
 unfold k6 at h;split at h
 ·rename_i id heq;cases heq;split at h
  ·rename_i dZ iB es clock ay aE;cases h;obtain ⟨b,bx,aC,aI,aR,bk,bc,bf⟩:=ah.obj _ _ aE;cases e6 with
   | map _ au e0 =>
     rw [aC] at e0;cases e0;refine ⟨.pointer (some ⟨w.heap.size,0,none⟩),w.alloc (.mapIter (some b) clock #[] clock),by simp only [Instr.range,Sem.run_bind,run_underlying ay,Result.andThen_ok,i_ aR,Sem.run_pure,run_newObj_alloc],_,_,S,Ext.append J _,kr ah _ (.obj H.length),?_,.ptr _ _ _ (Ext.last ah _),aV.b3 rfl⟩;exact (nL ah _ (.obj H.length)).push w.heap.size ⟨w.heap.size,b,Ext.last ah _,by simp [lay],Ext.append J _ _ _ aC,yX w _,mO ah⟩
  ·cases h
 ·cases h
theorem yK {J:List Nat} {S:Nat→Nat→Prop} {w:World} (gk:Nat):∀ (es:List (Nat×I×I)) (bx:List MapEntry) (e:Nat×I×I),gq J S w es bx→es.find? (fun e=>e.1 == gk)=some e →
  ∃ x,bx.find? (fun x=>x.born == gk)=some x∧Rel J S w e.2.1 x.key∧Rel J S w e.2.2 x.val∧e.2.1.plain=true∧e.2.2.plain=true
 | [],bx,e,aj,h=>by simp at h
 | fY::es,bx,e,aj,h=>by
   have aU:=aj;obtain ⟨x,ents',rfl,ad,af,aG,a5⟩:=aj.cons;obtain ⟨_,bR,_,bY,_⟩:=aU.2 0 fY.1 fY.2.1 fY.2.2 x rfl rfl;rw [List.find?_cons] at h ⊢;rw [ad];split at h
   ·rename_i ag;cases h;exact ⟨x,by simp,af,aG,bR,bY⟩
   ·rename_i ag;obtain ⟨oG,g⟩:=yK gk es ents' e a5 h;exact ⟨oG,by simp [g.1],g.2⟩
theorem FR (ah:aK B U J S w H) {m u:I} {H':List ar} {x:Value} (h:k4 H [m]=some (u,H')) (e6:Rel J S w m x) :
  ∃ v,(Instr.entry x).run P w=.ok v w∧a0 B U J S w H' u v w:=by
 unfold k4 at h;split at h
 ·rename_i r heq;cases heq;split at h
  ·rename_i m since seen kc aE;split at h
   ·rename_i gk es clock cB Dd;split at h
    ·rename_i al;subst al;split at h
     ·rename_i e he;cases h;obtain ⟨b,eb,aC,aI,aR,bk,bc⟩:=ah.obj _ _ aE;obtain ⟨au,bx,a_,ba,br,b8,dV,fW⟩:=ah.obj _ _ Dd;rw [aR] at a_;cases a_;cases e6 with
      | ptr _ _ au e0 =>
        rw [aC] at e0;cases e0;have aj:gq J S w es bx.toList:=⟨by simpa using b8,fun j i k v x hu ak=>fW j i k v x hu (by simpa using ak)⟩;obtain ⟨y,ca,b5,en,iD,Cs⟩:=yK gk es bx.toList e aj he;(have ag:(seen.toArray).back?=some gk:=by simpa using cB);have aO:(getObj b).run P w=.ok (.mapIter (some eb) since seen.toArray clock) w:=by simp [getObj,Sem.run,bk]
        refine ⟨.tuple #[y.key,y.val],?_,a0.same ah (.tuple _ _ rfl (by simp [iD,Cs]) fun j u bm hu bd=>by
          match j with
          | 0=>simp at hu bd;subst hu;subst bd;exact b5
          | 1=>simp at hu bd;subst hu;subst bd;exact en
          | j+2=>simp at hu) rfl⟩
        (have aP:bx.find? (fun x=>x.born == gk)=some y:=by rw [←Array.find?_toList];exact ca);simp [Instr.entry,aO,ag,i_ br,aP]
     ·cases h
    ·cases h
   ·cases h
  ·cases h
 ·cases h
end
end Go.Proofs.YtfakoboiahbhaaaGreat.Ab


namespace Go.Proofs.YtfakoboiahbhaaaGreat.Ab
open Go
section
variable {P:Program} {B:Nat} {J:List Nat} {w:World} {H:List ar} {U:Nat→Option aH} {S:Nat→Nat→Prop}
theorem z8 (ah:aK B U J S w H) {id off len sz n:Nat} {cap:Option Nat} {row:List I} {v:Value} (cP:rowOf H (.ref id off len cap sz)=some row) (aN:lenOf (.ref id off len cap sz)=some n)
  (aj:Rel J S w (.ref id off len cap sz) v) :
  a0 B U J S w (H.set id .dead) (.ax row n (g0 cap n)) v w:=by
 classical
 simp [lenOf] at aN;subst aN;cases aj with
 | ref _ _ _ _ _ b ej ag al hle =>
   unfold rowOf at cP;simp only at cP;split at cP
   ·rename_i l aE;split at cP
    ·rename_i dF;simp only [Option.some.injEq] at cP;obtain ⟨au,cur,e,aC,aI,aR,bk,bc,bf⟩:=ah.obj id _ aE;rw [ag] at aC;cases aC
     let S':Nat→Nat→Prop:=fun au o=>S au o∨(au=b∧o<cur.size)
     let az:Nat→Option aH:=fun au=>if au=b then none else U au
     have bw:∀ o,o<cur.size→w.cell? ⟨b,o,none⟩=cur[o]?:=fun o aq=>by
      simp [World.cell?,aR,aq]
     have aA:bh U S w az S' w:=⟨rfl,rfl,rfl,sd _,fun _ _ _=>rfl,fun _ _ h=>⟨.inl h,rfl⟩,fun au o h=>by
       rcases h with h | ⟨rfl,_⟩
       ·exact .inl h
       ·exact .inr (.inl (by simp [aI])),fun au bt=>by
       by_cases dE:au=b
       ·simp [az,dE] at bt
       ·simp only [az,dE,if_false] at bt;exact .inl bt⟩
     have bV:aK B az J S' w (H.set id .dead):=by
      refine ⟨by simpa using ah.cD,fun bz o aq=>?_,fun au o h=>?_,fun au l' bt=>?_,ah.cV⟩
      ·by_cases cr:bz=id
       ·subst cr
        have:o=.dead:=by
         have:=(sb.1 aE).1;simp [this] at aq;exact aq.symm
        subst this;trivial
       ·rw [sj (Ne.symm cr)] at aq;refine (ah.obj bz o aq).frame (Ext.refl J) aA.set (fun au l' bt ao=>?_);have bN:au≠b:=fun e=>by
         subst e;rw [aI] at bt;cases bt;rcases ao with h | ⟨j,h⟩
         ·cases h;exact cr rfl
         ·cases h
        exact ⟨by simp [az,bN,bt],rfl,fun o h=>h.resolve_right fun h=>bN h.1⟩
      ·rcases h with h | ⟨rfl,h⟩
       ·exact ah.cc _ _ h
       ·exact ⟨_,(bw o h).trans (sA h)⟩
      ·by_cases dE:au=b
       ·simp [az,dE] at bt
       ·simp only [az,dE,if_false] at bt;exact ah.base _ _ bt
     (have hlen:row.length=len*sz:=by subst cP;simp;omega);refine ⟨az,J,S',Ext.refl J,aA,bV,.ax row len _ b off ej (fun j=>cur.getD (off+j) undef) (fun h=>?_) hle (fun z h=>?_) (fun j u aw=>?_) (fun j u aw=>?_),aV.b3 ?_⟩
     ·unfold g0 at h;cases cap with
      | none=>simp at h
      | some c =>
        simp only at h;split at h
        ·rename_i cA;rw [al c rfl,cA]
        ·cases h
     ·unfold g0 at h;cases cap with
      | none=>simp at h
      | some c=>simp only at h;split at h <;> cases h
     all_goals (try (
      have h2:=(sb.1 aw).1;(have fq:off+j<l.length:=by omega);(have ff:off+j<cur.size:=by omega);have ak:l[off+j]?=some l[off+j]:=sm fq;have ae:cur[off+j]?=some cur[off+j]:=sA ff;(have aO:cur.getD (off+j) undef=cur[off+j]:=by simp [ff]);have hu:u=l[off+j].view:=by
       subst cP;rw [ss,sR,if_pos (by simp at h2;omega),sZ,ak] at aw;simpa using aw.symm
      obtain ⟨a_,ba,br,b8⟩:=bf (off+j) _ _ ak ae
      subst hu))
     ·exact ⟨.inr ⟨rfl,ff⟩,by rw [bw _ ff,ae,aO],I.dg _,by rw [aO];exact ba⟩
     ·rw [aO];exact (br.view a_).mono (Ext.refl J) aA.set
     ·unfold g0;cases cap with
      | none=>rfl
      | some c=>simp only;split <;> rfl
    ·simp at cP
   ·simp at cP
theorem Be (ah:aK B U J S w H) {t e:TypeId} (ay:P.underlying t=some (.slice e)) {id off n z:Nat} {l c:List I} (aE:H[id]?=some (.cells l)) (cO:l[off]?=some (.ax c n (.own z))) {v:Value}
  (aj:Rel J S w (.ptr id off) v) :
  ∃ x,(Instr.loadAt t v).run P w=.ok x w∧a0 B U J S w (H.set id (.cells (l.set off (.ax c n .shared)))) (.ax c n (.own z)) x w:=by
 classical
 have cd:dG P t=false:=by simp [dG,ay]
 obtain ⟨b,cur,cW,aC,aI,aR,bk,bc,bf⟩:=ah.obj id _ aE;cases aj with
 | ptr _ _ au ag =>
   rw [aC] at ag;cases ag;have aw:off<l.length:=(sb.1 cO).1;(have fq:off<cur.size:=by omega);have iH:cur[off]?=some cur[off]:=sA fq;obtain ⟨a_,ba,br,b8⟩:=bf off _ _ cO iH;(have bw:w.cell? ⟨b,off,none⟩=some cur[off]:=by rw [cell_of_row w b _ cur cW (0,0) aR,iH]);refine ⟨cur[off],by simp [Instr.loadAt,Instr.sureAddr,loadVar,gO ay,cd,load,Sem.run,bw],?_⟩
   let az:Nat→Option aH:=fun au=>if U au=some (.cell id off) then some .res else U au
   have aA:bh U S w az S w:=⟨rfl,rfl,rfl,sd _,fun _ _ _=>rfl,fun _ _ h=>⟨h,rfl⟩,fun _ _ h=>.inl h,fun b ag=>.inl fun aU=>ag (by simp [az,aU])⟩;have av:∀ au l',U au=some l'→l'≠.cell id off→az au=some l':=fun au l' ad af=>by
    have:¬ U au=some (.cell id off):=by rw [ad];intro e;cases e;exact af rfl
    simp [az,ad,af]
   refine ⟨az,J,S,Ext.refl J,aA,⟨by simpa using ah.cD,fun bz o aq=>?_,ah.cc,fun au l' bt=>?_,ah.cV⟩,br,b8.mono (Ext.refl J) aA.set fun au bt=>⟨by simp [az,bt],rfl,fun _ h=>h⟩⟩
   ·by_cases cr:bz=id
    ·subst cr;rw [si (sb.1 aE).1] at aq;cases aq;refine ⟨b,cur,cW,aC,av b _ aI (by simp),aR,by simpa using bk,bc,fun j u v hu ae=>?_⟩;by_cases hE:j=off
     ·subst hE;rw [si aw] at hu;cases hu;obtain ⟨ca,b5,en,_⟩:=bf j _ _ cO ae;exact ⟨rfl,b5,en.view ca,aV.b3 rfl⟩
     ·rw [sj (Ne.symm hE)] at hu;obtain ⟨d1,d2,d3,d4⟩:=bf j u v hu ae;exact ⟨d1,d2,d3,d4.mono (Ext.refl J) aA.set fun au bt=>⟨av au _ bt (by simp [hE]),rfl,fun _ h=>h⟩⟩
    ·rw [sj (Ne.symm cr)] at aq;refine (ah.obj bz o aq).frame (Ext.refl J) aA.set (fun au l' bt ao=>⟨av au l' bt ?_,rfl,fun _ h=>h⟩);rcases ao with rfl | ⟨j,rfl⟩
     ·simp
     ·simp [cr]
   ·by_cases h:U au=some (.cell id off)
    ·exact ah.base au _ h
    ·simp only [az,h,if_false] at bt;exact ah.base au l' bt
theorem Bf (ah:aK B U J S w H) {t e:TypeId} (ay:P.underlying t=some (.slice e)) {id off n z:Nat} {l c:List I} (aE:H[id]?=some (.cells l)) (cO:l[off]?=some (.raw c n z)) {v:Value}
  (aj:Rel J S w (.ptr id off) v) :
  ∃ b x,J[id]?=some b∧w.cell? ⟨b,off,none⟩=some x∧x.oneCell'=true∧(Instr.loadAt t v).run P w=.ok x w∧a0 B U J S w (H.set id (.cells (l.set off .junk))) (.ax c n (.uniq z)) x w:=by
 classical
 have cd:dG P t=false:=by simp [dG,ay]
 obtain ⟨b,cur,cW,aC,aI,aR,bk,bc,bf⟩:=ah.obj id _ aE;cases aj with
 | ptr _ _ au ag =>
   rw [aC] at ag;cases ag;have aw:off<l.length:=(sb.1 cO).1;(have fq:off<cur.size:=by omega);have iH:cur[off]?=some cur[off]:=sA fq;obtain ⟨a_,ba,br,b8⟩:=bf off _ _ cO iH;obtain ⟨Gi,Gj⟩:=EN br b8;(have bw:w.cell? ⟨b,off,none⟩=some cur[off]:=by rw [cell_of_row w b _ cur cW (0,0) aR,iH]);refine ⟨b,cur[off],aC,bw,ba,by simp [Instr.loadAt,Instr.sureAddr,loadVar,gO ay,cd,load,Sem.run,bw],?_⟩
   let az:Nat→Option aH:=fun au=>if U au=some (.cell id off) then some .res else U au
   have aA:bh U S w az S w:=⟨rfl,rfl,rfl,sd _,fun _ _ _=>rfl,fun _ _ h=>⟨h,rfl⟩,fun _ _ h=>.inl h,fun b ag=>.inl fun aU=>ag (by simp [az,aU])⟩;have av:∀ au l',U au=some l'→l'≠.cell id off→az au=some l':=fun au l' ad af=>by
    have:¬ U au=some (.cell id off):=by rw [ad];intro e;cases e;exact af rfl
    simp [az,ad,af]
   refine ⟨az,J,S,Ext.refl J,aA,⟨by simpa using ah.cD,fun bz o aq=>?_,ah.cc,fun au l' bt=>?_,ah.cV⟩,Gi,Gj.mono (Ext.refl J) aA.set fun au bt=>⟨by simp [az,bt],rfl,fun _ h=>h⟩⟩
   ·by_cases cr:bz=id
    ·subst cr;rw [si (sb.1 aE).1] at aq;cases aq;refine ⟨b,cur,cW,aC,av b _ aI (by simp),aR,by simpa using bk,bc,fun j u v hu ae=>?_⟩;by_cases hE:j=off
     ·subst hE;rw [si aw] at hu;cases hu;obtain ⟨ca,b5,en,_⟩:=bf j _ _ cO ae;exact ⟨rfl,b5,.junk _,aV.b3 rfl⟩
     ·rw [sj (Ne.symm hE)] at hu;obtain ⟨d1,d2,d3,d4⟩:=bf j u v hu ae;exact ⟨d1,d2,d3,d4.mono (Ext.refl J) aA.set fun au bt=>⟨av au _ bt (by simp [hE]),rfl,fun _ h=>h⟩⟩
    ·rw [sj (Ne.symm cr)] at aq;refine (ah.obj bz o aq).frame (Ext.refl J) aA.set (fun au l' bt ao=>⟨av au l' bt ?_,rfl,fun _ h=>h⟩);rcases ao with rfl | ⟨j,rfl⟩
     ·simp
     ·simp [cr]
   ·by_cases h:U au=some (.cell id off)
    ·exact ah.base au _ h
    ·simp only [az,h,if_false] at bt;exact ah.base au l' bt
theorem Du (ah:aK B U J S w H) {id off b:Nat} {l:List I} (aE:H[id]?=some (.cells l)) (ag:J[id]?=some b) {u:I} {x:Value} (ak:w.cell? ⟨b,off,none⟩=some x) (ad:x.oneCell'=true) (aB:u.plain=true) (aj:Rel J S w u x) :
  aK B U J S w (H.set id (.cells (l.set off u))):=by
 refine ⟨by simpa using ah.cD,fun bz o aq=>?_,ah.cc,ah.base,ah.cV⟩;by_cases cr:bz=id
 ·subst cr;rw [si (sb.1 aE).1] at aq;cases aq;obtain ⟨au,cur,cW,aC,aI,aR,bk,bc,bf⟩:=ah.obj bz _ aE;rw [ag] at aC;cases aC;refine ⟨b,cur,cW,ag,aI,aR,by simpa using bk,bc,fun j y v hu ae=>?_⟩;by_cases hE:off=j
  ·subst hE;(have aS:off<l.length:=by have:=(sb.1 hu).1;simpa using this);rw [si aS] at hu;cases hu;rw [cell_of_row w b _ cur cW (0,0) aR,ae] at ak;cases ak;exact ⟨I.fu aB,ad,aj,aV.b3 aB⟩
  ·rw [sj hE] at hu;exact bf j y v hu ae
 ·rw [sj (Ne.symm cr)] at aq;exact ah.obj bz o aq
theorem F_ (ah:aK B U J S w H) {t e:TypeId} (ay:P.underlying t=some (.slice e)) {id off n z:Nat} {l c:List I} (aN:n≠0) (aE:H[id]?=some (.cells l)) (cO:l[off]?=some (.raw c n z)) {v:Value}
  (aj:Rel J S w (.ptr id off) v) :
  ∃ x,(Instr.loadAt t v).run P w=.ok x w∧a0 B U J S w (H.set id (.cells (l.set off (.ref H.length 0 n none z)))++[.cells c]) (.ref H.length 0 n none z) x w:=by
 obtain ⟨b,x,ad,af,aG,a5,b4,c0,a7,aJ,aQ,cn,mD,DN⟩:=Bf ah ay aE cO aj;refine ⟨x,a5,?_⟩;obtain ⟨bq,cj,bK,de,df,jX,kX,zJ⟩:=z' cn (l:=.res) (by simp) (by simp) aN mD DN;rw [List.length_set] at kX zJ;have aS:=(sb.1 aE).1;have gE:cj[id]?=some b:=de _ _ (aJ _ _ ad);have pD:(H.set id (ar.cells (l.set off .junk))++[ar.cells c])[id]?=some (ar.cells (l.set off .junk)):=by
  rw [sy (by simpa using aS),si aS]
 have ak:=Du jX pD gE af aG (u:=.ref H.length 0 n none z) rfl kX;have e:(H.set id (ar.cells (l.set off .junk))++[ar.cells c]).set id (ar.cells ((l.set off .junk).set off (.ref H.length 0 n none z)))=H.set id (ar.cells (l.set off (.ref H.length 0 n none z)))++[ar.cells c]:=by
  rw [List.set_append_left _ _ (by simpa using aS),sU,sU]
 rw [e] at ak;exact ⟨bq,cj,bK,aJ.trans de,aQ.trans df,ak,kX,zJ⟩
theorem DK {x:Operand} (h:iP x=true):x=.const (.slice none 0 0):=by
 unfold iP at h;split at h
 ·rfl
 ·simp at h
theorem eE (i:Nat):∀ id,aH.arg i≠.obj id:=fun _=>by simp
theorem eF (i:Nat):∀ id j,aH.arg i≠.cell id j:=fun _ _=>by simp
theorem EF (ah:aK B U J S w H) {id gid n z:Nat} {l:List I} (aE:H[id]?=some (.grow l gid z)) (aN:n*z≤l.length) (aB:(l.take (n*z)).all I.plain=true) {v:Value} (aj:Rel J S w (.ck id gid n z) v) :
  a0 B U J S w (H.set id .dead) (.ax (l.take (n*z)) n (.uniq z)) v w:=by
 classical
 rw [sv] at aB;obtain ⟨b,cur,e,aC,aI,aR,bk,bc,bf,cap,c9,dr,dS,gw⟩:=ah.obj id _ aE;cases aj with
 | ck _ _ _ _ au cap' ag aO hle =>
   rw [aC] at ag;cases ag;rw [c9] at aO;cases aO
   let az:Nat→Option aH:=fun au=>if U au=some (.obj id) then some .res else U au
   have aA:bh U S w az S w:=⟨rfl,rfl,rfl,sd _,fun _ _ _=>rfl,fun _ _ h=>⟨h,rfl⟩,fun _ _ h=>.inl h,fun b ag=>.inl fun aU=>ag (by simp [az,aU])⟩;have av:∀ au l',U au=some l'→l'≠.obj id→az au=some l':=fun au l' ad af=>by
    have:¬ U au=some (.obj id):=by rw [ad];intro e;cases e;exact af rfl
    simp [az,ad,af]
   refine ⟨az,J,S,Ext.refl J,aA,⟨by simpa using ah.cD,fun bz o aq=>?_,ah.cc,fun au l' bt=>?_,ah.cV⟩,.cJ _ _ _ _ _ _,.inr ⟨by simp [az,aI],rfl,hle,dr,dS,by simp;omega,⟨cur,e,aR,gw,fun j u v hu ae=>?_⟩,bc⟩⟩
   ·by_cases cr:bz=id
    ·subst cr;rw [si (sb.1 aE).1] at aq;cases aq;trivial
    ·rw [sj (Ne.symm cr)] at aq;refine (ah.obj bz o aq).frame (Ext.refl J) aA.set (fun au l' bt ao=>⟨av au l' bt ?_,rfl,fun _ h=>h⟩);rcases ao with rfl | ⟨j,rfl⟩
     ·simp [cr]
     ·simp
   ·by_cases h:U au=some (.obj id)
    ·exact ah.base au _ h
    ·simp only [az,h,if_false] at bt;exact ah.base au l' bt
   ·have b_:u∈l.take (n*z):=sH hu;rw [sR] at hu;split at hu
    ·obtain ⟨_,ba,br,_⟩:=bf j u v hu ae;exact ⟨aB u b_,ba,br⟩
    ·simp at hu
theorem Bd (ah:aK B U J S w H) {aT:Operand→Value} (eT:∀ v,aT (.const v)=v) {lo mode:Nat} {t:TypeId} {x:Operand} {us:List I} {r:I} {H':List ar}
  (h:eV P lo mode t x H us=some (r,H')) (ae:a8 (fun i=>.arg i) U J S w us ([x].map aT)):a0 B U J S w H' r (aT x) w:=by
 obtain ⟨u,rfl,r1,bD⟩:=a8.one ae;unfold eV at h;simp only at h;split at h
 ·split at h
  ·rename_i aN ay;simp only [sa,Prod.mk.injEq] at h;obtain ⟨z,_,rfl,rfl⟩:=h;rw [DK aN,eT];exact ⟨U,J,S,Ext.refl J,bh.refl U S w,ah,.b1 _ _,trivial⟩
  ·cases h;exact hJ ah (eE _) (eF _) r1 bD
 ·split at h
  ·rename_i cells len z;split at h
   ·cases h;exact hJ ah (eE _) (eF _) r1 bD
   ·rename_i aU;cases h;exact z' ah (eE _) (eF _) aU r1 bD
  ·cases h;exact hJ ah (eE _) (eF _) r1 bD
  ·cases h;exact hJ ah (eE _) (eF _) r1 bD
  ·simp at h
 ·split at h
  ·rename_i id gid n z;split at h
   ·split at h
    ·rename_i l g cS aE;split at h
     ·rename_i al;obtain ⟨rfl,rfl,ad,af⟩:=al;cases h;exact EF ah aE ad af r1
     ·simp at h
    ·simp at h
   ·simp at h
  ·cases h;exact hJ ah (eE _) (eF _) r1 bD
 ·split at h
  ·rename_i id off len cap sz;split at h
   ·simp only [sg,sa,Prod.mk.injEq] at h;obtain ⟨row,cP,n,aN,rfl,rfl⟩:=h;exact z8 ah cP aN r1
   ·simp at h
  ·rename_i id gid n z;split at h
   ·split at h
    ·rename_i l g cS aE;split at h
     ·rename_i ao;cases h;have aS:=(sb.1 aE).1;have q:=z8 (ah.oF aE) (row:=l.map I.view) (by simp only [rowOf,si aS,sS];rw [if_pos (by omega),sV,tT (by omega)]) rfl (r1.view rfl);rw [sU] at q;exact q
     ·simp at h
    ·simp at h
   ·simp at h
  ·cases h;obtain ⟨S',aJ,aQ,b9,r2⟩:=mI ah (eE _) (eF _) r1 bD;exact a0.after (Ext.refl J) (bh.settle aJ fun b o h=>(aQ b o h).imp id fun h=>⟨_,h⟩) (a0.same b9 r2 (I.dg _))
theorem FV (ah:aK B U J S w H) {t e:TypeId} (ay:P.underlying t=some (.slice e)) {id off i g n z:Nat} {l:List I} (aE:H[id]?=some (.cells l)) (cO:l[off]?=some (.ck i g n z)) {v:Value}
  (aj:Rel J S w (.ptr id off) v):∃ x,(Instr.loadAt t v).run P w=.ok x w∧a0 B U J S w H (.ck i g n z) x w:=by
 have cd:dG P t=false:=by simp [dG,ay]
 obtain ⟨b,cur,cW,aC,aI,aR,bk,bc,bf⟩:=ah.obj id _ aE;cases aj with
 | ptr _ _ au ag =>
   rw [aC] at ag;cases ag;have aw:off<l.length:=(sb.1 cO).1;(have fq:off<cur.size:=by omega);have iH:cur[off]?=some cur[off]:=sA fq;obtain ⟨a_,ba,br,b8⟩:=bf off _ _ cO iH;(have bw:w.cell? ⟨b,off,none⟩=some cur[off]:=by rw [cell_of_row w b _ cur cW (0,0) aR,iH]);exact ⟨cur[off],by simp [Instr.loadAt,Instr.sureAddr,loadVar,gO ay,cd,load,Sem.run,bw],U,J,S,Ext.refl J,bh.refl U S w,ah,br,trivial⟩
theorem FU (ah:aK B U J S w H) {lo mode:Nat} {t:TypeId} {u:I} {r:I} {H':List ar} {v:Value} (h:dM P lo mode t H [u]=some (r,H')) (aj:Rel J S w u v) :
  ∃ x,(Instr.loadAt t v).run P w=.ok x w∧a0 B U J S w H' r x w:=by
 unfold dM at h;simp only at h;split at h
 ·simp only [sa,Prod.mk.injEq] at h;obtain ⟨r',h,rfl,rfl⟩:=h;obtain ⟨x,ad,af,aG⟩:=lj ah h aj;exact ⟨x,ad,a0.same ah af aG⟩
 ·split at h
  ·simp only [sa,Prod.mk.injEq] at h;obtain ⟨r',h,rfl,rfl⟩:=h;obtain ⟨x,ad,af,aG⟩:=lj (t:=t) ah (by simpa only [dP] using h) aj;exact ⟨x,ad,a0.same ah af aG⟩
  ·simp at h
 ·split at h
  ·rename_i e id off ay;split at h
   ·rename_i l aE;split at h
    ·rename_i i g n z cO;cases h;exact FV ah ay aE cO aj
    ·rename_i cO;cases h
     have:dP P H t (.ptr id off)=some (.ax [] 0 .full):=by simp [dP,aE,ev,dG,ay,cO,I.view]
     obtain ⟨x,ad,af,aG⟩:=lj ah this aj;exact ⟨x,ad,a0.same ah af aG⟩
    ·simp at h
   ·simp at h
  ·simp at h
 ·split at h
  ·rename_i e id off ay;split at h
   ·split at h
    ·rename_i l aE;split at h
     ·rename_i c n z cO;cases h;exact Be ah ay aE cO aj
     ·rename_i c n z cO;split at h
      ·split at h
       ·simp at h
       ·rename_i aN;cases h;exact F_ ah ay aN aE cO aj
      ·cases h;obtain ⟨_,x,_,_,_,ad,af⟩:=Bf ah ay aE cO aj;exact ⟨x,ad,af⟩
     ·rename_i bF cX iN cO;cases h
      have:dP P H t (.ptr id off)=some bF.view:=by simp [dP,aE,ev,dG,ay,cO]
      obtain ⟨x,ad,af,aG⟩:=lj ah this aj;exact ⟨x,ad,a0.same ah af aG⟩
     ·simp at h
    ·rename_i l g cS aE;have aS:=(sb.1 aE).1;split at h
     ·rename_i c n z cO;cases h;obtain ⟨b,cur,cW,aC,aI,aR,bk,bc,bf,cap,c9,dr,dS,gw⟩:=ah.obj id _ aE;obtain ⟨x,ad,az,bU,S',bR,bY,ea,fO⟩:=Be (ah.oF aE) ay (by rw [si aS]) cO aj;have aO:=ea.xG (g:=g) (z:=cS) (by rw [si (by simpa using aS)]) (bR _ _ aC) (bR _ _ c9) dr dS aR gw;rw [sU,sU] at aO;exact ⟨x,ad,az,bU,S',bR,bY,aO,fO⟩
     ·rename_i c n cO;cases h
      have:dP P H t (.ptr id off)=some (.ax c n .full):=by simp [dP,aE,ev,dG,ay,cO,I.view]
      obtain ⟨x,ad,af,aG⟩:=lj ah this aj;exact ⟨x,ad,a0.same ah af aG⟩
     ·simp at h
    ·simp at h
   ·simp at h
  ·simp at h
theorem Bc (ah:aK B U J S w H) {lo:Nat} {b:Builtin} {ts:Array TypeId} (ty:TypeId) (cs:Array Bool) {us:List I} {r:I} {H':List ar} {vs:List Value} (h:ew P lo b ts H us=some (r,H'))
  (ae:a8 (fun i=>.arg i) U J S w us vs):∃ y w',(builtin b ts ty cs vs.toArray).run P w=.ok (.value y) w'∧a0 B U J S w H' r y w':=by
 have one:∀ {u:I},us=[u]→∃ v,vs=[v]∧Rel J S w u v:=fun {u} e=>by
  subst e
  match vs,ae with
  | [v],ae=>exact ⟨v,rfl,ae.rel 0 u v rfl rfl⟩
  | [],ae=>exact absurd ae.len (by simp)
  | _::_::_,ae=>exact absurd ae.len (by simp)
 have two:∀ {u x:I},us=[u,x]→∃ v y,vs=[v,y]∧Rel J S w u v∧aV U J S w (.arg 0) u v∧Rel J S w x y∧aV U J S w (.arg 1) x y:=fun {u x} e=>by
  subst e
  match vs,ae with
  | [v,y],ae=>exact ⟨v,y,rfl,ae.rel 0 u v rfl rfl,ae.own 0 u v rfl rfl,ae.rel 1 x y rfl rfl,ae.own 1 x y rfl rfl⟩
  | [],ae=>exact absurd ae.len (by simp)
  | [_],ae=>exact absurd ae.len (by simp)
  | _::_::_::_,ae=>exact absurd ae.len (by simp)
 unfold ew at h;split at h
 ·
  unfold iU at h;split at h
  ·rename_i s x;split at h
   ·rename_i t dp g9;(have g9:ts=#[t,dp]:=by rw [←uy (xs:=ts),g9]);subst g9;simp only [sa,Prod.mk.injEq] at h;obtain ⟨r',h,rfl,rfl⟩:=h;obtain ⟨v,y,rfl,r1,bD,r2,bQ⟩:=two rfl;obtain ⟨z,w',ad,af⟩:=Ba ah ty (eE _) (eF _) (eE _) (eF _) (by simp) h r1 bD r2 bQ;exact ⟨z,w',by simp [builtin,ad],af⟩
   ·simp at h
  ·simp at h
 ·
  match us with
  | [u] =>
    obtain ⟨v,rfl,r1⟩:=one rfl;obtain ⟨y,ad,af⟩:=FT ah (ts:=ts) ty h r1;exact ⟨y,w,by simp [builtin,ad],af⟩
  | []=>simp [hh] at h
  | _::_::_=>simp [hh] at h
 ·
  match us with
  | [u] =>
    obtain ⟨v,rfl,r1⟩:=one rfl;obtain ⟨y,ad,af⟩:=FN ah (ts:=ts) ty h r1;exact ⟨y,w,by simp [builtin,ad],af⟩
  | []=>simp [j2] at h
  | _::_::_=>simp [j2] at h
 ·
  match us with
  | [u,x] =>
    obtain ⟨v,y,rfl,r1,bD,r2,bQ⟩:=two rfl;obtain ⟨z,w',ad,af⟩:=FP ah (ts:=ts) ty (eE _) (eF _) h r1 r2 bQ;exact ⟨z,w',by simp [builtin,ad],af⟩
  | []=>simp [j3] at h
  | [_]=>simp [j3] at h
  | _::_::_::_=>simp [j3] at h
 ·
  match us with
  | [u] =>
    obtain ⟨v,rfl,r1⟩:=one rfl;obtain ⟨y,w',ad,af⟩:=FO ah (ts:=ts) ty h r1;exact ⟨y,w',by simp [builtin,ad],af⟩
  | []=>simp [k3] at h
  | _::_::_=>simp [k3] at h
 ·
  match us with
  | [u,x] =>
    obtain ⟨v,y,rfl,r1,_,r2,_⟩:=two rfl;obtain ⟨z,w',ad,af⟩:=FQ ah (ts:=ts) ty h r1 r2;exact ⟨z,w',by simp [builtin,ad],af⟩
  | []=>simp [hI] at h
  | [_]=>simp [hI] at h
  | _::_::_::_=>simp [hI] at h
 ·simp only [sa,Prod.mk.injEq] at h;obtain ⟨r',h,rfl,rfl⟩:=h;obtain ⟨y,ad,af,aG⟩:=F2 (P:=P) ts ty h ae;exact ⟨y,w,by simp [builtin,ad],a0.same ah af aG⟩
 ·simp only [sa,Prod.mk.injEq] at h;obtain ⟨r',h,rfl,rfl⟩:=h;obtain ⟨y,ad,af,aG⟩:=F1 (P:=P) ts ty h ae;exact ⟨y,w,by simp [builtin,ad],a0.same ah af aG⟩
 ·simp at h
end
end Go.Proofs.YtfakoboiahbhaaaGreat.Ab


namespace Go.Proofs.YtfakoboiahbhaaaGreat.Ab
open Go
section
variable {P:Program} {B:Nat} {J:List Nat} {w:World} {H:List ar} {U:Nat→Option aH} {S:Nat→Nat→Prop}
theorem a8.tail {bA:Nat→aH} {us:List I} {vs:List Value} {u:I} {v:Value} (h:a8 bA U J S w (u::us) (v::vs)):a8 (fun i=>bA (i+1)) U J S w us vs :=
 ⟨by simpa using h.len,fun i a b cb ag=>h.rel (i+1) a b (by simpa using cb) (by simpa using ag),fun i a b cb ag=>h.own (i+1) a b (by simpa using cb) (by simpa using ag)⟩
theorem k7 {bA:Nat→aH} {us:List I} {vs:List Value} (ae:a8 bA U J S w us vs) {aT:Operand→Value} (i:Nat) (l:Option Operand) (ao:∀ x,l=some x→vs[i]?=some (aT x)) :
  eM J S w (dn us i l) (l.map aT):=by
 cases l with
 | none=>trivial
 | some x =>
   have ad:=ao x rfl;(have af:i<us.length:=by rw [ae.len];exact (sb.1 ad).1);simp only [dn,sm af,sf];exact ae.rel i _ _ (sm af) ad
theorem eM.mono {S':Nat→Nat→Prop} (cl:∀ b o,S b o→S' b o) {a:Option I} {b:Option Value} (h:eM J S w a b):eM J S' w a b:=by
 cases a <;> cases b <;> first | exact h | exact Rel.mono (Ext.refl J) (fun b o h=>⟨cl b o h,rfl⟩) h
theorem F' (ah:aK B U J S w H) {aT:Operand→Value} {t:TypeId} {x:Operand} {l h m:Option Operand} {u:I} {vs:List I} {r:I} {i1 i2:Nat}
  (aq:eY P t u.view (dn vs 0 l) (dn vs i1 h) (dn vs i2 m)=some r) (ad:i1=l.toList.length) (af:i2=l.toList.length+h.toList.length)
  (ik:Rel J S w u (aT x)) (ig:aV U J S w (.arg 0) u (aT x)) {bA:Nat→aH} (dX:a8 bA U J S w vs ((l.toList++h.toList++m.toList).map aT)) :
  ∃ v,(Instr.sliceAt t (aT x) (l.map aT) (h.map aT) (m.map aT)).run P w=.ok v w∧a0 B U J S w H r v w:=by
 obtain ⟨S',aJ,aQ,b9,r1⟩:=mI ah (eE _) (eF _) ik ig;obtain ⟨v,q1,aW,cx⟩:=Fk (J:=J) (S:=S') (w:=w) aq (I.dg u) r1
  ((k7 (aT:=aT) dX 0 l (fun y aY=>by subst aY;simp)).mono aJ)
  ((k7 (aT:=aT) dX i1 h (fun y aY=>by subst ad aY;cases l <;> simp)).mono aJ)
  ((k7 (aT:=aT) dX i2 m (fun y aY=>by subst af aY;cases l <;> cases h <;> simp)).mono aJ)
 exact ⟨v,q1,a0.after (Ext.refl J) (bh.settle aJ fun b o h=>(aQ b o h).imp id fun h=>⟨_,h⟩) (a0.same b9 aW cx)⟩
theorem F6 (ah:aK B U J S w H) {aT:Operand→Value} {t:TypeId} {x:Operand} {l h m:Option Operand} {us:List I} {r:I} (aq:eh P t l h m us=some r)
  (ae:a8 (fun i=>.arg i) U J S w us ((x::(l.toList++h.toList++m.toList)).map aT)) :
  ∃ v,(Instr.sliceAt t (aT x) (l.map aT) (h.map aT) (m.map aT)).run P w=.ok v w∧a0 B U J S w H r v w:=by
 match us,ae with
 | [],ae=>exact absurd ae.len (by simp)
 | u::vs,ae =>
   have ik:=ae.rel 0 u _ rfl rfl;have ig:=ae.own 0 u _ rfl rfl;have dX:=ae.tail;unfold eh at aq;dsimp only at aq;split at aq
   ·rename_i cells len z;split at aq
    ·rename_i e a2;simp only [sg,sa] at aq;obtain ⟨s,ai,n,aN,rfl⟩:=aq;have mZ:=k7 (aT:=aT) dX 0 h (fun y aY=>by subst aY;simp);generalize ak:aT x=cy at ik ig ⊢;cases ik with
     | b1 c a =>
       obtain ⟨q,q1,aW⟩:=hM (P:=P) (isS:=true) (cap:=0) (lo:=none) (lo':=none) aN rfl (by omega) trivial mZ;(obtain rfl:n=0:=by omega);exact ⟨.slice a 0 0,by cases a <;> simp [Instr.sliceAt,Instr.slice,run_underlying a2,q,run_sizeOf ai,Addr.add],U,J,S,Ext.refl J,bh.refl U S w,ah,by simpa using .b1 _ _,by cases a <;> first | trivial | exact .inl ⟨rfl,rfl,by simp⟩⟩
     | ax _ _ c b o cap f al hle hu bw b0=>exact absurd rfl (hu _)
     | cJ cells len z b o cap =>
       rcases ig with ⟨rfl,rfl,rfl⟩ | ⟨bD,bQ,k0,ib,hf,gK,⟨cur,ce,j0,hg,n8⟩,mP⟩
       ·obtain ⟨q,q1,aW⟩:=hM (P:=P) (isS:=true) (cap:=0) (lo:=none) (lo':=none) aN rfl (by omega) trivial mZ;(obtain rfl:n=0:=by omega);exact ⟨.slice (some ⟨b,o,none⟩) 0 0,by simp [Instr.sliceAt,Instr.slice,run_underlying a2,q,run_sizeOf ai],U,J,S,Ext.refl J,bh.refl U S w,ah,.cJ _ _ _ _ _ _,.inl ⟨rfl,rfl,by simp⟩⟩
       ·obtain ⟨q,q1,aW⟩:=hM (P:=P) (isS:=true) (cap:=cap) (lo:=none) (lo':=none) aN rfl (by omega) trivial mZ;simp only at bD j0 mP bQ;refine ⟨.slice (some ⟨b,o,none⟩) n cap,by simp [Instr.sliceAt,Instr.slice,run_underlying a2,q,run_sizeOf ai];intro;simp [Addr.add],?_⟩;refine hJ ah (eE 0) (eF 0) (.cJ _ _ _ _ _ _) (.inr ⟨bD,bQ,by omega,ib,hf,?_,⟨cur,ce,j0,hg,fun j u v hu ae=>?_⟩,mP⟩)
        ·rw [ta,gK];exact Nat.min_eq_left (tt _ aW)
        ·rw [sR] at hu;split at hu
         ·exact n8 j u v hu ae
         ·simp at hu
    ·simp at aq
   ·
    rename_i cells len z lo gd;split at aq
    ·rename_i e a2;simp only [sg] at aq;obtain ⟨s,ai,aq⟩:=aq;split at aq
     ·rename_i bO;subst bO;simp only [sa] at aq;obtain ⟨n,aN,rfl⟩:=aq;have rl:=k7 (aT:=aT) dX 0 (some lo) (fun y aY=>by cases aY;simp);generalize ak:aT x=cy at ik ig ⊢;cases ik with
      | b1 c a =>
        obtain ⟨q,q1,aW⟩:=hM (P:=P) (isS:=true) (cap:=0) (hi:=none) (hi':=none) (len:=0) rfl aN (by omega) rl trivial;simp only [sf,Option.map_none] at q;(obtain rfl:n=0:=by omega);exact ⟨.slice a 0 0,by cases a <;> simp [Instr.sliceAt,Instr.slice,run_underlying a2,q,run_sizeOf ai,Addr.add],U,J,S,Ext.refl J,bh.refl U S w,ah,by simpa using .b1 _ _,by cases a <;> first | trivial | exact .inl ⟨rfl,rfl,by simp⟩⟩
      | ax _ _ c b o cap f al hle hu bw b0 =>
        obtain ⟨q,q1,aW⟩:=hM (P:=P) (isS:=true) (cap:=cap) (hi:=none) (hi':=none) (len:=len) rfl aN hle rl trivial;simp only [sf,Option.map_none] at q;have CS:∀ k,(cells.drop k).take cells.length=cells.drop k:=fun k=>tT (by rw [tE];omega);by_cases ep:cap=n
        ·(obtain rfl:n=len:=by omega);rw [ep] at q;refine ⟨.slice (some ⟨b,o,none⟩) 0 0,by simp [Instr.sliceAt,Instr.slice,run_underlying a2,q,run_sizeOf ai,ep],?_⟩;rw [Nat.sub_self];rcases ig with ⟨aU,CQ,cA⟩ | ⟨bD,bQ,k0,ib,hf,gK,j0,⟨cur,ce,hg,n8⟩,mP⟩
         ·rw [cA,List.drop_nil];exact ⟨U,J,S,Ext.refl J,bh.refl U S w,ah,.ax [] 0 _ b o 0 (fun _=>undef) (by simp) (sd _) (by simp) (by simp) (by simp),.inl ⟨rfl,rfl,rfl⟩⟩
         ·rw [List.drop_eq_nil_of_le (by omega)];exact ⟨U,J,S,Ext.refl J,bh.refl U S w,ah,.ax [] 0 _ b o 0 (fun _=>undef) (by simp) (sd _) (by simp) (by simp) (by simp),.inl ⟨rfl,rfl,rfl⟩⟩
        ·have zi:=Rel.sub (J:=J) (k:=cells.length) (n:=len-n) (cap':=cap-n) (n*s) (.own s) (by simp) (by omega) (by simp) bw b0;rw [CS] at zi;refine ⟨.slice (some ⟨b,o+n*s,none⟩) (len-n) (cap-n),by simp [Instr.sliceAt,Instr.slice,run_underlying a2,q,run_sizeOf ai,ep,add_lit],?_⟩;rcases ig with ⟨aU,CQ,cA⟩ | ⟨bD,bQ,k0,ib,hf,gK,j0,⟨cur,ce,hg,n8⟩,mP⟩
         ·exfalso;omega
         ·refine hJ ah (eE 0) (eF 0) zi (.inr ⟨bD,trivial,rfl,by omega,by omega,gK,?_,⟨cur,ce,hg,?_⟩,fun cL jQ=>mP cL ?_⟩)
          ·rw [tE,j0,Nat.sub_mul]
          ·have e1:n*s≤cap*s:=tt _ (by omega);have b':(cap-n)*s=cap*s-n*s:=Nat.sub_mul _ _ _;show cur.size=o+n*s+(cap-n)*s;simp only at n8;omega
          ·have e1:n*s≤len*s:=tt _ q1;simp only [tE] at jQ ⊢;omega
     ·simp at aq
    ·simp at aq
   ·
    rename_i id gid len z;split at aq
    ·rename_i e a2;simp only [sg,sa] at aq;obtain ⟨s,ai,n,aN,rfl⟩:=aq;have mZ:=k7 (aT:=aT) dX 0 h (fun y aY=>by subst aY;simp);generalize ak:aT x=cy at ik ig ⊢;cases ik with
     | ck _ _ _ _ b cap ag aO hle =>
       obtain ⟨q,q1,aW⟩:=hM (P:=P) (isS:=true) (cap:=cap) (lo:=none) (lo':=none) aN rfl hle trivial mZ;exact ⟨.slice (some ⟨b,0,none⟩) n cap,by simp [Instr.sliceAt,Instr.slice,run_underlying a2,q,run_sizeOf ai];intro;simp [Addr.add],U,J,S,Ext.refl J,bh.refl U S w,ah,.ck _ _ _ _ b cap ag aO (by omega),trivial⟩
    ·simp at aq
   ·exact F' ah aq (by cases l <;> rfl) (by cases l <;> cases h <;> rfl) ik ig dX
theorem F3 {aT:Operand→Value} (eT:∀ v,aT (.const v)=v) {C:b7} {lo mode:Nat} {o:Oper} {us:List I} {r:I} {H':List ar} (ah:aK B U J S w H)
  (h:a4 P C lo o mode us H=some (r,H')) (iM:∀ c f,o.op=.call c→c.callee≠.value f)
  (aB:dH o mode=false→∀ u∈us,u.plain=true) (ae:a8 (fun i=>.arg i) U J S w us ((opsOf o).map aT)):eA P aT o w (a0 B U J S w H' r):=by
 have base:(cw P o us).map (·,H)=some (r,H')→dH o mode=false→eA P aT o w (a0 B U J S w H' r):=fun h ao=>by
  simp only [sa,Prod.mk.injEq] at h;obtain ⟨r',aX,rfl,rfl⟩:=h;exact F4 eT ah aX ao (aB ao) ae
 cases aD:o.op
 case call c =>
  simp only [a4,aD] at h;cases al:c.callee with
  | builtin b =>
    simp only [al] at h;have he:opsOf o=c.args.toList:=by
     obtain ⟨B9,args,B3⟩:=c;simp only at al;subst al;simp only [opsOf,aD]
    rw [he] at ae;obtain ⟨y,w',ad,af⟩:∃ y w',(builtin b c.argTypes o.type (c.args.map fun | .const _=>true | _=>false) (c.args.toList.map aT).toArray).run P w=.ok (.value y) w'∧a0 B U J S w H' r y w':=by
     cases b
     case append =>
      simp only at h;split at h
      ·exact Bc ah o.type _ h ae
      ·match us,h,ae with
       | [u,x],h,ae =>
         obtain ⟨v,bg,e1,r1,bD,ae⟩:=ae.gS;obtain ⟨y,bg,b',r2,bQ,ae⟩:=ae.gS;cases bg with
         | cons=>exact absurd ae.len (by simp)
         | nil =>
         obtain ⟨z,w',ad,af⟩:=FG ah o.type (eE _) (eF _) (eE _) (eF _) (by simp) h r1 bD r2 bQ;rw [e1,b'];exact ⟨z,w',by simp [builtin,ad],af⟩
     all_goals exact Bc ah o.type _ h ae
    refine .inl ⟨y,w',?_,af⟩;simp only [Go.execOp,aD,resolve,al,Sem.run_bind,Sem.run_pure,Result.andThen_ok,invoke];rw [←ad,←ve,uy];rfl
  | value f=>exact absurd al (iM c f aD)
  | invoke x n=>simp [al] at h
 all_goals (have bd:=ae;rw [xy (by simp [aD])] at bd;simp only [aD,Op.operands] at bd)
 case move x =>
  simp only [a4,aD] at h;exact .inl ⟨aT x,w,by simp [Go.execOp,aD],Bd ah eT h bd⟩
 case assign x =>
  simp only [a4,aD] at h;exact .inl ⟨aT x,w,by simp [Go.execOp,aD],Bd ah eT h bd⟩
 case load t a =>
  simp only [a4,aD] at h;obtain ⟨u,rfl,r1,_⟩:=a8.one (x:=a) (by simpa using bd);obtain ⟨x,ad,af⟩:=FU ah h r1;exact .inl ⟨x,w,by simp [Go.execOp,aD,ad],af⟩
 case store t a x =>
  simp only [a4,aD] at h;obtain ⟨u,v,rfl,r1,bD,r2,bQ⟩:=a8.two (x:=a) (y:=x) (by simpa using bd);unfold gM at h;simp only at h;split at h
  ·simp only [sa,Prod.mk.injEq] at h;obtain ⟨H1,h,rfl,rfl⟩:=h;obtain ⟨w',ad,af⟩:=F7 ah (eE _) (eF _) h r1 r2 bQ undef;exact .inr ⟨w',by simp [Go.execOp,aD,ad],af⟩
  ·simp only [sa,Prod.mk.injEq] at h;obtain ⟨H1,h,rfl,rfl⟩:=h;obtain ⟨w',ad,af⟩:=F8 ah (eE _) (eF _) h r1 r2 bQ undef;exact .inr ⟨w',by simp [Go.execOp,aD,ad],af⟩
  ·simp only [sa,Prod.mk.injEq] at h;obtain ⟨H1,h,rfl,rfl⟩:=h;obtain ⟨w',ad,af⟩:=F9 ah (eE _) (eF _) h r1 r2 bQ undef;exact .inr ⟨w',by simp [Go.execOp,aD,ad],af⟩
 case box e x =>
  simp only [a4,aD] at h;obtain ⟨u,rfl,r1,bD⟩:=a8.one (x:=x) (by simpa using bd);unfold gL at h;simp only at h;split at h
  ·simp only [sa,Prod.mk.injEq] at h;obtain ⟨vc,h,rfl,rfl⟩:=h;obtain ⟨y,w',ad,af⟩:=FI (P:=P) ah (eE _) (eF _) h r1 bD e;exact .inl ⟨y,w',by simp [Go.execOp,aD,ad],af⟩
  ·split at h
   ·rename_i vc fJ;split at h
    ·rename_i aB;cases h;obtain ⟨y,w',ad,af⟩:=FJ (P:=P) ah fJ aB r1 e;exact .inl ⟨y,w',by simp [Go.execOp,aD,ad],af⟩
    ·simp at h
   ·simp at h
 case alloc t =>
  simp only [a4,aD] at h;unfold k2 at h;split at h
  ·simp only [sa,Prod.mk.injEq] at h;obtain ⟨z,h,rfl,rfl⟩:=h;obtain ⟨y,w',ad,af⟩:=FE ah h (.tuple #[]);exact .inl ⟨y,w',by simp [Go.execOp,aD,ad],af⟩
  ·split at h
   ·rename_i e bj he;simp only [sa,Prod.mk.injEq] at h;obtain ⟨s,_,rfl,rfl⟩:=h;obtain ⟨y,w',ad,af⟩:=FF (s:=s) ah bj (.tuple #[]);exact .inl ⟨y,w',by simp [Go.execOp,aD,ad],af⟩
   ·simp at h
 case build t parts =>
  simp only [a4,aD] at h;split at h
  ·exact base h (by simp [dH,aD])
  ·simp only [sa,Prod.mk.injEq] at h;obtain ⟨r',h,rfl,rfl⟩:=h;(have c_:a8 (fun i=>.arg i) U J S w us ((parts.toList.map (·.2)).map aT):=by simpa using bd);have hlen:us.length=parts.toList.length:=by simpa using c_.len
   obtain ⟨v,q1,aW⟩:=FL (parts':=parts.map fun (x:Nat×Operand)=>(x.1,aT x.2)) ah h (by simp [eL,vA,hlen]) (fun j x y ak aY=>by
    simp only [eL,vB] at ak;obtain ⟨xc,g'⟩:=ak;simp only [ve,ss,sa] at aY;obtain ⟨p,fI,rfl⟩:=aY;have aO:((parts.toList.map (·.2)).map aT)[j]?=some (aT p.2):=by simp only [ss,fI,sf]
    exact ⟨c_.rel j _ _ g' aO,c_.own j _ _ g' aO⟩)
   exact .inl ⟨v,w,by simp [Go.execOp,aD,q1],aW⟩
 case buildSlice t len parts =>
  simp only [a4,aD] at h;split at h
  ·exact base h (by simp [dH,aD])
  ·simp only [sa,Prod.mk.injEq] at h;obtain ⟨⟨cs,s⟩,h,rfl,rfl⟩:=h;obtain ⟨v,w',q1,aW⟩:=FM eT ah aD h (aB (by simp [dH,aD])) ae;exact .inl ⟨v,w',q1,aW⟩
 case makeSlice t a b =>
  simp only [a4,aD] at h;obtain ⟨u,v,rfl,r1,_,r2,_⟩:=a8.two (x:=a) (y:=b) (by simpa using bd);unfold j4 at h;split at h
  ·rename_i k n k' c heq;simp at heq;obtain ⟨rfl,rfl⟩:=heq;split at h
   ·rename_i al;have e1:=r1.dc;have b':=r2.dc;split at h
    ·simp only [sa,Prod.mk.injEq] at h;obtain ⟨z,h,rfl,rfl⟩:=h;obtain ⟨y,w',ad,af⟩:=FY (k:=k) (k':=k') ah al.1 al.2 h;exact .inl ⟨y,w',by simp [Go.execOp,aD,e1,b',ad],af⟩
    ·split at h
     ·rename_i iM;simp only [sa,Prod.mk.injEq] at h;obtain ⟨z,h,rfl,rfl⟩:=h;obtain ⟨rfl,aU⟩:=iM;obtain ⟨y,w',ad,af⟩:=FZ (k:=k) (k':=k') ah aU h;exact .inl ⟨y,w',by simp [Go.execOp,aD,e1,b',ad],af⟩
     ·simp at h
   ·simp at h
  ·simp at h
 case makeMap t r =>
  simp only [a4,aD] at h;obtain ⟨x,w',ad,rfl,af⟩:=FX (P:=P) ah h;exact .inl ⟨x,w',by simp [Go.execOp,aD,ad],af⟩
 case mapUpdate t m k v =>
  simp only [a4,aD] at h;have aB:=aB (by simp [dH,aD]);obtain ⟨jh,kf,lr,rfl,e6,bM,ox⟩:∃ jh kf lr,us=[jh,kf,lr]∧Rel J S w jh (aT m)∧Rel J S w kf (aT k)∧Rel J S w lr (aT v):=by
   match us,bd with
   | [jh,kf,lr],bd=>exact ⟨jh,kf,lr,rfl,bd.rel 0 _ _ rfl rfl,bd.rel 1 _ _ rfl rfl,bd.rel 2 _ _ rfl rfl⟩
   | [],bd=>exact absurd bd.len (by simp)
   | [_],bd=>exact absurd bd.len (by simp)
   | [_,_],bd=>exact absurd bd.len (by simp)
   | _::_::_::_::_,bd=>exact absurd bd.len (by simp)
  obtain ⟨w',ad,af⟩:=F0 ah h e6 bM (aB kf (by simp)) ox (aB lr (by simp)) undef;exact .inr ⟨w',by simp [Go.execOp,aD,ad],af⟩
 case lookup t m k ok =>
  simp only [a4,aD] at h;obtain ⟨jh,kf,rfl,e6,_,bM,_⟩:=a8.two (x:=m) (y:=k) (by simpa using bd);obtain ⟨x,ad,af⟩:=FW ah h e6 bM;exact .inl ⟨x,w,by simp [Go.execOp,aD,ad],af⟩
 case range t m =>
  simp only [a4,aD] at h;obtain ⟨jh,rfl,e6,_⟩:=a8.one (x:=m) (by simpa using bd);obtain ⟨x,w',ad,af⟩:=F5 ah h e6;exact .inl ⟨x,w',by simp [Go.execOp,aD,ad],af⟩
 case entry m =>
  simp only [a4,aD] at h;obtain ⟨jh,rfl,e6,_⟩:=a8.one (x:=m) (by simpa using bd);obtain ⟨x,ad,af⟩:=FR (P:=P) ah h e6;exact .inl ⟨x,w,by simp [Go.execOp,aD,ad],af⟩
 case slice t x l bH m =>
  simp only [a4,aD,cw,sa,Prod.mk.injEq] at h;obtain ⟨r',h,rfl,rfl⟩:=h;obtain ⟨v,ad,af⟩:=F6 (x:=x) ah h (by simpa using bd);exact .inl ⟨v,w,by simp [Go.execOp,aD,ad],af⟩
 all_goals exact base (by simpa only [a4,aD] using h) (by simp [dH,aD])
end
end Go.Proofs.YtfakoboiahbhaaaGreat.Ab


namespace Go.Proofs.YtfakoboiahbhaaaGreat.Ab
open Go
def dk (U:Nat→Option aH):Nat→Option aH:=fun b=>match U b with
 | some (.slot _)=>none
 | x=>x
def back (U bq:Nat→Option aH) (d:Option Nat):Nat→Option aH:=fun b=>match U b with
 | some (.slot i)=>if d=some i then none else some (.slot i)
 | _=>match bq b with
   | some .res=>d.map .slot
   | some (.obj id)=>some (.obj id)
   | some (.cell id j)=>some (.cell id j)
   | _=>none
def Marks (N:Nat) (U:Nat→Option aH) (w:World) (ds:List Deferred):Prop :=
 N≤w.heap.size∧(∀ d∈ds,∃ r,d.target=.collected r∧N≤r∧U r=none∧w.heap[r]?=some (.deferred (some [])))∧ds.Pairwise (fun a b=>a.target≠b.target)
structure cv (B N:Nat) (U:Nat→Option aH) (J:List Nat) (S:Nat→Nat→Prop) (w:World) (s:a6) (a:Act):Prop where
 T:a8 .slot U J S w s.T a.tmps.toList
 H:aK B U J S w s.H
 M:Marks N U w a.defers
def Step (B N:Nat) (U:Nat→Option aH) (J:List Nat) (S:Nat→Nat→Prop) (w:World) (aF:a6) (aM:Act) (w':World):Prop :=
 ∃ az bU S',Ext J bU∧bh U S w az S' w'∧cv B N az bU S' w' aF aM
section
variable {P:Program} {B N:Nat} {J:List Nat} {w:World} {H:List ar} {U:Nat→Option aH} {S:Nat→Nat→Prop}
theorem Marks.aA {az:Nat→Option aH} {S':Nat→Nat→Prop} {w':World} {ds:List Deferred} (h:Marks N U w ds) (aA:bh U S w az S' w'):Marks N az w' ds:=⟨sL h.1 aA.size,fun d a2=>by
 obtain ⟨r,ad,af,aG,a5⟩:=h.2.1 d a2;have aj:r<w.heap.size:=(sY.1 a5).1;refine ⟨r,ad,af,?_,(aA.cC r aj aG).trans a5⟩;cases bL:az r with
 | none=>rfl
 | some l =>
   rcases aA.own r (by simp [bL]) with bS | bS
   ·exact absurd aG bS
   ·omega,h.2.2⟩
theorem nE {b:Nat} (h:U b=none):dk U b=none:=by simp [dk,h]
theorem pE {b i:Nat} (h:U b=some (.slot i)):dk U b=none:=by simp [dk,h]
theorem y1 {b:Nat} {l:aH} (h:U b=some l) (ao:∀ i,l≠.slot i):dk U b=some l:=by
 cases l <;> first | (simp only [dk,h];done) | exact absurd rfl (ao _)
theorem y2 {b:Nat} {l:aH} (h:dk U b=some l):U b=some l∧∀ i,l≠.slot i:=by
 unfold dk at h;split at h
 ·simp at h
 ·rename_i aN;exact ⟨h,fun i e=>by subst e;exact aN i h⟩
theorem C5 (b i:Nat):dk U b≠some (.slot i):=fun h=>(y2 h).2 i rfl
theorem B5 {bq:Nat→Option aH} {d:Option Nat} {b i:Nat} (h:U b=some (.slot i)) (a2:d≠some i):back U bq d b=some (.slot i):=by simp [back,h,a2]
theorem mq (ah:aK B U J S w H):aK B (dk U) J S w H:=by
 refine ⟨ah.cD,fun id o aq=>?_,ah.cc,fun b l ag=>ah.base b l (y2 ag).1,ah.cV⟩;refine (ah.obj id o aq).frame (Ext.refl J) (fun _ _ h=>⟨h,rfl⟩) fun b l ag ao=>⟨y1 ag ?_,rfl,fun _ h=>h⟩;rcases ao with rfl | ⟨j,rfl⟩ <;> simp
theorem Bw {us:List I} {vs:List Value} (h:a8 (fun i=>.arg i) U J S w us vs):a8 (fun i=>.arg i) (dk U) J S w us vs :=
 ⟨h.len,h.rel,fun i u v hu ae=>(h.own i u v hu ae).mono (Ext.refl J) (fun _ _ h=>⟨h,rfl⟩) fun b ag=>⟨y1 ag (by simp),rfl,fun _ h=>h⟩⟩
theorem Ae (a:Act) (d:Option Tmp) (v:Value):(a.put d v).tmps.toList=match d with | some d=>a.tmps.toList.set d v | none=>a.tmps.toList:=by
 cases d <;> simp [Act.put]
theorem put_defers (a:Act) (d:Option Tmp) (v:Value):(a.put d v).defers=a.defers:=by
 cases d <;> rfl
theorem z0 {T:List I} {a:Act} {H':List ar} {r:I} {v:Value} {w':World} (dst:Option Tmp) (aL:cv B N U J S w ⟨T,H⟩ a) {bq:Nat→Option aH} {cj:List Nat} {bK:Nat→Nat→Prop}
  (bJ:Ext J cj) (ek:bh (dk U) S w bq bK w') (cm:aK B bq cj bK w' H') (aj:Rel cj bK w' r v) (aq:aV bq cj bK w' .res r v) :
  bh U S w (back U bq dst) bK w'∧cv B N (back U bq dst) cj bK w' ⟨put T dst r,H'⟩ (a.put dst v):=by
 have ph:∀ b l,U b=some l→b<w.heap.size:=fun b l h=>(aL.H.base b l h).2;have kG:∀ b l,bq b=some l→∀ i,U b≠some (.slot i):=fun b l h i ai=>by
  rcases ek.own b (by simp [h]) with ad | ad
  ·exact ad (pE ai)
  ·have:=ph b _ ai;omega
 have yU:∀ b l,bq b=some l→back U bq dst b=match l with | .res=>dst.map .slot | .obj id=>some (.obj id) | .cell id j=>some (.cell id j) | _=>none:=fun b l h=>by
  unfold back;split
  ·rename_i i ai;exact absurd ai (kG b l h i)
  ·rw [h];cases l <;> rfl
 have aA:bh U S w (back U bq dst) bK w':=by
  refine ⟨ek.os,ek.tape,ek.output,ek.size,fun b ag aN=>ek.cC b ag (nE aN),ek.set,fun b o h=>?_,fun b h=>?_⟩
  ·rcases ek.fresh b o h with h | h | h
   ·exact .inl h
   ·exact .inr (.inl fun aN=>h (nE aN))
   ·exact .inr (.inr h)
  ·unfold back at h;split at h
   ·rename_i ai;exact .inl (by simp [ai])
   ·rcases ek.own b (fun aN=>by simp [aN] at h) with ad | ad
    ·exact .inl fun aN=>ad (nE aN)
    ·exact .inr ad
 refine ⟨aA,⟨?_,⟨cm.cD,fun id o aq=>?_,cm.cc,fun b l ag=>?_,cm.cV⟩,?_⟩⟩
 ·have fN:∀ (i:Nat) (u:I) (x:Value),dst≠some i→T[i]?=some u→a.tmps.toList[i]?=some x→Rel cj bK w' u x∧aV (back U bq dst) cj bK w' (.slot i) u x:=fun i u x a2 hu ak=>by
   refine ⟨(aL.T.rel i u x hu ak).mono bJ ek.set,(aL.T.own i u x hu ak).mono bJ ek.set fun b ag=>⟨B5 ag a2,ek.cC b (ph b _ ag) (pE ag),fun o h=>?_⟩⟩;rcases ek.fresh b o h with h | h | h
   ·exact h
   ·exact absurd (pE ag) h
   ·have:=ph b _ ag;omega
  cases dst with
  | none=>exact ⟨aL.T.len,fun i u x hu ak=>(fN i u x (by simp) hu ak).1,fun i u x hu ak=>(fN i u x (by simp) hu ak).2⟩
  | some d =>
    have hlen:=aL.T.len;have both:∀ (i:Nat) (u:I) (x:Value),(T.set d r)[i]?=some u→(a.tmps.toList.set d v)[i]?=some x→Rel cj bK w' u x∧aV (back U bq (some d)) cj bK w' (.slot i) u x:=fun i u x hu ak=>by
     by_cases aE:d=i
     ·subst aE;(have aS:d<T.length:=by have:=(sb.1 hu).1;simpa using this);(have mh:d<a.tmps.toList.length:=by have:=(sb.1 ak).1;simpa using this);rw [si aS] at hu;rw [si mh] at ak;cases hu;cases ak;exact ⟨aj,aq.mono (Ext.refl _) (fun _ _ h=>⟨h,rfl⟩) fun b ag=>⟨by rw [yU b _ ag];rfl,rfl,fun _ h=>h⟩⟩
     ·rw [sj aE] at hu ak;exact fN i u x (by simpa using aE) hu ak
    refine ⟨by simp [put,gR,Act.put,hlen],?_,?_⟩
    ·intro i u x hu ak;simp only [put,gR] at hu;rw [Ae] at ak;exact (both i u x hu ak).1
    ·intro i u x hu ak;simp only [put,gR] at hu;rw [Ae] at ak;exact (both i u x hu ak).2
 ·refine (cm.obj id o aq).frame (Ext.refl cj) (fun _ _ h=>⟨h,rfl⟩) fun b l ag ao=>⟨?_,rfl,fun _ h=>h⟩;rw [yU b l ag];rcases ao with rfl | ⟨j,rfl⟩ <;> rfl
 ·unfold back at ag;split at ag
  ·rename_i i ai;have:=aL.H.base b _ ai;exact ⟨this.1,u7 this.2 ek.size⟩
  ·cases af:bq b with
   | none=>simp [af] at ag
   | some l'=>exact cm.base b l' af
 ·rw [put_defers];exact aL.M.aA aA
theorem n' {T:List I} {a:Act} {H':List ar} {r:I} {v:Value} {w':World} (dst:Option Tmp) (aL:cv B N U J S w ⟨T,H⟩ a) (aB:a0 B (dk U) J S w H' r v w')
  (u:I) (hu:∀ bq cj bK,Rel cj bK w' r v→aV bq cj bK w' .res r v→Rel cj bK w' u v) :
  ∃ az bU S',Ext J bU∧bh U S w az S' w'∧cv B N az bU S' w' ⟨put T dst r,H'⟩ (a.put dst v)∧Rel bU S' w' u v:=by
 obtain ⟨bq,cj,bK,bJ,ek,cm,aj,aq⟩:=aB;obtain ⟨ad,af⟩:=z0 dst aL bJ ek cm aj aq;exact ⟨_,cj,bK,bJ,ad,af,hu bq cj bK aj aq⟩
theorem Step.trans {b4:Nat→Option aH} {c0:List Nat} {a7:Nat→Nat→Prop} {bG:World} (bJ:Ext J c0) (aA:bh U S w b4 a7 bG) {aF:a6} {aM:Act} {w':World} (h:Step B N b4 c0 a7 bG aF aM w') :
  Step B N U J S w aF aM w' :=
 let ⟨az,bU,S',aJ,aQ,cn⟩:=h
 ⟨az,bU,S',bJ.trans aJ,aA.trans aQ,cn⟩
theorem a8.swap {bA:Nat→aH} {T:List I} {bg:List Value} (h:a8 bA U J S w T bg) (t:Nat) {u:I} (hu:u.plain=true) (aj:∀ v,bg[t]?=some v→Rel J S w u v):a8 bA U J S w (T.set t u) bg:=by
 refine ⟨by simpa using h.len,fun i x v ak ae=>?_,fun i x v ak ae=>?_⟩
 ·by_cases hi:t=i
  ·subst hi;(have aS:t<T.length:=by have:=(sb.1 ak).1;simpa using this);rw [si aS] at ak;cases ak;exact aj v ae
  ·rw [sj hi] at ak;exact h.rel i x v ak ae
 ·by_cases hi:t=i
  ·subst hi;(have aS:t<T.length:=by have:=(sb.1 ak).1;simpa using this);rw [si aS] at ak;cases ak;exact aV.b3 hu
  ·rw [sj hi] at ak;exact h.own i x v ak ae
end
end Go.Proofs.YtfakoboiahbhaaaGreat.Ab


namespace Go.Proofs.YtfakoboiahbhaaaGreat.Ab
open Go
section
variable {P:Program} {B N:Nat} {J:List Nat} {w:World} {H:List ar} {U:Nat→Option aH} {S:Nat→Nat→Prop}
theorem Rel.narrow {cj:List Nat} {bK:Nat→Nat→Prop} {bX:World} (bJ:Ext J cj) {u:I} {v v2:Value} (h:Rel J S w u v) (af:Rel cj bK bX u v2):Rel J bK bX u v2:=by
 induction h generalizing v2 with
 | junk v=>exact .junk v2
 | bool b=>cases af;exact .bool b
 | dt b=>cases af;exact .dt _
 | int k n=>cases af;exact .int k n
 | str s=>cases af;exact .str s
 | eG=>cases af;exact .eG
 | ptr id off b h =>
   cases af with
   | ptr _ _ cH k=>rw [bJ _ _ h] at k;cases k;exact .ptr id off b h
 | ck id gid len z b cap h aO hle =>
   cases af with
   | ck _ _ _ _ cH oV k zw _ =>
     rw [bJ _ _ h] at k;cases k;rw [bJ _ _ aO] at zw;cases zw;exact .ck id gid len z b cap h aO hle
 | bT cells b o f h aj a9 =>
   cases af with
   | bT _ b o f k eU=>exact .bT cells b o f k fun j u aw=>a9 j u aw (eU j u aw)
 | b1 c a =>
   cases af with
   | b1 c a=>exact .b1 c a
   | ax _ _ _ b o cap f al hle hu k eU=>exact .ax [] 0 c b o cap f al hle hu k fun j u aw=>by simp at aw
   | cJ _ _ z b o cap=>exact .cJ _ _ z b o cap
 | ax cells len c b o cap f al hle hu h aj a9 =>
   cases af with
   | b1 c a=>exact .b1 c a
   | ax _ _ _ b o cap f al hle hu k eU=>exact .ax cells len c b o cap f al hle hu k fun j u aw=>a9 j u aw (eU j u aw)
   | cJ _ _ z b o cap=>exact .cJ _ _ z b o cap
 | raw cells len z b o cap =>
   cases af with
   | raw _ _ _ b o cap=>exact .raw _ _ z b o cap
 | cJ cells len z b o cap =>
   cases af with
   | b1 c a=>exact .b1 _ _
   | ax _ _ _ b o cap f al hle hu k eU=>exact absurd rfl (hu z)
   | cJ _ _ z b o cap=>exact .cJ _ _ z b o cap
 | ref id off len c sz b cap h al hle =>
   cases af with
   | ref _ _ _ _ _ cH oV k DO DR=>rw [bJ _ _ h] at k;cases k;exact .ref id off len c sz b oV h DO DR
 | func f as bs vs ws ad GL bR bY r1 r2 i1 i2 =>
   cases af with
   | func _ _ _ eW Gv aJ aQ _ _ q1 aW =>
     refine .func f as bs eW Gv aJ aQ bR bY (fun j u v hu ae=>?_) (fun j u v hu ae=>?_)
     ·(have aw:j<vs.size:=by have:=(sb.1 hu).1;omega);exact i1 j u vs[j] hu (sA aw) (q1 j u v hu ae)
     ·(have aw:j<ws.size:=by have:=(sb.1 hu).1;omega);exact i2 j u ws[j] hu (sA aw) (aW j u v hu ae)
 | yield id b h =>
   cases af with
   | yield _ cH k=>rw [bJ _ _ h] at k;cases k;exact .yield id b h
 | map id b h =>
   cases af with
   | map _ cH k=>rw [bJ _ _ h] at k;cases k;exact .map id b h
 | agg as vs h p one r a9 =>
   cases af with
   | agg _ eW k _ xw q =>
     refine .agg as eW k p xw fun j u v hu ae=>?_;(have aw:j<vs.size:=by have:=(sb.1 hu).1;omega);exact a9 j u vs[j] hu (sA aw) (q j u v hu ae)
 | tuple as vs h p r a9 =>
   cases af with
   | tuple _ eW k _ q =>
     refine .tuple as eW k p fun j u v hu ae=>?_;(have aw:j<vs.size:=by have:=(sb.1 hu).1;omega);exact a9 j u vs[j] hu (sA aw) (q j u v hu ae)
 | cY as c n z bs vs h la lb one oc ro od kQ io xg =>
   cases af with
   | cY _ _ _ _ _ eW k _ _ xw EK EM EL =>
     refine .cY as c n z bs eW k la lb xw (fun j u v hu ae=>?_) (fun v ae=>?_) (fun j u v hu ae=>?_)
     ·(have aw:j<vs.size:=by have:=(sb.1 hu).1;omega);exact kQ j u vs[j] hu (sA aw) (EK j u v hu ae)
     ·(have aw:as.length<vs.size:=by omega);exact io vs[as.length] (sA aw) (EM v ae)
     ·(have aw:as.length+1+j<vs.size:=by have:=(sb.1 hu).1;omega);exact xg j u vs[as.length+1+j] hu (sA aw) (EL j u v hu ae)
theorem jY {f:I→Option I}:∀ {xs ys:List I},d' f xs=some ys→ys.length=xs.length∧∀ (j:Nat) (y:I),ys[j]?=some y→∃ x,xs[j]?=some x∧f x=some y
 | [],ys,h=>by simp [d'] at h;subst h;simp
 | x::xs,ys,h=>by
   simp only [d'] at h;split at h
   ·rename_i y aY;simp only [sa] at h;obtain ⟨ys,h,rfl⟩:=h;obtain ⟨ad,af⟩:=jY h;refine ⟨by simp [ad],fun j z bj=>?_⟩;cases j with
    | zero=>simp at bj;subst bj;exact ⟨x,rfl,aY⟩
    | succ j=>simpa using af j z (by simpa using bj)
   ·simp at h
theorem hZ {lo id0 n d:Nat} {u r:I} (h:bI H lo id0 n d u=some r):(u.plain=true→r.plain=true)∧(u.cQ=true→r.cQ=true):=by
 cases d with
 | zero=>simp [bI] at h
 | succ d =>
   unfold bI at h;split at h
   ·simp only [sa] at h;rename_i c;obtain ⟨cs,_,rfl⟩:=h;cases c <;> exact ⟨fun h=>h,fun h=>h⟩
   ·simp only [sa] at h;obtain ⟨cs,_,rfl⟩:=h;exact ⟨fun h=>rfl,fun h=>rfl⟩
   ·simp only [sa] at h;obtain ⟨cs,_,rfl⟩:=h;exact ⟨fun h=>rfl,fun h=>rfl⟩
   ·simp only [sa] at h;obtain ⟨cs,_,rfl⟩:=h;exact ⟨fun h=>rfl,fun h=>rfl⟩
   ·split at h <;> simp at h;subst h;exact ⟨fun h=>rfl,fun h=>rfl⟩
   ·split at h
    ·simp at h;subst h;exact ⟨fun h=>rfl,fun h=>rfl⟩
    ·split at h
     ·simp at h;subst h;exact ⟨fun h=>rfl,fun h=>rfl⟩
     ·split at h
      ·simp only [sa] at h;obtain ⟨cs,_,rfl⟩:=h;exact ⟨fun h=>rfl,fun h=>rfl⟩
      ·simp at h
   ·split at h
    ·simp at h;subst h;exact ⟨fun h=>rfl,fun h=>rfl⟩
    ·split at h
     ·simp at h;subst h;exact ⟨fun h=>rfl,fun h=>rfl⟩
     ·split at h
      ·simp only [sa] at h;obtain ⟨cs,_,rfl⟩:=h;rename_i cap _ _ _ _ _ _;constructor <;> intro _ <;> (unfold g0;split <;> (try split) <;> rfl)
      ·simp at h
   ·split at h <;> simp at h;subst h;exact ⟨fun h=>rfl,fun h=>rfl⟩
   ·split at h
    ·simp at h;subst h;exact ⟨fun h=>rfl,fun h=>rfl⟩
    ·split at h <;> simp at h;subst h;exact ⟨fun h=>rfl,fun h=>rfl⟩
   ·simp at h
   ·simp at h
   ·simp at h
   ·simp at h;subst h;exact ⟨fun h=>h,fun h=>h⟩
theorem Cp {cap:Option Nat} {n m:Nat} (al:∀ k,cap=some k→m=k) (h:g0 cap n=.full):m=n:=by
 unfold g0 at h;cases cap with
 | none=>simp at h
 | some c =>
   simp only at h;split at h
   ·rename_i CP;rw [al c rfl,CP]
   ·cases h
theorem yP {cap:Option Nat} {n:Nat} (z:Nat):g0 cap n≠.uniq z:=by
 unfold g0;cases cap with
 | none=>simp
 | some c=>simp only;split <;> simp
def gr (U:Nat→Option aH) (S:Nat→Nat→Prop) (w:World) (lo id0:Nat) (b o:Nat):Prop :=
 S b o∨((∃ id,lo≤id∧id≠id0∧U b=some (.obj id))∧∃ v,w.cell? ⟨b,o,none⟩=some v)
theorem l0 (ah:aK B U J S w H) {lo id0 n:Nat} {gn:List Nat} (bB:∀ (id b:Nat),id<lo→J[id]?=some b→gn[id]?=some b) (aN:∀ b,J[id0]?=some b→gn[n]?=some b) :
  ∀ (d:Nat) (u r:I) (v:Value),bI H lo id0 n d u=some r→Rel J S w u v→Rel gn (gr U S w lo id0) w r v:=by
 intro d
 induction d with
 | zero=>intro u r v h;simp [bI] at h
 | succ d a9 =>
   intro u r v h aj;have list:∀ {cells cs:List I} {b o:Nat} {f:Nat→Value},d' (bI H lo id0 n d) cells=some cs →
     (∀ (j:Nat) (u:I),cells[j]?=some u→S b (o+j)∧w.cell? ⟨b,o+j,none⟩=some (f j)∧u.plain=true∧(f j).oneCell'=true) →
     (∀ (j:Nat) (u:I),cells[j]?=some u→Rel J S w u (f j)) →
     (∀ (j:Nat) (u:I),cs[j]?=some u→gr U S w lo id0 b (o+j)∧w.cell? ⟨b,o+j,none⟩=some (f j)∧u.plain=true∧(f j).oneCell'=true) ∧
     (∀ (j:Nat) (u:I),cs[j]?=some u→Rel gn (gr U S w lo id0) w u (f j)):=fun hm al fr=>by
    obtain ⟨ad,af⟩:=jY hm;refine ⟨fun j y aY=>?_,fun j y aY=>?_⟩
    ·obtain ⟨x,ak,aP⟩:=af j y aY;obtain ⟨a_,ba,br,b8⟩:=al j x ak;exact ⟨.inl a_,ba,(hZ aP).1 br,b8⟩
    ·obtain ⟨x,ak,aP⟩:=af j y aY;exact a9 x y _ aP (fr j x ak)
   have arr:∀ {as bs:List I} {vs:Array Value},d' (bI H lo id0 n d) as=some bs→vs.size=as.length→(∀ u∈as,u.plain=true) →
     (∀ (j:Nat) (u:I) (v:Value),as[j]?=some u→vs[j]?=some v→Rel J S w u v) →
     vs.size=bs.length∧(∀ u∈bs,u.plain=true)∧∀ (j:Nat) (u:I) (v:Value),bs[j]?=some u→vs[j]?=some v→Rel gn (gr U S w lo id0) w u v:=fun hm ao aB fr=>by
    obtain ⟨ad,af⟩:=jY hm;refine ⟨by omega,fun y aY=>?_,fun j y v aY ae=>?_⟩
    ·obtain ⟨j,aw⟩:=tg.1 aY;obtain ⟨x,ak,aP⟩:=af j y aw;exact (hZ aP).1 (aB x (sH ak))
    ·obtain ⟨x,ak,aP⟩:=af j y aY;exact a9 x y v aP (fr j x v ak ae)
   cases aj with
   | junk v=>simp only [bI,Option.some.injEq] at h;subst h;exact .junk v
   | bool b=>simp only [bI,Option.some.injEq] at h;subst h;exact .bool b
   | dt b=>simp only [bI,Option.some.injEq] at h;subst h;exact .dt b
   | int k n=>simp only [bI,Option.some.injEq] at h;subst h;exact .int k n
   | str s=>simp only [bI,Option.some.injEq] at h;subst h;exact .str s
   | eG=>simp only [bI,Option.some.injEq] at h;subst h;exact .eG
   | raw=>simp [bI] at h
   | cY=>simp [bI] at h
   | ck=>simp [bI] at h
   | map id b k =>
     simp only [bI] at h;split at h
     ·rename_i aS;simp only [Option.some.injEq] at h;subst h;exact .map _ b (bB id b aS k)
     ·split at h
      ·rename_i heq;subst heq;simp only [Option.some.injEq] at h;subst h;exact .map _ b (aN b k)
      ·simp at h
   | yield id b k =>
     simp only [bI] at h;split at h
     ·rename_i aS;simp only [Option.some.injEq] at h;subst h;exact .yield _ b (bB id b aS k)
     ·simp at h
   | b1 c a =>
     simp only [bI,sa] at h;obtain ⟨cs,hm,rfl⟩:=h;simp [d'] at hm;subst hm;exact .b1 _ _
   | ax cells len c b o cap f al hle hu k eU =>
     simp only [bI,sa] at h;obtain ⟨cs,hm,rfl⟩:=h;obtain ⟨dI,kU⟩:=list hm k eU;exact .ax _ _ _ b o cap f al hle hu dI kU
   | cJ cells len z b o cap =>
     simp only [bI,sa] at h;obtain ⟨cs,hm,rfl⟩:=h;exact .cJ _ _ z b o cap
   | bT cells b o f k eU =>
     simp only [bI,sa] at h;obtain ⟨cs,hm,rfl⟩:=h;obtain ⟨dI,kU⟩:=list hm k eU;exact .bT _ b o f dI kU
   | agg as vs k p one q =>
     simp only [bI,sa] at h;obtain ⟨cs,hm,rfl⟩:=h;obtain ⟨aC,aI,aR⟩:=arr hm k p q;exact .agg _ vs aC aI one aR
   | tuple as vs k p q =>
     simp only [bI,sa] at h;obtain ⟨cs,hm,rfl⟩:=h;obtain ⟨aC,aI,aR⟩:=arr hm k p q;exact .tuple _ vs aC aI aR
   | func f as bs vs ws aJ aQ bR bY q1 aW =>
     simp only [bI] at h;split at h
     ·rename_i cb ag;simp only [Option.some.injEq] at h;subst h;obtain ⟨aC,aI,aR⟩:=arr cb aJ bR q1;obtain ⟨bp,cH,eB⟩:=arr ag aQ bY aW;exact .func f _ _ vs ws aC bp aI cH aR eB
     ·simp at h
   | ptr id off b k =>
     simp only [bI] at h;split at h
     ·rename_i aS;simp only [Option.some.injEq] at h;subst h;exact .ptr _ _ b (bB id b aS k)
     ·rename_i fe;split at h
      ·rename_i heq;subst heq;simp only [Option.some.injEq] at h;subst h;exact .ptr _ _ b (aN b k)
      ·rename_i bN;split at h
       ·rename_i l aE;simp only [sa] at h;obtain ⟨cs,hm,rfl⟩:=h;obtain ⟨au,cur,e,aC,aI,aR,bk,bc,bf⟩:=ah.obj id _ aE;rw [k] at aC;cases aC;obtain ⟨de,df⟩:=jY hm;(have bw:∀ o,o<cur.size→w.cell? ⟨b,o,none⟩=cur[o]?:=fun o aq=>by simp [World.cell?,aR,aq]);have facts:∀ (j:Nat) (y:I),cs[j]?=some y→∃ x c,off+j<cur.size∧cur[off+j]?=some c∧c.oneCell'=true∧x.plain=true∧bI H lo id0 n d x=some y∧Rel J S w x c:=fun j y aY=>by
         obtain ⟨x,ak,aP⟩:=df j y aY;have h2:=(sb.1 ak).1;simp at h2;(have fq:off+j<l.length:=by omega);(have ff:off+j<cur.size:=by omega);have ao:l[off+j]?=some l[off+j]:=sm fq;have ae:cur[off+j]?=some cur[off+j]:=sA ff;obtain ⟨a_,ba,br,b8⟩:=bf (off+j) _ _ ao ae;rw [ss,sZ,ao] at ak;simp at ak;subst ak;exact ⟨_,_,ff,ae,ba,I.dg _,aP,br.view a_⟩
        refine .bT cs b off (fun j=>cur.getD (off+j) undef) (fun j y aY=>?_) (fun j y aY=>?_)
        ·obtain ⟨x,c,aw,c4,ad,aB,aP,ef⟩:=facts j y aY;(have aO:cur.getD (off+j) undef=c:=by rw [sB,c4];rfl);rw [aO];exact ⟨.inr ⟨⟨id,by omega,bN,aI⟩,c,by rw [bw _ aw,c4]⟩,by rw [bw _ aw,c4],(hZ aP).1 aB,ad⟩
        ·obtain ⟨x,c,aw,c4,ad,aB,aP,ef⟩:=facts j y aY;(have aO:cur.getD (off+j) undef=c:=by rw [sB,c4];rfl);simp only [aO];exact a9 x y c aP ef
       ·simp at h
   | ref id off len cap sz b ej k al hle =>
     simp only [bI] at h;split at h
     ·rename_i aS;simp only [Option.some.injEq] at h;subst h;exact .ref _ _ _ _ _ b ej (bB id b aS k) al hle
     ·rename_i fe;split at h
      ·rename_i heq;subst heq;simp only [Option.some.injEq] at h;subst h;exact .ref _ _ _ _ _ b ej (aN b k) al hle
      ·rename_i bN;split at h
       ·rename_i row cP;simp only [sa] at h;obtain ⟨cs,hm,rfl⟩:=h;unfold rowOf at cP;simp only at cP;split at cP
        ·rename_i l aE;split at cP
         ·rename_i dF;simp only [Option.some.injEq] at cP;obtain ⟨au,cur,e,aC,aI,aR,bk,bc,bf⟩:=ah.obj id _ aE;rw [k] at aC;cases aC;obtain ⟨de,df⟩:=jY hm;(have bw:∀ o,o<cur.size→w.cell? ⟨b,o,none⟩=cur[o]?:=fun o aq=>by simp [World.cell?,aR,aq]);have facts:∀ (j:Nat) (y:I),cs[j]?=some y→∃ x c,off+j<cur.size∧cur[off+j]?=some c∧c.oneCell'=true∧x.plain=true∧bI H lo id0 n d x=some y∧Rel J S w x c:=fun j y aY=>by
           obtain ⟨x,ak,aP⟩:=df j y aY;subst cP;have h2:=(sb.1 ak).1;simp at h2;(have fq:off+j<l.length:=by omega);(have ff:off+j<cur.size:=by omega);have ao:l[off+j]?=some l[off+j]:=sm fq;have ae:cur[off+j]?=some cur[off+j]:=sA ff;obtain ⟨a_,ba,br,b8⟩:=bf (off+j) _ _ ao ae;rw [ss,sR,if_pos (by omega),sZ,ao] at ak;simp at ak;subst ak;exact ⟨_,_,ff,ae,ba,I.dg _,aP,br.view a_⟩
          refine .ax cs len _ b off ej (fun j=>cur.getD (off+j) undef) (fun CZ=>Cp al CZ) hle (fun z=>yP z) (fun j y aY=>?_) (fun j y aY=>?_)
          ·obtain ⟨x,c,aw,c4,ad,aB,aP,ef⟩:=facts j y aY;(have aO:cur.getD (off+j) undef=c:=by rw [sB,c4];rfl);rw [aO];exact ⟨.inr ⟨⟨id,by omega,bN,aI⟩,c,by rw [bw _ aw,c4]⟩,by rw [bw _ aw,c4],(hZ aP).1 aB,ad⟩
          ·obtain ⟨x,c,aw,c4,ad,aB,aP,ef⟩:=facts j y aY;(have aO:cur.getD (off+j) undef=c:=by rw [sB,c4];rfl);simp only [aO];exact a9 x y c aP ef
         ·simp at cP
        ·simp at cP
       ·simp at h
end
end Go.Proofs.YtfakoboiahbhaaaGreat.Ab


namespace Go.Proofs.YtfakoboiahbhaaaGreat.Ab
open Go
def fL (U:Nat→Option aH) (lo id0 n:Nat):Nat→Option aH:=fun b=>match U b with
 | some (.obj id)=>if id<lo then some (.obj id) else if id=id0 then some (.obj n) else none
 | some (.cell id j)=>if id<lo then some (.cell id j) else if id=id0 then some (.cell n j) else none
 | x=>x
section
variable {P:Program} {B N:Nat} {J:List Nat} {w:World} {H:List ar} {U:Nat→Option aH} {S:Nat→Nat→Prop}
theorem gu.narrow {bq m_:Nat→Option aH} {cj:List Nat} {bK jq:Nat→Nat→Prop} {bX:World} (bJ:Ext J cj) {id:Nat} {o:ar} (h:gu U J S w id o) (af:gu bq cj bK bX id o)
  (cl:∀ b o,bK b o→jq b o) (av:∀ b l,bq b=some l→(l=.obj id∨∃ j,l=.cell id j)→m_ b=some l∧∀ o,jq b o→bK b o):gu m_ J jq bX id o:=by
 cases o with
 | dead=>trivial
 | map es clock =>
   obtain ⟨b,bx,aC,aI,aR,bk,bc,bf⟩:=h;obtain ⟨cH,Ci,a_,ba,br,b8,dV,fW⟩:=af;rw [bJ _ _ aC] at a_;cases a_;obtain ⟨aJ,aQ⟩:=av b _ ba (.inl rfl);refine ⟨b,Ci,aC,aJ,br,b8,fun o aq=>dV o (aQ o aq),fun j i k v x hu ae=>?_⟩;(have aw:j<bx.size:=by have:=(sb.1 hu).1;omega);obtain ⟨bR,bY,ea,fO,mT⟩:=bf j i k v bx[j] hu (sA aw);obtain ⟨q1,aW,cx,dC,mX⟩:=fW j i k v x hu ae;exact ⟨q1,aW,(ea.narrow bJ cx).mono (Ext.refl J) (fun b o h=>⟨cl b o h,rfl⟩),dC,(mT.narrow bJ mX).mono (Ext.refl J) (fun b o h=>⟨cl b o h,rfl⟩)⟩
 | iter m s e t =>
   obtain ⟨b,eb,aC,aI,aR,bk,bc⟩:=h;obtain ⟨cH,GF,a_,ba,br,b8,dV⟩:=af;rw [bJ _ _ aC] at a_;cases a_;rw [bJ _ _ aR] at br;cases br;obtain ⟨aJ,aQ⟩:=av b _ ba (.inl rfl);exact ⟨b,eb,aC,aJ,aR,b8,fun o aq=>dV o (aQ o aq)⟩
 | cells l =>
   obtain ⟨b,cur,e,aC,aI,aR,bk,bc,bf⟩:=h;obtain ⟨cH,oZ,b',a_,ba,br,b8,dV,fW⟩:=af;rw [bJ _ _ aC] at a_;cases a_;obtain ⟨aJ,aQ⟩:=av b _ ba (.inl rfl);refine ⟨b,oZ,b',aC,aJ,br,b8,fun o aq=>dV o (aQ o aq),fun j u v hu ae=>?_⟩;(have aw:j<cur.size:=by have:=(sb.1 hu).1;omega);obtain ⟨bR,bY,ea,fO⟩:=bf j u cur[j] hu (sA aw);obtain ⟨q1,aW,cx,dC⟩:=fW j u v hu ae;refine ⟨q1,aW,(ea.narrow bJ cx).mono (Ext.refl J) (fun b o h=>⟨cl b o h,rfl⟩),?_⟩;have hm:=fun b ag=>av b (.cell id j) ag (.inr ⟨j,rfl⟩);unfold aV at dC ⊢;split at dC
   ·rcases dC with dC | ⟨ad,af,aG,a5,bL,bS,cI,cK,cM⟩
    ·exact .inl dC
    ·exact .inr ⟨(hm _ ad).1,af,aG,a5,bL,bS,cI,cK,fun o aq ai=>cM o aq ((hm _ ad).2 o ai)⟩
   ·simp [I.cQ] at q1
   ·obtain ⟨ad,aU,a5,bL,bS,cI,ai,⟨cur,e,cK,cM,di⟩,fo⟩:=dC;have g7:=ai;rw [sv] at g7;exact ⟨(hm _ ad).1,aU,a5,bL,bS,cI,ai,⟨cur,e,cK,cM,fun j u v hu ae=>⟨(di j u v hu ae).1,A4 (g7 u (sH hu)) (di j u v hu ae).2⟩⟩,fun o ai=>fo o ((hm _ ad).2 o ai)⟩
   ·exact fun v ae=>(dC v ae).mono fun b ag=>⟨(hm b ag).1,rfl,(hm b ag).2⟩
   ·trivial
 | grow l gid z =>
   obtain ⟨b,cur,e,aC,aI,aR,bk,bc,bf,cap,c9,dr⟩:=h;obtain ⟨cH,oZ,b',a_,ba,br,b8,dV,fW,oV,ni,nj⟩:=af;rw [bJ _ _ aC] at a_;cases a_;rw [bJ _ _ c9] at ni;cases ni;obtain ⟨aJ,aQ⟩:=av b _ ba (.inl rfl);refine ⟨b,oZ,b',aC,aJ,br,b8,fun o aq=>dV o (aQ o aq),fun j u v hu ae=>?_,cap,c9,nj⟩;(have aw:j<cur.size:=by have:=(sb.1 hu).1;omega);obtain ⟨bR,bY,ea,fO⟩:=bf j u cur[j] hu (sA aw);obtain ⟨q1,aW,cx,dC⟩:=fW j u v hu ae;refine ⟨q1,aW,(ea.narrow bJ cx).mono (Ext.refl J) (fun b o h=>⟨cl b o h,rfl⟩),?_⟩;have hm:=fun b ag=>av b (.cell id j) ag (.inr ⟨j,rfl⟩);unfold aV at dC ⊢;split at dC
   ·rcases dC with dC | ⟨ad,af,aG,a5,bL,bS,cI,cK,cM⟩
    ·exact .inl dC
    ·exact .inr ⟨(hm _ ad).1,af,aG,a5,bL,bS,cI,cK,fun o aq ai=>cM o aq ((hm _ ad).2 o ai)⟩
   ·simp [I.cQ] at q1
   ·obtain ⟨ad,aU,a5,bL,bS,cI,ai,⟨cur,e,cK,cM,di⟩,fo⟩:=dC;have g7:=ai;rw [sv] at g7;exact ⟨(hm _ ad).1,aU,a5,bL,bS,cI,ai,⟨cur,e,cK,cM,fun j u v hu ae=>⟨(di j u v hu ae).1,A4 (g7 u (sH hu)) (di j u v hu ae).2⟩⟩,fun o ai=>fo o ((hm _ ad).2 o ai)⟩
   ·exact fun v ae=>(dC v ae).mono fun b ag=>⟨(hm b ag).1,rfl,(hm b ag).2⟩
   ·trivial
 | loop st cE fn T params assign body jv =>
   obtain ⟨ak,aY,b,L,aC,aI,aR,bk,bc,bf,c9,dr,dS⟩:=h;obtain ⟨_,_,cH,jm,a_,ba,br,b8,dV,fW,ni,nj,B8⟩:=af;rw [bJ _ _ aC] at a_;cases a_;refine ⟨ak,aY,b,jm,aC,(av b _ ba (.inl rfl)).1,br,b8,dV,fW,ni,fun i u v hu ae=>?_,B8⟩;(have aw:i<L.tmps.size:=by have:=(sb.1 hu).1;omega);exact ⟨(nj i u v hu ae).1,(((dr i u L.tmps[i] hu (sA aw)).2).narrow bJ (nj i u v hu ae).2).mono (Ext.refl J) (fun b o h=>⟨cl b o h,rfl⟩)⟩
theorem nZ {lo id0 n b:Nat} {l:aH} (h:U b=some l) (ao:∀ id,(l=.obj id∨∃ j,l=.cell id j)→id<lo):fL U lo id0 n b=some l:=by
 unfold fL;rw [h];cases l with
 | obj id=>simp [ao id (.inl rfl)]
 | cell id j=>simp [ao id (.inr ⟨j,rfl⟩)]
 | _=>rfl
theorem D9 {lo id0 n b:Nat} (h:U b=none):fL U lo id0 n b=none:=by simp [fL,h]
theorem o8 {bq:Nat→Option aH} {cj:List Nat} {bK:Nat→Nat→Prop} {bX:World} {a3:List ar} (ah:aK B U J S w H) (bJ:Ext J cj) (aA:bh U S w bq bK bX) (cm:aK B bq cj bK bX a3)
  (h8:∀ id,id<H.length→a3[id]?=H[id]?) (id0 n:Nat) :
  bh U S w (fL bq H.length id0 n) (gr bq bK bX H.length id0) bX∧aK B (fL bq H.length id0 n) J (gr bq bK bX H.length id0) bX H:=by
 have aN:∀ b,fL bq H.length id0 n b≠none→bq b≠none:=fun b h aU=>h (D9 aU);refine ⟨⟨aA.os,aA.tape,aA.output,aA.size,aA.cC,fun b o h=>⟨.inl (aA.set b o h).1,(aA.set b o h).2⟩,fun b o h=>?_,fun b h=>aA.own b (aN b h)⟩,⟨ah.cD,fun id o aq=>?_,fun b o h=>?_,fun b l ag=>?_,cm.cV⟩⟩
 ·rcases h with h | ⟨⟨id,_,_,h⟩,_⟩
  ·exact aA.fresh b o h
  ·rcases aA.own b (by simp [h]) with ad | ad
   ·exact .inr (.inl ad)
   ·exact .inr (.inr ad)
 ·have aS:=(sb.1 aq).1;have pO:a3[id]?=some o:=by rw [h8 id aS];exact aq
  refine (ah.obj id o aq).narrow bJ (cm.obj id o pO) (fun b o h=>.inl h) fun b l ag ao=>⟨nZ ag fun bz c7=>?_,fun o h=>?_⟩
  ·have:bz=id:=by
    rcases ao with rfl | ⟨j,rfl⟩ <;> rcases c7 with h | ⟨zr,h⟩ <;> cases h <;> rfl
   omega
  ·rcases h with h | ⟨⟨bz,ad,_,h⟩,_⟩
   ·exact h
   ·rw [ag] at h;rcases ao with rfl | ⟨j,rfl⟩
    ·cases h;omega
    ·cases h
 ·rcases h with h | ⟨_,h⟩
  ·exact cm.cc b o h
  ·exact h
 ·cases h:bq b with
  | none=>simp [fL,h] at ag
  | some l'=>exact cm.base b l' h
theorem ku {cj gn:List Nat} {bX:World} {bq m_:Nat→Option aH} {bK jq:Nat→Nat→Prop} {l l':aH} (fg:∀ b,bq b=some l→m_ b=some l'∧∀ o,jq b o→bK b o) {a3:List ar} {lo id0 n d:Nat} {u r:I} {v:Value}
  (b0:∀ (d:Nat) (u r:I) (v:Value),bI a3 lo id0 n d u=some r→Rel cj bK bX u v→Rel gn jq bX r v)
  (h:bI a3 lo id0 n d u=some r) (aq:aV bq cj bK bX l u v):aV m_ gn jq bX l' r v:=by
 by_cases aB:u.plain=true
 ·exact aV.b3 ((hZ h).1 aB)
 ·cases d with
  | zero=>simp [bI] at h
  | succ d =>
    obtain ⟨cells,len,c,rfl⟩:∃ cells len c,u=.ax cells len c:=by
     cases u <;> first | exact ⟨_,_,_,rfl⟩ | exact absurd rfl aB | simp [bI] at h
    simp only [bI,sa] at h;obtain ⟨cs,hm,rfl⟩:=h;obtain ⟨de,df⟩:=jY hm;cases c with
    | shared=>exact absurd rfl aB
    | full=>exact absurd rfl aB
    | own z =>
      cases v with
      | slice aa m ej =>
       cases aa with
       | none=>trivial
       | some a =>
        simp only [aV] at aq ⊢;rcases aq with ⟨ad,af,aG⟩ | ⟨ad,af,aG,a5,bL,bS,cI,cK,cM⟩
        ·subst aG;simp [d'] at hm;subst hm;exact .inl ⟨ad,af,rfl⟩
        ·exact .inr ⟨(fg _ ad).1,af,aG,a5,bL,bS,by omega,cK,fun o aq ai=>cM o (by omega) ((fg _ ad).2 o ai)⟩
      | _=>trivial
    | uniq z =>
      cases v with
      | slice aa m ej =>
       cases aa with
       | none=>trivial
       | some a =>
        simp only [aV] at aq ⊢;rcases aq with ⟨ad,af,aG⟩ | ⟨ad,af,a5,bL,bS,cI,⟨cur,e,cK,cM,di⟩,fo⟩
        ·subst aG;simp [d'] at hm;subst hm;exact .inl ⟨ad,af,rfl⟩
        ·refine .inr ⟨(fg _ ad).1,af,a5,bL,bS,by omega,⟨cur,e,cK,cM,fun j y c aY al=>?_⟩,fun o ai=>fo o ((fg _ ad).2 o ai)⟩;obtain ⟨x,ak,aP⟩:=df j y aY;obtain ⟨q1,aW,cx⟩:=di j x c ak al;exact ⟨(hZ aP).1 q1,aW,b0 d x y c aP cx⟩
      | _=>trivial
theorem xz (ah:aK B U J S w H) {a3:List ar} {r v:I} {x:Value} {bX:World} (h8:∀ id,id<H.length→a3[id]?=H[id]?) {n d:Nat} (aP:bI a3 H.length a3.length n d r=some v)
  (aB:a0 B U J S w a3 r x bX):a0 B U J S w H v x bX:=by
 obtain ⟨bq,cj,bK,bJ,aA,cm,aj,aq⟩:=aB;obtain ⟨du,aG⟩:=o8 ah bJ aA cm h8 a3.length n
 have b0:=fun d u r v=>l0 (gn:=J) (id0:=a3.length) (n:=n) cm (lo:=H.length) (fun id b aS ag=>by
   (have h3:id<J.length:=by rw [ah.cD];exact aS);have ak:=sm h3;rw [bJ _ _ ak] at ag;cases ag;exact ak) (fun b ag=>by
   have:=(sb.1 ag).1;rw [cm.cD] at this;omega) d u r v
 refine ⟨_,J,_,Ext.refl J,du,aG,b0 d r v x aP aj,ku (l:=.res) (fun b ag=>⟨nZ ag (fun id h=>by rcases h with h | ⟨j,h⟩ <;> cases h),fun o h=>?_⟩) b0 aP aq⟩;rcases h with h | ⟨⟨id,_,_,h⟩,_⟩
 ·exact h
 ·rw [ag] at h;cases h
theorem EB (ah:aK B U J S w H) {a3:List ar} {r v:I} {x:Value} {bX:World} (h8:∀ id,id<H.length→a3[id]?=H[id]?) {id0 d gX:Nat} {l l':List I} (fe:H.length≤id0)
  (aE:a3[id0]?=some (.cells l)) (ao:d' (bI a3 H.length id0 H.length gX) l=some l') (aP:bI a3 H.length id0 H.length d r=some v)
  (aB:a0 B U J S w a3 r x bX):a0 B U J S w (H++[.cells l']) v x bX:=by
 obtain ⟨bq,cj,bK,bJ,aA,cm,aj,aq⟩:=aB;obtain ⟨du,aG⟩:=o8 ah bJ aA cm h8 id0 H.length;obtain ⟨dB,cur,e,aC,aI,aR,bk,bc,bf⟩:=cm.obj id0 _ aE;have mw:Ext J (J++[dB]):=Ext.append J [dB]
 have b0:=fun d u r v=>l0 (gn:=J++[dB]) (id0:=id0) (n:=H.length) cm (lo:=H.length) (fun id b aS ag=>by
   (have h3:id<J.length:=by rw [ah.cD];exact aS);have ak:=sm h3;rw [bJ _ _ ak] at ag;cases ag;exact mw _ _ ak) (fun b ag=>by
   rw [aC] at ag;cases ag;exact Ext.last ah dB) d u r v
 obtain ⟨de,df⟩:=jY ao;have pC:∀ id,(aH.obj id0≠.obj id)∨id=id0:=fun id=>by
  by_cases h:id=id0
  ·exact .inr h
  ·exact .inl fun e=>h (by cases e;rfl)
 have kD:∀ b,bq b=some (.obj id0)→fL bq H.length id0 H.length b=some (.obj H.length):=fun b ag=>by
  simp only [fL,ag];simp;omega
 have C':∀ b j,bq b=some (.cell id0 j)→fL bq H.length id0 H.length b=some (.cell H.length j):=fun b j ag=>by
  simp only [fL,ag];simp;omega
 have cl:∀ b l,bq b=some l→(∀ id,l≠.obj id∨id=id0)→∀ o,gr bq bK bX H.length id0 b o→bK b o:=fun b l ag bN o h=>by
  rcases h with h | ⟨⟨id,_,aN,h⟩,_⟩
  ·exact h
  ·rw [ag] at h;cases h;rcases bN id with h | h
   ·exact absurd rfl h
   ·exact absurd h aN
 refine ⟨_,J++[dB],_,mw,du,aG.push dB ⟨dB,cur,e,Ext.last ah dB,kD dB aI,aR,by omega,fun o h=>bc o (cl dB _ aI pC o h),fun j u c hu al=>?_⟩,
  b0 d r v x aP aj,ku (l:=.res) (fun b ag=>⟨nZ ag (fun id h=>by rcases h with h | ⟨j,h⟩ <;> cases h),cl b _ ag (fun id=>.inl (by simp))⟩) b0 aP aq⟩
 obtain ⟨y,aY,pB⟩:=df j u hu;obtain ⟨a_,ba,br,b8⟩:=bf j y c aY al;exact ⟨(hZ pB).2 a_,ba,b0 gX y u c pB br,ku (l:=.cell id0 j) (fun b ag=>⟨C' b j ag,cl b _ ag (fun id=>.inl (by simp))⟩) b0 pB b8⟩
theorem mapM_some {f:I→Option I}:∀ {xs ys:List (Nat×I×I)},mapM f xs=some ys→ys.length=xs.length∧∀ (j i:Nat) (k v:I),ys[j]?=some (i,k,v)→∃ dd v0,xs[j]?=some (i,dd,v0)∧f dd=some k∧f v0=some v
 | [],ys,h=>by simp [mapM] at h;subst h;simp
 | (i0,dd,v0)::xs,ys,h=>by
   simp only [mapM] at h;split at h
   ·rename_i aJ v1 av ae;simp only [sa] at h;obtain ⟨ys,h,rfl⟩:=h;obtain ⟨ad,af⟩:=mapM_some h;refine ⟨by simp [ad],fun j i k v aw=>?_⟩;cases j with
    | zero=>simp at aw;obtain ⟨rfl,rfl,rfl⟩:=aw;exact ⟨dd,v0,rfl,av,ae⟩
    | succ j=>simpa using af j i k v (by simpa using aw)
   ·simp at h
theorem EC (ah:aK B U J S w H) {a3:List ar} {r v:I} {x:Value} {bX:World} (h8:∀ id,id<H.length→a3[id]?=H[id]?) {id0 d gX:Nat} {es es':List (Nat×I×I)} {clock:Nat} (fe:H.length≤id0)
  (aE:a3[id0]?=some (.map es clock)) (ao:mapM (bI a3 H.length id0 H.length gX) es=some es') (aP:bI a3 H.length id0 H.length d r=some v)
  (aB:a0 B U J S w a3 r x bX):a0 B U J S w (H++[.map es' clock]) v x bX:=by
 obtain ⟨bq,cj,bK,bJ,aA,cm,aj,aq⟩:=aB;obtain ⟨du,aG⟩:=o8 ah bJ aA cm h8 id0 H.length;obtain ⟨dB,bx,aC,aI,aR,bk,bc,bf⟩:=cm.obj id0 _ aE;have mw:Ext J (J++[dB]):=Ext.append J [dB]
 have b0:=fun d u r v=>l0 (gn:=J++[dB]) (id0:=id0) (n:=H.length) cm (lo:=H.length) (fun id b aS ag=>by
   (have h3:id<J.length:=by rw [ah.cD];exact aS);have ak:=sm h3;rw [bJ _ _ ak] at ag;cases ag;exact mw _ _ ak) (fun b ag=>by
   rw [aC] at ag;cases ag;exact Ext.last ah dB) d u r v
 obtain ⟨de,df⟩:=mapM_some ao;have pC:∀ id,(aH.obj id0≠.obj id)∨id=id0:=fun id=>by
  by_cases h:id=id0
  ·exact .inr h
  ·exact .inl fun e=>h (by cases e;rfl)
 have kD:∀ b,bq b=some (.obj id0)→fL bq H.length id0 H.length b=some (.obj H.length):=fun b ag=>by
  simp only [fL,ag];simp;omega
 have cl:∀ b l,bq b=some l→(∀ id,l≠.obj id∨id=id0)→∀ o,gr bq bK bX H.length id0 b o→bK b o:=fun b l ag bN o h=>by
  rcases h with h | ⟨⟨id,_,aN,h⟩,_⟩
  ·exact h
  ·rw [ag] at h;cases h;rcases bN id with h | h
   ·exact absurd rfl h
   ·exact absurd h aN
 refine ⟨_,J++[dB],_,mw,du,aG.push dB ⟨dB,bx,Ext.last ah dB,kD dB aI,aR,by omega,fun o h=>bc o (cl dB _ aI pC o h),fun j i k v c hu al=>?_⟩,
  b0 d r v x aP aj,ku (l:=.res) (fun b ag=>⟨nZ ag (fun id h=>by rcases h with h | ⟨j,h⟩ <;> cases h),cl b _ ag (fun id=>.inl (by simp))⟩) b0 aP aq⟩
 obtain ⟨dd,v0,aY,yZ,kB⟩:=df j i k v hu;obtain ⟨a_,ba,br,b8,dV⟩:=bf j i dd v0 c aY al;exact ⟨a_,(hZ yZ).1 ba,b0 gX dd k _ yZ br,(hZ kB).1 b8,b0 gX v0 v _ kB dV⟩
theorem yz {u:I} (h:u.plain=true):u.gY.plain=true:=by
 unfold I.gY;split
 ·rfl
 ·exact h
theorem Cg {u:I} (h:u.plain=true):u.cq.plain=true:=by
 unfold I.cq;split <;> first | rfl | exact h
theorem Rel.gY {u:I} {v:Value} (h:Rel J S w u v):Rel J S w u.gY v:=by
 unfold I.gY;split
 ·rename_i c n;cases h with
  | b1 _ a=>exact .b1 _ a
  | ax _ _ _ b o cap f al hle hu k eU=>exact .ax _ _ _ b o cap f (by simp) hle (by simp) k eU
 ·exact h
theorem Rel.cq {u:I} {v:Value} (h:Rel J S w u v):Rel J S w u.cq v:=by
 unfold I.cq;split
 ·rename_i c n;cases h with
  | b1 _ a=>exact .b1 _ a
  | ax _ _ _ b o cap f al hle hu k eU=>exact .ax _ _ _ b o cap f (by simp) hle (by simp) k eU
 ·cases h with
  | agg as vs l p one r =>
    refine .agg _ vs (by simpa using l) (fun u hu=>?_) one fun j u v hu ae=>?_
    ·obtain ⟨x,ak,rfl⟩:=sk.1 hu;exact yz (p x ak)
    ·rw [ss] at hu;simp only [sa] at hu;obtain ⟨x,ak,rfl⟩:=hu;exact (r j x v ak ae).gY
 ·cases h with
  | tuple as vs l p r =>
    refine .tuple _ vs (by simpa using l) (fun u hu=>?_) fun j u v hu ae=>?_
    ·obtain ⟨x,ak,rfl⟩:=sk.1 hu;exact yz (p x ak)
    ·rw [ss] at hu;simp only [sa] at hu;obtain ⟨x,ak,rfl⟩:=hu;exact (r j x v ak ae).gY
 ·exact h
theorem aV.cq {l:aH} {u:I} {v:Value} (h:aV U J S w l u v):aV U J S w l u.cq v:=by
 by_cases aB:u.plain=true
 ·exact aV.b3 (Cg aB)
 ·have:u.cq=u:=by
   cases u <;> first | exact absurd rfl aB | skip
   ·rename_i c n k;cases k <;> first | rfl | exact absurd rfl aB
   ·rfl
   ·rfl
   ·rfl
  rw [this];exact h
theorem a8.cq {bA:Nat→aH} {T:List I} {bg:List Value} (h:a8 bA U J S w T bg):a8 bA U J S w (T.map I.cq) bg :=
 ⟨by simpa using h.len,fun i u v hu ae=>by
  rw [ss] at hu;simp only [sa] at hu;obtain ⟨x,ak,rfl⟩:=hu;exact (h.rel i x v ak ae).cq,fun i u v hu ae=>by
  rw [ss] at hu;simp only [sa] at hu
  obtain ⟨x,ak,rfl⟩:=hu;exact (h.own i x v ak ae).cq⟩
theorem a0.cq {H':List ar} {r:I} {v:Value} {w':World} (h:a0 B U J S w H' r v w'):a0 B U J S w H' r.cq v w':=by
 obtain ⟨bq,cj,bK,a,b,c,d,e⟩:=h;exact ⟨bq,cj,bK,a,b,c,d.cq,e.cq⟩
theorem Rel.pure (bU:List Nat) {u:I} {v:Value} (h:Rel J S w u v):∀ {d:Nat},ch d u=true→Rel bU S w u v:=by
 have all:∀ {d:Nat} {l:List I},l.all (ch d)=true→∀ {j:Nat} {u:I},l[j]?=some u→ch d u=true:=fun h j u hu=>by
  rw [sv] at h;exact h u (sH hu)
 induction h with
 | junk v=>intro d h;cases d <;> simp [ch] at h
 | bool b=>intros;exact .bool b
 | dt b=>intros;exact .dt b
 | int k n=>intros;exact .int k n
 | str s=>intros;exact .str s
 | eG=>intros;exact .eG
 | ptr id off b k=>intro d h;cases d <;> simp [ch] at h
 | bT cells b o f k eU a9 =>
   intro d h;cases d with
   | zero=>simp [ch] at h
   | succ d=>simp only [ch] at h;exact .bT cells b o f k fun j u aw=>a9 j u aw (all h aw)
 | b1 c a=>intros;exact .b1 c a
 | ax cells len c b o cap f al hle hu k eU a9 =>
   intro d h;cases d with
   | zero=>simp [ch] at h
   | succ d=>simp only [ch] at h;exact .ax cells len c b o cap f al hle hu k fun j u aw=>a9 j u aw (all h aw)
 | cJ cells len z b o cap=>intros;exact .cJ cells len z b o cap
 | raw=>intro d h;cases d <;> simp [ch] at h
 | cY=>intro d h;cases d <;> simp [ch] at h
 | ck=>intro d h;cases d <;> simp [ch] at h
 | ref id off len c sz b cap k al hle=>intro d h;cases d <;> simp [ch] at h
 | func f as bs vs ws ad af bR bY r1 r2 i1 i2 =>
   intro d h;cases d with
   | zero=>simp [ch] at h
   | succ d =>
     simp only [ch,sx] at h;exact .func f as bs vs ws ad af bR bY (fun j u v hu ae=>i1 j u v hu ae (all h.1 hu)) (fun j u v hu ae=>i2 j u v hu ae (all h.2 hu))
 | yield id b k=>intro d h;cases d <;> simp [ch] at h
 | map id b k=>intro d h;cases d <;> simp [ch] at h
 | agg as vs k p one r a9 =>
   intro d h;cases d with
   | zero=>simp [ch] at h
   | succ d=>simp only [ch] at h;exact .agg as vs k p one fun j u v hu ae=>a9 j u v hu ae (all h hu)
 | tuple as vs k p r a9 =>
   intro d h;cases d with
   | zero=>simp [ch] at h
   | succ d=>simp only [ch] at h;exact .tuple as vs k p fun j u v hu ae=>a9 j u v hu ae (all h hu)
def dT (U:Nat→Option aH):Nat→Option aH:=fun b=>match U b with
 | some (.arg i)=>some (.arg i)
 | _=>none
theorem yn {b i:Nat} (h:U b=some (.arg i)):dT U b=some (.arg i):=by simp [dT,h]
theorem lK {b:Nat} {l:aH} (h:dT U b=some l):∃ i,U b=some (.arg i)∧l=.arg i:=by
 unfold dT at h;split at h
 ·rename_i i hi;cases h;exact ⟨i,hi,rfl⟩
 ·cases h
theorem aV.pure (bU:List Nat) {i:Nat} {u:I} {v:Value} {d:Nat} (aB:ch d u=true) (h:aV U J S w (.arg i) u v):aV (dT U) bU S w (.arg i) u v:=by
 unfold aV at h ⊢;split at h
 ·rcases h with h | ⟨ad,h⟩
  ·exact .inl h
  ·exact .inr ⟨yn ad,h⟩
 ·rename_i cells len z a n cap;cases d with
  | zero=>simp [ch] at aB
  | succ d =>
    simp only [ch] at aB;rcases h with h | ⟨ad,af,aG,a5,bL,bS,⟨cur,e,cI,cK,cM⟩,di⟩
    ·exact .inl h
    ·refine .inr ⟨yn ad,af,aG,a5,bL,bS,⟨cur,e,cI,cK,fun j u v hu ae=>?_⟩,di⟩;obtain ⟨bR,bY,ea⟩:=cM j u v hu ae;rw [sv] at aB;exact ⟨bR,bY,ea.pure bU (aB u (sH hu))⟩
 ·cases d <;> simp [ch] at aB
 ·cases d <;> simp [ch] at aB
 ·trivial
theorem a8.pure {T:List I} {bg:List Value} (h:a8 (fun i=>.arg i) U J S w T bg) (aB:T.all (ch 8)=true):a8 (fun i=>.arg i) (dT U) [] S w T bg:=by
 rw [sv] at aB;exact ⟨h.len,fun i u v hu ae=>(h.rel i u v hu ae).pure [] (aB u (sH hu)),fun i u v hu ae=>(h.own i u v hu ae).pure [] (aB u (sH hu))⟩
theorem ze (ah:aK B U J S w H):aK B (dT U) [] S w [] :=
 ⟨rfl,fun id o h=>by simp at h,ah.cc,fun b l ag=>by obtain ⟨i,h,_⟩:=lK ag;exact ah.base b _ h,ah.cV⟩
theorem z9 (ah:aK B U J S w H) {a3:List ar} {r v:I} {x:Value} {bX:World} {n d:Nat} (aP:bI a3 0 a3.length n d r=some v)
  (aB:a0 B (dT U) [] S w a3 r x bX):a0 B U J S w H v x bX:=by
 classical
 obtain ⟨bq,cj,bK,bJ,aA,cm,aj,aq⟩:=aB
 let az:Nat→Option aH:=fun b=>match U b with
  | some (.obj id)=>some (.obj id)
  | some (.cell id j)=>some (.cell id j)
  | _=>match bq b with
    | some (.obj _)=>none
    | some (.cell _ _)=>none
    | l=>l
 have jS:∀ b l,U b=some l→((∃ id,l=.obj id)∨∃ id j,l=.cell id j)→az b=some l∧bq b=none∧b<w.heap.size:=fun b l ag ao=>by
  have aS:=(ah.base b l ag).2;have af:bq b=none:=by
   cases h:bq b with
   | none=>rfl
   | some l' =>
     rcases aA.own b (by simp [h]) with ad | ad
     ·exfalso;apply ad;rcases ao with ⟨id,rfl⟩ | ⟨id,j,rfl⟩ <;> simp [dT,ag]
     ·omega
  refine ⟨?_,af,aS⟩;rcases ao with ⟨id,rfl⟩ | ⟨id,j,rfl⟩ <;> simp [az,ag]
 have pU:∀ b,az b≠none→U b≠none∨bq b≠none:=fun b h=>by
  by_cases ad:U b=none
  ·right;intro af;apply h;simp [az,ad,af]
  ·exact .inl ad
 have cb:∀ b,dT U b≠none→U b≠none:=fun b h aU=>h (by simp [dT,aU]);have pc:∀ b o,gr bq bK bX 0 a3.length b o→S b o∨U b≠none∨w.heap.size≤b:=fun b o h=>by
  rcases h with h | ⟨⟨id,_,_,h⟩,_⟩
  ·rcases aA.fresh b o h with h | h | h
   ·exact .inl h
   ·exact .inr (.inl (cb b h))
   ·exact .inr (.inr h)
  ·rcases aA.own b (by simp [h]) with ad | ad
   ·exact .inr (.inl (cb b ad))
   ·exact .inr (.inr ad)
 have lV:bh U S w az (gr bq bK bX 0 a3.length) bX :=
  ⟨aA.os,aA.tape,aA.output,aA.size,fun b ag aN=>aA.cC b ag (by simp [dT,aN]),fun b o h=>⟨.inl (aA.set b o h).1,(aA.set b o h).2⟩,pc,fun b h=>by
   rcases pU b h with h | h
   ·exact .inl h
   ·rcases aA.own b h with h | h
    ·exact .inl (cb b h)
    ·exact .inr h⟩
 have b0:=fun d u r v=>l0 (gn:=J) (id0:=a3.length) (n:=n) cm (lo:=0) (fun id b aS ag=>by omega) (fun b ag=>by
   have:=(sb.1 ag).1;rw [cm.cD] at this;omega) d u r v
 refine ⟨az,J,_,Ext.refl J,lV,ah.frame lV (fun b l ag ao=>?_) (fun b o h=>?_) (fun b l ag=>?_),b0 d r v x aP aj,ku (l:=.res) (fun b ag=>?_) b0 aP aq⟩
 ·obtain ⟨ad,af,aG⟩:=jS b l ag ao;have aN:dT U b=none:=by rcases ao with ⟨id,rfl⟩ | ⟨id,j,rfl⟩ <;> simp [dT,ag]
  refine ⟨ad,aA.cC b aG aN,fun o h=>?_⟩;rcases h with h | ⟨⟨id,_,_,h⟩,_⟩
  ·rcases aA.fresh b o h with h | h | h
   ·exact h
   ·exact absurd aN h
   ·omega
  ·rw [af] at h;cases h
 ·rcases h with h | ⟨_,h⟩
  ·exact cm.cc b o h
  ·exact h
 ·by_cases h:U b=none
  ·(have bt:bq b≠none:=fun af=>by simp [az,h,af] at ag);cases af:bq b with
   | none=>exact absurd af bt
   | some l'=>exact cm.base b l' af
  ·cases ad:U b with
   | none=>exact absurd ad h
   | some l'=>obtain ⟨p,q⟩:=ah.base b l' ad;exact ⟨p,u7 q aA.size⟩
 ·refine ⟨?_,fun o h=>?_⟩
  ·cases ad:U b with
   | none=>simp [az,ad,ag]
   | some l =>
     cases l with
     | obj id=>have:=(jS b _ ad (.inl ⟨id,rfl⟩)).2.1;rw [ag] at this;cases this
     | cell id j=>have:=(jS b _ ad (.inr ⟨id,j,rfl⟩)).2.1;rw [ag] at this;cases this
     | _=>simp [az,ad,ag]
  ·rcases h with h | ⟨⟨id,_,_,h⟩,_⟩
   ·exact h
   ·rw [ag] at h;cases h
def fV (U:Nat→Option aH) (S:Nat→Nat→Prop) (w:World):Nat→Nat→Prop:=fun b o=>S b o∨((∃ id,U b=some (.obj id))∧∃ v,w.cell? ⟨b,o,none⟩=some v)
theorem A5 {J bU:List Nat} {S S':Nat→Nat→Prop} {u:I} {v:Value} (h:gP u=true) (aj:Rel J S w u v):Rel bU S' w u v:=by
 cases aj <;> simp [gP] at h
 ·exact .bool _
 ·exact .int _ _
 ·exact .str _
theorem Fv {bU:List Nat} {S':Nat→Nat→Prop} {u:I} {v:Value} (h:fw u=true) (aj:Rel J S w u v):Rel bU S' w u v:=by
 cases aj with
 | bool b=>exact .bool b
 | dt b=>simp [fw] at h
 | cY=>simp [fw] at h
 | int k n=>exact .int k n
 | str s=>exact .str s
 | tuple as vs k p q =>
   simp only [fw,sv] at h;exact .tuple as vs k p fun j u v hu ae=>A5 (h u (sH hu)) (q j u v hu ae)
 | cJ cells len z b o cap=>exact .cJ _ _ _ _ _ _
 | b1 c a =>
   exact .b1 _ _
 | ax cells len c b o cap f al hle hu k eU=>cases c <;> simp [fw] at h;exact absurd rfl (hu _)
 | _=>simp [fw] at h
theorem Fu {U az:Nat→Option aH} {bU:List Nat} {S S':Nat→Nat→Prop} {u:I} {v:Value} (h:fw u=true) (aq:aV U J S w .res u v) (fg:∀ b,U b=some .res→az b=some .res∧∀ o,S' b o→S b o):aV az bU S' w .res u v:=by
 unfold aV at aq ⊢;split at aq
 ·simp [fw] at h
 ·simp only [fw,sv] at h;rcases aq with aq | ⟨ad,aU,a5,bL,bS,cI,⟨cur,e,cK,cM,di⟩,fo⟩
  ·exact .inl aq
  ·obtain ⟨aJ,aQ⟩:=fg _ ad;exact .inr ⟨aJ,aU,a5,bL,bS,cI,⟨cur,e,cK,cM,fun j u v hu ae=>⟨(di j u v hu ae).1,(di j u v hu ae).2.1,A5 (h u (sH hu)) (di j u v hu ae).2.2⟩⟩,fun o ai=>fo o (aQ o ai)⟩
 ·simp [fw] at h
 ·simp [fw] at h
 ·trivial
theorem A_ {u:I} (h:u.plain=true):(kb H u).plain=true:=by
 unfold kb;split
 ·split <;> rfl
 ·exact h
theorem A' (ah:aK B U J S w H) {u:I} {v:Value} (aj:Rel J S w u v):Rel J (fV U S w) w (kb H u) v:=by
 have hm:Rel J (fV U S w) w u v:=aj.mono (Ext.refl J) fun b o h=>⟨.inl h,rfl⟩;cases aj <;> try exact hm
 case ref id off len cap sz b ej ag al hle =>
  unfold kb;simp only;split
  ·rename_i row cP;unfold rowOf at cP;simp only at cP;split at cP
   ·rename_i l aE;split at cP
    ·rename_i dF;simp only [Option.some.injEq] at cP;obtain ⟨au,cur,e,aC,aI,aR,bk,bc,bf⟩:=ah.obj id _ aE;rw [ag] at aC;cases aC;(have bw:∀ o,o<cur.size→w.cell? ⟨b,o,none⟩=cur[o]?:=fun o aq=>by simp [World.cell?,aR,aq]);have facts:∀ (j:Nat) (y:I),row[j]?=some y→∃ c,off+j<cur.size∧cur[off+j]?=some c∧c.oneCell'=true∧y.plain=true∧Rel J S w y c:=fun j y aY=>by
      subst cP;have h2:=(sb.1 aY).1;simp at h2;(have fq:off+j<l.length:=by omega);(have ff:off+j<cur.size:=by omega);have ao:l[off+j]?=some l[off+j]:=sm fq;have ae:cur[off+j]?=some cur[off+j]:=sA ff;obtain ⟨a_,ba,br,b8⟩:=bf (off+j) _ _ ao ae;rw [ss,sR,if_pos (by omega),sZ,ao] at aY;simp at aY;subst aY;exact ⟨_,ff,ae,ba,I.dg _,br.view a_⟩
     refine .ax row len .shared b off ej (fun j=>cur.getD (off+j) undef) (by simp) hle (by simp) (fun j y aY=>?_) (fun j y aY=>?_)
     ·obtain ⟨c,aw,c4,ad,aB,ef⟩:=facts j y aY;(have aO:cur.getD (off+j) undef=c:=by rw [sB,c4];rfl);rw [aO];exact ⟨.inr ⟨⟨id,aI⟩,c,by rw [bw _ aw,c4]⟩,by rw [bw _ aw,c4],aB,ad⟩
     ·obtain ⟨c,aw,c4,ad,aB,ef⟩:=facts j y aY;(have aO:cur.getD (off+j) undef=c:=by rw [sB,c4];rfl);simp only [aO];exact ef.mono (Ext.refl J) fun b o h=>⟨.inl h,rfl⟩
    ·cases cP
   ·cases cP
  ·exact hm
theorem x4 (ah:aK B U J S w H) {u:I} {v:Value} (aj:Rel J S w u v):Rel J (fV U S w) w (hN H u) v:=by
 have hm:Rel J (fV U S w) w u v:=aj.mono (Ext.refl J) fun b o h=>⟨.inl h,rfl⟩;have jB:=A' ah aj;cases aj <;> first | exact hm | exact jB | skip
 rename_i id off b ag;unfold hN;simp only;split
 ·rename_i l aE;obtain ⟨au,cur,e,aC,aI,aR,bk,bc,bf⟩:=ah.obj id _ aE;rw [ag] at aC;cases aC;have bw:∀ o,o<cur.size→w.cell? ⟨b,o,none⟩=cur[o]?:=fun o aq=>by simp [World.cell?,aR,aq]
  have facts:∀ (j:Nat) (y:I),(((l.drop off).map I.view).map (kb H))[j]?=some y→∃ c,off+j<cur.size∧cur[off+j]?=some c∧c.oneCell'=true∧y.plain=true∧Rel J (fV U S w) w y c:=fun j y aY=>by
   have h2:=(sb.1 aY).1;simp at h2;(have fq:off+j<l.length:=by omega);(have ff:off+j<cur.size:=by omega);have ao:l[off+j]?=some l[off+j]:=sm fq;have ae:cur[off+j]?=some cur[off+j]:=sA ff;obtain ⟨a_,ba,br,b8⟩:=bf (off+j) _ _ ao ae;rw [ss,ss,sZ,ao] at aY;simp at aY;subst aY;exact ⟨_,ff,ae,ba,A_ (I.dg _),A' ah (br.view a_)⟩
  refine .bT _ b off (fun j=>cur.getD (off+j) undef) (fun j y aY=>?_) (fun j y aY=>?_)
  ·obtain ⟨c,aw,c4,ad,aB,ef⟩:=facts j y aY;(have aO:cur.getD (off+j) undef=c:=by rw [sB,c4];rfl);rw [aO];exact ⟨.inr ⟨⟨id,aI⟩,c,by rw [bw _ aw,c4]⟩,by rw [bw _ aw,c4],aB,ad⟩
  ·obtain ⟨c,aw,c4,ad,aB,ef⟩:=facts j y aY;(have aO:cur.getD (off+j) undef=c:=by rw [sB,c4];rfl);simp only [aO];exact ef
 ·exact hm
theorem oz {u:I} (h:u.plain=true):(hN H u).plain=true:=by
 unfold hN;split
 ·split <;> rfl
 ·exact A_ rfl
 ·exact h
theorem FD (ah:aK B U J S w H) {u:I} {v:Value} (aj:Rel J S w u v):Rel J (fV U S w) w (im H u) v:=by
 have hm:Rel J (fV U S w) w u v:=aj.mono (Ext.refl J) fun b o h=>⟨.inl h,rfl⟩;have nK:=x4 ah aj;cases aj <;> try exact hm
 ·exact nK
 ·exact nK
 ·rename_i f as bs vs ws ad af bR bY r1 r2;refine .func f _ _ vs ws (by simpa using ad) (by simpa using af) (fun u hu=>?_) (fun u hu=>?_) (fun j u v hu ae=>?_) (fun j u v hu ae=>?_)
  ·obtain ⟨x,ak,rfl⟩:=sk.1 hu;exact oz (bR x ak)
  ·obtain ⟨x,ak,rfl⟩:=sk.1 hu;exact oz (bY x ak)
  ·rw [ss] at hu;simp only [sa] at hu;obtain ⟨x,ak,rfl⟩:=hu;exact x4 ah (r1 j x v ak ae)
  ·rw [ss] at hu;simp only [sa] at hu;obtain ⟨x,ak,rfl⟩:=hu;exact x4 ah (r2 j x v ak ae)
theorem FC {i:Nat} {u:I} {v:Value} (h:aV U J S w (.arg i) u v):aV U J (fV U S w) w (.arg i) (im H u) v:=by
 have cl:∀ b,U b=some (.arg i)→∀ o,fV U S w b o→S b o:=fun b ag o h=>by
  rcases h with h | ⟨⟨id,h⟩,_⟩
  ·exact h
  ·rw [ag] at h;cases h
 have hm:aV U J (fV U S w) w (.arg i) u v:=h.mono (Ext.refl J) (fun b o h=>⟨.inl h,rfl⟩) fun b ag=>⟨ag,rfl,cl b ag⟩;cases u <;> try exact hm
 ·rename_i id off;exact aV.b3 (show (hN H (.ptr id off)).plain=true from oz rfl)
 ·rename_i id off len cap sz;exact aV.b3 (show (hN H (.ref id off len cap sz)).plain=true from oz rfl)
theorem Gr (ah:aK B U J S w H) {T:List I} {bg:List Value} (h:a8 (fun i=>.arg i) U J S w T bg):a8 (fun i=>.arg i) U J (fV U S w) w (T.map (im H)) bg :=
 ⟨by simpa using h.len,fun i u v hu ae=>by
  rw [ss] at hu;simp only [sa] at hu;obtain ⟨x,ak,rfl⟩:=hu;exact FD ah (h.rel i x v ak ae),fun i u v hu ae=>by
  rw [ss] at hu;simp only [sa] at hu
  obtain ⟨x,ak,rfl⟩:=hu;exact FC (h.own i x v ak ae)⟩
theorem Dv (ah:aK B U J S w H):aK B (dT U) [] (fV U S w) w [] :=
 ⟨rfl,fun id o h=>by simp at h,fun b o h=>by
  rcases h with h | ⟨_,h⟩
  ·exact ah.cc b o h
  ·exact h,fun b l ag=>by obtain ⟨i,h,_⟩:=lK ag;exact ah.base b _ h,ah.cV⟩
theorem ED (ah:aK B U J S w H) {a3:List ar} {r v:I} {x:Value} {bX:World} {n d:Nat} (aP:bI a3 0 a3.length n d r=some v)
  (ai:fw v=true) (aB:a0 B (dT U) [] (fV U S w) w a3 r x bX):a0 B U J S w H v x bX:=by
 classical
 obtain ⟨bq,cj,bK,bJ,aA,cm,aj,aq⟩:=aB
 let az:Nat→Option aH:=fun b=>match U b with
  | some (.obj id)=>some (.obj id)
  | some (.cell id j)=>some (.cell id j)
  | _=>match bq b with
    | some (.obj _)=>none
    | some (.cell _ _)=>none
    | l=>l
 have jS:∀ b l,U b=some l→((∃ id,l=.obj id)∨∃ id j,l=.cell id j)→az b=some l∧bq b=none∧b<w.heap.size:=fun b l ag ao=>by
  have aS:=(ah.base b l ag).2;have af:bq b=none:=by
   cases h:bq b with
   | none=>rfl
   | some l' =>
     rcases aA.own b (by simp [h]) with ad | ad
     ·exfalso;apply ad;rcases ao with ⟨id,rfl⟩ | ⟨id,j,rfl⟩ <;> simp [dT,ag]
     ·omega
  refine ⟨?_,af,aS⟩;rcases ao with ⟨id,rfl⟩ | ⟨id,j,rfl⟩ <;> simp [az,ag]
 have pU:∀ b,az b≠none→U b≠none∨bq b≠none:=fun b h=>by
  by_cases ad:U b=none
  ·right;intro af;apply h;simp [az,ad,af]
  ·exact .inl ad
 have cb:∀ b,dT U b≠none→U b≠none:=fun b h aU=>h (by simp [dT,aU])
 let S':Nat→Nat→Prop:=fun b o=>S b o∨(gr bq bK bX 0 a3.length b o∧∀ id,U b≠some (.obj id))
 have pc:∀ b o,S' b o→S b o∨U b≠none∨w.heap.size≤b:=fun b o h=>by
  rcases h with h | ⟨h | ⟨⟨id,_,_,h⟩,_⟩,eS⟩
  ·exact .inl h
  ·rcases aA.fresh b o h with (h | ⟨⟨id,h⟩,_⟩) | h | h
   ·exact .inl h
   ·exact absurd h (eS id)
   ·exact .inr (.inl (cb b h))
   ·exact .inr (.inr h)
  ·rcases aA.own b (by simp [h]) with ad | ad
   ·exact .inr (.inl (cb b ad))
   ·exact .inr (.inr ad)
 have lV:bh U S w az S' bX :=
  ⟨aA.os,aA.tape,aA.output,aA.size,fun b ag aN=>aA.cC b ag (by simp [dT,aN]),fun b o h=>⟨.inl h,(aA.set b o (.inl h)).2⟩,pc,fun b h=>by
   rcases pU b h with h | h
   ·exact .inl h
   ·rcases aA.own b h with h | h
    ·exact .inl (cb b h)
    ·exact .inr h⟩
 have b0:=fun d u r v=>l0 (gn:=J) (id0:=a3.length) (n:=n) cm (lo:=0) (fun id b aS ag=>by omega) (fun b ag=>by
   have:=(sb.1 ag).1;rw [cm.cD] at this;omega) d u r v
 have Ds:=b0 d r v x aP aj
 have nI:aV (fun b=>match bq b with | some .res=>some .res | _=>none) J (gr bq bK bX 0 a3.length) bX .res v x:=ku (l:=.res) (fun b ag=>⟨by simp [ag],fun o h=>by
  rcases h with h | ⟨⟨id,_,_,h⟩,_⟩
  ·exact h
  ·rw [ag] at h;cases h⟩) b0 aP aq
 refine ⟨az,J,S',Ext.refl J,lV,ah.frame lV (fun b l ag ao=>?_) (fun b o h=>?_) (fun b l ag=>?_),Fv ai Ds,Fu ai nI fun b ag=>?_⟩
 ·obtain ⟨ad,af,aG⟩:=jS b l ag ao;have aN:dT U b=none:=by rcases ao with ⟨id,rfl⟩ | ⟨id,j,rfl⟩ <;> simp [dT,ag]
  refine ⟨ad,aA.cC b aG aN,fun o h=>?_⟩;rcases h with h | ⟨h | ⟨⟨id,_,_,h⟩,_⟩,eS⟩
  ·exact h
  ·rcases aA.fresh b o h with (h | ⟨⟨id,h⟩,_⟩) | h | h
   ·exact h
   ·exact absurd h (eS id)
   ·exact absurd aN h
   ·omega
  ·rw [af] at h;cases h
 ·rcases h with h | ⟨h | ⟨_,h⟩,_⟩
  ·obtain ⟨v,ae⟩:=ah.cc b o h;exact ⟨v,((aA.set b o (.inl h)).2).trans ae⟩
  ·exact cm.cc b o h
  ·exact h
 ·by_cases h:U b=none
  ·(have bt:bq b≠none:=fun af=>by simp [az,h,af] at ag);cases af:bq b with
   | none=>exact absurd af bt
   | some l'=>exact cm.base b l' af
  ·cases ad:U b with
   | none=>exact absurd ad h
   | some l'=>obtain ⟨p,q⟩:=ah.base b l' ad;exact ⟨p,u7 q aA.size⟩
 ·have gE:bq b=some .res:=by
   split at ag
   ·assumption
   ·cases ag
  refine ⟨?_,fun o h=>?_⟩
  ·cases ad:U b with
   | none=>simp [az,ad,gE]
   | some l =>
     cases l with
     | obj id=>have:=(jS b _ ad (.inl ⟨id,rfl⟩)).2.1;rw [gE] at this;cases this
     | cell id j=>have:=(jS b _ ad (.inr ⟨id,j,rfl⟩)).2.1;rw [gE] at this;cases this
     | _=>simp [az,ad,gE]
  ·rcases h with h | ⟨h,_⟩
   ·exact .inl ((aA.set b o (.inl h)).1)
   ·exact h
end
end Go.Proofs.YtfakoboiahbhaaaGreat.Ab


namespace Go.Proofs.YtfakoboiahbhaaaGreat.Ab
open Go
def bb (lo:Nat) (H H':List ar):Prop:=H.length≤H'.length∧∀ id,id<lo→id<H.length→H'[id]?=H[id]?
theorem bb.refl (lo:Nat) (H:List ar):bb lo H H:=⟨sd _,fun _ _ _=>rfl⟩
theorem bb.trans {lo:Nat} {H H1 a3:List ar} (h:bb lo H H1) (k:bb lo H1 a3):bb lo H a3 :=
 ⟨sL h.1 k.1,fun id ad af=>(k.2 id ad (u7 af h.1)).trans (h.2 id ad af)⟩
theorem bb.append (lo:Nat) (H X:List ar):bb lo H (H++X):=⟨by simp,fun id _ h=>sy h⟩
theorem bb.set {lo id:Nat} (H:List ar) (x:ar) (h:lo≤id):bb lo H (H.set id x):=⟨by simp,fun bz ad _=>sj (by omega)⟩
def fS (B:Nat) (U:Nat→Option aH) (J:List Nat) (S:Nat→Nat→Prop) (w:World) (H':List ar) (r:I):Ending→World→Prop
 | .returned v,w'=>a0 B U J S w H' r v w'
 | _,_=>False
def nc (U:Nat→Option aH):Prop:=∀ b i,U b≠some (.slot i)
def iY (L:Loop) (vs:List Value):Array Value:=(L.params.zip vs.toArray).foldl (fun tmps (x:Tmp×Value)=>tmps.setIfInBounds x.1 x.2) L.tmps
def jr (P:Program) (bZ:e_) (args:List I) (H H':List ar) (r:I):Prop :=
 match bZ with
 | .fn k => (∃ f, P.funcs[k]? = some f ∧ f.body.isSome = true ∧ f.name ≠ "runtime.NumGoroutine") ∧
   ∀ B U J S w vs,aK B U J S w H→nc U→a8 (fun i=>.arg i) U J S w args vs→CallsIn Fence.wide 0 P k vs.toArray w (fS B U J S w H' r)
 | .yield l=>∀ B U J S w vs b,aK B U J S w H→nc U→a8 (fun i=>.arg i) U J S w args vs→J[l]?=some b →
   ∃ L,w.heap[b]?=some (.loop L)∧vs.length=L.params.size∧RoundIn Fence.wide 0 P b L.fn (iY L vs) L.assign L.body w (fS B U J S w H' r)
structure da (P:Program) (C:b7):Prop where
 low:∀ {bZ args H lo r H'},C bZ args H lo=some (r,H')→bb lo H H'
 ok:∀ {bZ args H lo r H'},C bZ args H lo=some (r,H')→jr P bZ args H H' r
section
variable {P:Program} {B N:Nat} {J:List Nat} {w:World} {H:List ar} {U:Nat→Option aH} {S:Nat→Nat→Prop}
theorem fS.mono {H' H1:List ar} {r r':I} (h:∀ v w',a0 B U J S w H' r v w'→a0 B U J S w H1 r' v w') (e:Ending) (w':World) (k:fS B U J S w H' r e w'):fS B U J S w H1 r' e w':=by
 cases e with
 | returned v=>exact h v w' k
 | panicked c=>exact k
 | outgrown=>exact k
theorem jr.mono {bZ:e_} {args:List I} {H' H1:List ar} {r r':I} (k:jr P bZ args H H' r)
  (h:∀ B U J S w,aK B U J S w H→∀ v w',a0 B U J S w H' r v w'→a0 B U J S w H1 r' v w'):jr P bZ args H H1 r':=by
 cases bZ with
 | fn f =>
   exact ⟨k.1,fun B U J S w vs ah aN ae=>CallsIn.mono (k.2 B U J S w vs ah aN ae) (fS.mono (h B U J S w ah))⟩
 | yield l =>
   intro B U J S w vs b ah aN ae ag;obtain ⟨L,ad,af,aG⟩:=k B U J S w vs b ah aN ae ag;exact ⟨L,ad,af,RoundIn.mono aG (fS.mono (h B U J S w ah))⟩
theorem Cu (ah:aK B U J S w H) {id:Nat} {l:List I} (aE:H[id]?=some (.cells l)) {v:Value} (aj:Rel J S w (.ptr id 0) v) :
  ∃ az S',bh U S w az S' w∧aK B az J S' w (H.set id .dead)∧Rel J S' w (.bT (l.map I.view)) v:=by
 classical
 cases aj with
 | ptr _ _ b ag =>
   obtain ⟨au,cur,e,aC,aI,aR,bk,bc,bf⟩:=ah.obj id _ aE;rw [ag] at aC;cases aC
   let S':Nat→Nat→Prop:=fun au o=>S au o∨(au=b∧o<cur.size)
   let az:Nat→Option aH:=fun au=>if au=b then none else U au
   have bw:∀ o,o<cur.size→w.cell? ⟨b,o,none⟩=cur[o]?:=fun o aq=>by
    simp [World.cell?,aR,aq]
   have aA:bh U S w az S' w:=⟨rfl,rfl,rfl,sd _,fun _ _ _=>rfl,fun _ _ h=>⟨.inl h,rfl⟩,fun au o h=>by
     rcases h with h | ⟨rfl,_⟩
     ·exact .inl h
     ·exact .inr (.inl (by simp [aI])),fun au bt=>by
     by_cases dE:au=b
     ·simp [az,dE] at bt
     ·simp only [az,dE,if_false] at bt;exact .inl bt⟩
   have bV:aK B az J S' w (H.set id .dead):=by
    refine ⟨by simpa using ah.cD,fun bz o aq=>?_,fun au o h=>?_,fun au l' bt=>?_,ah.cV⟩
    ·by_cases cr:bz=id
     ·subst cr
      have:o=.dead:=by
       have:=(sb.1 aE).1;simp [this] at aq;exact aq.symm
      subst this;trivial
     ·rw [sj (Ne.symm cr)] at aq;refine (ah.obj bz o aq).frame (Ext.refl J) aA.set (fun au l' bt ao=>?_);have bN:au≠b:=fun e=>by
       subst e;rw [aI] at bt;cases bt;rcases ao with h | ⟨j,h⟩
       ·cases h;exact cr rfl
       ·cases h
      exact ⟨by simp [az,bN,bt],rfl,fun o h=>h.resolve_right fun h=>bN h.1⟩
    ·rcases h with h | ⟨rfl,h⟩
     ·exact ah.cc _ _ h
     ·exact ⟨_,(bw o h).trans (sA h)⟩
    ·by_cases dE:au=b
     ·simp [az,dE] at bt
     ·simp only [az,dE,if_false] at bt;exact ah.base _ _ bt
   refine ⟨az,S',aA,bV,.bT _ b 0 (fun j=>cur.getD j undef) (fun j u aw=>?_) (fun j u aw=>?_)⟩
   all_goals
    rw [ss] at aw;cases ao:l[j]? with
    | none=>rw [ao] at aw;simp at aw
    | some x' =>
      rw [ao] at aw;simp only [sf,Option.some.injEq] at aw;subst aw;have aS:=(sb.1 ao).1;have pF:cur[j]?=some cur[j]:=sA (by omega);(have aO:cur.getD j undef=cur[j]:=by simp [sB,pF]);obtain ⟨a_,ba,br,b8⟩:=bf j x' _ ao pF
      first
       | (simp only [aO];exact ⟨.inr ⟨rfl,by omega⟩,by rw [sS,bw j (by omega),pF],I.dg _,ba⟩)
       | (simp only [aO];exact (br.view a_).mono (Ext.refl J) aA.set)
theorem a8.Eu {bA:Nat→aH} {u:I} {vs:List Value} (h:a8 bA U J S w [u] vs):∃ v,vs=[v]∧Rel J S w u v∧aV U J S w (bA 0) u v:=by
 cases vs with
 | nil=>have:=h.len;simp at this
 | cons v r=>cases r with
   | nil=>exact ⟨v,rfl,h.rel 0 u v rfl rfl,h.own 0 u v rfl rfl⟩
   | cons x y=>have:=h.len;simp at this
theorem nm {C:b7} (bu:da P C) {lo mode:Nat} {bZ:e_} {args:List I} {v:I} {H1:List ar} (h:eZ C lo mode bZ args H=some (v,H1)):bb lo H H1∧jr P bZ args H H1 v:=by
 have frozen:∀ {r:I} {a3:List ar},C bZ args H H.length=some (r,a3)→((bI a3 H.length a3.length 0 8 r).map fun v=>(v,H))=some (v,H1)→bb lo H H1∧jr P bZ args H H1 v:=fun al aP=>by
  simp only [sa,Prod.mk.injEq] at aP;obtain ⟨bm,aP,rfl,rfl⟩:=aP;exact ⟨bb.refl _ _,(bu.ok al).mono fun B U J S w ah x w' aB=>xz ah (fun id aE=>(bu.low al).2 id aE aE) aP aB⟩
 unfold eZ at h;split at h
 ·simp only [sg] at h;obtain ⟨⟨r,a3⟩,al,aP⟩:=h;exact frozen al aP
 ·exact ⟨bu.low h,bu.ok h⟩
 ·split at h
  ·rename_i k aB;simp only [sg] at h;obtain ⟨⟨r,a3⟩,al,aP⟩:=h;simp only [sa,Prod.mk.injEq] at aP;obtain ⟨bm,aP,rfl,rfl⟩:=aP;obtain ⟨aJ,aQ⟩:=bu.ok al
   exact ⟨bb.refl _ _,aJ,fun B U J S w vs ah aN ae=>CallsIn.mono (aQ B _ [] S w vs (ze ah) (fun b i h=>by obtain ⟨_,_,h⟩:=lK h;cases h) (ae.pure aB).cq) fun e w' he=>by
     cases e with
     | returned v=>exact (z9 ah aP he).cq
     | panicked c=>exact he.elim
     | outgrown=>exact he.elim⟩
  ·simp at h
 ·split at h
  ·rename_i k aB;simp only [sg] at h;obtain ⟨⟨r,a3⟩,al,bm,aP,h⟩:=h;split at h
   ·rename_i pT;simp only [Option.some.injEq,Prod.mk.injEq] at h;obtain ⟨rfl,rfl⟩:=h;obtain ⟨aJ,aQ⟩:=bu.ok al
    exact ⟨bb.refl _ _,aJ,fun B U J S w vs ah aN ae=>CallsIn.mono (aQ B _ [] _ w vs (Dv ah) (fun b i h=>by obtain ⟨_,_,h⟩:=lK h;cases h) ((Gr ah ae).pure aB).cq) fun e w' he=>by
     cases e with
     | returned v=>exact (ED ah aP pT he).cq
     | panicked c=>exact he.elim
     | outgrown=>exact he.elim⟩
   ·simp at h
  ·simp at h
 ·split at h
  ·rename_i k id;split at h
   ·rename_i bB;split at h
    ·rename_i l aE;split at h
     ·rename_i aB;simp only [sg] at h;obtain ⟨⟨r,a3⟩,al,aP⟩:=h;simp only [sa,Prod.mk.injEq] at aP;obtain ⟨bm,aP,rfl,rfl⟩:=aP;obtain ⟨aJ,aQ⟩:=bu.ok al;refine ⟨bb.set _ _ bB,aJ,fun B U J S w vs ah aN ae=>?_⟩;obtain ⟨v0,gd,r1,_⟩:=a8.Eu ae;subst gd;obtain ⟨az,S',aA,bV,r2⟩:=Cu ah aE r1
      have c_:a8 (fun i=>.arg i) az J S' w [I.bT (l.map I.view)] [v0]:=⟨rfl,fun i u v hu ae=>by
       cases i with
       | zero=>simp at hu ae;subst hu ae;exact r2
       | succ i=>simp at hu,fun i u v hu ae=>by
       cases i with
       | zero=>simp at hu ae;subst hu;exact aV.b3 rfl
       | succ i=>simp at hu⟩
      (have jT:([I.bT (l.map I.view)]).all (ch 8)=true:=by simp [aB]);exact CallsIn.mono (aQ B _ [] S' w _ (ze bV) (fun b i h=>by obtain ⟨_,_,h⟩:=lK h;cases h) (c_.pure jT).cq) fun e w' he=>by
       cases e with
       | returned v=>exact a0.after (Ext.refl J) aA (z9 bV aP he).cq
       | panicked c=>exact he.elim
       | outgrown=>exact he.elim
     ·simp at h
    ·simp at h
   ·simp at h
  ·simp at h
 ·simp only [sg] at h;obtain ⟨⟨r,a3⟩,al,aP⟩:=h;simp only [sa,Prod.mk.injEq] at aP;obtain ⟨bm,aP,rfl,rfl⟩:=aP;refine ⟨bb.refl _ _,?_⟩;have bP:=(bu.ok al).mono (r':=bm.cq) (H1:=H) fun B U J S w ah x w' aB=>(xz ah (fun id aE=>(bu.low al).2 id aE aE) aP aB).cq;cases bZ with
  | fn k=>exact ⟨bP.1,fun B U J S w vs ah aN ae=>bP.2 B U J S w vs ah aN ae.cq⟩
  | yield l=>exact fun B U J S w vs b ah aN ae ag=>bP B U J S w vs b ah aN ae.cq ag
 ·simp only [sg] at h;obtain ⟨⟨r,a3⟩,al,aP⟩:=h;split at aP
  ·exact frozen al aP
  ·rename_i id0 py;split at aP
   ·rename_i l aE;split at aP
    ·rename_i fe;split at aP
     ·rename_i l' bm ao ae;simp only [Option.some.injEq,Prod.mk.injEq] at aP;obtain ⟨rfl,rfl⟩:=aP;exact ⟨bb.append _ _ _,(bu.ok al).mono fun B U J S w ah x w' aB=>EB ah (fun id aE=>(bu.low al).2 id aE aE) fe aE ao ae aB⟩
     ·simp at aP
    ·simp at aP
   ·rename_i es clock aE;split at aP
    ·rename_i fe;split at aP
     ·rename_i l' bm ao ae;simp only [Option.some.injEq,Prod.mk.injEq] at aP;obtain ⟨rfl,rfl⟩:=aP;exact ⟨bb.append _ _ _,(bu.ok al).mono fun B U J S w ah x w' aB=>EC ah (fun id aE=>(bu.low al).2 id aE aE) fe aE ao ae aB⟩
     ·simp at aP
    ·simp at aP
   ·simp at aP
end
end Go.Proofs.YtfakoboiahbhaaaGreat.Ab


namespace Go.Proofs.YtfakoboiahbhaaaGreat.Ab
open Go
def gh (g:Nat→Option Nat) (U:Nat→Option aH):Nat→Option aH:=fun b=>match U b with
 | some (.arg i)=>(g i).map .arg
 | some (.obj id)=>some (.obj id)
 | some (.cell id j)=>some (.cell id j)
 | _=>none
def ft (d_:Bool) (vs:List I):List I:=match d_ with | true=>vs | false=>vs.map I.view
def ei (F:Fence):Prop:=F=Fence.wide∨∃ l,F=Fence.wide.inRound l
section
variable {P:Program} {B N:Nat} {J:List Nat} {w:World} {H:List ar} {U:Nat→Option aH} {S:Nat→Nat→Prop}
theorem ei.fn {F:Fence} (h:ei F) (f:FuncId):F.fn f:=by rcases h with rfl | ⟨l,rfl⟩ <;> trivial
theorem ei.depth {F:Fence} (h:ei F):F.depth=none:=by rcases h with rfl | ⟨l,rfl⟩ <;> rfl
theorem ei.calls {F:Fence} (h:ei F) {n:Nat} {f:FuncId} {args:Array Value} {w:World} {R:Ending→World→Prop} (k:CallsIn Fence.wide n P f args w R):CallsIn F n P f args w R:=by
 rcases h with rfl | ⟨l,rfl⟩
 ·exact k
 ·exact CallsIn.inRound l k
theorem ei.rounds {F:Fence} (h:ei F) {n l:Nat} {f:FuncId} {tmps:Array Value} {assign body:Code} {w:World} {R:Ending→World→Prop} (k:RoundIn Fence.wide n P l f tmps assign body w R):RoundIn F n P l f tmps assign body w R:=by
 rcases h with rfl | ⟨l,rfl⟩
 ·exact k
 ·exact k
theorem EU {g:Nat→Option Nat} {b:Nat} (h:U b=none):gh g U b=none:=by simp [gh,h]
theorem EV {g:Nat→Option Nat} {b:Nat} (h:gh g U b≠none):U b≠none:=fun aU=>h (EU aU)
theorem Ap (g:Nat→Option Nat) (U:Nat→Option aH) (S:Nat→Nat→Prop) (w:World):bh U S w (gh g U) S w :=
 ⟨rfl,rfl,rfl,sd _,fun _ _ _=>rfl,fun _ _ h=>⟨h,rfl⟩,fun _ _ h=>.inl h,fun _ h=>.inl (EV h)⟩
theorem Aq (g:Nat→Option Nat) (U:Nat→Option aH):nc (gh g U):=fun b i h=>by
 unfold gh at h;split at h <;> simp at h
theorem zf (ah:aK B U J S w H) (g:Nat→Option Nat):aK B (gh g U) J S w H:=by
 refine ⟨ah.cD,fun id o aq=>?_,ah.cc,fun b l ag=>?_,ah.cV⟩
 ·refine (ah.obj id o aq).frame (Ext.refl J) (fun _ _ h=>⟨h,rfl⟩) fun b l ag ao=>⟨?_,rfl,fun _ h=>h⟩;rcases ao with rfl | ⟨j,rfl⟩ <;> simp [gh,ag]
 ·cases h:U b with
  | none=>simp [gh,h] at ag
  | some l'=>exact ah.base b l' h
theorem Ez {g:Nat→Option Nat} {i j:Nat} (aO:g i=some j) {u:I} {v:Value} (h:aV U J S w (.arg i) u v):aV (gh g U) J S w (.arg j) u v :=
 h.mono (Ext.refl J) (fun _ _ h=>⟨h,rfl⟩) fun b ag=>⟨by simp [gh,ag,aO],rfl,fun _ h=>h⟩
theorem EO {T:List I} {a:Act} (aL:cv B N U J S w ⟨T,H⟩ a) (ops:List Operand) (ts:List Bool) (d_:Bool) :
  ∃ b4 a7,bh U S w b4 a7 w∧cv B N b4 J a7 w ⟨(rd T ts ops).2,H⟩ a ∧
    a8 (fun i=>.arg i) b4 J a7 w (ft d_ (rd T ts ops).1) (ops.map a.eval):=by
 obtain ⟨b4,a7,g,bW,ah,ae⟩:=EP a ops ts T 0 U S aL.T aL.H;simp only [sS] at ae;cases d_ with
 | true=>exact ⟨b4,a7,g.aA w,⟨bW,ah,aL.M.aA (g.aA w)⟩,ae⟩
 | false =>
   obtain ⟨bK,aJ,aQ,cm,c_⟩:=Fx (rd T ts ops).1 (ops.map a.eval) (fun i=>.arg i) a7 (fun i j h=>by cases h;rfl) (fun i id=>by simp) (fun i id j=>by simp) ae ah;have aA:bh b4 a7 w b4 bK w:=bh.settle aJ fun b o h=>(aQ b o h).imp id fun ⟨i,h⟩=>⟨_,h⟩;refine ⟨b4,bK,(g.aA w).trans aA,⟨⟨bW.len,fun i u v hu ae=>(bW.rel i u v hu ae).mono (Ext.refl J) (fun b o h=>⟨aJ b o h,rfl⟩),fun i u v hu ae=>?_⟩,cm,(aL.M.aA (g.aA w)).aA aA⟩,c_⟩;refine (bW.own i u v hu ae).mono (Ext.refl J) (fun b o h=>⟨aJ b o h,rfl⟩) fun b ag=>⟨ag,rfl,fun o h=>?_⟩;rcases aQ b o h with h | ⟨j,h⟩
   ·exact h
   ·rw [ag] at h;cases h
theorem o3 {C:b7} {lo:Nat} {o:Oper} {an:b2} {s aF:a6} (h:Ab.execOp P C lo o an s=some aF) :
  ∃ r H',a4 P C lo o an.mode (ft (dH o an.mode) (rd s.T an.takes (opsOf o)).1) s.H=some (r,H') ∧
    aF=⟨put (inPlace o an.mode (rd s.T an.takes (opsOf o)).2 r) o.dst r,H'⟩:=by
 unfold Ab.execOp at h;simp only [sa] at h;obtain ⟨⟨r,H'⟩,h,rfl⟩:=h;exact ⟨r,H',h,rfl⟩
theorem Em {C:b7} {lo mode:Nat} {o:Oper} {us:List I} {r:I} {H':List ar} {t:Nat} (hm:mode≠0) (Dc:mode≠4) (aq:o.op=.move (.tmp t)∨o.op=.assign (.tmp t))
  (h:a4 P C lo o mode us H=some (r,H')) {U:Nat→Option aH} {J:List Nat} {S:Nat→Nat→Prop} {w:World} {l:aH} {v:Value} (aj:Rel J S w r v) (hw:aV U J S w l r v):Rel J S w r.view v:=by
 by_cases hu:r.cQ=true
 ·exact aj.view hu
 ·obtain ⟨cells,len,z,rfl⟩:∃ cells len z,r=.ax cells len (.uniq z):=by
   unfold I.cQ at hu;split at hu
   ·exact ⟨_,_,_,rfl⟩
   ·simp at hu
  have aU:len=0:=by
   (have aX:eV P lo mode o.type (.tmp t) H us=some (.ax cells len (.uniq z),H'):=by rcases aq with aq | aq <;> simpa only [a4,aq] using h);unfold eV at aX;split at aX
   ·split at aX
    ·exact absurd rfl hm
    ·split at aX
     ·split at aX
      ·rename_i bj;cases aX;exact bj
      ·cases aX
     ·cases aX
     ·cases aX
     ·simp at aX
    ·exact absurd rfl Dc
    ·split at aX
     ·split at aX
      ·simp only [sg,sa,Prod.mk.injEq] at aX;obtain ⟨row,cP,n,aN,ad,af⟩:=aX;have:=congrArg (fun x=>match x with | I.ax _ _ c=>c | _=>.shared) ad;exact absurd this (yP z)
      ·simp at aX
     ·split at aX
      ·split at aX
       ·split at aX
        ·cases aX
        ·cases aX
       ·cases aX
      ·cases aX
     ·simp only [Option.some.injEq,Prod.mk.injEq] at aX;have:=aX.1 ▸ I.dg _;cases this
   ·simp at aX
  subst aU;have al:cells=[]:=by
   cases aj with
   | b1 c a=>rfl
   | ax _ _ _ b o cap f al hle b_ k eU=>exact absurd rfl (b_ z)
   | cJ _ _ z b o cap =>
     rcases hw with ⟨_,_,h⟩ | ⟨_,_,_,_,_,h,_⟩
     ·exact h
     ·exact tA.1 (by simpa using h)
  subst al;cases aj with
  | b1 c a=>exact .b1 _ _
  | ax _ _ _ b o cap f al hle b_ k eU=>exact absurd rfl (b_ z)
  | cJ _ _ z b o cap=>exact .ax [] 0 .shared b o cap (fun _=>undef) (by simp) (Nat.zero_le _) (by simp) (by simp) (by simp)
theorem xq {lo id:Nat} {H H':List ar} {f:List I→Option (List I)} (h:fM lo H id f=some H'):bb lo H H':=by
 unfold fM at h;split at h
 ·rename_i bB;split at h
  ·simp only [sa] at h;obtain ⟨l',_,rfl⟩:=h;exact bb.set _ _ bB
  ·simp at h
 ·simp at h
theorem D7 {lo:Nat} {t:TypeId} {us:List I} {r:I} {H':List ar} (h:iW P lo t H us=some (r,H')):bb lo H H':=by
 unfold iW at h;split at h
 ·split at h
  ·split at h
   ·split at h
    ·rename_i bB;split at h
     ·split at h
      ·cases h;exact bb.set _ _ bB
      ·cases h;exact bb.set _ _ bB
      ·cases h
     ·cases h
    ·cases h
   ·cases h
  ·cases h
 ·cases h
theorem D5 {lo:Nat} {ts:Array TypeId} {us:List I} {r:I} {H':List ar} (h:hI P lo ts H us=some (r,H')):bb lo H H':=by
 unfold hI at h;split at h
 ·split at h
  ·split at h
   ·split at h
    ·rename_i bB;split at h
     ·split at h
      ·cases h;exact bb.set _ _ bB
      ·cases h;exact bb.refl _ _
      ·cases h
     ·cases h
    ·cases h
   ·cases h
  ·cases h
 ·cases h
theorem Fs {t:TypeId} {ok:Bool} {us:List I} {r:I} {H':List ar} (h:ie P t ok H us=some (r,H')):H'=H:=by
 unfold ie at h;split at h
 ·split at h
  ·split at h
   ·split at h
    ·simp only [sa,Prod.mk.injEq] at h;obtain ⟨_,_,_,rfl⟩:=h;rfl
    ·cases h
   ·cases h
  ·cases h
 ·cases h
theorem Fq {us:List I} {r:I} {H':List ar} (h:k4 H us=some (r,H')):H'=H:=by
 unfold k4 at h;split at h
 ·split at h
  ·split at h
   ·split at h
    ·split at h
     ·cases h;rfl
     ·cases h
    ·cases h
   ·cases h
  ·cases h
 ·cases h
theorem zI {lo id:Nat} {H H':List ar} {f:List I→Option (List I)} (h:hd lo H id f=some H'):bb lo H H':=by
 unfold hd at h;split at h
 ·rename_i bB;split at h
  ·simp only [sa] at h;obtain ⟨l',_,rfl⟩:=h;exact bb.set _ _ bB
  ·simp only [sa] at h;obtain ⟨l',_,rfl⟩:=h;exact bb.set _ _ bB
  ·simp at h
 ·simp at h
theorem D4 {lo:Nat} {ts:Array TypeId} {us:List I} {r:I} {H':List ar} (h:ic P lo ts H us=some (r,H')):bb lo H H':=by
 unfold ic at h;split at h
 ·split at h
  ·split at h
   ·split at h
    ·split at h
     ·cases h
     ·cases h;exact bb.append _ _ _
    ·cases h
   ·split at h
    ·rename_i bB;split at h
     ·split at h
      ·split at h
       ·cases h;exact (bb.set _ _ bB).trans (bb.append _ _ _)
       ·cases h
      ·cases h
     ·cases h
    ·cases h
   ·cases h
  ·cases h
 ·cases h
theorem D3 {lo:Nat} {ts:Array TypeId} {us:List I} {r:I} {H':List ar} (h:iV P lo ts H us=some (r,H')):bb lo H H':=by
 refine bb.trans ?_ (D4 h);unfold jc;split
 ·split
  ·split
   ·rename_i al;simp only [sx] at al;exact bb.set _ _ (Nat.le_of_ble_eq_true al.2)
   ·exact bb.refl _ _
  ·exact bb.refl _ _
 ·exact bb.refl _ _
theorem D8 {lo:Nat} {t:TypeId} {us:List I} {r:I} {H':List ar} (h:k6 P t H us=some (r,H')):bb lo H H':=by
 unfold k6 at h;split at h
 ·split at h
  ·cases h;exact bb.append _ _ _
  ·cases h
 ·cases h
theorem D6 {lo:Nat} {t:TypeId} {x:Option Operand} {r:I} {H':List ar} (h:k5 P t x H=some (r,H')):bb lo H H':=by
 unfold k5 at h;split at h
 ·cases h;exact bb.append _ _ _
 ·cases h
theorem zH {lo:Nat} {b:Builtin} {ts:Array TypeId} {us:List I} {r:I} {H':List ar} (h:ew P lo b ts H us=some (r,H')):bb lo H H':=by
 have same:∀ {x:Option I},x.map (·,H)=some (r,H')→bb lo H H':=fun h=>by
  simp only [sa,Prod.mk.injEq] at h;obtain ⟨_,_,_,rfl⟩:=h;exact bb.refl _ _
 unfold ew at h;split at h
 ·unfold iU at h;split at h
  ·split at h
   ·exact same h
   ·simp at h
  ·simp at h
 ·unfold hh at h;split at h
  ·split at h
   ·split at h <;> simp at h;obtain ⟨_,rfl⟩:=h;exact bb.refl _ _
   ·split at h <;> simp at h;obtain ⟨_,rfl⟩:=h;exact bb.refl _ _
   ·split at h <;> simp at h;obtain ⟨_,rfl⟩:=h;exact bb.refl _ _
   ·split at h <;> simp at h;obtain ⟨_,rfl⟩:=h;exact bb.refl _ _
  ·simp at h
 ·unfold j2 at h;split at h
  ·split at h <;> simp at h;obtain ⟨_,rfl⟩:=h;exact bb.refl _ _
  ·split at h <;> simp at h;obtain ⟨_,rfl⟩:=h;exact bb.refl _ _
  ·simp at h
 ·unfold j3 at h;split at h
  ·split at h
   ·split at h
    ·split at h
     ·simp only [sa,Prod.mk.injEq] at h;obtain ⟨H1,h,_,rfl⟩:=h;exact xq h
     ·simp at h
    ·simp at h
   ·simp at h
  ·simp at h
 ·unfold k3 at h;split at h
  ·split at h
   ·split at h
    ·split at h
     ·simp only [sa,Prod.mk.injEq] at h;obtain ⟨H1,h,_,rfl⟩:=h;exact zI h
     ·simp at h
    ·simp at h
   ·simp at h
  ·split at h <;> simp at h;obtain ⟨_,rfl⟩:=h;exact bb.refl _ _
  ·simp at h
 ·exact D5 h
 ·exact same h
 ·exact same h
 ·simp at h
theorem Ex {C:b7} (bu:da P C) {lo mode:Nat} {o:Oper} {us:List I} {r:I} {H':List ar} (h:a4 P C lo o mode us H=some (r,H')):bb lo H H':=by
 have same:∀ {x:Option I},x.map (·,H)=some (r,H')→bb lo H H':=fun h=>by
  simp only [sa,Prod.mk.injEq] at h;obtain ⟨_,_,_,rfl⟩:=h;exact bb.refl _ _
 have mi:∀ {t:TypeId} {x:Operand},eV P lo mode t x H us=some (r,H')→bb lo H H':=fun h=>by
  unfold eV at h;split at h
  ·split at h
   ·split at h
    ·simp only [sa,Prod.mk.injEq] at h;obtain ⟨_,_,_,rfl⟩:=h;exact bb.refl _ _
    ·cases h;exact bb.refl _ _
   ·split at h
    ·split at h
     ·cases h;exact bb.refl _ _
     ·cases h;exact bb.append _ _ _
    ·cases h;exact bb.refl _ _
    ·cases h;exact bb.refl _ _
    ·simp at h
   ·split at h
    ·split at h
     ·rename_i bB;split at h
      ·split at h
       ·cases h;exact bb.set _ _ bB
       ·cases h
      ·cases h
     ·cases h
    ·cases h;exact bb.refl _ _
   ·split at h
    ·split at h
     ·rename_i bB;simp only [sg,sa,Prod.mk.injEq] at h;obtain ⟨_,_,_,_,_,rfl⟩:=h;exact bb.set _ _ bB
     ·simp at h
    ·split at h
     ·rename_i bB;split at h
      ·split at h
       ·cases h;exact bb.set _ _ bB
       ·cases h
      ·cases h
     ·cases h
    ·cases h;exact bb.refl _ _
  ·simp at h
 unfold a4 at h;split at h
 ·exact mi h
 ·exact mi h
 ·unfold dM at h;split at h
  ·split at h
   ·exact same h
   ·split at h
    ·exact same h
    ·simp at h
   ·split at h
    ·split at h
     ·split at h
      ·cases h;exact bb.refl _ _
      ·cases h;exact bb.refl _ _
      ·simp at h
     ·simp at h
    ·simp at h
   ·split at h
    ·split at h
     ·rename_i bB;split at h
      ·split at h
       ·cases h;exact bb.set _ _ bB
       ·split at h
        ·split at h
         ·simp at h
         ·cases h;exact (bb.set _ _ bB).trans (bb.append _ _ _)
        ·cases h;exact bb.set _ _ bB
       ·cases h;exact bb.refl _ _
       ·simp at h
      ·split at h
       ·cases h;exact bb.set _ _ bB
       ·cases h;exact bb.refl _ _
       ·simp at h
      ·simp at h
     ·simp at h
    ·simp at h
  ·simp at h
 ·unfold gM at h;split at h
  ·split at h
   ·simp only [sa,Prod.mk.injEq] at h;obtain ⟨H1,h,_,rfl⟩:=h;unfold iz at h;split at h
    ·split at h
     ·exact zI h
     ·simp at h
    ·simp at h
   ·simp only [sa,Prod.mk.injEq] at h;obtain ⟨H1,h,_,rfl⟩:=h;unfold lH at h;split at h
    ·split at h
     ·exact xq h
     ·simp at h
    ·simp at h
   ·simp only [sa,Prod.mk.injEq] at h;obtain ⟨H1,h,_,rfl⟩:=h;unfold kl at h;split at h
    ·split at h
     ·exact xq h
     ·simp at h
    ·simp at h
  ·simp at h
 ·unfold gL at h;split at h
  ·split at h
   ·simp only [sa,Prod.mk.injEq] at h;obtain ⟨_,_,_,rfl⟩:=h;exact bb.append _ _ _
   ·split at h
    ·split at h
     ·cases h;exact bb.refl _ _
     ·cases h
    ·cases h
  ·simp at h
 ·unfold k2 at h;split at h
  ·simp only [sa,Prod.mk.injEq] at h;obtain ⟨_,_,_,rfl⟩:=h;exact bb.append _ _ _
  ·split at h
   ·simp only [sa,Prod.mk.injEq] at h;obtain ⟨_,_,_,rfl⟩:=h;exact bb.append _ _ _
   ·cases h
 ·split at h
  ·exact same h
  ·simp only [sa,Prod.mk.injEq] at h;obtain ⟨_,_,_,rfl⟩:=h;exact bb.refl _ _
 ·split at h
  ·exact same h
  ·simp only [sa,Prod.mk.injEq] at h;obtain ⟨_,_,_,rfl⟩:=h;exact bb.refl _ _
 ·unfold j4 at h;split at h
  ·split at h
   ·split at h
    ·simp only [sa,Prod.mk.injEq] at h;obtain ⟨_,_,_,rfl⟩:=h;exact bb.append _ _ _
    ·split at h
     ·simp only [sa,Prod.mk.injEq] at h;obtain ⟨_,_,_,rfl⟩:=h;exact bb.refl _ _
     ·simp at h
   ·simp at h
  ·simp at h
 ·exact D6 h
 ·exact D7 h
 ·rw [Fs h];exact bb.refl _ _
 ·exact D8 h
 ·rw [Fq h];exact bb.refl _ _
 ·split at h
  ·split at h
   ·split at h
    ·exact zH h
    ·exact D3 h
   ·exact zH h
  ·unfold hH at h;split at h
   ·unfold kp at h;split at h
    ·exact (nm bu h).1
    ·exact (nm bu h).1
    ·simp at h
   ·simp at h
  ·simp at h
 ·exact same h
end
end Go.Proofs.YtfakoboiahbhaaaGreat.Ab


namespace Go.Proofs.YtfakoboiahbhaaaGreat.Ab
open Go
section
variable {P:Program} {B N:Nat} {J:List Nat} {w:World} {H:List ar} {U:Nat→Option aH} {S:Nat→Nat→Prop}
theorem AU {k : Nat} {f : Func} (aP : P.funcs[k]? = some f) (ag : f.body.isSome = true) (aN : f.name ≠ "runtime.NumGoroutine") (args : Array Value) (w : World) :
  (callFunc k args).run P w=.ok (.enter k args) w:=by
 have bt:f.body≠none:=fun h=>by simp [h] at ag
 simp [callFunc,aP,bt,aN]
theorem Bv {first us cap:List I} {vs ws xs:List Value} (aP:first.length=vs.length) (bR:∀ u∈first,u.plain=true) (r1:∀ (j:Nat) (u:I) (v:Value),first[j]?=some u→vs[j]?=some v→Rel J S w u v)
  (al:cap.length=ws.length) (bY:∀ u∈cap,u.plain=true) (r2:∀ (j:Nat) (u:I) (v:Value),cap[j]?=some u→ws[j]?=some v→Rel J S w u v)
  (ae:a8 (fun i=>.arg (i+1)) U J S w us xs) :
  a8 (fun i=>.arg i) (gh (fun i=>match i with | 0=>none | j+1=>some (first.length+j)) U) J S w (first++us++cap) (vs++xs++ws):=by
 have ao:=ae.len;have key:∀ (i:Nat) (u:I) (v:Value),(first++us++cap)[i]?=some u→(vs++xs++ws)[i]?=some v →
   Rel J S w u v∧aV (gh (fun i=>match i with | 0=>none | j+1=>some (first.length+j)) U) J S w (.arg i) u v:=fun i u v hu ak=>by
  rcases sT i first.length with ad | ad
  ·rw [sD,sy ad] at hu;rw [sD,sy (by omega)] at ak;exact ⟨r1 i u v hu ak,aV.b3 (bR u (sH hu))⟩
  ·rw [sD,sJ ad] at hu;rw [sD,sJ (by omega),←aP] at ak;rcases sT (i-first.length) us.length with af | af
   ·rw [sy af] at hu;rw [sy (by omega)] at ak;refine ⟨ae.rel _ u v hu ak,Ez ?_ (ae.own _ u v hu ak)⟩;show some (first.length+(i-first.length))=some i;congr 1;omega
   ·rw [sJ af] at hu;rw [sJ (by omega),←ao] at ak;exact ⟨r2 _ u v hu ak,aV.b3 (bY u (sH hu))⟩
 exact ⟨by simp [aP,al,ao],fun i u v hu ak=>(key i u v hu ak).1,fun i u v hu ak=>(key i u v hu ak).2⟩
theorem x6 {F:Fence} (bE:ei F) {C:b7} (bu:da P C) {lo:Nat} {o:Oper} {an:b2} {s aF:a6} (h:Ab.execOp P C lo o an s=some aF) {a:Act} (aL:cv B N U J S w s a)
  {K:Act→World→Prop} {Q:Exit→Act→World→Prop} (fF:∀ aM w',Step B N U J S w aF aM w'→K aM w'):o.wpIn F 0 P a w K Q:=by
 obtain ⟨r,H',aD,rfl⟩:=o3 h;obtain ⟨b4,a7,nu,cf,ae⟩:=EO (H:=s.H) aL (opsOf o) an.takes (dH o an.mode);generalize zj:ft (dH o an.mode) (rd s.T an.takes (opsOf o)).1=us at aD ae;have eT:∀ v,a.eval (.const v)=v:=fun _=>rfl;have jP:∀ c,o.op≠.defer c:=fun c al=>by simp [a4,al,cw] at aD
 have nB:∀ v w',(∀ t,o.op=.move (.tmp t)∨o.op=.assign (.tmp t)→v=a.eval (.tmp t))→a0 B (dk b4) J a7 w H' r v w'→K (a.put o.dst v) w':=fun v w' dX aB=>by
  refine fF _ _ (Step.trans (Ext.refl J) nu ?_);by_cases hm:an.mode=0∨an.mode=4
  ·obtain ⟨az,bU,S',aJ,aQ,ga,_⟩:=n' o.dst cf aB .junk (fun _ _ _ _ _=>.junk _);(have g4:inPlace o an.mode (rd s.T an.takes (opsOf o)).2 r=(rd s.T an.takes (opsOf o)).2:=by rcases hm with hm | hm <;> simp [inPlace,hm]);rw [g4];exact ⟨az,bU,S',aJ,aQ,ga⟩
  ·by_cases ay:∃ t,o.op=.move (.tmp t)∨o.op=.assign (.tmp t)
   ·obtain ⟨t,ay⟩:=ay;have g4:inPlace o an.mode (rd s.T an.takes (opsOf o)).2 r=gQ (rd s.T an.takes (opsOf o)).2 t r.view:=by
     unfold inPlace;split
     ·rename_i pI;exact absurd (.inl pI) hm
     ·rename_i pI;exact absurd (.inr pI) hm
     ·rcases ay with ay | ay <;> simp [ay]
    have zk:∀ x,a.tmps.toList[t]?=some x→x=a.eval (.tmp t):=fun x ak=>by
     (have nQ:a.tmps[t]?=some x:=by simpa using ak);simp [Act.eval,nQ,sB]
    have zd:v=a.eval (.tmp t):=dX t ay;obtain ⟨az,bU,S',aJ,aQ,ga,nM⟩:=n' o.dst cf aB r.view (fun bq cj bK q1 aW=>Em (fun e=>hm (.inl e)) (fun e=>hm (.inr e)) ay aD q1 aW);refine ⟨az,bU,S',aJ,aQ,?_,ga.H,ga.M⟩;rw [g4];have bW:=ga.T;simp only at bW;cases a2:o.dst with
    | none =>
      simp only [a2,put,Act.put,gR] at bW ⊢;exact bW.swap t (I.dg _) fun x ak=>by rw [zk x ak,←zd];exact nM
    | some d =>
      simp only [a2,put,Act.put,gR] at bW ⊢;by_cases w9:t=d
      ·subst w9;rw [sU];exact bW
      ·rw [List.set_comm _ _ w9];refine bW.swap t (I.dg _) fun x ak=>?_;rw [wc,sj (Ne.symm w9)] at ak;rw [zk x ak,←zd];exact nM
   ·have g4:inPlace o an.mode (rd s.T an.takes (opsOf o)).2 r=(rd s.T an.takes (opsOf o)).2:=by
     unfold inPlace;split
     ·rfl
     ·rfl
     ·split
      ·rename_i h;exact absurd ⟨_,.inl h⟩ ay
      ·rename_i h;exact absurd ⟨_,.inr h⟩ ay
      ·rfl
    rw [g4];obtain ⟨az,bU,S',aJ,aQ,ga,_⟩:=n' o.dst cf aB .junk (fun _ _ _ _ _=>.junk _);exact ⟨az,bU,S',aJ,aQ,ga⟩
 refine ⟨fun f _=>bE.fn f,?_⟩;rw [Oper.semAt_eq _ _ _ jP];by_cases fb:∃ c f,o.op=.call c∧c.callee=.value f
 ·obtain ⟨c,f,kH,h1⟩:=fb;have he:opsOf o=f::c.args.toList:=by
   obtain ⟨B9,args,B3⟩:=c;simp only at h1;subst h1;simp only [opsOf,kH]
  rw [he] at ae;simp only [a4,kH,h1] at aD;have gC:=mq cf.H;have gd:=Bw ae
  match us,aD,gd with
  | [],aD,_=>simp [hH] at aD
  | Gk::Hd,aD,gd =>
    simp only [hH] at aD;have oo:=gd.rel 0 Gk (a.eval f) rfl rfl;have zl:=gd.tail;unfold kp at aD;split at aD
    ·(rename_i k first cap);generalize kB:a.eval f=Gn at oo;cases oo with
     | func _ _ _ vs ws aJ aQ bR bY r1 r2 =>
       obtain ⟨_,⟨fn,CX,kz,Dh⟩,pq⟩:=nm bu aD;have nP:=Bv (U:=dk b4) (J:=J) (S:=a7) (w:=w) (first:=first) (cap:=cap) (vs:=vs.toList) (ws:=ws.toList) (by simp [aJ]) bR (fun j u v hu ak=>r1 j u v hu (by simpa using ak)) (by simp [aQ]) bY (fun j u v hu ak=>r2 j u v hu (by simpa using ak)) zl;have al:=pq B _ J a7 w _ (zf gC _) (Aq _ _) nP;have kL:(resolve a.eval c o.type).run P w=.ok { target:=.fn (.func k) ws,args:=vs++c.args.map a.eval } w:=by
        simp [resolve,h1,kB,Deferred.ofValue]
       have dK:(Go.execOp a.eval o).run P w=.ok (.enter k (vs++c.args.map a.eval++ws)) w:=by
        simp only [Go.execOp,kH,Sem.run_bind,kL,Result.andThen_ok,invoke,AU CX kz Dh]
       rw [dK];have hB:(vs.toList++List.map a.eval c.args.toList++ws.toList).toArray=vs++c.args.map a.eval++ws:=by
        apply Array.ext';simp
       rw [hB] at al;refine ⟨fun iI=>(by rw [bE.depth] at iI;cases iI),bE.calls (CallsIn.mono al fun e w' he=>?_)⟩;cases e with
       | returned v=>exact nB v w' (fun t ay=>by rcases ay with ay | ay <;> rw [kH] at ay <;> cases ay) (a0.after (Ext.refl J) (Ap _ _ _ _) he)
       | panicked c=>exact he.elim
       | outgrown=>exact he.elim
    ·rename_i l;generalize kB:a.eval f=Gn at oo;cases oo with
     | yield _ b ag =>
       obtain ⟨_,pq⟩:=nm bu aD;have nP:=Bv (U:=dk b4) (J:=J) (S:=a7) (w:=w) (first:=[]) (cap:=[]) (vs:=[]) (ws:=[]) rfl (by simp) (by simp) rfl (by simp) (by simp) zl;simp only [tN,sW] at nP;obtain ⟨L,ad,af,aG⟩:=pq B _ J a7 w _ b (zf gC _) (Aq _ _) nP ag;have kL:(resolve a.eval c o.type).run P w=.ok { target:=.fn (.yield b) #[],args:=c.args.map a.eval } w:=by
        simp [resolve,h1,kB,Deferred.ofValue]
       (have bO:(c.args.map a.eval).size=L.params.size:=by rw [←af];simp);have dK:(Go.execOp a.eval o).run P w=.ok (.round b L.fn (iY L (List.map a.eval c.args.toList)) L.assign L.body) w:=by
        simp only [Go.execOp,kH,Sem.run_bind,kL,Result.andThen_ok,invoke]
        have:(List.map a.eval c.args.toList).toArray=c.args.map a.eval:=by apply Array.ext';simp
        simp [Instr.yield,run_getLoop ad,bO,iY,this]
       rw [dK];refine ⟨fun iI=>(by rw [bE.depth] at iI;cases iI),bE.rounds (RoundIn.mono aG fun e w' he=>?_)⟩;cases e with
       | returned v=>exact nB v w' (fun t ay=>by rcases ay with ay | ay <;> rw [kH] at ay <;> cases ay) (a0.after (Ext.refl J) (Ap _ _ _ _) he)
       | panicked c=>exact he.elim
       | outgrown=>exact he.elim
    ·simp at aD
 ·have iM:∀ c f,o.op=.call c→c.callee≠.value f:=fun c f ad af=>fb ⟨c,f,ad,af⟩;have aB:dH o an.mode=false→∀ u∈us,u.plain=true:=fun ao u hu=>by
   rw [ao] at zj;subst zj;obtain ⟨x,_,rfl⟩:=sk.1 hu;exact I.dg x
  rcases F3 eT (mq cf.H) aD iM aB (Bw ae) with ⟨v,w',ad,af⟩ | ⟨w',ad,af⟩
  ·rw [ad];exact nB v w' (fun t ay=>by rcases ay with ay | ay <;> simp [Go.execOp,ay] at ad <;> exact ad.1.symm) af
  ·rw [ad];exact nB undef w' (fun t ay=>by rcases ay with ay | ay <;> simp [Go.execOp,ay] at ad) af
end
end Go.Proofs.YtfakoboiahbhaaaGreat.Ab


namespace Go.Proofs.YtfakoboiahbhaaaGreat.Ab
open Go
section
variable {P:Program} {B N:Nat} {J:List Nat} {w:World} {H:List ar} {U:Nat→Option aH} {S:Nat→Nat→Prop}
theorem cv.c3 {s:a6} {a:Act} (aL:cv B N U J S w s a) (t:Nat):Rel J S w (c3 s.T t) (a.tmps.getD t undef):=by
 rw [f',sE];cases h:s.T[t]? with
 | none=>exact .junk _
 | some u =>
   have ao:=aL.T.len;have aS:t<s.T.length:=(sb.1 h).1;(have mh:t<a.tmps.size:=by rw [←tu,←ao];exact aS);(have ak:a.tmps.toList[t]?=some (a.tmps.getD t undef):=by simp [sB,mh]);exact aL.T.rel t u _ h ak
theorem cv.aA {s:a6} {a:Act} (aL:cv B N U J S w s a) (x:Operand):Rel J S w (aA s.T x) (a.eval x):=by
 cases x with
 | tmp t=>exact aL.c3 t
 | const v=>exact lI J S w v
 | global g=>exact .junk _
 | func f=>exact .func f [] [] #[] #[] rfl rfl (by simp) (by simp) (by simp) (by simp)
theorem lu {ops:Array Oper} {o:Oper} {s:a6} {a:Act} (aL:cv B N U J S w s a) {x:Bool} (h:ey ops o s.T=some x):Region.wanted o (yielded ops a.tmps)=x:=by
 unfold ey at h;unfold Region.wanted;split at h
 ·rename_i aO;rw [aO];simpa using h
 ·rename_i j want aO;rw [aO];split at h
  ·rename_i d a2;split at h
   ·rename_i b ag;have aj:=aL.c3 d;rw [ag] at aj;have:=aj.hY;simp only [Option.some.injEq] at h;subst h;have aS:a.tmps[d]?=some (.bool b):=by
     rw [sB] at this;cases h:a.tmps[d]? with
     | none=>rw [h] at this;simp [undef] at this
     | some v=>rw [h] at this;simpa using this
    simp [yielded,a2,aS]
   ·rename_i ag;have aj:=aL.c3 d;rw [ag] at aj;simp only [Option.some.injEq] at h;subst h;have aN:yielded ops a.tmps j=none:=by
     unfold yielded;rw [a2,sc];cases h:a.tmps[d]? with
     | none=>rfl
     | some v =>
       rw [sB,h] at aj;simp only [uL] at aj;cases aj;rfl
    simp [aN]
   ·simp at h
  ·simp at h
theorem cv.skip {T:List I} {a:Act} (aL:cv B N U J S w ⟨T,H⟩ a) (d:Option Tmp):cv B N U J S w ⟨put T d (.tuple []),H⟩ (a.put d undef):=by
 cases d with
 | none=>exact aL
 | some d =>
   refine ⟨?_,aL.H,aL.M⟩;have bW:=aL.T;simp only [put,gR,Act.put] at bW ⊢;have key:∀ (i:Nat) (u:I) (x:Value),(T.set d (.tuple []))[i]?=some u→(a.tmps.toList.set d undef)[i]?=some x→Rel J S w u x∧aV U J S w (.slot i) u x:=fun i u x hu ak=>by
    by_cases aE:d=i
    ·subst aE;(have aS:d<T.length:=by have:=(sb.1 hu).1;simpa using this);rw [si aS] at hu;cases hu;rw [si (by have:=(sb.1 ak).1;simpa using this)] at ak;cases ak;exact ⟨.tuple _ _ rfl (by simp) (by simp),aV.b3 rfl⟩
    ·rw [sj aE] at hu ak;exact ⟨bW.rel i u x hu ak,bW.own i u x hu ak⟩
   refine ⟨by simpa using bW.len,fun i u x hu ak=>?_,fun i u x hu ak=>?_⟩
   ·rw [wc] at ak;exact (key i u x hu ak).1
   ·rw [wc] at ak;exact (key i u x hu ak).2
theorem yh:∀ (k:List Bool) (T:List I) (i:Nat),(eX k T)[i]?=T[i]?∨(eX k T)[i]?=(T[i]?).map fun _=>.junk
 | [],T,i=>.inl (by simp [eX])
 | b::bs,[],i=>.inl (by simp [eX])
 | b::bs,v::vs,i=>by
   cases i with
   | zero=>cases b <;> simp [eX]
   | succ i=>simpa [eX] using yh bs vs i
theorem BG:∀ (k:List Bool) (T:List I),(eX k T).length=T.length
 | [],T=>by simp [eX]
 | b::bs,[]=>by simp [eX]
 | b::bs,v::vs=>by simp [eX,BG bs vs]
theorem cv.cC {s:a6} {a:Act} (aL:cv B N U J S w s a) (mF:List (Nat×List Bool)) (id:Nat):cv B N U J S w (e2 mF id s) a:=by
 unfold e2;split
 ·rename_i k _;refine ⟨⟨by rw [BG];exact aL.T.len,fun i u x hu ak=>?_,fun i u x hu ak=>?_⟩,aL.H,aL.M⟩
  all_goals simp only at hu
  ·rcases yh k s.T i with h | h
   ·rw [h] at hu;exact aL.T.rel i u x hu ak
   ·rw [h] at hu;simp only [sa] at hu;obtain ⟨_,_,rfl⟩:=hu;exact .junk _
  ·rcases yh k s.T i with h | h
   ·rw [h] at hu;exact aL.T.own i u x hu ak
   ·rw [h] at hu;simp only [sa] at hu;obtain ⟨_,_,rfl⟩:=hu;exact aV.b3 rfl
 ·exact aL
theorem Step.here {s:a6} {a:Act} (aL:cv B N U J S w s a):Step B N U J S w s a w:=⟨U,J,S,Ext.refl J,bh.refl U S w,aL⟩
theorem xp {F:Fence} (bE:ei F) {C:b7} (bu:da P C) {lo:Nat} {ops:Array Oper} {aF:a6} {Q:Exit→Act→World→Prop} :
  ∀ (rest:List Oper) (as:List b2) (s:a6) (a:Act) (w:World) (U:Nat→Option aH) (J:List Nat) (S:Nat→Nat→Prop),eO P C lo ops rest as s=some aF→cv B N U J S w s a →
    (∀ aM w',Step B N U J S w aF aM w'→Q .normal aM w')→wpListIn F 0 P ops Q rest a w
 | [],as,s,a,w,U,J,S,h,aL,bo=>by
   simp only [eO,Option.some.injEq] at h;subst h;exact bo a w (Step.here aL)
 | o::rest,as,s,a,w,U,J,S,h,aL,bo=>by
   simp only [eO] at h;unfold wpListIn;split at h
   ·rename_i hw;rw [lu aL hw];simp only [if_true];simp only [sg] at h;obtain ⟨s1,ad,af⟩:=h;refine x6 bE bu ad aL fun aM w' ai=>?_;obtain ⟨b4,c0,a7,aJ,aQ,cf⟩:=ai;exact xp bE bu rest as.tail s1 aM w' b4 c0 a7 af cf fun gT hq dL=>bo gT hq (dL.trans aJ aQ)
   ·rename_i hw;rw [lu aL hw];simp only [tG,if_false];exact ⟨fun f _=>bE.fn f,xp bE bu rest as.tail _ _ w U J S h (aL.skip o.dst) bo⟩
   ·simp at h
end
end Go.Proofs.YtfakoboiahbhaaaGreat.Ab


namespace Go.Proofs.YtfakoboiahbhaaaGreat.Ab
open Go
theorem lS {xs ys:List Nat} (h:jz xs ys=true) (x:Nat) (ak:x∈xs):x ∉ ys:=by
 simp only [jz,sv] at h;have:=h x ak;simpa using this
theorem x3 (u:I):u.settle.settle=u.settle:=by
 cases u <;> try rfl
 rename_i c n k;cases k <;> rfl
theorem ya (u:I):u.settle.view=u.view:=by
 cases u <;> try rfl
 rename_i c n k;cases k <;> rfl
theorem m4 (T:List I) (t j:Nat):(fR T t (c3 T t))[j]?=if t=j then (T[j]?).map I.settle else T[j]?:=by
 have aO:c3 T t=T.getD t .junk:=f' T t;by_cases g8:t=j
 ·subst g8;simp only [if_true];cases h:T[t]? with
  | none =>
    (have aw:c3 T t=.junk:=by rw [aO,sE,h];rfl);rw [aw];simp [fR,h]
  | some u =>
    (have aw:c3 T t=u:=by rw [aO,sE,h];rfl);have aS:=(sb.1 h).1;rw [aw];(cases u <;> try (simp [fR,h,I.settle];done));rename_i c n k;cases k <;> simp only [fR,h,I.settle,gR,sf] <;> rw [si aS]
 ·simp only [g8,if_false];unfold fR;split
  ·rw [gR,sj g8]
  ·rfl
theorem ln (T:List I) (t j:Nat) (v:I):(gQ T t v)[j]?=if t=j then (T[j]?).map fun _=>v else T[j]?:=by
 rw [gR];by_cases h:t=j
 ·subst h;simp only [if_true];rcases sT t T.length with ao | ao
  ·rw [si ao,sm ao];rfl
  ·rw [tx (by simpa using ao),tx ao];rfl
 ·rw [sj h];simp [h]
theorem j8:∀ (xs:List Operand) (ts:List Bool) (T:List I) (j:Nat),
  ((rd T ts xs).2)[j]?=(T[j]?).map fun u=>if j∈cZ ts xs then .junk else if j∈tmpsOf xs then u.settle else u
 | [],ts,T,j=>by simp [rd,cZ,tmpsOf]
 | .tmp t::rest,ts,T,j=>by
   (have ay:tmpsOf (.tmp t::rest)=t::tmpsOf rest:=by simp [tmpsOf]);rw [ay];cases bH:ts.headD false with
   | true =>
     simp only [rd,bH,cZ];rw [j8 rest ts.tail,ln];by_cases g8:t=j
     ·subst g8;simp only [if_true,sq,true_or];cases T[t]? with
      | none=>rfl
      | some u=>simp only [sf,I.settle];split <;> simp
     ·have w_:¬ j=t:=fun e=>g8 e.symm;simp [g8,w_]
   | false =>
     simp only [rd,bH,cZ];rw [j8 rest ts.tail,m4];by_cases g8:t=j
     ·subst g8;simp only [if_true,sq,true_or];cases T[t]? with
      | none=>rfl
      | some u=>simp only [sf,x3];split <;> (try split) <;> rfl
     ·have w_:¬ j=t:=fun e=>g8 e.symm;simp [g8,w_]
 | .const v::rest,ts,T,j=>by simpa [rd,cZ,tmpsOf] using j8 rest ts.tail T j
 | .func f::rest,ts,T,j=>by simpa [rd,cZ,tmpsOf] using j8 rest ts.tail T j
 | .global g::rest,ts,T,j=>by simpa [rd,cZ,tmpsOf] using j8 rest ts.tail T j
theorem Ct {T a':List I} {t:Nat} (h:(T[t]?).map I.settle=(a'[t]?).map I.settle):(c3 T t).view=(c3 a' t).view:=by
 rw [f',f',sE,sE];cases ad:T[t]? <;> cases af:a'[t]? <;> rw [ad,af] at h <;> simp at h <;> simp only [uL];rw [←ya,h,ya]
theorem j7:∀ (xs:List Operand) (ts:List Bool) (T a':List I),(∀ t∈tmpsOf xs,(T[t]?).map I.settle=(a'[t]?).map I.settle)→(∀ t∈cZ ts xs,T[t]?=a'[t]?) →
  (rd T ts xs).1=(rd a' ts xs).1
 | [],ts,T,a',_,_=>by simp [rd]
 | .tmp t::rest,ts,T,a',ad,af=>by
   (have ay:tmpsOf (.tmp t::rest)=t::tmpsOf rest:=by simp [tmpsOf]);rw [ay] at ad;cases bH:ts.headD false with
   | true =>
     simp only [cZ,bH] at af;simp only [rd,bH];have e:T[t]?=a'[t]?:=af t (by simp);rw [j7 rest ts.tail (gQ T t .junk) (gQ a' t .junk) (fun u hu=>?_) (fun u hu=>?_)]
     ·congr 1;rw [f',f',sE,sE,e]
     ·rw [ln,ln];by_cases g_:t=u
      ·subst g_;simp [e]
      ·simp [g_,ad u (by simp [hu])]
     ·rw [ln,ln];by_cases g_:t=u
      ·subst g_;simp [e]
      ·simp [g_,af u (by simp [hu])]
   | false =>
     simp only [cZ,bH] at af;simp only [rd,bH];have e:=ad t (by simp);rw [j7 rest ts.tail (fR T t (c3 T t)) (fR a' t (c3 a' t)) (fun u hu=>?_) (fun u hu=>?_),Ct e]
     ·rw [m4,m4];by_cases g_:t=u
      ·subst g_;simp only [if_true,e]
      ·simp only [g_,if_false];exact ad u (by simp [hu])
     ·rw [m4,m4];by_cases g_:t=u
      ·subst g_;simp only [if_true,e]
      ·simp only [g_,if_false];exact af u hu
 | .const v::rest,ts,T,a',ad,af=>by
   simp only [rd];rw [j7 rest ts.tail T a' (by simpa [tmpsOf] using ad) (by simpa [cZ] using af)];rfl
 | .func f::rest,ts,T,a',ad,af=>by
   simp only [rd];rw [j7 rest ts.tail T a' (by simpa [tmpsOf] using ad) (by simpa [cZ] using af)];rfl
 | .global g::rest,ts,T,a',ad,af=>by
   simp only [rd];rw [j7 rest ts.tail T a' (by simpa [tmpsOf] using ad) (by simpa [cZ] using af)];rfl
section
variable {P:Program}
theorem nn {C:b7} {lo mode:Nat} {o:Oper} {us:List I} {r:I} {H H':List ar} (al:dj o mode=0) (h:a4 P C lo o mode us H=some (r,H')) :
  H'=H∧∀ a3,a4 P C lo o mode us a3=some (r,a3):=by
 have base:∀ {x:Option I},x.map (fun y=>(y,H))=some (r,H')→H'=H∧∀ a3:List ar,x.map (fun y=>(y,a3))=some (r,a3):=fun {x} h=>by
  simp only [sa,Prod.mk.injEq] at h;obtain ⟨_,rfl,rfl,rfl⟩:=h;exact ⟨rfl,fun _=>rfl⟩
 have mi:∀ {t:TypeId} {x:Operand},mode=0→eV P lo mode t x H us=some (r,H')→H'=H∧∀ a3,eV P lo mode t x a3 us=some (r,a3):=fun hm h=>by
  subst hm;unfold eV at h;simp only [eV];split at h
  ·simp only at h ⊢;split at h
   ·simp only [sa,Prod.mk.injEq] at h;obtain ⟨z,bj,rfl,rfl⟩:=h;exact ⟨rfl,fun _=>by simp [bj]⟩
   ·cases h;exact ⟨rfl,fun _=>rfl⟩
  ·simp at h
 cases aD:o.op <;> simp only [dj,aD] at al <;> simp only [a4,aD] at h ⊢
 case move x=>exact mi (by by_cases h:mode=0 <;> simp_all) h
 case assign x=>exact mi (by by_cases h:mode=0 <;> simp_all) h
 case load t a =>
  have hm:mode=3:=by by_cases h:mode=0 <;> by_cases af:mode=2 <;> by_cases aG:mode=3 <;> by_cases bL:mode=5 <;> simp_all
  subst hm;unfold dM at h;simp only [dM];split at h
  ·simp only at h ⊢;split at h
   ·exact base h
   ·cases h
  ·cases h
 case makeSlice t a b =>
  have hm:mode≠0:=by intro h;simp [h] at al
  unfold j4 at h;simp only [j4];split at h
  ·split at h
   ·rename_i iM;split at h
    ·exact absurd rfl hm
    ·split at h
     ·rename_i af;simp only [sa,Prod.mk.injEq] at h;obtain ⟨x,ak,rfl,rfl⟩:=h;exact ⟨rfl,fun _=>by obtain ⟨e,aU⟩:=af;subst e;simp [ak,aU]⟩
     ·simp at h
   ·simp at h
  ·simp at h
 case box e x =>
  have hm:mode≠0:=by intro h;simp [h] at al
  unfold gL at h;simp only [gL];split at h
  ·split at h
   ·exact absurd rfl hm
   ·split at h
    ·rename_i ae;split at h
     ·rename_i aB;cases h;exact ⟨rfl,fun _=>by simp [ae,aB]⟩
     ·cases h
    ·cases h
  ·cases h
 case build t parts =>
  split at h
  ·exact base h
  ·simp only [sa,Prod.mk.injEq] at h ⊢;obtain ⟨x,ak,rfl,rfl⟩:=h;exact ⟨rfl,fun _=>⟨x,ak,rfl,trivial⟩⟩
 case buildSlice t len parts =>
  split at h
  ·exact base h
  ·simp only [sa,Prod.mk.injEq] at h ⊢;obtain ⟨x,ak,rfl,rfl⟩:=h;exact ⟨rfl,fun _=>⟨x,ak,rfl,trivial⟩⟩
 case call c =>
  split at al
  ·split at al
   ·by_cases hm:mode=0 <;> simp [hm] at al
   all_goals simp at al
  ·rename_i f h1;simp only [h1] at h ⊢;have hm:mode=3:=by
    by_cases aU:mode=0
    ·simp [aU] at al
    ·by_cases aG:mode=3
     ·exact aG
     ·by_cases a5:mode=4 <;> by_cases bS:mode=6 <;> simp [aU,aG,a5,bS] at al
   subst hm;unfold hH at h;simp only [hH];split at h
   ·unfold kp at h;simp only [kp];have key:∀ {bZ:e_} {args:List I},eZ C lo 3 bZ args H=some (r,H')→H'=H∧∀ a3,eZ C lo 3 bZ args a3=some (r,a3):=fun {bZ args} h=>by
     simp only [eZ] at h ⊢;split at h
     ·simp only [sg] at h;obtain ⟨x,ak,h⟩:=h;simp only [sa,Prod.mk.injEq] at h;obtain ⟨v,ae,rfl,rfl⟩:=h;rename_i aB;exact ⟨rfl,fun a3=>by simp [ak,ae]⟩
     ·simp at h
    split at h
    ·exact key h
    ·exact key h
    ·simp at h
   ·simp at h
  ·simp at al
 case store=>simp at al
 case alloc=>simp at al
 case makeMap=>simp at al
 case mapUpdate=>simp at al
 case lookup=>simp at al
 case range=>simp at al
 case entry=>simp at al
 all_goals exact base h
def dQ (H a3:List ar):Prop:=∀ (id:Nat) (o:ar),H[id]?=some o→a3[id]?=some o∨(∃ l l',o=.cells l∧a3[id]?=some (.cells l')∧l'.map I.view=l.map I.view)∨∃ l l' g z,o=.grow l g z∧a3[id]?=some (.grow l' g z)∧l'.map I.view=l.map I.view
theorem dQ.cells {H a3:List ar} (h:dQ H a3) {id:Nat} {l:List I} (aE:H[id]?=some (.cells l)):∃ l',a3[id]?=some (.cells l')∧l'.map I.view=l.map I.view:=by
 rcases h id _ aE with h | ⟨ct,l',ad,af,aG⟩ | ⟨_,_,_,_,ad,_⟩
 ·exact ⟨l,h,rfl⟩
 ·cases ad;exact ⟨l',af,aG⟩
 ·cases ad
theorem dQ.grow {H a3:List ar} (h:dQ H a3) {id g z:Nat} {l:List I} (aE:H[id]?=some (.grow l g z)):∃ l',a3[id]?=some (.grow l' g z)∧l'.map I.view=l.map I.view:=by
 rcases h id _ aE with h | ⟨_,_,ad,_⟩ | ⟨ct,l',GJ,cS,ad,af,aG⟩
 ·exact ⟨l,h,rfl⟩
 ·cases ad
 ·cases ad;exact ⟨l',af,aG⟩
theorem dQ.append (H:List ar) (X:List ar):dQ H (H++X):=fun id o h=>.inl (by
 rw [sy (sb.1 h).1];exact h)
theorem zz {t:TypeId} {l l':List I} {off:Nat} (h:l'.map I.view=l.map I.view):ev P t l' off=ev P t l off:=by
 have ao:l'.length=l.length:=by have:=congrArg List.length h;simpa using this
 unfold ev;split
 ·have:∀ s,((l'.drop off).take s).map I.view=((l.drop off).take s).map I.view:=fun s=>by
   rw [ue,ug,h,←ug,←ue]
  simp only [ao,this]
 ·split
  ·have:=congrArg (fun x=>x[off]?) h;simpa using this
  ·rfl
theorem BR {H a3:List ar} (ai:dQ H a3) {t:TypeId} {a r:I} (h:dP P H t a=some r):dP P a3 t a=some r:=by
 unfold dP at h ⊢;split at h
 ·split at h
  ·rename_i l aE;obtain ⟨l',ad,af⟩:=ai.cells aE;rw [ad];simp only;rw [zz af];exact h
  ·rename_i l g z aE;obtain ⟨l',ad,af⟩:=ai.grow aE;rw [ad];simp only;rw [zz af];exact h
  ·simp at h
 ·exact h
 ·simp at h
theorem AN {H a3:List ar} (ai:dQ H a3) {x:I} {row:List I} (h:rowOf H x=some row):rowOf a3 x=some row:=by
 unfold rowOf at h ⊢;split at h
 ·exact h
 ·split at h
  ·rename_i l aE;obtain ⟨l',ad,af⟩:=ai.cells aE;(have ao:l'.length=l.length:=by have:=congrArg List.length af;simpa using this);rw [ad];simp only [ao]
   have:∀ s off,((l'.drop off).take s).map I.view=((l.drop off).take s).map I.view:=fun s off=>by
    rw [ue,ug,af,←ug,←ue]
   simp only [this];exact h
  ·simp at h
 ·simp at h
theorem BZ {H a3:List ar} (ai:dQ H a3) {x:I} {r:Nat×List I} (h:appended H x=some r):appended a3 x=some r:=by
 unfold appended at h ⊢;split at h
 ·rename_i m row hm aj;rw [hm,AN ai aj];exact h
 ·simp at h
theorem BL {H a3:List ar} (ai:dQ H a3) {t dp:TypeId} {s x r:I} (h:e' P H t dp s x=some r):e' P a3 t dp s x=some r:=by
 unfold e' at h ⊢;split at h
 ·split at h
  ·rename_i sz bytes z ad af aG;split at h
   ·rename_i ag;split at h
    ·rename_i m new cb;simp only [BZ ai cb];split at h
     ·rename_i al;rw [if_pos al];split at h
      ·exact h
      ·rename_i id off len cap oC;split at h
       ·rename_i h0;rw [if_pos h0];simp only [sg] at h;obtain ⟨fN,aq,h⟩:=h;simp only [AN ai aq,sc];exact h
       ·simp at h
      ·simp at h
     ·simp at h
    ·simp at h
   ·exact h
  ·simp at h
 ·simp at h
theorem jx {C:b7} {lo mode:Nat} {o:Oper} {us:List I} {r:I} {H H':List ar} (al:dj o mode=1) (h:a4 P C lo o mode us H=some (r,H')) :
  H'=H∧∀ a3,dQ H a3→a4 P C lo o mode us a3=some (r,a3):=by
 cases aD:o.op <;> simp only [dj,aD] at al <;> simp only [a4,aD] at h ⊢
 case load =>
  have hm:mode=0:=by by_cases h:mode=0 <;> by_cases af:mode=2 <;> by_cases aG:mode=3 <;> by_cases bL:mode=5 <;> simp_all
  subst hm;unfold dM at h;simp only [dM];split at h
  ·simp only [sa,Prod.mk.injEq] at h ⊢;obtain ⟨v,ae,rfl,rfl⟩:=h;exact ⟨rfl,fun a3 ai=>⟨v,BR ai ae,rfl,trivial⟩⟩
  ·simp at h
 case call c =>
  split at al
  ·rename_i b po;simp only [po] at h ⊢;split at al
   ·(have hm:mode=0:=by by_cases h:mode=0 <;> simp_all);subst hm;simp only [ew,iU] at h ⊢;split at h
    ·split at h
     ·simp only [sa,Prod.mk.injEq] at h ⊢;obtain ⟨v,ae,rfl,rfl⟩:=h;exact ⟨rfl,fun a3 ai=>⟨v,BL ai ae,rfl,trivial⟩⟩
     ·simp at h
    ·simp at h
   ·simp only [ew,hh] at h ⊢;split at h
    ·split at h
     ·split at h <;> simp at h;obtain ⟨rfl,rfl⟩:=h;exact ⟨rfl,fun _ _=>by simp_all⟩
     ·split at h <;> simp at h;obtain ⟨rfl,rfl⟩:=h;exact ⟨rfl,fun _ _=>by simp_all⟩
     ·split at h
      ·rename_i ay aE;simp at h;obtain ⟨rfl,rfl⟩:=h;refine ⟨rfl,fun a3 ai=>?_⟩;rcases ai _ _ aE with h | ⟨l,l',h,_⟩ | ⟨_,_,_,_,h,_⟩
       ·simp [ay,h]
       ·cases h
       ·cases h
      ·simp at h
     ·split at h
      ·simp at h;obtain ⟨rfl,rfl⟩:=h;exact ⟨rfl,fun _ _=>by simp_all⟩
      ·simp at h
    ·simp at h
   ·simp only [ew,j2] at h ⊢;split at h
    ·split at h <;> simp at h;obtain ⟨rfl,rfl⟩:=h;exact ⟨rfl,fun _ _=>by simp_all⟩
    ·split at h <;> simp at h;obtain ⟨rfl,rfl⟩:=h;exact ⟨rfl,fun _ _=>by simp_all⟩
    ·simp at h
   ·simp only [ew,sa,Prod.mk.injEq] at h ⊢;obtain ⟨v,ae,rfl,rfl⟩:=h;exact ⟨rfl,fun _ _=>⟨v,ae,rfl,trivial⟩⟩
   ·simp only [ew,sa,Prod.mk.injEq] at h ⊢;obtain ⟨v,ae,rfl,rfl⟩:=h;exact ⟨rfl,fun _ _=>⟨v,ae,rfl,trivial⟩⟩
   ·simp at al
  ·exfalso;by_cases aU:mode=0
   ·simp [aU] at al
   ·by_cases aG:mode=3
    ·simp [aG] at al
    ·by_cases a5:mode=4 <;> by_cases bS:mode=6 <;> simp [aU,aG,a5,bS] at al
  ·simp at al
 case move=>by_cases h:mode=0 <;> simp [h] at al
 case assign=>by_cases h:mode=0 <;> simp [h] at al
 case makeSlice=>by_cases h:mode=0 <;> simp [h] at al
 case box=>by_cases h:mode=0 <;> simp [h] at al
 all_goals simp at al
theorem Cb {C:b7} {lo mode:Nat} {o:Oper} {us:List I} {r:I} {H H':List ar} (al:dj o mode=3) (h:a4 P C lo o mode us H=some (r,H')):H'=H:=by
 have base:∀ {x:Option I},x.map (fun y=>(y,H))=some (r,H')→H'=H:=fun {x} h=>by
  simp only [sa,Prod.mk.injEq] at h;obtain ⟨_,rfl,rfl,rfl⟩:=h;rfl
 cases aD:o.op <;> simp only [dj,aD] at al <;> simp only [a4,aD] at h
 case load=>by_cases h:mode=0 <;> by_cases af:mode=2 <;> by_cases aG:mode=3 <;> by_cases bL:mode=5 <;> simp [h,af,aG,bL] at al
 case call c =>
  split at al
  ·split at al
   ·by_cases hm:mode=0 <;> simp [hm] at al
   all_goals simp at al
  ·rename_i f h1;simp only [h1] at h;have hm:mode=0∨mode=4∨mode=6:=by
    by_cases aU:mode=0
    ·exact .inl aU
    ·by_cases aG:mode=3
     ·simp [aG] at al
     ·by_cases a5:mode=4
      ·exact .inr (.inl a5)
      ·by_cases bS:mode=6
       ·exact .inr (.inr bS)
       ·simp [aU,aG,a5,bS] at al
   have key:∀ {bZ:e_} {args:List I},eZ C lo mode bZ args H=some (r,H')→H'=H:=fun {bZ args} h=>by
    rcases hm with rfl | rfl | rfl
    ·simp only [eZ,sg] at h;obtain ⟨x,_,h⟩:=h;exact base h
    ·simp only [eZ,sg,sa,Prod.mk.injEq] at h;obtain ⟨x,_,v,_,_,h⟩:=h;exact h.symm
    ·simp only [eZ] at h;split at h
     ·simp only [sg] at h;obtain ⟨x,_,v,_,h⟩:=h;split at h
      ·simp only [Option.some.injEq,Prod.mk.injEq] at h;exact h.2.symm
      ·cases h
     ·cases h
   unfold hH at h;split at h
   ·unfold kp at h;split at h
    ·exact key h
    ·exact key h
    ·simp at h
   ·simp at h
  ·simp at al
 case move=>by_cases h:mode=0 <;> simp [h] at al
 case assign=>by_cases h:mode=0 <;> simp [h] at al
 case makeSlice=>by_cases h:mode=0 <;> simp [h] at al
 case box=>by_cases h:mode=0 <;> simp [h] at al
 all_goals simp at al
theorem Gp {off:Nat} {l:List I} {u:I} (hu:l[off]?=some u):(l.set off u.view).map I.view=l.map I.view:=by
 rw [uP];have kO:u.view.view=u.view:=I.kj (I.dg u);rw [kO];apply tH;intro j;by_cases aw:off=j
 ·subst aw;rw [si (by simpa using (sb.1 hu).1),ss,hu];rfl
 ·rw [sj aw]
theorem Fw {H:List ar} {id off g z:Nat} {l:List I} {u:I} (aE:H[id]?=some (.grow l g z)) (hu:l[off]?=some u):dQ H (H.set id (.grow (l.set off u.view) g z))∧dQ (H.set id (.grow (l.set off u.view) g z)) H:=by
 have ae:=Gp hu;have aS:=(sb.1 aE).1;constructor
 ·intro i o h;by_cases hi:id=i
  ·subst hi;rw [aE] at h;cases h;exact .inr (.inr ⟨l,_,g,z,rfl,si aS,ae⟩)
  ·exact .inl (by rw [sj hi];exact h)
 ·intro i o h;by_cases hi:id=i
  ·subst hi;rw [si aS] at h;cases h;exact .inr (.inr ⟨_,l,g,z,rfl,aE,ae.symm⟩)
  ·rw [sj hi] at h;exact .inl h
theorem A6 {H:List ar} {id off:Nat} {l:List I} {u:I} (aE:H[id]?=some (.cells l)) (hu:l[off]?=some u):dQ H (H.set id (.cells (l.set off u.view)))∧dQ (H.set id (.cells (l.set off u.view))) H:=by
 have ae:(l.set off u.view).map I.view=l.map I.view:=by
  rw [uP];have kO:u.view.view=u.view:=I.kj (I.dg u);rw [kO];apply tH;intro j;by_cases aw:off=j
  ·subst aw;rw [si (by simpa using (sb.1 hu).1),ss,hu];rfl
  ·rw [sj aw]
 have aS:=(sb.1 aE).1;constructor
 ·intro i o h;by_cases hi:id=i
  ·subst hi;rw [aE] at h;cases h;exact .inr (.inl ⟨l,_,rfl,si aS,ae⟩)
  ·exact .inl (by rw [sj hi];exact h)
 ·intro i o h;by_cases hi:id=i
  ·subst hi;rw [si aS] at h;cases h;exact .inr (.inl ⟨_,l,rfl,aE,ae.symm⟩)
  ·rw [sj hi] at h;exact .inl h
theorem yx {C:b7} {lo mode:Nat} {o:Oper} {us:List I} {r:I} {H H':List ar} (al:dj o mode=5) (h:a4 P C lo o mode us H=some (r,H')):dQ H H'∧dQ H' H:=by
 have refl:dQ H H:=fun id o h=>.inl h;cases aD:o.op <;> simp only [dj,aD] at al <;> simp only [a4,aD] at h
 case load t a =>
  have hm:mode≠0:=by intro h;simp [h] at al
  unfold dM at h;split at h
  ·split at h
   ·exact absurd rfl hm
   ·simp at al
   ·simp at al
   ·split at h
    ·split at h
     ·split at h
      ·rename_i l aE;split at h
       ·rename_i c n z cO;cases h;exact A6 aE cO
       ·rename_i c n z cO;rw [if_neg (by intro af;simp [af] at al)] at h;cases h;exact A6 aE cO
       ·cases h;exact ⟨refl,refl⟩
       ·simp at h
      ·rename_i l g z aE;split at h
       ·rename_i c n cS cO;cases h;exact Fw aE cO
       ·cases h;exact ⟨refl,refl⟩
       ·cases h
      ·simp at h
     ·simp at h
    ·simp at h
  ·simp at h
 case call c =>
  split at al
  ·split at al
   ·by_cases hm:mode=0 <;> simp [hm] at al
   all_goals simp at al
  ·exfalso;by_cases aU:mode=0
   ·simp [aU] at al
   ·by_cases aG:mode=3
    ·simp [aG] at al
    ·by_cases a5:mode=4 <;> by_cases bS:mode=6 <;> simp [aU,aG,a5,bS] at al
  ·simp at al
 case move=>by_cases h:mode=0 <;> simp [h] at al
 case assign=>by_cases h:mode=0 <;> simp [h] at al
 case makeSlice=>by_cases h:mode=0 <;> simp [h] at al
 case box=>by_cases h:mode=0 <;> simp [h] at al
 all_goals simp at al
theorem Cc {C:b7} {lo mode:Nat} {o:Oper} {us:List I} {r:I} {H H':List ar} (al:dj o mode=6) (h:a4 P C lo o mode us H=some (r,H')):dQ H H':=by
 cases aD:o.op <;> simp only [dj,aD] at al <;> simp only [a4,aD] at h
 case load=>by_cases h:mode=0 <;> by_cases af:mode=2 <;> by_cases aG:mode=3 <;> by_cases bL:mode=5 <;> simp [h,af,aG,bL] at al
 case box e x =>
  have hm:mode=0:=by by_cases h:mode=0 <;> simp_all
  subst hm;unfold gL at h;split at h
  ·simp only [sa,Prod.mk.injEq] at h;obtain ⟨_,_,_,rfl⟩:=h;exact dQ.append _ _
  ·simp at h
 case alloc t =>
  unfold k2 at h;split at h
  ·simp only [sa,Prod.mk.injEq] at h;obtain ⟨_,_,_,rfl⟩:=h;exact dQ.append _ _
  ·split at h
   ·simp only [sa,Prod.mk.injEq] at h;obtain ⟨_,_,_,rfl⟩:=h;exact dQ.append _ _
   ·cases h
 case call c =>
  split at al
  ·split at al
   ·by_cases hm:mode=0 <;> simp [hm] at al
   all_goals simp at al
  ·exfalso;by_cases aU:mode=0
   ·simp [aU] at al
   ·by_cases aG:mode=3
    ·simp [aG] at al
    ·by_cases a5:mode=4 <;> by_cases bS:mode=6 <;> simp [aU,aG,a5,bS] at al
  ·simp at al
 case move=>by_cases h:mode=0 <;> simp [h] at al
 case assign=>by_cases h:mode=0 <;> simp [h] at al
 case makeSlice=>by_cases h:mode=0 <;> simp [h] at al
 all_goals simp at al
noncomputable def dz (P:Program) (C:b7) (lo:Nat) (ops:Array Oper) (o:Oper) (an:b2) (s:a6):Option a6 :=
 match ey ops o s.T with
 | some true=>Ab.execOp P C lo o an s
 | some false=>some ⟨put s.T o.dst (.tuple []),s.H⟩
 | none=>none
theorem Bx {ops:Array Oper} {o:Oper} {T a':List I} (h:∀ t∈pa ops o,(T[t]?).map I.settle=(a'[t]?).map I.settle):ey ops o T=ey ops o a':=by
 unfold ey;split
 ·rfl
 ·rename_i j want aO;split
  ·rename_i d a2;have hm:=h d (by simp [pa,aO,a2]);have ai:(c3 T d).settle=(c3 a' d).settle:=by
    rw [f',f',sE,sE];cases ad:T[d]? <;> cases af:a'[d]? <;> rw [ad,af] at hm <;> simp at hm <;> simp [hm]
   have key:∀ x:I,(match x with | .bool b=>some (b == want) | .tuple []=>some false | _=>none)=(match x.settle with | .bool b=>some (b == want) | .tuple []=>some false | _=>none):=fun x=>by
    (cases x <;> try rfl);rename_i c n k;cases k <;> rfl
   exact (key _).trans (Eq.trans (by rw [ai]) (key _).symm)
  ·rfl
theorem ob (T:List I) (d:Option Nat) (v:I) (j:Nat):(put T d v)[j]?=if d=some j then (T[j]?).map fun _=>v else T[j]?:=by
 cases d with
 | none=>simp [put]
 | some d=>simp only [put,ln,Option.some.injEq]
def gZ (o:Oper) (an:b2) (w:Bool) (r:I) (j:Nat) (u:I):I :=
 if o.dst=some j then r else if w=false then u else if j∈cZ an.takes (opsOf o) then .junk else if j∈tmpsOf (opsOf o) then u.settle else u
theorem yv {o:Oper} {mode:Nat} (h:calm o mode=true) (T:List I) (v:I):inPlace o mode T v=T:=by
 unfold inPlace;split
 ·rfl
 ·rfl
 ·rename_i hm _;split
  ·rename_i aD;simp [calm,aD] at h;exact absurd h hm
  ·rename_i aD;simp [calm,aD] at h;exact absurd h hm
  ·rfl
theorem Bo {C:b7} {lo:Nat} {ops:Array Oper} {o:Oper} {an:b2} {s aF:a6} (pk:calm o an.mode=true) (h:dz P C lo ops o an s=some aF) :
  ∃ w r,ey ops o s.T=some w∧(∀ j,aF.T[j]?=(s.T[j]?).map (gZ o an w r j)) ∧
    (w=true→a4 P C lo o an.mode (ft (dH o an.mode) (rd s.T an.takes (opsOf o)).1) s.H=some (r,aF.H))∧(w=false→r=.tuple []∧aF.H=s.H):=by
 unfold dz at h;split at h
 ·rename_i hw;obtain ⟨r,H',aD,rfl⟩:=o3 h;refine ⟨true,r,hw,fun j=>?_,fun _=>aD,by simp⟩;rw [yv pk];simp only [ob,j8];cases s.T[j]? with
  | none=>split <;> rfl
  | some u=>by_cases a2:o.dst=some j <;> simp [gZ,a2]
 ·rename_i hw;simp only [Option.some.injEq] at h;subst h;refine ⟨false,.tuple [],hw,fun j=>?_,by simp,fun _=>⟨rfl,rfl⟩⟩;simp only [ob];cases s.T[j]? with
  | none=>split <;> rfl
  | some u=>by_cases a2:o.dst=some j <;> simp [gZ,a2]
 ·simp at h
theorem Bm {C:b7} {lo:Nat} {ops:Array Oper} {o:Oper} {an:b2} {s:a6} (pk:calm o an.mode=true) {w:Bool} {r:I} {H':List ar} (hw:ey ops o s.T=some w)
  (ad:w=true→a4 P C lo o an.mode (ft (dH o an.mode) (rd s.T an.takes (opsOf o)).1) s.H=some (r,H')) (af:w=false→r=.tuple []∧H'=s.H) :
  ∃ a',dz P C lo ops o an s=some ⟨a',H'⟩∧∀ j,a'[j]?=(s.T[j]?).map (gZ o an w r j):=by
 cases w with
 | true =>
   refine ⟨put (inPlace o an.mode (rd s.T an.takes (opsOf o)).2 r) o.dst r,?_,fun j=>?_⟩
   ·have ad:=ad rfl;simp only [dz,hw,Ab.execOp];unfold ft at ad;cases ao:dH o an.mode <;> rw [ao] at ad <;> simp only at ad ⊢ <;> rw [ad] <;> rfl
   ·rw [yv pk];simp only [ob,j8];cases s.T[j]? with
    | none=>split <;> rfl
    | some u=>by_cases a2:o.dst=some j <;> simp [gZ,a2]
 | false =>
   obtain ⟨rfl,rfl⟩:=af rfl;refine ⟨put s.T o.dst (.tuple []),by simp only [dz,hw],fun j=>?_⟩;simp only [ob];cases s.T[j]? with
   | none=>split <;> rfl
   | some u=>by_cases a2:o.dst=some j <;> simp [gZ,a2]
theorem DW {t:TypeId} {H:List ar} {id c dU:Nat} {es es':List (Nat×I×I)} (aE:H[id]?=some (.map es c)) (a:I):dP P (H.set id (.map es' dU)) t a=dP P H t a:=by
 have ao:=(sb.1 aE).1;unfold dP;cases a with
 | ptr i off =>
   simp only;by_cases h:id=i
   ·subst h;rw [si ao,aE]
   ·rw [sj h]
 | _=>rfl
theorem DX {C:b7} {lo:Nat} {bD bQ:Oper} {df:Nat} {us vs:List I} {r1 r2:I} {H a3:List ar} (h:kW bD 0 bQ=true) (ad:a4 P C lo bD 0 us H=some (r1,H)) (af:a4 P C lo bQ df vs H=some (r2,a3)) :
  a4 P C lo bD 0 us a3=some (r1,a3):=by
 unfold kW at h;split at h
 ·rename_i t x je m k v iO dW;simp only [a4,iO] at ad ⊢;simp only [a4,dW] at af;unfold dM at ad ⊢;split at ad
  ·rename_i a;simp only [sa,Prod.mk.injEq] at ad;obtain ⟨r,ad,rfl,-⟩:=ad;have key:∃ id c es dU es',H[id]?=some (.map es c)∧a3=H.set id (.map es' dU):=by
    unfold iW at af;split at af
    ·split at af
     ·split at af
      ·split at af
       ·split at af
        ·rename_i aE;split at af
         ·cases af;exact ⟨_,_,_,_,_,aE,rfl⟩
         ·cases af;exact ⟨_,_,_,_,_,aE,rfl⟩
         ·simp at af
        ·simp at af
       ·simp at af
      ·simp at af
     ·simp at af
    ·simp at af
   obtain ⟨id,c,es,dU,es',aE,rfl⟩:=key;simp only;rw [DW aE,ad];rfl
  ·simp at ad
 ·simp at h
theorem Bk {C:b7} {lo:Nat} {ops:Array Oper} {bD bQ:Oper} {aC aI:b2} (hi:indep ops bD aC bQ aI=true) {s s1 s2:a6} (ad:dz P C lo ops bD aC s=some s1) (af:dz P C lo ops bQ aI s1=some s2) :
  ∃ s3,dz P C lo ops bQ aI s=some s3∧dz P C lo ops bD aC s3=some s2:=by
 simp only [indep,sx] at hi;obtain ⟨⟨⟨⟨⟨⟨⟨d1,d2⟩,d3⟩,d4⟩,d5⟩,a_⟩,ba⟩,bH⟩:=hi;have e1:∀ t,bD.dst=some t→t ∉ e7 ops bQ:=fun t ay=>lS d1 t (by simp [ay]);have b':∀ t,bQ.dst=some t→t ∉ e7 ops bD:=fun t ay=>lS d2 t (by simp [ay]);have du:∀ t,bD.dst=some t→bQ.dst≠some t:=fun t ay h=>lS d3 t (by simp [ay]) (by simp [h]);have lT:=lS d4;have lU:=lS d5;have jf:∀ (xs:List Operand) (ts:List Bool) (t:Nat),t∈cZ ts xs→t∈tmpsOf xs:=by
  intro xs
  induction xs with
  | nil=>intro ts t h;simp [cZ] at h
  | cons x rest a9 =>
    intro ts t h;cases x with
    | tmp u =>
      (have ay:tmpsOf (.tmp u::rest)=u::tmpsOf rest:=by simp [tmpsOf]);rw [ay];simp only [cZ] at h;split at h
      ·rcases sq.1 h with rfl | h
       ·simp
       ·exact tV _ (a9 _ t h)
      ·exact tV _ (a9 _ t h)
    | const v=>simpa [tmpsOf] using a9 _ t (by simpa [cZ] using h)
    | func f=>simpa [tmpsOf] using a9 _ t (by simpa [cZ] using h)
    | global g=>simpa [tmpsOf] using a9 _ t (by simpa [cZ] using h)
 obtain ⟨bG,r1,ca,t1,fx,v1⟩:=Bo a_ ad;obtain ⟨bX,r2,b5,t2,gl,v2⟩:=Bo ba af;have cC:∀ (o:Oper) (a:b2) (w:Bool) (r:I) (t:Nat),o.dst≠some t→t ∉ cZ a.takes (opsOf o)→∀ u,(gZ o a w r t u).settle=u.settle:=fun o a w r t a2 ay u=>by
  unfold gZ;rw [if_neg a2];split
  ·rfl
  ·by_cases h:t∈tmpsOf (opsOf o) <;> simp only [h,if_true,if_false];exact x3 u
 have stay:∀ (o:Oper) (a:b2) (w:Bool) (r:I) (t:Nat),o.dst≠some t→t ∉ tmpsOf (opsOf o)→∀ u,gZ o a w r t u=u:=fun o a w r t a2 ay u=>by
  unfold gZ;rw [if_neg a2];split
  ·rfl
  ·have DH:t ∉ cZ a.takes (opsOf o):=fun h=>ay (jf _ _ t h);simp only [DH,if_false]
 have de:∀ t∈e7 ops bQ,(s1.T[t]?).map I.settle=(s.T[t]?).map I.settle:=fun t ay=>by
  rw [t1];cases s.T[t]? with
  | none=>rfl
  | some u=>simp only [sf];rw [cC bD aC bG r1 t (fun h=>e1 t h ay) (fun h=>lT t h ay)]
 have aJ:∀ t∈cZ aI.takes (opsOf bQ),s1.T[t]?=s.T[t]?:=fun t ay=>by
  rw [t1];have aN:bD.dst≠some t:=fun h=>e1 t h (by simp [e7,jf _ _ t ay]);have pJ:t ∉ tmpsOf (opsOf bD):=fun h=>lU t ay (by simp [e7,h]);cases s.T[t]? with
  | none=>rfl
  | some u=>simp only [sf];rw [stay bD aC bG r1 t aN pJ]
 have Cw:ey ops bQ s.T=some bX:=by rw [←b5];exact (Bx fun t ay=>de t (by simp [e7,ay])).symm
 have c_:(rd s1.T aI.takes (opsOf bQ)).1=(rd s.T aI.takes (opsOf bQ)).1:=j7 _ _ _ _ (fun t ay=>de t (by simp [e7,ay])) aJ;have Ak:∀ {o:Oper} {a:b2} {us:List I} {r:I} {H H':List ar},dj o a.mode=1∨dj o a.mode=3→a4 P C lo o a.mode us H=some (r,H')→H'=H:=fun al aD=>by
  rcases al with al | al
  ·exact (jx al aD).1
  ·exact Cb al aD
 have av:dj bD aC.mode=0∨dj bQ aI.mode=0∨((dj bD aC.mode=1∨dj bD aC.mode=3)∧(dj bQ aI.mode=1∨dj bQ aI.mode=3)) ∨
   (dj bD aC.mode=1∧dj bQ aI.mode=5)∨(dj bD aC.mode=5∧dj bQ aI.mode=1)∨(dj bD aC.mode=1∧dj bQ aI.mode=6)∨(aC.mode=0∧kW bD 0 bQ=true):=by
  rw [tI] at bH;rcases bH with bH | bH
  rotate_left
  ·refine .inr (.inr (.inr (.inr (.inr (.inr ?_)))));have aU:aC.mode=0:=by
    unfold kW at bH;split at bH
    ·simpa using bH
    ·simp at bH
   rw [aU] at bH;exact ⟨aU,bH⟩
  simp only [bP,tI,sx,beq_iff_eq] at bH;rcases bH with ((((h | h) | h) | h) | h) | h
  ·exact .inl h
  ·exact .inr (.inl h)
  ·exact .inr (.inr (.inl h))
  ·exact .inr (.inr (.inr (.inl h)))
  ·exact .inr (.inr (.inr (.inr (.inl h))))
  ·exact .inr (.inr (.inr (.inr (.inr (.inl h)))))
 have mem:∃ hT,(bX=true→a4 P C lo bQ aI.mode (ft (dH bQ aI.mode) (rd s.T aI.takes (opsOf bQ)).1) s.H=some (r2,hT))∧(bX=false→r2=.tuple []∧hT=s.H) ∧
   (bG=true→∀ vs,a4 P C lo bD aC.mode vs s.H=some (r1,s1.H)→a4 P C lo bD aC.mode vs hT=some (r1,s2.H))∧(bG=false→s2.H=hT):=by
  cases bX with
  | false =>
    obtain ⟨q1,aW⟩:=v2 rfl;refine ⟨s.H,by simp,fun _=>⟨q1,rfl⟩,fun _ vs h=>by rw [aW];exact h,fun hw=>by rw [aW];exact (v1 hw).2⟩
  | true =>
    have dW:=gl rfl;rw [c_] at dW;cases bG with
    | false =>
      have q:=(v1 rfl).2;rw [q] at dW;exact ⟨s2.H,fun _=>dW,by simp,by simp,fun _=>rfl⟩
    | true =>
      have iO:=fx rfl;rcases av with h | h | ⟨h,aX⟩ | ⟨h,aX⟩ | ⟨h,aX⟩ | ⟨h,aX⟩ | ⟨h,aX⟩
      ·have q:=(nn h iO).1;rw [q] at dW;exact ⟨s2.H,fun _=>dW,by simp,fun _ vs bH=>(nn h bH).2 s2.H,by simp⟩
      ·have q:=(nn h dW).1;refine ⟨s.H,fun _=>(nn h dW).2 s.H,by simp,fun _ vs bH=>by rw [q];exact bH,by simp⟩
      ·have q1:=Ak h iO;have aW:=Ak aX dW;rw [aW,q1] at dW;exact ⟨s.H,fun _=>dW,by simp,fun _ vs bH=>by rw [aW];exact bH,by simp⟩
      ·have q1:=(jx h iO).1;rw [q1] at dW;exact ⟨s2.H,fun _=>dW,by simp,fun _ vs bH=>(jx h bH).2 s2.H (yx aX dW).1,by simp⟩
      ·obtain ⟨aW,cx⟩:=jx aX dW;exact ⟨s.H,fun _=>cx s.H (yx h iO).2,by simp,fun _ vs bH=>by rw [aW];exact bH,by simp⟩
      ·have q1:=(jx h iO).1;rw [q1] at dW;exact ⟨s2.H,fun _=>dW,by simp,fun _ vs bH=>(jx h bH).2 s2.H (Cc aX dW),by simp⟩
      ·have q1:s1.H=s.H:=by
        have al:dj bD aC.mode=1:=by
         unfold kW at aX;split at aX
         ·rename_i aD _;simp only [dj,aD,h];rfl
         ·simp at aX
        exact (jx al iO).1
       rw [q1] at dW;refine ⟨s2.H,fun _=>dW,by simp,fun _ vs bH=>?_,by simp⟩;rw [q1] at bH;rw [h] at bH ⊢;exact DX aX bH dW
 obtain ⟨hT,bp,cH,eB,jw⟩:=mem;obtain ⟨dD,DA,pf⟩:=Bm (C:=C) (lo:=lo) (s:=s) ba Cw bp cH;have df:∀ t∈e7 ops bD,(dD[t]?).map I.settle=(s.T[t]?).map I.settle:=fun t ay=>by
  rw [pf];cases s.T[t]? with
  | none=>rfl
  | some u=>simp only [sf];rw [cC bQ aI bX r2 t (fun h=>b' t h ay) (fun h=>lU t h ay)]
 have aQ:∀ t∈cZ aC.takes (opsOf bD),dD[t]?=s.T[t]?:=fun t ay=>by
  rw [pf];have aN:bQ.dst≠some t:=fun h=>b' t h (by simp [e7,jf _ _ t ay]);have pJ:t ∉ tmpsOf (opsOf bQ):=fun h=>lT t ay (by simp [e7,h]);cases s.T[t]? with
  | none=>rfl
  | some u=>simp only [sf];rw [stay bQ aI bX r2 t aN pJ]
 have Cv:ey ops bD dD=some bG:=by rw [←ca];exact Bx fun t ay=>df t (by simp [e7,ay])
 have dX:(rd dD aC.takes (opsOf bD)).1=(rd s.T aC.takes (opsOf bD)).1:=j7 _ _ _ _ (fun t ay=>df t (by simp [e7,ay])) aQ
 obtain ⟨BJ,DB,CE⟩:=Bm (C:=C) (lo:=lo) (s:=⟨dD,hT⟩) (r:=r1) (H':=s2.H) a_ Cv (fun hw=>by
  simp only;rw [dX];exact eB hw _ (fx hw)) (fun hw=>⟨(v1 hw).1,jw hw⟩)
 refine ⟨⟨dD,hT⟩,DA,?_⟩;rw [DB];congr 1
 have:BJ=s2.T:=by
  apply tH;intro j;rw [CE,t2];simp only [pf,t1];cases s.T[j]? with
  | none=>rfl
  | some u =>
    simp only [sf,Option.some.injEq];unfold gZ;have Gw:=du j;have lx:=e1 j;have ly:=b' j;have BD:=lT j;have BE:=lU j;have yg:=jf (opsOf bD) aC.takes j;have oH:=jf (opsOf bQ) aI.takes j;simp only [e7,List.mem_append,not_or] at lx ly BD BE;by_cases bR:bD.dst=some j
    ·have q:=(lx bR).2;have fQ:j ∉ cZ aI.takes (opsOf bQ):=fun h=>q (oH h);simp only [bR,if_true,Gw bR,if_false,q,fQ];split <;> rfl
    ·by_cases bY:bQ.dst=some j
     ·have q:=(ly bY).2;have fQ:j ∉ cZ aC.takes (opsOf bD):=fun h=>q (yg h);simp only [bR,bY,if_true,if_false,q,fQ];split <;> rfl
     ·simp only [bR,bY,if_false];by_cases oD:j∈cZ aC.takes (opsOf bD)
      ·have q:=(BD oD).2;have fQ:j ∉ cZ aI.takes (opsOf bQ):=fun h=>q (oH h);simp only [oD,q,fQ,if_true,if_false];split <;> split <;> rfl
      ·by_cases x9:j∈cZ aI.takes (opsOf bQ)
       ·have q:=(BE x9).2;simp only [oD,x9,q,if_true,if_false];split <;> split <;> rfl
       ·simp only [oD,x9,if_false];by_cases Fo:j∈tmpsOf (opsOf bD) <;> by_cases Fp:j∈tmpsOf (opsOf bQ) <;> simp only [Fo,Fp,if_true,if_false] <;> split <;> split <;> first | rfl | rw [x3]
 rw [this]
end
end Go.Proofs.YtfakoboiahbhaaaGreat.Ab


namespace Go.Proofs.YtfakoboiahbhaaaGreat.Ab
open Go
section
variable {P:Program}
theorem mM (ms:List Nat) (j:Nat):∀ (l:List Edge) (n0:Nat),(l.foldl (fun m e=>if Region.binds .any e then m ||| (ms.getD e.on 0 ||| 1 <<< e.on) else m) n0).testBit j=true →
  n0.testBit j=true∨∃ e∈l,Region.binds .any e=true∧((ms.getD e.on 0).testBit j=true∨j=e.on)
 | [],n0,h=>.inl h
 | e::l,n0,h=>by
   simp only [List.foldl_cons] at h;rcases mM ms j l _ h with ad | ⟨cW,jG,ag,ad⟩
   ·by_cases ag:Region.binds .any e=true
    ·simp only [ag,if_true,Nat.testBit_or,tI] at ad;rcases ad with ad | ad | ad
     ·exact .inl ad
     ·exact .inr ⟨e,by simp,ag,.inl ad⟩
     ·refine .inr ⟨e,by simp,ag,.inr ?_⟩;rw [Nat.one_shiftLeft,Nat.testBit_two_pow] at ad;simpa using (of_decide_eq_true ad).symm
    ·simp only [ag] at ad;exact .inl ad
   ·exact .inr ⟨cW,by simp [jG],ag,ad⟩
def lQ (ops:Array Oper) (listed:Array Bool):Prop :=
 ∀ k o,ops[k]?=some o→listed.getD k true=true→∀ e∈o.after,Region.binds .any e=true→listed.getD e.on false=true
noncomputable def cu (P:Program) (C:b7) (lo:Nat) (ops:Array Oper) (as:List b2):List Nat→a6→Option a6
 | [],s=>some s
 | i::r,s=>match ops[i]? with
   | none=>cu P C lo ops as r s
   | some o=>(dz P C lo ops o (as.getD i {}) s).bind (cu P C lo ops as r)
theorem yF {C:b7} {lo:Nat} {ops:Array Oper} {as:List b2}:∀ (l:List Oper) (k:Nat) (s:a6),(∀ j,l[j]?=ops[k+j]?)→eO P C lo ops l (as.drop k) s=cu P C lo ops as (List.range' k l.length) s
 | [],k,s,_=>by simp [eO,cu]
 | o::l,k,s,h=>by
   (have aU:ops[k]?=some o:=by simpa using (h 0).symm);have a9:=fun s=>yF (C:=C) (lo:=lo) (as:=as) l (k+1) s (fun j=>by have:=h (j+1);simpa [Nat.add_assoc,Nat.add_comm 1 j] using this);(have a2:(as.drop k).headD {}=as.getD k {}:=by rw [List.headD_eq_head?_getD,List.head?_drop,sE]);(have ay:(as.drop k).tail=as.drop (k+1):=by rw [List.tail_drop]);simp only [eO,sM,List.range'_succ,cu,aU,a2,ay];unfold dz;split
   ·rename_i hw;simp only [hw];congr 1;funext aF;exact a9 aF
   ·rename_i hw;simp only [hw];exact a9 _
   ·rename_i hw;simp only [hw];rfl
def eJ (n:Nat) (listed:Array Bool):List Nat:=(List.range n).filter fun i=>!listed.getD i true
theorem Ar {n i:Nat} {listed:Array Bool}:eJ n (listed.setIfInBounds i true)=(eJ n listed).erase i:=by
 have jP:(eJ n listed).Nodup:=List.nodup_range.filter _;rw [jP.erase_eq_filter];simp only [eJ,List.filter_filter];congr 1;funext j;by_cases g3:j=i
 ·subst g3;rcases sT j listed.size with h | h
  ·simp [sB,h]
  ·simp [sB,h]
 ·have:(listed.setIfInBounds i true).getD j true=listed.getD j true:=by
   simp only [sB];rw [Array.getElem?_setIfInBounds_ne (Ne.symm g3)]
  rw [this];simp [g3]
theorem xZ {C:b7} {lo:Nat} {ops:Array Oper} {as:List b2} {i:Nat} {cN:Oper} (hi:ops[i]?=some cN) {aF:a6}:∀ (l:List Nat) (s:a6),l.Pairwise (·<·)→i∈l →
  (∀ j∈l,j<i→∀ c2,ops[j]?=some c2→indep ops c2 (as.getD j {}) cN (as.getD i {})=true)→cu P C lo ops as l s=some aF →
  ∃ s1,dz P C lo ops cN (as.getD i {}) s=some s1∧cu P C lo ops as (l.erase i) s1=some aF
 | [],s,_,h,_,_=>by simp at h
 | j::r,s,aB,hm,jI,h=>by
   by_cases g5:j=i
   ·subst g5;simp only [cu,hi,sg] at h;obtain ⟨s1,ad,af⟩:=h;exact ⟨s1,ad,by simpa using af⟩
   ·have aj:i∈r:=by
     rcases sq.1 hm with h | h
     ·exact absurd h.symm g5
     ·exact h
    have aS:j<i:=(tB.1 aB).1 i aj;have he:(j::r).erase i=j::r.erase i:=by
     rw [List.erase_cons];simp [g5]
    rw [he];simp only [cu] at h ⊢;cases aw:ops[j]? with
    | none =>
      simp only [aw] at h;exact xZ hi r s (tB.1 aB).2 aj (fun k av=>jI k (by simp [av])) h
    | some c2 =>
      simp only [aw,sg] at h;obtain ⟨s1,ad,af⟩:=h;obtain ⟨s2,aJ,aQ⟩:=xZ hi r s1 (tB.1 aB).2 aj (fun k av=>jI k (by simp [av])) af;obtain ⟨s3,q1,aW⟩:=Bk (jI j (by simp) aS c2 aw) ad aJ;exact ⟨s3,q1,by dsimp only;rw [aW];exact aQ⟩
variable {B N:Nat} {J:List Nat} {w:World} {U:Nat→Option aH} {S:Nat→Nat→Prop}
theorem Bn {F:Fence} (bE:ei F) {C:b7} (bu:da P C) {lo:Nat} {ops:Array Oper} {Q:Exit→Act→World→Prop} {i:Nat} {o:Oper} (hi:ops[i]?=some o) {an:b2} {s aF:a6}
  (h:dz P C lo ops o an s=some aF) {a:Act} (aL:cv B N U J S w s a) {K:Act→World→Prop} (fF:∀ aM w',Step B N U J S w aF aM w'→K aM w'):wpOpIn F 0 P ops Q i K a w:=by
 unfold wpOpIn;simp only [hi];unfold dz at h;split at h
 ·rename_i hw;rw [lu aL hw];simp only [if_true];exact x6 bE bu h aL fF
 ·rename_i hw;rw [lu aL hw];simp only [tG,if_false];simp only [Option.some.injEq] at h;subst h;exact ⟨fun f _=>bE.fn f,fF _ _ (Step.here (aL.skip o.dst))⟩
 ·simp at h
theorem BT {F:Fence} (bE:ei F) {C:b7} (bu:da P C) {lo:Nat} {ops:Array Oper} {as:List b2} (a2:nq ops as=true) {Q:Exit→Act→World→Prop} {aF:a6} :
  ∀ (fuel:Nat) (listed:Array Bool) (s:a6) (a:Act) (w:World) (U:Nat→Option aH) (J:List Nat) (S:Nat→Nat→Prop),(eJ ops.size listed).length≤fuel→lQ ops listed →
    cu P C lo ops as (eJ ops.size listed) s=some aF→cv B N U J S w s a→(∀ aM w',Step B N U J S w aF aM w'→Q .normal aM w')→wpAnyIn F 0 P .any ops Q fuel listed a w:=by
 have cT:∀ j c2,ops[j]?=some c2→((hc ops.toList []).getD j 0=mL (hc ops.toList []) c2)∧(∀ e∈c2.after,Region.binds .any e=true→e.on<j) ∧
   ∀ i cN,i<j→ops[i]?=some cN→((hc ops.toList []).getD j 0).testBit i=true∨indep ops cN (as.getD i {}) c2 (as.getD j {})=true:=fun j c2 aw=>by
  have aS:j<ops.size:=(sY.1 aw).1;simp only [nq,z4,sv,sK] at a2;have h:=a2 j aS;rw [aw] at h;simp only [sx,beq_iff_eq,sv,sK] at h;obtain ⟨⟨ad,af⟩,aG⟩:=h;refine ⟨ad,fun e he ag=>?_,fun i cN g3 hi=>?_⟩
  ·have:=af e (by simpa using he);simp only [ag,Bool.not_true,Bool.false_or] at this;simpa [Nat.blt_eq] using this
  ·have:=aG i g3;rw [hi] at this;simpa using this
 have xH:∀ (listed:Array Bool),lQ ops listed→∀ (n k:Nat) ok,k≤n→ops[k]?=some ok→(∀ e∈ok.after,Region.binds .any e=true→listed.getD e.on false=true) →
   ∀ j,((hc ops.toList []).getD k 0).testBit j=true→listed.getD j false=true:=by
  intro listed cA n
  induction n with
  | zero =>
    intro k ok av aq eQ j aw;rw [(cT k ok aq).1] at aw;rcases mM _ j _ _ aw with h | ⟨e,he,ag,h⟩
    ·simp at h
    ·have:=(cT k ok aq).2.1 e (by simpa using he) ag;omega
  | succ n a9 =>
    intro k ok av aq eQ j aw;rw [(cT k ok aq).1] at aw;rcases mM _ j _ _ aw with h | ⟨e,he,ag,h⟩
    ·simp at h
    ·(have jG:e∈ok.after:=by simpa using he);have aS:=(cT k ok aq).2.1 e jG ag;have h5:=eQ e jG ag;rcases h with h | rfl
     ·have kC:=(sY.1 aq).1;have mj:ops[e.on]?=some ops[e.on]:=sA (by omega);have pQ:listed.getD e.on true=true:=by
       rcases sT e.on listed.size with aX | aX
       ·simp [sB,aX] at h5 ⊢;exact h5
       ·simp [sB,aX] at h5
      exact a9 e.on _ (by omega) mj (cA e.on _ mj pQ) j h
     ·exact h5
 intro fuel
 induction fuel with
 | zero =>
   intro listed s a w U J S pA cA dK aL bo;have h4:eJ ops.size listed=[]:=tA.1 (by omega);rw [h4] at dK;simp only [cu,Option.some.injEq] at dK;subst dK;refine ⟨?_,bo a w (Step.here aL)⟩;rw [uQ];intro i hi;obtain ⟨ad,o,aq,_⟩:=mem_ready.1 hi
   have:i∈eJ ops.size listed:=by
    simp only [eJ,sP,sK];exact ⟨(sY.1 aq).1,by simp [ad]⟩
   rw [h4] at this;simp at this
 | succ fuel a9 =>
   intro listed s a w U J S pA cA dK aL bo;refine ⟨fun aj=>?_,fun i hi=>?_⟩
   ·
    have h4:eJ ops.size listed=[]:=by
     rw [uQ];intro i
     induction i using Nat.strongRecOn with
     | _ i xi =>
       intro hi;simp only [eJ,sP,sK] at hi;obtain ⟨aS,dx⟩:=hi;have aq:ops[i]?=some ops[i]:=sA aS
       have:i∈Region.ready .any ops listed:=mem_ready.2 ⟨by simpa using dx,_,aq,fun e he ag=>by
        have h3:=(cT i _ aq).2.1 e he ag;have kG:=xi e.on h3;simp only [eJ,sP,sK,not_and] at kG;have ao:=kG (by omega);rcases sT e.on listed.size with aX | aX
        ·simp [sB,aX] at ao ⊢;exact ao
        ·rcases sT i listed.size with l1 | l1
         ·omega
         ·simp [sB,l1] at dx⟩
       rw [aj] at this;simp at this
    rw [h4] at dK;simp only [cu,Option.some.injEq] at dK;subst dK;exact bo a w (Step.here aL)
   ·obtain ⟨ad,cN,ee,eQ⟩:=mem_ready.1 hi;have aS:=(sY.1 ee).1;have kE:i∈eJ ops.size listed:=by
     simp only [eJ,sP,sK];exact ⟨aS,by simp [ad]⟩
    have DE:(eJ ops.size listed).Pairwise (·<·):=List.pairwise_lt_range.filter _
    obtain ⟨s1,q1,aW⟩:=xZ ee (eJ ops.size listed) s DE kE (fun j aw g5 c2 pP=>by
     rcases (cT i cN ee).2.2 j c2 g5 pP with h | h
     ·have:=xH listed cA i i cN (sd _) ee eQ j h;simp only [eJ,sP,sK] at aw;have dx:=aw.2;rcases sT j listed.size with aX | aX
      ·simp [sB,aX] at dx this;rw [this] at dx;simp at dx
      ·simp [sB,aX] at dx
     ·exact h) dK
    refine Bn bE bu ee q1 aL fun aM w' ai=>?_;obtain ⟨b4,c0,a7,aJ,aQ,cf⟩:=ai;refine a9 (listed.setIfInBounds i true) s1 aM w' b4 c0 a7 ?_ ?_ (by rw [Ar];exact aW) cf fun gT hq dL=>bo gT hq (dL.trans aJ aQ)
    ·rw [Ar,List.length_erase_of_mem kE];omega
    ·intro k ok av ao e he ag;by_cases iJ:k=i
     ·subst iJ;rw [ee] at av;cases av;exact getD_set_true (eQ e he ag)
     ·have:listed.getD k true=true:=by rw [getD_set_ne true (Ne.symm iJ)] at ao;exact ao
      exact getD_set_true (cA k ok av this e he ag)
theorem An {F:Fence} (bE:ei F) (hm:P.follows .mixedOrders=true) {C:b7} (bu:da P C) {lo id:Nat} {ops:Array Oper} {draw:Bool} {as:List b2} (a2:draw=true→nq ops as=true) {Q:Exit→Act→World→Prop} {s aF:a6} {a:Act}
  (h:eO P C lo ops ops.toList as s=some aF) (aL:cv B N U J S w s a) (bo:∀ aM w',Step B N U J S w aF aM w'→Q .normal aM w'):(Code.region id ops draw).wpIn F 0 P Q a w:=by
 cases draw with
 | false=>exact wpIn_region_list (xp bE bu ops.toList as s a w U J S h aL bo)
 | true =>
   refine wpIn_region_any hm ?_;have hw:aK B U J S w.drew s.H:=mo aL.H;have aA:=kq U S w;have ga:cv B N U J S w.drew s a:=⟨⟨aL.T.len,fun i u v hu ae=>(aL.T.rel i u v hu ae).mono (Ext.refl J) aA.set,fun i u v hu ae=>(aL.T.own i u v hu ae).mono (Ext.refl J) aA.set fun b ag=>⟨ag,rfl,fun _ h=>h⟩⟩,hw,aL.M.aA aA⟩;have aj:=yF (P:=P) (C:=C) (lo:=lo) (as:=as) (ops:=ops) ops.toList 0 s (by simp);rw [sV,h] at aj;have kK:eJ ops.size (Array.replicate ops.size false)=List.range ops.size:=by
    simp only [eJ];rw [List.filter_eq_self];intro i hi;have hi:=sK.1 hi;simp [sB,hi]
   refine BT bE bu (a2 rfl) ops.size (Array.replicate ops.size false) s a w.drew U J S (by rw [kK];simp) ?_ (by rw [kK,List.range_eq_range',←tu];exact aj.symm) ga fun aM w' ai=>bo aM w' (ai.trans (Ext.refl J) aA);intro k o aq ao;have aS:=(sY.1 aq).1;simp [sB,aS] at ao
end
end Go.Proofs.YtfakoboiahbhaaaGreat.Ab
