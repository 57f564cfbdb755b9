
import Derived.Test.YtkoioidpbbbaiaaJu1
import Derived.RangeFuncRecord
import Derived.MapKept
import Derived.RangeFuncLeaves
import Derived.RangeFuncCalls
import Derived.RangeFuncNested
import Derived.TacticsIn
set_option linter.unusedSimpArgs false
set_option linter.unusedVariables false
set_option linter.unusedSectionVars false

open Array renaming getD_eq_getD_getElem?→sw,getElem?_eq_getElem→su,getElem?_eq_some_iff→sO,getElem?_map→ue,getElem?_toList→ui,length_toList→s7,mapM_eq_mapM_toList→vw,mem_of_getElem?→ux,toArray_toList→tJ,toList_map→uz,toList_setIfInBounds→vB
open Bool renaming and_eq_true→sn,false_eq_true→tS,or_eq_true→tC
open List renaming all_eq_true→sr,append_assoc→sx,append_nil→sN,ext_getElem?→uA,getD_eq_getElem?_getD→sA,getElem?_append_left→sj,getElem?_append_right→sv,getElem?_cons_succ→ug,getElem?_cons_zero→tK,getElem?_drop→sU,getElem?_eq_getElem→sk,getElem?_eq_none→uT,getElem?_eq_some_iff→sd,getElem?_map→sq,getElem?_set_ne→sf,getElem?_set_self→sm,getElem?_take→sL,getElem?_toArray→vu,getElem?_zip_eq_some→uS,length_drop→tA,length_eq_zero_iff→sP,length_map→s6,length_take→te,map_drop→tL,map_fst_zip→uR,map_set→tM,map_take→tU,mem_cons→sB,mem_cons_of_mem→tV,mem_iff_getElem?→sZ,mem_map→sD,mem_of_getElem?→sy,nil_append→tp,set_set→sY,take_of_length_le→tf
open Nat renaming le_refl→se,le_trans→sX,lt_of_lt_of_le→ud,lt_or_ge→sQ,mul_le_mul_right→tb,zero_add→sG
open Option renaming bind_eq_some_iff→si,bind_some→sc,getD_some→uw,isSome_iff_exists→tc,map_eq_some_iff→sb,map_some→sg
namespace Go.Proofs.Ytkoioidpbbbaiaa.Ab
open Go
section
variable {P:Program} {B:Nat} {J:List Nat} {w:World} {H:List ar} {aa:Nat→Option aH} {S:Nat→Nat→Prop}
theorem yb {α β:Type} (g:α→Sem β) (h:α→β):∀ (l:List α),(∀ x∈l,∀ w,(g x).run P w=.ok (h x) w)→∀ w,(l.mapM g).run P w=.ok (l.map h) w
 | [],_,w=>by simp
 | x::l,aj,w=>by
   rw [List.mapM_cons];simp [aj x (by simp),yb g h l (fun y aY=>aj y (by simp [aY]))]
theorem FP {t:TypeId} {parts:List (Nat×I)} {parts':Array (Nat×Value)} {r:I} (h:lH P t parts=some r) (hi:parts.map (·.1)=parts'.toList.map (·.1))
  (b1:∀ (j:Nat) (x:Nat×I) (y:Nat×Value),parts[j]?=some x→parts'.toList[j]?=some y→x.2.plain=true∧Rel J S w x.2 y.2) :
  ∃ v,(Instr.build t parts').run P w=.ok v w∧Rel J S w r v∧r.plain=true:=by
 have fin:∀ {c7:List I} {cV:Array Value},c2 J S w c7 cV.toList→Rel J S w (.agg c7) (.agg cV):=fun {c7 cV} h =>
  .agg _ _ (by simpa using h.len.symm) (fun u hu=>by
   obtain ⟨j,aw⟩:=sZ.1 hu;have aR:=(sd.1 aw).1;exact (h.rel j u _ aw (sk (h.len ▸ aR))).1) (fun v ad=>by
   obtain ⟨j,aw⟩:=sZ.1 ad;have aR:=(sd.1 aw).1
   exact (h.rel j _ v (sk (h.len ▸ aR)) aw).2.1) (fun j u v hu ad=>(h.rel j u v hu (by simpa using ad)).2.2)
 unfold lH at h;split at h
 ·rename_i z fs bj a1;obtain ⟨i,de,hi',dW,fc⟩:=hA (J:=J) (S:=S) (w:=w) bj;split at h
  ·rename_i cY;simp only [sb] at h;obtain ⟨c7,aP,rfl⟩:=h;obtain ⟨cV,ab,ae⟩:=kz parts parts'.toList z c7 de.cells hi b1 aP fc;have l_:∀ f∈fs.toList,∃ s,bE P f.type=some s:=fun f aP=>by
    have:=sr.1 cY f aP;exact tc.1 this
   have hm:=yb (P:=P) (fun f:Field=>Prod.mk f.offset <$> sizeOf f.type) (fun f:Field=>(f.offset,(bE P f.type).getD 0)) fs.toList (fun f aP w=>by
    obtain ⟨s,ah⟩:=l_ f aP;simp [run_sizeOf ah,ah]) w
   have hg:(fun (i:Nat)=>(fs.map (fun f:Field=>(f.offset,(bE P f.type).getD 0)))[i]?)=(fun (i:Nat)=>(fs[i]?).bind fun f:Field=>(bE P f.type).map fun s=>(f.offset,s)):=by
    funext i;rw [ue];cases pB:fs[i]? with
    | none=>rfl
    | some f =>
      obtain ⟨s,ah⟩:=l_ f (by simpa using ux pB);simp [ah]
   refine ⟨.agg cV,?_,fin ae,rfl⟩;rw [←hg] at ab;simp only [ue] at ab;simp [Instr.build,ji hi' dW,run_underlying a1,vw,hm,ab]
  ·simp at h
 ·rename_i z n e bj a1;obtain ⟨i,de,hi',dW,fc⟩:=hA (J:=J) (S:=S) (w:=w) bj;simp only [si,sb] at h;obtain ⟨s,ah,c7,aP,rfl⟩:=h;obtain ⟨cV,ab,ae⟩:=kz parts parts'.toList z c7 de.cells hi b1 aP fc;refine ⟨.agg cV,?_,fin ae,rfl⟩;simp [Instr.build,ji hi' dW,run_underlying a1,run_sizeOf ah,ab]
 ·simp at h
theorem yQ {place:Nat→Option (Nat×Nat)}:∀ (p q:List (Nat×Value)) (vs:Array Value),Instr.fill place vs (p++q)=(Instr.fill place vs p).bind fun cV=>Instr.fill place cV q
 | [],q,vs=>by simp [Instr.fill]
 | (i,v)::p,q,vs=>by
   simp only [List.cons_append,Instr.fill];split
   ·rfl
   ·split
    ·rfl
    ·exact yQ p q _
theorem yR {place:Nat→Option (Nat×Nat)} {off:Nat}:∀ (parts:List (Nat×Value)) (vs cV:Array Value),(∀ x∈parts,∃ o s,place x.1=some (o,s)∧(off<o∨o+s≤off)) →
  Instr.fill place vs parts=some cV→cV[off]?=vs[off]?
 | [],vs,cV,_,h=>by simp [Instr.fill] at h;rw [h]
 | (i,v)::r,vs,cV,aB,h=>by
   obtain ⟨o,s,ab,ae⟩:=aB (i,v) (by simp);simp only [Instr.fill,ab] at h;split at h
   ·simp at h
   ·rename_i ak;simp at ak;rw [yR r _ cV (fun x aj=>aB x (by simp [aj])) h];have aO:=pc o v.cells.toList 0 vs off (by simp;omega);rw [if_neg (by simp;omega)] at aO;rw [←Array.foldl_toList,Array.toList_zipIdx];exact aO
theorem Aa:∀ (parts pre:List (Nat×I)) {lk:List (Nat×I)} {i:Nat} {c:List I} {n s:Nat} {post:List (Nat×I)},jc pre parts=some (lk,i,c,n,s,post) →
  ∃ k,(k=.own s∨k=.uniq s)∧pre++parts=lk++(i,.av c n k)::post
 | [],pre,_,_,_,_,_,_,h=>by simp [jc] at h
 | x::r,pre,_,_,_,_,_,_,h=>by
   unfold jc at h;split at h
   ·simp at *
   ·rename_i e;cases e;cases h;exact ⟨_,.inl rfl,rfl⟩
   ·rename_i e;cases e;cases h;exact ⟨_,.inr rfl,rfl⟩
   ·rename_i e;cases e;obtain ⟨k,al,e⟩:=Aa r _ h;exact ⟨k,al,by rw [←e];simp⟩
theorem FQ (ag:aK B aa J S w H) {t:TypeId} {parts:List (Nat×I)} {parts':Array (Nat×Value)} {r:I} (h:ko P t parts=some r) (hi:parts.map (·.1)=parts'.toList.map (·.1))
  (b1:∀ (j:Nat) (x:Nat×I) (y:Nat×Value),parts[j]?=some x→parts'.toList[j]?=some y→Rel J S w x.2 y.2∧aU aa J S w (.arg j) x.2 y.2) :
  ∃ v,(Instr.build t parts').run P w=.ok v w∧aZ B aa J S w H r v w:=by
 unfold ko at h;split at h
 ·rename_i z fs pre i c n s post bj a1 aC;split at h
  ·rename_i off cY hg;split at h
   ·rename_i me;simp only [sn,sr] at me;obtain ⟨⟨ic,kN⟩,pY⟩:=me;simp only [si] at h;obtain ⟨eO,CY,h⟩:=h;split at h
    ·rename_i aR;simp only [sb] at h;obtain ⟨ea,pA,rfl⟩:=h;obtain ⟨k,al,zj⟩:=Aa parts [] aC;rw [tp] at zj;subst zj;rw [List.map_append,List.map_cons] at hi;obtain ⟨lk,rest,fK,jW,Dr⟩:=List.map_eq_append_iff.1 hi.symm;obtain ⟨⟨jZ,y⟩,Ag,rfl,zh,zi⟩:=List.map_eq_cons_iff.1 Dr;simp only at zh;subst zh;(have hlen:lk.length=pre.length:=by rw [←s6 (f:=(·.1)),jW,s6]);obtain ⟨ai,aq⟩:=b1 pre.length (jZ,.av c n k) (jZ,y) (by simp) (by rw [fK,←hlen];simp);simp only at ai aq;(obtain ⟨a,j0,ej,rfl⟩:∃ a j0 ej,y=.slice a j0 ej:=by cases ai <;> exact ⟨_,_,_,rfl⟩);obtain ⟨S',aJ,aN,b7,_,_,CI⟩:=o5 (u:=.av c n k) (vc:=[.av c n k]) ag (l:=.arg pre.length) (by simp) (by simp) rfl ai aq;(have eE:(I.av c n k).settle=.av c n (.own s):=by rcases al with rfl | rfl <;> rfl);obtain ⟨_,nP,jT⟩:=CI 0 (.av c n (.own s)) (.slice a j0 ej) (by simp [eE]) rfl;have jT:aU aa J S' w (.arg pre.length) (.av c n (.own s)) (.slice a j0 ej):=by
      rcases jT with h | ⟨_,_,h⟩
      ·simp [I.plain] at h
      ·exact h
     have nN:∀ {u:I} {v:Value},Rel J S w u v→Rel J S' w u v:=fun h=>h.mono (Ext.refl J) fun b o ah=>⟨aJ b o ah,rfl⟩;obtain ⟨i0,de,hi',dW,fc⟩:=hA (J:=J) (S:=S') (w:=w) bj
     obtain ⟨ym,cc,a7⟩:=kz (J:=J) (S:=S') (w:=w) pre lk z eO de.cells jW.symm (fun j x y aj aY=>by
      have ml:=(sd.1 aj).1
      exact ⟨ic x (sy aj),nN (b1 j x y (by rw [sj ml];exact aj) (by rw [fK,sj (by omega)];exact aY)).1⟩) CY fc
     have DM:ym.size=eO.length:=by have:=a7.len;simpa using this.symm
     have B':c2 J S' w (eO.set off .a0) (ym.setIfInBounds off (.slice a j0 ej)).toList:=⟨by simp [DM],fun j u v hu ad=>by
      rw [List.getElem?_set] at hu;rw [ui,Array.getElem?_setIfInBounds] at ad;by_cases e:off=j
      ·subst e;rw [if_pos rfl,if_pos aR] at hu;rw [if_pos rfl,if_pos (by omega)] at ad;cases hu;cases ad;exact ⟨rfl,rfl,.a0 _⟩
      ·rw [if_neg e] at hu;rw [if_neg e] at ad
       exact a7.rel j u v hu (by simpa using ad)⟩
     obtain ⟨eV,b_,a9⟩:=kz (J:=J) (S:=S') (w:=w) post Ag (eO.set off .a0) ea (ym.setIfInBounds off (.slice a j0 ej)) zi.symm (fun j x y aj aY=>by
      exact ⟨kN x (sy aj),nN (b1 (pre.length+1+j) x y (by rw [sv (by omega),show pre.length+1+j-pre.length=j+1 by omega,ug];exact aj)
       (by rw [fK,sv (by omega),show pre.length+1+j-lk.length=j+1 by omega,ug];exact aY)).1⟩) pA B'
     have jP:eV[off]?=some (.slice a j0 ej):=by
      rw [yR Ag _ eV (fun x aj=>by
       have:x.1∈post.map (·.1):=by rw [←zi];exact List.mem_map_of_mem aj
       obtain ⟨q,a_,e⟩:=sD.1 this;have a_:=pY q a_;rw [e] at a_;split at a_
       ·rename_i o aD he;exact ⟨o,aD,he,of_decide_eq_true a_⟩
       ·cases a_) b_,Array.getElem?_setIfInBounds,if_pos rfl,if_pos (by omega)]
     (have G6:eV.size=ea.length:=by have:=a9.len;simpa using this.symm);have G3:off<eV.size:=(sO.1 jP).1;have pC:Instr.fill (fun (i:Nat)=>(fs[i]?).bind fun f:Field=>(bE P f.type).map fun s=>(f.offset,s)) de.cells parts'.toList=some eV:=by
      rw [fK,yQ,cc,sc];simp only [Instr.fill,hg];rw [if_neg (by simp [Value.cells];omega)];simpa [Value.cells] using b_
     have l_:∀ f∈fs.toList,∃ s,bE P f.type=some s:=fun f aP=>by
      have:=sr.1 cY f aP;exact tc.1 this
     have hm:=yb (P:=P) (fun f:Field=>Prod.mk f.offset <$> sizeOf f.type) (fun f:Field=>(f.offset,(bE P f.type).getD 0)) fs.toList (fun f aP w=>by
      obtain ⟨s,ah⟩:=l_ f aP;simp [run_sizeOf ah,ah]) w
     have Ds:(fun (i:Nat)=>(fs.map (fun f:Field=>(f.offset,(bE P f.type).getD 0)))[i]?)=(fun (i:Nat)=>(fs[i]?).bind fun f:Field=>(bE P f.type).map fun s=>(f.offset,s)):=by
      funext i;rw [ue];cases pB:fs[i]? with
      | none=>rfl
      | some f =>
        obtain ⟨s,ah⟩:=l_ f (by simpa using ux pB);simp [ah]
     refine ⟨.agg eV,?_,?_⟩
     ·rw [←Ds] at pC;simp only [ue] at pC;simp [Instr.build,ji hi' dW,run_underlying a1,vw,hm,pC]
     ·(have nT:(ea.take off).length=off:=by rw [te];omega);have R:Rel J S' w (.c0 (ea.take off) c n s (ea.drop (off+1))) (.agg eV):=by
       refine .c0 _ _ _ _ _ eV (by rw [nT,tA];omega) (fun u hu=>?_) (fun u hu=>?_) (fun v ad=>?_) (fun j u v hu ad=>?_) (fun v ad=>?_) (fun j u v hu ad=>?_)
       ·obtain ⟨j,aw⟩:=sZ.1 hu;rw [sL] at aw;split at aw
        ·have aR:=(sd.1 aw).1;exact (a9.rel j u _ aw (sk (a9.len ▸ aR))).1
        ·cases aw
       ·obtain ⟨j,aw⟩:=sZ.1 hu;rw [sU] at aw;have aR:=(sd.1 aw).1;exact (a9.rel _ u _ aw (sk (a9.len ▸ aR))).1
       ·obtain ⟨j,aw⟩:=sZ.1 ad;have aR:=(sd.1 aw).1;exact (a9.rel j _ v (sk (by rw [a9.len];exact aR)) aw).2.1
       ·rw [sL] at hu;split at hu
        ·exact (a9.rel j u v hu (by simpa using ad)).2.2
        ·cases hu
       ·rw [nT,jP] at ad;cases ad;exact nP
       ·rw [nT] at ad;rw [sU] at hu;exact (a9.rel _ u v hu (by simpa using ad)).2.2
      have O:aU aa J S' w (.arg pre.length) (.c0 (ea.take off) c n s (ea.drop (off+1))) (.agg eV):=by
       show ∀ v,eV[(ea.take off).length]?=some v→gA aa S' w (.arg pre.length) c n s v;intro v ad;rw [nT,jP] at ad;cases ad;exact gA.of jT
      obtain ⟨ay,bU,BL,e1,b9,dx,lX,lY⟩:=hP b7 (l:=.arg pre.length) (by simp) (by simp) R O;exact ⟨ay,bU,BL,e1,(bk.settle aJ (fun b o h=>(aN b o h).imp id fun h=>⟨_,h⟩)).trans b9,dx,lX,lY⟩
    ·simp at h
   ·simp at h
  ·simp at h
 ·simp at h
theorem Bf (ag:aK B aa J S w H) {t:TypeId} {len:Nat} {parts:List (Nat×I)} {parts':Array (Nat×Value)} {cs:List I} {s:Nat} (h:iG P t len parts=some (cs,s))
  (hi:parts.map (·.1)=parts'.toList.map (·.1))
  (b1:∀ (j:Nat) (x:Nat×I) (y:Nat×Value),parts[j]?=some x→parts'.toList[j]?=some y→x.2.plain=true∧Rel J S w x.2 y.2) :
  ∃ b w',(Instr.buildSlice t len parts').run P w=.ok (.slice (some ⟨b,0,none⟩) len len) w'∧aZ B aa J S w H (.av cs len (.uniq s)) (.slice (some ⟨b,0,none⟩) len len) w':=by
 unfold iG at h;split at h
 ·rename_i e a1;split at h
  ·rename_i aD z ah bj;split at h
   ·rename_i ak;obtain ⟨ab,ae,aF⟩:=ak;simp only [sb,Prod.mk.injEq] at h;obtain ⟨c7,aP,rfl,rfl⟩:=h;obtain ⟨i,de,hi',dW,fc⟩:=hA (J:=J) (S:=S) (w:=w) bj;have fM:=nd fc (by omega) len;(have kU:z.length=de.cells.size:=by simpa using fc.len);obtain ⟨cV,q1,aW⟩:=kz parts parts'.toList (e7 len z) c7 ((Array.range (len*z.length)).map (fun i=>de.cells[i % de.cells.size]!)) hi b1 aP fM;have pD:∀ (place:Nat→Option (Nat×Nat)) (parts:List (Nat×I)) (a b:List I),fz place a parts=some b→b.length=a.length:=by
     intro place parts
     induction parts with
     | nil=>intro a b h;simp [fz] at h;rw [h]
     | cons x parts a8 =>
       intro a b h;obtain ⟨i,u⟩:=x;simp only [fz] at h;split at h
       ·split at h
        ·split at h
         ·rw [a8 _ _ h,lq]
         ·simp at h
        ·simp at h
       ·simp at h
    have cE:c7.length=len*aD:=by rw [pD _ _ _ _ aP,iu,ae]
    have iV:=n' ag aW [] e len len aD ab cE (se _) (by
     have:len≤len*aD:=Nat.le_mul_of_pos_right _ ab
     simp only [maxLen];omega) (by rw [←aW.len,cE];simp)
    refine ⟨_,_,?_,iV⟩;simp only [sN,tJ];rw [ae] at q1;(have mc:¬ (16777216<len*aD):=by omega);by_cases aQ:len*aD=0
    ·obtain rfl:len=0:=by
      rcases Nat.mul_eq_zero.1 aQ with h | h
      ·exact h
      ·omega
     (have ER:Instr.fill (fun i=>some (i*aD,aD)) #[] parts'.toList=some cV:=by simpa [show Array.range 0=#[] from rfl] using q1);simp [Instr.buildSlice,run_underlying a1,run_sizeOf ah,show Array.range 0=#[] from rfl,ER,newRow,newObj,Sem.run,World.alloc_eq]
    ·simp [Instr.buildSlice,run_underlying a1,run_sizeOf ah,aQ,mc,ji hi' dW,q1,newRow,newObj,Sem.run,World.alloc_eq]
   ·simp at h
  ·simp at h
 ·simp at h
end
end Go.Proofs.Ytkoioidpbbbaiaa.Ab


namespace Go.Proofs.Ytkoioidpbbbaiaa.Ab
open Go
section
variable {P:Program} {B:Nat} {J:List Nat} {w:World} {H:List ar} {aa:Nat→Option aH} {S:Nat→Nat→Prop}
def eA (P:Program) (aV:Operand→Value) (o:Oper) (w:World) (R:Value→World→Prop):Prop :=
 (∃ v w',(Go.execOp aV o).run P w=.ok (.value v) w'∧R v w')∨(∃ w',(Go.execOp aV o).run P w=.ok .skip w'∧R undef w')
theorem eA.makes {aV:Operand→Value} {o:Oper} {r:I} (ag:aK B aa J S w H) (h:e_ P o aV J S w r) (aB:r.plain=true):eA P aV o w (aZ B aa J S w H r):=by
 obtain ⟨v,ab,ae⟩:=h;exact .inl ⟨v,w,ab,aZ.same ag ae aB⟩
theorem a5.one {bz:Nat→aH} {us:List I} {aV:Operand→Value} {x:Operand} (h:a5 bz aa J S w us ([x].map aV)):∃ u,us=[u]∧Rel J S w u (aV x)∧aU aa J S w (bz 0) u (aV x):=by
 match us,h with
 | [u],h=>exact ⟨u,rfl,h.rel 0 u _ rfl rfl,h.own 0 u _ rfl rfl⟩
 | [],h=>exact absurd h.len (by simp)
 | _::_::_,h=>exact absurd h.len (by simp)
theorem a5.two {bz:Nat→aH} {us:List I} {aV:Operand→Value} {x y:Operand} (h:a5 bz aa J S w us ([x,y].map aV)) :
  ∃ u v,us=[u,v]∧Rel J S w u (aV x)∧aU aa J S w (bz 0) u (aV x)∧Rel J S w v (aV y)∧aU aa J S w (bz 1) v (aV y):=by
 match us,h with
 | [u,v],h=>exact ⟨u,v,rfl,h.rel 0 u _ rfl rfl,h.own 0 u _ rfl rfl,h.rel 1 v _ rfl rfl,h.own 1 v _ rfl rfl⟩
 | [],h=>exact absurd h.len (by simp)
 | [_],h=>exact absurd h.len (by simp)
 | _::_::_::_,h=>exact absurd h.len (by simp)
theorem BP {op:BinOp} {k:IntKind} {a b:Int} {r:I} (h:jy op k a b=some r):r.plain=true:=by
 cases op <;> simp [jy] at h <;> first | (subst h;rfl) | (obtain ⟨_,rfl⟩:=h;rfl)
theorem BR {op:BinOp} {t:TypeId} {x y r:I} (h:fk P op t x y=some r):r.plain=true:=by
 unfold fk at h;split at h
 ·split at h
  ·unfold hD at h;split at h <;> simp at h;subst h;rfl
  ·unfold hD at h;split at h <;> simp at h;subst h;rfl
  ·split at h
   ·exact BP h
   ·simp at h
 ·split at h <;> simp at h <;> subst h <;> rfl
 ·split at h
  ·split at h
   ·split at h
    ·split at h
     ·simp only [sb] at h;obtain ⟨_,_,rfl⟩:=h;rfl
     ·simp only [sb] at h;obtain ⟨_,_,rfl⟩:=h;rfl
     ·simp at h
    ·simp at h
   ·simp at h
  ·split at h
   ·split at h
    ·simp only [sb] at h;obtain ⟨_,_,rfl⟩:=h;rfl
    ·simp only [sb] at h;obtain ⟨_,_,rfl⟩:=h;rfl
    ·simp at h
   ·simp at h
  ·simp at h
 ·simp at h
theorem BT {t:TypeId} {x y r:I} (h:h1 P t x y=some r):r.plain=true:=by
 unfold h1 at h;split at h <;> simp only [si,sb,reduceCtorEq] at h <;> (try (obtain ⟨_,_,_,_,rfl⟩:=h;rfl))
theorem BS {t:TypeId} {x r:I} {f:Nat} (h:jz P t x f=some r):r.plain=true:=by
 unfold jz at h;split at h <;> simp only [si,reduceCtorEq] at h <;> (try (obtain ⟨_,_,_,_,h⟩:=h;split at h <;> simp at h;subst h;rfl))
theorem xG {o:Oper} (h:∀ c,o.op≠.call c):opsOf o=o.op.operands.toList:=by
 unfold opsOf;split
 ·rename_i heq;exact absurd heq (h _)
 ·rename_i heq;exact absurd heq (h _)
 ·rfl
theorem F_ {aV:Operand→Value} (eT:∀ v,aV (.const v)=v) {o:Oper} {us:List I} {r:I} (ag:aK B aa J S w H) (h:cy P o us=some r) {mode:Nat} (cZ:dB o mode=false)
  (aB:∀ u∈us,u.plain=true) (ad:a5 (fun i=>.arg i) aa J S w us ((opsOf o).map aV)):eA P aV o w (aZ B aa J S w H r):=by
 cases aC:o.op <;> simp only [cy,aC,reduceCtorEq] at h <;> rw [xG (by simp [aC])] at ad <;> (try (simp [dB,aC] at cZ;done))
 case pick c a b =>
  replace ad:a5 (fun i=>.arg i) aa J S w us ([c,a,b].map aV):=by simpa [aC,Op.operands] using ad
  unfold xF at h;split at h
  ·rename_i x fx gq;have aS:=ad.rel 0 _ _ rfl rfl;have bh:=ad.rel 1 _ _ rfl rfl;have eH:=ad.rel 2 _ _ rfl rfl;cases x
   ·cases h;exact eA.makes ag (zV aC aS bh eH) (aB gq (by simp))
   ·cases h;exact eA.makes ag (zV aC aS bh eH) (aB fx (by simp))
  ·simp at h
 case build t parts =>
  have ad:a5 (fun i=>.arg i) aa J S w us ((parts.toList.map (·.2)).map aV):=by simpa [aC,Op.operands] using ad
  have hlen:us.length=parts.toList.length:=by simpa using ad.len
  obtain ⟨v,q1,aW,cC⟩:=FP (J:=J) (S:=S) (w:=w) (parts':=parts.map fun (x:Nat×Operand)=>(x.1,aV x.2)) h (by simp [eK,uR,hlen]) (fun j x y aj aY=>by
   simp only [eK,uS] at aj;obtain ⟨xi,hl⟩:=aj;simp only [uz,sq,sb] at aY;obtain ⟨p,fK,rfl⟩:=aY
   exact ⟨aB _ (sy hl),ad.rel j _ _ hl (by simp only [sq,fK,sg])⟩)
  exact .inl ⟨v,w,by simp [Go.execOp,aC,q1],aZ.same ag aW cC⟩
 case buildSlice t len parts =>
  have ad:a5 (fun i=>.arg i) aa J S w us ((parts.toList.map (·.2)).map aV):=by simpa [aC,Op.operands] using ad
  have hlen:us.length=parts.toList.length:=by simpa using ad.len
  simp only [sb] at h;obtain ⟨⟨cs,s⟩,h,rfl⟩:=h
  obtain ⟨_,w',q1,aW⟩:=Bf (parts':=parts.map fun (x:Nat×Operand)=>(x.1,aV x.2)) ag h (by simp [eK,uR,hlen]) (fun j x y aj aY=>by
   simp only [eK,uS] at aj;obtain ⟨xi,hl⟩:=aj;simp only [uz,sq,sb] at aY;obtain ⟨p,fK,rfl⟩:=aY
   exact ⟨aB _ (sy hl),ad.rel j _ _ hl (by simp only [sq,fK,sg])⟩)
  exact .inl ⟨_,w',by simp [Go.execOp,aC,q1],aW⟩
 case nilCheck x =>
  obtain ⟨u,rfl,aS,_⟩:=a5.one (x:=x) (by simpa [aC,Op.operands] using ad);unfold og at h;split at h
  ·rename_i id off heq;simp at heq;subst heq;cases h;exact eA.makes ag (Eo aC aS) rfl
  ·rename_i cells heq;simp at heq;subst heq;cases h;exact eA.makes ag (Ep aC aS) rfl
  ·simp at h
 case unOp op t x =>
  obtain ⟨u,rfl,aS,_⟩:=a5.one (x:=x) (by simpa [aC,Op.operands] using ad);simp only [e6] at h;refine eA.makes ag (Er aC h aS) ?_;unfold kp at h;split at h <;> (try split at h) <;> simp at h <;> subst h <;> rfl
 case convert s d x =>
  obtain ⟨u,rfl,aS,_⟩:=a5.one (x:=x) (by simpa [aC,Op.operands] using ad);simp only [e6] at h;refine eA.makes ag (Eg aC h aS) ?_;unfold lI at h;split at h
  ·split at h
   ·simp at h;subst h;rfl
   ·simp at h
  ·simp at h
 case makeFunc fn first captured =>
  refine eA.makes ag (El aC h (by simpa [aC,Op.operands] using ad) aB) ?_;unfold mW at h;split at h
  ·split at h <;> simp at h;subst h;rfl
  ·simp at h
 case fieldAddr t x f =>
  obtain ⟨u,rfl,aS,_⟩:=a5.one (x:=x) (by simpa [aC,Op.operands] using ad);simp only [e6] at h;exact eA.makes ag (Ek aC h aS) (BS h)
 case field t x f =>
  obtain ⟨u,rfl,aS,_⟩:=a5.one (x:=x) (by simpa [aC,Op.operands] using ad);simp only [e6,sb] at h;obtain ⟨r',h,rfl⟩:=h;exact eA.makes ag (Ej aC h aS) (I.di _)
 case extract x i =>
  obtain ⟨u,rfl,aS,_⟩:=a5.one (x:=x) (by simpa [aC,Op.operands] using ad);simp only [e6,sb] at h;obtain ⟨r',h,rfl⟩:=h;exact eA.makes ag (Ei aC h aS) (I.di _)
 case indexAddr t x i =>
  obtain ⟨u,v,rfl,aS,_,bh,_⟩:=a5.two (x:=x) (y:=i) (by simpa [aC,Op.operands] using ad);simp only [gi] at h;exact eA.makes ag (En aC h aS bh (I.fu (aB u (by simp)))) (BT h)
 case index t x i =>
  obtain ⟨u,v,rfl,aS,_,bh,_⟩:=a5.two (x:=x) (y:=i) (by simpa [aC,Op.operands] using ad);simp only [gi,sb] at h;obtain ⟨r',h,rfl⟩:=h;exact eA.makes ag (Em aC h aS bh) (I.di _)
 case binOp op t x y iC =>
  obtain ⟨u,v,rfl,aS,_,bh,_⟩:=a5.two (x:=x) (y:=y) (by simpa [aC,Op.operands] using ad);split at h
  ·rename_i Dq;refine eA.makes ag (Eh aC Dq h aS eT) ?_;unfold nk at h;dsimp only at h;repeat' split at h
   all_goals first | (simp at h;done) | (simp at h;subst h;rfl)
  ·simp only [gi] at h;refine eA.makes ag ?_ (BR h);cases u <;> cases v <;> (try (simp [fk] at h;done))
   ·exact Ee aC h aS bh
   ·exact Ef aC h aS bh
   ·exact Ed aC h aS bh
theorem EZ {cells:List I} {len:Nat} {a:Option Addr} (h:Rel J S w (.av cells len .shared) (.slice a len len)):Rel J S w (.av cells len .full) (.slice a len len):=by
 cases h with
 | b2 _ a=>exact .b2 _ _
 | av _ _ _ b o cap f ak hle hu bx b1=>exact .av _ _ _ b o len f (fun _=>rfl) hle (fun z h=>by cases h) bx b1
theorem FR {aV:Operand→Value} (eT:∀ v,aV (.const v)=v) {o:Oper} {us:List I} {t:TypeId} {len:Nat} {parts:Array (Nat×Operand)} {cs:List I} {s:Nat} (ag:aK B aa J S w H) (aC:o.op=.buildSlice t len parts)
  (h:iG P t len (eK parts.toList us)=some (cs,s)) (aB:∀ u∈us,u.plain=true) (ad:a5 (fun i=>.arg i) aa J S w us ((opsOf o).map aV)) :
  ∃ v w',(Go.execOp aV o).run P w=.ok (.value v) w'∧aZ B aa J S w H (.av cs len .full) v w':=by
 rw [xG (by simp [aC])] at ad;have ad:a5 (fun i=>.arg i) aa J S w us ((parts.toList.map (·.2)).map aV):=by simpa [aC,Op.operands] using ad
 have hlen:us.length=parts.toList.length:=by simpa using ad.len
 obtain ⟨b,w',q1,ay,bU,S',bT,b0,d_,fR,mX⟩:=Bf (parts':=parts.map fun (x:Nat×Operand)=>(x.1,aV x.2)) ag h (by simp [eK,uR,hlen]) (fun j x y aj aY=>by
  simp only [eK,uS] at aj;obtain ⟨xi,hl⟩:=aj;simp only [uz,sq,sb] at aY;obtain ⟨p,fK,rfl⟩:=aY
  exact ⟨aB _ (sy hl),ad.rel j _ _ hl (by simp only [sq,fK,sg])⟩)
 obtain ⟨a4,aJ,aN,b',aS,_,_⟩:=kc d_ fR mX
 exact ⟨_,w',by simp [Go.execOp,aC,q1],ay,bU,a4,bT,b0.trans (bk.settle aJ fun b o h=>(aN b o h).imp id fun h=>⟨_,h⟩),
  d_.settle aJ (fun b o h=>(aN b o h).imp id fun h=>⟨_,h,by simp,by simp⟩) b',EZ aS,aU.b3 rfl⟩
end
end Go.Proofs.Ytkoioidpbbbaiaa.Ab


namespace Go.Proofs.Ytkoioidpbbbaiaa.Ab
open Go
section
variable {P:Program} {B:Nat} {J:List Nat} {w:World} {H:List ar} {aa:Nat→Option aH} {S:Nat→Nat→Prop}
theorem oi {b au o:Nat} {x:Obj} (h:au≠b):(w.putObj b x).cell? ⟨au,o,none⟩=w.cell? ⟨au,o,none⟩:=by
 unfold World.cell?;simp only [World.putObj_heap_other h]
theorem n7 (ag:aK B aa J S w H) {id:Nat} {es es':List (Nat×I×I)} {clock clock':Nat} (aE:H[id]?=some (.map es clock)) {b:Nat} {ents':Array MapEntry}
  (aA:J[id]?=some b) (aG:aa b=some (.obj id)) (bf:∀ o,¬ S b o) (ao:ents'.size=es'.length)
  (ai:∀ (j i:Nat) (k v:I) (x:MapEntry),es'[j]?=some (i,k,v)→ents'[j]?=some x→x.born=i∧k.plain=true∧Rel J S w k x.key∧v.plain=true∧Rel J S w v x.val) :
  bk aa S w aa S (w.putObj b (.map ents' clock'))∧aK B aa J S (w.putObj b (.map ents' clock')) (H.set id (.map es' clock')):=by
 have hG:∀ au o,S au o→au≠b:=fun au o ah e=>bf o (e ▸ ah);have af:=(ag.base b _ aG).2;have az:bk aa S w aa S (w.putObj b (.map ents' clock')) :=
  ⟨rfl,rfl,rfl,by simp,fun au _ aI=>World.putObj_heap_other (fun e=>by subst e;rw [aG] at aI;cases aI),fun au o ah=>⟨ah,oi (hG au o ah)⟩,fun au o ah=>.inl ah,fun au h=>.inl h⟩
 refine ⟨az,by simpa using ag.cH,fun bB o aq=>?_,fun au o ah=>?_,fun au l h=>by simpa using ag.base au l h,by simpa using ag.cX⟩
 ·by_cases hb:bB=id
  ·subst hb;rw [sm (sd.1 aE).1] at aq;cases aq;refine ⟨b,ents',aA,aG,World.putObj_heap_same af,ao,bf,fun j i k v x hu aj=>?_⟩;obtain ⟨a7,a9,br,b5,dS⟩:=ai j i k v x hu aj;exact ⟨a7,a9,br.mono (Ext.refl J) az.set,b5,dS.mono (Ext.refl J) az.set⟩
  ·rw [sf (fun e=>hb e.symm)] at aq;refine (ag.obj bB o aq).frame (Ext.refl J) az.set fun au cu bu jQ=>?_;have bI:au≠b:=fun e=>by
    subst e;rw [aG] at bu;cases bu;rcases jQ with h | ⟨j,h⟩
    ·cases h;exact hb rfl
    ·cases h
   exact ⟨bu,World.putObj_heap_other bI,fun o ah=>ah⟩
 ·obtain ⟨v,ad⟩:=ag.cb au o ah;exact ⟨v,(oi (hG au o ah)).trans ad⟩
theorem yL:∀ {xs ys:List I},dI xs ys=some true→xs=ys∧∀ u∈xs,∃ k a,u=.int k a
 | [],[],_=>⟨rfl,by simp⟩
 | x::xs,y::ys,h=>by
   obtain ⟨k,a,b,cS,rfl,rfl,aX,he⟩:=nz h;have he:=he.symm;simp only [sn,beq_iff_eq] at he;obtain ⟨rfl,rfl⟩:=he;obtain ⟨rfl,ae⟩:=yL aX
   exact ⟨rfl,fun u hu=>by
    rcases sB.1 hu with rfl | hu
    ·exact ⟨_,_,rfl⟩
    ·exact ae u hu⟩
 | [],y::ys,h=>by simp [dI] at h
 | x::xs,[],h=>by cases x <;> simp [dI] at h
theorem A7 (n:Nat):∀ (l:List Value),(∀ v∈l,∃ k a,v=.int k a)→((l.zip l).all fun (x:Value×Value)=>Instr.sameBits n x.1 x.2)=true
 | [],_=>rfl
 | v::l,h=>by
   obtain ⟨k,a,rfl⟩:=h v (by simp);have a8:=A7 n l fun v ad=>h v (by simp [ad]);(have aQ:Instr.sameBits n (.int k a) (.int k a)=true:=by cases n <;> simp [Instr.sameBits]);simp only [List.zip_cons_cons,List.all_cons,aQ,Bool.true_and];exact a8
theorem E0 {xs:List I} {V W:Array Value} (hi:∀ u∈xs,∃ k a,u=.int k a) (aS:Rel J S w (.agg xs) (.agg V)) (bh:Rel J S w (.agg xs) (.agg W)):V=W∧∀ v∈V.toList,∃ k a,v=.int k a:=by
 cases aS with
 | agg _ _ l1 _ _ q1 =>
   cases bh with
   | agg _ _ l2 _ _ aW =>
     have key:∀ j (h:j<xs.length),∃ k a,V[j]?=some (.int k a)∧W[j]?=some (.int k a):=fun j h=>by
      obtain ⟨k,a,al⟩:=hi xs[j] (List.getElem_mem h);(have aj:xs[j]?=some (.int k a):=by rw [sk h,al]);have ad:=q1 j _ V[j] aj (su (by omega));have hw:=aW j _ W[j] aj (su (by omega));exact ⟨k,a,by rw [su (by omega),ad.df],by rw [su (by omega),hw.df]⟩
     refine ⟨Array.ext_getElem? fun j=>?_,fun v ad=>?_⟩
     ·rcases sQ j xs.length with h | h
      ·obtain ⟨k,a,ab,ae⟩:=key j h;rw [ab,ae]
      ·rw [Array.getElem?_eq_none (by omega),Array.getElem?_eq_none (by omega)]
     ·obtain ⟨j,aw⟩:=sZ.1 ad;(have aR:j<xs.length:=by have:=(sd.1 aw).1;simp at this;omega);obtain ⟨k,a,ab,_⟩:=key j aR;rw [ui,ab] at aw;cases aw;exact ⟨k,a,rfl⟩
theorem DW {k k':I} {x y:Value} (h:gH k k'=some true) (aS:Rel J S w k x) (bh:Rel J S w k' y):(Instr.keyThatStays y x).run P w=.ok x w:=by
 have af:Instr.sameBits 10000 y x=true:=by
  unfold gH at h;split at h
  ·split at h
   ·rename_i q a fT b a_;subst a_;simp at h;subst h;rw [aS.df,bh.df];simp [Instr.sameBits]
   ·simp at h
  ·obtain ⟨rfl,hi⟩:=yL h;(have e1:∃ V,x=.agg V:=by cases aS with | agg as vs=>exact ⟨_,rfl⟩);(have b9:∃ V,y=.agg V:=by cases bh with | agg as vs=>exact ⟨_,rfl⟩);obtain ⟨V,rfl⟩:=e1;obtain ⟨W,rfl⟩:=b9;obtain ⟨rfl,cY⟩:=E0 hi aS bh;have:=A7 9999 V.toList cY;rw [show (10000:Nat)=9999+1 from rfl,Instr.sameBits];simpa using this
  ·simp at h
 simp [Instr.keyThatStays,af]
theorem zF {t:TypeId} (h:kY P t=true):(∃ k,P.underlying t=some (.int k))∨∃ fs,P.underlying t=some (.struct fs)∧gP P fs.toList 0=true∧P.stoodInHeld t=false:=by
 unfold kY at h;split at h
 ·exact .inl ⟨_,by assumption⟩
 ·rename_i fs C1;simp at h;exact .inr ⟨fs,C1,h.1,h.2⟩
 ·simp at h
theorem AZ (em:Bool) (d:Nat) (V:Array Value):∀ (fs:List Field) (off:Nat),gP P fs off=true→off+fs.length≤V.size →
  (forIn fs PUnit.unit (fun f (_ : PUnit) => if f.name = "_" then pure (ForInStep.yield PUnit.unit) else (do
    let a ←part f.type V f.offset
    (fun _=>ForInStep.yield PUnit.unit) <$> Instr.checkKey em (d+1) f.type a:Sem (ForInStep PUnit)))).run P w=.ok PUnit.unit w
 | [],off,_,_=>by simp
 | f::fs,off,h,ao=>by
   obtain ⟨f1,f2,⟨dg,f3⟩,f4,f5,f6⟩:=zy h;simp only [List.length_cons] at ao;have jH:V[off]?=some V[off]:=su (by omega);(have q1:(part f.type V f.offset).run P w=.ok V[off] w:=by simp only [part,Sem.run_bind,gX f3,f5,Result.andThen_ok,f1,jH,if_false,tS];rfl);(have aW:(Instr.checkKey em (d+1) f.type V[off]).run P w=.ok () w:=by unfold Instr.checkKey;simp [run_underlying f3]);have a8:=AZ em d V fs (off+1) f6 (by omega);simp only [List.forIn_cons,f2,if_false,Sem.run_bind,q1,Result.andThen_ok];simpa [aW] using a8
theorem x_ {t:TypeId} {k:I} {x:Value} (h:kY P t=true) (al:isKey P t k=true) (ai:Rel J S w k x) (em:Bool):(Instr.checkKey em 10000 t x).run P w=.ok () w:=by
 rcases zF h with ⟨q,a_⟩ | ⟨fs,aP,hi,_⟩
 ·unfold Instr.checkKey;simp [run_underlying a_]
 ·unfold isKey at al;simp only [aP] at al;split at al
  ·rename_i aX;cases aX
  ·rename_i Ct cs aX;cases aX;simp at al;cases ai with
   | agg _ V ao _ _ _ =>
     rw [show (10000:Nat)=9998+2 from rfl,Instr.checkKey];have:=AZ (P:=P) (w:=w) em 9998 V fs.toList 0 hi (by simp;omega);rw [Array.forIn_toList] at this;simpa [run_underlying aP] using this
  ·simp at al
theorem A0 {t:TypeId} {fs:Array Field} (ax:P.underlying t=some (.struct fs)) (aP:gP P fs.toList 0=true) (ie:P.stoodInHeld t=false) {k k':I} {x y:Value} {e:Bool} (al:isKey P t k=true) (h:gH k k'=some e)
  (aS:Rel J S w k x) (bh:Rel J S w k' y):(Op.equal t x y).run P w=.ok e w:=by
 unfold isKey at al;simp only [ax] at al;split at al
 ·rename_i aX;cases aX
 ·rename_i Ct cs aX;cases aX;simp at al;cases k' with
  | agg fD =>
    simp only [gH] at h;(have e1:∃ V,x=.agg V:=by cases aS with | agg as vs=>exact ⟨_,rfl⟩);(have b9:∃ V,y=.agg V:=by cases bh with | agg as vs=>exact ⟨_,rfl⟩);obtain ⟨V,rfl⟩:=e1;obtain ⟨W,rfl⟩:=b9;have ao:∀ (xs ys:List I) (e:Bool),dI xs ys=some e→ys.length=xs.length:=by
     intro xs
     induction xs with
     | nil=>intro ys e h;cases ys <;> simp [dI] at h;rfl
     | cons x xs a8 =>
       intro ys e h;cases ys with
       | nil=>cases x <;> simp [dI] at h
       | cons y ys=>obtain ⟨_,_,_,cS,rfl,rfl,aX,_⟩:=nz h;simp [a8 ys cS aX]
    exact run_equalIn_struct 9998 ax aP ie al ((ao _ _ _ h).trans al) h aS bh
  | _=>simp [gH] at h
 ·simp at al
def gx (J:List Nat) (S:Nat→Nat→Prop) (w:World) (es:List (Nat×I×I)) (bA:List MapEntry):Prop :=
 bA.length=es.length∧∀ (j i:Nat) (k v:I) (x:MapEntry),es[j]?=some (i,k,v)→bA[j]?=some x→x.born=i∧k.plain=true∧Rel J S w k x.key∧v.plain=true∧Rel J S w v x.val
theorem gx.cons {e:Nat×I×I} {es:List (Nat×I×I)} {bA:List MapEntry} (h:gx J S w (e::es) bA):∃ x r,bA=x::r∧x.born=e.1∧Rel J S w e.2.1 x.key∧Rel J S w e.2.2 x.val∧gx J S w es r:=by
 cases bA with
 | nil=>simp [gx] at h
 | cons x r =>
   obtain ⟨ab,_,ae,_,aF⟩:=h.2 0 e.1 e.2.1 e.2.2 x rfl rfl;exact ⟨x,r,rfl,ab,ae,aF,by simpa using h.1,fun j i k v y hu aY=>h.2 (j+1) i k v y (by simpa using hu) (by simpa using aY)⟩
def hW (k:I) (es:List (Nat×I×I)) (bA:List MapEntry) (i:Nat):Option Nat→Option (Nat×Value)→Prop
 | none,r=>r=none
 | some n,r=>∃ e x,i≤n∧es[n-i]?=some e∧bA[n-i]?=some x∧r=some (n,x.val)∧gH k e.2.1=some true
theorem hW.step {k:I} {e:Nat×I×I} {es:List (Nat×I×I)} {x:MapEntry} {bA:List MapEntry} {i:Nat} {r:Option Nat} {res:Option (Nat×Value)} (h:hW k es bA (i+1) r res):hW k (e::es) (x::bA) i r res:=by
 cases r with
 | none=>exact h
 | some n =>
   obtain ⟨cS,nc,ab,ae,aF,ba,bO⟩:=h;obtain ⟨m,hm⟩:∃ m,n-i=m+1:=⟨n-(i+1),by omega⟩;(have nL:n-(i+1)=m:=by omega);rw [nL] at ae aF;exact ⟨cS,nc,by omega,by rw [hm];simpa using ae,by rw [hm];simpa using aF,ba,bO⟩
theorem yU {q q0:IntKind} {n:Int}:∀ (es:List (Nat×I×I)) (bA:List MapEntry) (i:Nat) (r:Option Nat),fE (.int q n) es i=some r→gx J S w es bA →
  ∃ res,Instr.findNow (.int q0) (.int q n) bA i=some res∧hW (.int q n) es bA i r res
 | [],bA,i,r,h,ai=>by
   have:bA=[]:=sP.1 (by simpa using ai.1)
   subst this;simp [fE] at h;subst h;exact ⟨none,rfl,rfl⟩
 | (b,k',v)::es,bA,i,r,h,ai=>by
   obtain ⟨x,ents',rfl,ab,ae,aF,ba⟩:=ai.cons;simp only [fE] at h;split at h
   ·rename_i he;cases h;cases k' with
    | int fT m =>
      simp only [gH] at he;split at he
      ·rename_i a_;subst a_;simp at he;subst he;simp only at ae;rw [Instr.findNow,ae.df];exact ⟨some (i,x.val),by simp [Instr.sameNow],_,x,se _,by simp;rfl,by simp,rfl,by simp [gH]⟩
      ·simp at he
    | _=>simp [gH] at he
   ·rename_i he;cases k' with
    | int fT m =>
      simp only [gH] at he;split at he
      ·rename_i a_;subst a_;simp at he;simp only at ae;obtain ⟨res,cc,b_⟩:=yU es ents' (i+1) r h ba;rw [Instr.findNow,ae.df];(have Dp:(n == m)=false:=by simpa using he);exact ⟨res,by simp only [Instr.sameNow,if_true,Dp];exact cc,b_.step⟩
      ·simp at he
    | _=>simp [gH] at he
   ·simp at h
theorem yS {t:TypeId} {fs:Array Field} (ax:P.underlying t=some (.struct fs)) (aP:gP P fs.toList 0=true) (ie:P.stoodInHeld t=false) {k:I} {x:Value} (al:isKey P t k=true) (aS:Rel J S w k x) :
  ∀ (es:List (Nat×I×I)) (bA:List MapEntry) (i:Nat) (r:Option Nat),fE k es i=some r→gx J S w es bA →
  ∃ res,(Instr.findAsking t x bA i).run P w=.ok res w∧hW k es bA i r res
 | [],bA,i,r,h,ai=>by
   have:bA=[]:=sP.1 (by simpa using ai.1)
   subst this;simp [fE] at h;subst h;exact ⟨none,rfl,rfl⟩
 | (b,k',v)::es,bA,i,r,h,ai=>by
   obtain ⟨y,ents',rfl,ab,ae,aF,ba⟩:=ai.cons;simp only [fE] at h;split at h
   ·rename_i he;cases h;have q:=A0 (P:=P) ax aP ie al he aS ae;exact ⟨some (i,y.val),by simp [Instr.findAsking,q],_,y,se _,by simp;rfl,by simp,rfl,he⟩
   ·rename_i he;have q:=A0 (P:=P) ax aP ie al he aS ae;obtain ⟨res,cc,b_⟩:=yS ax aP ie al aS es ents' (i+1) r h ba;exact ⟨res,by simp [Instr.findAsking,q,cc],b_.step⟩
   ·simp at h
theorem m7 {t:TypeId} {k:I} {x:Value} (h:kY P t=true) (al:isKey P t k=true) (ai:Rel J S w k x) {es:List (Nat×I×I)} {bA:List MapEntry} {r:Option Nat} (aP:fE k es 0=some r) (he:gx J S w es bA) :
  ∃ res,(Instr.findKey t x bA).run P w=.ok res w∧hW k es bA 0 r res:=by
 rcases zF h with ⟨q,a_⟩ | ⟨fs,ah,hi,cG⟩
 ·unfold isKey at al;simp only [a_] at al;split at al
  ·rename_i q1 aW n aX;obtain ⟨res,cc,b_⟩:=yU (q0:=q) es bA 0 r aP he;rw [ai.df];exact ⟨res,by simp [Instr.findKey,run_underlying a_,cc],b_⟩
  ·rename_i aX;cases aX
  ·simp at al
 ·obtain ⟨res,cc,b_⟩:=yS ah hi cG al ai es bA 0 r aP he;have cm:∃ V,x=.agg V:=by
   unfold isKey at al;simp only [ah] at al;split at al
   ·rename_i aX;cases aX
   ·cases ai with | agg as vs=>exact ⟨_,rfl⟩
   ·simp at al
  obtain ⟨V,rfl⟩:=cm;cases bA with
  | nil =>
    refine ⟨res,?_,b_⟩;simp [Instr.findAsking] at cc;subst cc;simp [Instr.findKey,run_underlying ah,Instr.findNow]
  | cons y ys =>
    refine ⟨res,?_,b_⟩
    have:Instr.findNow (.struct fs) (.agg V) (y::ys) 0=none:=by simp [Instr.findNow,Instr.sameNow]
    simp [Instr.findKey,run_underlying ah,this,cc]
theorem y7 (w:World) (o:Obj):(w.alloc o).heap[w.heap.size]?=some o:=by
 have e:(w.alloc o).heap=w.heap.push o:=rfl;rw [e];simp
theorem jg {b:Nat} {bA:Array MapEntry} {clock:Nat} (h:w.heap[b]?=some (.map bA clock)):(getObj b).run P w=.ok (.map bA clock) w:=by simp [getObj,Sem.run,h]
theorem oF {b:Nat} {o:Obj} {bA:Array MapEntry} {clock:Nat} (h:w.heap[b]?=some (.map bA clock)):(setObj b o).run P w=.ok () (w.putObj b o):=by simp [setObj,Sem.run,h,World.putObj]
theorem Ex (ag:aK B aa J S w H):aK B (lay aa w.heap.size (.obj H.length)) (J++[w.heap.size]) S (w.alloc (.map #[] 0)) (H++[.map [] 0]) :=
 (nR ag (.map #[] 0) (.obj H.length)).push w.heap.size ⟨w.heap.size,#[],Ext.last ag _,by simp [lay],y7 w _,rfl,mT ag,by simp⟩
theorem F3 (ag:aK B aa J S w H) {t:TypeId} {r:Option Operand} {u:I} {H':List ar} (h:k_ P t r H=some (u,H')) :
  ∃ x w',(Instr.makeMap t (none:Option Value)).run P w=.ok x w'∧r=none∧aZ B aa J S w H' u x w':=by
 unfold k_ at h;split at h
 ·cases h;exact ⟨_,_,by simp only [Instr.makeMap,Sem.run_bind,Sem.run_pure,run_newObj_alloc,Result.andThen_ok],rfl,_,_,S,Ext.append J _,kv ag _ _,Ex ag,.map _ _ (Ext.last ag _),aU.b3 rfl⟩
 ·simp at h
theorem xB {t dX iK:TypeId} (h:j3 P t=some (dX,iK)):P.underlying t=some (.map dX iK)∧kY P dX=true:=by
 unfold j3 at h;split at h
 ·split at h
  ·cases h;exact ⟨by assumption,by assumption⟩
  ·cases h
 ·cases h
theorem F6 (ag:aK B aa J S w H) {lo:Nat} {t:TypeId} {m k v u:I} {H':List ar} {x y z:Value} (h:jb P lo t H [m,k,v]=some (u,H'))
  (e8:Rel J S w m x) (bN:Rel J S w k y) (Af:k.plain=true) (oG:Rel J S w v z) (Al:v.plain=true) (c:Value) :
  ∃ w',(Instr.mapUpdate t x y z).run P w=.ok () w'∧aZ B aa J S w H' u c w':=by
 unfold jb at h;split at h
 ·rename_i id k' bn heq;cases heq;split at h
  ·rename_i dX iK ax;obtain ⟨ax,al⟩:=xB ax;split at h
   ·rename_i hK;split at h
    ·split at h
     ·rename_i es clock aE;obtain ⟨b,bA,aA,aG,aT,bq,bf,bc⟩:=ag.obj _ _ aE;cases e8 with
      | map _ au e0 =>
        rw [aA] at e0;cases e0;have he:gx J S w es bA.toList:=⟨by simpa using bq,fun j i k v x hu aj=>bc j i k v x hu (by simpa using aj)⟩;have hJ:=x_ (P:=P) al hK bN false;split at h
        ·rename_i n aP;cases h;obtain ⟨res,cc,e,x,_,b_,eP,rfl,iM⟩:=m7 (P:=P) al hK bN aP he;simp only [Nat.sub_zero,ui] at b_ eP;obtain ⟨o8,o9,dy⟩:=e;obtain ⟨a7,a9,br,b5,dS⟩:=bc n o8 o9 dy x b_ eP;have cG:=DW (P:=P) iM bN br;obtain ⟨az,b7⟩:=n7 ag aE (es':=es.modify n fun e=>(e.1,k,v)) (clock':=clock) (ents':=bA.modify n fun e=>{ e with key:=y,val:=z }) aA aG bf (by simp [bq]) fun j i dg v0 jr hu aj=>by
          rw [List.getElem?_modify] at hu;rw [Array.getElem?_modify] at aj;by_cases aw:n=j
          ·subst aw;simp only [b_,eP,if_true,sg,Option.map_eq_map,Option.some.injEq,Prod.mk.injEq] at hu aj;obtain ⟨rfl,rfl,rfl⟩:=hu;subst aj;exact ⟨a7,Af,bN,Al,oG⟩
          ·simp only [aw,if_false,id_map'] at hu aj;exact bc j i dg v0 jr (by simpa using hu) (by simpa using aj)
         refine ⟨_,?_,aa,J,S,Ext.refl J,az,b7,.a0 _,aU.b3 rfl⟩;simp only [Instr.mapUpdate,Sem.run_bind,run_underlying ax,Result.andThen_ok,jg aT,hJ,cc,eP,sg,uw,cG,oF aT]
        ·rename_i aP;cases h;obtain ⟨res,cc,b_⟩:=m7 (P:=P) al hK bN aP he;simp only [hW] at b_;subst b_;obtain ⟨az,b7⟩:=n7 ag aE (es':=es++[(clock,k,v)]) (clock':=clock+1) (ents':=bA.push { key:=y,val:=z,born:=clock }) aA aG bf (by simp [bq]) fun j i dg v0 jr hu aj=>by
          rw [Array.getElem?_push] at aj;split at aj
          ·rename_i aw;rw [aw,bq,sv (se _)] at hu;simp at hu aj;obtain ⟨rfl,rfl,rfl⟩:=hu;subst aj;exact ⟨rfl,Af,bN,Al,oG⟩
          ·rename_i aw;have aR:j<bA.size:=(sO.1 aj).1;rw [sj (by omega)] at hu;exact bc j i dg v0 jr hu aj
         refine ⟨_,?_,aa,J,S,Ext.refl J,az,b7,.a0 _,aU.b3 rfl⟩;simp only [Instr.mapUpdate,Sem.run_bind,run_underlying ax,Result.andThen_ok,jg aT,hJ,cc,oF aT]
        ·cases h
     ·cases h
    ·cases h
   ·cases h
  ·cases h
 ·cases h
theorem GG {t:TypeId} {u:I} (h:oT P t=some u):∃ v,(zeroValue t).run P w=.ok v w∧Rel J S w u v∧u.plain=true:=by
 unfold oT at h;simp only [si] at h;obtain ⟨v,⟨i,hi,ad⟩,h⟩:=h;refine ⟨v,ji hi ad,?_⟩;split at h
 ·rename_i cs;split at h
  ·rename_i cY;cases h;refine ⟨.agg _ _ (by simp) (fun u hu=>?_) (fun v ad=>by simp only [sr] at cY;exact cY v ad) (fun j u v hu ad=>?_),rfl⟩
   ·obtain ⟨x,_,rfl⟩:=sD.1 hu;exact np x
   ·rw [sq,ui,ad] at hu;simp at hu;subst hu;exact lL _ _ _ _
  ·cases h
 ·cases h;exact ⟨lL _ _ _ _,np _⟩
theorem F2 (ag:aK B aa J S w H) {t:TypeId} {ok:Bool} {m k u:I} {H':List ar} {x y:Value} (h:iq P t ok H [m,k]=some (u,H'))
  (e8:Rel J S w m x) (bN:Rel J S w k y) :
  ∃ v,(Instr.lookup t x y ok).run P w=.ok v w∧aZ B aa J S w H' u v w:=by
 unfold iq at h;split at h
 ·rename_i id k' heq;cases heq;split at h
  ·rename_i dX iK ax;obtain ⟨ax,al⟩:=xB ax;split at h
   ·rename_i es clock hK aE;obtain ⟨b,bA,aA,aG,aT,bq,bf,bc⟩:=ag.obj _ _ aE;cases e8 with
    | map _ au e0 =>
      rw [aA] at e0;cases e0;have he:gx J S w es bA.toList:=⟨by simpa using bq,fun j i k v x hu aj=>bc j i k v x hu (by simpa using aj)⟩;have hJ:=x_ (P:=P) al hK bN bA.isEmpty;split at h
      ·rename_i r aP;simp only [sb,Prod.mk.injEq] at h;obtain ⟨v,ad,rfl,rfl⟩:=h;obtain ⟨res,cc,b_⟩:=m7 (P:=P) al hK bN aP he;have fin:∀ (z:Value) (b:Bool),Rel J S w v z→v.plain=true →
         aZ B aa J S w H (if ok then .tuple [v,.bool b] else v) (if ok then .tuple #[z,.bool b] else z) w:=fun z b ai aB=>by
        cases ok with
        | true=>exact aZ.same ag (.tuple _ _ rfl (fun u hu=>by simp only [sB,List.not_mem_nil,or_false] at hu;rcases hu with rfl | rfl;exact aB;rfl) fun j u bn hu bg=>by
          match j with
          | 0=>simp at hu bg;subst hu;subst bg;exact ai
          | 1=>simp at hu bg;subst hu;subst bg;exact .bool _
          | j+2=>simp at hu) rfl
        | false=>exact aZ.same ag ai aB
       cases r with
       | none =>
         simp only [hW] at b_;subst b_;obtain ⟨z,yq,oS,GF⟩:=GG (J:=J) (S:=S) (w:=w) ad;exact ⟨_,by simp only [Instr.lookup,Sem.run_bind,run_underlying ax,Result.andThen_ok,jg aT,Sem.run_pure,hJ,cc,yq],fin z false oS GF⟩
       | some n =>
         obtain ⟨e,x,_,aW,cC,rfl,dD⟩:=b_;simp only [Nat.sub_zero,ui] at aW cC;obtain ⟨o8,o9,dy⟩:=e;obtain ⟨a7,a9,br,b5,dS⟩:=bc n o8 o9 dy x aW cC;simp only [sc,aW,Option.some.injEq] at ad;subst ad;exact ⟨_,by simp only [Instr.lookup,Sem.run_bind,run_underlying ax,Result.andThen_ok,jg aT,Sem.run_pure,hJ,cc],fin x.val true dS b5⟩
      ·cases h
   ·cases h
  ·cases h
 ·cases h
theorem FW (ag:aK B aa J S w H) {lo:Nat} {ts:Array TypeId} (ty:TypeId) {m k u:I} {H':List ar} {x y:Value} (h:hO P lo ts H [m,k]=some (u,H'))
  (e8:Rel J S w m x) (bN:Rel J S w k y) :
  ∃ v w',(Builtin.delete_ ts ty #[x,y]).run P w=.ok v w'∧aZ B aa J S w H' u v w':=by
 unfold hO at h;split at h
 ·rename_i id k' heq;cases heq;split at h
  ·rename_i dX iK ax;simp only [si] at ax;obtain ⟨t,gN,ax⟩:=ax;obtain ⟨ax,al⟩:=xB ax;split at h
   ·rename_i hK;split at h
    ·split at h
     ·rename_i es clock aE;obtain ⟨b,bA,aA,aG,aT,bq,bf,bc⟩:=ag.obj _ _ aE;cases e8 with
      | map _ au e0 =>
        rw [aA] at e0;cases e0;have he:gx J S w es bA.toList:=⟨by simpa using bq,fun j i k v x hu aj=>bc j i k v x hu (by simpa using aj)⟩;have hJ:=x_ (P:=P) al hK bN bA.isEmpty;have Bu:∀ (w:World),Rel J S w (.tuple []) (.tuple #[]):=fun w=>.tuple _ _ rfl (by simp) (by simp);split at h
        ·rename_i n aP;cases h;obtain ⟨res,cc,e,x,_,b_,eP,rfl,iM⟩:=m7 (P:=P) al hK bN aP he;obtain ⟨az,b7⟩:=n7 ag aE (es':=es.eraseIdx n) (clock':=clock) (ents':=bA.eraseIdxIfInBounds n) aA aG bf (by rw [←s7,Array.toList_eraseIdxIfInBounds];simp [List.length_eraseIdx,bq]) fun j i dg v0 jr hu aj=>by
          rw [←ui,Array.toList_eraseIdxIfInBounds] at aj;rw [List.getElem?_eraseIdx] at hu aj;by_cases aw:j<n
          ·simp only [aw,if_true] at hu aj;exact bc j i dg v0 jr hu (by simpa using aj)
          ·simp only [aw,if_false] at hu aj;exact bc _ i dg v0 jr hu (by simpa using aj)
         refine ⟨_,_,?_,aa,J,S,Ext.refl J,az,b7,Bu _,aU.b3 rfl⟩;simp only [Builtin.delete_,gN,vu,tK,ug,Sem.run_bind,run_underlying ax,Result.andThen_ok,jg aT,hJ,cc,oF aT,Sem.run_pure]
        ·rename_i aP;cases h;obtain ⟨res,cc,b_⟩:=m7 (P:=P) al hK bN aP he;simp only [hW] at b_;subst b_;obtain ⟨az,b7⟩:=n7 ag aE (es':=es) (clock':=clock) (ents':=bA) aA aG bf bq bc;have DI:H.set id (.map es clock)=H:=uA fun j=>by
          by_cases aw:id=j
          ·subst aw;rw [sm (sd.1 aE).1,aE]
          ·rw [sf aw]
         rw [DI] at b7;refine ⟨_,_,?_,aa,J,S,Ext.refl J,az,b7,Bu _,aU.b3 rfl⟩;simp only [Builtin.delete_,gN,vu,tK,ug,Sem.run_bind,run_underlying ax,Result.andThen_ok,jg aT,hJ,cc,oF aT,Sem.run_pure]
        ·cases h
     ·cases h
    ·cases h
   ·cases h
  ·cases h
 ·cases h
theorem F' (ag:aK B aa J S w H) {t:TypeId} {m u:I} {H':List ar} {x:Value} (h:la P t H [m]=some (u,H')) (e8:Rel J S w m x) :
  ∃ v w',(Instr.range t x).run P w=.ok v w'∧aZ B aa J S w H' u v w':=by
 unfold la at h;split at h
 ·rename_i id heq;cases heq;split at h
  ·rename_i dX iK es clock ax aE;cases h;obtain ⟨b,bA,aA,aG,aT,bq,bf,bc⟩:=ag.obj _ _ aE;cases e8 with
   | map _ au e0 =>
     rw [aA] at e0;cases e0;refine ⟨.pointer (some ⟨w.heap.size,0,none⟩),w.alloc (.mapIter (some b) clock #[] clock),by simp only [Instr.range,Sem.run_bind,run_underlying ax,Result.andThen_ok,jg aT,Sem.run_pure,run_newObj_alloc],_,_,S,Ext.append J _,kv ag _ (.obj H.length),?_,.ptr _ _ _ (Ext.last ag _),aU.b3 rfl⟩;exact (nR ag _ (.obj H.length)).push w.heap.size ⟨w.heap.size,b,Ext.last ag _,by simp [lay],Ext.append J _ _ _ aA,y7 w _,mT ag⟩
  ·cases h
 ·cases h
theorem yT {J:List Nat} {S:Nat→Nat→Prop} {w:World} (gn:Nat):∀ (es:List (Nat×I×I)) (bA:List MapEntry) (e:Nat×I×I),gx J S w es bA→es.find? (fun e=>e.1 == gn)=some e →
  ∃ x,bA.find? (fun x=>x.born == gn)=some x∧Rel J S w e.2.1 x.key∧Rel J S w e.2.2 x.val∧e.2.1.plain=true∧e.2.2.plain=true
 | [],bA,e,ai,h=>by simp at h
 | f_::es,bA,e,ai,h=>by
   have aQ:=ai;obtain ⟨x,ents',rfl,ab,ae,aF,ba⟩:=ai.cons;obtain ⟨_,bT,_,b0,_⟩:=aQ.2 0 f_.1 f_.2.1 f_.2.2 x rfl rfl;rw [List.find?_cons] at h ⊢;rw [ab];split at h
   ·rename_i af;cases h;exact ⟨x,by simp,ae,aF,bT,b0⟩
   ·rename_i af;obtain ⟨nc,g⟩:=yT gn es ents' e ba h;exact ⟨nc,by simp [g.1],g.2⟩
theorem FX (ag:aK B aa J S w H) {m u:I} {H':List ar} {x:Value} (h:k9 H [m]=some (u,H')) (e8:Rel J S w m x) :
  ∃ v,(Instr.entry x).run P w=.ok v w∧aZ B aa J S w H' u v w:=by
 unfold k9 at h;split at h
 ·rename_i r heq;cases heq;split at h
  ·rename_i m since seen kf aE;split at h
   ·rename_i gn es clock cG Di;split at h
    ·rename_i ak;subst ak;split at h
     ·rename_i e he;cases h;obtain ⟨b,d',aA,aG,aT,bq,bf⟩:=ag.obj _ _ aE;obtain ⟨au,bA,a7,a9,br,b5,dS,fY⟩:=ag.obj _ _ Di;rw [aT] at a7;cases a7;cases e8 with
      | ptr _ _ au e0 =>
        rw [aA] at e0;cases e0;have ai:gx J S w es bA.toList:=⟨by simpa using b5,fun j i k v x hu aj=>fY j i k v x hu (by simpa using aj)⟩;obtain ⟨y,cc,b_,eP,iM,Cu⟩:=yT gn es bA.toList e ai he;(have af:(seen.toArray).back?=some gn:=by simpa using cG);have aO:(getObj b).run P w=.ok (.mapIter (some d') since seen.toArray clock) w:=by simp [getObj,Sem.run,bq]
        refine ⟨.tuple #[y.key,y.val],?_,aZ.same ag (.tuple _ _ rfl (by simp [iM,Cu]) fun j u bn hu bg=>by
          match j with
          | 0=>simp at hu bg;subst hu;subst bg;exact b_
          | 1=>simp at hu bg;subst hu;subst bg;exact eP
          | j+2=>simp at hu) rfl⟩
        (have aP:bA.find? (fun x=>x.born == gn)=some y:=by rw [←Array.find?_toList];exact cc);simp [Instr.entry,aO,af,jg br,aP]
     ·cases h
    ·cases h
   ·cases h
  ·cases h
 ·cases h
end
end Go.Proofs.Ytkoioidpbbbaiaa.Ab


namespace Go.Proofs.Ytkoioidpbbbaiaa.Ab
open Go
section
variable {P:Program} {B:Nat} {J:List Nat} {w:World} {H:List ar} {aa:Nat→Option aH} {S:Nat→Nat→Prop}
theorem xI (ag:aK B aa J S w H) {id off len sz n:Nat} {cap:Option Nat} {row:List I} {v:Value} (cF:rowOf H (.ref id off len cap sz)=some row) (aI:lenOf (.ref id off len cap sz)=some n)
  (ai:Rel J S w (.ref id off len cap sz) v) :
  aZ B aa J S w (H.set id .dead) (.av row n (eZ cap n)) v w:=by
 classical
 simp [lenOf] at aI;subst aI;cases ai with
 | ref _ _ _ _ _ b ej af ak hle =>
   unfold rowOf at cF;simp only at cF;split at cF
   ·rename_i l aE;split at cF
    ·rename_i dG;simp only [Option.some.injEq] at cF;obtain ⟨au,cur,e,aA,aG,aT,bq,bf,bc⟩:=ag.obj id _ aE;rw [af] at aA;cases aA
     let S':Nat→Nat→Prop:=fun au o=>S au o∨(au=b∧o<cur.size)
     let ay:Nat→Option aH:=fun au=>if au=b then none else aa au
     have bx:∀ o,o<cur.size→w.cell? ⟨b,o,none⟩=cur[o]?:=fun o aq=>by
      simp [World.cell?,aT,aq]
     have az:bk aa S w ay S' w:=⟨rfl,rfl,rfl,se _,fun _ _ _=>rfl,fun _ _ h=>⟨.inl h,rfl⟩,fun au o h=>by
       rcases h with h | ⟨rfl,_⟩
       ·exact .inl h
       ·exact .inr (.inl (by simp [aG])),fun au bu=>by
       by_cases dF:au=b
       ·simp [ay,dF] at bu
       ·simp only [ay,dF,if_false] at bu;exact .inl bu⟩
     have bV:aK B ay J S' w (H.set id .dead):=by
      refine ⟨by simpa using ag.cH,fun bB o aq=>?_,fun au o h=>?_,fun au l' bu=>?_,ag.cX⟩
      ·by_cases ct:bB=id
       ·subst ct
        have:o=.dead:=by
         have:=(sd.1 aE).1;simp [this] at aq;exact aq.symm
        subst this;trivial
       ·rw [sf (Ne.symm ct)] at aq;refine (ag.obj bB o aq).frame (Ext.refl J) az.set (fun au l' bu ao=>?_);have bI:au≠b:=fun e=>by
         subst e;rw [aG] at bu;cases bu;rcases ao with h | ⟨j,h⟩
         ·cases h;exact ct rfl
         ·cases h
        exact ⟨by simp [ay,bI,bu],rfl,fun o h=>h.resolve_right fun h=>bI h.1⟩
      ·rcases h with h | ⟨rfl,h⟩
       ·exact ag.cb _ _ h
       ·exact ⟨_,(bx o h).trans (su h)⟩
      ·by_cases dF:au=b
       ·simp [ay,dF] at bu
       ·simp only [ay,dF,if_false] at bu;exact ag.base _ _ bu
     (have hlen:row.length=len*sz:=by subst cF;simp;omega);refine ⟨ay,J,S',Ext.refl J,az,bV,.av row len _ b off ej (fun j=>cur.getD (off+j) undef) (fun h=>?_) hle (fun z h=>?_) (fun j u aw=>?_) (fun j u aw=>?_),aU.b3 ?_⟩
     ·unfold eZ at h;cases cap with
      | none=>simp at h
      | some c =>
        simp only at h;split at h
        ·rename_i cE;rw [ak c rfl,cE]
        ·cases h
     ·unfold eZ at h;cases cap with
      | none=>simp at h
      | some c=>simp only at h;split at h <;> cases h
     all_goals (try (
      have h8:=(sd.1 aw).1;(have fo:off+j<l.length:=by omega);(have ff:off+j<cur.size:=by omega);have aj:l[off+j]?=some l[off+j]:=sk fo;have ad:cur[off+j]?=some cur[off+j]:=su ff;(have aO:cur.getD (off+j) undef=cur[off+j]:=by simp [ff]);have hu:u=l[off+j].view:=by
       subst cF;rw [sq,sL,if_pos (by simp at h8;omega),sU,aj] at aw;simpa using aw.symm
      obtain ⟨a7,a9,br,b5⟩:=bc (off+j) _ _ aj ad
      subst hu))
     ·exact ⟨.inr ⟨rfl,ff⟩,by rw [bx _ ff,ad,aO],I.di _,by rw [aO];exact a9⟩
     ·rw [aO];exact (br.view a7).mono (Ext.refl J) az.set
     ·unfold eZ;cases cap with
      | none=>rfl
      | some c=>simp only;split <;> rfl
    ·simp at cF
   ·simp at cF
theorem Bi (ag:aK B aa J S w H) {t e:TypeId} (ax:P.underlying t=some (.slice e)) {id off n z:Nat} {l c:List I} (aE:H[id]?=some (.cells l)) (cA:l[off]?=some (.av c n (.own z))) {v:Value}
  (ai:Rel J S w (.ptr id off) v) :
  ∃ x,(Instr.loadAt t v).run P w=.ok x w∧aZ B aa J S w (H.set id (.cells (l.set off (.av c n .shared)))) (.av c n (.own z)) x w:=by
 classical
 have cm:dH P t=false:=by simp [dH,ax]
 obtain ⟨b,cur,cS,aA,aG,aT,bq,bf,bc⟩:=ag.obj id _ aE;cases ai with
 | ptr _ _ au af =>
   rw [aA] at af;cases af;have aw:off<l.length:=(sd.1 cA).1;(have fo:off<cur.size:=by omega);have ha:cur[off]?=some cur[off]:=su fo;obtain ⟨a7,a9,br,b5⟩:=bc off _ _ cA ha;(have bx:w.cell? ⟨b,off,none⟩=some cur[off]:=by rw [cell_of_row w b _ cur cS (0,0) aT,ha]);refine ⟨cur[off],by simp [Instr.loadAt,Instr.sureAddr,loadVar,gX ax,cm,load,Sem.run,bx],?_⟩
   let ay:Nat→Option aH:=fun au=>if aa au=some (.cell id off) then some .res else aa au
   have az:bk aa S w ay S w:=⟨rfl,rfl,rfl,se _,fun _ _ _=>rfl,fun _ _ h=>⟨h,rfl⟩,fun _ _ h=>.inl h,fun b af=>.inl fun aQ=>af (by simp [ay,aQ])⟩;have al:∀ au l',aa au=some l'→l'≠.cell id off→ay au=some l':=fun au l' ab ae=>by
    have:¬ aa au=some (.cell id off):=by rw [ab];intro e;cases e;exact ae rfl
    simp [ay,ab,ae]
   refine ⟨ay,J,S,Ext.refl J,az,⟨by simpa using ag.cH,fun bB o aq=>?_,ag.cb,fun au l' bu=>?_,ag.cX⟩,br,b5.mono (Ext.refl J) az.set fun au bu=>⟨by simp [ay,bu],rfl,fun _ h=>h⟩⟩
   ·by_cases ct:bB=id
    ·subst ct;rw [sm (sd.1 aE).1] at aq;cases aq;refine ⟨b,cur,cS,aA,al b _ aG (by simp),aT,by simpa using bq,bf,fun j u v hu ad=>?_⟩;by_cases hL:j=off
     ·subst hL;rw [sm aw] at hu;cases hu;obtain ⟨cc,b_,eP,_⟩:=bc j _ _ cA ad;exact ⟨rfl,b_,eP.view cc,aU.b3 rfl⟩
     ·rw [sf (Ne.symm hL)] at hu;obtain ⟨d1,d2,d3,d4⟩:=bc j u v hu ad;exact ⟨d1,d2,d3,d4.mono (Ext.refl J) az.set fun au bu=>⟨al au _ bu (by simp [hL]),rfl,fun _ h=>h⟩⟩
    ·rw [sf (Ne.symm ct)] at aq;refine (ag.obj bB o aq).frame (Ext.refl J) az.set (fun au l' bu ao=>⟨al au l' bu ?_,rfl,fun _ h=>h⟩);rcases ao with rfl | ⟨j,rfl⟩
     ·simp
     ·simp [ct]
   ·by_cases h:aa au=some (.cell id off)
    ·exact ag.base au _ h
    ·simp only [ay,h,if_false] at bu;exact ag.base au l' bu
theorem Bj (ag:aK B aa J S w H) {t e:TypeId} (ax:P.underlying t=some (.slice e)) {id off n z:Nat} {l c:List I} (aE:H[id]?=some (.cells l)) (cA:l[off]?=some (.raw c n z)) {v:Value}
  (ai:Rel J S w (.ptr id off) v) :
  ∃ b x,J[id]?=some b∧w.cell? ⟨b,off,none⟩=some x∧x.oneCell'=true∧(Instr.loadAt t v).run P w=.ok x w∧aZ B aa J S w (H.set id (.cells (l.set off .a0))) (.av c n (.uniq z)) x w:=by
 classical
 have cm:dH P t=false:=by simp [dH,ax]
 obtain ⟨b,cur,cS,aA,aG,aT,bq,bf,bc⟩:=ag.obj id _ aE;cases ai with
 | ptr _ _ au af =>
   rw [aA] at af;cases af;have aw:off<l.length:=(sd.1 cA).1;(have fo:off<cur.size:=by omega);have ha:cur[off]?=some cur[off]:=su fo;obtain ⟨a7,a9,br,b5⟩:=bc off _ _ cA ha;obtain ⟨Gl,Gm⟩:=EV br b5;(have bx:w.cell? ⟨b,off,none⟩=some cur[off]:=by rw [cell_of_row w b _ cur cS (0,0) aT,ha]);refine ⟨b,cur[off],aA,bx,a9,by simp [Instr.loadAt,Instr.sureAddr,loadVar,gX ax,cm,load,Sem.run,bx],?_⟩
   let ay:Nat→Option aH:=fun au=>if aa au=some (.cell id off) then some .res else aa au
   have az:bk aa S w ay S w:=⟨rfl,rfl,rfl,se _,fun _ _ _=>rfl,fun _ _ h=>⟨h,rfl⟩,fun _ _ h=>.inl h,fun b af=>.inl fun aQ=>af (by simp [ay,aQ])⟩;have al:∀ au l',aa au=some l'→l'≠.cell id off→ay au=some l':=fun au l' ab ae=>by
    have:¬ aa au=some (.cell id off):=by rw [ab];intro e;cases e;exact ae rfl
    simp [ay,ab,ae]
   refine ⟨ay,J,S,Ext.refl J,az,⟨by simpa using ag.cH,fun bB o aq=>?_,ag.cb,fun au l' bu=>?_,ag.cX⟩,Gl,Gm.mono (Ext.refl J) az.set fun au bu=>⟨by simp [ay,bu],rfl,fun _ h=>h⟩⟩
   ·by_cases ct:bB=id
    ·subst ct;rw [sm (sd.1 aE).1] at aq;cases aq;refine ⟨b,cur,cS,aA,al b _ aG (by simp),aT,by simpa using bq,bf,fun j u v hu ad=>?_⟩;by_cases hL:j=off
     ·subst hL;rw [sm aw] at hu;cases hu;obtain ⟨cc,b_,eP,_⟩:=bc j _ _ cA ad;exact ⟨rfl,b_,.a0 _,aU.b3 rfl⟩
     ·rw [sf (Ne.symm hL)] at hu;obtain ⟨d1,d2,d3,d4⟩:=bc j u v hu ad;exact ⟨d1,d2,d3,d4.mono (Ext.refl J) az.set fun au bu=>⟨al au _ bu (by simp [hL]),rfl,fun _ h=>h⟩⟩
    ·rw [sf (Ne.symm ct)] at aq;refine (ag.obj bB o aq).frame (Ext.refl J) az.set (fun au l' bu ao=>⟨al au l' bu ?_,rfl,fun _ h=>h⟩);rcases ao with rfl | ⟨j,rfl⟩
     ·simp
     ·simp [ct]
   ·by_cases h:aa au=some (.cell id off)
    ·exact ag.base au _ h
    ·simp only [ay,h,if_false] at bu;exact ag.base au l' bu
theorem zn (ag:aK B aa J S w H) {id off b:Nat} {l:List I} (aE:H[id]?=some (.cells l)) (af:J[id]?=some b) {u:I} {x:Value} (aj:w.cell? ⟨b,off,none⟩=some x) (ab:x.oneCell'=true) (aB:u.plain=true) (ai:Rel J S w u x) :
  aK B aa J S w (H.set id (.cells (l.set off u))):=by
 refine ⟨by simpa using ag.cH,fun bB o aq=>?_,ag.cb,ag.base,ag.cX⟩;by_cases ct:bB=id
 ·subst ct;rw [sm (sd.1 aE).1] at aq;cases aq;obtain ⟨au,cur,cS,aA,aG,aT,bq,bf,bc⟩:=ag.obj bB _ aE;rw [af] at aA;cases aA;refine ⟨b,cur,cS,af,aG,aT,by simpa using bq,bf,fun j y v hu ad=>?_⟩;by_cases hL:off=j
  ·subst hL;(have aR:off<l.length:=by have:=(sd.1 hu).1;simpa using this);rw [sm aR] at hu;cases hu;rw [cell_of_row w b _ cur cS (0,0) aT,ad] at aj;cases aj;exact ⟨I.fu aB,ab,ai,aU.b3 aB⟩
  ·rw [sf hL] at hu;exact bc j y v hu ad
 ·rw [sf (Ne.symm ct)] at aq;exact ag.obj bB o aq
theorem Gd (ag:aK B aa J S w H) {t e:TypeId} (ax:P.underlying t=some (.slice e)) {id off n z:Nat} {l c:List I} (aI:n≠0) (aE:H[id]?=some (.cells l)) (cA:l[off]?=some (.raw c n z)) {v:Value}
  (ai:Rel J S w (.ptr id off) v) :
  ∃ x,(Instr.loadAt t v).run P w=.ok x w∧aZ B aa J S w (H.set id (.cells (l.set off (.ref H.length 0 n none z)))++[.cells c]) (.ref H.length 0 n none z) x w:=by
 obtain ⟨b,x,ab,ae,aF,ba,b4,cW,a4,aJ,aN,b',hn,n0⟩:=Bj ag ax aE cA ai;refine ⟨x,ba,?_⟩;obtain ⟨bt,cg,bK,c9,c_,j1,k2,zR⟩:=xL b' (l:=.res) (by simp) (by simp) aI hn n0;rw [List.length_set] at k2 zR;have aR:=(sd.1 aE).1;have gK:cg[id]?=some b:=c9 _ _ (aJ _ _ ab);have pJ:(H.set id (ar.cells (l.set off .a0))++[ar.cells c])[id]?=some (ar.cells (l.set off .a0)):=by
  rw [sj (by simpa using aR),sm aR]
 have aj:=zn j1 pJ gK ae aF (u:=.ref H.length 0 n none z) rfl k2;have e:(H.set id (ar.cells (l.set off .a0))++[ar.cells c]).set id (ar.cells ((l.set off .a0).set off (.ref H.length 0 n none z)))=H.set id (ar.cells (l.set off (.ref H.length 0 n none z)))++[ar.cells c]:=by
  rw [List.set_append_left _ _ (by simpa using aR),sY,sY]
 rw [e] at aj;exact ⟨bt,cg,bK,aJ.trans c9,aN.trans c_,aj,k2,zR⟩
theorem DR {x:Operand} (h:iW x=true):x=.const (.slice none 0 0):=by
 unfold iW at h;split at h
 ·rfl
 ·simp at h
theorem ev (i:Nat):∀ id,aH.arg i≠.obj id:=fun _=>by simp
theorem ew (i:Nat):∀ id j,aH.arg i≠.cell id j:=fun _ _=>by simp
theorem EN (ag:aK B aa J S w H) {id gid n z:Nat} {l:List I} (aE:H[id]?=some (.grow l gid z)) (aI:n*z≤l.length) (aB:(l.take (n*z)).all I.plain=true) {v:Value} (ai:Rel J S w (.cj id gid n z) v) :
  aZ B aa J S w (H.set id .dead) (.av (l.take (n*z)) n (.uniq z)) v w:=by
 classical
 rw [sr] at aB;obtain ⟨b,cur,e,aA,aG,aT,bq,bf,bc,cap,da,du,dP,gC⟩:=ag.obj id _ aE;cases ai with
 | cj _ _ _ _ au cap' af aO hle =>
   rw [aA] at af;cases af;rw [da] at aO;cases aO
   let ay:Nat→Option aH:=fun au=>if aa au=some (.obj id) then some .res else aa au
   have az:bk aa S w ay S w:=⟨rfl,rfl,rfl,se _,fun _ _ _=>rfl,fun _ _ h=>⟨h,rfl⟩,fun _ _ h=>.inl h,fun b af=>.inl fun aQ=>af (by simp [ay,aQ])⟩;have al:∀ au l',aa au=some l'→l'≠.obj id→ay au=some l':=fun au l' ab ae=>by
    have:¬ aa au=some (.obj id):=by rw [ab];intro e;cases e;exact ae rfl
    simp [ay,ab,ae]
   refine ⟨ay,J,S,Ext.refl J,az,⟨by simpa using ag.cH,fun bB o aq=>?_,ag.cb,fun au l' bu=>?_,ag.cX⟩,.cM _ _ _ _ _ _,.inr ⟨by simp [ay,aG],rfl,hle,du,dP,by simp;omega,⟨cur,e,aT,gC,fun j u v hu ad=>?_⟩,bf⟩⟩
   ·by_cases ct:bB=id
    ·subst ct;rw [sm (sd.1 aE).1] at aq;cases aq;trivial
    ·rw [sf (Ne.symm ct)] at aq;refine (ag.obj bB o aq).frame (Ext.refl J) az.set (fun au l' bu ao=>⟨al au l' bu ?_,rfl,fun _ h=>h⟩);rcases ao with rfl | ⟨j,rfl⟩
     ·simp [ct]
     ·simp
   ·by_cases h:aa au=some (.obj id)
    ·exact ag.base au _ h
    ·simp only [ay,h,if_false] at bu;exact ag.base au l' bu
   ·have b8:u∈l.take (n*z):=sy hu;rw [sL] at hu;split at hu
    ·obtain ⟨_,a9,br,_⟩:=bc j u v hu ad;exact ⟨aB u b8,a9,br⟩
    ·simp at hu
theorem Bg (ag:aK B aa J S w H) {aV:Operand→Value} (eT:∀ v,aV (.const v)=v) {lo mode:Nat} {t:TypeId} {x:Operand} {us:List I} {r:I} {H':List ar}
  (h:eU P lo mode t x H us=some (r,H')) (ad:a5 (fun i=>.arg i) aa J S w us ([x].map aV)):aZ B aa J S w H' r (aV x) w:=by
 obtain ⟨u,rfl,aS,bw⟩:=a5.one ad;unfold eU at h;simp only at h;split at h
 ·split at h
  ·rename_i aI ax;simp only [sb,Prod.mk.injEq] at h;obtain ⟨z,_,rfl,rfl⟩:=h;rw [DR aI,eT];exact ⟨aa,J,S,Ext.refl J,bk.refl aa S w,ag,.b2 _ _,trivial⟩
  ·cases h;exact hP ag (ev _) (ew _) aS bw
 ·split at h
  ·rename_i cells len z;split at h
   ·cases h;exact hP ag (ev _) (ew _) aS bw
   ·rename_i aQ;cases h;exact xL ag (ev _) (ew _) aQ aS bw
  ·cases h;exact hP ag (ev _) (ew _) aS bw
  ·cases h;exact hP ag (ev _) (ew _) aS bw
  ·simp at h
 ·split at h
  ·rename_i id gid n z;split at h
   ·split at h
    ·rename_i l g cU aE;split at h
     ·rename_i ak;obtain ⟨rfl,rfl,ab,ae⟩:=ak;cases h;exact EN ag aE ab ae aS
     ·simp at h
    ·simp at h
   ·simp at h
  ·cases h;exact hP ag (ev _) (ew _) aS bw
 ·split at h
  ·rename_i id off len cap sz;split at h
   ·simp only [si,sb,Prod.mk.injEq] at h;obtain ⟨row,cF,n,aI,rfl,rfl⟩:=h;exact xI ag cF aI aS
   ·simp at h
  ·rename_i id gid n z;split at h
   ·split at h
    ·rename_i l g cU aE;split at h
     ·rename_i ao;cases h;have aR:=(sd.1 aE).1;have q:=xI (ag.oP aE) (row:=l.map I.view) (by simp only [rowOf,sm aR,sG];rw [if_pos (by omega),List.drop_zero,tf (by omega)]) rfl (aS.view rfl);rw [sY] at q;exact q
     ·simp at h
    ·simp at h
   ·simp at h
  ·cases h;obtain ⟨S',aJ,aN,b7,bh⟩:=mM ag (ev _) (ew _) aS bw;exact aZ.after (Ext.refl J) (bk.settle aJ fun b o h=>(aN b o h).imp id fun h=>⟨_,h⟩) (aZ.same b7 bh (I.di _))
theorem F0 (ag:aK B aa J S w H) {t e:TypeId} (ax:P.underlying t=some (.slice e)) {id off i g n z:Nat} {l:List I} (aE:H[id]?=some (.cells l)) (cA:l[off]?=some (.cj i g n z)) {v:Value}
  (ai:Rel J S w (.ptr id off) v):∃ x,(Instr.loadAt t v).run P w=.ok x w∧aZ B aa J S w H (.cj i g n z) x w:=by
 have cm:dH P t=false:=by simp [dH,ax]
 obtain ⟨b,cur,cS,aA,aG,aT,bq,bf,bc⟩:=ag.obj id _ aE;cases ai with
 | ptr _ _ au af =>
   rw [aA] at af;cases af;have aw:off<l.length:=(sd.1 cA).1;(have fo:off<cur.size:=by omega);have ha:cur[off]?=some cur[off]:=su fo;obtain ⟨a7,a9,br,b5⟩:=bc off _ _ cA ha;(have bx:w.cell? ⟨b,off,none⟩=some cur[off]:=by rw [cell_of_row w b _ cur cS (0,0) aT,ha]);exact ⟨cur[off],by simp [Instr.loadAt,Instr.sureAddr,loadVar,gX ax,cm,load,Sem.run,bx],aa,J,S,Ext.refl J,bk.refl aa S w,ag,br,trivial⟩
theorem F1 (ag:aK B aa J S w H) {t:TypeId} {id off rid o n z:Nat} {cap:Option Nat} {l row:List I} {r:I} {v:Value} (aE:H[id]?=some (.cells l)) (cA:l[off]?=some (.ref rid o n cap z)) (bI:rid≠id) (cF:rowOf H (.ref rid o n cap z)=some row)
  (h:dv P ((H.set rid .dead).set id (.cells (l.set off (.av row n (eZ cap n))))) t (.ptr id off)=some r) (ai:Rel J S w (.ptr id off) v) :
  ∃ x,(Instr.loadAt t v).run P w=.ok x w∧aZ B aa J S w ((H.set rid .dead).set id (.cells (l.set off (.av row n (eZ cap n))))) r x w:=by
 obtain ⟨b,cur,cS,aA,aG,aT,bq,bf,bc⟩:=ag.obj id _ aE;have aw:off<l.length:=(sd.1 cA).1;have ha:cur[off]?=some cur[off]:=su (by omega);obtain ⟨a7,a9,br,b5⟩:=bc off _ _ cA ha;have bx:w.cell? ⟨b,off,none⟩=some cur[off]:=by rw [cell_of_row w b _ cur cS (0,0) aT,ha]
 obtain ⟨b4,cW,a4,aJ,aN,b',hn,n0⟩:=xI ag cF rfl br;have C8:(H.set rid .dead)[id]?=some (.cells l):=by rw [sf bI];exact aE
 have cf:=zn b' C8 (aJ _ _ aA) bx a9 (u:=.av row n (eZ cap n)) (by unfold eZ;cases cap with | none=>rfl | some c=>simp only;split <;> rfl) hn;obtain ⟨x,ab,ae,aF⟩:=jh cf h (ai.mono aJ aN.set);exact ⟨x,ab,aZ.after aJ aN (aZ.same cf ae aF)⟩
theorem FZ (ag:aK B aa J S w H) {lo mode:Nat} {t:TypeId} {u:I} {r:I} {H':List ar} {v:Value} (h:dC P lo mode t H [u]=some (r,H')) (ai:Rel J S w u v) :
  ∃ x,(Instr.loadAt t v).run P w=.ok x w∧aZ B aa J S w H' r x w:=by
 unfold dC at h;simp only at h;split at h
 ·simp only [sb,Prod.mk.injEq] at h;obtain ⟨r',h,rfl,rfl⟩:=h;obtain ⟨x,ab,ae,aF⟩:=jh ag h ai;exact ⟨x,ab,aZ.same ag ae aF⟩
 ·split at h
  ·simp only [sb,Prod.mk.injEq] at h;obtain ⟨r',h,rfl,rfl⟩:=h;obtain ⟨x,ab,ae,aF⟩:=jh (t:=t) ag (by simpa only [dv] using h) ai;exact ⟨x,ab,aZ.same ag ae aF⟩
  ·simp at h
 ·split at h
  ·rename_i e id off ax;split at h
   ·rename_i l aE;split at h
    ·rename_i i g n z cA;cases h;exact F0 ag ax aE cA ai
    ·rename_i cA;cases h
     have:dv P H t (.ptr id off)=some (.av [] 0 .full):=by simp [dv,aE,e3,dH,ax,cA,I.view]
     obtain ⟨x,ab,ae,aF⟩:=jh ag this ai;exact ⟨x,ab,aZ.same ag ae aF⟩
    ·simp at h
   ·simp at h
  ·simp at h
 ·split at h
  ·split at h
   ·split at h
    ·rename_i l aE;split at h
     ·rename_i rid o n cap z cA;split at h
      ·rename_i ak;simp only [si,sb,Prod.mk.injEq] at h;obtain ⟨row,cF,r',h,rfl,rfl⟩:=h;exact F1 ag aE cA ak.2 cF h ai
      ·simp at h
     ·simp at h
    ·simp at h
   ·simp at h
  ·simp at h
 ·split at h
  ·split at h
   ·split at h
    ·simp only [sb,Prod.mk.injEq] at h;obtain ⟨r',h,rfl,rfl⟩:=h;obtain ⟨x,ab,ae,aF⟩:=jh ag h ai;exact ⟨x,ab,aZ.same ag ae aF⟩
    ·simp at h
   ·simp at h
  ·simp at h
 ·split at h
  ·rename_i e id off ax;split at h
   ·split at h
    ·rename_i l aE;split at h
     ·rename_i c n z cA;cases h;exact Bi ag ax aE cA ai
     ·rename_i c n z cA;split at h
      ·split at h
       ·simp at h
       ·rename_i aI;cases h;exact Gd ag ax aI aE cA ai
      ·cases h;obtain ⟨_,x,_,_,_,ab,ae⟩:=Bj ag ax aE cA ai;exact ⟨x,ab,ae⟩
     ·rename_i bG cZ iV cA;cases h
      have:dv P H t (.ptr id off)=some bG.view:=by simp [dv,aE,e3,dH,ax,cA]
      obtain ⟨x,ab,ae,aF⟩:=jh ag this ai;exact ⟨x,ab,aZ.same ag ae aF⟩
     ·simp at h
    ·rename_i l g cU aE;have aR:=(sd.1 aE).1;split at h
     ·rename_i c n z cA;cases h;obtain ⟨b,cur,cS,aA,aG,aT,bq,bf,bc,cap,da,du,dP,gC⟩:=ag.obj id _ aE;obtain ⟨x,ab,ay,bU,S',bT,b0,d_,fR⟩:=Bi (ag.oP aE) ax (by rw [sm aR]) cA ai;have aO:=d_.xS (g:=g) (z:=cU) (by rw [sm (by simpa using aR)]) (bT _ _ aA) (bT _ _ da) du dP aT gC;rw [sY,sY] at aO;exact ⟨x,ab,ay,bU,S',bT,b0,aO,fR⟩
     ·rename_i c n cA;cases h
      have:dv P H t (.ptr id off)=some (.av c n .full):=by simp [dv,aE,e3,dH,ax,cA,I.view]
      obtain ⟨x,ab,ae,aF⟩:=jh ag this ai;exact ⟨x,ab,aZ.same ag ae aF⟩
     ·simp at h
    ·simp at h
   ·simp at h
  ·simp at h
theorem yf (ag:aK B aa J S w H) {lo:Nat} {b:Builtin} {ts:Array TypeId} (ty:TypeId) (cs:Array Bool) {us:List I} {r:I} {H':List ar} {vs:List Value} (h:ef P lo b ts H us=some (r,H'))
  (ad:a5 (fun i=>.arg i) aa J S w us vs):∃ y w',(builtin b ts ty cs vs.toArray).run P w=.ok (.value y) w'∧aZ B aa J S w H' r y w':=by
 have one:∀ {u:I},us=[u]→∃ v,vs=[v]∧Rel J S w u v:=fun {u} e=>by
  subst e
  match vs,ad with
  | [v],ad=>exact ⟨v,rfl,ad.rel 0 u v rfl rfl⟩
  | [],ad=>exact absurd ad.len (by simp)
  | _::_::_,ad=>exact absurd ad.len (by simp)
 have two:∀ {u x:I},us=[u,x]→∃ v y,vs=[v,y]∧Rel J S w u v∧aU aa J S w (.arg 0) u v∧Rel J S w x y∧aU aa J S w (.arg 1) x y:=fun {u x} e=>by
  subst e
  match vs,ad with
  | [v,y],ad=>exact ⟨v,y,rfl,ad.rel 0 u v rfl rfl,ad.own 0 u v rfl rfl,ad.rel 1 x y rfl rfl,ad.own 1 x y rfl rfl⟩
  | [],ad=>exact absurd ad.len (by simp)
  | [_],ad=>exact absurd ad.len (by simp)
  | _::_::_::_,ad=>exact absurd ad.len (by simp)
 unfold ef at h;split at h
 ·
  unfold hN at h;split at h
  ·rename_i s x;split at h
   ·rename_i t dj gN;(have gN:ts=#[t,dj]:=by rw [←tJ (xs:=ts),gN]);subst gN;simp only [sb,Prod.mk.injEq] at h;obtain ⟨r',h,rfl,rfl⟩:=h;obtain ⟨v,y,rfl,aS,bw,bh,bJ⟩:=two rfl;obtain ⟨z,w',ab,ae⟩:=Be ag ty (ev _) (ew _) (ev _) (ew _) (by simp) h aS bw bh bJ;exact ⟨z,w',by simp [builtin,ab],ae⟩
   ·simp at h
  ·simp at h
 ·
  match us with
  | [u] =>
    obtain ⟨v,rfl,aS⟩:=one rfl;obtain ⟨y,ab,ae⟩:=FY ag (ts:=ts) ty h aS;exact ⟨y,w,by simp [builtin,ab],ae⟩
  | []=>simp [hs] at h
  | _::_::_=>simp [hs] at h
 ·
  match us with
  | [u] =>
    obtain ⟨v,rfl,aS⟩:=one rfl;obtain ⟨y,ab,ae⟩:=FT ag (ts:=ts) ty h aS;exact ⟨y,w,by simp [builtin,ab],ae⟩
  | []=>simp [j6] at h
  | _::_::_=>simp [j6] at h
 ·
  match us with
  | [u,x] =>
    obtain ⟨v,y,rfl,aS,bw,bh,bJ⟩:=two rfl;obtain ⟨z,w',ab,ae⟩:=FV ag (ts:=ts) ty (ev _) (ew _) h aS bh bJ;exact ⟨z,w',by simp [builtin,ab],ae⟩
  | []=>simp [j7] at h
  | [_]=>simp [j7] at h
  | _::_::_::_=>simp [j7] at h
 ·
  match us with
  | [u] =>
    obtain ⟨v,rfl,aS⟩:=one rfl;obtain ⟨y,w',ab,ae⟩:=FU ag (ts:=ts) ty h aS;exact ⟨y,w',by simp [builtin,ab],ae⟩
  | []=>simp [k8] at h
  | _::_::_=>simp [k8] at h
 ·
  match us with
  | [u,x] =>
    obtain ⟨v,y,rfl,aS,_,bh,_⟩:=two rfl;obtain ⟨z,w',ab,ae⟩:=FW ag (ts:=ts) ty h aS bh;exact ⟨z,w',by simp [builtin,ab],ae⟩
  | []=>simp [hO] at h
  | [_]=>simp [hO] at h
  | _::_::_::_=>simp [hO] at h
 ·simp only [sb,Prod.mk.injEq] at h;obtain ⟨r',h,rfl,rfl⟩:=h;obtain ⟨y,ab,ae,aF⟩:=F8 (P:=P) ts ty h ad;exact ⟨y,w,by simp [builtin,ab],aZ.same ag ae aF⟩
 ·simp only [sb,Prod.mk.injEq] at h;obtain ⟨r',h,rfl,rfl⟩:=h;obtain ⟨y,ab,ae,aF⟩:=F7 (P:=P) ts ty h ad;exact ⟨y,w,by simp [builtin,ab],aZ.same ag ae aF⟩
 ·simp at h
end
end Go.Proofs.Ytkoioidpbbbaiaa.Ab


namespace Go.Proofs.Ytkoioidpbbbaiaa.Ab
open Go
section
variable {P:Program} {B:Nat} {J:List Nat} {w:World} {H:List ar} {aa:Nat→Option aH} {S:Nat→Nat→Prop}
theorem a5.tail {bz:Nat→aH} {us:List I} {vs:List Value} {u:I} {v:Value} (h:a5 bz aa J S w (u::us) (v::vs)):a5 (fun i=>bz (i+1)) aa J S w us vs :=
 ⟨by simpa using h.len,fun i a b cq af=>h.rel (i+1) a b (by simpa using cq) (by simpa using af),fun i a b cq af=>h.own (i+1) a b (by simpa using cq) (by simpa using af)⟩
theorem lb {bz:Nat→aH} {us:List I} {vs:List Value} (ad:a5 bz aa J S w us vs) {aV:Operand→Value} (i:Nat) (l:Option Operand) (ao:∀ x,l=some x→vs[i]?=some (aV x)) :
  eL J S w (dr us i l) (l.map aV):=by
 cases l with
 | none=>trivial
 | some x =>
   have ab:=ao x rfl;(have ae:i<us.length:=by rw [ad.len];exact (sd.1 ab).1);simp only [dr,sk ae,sg];exact ad.rel i _ _ (sk ae) ab
theorem eL.mono {S':Nat→Nat→Prop} (cl:∀ b o,S b o→S' b o) {a:Option I} {b:Option Value} (h:eL J S w a b):eL J S' w a b:=by
 cases a <;> cases b <;> first | exact h | exact Rel.mono (Ext.refl J) (fun b o h=>⟨cl b o h,rfl⟩) h
theorem Ge (ag:aK B aa J S w H) {aV:Operand→Value} {t:TypeId} {x:Operand} {l h m:Option Operand} {u:I} {vs:List I} {r:I} {i1 i2:Nat}
  (aq:eX P t u.view (dr vs 0 l) (dr vs i1 h) (dr vs i2 m)=some r) (ab:i1=l.toList.length) (ae:i2=l.toList.length+h.toList.length)
  (iy:Rel J S w u (aV x)) (ir:aU aa J S w (.arg 0) u (aV x)) {bz:Nat→aH} (dV:a5 bz aa J S w vs ((l.toList++h.toList++m.toList).map aV)) :
  ∃ v,(Instr.sliceAt t (aV x) (l.map aV) (h.map aV) (m.map aV)).run P w=.ok v w∧aZ B aa J S w H r v w:=by
 obtain ⟨S',aJ,aN,b7,aS⟩:=mM ag (ev _) (ew _) iy ir;obtain ⟨v,q1,aW,cC⟩:=Fq (J:=J) (S:=S') (w:=w) aq (I.di u) aS
  ((lb (aV:=aV) dV 0 l (fun y aY=>by subst aY;simp)).mono aJ)
  ((lb (aV:=aV) dV i1 h (fun y aY=>by subst ab aY;cases l <;> simp)).mono aJ)
  ((lb (aV:=aV) dV i2 m (fun y aY=>by subst ae aY;cases l <;> cases h <;> simp)).mono aJ)
 exact ⟨v,q1,aZ.after (Ext.refl J) (bk.settle aJ fun b o h=>(aN b o h).imp id fun h=>⟨_,h⟩) (aZ.same b7 aW cC)⟩
theorem Ga (ag:aK B aa J S w H) {aV:Operand→Value} {t:TypeId} {x:Operand} {l h m:Option Operand} {us:List I} {r:I} (aq:eg P t l h m us=some r)
  (ad:a5 (fun i=>.arg i) aa J S w us ((x::(l.toList++h.toList++m.toList)).map aV)) :
  ∃ v,(Instr.sliceAt t (aV x) (l.map aV) (h.map aV) (m.map aV)).run P w=.ok v w∧aZ B aa J S w H r v w:=by
 match us,ad with
 | [],ad=>exact absurd ad.len (by simp)
 | u::vs,ad =>
   have iy:=ad.rel 0 u _ rfl rfl;have ir:=ad.own 0 u _ rfl rfl;have dV:=ad.tail;unfold eg at aq;dsimp only at aq;split at aq
   ·rename_i cells len z;split at aq
    ·rename_i e a1;simp only [si,sb] at aq;obtain ⟨s,ah,n,aI,rfl⟩:=aq;have m4:=lb (aV:=aV) dV 0 h (fun y aY=>by subst aY;simp);generalize aj:aV x=cD at iy ir ⊢;cases iy with
     | b2 c a =>
       obtain ⟨q,q1,aW⟩:=hS (P:=P) (isS:=true) (cap:=0) (lo:=none) (lo':=none) aI rfl (by omega) trivial m4;(obtain rfl:n=0:=by omega);exact ⟨.slice a 0 0,by cases a <;> simp [Instr.sliceAt,Instr.slice,run_underlying a1,q,run_sizeOf ah,Addr.add],aa,J,S,Ext.refl J,bk.refl aa S w,ag,by simpa using .b2 _ _,by cases a <;> first | trivial | exact .inl ⟨rfl,rfl,by simp⟩⟩
     | av _ _ c b o cap f ak hle hu bx b1=>exact absurd rfl (hu _)
     | cM cells len z b o cap =>
       rcases ir with ⟨rfl,rfl,rfl⟩ | ⟨bw,bJ,k5,il,hp,gS,⟨cur,ce,j4,hq,oc⟩,mU⟩
       ·obtain ⟨q,q1,aW⟩:=hS (P:=P) (isS:=true) (cap:=0) (lo:=none) (lo':=none) aI rfl (by omega) trivial m4;(obtain rfl:n=0:=by omega);exact ⟨.slice (some ⟨b,o,none⟩) 0 0,by simp [Instr.sliceAt,Instr.slice,run_underlying a1,q,run_sizeOf ah],aa,J,S,Ext.refl J,bk.refl aa S w,ag,.cM _ _ _ _ _ _,.inl ⟨rfl,rfl,by simp⟩⟩
       ·obtain ⟨q,q1,aW⟩:=hS (P:=P) (isS:=true) (cap:=cap) (lo:=none) (lo':=none) aI rfl (by omega) trivial m4;simp only at bw j4 mU bJ;refine ⟨.slice (some ⟨b,o,none⟩) n cap,by simp [Instr.sliceAt,Instr.slice,run_underlying a1,q,run_sizeOf ah];intro;simp [Addr.add],?_⟩;refine hP ag (ev 0) (ew 0) (.cM _ _ _ _ _ _) (.inr ⟨bw,bJ,by omega,il,hp,?_,⟨cur,ce,j4,hq,fun j u v hu ad=>?_⟩,mU⟩)
        ·rw [te,gS];exact Nat.min_eq_left (tb _ aW)
        ·rw [sL] at hu;split at hu
         ·exact oc j u v hu ad
         ·simp at hu
    ·simp at aq
   ·
    rename_i cells len z lo gg;split at aq
    ·rename_i e a1;simp only [si] at aq;obtain ⟨s,ah,aq⟩:=aq;split at aq
     ·rename_i bQ;subst bQ;simp only [sb] at aq;obtain ⟨n,aI,rfl⟩:=aq;have rl:=lb (aV:=aV) dV 0 (some lo) (fun y aY=>by cases aY;simp);generalize aj:aV x=cD at iy ir ⊢;cases iy with
      | b2 c a =>
        obtain ⟨q,q1,aW⟩:=hS (P:=P) (isS:=true) (cap:=0) (hi:=none) (hi':=none) (len:=0) rfl aI (by omega) rl trivial;simp only [sg,Option.map_none] at q;(obtain rfl:n=0:=by omega);exact ⟨.slice a 0 0,by cases a <;> simp [Instr.sliceAt,Instr.slice,run_underlying a1,q,run_sizeOf ah,Addr.add],aa,J,S,Ext.refl J,bk.refl aa S w,ag,by simpa using .b2 _ _,by cases a <;> first | trivial | exact .inl ⟨rfl,rfl,by simp⟩⟩
      | av _ _ c b o cap f ak hle hu bx b1 =>
        obtain ⟨q,q1,aW⟩:=hS (P:=P) (isS:=true) (cap:=cap) (hi:=none) (hi':=none) (len:=len) rfl aI hle rl trivial;simp only [sg,Option.map_none] at q;have CV:∀ k,(cells.drop k).take cells.length=cells.drop k:=fun k=>tf (by rw [tA];omega);by_cases en:cap=n
        ·(obtain rfl:n=len:=by omega);rw [en] at q;refine ⟨.slice (some ⟨b,o,none⟩) 0 0,by simp [Instr.sliceAt,Instr.slice,run_underlying a1,q,run_sizeOf ah,en],?_⟩;rw [Nat.sub_self];rcases ir with ⟨aQ,CT,cE⟩ | ⟨bw,bJ,k5,il,hp,gS,j4,⟨cur,ce,hq,oc⟩,mU⟩
         ·rw [cE,List.drop_nil];exact ⟨aa,J,S,Ext.refl J,bk.refl aa S w,ag,.av [] 0 _ b o 0 (fun _=>undef) (by simp) (se _) (by simp) (by simp) (by simp),.inl ⟨rfl,rfl,rfl⟩⟩
         ·rw [List.drop_eq_nil_of_le (by omega)];exact ⟨aa,J,S,Ext.refl J,bk.refl aa S w,ag,.av [] 0 _ b o 0 (fun _=>undef) (by simp) (se _) (by simp) (by simp) (by simp),.inl ⟨rfl,rfl,rfl⟩⟩
        ·have zs:=Rel.sub (J:=J) (k:=cells.length) (n:=len-n) (cap':=cap-n) (n*s) (.own s) (by simp) (by omega) (by simp) bx b1;rw [CV] at zs;refine ⟨.slice (some ⟨b,o+n*s,none⟩) (len-n) (cap-n),by simp [Instr.sliceAt,Instr.slice,run_underlying a1,q,run_sizeOf ah,en,add_lit],?_⟩;rcases ir with ⟨aQ,CT,cE⟩ | ⟨bw,bJ,k5,il,hp,gS,j4,⟨cur,ce,hq,oc⟩,mU⟩
         ·exfalso;omega
         ·refine hP ag (ev 0) (ew 0) zs (.inr ⟨bw,trivial,rfl,by omega,by omega,gS,?_,⟨cur,ce,hq,?_⟩,fun cw jT=>mU cw ?_⟩)
          ·rw [tA,j4,Nat.sub_mul]
          ·have e1:n*s≤cap*s:=tb _ (by omega);have b9:(cap-n)*s=cap*s-n*s:=Nat.sub_mul _ _ _;show cur.size=o+n*s+(cap-n)*s;simp only at oc;omega
          ·have e1:n*s≤len*s:=tb _ q1;simp only [tA] at jT ⊢;omega
     ·simp at aq
    ·simp at aq
   ·
    rename_i id gid len z;split at aq
    ·rename_i e a1;simp only [si,sb] at aq;obtain ⟨s,ah,n,aI,rfl⟩:=aq;have m4:=lb (aV:=aV) dV 0 h (fun y aY=>by subst aY;simp);generalize aj:aV x=cD at iy ir ⊢;cases iy with
     | cj _ _ _ _ b cap af aO hle =>
       obtain ⟨q,q1,aW⟩:=hS (P:=P) (isS:=true) (cap:=cap) (lo:=none) (lo':=none) aI rfl hle trivial m4;exact ⟨.slice (some ⟨b,0,none⟩) n cap,by simp [Instr.sliceAt,Instr.slice,run_underlying a1,q,run_sizeOf ah];intro;simp [Addr.add],aa,J,S,Ext.refl J,bk.refl aa S w,ag,.cj _ _ _ _ b cap af aO (by omega),trivial⟩
    ·simp at aq
   ·exact Ge ag aq (by cases l <;> rfl) (by cases l <;> cases h <;> rfl) iy ir dV
theorem F9 {aV:Operand→Value} (eT:∀ v,aV (.const v)=v) {C:b6} {lo mode:Nat} {o:Oper} {us:List I} {r:I} {H':List ar} (ag:aK B aa J S w H)
  (h:a3 P C lo o mode us H=some (r,H')) (iU:∀ c f,o.op=.call c→c.callee≠.value f)
  (aB:dB o mode=false→∀ u∈us,u.plain=true) (ad:a5 (fun i=>.arg i) aa J S w us ((opsOf o).map aV)):eA P aV o w (aZ B aa J S w H' r):=by
 have base:(cy P o us).map (·,H)=some (r,H')→dB o mode=false→eA P aV o w (aZ B aa J S w H' r):=fun h ao=>by
  simp only [sb,Prod.mk.injEq] at h;obtain ⟨r',aX,rfl,rfl⟩:=h;exact F_ eT ag aX ao (aB ao) ad
 cases aC:o.op
 case call c =>
  simp only [a3,aC] at h;cases ak:c.callee with
  | builtin b =>
    simp only [ak] at h;have he:opsOf o=c.args.toList:=by
     obtain ⟨Cb,args,B7⟩:=c;simp only at ak;subst ak;simp only [opsOf,aC]
    rw [he] at ad;obtain ⟨y,w',ab,ae⟩:∃ y w',(builtin b c.argTypes o.type (c.args.map fun | .const _=>true | _=>false) (c.args.toList.map aV).toArray).run P w=.ok (.value y) w'∧aZ B aa J S w H' r y w':=by
     cases b
     case append =>
      simp only at h;split at h
      ·exact yf ag o.type _ h ad
      ·unfold oe at h;split at h
       ·rename_i cells n z H1 heq;split at h
        ·simp at h
        ·rename_i aI;cases h;obtain ⟨y,w',ab,ae⟩:=yf ag (lo:=lo) (b:=.append) o.type (c.args.map fun | .const _=>true | _=>false) (by simpa only [ef] using heq) ad;have e1:H1=H:=by
          unfold hN at heq;split at heq
          ·split at heq
           ·simp only [sb,Prod.mk.injEq] at heq;obtain ⟨_,_,_,rfl⟩:=heq;rfl
           ·simp at heq
          ·simp at heq
         subst e1;obtain ⟨bt,cg,bK,aJ,aN,b',hn,n0⟩:=ae;exact ⟨y,w',ab,aZ.after aJ aN (xL b' (l:=.res) (by simp) (by simp) aI hn n0)⟩
       ·simp at h
      ·match us,h,ad with
       | [u,x],h,ad =>
         obtain ⟨v,bb,e1,aS,bw,ad⟩:=ad.g1;obtain ⟨y,bb,b9,bh,bJ,ad⟩:=ad.g1;cases bb with
         | cons=>exact absurd ad.len (by simp)
         | nil =>
         obtain ⟨z,w',ab,ae⟩:=FL ag o.type (ev _) (ew _) (ev _) (ew _) (by simp) h aS bw bh bJ;rw [e1,b9];exact ⟨z,w',by simp [builtin,ab],ae⟩
     all_goals exact yf ag o.type _ h ad
    refine .inl ⟨y,w',?_,ae⟩;simp only [Go.execOp,aC,resolve,ak,Sem.run_bind,Sem.run_pure,Result.andThen_ok,invoke];rw [←ab,←uz,tJ];rfl
  | value f=>exact absurd ak (iU c f aC)
  | invoke x n=>simp [ak] at h
 all_goals (have bg:=ad;rw [xG (by simp [aC])] at bg;simp only [aC,Op.operands] at bg)
 case move x =>
  simp only [a3,aC] at h;exact .inl ⟨aV x,w,by simp [Go.execOp,aC],Bg ag eT h bg⟩
 case assign x =>
  simp only [a3,aC] at h;exact .inl ⟨aV x,w,by simp [Go.execOp,aC],Bg ag eT h bg⟩
 case load t a =>
  simp only [a3,aC] at h;obtain ⟨u,rfl,aS,_⟩:=a5.one (x:=a) (by simpa using bg);obtain ⟨x,ab,ae⟩:=FZ ag h aS;exact .inl ⟨x,w,by simp [Go.execOp,aC,ab],ae⟩
 case store t a x =>
  simp only [a3,aC] at h;obtain ⟨u,v,rfl,aS,bw,bh,bJ⟩:=a5.two (x:=a) (y:=x) (by simpa using bg);unfold gj at h;simp only at h;split at h
  ·simp only [sb,Prod.mk.injEq] at h;obtain ⟨H1,h,rfl,rfl⟩:=h;obtain ⟨w',ab,ae⟩:=Bh ag (ev _) (ew _) h aS bh bJ undef;exact .inr ⟨w',by simp [Go.execOp,aC,ab],ae⟩
  ·simp only [sb,Prod.mk.injEq] at h;obtain ⟨H1,h,rfl,rfl⟩:=h;obtain ⟨w',ab,ae⟩:=Gb ag (ev _) (ew _) h aS bh bJ undef;exact .inr ⟨w',by simp [Go.execOp,aC,ab],ae⟩
  ·split at h
   ·split at h
    ·split at h
     ·simp at h
     ·simp only [sb,Prod.mk.injEq] at h;obtain ⟨H1,h,rfl,rfl⟩:=h;obtain ⟨w',ab,ae⟩:=Bh ag (ev _) (ew _) h aS bh bJ undef;exact .inr ⟨w',by simp [Go.execOp,aC,ab],ae⟩
    ·simp at h
   ·simp at h
  ·simp only [sb,Prod.mk.injEq] at h;obtain ⟨H1,h,rfl,rfl⟩:=h;obtain ⟨w',ab,ae⟩:=Gc ag (ev _) (ew _) h aS bh bJ undef;exact .inr ⟨w',by simp [Go.execOp,aC,ab],ae⟩
 case box e x =>
  simp only [a3,aC] at h;obtain ⟨u,rfl,aS,bw⟩:=a5.one (x:=x) (by simpa using bg);unfold gT at h;simp only at h;split at h
  ·simp only [sb,Prod.mk.injEq] at h;obtain ⟨vc,h,rfl,rfl⟩:=h;obtain ⟨y,w',ab,ae⟩:=FN (P:=P) ag (ev _) (ew _) h aS bw e;exact .inl ⟨y,w',by simp [Go.execOp,aC,ab],ae⟩
  ·split at h
   ·rename_i vc fL;split at h
    ·rename_i aB;cases h;obtain ⟨y,w',ab,ae⟩:=FO (P:=P) ag fL aB aS e;exact .inl ⟨y,w',by simp [Go.execOp,aC,ab],ae⟩
    ·simp at h
   ·simp at h
 case alloc t =>
  simp only [a3,aC] at h;unfold k7 at h;split at h
  ·simp only [sb,Prod.mk.injEq] at h;obtain ⟨z,h,rfl,rfl⟩:=h;obtain ⟨y,w',ab,ae⟩:=FJ ag h (.tuple #[]);exact .inl ⟨y,w',by simp [Go.execOp,aC,ab],ae⟩
  ·split at h
   ·rename_i e bj he;simp only [sb,Prod.mk.injEq] at h;obtain ⟨s,_,rfl,rfl⟩:=h;obtain ⟨y,w',ab,ae⟩:=FK (s:=s) ag bj (.tuple #[]);exact .inl ⟨y,w',by simp [Go.execOp,aC,ab],ae⟩
   ·simp at h
 case build t parts =>
  simp only [a3,aC] at h;split at h
  ·exact base h (by simp [dB,aC])
  ·simp only [sb,Prod.mk.injEq] at h;obtain ⟨r',h,rfl,rfl⟩:=h;(have dd:a5 (fun i=>.arg i) aa J S w us ((parts.toList.map (·.2)).map aV):=by simpa using bg);have hlen:us.length=parts.toList.length:=by simpa using dd.len
   obtain ⟨v,q1,aW⟩:=FQ (parts':=parts.map fun (x:Nat×Operand)=>(x.1,aV x.2)) ag h (by simp [eK,uR,hlen]) (fun j x y aj aY=>by
    simp only [eK,uS] at aj;obtain ⟨xi,hl⟩:=aj;simp only [uz,sq,sb] at aY;obtain ⟨p,fK,rfl⟩:=aY;have aO:((parts.toList.map (·.2)).map aV)[j]?=some (aV p.2):=by simp only [sq,fK,sg]
    exact ⟨dd.rel j _ _ hl aO,dd.own j _ _ hl aO⟩)
   exact .inl ⟨v,w,by simp [Go.execOp,aC,q1],aW⟩
 case buildSlice t len parts =>
  simp only [a3,aC] at h;split at h
  ·exact base h (by simp [dB,aC])
  ·simp only [sb,Prod.mk.injEq] at h;obtain ⟨⟨cs,s⟩,h,rfl,rfl⟩:=h;obtain ⟨v,w',q1,aW⟩:=FR eT ag aC h (aB (by simp [dB,aC])) ad;exact .inl ⟨v,w',q1,aW⟩
 case makeSlice t a b =>
  simp only [a3,aC] at h;obtain ⟨u,v,rfl,aS,_,bh,_⟩:=a5.two (x:=a) (y:=b) (by simpa using bg);unfold j8 at h;split at h
  ·rename_i k n k' c heq;simp at heq;obtain ⟨rfl,rfl⟩:=heq;split at h
   ·rename_i ak;have e1:=aS.df;have b9:=bh.df;split at h
    ·simp only [sb,Prod.mk.injEq] at h;obtain ⟨z,h,rfl,rfl⟩:=h;obtain ⟨y,w',ab,ae⟩:=F4 (k:=k) (k':=k') ag ak.1 ak.2 h;exact .inl ⟨y,w',by simp [Go.execOp,aC,e1,b9,ab],ae⟩
    ·split at h
     ·rename_i iU;simp only [sb,Prod.mk.injEq] at h;obtain ⟨z,h,rfl,rfl⟩:=h;obtain ⟨rfl,aQ⟩:=iU;obtain ⟨y,w',ab,ae⟩:=F5 (k:=k) (k':=k') ag aQ h;exact .inl ⟨y,w',by simp [Go.execOp,aC,e1,b9,ab],ae⟩
     ·simp at h
   ·simp at h
  ·simp at h
 case makeMap t r =>
  simp only [a3,aC] at h;obtain ⟨x,w',ab,rfl,ae⟩:=F3 (P:=P) ag h;exact .inl ⟨x,w',by simp [Go.execOp,aC,ab],ae⟩
 case mapUpdate t m k v =>
  simp only [a3,aC] at h;have aB:=aB (by simp [dB,aC]);obtain ⟨jo,kh,ly,rfl,e8,bN,oG⟩:∃ jo kh ly,us=[jo,kh,ly]∧Rel J S w jo (aV m)∧Rel J S w kh (aV k)∧Rel J S w ly (aV v):=by
   match us,bg with
   | [jo,kh,ly],bg=>exact ⟨jo,kh,ly,rfl,bg.rel 0 _ _ rfl rfl,bg.rel 1 _ _ rfl rfl,bg.rel 2 _ _ rfl rfl⟩
   | [],bg=>exact absurd bg.len (by simp)
   | [_],bg=>exact absurd bg.len (by simp)
   | [_,_],bg=>exact absurd bg.len (by simp)
   | _::_::_::_::_,bg=>exact absurd bg.len (by simp)
  obtain ⟨w',ab,ae⟩:=F6 ag h e8 bN (aB kh (by simp)) oG (aB ly (by simp)) undef;exact .inr ⟨w',by simp [Go.execOp,aC,ab],ae⟩
 case lookup t m k ok =>
  simp only [a3,aC] at h;obtain ⟨jo,kh,rfl,e8,_,bN,_⟩:=a5.two (x:=m) (y:=k) (by simpa using bg);obtain ⟨x,ab,ae⟩:=F2 ag h e8 bN;exact .inl ⟨x,w,by simp [Go.execOp,aC,ab],ae⟩
 case range t m =>
  simp only [a3,aC] at h;obtain ⟨jo,rfl,e8,_⟩:=a5.one (x:=m) (by simpa using bg);obtain ⟨x,w',ab,ae⟩:=F' ag h e8;exact .inl ⟨x,w',by simp [Go.execOp,aC,ab],ae⟩
 case entry m =>
  simp only [a3,aC] at h;obtain ⟨jo,rfl,e8,_⟩:=a5.one (x:=m) (by simpa using bg);obtain ⟨x,ab,ae⟩:=FX (P:=P) ag h e8;exact .inl ⟨x,w,by simp [Go.execOp,aC,ab],ae⟩
 case slice t x l bD m =>
  simp only [a3,aC,cy,sb,Prod.mk.injEq] at h;obtain ⟨r',h,rfl,rfl⟩:=h;obtain ⟨v,ab,ae⟩:=Ga (x:=x) ag h (by simpa using bg);exact .inl ⟨v,w,by simp [Go.execOp,aC,ab],ae⟩
 all_goals exact base (by simpa only [a3,aC] using h) (by simp [dB,aC])
end
end Go.Proofs.Ytkoioidpbbbaiaa.Ab


namespace Go.Proofs.Ytkoioidpbbbaiaa.Ab
open Go
def dn (aa:Nat→Option aH):Nat→Option aH:=fun b=>match aa b with
 | some (.slot _)=>none
 | x=>x
def back (aa bt:Nat→Option aH) (d:Option Nat):Nat→Option aH:=fun b=>match aa b with
 | some (.slot i)=>if d=some i then none else some (.slot i)
 | _=>match bt b with
   | some .res=>d.map .slot
   | some (.obj id)=>some (.obj id)
   | some (.cell id j)=>some (.cell id j)
   | _=>none
def Marks (N:Nat) (aa:Nat→Option aH) (w:World) (fD:List Deferred):Prop :=
 N≤w.heap.size∧(∀ d∈fD,∃ r,d.target=.collected r∧N≤r∧aa r=none∧w.heap[r]?=some (.deferred (some [])))∧fD.Pairwise (fun a b=>a.target≠b.target)
structure cx (B N:Nat) (aa:Nat→Option aH) (J:List Nat) (S:Nat→Nat→Prop) (w:World) (s:a6) (a:Act):Prop where
 T:a5 .slot aa J S w s.T a.tmps.toList
 H:aK B aa J S w s.H
 M:Marks N aa w a.defers
def Step (B N:Nat) (aa:Nat→Option aH) (J:List Nat) (S:Nat→Nat→Prop) (w:World) (aD:a6) (aM:Act) (w':World):Prop :=
 ∃ ay bU S',Ext J bU∧bk aa S w ay S' w'∧cx B N ay bU S' w' aD aM
section
variable {P:Program} {B N:Nat} {J:List Nat} {w:World} {H:List ar} {aa:Nat→Option aH} {S:Nat→Nat→Prop}
theorem Marks.az {ay:Nat→Option aH} {S':Nat→Nat→Prop} {w':World} {fD:List Deferred} (h:Marks N aa w fD) (az:bk aa S w ay S' w'):Marks N ay w' fD:=⟨sX h.1 az.size,fun d a1=>by
 obtain ⟨r,ab,ae,aF,ba⟩:=h.2.1 d a1;have ai:r<w.heap.size:=(sO.1 ba).1;refine ⟨r,ab,ae,?_,(az.cB r ai aF).trans ba⟩;cases bO:ay r with
 | none=>rfl
 | some l =>
   rcases az.own r (by simp [bO]) with bP | bP
   ·exact absurd aF bP
   ·omega,h.2.2⟩
theorem nJ {b:Nat} (h:aa b=none):dn aa b=none:=by simp [dn,h]
theorem pK {b i:Nat} (h:aa b=some (.slot i)):dn aa b=none:=by simp [dn,h]
theorem y' {b:Nat} {l:aH} (h:aa b=some l) (ao:∀ i,l≠.slot i):dn aa b=some l:=by
 cases l <;> first | (simp only [dn,h];done) | exact absurd rfl (ao _)
theorem za {b:Nat} {l:aH} (h:dn aa b=some l):aa b=some l∧∀ i,l≠.slot i:=by
 unfold dn at h;split at h
 ·simp at h
 ·rename_i aI;exact ⟨h,fun i e=>by subst e;exact aI i h⟩
theorem C9 (b i:Nat):dn aa b≠some (.slot i):=fun h=>(za h).2 i rfl
theorem B9 {bt:Nat→Option aH} {d:Option Nat} {b i:Nat} (h:aa b=some (.slot i)) (a1:d≠some i):back aa bt d b=some (.slot i):=by simp [back,h,a1]
theorem mx (ag:aK B aa J S w H):aK B (dn aa) J S w H:=by
 refine ⟨ag.cH,fun id o aq=>?_,ag.cb,fun b l af=>ag.base b l (za af).1,ag.cX⟩;refine (ag.obj id o aq).frame (Ext.refl J) (fun _ _ h=>⟨h,rfl⟩) fun b l af ao=>⟨y' af ?_,rfl,fun _ h=>h⟩;rcases ao with rfl | ⟨j,rfl⟩ <;> simp
theorem By {us:List I} {vs:List Value} (h:a5 (fun i=>.arg i) aa J S w us vs):a5 (fun i=>.arg i) (dn aa) J S w us vs :=
 ⟨h.len,h.rel,fun i u v hu ad=>(h.own i u v hu ad).mono (Ext.refl J) (fun _ _ h=>⟨h,rfl⟩) fun b af=>⟨y' af (by simp),rfl,fun _ h=>h⟩⟩
theorem Ak (a:Act) (d:Option Tmp) (v:Value):(a.put d v).tmps.toList=match d with | some d=>a.tmps.toList.set d v | none=>a.tmps.toList:=by
 cases d <;> simp [Act.put]
theorem put_defers (a:Act) (d:Option Tmp) (v:Value):(a.put d v).defers=a.defers:=by
 cases d <;> rfl
theorem z' {T:List I} {a:Act} {H':List ar} {r:I} {v:Value} {w':World} (dst:Option Tmp) (aL:cx B N aa J S w ⟨T,H⟩ a) {bt:Nat→Option aH} {cg:List Nat} {bK:Nat→Nat→Prop}
  (bM:Ext J cg) (ek:bk (dn aa) S w bt bK w') (cf:aK B bt cg bK w' H') (ai:Rel cg bK w' r v) (aq:aU bt cg bK w' .res r v) :
  bk aa S w (back aa bt dst) bK w'∧cx B N (back aa bt dst) cg bK w' ⟨put T dst r,H'⟩ (a.put dst v):=by
 have pq:∀ b l,aa b=some l→b<w.heap.size:=fun b l h=>(aL.H.base b l h).2;have kK:∀ b l,bt b=some l→∀ i,aa b≠some (.slot i):=fun b l h i ah=>by
  rcases ek.own b (by simp [h]) with ab | ab
  ·exact ab (pK ah)
  ·have:=pq b _ ah;omega
 have y5:∀ b l,bt b=some l→back aa bt dst b=match l with | .res=>dst.map .slot | .obj id=>some (.obj id) | .cell id j=>some (.cell id j) | _=>none:=fun b l h=>by
  unfold back;split
  ·rename_i i ah;exact absurd ah (kK b l h i)
  ·rw [h];cases l <;> rfl
 have az:bk aa S w (back aa bt dst) bK w':=by
  refine ⟨ek.os,ek.tape,ek.output,ek.size,fun b af aI=>ek.cB b af (nJ aI),ek.set,fun b o h=>?_,fun b h=>?_⟩
  ·rcases ek.fresh b o h with h | h | h
   ·exact .inl h
   ·exact .inr (.inl fun aI=>h (nJ aI))
   ·exact .inr (.inr h)
  ·unfold back at h;split at h
   ·rename_i ah;exact .inl (by simp [ah])
   ·rcases ek.own b (fun aI=>by simp [aI] at h) with ab | ab
    ·exact .inl fun aI=>ab (nJ aI)
    ·exact .inr ab
 refine ⟨az,⟨?_,⟨cf.cH,fun id o aq=>?_,cf.cb,fun b l af=>?_,cf.cX⟩,?_⟩⟩
 ·have fQ:∀ (i:Nat) (u:I) (x:Value),dst≠some i→T[i]?=some u→a.tmps.toList[i]?=some x→Rel cg bK w' u x∧aU (back aa bt dst) cg bK w' (.slot i) u x:=fun i u x a1 hu aj=>by
   refine ⟨(aL.T.rel i u x hu aj).mono bM ek.set,(aL.T.own i u x hu aj).mono bM ek.set fun b af=>⟨B9 af a1,ek.cB b (pq b _ af) (pK af),fun o h=>?_⟩⟩;rcases ek.fresh b o h with h | h | h
   ·exact h
   ·exact absurd (pK af) h
   ·have:=pq b _ af;omega
  cases dst with
  | none=>exact ⟨aL.T.len,fun i u x hu aj=>(fQ i u x (by simp) hu aj).1,fun i u x hu aj=>(fQ i u x (by simp) hu aj).2⟩
  | some d =>
    have hlen:=aL.T.len;have both:∀ (i:Nat) (u:I) (x:Value),(T.set d r)[i]?=some u→(a.tmps.toList.set d v)[i]?=some x→Rel cg bK w' u x∧aU (back aa bt (some d)) cg bK w' (.slot i) u x:=fun i u x hu aj=>by
     by_cases aE:d=i
     ·subst aE;(have aR:d<T.length:=by have:=(sd.1 hu).1;simpa using this);(have mq:d<a.tmps.toList.length:=by have:=(sd.1 aj).1;simpa using this);rw [sm aR] at hu;rw [sm mq] at aj;cases hu;cases aj;exact ⟨ai,aq.mono (Ext.refl _) (fun _ _ h=>⟨h,rfl⟩) fun b af=>⟨by rw [y5 b _ af];rfl,rfl,fun _ h=>h⟩⟩
     ·rw [sf aE] at hu aj;exact fQ i u x (by simpa using aE) hu aj
    refine ⟨by simp [put,g0,Act.put,hlen],?_,?_⟩
    ·intro i u x hu aj;simp only [put,g0] at hu;rw [Ak] at aj;exact (both i u x hu aj).1
    ·intro i u x hu aj;simp only [put,g0] at hu;rw [Ak] at aj;exact (both i u x hu aj).2
 ·refine (cf.obj id o aq).frame (Ext.refl cg) (fun _ _ h=>⟨h,rfl⟩) fun b l af ao=>⟨?_,rfl,fun _ h=>h⟩;rw [y5 b l af];rcases ao with rfl | ⟨j,rfl⟩ <;> rfl
 ·unfold back at af;split at af
  ·rename_i i ah;have:=aL.H.base b _ ah;exact ⟨this.1,ud this.2 ek.size⟩
  ·cases ae:bt b with
   | none=>simp [ae] at af
   | some l'=>exact cf.base b l' ae
 ·rw [put_defers];exact aL.M.az az
theorem oh {T:List I} {a:Act} {H':List ar} {r:I} {v:Value} {w':World} (dst:Option Tmp) (aL:cx B N aa J S w ⟨T,H⟩ a) (aB:aZ B (dn aa) J S w H' r v w')
  (u:I) (hu:∀ bt cg bK,Rel cg bK w' r v→aU bt cg bK w' .res r v→Rel cg bK w' u v) :
  ∃ ay bU S',Ext J bU∧bk aa S w ay S' w'∧cx B N ay bU S' w' ⟨put T dst r,H'⟩ (a.put dst v)∧Rel bU S' w' u v:=by
 obtain ⟨bt,cg,bK,bM,ek,cf,ai,aq⟩:=aB;obtain ⟨ab,ae⟩:=z' dst aL bM ek cf ai aq;exact ⟨_,cg,bK,bM,ab,ae,hu bt cg bK ai aq⟩
theorem Step.trans {b4:Nat→Option aH} {cW:List Nat} {a4:Nat→Nat→Prop} {bH:World} (bM:Ext J cW) (az:bk aa S w b4 a4 bH) {aD:a6} {aM:Act} {w':World} (h:Step B N b4 cW a4 bH aD aM w') :
  Step B N aa J S w aD aM w' :=
 let ⟨ay,bU,S',aJ,aN,b'⟩:=h
 ⟨ay,bU,S',bM.trans aJ,az.trans aN,b'⟩
theorem a5.swap {bz:Nat→aH} {T:List I} {bb:List Value} (h:a5 bz aa J S w T bb) (t:Nat) {u:I} (hu:u.plain=true) (ai:∀ v,bb[t]?=some v→Rel J S w u v):a5 bz aa J S w (T.set t u) bb:=by
 refine ⟨by simpa using h.len,fun i x v aj ad=>?_,fun i x v aj ad=>?_⟩
 ·by_cases hi:t=i
  ·subst hi;(have aR:t<T.length:=by have:=(sd.1 aj).1;simpa using this);rw [sm aR] at aj;cases aj;exact ai v ad
  ·rw [sf hi] at aj;exact h.rel i x v aj ad
 ·by_cases hi:t=i
  ·subst hi;(have aR:t<T.length:=by have:=(sd.1 aj).1;simpa using this);rw [sm aR] at aj;cases aj;exact aU.b3 hu
  ·rw [sf hi] at aj;exact h.own i x v aj ad
end
end Go.Proofs.Ytkoioidpbbbaiaa.Ab


namespace Go.Proofs.Ytkoioidpbbbaiaa.Ab
open Go
section
variable {P:Program} {B N:Nat} {J:List Nat} {w:World} {H:List ar} {aa:Nat→Option aH} {S:Nat→Nat→Prop}
theorem Rel.narrow {cg:List Nat} {bK:Nat→Nat→Prop} {bW:World} (bM:Ext J cg) {u:I} {v v2:Value} (h:Rel J S w u v) (ae:Rel cg bK bW u v2):Rel J bK bW u v2:=by
 induction h generalizing v2 with
 | a0 v=>exact .a0 v2
 | bool b=>cases ae;exact .bool b
 | dw b=>cases ae;exact .dw _
 | int k n=>cases ae;exact .int k n
 | str s=>cases ae;exact .str s
 | eF=>cases ae;exact .eF
 | ptr id off b h =>
   cases ae with
   | ptr _ _ cr k=>rw [bM _ _ h] at k;cases k;exact .ptr id off b h
 | cj id gid len z b cap h aO hle =>
   cases ae with
   | cj _ _ _ _ cr o3 k zG _ =>
     rw [bM _ _ h] at k;cases k;rw [bM _ _ aO] at zG;cases zG;exact .cj id gid len z b cap h aO hle
 | bR cells b o f h ai a8 =>
   cases ae with
   | bR _ b o f k et=>exact .bR cells b o f k fun j u aw=>a8 j u aw (et j u aw)
 | b2 c a =>
   cases ae with
   | b2 c a=>exact .b2 c a
   | av _ _ _ b o cap f ak hle hu k et=>exact .av [] 0 c b o cap f ak hle hu k fun j u aw=>by simp at aw
   | cM _ _ z b o cap=>exact .cM _ _ z b o cap
 | av cells len c b o cap f ak hle hu h ai a8 =>
   cases ae with
   | b2 c a=>exact .b2 c a
   | av _ _ _ b o cap f ak hle hu k et=>exact .av cells len c b o cap f ak hle hu k fun j u aw=>a8 j u aw (et j u aw)
   | cM _ _ z b o cap=>exact .cM _ _ z b o cap
 | raw cells len z b o cap =>
   cases ae with
   | raw _ _ _ b o cap=>exact .raw _ _ z b o cap
 | cM cells len z b o cap =>
   cases ae with
   | b2 c a=>exact .b2 _ _
   | av _ _ _ b o cap f ak hle hu k et=>exact absurd rfl (hu z)
   | cM _ _ z b o cap=>exact .cM _ _ z b o cap
 | ref id off len c sz b cap h ak hle =>
   cases ae with
   | ref _ _ _ _ _ cr o3 k DU DX=>rw [bM _ _ h] at k;cases k;exact .ref id off len c sz b o3 h DU DX
 | func f as bs vs ws ab GO bT b0 aS bh i1 i2 =>
   cases ae with
   | func _ _ _ eV GC aJ aN _ _ q1 aW =>
     refine .func f as bs eV GC aJ aN bT b0 (fun j u v hu ad=>?_) (fun j u v hu ad=>?_)
     ·(have aw:j<vs.size:=by have:=(sd.1 hu).1;omega);exact i1 j u vs[j] hu (su aw) (q1 j u v hu ad)
     ·(have aw:j<ws.size:=by have:=(sd.1 hu).1;omega);exact i2 j u ws[j] hu (su aw) (aW j u v hu ad)
 | yield id b h =>
   cases ae with
   | yield _ cr k=>rw [bM _ _ h] at k;cases k;exact .yield id b h
 | map id b h =>
   cases ae with
   | map _ cr k=>rw [bM _ _ h] at k;cases k;exact .map id b h
 | agg as vs h p one r a8 =>
   cases ae with
   | agg _ eV k _ xE q =>
     refine .agg as eV k p xE fun j u v hu ad=>?_;(have aw:j<vs.size:=by have:=(sd.1 hu).1;omega);exact a8 j u vs[j] hu (su aw) (q j u v hu ad)
 | tuple as vs h p r a8 =>
   cases ae with
   | tuple _ eV k _ q =>
     refine .tuple as eV k p fun j u v hu ad=>?_;(have aw:j<vs.size:=by have:=(sd.1 hu).1;omega);exact a8 j u vs[j] hu (su aw) (q j u v hu ad)
 | c0 as c n z bs vs h lh lj one om ro oo kV io xm =>
   cases ae with
   | c0 _ _ _ _ _ eV k _ _ xE ES EU ET =>
     refine .c0 as c n z bs eV k lh lj xE (fun j u v hu ad=>?_) (fun v ad=>?_) (fun j u v hu ad=>?_)
     ·(have aw:j<vs.size:=by have:=(sd.1 hu).1;omega);exact kV j u vs[j] hu (su aw) (ES j u v hu ad)
     ·(have aw:as.length<vs.size:=by omega);exact io vs[as.length] (su aw) (EU v ad)
     ·(have aw:as.length+1+j<vs.size:=by have:=(sd.1 hu).1;omega);exact xm j u vs[as.length+1+j] hu (su aw) (ET j u v hu ad)
theorem j2 {f:I→Option I}:∀ {xs ys:List I},dZ f xs=some ys→ys.length=xs.length∧∀ (j:Nat) (y:I),ys[j]?=some y→∃ x,xs[j]?=some x∧f x=some y
 | [],ys,h=>by simp [dZ] at h;subst h;simp
 | x::xs,ys,h=>by
   simp only [dZ] at h;split at h
   ·rename_i y aY;simp only [sb] at h;obtain ⟨ys,h,rfl⟩:=h;obtain ⟨ab,ae⟩:=j2 h;refine ⟨by simp [ab],fun j z bj=>?_⟩;cases j with
    | zero=>simp at bj;subst bj;exact ⟨x,rfl,aY⟩
    | succ j=>simpa using ae j z (by simpa using bj)
   ·simp at h
theorem h4 {lo id0 n d:Nat} {u r:I} (h:bL H lo id0 n d u=some r):(u.plain=true→r.plain=true)∧(u.cT=true→r.cT=true):=by
 cases d with
 | zero=>simp [bL] at h
 | succ d =>
   unfold bL at h;split at h
   ·simp only [sb] at h;rename_i c;obtain ⟨cs,_,rfl⟩:=h;cases c <;> exact ⟨fun h=>h,fun h=>h⟩
   ·simp only [sb] at h;obtain ⟨cs,_,rfl⟩:=h;exact ⟨fun h=>rfl,fun h=>rfl⟩
   ·simp only [sb] at h;obtain ⟨cs,_,rfl⟩:=h;exact ⟨fun h=>rfl,fun h=>rfl⟩
   ·simp only [sb] at h;obtain ⟨cs,_,rfl⟩:=h;exact ⟨fun h=>rfl,fun h=>rfl⟩
   ·split at h <;> simp at h;subst h;exact ⟨fun h=>rfl,fun h=>rfl⟩
   ·split at h
    ·simp at h;subst h;exact ⟨fun h=>rfl,fun h=>rfl⟩
    ·split at h
     ·simp at h;subst h;exact ⟨fun h=>rfl,fun h=>rfl⟩
     ·split at h
      ·simp only [sb] at h;obtain ⟨cs,_,rfl⟩:=h;exact ⟨fun h=>rfl,fun h=>rfl⟩
      ·simp at h
   ·split at h
    ·simp at h;subst h;exact ⟨fun h=>rfl,fun h=>rfl⟩
    ·split at h
     ·simp at h;subst h;exact ⟨fun h=>rfl,fun h=>rfl⟩
     ·split at h
      ·simp only [sb] at h;obtain ⟨cs,_,rfl⟩:=h;rename_i cap _ _ _ _ _ _;constructor <;> intro _ <;> (unfold eZ;split <;> (try split) <;> rfl)
      ·simp at h
   ·split at h <;> simp at h;subst h;exact ⟨fun h=>rfl,fun h=>rfl⟩
   ·split at h
    ·simp at h;subst h;exact ⟨fun h=>rfl,fun h=>rfl⟩
    ·split at h
     ·simp at h;subst h;exact ⟨fun h=>rfl,fun h=>rfl⟩
     ·simp at h;subst h;exact ⟨fun h=>rfl,fun h=>rfl⟩
   ·simp at h
   ·simp at h
   ·simp at h
   ·simp at h;subst h;exact ⟨fun h=>h,fun h=>h⟩
theorem Cs {cap:Option Nat} {n m:Nat} (ak:∀ k,cap=some k→m=k) (h:eZ cap n=.full):m=n:=by
 unfold eZ at h;cases cap with
 | none=>simp at h
 | some c =>
   simp only at h;split at h
   ·rename_i CS;rw [ak c rfl,CS]
   ·cases h
theorem yY {cap:Option Nat} {n:Nat} (z:Nat):eZ cap n≠.uniq z:=by
 unfold eZ;cases cap with
 | none=>simp
 | some c=>simp only;split <;> simp
def gy (aa:Nat→Option aH) (S:Nat→Nat→Prop) (w:World) (lo id0:Nat) (b o:Nat):Prop :=
 S b o∨((∃ id,lo≤id∧id≠id0∧aa b=some (.obj id))∧∃ v,w.cell? ⟨b,o,none⟩=some v)
theorem l5 (ag:aK B aa J S w H) {lo id0 n:Nat} {gv:List Nat} (bC:∀ (id b:Nat),id<lo→J[id]?=some b→gv[id]?=some b) (aI:∀ b,J[id0]?=some b→gv[n]?=some b) :
  ∀ (d:Nat) (u r:I) (v:Value),bL H lo id0 n d u=some r→Rel J S w u v→Rel gv (gy aa S w lo id0) w r v:=by
 intro d
 induction d with
 | zero=>intro u r v h;simp [bL] at h
 | succ d a8 =>
   intro u r v h ai;have list:∀ {cells cs:List I} {b o:Nat} {f:Nat→Value},dZ (bL H lo id0 n d) cells=some cs →
     (∀ (j:Nat) (u:I),cells[j]?=some u→S b (o+j)∧w.cell? ⟨b,o+j,none⟩=some (f j)∧u.plain=true∧(f j).oneCell'=true) →
     (∀ (j:Nat) (u:I),cells[j]?=some u→Rel J S w u (f j)) →
     (∀ (j:Nat) (u:I),cs[j]?=some u→gy aa S w lo id0 b (o+j)∧w.cell? ⟨b,o+j,none⟩=some (f j)∧u.plain=true∧(f j).oneCell'=true) ∧
     (∀ (j:Nat) (u:I),cs[j]?=some u→Rel gv (gy aa S w lo id0) w u (f j)):=fun hm ak fq=>by
    obtain ⟨ab,ae⟩:=j2 hm;refine ⟨fun j y aY=>?_,fun j y aY=>?_⟩
    ·obtain ⟨x,aj,aP⟩:=ae j y aY;obtain ⟨a7,a9,br,b5⟩:=ak j x aj;exact ⟨.inl a7,a9,(h4 aP).1 br,b5⟩
    ·obtain ⟨x,aj,aP⟩:=ae j y aY;exact a8 x y _ aP (fq j x aj)
   have arr:∀ {as bs:List I} {vs:Array Value},dZ (bL H lo id0 n d) as=some bs→vs.size=as.length→(∀ u∈as,u.plain=true) →
     (∀ (j:Nat) (u:I) (v:Value),as[j]?=some u→vs[j]?=some v→Rel J S w u v) →
     vs.size=bs.length∧(∀ u∈bs,u.plain=true)∧∀ (j:Nat) (u:I) (v:Value),bs[j]?=some u→vs[j]?=some v→Rel gv (gy aa S w lo id0) w u v:=fun hm ao aB fq=>by
    obtain ⟨ab,ae⟩:=j2 hm;refine ⟨by omega,fun y aY=>?_,fun j y v aY ad=>?_⟩
    ·obtain ⟨j,aw⟩:=sZ.1 aY;obtain ⟨x,aj,aP⟩:=ae j y aw;exact (h4 aP).1 (aB x (sy aj))
    ·obtain ⟨x,aj,aP⟩:=ae j y aY;exact a8 x y v aP (fq j x v aj ad)
   cases ai with
   | a0 v=>simp only [bL,Option.some.injEq] at h;subst h;exact .a0 v
   | bool b=>simp only [bL,Option.some.injEq] at h;subst h;exact .bool b
   | dw b=>simp only [bL,Option.some.injEq] at h;subst h;exact .dw b
   | int k n=>simp only [bL,Option.some.injEq] at h;subst h;exact .int k n
   | str s=>simp only [bL,Option.some.injEq] at h;subst h;exact .str s
   | eF=>simp only [bL,Option.some.injEq] at h;subst h;exact .eF
   | raw=>simp [bL] at h
   | c0=>simp [bL] at h
   | cj=>simp [bL] at h
   | map id b k =>
     simp only [bL] at h;split at h
     ·rename_i aR;simp only [Option.some.injEq] at h;subst h;exact .map _ b (bC id b aR k)
     ·split at h
      ·rename_i heq;subst heq;simp only [Option.some.injEq] at h;subst h;exact .map _ b (aI b k)
      ·simp only [Option.some.injEq] at h;subst h;exact .a0 _
   | yield id b k =>
     simp only [bL] at h;split at h
     ·rename_i aR;simp only [Option.some.injEq] at h;subst h;exact .yield _ b (bC id b aR k)
     ·simp at h
   | b2 c a =>
     simp only [bL,sb] at h;obtain ⟨cs,hm,rfl⟩:=h;simp [dZ] at hm;subst hm;exact .b2 _ _
   | av cells len c b o cap f ak hle hu k et =>
     simp only [bL,sb] at h;obtain ⟨cs,hm,rfl⟩:=h;obtain ⟨l1,l2⟩:=list hm k et;exact .av _ _ _ b o cap f ak hle hu l1 l2
   | cM cells len z b o cap =>
     simp only [bL,sb] at h;obtain ⟨cs,hm,rfl⟩:=h;exact .cM _ _ z b o cap
   | bR cells b o f k et =>
     simp only [bL,sb] at h;obtain ⟨cs,hm,rfl⟩:=h;obtain ⟨l1,l2⟩:=list hm k et;exact .bR _ b o f l1 l2
   | agg as vs k p one q =>
     simp only [bL,sb] at h;obtain ⟨cs,hm,rfl⟩:=h;obtain ⟨aA,aG,aT⟩:=arr hm k p q;exact .agg _ vs aA aG one aT
   | tuple as vs k p q =>
     simp only [bL,sb] at h;obtain ⟨cs,hm,rfl⟩:=h;obtain ⟨aA,aG,aT⟩:=arr hm k p q;exact .tuple _ vs aA aG aT
   | func f as bs vs ws aJ aN bT b0 q1 aW =>
     simp only [bL] at h;split at h
     ·rename_i cq af;simp only [Option.some.injEq] at h;subst h;obtain ⟨aA,aG,aT⟩:=arr cq aJ bT q1;obtain ⟨bl,cr,eY⟩:=arr af aN b0 aW;exact .func f _ _ vs ws aA bl aG cr aT eY
     ·simp at h
   | ptr id off b k =>
     simp only [bL] at h;split at h
     ·rename_i aR;simp only [Option.some.injEq] at h;subst h;exact .ptr _ _ b (bC id b aR k)
     ·rename_i fe;split at h
      ·rename_i heq;subst heq;simp only [Option.some.injEq] at h;subst h;exact .ptr _ _ b (aI b k)
      ·rename_i bI;split at h
       ·rename_i l aE;simp only [sb] at h;obtain ⟨cs,hm,rfl⟩:=h;obtain ⟨au,cur,e,aA,aG,aT,bq,bf,bc⟩:=ag.obj id _ aE;rw [k] at aA;cases aA;obtain ⟨c9,c_⟩:=j2 hm;(have bx:∀ o,o<cur.size→w.cell? ⟨b,o,none⟩=cur[o]?:=fun o aq=>by simp [World.cell?,aT,aq]);have facts:∀ (j:Nat) (y:I),cs[j]?=some y→∃ x c,off+j<cur.size∧cur[off+j]?=some c∧c.oneCell'=true∧x.plain=true∧bL H lo id0 n d x=some y∧Rel J S w x c:=fun j y aY=>by
         obtain ⟨x,aj,aP⟩:=c_ j y aY;have h8:=(sd.1 aj).1;simp at h8;(have fo:off+j<l.length:=by omega);(have ff:off+j<cur.size:=by omega);have ao:l[off+j]?=some l[off+j]:=sk fo;have ad:cur[off+j]?=some cur[off+j]:=su ff;obtain ⟨a7,a9,br,b5⟩:=bc (off+j) _ _ ao ad;rw [sq,sU,ao] at aj;simp at aj;subst aj;exact ⟨_,_,ff,ad,a9,I.di _,aP,br.view a7⟩
        refine .bR cs b off (fun j=>cur.getD (off+j) undef) (fun j y aY=>?_) (fun j y aY=>?_)
        ·obtain ⟨x,c,aw,c5,ab,aB,aP,ee⟩:=facts j y aY;(have aO:cur.getD (off+j) undef=c:=by rw [sw,c5];rfl);rw [aO];exact ⟨.inr ⟨⟨id,by omega,bI,aG⟩,c,by rw [bx _ aw,c5]⟩,by rw [bx _ aw,c5],(h4 aP).1 aB,ab⟩
        ·obtain ⟨x,c,aw,c5,ab,aB,aP,ee⟩:=facts j y aY;(have aO:cur.getD (off+j) undef=c:=by rw [sw,c5];rfl);simp only [aO];exact a8 x y c aP ee
       ·simp at h
   | ref id off len cap sz b ej k ak hle =>
     simp only [bL] at h;split at h
     ·rename_i aR;simp only [Option.some.injEq] at h;subst h;exact .ref _ _ _ _ _ b ej (bC id b aR k) ak hle
     ·rename_i fe;split at h
      ·rename_i heq;subst heq;simp only [Option.some.injEq] at h;subst h;exact .ref _ _ _ _ _ b ej (aI b k) ak hle
      ·rename_i bI;split at h
       ·rename_i row cF;simp only [sb] at h;obtain ⟨cs,hm,rfl⟩:=h;unfold rowOf at cF;simp only at cF;split at cF
        ·rename_i l aE;split at cF
         ·rename_i dG;simp only [Option.some.injEq] at cF;obtain ⟨au,cur,e,aA,aG,aT,bq,bf,bc⟩:=ag.obj id _ aE;rw [k] at aA;cases aA;obtain ⟨c9,c_⟩:=j2 hm;(have bx:∀ o,o<cur.size→w.cell? ⟨b,o,none⟩=cur[o]?:=fun o aq=>by simp [World.cell?,aT,aq]);have facts:∀ (j:Nat) (y:I),cs[j]?=some y→∃ x c,off+j<cur.size∧cur[off+j]?=some c∧c.oneCell'=true∧x.plain=true∧bL H lo id0 n d x=some y∧Rel J S w x c:=fun j y aY=>by
           obtain ⟨x,aj,aP⟩:=c_ j y aY;subst cF;have h8:=(sd.1 aj).1;simp at h8;(have fo:off+j<l.length:=by omega);(have ff:off+j<cur.size:=by omega);have ao:l[off+j]?=some l[off+j]:=sk fo;have ad:cur[off+j]?=some cur[off+j]:=su ff;obtain ⟨a7,a9,br,b5⟩:=bc (off+j) _ _ ao ad;rw [sq,sL,if_pos (by omega),sU,ao] at aj;simp at aj;subst aj;exact ⟨_,_,ff,ad,a9,I.di _,aP,br.view a7⟩
          refine .av cs len _ b off ej (fun j=>cur.getD (off+j) undef) (fun C2=>Cs ak C2) hle (fun z=>yY z) (fun j y aY=>?_) (fun j y aY=>?_)
          ·obtain ⟨x,c,aw,c5,ab,aB,aP,ee⟩:=facts j y aY;(have aO:cur.getD (off+j) undef=c:=by rw [sw,c5];rfl);rw [aO];exact ⟨.inr ⟨⟨id,by omega,bI,aG⟩,c,by rw [bx _ aw,c5]⟩,by rw [bx _ aw,c5],(h4 aP).1 aB,ab⟩
          ·obtain ⟨x,c,aw,c5,ab,aB,aP,ee⟩:=facts j y aY;(have aO:cur.getD (off+j) undef=c:=by rw [sw,c5];rfl);simp only [aO];exact a8 x y c aP ee
         ·simp at cF
        ·simp at cF
       ·simp at h
end
end Go.Proofs.Ytkoioidpbbbaiaa.Ab


namespace Go.Proofs.Ytkoioidpbbbaiaa.Ab
open Go
def fN (aa:Nat→Option aH) (lo id0 n:Nat):Nat→Option aH:=fun b=>match aa b with
 | some (.obj id)=>if id<lo then some (.obj id) else if id=id0 then some (.obj n) else none
 | some (.cell id j)=>if id<lo then some (.cell id j) else if id=id0 then some (.cell n j) else none
 | x=>x
section
variable {P:Program} {B N:Nat} {J:List Nat} {w:World} {H:List ar} {aa:Nat→Option aH} {S:Nat→Nat→Prop}
theorem gz.narrow {bt nf:Nat→Option aH} {cg:List Nat} {bK jw:Nat→Nat→Prop} {bW:World} (bM:Ext J cg) {id:Nat} {o:ar} (h:gz aa J S w id o) (ae:gz bt cg bK bW id o)
  (cl:∀ b o,bK b o→jw b o) (al:∀ b l,bt b=some l→(l=.obj id∨∃ j,l=.cell id j)→nf b=some l∧∀ o,jw b o→bK b o):gz nf J jw bW id o:=by
 cases o with
 | dead=>trivial
 | map es clock =>
   obtain ⟨b,bA,aA,aG,aT,bq,bf,bc⟩:=h;obtain ⟨cr,Cm,a7,a9,br,b5,dS,fY⟩:=ae;rw [bM _ _ aA] at a7;cases a7;obtain ⟨aJ,aN⟩:=al b _ a9 (.inl rfl);refine ⟨b,Cm,aA,aJ,br,b5,fun o aq=>dS o (aN o aq),fun j i k v x hu ad=>?_⟩;(have aw:j<bA.size:=by have:=(sd.1 hu).1;omega);obtain ⟨bT,b0,d_,fR,mX⟩:=bc j i k v bA[j] hu (su aw);obtain ⟨q1,aW,cC,dD,m2⟩:=fY j i k v x hu ad;exact ⟨q1,aW,(d_.narrow bM cC).mono (Ext.refl J) (fun b o h=>⟨cl b o h,rfl⟩),dD,(mX.narrow bM m2).mono (Ext.refl J) (fun b o h=>⟨cl b o h,rfl⟩)⟩
 | iter m s e t =>
   obtain ⟨b,d',aA,aG,aT,bq,bf⟩:=h;obtain ⟨cr,GJ,a7,a9,br,b5,dS⟩:=ae;rw [bM _ _ aA] at a7;cases a7;rw [bM _ _ aT] at br;cases br;obtain ⟨aJ,aN⟩:=al b _ a9 (.inl rfl);exact ⟨b,d',aA,aJ,aT,b5,fun o aq=>dS o (aN o aq)⟩
 | cells l =>
   obtain ⟨b,cur,e,aA,aG,aT,bq,bf,bc⟩:=h;obtain ⟨cr,o7,b9,a7,a9,br,b5,dS,fY⟩:=ae;rw [bM _ _ aA] at a7;cases a7;obtain ⟨aJ,aN⟩:=al b _ a9 (.inl rfl);refine ⟨b,o7,b9,aA,aJ,br,b5,fun o aq=>dS o (aN o aq),fun j u v hu ad=>?_⟩;(have aw:j<cur.size:=by have:=(sd.1 hu).1;omega);obtain ⟨bT,b0,d_,fR⟩:=bc j u cur[j] hu (su aw);obtain ⟨q1,aW,cC,dD⟩:=fY j u v hu ad;refine ⟨q1,aW,(d_.narrow bM cC).mono (Ext.refl J) (fun b o h=>⟨cl b o h,rfl⟩),?_⟩;have hm:=fun b af=>al b (.cell id j) af (.inr ⟨j,rfl⟩);unfold aU at dD ⊢;split at dD
   ·rcases dD with dD | ⟨ab,ae,aF,ba,bO,bP,cL,cO,ck⟩
    ·exact .inl dD
    ·exact .inr ⟨(hm _ ab).1,ae,aF,ba,bO,bP,cL,cO,fun o aq ah=>ck o aq ((hm _ ab).2 o ah)⟩
   ·simp [I.cT] at q1
   ·obtain ⟨ab,aQ,ba,bO,bP,cL,ah,⟨cur,e,cO,ck,dk⟩,fl⟩:=dD;have hh:=ah;rw [sr] at hh;exact ⟨(hm _ ab).1,aQ,ba,bO,bP,cL,ah,⟨cur,e,cO,ck,fun j u v hu ad=>⟨(dk j u v hu ad).1,A8 (hh u (sy hu)) (dk j u v hu ad).2⟩⟩,fun o ah=>fl o ((hm _ ab).2 o ah)⟩
   ·exact fun v ad=>(dD v ad).mono fun b af=>⟨(hm b af).1,rfl,(hm b af).2⟩
   ·trivial
 | grow l gid z =>
   obtain ⟨b,cur,e,aA,aG,aT,bq,bf,bc,cap,da,du⟩:=h;obtain ⟨cr,o7,b9,a7,a9,br,b5,dS,fY,o3,nr,ns⟩:=ae;rw [bM _ _ aA] at a7;cases a7;rw [bM _ _ da] at nr;cases nr;obtain ⟨aJ,aN⟩:=al b _ a9 (.inl rfl);refine ⟨b,o7,b9,aA,aJ,br,b5,fun o aq=>dS o (aN o aq),fun j u v hu ad=>?_,cap,da,ns⟩;(have aw:j<cur.size:=by have:=(sd.1 hu).1;omega);obtain ⟨bT,b0,d_,fR⟩:=bc j u cur[j] hu (su aw);obtain ⟨q1,aW,cC,dD⟩:=fY j u v hu ad;refine ⟨q1,aW,(d_.narrow bM cC).mono (Ext.refl J) (fun b o h=>⟨cl b o h,rfl⟩),?_⟩;have hm:=fun b af=>al b (.cell id j) af (.inr ⟨j,rfl⟩);unfold aU at dD ⊢;split at dD
   ·rcases dD with dD | ⟨ab,ae,aF,ba,bO,bP,cL,cO,ck⟩
    ·exact .inl dD
    ·exact .inr ⟨(hm _ ab).1,ae,aF,ba,bO,bP,cL,cO,fun o aq ah=>ck o aq ((hm _ ab).2 o ah)⟩
   ·simp [I.cT] at q1
   ·obtain ⟨ab,aQ,ba,bO,bP,cL,ah,⟨cur,e,cO,ck,dk⟩,fl⟩:=dD;have hh:=ah;rw [sr] at hh;exact ⟨(hm _ ab).1,aQ,ba,bO,bP,cL,ah,⟨cur,e,cO,ck,fun j u v hu ad=>⟨(dk j u v hu ad).1,A8 (hh u (sy hu)) (dk j u v hu ad).2⟩⟩,fun o ah=>fl o ((hm _ ab).2 o ah)⟩
   ·exact fun v ad=>(dD v ad).mono fun b af=>⟨(hm b af).1,rfl,(hm b af).2⟩
   ·trivial
 | loop st cI fn T params assign body jA =>
   obtain ⟨aj,aY,b,L,aA,aG,aT,bq,bf,bc,da,du,dP⟩:=h;obtain ⟨_,_,cr,ju,a7,a9,br,b5,dS,fY,nr,ns,Ca⟩:=ae;rw [bM _ _ aA] at a7;cases a7;refine ⟨aj,aY,b,ju,aA,(al b _ a9 (.inl rfl)).1,br,b5,dS,fY,nr,fun i u v hu ad=>?_,Ca⟩;(have aw:i<L.tmps.size:=by have:=(sd.1 hu).1;omega);exact ⟨(ns i u v hu ad).1,(((du i u L.tmps[i] hu (su aw)).2).narrow bM (ns i u v hu ad).2).mono (Ext.refl J) (fun b o h=>⟨cl b o h,rfl⟩)⟩
theorem n5 {lo id0 n b:Nat} {l:aH} (h:aa b=some l) (ao:∀ id,(l=.obj id∨∃ j,l=.cell id j)→id<lo):fN aa lo id0 n b=some l:=by
 unfold fN;rw [h];cases l with
 | obj id=>simp [ao id (.inl rfl)]
 | cell id j=>simp [ao id (.inr ⟨j,rfl⟩)]
 | _=>rfl
theorem Ec {lo id0 n b:Nat} (h:aa b=none):fN aa lo id0 n b=none:=by simp [fN,h]
theorem pd {bt:Nat→Option aH} {cg:List Nat} {bK:Nat→Nat→Prop} {bW:World} {H2:List ar} (ag:aK B aa J S w H) (bM:Ext J cg) (az:bk aa S w bt bK bW) (cf:aK B bt cg bK bW H2)
  (ic:∀ id,id<H.length→H2[id]?=H[id]?) (id0 n:Nat) :
  bk aa S w (fN bt H.length id0 n) (gy bt bK bW H.length id0) bW∧aK B (fN bt H.length id0 n) J (gy bt bK bW H.length id0) bW H:=by
 have aI:∀ b,fN bt H.length id0 n b≠none→bt b≠none:=fun b h aQ=>h (Ec aQ);refine ⟨⟨az.os,az.tape,az.output,az.size,az.cB,fun b o h=>⟨.inl (az.set b o h).1,(az.set b o h).2⟩,fun b o h=>?_,fun b h=>az.own b (aI b h)⟩,⟨ag.cH,fun id o aq=>?_,fun b o h=>?_,fun b l af=>?_,cf.cX⟩⟩
 ·rcases h with h | ⟨⟨id,_,_,h⟩,_⟩
  ·exact az.fresh b o h
  ·rcases az.own b (by simp [h]) with ab | ab
   ·exact .inr (.inl ab)
   ·exact .inr (.inr ab)
 ·have aR:=(sd.1 aq).1;have pV:H2[id]?=some o:=by rw [ic id aR];exact aq
  refine (ag.obj id o aq).narrow bM (cf.obj id o pV) (fun b o h=>.inl h) fun b l af ao=>⟨n5 af fun bB c8=>?_,fun o h=>?_⟩
  ·have:bB=id:=by
    rcases ao with rfl | ⟨j,rfl⟩ <;> rcases c8 with h | ⟨zB,h⟩ <;> cases h <;> rfl
   omega
  ·rcases h with h | ⟨⟨bB,ab,_,h⟩,_⟩
   ·exact h
   ·rw [af] at h;rcases ao with rfl | ⟨j,rfl⟩
    ·cases h;omega
    ·cases h
 ·rcases h with h | ⟨_,h⟩
  ·exact cf.cb b o h
  ·exact h
 ·cases h:bt b with
  | none=>simp [fN,h] at af
  | some l'=>exact cf.base b l' h
theorem kA {cg gv:List Nat} {bW:World} {bt nf:Nat→Option aH} {bK jw:Nat→Nat→Prop} {l l':aH} (fg:∀ b,bt b=some l→nf b=some l'∧∀ o,jw b o→bK b o) {H2:List ar} {lo id0 n d:Nat} {u r:I} {v:Value}
  (b1:∀ (d:Nat) (u r:I) (v:Value),bL H2 lo id0 n d u=some r→Rel cg bK bW u v→Rel gv jw bW r v)
  (h:bL H2 lo id0 n d u=some r) (aq:aU bt cg bK bW l u v):aU nf gv jw bW l' r v:=by
 by_cases aB:u.plain=true
 ·exact aU.b3 ((h4 h).1 aB)
 ·cases d with
  | zero=>simp [bL] at h
  | succ d =>
    obtain ⟨cells,len,c,rfl⟩:∃ cells len c,u=.av cells len c:=by
     cases u <;> first | exact ⟨_,_,_,rfl⟩ | exact absurd rfl aB | simp [bL] at h
    simp only [bL,sb] at h;obtain ⟨cs,hm,rfl⟩:=h;obtain ⟨c9,c_⟩:=j2 hm;cases c with
    | shared=>exact absurd rfl aB
    | full=>exact absurd rfl aB
    | own z =>
      cases v with
      | slice o0 m ej =>
       cases o0 with
       | none=>trivial
       | some a =>
        simp only [aU] at aq ⊢;rcases aq with ⟨ab,ae,aF⟩ | ⟨ab,ae,aF,ba,bO,bP,cL,cO,ck⟩
        ·subst aF;simp [dZ] at hm;subst hm;exact .inl ⟨ab,ae,rfl⟩
        ·exact .inr ⟨(fg _ ab).1,ae,aF,ba,bO,bP,by omega,cO,fun o aq ah=>ck o (by omega) ((fg _ ab).2 o ah)⟩
      | _=>trivial
    | uniq z =>
      cases v with
      | slice o0 m ej =>
       cases o0 with
       | none=>trivial
       | some a =>
        simp only [aU] at aq ⊢;rcases aq with ⟨ab,ae,aF⟩ | ⟨ab,ae,ba,bO,bP,cL,⟨cur,e,cO,ck,dk⟩,fl⟩
        ·subst aF;simp [dZ] at hm;subst hm;exact .inl ⟨ab,ae,rfl⟩
        ·refine .inr ⟨(fg _ ab).1,ae,ba,bO,bP,by omega,⟨cur,e,cO,ck,fun j y c aY ak=>?_⟩,fun o ah=>fl o ((fg _ ab).2 o ah)⟩;obtain ⟨x,aj,aP⟩:=c_ j y aY;obtain ⟨q1,aW,cC⟩:=dk j x c aj ak;exact ⟨(h4 aP).1 q1,aW,b1 d x y c aP cC⟩
      | _=>trivial
theorem xJ (ag:aK B aa J S w H) {H2:List ar} {r v:I} {x:Value} {bW:World} (ic:∀ id,id<H.length→H2[id]?=H[id]?) {n d:Nat} (aP:bL H2 H.length H2.length n d r=some v)
  (aB:aZ B aa J S w H2 r x bW):aZ B aa J S w H v x bW:=by
 obtain ⟨bt,cg,bK,bM,az,cf,ai,aq⟩:=aB;obtain ⟨dx,aF⟩:=pd ag bM az cf ic H2.length n
 have b1:=fun d u r v=>l5 (gv:=J) (id0:=H2.length) (n:=n) cf (lo:=H.length) (fun id b aR af=>by
   (have h9:id<J.length:=by rw [ag.cH];exact aR);have aj:=sk h9;rw [bM _ _ aj] at af;cases af;exact aj) (fun b af=>by
   have:=(sd.1 af).1;rw [cf.cH] at this;omega) d u r v
 refine ⟨_,J,_,Ext.refl J,dx,aF,b1 d r v x aP ai,kA (l:=.res) (fun b af=>⟨n5 af (fun id h=>by rcases h with h | ⟨j,h⟩ <;> cases h),fun o h=>?_⟩) b1 aP aq⟩;rcases h with h | ⟨⟨id,_,_,h⟩,_⟩
 ·exact h
 ·rw [af] at h;cases h
theorem EJ (ag:aK B aa J S w H) {H2:List ar} {r v:I} {x:Value} {bW:World} (ic:∀ id,id<H.length→H2[id]?=H[id]?) {id0 d g8:Nat} {l l':List I} (fe:H.length≤id0)
  (aE:H2[id0]?=some (.cells l)) (ao:dZ (bL H2 H.length id0 H.length g8) l=some l') (aP:bL H2 H.length id0 H.length d r=some v)
  (aB:aZ B aa J S w H2 r x bW):aZ B aa J S w (H++[.cells l']) v x bW:=by
 obtain ⟨bt,cg,bK,bM,az,cf,ai,aq⟩:=aB;obtain ⟨dx,aF⟩:=pd ag bM az cf ic id0 H.length;obtain ⟨db,cur,e,aA,aG,aT,bq,bf,bc⟩:=cf.obj id0 _ aE;have mB:Ext J (J++[db]):=Ext.append J [db]
 have b1:=fun d u r v=>l5 (gv:=J++[db]) (id0:=id0) (n:=H.length) cf (lo:=H.length) (fun id b aR af=>by
   (have h9:id<J.length:=by rw [ag.cH];exact aR);have aj:=sk h9;rw [bM _ _ aj] at af;cases af;exact mB _ _ aj) (fun b af=>by
   rw [aA] at af;cases af;exact Ext.last ag db) d u r v
 obtain ⟨c9,c_⟩:=j2 ao;have pI:∀ id,(aH.obj id0≠.obj id)∨id=id0:=fun id=>by
  by_cases h:id=id0
  ·exact .inr h
  ·exact .inl fun e=>h (by cases e;rfl)
 have kH:∀ b,bt b=some (.obj id0)→fN bt H.length id0 H.length b=some (.obj H.length):=fun b af=>by
  simp only [fN,af];simp;omega
 have De:∀ b j,bt b=some (.cell id0 j)→fN bt H.length id0 H.length b=some (.cell H.length j):=fun b j af=>by
  simp only [fN,af];simp;omega
 have cl:∀ b l,bt b=some l→(∀ id,l≠.obj id∨id=id0)→∀ o,gy bt bK bW H.length id0 b o→bK b o:=fun b l af bI o h=>by
  rcases h with h | ⟨⟨id,_,aI,h⟩,_⟩
  ·exact h
  ·rw [af] at h;cases h;rcases bI id with h | h
   ·exact absurd rfl h
   ·exact absurd h aI
 refine ⟨_,J++[db],_,mB,dx,aF.push db ⟨db,cur,e,Ext.last ag db,kH db aG,aT,by omega,fun o h=>bf o (cl db _ aG pI o h),fun j u c hu ak=>?_⟩,
  b1 d r v x aP ai,kA (l:=.res) (fun b af=>⟨n5 af (fun id h=>by rcases h with h | ⟨j,h⟩ <;> cases h),cl b _ af (fun id=>.inl (by simp))⟩) b1 aP aq⟩
 obtain ⟨y,aY,pH⟩:=c_ j u hu;obtain ⟨a7,a9,br,b5⟩:=bc j y c aY ak;exact ⟨(h4 pH).2 a7,a9,b1 g8 y u c pH br,kA (l:=.cell id0 j) (fun b af=>⟨De b j af,cl b _ af (fun id=>.inl (by simp))⟩) b1 pH b5⟩
theorem mapM_some {f:I→Option I}:∀ {xs ys:List (Nat×I×I)},mapM f xs=some ys→ys.length=xs.length∧∀ (j i:Nat) (k v:I),ys[j]?=some (i,k,v)→∃ dg v0,xs[j]?=some (i,dg,v0)∧f dg=some k∧f v0=some v
 | [],ys,h=>by simp [mapM] at h;subst h;simp
 | (i0,dg,v0)::xs,ys,h=>by
   simp only [mapM] at h;split at h
   ·rename_i aJ v1 al ad;simp only [sb] at h;obtain ⟨ys,h,rfl⟩:=h;obtain ⟨ab,ae⟩:=mapM_some h;refine ⟨by simp [ab],fun j i k v aw=>?_⟩;cases j with
    | zero=>simp at aw;obtain ⟨rfl,rfl,rfl⟩:=aw;exact ⟨dg,v0,rfl,al,ad⟩
    | succ j=>simpa using ae j i k v (by simpa using aw)
   ·simp at h
theorem EK (ag:aK B aa J S w H) {H2:List ar} {r v:I} {x:Value} {bW:World} (ic:∀ id,id<H.length→H2[id]?=H[id]?) {id0 d g8:Nat} {es es':List (Nat×I×I)} {clock:Nat} (fe:H.length≤id0)
  (aE:H2[id0]?=some (.map es clock)) (ao:mapM (bL H2 H.length id0 H.length g8) es=some es') (aP:bL H2 H.length id0 H.length d r=some v)
  (aB:aZ B aa J S w H2 r x bW):aZ B aa J S w (H++[.map es' clock]) v x bW:=by
 obtain ⟨bt,cg,bK,bM,az,cf,ai,aq⟩:=aB;obtain ⟨dx,aF⟩:=pd ag bM az cf ic id0 H.length;obtain ⟨db,bA,aA,aG,aT,bq,bf,bc⟩:=cf.obj id0 _ aE;have mB:Ext J (J++[db]):=Ext.append J [db]
 have b1:=fun d u r v=>l5 (gv:=J++[db]) (id0:=id0) (n:=H.length) cf (lo:=H.length) (fun id b aR af=>by
   (have h9:id<J.length:=by rw [ag.cH];exact aR);have aj:=sk h9;rw [bM _ _ aj] at af;cases af;exact mB _ _ aj) (fun b af=>by
   rw [aA] at af;cases af;exact Ext.last ag db) d u r v
 obtain ⟨c9,c_⟩:=mapM_some ao;have pI:∀ id,(aH.obj id0≠.obj id)∨id=id0:=fun id=>by
  by_cases h:id=id0
  ·exact .inr h
  ·exact .inl fun e=>h (by cases e;rfl)
 have kH:∀ b,bt b=some (.obj id0)→fN bt H.length id0 H.length b=some (.obj H.length):=fun b af=>by
  simp only [fN,af];simp;omega
 have cl:∀ b l,bt b=some l→(∀ id,l≠.obj id∨id=id0)→∀ o,gy bt bK bW H.length id0 b o→bK b o:=fun b l af bI o h=>by
  rcases h with h | ⟨⟨id,_,aI,h⟩,_⟩
  ·exact h
  ·rw [af] at h;cases h;rcases bI id with h | h
   ·exact absurd rfl h
   ·exact absurd h aI
 refine ⟨_,J++[db],_,mB,dx,aF.push db ⟨db,bA,Ext.last ag db,kH db aG,aT,by omega,fun o h=>bf o (cl db _ aG pI o h),fun j i k v c hu ak=>?_⟩,
  b1 d r v x aP ai,kA (l:=.res) (fun b af=>⟨n5 af (fun id h=>by rcases h with h | ⟨j,h⟩ <;> cases h),cl b _ af (fun id=>.inl (by simp))⟩) b1 aP aq⟩
 obtain ⟨dg,v0,aY,y9,kF⟩:=c_ j i k v hu;obtain ⟨a7,a9,br,b5,dS⟩:=bc j i dg v0 c aY ak;exact ⟨a7,(h4 y9).1 a9,b1 g8 dg k _ y9 br,(h4 kF).1 b5,b1 g8 v0 v _ kF dS⟩
theorem yI {u:I} (h:u.plain=true):u.g9.plain=true:=by
 unfold I.g9;split
 ·rfl
 ·exact h
theorem Ck {u:I} (h:u.plain=true):u.ca.plain=true:=by
 unfold I.ca;split <;> first | rfl | exact h
theorem Rel.g9 {u:I} {v:Value} (h:Rel J S w u v):Rel J S w u.g9 v:=by
 unfold I.g9;split
 ·rename_i c n;cases h with
  | b2 _ a=>exact .b2 _ a
  | av _ _ _ b o cap f ak hle hu k et=>exact .av _ _ _ b o cap f (by simp) hle (by simp) k et
 ·exact h
theorem Rel.ca {u:I} {v:Value} (h:Rel J S w u v):Rel J S w u.ca v:=by
 unfold I.ca;split
 ·rename_i c n;cases h with
  | b2 _ a=>exact .b2 _ a
  | av _ _ _ b o cap f ak hle hu k et=>exact .av _ _ _ b o cap f (by simp) hle (by simp) k et
 ·cases h with
  | agg as vs l p one r =>
    refine .agg _ vs (by simpa using l) (fun u hu=>?_) one fun j u v hu ad=>?_
    ·obtain ⟨x,aj,rfl⟩:=sD.1 hu;exact yI (p x aj)
    ·rw [sq] at hu;simp only [sb] at hu;obtain ⟨x,aj,rfl⟩:=hu;exact (r j x v aj ad).g9
 ·cases h with
  | tuple as vs l p r =>
    refine .tuple _ vs (by simpa using l) (fun u hu=>?_) fun j u v hu ad=>?_
    ·obtain ⟨x,aj,rfl⟩:=sD.1 hu;exact yI (p x aj)
    ·rw [sq] at hu;simp only [sb] at hu;obtain ⟨x,aj,rfl⟩:=hu;exact (r j x v aj ad).g9
 ·exact h
theorem aU.ca {l:aH} {u:I} {v:Value} (h:aU aa J S w l u v):aU aa J S w l u.ca v:=by
 by_cases aB:u.plain=true
 ·exact aU.b3 (Ck aB)
 ·have:u.ca=u:=by
   cases u <;> first | exact absurd rfl aB | skip
   ·rename_i c n k;cases k <;> first | rfl | exact absurd rfl aB
   ·rfl
   ·rfl
   ·rfl
  rw [this];exact h
theorem a5.ca {bz:Nat→aH} {T:List I} {bb:List Value} (h:a5 bz aa J S w T bb):a5 bz aa J S w (T.map I.ca) bb :=
 ⟨by simpa using h.len,fun i u v hu ad=>by
  rw [sq] at hu;simp only [sb] at hu;obtain ⟨x,aj,rfl⟩:=hu;exact (h.rel i x v aj ad).ca,fun i u v hu ad=>by
  rw [sq] at hu;simp only [sb] at hu
  obtain ⟨x,aj,rfl⟩:=hu;exact (h.own i x v aj ad).ca⟩
theorem aZ.ca {H':List ar} {r:I} {v:Value} {w':World} (h:aZ B aa J S w H' r v w'):aZ B aa J S w H' r.ca v w':=by
 obtain ⟨bt,cg,bK,a,b,c,d,e⟩:=h;exact ⟨bt,cg,bK,a,b,c,d.ca,e.ca⟩
theorem Gp {u:I} (h:u.plain=true):u.ki.plain=true:=by
 unfold I.ki;split
 ·rfl
 ·exact h
theorem Rel.ki {u:I} {v:Value} (h:Rel J S w u v):Rel J S w u.ki v:=by
 unfold I.ki;split
 ·exact .a0 v
 ·exact h
theorem Rel.gr {u:I} {v:Value} (h:Rel J S w u v):Rel J S w u.gr v:=by
 unfold I.gr;split
 ·rename_i cs;cases h with
  | bR _ b o f k et =>
    refine .bR _ b o f (fun j u hu=>?_) fun j u hu=>?_
    ·rw [sq] at hu;simp only [sb] at hu;obtain ⟨x,aj,rfl⟩:=hu;obtain ⟨aJ,aN,b',hn⟩:=k j x aj;exact ⟨aJ,aN,Gp b',hn⟩
    ·rw [sq] at hu;simp only [sb] at hu;obtain ⟨x,aj,rfl⟩:=hu;exact (et j x aj).ki
 ·exact h
theorem aU.gr {l:aH} {u:I} {v:Value} (h:aU aa J S w l u v):aU aa J S w l u.gr v:=by
 unfold I.gr;split
 ·exact aU.b3 rfl
 ·exact h
theorem a5.gr {bz:Nat→aH} {T:List I} {bb:List Value} (h:a5 bz aa J S w T bb):a5 bz aa J S w (T.map I.gr) bb :=
 ⟨by simpa using h.len,fun i u v hu ad=>by
  rw [sq] at hu;simp only [sb] at hu;obtain ⟨x,aj,rfl⟩:=hu;exact (h.rel i x v aj ad).gr,fun i u v hu ad=>by
  rw [sq] at hu;simp only [sb] at hu
  obtain ⟨x,aj,rfl⟩:=hu;exact (h.own i x v aj ad).gr⟩
theorem Rel.pure (bU:List Nat) {u:I} {v:Value} (h:Rel J S w u v):∀ {d:Nat},cn d u=true→Rel bU S w u v:=by
 have all:∀ {d:Nat} {l:List I},l.all (cn d)=true→∀ {j:Nat} {u:I},l[j]?=some u→cn d u=true:=fun h j u hu=>by
  rw [sr] at h;exact h u (sy hu)
 induction h with
 | a0 v=>intros;exact .a0 v
 | bool b=>intros;exact .bool b
 | dw b=>intros;exact .dw b
 | int k n=>intros;exact .int k n
 | str s=>intros;exact .str s
 | eF=>intros;exact .eF
 | ptr id off b k=>intro d h;cases d <;> simp [cn] at h
 | bR cells b o f k et a8 =>
   intro d h;cases d with
   | zero=>simp [cn] at h
   | succ d=>simp only [cn] at h;exact .bR cells b o f k fun j u aw=>a8 j u aw (all h aw)
 | b2 c a=>intros;exact .b2 c a
 | av cells len c b o cap f ak hle hu k et a8 =>
   intro d h;cases d with
   | zero=>simp [cn] at h
   | succ d=>simp only [cn] at h;exact .av cells len c b o cap f ak hle hu k fun j u aw=>a8 j u aw (all h aw)
 | cM cells len z b o cap=>intros;exact .cM cells len z b o cap
 | raw=>intro d h;cases d <;> simp [cn] at h
 | c0=>intro d h;cases d <;> simp [cn] at h
 | cj=>intro d h;cases d <;> simp [cn] at h
 | ref id off len c sz b cap k ak hle=>intro d h;cases d <;> simp [cn] at h
 | func f as bs vs ws ab ae bT b0 aS bh i1 i2 =>
   intro d h;cases d with
   | zero=>simp [cn] at h
   | succ d =>
     simp only [cn,sn] at h;exact .func f as bs vs ws ab ae bT b0 (fun j u v hu ad=>i1 j u v hu ad (all h.1 hu)) (fun j u v hu ad=>i2 j u v hu ad (all h.2 hu))
 | yield id b k=>intro d h;cases d <;> simp [cn] at h
 | map id b k=>intro d h;cases d <;> simp [cn] at h
 | agg as vs k p one r a8 =>
   intro d h;cases d with
   | zero=>simp [cn] at h
   | succ d=>simp only [cn] at h;exact .agg as vs k p one fun j u v hu ad=>a8 j u v hu ad (all h hu)
 | tuple as vs k p r a8 =>
   intro d h;cases d with
   | zero=>simp [cn] at h
   | succ d=>simp only [cn] at h;exact .tuple as vs k p fun j u v hu ad=>a8 j u v hu ad (all h hu)
def dQ (aa:Nat→Option aH):Nat→Option aH:=fun b=>match aa b with
 | some (.arg i)=>some (.arg i)
 | _=>none
theorem yz {b i:Nat} (h:aa b=some (.arg i)):dQ aa b=some (.arg i):=by simp [dQ,h]
theorem kq {b:Nat} {l:aH} (h:dQ aa b=some l):∃ i,aa b=some (.arg i)∧l=.arg i:=by
 unfold dQ at h;split at h
 ·rename_i i hi;cases h;exact ⟨i,hi,rfl⟩
 ·cases h
theorem aU.pure (bU:List Nat) {i:Nat} {u:I} {v:Value} {d:Nat} (aB:cn d u=true) (h:aU aa J S w (.arg i) u v):aU (dQ aa) bU S w (.arg i) u v:=by
 unfold aU at h ⊢;split at h
 ·rcases h with h | ⟨ab,h⟩
  ·exact .inl h
  ·exact .inr ⟨yz ab,h⟩
 ·rename_i cells len z a n cap;cases d with
  | zero=>simp [cn] at aB
  | succ d =>
    simp only [cn] at aB;rcases h with h | ⟨ab,ae,aF,ba,bO,bP,⟨cur,e,cL,cO,ck⟩,dk⟩
    ·exact .inl h
    ·refine .inr ⟨yz ab,ae,aF,ba,bO,bP,⟨cur,e,cL,cO,fun j u v hu ad=>?_⟩,dk⟩;obtain ⟨bT,b0,d_⟩:=ck j u v hu ad;rw [sr] at aB;exact ⟨bT,b0,d_.pure bU (aB u (sy hu))⟩
 ·cases d <;> simp [cn] at aB
 ·cases d <;> simp [cn] at aB
 ·trivial
theorem a5.pure {T:List I} {bb:List Value} (h:a5 (fun i=>.arg i) aa J S w T bb) (aB:T.all (cn 8)=true):a5 (fun i=>.arg i) (dQ aa) [] S w T bb:=by
 rw [sr] at aB;exact ⟨h.len,fun i u v hu ad=>(h.rel i u v hu ad).pure [] (aB u (sy hu)),fun i u v hu ad=>(h.own i u v hu ad).pure [] (aB u (sy hu))⟩
theorem pZ (ag:aK B aa J S w H):aK B (dQ aa) [] S w [] :=
 ⟨rfl,fun id o h=>by simp at h,ag.cb,fun b l af=>by obtain ⟨i,h,_⟩:=kq af;exact ag.base b _ h,ag.cX⟩
theorem xK (ag:aK B aa J S w H) {H2:List ar} {r v:I} {x:Value} {bW:World} {n d:Nat} (aP:bL H2 0 H2.length n d r=some v)
  (aB:aZ B (dQ aa) [] S w H2 r x bW):aZ B aa J S w H v x bW:=by
 classical
 obtain ⟨bt,cg,bK,bM,az,cf,ai,aq⟩:=aB
 let ay:Nat→Option aH:=fun b=>match aa b with
  | some (.obj id)=>some (.obj id)
  | some (.cell id j)=>some (.cell id j)
  | _=>match bt b with
    | some (.obj _)=>none
    | some (.cell _ _)=>none
    | l=>l
 have jV:∀ b l,aa b=some l→((∃ id,l=.obj id)∨∃ id j,l=.cell id j)→ay b=some l∧bt b=none∧b<w.heap.size:=fun b l af ao=>by
  have aR:=(ag.base b l af).2;have ae:bt b=none:=by
   cases h:bt b with
   | none=>rfl
   | some l' =>
     rcases az.own b (by simp [h]) with ab | ab
     ·exfalso;apply ab;rcases ao with ⟨id,rfl⟩ | ⟨id,j,rfl⟩ <;> simp [dQ,af]
     ·omega
  refine ⟨?_,ae,aR⟩;rcases ao with ⟨id,rfl⟩ | ⟨id,j,rfl⟩ <;> simp [ay,af]
 have xc:∀ b,ay b≠none→aa b≠none∨bt b≠none:=fun b h=>by
  by_cases ab:aa b=none
  ·right;intro ae;apply h;simp [ay,ab,ae]
  ·exact .inl ab
 have cq:∀ b,dQ aa b≠none→aa b≠none:=fun b h aQ=>h (by simp [dQ,aQ]);have pj:∀ b o,gy bt bK bW 0 H2.length b o→S b o∨aa b≠none∨w.heap.size≤b:=fun b o h=>by
  rcases h with h | ⟨⟨id,_,_,h⟩,_⟩
  ·rcases az.fresh b o h with h | h | h
   ·exact .inl h
   ·exact .inr (.inl (cq b h))
   ·exact .inr (.inr h)
  ·rcases az.own b (by simp [h]) with ab | ab
   ·exact .inr (.inl (cq b ab))
   ·exact .inr (.inr ab)
 have lZ:bk aa S w ay (gy bt bK bW 0 H2.length) bW :=
  ⟨az.os,az.tape,az.output,az.size,fun b af aI=>az.cB b af (by simp [dQ,aI]),fun b o h=>⟨.inl (az.set b o h).1,(az.set b o h).2⟩,pj,fun b h=>by
   rcases xc b h with h | h
   ·exact .inl h
   ·rcases az.own b h with h | h
    ·exact .inl (cq b h)
    ·exact .inr h⟩
 have b1:=fun d u r v=>l5 (gv:=J) (id0:=H2.length) (n:=n) cf (lo:=0) (fun id b aR af=>by omega) (fun b af=>by
   have:=(sd.1 af).1;rw [cf.cH] at this;omega) d u r v
 refine ⟨ay,J,_,Ext.refl J,lZ,ag.frame lZ (fun b l af ao=>?_) (fun b o h=>?_) (fun b l af=>?_),b1 d r v x aP ai,kA (l:=.res) (fun b af=>?_) b1 aP aq⟩
 ·obtain ⟨ab,ae,aF⟩:=jV b l af ao;have aI:dQ aa b=none:=by rcases ao with ⟨id,rfl⟩ | ⟨id,j,rfl⟩ <;> simp [dQ,af]
  refine ⟨ab,az.cB b aF aI,fun o h=>?_⟩;rcases h with h | ⟨⟨id,_,_,h⟩,_⟩
  ·rcases az.fresh b o h with h | h | h
   ·exact h
   ·exact absurd aI h
   ·omega
  ·rw [ae] at h;cases h
 ·rcases h with h | ⟨_,h⟩
  ·exact cf.cb b o h
  ·exact h
 ·by_cases h:aa b=none
  ·(have bu:bt b≠none:=fun ae=>by simp [ay,h,ae] at af);cases ae:bt b with
   | none=>exact absurd ae bu
   | some l'=>exact cf.base b l' ae
  ·cases ab:aa b with
   | none=>exact absurd ab h
   | some l'=>obtain ⟨p,q⟩:=ag.base b l' ab;exact ⟨p,ud q az.size⟩
 ·refine ⟨?_,fun o h=>?_⟩
  ·cases ab:aa b with
   | none=>simp [ay,ab,af]
   | some l =>
     cases l with
     | obj id=>have:=(jV b _ ab (.inl ⟨id,rfl⟩)).2.1;rw [af] at this;cases this
     | cell id j=>have:=(jV b _ ab (.inr ⟨id,j,rfl⟩)).2.1;rw [af] at this;cases this
     | _=>simp [ay,ab,af]
  ·rcases h with h | ⟨⟨id,_,_,h⟩,_⟩
   ·exact h
   ·rw [af] at h;cases h
def fX (aa:Nat→Option aH) (S:Nat→Nat→Prop) (w:World):Nat→Nat→Prop:=fun b o=>S b o∨((∃ id,aa b=some (.obj id))∧∃ v,w.cell? ⟨b,o,none⟩=some v)
theorem A9 {J bU:List Nat} {S S':Nat→Nat→Prop} {u:I} {v:Value} (h:gY u=true) (ai:Rel J S w u v):Rel bU S' w u v:=by
 cases ai <;> simp [gY] at h
 ·exact .bool _
 ·exact .int _ _
 ·exact .str _
theorem FA {bU:List Nat} {S':Nat→Nat→Prop} {u:I} {v:Value} (h:fw u=true) (ai:Rel J S w u v):Rel bU S' w u v:=by
 cases ai with
 | bool b=>exact .bool b
 | dw b=>simp [fw] at h
 | c0=>simp [fw] at h
 | int k n=>exact .int k n
 | str s=>exact .str s
 | tuple as vs k p q =>
   simp only [fw,sr] at h;exact .tuple as vs k p fun j u v hu ad=>A9 (h u (sy hu)) (q j u v hu ad)
 | cM cells len z b o cap=>exact .cM _ _ _ _ _ _
 | b2 c a =>
   exact .b2 _ _
 | av cells len c b o cap f ak hle hu k et=>cases c <;> simp [fw] at h;exact absurd rfl (hu _)
 | _=>simp [fw] at h
theorem Fz {aa ay:Nat→Option aH} {bU:List Nat} {S S':Nat→Nat→Prop} {u:I} {v:Value} (h:fw u=true) (aq:aU aa J S w .res u v) (fg:∀ b,aa b=some .res→ay b=some .res∧∀ o,S' b o→S b o):aU ay bU S' w .res u v:=by
 unfold aU at aq ⊢;split at aq
 ·simp [fw] at h
 ·simp only [fw,sr] at h;rcases aq with aq | ⟨ab,aQ,ba,bO,bP,cL,⟨cur,e,cO,ck,dk⟩,fl⟩
  ·exact .inl aq
  ·obtain ⟨aJ,aN⟩:=fg _ ab;exact .inr ⟨aJ,aQ,ba,bO,bP,cL,⟨cur,e,cO,ck,fun j u v hu ad=>⟨(dk j u v hu ad).1,(dk j u v hu ad).2.1,A9 (h u (sy hu)) (dk j u v hu ad).2.2⟩⟩,fun o ah=>fl o (aN o ah)⟩
 ·simp [fw] at h
 ·simp [fw] at h
 ·trivial
theorem Bc {u:I} (h:u.plain=true):(ke H u).plain=true:=by
 unfold ke;split
 ·split <;> rfl
 ·exact h
theorem Bd (ag:aK B aa J S w H) {u:I} {v:Value} (ai:Rel J S w u v):Rel J (fX aa S w) w (ke H u) v:=by
 have hm:Rel J (fX aa S w) w u v:=ai.mono (Ext.refl J) fun b o h=>⟨.inl h,rfl⟩;cases ai <;> try exact hm
 case ref id off len cap sz b ej af ak hle =>
  unfold ke;simp only;split
  ·rename_i row cF;unfold rowOf at cF;simp only at cF;split at cF
   ·rename_i l aE;split at cF
    ·rename_i dG;simp only [Option.some.injEq] at cF;obtain ⟨au,cur,e,aA,aG,aT,bq,bf,bc⟩:=ag.obj id _ aE;rw [af] at aA;cases aA;(have bx:∀ o,o<cur.size→w.cell? ⟨b,o,none⟩=cur[o]?:=fun o aq=>by simp [World.cell?,aT,aq]);have facts:∀ (j:Nat) (y:I),row[j]?=some y→∃ c,off+j<cur.size∧cur[off+j]?=some c∧c.oneCell'=true∧y.plain=true∧Rel J S w y c:=fun j y aY=>by
      subst cF;have h8:=(sd.1 aY).1;simp at h8;(have fo:off+j<l.length:=by omega);(have ff:off+j<cur.size:=by omega);have ao:l[off+j]?=some l[off+j]:=sk fo;have ad:cur[off+j]?=some cur[off+j]:=su ff;obtain ⟨a7,a9,br,b5⟩:=bc (off+j) _ _ ao ad;rw [sq,sL,if_pos (by omega),sU,ao] at aY;simp at aY;subst aY;exact ⟨_,ff,ad,a9,I.di _,br.view a7⟩
     refine .av row len .shared b off ej (fun j=>cur.getD (off+j) undef) (by simp) hle (by simp) (fun j y aY=>?_) (fun j y aY=>?_)
     ·obtain ⟨c,aw,c5,ab,aB,ee⟩:=facts j y aY;(have aO:cur.getD (off+j) undef=c:=by rw [sw,c5];rfl);rw [aO];exact ⟨.inr ⟨⟨id,aG⟩,c,by rw [bx _ aw,c5]⟩,by rw [bx _ aw,c5],aB,ab⟩
     ·obtain ⟨c,aw,c5,ab,aB,ee⟩:=facts j y aY;(have aO:cur.getD (off+j) undef=c:=by rw [sw,c5];rfl);simp only [aO];exact ee.mono (Ext.refl J) fun b o h=>⟨.inl h,rfl⟩
    ·cases cF
   ·cases cF
  ·exact hm
theorem ye (ag:aK B aa J S w H) {u:I} {v:Value} (ai:Rel J S w u v):Rel J (fX aa S w) w (hT H u) v:=by
 have hm:Rel J (fX aa S w) w u v:=ai.mono (Ext.refl J) fun b o h=>⟨.inl h,rfl⟩;have jG:=Bd ag ai;cases ai <;> first | exact hm | exact jG | skip
 rename_i id off b af;unfold hT;simp only;split
 ·rename_i l aE;obtain ⟨au,cur,e,aA,aG,aT,bq,bf,bc⟩:=ag.obj id _ aE;rw [af] at aA;cases aA;have bx:∀ o,o<cur.size→w.cell? ⟨b,o,none⟩=cur[o]?:=fun o aq=>by simp [World.cell?,aT,aq]
  have facts:∀ (j:Nat) (y:I),(((l.drop off).map I.view).map (ke H))[j]?=some y→∃ c,off+j<cur.size∧cur[off+j]?=some c∧c.oneCell'=true∧y.plain=true∧Rel J (fX aa S w) w y c:=fun j y aY=>by
   have h8:=(sd.1 aY).1;simp at h8;(have fo:off+j<l.length:=by omega);(have ff:off+j<cur.size:=by omega);have ao:l[off+j]?=some l[off+j]:=sk fo;have ad:cur[off+j]?=some cur[off+j]:=su ff;obtain ⟨a7,a9,br,b5⟩:=bc (off+j) _ _ ao ad;rw [sq,sq,sU,ao] at aY;simp at aY;subst aY;exact ⟨_,ff,ad,a9,Bc (I.di _),Bd ag (br.view a7)⟩
  refine .bR _ b off (fun j=>cur.getD (off+j) undef) (fun j y aY=>?_) (fun j y aY=>?_)
  ·obtain ⟨c,aw,c5,ab,aB,ee⟩:=facts j y aY;(have aO:cur.getD (off+j) undef=c:=by rw [sw,c5];rfl);rw [aO];exact ⟨.inr ⟨⟨id,aG⟩,c,by rw [bx _ aw,c5]⟩,by rw [bx _ aw,c5],aB,ab⟩
  ·obtain ⟨c,aw,c5,ab,aB,ee⟩:=facts j y aY;(have aO:cur.getD (off+j) undef=c:=by rw [sw,c5];rfl);simp only [aO];exact ee
 ·exact hm
theorem oI {u:I} (h:u.plain=true):(hT H u).plain=true:=by
 unfold hT;split
 ·split <;> rfl
 ·exact Bc rfl
 ·exact h
theorem FI (ag:aK B aa J S w H) {u:I} {v:Value} (ai:Rel J S w u v):Rel J (fX aa S w) w (iA H u) v:=by
 have hm:Rel J (fX aa S w) w u v:=ai.mono (Ext.refl J) fun b o h=>⟨.inl h,rfl⟩;have nQ:=ye ag ai;cases ai <;> try exact hm
 ·exact nQ
 ·exact nQ
 ·rename_i f as bs vs ws ab ae bT b0 aS bh;refine .func f _ _ vs ws (by simpa using ab) (by simpa using ae) (fun u hu=>?_) (fun u hu=>?_) (fun j u v hu ad=>?_) (fun j u v hu ad=>?_)
  ·obtain ⟨x,aj,rfl⟩:=sD.1 hu;exact oI (bT x aj)
  ·obtain ⟨x,aj,rfl⟩:=sD.1 hu;exact oI (b0 x aj)
  ·rw [sq] at hu;simp only [sb] at hu;obtain ⟨x,aj,rfl⟩:=hu;exact ye ag (aS j x v aj ad)
  ·rw [sq] at hu;simp only [sb] at hu;obtain ⟨x,aj,rfl⟩:=hu;exact ye ag (bh j x v aj ad)
theorem FH {i:Nat} {u:I} {v:Value} (h:aU aa J S w (.arg i) u v):aU aa J (fX aa S w) w (.arg i) (iA H u) v:=by
 have cl:∀ b,aa b=some (.arg i)→∀ o,fX aa S w b o→S b o:=fun b af o h=>by
  rcases h with h | ⟨⟨id,h⟩,_⟩
  ·exact h
  ·rw [af] at h;cases h
 have hm:aU aa J (fX aa S w) w (.arg i) u v:=h.mono (Ext.refl J) (fun b o h=>⟨.inl h,rfl⟩) fun b af=>⟨af,rfl,cl b af⟩;cases u <;> try exact hm
 ·rename_i id off;exact aU.b3 (show (hT H (.ptr id off)).plain=true from oI rfl)
 ·rename_i id off len cap sz;exact aU.b3 (show (hT H (.ref id off len cap sz)).plain=true from oI rfl)
theorem Gv (ag:aK B aa J S w H) {T:List I} {bb:List Value} (h:a5 (fun i=>.arg i) aa J S w T bb):a5 (fun i=>.arg i) aa J (fX aa S w) w (T.map (iA H)) bb :=
 ⟨by simpa using h.len,fun i u v hu ad=>by
  rw [sq] at hu;simp only [sb] at hu;obtain ⟨x,aj,rfl⟩:=hu;exact FI ag (h.rel i x v aj ad),fun i u v hu ad=>by
  rw [sq] at hu;simp only [sb] at hu
  obtain ⟨x,aj,rfl⟩:=hu;exact FH (h.own i x v aj ad)⟩
theorem DA (ag:aK B aa J S w H):aK B (dQ aa) [] (fX aa S w) w [] :=
 ⟨rfl,fun id o h=>by simp at h,fun b o h=>by
  rcases h with h | ⟨_,h⟩
  ·exact ag.cb b o h
  ·exact h,fun b l af=>by obtain ⟨i,h,_⟩:=kq af;exact ag.base b _ h,ag.cX⟩
theorem EL (ag:aK B aa J S w H) {H2:List ar} {r v:I} {x:Value} {bW:World} {n d:Nat} (aP:bL H2 0 H2.length n d r=some v)
  (ah:fw v=true) (aB:aZ B (dQ aa) [] (fX aa S w) w H2 r x bW):aZ B aa J S w H v x bW:=by
 classical
 obtain ⟨bt,cg,bK,bM,az,cf,ai,aq⟩:=aB
 let ay:Nat→Option aH:=fun b=>match aa b with
  | some (.obj id)=>some (.obj id)
  | some (.cell id j)=>some (.cell id j)
  | _=>match bt b with
    | some (.obj _)=>none
    | some (.cell _ _)=>none
    | l=>l
 have jV:∀ b l,aa b=some l→((∃ id,l=.obj id)∨∃ id j,l=.cell id j)→ay b=some l∧bt b=none∧b<w.heap.size:=fun b l af ao=>by
  have aR:=(ag.base b l af).2;have ae:bt b=none:=by
   cases h:bt b with
   | none=>rfl
   | some l' =>
     rcases az.own b (by simp [h]) with ab | ab
     ·exfalso;apply ab;rcases ao with ⟨id,rfl⟩ | ⟨id,j,rfl⟩ <;> simp [dQ,af]
     ·omega
  refine ⟨?_,ae,aR⟩;rcases ao with ⟨id,rfl⟩ | ⟨id,j,rfl⟩ <;> simp [ay,af]
 have xc:∀ b,ay b≠none→aa b≠none∨bt b≠none:=fun b h=>by
  by_cases ab:aa b=none
  ·right;intro ae;apply h;simp [ay,ab,ae]
  ·exact .inl ab
 have cq:∀ b,dQ aa b≠none→aa b≠none:=fun b h aQ=>h (by simp [dQ,aQ])
 let S':Nat→Nat→Prop:=fun b o=>S b o∨(gy bt bK bW 0 H2.length b o∧∀ id,aa b≠some (.obj id))
 have pj:∀ b o,S' b o→S b o∨aa b≠none∨w.heap.size≤b:=fun b o h=>by
  rcases h with h | ⟨h | ⟨⟨id,_,_,h⟩,_⟩,fp⟩
  ·exact .inl h
  ·rcases az.fresh b o h with (h | ⟨⟨id,h⟩,_⟩) | h | h
   ·exact .inl h
   ·exact absurd h (fp id)
   ·exact .inr (.inl (cq b h))
   ·exact .inr (.inr h)
  ·rcases az.own b (by simp [h]) with ab | ab
   ·exact .inr (.inl (cq b ab))
   ·exact .inr (.inr ab)
 have lZ:bk aa S w ay S' bW :=
  ⟨az.os,az.tape,az.output,az.size,fun b af aI=>az.cB b af (by simp [dQ,aI]),fun b o h=>⟨.inl h,(az.set b o (.inl h)).2⟩,pj,fun b h=>by
   rcases xc b h with h | h
   ·exact .inl h
   ·rcases az.own b h with h | h
    ·exact .inl (cq b h)
    ·exact .inr h⟩
 have b1:=fun d u r v=>l5 (gv:=J) (id0:=H2.length) (n:=n) cf (lo:=0) (fun id b aR af=>by omega) (fun b af=>by
   have:=(sd.1 af).1;rw [cf.cH] at this;omega) d u r v
 have Dy:=b1 d r v x aP ai
 have nO:aU (fun b=>match bt b with | some .res=>some .res | _=>none) J (gy bt bK bW 0 H2.length) bW .res v x:=kA (l:=.res) (fun b af=>⟨by simp [af],fun o h=>by
  rcases h with h | ⟨⟨id,_,_,h⟩,_⟩
  ·exact h
  ·rw [af] at h;cases h⟩) b1 aP aq
 refine ⟨ay,J,S',Ext.refl J,lZ,ag.frame lZ (fun b l af ao=>?_) (fun b o h=>?_) (fun b l af=>?_),FA ah Dy,Fz ah nO fun b af=>?_⟩
 ·obtain ⟨ab,ae,aF⟩:=jV b l af ao;have aI:dQ aa b=none:=by rcases ao with ⟨id,rfl⟩ | ⟨id,j,rfl⟩ <;> simp [dQ,af]
  refine ⟨ab,az.cB b aF aI,fun o h=>?_⟩;rcases h with h | ⟨h | ⟨⟨id,_,_,h⟩,_⟩,fp⟩
  ·exact h
  ·rcases az.fresh b o h with (h | ⟨⟨id,h⟩,_⟩) | h | h
   ·exact h
   ·exact absurd h (fp id)
   ·exact absurd aI h
   ·omega
  ·rw [ae] at h;cases h
 ·rcases h with h | ⟨h | ⟨_,h⟩,_⟩
  ·obtain ⟨v,ad⟩:=ag.cb b o h;exact ⟨v,((az.set b o (.inl h)).2).trans ad⟩
  ·exact cf.cb b o h
  ·exact h
 ·by_cases h:aa b=none
  ·(have bu:bt b≠none:=fun ae=>by simp [ay,h,ae] at af);cases ae:bt b with
   | none=>exact absurd ae bu
   | some l'=>exact cf.base b l' ae
  ·cases ab:aa b with
   | none=>exact absurd ab h
   | some l'=>obtain ⟨p,q⟩:=ag.base b l' ab;exact ⟨p,ud q az.size⟩
 ·have gK:bt b=some .res:=by
   split at af
   ·assumption
   ·cases af
  refine ⟨?_,fun o h=>?_⟩
  ·cases ab:aa b with
   | none=>simp [ay,ab,gK]
   | some l =>
     cases l with
     | obj id=>have:=(jV b _ ab (.inl ⟨id,rfl⟩)).2.1;rw [gK] at this;cases this
     | cell id j=>have:=(jV b _ ab (.inr ⟨id,j,rfl⟩)).2.1;rw [gK] at this;cases this
     | _=>simp [ay,ab,gK]
  ·rcases h with h | ⟨h,_⟩
   ·exact .inl ((az.set b o (.inl h)).1)
   ·exact h
end
end Go.Proofs.Ytkoioidpbbbaiaa.Ab


namespace Go.Proofs.Ytkoioidpbbbaiaa.Ab
open Go
def a' (lo:Nat) (H H':List ar):Prop:=H.length≤H'.length∧∀ id,id<lo→id<H.length→H'[id]?=H[id]?
theorem a'.refl (lo:Nat) (H:List ar):a' lo H H:=⟨se _,fun _ _ _=>rfl⟩
theorem a'.trans {lo:Nat} {H H1 H2:List ar} (h:a' lo H H1) (k:a' lo H1 H2):a' lo H H2 :=
 ⟨sX h.1 k.1,fun id ab ae=>(k.2 id ab (ud ae h.1)).trans (h.2 id ab ae)⟩
theorem a'.append (lo:Nat) (H X:List ar):a' lo H (H++X):=⟨by simp,fun id _ h=>sj h⟩
theorem a'.set {lo id:Nat} (H:List ar) (x:ar) (h:lo≤id):a' lo H (H.set id x):=⟨by simp,fun bB ab _=>sf (by omega)⟩
def fW (B:Nat) (aa:Nat→Option aH) (J:List Nat) (S:Nat→Nat→Prop) (w:World) (H':List ar) (r:I):Ending→World→Prop
 | .returned v,w'=>aZ B aa J S w H' r v w'
 | _,_=>False
def ni (aa:Nat→Option aH):Prop:=∀ b i,aa b≠some (.slot i)
def je (L:Loop) (vs:List Value):Array Value:=(L.params.zip vs.toArray).foldl (fun tmps (x:Tmp×Value)=>tmps.setIfInBounds x.1 x.2) L.tmps
def jx (P:Program) (bX:e') (args:List I) (H H':List ar) (r:I):Prop :=
 match bX with
 | .fn k => (∃ f, P.funcs[k]? = some f ∧ f.body.isSome = true ∧ f.name ≠ "runtime.NumGoroutine") ∧
   ∀ B aa J S w vs,aK B aa J S w H→ni aa→a5 (fun i=>.arg i) aa J S w args vs→CallsIn Fence.wide 0 P k vs.toArray w (fW B aa J S w H' r)
 | .yield l=>∀ B aa J S w vs b,aK B aa J S w H→ni aa→a5 (fun i=>.arg i) aa J S w args vs→J[l]?=some b →
   ∃ L,w.heap[b]?=some (.loop L)∧vs.length=L.params.size∧RoundIn Fence.wide 0 P b L.fn (je L vs) L.assign L.body w (fW B aa J S w H' r)
structure c3 (P:Program) (C:b6):Prop where
 low:∀ {bX args H lo r H'},C bX args H lo=some (r,H')→a' lo H H'
 ok:∀ {bX args H lo r H'},C bX args H lo=some (r,H')→jx P bX args H H' r
section
variable {P:Program} {B N:Nat} {J:List Nat} {w:World} {H:List ar} {aa:Nat→Option aH} {S:Nat→Nat→Prop}
theorem fW.mono {H' H1:List ar} {r r':I} (h:∀ v w',aZ B aa J S w H' r v w'→aZ B aa J S w H1 r' v w') (e:Ending) (w':World) (k:fW B aa J S w H' r e w'):fW B aa J S w H1 r' e w':=by
 cases e with
 | returned v=>exact h v w' k
 | panicked c=>exact k
 | outgrown=>exact k
theorem jx.mono {bX:e'} {args:List I} {H' H1:List ar} {r r':I} (k:jx P bX args H H' r)
  (h:∀ B aa J S w,aK B aa J S w H→∀ v w',aZ B aa J S w H' r v w'→aZ B aa J S w H1 r' v w'):jx P bX args H H1 r':=by
 cases bX with
 | fn f =>
   exact ⟨k.1,fun B aa J S w vs ag aI ad=>CallsIn.mono (k.2 B aa J S w vs ag aI ad) (fW.mono (h B aa J S w ag))⟩
 | yield l =>
   intro B aa J S w vs b ag aI ad af;obtain ⟨L,ab,ae,aF⟩:=k B aa J S w vs b ag aI ad af;exact ⟨L,ab,ae,RoundIn.mono aF (fW.mono (h B aa J S w ag))⟩
theorem Cw (ag:aK B aa J S w H) {id:Nat} {l:List I} (aE:H[id]?=some (.cells l)) {v:Value} (ai:Rel J S w (.ptr id 0) v) :
  ∃ ay S',bk aa S w ay S' w∧aK B ay J S' w (H.set id .dead)∧Rel J S' w (.bR (l.map I.view)) v:=by
 classical
 cases ai with
 | ptr _ _ b af =>
   obtain ⟨au,cur,e,aA,aG,aT,bq,bf,bc⟩:=ag.obj id _ aE;rw [af] at aA;cases aA
   let S':Nat→Nat→Prop:=fun au o=>S au o∨(au=b∧o<cur.size)
   let ay:Nat→Option aH:=fun au=>if au=b then none else aa au
   have bx:∀ o,o<cur.size→w.cell? ⟨b,o,none⟩=cur[o]?:=fun o aq=>by
    simp [World.cell?,aT,aq]
   have az:bk aa S w ay S' w:=⟨rfl,rfl,rfl,se _,fun _ _ _=>rfl,fun _ _ h=>⟨.inl h,rfl⟩,fun au o h=>by
     rcases h with h | ⟨rfl,_⟩
     ·exact .inl h
     ·exact .inr (.inl (by simp [aG])),fun au bu=>by
     by_cases dF:au=b
     ·simp [ay,dF] at bu
     ·simp only [ay,dF,if_false] at bu;exact .inl bu⟩
   have bV:aK B ay J S' w (H.set id .dead):=by
    refine ⟨by simpa using ag.cH,fun bB o aq=>?_,fun au o h=>?_,fun au l' bu=>?_,ag.cX⟩
    ·by_cases ct:bB=id
     ·subst ct
      have:o=.dead:=by
       have:=(sd.1 aE).1;simp [this] at aq;exact aq.symm
      subst this;trivial
     ·rw [sf (Ne.symm ct)] at aq;refine (ag.obj bB o aq).frame (Ext.refl J) az.set (fun au l' bu ao=>?_);have bI:au≠b:=fun e=>by
       subst e;rw [aG] at bu;cases bu;rcases ao with h | ⟨j,h⟩
       ·cases h;exact ct rfl
       ·cases h
      exact ⟨by simp [ay,bI,bu],rfl,fun o h=>h.resolve_right fun h=>bI h.1⟩
    ·rcases h with h | ⟨rfl,h⟩
     ·exact ag.cb _ _ h
     ·exact ⟨_,(bx o h).trans (su h)⟩
    ·by_cases dF:au=b
     ·simp [ay,dF] at bu
     ·simp only [ay,dF,if_false] at bu;exact ag.base _ _ bu
   refine ⟨ay,S',az,bV,.bR _ b 0 (fun j=>cur.getD j undef) (fun j u aw=>?_) (fun j u aw=>?_)⟩
   all_goals
    rw [sq] at aw;cases ao:l[j]? with
    | none=>rw [ao] at aw;simp at aw
    | some yk =>
      rw [ao] at aw;simp only [sg,Option.some.injEq] at aw;subst aw;have aR:=(sd.1 ao).1;have pM:cur[j]?=some cur[j]:=su (by omega);(have aO:cur.getD j undef=cur[j]:=by simp [sw,pM]);obtain ⟨a7,a9,br,b5⟩:=bc j yk _ ao pM
      first
       | (simp only [aO];exact ⟨.inr ⟨rfl,by omega⟩,by rw [sG,bx j (by omega),pM],I.di _,a9⟩)
       | (simp only [aO];exact (br.view a7).mono (Ext.refl J) az.set)
theorem a5.EC {bz:Nat→aH} {u:I} {vs:List Value} (h:a5 bz aa J S w [u] vs):∃ v,vs=[v]∧Rel J S w u v∧aU aa J S w (bz 0) u v:=by
 cases vs with
 | nil=>have:=h.len;simp at this
 | cons v r=>cases r with
   | nil=>exact ⟨v,rfl,h.rel 0 u v rfl rfl,h.own 0 u v rfl rfl⟩
   | cons x y=>have:=h.len;simp at this
theorem nt {C:b6} (bm:c3 P C) {lo mode:Nat} {bX:e'} {args:List I} {v:I} {H1:List ar} (h:eN C lo mode bX args H=some (v,H1)):a' lo H H1∧jx P bX args H H1 v:=by
 have frozen:∀ {r:I} {H2:List ar},C bX args H H.length=some (r,H2)→((bL H2 H.length H2.length 0 8 r).map fun v=>(v,H))=some (v,H1)→a' lo H H1∧jx P bX args H H1 v:=fun ak aP=>by
  simp only [sb,Prod.mk.injEq] at aP;obtain ⟨bn,aP,rfl,rfl⟩:=aP;exact ⟨a'.refl _ _,(bm.ok ak).mono fun B aa J S w ag x w' aB=>xJ ag (fun id aE=>(bm.low ak).2 id aE aE) aP aB⟩
 unfold eN at h;split at h
 ·simp only [si] at h;obtain ⟨⟨r,H2⟩,ak,aP⟩:=h;exact frozen ak aP
 ·exact ⟨bm.low h,bm.ok h⟩
 ·split at h
  ·rename_i k aB;simp only [si] at h;obtain ⟨⟨r,H2⟩,ak,aP⟩:=h;simp only [sb,Prod.mk.injEq] at aP;obtain ⟨bn,aP,rfl,rfl⟩:=aP;obtain ⟨aJ,aN⟩:=bm.ok ak
   exact ⟨a'.refl _ _,aJ,fun B aa J S w vs ag aI ad=>CallsIn.mono (aN B _ [] S w vs (pZ ag) (fun b i h=>by obtain ⟨_,_,h⟩:=kq h;cases h) (ad.pure aB).ca) fun e w' he=>by
     cases e with
     | returned v=>exact (xK ag aP he).ca
     | panicked c=>exact he.elim
     | outgrown=>exact he.elim⟩
  ·simp at h
 ·split at h
  ·rename_i k aB;simp only [si] at h;obtain ⟨⟨r,H2⟩,ak,bn,aP,h⟩:=h;split at h
   ·rename_i xa;simp only [Option.some.injEq,Prod.mk.injEq] at h;obtain ⟨rfl,rfl⟩:=h;obtain ⟨aJ,aN⟩:=bm.ok ak
    exact ⟨a'.refl _ _,aJ,fun B aa J S w vs ag aI ad=>CallsIn.mono (aN B _ [] _ w vs (DA ag) (fun b i h=>by obtain ⟨_,_,h⟩:=kq h;cases h) ((Gv ag ad).pure aB).ca) fun e w' he=>by
     cases e with
     | returned v=>exact (EL ag aP xa he).ca
     | panicked c=>exact he.elim
     | outgrown=>exact he.elim⟩
   ·simp at h
  ·simp at h
 ·split at h
  ·rename_i k aB;simp only [si] at h;obtain ⟨⟨r,H2⟩,ak,aP⟩:=h;simp only [sb,Prod.mk.injEq] at aP;obtain ⟨bn,aP,rfl,rfl⟩:=aP;obtain ⟨aJ,aN⟩:=bm.ok ak
   exact ⟨a'.refl _ _,aJ,fun B aa J S w vs ag aI ad=>CallsIn.mono (aN B _ [] S w vs (pZ ag) (fun b i h=>by obtain ⟨_,_,h⟩:=kq h;cases h) (ad.gr.pure aB).ca) fun e w' he=>by
     cases e with
     | returned v=>exact (xK ag aP he).ca
     | panicked c=>exact he.elim
     | outgrown=>exact he.elim⟩
  ·simp at h
 ·split at h
  ·rename_i k id;split at h
   ·rename_i bC;split at h
    ·rename_i l aE;split at h
     ·rename_i aB;simp only [si] at h;obtain ⟨⟨r,H2⟩,ak,aP⟩:=h;simp only [sb,Prod.mk.injEq] at aP;obtain ⟨bn,aP,rfl,rfl⟩:=aP;obtain ⟨aJ,aN⟩:=bm.ok ak;refine ⟨a'.set _ _ bC,aJ,fun B aa J S w vs ag aI ad=>?_⟩;obtain ⟨v0,gg,aS,_⟩:=a5.EC ad;subst gg;obtain ⟨ay,S',az,bV,bh⟩:=Cw ag aE aS
      have dd:a5 (fun i=>.arg i) ay J S' w [I.bR (l.map I.view)] [v0]:=⟨rfl,fun i u v hu ad=>by
       cases i with
       | zero=>simp at hu ad;subst hu ad;exact bh
       | succ i=>simp at hu,fun i u v hu ad=>by
       cases i with
       | zero=>simp at hu ad;subst hu;exact aU.b3 rfl
       | succ i=>simp at hu⟩
      (have jW:([I.bR (l.map I.view)]).all (cn 8)=true:=by simp [aB]);exact CallsIn.mono (aN B _ [] S' w _ (pZ bV) (fun b i h=>by obtain ⟨_,_,h⟩:=kq h;cases h) (dd.pure jW).ca) fun e w' he=>by
       cases e with
       | returned v=>exact aZ.after (Ext.refl J) az (xK bV aP he).ca
       | panicked c=>exact he.elim
       | outgrown=>exact he.elim
     ·simp at h
    ·simp at h
   ·simp at h
  ·simp at h
 ·simp only [si] at h;obtain ⟨⟨r,H2⟩,ak,aP⟩:=h;simp only [sb,Prod.mk.injEq] at aP;obtain ⟨bn,aP,rfl,rfl⟩:=aP;refine ⟨a'.refl _ _,?_⟩;have bS:=(bm.ok ak).mono (r':=bn.ca) (H1:=H) fun B aa J S w ag x w' aB=>(xJ ag (fun id aE=>(bm.low ak).2 id aE aE) aP aB).ca;cases bX with
  | fn k=>exact ⟨bS.1,fun B aa J S w vs ag aI ad=>bS.2 B aa J S w vs ag aI ad.ca⟩
  | yield l=>exact fun B aa J S w vs b ag aI ad af=>bS B aa J S w vs b ag aI ad.ca af
 ·simp only [si] at h;obtain ⟨⟨r,H2⟩,ak,aP⟩:=h;split at aP
  ·exact frozen ak aP
  ·rename_i id0 pE;split at aP
   ·rename_i l aE;split at aP
    ·rename_i fe;split at aP
     ·rename_i l' bn ao ad;simp only [Option.some.injEq,Prod.mk.injEq] at aP;obtain ⟨rfl,rfl⟩:=aP;exact ⟨a'.append _ _ _,(bm.ok ak).mono fun B aa J S w ag x w' aB=>EJ ag (fun id aE=>(bm.low ak).2 id aE aE) fe aE ao ad aB⟩
     ·simp at aP
    ·simp at aP
   ·rename_i es clock aE;split at aP
    ·rename_i fe;split at aP
     ·rename_i l' bn ao ad;simp only [Option.some.injEq,Prod.mk.injEq] at aP;obtain ⟨rfl,rfl⟩:=aP;exact ⟨a'.append _ _ _,(bm.ok ak).mono fun B aa J S w ag x w' aB=>EK ag (fun id aE=>(bm.low ak).2 id aE aE) fe aE ao ad aB⟩
     ·simp at aP
    ·simp at aP
   ·simp at aP
end
end Go.Proofs.Ytkoioidpbbbaiaa.Ab


namespace Go.Proofs.Ytkoioidpbbbaiaa.Ab
open Go
def gk (g:Nat→Option Nat) (aa:Nat→Option aH):Nat→Option aH:=fun b=>match aa b with
 | some (.arg i)=>(g i).map .arg
 | some (.obj id)=>some (.obj id)
 | some (.cell id j)=>some (.cell id j)
 | _=>none
def fj (dY:Bool) (vs:List I):List I:=match dY with | true=>vs | false=>vs.map I.view
def eh (F:Fence):Prop:=F=Fence.wide∨∃ l,F=Fence.wide.inRound l
section
variable {P:Program} {B N:Nat} {J:List Nat} {w:World} {H:List ar} {aa:Nat→Option aH} {S:Nat→Nat→Prop}
theorem eh.fn {F:Fence} (h:eh F) (f:FuncId):F.fn f:=by rcases h with rfl | ⟨l,rfl⟩ <;> trivial
theorem eh.depth {F:Fence} (h:eh F):F.depth=none:=by rcases h with rfl | ⟨l,rfl⟩ <;> rfl
theorem eh.calls {F:Fence} (h:eh F) {n:Nat} {f:FuncId} {args:Array Value} {w:World} {R:Ending→World→Prop} (k:CallsIn Fence.wide n P f args w R):CallsIn F n P f args w R:=by
 rcases h with rfl | ⟨l,rfl⟩
 ·exact k
 ·exact CallsIn.inRound l k
theorem eh.rounds {F:Fence} (h:eh F) {n l:Nat} {f:FuncId} {tmps:Array Value} {assign body:Code} {w:World} {R:Ending→World→Prop} (k:RoundIn Fence.wide n P l f tmps assign body w R):RoundIn F n P l f tmps assign body w R:=by
 rcases h with rfl | ⟨l,rfl⟩
 ·exact k
 ·exact k
theorem E1 {g:Nat→Option Nat} {b:Nat} (h:aa b=none):gk g aa b=none:=by simp [gk,h]
theorem E2 {g:Nat→Option Nat} {b:Nat} (h:gk g aa b≠none):aa b≠none:=fun aQ=>h (E1 aQ)
theorem Au (g:Nat→Option Nat) (aa:Nat→Option aH) (S:Nat→Nat→Prop) (w:World):bk aa S w (gk g aa) S w :=
 ⟨rfl,rfl,rfl,se _,fun _ _ _=>rfl,fun _ _ h=>⟨h,rfl⟩,fun _ _ h=>.inl h,fun _ h=>.inl (E2 h)⟩
theorem Av (g:Nat→Option Nat) (aa:Nat→Option aH):ni (gk g aa):=fun b i h=>by
 unfold gk at h;split at h <;> simp at h
theorem zo (ag:aK B aa J S w H) (g:Nat→Option Nat):aK B (gk g aa) J S w H:=by
 refine ⟨ag.cH,fun id o aq=>?_,ag.cb,fun b l af=>?_,ag.cX⟩
 ·refine (ag.obj id o aq).frame (Ext.refl J) (fun _ _ h=>⟨h,rfl⟩) fun b l af ao=>⟨?_,rfl,fun _ h=>h⟩;rcases ao with rfl | ⟨j,rfl⟩ <;> simp [gk,af]
 ·cases h:aa b with
  | none=>simp [gk,h] at af
  | some l'=>exact ag.base b l' h
theorem EH {g:Nat→Option Nat} {i j:Nat} (aO:g i=some j) {u:I} {v:Value} (h:aU aa J S w (.arg i) u v):aU (gk g aa) J S w (.arg j) u v :=
 h.mono (Ext.refl J) (fun _ _ h=>⟨h,rfl⟩) fun b af=>⟨by simp [gk,af,aO],rfl,fun _ h=>h⟩
theorem EW {T:List I} {a:Act} (aL:cx B N aa J S w ⟨T,H⟩ a) (ops:List Operand) (ts:List Bool) (dY:Bool) :
  ∃ b4 a4,bk aa S w b4 a4 w∧cx B N b4 J a4 w ⟨(rd T ts ops).2,H⟩ a ∧
    a5 (fun i=>.arg i) b4 J a4 w (fj dY (rd T ts ops).1) (ops.map a.eval):=by
 obtain ⟨b4,a4,g,bZ,ag,ad⟩:=EX a ops ts T 0 aa S aL.T aL.H;simp only [sG] at ad;cases dY with
 | true=>exact ⟨b4,a4,g.az w,⟨bZ,ag,aL.M.az (g.az w)⟩,ad⟩
 | false =>
   obtain ⟨bK,aJ,aN,cf,dd⟩:=FC (rd T ts ops).1 (ops.map a.eval) (fun i=>.arg i) a4 (fun i j h=>by cases h;rfl) (fun i id=>by simp) (fun i id j=>by simp) ad ag;have az:bk b4 a4 w b4 bK w:=bk.settle aJ fun b o h=>(aN b o h).imp id fun ⟨i,h⟩=>⟨_,h⟩;refine ⟨b4,bK,(g.az w).trans az,⟨⟨bZ.len,fun i u v hu ad=>(bZ.rel i u v hu ad).mono (Ext.refl J) (fun b o h=>⟨aJ b o h,rfl⟩),fun i u v hu ad=>?_⟩,cf,(aL.M.az (g.az w)).az az⟩,dd⟩;refine (bZ.own i u v hu ad).mono (Ext.refl J) (fun b o h=>⟨aJ b o h,rfl⟩) fun b af=>⟨af,rfl,fun o h=>?_⟩;rcases aN b o h with h | ⟨j,h⟩
   ·exact h
   ·rw [af] at h;cases h
theorem o_ {C:b6} {lo:Nat} {o:Oper} {an:bY} {s aD:a6} (h:Ab.execOp P C lo o an s=some aD) :
  ∃ r H',a3 P C lo o an.mode (fj (dB o an.mode) (rd s.T an.cz (opsOf o)).1) s.H=some (r,H') ∧
    aD=⟨put (inPlace o an.mode (rd s.T an.cz (opsOf o)).2 r) o.dst r,H'⟩:=by
 unfold Ab.execOp at h;simp only [sb] at h;obtain ⟨⟨r,H'⟩,h,rfl⟩:=h;exact ⟨r,H',h,rfl⟩
theorem Eu {C:b6} {lo mode:Nat} {o:Oper} {us:List I} {r:I} {H':List ar} {t:Nat} (hm:mode≠0) (Dh:mode≠4) (aq:o.op=.move (.tmp t)∨o.op=.assign (.tmp t))
  (h:a3 P C lo o mode us H=some (r,H')) {aa:Nat→Option aH} {J:List Nat} {S:Nat→Nat→Prop} {w:World} {l:aH} {v:Value} (ai:Rel J S w r v) (hw:aU aa J S w l r v):Rel J S w r.view v:=by
 by_cases hu:r.cT=true
 ·exact ai.view hu
 ·obtain ⟨cells,len,z,rfl⟩:∃ cells len z,r=.av cells len (.uniq z):=by
   unfold I.cT at hu;split at hu
   ·exact ⟨_,_,_,rfl⟩
   ·simp at hu
  have aQ:len=0:=by
   (have aX:eU P lo mode o.type (.tmp t) H us=some (.av cells len (.uniq z),H'):=by rcases aq with aq | aq <;> simpa only [a3,aq] using h);unfold eU at aX;split at aX
   ·split at aX
    ·exact absurd rfl hm
    ·split at aX
     ·split at aX
      ·rename_i bj;cases aX;exact bj
      ·cases aX
     ·cases aX
     ·cases aX
     ·simp at aX
    ·exact absurd rfl Dh
    ·split at aX
     ·split at aX
      ·simp only [si,sb,Prod.mk.injEq] at aX;obtain ⟨row,cF,n,aI,ab,ae⟩:=aX;have:=congrArg (fun x=>match x with | I.av _ _ c=>c | _=>.shared) ab;exact absurd this (yY z)
      ·simp at aX
     ·split at aX
      ·split at aX
       ·split at aX
        ·cases aX
        ·cases aX
       ·cases aX
      ·cases aX
     ·simp only [Option.some.injEq,Prod.mk.injEq] at aX;have:=aX.1 ▸ I.di _;cases this
   ·simp at aX
  subst aQ;have ak:cells=[]:=by
   cases ai with
   | b2 c a=>rfl
   | av _ _ _ b o cap f ak hle b8 k et=>exact absurd rfl (b8 z)
   | cM _ _ z b o cap =>
     rcases hw with ⟨_,_,h⟩ | ⟨_,_,_,_,_,h,_⟩
     ·exact h
     ·exact sP.1 (by simpa using h)
  subst ak;cases ai with
  | b2 c a=>exact .b2 _ _
  | av _ _ _ b o cap f ak hle b8 k et=>exact absurd rfl (b8 z)
  | cM _ _ z b o cap=>exact .av [] 0 .shared b o cap (fun _=>undef) (by simp) (Nat.zero_le _) (by simp) (by simp) (by simp)
theorem xy {lo id:Nat} {H H':List ar} {f:List I→Option (List I)} (h:fP lo H id f=some H'):a' lo H H':=by
 unfold fP at h;split at h
 ·rename_i bC;split at h
  ·simp only [sb] at h;obtain ⟨l',_,rfl⟩:=h;exact a'.set _ _ bC
  ·simp at h
 ·simp at h
theorem Ea {lo:Nat} {t:TypeId} {us:List I} {r:I} {H':List ar} (h:jb P lo t H us=some (r,H')):a' lo H H':=by
 unfold jb at h;split at h
 ·split at h
  ·split at h
   ·split at h
    ·rename_i bC;split at h
     ·split at h
      ·cases h;exact a'.set _ _ bC
      ·cases h;exact a'.set _ _ bC
      ·cases h
     ·cases h
    ·cases h
   ·cases h
  ·cases h
 ·cases h
theorem D_ {lo:Nat} {ts:Array TypeId} {us:List I} {r:I} {H':List ar} (h:hO P lo ts H us=some (r,H')):a' lo H H':=by
 unfold hO at h;split at h
 ·split at h
  ·split at h
   ·split at h
    ·rename_i bC;split at h
     ·split at h
      ·cases h;exact a'.set _ _ bC
      ·cases h;exact a'.refl _ _
      ·cases h
     ·cases h
    ·cases h
   ·cases h
  ·cases h
 ·cases h
theorem Fx {t:TypeId} {ok:Bool} {us:List I} {r:I} {H':List ar} (h:iq P t ok H us=some (r,H')):H'=H:=by
 unfold iq at h;split at h
 ·split at h
  ·split at h
   ·split at h
    ·simp only [sb,Prod.mk.injEq] at h;obtain ⟨_,_,_,rfl⟩:=h;rfl
    ·cases h
   ·cases h
  ·cases h
 ·cases h
theorem Fw {us:List I} {r:I} {H':List ar} (h:k9 H us=some (r,H')):H'=H:=by
 unfold k9 at h;split at h
 ·split at h
  ·split at h
   ·split at h
    ·split at h
     ·cases h;rfl
     ·cases h
    ·cases h
   ·cases h
  ·cases h
 ·cases h
theorem xz {lo id:Nat} {H H':List ar} {f:List I→Option (List I)} (h:gQ lo H id f=some H'):a' lo H H':=by
 unfold gQ at h;split at h
 ·rename_i bC;split at h
  ·simp only [sb] at h;obtain ⟨l',_,rfl⟩:=h;exact a'.set _ _ bC
  ·simp only [sb] at h;obtain ⟨l',_,rfl⟩:=h;exact a'.set _ _ bC
  ·simp at h
 ·simp at h
theorem D9 {lo:Nat} {ts:Array TypeId} {us:List I} {r:I} {H':List ar} (h:im P lo ts H us=some (r,H')):a' lo H H':=by
 unfold im at h;split at h
 ·split at h
  ·split at h
   ·split at h
    ·split at h
     ·cases h
     ·cases h;exact a'.append _ _ _
    ·cases h
   ·split at h
    ·rename_i bC;split at h
     ·split at h
      ·split at h
       ·cases h;exact (a'.set _ _ bC).trans (a'.append _ _ _)
       ·cases h
      ·cases h
     ·cases h
    ·cases h
   ·cases h
  ·cases h
 ·cases h
theorem D8 {lo:Nat} {ts:Array TypeId} {us:List I} {r:I} {H':List ar} (h:i' P lo ts H us=some (r,H')):a' lo H H':=by
 refine a'.trans ?_ (D9 h);unfold jl;split
 ·split
  ·split
   ·rename_i ak;simp only [sn] at ak;exact a'.set _ _ (Nat.le_of_ble_eq_true ak.2)
   ·exact a'.refl _ _
  ·exact a'.refl _ _
 ·exact a'.refl _ _
theorem Eb {lo:Nat} {t:TypeId} {us:List I} {r:I} {H':List ar} (h:la P t H us=some (r,H')):a' lo H H':=by
 unfold la at h;split at h
 ·split at h
  ·cases h;exact a'.append _ _ _
  ·cases h
 ·cases h
theorem D' {lo:Nat} {t:TypeId} {x:Option Operand} {r:I} {H':List ar} (h:k_ P t x H=some (r,H')):a' lo H H':=by
 unfold k_ at h;split at h
 ·cases h;exact a'.append _ _ _
 ·cases h
theorem zQ {lo:Nat} {b:Builtin} {ts:Array TypeId} {us:List I} {r:I} {H':List ar} (h:ef P lo b ts H us=some (r,H')):a' lo H H':=by
 have same:∀ {x:Option I},x.map (·,H)=some (r,H')→a' lo H H':=fun h=>by
  simp only [sb,Prod.mk.injEq] at h;obtain ⟨_,_,_,rfl⟩:=h;exact a'.refl _ _
 unfold ef at h;split at h
 ·unfold hN at h;split at h
  ·split at h
   ·exact same h
   ·simp at h
  ·simp at h
 ·unfold hs at h;split at h
  ·split at h
   ·split at h <;> simp at h;obtain ⟨_,rfl⟩:=h;exact a'.refl _ _
   ·split at h <;> simp at h;obtain ⟨_,rfl⟩:=h;exact a'.refl _ _
   ·split at h <;> simp at h;obtain ⟨_,rfl⟩:=h;exact a'.refl _ _
   ·split at h <;> simp at h;obtain ⟨_,rfl⟩:=h;exact a'.refl _ _
  ·simp at h
 ·unfold j6 at h;split at h
  ·split at h <;> simp at h;obtain ⟨_,rfl⟩:=h;exact a'.refl _ _
  ·split at h <;> simp at h;obtain ⟨_,rfl⟩:=h;exact a'.refl _ _
  ·simp at h
 ·unfold j7 at h;split at h
  ·split at h
   ·split at h
    ·split at h
     ·simp only [sb,Prod.mk.injEq] at h;obtain ⟨H1,h,_,rfl⟩:=h;exact xy h
     ·simp at h
    ·simp at h
   ·simp at h
  ·simp at h
 ·unfold k8 at h;split at h
  ·split at h
   ·split at h
    ·split at h
     ·simp only [sb,Prod.mk.injEq] at h;obtain ⟨H1,h,_,rfl⟩:=h;exact xz h
     ·simp at h
    ·simp at h
   ·simp at h
  ·split at h <;> simp at h;obtain ⟨_,rfl⟩:=h;exact a'.refl _ _
  ·simp at h
 ·exact D_ h
 ·exact same h
 ·exact same h
 ·simp at h
theorem EF {C:b6} (bm:c3 P C) {lo mode:Nat} {o:Oper} {us:List I} {r:I} {H':List ar} (h:a3 P C lo o mode us H=some (r,H')):a' lo H H':=by
 have same:∀ {x:Option I},x.map (·,H)=some (r,H')→a' lo H H':=fun h=>by
  simp only [sb,Prod.mk.injEq] at h;obtain ⟨_,_,_,rfl⟩:=h;exact a'.refl _ _
 have mr:∀ {t:TypeId} {x:Operand},eU P lo mode t x H us=some (r,H')→a' lo H H':=fun h=>by
  unfold eU at h;split at h
  ·split at h
   ·split at h
    ·simp only [sb,Prod.mk.injEq] at h;obtain ⟨_,_,_,rfl⟩:=h;exact a'.refl _ _
    ·cases h;exact a'.refl _ _
   ·split at h
    ·split at h
     ·cases h;exact a'.refl _ _
     ·cases h;exact a'.append _ _ _
    ·cases h;exact a'.refl _ _
    ·cases h;exact a'.refl _ _
    ·simp at h
   ·split at h
    ·split at h
     ·rename_i bC;split at h
      ·split at h
       ·cases h;exact a'.set _ _ bC
       ·cases h
      ·cases h
     ·cases h
    ·cases h;exact a'.refl _ _
   ·split at h
    ·split at h
     ·rename_i bC;simp only [si,sb,Prod.mk.injEq] at h;obtain ⟨_,_,_,_,_,rfl⟩:=h;exact a'.set _ _ bC
     ·simp at h
    ·split at h
     ·rename_i bC;split at h
      ·split at h
       ·cases h;exact a'.set _ _ bC
       ·cases h
      ·cases h
     ·cases h
    ·cases h;exact a'.refl _ _
  ·simp at h
 unfold a3 at h;split at h
 ·exact mr h
 ·exact mr h
 ·unfold dC at h;split at h
  ·split at h
   ·exact same h
   ·split at h
    ·exact same h
    ·simp at h
   ·split at h
    ·split at h
     ·split at h
      ·cases h;exact a'.refl _ _
      ·cases h;exact a'.refl _ _
      ·simp at h
     ·simp at h
    ·simp at h
   ·split at h
    ·split at h
     ·rename_i bC;split at h
      ·split at h
       ·split at h
        ·rename_i ak;simp only [si,sb,Prod.mk.injEq] at h;obtain ⟨row,_,_,_,_,rfl⟩:=h;exact (a'.set _ _ ak.1).trans (a'.set _ _ bC)
        ·simp at h
       ·simp at h
      ·simp at h
     ·simp at h
    ·simp at h
   ·split at h
    ·split at h
     ·split at h
      ·exact same h
      ·simp at h
     ·simp at h
    ·simp at h
   ·split at h
    ·split at h
     ·rename_i bC;split at h
      ·split at h
       ·cases h;exact a'.set _ _ bC
       ·split at h
        ·split at h
         ·simp at h
         ·cases h;exact (a'.set _ _ bC).trans (a'.append _ _ _)
        ·cases h;exact a'.set _ _ bC
       ·cases h;exact a'.refl _ _
       ·simp at h
      ·split at h
       ·cases h;exact a'.set _ _ bC
       ·cases h;exact a'.refl _ _
       ·simp at h
      ·simp at h
     ·simp at h
    ·simp at h
  ·simp at h
 ·unfold gj at h;split at h
  ·split at h
   ·simp only [sb,Prod.mk.injEq] at h;obtain ⟨H1,h,_,rfl⟩:=h;unfold g5 at h;split at h
    ·split at h
     ·exact xz h
     ·simp at h
    ·simp at h
   ·simp only [sb,Prod.mk.injEq] at h;obtain ⟨H1,h,_,rfl⟩:=h;unfold lJ at h;split at h
    ·split at h
     ·exact xy h
     ·simp at h
    ·simp at h
   ·split at h
    ·split at h
     ·split at h
      ·simp at h
      ·simp only [sb,Prod.mk.injEq] at h;obtain ⟨H1,h,_,rfl⟩:=h;unfold g5 at h;split at h
       ·split at h
        ·exact xz h
        ·simp at h
       ·simp at h
     ·simp at h
    ·simp at h
   ·simp only [sb,Prod.mk.injEq] at h;obtain ⟨H1,h,_,rfl⟩:=h;unfold lK at h;split at h
    ·split at h
     ·exact xy h
     ·simp at h
    ·simp at h
  ·simp at h
 ·unfold gT at h;split at h
  ·split at h
   ·simp only [sb,Prod.mk.injEq] at h;obtain ⟨_,_,_,rfl⟩:=h;exact a'.append _ _ _
   ·split at h
    ·split at h
     ·cases h;exact a'.refl _ _
     ·cases h
    ·cases h
  ·simp at h
 ·unfold k7 at h;split at h
  ·simp only [sb,Prod.mk.injEq] at h;obtain ⟨_,_,_,rfl⟩:=h;exact a'.append _ _ _
  ·split at h
   ·simp only [sb,Prod.mk.injEq] at h;obtain ⟨_,_,_,rfl⟩:=h;exact a'.append _ _ _
   ·cases h
 ·split at h
  ·exact same h
  ·simp only [sb,Prod.mk.injEq] at h;obtain ⟨_,_,_,rfl⟩:=h;exact a'.refl _ _
 ·split at h
  ·exact same h
  ·simp only [sb,Prod.mk.injEq] at h;obtain ⟨_,_,_,rfl⟩:=h;exact a'.refl _ _
 ·unfold j8 at h;split at h
  ·split at h
   ·split at h
    ·simp only [sb,Prod.mk.injEq] at h;obtain ⟨_,_,_,rfl⟩:=h;exact a'.append _ _ _
    ·split at h
     ·simp only [sb,Prod.mk.injEq] at h;obtain ⟨_,_,_,rfl⟩:=h;exact a'.refl _ _
     ·simp at h
   ·simp at h
  ·simp at h
 ·exact D' h
 ·exact Ea h
 ·rw [Fx h];exact a'.refl _ _
 ·exact Eb h
 ·rw [Fw h];exact a'.refl _ _
 ·split at h
  ·split at h
   ·split at h
    ·exact zQ h
    ·unfold oe at h;split at h
     ·split at h
      ·simp at h
      ·cases h;exact a'.append _ _ _
     ·simp at h
    ·exact D8 h
   ·exact zQ h
  ·unfold hr at h;split at h
   ·unfold kt at h;split at h
    ·exact (nt bm h).1
    ·exact (nt bm h).1
    ·simp at h
   ·simp at h
  ·simp at h
 ·exact same h
end
end Go.Proofs.Ytkoioidpbbbaiaa.Ab


namespace Go.Proofs.Ytkoioidpbbbaiaa.Ab
open Go
section
variable {P:Program} {B N:Nat} {J:List Nat} {w:World} {H:List ar} {aa:Nat→Option aH} {S:Nat→Nat→Prop}
theorem AY {k : Nat} {f : Func} (aP : P.funcs[k]? = some f) (af : f.body.isSome = true) (aI : f.name ≠ "runtime.NumGoroutine") (args : Array Value) (w : World) :
  (callFunc k args).run P w=.ok (.enter k args) w:=by
 have bu:f.body≠none:=fun h=>by simp [h] at af
 simp [callFunc,aP,bu,aI]
theorem Bx {first us cap:List I} {vs ws xs:List Value} (aP:first.length=vs.length) (bT:∀ u∈first,u.plain=true) (aS:∀ (j:Nat) (u:I) (v:Value),first[j]?=some u→vs[j]?=some v→Rel J S w u v)
  (ak:cap.length=ws.length) (b0:∀ u∈cap,u.plain=true) (bh:∀ (j:Nat) (u:I) (v:Value),cap[j]?=some u→ws[j]?=some v→Rel J S w u v)
  (ad:a5 (fun i=>.arg (i+1)) aa J S w us xs) :
  a5 (fun i=>.arg i) (gk (fun i=>match i with | 0=>none | j+1=>some (first.length+j)) aa) J S w (first++us++cap) (vs++xs++ws):=by
 have ao:=ad.len;have key:∀ (i:Nat) (u:I) (v:Value),(first++us++cap)[i]?=some u→(vs++xs++ws)[i]?=some v →
   Rel J S w u v∧aU (gk (fun i=>match i with | 0=>none | j+1=>some (first.length+j)) aa) J S w (.arg i) u v:=fun i u v hu aj=>by
  rcases sQ i first.length with ab | ab
  ·rw [sx,sj ab] at hu;rw [sx,sj (by omega)] at aj;exact ⟨aS i u v hu aj,aU.b3 (bT u (sy hu))⟩
  ·rw [sx,sv ab] at hu;rw [sx,sv (by omega),←aP] at aj;rcases sQ (i-first.length) us.length with ae | ae
   ·rw [sj ae] at hu;rw [sj (by omega)] at aj;refine ⟨ad.rel _ u v hu aj,EH ?_ (ad.own _ u v hu aj)⟩;show some (first.length+(i-first.length))=some i;congr 1;omega
   ·rw [sv ae] at hu;rw [sv (by omega),←ao] at aj;exact ⟨bh _ u v hu aj,aU.b3 (b0 u (sy hu))⟩
 exact ⟨by simp [aP,ak,ao],fun i u v hu aj=>(key i u v hu aj).1,fun i u v hu aj=>(key i u v hu aj).2⟩
theorem yh {F:Fence} (bF:eh F) {C:b6} (bm:c3 P C) {lo:Nat} {o:Oper} {an:bY} {s aD:a6} (h:Ab.execOp P C lo o an s=some aD) {a:Act} (aL:cx B N aa J S w s a)
  {K:Act→World→Prop} {Q:Exit→Act→World→Prop} (fG:∀ aM w',Step B N aa J S w aD aM w'→K aM w'):o.wpIn F 0 P a w K Q:=by
 obtain ⟨r,H',aC,rfl⟩:=o_ h;obtain ⟨b4,a4,nA,cd,ad⟩:=EW (H:=s.H) aL (opsOf o) an.cz (dB o an.mode);generalize zt:fj (dB o an.mode) (rd s.T an.cz (opsOf o)).1=us at aC ad;have eT:∀ v,a.eval (.const v)=v:=fun _=>rfl;have jS:∀ c,o.op≠.defer c:=fun c ak=>by simp [a3,ak,cy] at aC
 have nG:∀ v w',(∀ t,o.op=.move (.tmp t)∨o.op=.assign (.tmp t)→v=a.eval (.tmp t))→aZ B (dn b4) J a4 w H' r v w'→K (a.put o.dst v) w':=fun v w' dV aB=>by
  refine fG _ _ (Step.trans (Ext.refl J) nA ?_);by_cases hm:an.mode=0∨an.mode=4
  ·obtain ⟨ay,bU,S',aJ,aN,gd,_⟩:=oh o.dst cd aB .a0 (fun _ _ _ _ _=>.a0 _);(have hc:inPlace o an.mode (rd s.T an.cz (opsOf o)).2 r=(rd s.T an.cz (opsOf o)).2:=by rcases hm with hm | hm <;> simp [inPlace,hm]);rw [hc];exact ⟨ay,bU,S',aJ,aN,gd⟩
  ·by_cases ax:∃ t,o.op=.move (.tmp t)∨o.op=.assign (.tmp t)
   ·obtain ⟨t,ax⟩:=ax;have hc:inPlace o an.mode (rd s.T an.cz (opsOf o)).2 r=gZ (rd s.T an.cz (opsOf o)).2 t r.view:=by
     unfold inPlace;split
     ·rename_i pP;exact absurd (.inl pP) hm
     ·rename_i pP;exact absurd (.inr pP) hm
     ·rcases ax with ax | ax <;> simp [ax]
    have zu:∀ x,a.tmps.toList[t]?=some x→x=a.eval (.tmp t):=fun x aj=>by
     (have nV:a.tmps[t]?=some x:=by simpa using aj);simp [Act.eval,nV,sw]
    have zm:v=a.eval (.tmp t):=dV t ax;obtain ⟨ay,bU,S',aJ,aN,gd,nS⟩:=oh o.dst cd aB r.view (fun bt cg bK q1 aW=>Eu (fun e=>hm (.inl e)) (fun e=>hm (.inr e)) ax aC q1 aW);refine ⟨ay,bU,S',aJ,aN,?_,gd.H,gd.M⟩;rw [hc];have bZ:=gd.T;simp only at bZ;cases a1:o.dst with
    | none =>
      simp only [a1,put,Act.put,g0] at bZ ⊢;exact bZ.swap t (I.di _) fun x aj=>by rw [zu x aj,←zm];exact nS
    | some d =>
      simp only [a1,put,Act.put,g0] at bZ ⊢;by_cases xe:t=d
      ·subst xe;rw [sY];exact bZ
      ·rw [List.set_comm _ _ xe];refine bZ.swap t (I.di _) fun x aj=>?_;rw [vB,sf (Ne.symm xe)] at aj;rw [zu x aj,←zm];exact nS
   ·have hc:inPlace o an.mode (rd s.T an.cz (opsOf o)).2 r=(rd s.T an.cz (opsOf o)).2:=by
     unfold inPlace;split
     ·rfl
     ·rfl
     ·split
      ·rename_i h;exact absurd ⟨_,.inl h⟩ ax
      ·rename_i h;exact absurd ⟨_,.inr h⟩ ax
      ·rfl
    rw [hc];obtain ⟨ay,bU,S',aJ,aN,gd,_⟩:=oh o.dst cd aB .a0 (fun _ _ _ _ _=>.a0 _);exact ⟨ay,bU,S',aJ,aN,gd⟩
 refine ⟨fun f _=>bF.fn f,?_⟩;rw [Oper.semAt_eq _ _ _ jS];by_cases dT:∃ c f,o.op=.call c∧c.callee=.value f
 ·obtain ⟨c,f,kL,h6⟩:=dT;have he:opsOf o=f::c.args.toList:=by
   obtain ⟨Cb,args,B7⟩:=c;simp only at h6;subst h6;simp only [opsOf,kL]
  rw [he] at ad;simp only [a3,kL,h6] at aC;have gI:=mx cd.H;have gg:=By ad
  match us,aC,gg with
  | [],aC,_=>simp [hr] at aC
  | Gn::Hf,aC,gg =>
    simp only [hr] at aC;have oz:=gg.rel 0 Gn (a.eval f) rfl rfl;have zv:=gg.tail;unfold kt at aC;split at aC
    ·(rename_i k first cap);generalize kF:a.eval f=Gs at oz;cases oz with
     | func _ _ _ vs ws aJ aN bT b0 aS bh =>
       obtain ⟨_,⟨fn,C0,kD,Dm⟩,px⟩:=nt bm aC;have nU:=Bx (aa:=dn b4) (J:=J) (S:=a4) (w:=w) (first:=first) (cap:=cap) (vs:=vs.toList) (ws:=ws.toList) (by simp [aJ]) bT (fun j u v hu aj=>aS j u v hu (by simpa using aj)) (by simp [aN]) b0 (fun j u v hu aj=>bh j u v hu (by simpa using aj)) zv;have ak:=px B _ J a4 w _ (zo gI _) (Av _ _) nU;have kQ:(resolve a.eval c o.type).run P w=.ok { target:=.fn (.func k) ws,args:=vs++c.args.map a.eval } w:=by
        simp [resolve,h6,kF,Deferred.ofValue]
       have dJ:(Go.execOp a.eval o).run P w=.ok (.enter k (vs++c.args.map a.eval++ws)) w:=by
        simp only [Go.execOp,kL,Sem.run_bind,kQ,Result.andThen_ok,invoke,AY C0 kD Dm]
       rw [dJ];have hI:(vs.toList++List.map a.eval c.args.toList++ws.toList).toArray=vs++c.args.map a.eval++ws:=by
        apply Array.ext';simp
       rw [hI] at ak;refine ⟨fun iQ=>(by rw [bF.depth] at iQ;cases iQ),bF.calls (CallsIn.mono ak fun e w' he=>?_)⟩;cases e with
       | returned v=>exact nG v w' (fun t ax=>by rcases ax with ax | ax <;> rw [kL] at ax <;> cases ax) (aZ.after (Ext.refl J) (Au _ _ _ _) he)
       | panicked c=>exact he.elim
       | outgrown=>exact he.elim
    ·rename_i l;generalize kF:a.eval f=Gs at oz;cases oz with
     | yield _ b af =>
       obtain ⟨_,px⟩:=nt bm aC;have nU:=Bx (aa:=dn b4) (J:=J) (S:=a4) (w:=w) (first:=[]) (cap:=[]) (vs:=[]) (ws:=[]) rfl (by simp) (by simp) rfl (by simp) (by simp) zv;simp only [tp,sN] at nU;obtain ⟨L,ab,ae,aF⟩:=px B _ J a4 w _ b (zo gI _) (Av _ _) nU af;have kQ:(resolve a.eval c o.type).run P w=.ok { target:=.fn (.yield b) #[],args:=c.args.map a.eval } w:=by
        simp [resolve,h6,kF,Deferred.ofValue]
       (have bQ:(c.args.map a.eval).size=L.params.size:=by rw [←ae];simp);have dJ:(Go.execOp a.eval o).run P w=.ok (.round b L.fn (je L (List.map a.eval c.args.toList)) L.assign L.body) w:=by
        simp only [Go.execOp,kL,Sem.run_bind,kQ,Result.andThen_ok,invoke]
        have:(List.map a.eval c.args.toList).toArray=c.args.map a.eval:=by apply Array.ext';simp
        simp [Instr.yield,run_getLoop ab,bQ,je,this]
       rw [dJ];refine ⟨fun iQ=>(by rw [bF.depth] at iQ;cases iQ),bF.rounds (RoundIn.mono aF fun e w' he=>?_)⟩;cases e with
       | returned v=>exact nG v w' (fun t ax=>by rcases ax with ax | ax <;> rw [kL] at ax <;> cases ax) (aZ.after (Ext.refl J) (Au _ _ _ _) he)
       | panicked c=>exact he.elim
       | outgrown=>exact he.elim
    ·simp at aC
 ·have iU:∀ c f,o.op=.call c→c.callee≠.value f:=fun c f ab ae=>dT ⟨c,f,ab,ae⟩;have aB:dB o an.mode=false→∀ u∈us,u.plain=true:=fun ao u hu=>by
   rw [ao] at zt;subst zt;obtain ⟨x,_,rfl⟩:=sD.1 hu;exact I.di x
  rcases F9 eT (mx cd.H) aC iU aB (By ad) with ⟨v,w',ab,ae⟩ | ⟨w',ab,ae⟩
  ·rw [ab];exact nG v w' (fun t ax=>by rcases ax with ax | ax <;> simp [Go.execOp,ax] at ab <;> exact ab.1.symm) ae
  ·rw [ab];exact nG undef w' (fun t ax=>by rcases ax with ax | ax <;> simp [Go.execOp,ax] at ab) ae
end
end Go.Proofs.Ytkoioidpbbbaiaa.Ab


namespace Go.Proofs.Ytkoioidpbbbaiaa.Ab
open Go
section
variable {P:Program} {B N:Nat} {J:List Nat} {w:World} {H:List ar} {aa:Nat→Option aH} {S:Nat→Nat→Prop}
theorem cx.dc {s:a6} {a:Act} (aL:cx B N aa J S w s a) (t:Nat):Rel J S w (dc s.T t) (a.tmps.getD t undef):=by
 rw [gb,sA];cases h:s.T[t]? with
 | none=>exact .a0 _
 | some u =>
   have ao:=aL.T.len;have aR:t<s.T.length:=(sd.1 h).1;(have mq:t<a.tmps.size:=by rw [←s7,←ao];exact aR);(have aj:a.tmps.toList[t]?=some (a.tmps.getD t undef):=by simp [sw,mq]);exact aL.T.rel t u _ h aj
theorem cx.az {s:a6} {a:Act} (aL:cx B N aa J S w s a) (x:Operand):Rel J S w (az s.T x) (a.eval x):=by
 cases x with
 | tmp t=>exact aL.dc t
 | const v=>exact lL J S w v
 | global g=>exact .a0 _
 | func f=>exact .func f [] [] #[] #[] rfl rfl (by simp) (by simp) (by simp) (by simp)
theorem lz {ops:Array Oper} {o:Oper} {s:a6} {a:Act} (aL:cx B N aa J S w s a) {x:Bool} (h:ey ops o s.T=some x):Region.wanted o (yielded ops a.tmps)=x:=by
 unfold ey at h;unfold Region.wanted;split at h
 ·rename_i aO;rw [aO];simpa using h
 ·rename_i j want aO;rw [aO];split at h
  ·rename_i d a1;split at h
   ·rename_i b af;have ai:=aL.dc d;rw [af] at ai;have:=ai.h3;simp only [Option.some.injEq] at h;subst h;have aR:a.tmps[d]?=some (.bool b):=by
     rw [sw] at this;cases h:a.tmps[d]? with
     | none=>rw [h] at this;simp [undef] at this
     | some v=>rw [h] at this;simpa using this
    simp [yielded,a1,aR]
   ·rename_i af;have ai:=aL.dc d;rw [af] at ai;simp only [Option.some.injEq] at h;subst h;have aI:yielded ops a.tmps j=none:=by
     unfold yielded;rw [a1,sc];cases h:a.tmps[d]? with
     | none=>rfl
     | some v =>
       rw [sw,h] at ai;simp only [uw] at ai;cases ai;rfl
    simp [aI]
   ·simp at h
  ·simp at h
theorem cx.skip {T:List I} {a:Act} (aL:cx B N aa J S w ⟨T,H⟩ a) (d:Option Tmp):cx B N aa J S w ⟨put T d (.tuple []),H⟩ (a.put d undef):=by
 cases d with
 | none=>exact aL
 | some d =>
   refine ⟨?_,aL.H,aL.M⟩;have bZ:=aL.T;simp only [put,g0,Act.put] at bZ ⊢;have key:∀ (i:Nat) (u:I) (x:Value),(T.set d (.tuple []))[i]?=some u→(a.tmps.toList.set d undef)[i]?=some x→Rel J S w u x∧aU aa J S w (.slot i) u x:=fun i u x hu aj=>by
    by_cases aE:d=i
    ·subst aE;(have aR:d<T.length:=by have:=(sd.1 hu).1;simpa using this);rw [sm aR] at hu;cases hu;rw [sm (by have:=(sd.1 aj).1;simpa using this)] at aj;cases aj;exact ⟨.tuple _ _ rfl (by simp) (by simp),aU.b3 rfl⟩
    ·rw [sf aE] at hu aj;exact ⟨bZ.rel i u x hu aj,bZ.own i u x hu aj⟩
   refine ⟨by simpa using bZ.len,fun i u x hu aj=>?_,fun i u x hu aj=>?_⟩
   ·rw [vB] at aj;exact (key i u x hu aj).1
   ·rw [vB] at aj;exact (key i u x hu aj).2
theorem yr:∀ (k:List Bool) (T:List I) (i:Nat),(eW k T)[i]?=T[i]?∨(eW k T)[i]?=(T[i]?).map fun _=>.a0
 | [],T,i=>.inl (by simp [eW])
 | b::bs,[],i=>.inl (by simp [eW])
 | b::bs,v::vs,i=>by
   cases i with
   | zero=>cases b <;> simp [eW]
   | succ i=>simpa [eW] using yr bs vs i
theorem BJ:∀ (k:List Bool) (T:List I),(eW k T).length=T.length
 | [],T=>by simp [eW]
 | b::bs,[]=>by simp [eW]
 | b::bs,v::vs=>by simp [eW,BJ bs vs]
theorem cx.cB {s:a6} {a:Act} (aL:cx B N aa J S w s a) (mJ:List (Nat×List Bool)) (id:Nat):cx B N aa J S w (e2 mJ id s) a:=by
 unfold e2;split
 ·rename_i k _;refine ⟨⟨by rw [BJ];exact aL.T.len,fun i u x hu aj=>?_,fun i u x hu aj=>?_⟩,aL.H,aL.M⟩
  all_goals simp only at hu
  ·rcases yr k s.T i with h | h
   ·rw [h] at hu;exact aL.T.rel i u x hu aj
   ·rw [h] at hu;simp only [sb] at hu;obtain ⟨_,_,rfl⟩:=hu;exact .a0 _
  ·rcases yr k s.T i with h | h
   ·rw [h] at hu;exact aL.T.own i u x hu aj
   ·rw [h] at hu;simp only [sb] at hu;obtain ⟨_,_,rfl⟩:=hu;exact aU.b3 rfl
 ·exact aL
theorem Step.here {s:a6} {a:Act} (aL:cx B N aa J S w s a):Step B N aa J S w s a w:=⟨aa,J,S,Ext.refl J,bk.refl aa S w,aL⟩
theorem xx {F:Fence} (bF:eh F) {C:b6} (bm:c3 P C) {lo:Nat} {ops:Array Oper} {aD:a6} {Q:Exit→Act→World→Prop} :
  ∀ (rest:List Oper) (as:List bY) (s:a6) (a:Act) (w:World) (aa:Nat→Option aH) (J:List Nat) (S:Nat→Nat→Prop),eb P C lo ops rest as s=some aD→cx B N aa J S w s a →
    (∀ aM w',Step B N aa J S w aD aM w'→Q .normal aM w')→wpListIn F 0 P ops Q rest a w
 | [],as,s,a,w,aa,J,S,h,aL,bo=>by
   simp only [eb,Option.some.injEq] at h;subst h;exact bo a w (Step.here aL)
 | o::rest,as,s,a,w,aa,J,S,h,aL,bo=>by
   simp only [eb] at h;unfold wpListIn;split at h
   ·rename_i hw;rw [lz aL hw];simp only [if_true];simp only [si] at h;obtain ⟨s1,ab,ae⟩:=h;refine yh bF bm ab aL fun aM w' ah=>?_;obtain ⟨b4,cW,a4,aJ,aN,cd⟩:=ah;exact xx bF bm rest as.tail s1 aM w' b4 cW a4 ae cd fun g4 hy dK=>bo g4 hy (dK.trans aJ aN)
   ·rename_i hw;rw [lz aL hw];simp only [tS,if_false];exact ⟨fun f _=>bF.fn f,xx bF bm rest as.tail _ _ w aa J S h (aL.skip o.dst) bo⟩
   ·simp at h
end
end Go.Proofs.Ytkoioidpbbbaiaa.Ab


namespace Go.Proofs.Ytkoioidpbbbaiaa.Ab
open Go
theorem lV {xs ys:List Nat} (h:jE xs ys=true) (x:Nat) (aj:x∈xs):x ∉ ys:=by
 simp only [jE,sr] at h;have:=h x aj;simpa using this
theorem yd (u:I):u.settle.settle=u.settle:=by
 cases u <;> try rfl
 rename_i c n k;cases k <;> rfl
theorem yl (u:I):u.settle.view=u.view:=by
 cases u <;> try rfl
 rename_i c n k;cases k <;> rfl
theorem m9 (T:List I) (t j:Nat):(fU T t (dc T t))[j]?=if t=j then (T[j]?).map I.settle else T[j]?:=by
 have aO:dc T t=T.getD t .a0:=gb T t;by_cases hj:t=j
 ·subst hj;simp only [if_true];cases h:T[t]? with
  | none =>
    (have aw:dc T t=.a0:=by rw [aO,sA,h];rfl);rw [aw];simp [fU,h]
  | some u =>
    (have aw:dc T t=u:=by rw [aO,sA,h];rfl);have aR:=(sd.1 h).1;rw [aw];(cases u <;> try (simp [fU,h,I.settle];done));rename_i c n k;cases k <;> simp only [fU,h,I.settle,g0,sg] <;> rw [sm aR]
 ·simp only [hj,if_false];unfold fU;split
  ·rw [g0,sf hj]
  ·rfl
theorem lr (T:List I) (t j:Nat) (v:I):(gZ T t v)[j]?=if t=j then (T[j]?).map fun _=>v else T[j]?:=by
 rw [g0];by_cases h:t=j
 ·subst h;simp only [if_true];rcases sQ t T.length with ao | ao
  ·rw [sm ao,sk ao];rfl
  ·rw [uT (by simpa using ao),uT ao];rfl
 ·rw [sf h];simp [h]
theorem ka:∀ (xs:List Operand) (ts:List Bool) (T:List I) (j:Nat),
  ((rd T ts xs).2)[j]?=(T[j]?).map fun u=>if j∈c1 ts xs then .a0 else if j∈tmpsOf xs then u.settle else u
 | [],ts,T,j=>by simp [rd,c1,tmpsOf]
 | .tmp t::rest,ts,T,j=>by
   (have ax:tmpsOf (.tmp t::rest)=t::tmpsOf rest:=by simp [tmpsOf]);rw [ax];cases bD:ts.headD false with
   | true =>
     simp only [rd,bD,c1];rw [ka rest ts.tail,lr];by_cases hj:t=j
     ·subst hj;simp only [if_true,sB,true_or];cases T[t]? with
      | none=>rfl
      | some u=>simp only [sg,I.settle];split <;> simp
     ·have xf:¬ j=t:=fun e=>hj e.symm;simp [hj,xf]
   | false =>
     simp only [rd,bD,c1];rw [ka rest ts.tail,m9];by_cases hj:t=j
     ·subst hj;simp only [if_true,sB,true_or];cases T[t]? with
      | none=>rfl
      | some u=>simp only [sg,yd];split <;> (try split) <;> rfl
     ·have xf:¬ j=t:=fun e=>hj e.symm;simp [hj,xf]
 | .const v::rest,ts,T,j=>by simpa [rd,c1,tmpsOf] using ka rest ts.tail T j
 | .func f::rest,ts,T,j=>by simpa [rd,c1,tmpsOf] using ka rest ts.tail T j
 | .global g::rest,ts,T,j=>by simpa [rd,c1,tmpsOf] using ka rest ts.tail T j
theorem Cv {T bd:List I} {t:Nat} (h:(T[t]?).map I.settle=(bd[t]?).map I.settle):(dc T t).view=(dc bd t).view:=by
 rw [gb,gb,sA,sA];cases ab:T[t]? <;> cases ae:bd[t]? <;> rw [ab,ae] at h <;> simp at h <;> simp only [uw];rw [←yl,h,yl]
theorem j':∀ (xs:List Operand) (ts:List Bool) (T bd:List I),(∀ t∈tmpsOf xs,(T[t]?).map I.settle=(bd[t]?).map I.settle)→(∀ t∈c1 ts xs,T[t]?=bd[t]?) →
  (rd T ts xs).1=(rd bd ts xs).1
 | [],ts,T,bd,_,_=>by simp [rd]
 | .tmp t::rest,ts,T,bd,ab,ae=>by
   (have ax:tmpsOf (.tmp t::rest)=t::tmpsOf rest:=by simp [tmpsOf]);rw [ax] at ab;cases bD:ts.headD false with
   | true =>
     simp only [c1,bD] at ae;simp only [rd,bD];have e:T[t]?=bd[t]?:=ae t (by simp);rw [j' rest ts.tail (gZ T t .a0) (gZ bd t .a0) (fun u hu=>?_) (fun u hu=>?_)]
     ·congr 1;rw [gb,gb,sA,sA,e]
     ·rw [lr,lr];by_cases hk:t=u
      ·subst hk;simp [e]
      ·simp [hk,ab u (by simp [hu])]
     ·rw [lr,lr];by_cases hk:t=u
      ·subst hk;simp [e]
      ·simp [hk,ae u (by simp [hu])]
   | false =>
     simp only [c1,bD] at ae;simp only [rd,bD];have e:=ab t (by simp);rw [j' rest ts.tail (fU T t (dc T t)) (fU bd t (dc bd t)) (fun u hu=>?_) (fun u hu=>?_),Cv e]
     ·rw [m9,m9];by_cases hk:t=u
      ·subst hk;simp only [if_true,e]
      ·simp only [hk,if_false];exact ab u (by simp [hu])
     ·rw [m9,m9];by_cases hk:t=u
      ·subst hk;simp only [if_true,e]
      ·simp only [hk,if_false];exact ae u hu
 | .const v::rest,ts,T,bd,ab,ae=>by
   simp only [rd];rw [j' rest ts.tail T bd (by simpa [tmpsOf] using ab) (by simpa [c1] using ae)];rfl
 | .func f::rest,ts,T,bd,ab,ae=>by
   simp only [rd];rw [j' rest ts.tail T bd (by simpa [tmpsOf] using ab) (by simpa [c1] using ae)];rfl
 | .global g::rest,ts,T,bd,ab,ae=>by
   simp only [rd];rw [j' rest ts.tail T bd (by simpa [tmpsOf] using ab) (by simpa [c1] using ae)];rfl
section
variable {P:Program}
theorem nu {C:b6} {lo mode:Nat} {o:Oper} {us:List I} {r:I} {H H':List ar} (ak:dm o mode=0) (h:a3 P C lo o mode us H=some (r,H')) :
  H'=H∧∀ H2,a3 P C lo o mode us H2=some (r,H2):=by
 have base:∀ {x:Option I},x.map (fun y=>(y,H))=some (r,H')→H'=H∧∀ H2:List ar,x.map (fun y=>(y,H2))=some (r,H2):=fun {x} h=>by
  simp only [sb,Prod.mk.injEq] at h;obtain ⟨_,rfl,rfl,rfl⟩:=h;exact ⟨rfl,fun _=>rfl⟩
 have mr:∀ {t:TypeId} {x:Operand},mode=0→eU P lo mode t x H us=some (r,H')→H'=H∧∀ H2,eU P lo mode t x H2 us=some (r,H2):=fun hm h=>by
  subst hm;unfold eU at h;simp only [eU];split at h
  ·simp only at h ⊢;split at h
   ·simp only [sb,Prod.mk.injEq] at h;obtain ⟨z,bj,rfl,rfl⟩:=h;exact ⟨rfl,fun _=>by simp [bj]⟩
   ·cases h;exact ⟨rfl,fun _=>rfl⟩
  ·simp at h
 cases aC:o.op <;> simp only [dm,aC] at ak <;> simp only [a3,aC] at h ⊢
 case move x=>exact mr (by by_cases h:mode=0 <;> simp_all) h
 case assign x=>exact mr (by by_cases h:mode=0 <;> simp_all) h
 case load t a =>
  have hm:mode=3:=by by_cases h:mode=0 <;> by_cases ae:mode=2 <;> by_cases aF:mode=3 <;> by_cases bO:mode=5 <;> by_cases bP:mode=6 <;> simp_all
  subst hm;unfold dC at h;simp only [dC];split at h
  ·simp only at h ⊢;split at h
   ·exact base h
   ·cases h
  ·cases h
 case makeSlice t a b =>
  have hm:mode≠0:=by intro h;simp [h] at ak
  unfold j8 at h;simp only [j8];split at h
  ·split at h
   ·rename_i iU;split at h
    ·exact absurd rfl hm
    ·split at h
     ·rename_i ae;simp only [sb,Prod.mk.injEq] at h;obtain ⟨x,aj,rfl,rfl⟩:=h;exact ⟨rfl,fun _=>by obtain ⟨e,aQ⟩:=ae;subst e;simp [aj,aQ]⟩
     ·simp at h
   ·simp at h
  ·simp at h
 case box e x =>
  have hm:mode≠0:=by intro h;simp [h] at ak
  unfold gT at h;simp only [gT];split at h
  ·split at h
   ·exact absurd rfl hm
   ·split at h
    ·rename_i ad;split at h
     ·rename_i aB;cases h;exact ⟨rfl,fun _=>by simp [ad,aB]⟩
     ·cases h
    ·cases h
  ·cases h
 case build t parts =>
  split at h
  ·exact base h
  ·simp only [sb,Prod.mk.injEq] at h ⊢;obtain ⟨x,aj,rfl,rfl⟩:=h;exact ⟨rfl,fun _=>⟨x,aj,rfl,trivial⟩⟩
 case buildSlice t len parts =>
  split at h
  ·exact base h
  ·simp only [sb,Prod.mk.injEq] at h ⊢;obtain ⟨x,aj,rfl,rfl⟩:=h;exact ⟨rfl,fun _=>⟨x,aj,rfl,trivial⟩⟩
 case call c =>
  split at ak
  ·split at ak
   ·by_cases hm:mode=0 <;> simp [hm] at ak
   all_goals simp at ak
  ·rename_i f h6;simp only [h6] at h ⊢;have hm:mode=3:=by
    by_cases aQ:mode=0
    ·simp [aQ] at ak
    ·by_cases aF:mode=3
     ·exact aF
     ·by_cases ba:mode=4 <;> by_cases bP:mode=6 <;> by_cases ck:mode=9 <;> simp [aQ,aF,ba,bP,ck] at ak
   subst hm;unfold hr at h;simp only [hr];split at h
   ·unfold kt at h;simp only [kt];have key:∀ {bX:e'} {args:List I},eN C lo 3 bX args H=some (r,H')→H'=H∧∀ H2,eN C lo 3 bX args H2=some (r,H2):=fun {bX args} h=>by
     simp only [eN] at h ⊢;split at h
     ·simp only [si] at h;obtain ⟨x,aj,h⟩:=h;simp only [sb,Prod.mk.injEq] at h;obtain ⟨v,ad,rfl,rfl⟩:=h;rename_i aB;exact ⟨rfl,fun H2=>by simp [aj,ad]⟩
     ·simp at h
    split at h
    ·exact key h
    ·exact key h
    ·simp at h
   ·simp at h
  ·simp at ak
 case store=>simp at ak
 case alloc=>simp at ak
 case makeMap=>simp at ak
 case mapUpdate=>simp at ak
 case lookup=>simp at ak
 case range=>simp at ak
 case entry=>simp at ak
 all_goals exact base h
def dO (H H2:List ar):Prop:=∀ (id:Nat) (o:ar),H[id]?=some o→H2[id]?=some o∨(∃ l l',o=.cells l∧H2[id]?=some (.cells l')∧l'.map I.view=l.map I.view)∨∃ l l' g z,o=.grow l g z∧H2[id]?=some (.grow l' g z)∧l'.map I.view=l.map I.view
theorem dO.cells {H H2:List ar} (h:dO H H2) {id:Nat} {l:List I} (aE:H[id]?=some (.cells l)):∃ l',H2[id]?=some (.cells l')∧l'.map I.view=l.map I.view:=by
 rcases h id _ aE with h | ⟨cu,l',ab,ae,aF⟩ | ⟨_,_,_,_,ab,_⟩
 ·exact ⟨l,h,rfl⟩
 ·cases ab;exact ⟨l',ae,aF⟩
 ·cases ab
theorem dO.grow {H H2:List ar} (h:dO H H2) {id g z:Nat} {l:List I} (aE:H[id]?=some (.grow l g z)):∃ l',H2[id]?=some (.grow l' g z)∧l'.map I.view=l.map I.view:=by
 rcases h id _ aE with h | ⟨_,_,ab,_⟩ | ⟨cu,l',GM,cU,ab,ae,aF⟩
 ·exact ⟨l,h,rfl⟩
 ·cases ab
 ·cases ab;exact ⟨l',ae,aF⟩
theorem dO.append (H:List ar) (X:List ar):dO H (H++X):=fun id o h=>.inl (by
 rw [sj (sd.1 h).1];exact h)
theorem zJ {t:TypeId} {l l':List I} {off:Nat} (h:l'.map I.view=l.map I.view):e3 P t l' off=e3 P t l off:=by
 have ao:l'.length=l.length:=by have:=congrArg List.length h;simpa using this
 unfold e3;split
 ·have:∀ s,((l'.drop off).take s).map I.view=((l.drop off).take s).map I.view:=fun s=>by
   rw [tU,tL,h,←tL,←tU]
  simp only [ao,this]
 ·split
  ·have:=congrArg (fun x=>x[off]?) h;simpa using this
  ·rfl
theorem BU {H H2:List ar} (ah:dO H H2) {t:TypeId} {a r:I} (h:dv P H t a=some r):dv P H2 t a=some r:=by
 unfold dv at h ⊢;split at h
 ·split at h
  ·rename_i l aE;obtain ⟨l',ab,ae⟩:=ah.cells aE;rw [ab];simp only;rw [zJ ae];exact h
  ·rename_i l g z aE;obtain ⟨l',ab,ae⟩:=ah.grow aE;rw [ab];simp only;rw [zJ ae];exact h
  ·simp at h
 ·exact h
 ·simp at h
theorem AR {H H2:List ar} (ah:dO H H2) {x:I} {row:List I} (h:rowOf H x=some row):rowOf H2 x=some row:=by
 unfold rowOf at h ⊢;split at h
 ·exact h
 ·split at h
  ·rename_i l aE;obtain ⟨l',ab,ae⟩:=ah.cells aE;(have ao:l'.length=l.length:=by have:=congrArg List.length ae;simpa using this);rw [ab];simp only [ao]
   have:∀ s off,((l'.drop off).take s).map I.view=((l.drop off).take s).map I.view:=fun s off=>by
    rw [tU,tL,ae,←tL,←tU]
   simp only [this];exact h
  ·simp at h
 ·simp at h
theorem B4 {H H2:List ar} (ah:dO H H2) {x:I} {r:Nat×List I} (h:appended H x=some r):appended H2 x=some r:=by
 unfold appended at h ⊢;split at h
 ·rename_i m row hm ai;rw [hm,AR ah ai];exact h
 ·simp at h
theorem BO {H H2:List ar} (ah:dO H H2) {t dj:TypeId} {s x r:I} (h:fa P H t dj s x=some r):fa P H2 t dj s x=some r:=by
 unfold fa at h ⊢;split at h
 ·split at h
  ·rename_i sz bytes z ab ae aF;split at h
   ·rename_i af;split at h
    ·rename_i m new cq;simp only [B4 ah cq];split at h
     ·rename_i ak;rw [if_pos ak];split at h
      ·exact h
      ·rename_i id off len cap oM;split at h
       ·rename_i h5;rw [if_pos h5];simp only [si] at h;obtain ⟨fQ,aq,h⟩:=h;simp only [AR ah aq,sc];exact h
       ·simp at h
      ·simp at h
     ·simp at h
    ·simp at h
   ·exact h
  ·simp at h
 ·simp at h
theorem jC {C:b6} {lo mode:Nat} {o:Oper} {us:List I} {r:I} {H H':List ar} (ak:dm o mode=1) (h:a3 P C lo o mode us H=some (r,H')) :
  H'=H∧∀ H2,dO H H2→a3 P C lo o mode us H2=some (r,H2):=by
 cases aC:o.op <;> simp only [dm,aC] at ak <;> simp only [a3,aC] at h ⊢
 case load =>
  have hm:mode=0:=by by_cases h:mode=0 <;> by_cases ae:mode=2 <;> by_cases aF:mode=3 <;> by_cases bO:mode=5 <;> by_cases bP:mode=6 <;> simp_all
  subst hm;unfold dC at h;simp only [dC];split at h
  ·simp only [sb,Prod.mk.injEq] at h ⊢;obtain ⟨v,ad,rfl,rfl⟩:=h;exact ⟨rfl,fun H2 ah=>⟨v,BU ah ad,rfl,trivial⟩⟩
  ·simp at h
 case call c =>
  split at ak
  ·rename_i b pw;simp only [pw] at h ⊢;split at ak
   ·(have hm:mode=0:=by by_cases h:mode=0 <;> simp_all);subst hm;simp only [ef,hN] at h ⊢;split at h
    ·split at h
     ·simp only [sb,Prod.mk.injEq] at h ⊢;obtain ⟨v,ad,rfl,rfl⟩:=h;exact ⟨rfl,fun H2 ah=>⟨v,BO ah ad,rfl,trivial⟩⟩
     ·simp at h
    ·simp at h
   ·simp only [ef,hs] at h ⊢;split at h
    ·split at h
     ·split at h <;> simp at h;obtain ⟨rfl,rfl⟩:=h;exact ⟨rfl,fun _ _=>by simp_all⟩
     ·split at h <;> simp at h;obtain ⟨rfl,rfl⟩:=h;exact ⟨rfl,fun _ _=>by simp_all⟩
     ·split at h
      ·rename_i ax aE;simp at h;obtain ⟨rfl,rfl⟩:=h;refine ⟨rfl,fun H2 ah=>?_⟩;rcases ah _ _ aE with h | ⟨l,l',h,_⟩ | ⟨_,_,_,_,h,_⟩
       ·simp [ax,h]
       ·cases h
       ·cases h
      ·simp at h
     ·split at h
      ·simp at h;obtain ⟨rfl,rfl⟩:=h;exact ⟨rfl,fun _ _=>by simp_all⟩
      ·simp at h
    ·simp at h
   ·simp only [ef,j6] at h ⊢;split at h
    ·split at h <;> simp at h;obtain ⟨rfl,rfl⟩:=h;exact ⟨rfl,fun _ _=>by simp_all⟩
    ·split at h <;> simp at h;obtain ⟨rfl,rfl⟩:=h;exact ⟨rfl,fun _ _=>by simp_all⟩
    ·simp at h
   ·simp only [ef,sb,Prod.mk.injEq] at h ⊢;obtain ⟨v,ad,rfl,rfl⟩:=h;exact ⟨rfl,fun _ _=>⟨v,ad,rfl,trivial⟩⟩
   ·simp only [ef,sb,Prod.mk.injEq] at h ⊢;obtain ⟨v,ad,rfl,rfl⟩:=h;exact ⟨rfl,fun _ _=>⟨v,ad,rfl,trivial⟩⟩
   ·simp at ak
  ·exfalso;by_cases aQ:mode=0
   ·simp [aQ] at ak
   ·by_cases aF:mode=3
    ·simp [aF] at ak
    ·by_cases ba:mode=4 <;> by_cases bP:mode=6 <;> by_cases ck:mode=9 <;> simp [aQ,aF,ba,bP,ck] at ak
  ·simp at ak
 case move=>by_cases h:mode=0 <;> simp [h] at ak
 case assign=>by_cases h:mode=0 <;> simp [h] at ak
 case makeSlice=>by_cases h:mode=0 <;> simp [h] at ak
 case box=>by_cases h:mode=0 <;> simp [h] at ak
 all_goals simp at ak
theorem Cf {C:b6} {lo mode:Nat} {o:Oper} {us:List I} {r:I} {H H':List ar} (ak:dm o mode=3) (h:a3 P C lo o mode us H=some (r,H')):H'=H:=by
 have base:∀ {x:Option I},x.map (fun y=>(y,H))=some (r,H')→H'=H:=fun {x} h=>by
  simp only [sb,Prod.mk.injEq] at h;obtain ⟨_,rfl,rfl,rfl⟩:=h;rfl
 cases aC:o.op <;> simp only [dm,aC] at ak <;> simp only [a3,aC] at h
 case load=>by_cases h:mode=0 <;> by_cases ae:mode=2 <;> by_cases aF:mode=3 <;> by_cases bO:mode=5 <;> by_cases bP:mode=6 <;> simp [h,ae,aF,bO,bP] at ak
 case call c =>
  split at ak
  ·split at ak
   ·by_cases hm:mode=0 <;> simp [hm] at ak
   all_goals simp at ak
  ·rename_i f h6;simp only [h6] at h;have hm:mode=0∨mode=4∨mode=6∨mode=9:=by
    by_cases aQ:mode=0
    ·exact .inl aQ
    ·by_cases aF:mode=3
     ·simp [aF] at ak
     ·by_cases ba:mode=4
      ·exact .inr (.inl ba)
      ·by_cases bP:mode=6
       ·exact .inr (.inr (.inl bP))
       ·by_cases ck:mode=9
        ·exact .inr (.inr (.inr ck))
        ·simp [aQ,aF,ba,bP,ck] at ak
   have key:∀ {bX:e'} {args:List I},eN C lo mode bX args H=some (r,H')→H'=H:=fun {bX args} h=>by
    rcases hm with rfl | rfl | rfl | rfl
    rotate_right
    ·simp only [eN] at h;split at h
     ·simp only [si,sb,Prod.mk.injEq] at h;obtain ⟨x,_,v,_,_,h⟩:=h;exact h.symm
     ·cases h
    ·simp only [eN,si] at h;obtain ⟨x,_,h⟩:=h;exact base h
    ·simp only [eN,si,sb,Prod.mk.injEq] at h;obtain ⟨x,_,v,_,_,h⟩:=h;exact h.symm
    ·simp only [eN] at h;split at h
     ·simp only [si] at h;obtain ⟨x,_,v,_,h⟩:=h;split at h
      ·simp only [Option.some.injEq,Prod.mk.injEq] at h;exact h.2.symm
      ·cases h
     ·cases h
   unfold hr at h;split at h
   ·unfold kt at h;split at h
    ·exact key h
    ·exact key h
    ·simp at h
   ·simp at h
  ·simp at ak
 case move=>by_cases h:mode=0 <;> simp [h] at ak
 case assign=>by_cases h:mode=0 <;> simp [h] at ak
 case makeSlice=>by_cases h:mode=0 <;> simp [h] at ak
 case box=>by_cases h:mode=0 <;> simp [h] at ak
 all_goals simp at ak
theorem Gt {off:Nat} {l:List I} {u:I} (hu:l[off]?=some u):(l.set off u.view).map I.view=l.map I.view:=by
 rw [tM];have kT:u.view.view=u.view:=I.km (I.di u);rw [kT];apply uA;intro j;by_cases aw:off=j
 ·subst aw;rw [sm (by simpa using (sd.1 hu).1),sq,hu];rfl
 ·rw [sf aw]
theorem FB {H:List ar} {id off g z:Nat} {l:List I} {u:I} (aE:H[id]?=some (.grow l g z)) (hu:l[off]?=some u):dO H (H.set id (.grow (l.set off u.view) g z))∧dO (H.set id (.grow (l.set off u.view) g z)) H:=by
 have ad:=Gt hu;have aR:=(sd.1 aE).1;constructor
 ·intro i o h;by_cases hi:id=i
  ·subst hi;rw [aE] at h;cases h;exact .inr (.inr ⟨l,_,g,z,rfl,sm aR,ad⟩)
  ·exact .inl (by rw [sf hi];exact h)
 ·intro i o h;by_cases hi:id=i
  ·subst hi;rw [sm aR] at h;cases h;exact .inr (.inr ⟨_,l,g,z,rfl,aE,ad.symm⟩)
  ·rw [sf hi] at h;exact .inl h
theorem A_ {H:List ar} {id off:Nat} {l:List I} {u:I} (aE:H[id]?=some (.cells l)) (hu:l[off]?=some u):dO H (H.set id (.cells (l.set off u.view)))∧dO (H.set id (.cells (l.set off u.view))) H:=by
 have ad:(l.set off u.view).map I.view=l.map I.view:=by
  rw [tM];have kT:u.view.view=u.view:=I.km (I.di u);rw [kT];apply uA;intro j;by_cases aw:off=j
  ·subst aw;rw [sm (by simpa using (sd.1 hu).1),sq,hu];rfl
  ·rw [sf aw]
 have aR:=(sd.1 aE).1;constructor
 ·intro i o h;by_cases hi:id=i
  ·subst hi;rw [aE] at h;cases h;exact .inr (.inl ⟨l,_,rfl,sm aR,ad⟩)
  ·exact .inl (by rw [sf hi];exact h)
 ·intro i o h;by_cases hi:id=i
  ·subst hi;rw [sm aR] at h;cases h;exact .inr (.inl ⟨_,l,rfl,aE,ad.symm⟩)
  ·rw [sf hi] at h;exact .inl h
theorem yH {C:b6} {lo mode:Nat} {o:Oper} {us:List I} {r:I} {H H':List ar} (ak:dm o mode=5) (h:a3 P C lo o mode us H=some (r,H')):dO H H'∧dO H' H:=by
 have refl:dO H H:=fun id o h=>.inl h;cases aC:o.op <;> simp only [dm,aC] at ak <;> simp only [a3,aC] at h
 case load t a =>
  have hm:mode≠0:=by intro h;simp [h] at ak
  unfold dC at h;split at h
  ·split at h
   ·exact absurd rfl hm
   ·simp at ak
   ·simp at ak
   ·simp at ak
   ·split at h
    ·split at h
     ·split at h
      ·simp only [sb,Prod.mk.injEq] at h;obtain ⟨_,_,_,rfl⟩:=h;exact ⟨refl,refl⟩
      ·simp at h
     ·simp at h
    ·simp at h
   ·split at h
    ·split at h
     ·split at h
      ·rename_i l aE;split at h
       ·rename_i c n z cA;cases h;exact A_ aE cA
       ·rename_i c n z cA;rw [if_neg (by intro ae;simp [ae] at ak)] at h;cases h;exact A_ aE cA
       ·cases h;exact ⟨refl,refl⟩
       ·simp at h
      ·rename_i l g z aE;split at h
       ·rename_i c n cU cA;cases h;exact FB aE cA
       ·cases h;exact ⟨refl,refl⟩
       ·cases h
      ·simp at h
     ·simp at h
    ·simp at h
  ·simp at h
 case call c =>
  split at ak
  ·split at ak
   ·by_cases hm:mode=0 <;> simp [hm] at ak
   all_goals simp at ak
  ·exfalso;by_cases aQ:mode=0
   ·simp [aQ] at ak
   ·by_cases aF:mode=3
    ·simp [aF] at ak
    ·by_cases ba:mode=4 <;> by_cases bP:mode=6 <;> by_cases ck:mode=9 <;> simp [aQ,aF,ba,bP,ck] at ak
  ·simp at ak
 case move=>by_cases h:mode=0 <;> simp [h] at ak
 case assign=>by_cases h:mode=0 <;> simp [h] at ak
 case makeSlice=>by_cases h:mode=0 <;> simp [h] at ak
 case box=>by_cases h:mode=0 <;> simp [h] at ak
 all_goals simp at ak
theorem Cg {C:b6} {lo mode:Nat} {o:Oper} {us:List I} {r:I} {H H':List ar} (ak:dm o mode=6) (h:a3 P C lo o mode us H=some (r,H')):dO H H':=by
 cases aC:o.op <;> simp only [dm,aC] at ak <;> simp only [a3,aC] at h
 case load=>by_cases h:mode=0 <;> by_cases ae:mode=2 <;> by_cases aF:mode=3 <;> by_cases bO:mode=5 <;> by_cases bP:mode=6 <;> simp [h,ae,aF,bO,bP] at ak
 case box e x =>
  have hm:mode=0:=by by_cases h:mode=0 <;> simp_all
  subst hm;unfold gT at h;split at h
  ·simp only [sb,Prod.mk.injEq] at h;obtain ⟨_,_,_,rfl⟩:=h;exact dO.append _ _
  ·simp at h
 case alloc t =>
  unfold k7 at h;split at h
  ·simp only [sb,Prod.mk.injEq] at h;obtain ⟨_,_,_,rfl⟩:=h;exact dO.append _ _
  ·split at h
   ·simp only [sb,Prod.mk.injEq] at h;obtain ⟨_,_,_,rfl⟩:=h;exact dO.append _ _
   ·cases h
 case call c =>
  split at ak
  ·split at ak
   ·by_cases hm:mode=0 <;> simp [hm] at ak
   all_goals simp at ak
  ·exfalso;by_cases aQ:mode=0
   ·simp [aQ] at ak
   ·by_cases aF:mode=3
    ·simp [aF] at ak
    ·by_cases ba:mode=4 <;> by_cases bP:mode=6 <;> by_cases ck:mode=9 <;> simp [aQ,aF,ba,bP,ck] at ak
  ·simp at ak
 case move=>by_cases h:mode=0 <;> simp [h] at ak
 case assign=>by_cases h:mode=0 <;> simp [h] at ak
 case makeSlice=>by_cases h:mode=0 <;> simp [h] at ak
 all_goals simp at ak
noncomputable def ds (P:Program) (C:b6) (lo:Nat) (ops:Array Oper) (o:Oper) (an:bY) (s:a6):Option a6 :=
 match ey ops o s.T with
 | some true=>Ab.execOp P C lo o an s
 | some false=>some ⟨put s.T o.dst (.tuple []),s.H⟩
 | none=>none
theorem Bz {ops:Array Oper} {o:Oper} {T bd:List I} (h:∀ t∈pg ops o,(T[t]?).map I.settle=(bd[t]?).map I.settle):ey ops o T=ey ops o bd:=by
 unfold ey;split
 ·rfl
 ·rename_i j want aO;split
  ·rename_i d a1;have hm:=h d (by simp [pg,aO,a1]);have ah:(dc T d).settle=(dc bd d).settle:=by
    rw [gb,gb,sA,sA];cases ab:T[d]? <;> cases ae:bd[d]? <;> rw [ab,ae] at hm <;> simp at hm <;> simp [hm]
   have key:∀ x:I,(match x with | .bool b=>some (b == want) | .tuple []=>some false | _=>none)=(match x.settle with | .bool b=>some (b == want) | .tuple []=>some false | _=>none):=fun x=>by
    (cases x <;> try rfl);rename_i c n k;cases k <;> rfl
   exact (key _).trans (Eq.trans (by rw [ah]) (key _).symm)
  ·rfl
theorem oj (T:List I) (d:Option Nat) (v:I) (j:Nat):(put T d v)[j]?=if d=some j then (T[j]?).map fun _=>v else T[j]?:=by
 cases d with
 | none=>simp [put]
 | some d=>simp only [put,lr,Option.some.injEq]
def g_ (o:Oper) (an:bY) (w:Bool) (r:I) (j:Nat) (u:I):I :=
 if o.dst=some j then r else if w=false then u else if j∈c1 an.cz (opsOf o) then .a0 else if j∈tmpsOf (opsOf o) then u.settle else u
theorem yF {o:Oper} {mode:Nat} (h:calm o mode=true) (T:List I) (v:I):inPlace o mode T v=T:=by
 unfold inPlace;split
 ·rfl
 ·rfl
 ·rename_i hm _;split
  ·rename_i aC;simp [calm,aC] at h;exact absurd h hm
  ·rename_i aC;simp [calm,aC] at h;exact absurd h hm
  ·rfl
theorem Br {C:b6} {lo:Nat} {ops:Array Oper} {o:Oper} {an:bY} {s aD:a6} (pt:calm o an.mode=true) (h:ds P C lo ops o an s=some aD) :
  ∃ w r,ey ops o s.T=some w∧(∀ j,aD.T[j]?=(s.T[j]?).map (g_ o an w r j)) ∧
    (w=true→a3 P C lo o an.mode (fj (dB o an.mode) (rd s.T an.cz (opsOf o)).1) s.H=some (r,aD.H))∧(w=false→r=.tuple []∧aD.H=s.H):=by
 unfold ds at h;split at h
 ·rename_i hw;obtain ⟨r,H',aC,rfl⟩:=o_ h;refine ⟨true,r,hw,fun j=>?_,fun _=>aC,by simp⟩;rw [yF pt];simp only [oj,ka];cases s.T[j]? with
  | none=>split <;> rfl
  | some u=>by_cases a1:o.dst=some j <;> simp [g_,a1]
 ·rename_i hw;simp only [Option.some.injEq] at h;subst h;refine ⟨false,.tuple [],hw,fun j=>?_,by simp,fun _=>⟨rfl,rfl⟩⟩;simp only [oj];cases s.T[j]? with
  | none=>split <;> rfl
  | some u=>by_cases a1:o.dst=some j <;> simp [g_,a1]
 ·simp at h
theorem Bp {C:b6} {lo:Nat} {ops:Array Oper} {o:Oper} {an:bY} {s:a6} (pt:calm o an.mode=true) {w:Bool} {r:I} {H':List ar} (hw:ey ops o s.T=some w)
  (ab:w=true→a3 P C lo o an.mode (fj (dB o an.mode) (rd s.T an.cz (opsOf o)).1) s.H=some (r,H')) (ae:w=false→r=.tuple []∧H'=s.H) :
  ∃ bd,ds P C lo ops o an s=some ⟨bd,H'⟩∧∀ j,bd[j]?=(s.T[j]?).map (g_ o an w r j):=by
 cases w with
 | true =>
   refine ⟨put (inPlace o an.mode (rd s.T an.cz (opsOf o)).2 r) o.dst r,?_,fun j=>?_⟩
   ·have ab:=ab rfl;simp only [ds,hw,Ab.execOp];unfold fj at ab;cases ao:dB o an.mode <;> rw [ao] at ab <;> simp only at ab ⊢ <;> rw [ab] <;> rfl
   ·rw [yF pt];simp only [oj,ka];cases s.T[j]? with
    | none=>split <;> rfl
    | some u=>by_cases a1:o.dst=some j <;> simp [g_,a1]
 | false =>
   obtain ⟨rfl,rfl⟩:=ae rfl;refine ⟨put s.T o.dst (.tuple []),by simp only [ds,hw],fun j=>?_⟩;simp only [oj];cases s.T[j]? with
   | none=>split <;> rfl
   | some u=>by_cases a1:o.dst=some j <;> simp [g_,a1]
theorem D0 {t:TypeId} {H:List ar} {id c dR:Nat} {es es':List (Nat×I×I)} (aE:H[id]?=some (.map es c)) (a:I):dv P (H.set id (.map es' dR)) t a=dv P H t a:=by
 have ao:=(sd.1 aE).1;unfold dv;cases a with
 | ptr i off =>
   simp only;by_cases h:id=i
   ·subst h;rw [sm ao,aE]
   ·rw [sf h]
 | _=>rfl
theorem D1 {C:b6} {lo:Nat} {bw bJ:Oper} {c_:Nat} {us vs:List I} {aS bh:I} {H H2:List ar} (h:kZ bw 0 bJ=true) (ab:a3 P C lo bw 0 us H=some (aS,H)) (ae:a3 P C lo bJ c_ vs H=some (bh,H2)) :
  a3 P C lo bw 0 us H2=some (aS,H2):=by
 unfold kZ at h;split at h
 ·rename_i t x iB m k v hf dp;simp only [a3,hf] at ab ⊢;simp only [a3,dp] at ae;unfold dC at ab ⊢;split at ab
  ·rename_i a;simp only [sb,Prod.mk.injEq] at ab;obtain ⟨r,ab,rfl,-⟩:=ab;have key:∃ id c es dR es',H[id]?=some (.map es c)∧H2=H.set id (.map es' dR):=by
    unfold jb at ae;split at ae
    ·split at ae
     ·split at ae
      ·split at ae
       ·split at ae
        ·rename_i aE;split at ae
         ·cases ae;exact ⟨_,_,_,_,_,aE,rfl⟩
         ·cases ae;exact ⟨_,_,_,_,_,aE,rfl⟩
         ·simp at ae
        ·simp at ae
       ·simp at ae
      ·simp at ae
     ·simp at ae
    ·simp at ae
   obtain ⟨id,c,es,dR,es',aE,rfl⟩:=key;simp only;rw [D0 aE,ab];rfl
  ·simp at ab
 ·simp at h
theorem D2 {t:TypeId} {H:List ar} {i id:Nat} {o cw:ar} (bI:id≠i) (aE:H[id]?=some o) (off:Nat):dv P (H.set id cw) t (.ptr i off)=dv P H t (.ptr i off):=by
 unfold dv;simp only;rw [sf bI]
theorem D3 {C:b6} {lo:Nat} {bw bJ:Oper} {us vs:List I} {aS bh:I} {H H2:List ar} (h:k0 bw 13 bJ 13=true) (ab:a3 P C lo bw 13 us H=some (aS,H)) (ae:a3 P C lo bJ 13 vs H=some (bh,H2)) :
  a3 P C lo bw 13 us H2=some (aS,H2):=by
 unfold k0 at h;split at h
 ·rename_i t x iB aM nc hf dp;simp only [a3,hf] at ab ⊢;simp only [a3,dp] at ae;unfold dC at ab ⊢;split at ab
  ·rename_i a;simp only at ab ⊢;split at ab
   ·rename_i i off;split at ab
    ·rename_i l ao;split at ab
     ·rename_i aF;simp only [sb,Prod.mk.injEq] at ab;obtain ⟨r,ab,rfl,-⟩:=ab;have key:∃ id o cw,id≠i∧H[id]?=some o∧H2=H.set id cw:=by
       unfold gj at ae;split at ae
       ·simp only at ae;split at ae
        ·rename_i j G';split at ae
         ·rename_i l2 eC;split at ae
          ·cases ae
          ·rename_i bI;simp only [sb,Prod.mk.injEq] at ae;obtain ⟨hC,ae,-,rfl⟩:=ae;unfold g5 at ae;have gf:j≠i:=by
            rintro rfl;rw [ao] at eC;cases eC;exact bI aF
           split at ae
           ·rename_i e1 b9;cases e1;split at ae
            ·unfold gQ at ae;split at ae
             ·rw [eC] at ae;simp only [sb] at ae;obtain ⟨y,_,rfl⟩:=ae;exact ⟨j,_,_,gf,eC,rfl⟩
             ·cases ae
            ·cases ae
           ·cases ae
         ·cases ae
        ·cases ae
       ·cases ae
      obtain ⟨id,o,cw,bI,aE,rfl⟩:=key;rw [sf bI,ao];simp only;rw [if_pos aF,D2 bI aE,ab];rfl
     ·cases ab
    ·cases ab
   ·cases ab
  ·simp at ab
 ·simp at h
theorem Bo {C:b6} {lo:Nat} {ops:Array Oper} {bw bJ:Oper} {aA aG:bY} (hi:indep ops bw aA bJ aG=true) {s s1 s2:a6} (ab:ds P C lo ops bw aA s=some s1) (ae:ds P C lo ops bJ aG s1=some s2) :
  ∃ dh,ds P C lo ops bJ aG s=some dh∧ds P C lo ops bw aA dh=some s2:=by
 simp only [indep,sn] at hi;obtain ⟨⟨⟨⟨⟨⟨⟨d1,d2⟩,d3⟩,d4⟩,d5⟩,a7⟩,a9⟩,bD⟩:=hi;have e1:∀ t,bw.dst=some t→t ∉ e9 ops bJ:=fun t ax=>lV d1 t (by simp [ax]);have b9:∀ t,bJ.dst=some t→t ∉ e9 ops bw:=fun t ax=>lV d2 t (by simp [ax]);have dx:∀ t,bw.dst=some t→bJ.dst≠some t:=fun t ax h=>lV d3 t (by simp [ax]) (by simp [h]);have lX:=lV d4;have lY:=lV d5;have jm:∀ (xs:List Operand) (ts:List Bool) (t:Nat),t∈c1 ts xs→t∈tmpsOf xs:=by
  intro xs
  induction xs with
  | nil=>intro ts t h;simp [c1] at h
  | cons x rest a8 =>
    intro ts t h;cases x with
    | tmp u =>
      (have ax:tmpsOf (.tmp u::rest)=u::tmpsOf rest:=by simp [tmpsOf]);rw [ax];simp only [c1] at h;split at h
      ·rcases sB.1 h with rfl | h
       ·simp
       ·exact tV _ (a8 _ t h)
      ·exact tV _ (a8 _ t h)
    | const v=>simpa [tmpsOf] using a8 _ t (by simpa [c1] using h)
    | func f=>simpa [tmpsOf] using a8 _ t (by simpa [c1] using h)
    | global g=>simpa [tmpsOf] using a8 _ t (by simpa [c1] using h)
 obtain ⟨bH,aS,cc,t1,fx,v1⟩:=Br a7 ab;obtain ⟨bW,bh,b_,t2,gq,v2⟩:=Br a9 ae;have cB:∀ (o:Oper) (a:bY) (w:Bool) (r:I) (t:Nat),o.dst≠some t→t ∉ c1 a.cz (opsOf o)→∀ u,(g_ o a w r t u).settle=u.settle:=fun o a w r t a1 ax u=>by
  unfold g_;rw [if_neg a1];split
  ·rfl
  ·by_cases h:t∈tmpsOf (opsOf o) <;> simp only [h,if_true,if_false];exact yd u
 have stay:∀ (o:Oper) (a:bY) (w:Bool) (r:I) (t:Nat),o.dst≠some t→t ∉ tmpsOf (opsOf o)→∀ u,g_ o a w r t u=u:=fun o a w r t a1 ax u=>by
  unfold g_;rw [if_neg a1];split
  ·rfl
  ·have DN:t ∉ c1 a.cz (opsOf o):=fun h=>ax (jm _ _ t h);simp only [DN,if_false]
 have c9:∀ t∈e9 ops bJ,(s1.T[t]?).map I.settle=(s.T[t]?).map I.settle:=fun t ax=>by
  rw [t1];cases s.T[t]? with
  | none=>rfl
  | some u=>simp only [sg];rw [cB bw aA bH aS t (fun h=>e1 t h ax) (fun h=>lX t h ax)]
 have aJ:∀ t∈c1 aG.cz (opsOf bJ),s1.T[t]?=s.T[t]?:=fun t ax=>by
  rw [t1];have aI:bw.dst≠some t:=fun h=>e1 t h (by simp [e9,jm _ _ t ax]);have pQ:t ∉ tmpsOf (opsOf bw):=fun h=>lY t ax (by simp [e9,h]);cases s.T[t]? with
  | none=>rfl
  | some u=>simp only [sg];rw [stay bw aA bH aS t aI pQ]
 have Cy:ey ops bJ s.T=some bW:=by rw [←b_];exact (Bz fun t ax=>c9 t (by simp [e9,ax])).symm
 have dd:(rd s1.T aG.cz (opsOf bJ)).1=(rd s.T aG.cz (opsOf bJ)).1:=j' _ _ _ _ (fun t ax=>c9 t (by simp [e9,ax])) aJ;have Ap:∀ {o:Oper} {a:bY} {us:List I} {r:I} {H H':List ar},dm o a.mode=1∨dm o a.mode=3→a3 P C lo o a.mode us H=some (r,H')→H'=H:=fun ak aC=>by
  rcases ak with ak | ak
  ·exact (jC ak aC).1
  ·exact Cf ak aC
 have al:dm bw aA.mode=0∨dm bJ aG.mode=0∨((dm bw aA.mode=1∨dm bw aA.mode=3)∧(dm bJ aG.mode=1∨dm bJ aG.mode=3)) ∨
   (dm bw aA.mode=1∧dm bJ aG.mode=5)∨(dm bw aA.mode=5∧dm bJ aG.mode=1)∨(dm bw aA.mode=1∧dm bJ aG.mode=6)∨(aA.mode=0∧kZ bw 0 bJ=true)∨(aA.mode=13∧aG.mode=13∧k0 bw 13 bJ 13=true):=by
  rw [tC,tC] at bD;rcases bD with (bD | bD) | bD
  rotate_left 2
  ·refine .inr (.inr (.inr (.inr (.inr (.inr (.inr ?_))))));have aQ:aA.mode=13∧aG.mode=13:=by
    unfold k0 at bD;split at bD
    ·simpa using bD
    ·simp at bD
   rw [aQ.1,aQ.2] at bD;exact ⟨aQ.1,aQ.2,bD⟩
  rotate_left
  ·refine .inr (.inr (.inr (.inr (.inr (.inr (.inl ?_))))));have aQ:aA.mode=0:=by
    unfold kZ at bD;split at bD
    ·simpa using bD
    ·simp at bD
   rw [aQ] at bD;exact ⟨aQ,bD⟩
  simp only [bS,tC,sn,beq_iff_eq] at bD;rcases bD with ((((h | h) | h) | h) | h) | h
  ·exact .inl h
  ·exact .inr (.inl h)
  ·exact .inr (.inr (.inl h))
  ·exact .inr (.inr (.inr (.inl h)))
  ·exact .inr (.inr (.inr (.inr (.inl h))))
  ·exact .inr (.inr (.inr (.inr (.inr (.inl h)))))
 have mem:∃ hC,(bW=true→a3 P C lo bJ aG.mode (fj (dB bJ aG.mode) (rd s.T aG.cz (opsOf bJ)).1) s.H=some (bh,hC))∧(bW=false→bh=.tuple []∧hC=s.H) ∧
   (bH=true→∀ vs,a3 P C lo bw aA.mode vs s.H=some (aS,s1.H)→a3 P C lo bw aA.mode vs hC=some (aS,s2.H))∧(bH=false→s2.H=hC):=by
  cases bW with
  | false =>
    obtain ⟨q1,aW⟩:=v2 rfl;refine ⟨s.H,by simp,fun _=>⟨q1,rfl⟩,fun _ vs h=>by rw [aW];exact h,fun hw=>by rw [aW];exact (v1 hw).2⟩
  | true =>
    have dp:=gq rfl;rw [dd] at dp;cases bH with
    | false =>
      have q:=(v1 rfl).2;rw [q] at dp;exact ⟨s2.H,fun _=>dp,by simp,by simp,fun _=>rfl⟩
    | true =>
      have hf:=fx rfl;rcases al with h | h | ⟨h,aX⟩ | ⟨h,aX⟩ | ⟨h,aX⟩ | ⟨h,aX⟩ | ⟨h,aX⟩ | ⟨h,af,aX⟩
      ·have q:=(nu h hf).1;rw [q] at dp;exact ⟨s2.H,fun _=>dp,by simp,fun _ vs bD=>(nu h bD).2 s2.H,by simp⟩
      ·have q:=(nu h dp).1;refine ⟨s.H,fun _=>(nu h dp).2 s.H,by simp,fun _ vs bD=>by rw [q];exact bD,by simp⟩
      ·have q1:=Ap h hf;have aW:=Ap aX dp;rw [aW,q1] at dp;exact ⟨s.H,fun _=>dp,by simp,fun _ vs bD=>by rw [aW];exact bD,by simp⟩
      ·have q1:=(jC h hf).1;rw [q1] at dp;exact ⟨s2.H,fun _=>dp,by simp,fun _ vs bD=>(jC h bD).2 s2.H (yH aX dp).1,by simp⟩
      ·obtain ⟨aW,cC⟩:=jC aX dp;exact ⟨s.H,fun _=>cC s.H (yH h hf).2,by simp,fun _ vs bD=>by rw [aW];exact bD,by simp⟩
      ·have q1:=(jC h hf).1;rw [q1] at dp;exact ⟨s2.H,fun _=>dp,by simp,fun _ vs bD=>(jC h bD).2 s2.H (Cg aX dp),by simp⟩
      ·have q1:s1.H=s.H:=by
        have ak:dm bw aA.mode=1:=by
         unfold kZ at aX;split at aX
         ·rename_i aC _;simp only [dm,aC,h];rfl
         ·simp at aX
        exact (jC ak hf).1
       rw [q1] at dp;refine ⟨s2.H,fun _=>dp,by simp,fun _ vs bD=>?_,by simp⟩;rw [q1] at bD;rw [h] at bD ⊢;exact D1 aX bD dp
      ·have q1:s1.H=s.H:=by
        have fJ:=hf;rw [h] at fJ;unfold k0 at aX;split at aX
        ·rename_i aC _;simp only [a3,aC] at fJ;unfold dC at fJ;split at fJ
         ·simp only at fJ;split at fJ
          ·split at fJ
           ·split at fJ
            ·simp only [sb,Prod.mk.injEq] at fJ;obtain ⟨_,_,_,a_⟩:=fJ;exact a_.symm
            ·cases fJ
           ·cases fJ
          ·cases fJ
         ·cases fJ
        ·simp at aX
       rw [q1] at dp;refine ⟨s2.H,fun _=>dp,by simp,fun _ vs bD=>?_,by simp⟩;rw [q1] at bD;rw [h] at bD ⊢;rw [af] at dp;exact D3 aX bD dp
 obtain ⟨hC,bl,cr,eY,lN⟩:=mem;obtain ⟨dE,DG,po⟩:=Bp (C:=C) (lo:=lo) (s:=s) a9 Cy bl cr;have c_:∀ t∈e9 ops bw,(dE[t]?).map I.settle=(s.T[t]?).map I.settle:=fun t ax=>by
  rw [po];cases s.T[t]? with
  | none=>rfl
  | some u=>simp only [sg];rw [cB bJ aG bW bh t (fun h=>b9 t h ax) (fun h=>lY t h ax)]
 have aN:∀ t∈c1 aA.cz (opsOf bw),dE[t]?=s.T[t]?:=fun t ax=>by
  rw [po];have aI:bJ.dst≠some t:=fun h=>b9 t h (by simp [e9,jm _ _ t ax]);have pQ:t ∉ tmpsOf (opsOf bJ):=fun h=>lX t ax (by simp [e9,h]);cases s.T[t]? with
  | none=>rfl
  | some u=>simp only [sg];rw [stay bJ aG bW bh t aI pQ]
 have Cx:ey ops bw dE=some bH:=by rw [←cc];exact Bz fun t ax=>c_ t (by simp [e9,ax])
 have dV:(rd dE aA.cz (opsOf bw)).1=(rd s.T aA.cz (opsOf bw)).1:=j' _ _ _ _ (fun t ax=>c_ t (by simp [e9,ax])) aN
 obtain ⟨BM,DH,CH⟩:=Bp (C:=C) (lo:=lo) (s:=⟨dE,hC⟩) (r:=aS) (H':=s2.H) a7 Cx (fun hw=>by
  simp only;rw [dV];exact eY hw _ (fx hw)) (fun hw=>⟨(v1 hw).1,lN hw⟩)
 refine ⟨⟨dE,hC⟩,DG,?_⟩;rw [DH];congr 1
 have:BM=s2.T:=by
  apply uA;intro j;rw [CH,t2];simp only [po,t1];cases s.T[j]? with
  | none=>rfl
  | some u =>
    simp only [sg,Option.some.injEq];unfold g_;have GD:=dx j;have lB:=e1 j;have lC:=b9 j;have BG:=lX j;have BH:=lY j;have yq:=jm (opsOf bw) aA.cz j;have oS:=jm (opsOf bJ) aG.cz j;simp only [e9,List.mem_append,not_or] at lB lC BG BH;by_cases bT:bw.dst=some j
    ·have q:=(lB bT).2;have fT:j ∉ c1 aG.cz (opsOf bJ):=fun h=>q (oS h);simp only [bT,if_true,GD bT,if_false,q,fT];split <;> rfl
    ·by_cases b0:bJ.dst=some j
     ·have q:=(lC b0).2;have fT:j ∉ c1 aA.cz (opsOf bw):=fun h=>q (yq h);simp only [bT,b0,if_true,if_false,q,fT];split <;> rfl
     ·simp only [bT,b0,if_false];by_cases oN:j∈c1 aA.cz (opsOf bw)
      ·have q:=(BG oN).2;have fT:j ∉ c1 aG.cz (opsOf bJ):=fun h=>q (oS h);simp only [oN,q,fT,if_true,if_false];split <;> split <;> rfl
      ·by_cases yi:j∈c1 aG.cz (opsOf bJ)
       ·have q:=(BH yi).2;simp only [oN,yi,q,if_true,if_false];split <;> split <;> rfl
       ·simp only [oN,yi,if_false];by_cases Fu:j∈tmpsOf (opsOf bw) <;> by_cases Fv:j∈tmpsOf (opsOf bJ) <;> simp only [Fu,Fv,if_true,if_false] <;> split <;> split <;> first | rfl | rw [yd]
 rw [this]
end
end Go.Proofs.Ytkoioidpbbbaiaa.Ab
